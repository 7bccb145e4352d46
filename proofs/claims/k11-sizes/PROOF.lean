import PyProof.Rows.All
import Wide.All
import OpenK.AllK
import Wide.FinOn
import HandS.ForMost
import HandS.Exc
import HandS.TryOnly
import HandS.ExcOwn
import HandS.WordsExc
import HandS.IsInst
import HandS.Zip
import HandS.TupAny
import HandS.TupMul
import HandS.ExcSuper
import KE.KExcSuper
import KE.KSuper
import HandS.ExcIs
import HandS.Deep
import PyProof.StrOps2
import HandS.OwnIter
import KE.KDictZip
import HandS.Ends
import PyProof.StrLaws
import PySem.Challenge.RW_whatevertext_k11_sizes
set_option Elab.async false
set_option linter.all false
set_option maxRecDepth 100000
set_option maxHeartbeats 4000000
namespace DL
open PySem L2

inductive D where
  | non | bl (b : Bool) | int (i : Int) | str (s : Str) | tup (ds : List D) | lst (ds : List D) | dct (ks : List Key) (ds : List D) | scr (ns : List Int)
  deriving Inhabited

mutual
inductive Rep (K : PySem.W.Frag) (B : Hp) : V → D → Prop
  | non : Rep K B .non .non
  | bl (b : Bool) : Rep K B (.bl b) (.bl b)
  | int (i : Int) : Rep K B (.int i) (.int i)
  | str (s : Str) : Rep K B (.str s) (.str s)
  | tup {a : Addr} {vs : List V} {ds : List D} (h : SqT K B a vs) (r : Reps K B vs ds) : Rep K B (.ref a) (.tup ds)
  | lst {a : Addr} {vs : List V} {ds : List D} (h : B a = some (.lst vs)) (r : Reps K B vs ds) : Rep K B (.ref a) (.lst ds)
  | scr {a : Addr} {ns : List Int} (h : SqL K B a (ns.map V.int)) : Rep K B (.ref a) (.scr ns)
inductive Reps (K : PySem.W.Frag) (B : Hp) : List V → List D → Prop
  | nil : Reps K B [] []
  | cons {v : V} {d : D} {vs : List V} {ds : List D} (h : Rep K B v d) (r : Reps K B vs ds) : Reps K B (v :: vs) (d :: ds)
end
theorem sameT {K : PySem.W.Frag} {H H' : Hp} {a : Addr} {xs : List V} (e : Same H H') (h : SqT K H a xs) : SqT K H' a xs := by
  rcases h with (h | ⟨o, h⟩) | h
  · exact .inl (.inl (e _ _ h))
  · exact .inl (.inr ⟨o, e _ _ h⟩)
  · exact .inr h
mutual
theorem Rep.mono {K : PySem.W.Frag} {B B' : Hp} (e : Same B B') : ∀ {v : V} {d : D}, Rep K B v d → Rep K B' v d
  | _, _, .non => .non
  | _, _, .bl b => .bl b
  | _, _, .int i => .int i
  | _, _, .str s => .str s
  | _, _, .tup h r => .tup (sameT e h) (Reps.mono e r)
  | _, _, .lst h r => .lst (e _ _ h) (Reps.mono e r)
  | _, _, .scr h => .scr (e.seq h)
theorem Reps.mono {K : PySem.W.Frag} {B B' : Hp} (e : Same B B') : ∀ {vs : List V} {ds : List D}, Reps K B vs ds → Reps K B' vs ds
  | _, _, .nil => .nil
  | _, _, .cons h r => .cons (Rep.mono e h) (Reps.mono e r)
end
section
variable {K : PySem.W.Frag} {B B' H H' R : Hp} {vs ws : List V} {ds es : List D} {v : V} {d : D}
theorem Reps.length : ∀ {vs : List V} {ds : List D}, Reps K B vs ds → vs.length = ds.length
  | _, _, .nil => rfl
  | _, _, .cons _ r => by rw [List.length_cons, List.length_cons, Reps.length r]
theorem Reps.append : ∀ {vs : List V} {ds : List D}, Reps K B vs ds → Reps K B ws es → Reps K B (vs ++ ws) (ds ++ es)
  | _, _, .nil, h => h
  | _, _, .cons h r, q => .cons h (Reps.append r q)
theorem Reps.get : ∀ {vs : List V} {ds : List D} {i : Nat} {d : D}, Reps K B vs ds → ds[i]? = some d → ∃ v, vs[i]? = some v ∧ Rep K B v d
  | _, _, _, _, .nil, e => by simp at e
  | _, _, 0, _, .cons h _, e => by simp at e; subst e; exact ⟨_, rfl, h⟩
  | _, _, i + 1, d, .cons _ r, e => by
    obtain ⟨v, h1, h2⟩ := Reps.get (i := i) (d := d) r (by simpa using e)
    exact ⟨v, by simpa using h1, h2⟩
theorem Reps.take : ∀ {vs : List V} {ds : List D} (n : Nat), Reps K B vs ds → Reps K B (vs.take n) (ds.take n)
  | _, _, 0, _ => .nil
  | _, _, n + 1, .nil => .nil
  | _, _, n + 1, .cons h r => .cons h (Reps.take n r)
theorem Reps.drop : ∀ {vs : List V} {ds : List D} (n : Nat), Reps K B vs ds → Reps K B (vs.drop n) (ds.drop n)
  | _, _, 0, r => r
  | _, _, n + 1, .nil => .nil
  | _, _, n + 1, .cons h r => Reps.drop n r
theorem Reps.set {v : V} {d : D} (h : Rep K B v d) : ∀ {vs : List V} {ds : List D} (n : Nat), Reps K B vs ds → Reps K B (vs.set n v) (ds.set n d)
  | _, _, _, .nil => .nil
  | _, _, 0, .cons _ r => .cons h r
  | _, _, n + 1, .cons q r => .cons q (Reps.set h n r)
theorem Reps.snoc (r : Reps K B vs ds) (h : Rep K B v d) : Reps K B (vs ++ [v]) (ds ++ [d]) := r.append (.cons h .nil)
theorem Reps.dropLast : ∀ {vs : List V} {ds : List D}, Reps K B vs ds → Reps K B vs.dropLast ds.dropLast
  | _, _, .nil => .nil
  | _, _, .cons h .nil => .nil
  | _, _, .cons h (.cons h2 r) => by
    have := Reps.dropLast (.cons h2 r)
    simpa [List.dropLast] using Reps.cons h this
theorem Reps.reverse (r : Reps K B vs ds) : Reps K B vs.reverse ds.reverse := by
  induction vs generalizing ds with
  | nil => cases r; exact .nil
  | cons v vs ih =>
    cases r with
    | cons h r =>
      rw [List.reverse_cons, List.reverse_cons]
      exact (ih r).snoc h
theorem Reps.eraseIdx : ∀ {vs : List V} {ds : List D} (n : Nat), Reps K B vs ds → Reps K B (vs.eraseIdx n) (ds.eraseIdx n)
  | _, _, _, .nil => .nil
  | _, _, 0, .cons _ r => r
  | _, _, n + 1, .cons q r => .cons q (Reps.eraseIdx n r)
theorem Reps.rep (r : Reps K B vs ds) : ∀ k : Nat, Reps K B (List.replicate k vs).flatten (List.replicate k ds).flatten
  | 0 => .nil
  | k + 1 => by
    rw [List.replicate_succ, List.replicate_succ, List.flatten_cons, List.flatten_cons]
    exact r.append (Reps.rep r k)
end

/-! ## shapes: what a slot holds -/
inductive LS where
  | pu | ls
  deriving DecidableEq
inductive Sh where
  | lf (l : LS) | rc (ls : List LS)
  deriving DecidableEq
abbrev Sh.pu : Sh := .lf .pu
abbrev Sh.ls : Sh := .lf .ls
def OwnL (K : PySem.W.Frag) (B H : Hp) : LS → V → D → List Addr → Prop
  | .pu, v, d, f => Rep K B v d ∧ f = []
  | .ls, v, d, f => ∃ p vs ds, v = .ref p ∧ d = .lst ds ∧ f = [p] ∧ H p = some (.lst vs) ∧ Reps K B vs ds
inductive OwnLs (K : PySem.W.Frag) (B H : Hp) : List LS → List V → List D → List Addr → Prop
  | nil : OwnLs K B H [] [] [] []
  | cons {l : LS} {ls : List LS} {v : V} {vs : List V} {d : D} {ds : List D} {f fs : List Addr} (h : OwnL K B H l v d f) (r : OwnLs K B H ls vs ds fs) : OwnLs K B H (l :: ls) (v :: vs) (d :: ds) (f ++ fs)
def Own (K : PySem.W.Frag) (B H : Hp) : Sh → V → D → List Addr → Prop
  | .lf l, v, d, f => OwnL K B H l v d f
  | .rc ls, v, d, f => ∃ p vs ds fs, v = .ref p ∧ d = .lst ds ∧ f = p :: fs ∧ H p = some (.lst vs) ∧ OwnLs K B H ls vs ds fs

abbrev Env := List (Option D)
def isS (ρ : Env) (i : Nat) : Prop := ∃ d, ρ[i]? = some (some d)
/-- the footprints: what each slot owns -/
structure Feet (K : PySem.W.Frag) (Γ : List Sh) (B R H : Hp) (σ : L2.St) (ρ : Env) (F : Nat → List Addr) : Prop where
  at_ : ∀ i d s, ρ[i]? = some (some d) → Γ[i]? = some s → ∃ v, σ[i]? = some (some v) ∧ Own K B H s v d (F i)
  no : ∀ i p, p ∈ F i → H p ≠ none ∧ B p = none ∧ R p = none
  nd : ∀ i, (F i).Nodup
  dj : ∀ i j p, p ∈ F i → p ∈ F j → i = j
structure Ok (K : PySem.W.Frag) (Γ : List Sh) (B R H : Hp) (σ : L2.St) (ρ : Env) : Prop where
  sb : Same B H
  sr : Same R H
  lσ : σ.length = Γ.length
  lρ : ρ.length = Γ.length
  br : ∀ p o, R p = some o → B p = none
  own : ∃ F : Nat → List Addr, Feet K Γ B R H σ ρ F
section
variable {K : PySem.W.Frag} {Γ : List Sh} {B B' R H H' : Hp} {σ : L2.St} {ρ : Env} {s : Sh} {v : V} {d : D} {f : List Addr} {i : Nat}
theorem OwnL.mono (sb : Same B B') (sh : Same H H') : ∀ {l : LS} {v : V} {d : D} {f : List Addr}, OwnL K B H l v d f → OwnL K B' H' l v d f
  | .pu, _, _, _, ⟨r, e⟩ => ⟨r.mono sb, e⟩
  | .ls, _, _, _, ⟨p, vs, ds, e1, e2, e3, h, r⟩ => ⟨p, vs, ds, e1, e2, e3, sh _ _ h, r.mono sb⟩
theorem OwnLs.mono (sb : Same B B') (sh : Same H H') {ls : List LS} {vs : List V} {ds : List D} {fs : List Addr} (h : OwnLs K B H ls vs ds fs) : OwnLs K B' H' ls vs ds fs := by
  induction h with
  | nil => exact .nil
  | cons h _ ih => exact .cons (h.mono sb sh) ih
theorem Own.mono (sb : Same B B') (sh : Same H H') : ∀ {s : Sh} {v : V} {d : D} {f : List Addr}, Own K B H s v d f → Own K B' H' s v d f
  | .lf _, _, _, _, h => OwnL.mono sb sh h
  | .rc _, _, _, _, ⟨p, vs, ds, fs, e1, e2, e3, h, r⟩ => ⟨p, vs, ds, fs, e1, e2, e3, sh _ _ h, r.mono sb sh⟩
/-- what owned things stand on: only their feet and the frozen part -/
theorem OwnL.at (sb : Same B B') : ∀ {l : LS} {v : V} {d : D} {f : List Addr}, OwnL K B H l v d f → (∀ p ∈ f, ∀ o, H p = some o → H' p = some o) → OwnL K B' H' l v d f
  | .pu, _, _, _, ⟨r, e⟩, _ => ⟨r.mono sb, e⟩
  | .ls, _, _, _, ⟨p, vs, ds, e1, e2, e3, h, r⟩, k => ⟨p, vs, ds, e1, e2, e3, k p (by rw [e3]; exact List.mem_cons_self) _ h, r.mono sb⟩
theorem OwnLs.at (sb : Same B B') {ls : List LS} {vs : List V} {ds : List D} {fs : List Addr} (h : OwnLs K B H ls vs ds fs) : (∀ p ∈ fs, ∀ o, H p = some o → H' p = some o) → OwnLs K B' H' ls vs ds fs := by
  induction h with
  | nil => exact fun _ => .nil
  | cons h _ ih => exact fun k => .cons (h.at sb fun p hp => k p (List.mem_append_left _ hp)) (ih fun p hp => k p (List.mem_append_right _ hp))
theorem Own.at (sb : Same B B') : ∀ {s : Sh} {v : V} {d : D} {f : List Addr}, Own K B H s v d f → (∀ p ∈ f, ∀ o, H p = some o → H' p = some o) → Own K B' H' s v d f
  | .lf _, _, _, _, h, k => OwnL.at sb h k
  | .rc _, _, _, _, ⟨p, vs, ds, fs, e1, e2, e3, h, r⟩, k => ⟨p, vs, ds, fs, e1, e2, e3, k p (by rw [e3]; exact List.mem_cons_self) _ h, r.at sb fun q hq => k q (by rw [e3]; exact List.mem_cons_of_mem _ hq)⟩
theorem Ok.get (O : Ok K Γ B R H σ ρ) (h : ρ[i]? = some (some d)) (hs : Γ[i]? = some .pu) : ∃ v, σ[i]? = some (some v) ∧ Rep K B v d := by
  obtain ⟨F, O⟩ := O.own
  obtain ⟨v, h1, h2, _⟩ := O.at_ i d _ h hs
  exact ⟨v, h1, h2⟩
/-- the heap grows, what is new may be frozen -/
theorem Ok.grow (O : Ok K Γ B R H σ ρ) (sb : Same B B') (sh : Same H H') (sbh : Same B' H') (nw : ∀ a o, B' a = some o → B a = some o ∨ H a = none) : Ok K Γ B' R H' σ ρ := by
  obtain ⟨F, W⟩ := O.own
  refine ⟨sbh, O.sr.trans sh, O.lσ, O.lρ, fun p o e => ?_, F, ⟨fun i d s h hs => ?_, fun i p hp => ?_, W.nd, W.dj⟩⟩
  · cases e2 : B' p with
    | none => rfl
    | some u =>
      rcases nw p u e2 with z | z
      · rw [O.br p o e] at z; cases z
      · rw [O.sr p o e] at z; cases z
  · obtain ⟨v, h1, h2⟩ := W.at_ i d s h hs
    exact ⟨v, h1, h2.mono sb sh⟩
  · obtain ⟨h1, h2, h3⟩ := W.no i p hp
    refine ⟨?_, ?_, h3⟩
    · intro z
      cases e : H p with
      | none => exact h1 e
      | some o => rw [sh p o e] at z; cases z
    · cases e : B' p with
      | none => rfl
      | some o =>
        rcases nw p o e with z | z
        · rw [h2] at z; cases z
        · exact absurd z h1
theorem Ok.heap (O : Ok K Γ B R H σ ρ) (sh : Same H H') : Ok K Γ B R H' σ ρ := O.grow (Same.refl _) sh (O.sb.trans sh) fun _ _ h => .inl h
theorem same_upd {p : Addr} {o : HO} (h : H p = none) : Same H (upd H p o) := fun a u e => by rw [upd_ne (ne_of_none e h)]; exact e
/-- a new object is laid and frozen -/
theorem Ok.lay (O : Ok K Γ B R H σ ρ) {p : Addr} {o : HO} (h : H p = none) : Same B (upd B p o) ∧ Ok K Γ (upd B p o) R (upd H p o) σ ρ := by
  have hb : B p = none := O.sb.free h
  refine ⟨same_upd hb, O.grow (same_upd hb) (same_upd h) (fun a u e => ?_) fun a u e => ?_⟩
  · by_cases q : a = p
    · subst q; rw [upd_same] at e ⊢; exact e
    · rw [upd_ne q] at e ⊢; exact O.sb _ _ e
  · by_cases q : a = p
    · subst q; exact .inr h
    · rw [upd_ne q] at e; exact .inl e
theorem Ok.pushP (O : Ok K Γ B R H σ ρ) (r : Rep K B v d) : Ok K (.pu :: Γ) B R H (some v :: σ) (some d :: ρ) := by
  obtain ⟨F, W⟩ := O.own
  refine ⟨O.sb, O.sr, by simp [O.lσ], by simp [O.lρ], O.br, fun j => match j with | 0 => [] | j + 1 => F j, ⟨fun j e s h hs => ?_, fun j p hp => ?_, fun j => ?_, fun j k p h1 h2 => ?_⟩⟩
  · cases j with
    | zero => simp at h hs; subst h hs; exact ⟨v, rfl, r, rfl⟩
    | succ j => exact W.at_ j e s (by simpa using h) (by simpa using hs)
  · cases j with
    | zero => exact absurd hp (by simp)
    | succ j => exact W.no j p hp
  · cases j with
    | zero => exact List.nodup_nil
    | succ j => exact W.nd j
  · cases j with
    | zero => exact absurd h1 (by simp)
    | succ j =>
      cases k with
      | zero => exact absurd h2 (by simp)
      | succ k => rw [W.dj j k p h1 h2]
theorem Feet.heap {F : Nat → List Addr} (W : Feet K Γ B R H σ ρ F) (sh : Same H H') : Feet K Γ B R H' σ ρ F :=
  ⟨fun i d s h hs => let ⟨v, h1, h2⟩ := W.at_ i d s h hs; ⟨v, h1, h2.mono (Same.refl _) sh⟩, fun i p hp => by
    obtain ⟨h1, h2, h3⟩ := W.no i p hp
    refine ⟨fun z => ?_, h2, h3⟩
    cases e : H p with
    | none => exact h1 e
    | some o => (rw [sh p o e] at z; cases z), W.nd, W.dj⟩
theorem Ok.pushO (br : ∀ p o, R p = some o → B p = none) (sb : Same B H) (sr : Same R H) (lσ : σ.length = Γ.length) (lρ : ρ.length = Γ.length) {F : Nat → List Addr} (W : Feet K Γ B R H σ ρ F) (r : Own K B H s v d f) (nd : f.Nodup)
    (hf : ∀ p ∈ f, H p ≠ none ∧ B p = none ∧ R p = none ∧ ∀ i, p ∉ F i) : Ok K (s :: Γ) B R H (some v :: σ) (some d :: ρ) := by
  refine ⟨sb, sr, by simp [lσ], by simp [lρ], br, fun j => match j with | 0 => f | j + 1 => F j, ⟨fun j e s h hs => ?_, fun j p hp => ?_, fun j => ?_, fun j k p h1 h2 => ?_⟩⟩
  · cases j with
    | zero => simp at h hs; subst h hs; exact ⟨v, rfl, r⟩
    | succ j => exact W.at_ j e s (by simpa using h) (by simpa using hs)
  · cases j with
    | zero => obtain ⟨a, b, c, _⟩ := hf p hp; exact ⟨a, b, c⟩
    | succ j => exact W.no j p hp
  · cases j with
    | zero => exact nd
    | succ j => exact W.nd j
  · cases j with
    | zero =>
      cases k with
      | zero => rfl
      | succ k => exact absurd h2 ((hf p h1).2.2.2 k)
    | succ j =>
      cases k with
      | zero => exact absurd h1 ((hf p h2).2.2.2 j)
      | succ k => rw [W.dj j k p h1 h2]
/-- a new list, owned -/
theorem Ok.pushN (O : Ok K Γ B R H σ ρ) {p : Addr} {vs : List V} {ds : List D} (h : H p = none) (r : Reps K B vs ds) : Ok K (.ls :: Γ) B R (upd H p (.lst vs)) (some (.ref p) :: σ) (some (.lst ds) :: ρ) := by
  have sh := same_upd (o := .lst vs) h
  obtain ⟨F, W⟩ := O.own
  refine Ok.pushO (f := [p]) O.br (O.sb.trans sh) (O.sr.trans sh) O.lσ O.lρ (W.heap sh) ⟨p, vs, ds, rfl, rfl, rfl, upd_same, r⟩ (by simp) fun q hq => ?_
  have e : q = p := by simpa using hq
  subst e
  exact ⟨by rw [upd_same]; simp, O.sb.free h, O.sr.free h, fun i hi => (W.no i q hi).1 h⟩
theorem Ok.pop {x : Option V} {y : Option D} (O : Ok K (s :: Γ) B R H (x :: σ) (y :: ρ)) : Ok K Γ B R H σ ρ := by
  obtain ⟨F, W⟩ := O.own
  refine ⟨O.sb, O.sr, by simpa using O.lσ, by simpa using O.lρ, O.br, fun j => F (j + 1), ⟨fun j e s h hs => W.at_ (j + 1) e s (by simpa using h) (by simpa using hs), fun j p hp => W.no (j + 1) p hp, fun j => W.nd (j + 1), fun j k p h1 h2 => ?_⟩⟩
  have := W.dj (j + 1) (k + 1) p h1 h2
  omega

/-- the value on the top goes into slot i -/
theorem Ok.store (O : Ok K (s :: Γ) B R H (some v :: σ) (some d :: ρ)) (i : Nat) : Ok K (Γ.set i s) B R H (σ.set i (some v)) (ρ.set i (some d)) := by
  obtain ⟨F, W⟩ := O.own
  have l1 : σ.length = Γ.length := by simpa using O.lσ
  have l2 : ρ.length = Γ.length := by simpa using O.lρ
  refine ⟨O.sb, O.sr, by simp [l1], by simp [l2], O.br, fun j => if j = i then F 0 else F (j + 1), ⟨fun j e s' h hs => ?_, fun j p hp => ?_, fun j => ?_, fun j k p h1 h2 => ?_⟩⟩
  · by_cases hj : j = i
    · subst hj
      have hl : j < ρ.length := by have := (List.getElem?_eq_some_iff.mp h).1; simpa using this
      rw [List.getElem?_set_self hl] at h
      rw [List.getElem?_set_self (by omega)] at hs
      cases h; cases hs
      obtain ⟨v', h1, h2⟩ := W.at_ 0 d s rfl rfl
      cases h1
      exact ⟨v, List.getElem?_set_self (by omega), by simpa using h2⟩
    · rw [List.getElem?_set_ne (Ne.symm hj)] at h hs ⊢
      simp only [hj, if_false]
      exact W.at_ (j + 1) e s' (by simpa using h) (by simpa using hs)
  · split at hp
    · exact W.no _ p hp
    · exact W.no _ p hp
  · split
    · exact W.nd _
    · exact W.nd _
  · split at h1 <;> split at h2
    · omega
    · have := W.dj _ _ p h1 h2; omega
    · have := W.dj _ _ p h1 h2; omega
    · have := W.dj _ _ p h1 h2; omega
/-- slots forgotten -/
theorem Ok.drop (O : Ok K Γ B R H σ ρ) {σ' : L2.St} {ρ' : Env} (l1 : σ'.length = σ.length) (l2 : ρ'.length = ρ.length) (h1 : ∀ (i : Nat) (d : D), ρ'[i]? = some (some d) → ρ[i]? = some (some d) ∧ σ'[i]? = σ[i]?) : Ok K Γ B R H σ' ρ' := by
  obtain ⟨F, W⟩ := O.own
  refine ⟨O.sb, O.sr, l1.trans O.lσ, l2.trans O.lρ, O.br, F, ⟨fun i d s h hs => ?_, W.no, W.nd, W.dj⟩⟩
  obtain ⟨h2, h3⟩ := h1 i d h
  rw [h3]
  exact W.at_ i d s h2 hs
/-- the shape of a slot that holds nothing -/
theorem Ok.reshape (O : Ok K Γ B R H σ ρ) {Γ' : List Sh} (l : Γ'.length = Γ.length) (h : ∀ (i : Nat) (d : D), ρ[i]? = some (some d) → Γ'[i]? = Γ[i]?) : Ok K Γ' B R H σ ρ := by
  obtain ⟨F, W⟩ := O.own
  refine ⟨O.sb, O.sr, O.lσ.trans l.symm, O.lρ.trans l.symm, O.br, F, ⟨fun i d s h1 hs => ?_, W.no, W.nd, W.dj⟩⟩
  exact W.at_ i d s h1 (by rw [← h i d h1]; exact hs)
/-- the list that slot i owns is written -/
theorem Ok.write (O : Ok K Γ B R H σ ρ) {p : Addr} {ds' : List D} {vs' : List V} (h : ρ[i]? = some (some d)) (hs : Γ[i]? = some .ls) (hv : σ[i]? = some (some (.ref p))) (r : Reps K B vs' ds') :
    Ok K Γ B R (upd H p (.lst vs')) σ (ρ.set i (some (.lst ds'))) := by
  obtain ⟨F, W⟩ := O.own
  obtain ⟨v, h1, q, vs, ds, e1, e2, e3, h4, h5⟩ := W.at_ i d _ h hs
  rw [hv] at h1; cases h1; cases e1
  have hp : p ∈ F i := by rw [e3]; exact List.mem_cons_self
  obtain ⟨n1, n2, n3⟩ := W.no i p hp
  have keep : ∀ {G : Hp}, Same G H → G p = none → Same G (upd H p (.lst vs')) := fun sg z a o e => by
    rw [upd_ne (fun q => by subst q; rw [z] at e; cases e)]; exact sg a o e
  refine ⟨keep O.sb n2, keep O.sr n3, O.lσ, by simp [O.lρ], O.br, F, ⟨fun j e s h hs => ?_, fun j q hq => ?_, W.nd, W.dj⟩⟩
  · by_cases hj : j = i
    · subst hj
      have hl : j < ρ.length := by have := (List.getElem?_eq_some_iff.mp h).1; simpa using this
      rw [List.getElem?_set_self hl] at h
      cases h
      rename_i hs0
      rw [hs0] at hs; cases hs
      exact ⟨_, hv, p, vs', ds', rfl, rfl, e3, upd_same, r⟩
    · rw [List.getElem?_set_ne (Ne.symm hj)] at h
      obtain ⟨v, h1, h2⟩ := W.at_ j e s h hs
      refine ⟨v, h1, h2.at (Same.refl _) fun q hq o ho => ?_⟩
      rw [upd_ne (fun z => hj (W.dj j i q hq (by rw [z]; exact hp)))]
      exact ho
  · obtain ⟨m1, m2, m3⟩ := W.no j q hq
    refine ⟨?_, m2, m3⟩
    by_cases e : q = p
    · subst e; rw [upd_same]; simp
    · rw [upd_ne e]; exact m1
theorem Ok.getLs (O : Ok K Γ B R H σ ρ) (h : ρ[i]? = some (some d)) (hs : Γ[i]? = some .ls) : ∃ p vs ds, d = .lst ds ∧ σ[i]? = some (some (.ref p)) ∧ H p = some (.lst vs) ∧ Reps K B vs ds := by
  obtain ⟨F, W⟩ := O.own
  obtain ⟨v, h1, q, vs, ds, e1, e2, e3, h4, h5⟩ := W.at_ i d _ h hs
  subst e1
  exact ⟨q, vs, ds, e2, h1, h4, h5⟩
/-- the value on the top is frozen -/
theorem Ok.freezeTop (O : Ok K (.ls :: Γ) B R H (some v :: σ) (some d :: ρ)) : ∃ B', Same B B' ∧ Ok K (.pu :: Γ) B' R H (some v :: σ) (some d :: ρ) := by
  obtain ⟨F, W⟩ := O.own
  obtain ⟨v', h1, p, vs, ds, e1, e2, e3, h4, h5⟩ := W.at_ 0 d .ls rfl rfl
  cases h1; subst e1 e2
  have hp : p ∈ F 0 := by rw [e3]; exact List.mem_cons_self
  obtain ⟨n1, n2, n3⟩ := W.no 0 p hp
  have sB : Same B (upd B p (.lst vs)) := same_upd n2
  refine ⟨upd B p (.lst vs), sB, fun a o e => ?_, O.sr, O.lσ, O.lρ, fun q o e => ?_, fun j => match j with | 0 => [] | j + 1 => F (j + 1), ⟨fun j e s h hs => ?_, fun j q hq => ?_, fun j => ?_, fun j k q h1 h2 => ?_⟩⟩
  · by_cases q : a = p
    · subst q; rw [upd_same] at e; rw [← e]; exact h4
    · rw [upd_ne q] at e; exact O.sb a o e
  · by_cases z : q = p
    · subst z; rw [n3] at e; cases e
    · rw [upd_ne z]; exact O.br q o e
  · cases j with
    | zero =>
      simp at h hs; subst h hs
      exact ⟨_, rfl, .lst upd_same (h5.mono sB), rfl⟩
    | succ j =>
      obtain ⟨v, h1, h2⟩ := W.at_ (j + 1) e s (by simpa using h) (by simpa using hs)
      exact ⟨v, h1, h2.mono sB (Same.refl _)⟩
  · cases j with
    | zero => exact absurd hq (by simp)
    | succ j =>
      obtain ⟨m1, m2, m3⟩ := W.no (j + 1) q hq
      refine ⟨m1, ?_, m3⟩
      rw [upd_ne (fun z => by subst z; have := W.dj _ _ q hq hp; omega)]
      exact m2
  · cases j with
    | zero => exact List.nodup_nil
    | succ j => exact W.nd _
  · cases j with
    | zero => exact absurd h1 (by simp)
    | succ j =>
      cases k with
      | zero => exact absurd h2 (by simp)
      | succ k => exact W.dj _ _ q h1 h2
/-- the list in slot i is frozen -/
theorem Ok.freeze (O : Ok K Γ B R H σ ρ) (hs : Γ[i]? = some .ls) : ∃ B', Same B B' ∧ Ok K (Γ.set i .pu) B' R H σ ρ := by
  by_cases hd : ∃ d, ρ[i]? = some (some d)
  · obtain ⟨d, h⟩ := hd
    obtain ⟨F, W⟩ := O.own
    obtain ⟨v', hv, p, vs, ds, e1, e2, e3, h4, h5⟩ := W.at_ i d .ls h hs
    subst e1 e2
    have hp : p ∈ F i := by rw [e3]; exact List.mem_cons_self
    obtain ⟨n1, n2, n3⟩ := W.no i p hp
    have sB : Same B (upd B p (.lst vs)) := same_upd n2
    refine ⟨upd B p (.lst vs), sB, fun a o e => ?_, O.sr, by simpa using O.lσ, by simpa using O.lρ, fun q o e => ?_, fun j => if j = i then [] else F j, ⟨fun j e s h' hs' => ?_, fun j q hq => ?_, fun j => ?_, fun j k q h1 h2 => ?_⟩⟩
    · by_cases q : a = p
      · subst q; rw [upd_same] at e; rw [← e]; exact h4
      · rw [upd_ne q] at e; exact O.sb a o e
    · by_cases z : q = p
      · subst z; rw [n3] at e; cases e
      · rw [upd_ne z]; exact O.br q o e
    · by_cases hj : j = i
      · subst hj
        have hl : j < Γ.length := (List.getElem?_eq_some_iff.mp hs).1
        rw [List.getElem?_set_self hl] at hs'
        rw [h] at h'; cases h'; cases hs'
        exact ⟨_, hv, .lst upd_same (h5.mono sB), by simp⟩
      · rw [List.getElem?_set_ne (Ne.symm hj)] at hs'
        obtain ⟨v, h1, h2⟩ := W.at_ j e s h' hs'
        simp only [hj, if_false]
        exact ⟨v, h1, h2.mono sB (Same.refl _)⟩
    · split at hq
      · exact absurd hq (by simp)
      · rename_i hj
        obtain ⟨m1, m2, m3⟩ := W.no j q hq
        refine ⟨m1, ?_, m3⟩
        rw [upd_ne (fun z => by subst z; exact hj (W.dj _ _ q hq hp))]
        exact m2
    · split
      · exact List.nodup_nil
      · exact W.nd _
    · split at h1 <;> split at h2
      · omega
      · exact absurd h1 (by simp)
      · exact absurd h2 (by simp)
      · exact W.dj _ _ q h1 h2
  · refine ⟨B, Same.refl _, O.reshape (by simp) fun j d h => ?_⟩
    by_cases hj : j = i
    · subst hj; exact absurd ⟨d, h⟩ hd
    · rw [List.getElem?_set_ne (Ne.symm hj)]
/-- less is told of what stands beside -/
theorem Ok.weakR {R2 : Hp} (O : Ok K Γ B R2 H σ ρ) (h : Same R R2) : Ok K Γ B R H σ ρ := by
  obtain ⟨F, W⟩ := O.own
  exact ⟨O.sb, fun a o e => O.sr a o (h a o e), O.lσ, O.lρ, fun p o e => O.br p o (h p o e), F, ⟨W.at_, fun i p hp => ⟨(W.no i p hp).1, (W.no i p hp).2.1, h.free (W.no i p hp).2.2⟩, W.nd, W.dj⟩⟩
/-- more is told of it -/
theorem Ok.addR (O : Ok K Γ B R H σ ρ) {F : Nat → List Addr} (W : Feet K Γ B R H σ ρ F) {p : Addr} {o : HO} (hp : ∀ i, p ∉ F i) (h1 : H p = some o) (h2 : B p = none) : Ok K Γ B (upd R p o) H σ ρ := by
  refine ⟨O.sb, fun a u e => ?_, O.lσ, O.lρ, fun a u e => ?_, F, ⟨W.at_, fun i q hq => ?_, W.nd, W.dj⟩⟩
  · by_cases z : a = p
    · subst z; rw [upd_same] at e; rw [← e]; exact h1
    · rw [upd_ne z] at e; exact O.sr a u e
  · by_cases z : a = p
    · subst z; exact h2
    · rw [upd_ne z] at e; exact O.br a u e
  · obtain ⟨n1, n2, n3⟩ := W.no i q hq
    have ne : q ≠ p := fun z => hp i (by rw [← z]; exact hq)
    rw [upd_ne ne]
    exact ⟨n1, n2, n3⟩
end
end DL
namespace DL
open PySem L2

/-- an own error: its class by number, its fields -/
structure Ex where
  c : Nat
  fs : List (Str × D)
inductive Res (α : Type) where
  | ok (a : α) (ρ : Env) | exc (e : Ex) (ρ : Env) | stuck
def Res.bind {α β : Type} (r : Res α) (k : α → Env → Res β) : Res β := match r with
  | .ok a ρ => k a ρ
  | .exc e ρ => .exc e ρ
  | .stuck => .stuck
inductive Out where
  | nx (ρ : Env) | bk (ρ : Env) | ct (ρ : Env) | rt (d : D) (ρ : Env) | exc (e : Ex) (ρ : Env) | stuck
abbrev ER (α : Type) := Env → Res α
def Res.out {α : Type} (r : Res α) (k : α → Env → Out) : Out := match r with
  | .ok a ρ => k a ρ
  | .exc e ρ => .exc e ρ
  | .stuck => .stuck
def ofOpt {α : Type} (o : Option α) (ρ : Env) : Res α := match o with
  | some a => .ok a ρ
  | none => .stuck

abbrev Mg := Str → Option Value
/-- the package's classes of errors -/
def clsN : Nat → Str
  | 0 => "BadRecipe" | 1 => "BadCode" | 2 => "BadPiece" | 3 => "BadForm" | 4 => "BadStep" | 5 => "BadText" | 6 => "BadCommand" | 7 => "NoSuch" | 8 => "Taken"
  | 9 => "MoveError" | 10 => "DataError" | 11 => "CallError" | 12 => "TextError" | 13 => "AskError" | _ => "ValueError"
def ExR (K : PySem.W.Frag) (mg : Mg) (B : Hp) (e : Ex) (cls : Value) (l : List (Str × V)) : Prop :=
  ∃ (C : Addr) (vs : List V), mg (clsN e.c) = some (.ref C) ∧ cls = .ref C ∧ l = (e.fs.map (·.1)).zip vs ∧ Reps K B vs (e.fs.map (·.2))

/-- the wish of exceptions; what is known of what stands beside and of the slots -/
structure Wc where
  W : WX
  P : Hp → L2.St → Prop
section
variable (K : PySem.W.Frag) (mg : Mg) (W : Wc)
/-- an exception leaves -/
def XLand (Γ : List Sh) (B R : Hp) (σ : L2.St) (e : Ex) (ρ : Env) : Prop :=
  ∀ B' H' cls p l, Same B B' → R p = none → Ok K Γ B' (upd R p (.xd l)) H' σ ρ → ExR K mg B' e cls l → W.W cls (some p) σ H'
def ELand (Γ : List Sh) (s : Sh) (B R : Hp) (σ : L2.St) (Q : VK) : Res D → Prop
  | .ok d ρ => ∀ B' H' v, Same B B' → Ok K (s :: Γ) B' R H' (some v :: σ) (some d :: ρ) → Q v H'
  | .exc e ρ => XLand K mg W Γ B R σ e ρ
  | .stuck => False
def EOk (Γ : List Sh) (te : TE) (s : Sh) (f : ER D) : Prop := ∀ B R H σ ρ Q, W.P R σ → Ok K Γ B R H σ ρ → ELand K mg W Γ s B R σ Q (f ρ) → te σ H Q
def TLand (Γ : List Sh) (B R : Hp) (σ : L2.St) (Q : Bool → Hp → Prop) : Res Bool → Prop
  | .ok b ρ => ∀ B' H', Same B B' → Ok K Γ B' R H' σ ρ → Q b H'
  | .exc e ρ => XLand K mg W Γ B R σ e ρ
  | .stuck => False
def TOk (Γ : List Sh) (tt : TT) (f : ER Bool) : Prop := ∀ B R H σ ρ Q, W.P R σ → Ok K Γ B R H σ ρ → TLand K mg W Γ B R σ Q (f ρ) → tt σ H Q
def ALand (Γ : List Sh) (B R : Hp) (σ : L2.St) (Q : List V → Hp → Prop) : Res (List D) → Prop
  | .ok ds ρ => ∀ B' H' vs, Same B B' → Ok K Γ B' R H' σ ρ → Reps K B' vs ds → Q vs H'
  | .exc e ρ => XLand K mg W Γ B R σ e ρ
  | .stuck => False
def AOk (Γ : List Sh) (ta : TA) (f : ER (List D)) : Prop := ∀ B R H σ ρ Q, W.P R σ → Ok K Γ B R H σ ρ → ALand K mg W Γ B R σ Q (f ρ) → ta σ H Q
end
section
variable {K : PySem.W.Frag} {mg : Mg} {W : Wc} {Γ : List Sh} {s : Sh} {ta tb te : TE} {fa fb : ER D} {tt tu : TT} {ft fu : ER Bool}
theorem XLand.mono {B B1 R : Hp} {σ : L2.St} {e : Ex} {ρ : Env} (h : XLand K mg W Γ B R σ e ρ) (sb : Same B B1) : XLand K mg W Γ B1 R σ e ρ :=
  fun B' H' cls p l q n O x => h B' H' cls p l (sb.trans q) n O x
/-- what comes behind an expression -/
theorem EOk.then {B R H : Hp} {σ : L2.St} {ρ : Env} {Q : VK} (h : EOk K mg W Γ te s fa) (pw : W.P R σ) (O : Ok K Γ B R H σ ρ)
    (hx : ∀ e ρ', fa ρ = .exc e ρ' → XLand K mg W Γ B R σ e ρ') (hn : fa ρ ≠ .stuck)
    (hk : ∀ d ρ', fa ρ = .ok d ρ' → ∀ B' H' v, Same B B' → Ok K (s :: Γ) B' R H' (some v :: σ) (some d :: ρ') → Q v H') : te σ H Q := by
  refine h B R H σ ρ Q pw O ?_
  cases e : fa ρ with
  | ok d ρ' => exact hk d ρ' e
  | exc x ρ' => exact hx x ρ' e
  | stuck => exact hn e

/-! ### names, constants -/
def eVar (i : Nat) : ER D := fun ρ => match ρ[i]? with
  | some (some d) => .ok d ρ
  | _ => .stuck
theorem eok_var {i : Nat} (hs : Γ[i]? = some .pu) : EOk K mg W Γ (tVar i) .pu (eVar i) := by
  intro B R H σ ρ Q pw O h
  unfold eVar at h
  split at h
  · rename_i d e
    obtain ⟨v, h1, r⟩ := O.get e hs
    exact ⟨v, h1, h B H v (Same.refl _) (O.pushP r)⟩
  · exact h.elim
def eC (d : D) : ER D := fun ρ => .ok d ρ
theorem eok_c {v : V} {d : D} (r : ∀ B, Rep K B v d) : EOk K mg W Γ (tC v) .pu (eC d) := fun B R H σ ρ Q pw O h => h B H v (Same.refl _) (O.pushP (r B))
theorem eok_int {i : Int} : EOk K mg W Γ (tC (.int i)) .pu (eC (.int i)) := eok_c fun _ => .int i
theorem eok_str {i : Str} : EOk K mg W Γ (tC (.str i)) .pu (eC (.str i)) := eok_c fun _ => .str i
theorem eok_bl {i : Bool} : EOk K mg W Γ (tC (.bl i)) .pu (eC (.bl i)) := eok_c fun _ => .bl i
theorem eok_non : EOk K mg W Γ (tC .non) .pu (eC .non) := eok_c fun _ => .non
theorem Ok.top {B R H : Hp} {σ : L2.St} {ρ : Env} {v : V} {d : D} (O : Ok K (.pu :: Γ) B R H (some v :: σ) (some d :: ρ)) : Rep K B v d := by
  obtain ⟨v', h1, h2⟩ := O.get (i := 0) rfl rfl
  cases h1
  exact h2
/-- freeze a new list -/
theorem eok_frz (h : EOk K mg W Γ te .ls fa) : EOk K mg W Γ te .pu fa := by
  intro B R H σ ρ Q pw O hl
  refine h B R H σ ρ Q pw O ?_
  cases e : fa ρ with
  | ok d ρ' =>
    rw [e] at hl
    intro B' H' v sb O'
    obtain ⟨B2, s2, O2⟩ := O'.freezeTop
    exact hl B2 H' v (sb.trans s2) O2
  | exc x ρ' => rw [e] at hl; exact hl
  | stuck => rw [e] at hl; exact hl

/-! ### two operands -/
/-- an operator by its values: g tells the answer; nothing is stored in what stands -/
def R2Ok (K : PySem.W.Frag) (r : R2) (s : Sh) (g : D → D → Option D) : Prop :=
  ∀ (Γ : List Sh) (B R H : Hp) (σ : L2.St) (ρ : Env) (v u : V) (d e o : D) (Q : VK), Ok K Γ B R H σ ρ → Rep K B v d → Rep K B u e → g d e = some o →
    (∀ B' H' w, Same B B' → Ok K (s :: Γ) B' R H' (some w :: σ) (some o :: ρ) → Q w H') → r v u H Q
def eOp (g : D → D → Option D) (fa fb : ER D) : ER D := fun ρ => (fa ρ).bind fun d ρ => (fb ρ).bind fun e ρ => ofOpt (g d e) ρ
theorem eok_op {r : R2} {g : D → D → Option D} (hr : R2Ok K r s g) (ha : EOk K mg W Γ ta .pu fa) (hb : EOk K mg W Γ tb .pu fb) : EOk K mg W Γ (tOp r ta tb) s (eOp g fa fb) := by
  intro B R H σ ρ Q pw O hl
  unfold eOp at hl
  refine ha B R H σ ρ _ pw O ?_
  cases e1 : fa ρ with
  | stuck => rw [e1] at hl; exact hl
  | exc x ρ1 => rw [e1] at hl; exact hl
  | ok d ρ1 =>
    rw [e1] at hl
    intro B1 H1 v s1 O1
    have rv := O1.top
    refine hb B1 R H1 σ ρ1 _ pw O1.pop ?_
    simp only [Res.bind] at hl
    cases e2 : fb ρ1 with
    | stuck => rw [e2] at hl; exact hl
    | exc x ρ2 => rw [e2] at hl; exact XLand.mono hl s1
    | ok e ρ2 =>
      rw [e2] at hl
      intro B2 H2 u s2 O2
      simp only [ofOpt] at hl
      cases e3 : g d e with
      | none => rw [e3] at hl; exact hl.elim
      | some o =>
        rw [e3] at hl
        exact hr Γ B2 R H2 σ ρ2 v u d e o Q O2.pop (rv.mono s2) O2.top e3 fun B3 H3 w s3 O3 => hl B3 H3 w ((s1.trans s2).trans s3) O3
def U1Ok (K : PySem.W.Frag) (r : V → Hp → VK → Prop) (s : Sh) (g : D → Option D) : Prop :=
  ∀ (Γ : List Sh) (B R H : Hp) (σ : L2.St) (ρ : Env) (v : V) (d o : D) (Q : VK), Ok K Γ B R H σ ρ → Rep K B v d → g d = some o →
    (∀ B' H' w, Same B B' → Ok K (s :: Γ) B' R H' (some w :: σ) (some o :: ρ) → Q w H') → r v H Q
def eUn (g : D → Option D) (fa : ER D) : ER D := fun ρ => (fa ρ).bind fun d ρ => ofOpt (g d) ρ
theorem eok_un {r : V → Hp → VK → Prop} {g : D → Option D} (hr : U1Ok K r s g) (ha : EOk K mg W Γ ta .pu fa) : EOk K mg W Γ (tUn r ta) s (eUn g fa) := by
  intro B R H σ ρ Q pw O hl
  unfold eUn at hl
  refine ha B R H σ ρ _ pw O ?_
  cases e1 : fa ρ with
  | stuck => rw [e1] at hl; exact hl
  | exc x ρ1 => rw [e1] at hl; exact hl
  | ok d ρ1 =>
    rw [e1] at hl
    intro B1 H1 v s1 O1
    simp only [Res.bind, ofOpt] at hl
    cases e3 : g d with
    | none => rw [e3] at hl; exact hl.elim
    | some o =>
      rw [e3] at hl
      exact hr Γ B1 R H1 σ ρ1 v d o Q O1.pop O1.top e3 fun B3 H3 w s3 O3 => hl B3 H3 w (s1.trans s3) O3
/-! ### argument lists -/
def aNil : ER (List D) := fun ρ => .ok [] ρ
def aCons (f : ER D) (g : ER (List D)) : ER (List D) := fun ρ => (f ρ).bind fun d ρ => (g ρ).bind fun ds ρ => .ok (d :: ds) ρ
theorem aok_nil : AOk K mg W Γ tNil aNil := fun B R H σ ρ Q pw O h => h B H [] (Same.refl _) O .nil
theorem aok_cons {t : TA} {g : ER (List D)} (ha : EOk K mg W Γ ta .pu fa) (hr : AOk K mg W Γ t g) : AOk K mg W Γ (tCons ta t) (aCons fa g) := by
  intro B R H σ ρ Q pw O hl
  unfold aCons at hl
  refine ha B R H σ ρ _ pw O ?_
  cases e1 : fa ρ with
  | stuck => rw [e1] at hl; exact hl
  | exc x ρ1 => rw [e1] at hl; exact hl
  | ok d ρ1 =>
    rw [e1] at hl
    intro B1 H1 v s1 O1
    refine hr B1 R H1 σ ρ1 _ pw O1.pop ?_
    simp only [Res.bind] at hl
    cases e2 : g ρ1 with
    | stuck => rw [e2] at hl; exact hl
    | exc x ρ2 => rw [e2] at hl; exact XLand.mono hl s1
    | ok ds ρ2 =>
      rw [e2] at hl
      intro B2 H2 vs s2 O2 r2
      exact hl B2 H2 (v :: vs) (s1.trans s2) O2 (.cons (O1.top.mono s2) r2)
/-- a built-in by its values -/
def C1Ok (K : PySem.W.Frag) (r : List V → Hp → VK → Prop) (s : Sh) (g : List D → Option D) : Prop :=
  ∀ (Γ : List Sh) (B R H : Hp) (σ : L2.St) (ρ : Env) (vs : List V) (ds : List D) (o : D) (Q : VK), Ok K Γ B R H σ ρ → Reps K B vs ds → g ds = some o →
    (∀ B' H' w, Same B B' → Ok K (s :: Γ) B' R H' (some w :: σ) (some o :: ρ) → Q w H') → r vs H Q
def eCB (g : List D → Option D) (f : ER (List D)) : ER D := fun ρ => (f ρ).bind fun ds ρ => ofOpt (g ds) ρ
theorem eok_cb {r : List V → Hp → VK → Prop} {g : List D → Option D} {t : TA} {f : ER (List D)} (hr : C1Ok K r s g) (ha : AOk K mg W Γ t f) : EOk K mg W Γ (tCB r t) s (eCB g f) := by
  intro B R H σ ρ Q pw O hl
  unfold eCB at hl
  refine ha B R H σ ρ _ pw O ?_
  cases e1 : f ρ with
  | stuck => rw [e1] at hl; exact hl
  | exc x ρ1 => rw [e1] at hl; exact hl
  | ok ds ρ1 =>
    rw [e1] at hl
    intro B1 H1 vs s1 O1 r1
    simp only [Res.bind, ofOpt] at hl
    cases e3 : g ds with
    | none => rw [e3] at hl; exact hl.elim
    | some o =>
      rw [e3] at hl
      exact hr Γ B1 R H1 σ ρ1 vs ds o Q O1 r1 e3 fun B3 H3 w s3 O3 => hl B3 H3 w (s1.trans s3) O3
/-- a tuple is laid -/
theorem Ok.layTup {B R H : Hp} {σ : L2.St} {ρ : Env} {p : Addr} {vs : List V} {ds : List D} (O : Ok K Γ B R H σ ρ) (h : H p = none) (r : Reps K B vs ds) :
    ∃ B', Same B B' ∧ Ok K (.pu :: Γ) B' R (upd H p (.tup vs)) (some (.ref p) :: σ) (some (.tup ds) :: ρ) := by
  obtain ⟨sb, O1⟩ := O.lay (o := .tup vs) h
  exact ⟨_, sb, O1.pushP (.tup (SqT.of upd_same) (r.mono sb))⟩
theorem Ok.layLst {B R H : Hp} {σ : L2.St} {ρ : Env} {p : Addr} {vs : List V} {ds : List D} (O : Ok K Γ B R H σ ρ) (h : H p = none) (r : Reps K B vs ds) :
    ∃ B', Same B B' ∧ Ok K (.pu :: Γ) B' R (upd H p (.lst vs)) (some (.ref p) :: σ) (some (.lst ds) :: ρ) := by
  obtain ⟨sb, O1⟩ := O.lay (o := .lst vs) h
  exact ⟨_, sb, O1.pushP (.lst upd_same (r.mono sb))⟩
def eTup (f : ER (List D)) : ER D := fun ρ => (f ρ).bind fun ds ρ => if ds.length ≤ sizeLine then .ok (.tup ds) ρ else .stuck
def eLst (f : ER (List D)) : ER D := fun ρ => (f ρ).bind fun ds ρ => if ds.length ≤ sizeLine then .ok (.lst ds) ρ else .stuck
theorem eok_tup {t : TA} {f : ER (List D)} (ha : AOk K mg W Γ t f) : EOk K mg W Γ (tTup t) .pu (eTup f) := by
  intro B R H σ ρ Q pw O hl
  unfold eTup at hl
  refine ha B R H σ ρ _ pw O ?_
  cases e1 : f ρ with
  | stuck => rw [e1] at hl; exact hl
  | exc x ρ1 => rw [e1] at hl; exact hl
  | ok ds ρ1 =>
    rw [e1] at hl
    intro B1 H1 vs s1 O1 r1
    simp only [Res.bind] at hl
    by_cases hz : ds.length ≤ sizeLine
    · rw [if_pos hz] at hl
      refine ⟨by rw [r1.length]; exact hz, fun p hp => ?_⟩
      obtain ⟨B2, s2, O2⟩ := O1.layTup hp r1
      exact hl B2 _ _ (s1.trans s2) O2
    · rw [if_neg hz] at hl; exact hl.elim
theorem eok_lst {t : TA} {f : ER (List D)} (ha : AOk K mg W Γ t f) : EOk K mg W Γ (tLst t) .ls (eLst f) := by
  intro B R H σ ρ Q pw O hl
  unfold eLst at hl
  refine ha B R H σ ρ _ pw O ?_
  cases e1 : f ρ with
  | stuck => rw [e1] at hl; exact hl
  | exc x ρ1 => rw [e1] at hl; exact hl
  | ok ds ρ1 =>
    rw [e1] at hl
    intro B1 H1 vs s1 O1 r1
    simp only [Res.bind] at hl
    by_cases hz : ds.length ≤ sizeLine
    · rw [if_pos hz] at hl
      refine ⟨by rw [r1.length]; exact hz, fun p hp => ?_⟩
      exact hl B1 _ _ s1 (O1.pushN hp r1)
    · rw [if_neg hz] at hl; exact hl.elim
/-! ### tests -/
def tVal (f : ER D) : ER Bool := fun ρ => (f ρ).bind fun d ρ => match d with
  | .bl b => .ok b ρ
  | _ => .stuck
theorem tok_test (h : EOk K mg W Γ te .pu fa) : TOk K mg W Γ (tTest te) (tVal fa) := by
  intro B R H σ ρ Q pw O hl
  unfold tVal at hl
  refine h B R H σ ρ _ pw O ?_
  cases e1 : fa ρ with
  | stuck => rw [e1] at hl; exact hl
  | exc x ρ1 => rw [e1] at hl; exact hl
  | ok d ρ1 =>
    rw [e1] at hl
    intro B1 H1 v s1 O1
    have rv := O1.top
    simp only [Res.bind] at hl
    cases rv with
    | bl b => exact ⟨b, rfl, hl B1 H1 s1 O1.pop⟩
    | non => exact hl.elim
    | int i => exact hl.elim
    | str i => exact hl.elim
    | tup _ _ => exact hl.elim
    | lst _ _ => exact hl.elim
    | scr _ => exact hl.elim
theorem tok_b (h : EOk K mg W Γ te .pu fa) : TOk K mg W Γ (tB te) (tVal fa) := tok_test h
def bAnd (f g : ER Bool) : ER Bool := fun ρ => (f ρ).bind fun b ρ => match b with
  | true => g ρ
  | false => .ok false ρ
def bOr (f g : ER Bool) : ER Bool := fun ρ => (f ρ).bind fun b ρ => match b with
  | true => .ok true ρ
  | false => g ρ
def bNot (f : ER Bool) : ER Bool := fun ρ => (f ρ).bind fun b ρ => .ok (!b) ρ
theorem TLand.mono {B B1 R : Hp} {σ : L2.St} {Q : Bool → Hp → Prop} {r : Res Bool} (h : TLand K mg W Γ B R σ Q r) (sb : Same B B1) : TLand K mg W Γ B1 R σ Q r := by
  cases r with
  | ok b ρ => exact fun B' H' q O => h B' H' (sb.trans q) O
  | exc e ρ => exact XLand.mono h sb
  | stuck => exact h
theorem ELand.mono {B B1 R : Hp} {σ : L2.St} {Q : VK} {r : Res D} (h : ELand K mg W Γ s B R σ Q r) (sb : Same B B1) : ELand K mg W Γ s B1 R σ Q r := by
  cases r with
  | ok b ρ => exact fun B' H' v q O => h B' H' v (sb.trans q) O
  | exc e ρ => exact XLand.mono h sb
  | stuck => exact h
theorem tok_and (ha : TOk K mg W Γ tt ft) (hb : TOk K mg W Γ tu fu) : TOk K mg W Γ (L2.tAnd tt tu) (bAnd ft fu) := by
  intro B R H σ ρ Q pw O hl
  unfold bAnd at hl
  refine ha B R H σ ρ _ pw O ?_
  cases e1 : ft ρ with
  | stuck => rw [e1] at hl; exact hl
  | exc x ρ1 => rw [e1] at hl; exact hl
  | ok b ρ1 =>
    rw [e1] at hl
    intro B1 H1 s1 O1
    simp only [Res.bind] at hl
    cases b with
    | true => rw [if_pos rfl]; exact hb B1 R H1 σ ρ1 Q pw O1 (TLand.mono hl s1)
    | false => rw [if_neg Bool.false_ne_true]; exact hl B1 H1 s1 O1
theorem tok_or (ha : TOk K mg W Γ tt ft) (hb : TOk K mg W Γ tu fu) : TOk K mg W Γ (L2.tOr tt tu) (bOr ft fu) := by
  intro B R H σ ρ Q pw O hl
  unfold bOr at hl
  refine ha B R H σ ρ _ pw O ?_
  cases e1 : ft ρ with
  | stuck => rw [e1] at hl; exact hl
  | exc x ρ1 => rw [e1] at hl; exact hl
  | ok b ρ1 =>
    rw [e1] at hl
    intro B1 H1 s1 O1
    simp only [Res.bind] at hl
    cases b with
    | false => rw [if_neg Bool.false_ne_true]; exact hb B1 R H1 σ ρ1 Q pw O1 (TLand.mono hl s1)
    | true => rw [if_pos rfl]; exact hl B1 H1 s1 O1
theorem tok_not (ha : TOk K mg W Γ tt ft) : TOk K mg W Γ (L2.tNot tt) (bNot ft) := by
  intro B R H σ ρ Q pw O hl
  unfold bNot at hl
  refine ha B R H σ ρ _ pw O ?_
  cases e1 : ft ρ with
  | stuck => rw [e1] at hl; exact hl
  | exc x ρ1 => rw [e1] at hl; exact hl
  | ok b ρ1 => rw [e1] at hl; exact hl
def eIf (t : ER Bool) (f g : ER D) : ER D := fun ρ => (t ρ).bind fun b ρ => match b with
  | true => f ρ
  | false => g ρ
theorem eok_if (ht : TOk K mg W Γ tt ft) (ha : EOk K mg W Γ ta s fa) (hb : EOk K mg W Γ tb s fb) : EOk K mg W Γ (L2.tIf tt ta tb) s (eIf ft fa fb) := by
  intro B R H σ ρ Q pw O hl
  unfold eIf at hl
  refine ht B R H σ ρ _ pw O ?_
  cases e1 : ft ρ with
  | stuck => rw [e1] at hl; exact hl
  | exc x ρ1 => rw [e1] at hl; exact hl
  | ok b ρ1 =>
    rw [e1] at hl
    intro B1 H1 s1 O1
    simp only [Res.bind] at hl
    cases b with
    | true => rw [if_pos rfl]; exact ha B1 R H1 σ ρ1 Q pw O1 (ELand.mono hl s1)
    | false => rw [if_neg Bool.false_ne_true]; exact hb B1 R H1 σ ρ1 Q pw O1 (ELand.mono hl s1)
/-- and, or, not as values -/
def eB (f : ER Bool) : ER D := fun ρ => (f ρ).bind fun b ρ => .ok (.bl b) ρ
def eAndV (f g : ER D) : ER D := fun ρ => (tVal f ρ).bind fun b ρ => match b with
  | true => g ρ
  | false => .ok (.bl false) ρ
def eOrV (f g : ER D) : ER D := fun ρ => (tVal f ρ).bind fun b ρ => match b with
  | true => .ok (.bl true) ρ
  | false => g ρ
def eNotV (f : ER D) : ER D := fun ρ => (tVal f ρ).bind fun b ρ => .ok (.bl (!b)) ρ
theorem eok_and (ha : EOk K mg W Γ ta .pu fa) (hb : EOk K mg W Γ tb .pu fb) : EOk K mg W Γ (tAndV ta tb) .pu (eAndV fa fb) := by
  intro B R H σ ρ Q pw O hl
  unfold eAndV at hl
  refine tok_b ha B R H σ ρ _ pw O ?_
  cases e1 : tVal fa ρ with
  | stuck => rw [e1] at hl; exact hl
  | exc x ρ1 => rw [e1] at hl; exact hl
  | ok b ρ1 =>
    rw [e1] at hl
    intro B1 H1 s1 O1
    simp only [Res.bind] at hl
    cases b with
    | true => rw [if_pos rfl]; exact hb B1 R H1 σ ρ1 Q pw O1 (ELand.mono hl s1)
    | false => rw [if_neg Bool.false_ne_true]; exact hl B1 H1 _ s1 (O1.pushP (.bl false))
theorem eok_or (ha : EOk K mg W Γ ta .pu fa) (hb : EOk K mg W Γ tb .pu fb) : EOk K mg W Γ (tOrV ta tb) .pu (eOrV fa fb) := by
  intro B R H σ ρ Q pw O hl
  unfold eOrV at hl
  refine tok_b ha B R H σ ρ _ pw O ?_
  cases e1 : tVal fa ρ with
  | stuck => rw [e1] at hl; exact hl
  | exc x ρ1 => rw [e1] at hl; exact hl
  | ok b ρ1 =>
    rw [e1] at hl
    intro B1 H1 s1 O1
    simp only [Res.bind] at hl
    cases b with
    | false => rw [if_neg Bool.false_ne_true]; exact hb B1 R H1 σ ρ1 Q pw O1 (ELand.mono hl s1)
    | true => rw [if_pos rfl]; exact hl B1 H1 _ s1 (O1.pushP (.bl true))
theorem eok_not (ha : EOk K mg W Γ ta .pu fa) : EOk K mg W Γ (tNotV ta) .pu (eNotV fa) := by
  intro B R H σ ρ Q pw O hl
  unfold eNotV at hl
  refine tok_b ha B R H σ ρ _ pw O ?_
  cases e1 : tVal fa ρ with
  | stuck => rw [e1] at hl; exact hl
  | exc x ρ1 => rw [e1] at hl; exact hl
  | ok b ρ1 =>
    rw [e1] at hl
    intro B1 H1 s1 O1
    exact hl B1 H1 _ s1 (O1.pushP (.bl _))
end
end DL
namespace DL
open PySem L2

def Pin (pn : List Nat) (σ σ' : L2.St) : Prop := ∀ i ∈ pn, σ'[i]? = σ[i]?
/-- what a block stands in: the wish of exceptions, the loop's shapes, what is returned, the slots that stay, the shapes at which one may leave -/
structure Cf where
  W : Wc
  Γl : List Sh
  sr : Sh
  pn : List Nat
  ag : List Sh → Prop
  hP : ∀ R σ σ', Pin pn σ σ' → W.P R σ → W.P R σ'
theorem Pin.refl {pn : List Nat} {σ : L2.St} : Pin pn σ σ := fun _ _ => rfl
theorem Pin.trans {pn : List Nat} {σ σ1 σ2 : L2.St} (a : Pin pn σ σ1) (b : Pin pn σ1 σ2) : Pin pn σ σ2 := fun i h => (b i h).trans (a i h)
def Out.seq (o : Out) (k : Env → Out) : Out := match o with
  | .nx ρ => k ρ
  | o => o
section
variable (K : PySem.W.Frag) (mg : Mg) (C : Cf)
def SLand (Γ' : List Sh) (B R : Hp) (σ : L2.St) (D : Ends) : Out → Prop
  | .nx ρ => ∀ B' H' σ', Same B B' → Ok K Γ' B' R H' σ' ρ → Pin C.pn σ σ' → D.nx σ' H'
  | .bk ρ => ∀ B' H' σ', Same B B' → Ok K C.Γl B' R H' σ' ρ → Pin C.pn σ σ' → D.bk σ' H'
  | .ct ρ => ∀ B' H' σ', Same B B' → Ok K C.Γl B' R H' σ' ρ → Pin C.pn σ σ' → D.ct σ' H'
  | .rt d ρ => ∀ B' H' σ' v Γ1, Same B B' → C.ag Γ1 → Ok K (C.sr :: Γ1) B' R H' (some v :: σ') (some d :: ρ) → Pin C.pn σ σ' → D.rt v H'
  | .exc e ρ => ∀ B' H' σ' cls p l Γ1, Same B B' → R p = none → C.ag Γ1 → Ok K Γ1 B' (upd R p (.xd l)) H' σ' ρ → Pin C.pn σ σ' → ExR K mg B' e cls l → C.W.W cls (some p) σ' H'
  | .stuck => False
def SOk (Γ Γ' : List Sh) (ts : TS) (f : Env → Out) : Prop := ∀ B R H σ ρ D, C.W.P R σ → Ok K Γ B R H σ ρ → SLand K mg C Γ' B R σ D (f ρ) → ts D σ H
end
section
variable {K : PySem.W.Frag} {mg : Mg} {C : Cf} {Γ Γ' Γ1 : List Sh} {ts tu : TS} {f g : Env → Out} {s : Sh} {te : TE} {fe : ER D}
theorem SLand.mono {B B1 R : Hp} {σ σ1 : L2.St} {D : Ends} {o : Out} (h : SLand K mg C Γ' B R σ D o) (sb : Same B B1) (p : Pin C.pn σ σ1) : SLand K mg C Γ' B1 R σ1 D o := by
  cases o with
  | nx ρ => exact fun B' H' σ' a O q => h B' H' σ' (sb.trans a) O (p.trans q)
  | bk ρ => exact fun B' H' σ' a O q => h B' H' σ' (sb.trans a) O (p.trans q)
  | ct ρ => exact fun B' H' σ' a O q => h B' H' σ' (sb.trans a) O (p.trans q)
  | rt d ρ => exact fun B' H' σ' v Γ1 a g O q => h B' H' σ' v Γ1 (sb.trans a) g O (p.trans q)
  | exc e ρ => exact fun B' H' σ' cls p' l Γ1 a n g O q x => h B' H' σ' cls p' l Γ1 (sb.trans a) n g O (p.trans q) x
  | stuck => exact h
theorem SLand.exc {B R : Hp} {σ : L2.St} {D : Ends} {e : Ex} {ρ : Env} (h : SLand K mg C Γ' B R σ D (.exc e ρ)) (ag : C.ag Γ) : XLand K mg C.W Γ B R σ e ρ :=
  fun B' H' cls p l sb n O x => h B' H' σ cls p l Γ sb n ag O Pin.refl x
/-- nothing is done -/
theorem sok_next : SOk K mg C Γ Γ L2.tNext .nx := fun B R H σ ρ D pw O h => h B H σ (Same.refl _) O Pin.refl
def sSeq (f g : Env → Out) : Env → Out := fun ρ => (f ρ).seq g
theorem sok_seq (h1 : SOk K mg C Γ Γ1 ts f) (h2 : SOk K mg C Γ1 Γ' tu g) : SOk K mg C Γ Γ' (L2.tSeq ts tu) (sSeq f g) := by
  intro B R H σ ρ D pw O h
  refine h1 B R H σ ρ _ pw O ?_
  unfold sSeq at h
  cases e : f ρ with
  | nx ρ1 =>
    rw [e] at h
    exact fun B' H' σ' sb O' p => h2 B' R H' σ' ρ1 D (C.hP _ _ _ p pw) O' (SLand.mono h sb p)
  | bk ρ1 => rw [e] at h; exact h
  | ct ρ1 => rw [e] at h; exact h
  | rt d ρ1 => rw [e] at h; exact h
  | exc x ρ1 => rw [e] at h; exact h
  | stuck => rw [e] at h; exact h
/-- a list is frozen first -/
theorem sok_frz {i : Nat} (hs : Γ[i]? = some .ls) (h : SOk K mg C (Γ.set i .pu) Γ' ts f) : SOk K mg C Γ Γ' ts f := by
  intro B R H σ ρ D pw O hl
  obtain ⟨B', sb, O'⟩ := O.freeze hs
  exact h B' R H σ ρ D pw O' (SLand.mono hl sb Pin.refl)
/-- x = e -/
def sSet (i : Nat) (f : ER D) : Env → Out := fun ρ => (f ρ).out fun d ρ => .nx (ρ.set i (some d))
theorem sok_set {i : Nat} (ag : C.ag Γ) (hp : i ∉ C.pn) (h : EOk K mg C.W Γ te s fe) : SOk K mg C Γ (Γ.set i s) (tAsg te (gName i)) (sSet i fe) := by
  intro B R H σ ρ D pw O hl
  unfold sSet at hl
  refine h B R H σ ρ _ pw O ?_
  cases e : fe ρ with
  | stuck => rw [e] at hl; exact hl
  | exc x ρ1 => rw [e] at hl; exact SLand.exc hl ag
  | ok d ρ1 =>
    rw [e] at hl
    intro B' H' v sb O'
    refine hl B' H' _ sb (O'.store i) fun j hj => ?_
    rw [List.getElem?_set_ne]
    rintro rfl; exact hp hj
/-- an expression alone -/
def sDrop (f : ER D) : Env → Out := fun ρ => (f ρ).out fun _ ρ => .nx ρ
theorem sok_drop (ag : C.ag Γ) (h : EOk K mg C.W Γ te s fe) : SOk K mg C Γ Γ (tDrop te) (sDrop fe) := by
  intro B R H σ ρ D pw O hl
  unfold sDrop at hl
  refine h B R H σ ρ _ pw O ?_
  cases e : fe ρ with
  | stuck => rw [e] at hl; exact hl
  | exc x ρ1 => rw [e] at hl; exact SLand.exc hl ag
  | ok d ρ1 => rw [e] at hl; exact fun B' H' v sb O' => hl B' H' σ sb O'.pop Pin.refl
def sRet (f : ER D) : Env → Out := fun ρ => (f ρ).out fun d ρ => .rt d ρ
theorem sok_ret (ag : C.ag Γ) (h : EOk K mg C.W Γ te C.sr fe) : SOk K mg C Γ Γ' (tRet te) (sRet fe) := by
  intro B R H σ ρ D pw O hl
  unfold sRet at hl
  refine h B R H σ ρ _ pw O ?_
  cases e : fe ρ with
  | stuck => rw [e] at hl; exact hl
  | exc x ρ1 => rw [e] at hl; exact SLand.exc hl ag
  | ok d ρ1 => rw [e] at hl; exact fun B' H' v sb O' => hl B' H' σ v Γ sb ag O' Pin.refl
theorem sok_retN (ag : C.ag Γ) (hr : C.sr = .pu) : SOk K mg C Γ Γ' tRetN (.rt .non) := by
  intro B R H σ ρ D pw O hl
  have hl : SLand K mg C Γ' B R σ D (.rt .non ρ) := hl
  exact hl B H σ .non Γ (Same.refl _) ag (by rw [hr]; exact O.pushP .non) Pin.refl
theorem sok_break (e : C.Γl = Γ) : SOk K mg C Γ Γ' tBreak .bk := fun B R H σ ρ D pw O h => h B H σ (Same.refl _) (by rw [e]; exact O) Pin.refl
theorem sok_cont (e : C.Γl = Γ) : SOk K mg C Γ Γ' tCont .ct := fun B R H σ ρ D pw O h => h B H σ (Same.refl _) (by rw [e]; exact O) Pin.refl
def sIf (t : ER Bool) (f g : Env → Out) : Env → Out := fun ρ => (t ρ).out fun b ρ => match b with
  | true => f ρ
  | false => g ρ
theorem sok_if {tt : TT} {ft : ER Bool} (ag : C.ag Γ) (ht : TOk K mg C.W Γ tt ft) (ha : SOk K mg C Γ Γ' ts f) (hb : SOk K mg C Γ Γ' tu g) : SOk K mg C Γ Γ' (tIfS tt ts tu) (sIf ft f g) := by
  intro B R H σ ρ D pw O hl
  unfold sIf at hl
  refine ht B R H σ ρ _ pw O ?_
  cases e : ft ρ with
  | stuck => rw [e] at hl; exact hl
  | exc x ρ1 => rw [e] at hl; exact SLand.exc hl ag
  | ok b ρ1 =>
    rw [e] at hl
    intro B1 H1 s1 O1
    cases b with
    | true => rw [if_pos rfl]; exact ha B1 R H1 σ ρ1 D pw O1 (SLand.mono hl s1 Pin.refl)
    | false => rw [if_neg Bool.false_ne_true]; exact hb B1 R H1 σ ρ1 D pw O1 (SLand.mono hl s1 Pin.refl)
/-- the shapes of what holds nothing are changed -/
theorem sok_never : SOk K mg C Γ Γ' tNever (fun _ => .stuck) := fun _ _ _ _ _ _ _ _ h => h

/-! ### targets -/
def GOk (Γ Γ' : List Sh) (tv : List Nat) (g : TG) (gf : D → Env → Option Env) : Prop :=
  ∀ B R H σ ρ v d ρ' Q, Ok K Γ B R H σ ρ → Rep K B v d → gf d ρ = some ρ' → (∀ σ', Ok K Γ' B R H σ' ρ' → (∀ j, j ∉ tv → σ'[j]? = σ[j]?) → Q σ' H) → g v σ H Q
def gN (i : Nat) : D → Env → Option Env := fun d ρ => some (ρ.set i (some d))
theorem gok_name {i : Nat} : GOk (K := K) Γ (Γ.set i .pu) [i] (gName i) (gN i) := by
  intro B R H σ ρ v d ρ' Q O r e k
  cases e
  refine k _ ((O.pushP r).store i) fun j hj => ?_
  rw [List.getElem?_set_ne]
  rintro rfl; exact hj (by simp)
def GsOk (Γ Γ' : List Sh) (tv : List Nat) (g : TGs) (gf : List D → Env → Option Env) : Prop :=
  ∀ B R H σ ρ vs ds ρ' Q, Ok K Γ B R H σ ρ → Reps K B vs ds → gf ds ρ = some ρ' → (∀ σ', Ok K Γ' B R H σ' ρ' → (∀ j, j ∉ tv → σ'[j]? = σ[j]?) → Q σ' H) → g vs σ H Q
def gsNil : List D → Env → Option Env := fun ds ρ => match ds with
  | [] => some ρ
  | _ => none
def gsCons (g : D → Env → Option Env) (h : List D → Env → Option Env) : List D → Env → Option Env := fun ds ρ => match ds with
  | d :: r => (g d ρ).bind fun ρ => h r ρ
  | [] => none
theorem gsok_nil : GsOk (K := K) Γ Γ [] gNil gsNil := by
  intro B R H σ ρ vs ds ρ' Q O r e k
  cases r with
  | nil => cases e; exact ⟨rfl, k σ O fun _ _ => rfl⟩
  | cons _ _ => cases e
theorem gsok_cons {t1 t2 : List Nat} {g : TG} {gs : TGs} {gf : D → Env → Option Env} {gsf : List D → Env → Option Env} (h1 : GOk (K := K) Γ Γ1 t1 g gf) (h2 : GsOk (K := K) Γ1 Γ' t2 gs gsf) : GsOk (K := K) Γ Γ' (t1 ++ t2) (gCons g gs) (gsCons gf gsf) := by
  intro B R H σ ρ vs ds ρ' Q O r e k
  cases r with
  | nil => cases e
  | cons q r =>
    rename_i v d vs ds
    unfold gsCons at e
    dsimp only at e
    cases e1 : gf d ρ with
    | none => rw [e1] at e; cases e
    | some ρ1 =>
      rw [e1] at e
      refine ⟨v, vs, rfl, h1 B R H σ ρ v d ρ1 _ O q e1 fun σ1 O1 k1 => ?_⟩
      exact h2 B R H σ1 ρ1 vs ds ρ' Q O1 r e fun σ2 O2 k2 => k σ2 O2 fun j hj => (k2 j fun z => hj (List.mem_append_right _ z)).trans (k1 j fun z => hj (List.mem_append_left _ z))
def gT (n : Nat) (h : List D → Env → Option Env) : D → Env → Option Env := fun d ρ => match d with
  | .tup ds => if ds.length = n then h ds ρ else none
  | _ => none
theorem gok_tup {tv : List Nat} {gs : TGs} {gsf : List D → Env → Option Env} {n : Nat} (h : GsOk (K := K) Γ Γ' tv gs gsf) : GOk (K := K) Γ Γ' tv (gTup K n gs) (gT n gsf) := by
  intro B R H σ ρ v d ρ' Q O r e k
  cases r with
  | tup hq rr =>
    rename_i a vs ds
    unfold gT at e
    dsimp only at e
    by_cases hn : ds.length = n
    · rw [if_pos hn] at e
      exact ⟨a, vs, rfl, sameT O.sb hq, by rw [rr.length]; exact hn, h B R H σ ρ vs ds ρ' Q O rr e k⟩
    · rw [if_neg hn] at e; cases e
  | _ => cases e
def sAsg (f : ER D) (g : D → Env → Option Env) : Env → Out := fun ρ => (f ρ).out fun d ρ => match g d ρ with
  | some ρ => .nx ρ
  | none => .stuck
theorem sok_asg {g : TG} {gf : D → Env → Option Env} {tv : List Nat} (ag : C.ag Γ) (hp : ∀ i ∈ tv, i ∉ C.pn) (h : EOk K mg C.W Γ te .pu fe) (hg : GOk (K := K) Γ Γ' tv g gf) : SOk K mg C Γ Γ' (tAsg te g) (sAsg fe gf) := by
  intro B R H σ ρ D pw O hl
  unfold sAsg at hl
  refine h B R H σ ρ _ pw O ?_
  cases e : fe ρ with
  | stuck => rw [e] at hl; exact hl
  | exc x ρ1 => rw [e] at hl; exact SLand.exc hl ag
  | ok d ρ1 =>
    rw [e] at hl
    intro B' H' v sb O'
    simp only [Res.out] at hl
    cases e2 : gf d ρ1 with
    | none => rw [e2] at hl; exact hl.elim
    | some ρ2 =>
      rw [e2] at hl
      exact hg B' R H' σ ρ1 v d ρ2 _ O'.pop O'.top e2 fun σ' O2 k => hl B' H' σ' sb O2 fun i hi => k i fun z => hp i z hi
/-- a, b = e1, e2 -/
def sPar (i j : Nat) (f : ER (List D)) : Env → Out := fun ρ => (f ρ).out fun ds ρ => match ds with
  | [d, e] => .nx ((ρ.set i (some d)).set j (some e))
  | _ => .stuck
theorem sok_par {i j : Nat} {ta : TA} {fa : ER (List D)} (ag : C.ag Γ) (hi : i ∉ C.pn) (hj : j ∉ C.pn) (h : AOk K mg C.W Γ ta fa) : SOk K mg C Γ ((Γ.set i .pu).set j .pu) (tPar i j ta) (sPar i j fa) := by
  intro B R H σ ρ D pw O hl
  unfold sPar at hl
  refine h B R H σ ρ _ pw O ?_
  cases e : fa ρ with
  | stuck => rw [e] at hl; exact hl
  | exc x ρ1 => rw [e] at hl; exact SLand.exc hl ag
  | ok ds ρ1 =>
    rw [e] at hl
    intro B' H' vs sb O' r
    simp only [Res.out] at hl
    cases r with
    | nil => exact hl.elim
    | cons r1 r =>
      cases r with
      | nil => exact hl.elim
      | cons r2 r =>
        cases r with
        | cons _ _ => exact hl.elim
        | nil =>
          refine ⟨_, _, rfl, hl B' H' _ sb ((((O'.pushP r1).store i).pushP r2).store j) fun k hk => ?_⟩
          rw [List.getElem?_set_ne (by rintro rfl; exact hj hk), List.getElem?_set_ne (by rintro rfl; exact hi hk)]
/-- x op= e -/
def sAug (g : D → D → Option D) (i : Nat) (f : ER D) : Env → Out := fun ρ => (eVar i ρ).out fun d ρ => (f ρ).out fun e ρ => match g d e with
  | some o => .nx (ρ.set i (some o))
  | none => .stuck
theorem sok_aug {i : Nat} {r : R2} {g : D → D → Option D} (ag : C.ag Γ) (hi : i ∉ C.pn) (hs : Γ[i]? = some .pu) (hr : R2Ok K r s g) (h : EOk K mg C.W Γ te .pu fe) : SOk K mg C Γ (Γ.set i s) (tAug i te r) (sAug g i fe) := by
  intro B R H σ ρ D pw O hl
  unfold sAug eVar at hl
  cases e0 : ρ[i]? with
  | none => rw [e0] at hl; exact hl.elim
  | some o =>
    cases o with
    | none => rw [e0] at hl; exact hl.elim
    | some d =>
      rw [e0] at hl
      obtain ⟨v, h1, rv⟩ := O.get e0 hs
      refine ⟨v, h1, h B R H σ ρ _ pw O ?_⟩
      simp only [Res.out] at hl
      cases e : fe ρ with
      | stuck => rw [e] at hl; exact hl
      | exc x ρ1 => rw [e] at hl; exact SLand.exc hl ag
      | ok d2 ρ1 =>
        rw [e] at hl
        intro B' H' v2 sb O'
        simp only at hl
        cases e2 : g d d2 with
        | none => rw [e2] at hl; exact hl.elim
        | some o =>
          rw [e2] at hl
          refine hr Γ B' R H' σ ρ1 v v2 d d2 o _ O'.pop (rv.mono sb) O'.top e2 fun B3 H3 w s3 O3 => hl B3 H3 _ (sb.trans s3) (O3.store i) fun k hk => ?_
          rw [List.getElem?_set_ne (by rintro rfl; exact hi hk)]

/-! ### loops -/
structure Walks (K : PySem.W.Frag) (B : Hp) (J : It) (es : List D) : Prop where
  go : ∀ B2 H2, Same B B2 → Same B2 H2 → ∀ i, i < es.length → J.go i H2
  yld : ∀ B2 H2, Same B B2 → Same B2 H2 → ∀ i d x H3, es[i]? = some d → J.yld i H2 x H3 → ∃ B3, Same B2 B3 ∧ Same H2 H3 ∧ Same B3 H3 ∧ (∀ a o, B3 a = some o → B2 a = some o ∨ H2 a = none) ∧ Rep K B3 x d
  stop : ∀ B2 H2, Same B B2 → Same B2 H2 → ∀ i, es.length ≤ i → J.stop i H2
theorem Walks.mono {B B' : Hp} {J : It} {es : List D} (w : Walks K B J es) (sb : Same B B') : Walks K B' J es :=
  ⟨fun B2 H2 a => w.go B2 H2 (sb.trans a), fun B2 H2 a => w.yld B2 H2 (sb.trans a), fun B2 H2 a => w.stop B2 H2 (sb.trans a)⟩
def ILand (K : PySem.W.Frag) (mg : Mg) (W : Wc) (Γ : List Sh) (B R : Hp) (σ : L2.St) (Q : It → Hp → Prop) : Res (List D) → Prop
  | .ok es ρ => ∀ B' H' J, Same B B' → Ok K Γ B' R H' σ ρ → Walks K B' J es → Q J H'
  | .exc e ρ => XLand K mg W Γ B R σ e ρ
  | .stuck => False
def IOk (K : PySem.W.Frag) (mg : Mg) (W : Wc) (Γ : List Sh) (wi : TI) (f : ER (List D)) : Prop := ∀ B R H σ ρ Q, W.P R σ → Ok K Γ B R H σ ρ → ILand K mg W Γ B R σ Q (f ρ) → wi σ H Q
def forL (gf : D → Env → Option Env) (fb : Env → Out) : List D → Env → Out
  | [], ρ => .nx ρ
  | d :: es, ρ => match gf d ρ with
    | none => .stuck
    | some ρ1 => match fb ρ1 with
      | .nx ρ2 => forL gf fb es ρ2
      | .ct ρ2 => forL gf fb es ρ2
      | .bk ρ2 => .nx ρ2
      | o => o
def sFor (fi : ER (List D)) (gf : D → Env → Option Env) (fb : Env → Out) : Env → Out := fun ρ => (fi ρ).out fun es ρ => forL gf fb es ρ
theorem sok_for {wi : TI} {g : TG} {fi : ER (List D)} {gf : D → Env → Option Env} {tv : List Nat} (ag : C.ag Γ) (hp : ∀ i ∈ tv, i ∉ C.pn) (hi : IOk K mg C.W Γ wi fi) (hg : GOk (K := K) Γ Γ tv g gf) (hb : SOk K mg { C with Γl := Γ } Γ Γ ts f) :
    SOk K mg C Γ Γ (tFor wi g ts) (sFor fi gf f) := by
  intro B R H σ ρ D pw O hl
  unfold sFor at hl
  refine hi B R H σ ρ _ pw O ?_
  cases e : fi ρ with
  | stuck => rw [e] at hl; exact hl
  | exc x ρ1 => rw [e] at hl; exact SLand.exc hl ag
  | ok es ρ1 =>
    rw [e] at hl
    intro B1 H1 J s1 O1 wk
    refine ⟨fun i m σ' H' => m = es.length - i ∧ i ≤ es.length ∧ ∃ B' ρ', Same B1 B' ∧ Ok K Γ B' R H' σ' ρ' ∧ Pin C.pn σ σ' ∧ SLand K mg C Γ B' R σ' D (forL gf f (es.drop i) ρ'), ⟨es.length, by simp, Nat.zero_le _, B1, ρ1, Same.refl _, O1, Pin.refl, SLand.mono hl s1 Pin.refl⟩, ?_⟩
    rintro i m σ2 H2 ⟨rfl, hle, B2, ρ2, s2, O2, p2, l2⟩
    by_cases hlt : i < es.length
    · refine .inr ⟨wk.go B2 H2 s2 O2.sb i hlt, fun σ' H' => i < es.length ∧ ∃ B' ρ', Same B1 B' ∧ Ok K Γ B' R H' σ' ρ' ∧ Pin C.pn σ σ' ∧ SLand K mg C Γ B' R σ' D (forL gf f (es.drop (i + 1)) ρ'), fun σ' H' n => ⟨es.length - (i + 1), by omega, rfl, by omega, n.2⟩, fun x H3 y => ?_⟩
      obtain ⟨B3, sb3, sh3, sbh3, nw3, rx⟩ := wk.yld B2 H2 s2 O2.sb i es[i] x H3 (by simp [hlt]) y
      have O3 := O2.grow sb3 sh3 sbh3 nw3
      rw [List.drop_eq_getElem_cons hlt] at l2
      unfold forL at l2
      cases e2 : gf es[i] ρ2 with
      | none => rw [e2] at l2; exact l2.elim
      | some ρ3 =>
        rw [e2] at l2
        simp only at l2
        refine hg B3 R H3 σ2 ρ2 x _ ρ3 _ O3 rx e2 fun σ4 O4 k4 => ?_
        have p4 : Pin C.pn σ2 σ4 := fun j hj => k4 j fun z => hp j z hj
        refine hb B3 R H3 σ4 ρ3 _ (C.hP _ _ _ (p2.trans p4) pw) O4 ?_
        cases e3 : f ρ3 with
        | stuck => rw [e3] at l2; exact l2
        | nx ρ5 =>
          rw [e3] at l2
          exact fun B5 H5 σ5 sb5 O5 p5 => ⟨hlt, B5, ρ5, (s2.trans sb3).trans sb5, O5, (p2.trans p4).trans p5, SLand.mono l2 (sb3.trans sb5) (p4.trans p5)⟩
        | ct ρ5 =>
          rw [e3] at l2
          exact fun B5 H5 σ5 sb5 O5 p5 => ⟨hlt, B5, ρ5, (s2.trans sb3).trans sb5, O5, (p2.trans p4).trans p5, SLand.mono l2 (sb3.trans sb5) (p4.trans p5)⟩
        | bk ρ5 =>
          rw [e3] at l2
          exact fun B5 H5 σ5 sb5 O5 p5 => l2 B5 H5 σ5 (sb3.trans sb5) O5 (p4.trans p5)
        | rt d ρ5 =>
          rw [e3] at l2
          exact fun B5 H5 σ5 v Γ1 sb5 a O5 p5 => l2 B5 H5 σ5 v Γ1 (sb3.trans sb5) a O5 (p4.trans p5)
        | exc x ρ5 =>
          rw [e3] at l2
          exact fun B5 H5 σ5 cls p l Γ1 sb5 n a O5 p5 q => l2 B5 H5 σ5 cls p l Γ1 (sb3.trans sb5) n a O5 (p4.trans p5) q
    · have ei : i = es.length := by omega
      refine .inl ⟨wk.stop B2 H2 s2 O2.sb i (by omega), ?_⟩
      rw [ei, List.drop_length] at l2
      exact l2 B2 H2 σ2 (Same.refl _) O2 Pin.refl
def whileF (fc : ER Bool) (fb : Env → Out) : Nat → Env → Out
  | 0, _ => .stuck
  | n + 1, ρ => (fc ρ).out fun b ρ => match b with
    | false => .nx ρ
    | true => match fb ρ with
      | .nx ρ2 => whileF fc fb n ρ2
      | .ct ρ2 => whileF fc fb n ρ2
      | .bk ρ2 => .nx ρ2
      | o => o
def sWhile (fuel : Env → Nat) (fc : ER Bool) (fb : Env → Out) : Env → Out := fun ρ => whileF fc fb (fuel ρ) ρ
theorem sok_while {tc : TT} {fc : ER Bool} {fuel : Env → Nat} (ag : C.ag Γ) (hc : TOk K mg C.W Γ tc fc) (hb : SOk K mg { C with Γl := Γ } Γ Γ ts f) : SOk K mg C Γ Γ (tWhile tc ts) (sWhile fuel fc f) := by
  intro B R H σ ρ D pw O hl
  refine ⟨fun m σ' H' => ∃ B' ρ', Same B B' ∧ Ok K Γ B' R H' σ' ρ' ∧ Pin C.pn σ σ' ∧ SLand K mg C Γ B' R σ' D (whileF fc f m ρ'), ⟨fuel ρ, B, ρ, Same.refl _, O, Pin.refl, hl⟩, ?_⟩
  rintro m σ2 H2 ⟨B2, ρ2, s2, O2, p2, l2⟩
  cases m with
  | zero => exact l2.elim
  | succ m =>
    unfold whileF at l2
    refine hc B2 R H2 σ2 ρ2 _ (C.hP _ _ _ p2 pw) O2 ?_
    cases e : fc ρ2 with
    | stuck => rw [e] at l2; exact l2
    | exc x ρ3 => rw [e] at l2; exact SLand.exc l2 ag
    | ok b ρ3 =>
      rw [e] at l2
      intro B3 H3 s3 O3
      cases b with
      | false => rw [if_neg Bool.false_ne_true]; exact l2 B3 H3 σ2 s3 O3 Pin.refl
      | true =>
        rw [if_pos rfl]
        refine ⟨fun σ' H' => ∃ B' ρ', Same B B' ∧ Ok K Γ B' R H' σ' ρ' ∧ Pin C.pn σ σ' ∧ SLand K mg C Γ B' R σ' D (whileF fc f m ρ'), fun σ' H' n => ⟨m, Nat.lt_succ_self _, n⟩, ?_⟩
        simp only [Res.out] at l2
        refine hb B3 R H3 σ2 ρ3 _ (C.hP _ _ _ p2 pw) O3 ?_
        cases e3 : f ρ3 with
        | stuck => rw [e3] at l2; exact l2
        | nx ρ5 =>
          rw [e3] at l2
          exact fun B5 H5 σ5 sb5 O5 p5 => ⟨B5, ρ5, (s2.trans s3).trans sb5, O5, p2.trans p5, SLand.mono l2 (s3.trans sb5) p5⟩
        | ct ρ5 =>
          rw [e3] at l2
          exact fun B5 H5 σ5 sb5 O5 p5 => ⟨B5, ρ5, (s2.trans s3).trans sb5, O5, p2.trans p5, SLand.mono l2 (s3.trans sb5) p5⟩
        | bk ρ5 => rw [e3] at l2; exact fun B5 H5 σ5 sb5 O5 p5 => l2 B5 H5 σ5 (s3.trans sb5) O5 p5
        | rt d ρ5 => rw [e3] at l2; exact fun B5 H5 σ5 v Γ1 sb5 a O5 p5 => l2 B5 H5 σ5 v Γ1 (s3.trans sb5) a O5 p5
        | exc x ρ5 => rw [e3] at l2; exact fun B5 H5 σ5 cls p l Γ1 sb5 n a O5 p5 q => l2 B5 H5 σ5 cls p l Γ1 (s3.trans sb5) n a O5 p5 q
end
end DL
namespace DL
open PySem L2

inductive FRes where
  | ret (d : D) (outs : Env) | exc (e : Ex) (outs : Env) | stuck
abbrev Den := List D → FRes
/-- what is left of the first parameters, in the parameters' places -/
def plug (n : Nat) (outs : Env) : Env := outs ++ List.replicate (n - outs.length) none
def toF (k : Nat) (o : Out) : FRes := match o with
  | .rt d ρ => .ret d (ρ.take k)
  | .nx ρ => .ret .non (ρ.take k)
  | .exc e ρ => .exc e (ρ.take k)
  | _ => .stuck
def mkF (N k : Nat) (fb : Env → Out) : Den := fun ds => toF k (fb (ds.map some ++ List.replicate (N - ds.length) none))
section
variable (K : PySem.W.Frag) (mg : Mg)
def FLand (Γp : List Sh) (sr : Sh) (B R : Hp) (vs : List V) (Q : VK) (E : XK) : FRes → Prop
  | .ret d outs => ∀ B' H' v, Same B B' → Ok K (sr :: Γp) B' R H' (some v :: vs.map some) (some d :: plug Γp.length outs) → Q v H'
  | .exc e outs => ∀ B' H' cls p l, Same B B' → R p = none → Ok K Γp B' (upd R p (.xd l)) H' (vs.map some) (plug Γp.length outs) → ExR K mg B' e cls l → E cls (some p) H'
  | .stuck => False
/-- the promise of a def that reckons f -/
def spD (Γp : List Sh) (sr : Sh) (f : Den) : Sp := fun vs H Q E => ∃ B R ds, Ok K Γp B R H (vs.map some) (ds.map some) ∧ FLand K mg Γp sr B R vs Q E (f ds)
end
section
variable {K : PySem.W.Frag} {mg : Mg} {Γ Γp : List Sh} {sr : Sh}
theorem spD_len {f : Den} {vs : List V} {H : Hp} {Q : VK} {E : XK} (h : spD K mg Γp sr f vs H Q E) : vs.length = Γp.length := by
  obtain ⟨B, R, ds, O, _⟩ := h
  simpa using O.lσ
/-- the state of a def's body: k first parameters are the caller's own -/
def cfF (E : XK) (Γp : List Sh) (sr : Sh) (n k : Nat) : Cf := { W := ⟨fun cls d _ H => E cls d H, fun _ _ => True⟩, hP := fun _ _ _ _ _ => trivial, Γl := [], sr := sr, pn := List.range k, ag := fun Γ1 => Γ1.length = n ∧ Γ1.take k = Γp.take k }
theorem getElem?_take_eq {α : Type} {l : List α} {k i : Nat} (h : i < k) : (l.take k)[i]? = l[i]? := by
  rw [List.getElem?_take]; simp [h]
theorem Ok.shorten {Γ1 : List Sh} {B R H : Hp} {σ : L2.St} {ρ : Env} {v : V} {d : D} {vs : List V} {k : Nat} (hk : k ≤ Γp.length) (hv : vs.length = Γp.length) (ag : Γ1.take k = Γp.take k) (lN : Γp.length ≤ Γ1.length)
    (pin : ∀ i, i < k → σ[i]? = (vs.map some)[i]?) (O : Ok K Γ1 B R H σ ρ) : Ok K Γp B R H (vs.map some) (plug Γp.length (ρ.take k)) := by
  obtain ⟨F, W⟩ := O.own
  have lρ := O.lρ
  have lt : (ρ.take k).length = k := by rw [List.length_take]; omega
  have at_ : ∀ i d, (plug Γp.length (ρ.take k))[i]? = some (some d) → i < k ∧ ρ[i]? = some (some d) := fun i d h => by
    unfold plug at h
    by_cases hi : i < k
    · rw [List.getElem?_append_left (by omega), getElem?_take_eq hi] at h
      exact ⟨hi, h⟩
    · rw [List.getElem?_append_right (by omega), List.getElem?_replicate] at h
      split at h <;> cases h
  refine ⟨O.sb, O.sr, by simp [hv], by unfold plug; simp [lt]; omega, O.br, F, ⟨fun i d s h hs => ?_, W.no, W.nd, W.dj⟩⟩
  obtain ⟨hi, h2⟩ := at_ i d h
  rw [← pin i hi]
  refine W.at_ i d s h2 ?_
  rw [← getElem?_take_eq hi, ag, getElem?_take_eq hi]
  exact hs
theorem Ok.shortenV {Γ1 : List Sh} {B R H : Hp} {σ : L2.St} {ρ : Env} {v : V} {d : D} {vs : List V} {k : Nat} (hk : k ≤ Γp.length) (hv : vs.length = Γp.length) (ag : Γ1.take k = Γp.take k) (lN : Γp.length ≤ Γ1.length)
    (pin : ∀ i, i < k → σ[i]? = (vs.map some)[i]?) (O : Ok K (sr :: Γ1) B R H (some v :: σ) (some d :: ρ)) : Ok K (sr :: Γp) B R H (some v :: vs.map some) (some d :: plug Γp.length (ρ.take k)) := by
  have h := Ok.shorten (Γp := sr :: Γp) (vs := v :: vs) (k := k + 1) (v := v) (d := d) (by simpa using hk) (by simpa using hv) (by simpa using ag) (by simpa using lN) (fun i hi => by
    cases i with
    | zero => rfl
    | succ i => simpa using pin i (by omega)) O
  have e : plug (sr :: Γp).length ((some d :: ρ).take (k + 1)) = some d :: plug Γp.length (ρ.take k) := by
    unfold plug
    simp
  rw [e] at h
  exact h
/-- A DEF's BODY: what it reckons is what it promises -/
theorem fn_body {N : List Str} {k : Nat} {Γi Γ' : List Sh} {t : TS} {fb : Env → Out} {vs : List V} {H : Hp} {Q : VK} {E : XK} (hk : k ≤ Γp.length) (hN : Γp.length + Γi.length = N.length) (hr : sr = .pu ∨ ∀ ρ ρ', fb ρ ≠ .nx ρ')
    (hn : Γ'.length = N.length ∧ Γ'.take k = Γp.take k)
    (hb : SOk K mg (cfF E Γp sr N.length k) (Γp ++ Γi) Γ' t fb) (h : spD K mg Γp sr (mkF N.length k fb) vs H Q E) :
    t { nx := fun _ H' => Q .non H', rt := Q } (L2.start N vs) H := by
  have hv := spD_len h
  obtain ⟨B, R, ds, O, h⟩ := h
  have hd : ds.length = Γp.length := by simpa using O.lρ
  have O0 : Ok K (Γp ++ Γi) B R H (L2.start N vs) (ds.map some ++ List.replicate (N.length - ds.length) none) := by
    obtain ⟨F, W⟩ := O.own
    refine ⟨O.sb, O.sr, by simp [L2.start, hv]; omega, by simp [hd]; omega, O.br, F, ⟨fun i d s h hs => ?_, W.no, W.nd, W.dj⟩⟩
    by_cases hi : i < Γp.length
    · rw [List.getElem?_append_left (by simpa [hd] using hi)] at h
      rw [List.getElem?_append_left hi] at hs
      obtain ⟨v, h1, h2⟩ := W.at_ i d s h hs
      refine ⟨v, ?_, h2⟩
      unfold L2.start
      rw [List.getElem?_append_left (by simpa [hv] using hi)]
      exact h1
    · rw [List.getElem?_append_right (by simp; omega), List.getElem?_replicate] at h
      split at h <;> cases h
  have pin0 : ∀ i, i < k → (L2.start N vs)[i]? = (vs.map some)[i]? := fun i hi => by
    unfold L2.start
    rw [List.getElem?_append_left (by simp; omega)]
  refine hb B R H _ _ _ trivial O0 ?_
  unfold mkF at h
  cases e : fb (ds.map some ++ List.replicate (N.length - ds.length) none) with
  | stuck => rw [e] at h; exact h
  | bk ρ => rw [e] at h; exact h.elim
  | ct ρ => rw [e] at h; exact h.elim
  | nx ρ =>
    rw [e] at h
    rcases hr with hr | hr
    · subst hr
      intro B' H' σ' sb O' p
      refine h B' H' .non sb ?_
      exact Ok.shortenV hk hv hn.2 (by omega) (fun i hi => (p i (List.mem_range.mpr hi)).trans (pin0 i hi)) (O'.pushP .non)
    · exact absurd e (hr _ _)
  | rt d ρ =>
    rw [e] at h
    intro B' H' σ' v Γ1 sb ag O' p
    exact h B' H' v sb (Ok.shortenV hk hv ag.2 (by have := ag.1; omega) (fun i hi => (p i (List.mem_range.mpr hi)).trans (pin0 i hi)) O')
  | exc x ρ =>
    rw [e] at h
    intro B' H' σ' cls p' l Γ1 sb n ag O' p q
    exact h B' H' cls p' l sb n (Ok.shorten (v := .non) (d := .non) hk hv ag.2 (by have := ag.1; omega) (fun i hi => (p i (List.mem_range.mpr hi)).trans (pin0 i hi)) O') q

/-! ### calls -/
/-- f(..): all arguments pure; n their number -/
def eCall (n : Nat) (f : Den) (fa : ER (List D)) : ER D := fun ρ => (fa ρ).bind fun ds ρ => if ds.length = n then (match f ds with
  | .ret d _ => .ok d ρ
  | .exc e _ => .exc e ρ
  | .stuck => .stuck) else .stuck
/-- what the caller bears lies beside -/
theorem Ok.callee {B R H : Hp} {σ : L2.St} {ρ : Env} {vs : List V} {ds : List D} (O : Ok K Γ B R H σ ρ) (r : Reps K B vs ds) :
    ∃ Rc : Hp, (∀ a, Rc a = if B a = none then H a else none) ∧ Ok K (List.replicate ds.length .pu) B Rc H (vs.map some) (ds.map some) := by
  refine ⟨fun a => if B a = none then H a else none, fun _ => rfl, O.sb, fun a o e => ?_, by simp [r.length], by simp, fun p o e => ?_, fun _ => [], ⟨fun i d s h hs => ?_, fun i p hp => absurd hp (by simp), fun _ => List.nodup_nil, fun i j p hp => absurd hp (by simp)⟩⟩
  · split at e
    · exact e
    · cases e
  · split at e
    · assumption
    · cases e
  · rw [List.getElem?_replicate] at hs
    split at hs
    · cases hs
      rw [List.getElem?_map] at h
      cases q : ds[i]? with
      | none => rw [q] at h; cases h
      | some d' =>
        rw [q] at h; cases h
        obtain ⟨v, h1, h2⟩ := r.get q
        exact ⟨v, by rw [List.getElem?_map, h1]; rfl, h2, rfl⟩
    · cases hs
/-- behind the call -/
theorem Ok.after {B B' R Rc H H' : Hp} {σ : L2.St} {ρ : Env} (O : Ok K Γ B R H σ ρ) (hc : ∀ a, Rc a = if B a = none then H a else none) (sb : Same B B') (sbh : Same B' H') (src : Same Rc H') (br : ∀ p o, Rc p = some o → B' p = none) :
    Same H H' ∧ Ok K Γ B' R H' σ ρ := by
  have sh : Same H H' := fun a o e => by
    cases q : B a with
    | none => exact src a o (by rw [hc, if_pos q]; exact e)
    | some u =>
      have e2 := O.sb a u q
      rw [e] at e2; cases e2
      exact sbh a o (sb a o q)
  refine ⟨sh, O.grow sb sh sbh fun a o e => ?_⟩
  cases q : B a with
  | some u => left; rw [sb a u q] at e; exact e
  | none =>
    right
    cases z : H a with
    | none => rfl
    | some u =>
      have := br a u (by rw [hc, if_pos q]; exact z)
      rw [this] at e; cases e
theorem eok_call {W : Wc} {f : Den} {n : Nat} {ta : TA} {fa : ER (List D)} (ha : AOk K mg W Γ ta fa) : EOk K mg W Γ (tCallS (spD K mg (List.replicate n .pu) sr f) (WE W.W) ta) sr (eCall n f fa) := by
  intro B R H σ ρ Q pw O hl
  unfold eCall at hl
  refine ha B R H σ ρ _ pw O ?_
  cases e1 : fa ρ with
  | stuck => rw [e1] at hl; exact hl
  | exc x ρ1 => rw [e1] at hl; exact hl
  | ok ds ρ1 =>
    rw [e1] at hl
    intro B1 H1 vs s1 O1 r1
    simp only [Res.bind] at hl
    by_cases hn : ds.length = n
    · rw [if_pos hn] at hl
      obtain ⟨Rc, hc, Oc⟩ := O1.callee r1
      rw [hn] at Oc
      refine ⟨B1, Rc, ds, Oc, ?_⟩
      cases e : f ds with
      | stuck => rw [e] at hl; exact hl
      | ret d outs =>
        rw [e] at hl
        intro B2 H2 v s2 O2
        obtain ⟨sh, O3⟩ := O1.after hc s2 O2.sb O2.sr O2.br
        obtain ⟨Fc, Wc⟩ := O2.own
        obtain ⟨F3, W3⟩ := O1.own
        refine hl B2 H2 v (s1.trans s2) ?_
        obtain ⟨v', h1, h2⟩ := Wc.at_ 0 d sr rfl rfl
        cases h1
        obtain ⟨_, O4⟩ := O1.after hc s2 O2.sb O2.sr O2.br
        have W4 : Feet K Γ B2 R H2 σ ρ1 F3 := by
          refine ⟨fun i d s h hs => ?_, fun i p hp => ?_, W3.nd, W3.dj⟩
          · obtain ⟨v, h1, h2⟩ := W3.at_ i d s h hs
            exact ⟨v, h1, h2.mono s2 sh⟩
          · obtain ⟨n1, n2, n3⟩ := W3.no i p hp
            cases z : H1 p with
            | none => exact absurd z n1
            | some u =>
              have q := hc p
              rw [if_pos n2, z] at q
              exact ⟨by rw [sh p u z]; simp, O2.br p u q, n3⟩
        refine Ok.pushO O4.br O4.sb O4.sr O4.lσ O4.lρ W4 h2 (Wc.nd 0) fun p hp => ?_
        obtain ⟨m1, m2, m3⟩ := Wc.no 0 p hp
        have hp0 : ∀ u, H1 p = some u → False := fun u z => by
          have q := hc p
          cases zb : B1 p with
          | none => rw [if_pos zb, z, m3] at q; cases q
          | some w => rw [s2 p w zb] at m2; cases m2
        refine ⟨m1, m2, ?_, fun i hi => ?_⟩
        · cases z : R p with
          | none => rfl
          | some u => exact (hp0 u (O1.sr p u z)).elim
        · obtain ⟨k1, _, _⟩ := W3.no i p hi
          cases z : H1 p with
          | none => exact k1 z
          | some u => exact hp0 u z
      | exc x outs =>
        rw [e] at hl
        intro B2 H2 cls p l s2 np O2 q
        have hBp : B2 p = none := O2.br p _ upd_same
        have hHp : H2 p = some (.xd l) := O2.sr p _ upd_same
        have nB : B1 p = none := s2.free hBp
        have nH : H1 p = none := by have z := hc p; rw [if_pos nB, np] at z; exact z.symm
        have le : Same Rc (upd Rc p (.xd l)) := fun a u e => by rw [upd_ne (fun z => by subst z; rw [np] at e; cases e)]; exact e
        have O2' := O2.weakR le
        obtain ⟨sh, O3⟩ := O1.after hc s2 O2'.sb O2'.sr O2'.br
        obtain ⟨F3, W3⟩ := O1.own
        have W4 : Feet K Γ B2 R H2 σ ρ1 F3 := by
          refine ⟨fun i d s h hs => ?_, fun i p hp => ?_, W3.nd, W3.dj⟩
          · obtain ⟨v, h1, h2⟩ := W3.at_ i d s h hs
            exact ⟨v, h1, h2.mono s2 sh⟩
          · obtain ⟨n1, n2, n3⟩ := W3.no i p hp
            cases z : H1 p with
            | none => exact absurd z n1
            | some u =>
              have q := hc p
              rw [if_pos n2, z] at q
              exact ⟨by rw [sh p u z]; simp, O2'.br p u q, n3⟩
        exact hl B2 H2 cls p l (s1.trans s2) (O1.sr.free nH) (O3.addR W4 (fun i hi => (W3.no i p hi).1 nH) hHp hBp) q
    · rw [if_neg hn] at hl; exact hl.elim
/-- f(x, ..), x a name whose own thing the def may change -/
def eCallO (i n : Nat) (f : Den) (fa : ER (List D)) : ER D := fun ρ => match ρ[i]? with
  | some (some _) => (fa ρ).bind fun ds ρ => match ρ[i]? with
    | some (some d0) => if ds.length = n then (match f (d0 :: ds) with
      | .ret d outs => .ok d (ρ.set i outs.head?.join)
      | .exc e outs => .exc e (ρ.set i outs.head?.join)
      | .stuck => .stuck) else .stuck
    | _ => .stuck
  | _ => .stuck
theorem plug1 {n : Nat} {outs : Env} (i : Nat) {d : D} (h : (plug (n + 1) outs)[0]? = some (some d)) : outs.head?.join = some d := by
  unfold plug at h
  cases outs with
  | nil => simp at h
  | cons o r => simp at h; subst h; rfl
theorem feet_call {B B' R Rc H H' : Hp} {σ : L2.St} {ρ : Env} {F Fc : Nat → List Addr} {i : Nat} {s0 : Sh} {v0 : V} {o : Option D} {base : Nat} {Γc : List Sh} {σc : L2.St} {ρc : Env}
    (O : Ok K Γ B R H σ ρ) (W : Feet K Γ B R H σ ρ F) (hi : Γ[i]? = some s0) (hv : σ[i]? = some (some v0)) (hc : ∀ a, Rc a = if B a = none ∧ a ∉ F i then H a else none)
    (sb : Same B B') (sbh : Same B' H') (src : Same Rc H') (br : ∀ p o, Rc p = some o → B' p = none) (Wc : Feet K Γc B' Rc H' σc ρc Fc)
    (ho : ∀ d, o = some d → Own K B' H' s0 v0 d (Fc base)) :
    Ok K Γ B' R H' σ (ρ.set i o) ∧ Feet K Γ B' R H' σ (ρ.set i o) (fun j => if j = i then (if o.isSome then Fc base else []) else F j) ∧ ∀ b p, p ∈ Fc b → H' p ≠ none ∧ B' p = none ∧ R p = none ∧ ∀ j, j ≠ i → p ∉ F j := by
  have lB : ∀ p, B' p = none → B p = none := fun p h => by
    cases q : B p with
    | none => rfl
    | some u => rw [sb p u q] at h; cases h
  have keepF : ∀ j, j ≠ i → ∀ p ∈ F j, ∀ u, H p = some u → Rc p = some u := fun j hj p hp u hu => by
    rw [hc, if_pos ⟨(W.no j p hp).2.1, fun z => hj (W.dj j i p hp z)⟩]; exact hu
  have facts : ∀ b p, p ∈ Fc b → H' p ≠ none ∧ B' p = none ∧ R p = none ∧ ∀ j, j ≠ i → p ∉ F j := fun b p hp => by
    obtain ⟨m1, m2, m3⟩ := Wc.no b p hp
    refine ⟨m1, m2, ?_, fun j hj hpj => ?_⟩
    · cases z : R p with
      | none => rfl
      | some u =>
        have hH := O.sr p u z
        have nF : p ∉ F i := fun q => by rw [(W.no i p q).2.2] at z; cases z
        have q := hc p
        rw [if_pos ⟨lB p m2, nF⟩, hH, m3] at q
        cases q
    · cases z : H p with
      | none => exact (W.no j p hpj).1 z
      | some u => rw [keepF j hj p hpj u z] at m3; cases m3
  have li : i < Γ.length := (List.getElem?_eq_some_iff.mp hi).1
  have WW : Feet K Γ B' R H' σ (ρ.set i o) (fun j => if j = i then (if o.isSome then Fc base else []) else F j) := by
    refine ⟨fun j d s h hs => ?_, fun j p hp => ?_, fun j => ?_, fun j k p h1 h2 => ?_⟩
    · by_cases hj : j = i
      · subst hj
        rw [List.getElem?_set_self (by rw [O.lρ]; exact li)] at h
        cases h
        rw [hi] at hs; cases hs
        exact ⟨v0, hv, by simpa using ho d rfl⟩
      · rw [List.getElem?_set_ne (Ne.symm hj)] at h
        obtain ⟨v, h1, h2⟩ := W.at_ j d s h hs
        simp only [hj, if_false]
        exact ⟨v, h1, h2.at sb fun p hp u hu => src p u (keepF j hj p hp u hu)⟩
    · split at hp
      · split at hp
        · obtain ⟨a, b, c, _⟩ := facts base p hp; exact ⟨a, b, c⟩
        · exact absurd hp (by simp)
      · rename_i hj
        obtain ⟨n1, n2, n3⟩ := W.no j p hp
        cases z : H p with
        | none => exact absurd z n1
        | some u =>
          have q := keepF j hj p hp u z
          exact ⟨by rw [src p u q]; simp, br p u q, n3⟩
    · split
      · split
        · exact Wc.nd _
        · exact List.nodup_nil
      · exact W.nd _
    · split at h1 <;> split at h2
      · omega
      · split at h1
        · exact absurd h2 ((facts base p h1).2.2.2 k (by assumption))
        · exact absurd h1 (by simp)
      · split at h2
        · exact absurd h1 ((facts base p h2).2.2.2 j (by assumption))
        · exact absurd h2 (by simp)
      · exact W.dj _ _ p h1 h2
  refine ⟨⟨sbh, fun a u e => ?_, O.lσ, by simp [O.lρ], fun p u e => ?_, _, WW⟩, WW, facts⟩
  · have hH := O.sr a u e
    have nF : a ∉ F i := fun q => by rw [(W.no i a q).2.2] at e; cases e
    exact src a u (by rw [hc, if_pos ⟨O.br a u e, nF⟩]; exact hH)
  · have hH := O.sr p u e
    have nF : p ∉ F i := fun q => by rw [(W.no i p q).2.2] at e; cases e
    exact br p u (by rw [hc, if_pos ⟨O.br p u e, nF⟩]; exact hH)
theorem eok_callO {W : Wc} {f : Den} {i n : Nat} {s0 : Sh} {ta : TA} {fa : ER (List D)} (hi : Γ[i]? = some s0) (ha : AOk K mg W Γ ta fa) :
    EOk K mg W Γ (tCallS (spD K mg (s0 :: List.replicate n .pu) sr f) (WE W.W) (tCons (tVar i) ta)) sr (eCallO i n f fa) := by
  intro B R H σ ρ Q pw O hl
  unfold eCallO at hl
  split at hl
  · rename_i dz hz
    obtain ⟨Fz, Wz⟩ := O.own
    obtain ⟨v0, hv, _⟩ := Wz.at_ i dz s0 hz hi
    refine ⟨v0, hv, ha B R H σ ρ _ pw O ?_⟩
    cases e1 : fa ρ with
    | stuck => rw [e1] at hl; exact hl
    | exc x ρ1 => rw [e1] at hl; exact hl
    | ok ds ρ1 =>
      rw [e1] at hl
      intro B1 H1 vs s1 O1 r1
      simp only [Res.bind] at hl
      split at hl
      · rename_i d0 hd0
        by_cases hn : ds.length = n
        · rw [if_pos hn] at hl
          obtain ⟨F, W1⟩ := O1.own
          obtain ⟨v0', hv', own0⟩ := W1.at_ i d0 s0 hd0 hi
          rw [hv] at hv'; cases hv'
          let Rc : Hp := fun a => if B1 a = none ∧ a ∉ F i then H1 a else none
          have hc : ∀ a, Rc a = if B1 a = none ∧ a ∉ F i then H1 a else none := fun _ => rfl
          have Oc : Ok K (s0 :: List.replicate n .pu) B1 Rc H1 ((v0 :: vs).map some) ((d0 :: ds).map some) := by
            refine ⟨O1.sb, fun a o e => ?_, by simp [r1.length, hn], by simp [hn], fun p o e => ?_, fun j => match j with | 0 => F i | _ + 1 => [], ⟨fun j d s h hs => ?_, fun j p hp => ?_, fun j => ?_, fun j k p h1 h2 => ?_⟩⟩
            · rw [hc] at e; split at e; exact e; cases e
            · rw [hc] at e; split at e; rename_i z; exact z.1; cases e
            · cases j with
              | zero => simp at h hs; subst h hs; exact ⟨v0, rfl, own0⟩
              | succ j =>
                have hs : (List.replicate n Sh.pu)[j]? = some s := by simpa using hs
                rw [List.getElem?_replicate] at hs
                split at hs
                · cases hs
                  have h : (ds.map some)[j]? = some (some d) := by simpa using h
                  rw [List.getElem?_map] at h
                  cases q : ds[j]? with
                  | none => rw [q] at h; cases h
                  | some d' =>
                    rw [q] at h; cases h
                    obtain ⟨v, h1, h2⟩ := r1.get q
                    exact ⟨v, by simp [h1], h2, rfl⟩
                · cases hs
            · cases j with
              | zero =>
                obtain ⟨n1, n2, _⟩ := W1.no i p hp
                exact ⟨n1, n2, by rw [hc, if_neg (fun z => z.2 hp)]⟩
              | succ j => exact absurd hp (by simp)
            · cases j with
              | zero => exact W1.nd i
              | succ j => exact List.nodup_nil
            · cases j with
              | zero =>
                cases k with
                | zero => rfl
                | succ k => exact absurd h2 (by simp)
              | succ j => exact absurd h1 (by simp)
          refine ⟨B1, Rc, d0 :: ds, Oc, ?_⟩
          cases e : f (d0 :: ds) with
          | stuck => rw [e] at hl; exact hl
          | ret d outs =>
            rw [e] at hl
            intro B2 H2 v s2 O2
            obtain ⟨Fc, Wc⟩ := O2.own
            have ho : ∀ d1, outs.head?.join = some d1 → Own K B2 H2 s0 v0 d1 (Fc 1) := fun d1 hd1 => by
              have e0 : (plug (s0 :: List.replicate n Sh.pu).length outs)[0]? = some (some d1) := by
                unfold plug
                cases outs with
                | nil => cases hd1
                | cons o r => simp at hd1 ⊢; exact hd1
              obtain ⟨v', h1, h2⟩ := Wc.at_ 1 d1 s0 (by simpa using e0) rfl
              have : v' = v0 := by simpa using h1.symm
              subst this; exact h2
            obtain ⟨O4, W4, facts⟩ := feet_call (i := i) (base := 1) O1 W1 hi hv hc s2 O2.sb O2.sr O2.br Wc ho
            refine hl B2 H2 v (s1.trans s2) ?_
            obtain ⟨v', h1, h2⟩ := Wc.at_ 0 d sr rfl rfl
            cases h1
            refine Ok.pushO O4.br O4.sb O4.sr O4.lσ O4.lρ W4 h2 (Wc.nd 0) fun p hp => ?_
            obtain ⟨a, b, c, e⟩ := facts 0 p hp
            refine ⟨a, b, c, fun j hj => ?_⟩
            split at hj
            · split at hj
              · have := Wc.dj _ _ p hp hj; omega
              · exact absurd hj (by simp)
            · exact e j (by assumption) hj
          | exc x outs =>
            rw [e] at hl
            intro B2 H2 cls p l s2 np O2 q
            have hBp : B2 p = none := O2.br p _ upd_same
            have hHp : H2 p = some (.xd l) := O2.sr p _ upd_same
            have nB : B1 p = none := s2.free hBp
            have le : Same Rc (upd Rc p (.xd l)) := fun a u e => by rw [upd_ne (fun z => by subst z; rw [np] at e; cases e)]; exact e
            obtain ⟨Fc, Wc0⟩ := O2.own
            have npc : ∀ b, p ∉ Fc b := fun b z => by have := (Wc0.no b p z).2.2; rw [upd_same] at this; cases this
            have Wc : Feet K (s0 :: List.replicate n .pu) B2 Rc H2 ((v0 :: vs).map some) (plug (s0 :: List.replicate n Sh.pu).length outs) Fc :=
              ⟨Wc0.at_, fun b q hq => ⟨(Wc0.no b q hq).1, (Wc0.no b q hq).2.1, le.free (Wc0.no b q hq).2.2⟩, Wc0.nd, Wc0.dj⟩
            have O2' := O2.weakR le
            have ho : ∀ d1, outs.head?.join = some d1 → Own K B2 H2 s0 v0 d1 (Fc 0) := fun d1 hd1 => by
              have e0 : (plug (s0 :: List.replicate n Sh.pu).length outs)[0]? = some (some d1) := by
                unfold plug
                cases outs with
                | nil => cases hd1
                | cons o r => simp at hd1 ⊢; exact hd1
              obtain ⟨v', h1, h2⟩ := Wc.at_ 0 d1 s0 e0 rfl
              have : v' = v0 := by simpa using h1.symm
              subst this; exact h2
            obtain ⟨O4, W4, _⟩ := feet_call (i := i) (base := 0) O1 W1 hi hv hc s2 O2'.sb O2'.sr O2'.br Wc ho
            have cs : p ∈ F i ∨ H1 p = none := by
              by_cases z : p ∈ F i
              · exact .inl z
              · have q' := hc p
                rw [if_pos ⟨nB, z⟩, np] at q'
                exact .inr q'.symm
            have nR : R p = none := by
              rcases cs with z | z
              · exact (W1.no i p z).2.2
              · exact O1.sr.free z
            refine hl B2 H2 cls p l (s1.trans s2) nR (O4.addR W4 (fun j hj => ?_) hHp hBp) q
            split at hj
            · split at hj
              · exact npc 0 hj
              · exact absurd hj (by simp)
            · rename_i hji
              rcases cs with z | z
              · exact hji (W1.dj j i p hj z)
              · exact (W1.no j p hj).1 z
        · rw [if_neg hn] at hl; exact hl.elim
      · exact hl.elim
  · exact hl.elim
end
end DL
namespace DL
open PySem L2
/-- nothing may be raised -/
abbrev w0 (W : Wc) : Wc := ⟨fun _ _ _ _ => False, fun _ _ => True⟩
section
variable {K : PySem.W.Frag} {mg : Mg} {W : Wc} {Γ : List Sh}
/-! ### what is walked -/
theorem walk_list {B : Hp} {a : Addr} {vs : List V} {ds : List D} (h : SqL K B a vs) (r : Reps K B vs ds) : Walks K B (Itl K a) ds where
  go := fun B2 H2 s1 s2 i hi => by
    have hl := r.length
    exact ⟨vs, vs[i]'(by omega), s2.seq (s1.seq h), List.getElem?_eq_getElem (by omega)⟩
  yld := fun B2 H2 s1 s2 i d x H3 e y => by
    obtain ⟨rfl, y⟩ := y
    obtain ⟨v, h1, h2⟩ := r.get e
    have := y vs (s2.seq (s1.seq h))
    rw [h1] at this; cases this
    exact ⟨B2, Same.refl _, Same.refl _, s2, fun _ _ q => .inl q, h2.mono s1⟩
  stop := fun B2 H2 s1 s2 i hi => ⟨vs, s2.seq (s1.seq h), by rw [r.length]; exact hi⟩
theorem walk_tup {B : Hp} {a : Addr} {vs : List V} {ds : List D} (h : SqT K B a vs) (r : Reps K B vs ds) : Walks K B (Itt K a) ds where
  go := fun B2 H2 s1 s2 i hi => by
    have hl := r.length
    exact ⟨vs, vs[i]'(by omega), sameT s2 (sameT s1 h), List.getElem?_eq_getElem (by omega)⟩
  yld := fun B2 H2 s1 s2 i d x H3 e y => by
    obtain ⟨rfl, y⟩ := y
    obtain ⟨v, h1, h2⟩ := r.get e
    have := y vs (sameT s2 (sameT s1 h))
    rw [h1] at this; cases this
    exact ⟨B2, Same.refl _, Same.refl _, s2, fun _ _ q => .inl q, h2.mono s1⟩
  stop := fun B2 H2 s1 s2 i hi => ⟨vs, sameT s2 (sameT s1 h), by rw [r.length]; exact hi⟩
def iL (f : ER D) : ER (List D) := fun ρ => (f ρ).bind fun d ρ => match d with
  | .lst ds => .ok ds ρ
  | _ => .stuck
def iT (f : ER D) : ER (List D) := fun ρ => (f ρ).bind fun d ρ => match d with
  | .tup ds => .ok ds ρ
  | _ => .stuck
theorem iok_list {te : TE} {f : ER D} (h : EOk K mg W Γ te .pu f) : IOk K mg W Γ (iList K te) (iL f) := by
  intro B R H σ ρ Q pw O hl
  unfold iL at hl
  refine h B R H σ ρ _ pw O ?_
  cases e : f ρ with
  | stuck => rw [e] at hl; exact hl
  | exc x ρ1 => rw [e] at hl; exact hl
  | ok d ρ1 =>
    rw [e] at hl
    intro B1 H1 v s1 O1
    have rv := O1.top
    cases rv with
    | lst hq r => exact ⟨_, rfl, ⟨_, O1.sb.seq (SqL.of hq)⟩, hl B1 H1 _ s1 O1.pop (walk_list (SqL.of hq) r)⟩
    | _ => exact hl.elim
theorem iok_tup {te : TE} {f : ER D} (h : EOk K mg W Γ te .pu f) : IOk K mg W Γ (iTup K te) (iT f) := by
  intro B R H σ ρ Q pw O hl
  unfold iT at hl
  refine h B R H σ ρ _ pw O ?_
  cases e : f ρ with
  | stuck => rw [e] at hl; exact hl
  | exc x ρ1 => rw [e] at hl; exact hl
  | ok d ρ1 =>
    rw [e] at hl
    intro B1 H1 v s1 O1
    have rv := O1.top
    cases rv with
    | tup hq r => exact ⟨_, rfl, ⟨_, sameT O1.sb hq⟩, hl B1 H1 _ s1 O1.pop (walk_tup hq r)⟩
    | _ => exact hl.elim
/-- the ints of a range -/
def rangeD (lo : Int) (n : Nat) : List D := (List.range n).map fun (i : Nat) => D.int (lo + (i : Int))
theorem walk_range {B : Hp} {lo : Int} {n : Nat} : Walks K B (Itr lo n) (rangeD lo n) where
  go := fun B2 H2 s1 s2 i hi => by show i < n; simpa [rangeD] using hi
  yld := fun B2 H2 s1 s2 i d x H3 e y => by
    obtain ⟨rfl, rfl⟩ := y
    refine ⟨B2, Same.refl _, Same.refl _, s2, fun _ _ q => .inl q, ?_⟩
    unfold rangeD at e
    rw [List.getElem?_map] at e
    cases q : (List.range n)[i]? with
    | none => rw [q] at e; cases e
    | some j =>
      rw [q] at e; cases e
      have := (List.getElem?_eq_some_iff.mp q)
      obtain ⟨h1, h2⟩ := this
      simp at h2
      subst h2
      exact .int _
  stop := fun B2 H2 s1 s2 i hi => by show n ≤ i; simpa [rangeD] using hi
def inRg (j : Int) : Bool := decide (-(2 ^ 62) ≤ j) && decide (j < 2 ^ 62)
def iR1 (f : ER (List D)) : ER (List D) := fun ρ => (f ρ).bind fun ds ρ => match ds with
  | [.int j] => if inRg j = true then .ok (rangeD 0 j.toNat) ρ else .stuck
  | _ => .stuck
def iR2 (f : ER (List D)) : ER (List D) := fun ρ => (f ρ).bind fun ds ρ => match ds with
  | [.int i, .int j] => if inRg i = true ∧ inRg j = true then .ok (rangeD i (j - i).toNat) ρ else .stuck
  | _ => .stuck
theorem iok_range1 {ta : TA} {f : ER (List D)} (h : AOk K mg W Γ ta f) : IOk K mg W Γ (iRng1 ta) (iR1 f) := by
  intro B R H σ ρ Q pw O hl
  unfold iR1 at hl
  refine h B R H σ ρ _ pw O ?_
  cases e : f ρ with
  | stuck => rw [e] at hl; exact hl
  | exc x ρ1 => rw [e] at hl; exact hl
  | ok ds ρ1 =>
    rw [e] at hl
    intro B1 H1 vs s1 O1 r
    simp only [Res.bind] at hl
    split at hl
    · rename_i j
      cases r with
      | cons r1 r2 =>
        cases r2
        cases r1
        by_cases hj : inRg j = true
        · rw [if_pos hj] at hl
          simp only [inRg, Bool.and_eq_true, decide_eq_true_eq] at hj
          exact ⟨j, rfl, hj.1, hj.2, hl B1 H1 _ s1 O1 walk_range⟩
        · rw [if_neg hj] at hl; exact hl.elim
    · exact hl.elim
theorem iok_range2 {ta : TA} {f : ER (List D)} (h : AOk K mg W Γ ta f) : IOk K mg W Γ (iRng2 ta) (iR2 f) := by
  intro B R H σ ρ Q pw O hl
  unfold iR2 at hl
  refine h B R H σ ρ _ pw O ?_
  cases e : f ρ with
  | stuck => rw [e] at hl; exact hl
  | exc x ρ1 => rw [e] at hl; exact hl
  | ok ds ρ1 =>
    rw [e] at hl
    intro B1 H1 vs s1 O1 r
    simp only [Res.bind] at hl
    split at hl
    · rename_i i j
      cases r with
      | cons r1 r2 =>
        cases r2 with
        | cons r2 r3 =>
          cases r3
          cases r1
          cases r2
          by_cases hj : inRg i = true ∧ inRg j = true
          · rw [if_pos hj] at hl
            simp only [inRg, Bool.and_eq_true, decide_eq_true_eq] at hj
            exact ⟨i, j, rfl, ⟨hj.1.1, hj.1.2, hj.2.1, hj.2.2⟩, hl B1 H1 _ s1 O1 walk_range⟩
          · rw [if_neg hj] at hl; exact hl.elim
    · exact hl.elim
/-- the signs of a text -/
def signsD (x : Str) : List D := x.cps.toList.map fun c => .str ⟨#[c]⟩
theorem walk_str {B : Hp} {x : Str} : Walks K B (Its x) (signsD x) where
  go := fun B2 H2 s1 s2 i hi => by simpa [signsD, Its] using hi
  yld := fun B2 H2 s1 s2 i d y H3 e q => by
    obtain ⟨rfl, c, hc, rfl⟩ := q
    refine ⟨B2, Same.refl _, Same.refl _, s2, fun _ _ q => .inl q, ?_⟩
    unfold signsD at e
    rw [List.getElem?_map, Array.getElem?_toList, hc] at e
    cases e
    exact .str _
  stop := fun B2 H2 s1 s2 i hi => by simpa [signsD, Its] using hi
def iS (f : ER D) : ER (List D) := fun ρ => (f ρ).bind fun d ρ => match d with
  | .str x => .ok (signsD x) ρ
  | _ => .stuck
theorem iok_str {te : TE} {f : ER D} (h : EOk K mg W Γ te .pu f) : IOk K mg W Γ (iStr te) (iS f) := by
  intro B R H σ ρ Q pw O hl
  unfold iS at hl
  refine h B R H σ ρ _ pw O ?_
  cases e : f ρ with
  | stuck => rw [e] at hl; exact hl
  | exc x ρ1 => rw [e] at hl; exact hl
  | ok d ρ1 =>
    rw [e] at hl
    intro B1 H1 v s1 O1
    have rv := O1.top
    cases rv with
    | str x => exact ⟨x, rfl, hl B1 H1 _ s1 O1.pop walk_str⟩
    | _ => exact hl.elim

/-! ### a list that grows beside what stands -/
theorem Ok.guard {B R H : Hp} {σ : L2.St} {ρ : Env} {p : Addr} {o : HO} (O : Ok K Γ B R H σ ρ) (h : H p = none) : Ok K Γ B (upd R p o) (upd H p o) σ ρ := by
  obtain ⟨F, W⟩ := O.own
  have sh := same_upd (o := o) h
  refine ⟨O.sb.trans sh, fun a u e => ?_, O.lσ, O.lρ, fun a u e => ?_, F, ⟨fun i d s h1 hs => ?_, fun i q hq => ?_, W.nd, W.dj⟩⟩
  · by_cases q : a = p
    · subst q; rw [upd_same] at e ⊢; exact e
    · rw [upd_ne q] at e ⊢; exact O.sr a u e
  · by_cases q : a = p
    · subst q; exact O.sb.free h
    · rw [upd_ne q] at e; exact O.br a u e
  · obtain ⟨v, h2, h3⟩ := W.at_ i d s h1 hs
    exact ⟨v, h2, h3.mono (Same.refl _) sh⟩
  · obtain ⟨n1, n2, n3⟩ := W.no i q hq
    have ne : q ≠ p := fun z => by subst z; exact n1 h
    rw [upd_ne ne, upd_ne ne]
    exact ⟨n1, n2, n3⟩
theorem Ok.reguard {B R H : Hp} {σ : L2.St} {ρ : Env} {p : Addr} {o o' : HO} (O : Ok K Γ B (upd R p o) H σ ρ) : Ok K Γ B (upd R p o') (upd H p o') σ ρ := by
  obtain ⟨F, W⟩ := O.own
  have hB : B p = none := O.br p o upd_same
  have nF : ∀ i, p ∉ F i := fun i z => by have := (W.no i p z).2.2; rw [upd_same] at this; cases this
  refine ⟨fun a u e => ?_, fun a u e => ?_, O.lσ, O.lρ, fun a u e => ?_, F, ⟨fun i d s h1 hs => ?_, fun i q hq => ?_, W.nd, W.dj⟩⟩
  · rw [upd_ne (fun z => by subst z; rw [hB] at e; cases e)]; exact O.sb a u e
  · by_cases q : a = p
    · subst q; rw [upd_same] at e ⊢; exact e
    · rw [upd_ne q] at e ⊢; exact O.sr a u (by rw [upd_ne q]; exact e)
  · by_cases q : a = p
    · subst q; exact hB
    · rw [upd_ne q] at e; exact O.br a u (by rw [upd_ne q]; exact e)
  · obtain ⟨v, h2, h3⟩ := W.at_ i d s h1 hs
    exact ⟨v, h2, h3.at (Same.refl _) fun q hq u hu => by rw [upd_ne (fun z => nF i (by rw [← z]; exact hq))]; exact hu⟩
  · obtain ⟨n1, n2, n3⟩ := W.no i q hq
    have ne : q ≠ p := fun z => nF i (by rw [← z]; exact hq)
    rw [upd_ne ne] at n3 ⊢
    rw [upd_ne ne]
    exact ⟨n1, n2, n3⟩
theorem Ok.unguard {B R H : Hp} {σ : L2.St} {ρ : Env} {p : Addr} {vs : List V} {ds : List D} (O : Ok K Γ B (upd R p (.lst vs)) H σ ρ) (h : R p = none) (r : Reps K B vs ds) : Ok K (.ls :: Γ) B R H (some (.ref p) :: σ) (some (.lst ds) :: ρ) := by
  obtain ⟨F, W⟩ := O.own
  have hB : B p = none := O.br p _ upd_same
  have nF : ∀ i, p ∉ F i := fun i z => by have := (W.no i p z).2.2; rw [upd_same] at this; cases this
  have hH : H p = some (.lst vs) := O.sr p _ upd_same
  have le : ∀ a u, R a = some u → upd R p (.lst vs) a = some u := fun a u e => by rw [upd_ne (fun z => by subst z; rw [h] at e; cases e)]; exact e
  refine Ok.pushO (f := [p]) (F := F) (fun a u e => O.br a u (le a u e)) O.sb (fun a u e => O.sr a u (le a u e)) O.lσ O.lρ ⟨W.at_, fun i q hq => ?_, W.nd, W.dj⟩ ⟨p, vs, ds, rfl, rfl, rfl, hH, r⟩ (by simp) fun q hq => ?_
  · obtain ⟨n1, n2, n3⟩ := W.no i q hq
    have ne : q ≠ p := fun z => nF i (by rw [← z]; exact hq)
    rw [upd_ne ne] at n3
    exact ⟨n1, n2, n3⟩
  · have e : q = p := by simpa using hq
    subst e
    exact ⟨by rw [hH]; simp, hB, h, nF⟩

/-! ### comprehensions -/
def wipeD (ρ : Env) : List Nat → Env
  | [] => ρ
  | v :: vs => (wipeD ρ vs).set v none
theorem wipeD_length (ρ : Env) : ∀ vs : List Nat, (wipeD ρ vs).length = ρ.length
  | [] => rfl
  | v :: vs => by unfold wipeD; rw [List.length_set, wipeD_length ρ vs]
theorem wipeD_some {ρ : Env} {i : Nat} {d : D} : ∀ {vs : List Nat}, (wipeD ρ vs)[i]? = some (some d) → ρ[i]? = some (some d) ∧ i ∉ vs
  | [], h => ⟨h, by simp⟩
  | v :: vs, h => by
    unfold wipeD at h
    by_cases e : v = i
    · subst e
      by_cases hl : v < (wipeD ρ vs).length
      · rw [List.getElem?_set_self hl] at h; cases h
      · rw [List.getElem?_eq_none (by simpa using hl)] at h; cases h
    · rw [List.getElem?_set_ne e] at h
      obtain ⟨h1, h2⟩ := wipeD_some h
      exact ⟨h1, by simp only [List.mem_cons, not_or]; exact ⟨fun z => e z.symm, h2⟩⟩
theorem wipe_get {σ : L2.St} {i : Nat} : ∀ {vs : List Nat}, i ∉ vs → (wipe σ vs)[i]? = σ[i]?
  | [], _ => rfl
  | v :: vs, h => by
    unfold wipe
    rw [List.getElem?_set_ne (fun e => h (by simp [e])), wipe_get (fun z => h (List.mem_cons_of_mem _ z))]
theorem wipe_in {σ : L2.St} {i : Nat} : ∀ {vs : List Nat}, i ∈ vs → i < σ.length → (wipe σ vs)[i]? = some none
  | v :: vs, h, hl => by
    unfold wipe
    by_cases e : v = i
    · subst e; rw [List.getElem?_set_self (by rw [wipe_length]; exact hl)]
    · rw [List.getElem?_set_ne e]
      exact wipe_in (by simpa [Ne.symm e] using h) hl
theorem wipe_same {σ σ' : L2.St} {vs : List Nat} (hl : σ'.length = σ.length) (h : ∀ j, j ∉ vs → σ'[j]? = σ[j]?) : wipe σ' vs = wipe σ vs := by
  refine List.ext_getElem? fun j => ?_
  by_cases hj : j ∈ vs
  · by_cases hlt : j < σ.length
    · rw [wipe_in hj (by omega), wipe_in hj hlt]
    · rw [List.getElem?_eq_none (by rw [wipe_length]; omega), List.getElem?_eq_none (by rw [wipe_length]; omega)]
  · rw [wipe_get hj, wipe_get hj]; exact h j hj
theorem Ok.wiped {B R H : Hp} {σ σ' : L2.St} {ρ : Env} {vs : List Nat} (O : Ok K Γ B R H σ ρ) (hl : σ'.length = σ.length) (h : ∀ j, j ∉ vs → σ'[j]? = σ[j]?) : Ok K Γ B R H σ' (wipeD ρ vs) :=
  O.drop hl (wipeD_length _ _) fun i d e => by
    obtain ⟨h1, h2⟩ := wipeD_some e
    exact ⟨h1, h i h2⟩
def compF (gf : D → Env → Option Env) (ft : ER Bool) (fe : ER D) (vs : List Nat) : List D → ER (List D)
  | [], ρ => .ok [] ρ
  | d :: es, ρ => match gf d ρ with
    | none => .stuck
    | some ρ1 => (ft ρ1).bind fun b ρ2 => match b with
      | true => (fe ρ2).bind fun y ρ3 => (compF gf ft fe vs es (wipeD ρ3 vs)).bind fun ys ρ4 => .ok (y :: ys) ρ4
      | false => compF gf ft fe vs es (wipeD ρ2 vs)
def eLc (fi : ER (List D)) (gf : D → Env → Option Env) (ft : ER Bool) (fe : ER D) (vs : List Nat) : ER D := fun ρ => (fi ρ).bind fun es ρ => match compF gf ft fe vs es (wipeD ρ vs) with
  | .ok ys ρ' => if ys.length ≤ sizeLine then .ok (.lst ys) ρ' else .stuck
  | _ => .stuck
def bYes : ER Bool := fun ρ => .ok true ρ
theorem tok_yes : TOk K mg W Γ tYes bYes := fun B R H σ ρ Q pw O h => h B H (Same.refl _) O
theorem eok_lc {wi : TI} {g : TG} {tt : TT} {te : TE} {vs tv : List Nat} {fi : ER (List D)} {gf : D → Env → Option Env} {ft : ER Bool} {fe : ER D} (hv : ∀ i ∈ tv, i ∈ vs)
    (hi : IOk K mg W Γ wi fi) (hg : GOk (K := K) Γ Γ tv g gf) (ht : TOk K mg (w0 W) Γ tt ft) (he : EOk K mg (w0 W) Γ te .pu fe) : EOk K mg W Γ (tLc wi g tt te vs) .ls (eLc fi gf ft fe vs) := by
  intro B R H σ ρ Q pw O hl
  unfold eLc at hl
  refine hi B R H σ ρ _ pw O ?_
  cases e : fi ρ with
  | stuck => rw [e] at hl; exact hl
  | exc x ρ1 => rw [e] at hl; exact hl
  | ok es ρ1 =>
    rw [e] at hl
    simp only [Res.bind] at hl
    intro B1 H1 J s1 O1 wk D hD
    cases e2 : compF gf ft fe vs es (wipeD ρ1 vs) with
    | stuck => rw [e2] at hl; exact hl.elim
    | exc x ρ2 => rw [e2] at hl; exact hl.elim
    | ok ys ρf =>
      rw [e2] at hl
      simp only at hl
      by_cases hz : ys.length ≤ sizeLine
      · rw [if_pos hz] at hl
        have hRD : R D = none := O1.sr.free hD
        refine ⟨fun i m H' => m = es.length - i ∧ i ≤ es.length ∧ ∃ B' ρ' acc accv rest, Same B1 B' ∧ Ok K Γ B' (upd R D (.lst accv)) H' (wipe σ vs) ρ' ∧ Reps K B' accv acc ∧ compF gf ft fe vs (es.drop i) ρ' = .ok rest ρf ∧ acc ++ rest = ys,
          ⟨es.length, by simp, Nat.zero_le _, B1, wipeD ρ1 vs, [], [], ys, Same.refl _, (O1.guard hD).wiped (wipe_length _ _) (fun j hj => wipe_get hj), .nil, e2, rfl⟩, ?_⟩
        rintro i m H2 ⟨rfl, hle, B2, ρ2, acc, accv, rest, s2, O2, r2, c2, t2⟩
        by_cases hlt : i < es.length
        · refine .inr ⟨wk.go B2 H2 s2 O2.sb i hlt, fun H' => i < es.length ∧ ∃ B' ρ' acc accv rest, Same B1 B' ∧ Ok K Γ B' (upd R D (.lst accv)) H' (wipe σ vs) ρ' ∧ Reps K B' accv acc ∧ compF gf ft fe vs (es.drop (i + 1)) ρ' = .ok rest ρf ∧ acc ++ rest = ys,
            fun H' n => ⟨es.length - (i + 1), by omega, rfl, by omega, n.2⟩, fun x H3 y => ?_⟩
          obtain ⟨B3, sb3, sh3, sbh3, nw3, rx⟩ := wk.yld B2 H2 s2 O2.sb i es[i] x H3 (by simp [hlt]) y
          have O3 := O2.grow sb3 sh3 sbh3 nw3
          rw [List.drop_eq_getElem_cons hlt] at c2
          unfold compF at c2
          cases e3 : gf es[i] ρ2 with
          | none => rw [e3] at c2; cases c2
          | some ρ3 =>
            rw [e3] at c2
            simp only at c2
            refine hg B3 _ H3 _ ρ2 x _ ρ3 _ O3 rx e3 fun σ4 O4 k4 => ?_
            have hl4 : σ4.length = (wipe σ vs).length := O4.lσ.trans O3.lσ.symm
            have k4' : ∀ j, j ∉ vs → σ4[j]? = (wipe σ vs)[j]? := fun j hj => k4 j fun z => hj (hv j z)
            refine ⟨?_, ?_⟩
            · rw [wipe_same hl4 k4']
              exact wipe_same (wipe_length _ _) fun j hj => wipe_get hj
            · refine ht B3 _ H3 σ4 ρ3 _ trivial O4 ?_
              cases e4 : ft ρ3 with
              | stuck => rw [e4] at c2; cases c2
              | exc x ρ5 => rw [e4] at c2; cases c2
              | ok b ρ5 =>
                rw [e4] at c2
                simp only [Res.bind] at c2
                intro B5 H5 s5 O5
                cases b with
                | false =>
                  rw [if_neg Bool.false_ne_true]
                  simp only at c2
                  exact ⟨hlt, B5, wipeD ρ5 vs, acc, accv, rest, (s2.trans sb3).trans s5, O5.wiped hl4.symm (fun j hj => (k4' j hj).symm), r2.mono (sb3.trans s5), c2, t2⟩
                | true =>
                  rw [if_pos rfl]
                  refine he B5 _ H5 σ4 ρ5 _ trivial O5 ?_
                  cases e6 : fe ρ5 with
                  | stuck => rw [e6] at c2; cases c2
                  | exc x ρ6 => rw [e6] at c2; cases c2
                  | ok yd ρ6 =>
                    rw [e6] at c2
                    simp only at c2
                    intro B6 H6 yv s6 O6
                    cases e7 : compF gf ft fe vs (es.drop (i + 1)) (wipeD ρ6 vs) with
                    | stuck => rw [e7] at c2; cases c2
                    | exc x ρ7 => rw [e7] at c2; cases c2
                    | ok ys' ρ7 =>
                      rw [e7] at c2
                      cases c2
                      have hacc : accv.length < sizeLine := by
                        have h1 := r2.length
                        have h2 := congrArg List.length t2
                        simp at h2
                        omega
                      refine ⟨accv, O6.sr D _ upd_same, hacc, hlt, B6, wipeD ρ6 vs, acc ++ [yd], accv ++ [yv], ys', ((s2.trans sb3).trans s5).trans s6, ?_, ?_, e7, by rw [← t2]; simp⟩
                      · exact (O6.pop.reguard (o' := .lst (accv ++ [yv]))).wiped hl4.symm fun j hj => (k4' j hj).symm
                      · exact (r2.mono ((sb3.trans s5).trans s6)).snoc O6.top
        · have ei : i = es.length := by omega
          refine .inl ⟨wk.stop B2 H2 s2 O2.sb i (by omega), ?_⟩
          rw [ei, List.drop_length] at c2
          cases c2
          have t3 : acc = ys := by simpa using t2
          subst t3
          have O3 := O2.unguard hRD r2
          refine hl B2 H2 _ (s1.trans s2) (O3.drop (by simp [wipe_length]) (by simp) fun j d hj => ?_)
          cases j with
          | zero => exact ⟨hj, rfl⟩
          | succ j =>
            refine ⟨hj, ?_⟩
            have hj : ρf[j]? = some (some d) := by simpa using hj
            by_cases hv : j ∈ vs
            · obtain ⟨F, W⟩ := O2.own
              exfalso
              have hjl : j < Γ.length := by have := (List.getElem?_eq_some_iff.mp hj).1; rw [O2.lρ] at this; exact this
              obtain ⟨v, h1, _⟩ := W.at_ j d Γ[j] hj (by simp [hjl])
              rw [wipe_in hv (by rw [O.lσ]; exact hjl)] at h1
              cases h1
            · simp [wipe_get hv]
      · rw [if_neg hz] at hl; exact hl.elim
end
end DL
/-! An own error whose __init__ says super().__init__(f1, ..) and self.f1 = f1, ..: made, raised, read. -/
namespace PySem
namespace DLX
open Builtin Builtin.ObjectAttr
open PySem.W PySem.Calls PyProof.Rows PySem.HandSPX
abbrev Pl := Pos × Pos × Pos × Pos × Pos
/-- super().__init__(f1, ..) -/
def sSup (l : List (Str × Pl)) (p1 p2 p3 p4 p5 : Pos) : Stmt := .Expr (.Call (.Attribute (.Call (.Name "super" p1) [] [] p2) "__init__" p3) (l.map fun q => .Name q.1 q.2.1) [] p4) p5
/-- self.f = f -/
def sSto (q : Str × Pl) : Stmt := .Assign [.Attribute (.Name "self" q.2.2.1) q.1 q.2.2.2.1] (.Name q.1 q.2.2.2.2.1) q.2.2.2.2.2
def bdy (l : List (Str × Pl)) (p1 p2 p3 p4 p5 : Pos) : List Stmt := sSup l p1 p2 p3 p4 p5 :: l.map sSto
/-- what the written part says of the class nm at C, whose __init__ stands at fI, its fields fs -/
structure ExTxt (prog : Program) (K : Frag) (mg : Str → Option Value) (nm : Str) (C : Addr) (fs : List Str) : Prop where
  gC : mg nm = some (.ref C)
  kC : keepIn K (.ref C) = true
  cls : ∃ n q N bs bm sn sub ab col dd k0 k1 k2 k3 k5, K.lookup C = some (excClassObj n q C N bs bm true sn sub ab col dd k0 k1 k2 k3 k5 "ValueError.__new__") ∧ refsVE bm = true ∧ alongIn K "__init__" bm = some (some (.builtin "ValueError.__init__"))
  sa : findIn K (.ref C) "__setattr__" = some (some (.builtin "object.__setattr__"))
  ga : findIn K (.ref C) "__getattribute__" = some (some (.builtin "BaseException.__getattribute__"))
  gg : findIn K (.ref C) "__getattr__" = some none
  noF : ∀ f ∈ fs, findIn K (.ref C) f = some none
  exC : subIn K (.ref C) (.type "BaseException") = some true
  tyC : typeIn K (.ref C) = some (.type "type")
  hdC : hasDictIn K C = true
  op : nsIn K cStatics "thirdparty.any" = some none
  sup : mg "super" = none
  nd : fs.Nodup
  few : fs.length ≤ 3
  fn : ∃ fI, findIn K (.ref C) "__init__" = some (some (.ref fI)) ∧ typeIn K (.ref fI) = some (.type "function") ∧
    ∃ (oc : Value) (od : Option Addr) (qual : Str) (ps : Arguments) (l : List (Str × Pl)) (p1 p2 p3 p4 p5 : Pos) (sc : Scope) (doc pm ct : Value) (an : Option Addr) (osl : Array (Option Value)) (cda cc : Addr)
      (ccl : Value) (cdd : Option Addr) (vs : Array Value) (ccs : Array (Option Value)) (file : Str) (tf : Tok) (cl : Value) (cld : Option Addr) (csl : Array (Option Value)),
    K.lookup fI = some ⟨oc, od, .func (fnX "__init__" qual ps (bdy l p1 p2 p3 p4 p5) sc [("__class__", cc)] .none .none doc pm an (.ref cda) ct), osl⟩ ∧ codeIn K (.ref cda) qual = true ∧
    (p3.endLine == p4.line) = true ∧ l.map (·.1) = fs ∧ K.lookup cda = some ⟨ccl, cdd, .fields vs, ccs⟩ ∧ vs[2]? = some (.str file tf) ∧ ((prog.main.file : Str) == file) = true ∧ K.lookup cc = some ⟨cl, cld, .cell (some (.ref C)), csl⟩ ∧
    (prog.main.scope.names.lookup ("super" : Str)).isSome = false ∧ sc.kind = .function ∧ sc.isCoroutine = false ∧ sc.isGenerator = false ∧ (∀ x ∈ sc.names, x.2 ≠ .cell) ∧ sc.names.lookup ("self" : Str) = some .local ∧ (∀ f ∈ fs, sc.names.lookup f = some .local ∧ (f == ("__debug__" : Str)) = false ∧ f ≠ ("self" : Str)) ∧
    sc.names.lookup ("super" : Str) = some .globalImplicit ∧ sc.names.lookup ("__class__" : Str) = some .free ∧ (ps.posonlyargs ++ ps.args).head?.map (·.arg) = some ("self" : Str) ∧
    (∀ us : List Value, us.length = fs.length + 1 → bindArgs (fnX "__init__" qual ps (bdy l p1 p2 p3 p4 p5) sc [("__class__", cc)] .none .none doc pm an (.ref cda) ct) ⟨us, []⟩ = pure ((("self" : Str) :: fs).zip us))
section
variable {M : Model} {A : Around} {E : Value → Shared → Prop} {s : Shared}
theorem starEach_name {x : Str} {p : Pos} {es : List Expr} {env : Env} : starEach (.Name x p :: es) env = (false, eval (.Name x p) env) :: starEach es env := by rfl
theorem backTo_cons {pos : Pos} {t : Sem Value} {r : List (Bool × Sem Value)} : backTo pos ((false, t) :: r) = (false, t) :: backTo pos r := by rfl
theorem splice_names {env : Env} {m : Str → Option Value} (hk : env.scope.kind = .function) (hn : s.heap.Ns env.locals m) (pos : Pos) : ∀ (l : List (Str × Pl)) (vs : List Value) (Q : List Value → Shared → Prop),
    (∀ (i : Nat) (q : Str × Pl), l[i]? = some q → env.kindOf q.1 = some .local ∧ (q.1 == ("__debug__" : Str)) = false ∧ ∃ v, vs[i]? = some v ∧ m q.1 = some v) → l.length = vs.length → Q vs s →
    wpAny M A (spliced (backTo pos (starEach (l.map fun q => .Name q.1 q.2.1) env))) Q E s
  | [], [], Q, _, _, h => spliced_nil h
  | [], _ :: _, _, _, hl, _ => by cases hl
  | _ :: _, [], _, _, hl, _ => by cases hl
  | q :: l, v :: vs, Q, hq, hl, h => by
    obtain ⟨h1, h2, v', e1, e2⟩ := hq 0 q rfl
    cases e1
    rw [List.map_cons, starEach_name, backTo_cons]
    refine spliced_cons (ESX.ldL hn e2 ?_ hk h1 h2)
    exact splice_names hk hn pos l vs (fun us => Q (v :: us)) (fun i q hi => by simpa using hq (i + 1) q (by simpa using hi)) (by simpa using hl) h
end
section
variable {prog : Program} {w : World} {A : Around} {E : Value → Shared → Prop} {R : Result → Shared → Prop} {hp : Heap} {g : Array GenState} {d : Drawn} {t : Nat} {os : OsState}
/-- the walk to the own dict -/
theorem osa_excV {K : W.Frag} {name : Str} {tk : Tok} {v : Value} {x C : Addr} {ox : Obj} {od : Option Obj} {cd : ClassData}
    (X : K.In hp) (I : W.InstAt hp x ox C od) (gcd : W.clsIn K C = some cd) (gm : refsVE cd.mro = true) (ga : W.findIn K (.ref C) name = some none)
    (gq : wpAny (model prog w) A.in1 (storeInOwnDict (.ref x) (.ref C) (.str name tk) name v false)
      (fun fin s' => match fin with | .done f => R (.ok f) s' | .again c' => c'.quiet = true ∧ codeAny (model prog w) A c' R s') (fun e s' => R (.error e) s') ⟨hp, g, d, t, os⟩) :
    codeAny (model prog w) A (.call (.builtin "object.__setattr__") ⟨[.ref x, .str name tk, v], []⟩) R ⟨hp, g, d, t, os⟩ := by
  have st := F.store_object
  have nen := refsVE_ne gm
  have gob : cd.mro.contains (.type "object") = true := (refsVE_contains "object" _ gm).trans (by decide +kernel)
  have isb : W.Looks (model prog w) hp (isInstance (.ref x) (.type "object")) true := I.type.andThen (W.looks_mroIn X (by unfold W.mroIn; rw [gcd, Option.bind_some, if_neg (by rw [nen]; decide), gob]))
  refine codeAny_call_builtin st.slot.plain st.entry (@W.check_slot (model prog w) _ _ ⟨hp, g, d, t, os⟩ "object.__setattr__" "object" "__setattr__" (.ref x) [.str name tk, v] [] _ st.kind st.split isb (st.args (.ref x) (.str name tk) v) ?_)
  have gmr : W.Looks (model prog w) hp (mroOf (.ref C)) cd.mro := (W.looks_clsIn X gcd).andThen .now
  have w3 : W.Looks (model prog w) hp (storeTaker? none) none := .now
  rw [W.osa_eq, refuse_eq]
  refine wpAny_bind (wpAny_bind (I.type.at (wpAny_bind (gmr.at ?_))))
  rw [refsVE_pass _ _ gm]
  refine wpAny_pure (wpAny_bind (I.type.at (wpAny_bind ((W.looks_findIn X ga).at (wpAny_bind (w3.at ?_))))))
  exact gq
/-- self.name = v on such an error that has a dict -/
theorem osa_oldV {K : W.Frag} {name : Str} {tk : Tok} {v : Value} {x C dx : Addr} {fv : Array Value} {cd : ClassData} {m0 : Str → Option Value} {nl : List Str}
    (X : K.In hp) (gx : hp.get? x = some { cls := .ref C, dict := some dx, data := .fields fv }) (gns : hp.Ns1 dx m0) (gw : Within m0 nl) (gz : nl.length ≤ 1000) (gcd : W.clsIn K C = some cd) (gm : refsVE cd.mro = true) (hh : cd.hasDict = true)
    (ga : W.findIn K (.ref C) name = some none)
    (gq : ∀ h' tk', (∀ b o, b ≠ dx → hp.get? b = some o → h'.get? b = some o) → h'.Ns1 dx (fun y => if y = name then some v else m0 y) → R (.ok (.ret .none)) ⟨h', g, d, tk', os⟩) :
    codeAny (model prog w) A (.call (.builtin "object.__setattr__") ⟨[.ref x, .str name tk, v], []⟩) R ⟨hp, g, d, t, os⟩ := by
  obtain ⟨obD, esD, epD, goD, gdD, _⟩ := gns.count gw
  have I : W.InstAt hp x { cls := .ref C, dict := some dx, data := .fields fv } C (some obD) := ⟨gx, rfl, rfl, goD⟩
  refine osa_excV X I gcd gm ga ?_
  have gcls : W.Looks (model prog w) hp (classData C) cd := W.looks_clsIn X gcd
  obtain ⟨nm, bs, mro, ns, qn, hd, sn, sb, ab, col, del⟩ := cd
  dsimp only at hh
  subst hh
  unfold storeInOwnDict ownDictForStores
  repeat (first | with_reducible refine ESX.store_in_old gns gw gz ?_ | with_reducible refine wpAny_loadPart_at gx ?_ | with_reducible refine gcls.at ?_ | wp_step)
  intro h' tk' hn' hs
  exact gq h' tk' (fun b o hb ho => (hs.2 b hb).trans ho) hn'
theorem snoc_lookup {f : Str} {v : Value} : ∀ {l : List (Str × Value)}, f ∉ l.map (·.1) → ∀ y, (l ++ [(f, v)]).lookup y = if y = f then some v else l.lookup y
  | [], _, y => by
    by_cases h : y = f
    · subst h; simp [List.lookup]
    · have : (y == f) = false := by simpa using h
      simp [List.lookup, this, h]
  | (g, u) :: l, hn, y => by
    have ih := snoc_lookup (l := l) (f := f) (v := v) (fun z => hn (List.mem_cons_of_mem _ z)) y
    have hg : g ≠ f := fun z => hn (by simp [z])
    by_cases h : y = g
    · subst h
      simp [List.lookup, hg]
    · have e : (y == g) = false := by simpa using h
      simp [List.lookup, e, ih]
theorem within_lookup : ∀ (l : List (Str × Value)), Within (fun y => l.lookup y) (l.map (·.1)) := fun l y hy => by
  cases q : l.lookup y with
  | none => exact absurd q hy
  | some v => exact List.mem_map.mpr ⟨(y, v), PySem.mem_of_lookup q, rfl⟩

theorem sto_step {K : Frag} {env : Env} {m : Str → Option Value} {q : Str × Pl} {x C : Addr} {ox : Obj} {od : Option Obj} {v : Value} {Q : Flow → Shared → Prop} {s : Shared} (X : K.In s.heap) (hk : env.scope.kind = .function) (hn : s.heap.Ns env.locals m)
    (h1 : env.kindOf q.1 = some .local) (h2 : (q.1 == ("__debug__" : Str)) = false) (h3 : m q.1 = some v) (h4 : env.kindOf "self" = some .local) (h5 : m "self" = some (.ref x)) (I : W.InstAt s.heap x ox C od)
    (hs : findIn K (.ref C) "__setattr__" = some (some (.builtin "object.__setattr__")))
    (h : codeAny (model prog w) A (.call (.builtin "object.__setattr__") ⟨[.ref x, .str q.1 s.toks, v], []⟩) (fun r s' => match r with | .ok (.ret _) => Q .next s' | .ok _ => False | .error e => E e s') { s with toks := s.toks + 1 }) :
    wpAny (model prog w) A (exec (sSto q) env) Q E s := by
  refine plainObj_wpAny_Assign_Attribute ?_
  refine ESX.ldL hn h3 (ESX.ldL hn h5 ?_ hk h4) hk h1 h2
  exact set_plain X I hs h
theorem stores_run {K : Frag} {base : Heap} {env : Env} {m : Str → Option Value} {x C dx : Addr} {cd : ClassData} {fv : Array Value} {Q : Flow → Shared → Prop} (KB : K.In base) (hk : env.scope.kind = .function)
    (hcd : W.clsIn K C = some cd) (hm : refsVE cd.mro = true) (hh : cd.hasDict = true) (hs : findIn K (.ref C) "__setattr__" = some (some (.builtin "object.__setattr__")))
    (h4 : env.kindOf "self" = some .local) (h5 : m "self" = some (.ref x)) (nb : base.get? dx = none) (nL : env.locals ≠ dx) (nx : x ≠ dx) :
    ∀ (l : List (Str × Pl)) (vs : List Value) (dn : List (Str × Value)) (s : Shared), (∀ b o, base.get? b = some o → s.heap.get? b = some o) → s.heap.Ns env.locals m → s.heap.get? x = some { cls := .ref C, dict := some dx, data := .fields fv } →
    s.heap.Ns1 dx (fun y => dn.lookup y) → dn.length + l.length ≤ 1000 → l.length = vs.length → (dn.map (·.1) ++ l.map (·.1)).Nodup →
    (∀ (i : Nat) (q : Str × Pl), l[i]? = some q → findIn K (.ref C) q.1 = some none ∧ env.kindOf q.1 = some .local ∧ (q.1 == ("__debug__" : Str)) = false ∧ ∃ v, vs[i]? = some v ∧ m q.1 = some v) →
    (∀ h' tk, (∀ b o, b ≠ dx → s.heap.get? b = some o → h'.get? b = some o) → h'.Ns1 dx (fun y => (dn ++ (l.map (·.1)).zip vs).lookup y) → Q .next { s with heap := h', toks := tk }) →
    wpAny (model prog w) A (execs (l.map sSto) env) Q E s
  | [], [], dn, s, _, _, _, hd, _, _, _, _, h => wpAny_execs_nil (h s.heap s.toks (fun _ _ _ e => e) (by simpa using hd))
  | [], _ :: _, _, _, _, _, _, _, _, hl, _, _, _ => by cases hl
  | _ :: _, [], _, _, _, _, _, _, _, hl, _, _, _ => by cases hl
  | q :: l, v :: vs, dn, s, kb, hn, hx, hd, hz, hl, nd, hq, h => by
    obtain ⟨h0, h1, h2, v', e1, e2⟩ := hq 0 q rfl
    cases e1
    have X : K.In s.heap := KB.keeps kb
    obtain ⟨oD, esD, epD, hoD, hdD, _⟩ := hd.count (within_lookup dn)
    refine wpAny_execs_cons (sto_step X hk hn h1 h2 e2 h4 h5 (ox := { cls := .ref C, dict := some dx, data := .fields fv }) (od := some oD) ⟨hx, rfl, rfl, hoD⟩ hs ?_)
    refine osa_oldV (hp := s.heap) (g := s.gens) (d := s.drawn) (os := s.os) X hx hd (within_lookup dn) (by simp at hz ⊢; omega) hcd hm hh h0 fun h' tk' k hn' => ?_
    have nf : q.1 ∉ dn.map (·.1) := fun z => by
      have := (List.nodup_append.mp nd).2.2 q.1 z q.1 (by simp)
      exact this rfl
    have e : (fun y => if y = q.1 then some v else dn.lookup y) = fun y => (dn ++ [(q.1, v)]).lookup y := funext fun y => (snoc_lookup nf y).symm
    rw [e] at hn'
    refine stores_run KB hk hcd hm hh hs h4 h5 nb nL nx l vs (dn ++ [(q.1, v)]) { s with heap := h', toks := tk' } (fun b o hb => k b o (fun z => by rw [z, nb] at hb; cases hb) (kb b o hb)) ?_ (k _ _ nx hx) hn' (by simp at hz ⊢; omega) (by simpa using hl) (by simpa using nd)
      (fun i q' hi => by simpa using hq (i + 1) q' (by simpa using hi)) fun h2 tk2 k2 hn2 => ?_
    · obtain ⟨o, es, ep, ho, r⟩ := hn
      exact ⟨o, es, ep, k _ _ nL ho, r⟩
    · refine h h2 tk2 (fun b o hb ho => k2 b o hb (k b o hb ho)) ?_
      simpa using hn2
/-- what __init__ leaves of a fresh error at x -/
structure InitEnd (h h' : Heap) (x C dx t1 : Addr) (l : List (Str × Value)) : Prop where
  keep : ∀ b o, b ≠ x → h.get? b = some o → h'.get? b = some o
  obj : h'.get? x = some { cls := .ref C, dict := some dx, data := .fields #[.ref t1, .none, .none, .none, .bool false, .none] }
  dbig : h.objs.size ≤ dx
  dne : dx ≠ x
  ns : h'.Ns1 dx (fun y => l.lookup y)
structure OwnMade (h h' : Heap) (e C d : Addr) (l : List (Str × Value)) : Prop where
  keep : ∀ b o, h.get? b = some o → h'.get? b = some o
  new : h.objs.size ≤ e
  obj : ∃ oe vs, h'.get? e = some oe ∧ oe.cls = .ref C ∧ oe.dict = some d ∧ oe.data = .fields vs ∧ vs[1]? = some .none
  dbig : h.objs.size ≤ d
  dne : d ≠ e
  ns : h'.Ns1 d (fun y => l.lookup y)
end
end DLX
end PySem
namespace PySem
namespace DLX
open Builtin Builtin.ObjectAttr
open PySem.W PySem.Calls PyProof.Rows PySem.HandSPX
theorem plain_names {env : Env} (pos : Pos) : ∀ (l : List (Str × Pl)), (backTo pos (starEach (l.map fun q => .Name q.1 q.2.1) env)).any (·.1) = false
  | [] => rfl
  | q :: l => by
    rw [List.map_cons, starEach_name, backTo_cons, List.any_cons, plain_names pos l]
    rfl
section
variable {prog : Program} {w : World} {A : Around} {E : Value → Shared → Prop} {h : Heap} {g : Array GenState} {d : Drawn} {t : Nat} {os : OsState}
variable {nm q : Str} {C N : Addr} {bs bm : List Value} {hdct : Bool} {sn : List Str} {sub : List Value} {ab : Bool} {col : Option Bool} {dd : Option Addr} {k0 k1 k2 k3 k5 : Option Value}
theorem call_mw {u e t0 : Addr} {rest : List Value} {Q : Value → Shared → Prop}
    (hC : h.get? C = some (excClassObj nm q C N bs bm hdct sn sub ab col dd k0 k1 k2 k3 k5 "ValueError.__new__")) (he : h.get? e = some (excO C t0)) (hu : h.get? u = some (kxs_mw "ValueError.__init__" e)) (hrest : rest.length ≤ sizeLine)
    (hq : ∀ h' t1, (∀ b o, b ≠ e → h.get? b = some o → h'.get? b = some o) → h'.get? e = some (excO C t1) → Q .none ⟨h', g, d, t, os⟩) :
    wpAny (model prog w) A (call (.ref u) rest) Q E ⟨h, g, d, t, os⟩ := by
  refine wpAny_call (codeAny_of_tree ?_)
  show wpAny _ A.in1 (callAny (.ref u) ⟨rest, []⟩) _ _ _
  simp only [callAny]
  refine wpAny_bind (wpAny_load hu ?_)
  simp only [kxs_mw, show (Value.type "method-wrapper" == Value.type "method" || Value.type "method-wrapper" == Value.type "builtin_function_or_method" || Value.type "method-wrapper" == Value.type "method-wrapper") = true by decide, if_true]
  refine KFB.if_so (by decide) ?_
  refine wpAny_bind (check_bound_init F.excBase_ValueError.toExcCallFacts hC he rfl ?_)
  refine wpAny_bind (wpAny_pure (wpAny_pure ?_))
  refine ⟨plainId_quiet F.excBase_ValueError.init.plain _, codeAny_builtin F.excBase_ValueError.initEntry ?_⟩
  rw [Around.under_plainId F.excBase_ValueError.init.plain _]
  wp_walk
  refine hq _ h.objs.size (fun b o hb ho => ?_) ?_
  · rw [Heap.get?_update_other _ _ (Ne.symm hb)]
    exact Heap.get?_push_of_some _ ho
  · rw [Heap.get?_update_self _ (Heap.get?_push_of_some _ he) rfl]
    rfl
theorem zip_lookup : ∀ {names : List Str} {vals : List Value}, names.Nodup → names.length = vals.length → ∀ {i : Nat} {f : Str} {v : Value}, names[i]? = some f → vals[i]? = some v → (names.zip vals).lookup f = some v
  | [], _, _, _, _, _, _, h, _ => by simp at h
  | _ :: _, [], _, hl, _, _, _, _, _ => by cases hl
  | n :: ns, u :: us, nd, hl, 0, f, v, h1, h2 => by
    simp at h1 h2; subst h1; subst h2
    simp [List.lookup]
  | n :: ns, u :: us, nd, hl, i + 1, f, v, h1, h2 => by
    have ne : f ≠ n := fun z => by
      subst z
      exact (List.nodup_cons.mp nd).1 (List.mem_of_getElem? (by simpa using h1))
    have e : (f == n) = false := by simpa using ne
    rw [List.zip_cons_cons, List.lookup_cons, e]
    exact zip_lookup (List.nodup_cons.mp nd).2 (by simpa using hl) (by simpa using h1) (by simpa using h2)
theorem lookup_mem {l : List (Str × Value)} (nd : (l.map (·.1)).Nodup) {p : Str × Value} (hp : p ∈ l) : l.lookup p.1 = some p.2 := by
  induction l with
  | nil => cases hp
  | cons q l ih =>
    rcases List.mem_cons.mp hp with rfl | hp
    · simp [List.lookup]
    · have ne : p.1 ≠ q.1 := fun z => (List.nodup_cons.mp nd).1 (show q.1 ∈ l.map (·.1) by rw [← z]; exact List.mem_map_of_mem hp)
      have e : (p.1 == q.1) = false := by simpa using ne
      rw [show q = (q.1, q.2) from rfl, List.lookup_cons, e]
      exact ih (List.nodup_cons.mp nd).2 hp
theorem zip_rev_lookup {names : List Str} {vals : List Value} (nd : names.Nodup) (hl : names.length = vals.length) {i : Nat} {f : Str} {v : Value} (h1 : names[i]? = some f) (h2 : vals[i]? = some v) : (names.zip vals).reverse.lookup f = some v := by
  have mp : (names.zip vals).map (·.1) = names := List.map_fst_zip (by omega)
  refine lookup_mem (p := (f, v)) ?_ ?_
  · rw [List.map_reverse, (List.reverse_perm _).nodup_iff, mp]; exact nd
  · rw [List.mem_reverse]
    refine List.mem_of_getElem? (i := i) ?_
    rw [List.getElem?_zip_eq_some]
    exact ⟨h1, h2⟩
end
abbrev supE (p1 p2 : Pos) : Expr := .Call (.Name "super" p1) [] [] p2
theorem mc_sup {p1 p2 apos pos : Pos} {name : Str} {env : Env} (hline : (apos.endLine == pos.line) = true) (ov : Value) (n : Nat) (args : List (Bool × Sem Value)) (hf : methodCallForm n args [] = true) :
    methodCall (supE p1 p2) name apos pos env ov n args [] = (do
      let (f, first) ← holding [ov] (getMethod ov name (do return (← importBound (supE p1 p2) env).getD true))
      callWith pos f first args []) := by
  unfold methodCall
  rw [hf]
  have e : methodCallPos true (supE p1 p2) env apos pos = pure pos := by unfold methodCallPos; rw [hline]; rfl
  rw [e]
  rfl
theorem he_sup {env : Env} {p1 p2 : Pos} {name : Str} {apos pos : Pos} (hline : (apos.endLine == pos.line) = true) (l : List (Str × Pl)) (hf : ∀ pos, methodCallForm (l.map fun q : Str × Pl => Expr.Name q.1 q.2.1).length (backTo pos (starEach (l.map fun q : Str × Pl => Expr.Name q.1 q.2.1) env)) [] = true) : ∃ pl : Sem Bool, eval (.Call (.Attribute (supE p1 p2) name apos) (l.map fun q : Str × Pl => Expr.Name q.1 q.2.1) [] pos) env = (do
      let ov ← attributeBase (supE p1 p2) name env (eval (supE p1 p2) env)
      standAt apos.atName
      let (f, first) ← holding [ov] (getMethod ov name pl)
      callWith pos f first (backTo pos (starEach (l.map fun q : Str × Pl => Expr.Name q.1 q.2.1) env)) []) := by
  refine ⟨do return (← importBound (supE p1 p2) env).getD true, ?_⟩
  show (do
    let ov ← attributeBase (supE p1 p2) name env (eval (supE p1 p2) env)
    standAt apos.atName
    methodCall (supE p1 p2) name apos pos env ov ((l.map fun q : Str × Pl => Expr.Name q.1 q.2.1).length + 0) (backTo pos (starEach (l.map fun q : Str × Pl => Expr.Name q.1 q.2.1) env)) []) = _
  congr 1
  funext ov
  congr 1
  funext _
  exact mc_sup hline ov _ _ (hf pos)
theorem form_names {env : Env} : ∀ (l : List (Str × Pl)) (pos : Pos), (backTo pos (starEach (l.map fun q => .Name q.1 q.2.1) env)).all (!·.1) = true
  | [], _ => rfl
  | q :: l, pos => by
    rw [List.map_cons, starEach_name, backTo_cons, List.all_cons, form_names l pos]
    rfl
theorem evalArgs_names {M : Model} {A : Around} {E : Value → Shared → Prop} {s : Shared} {env : Env} {m : Str → Option Value} {f : Value} (hk : env.scope.kind = .function) (hn : s.heap.Ns env.locals m) (pos : Pos) (l : List (Str × Pl)) (vs : List Value) {Q : Args → Shared → Prop} (ne : l ≠ [])
    (hq : ∀ (i : Nat) (q : Str × Pl), l[i]? = some q → env.kindOf q.1 = some .local ∧ (q.1 == ("__debug__" : Str)) = false ∧ ∃ v, vs[i]? = some v ∧ m q.1 = some v) (hl : l.length = vs.length) (h : Q ⟨vs, []⟩ s) :
    wpAny M A (evalArgs f true (backTo pos (starEach (l.map fun q => .Name q.1 q.2.1) env)) []) Q E s := by
  have h0 := splice_names (M := M) (A := A) (E := E) hk hn pos l vs (fun us s' => Q ⟨us, []⟩ s') hq hl h
  cases l with
  | nil => exact absurd rfl ne
  | cons q l =>
    rw [List.map_cons, starEach_name, backTo_cons] at h0 ⊢
    exact evalArgs_plain h0
section
variable {prog : Program} {w : World} {A : Around} {E : Value → Shared → Prop} {R : Result → Shared → Prop} {K : Frag} {mg mb : Str → Option Value} {base : Heap} {nm : Str} {C : Addr} {fs : List Str}
theorem ex_init {fI : Addr} (T : ExTxt prog K mg nm C fs) (hfI : findIn K (.ref C) "__init__" = some (some (.ref fI))) {s : Shared} (KB : K.In base) (G : base.Ns mainGlobals mg) (BL : base.Ns builtinsNs mb) (bl : ∀ x : Str, x ≠ "__name__" → mb x = bootBuiltins x) (lim : base.NoLimit)
    (kb : ∀ b o, base.get? b = some o → s.heap.get? b = some o) {x t0 : Addr} {vs : List Value} (hx : s.heap.get? x = some (excO C t0)) (nb : base.get? x = none) (hroom : A.depth < recursionLimit) (hl : vs.length = fs.length) (h1 : 0 < fs.length)
    (hq : ∀ h' tk dx t1, InitEnd s.heap h' x C dx t1 (fs.zip vs) → base.get? dx = none → R (.ok (.ret .none)) { s with heap := h', toks := tk }) :
    codeAny (model prog w) A (.call (.ref fI) ⟨.ref x :: vs, []⟩) R s := by
  obtain ⟨fI', a1, a2, oc, od, qual, ps, l, p1, p2, p3, p4, p5, sc, doc, pm, ct, an, osl, cda, cc, ccl, cdd, vsC, ccs, file, tf, cl, cld, csl, lk, hcd, hline, hfs, hcode, hv2, hfile, hcell, htop, hk, hco, hgen, hnc, hself, hloc, hsup, hcls, hhead, hbind⟩ := T.fn
  rw [hfI] at a1
  cases a1
  obtain ⟨n, q, N, bs, bm, sn, sub, ab, col, dd, k0, k1, k2, k3, k5, hC, hbm, hal⟩ := T.cls
  have hclsIn : clsIn K C = some { name := n, bases := bs, mro := .ref C :: bm, ns := N, qualname := q, hasDict := true, slotNames := sn, subclasses := sub, abstract := ab, collection := col, hasDel := false } := by unfold clsIn; rw [hC] <;> rfl
  have X : K.In s.heap := KB.keeps kb
  have ndS : (("self" : Str) :: fs).Nodup := List.nodup_cons.mpr ⟨fun z => (hloc _ z).2.2 rfl, T.nd⟩
  have lenS : (("self" : Str) :: fs).length = (Value.ref x :: vs).length := by simp [hl]
  refine ks_codeAny_call_defAt (fd := fnX "__init__" qual ps (bdy l p1 p2 p3 p4 p5) sc [("__class__", cc)] .none .none doc pm an (.ref cda) ct) (body := bdy l p1 p2 p3 p4 p5) (binds := (("self" : Str) :: fs).zip (Value.ref x :: vs)) hroom (X _ _ lk) rfl (lim.keeps kb) (codeRec_of X hcd) rfl
    (.of_eq (hbind _ (by simp [hl]))) hnc (fun y hy => ?_) (fun h₀ hns k0' => ?_) hco hgen hk
  · rcases List.mem_cons.mp (List.of_mem_zip hy).1 with e | e
    · rw [e]; exact hself
    · exact (hloc _ e).1
  have kb0 : ∀ b o, base.get? b = some o → h₀.get? b = some o := fun b o e => k0' b o (kb b o e)
  have X0 : K.In h₀ := KB.keeps kb0
  have hx0 := k0' _ _ hx
  have mself : (((("self" : Str) :: fs).zip (Value.ref x :: vs)).reverse.lookup ("self" : Str)) = some (Value.ref x) := zip_rev_lookup ndS lenS (i := 0) rfl rfl
  have mf : ∀ (i : Nat) (f : Str) (v : Value), fs[i]? = some f → vs[i]? = some v → (((("self" : Str) :: fs).zip (Value.ref x :: vs)).reverse.lookup f) = some v := fun i f v e1 e2 => zip_rev_lookup ndS lenS (i := i + 1) (by simpa using e1) (by simpa using e2)
  obtain ⟨ar, har, harg⟩ : ∃ ar, (ps.posonlyargs ++ ps.args).head? = some ar ∧ ar.arg = "self" := by
    cases e : (ps.posonlyargs ++ ps.args).head? with
    | none => rw [e] at hhead; cases hhead
    | some ar => rw [e] at hhead; exact ⟨ar, rfl, Option.some.inj hhead⟩
  obtain ⟨hp, g, dr, tk, os⟩ := s
  have lenL : l.length = vs.length := by rw [hl, ← hfs, List.length_map]
  have inL : ∀ (i : Nat) (q : Str × Pl), l[i]? = some q → fs[i]? = some q.1 := fun i q e => by rw [← hfs, List.getElem?_map, e]; rfl
  have allL : ∀ (i : Nat) (q : Str × Pl), l[i]? = some q → ∃ v, vs[i]? = some v ∧ (((("self" : Str) :: fs).zip (Value.ref x :: vs)).reverse.lookup q.1) = some v := fun i q e => by
    have hi : i < vs.length := by rw [← lenL]; exact (List.getElem?_eq_some_iff.mp e).1
    exact ⟨vs[i], List.getElem?_eq_getElem hi, mf i q.1 _ (inL i q e) (List.getElem?_eq_getElem hi)⟩
  have ne0 : l ≠ [] := fun z => by rw [z] at hfs; rw [← hfs] at h1; simp at h1
  have inter : ∀ L, interactive (callEnv (fnX "__init__" qual ps (bdy l p1 p2 p3 p4 p5) sc [("__class__", cc)] .none .none doc pm an (.ref cda) ct) L fI) = false := fun L => by
    show interactive (envX qual sc L fI (.ref cda) [("__class__", cc)]) = false
    simp [interactive, hk]
  show _root_.PySem.wpAt _ _ _ (execs (sSup l p1 p2 p3 p4 p5 :: l.map sSto) (envX qual sc hp.objs.size fI (.ref cda) [("__class__", cc)])) _ _ _
  have few3 : l.length ≤ 3 := by rw [lenL, hl]; exact T.few
  obtain ⟨pl, he⟩ := he_sup (env := envX qual sc hp.objs.size fI (.ref cda) [("__class__", cc)]) (p1 := p1) (p2 := p2) (name := "__init__") (apos := p3) (pos := p4) hline l fun pos => by
    unfold methodCallForm
    rw [form_names, List.length_map]
    simp
    omega
  refine ks_wpAt_execs_cons (ks_wpAt_Expr_any (ks_wpAt_MethodCall (pl := pl) (he := he) (ks_wpAt_super_base (env := envX qual sc hp.objs.size fI (.ref cda) [("__class__", cc)]) hsup hcls (by decide) rfl (X0 _ _ lk) rfl har rfl (X0 _ _ hcode) rfl hv2 hfile htop ?_)) (inter _))
  refine ks_loadName_global hk hsup (Calls.loadGlobal_builtin (env := envX qual sc hp.objs.size fI (.ref cda) [("__class__", cc)]) (G.keeps kb0) T.sup (BL.keeps kb0) ((bl _ (by decide +kernel)).trans (by decide +kernel)) ⟨rfl, ?_⟩)
  refine wpAny_loadName_free hk hcls rfl ⟨_, X0 _ _ hcell, rfl⟩ ?_
  refine wpAny_loadName_local hk (by rw [harg]; exact hself) hns (by rw [harg]; exact mself) ?_
  have hCh := X0 _ _ hC
  have hmro : mroIn K C (.ref C) = some true := by
    unfold mroIn
    rw [hclsIn, Option.bind_some]
    simp
  refine ks_wpAny_isType_cls hCh rfl ⟨rfl, ?_⟩
  refine ks_wpAny_call_super hCh rfl hx0 rfl (fun c e => by cases e) (looks_mroIn X0 hmro) (fun h2 e2 k2 => ?_)
  have X2 : K.In h2 := X0.keeps k2
  have hx2 := k2 _ _ hx0
  have xC : x ≠ C := fun z => by rw [z] at hx2; have := X2 _ _ hC; rw [hx2] at this; cases this
  have I2 : InstAt h2 x (excO C t0) C none := ⟨hx2, rfl, rfl, trivial⟩
  have sVE : mroIn K C (.type "ValueError") = some true := by
    unfold mroIn
    rw [hclsIn, Option.bind_some]
    have e : (Value.ref C :: bm).contains (.type "ValueError") = true := by rw [List.contains_cons, refsVE_contains "ValueError" _ hbm, (by decide +kernel : veTail.contains (.type "ValueError") = true), Bool.or_true]
    rw [if_neg (show ¬ (List.isEmpty (Value.ref C :: bm) = true) from Bool.false_ne_true), e]
  refine kxs_getMethod kxs_ValueError e2 (looks_opaque X2 T.op) (l₀ := .ref C :: bm) (l := bm) ((looks_clsIn X2 hclsIn).andThen .now) (by simp [List.dropWhile_cons]) X2 hal (I2.type.andThen (looks_mroIn X2 sVE)) xC (by decide) ?_
  refine kxs_callWith (i := "ValueError.__init__") (x := x) (plain_names p4 l) ?_
  have ns3 : (h2.push (kxs_mw "ValueError.__init__" x)).Ns hp.objs.size (fun y => (((("self" : Str) :: fs).zip (Value.ref x :: vs)).reverse.lookup y)) := by
    obtain ⟨o, es, ep, ho, r⟩ := hns
    exact ⟨o, es, ep, Heap.get?_push_of_some _ (k2 _ _ ho), r⟩
  have hx3 : (h2.push (kxs_mw "ValueError.__init__" x)).get? x = some (excO C t0) := Heap.get?_push_of_some _ hx2
  have hu3 : (h2.push (kxs_mw "ValueError.__init__" x)).get? h2.objs.size = some (kxs_mw "ValueError.__init__" x) := Heap.get?_push_at rfl rfl
  have hC3 : (h2.push (kxs_mw "ValueError.__init__" x)).get? C = some _ := Heap.get?_push_of_some _ (X2 _ _ hC)
  refine evalArgs_names (m := fun y => (((("self" : Str) :: fs).zip (Value.ref x :: vs)).reverse.lookup y)) hk ns3 p4 l vs ne0 (fun i q e => ?_) lenL ⟨hu3, ?_⟩
  · have hq := hloc _ (List.mem_of_getElem? (inL i q e))
    exact ⟨hq.1, hq.2.1, allL i q e⟩
  show wpAny _ _ (call (.ref h2.objs.size) ([] ++ vs)) _ _ _
  rw [List.nil_append]
  refine call_mw hC3 hx3 hu3 (by rw [hl]; exact Nat.le_trans T.few (by rw [sizeLine_eq]; decide)) fun h4 t1 k4 hx4 => ?_
  -- the stores
  have keep04 : ∀ b o, b ≠ x → h₀.get? b = some o → h4.get? b = some o := fun b o hb e => k4 b o hb (Heap.get?_push_of_some _ (k2 _ _ e))
  have keepS4 : ∀ b o, b ≠ x → hp.get? b = some o → h4.get? b = some o := fun b o hb e => keep04 b o hb (k0' b o e)
  have kb4 : ∀ b o, base.get? b = some o → h4.get? b = some o := fun b o e => keepS4 b o (fun z => by rw [z, nb] at e; cases e) (kb b o e)
  have X4 : K.In h4 := KB.keeps kb4
  have xL : hp.objs.size ≠ x := Nat.ne_of_gt (Heap.lt_size hx)
  have ns4 : h4.Ns hp.objs.size (fun y => (((("self" : Str) :: fs).zip (Value.ref x :: vs)).reverse.lookup y)) := by
    obtain ⟨o, es, ep, ho, r⟩ := hns
    exact ⟨o, es, ep, keep04 _ _ xL ho, r⟩
  have szL : hp.objs.size < h4.objs.size := ns4.lt
  cases l with
  | nil => exact absurd rfl ne0
  | cons q0 l' =>
    cases vs with
    | nil => cases lenL
    | cons v0 vs' =>
      obtain ⟨w0, e0, m0⟩ := allL 0 q0 rfl
      cases e0
      have f0 : q0.1 ∈ fs := List.mem_of_getElem? (inL 0 q0 rfl)
      refine _root_.PySem.wpAt_of_wpAny (wpAny_execs_cons (sto_step (x := x) (C := C) (ox := excO C t1) (od := none) X4 hk ns4 (hloc _ f0).1 (hloc _ f0).2.1 m0 hself mself ⟨hx4, rfl, rfl, trivial⟩ T.sa ?_))
      refine exc_osa X4 hx4 hclsIn (show refsVE (.ref C :: bm) = true from hbm) rfl (T.noF _ f0) fun h5 tk5 dx k5 dn dne hx5 hn5 => ?_
      have dn : h4.objs.size ≤ dx := dn
      have nbd : base.get? dx = none := by
        cases z : base.get? dx with
        | none => rfl
        | some o => exact absurd (Nat.lt_of_lt_of_le (Heap.lt_size (kb4 _ _ z)) dn) (Nat.lt_irrefl _)
      have fin : ∀ h6 tk6, (∀ b o, b ≠ dx → h5.get? b = some o → h6.get? b = some o) → h6.Ns1 dx (fun y => (fs.zip (v0 :: vs')).lookup y) → R (.ok (.ret .none)) ⟨h6, g, dr, tk6, os⟩ := fun h6 tk6 k6 n6 => by
        refine hq h6 tk6 dx t1 ⟨fun b o hb e => k6 b o ?_ (k5 b o hb (keepS4 b o hb e)), k6 _ _ (Ne.symm dne) hx5, ?_, dne, n6⟩ nbd
        · have z1 : b < hp.objs.size := Heap.lt_size e
          exact Nat.ne_of_lt (Nat.lt_of_lt_of_le z1 (Nat.le_trans (Nat.le_of_lt szL) dn))
        · show hp.objs.size ≤ dx
          omega
      have e5 : (fun y => if y = q0.1 then some v0 else none) = fun y => ([(q0.1, v0)] : List (Str × Value)).lookup y := funext fun y => by
        by_cases h : y = q0.1
        · subst h; simp [List.lookup]
        · have : (y == q0.1) = false := by simpa using h
          simp [List.lookup, this, h]
      rw [e5] at hn5
      have ne5 : envX qual sc hp.objs.size fI (.ref cda) [("__class__", cc)] = envX qual sc hp.objs.size fI (.ref cda) [("__class__", cc)] := rfl
      refine stores_run (x := x) (C := C) (dx := dx) (m := fun y => (((("self" : Str) :: fs).zip (Value.ref x :: v0 :: vs')).reverse.lookup y)) (env := envX qual sc hp.objs.size fI (.ref cda) [("__class__", cc)]) KB hk hclsIn (show refsVE (.ref C :: bm) = true from hbm) rfl T.sa hself mself nbd
        (by show hp.objs.size ≠ dx; omega) (Ne.symm dne) l' vs' [(q0.1, v0)] ⟨h5, g, dr, tk5, os⟩ (fun b o e => k5 b o (fun z => by rw [z, nb] at e; cases e) (kb4 b o e)) ?_ hx5 hn5 (by simp at few3 ⊢; omega) (by simpa using lenL) ?_ (fun i q e => ?_) fun h6 tk6 k6 n6 => ?_
      · obtain ⟨o, es, ep, ho, r⟩ := ns4
        exact ⟨o, es, ep, k5 _ _ xL ho, r⟩
      · have := T.nd
        rw [← hfs] at this
        simpa using this
      · have e' : (q0 :: l')[i + 1]? = some q := by simpa using e
        have hm := List.mem_of_getElem? (inL (i + 1) q e')
        obtain ⟨v, h1, h2⟩ := allL (i + 1) q e'
        exact ⟨T.noF _ hm, (hloc _ hm).1, (hloc _ hm).2.1, v, by simpa using h1, h2⟩
      · refine fin h6 tk6 k6 ?_
        rw [← hfs]
        simpa using n6
end
end DLX
end PySem
namespace PySem
namespace DLX
open Builtin Builtin.ObjectAttr
open PySem.W PySem.Calls PyProof.Rows PySem.HandSPX
section
variable {prog : Program} {w : World} {A : Around} {R : Result → Shared → Prop} {K : Frag} {mg mb : Str → Option Value} {base : Heap} {nm : Str} {C : Addr} {fs : List Str}
theorem ex_made (T : ExTxt prog K mg nm C fs) {s : Shared} (KB : K.In base) (G : base.Ns mainGlobals mg) (BL : base.Ns builtinsNs mb) (bl : ∀ x : Str, x ≠ "__name__" → mb x = bootBuiltins x) (lim : base.NoLimit)
    (kb : ∀ b o, base.get? b = some o → s.heap.get? b = some o) {vs : List Value} (hroom : A.depth + 1 < recursionLimit) (hl : vs.length = fs.length) (h1 : 0 < fs.length)
    (hq : ∀ h' tk e d, OwnMade s.heap h' e C d (fs.zip vs) → R (.ok (.ret (.ref e))) { s with heap := h', toks := tk }) :
    codeAny (model prog w) A (.call (.ref C) ⟨vs, []⟩) R s := by
  obtain ⟨fI, hi, ht, _⟩ := id T.fn
  obtain ⟨n, q, N, bs, bm, sn, sub, ab, col, dd, k0, k1, k2, k3, k5, hC, hbm, hal⟩ := T.cls
  have X : K.In s.heap := KB.keeps kb
  obtain ⟨hp, g, dr, tk, os⟩ := s
  have k : ∀ b o, hp.get? b = some o → ((hp.push (kdv_tup vs)).push (excO C hp.objs.size)).get? b = some o := fun b o e => Heap.get?_push_of_some _ (Heap.get?_push_of_some _ e)
  have hget : ((hp.push (kdv_tup vs)).push (excO C hp.objs.size)).get? (hp.objs.size + 1) = some (excO C hp.objs.size) := by heap_get
  have nb : base.get? (hp.objs.size + 1) = none := by
    cases e : base.get? (hp.objs.size + 1) with
    | none => rfl
    | some o => exact absurd (Nat.lt_of_succ_lt (Heap.lt_size (kb _ _ e))) (Nat.lt_irrefl _)
  refine call_own F.excBase_ValueError (fun X => refsVE_contains X bm hbm) (X _ _ hC) (looks_findIn X hi) (fun self => bind_fn X self ht) (by rw [hl]; exact Nat.le_trans T.few (by rw [sizeLine_eq]; decide)) ?_
  refine ex_init (s := ⟨(hp.push (kdv_tup vs)).push (excO C hp.objs.size), g, dr, tk, os⟩) T hi KB G BL bl lim (fun b o e => k b o (kb b o e)) hget nb ?_ hl h1 fun h' tk' dx t1 ⟨k', hx, dn, dne, hns⟩ _ => ?_
  · show A.depth + 1 < recursionLimit
    exact hroom
  · have old : ∀ b o, hp.get? b = some o → h'.get? b = some o := fun b o e => k' b o (Nat.ne_of_lt (Nat.lt_succ_of_lt (Heap.lt_size e))) (k b o e)
    have z : hp.objs.size + 1 + 1 ≤ dx := by
      first
        | (simpa only [Heap.size_push] using dn)
        | exact dn
        | (have q := dn; rw [Heap.size_push, Heap.size_push] at q; exact q)
    exact ⟨rfl, hq h' tk' (hp.objs.size + 1) dx ⟨old, Nat.le_succ _, ⟨_, _, hx, rfl, rfl, rfl, rfl⟩, Nat.le_trans (Nat.le_trans (Nat.le_succ _) (Nat.le_succ _)) z, dne, hns⟩⟩
end
end DLX
end PySem
namespace L2
open PySem PySem.Spec PyProof.Rows
theorem relO_zip : ∀ {fs : List Str} {vs : List V} {us : List Value}, Vals vs us → ∀ f, RelO ((fs.zip vs).lookup f) ((fs.zip us).lookup f)
  | [], _, _, _, f => trivial
  | _ :: _, _, _, .nil, f => trivial
  | g :: fs, _, _, .cons r t, f => by
    rw [List.zip_cons_cons, List.zip_cons_cons, List.lookup_cons, List.lookup_cons]
    cases f == g with
    | true => exact r
    | false => exact relO_zip t f
section
variable {X : Cx} {C : Addr} {nm : Str} {fs : List Str}
/-- Err(e1, ..): a new own dict d bears the fields -/
def tMkEx (C : Addr) (fs : List Str) (ta : TA) : St → Hp → XK → Prop := fun σ H Q => ta σ H fun vs H1 => vs.length = fs.length ∧ ∀ d, H1 d = none → Q (.ref C) (some d) (upd H1 d (.xd (fs.zip vs)))
theorem pmk_ex {a : Expr} {as : List Expr} {ta : TA} {p pos : Pos} {k : Nat} (T : PySem.DLX.ExTxt X.prog X.K X.mg nm C fs) (h1 : 0 < fs.length) (hr : Room k X.A) (ha : PA X (a :: as) ta) (hg : Gl X nm) (hdb : (nm == ("__debug__" : Str)) = false := by decide)
    (he : starEach (a :: as) X.env = (false, eval a X.env) :: starEach as X.env := by rfl) (hpl : (backTo pos (starEach as X.env)).any (·.1) = false := by rfl) :
    PMk X (.Call (.Name nm p) (a :: as) [] pos) (tMkEx C fs ta) := by
  intro pins s σ H Q I h
  refine wpAny_Call_Name_kw (ld_glob I hg T.gC ?_ hdb)
  refine PySem.W.callWith_K (h₀ := X.base) I.ok.mod.kin T.kC (thn (ha.run pos pins s σ H _ I h) fun us s1 hh => ?_) he hpl
  obtain ⟨vs, H1, I1, r1, hl, q1⟩ := hh
  refine ⟨I1.kIn, ?_⟩
  obtain ⟨mb, hmb, hbb⟩ := I1.mod.blt
  have bk := I1.bk
  have hlen : us.length = fs.length := by rw [← r1.length]; exact hl
  show wpAny _ _ (call (.ref C) us) _ _ _
  obtain ⟨hp, g, dr, tk, os⟩ := s1
  refine wpAny_call (PySem.DLX.ex_made T I1.mod.kin I1.mod.glob hmb hbb I1.mod.nolimit bk (by have := hr.dp; omega) hlen h1 fun h' tk' e d M => ?_)
  show MkP X pins σ Q (.ref e) ⟨h', g, dr, tk', os⟩
  obtain ⟨oe, fv, hoe, hc, hd, hdat, h1v⟩ := M.obj
  have hns := M.ns
  obtain ⟨G', g1, g2⟩ := restrict h' fun b => decide (b ≠ e)
  have gk : ∀ b, b ≠ e → G'.get? b = h'.get? b := fun b hb => g1 b (decide_eq_true hb)
  have ge : G'.get? e = none := g2 e (by simp)
  have old : ∀ b o, hp.get? b = some o → G'.get? b = some o := fun b o q => (gk b (Nat.ne_of_lt (Nat.lt_of_lt_of_le (Heap.lt_size q) M.new))).trans (M.keep b o q)
  have ob : ObjOk X.prog X.w (upd H1 d (.xd (fs.zip vs))) G' d (.xd (fs.zip vs)) :=
    ⟨_, hns.at (fun o q => (gk d M.dne).trans q), fun f => relO_zip r1 f⟩
  have J : Inv X pins σ (upd H1 d (.xd (fs.zip vs))) ⟨G', g, dr, tk', os⟩ := I1.laid (t' := tk') old M.dbig ob
  refine ⟨e, oe, fv, ⟨G', g, dr, tk', os⟩, _, .ref C, some d, rfl, J, fun b o q => ?_, ge, hoe, ⟨hc, hd⟩, hdat, h1v, ?_, rfl, I1.bare, raises_own T.exC T.tyC, q1 d (I1.hok.fresh M.dbig)⟩
  · by_cases hb : b = e
    · have q' : G'.get? b = some o := q
      rw [hb, ge] at q'; cases q'
    · exact (gk b hb).symm.trans q
  · rw [upd_ne (Ne.symm M.dne)]
    exact I1.hok.fresh M.new
/-- why.f, why the error that the suite holds (at a; its class cls, its dict d) -/
def tByEx (C : Addr) (a : Addr) (cls : Value) (d : Option Addr) (f : Str) (te : TE) : TE := fun σ H Q => te σ H fun x H1 => x = .ref a ∧ cls = .ref C ∧ ∃ (dd : Addr) (l : List (Str × V)) (v : V), d = some dd ∧ H1 dd = some (.xd l) ∧ l.lookup f = some v ∧ Q v H1
theorem pe_byEx {f : Str} {a : Addr} {oe : Obj} {cls : Value} {d : Option Addr} {pn : List (Addr × Obj)} {e : Expr} {te : TE} {pos : Pos} (T : PySem.DLX.ExTxt X.prog X.K X.mg nm C fs) (hf0 : f ∈ fs) (hz : Zc cls d oe) (hf : ∃ vs, oe.data = .fields vs) (he : PE (X.suite a ((a, oe) :: pn)) e te)
    (hb : attributeBase e f X.env (eval e X.env) = eval e X.env := by rfl) :
    PE (X.suite a ((a, oe) :: pn)) (.Attribute e f pos) (tByEx C a cls d f te) := by
  refine ⟨fun pins s σ H Q I h => ?_⟩
  refine attr_of hb (thn (he.run pins s σ H _ I h) fun u s1 hh => ?_)
  obtain ⟨x, H1, I1, rx, ex, ec, dd, l, v, ed, ea, el, q⟩ := hh
  subst ex
  obtain rfl : u = Value.ref a := rx
  subst ec
  subst ed
  obtain ⟨ha, _⟩ := I1.pin (a, oe) (List.mem_append_left _ List.mem_cons_self)
  obtain ⟨vs, hd⟩ := hf
  have hx : ObjOk X.prog X.w H1 s1.heap dd (.xd l) := I1.hok dd _ ea
  obtain ⟨mA, hns, hr⟩ := hx
  obtain ⟨od, ho, hl⟩ := lookIn_ns hns
  obtain ⟨u, hu, ru⟩ := RelO.some_of (v := v) (o := mA f) (by rw [← el]; exact hr f)
  have J : PySem.W.InstAt s1.heap a oe C (some od) := ⟨ha, hz.1, by unfold PySem.W.notCls; rw [hd] <;> rfl, by rw [hz.2]; exact ho⟩
  exact HandSPX.exc_get I1.kIn J T.ga T.gg T.exC (PySem.W.findObj_own T.hdC (T.noF f hf0) rfl (by rw [hl, hu])) (handed_of ru) ⟨v, H1, I1.tok _, ru, q⟩
end
end L2
namespace PySem
namespace DLX
open PySem.W PySem.Calls PyProof.Rows PySem.HandSPX
section
variable {prog : Program} {w : World} {A : Around} {E : Value → Shared → Prop} {s : Shared} {K : Frag} {x D : Addr} {ox : Obj} {od : Option Obj}
theorem findObj_dataD {C : Addr} {name : Str} {a g : Value} (gc : (clsIn K C).isSome = true) (ga : findIn K (.ref C) name = some (some a)) (hg : specialIn K a "__get__" = some (some g)) (ht : takesIn K a = some true) : findObj K C od name = some (.bind g a) := by
  obtain ⟨cdt, gc⟩ := Option.isSome_iff_exists.mp gc
  unfold findObj
  rw [gc, Option.bind_some, ga, Option.bind_some]
  simp [hg, ht]
theorem kin_classD {Q : Option Value → Shared → Prop} (c : L2.ExcC K D)
    (X : K.In s.heap) (I : InstAt s.heap x ox D od) (h : Q (some (.ref D)) { s with toks := s.toks + 1 }) : wpAny (model prog w) A (getAttr? (.ref x) "__class__") Q E s := by
  have gf : findObj K D od "__class__" = some (.bind (.builtin "getset_descriptor.__get__") (.builtin "object.__class__")) := findObj_dataD (by obtain ⟨cdt, gc, _⟩ := any_some c.hd; rw [gc]; rfl) c.ha c.hn c.ht
  obtain ⟨hp, g, d, t, os⟩ := s
  have w0 := I.type (M := model prog w)
  have w1 := looks_findIn (M := model prog w) X c.hg
  have L2 := looks_findIn (M := model prog w) X c.hk
  have w3 := looks_find (M := model prog w) X I gf
  have sub : Looks (model prog w) hp (isInstance (.ref x) (.type "BaseException")) true := w0.andThen (looks_subIn X c.hs)
  have x0 : (false && onTheHeap (Value.builtin "BaseException.__getattribute__")) = false := rfl
  have x2 : (Value.builtin "BaseException.__getattribute__" == Value.builtin "object.__getattribute__") = false := by decide +kernel
  have x1 : (onTheHeap (Value.ref D) && Value.builtin "BaseException.__getattribute__" == Value.builtin "object.__getattribute__") = false := by rw [x2]; rfl
  unfold getAttr? getAttrBy? getAttrBy
  refine wpAny_bind (wpAny_mkText (wpAny_bind (wpAny_attempt (wpAny_holding (wpAny_bind (w0.at (wpAny_bind (w1.at ?_))))))))
  show wpAny _ _ (if (onTheHeap (Value.ref D) && Value.builtin "BaseException.__getattribute__" == Value.builtin "object.__getattribute__") = true then _ else _) _ _ _
  rw [x1, if_neg Bool.false_ne_true]
  unfold getAttrByItsOwn hookBefore
  refine wpAny_bind ?_
  rw [if_pos (show onTheHeap (Value.ref D) = true from rfl)]
  refine L2.at ?_
  refine wpAny_bind (wpAny_attempt (wpAny_holding ?_))
  unfold callGetattribute
  rw [x0, if_neg Bool.false_ne_true]
  unfold boundAndCalled
  rw [PySem.F.excAttr_ValueError.ga.bind (.ref x)]
  refine wpAny_bind (wpAny_pure ?_)
  show wpAny _ _ (call (.builtin "BaseException.__getattribute__") [.ref x, .str "__class__" t]) _ _ _
  refine wpAny_call (codeAny_call_builtin PySem.F.excAttr_ValueError.ga.plain PySem.F.entry_bexc_ga ?_)
  refine @check_slot (model prog w) _ _ ⟨hp, g, d, t + 1, os⟩ "BaseException.__getattribute__" "BaseException" "__getattribute__" (.ref x) [.str "__class__" t] [] _ (by decide +kernel) (by decide +kernel) sub (PySem.F.args_bexc_ga (.ref x) (.str "__class__" t)) ?_
  unfold Builtin.«object.__getattribute__»
  refine wpAny_bind (wpAny_of_eq (a := ((Value.ref x : Value), [Value.str "__class__" t])) (by first | rfl | (simp only [slotArgs]; rfl)) ?_)
  refine wpAny_bind (wpAny_pure (wpAny_bind (w0.at (wpAny_bind (w3.at ?_)))))
  show wpAny _ _ (holding [Value.builtin "object.__class__"] (call (.builtin "getset_descriptor.__get__") [.builtin "object.__class__", .ref x, .ref D]) >>= ret) _ _ _
  refine wpAny_bind (wpAny_holding (wpAny_call (class_get (s := ⟨hp, g, d, t + 1, os⟩) (ox := ox) (od := od) X I c.hm ?_)))
  refine wpAny_pure ?_
  show wpAny _ _ (handedOut (.ref D)) _ _ _
  rw [handedOut_of (v := .ref D) rfl]
  first
    | exact wpAny_pure (wpAny_pure h)
    | exact wpAny_pure h
    | exact wpAny_pure (wpAny_bind (wpAny_pure (wpAny_pure h)))
theorem kitx_excD (c : L2.ExcC K D) : KitX K (.ref x) (.ref D) (fun h => ∃ od, InstAt h x ox D od) where
  ty := fun _ _ _ ⟨_, I⟩ => I.type
  it := fun _ _ X _ => by
    obtain ⟨cdD, hcD, _⟩ := any_some c.hd
    unfold clsIn at hcD
    split at hcD
    · rename_i c' d' cd' sl' ho
      intro A' Q' E' s' k q
      unfold isType loadHead
      exact wpAny_bind (wpAny_loadPart (k _ _ (X _ _ ho)) (wpAny_pure q))
    · cases hcD
  ne := fun h tp dd its n sl X htp => by
    obtain ⟨cdD, hcD, _⟩ := any_some c.hd
    refine Bool.eq_false_iff.mpr fun q => ?_
    have e : D = tp := Value.ref.inj (beq_iff_eq.mp q)
    subst e
    unfold clsIn at hcD
    split at hcD
    · rename_i c' d' cd' sl' ho
      have z := (X _ _ ho).symm.trans htp
      cases z
    · cases hcD
  ca := fun X ⟨_, I⟩ k => kin_classD c X I k
end
end DLX
end PySem
namespace L2
open PySem PySem.Spec PyProof.Rows
/-- isinstance(why, X), why the error that the suite holds, with fields of its own -/
def rIsX (K : PySem.W.Frag) (cls : Value) (d : Option Addr) (a : Addr) : List V → Hp → VK → Prop := fun xs H Q => ∃ (D dd : Addr) (l : List (Str × V)) (c : V) (cv : Value) (b : Bool), cls = .ref D ∧ d = some dd ∧ H dd = some (.xd l) ∧ ExcC K D ∧
  xs = [.ref a, c] ∧ (∀ u, RelV c u → u = cv) ∧ PySem.W.kitOne K (.ref D) cv = some b ∧ Q (.bl b) H
theorem call_isX {X : Cx} {a : Addr} {cls : Value} {d : Option Addr} {oe : Obj} {pn : List (Addr × Obj)} (hz : Zc cls d oe) (hf : ∃ vs, oe.data = .fields vs) : CallR (X.suite a ((a, oe) :: pn)) (.builtin "isinstance") (rIsX X.K cls d a) := by
  intro pins s σ H xs us Q I r h
  obtain ⟨D, dd, l, c, cv, b, rfl, rfl, hH, C, rfl, hcv, e, q⟩ := h
  cases r with
  | cons rx rr =>
    cases rr with
    | cons rt rr =>
      cases rr
      cases rx
      have ec := hcv _ rt
      subst ec
      obtain ⟨hget, _⟩ := I.pin (a, oe) (List.mem_append.mpr (.inl List.mem_cons_self))
      obtain ⟨vs, hv⟩ := hf
      have hx : ObjOk X.prog X.w H s.heap dd (.xd l) := I.hok dd _ hH
      obtain ⟨mA, ⟨od, es, ep, ho, _⟩, _⟩ := hx
      have J : PySem.W.InstAt s.heap a oe D (some od) := by
        obtain ⟨oc, od', oda, osl⟩ := oe
        obtain ⟨h1, h2⟩ := hz
        dsimp only at h1 h2 hv
        subst h1 h2 hv
        exact ⟨hget, rfl, rfl, ho⟩
      exact PySem.W.kia_one (PySem.DLX.kitx_excD C) I.kIn ⟨some od, J⟩ e (fun z => nomatch z) fun tk => ⟨.bl b, H, I.kept (t' := tk) fun _ _ z => z, rfl, q⟩
end L2
namespace DL
open PySem L2
section
variable {K : PySem.W.Frag} {mg : Mg} {C : Cf} {Γ Γ' : List Sh}
/-- raise Err(e1, ..) -/
def tRaiseEx (C0 : Addr) (fs : List Str) (W : WX) (ta : TA) : TS := fun _ σ H => tMkEx C0 fs ta σ H fun cls d H' => W cls d σ H'
def sRaise (c : Nat) (fs : List Str) (fa : ER (List D)) : Env → Out := fun ρ => (fa ρ).out fun ds ρ => if ds.length = fs.length then .exc ⟨c, fs.zip ds⟩ ρ else .stuck
theorem zip_fst : ∀ {fs : List Str} {ds : List D}, ds.length = fs.length → (fs.zip ds).map (·.1) = fs ∧ (fs.zip ds).map (·.2) = ds
  | [], [], _ => ⟨rfl, rfl⟩
  | f :: fs, d :: ds, h => by
    obtain ⟨h1, h2⟩ := zip_fst (fs := fs) (ds := ds) (by simpa using h)
    exact ⟨by simp [h1], by simp [h2]⟩
  | [], _ :: _, h => by cases h
  | _ :: _, [], h => by cases h
theorem sok_raise {c : Nat} {C0 : Addr} {fs : List Str} {ta : TA} {fa : ER (List D)} (gC : mg (clsN c) = some (.ref C0)) (ag : C.ag Γ) (ha : AOk K mg C.W Γ ta fa) : SOk K mg C Γ Γ' (tRaiseEx C0 fs C.W.W ta) (sRaise c fs fa) := by
  intro B R H σ ρ D pw O hl
  unfold sRaise at hl
  refine ha B R H σ ρ _ pw O ?_
  cases e : fa ρ with
  | stuck => rw [e] at hl; exact hl
  | exc x ρ1 => rw [e] at hl; exact SLand.exc hl ag
  | ok ds ρ1 =>
    rw [e] at hl
    intro B1 H1 vs s1 O1 r1
    simp only [Res.out] at hl
    by_cases hn : ds.length = fs.length
    · rw [if_pos hn] at hl
      obtain ⟨z1, z2⟩ := zip_fst hn
      refine ⟨by rw [r1.length]; exact hn, fun d hd => ?_⟩
      exact hl B1 _ σ _ d _ Γ s1 (O1.sr.free hd) ag (O1.guard hd) Pin.refl ⟨C0, vs, gC, rfl, by dsimp only; rw [z1], by dsimp only; rw [z2]; exact r1⟩
    · rw [if_neg hn] at hl; exact hl.elim
/-! ### try -/
def scalD : D → Bool
  | .non => true | .bl _ => true | .int _ => true | .str _ => true | _ => false
theorem Rep.scal {B B' : Hp} {v : V} {d : D} (r : Rep K B v d) (h : scalD d = true) : Rep K B' v d := by
  cases r with
  | non => exact .non
  | bl b => exact .bl b
  | int i => exact .int i
  | str s => exact .str s
  | _ => cases h
theorem Reps.scal {B B' : Hp} : ∀ {vs : List V} {ds : List D}, Reps K B vs ds → ds.all scalD = true → Reps K B' vs ds
  | _, _, .nil, _ => .nil
  | _, _, .cons r t, h => by
    rw [List.all_cons, Bool.and_eq_true] at h
    exact .cons (r.scal h.1) (Reps.scal t h.2)
def Out.wipe (i : Nat) : Out → Out
  | .nx ρ => .nx (ρ.set i none)
  | .bk ρ => .bk (ρ.set i none)
  | .ct ρ => .ct (ρ.set i none)
  | .exc _ _ => .stuck
  | o => o
def Out.nox : Out → Out
  | .exc _ _ => .stuck
  | o => o
def sTryAs (i : Nat) (cs : List (Nat × Bool)) (fb : Env → Out) (fsu : Ex → Env → Out) : Env → Out := fun ρ => match fb ρ with
  | .exc e ρ' => match cs.lookup e.c with
    | some true => if (e.fs.map (·.2)).all scalD = true then (fsu e (ρ'.set i none)).wipe i else .stuck
    | some false => .exc e ρ'
    | none => .stuck
  | o => o
def sTry (cs : List (Nat × Bool)) (fb : Env → Out) (fsu : Env → Out) : Env → Out := fun ρ => match fb ρ with
  | .exc e ρ' => match cs.lookup e.c with
    | some true => (fsu ρ').nox
    | some false => .exc e ρ'
    | none => .stuck
  | o => o
/-- within the body of a try -/
def cfTry (C : Cf) (Γ : List Sh) (W' : WX) : Cf := { C with W := ⟨W', C.W.P⟩, ag := fun Γ1 => Γ1 = Γ, hP := C.hP }
/-- what a suite knows of its error -/
def ExV (K : PySem.W.Frag) (mg : Mg) (e : Ex) (cls : Value) (l : List (Str × V)) : Prop := ∃ (C0 : Addr) (vs : List V), mg (clsN e.c) = some (.ref C0) ∧ cls = .ref C0 ∧ l = (e.fs.map (·.1)).zip vs ∧ ∀ B, Reps K B vs (e.fs.map (·.2))
def PSu (i : Nat) (a p : Addr) (l : List (Str × V)) : Hp → L2.St → Prop := fun R σ => σ[i]? = some (some (.ref a)) ∧ R p = some (.xd l)
def cfSu (C : Cf) (i : Nat) (a p : Addr) (l : List (Str × V)) : Cf := { C with W := ⟨fun _ _ _ _ => False, PSu i a p l⟩, pn := i :: C.pn, hP := fun R σ σ' h q => ⟨(h i List.mem_cons_self).trans q.1, q.2⟩ }
theorem sok_try_as {c : Value} {i : Nat} {cs : List (Nat × Bool)} {tb : WX → TS} {ts : Addr → Value → Option Addr → TS} {fb : Env → Out} {fsu : Ex → Env → Out} (ag : C.ag Γ) (hl : C.Γl = Γ ∨ True) (hi : i ∉ C.pn) (hΓ : Γ[i]? = some .pu)
    (hcs : ∀ k b, cs.lookup k = some b → ∀ C0, mg (clsN k) = some (.ref C0) → PySem.W.exmOne K (.ref C0) c = some b)
    (hb : ∀ W', SOk K mg (cfTry C Γ W') Γ Γ' (tb W') fb)
    (hsu : ∀ a e cls p l, ExV K mg e cls l → SOk K mg (cfSu C i a p l) Γ Γ' (ts a cls (some p)) (fsu e)) :
    SOk K mg C Γ Γ' (fun D σ H => tb (wAs K c i ts C.W.W D) D σ H) (sTryAs i cs fb fsu) := by
  intro B R H σ ρ D pw O h
  unfold sTryAs at h
  refine hb (wAs K c i ts C.W.W D) B R H σ ρ D pw O ?_
  cases e : fb ρ with
  | nx ρ1 => rw [e] at h; exact h
  | bk ρ1 => rw [e] at h; exact h
  | ct ρ1 => rw [e] at h; exact h
  | rt d ρ1 =>
    rw [e] at h
    intro B' H' σ' v Γ1 sb ag1 O' p
    have ag1 : Γ1 = Γ := ag1
    subst ag1
    exact h B' H' σ' v _ sb ag O' p
  | stuck => rw [e] at h; exact h
  | exc x ρ1 =>
    rw [e] at h
    intro B' H' σ' cls p l Γ1 sb np ag1 O' pin xr
    have ag1 : Γ1 = Γ := ag1
    subst ag1
    simp only at h
    have xr0 := xr
    obtain ⟨C0, vs, g1, rfl, rfl, g4⟩ := xr
    cases e2 : cs.lookup x.c with
    | none => rw [e2] at h; exact h.elim
    | some b =>
      rw [e2] at h
      refine ⟨b, hcs _ _ e2 _ g1, fun hbt a ha => ?_, fun hbf => ?_⟩
      · subst hbt
        simp only at h
        by_cases hz : (x.fs.map (·.2)).all scalD = true
        · rw [if_pos hz] at h
          have nR : Same R (upd R p (.xd ((x.fs.map (·.1)).zip vs))) := same_upd np
          have hlen : i < σ'.length := by rw [O'.lσ]; exact (List.getElem?_eq_some_iff.mp hΓ).1
          have Os : Ok K Γ1 B' (upd R p (.xd ((x.fs.map (·.1)).zip vs))) H' (σ'.set i (some (.ref a))) (ρ1.set i none) := O'.drop (by simp) (by simp) fun j d hj => by
            by_cases z : j = i
            · subst z
              by_cases hl : j < ρ1.length
              · rw [List.getElem?_set_self hl] at hj; cases hj
              · rw [List.getElem?_eq_none (by simpa using hl)] at hj; cases hj
            · rw [List.getElem?_set_ne (Ne.symm z)] at hj ⊢
              exact ⟨hj, rfl⟩
          have pin2 : Pin C.pn σ (σ'.set i (some (.ref a))) := fun j hj => by
            rw [List.getElem?_set_ne (fun z => hi (by rw [z]; exact hj))]; exact pin j hj
          refine hsu a x _ p _ ⟨C0, vs, g1, rfl, rfl, fun B2 => g4.scal hz⟩ B' _ H' _ (ρ1.set i none) _ ⟨List.getElem?_set_self hlen, upd_same⟩ Os ?_
          have out : ∀ {Γ2 : List Sh} {B2 H2 : Hp} {σ2 : L2.St} {ρ2 : Env}, Ok K Γ2 B2 (upd R p (.xd ((x.fs.map (·.1)).zip vs))) H2 σ2 ρ2 → Ok K Γ2 B2 R H2 (σ2.set i none) (ρ2.set i none) := fun {Γ2 B2 H2 σ2 ρ2} O2 => (O2.weakR nR).drop (by simp) (by simp) fun j d hj => by
            by_cases z : j = i
            · subst z
              by_cases hl : j < ρ2.length
              · rw [List.getElem?_set_self hl] at hj; cases hj
              · rw [List.getElem?_eq_none (by simpa using hl)] at hj; cases hj
            · rw [List.getElem?_set_ne (Ne.symm z)] at hj ⊢
              exact ⟨hj, rfl⟩
          have pout : ∀ {σ2 : L2.St}, Pin (i :: C.pn) (σ'.set i (some (.ref a))) σ2 → Pin C.pn σ (σ2.set i none) := fun {σ2} q j hj => by
            rw [List.getElem?_set_ne (fun z => hi (by rw [z]; exact hj))]
            exact (q j (List.mem_cons_of_mem _ hj)).trans (pin2 j hj)
          have pout2 : ∀ {σ2 : L2.St}, Pin (i :: C.pn) (σ'.set i (some (.ref a))) σ2 → Pin C.pn σ σ2 := fun {σ2} q j hj => (q j (List.mem_cons_of_mem _ hj)).trans (pin2 j hj)
          cases e3 : fsu x (ρ1.set i none) with
          | stuck => rw [e3] at h; exact h
          | nx ρ3 => rw [e3] at h; exact fun B3 H3 σ3 s3 O3 p3 => h B3 H3 (σ3.set i none) (sb.trans s3) (out O3) (pout p3)
          | bk ρ3 => rw [e3] at h; exact fun B3 H3 σ3 s3 O3 p3 => h B3 H3 (σ3.set i none) (sb.trans s3) (out O3) (pout p3)
          | ct ρ3 => rw [e3] at h; exact fun B3 H3 σ3 s3 O3 p3 => h B3 H3 (σ3.set i none) (sb.trans s3) (out O3) (pout p3)
          | rt d ρ3 => rw [e3] at h; exact fun B3 H3 σ3 v Γ3 s3 a3 O3 p3 => h B3 H3 σ3 v Γ3 (sb.trans s3) a3 (O3.weakR nR) (pout2 p3)
          | exc y ρ3 => rw [e3] at h; exact h.elim
        · rw [if_neg hz] at h; exact h.elim
      · subst hbf
        simp only at h
        exact h B' H' σ' _ p _ Γ1 sb np ag O' pin xr0
/-- the suite of a clause without a name -/
def cfSu0 (C : Cf) : Cf := { C with W := ⟨fun _ _ _ _ => False, C.W.P⟩, hP := C.hP }
theorem sok_try {c : Value} {cs : List (Nat × Bool)} {tb : WX → TS} {ts : Addr → Value → Option Addr → TS} {fb : Env → Out} {fsu : Env → Out} (ag : C.ag Γ)
    (hcs : ∀ k b, cs.lookup k = some b → ∀ C0, mg (clsN k) = some (.ref C0) → PySem.W.exmOne K (.ref C0) c = some b)
    (hb : ∀ W', SOk K mg (cfTry C Γ W') Γ Γ' (tb W') fb)
    (hsu : ∀ a cls d, SOk K mg (cfSu0 C) Γ Γ' (ts a cls d) fsu) :
    SOk K mg C Γ Γ' (fun D σ H => tb (wOnly K c ts C.W.W D) D σ H) (sTry cs fb fsu) := by
  intro B R H σ ρ D pw O h
  unfold sTry at h
  refine hb (wOnly K c ts C.W.W D) B R H σ ρ D pw O ?_
  cases e : fb ρ with
  | nx ρ1 => rw [e] at h; exact h
  | bk ρ1 => rw [e] at h; exact h
  | ct ρ1 => rw [e] at h; exact h
  | rt d ρ1 =>
    rw [e] at h
    intro B' H' σ' v Γ1 sb ag1 O' p
    have ag1 : Γ1 = Γ := ag1
    subst ag1
    exact h B' H' σ' v _ sb ag O' p
  | stuck => rw [e] at h; exact h
  | exc x ρ1 =>
    rw [e] at h
    intro B' H' σ' cls p l Γ1 sb np ag1 O' pin xr
    have ag1 : Γ1 = Γ := ag1
    subst ag1
    simp only at h
    have xr0 := xr
    obtain ⟨C0, vs, g1, rfl, rfl, g4⟩ := xr
    cases e2 : cs.lookup x.c with
    | none => rw [e2] at h; exact h.elim
    | some b =>
      rw [e2] at h
      refine ⟨b, hcs _ _ e2 _ g1, fun hbt a ha => ?_, fun hbf => ?_⟩
      · subst hbt
        simp only at h
        have nR : Same R (upd R p (.xd ((x.fs.map (·.1)).zip vs))) := same_upd np
        refine hsu a _ _ B' R H' σ' ρ1 _ (C.hP _ _ _ pin pw) (O'.weakR nR) ?_
        cases e3 : fsu ρ1 with
        | stuck => rw [e3] at h; exact h
        | nx ρ3 => rw [e3] at h; exact fun B3 H3 σ3 s3 O3 p3 => h B3 H3 σ3 (sb.trans s3) O3 (pin.trans p3)
        | bk ρ3 => rw [e3] at h; exact fun B3 H3 σ3 s3 O3 p3 => h B3 H3 σ3 (sb.trans s3) O3 (pin.trans p3)
        | ct ρ3 => rw [e3] at h; exact fun B3 H3 σ3 s3 O3 p3 => h B3 H3 σ3 (sb.trans s3) O3 (pin.trans p3)
        | rt d ρ3 => rw [e3] at h; exact fun B3 H3 σ3 v Γ3 s3 a3 O3 p3 => h B3 H3 σ3 v Γ3 (sb.trans s3) a3 O3 (pin.trans p3)
        | exc y ρ3 => rw [e3] at h; exact h.elim
      · subst hbf
        simp only at h
        exact h B' H' σ' _ p _ Γ1 sb np ag O' pin xr0
/-! ### why.f, isinstance(why, X) -/
def eWhy (e : Ex) (c : Nat) (f : Str) : ER D := fun ρ => if e.c = c then (match e.fs.lookup f with
  | some d => .ok d ρ
  | none => .stuck) else .stuck
theorem lookup_rep {f : Str} {d : D} : ∀ {fs : List (Str × D)} {vs : List V}, (∀ B, Reps K B vs (fs.map (·.2))) → fs.lookup f = some d → ∃ v, ((fs.map (·.1)).zip vs).lookup f = some v ∧ ∀ B, Rep K B v d
  | [], _, _, h => by cases h
  | (g, u) :: fs, vs, r, h => by
    cases vs with
    | nil => cases r (fun _ => none)
    | cons v vs =>
      have r1 : ∀ B, Rep K B v u := fun B => by cases r B with | cons a _ => exact a
      have r2 : ∀ B, Reps K B vs (fs.map (·.2)) := fun B => by cases r B with | cons _ b => exact b
      rw [List.lookup_cons] at h
      rw [List.map_cons, List.zip_cons_cons, List.lookup_cons]
      cases q : f == g with
      | true => rw [q] at h; cases h; exact ⟨v, rfl, r1⟩
      | false => rw [q] at h; exact lookup_rep r2 h
theorem eok_why {i c : Nat} {a p : Addr} {l : List (Str × V)} {e : Ex} {cls : Value} {f : Str} {C0 : Addr} {Wx : WX} (gC : mg (clsN c) = some (.ref C0)) (x : ExV K mg e cls l) : EOk K mg ⟨Wx, PSu i a p l⟩ Γ (tByEx C0 a cls (some p) f (tVar i)) .pu (eWhy e c f) := by
  intro B R H σ ρ Q pw O h
  unfold eWhy at h
  obtain ⟨C1, vs, g1, rfl, rfl, g4⟩ := x
  obtain ⟨p1, p2⟩ := pw
  by_cases hc : e.c = c
  · rw [if_pos hc] at h
    subst hc
    rw [gC] at g1
    cases g1
    cases q : e.fs.lookup f with
    | none => rw [q] at h; exact h.elim
    | some d =>
      rw [q] at h
      obtain ⟨v, h1, h2⟩ := lookup_rep g4 q
      exact ⟨_, p1, rfl, rfl, p, _, v, rfl, O.sr _ _ p2, h1, h B H v (Same.refl _) (O.pushP (h2 B))⟩
  · rw [if_neg hc] at h; exact h.elim
/-- is the error of class k? cs tells it by its own class -/
def eIsX (e : Ex) (cs : List (Nat × Bool)) : ER D := fun ρ => match cs.lookup e.c with
  | some b => .ok (.bl b) ρ
  | none => .stuck
theorem eok_isx {i : Nat} {a p Cx : Addr} {l : List (Str × V)} {e : Ex} {cls : Value} {cs : List (Nat × Bool)} {Wx : WX}
    (hcs : ∀ k b, cs.lookup k = some b → ∀ C0, mg (clsN k) = some (.ref C0) → ExcC K C0 ∧ PySem.W.kitOne K (.ref C0) (.ref Cx) = some b) (x : ExV K mg e cls l) :
    EOk K mg ⟨Wx, PSu i a p l⟩ Γ (tCB (rIsX K cls (some p) a) (tCons (tVar i) (tCons (tC (.ref Cx)) tNil))) .pu (eIsX e cs) := by
  intro B R H σ ρ Q pw O h
  unfold eIsX at h
  obtain ⟨C1, vs, g1, rfl, rfl, g4⟩ := x
  obtain ⟨p1, p2⟩ := pw
  cases q : cs.lookup e.c with
  | none => rw [q] at h; exact h.elim
  | some b =>
    rw [q] at h
    obtain ⟨h1, h2⟩ := hcs _ _ q _ g1
    exact ⟨_, p1, C1, p, _, .ref Cx, .ref Cx, b, rfl, rfl, O.sr _ _ p2, h1, rfl, fun u hu => hu, h2, h B H _ (Same.refl _) (O.pushP (.bl b))⟩
end
end DL
namespace DL
open PySem L2
section
variable {K : PySem.W.Frag} {mg : Mg} {W : Wc} {C : Cf} {Γ Γ' : List Sh} {s : Sh} {te ta tb : TE} {tt : TT} {fa fe : ER D} {ft : ER Bool}
/-! ### own things looked at: frozen for the time of a look -/
def pus (Γ : List Sh) : List Sh := Γ.map fun _ => .pu
theorem OwnL.toRep {B B' H : Hp} (sb : Same B B') : ∀ {l : LS} {v : V} {d : D} {f : List Addr}, OwnL K B H l v d f → (∀ p ∈ f, ∀ o, H p = some o → B' p = some o) → Rep K B' v d
  | .pu, _, _, _, ⟨r, _⟩, _ => r.mono sb
  | .ls, _, _, _, ⟨p, vs, ds, e1, e2, e3, h, r⟩, k => by
    subst e1 e2
    exact .lst (k p (by rw [e3]; exact List.mem_cons_self) _ h) (r.mono sb)
theorem OwnLs.toReps {B B' H : Hp} (sb : Same B B') {ls : List LS} {vs : List V} {ds : List D} {fs : List Addr} (h : OwnLs K B H ls vs ds fs) : (∀ p ∈ fs, ∀ o, H p = some o → B' p = some o) → Reps K B' vs ds := by
  induction h with
  | nil => exact fun _ => .nil
  | cons h _ ih => exact fun k => .cons (h.toRep sb fun p hp => k p (List.mem_append_left _ hp)) (ih fun p hp => k p (List.mem_append_right _ hp))
theorem Own.toRep {B B' H : Hp} (sb : Same B B') : ∀ {s : Sh} {v : V} {d : D} {f : List Addr}, Own K B H s v d f → (∀ p ∈ f, ∀ o, H p = some o → B' p = some o) → Rep K B' v d
  | .lf _, _, _, _, h, k => OwnL.toRep sb h k
  | .rc _, _, _, _, ⟨p, vs, ds, fs, e1, e2, e3, h, r⟩, k => by
    subst e1 e2
    exact .lst (k p (by rw [e3]; exact List.mem_cons_self) _ h) (r.toReps sb fun q hq => k q (by rw [e3]; exact List.mem_cons_of_mem _ hq))
open Classical in
theorem Ok.freezeAll {B R H : Hp} {σ : L2.St} {ρ : Env} (O : Ok K Γ B R H σ ρ) : ∃ B' F, Same B B' ∧ Ok K (pus Γ) B' R H σ ρ ∧ Feet K Γ B R H σ ρ F ∧ ∀ i p, p ∈ F i → B' p = H p := by
  obtain ⟨F, W⟩ := O.own
  let B' : Hp := fun a => if B a = none then (if ∃ i, a ∈ F i then H a else none) else B a
  have sB : Same B B' := fun a o e => by show (if B a = none then _ else _) = _; rw [if_neg (by rw [e]; simp)]; exact e
  have hF : ∀ i p, p ∈ F i → B' p = H p := fun i p hp => by show (if B p = none then _ else _) = _; rw [if_pos (W.no i p hp).2.1, if_pos ⟨i, hp⟩]
  refine ⟨B', F, sB, ⟨fun a o e => ?_, O.sr, by simp [pus, O.lσ], by simp [pus, O.lρ], fun p o e => ?_, fun _ => [], ⟨fun i d s h hs => ?_, fun i p hp => absurd hp (by simp), fun _ => List.nodup_nil, fun i j p hp => absurd hp (by simp)⟩⟩, W, hF⟩
  · have e : (if B a = none then (if ∃ i, a ∈ F i then H a else none) else B a) = some o := e
    by_cases hb : B a = none
    · rw [if_pos hb] at e
      by_cases hi : ∃ i, a ∈ F i
      · rw [if_pos hi] at e; exact e
      · rw [if_neg hi] at e; cases e
    · rw [if_neg hb] at e; exact O.sb a o e
  · show (if B p = none then (if ∃ i, p ∈ F i then H p else none) else B p) = none
    rw [if_pos (O.br p o e)]
    by_cases hi : ∃ i, p ∈ F i
    · obtain ⟨i, hp⟩ := hi
      rw [(W.no i p hp).2.2] at e; cases e
    · rw [if_neg hi]
  · have hl : i < Γ.length := by have := (List.getElem?_eq_some_iff.mp hs).1; simpa [pus] using this
    obtain ⟨v, h1, h2⟩ := W.at_ i d Γ[i] h (by simp [hl])
    have : s = .pu := by unfold pus at hs; rw [List.getElem?_map] at hs; simp [hl] at hs; exact hs.symm
    subst this
    exact ⟨v, h1, h2.toRep sB fun p hp o ho => by rw [hF i p hp]; exact ho, rfl⟩
theorem Ok.thaw {B R R' H B' H' : Hp} {σ : L2.St} {ρ : Env} {F : Nat → List Addr} (O : Ok K Γ B R H σ ρ) (W : Feet K Γ B R H σ ρ F) (sB : Same B B') (hF : ∀ i p, p ∈ F i → B' p = H p) {B2 : Hp} (s1 : Same B' B2) (s2 : Same B2 H') (s3 : Same R' H') (s4 : ∀ p o, R' p = some o → B2 p = none) :
    Ok K Γ B R' H' σ ρ := by
  have keep : ∀ i p, p ∈ F i → ∀ o, H p = some o → B2 p = some o := fun i p hp o ho => s1 _ _ (by rw [hF i p hp]; exact ho)
  refine ⟨(sB.trans s1).trans s2, s3, O.lσ, O.lρ, fun p o e => (sB.trans s1).free (s4 p o e), F, ⟨fun i d s h hs => ?_, fun i p hp => ?_, W.nd, W.dj⟩⟩
  · obtain ⟨v, h1, h2⟩ := W.at_ i d s h hs
    exact ⟨v, h1, h2.at (Same.refl _) fun p hp o ho => s2 _ _ (keep i p hp o ho)⟩
  · obtain ⟨n1, n2, n3⟩ := W.no i p hp
    cases z : H p with
    | none => exact absurd z n1
    | some o =>
      have hb := keep i p hp o z
      refine ⟨by rw [s2 _ _ hb]; simp, n2, ?_⟩
      cases q : R' p with
      | none => rfl
      | some u => rw [s4 p u q] at hb; cases hb
theorem XLand.view {B B' R H : Hp} {σ : L2.St} {ρ ρ' : Env} {e : Ex} {F : Nat → List Addr} (O : Ok K Γ B R H σ ρ) (Wf : Feet K Γ B R H σ ρ F) (sB : Same B B') (hF : ∀ i p, p ∈ F i → B' p = H p) (hs : (e.fs.map (·.2)).all scalD = true)
    (h : XLand K mg W Γ B R σ e ρ) : XLand K mg W (pus Γ) B' R σ e ρ' := by
  intro B2 H2 cls p l s2 np O2 x
  obtain ⟨C0, vs, g1, g2, g3, g4⟩ := x
  exact h B H2 cls p l (Same.refl _) np (O.thaw Wf sB hF s2 O2.sb O2.sr O2.br) ⟨C0, vs, g1, g2, g3, g4.scal hs⟩
def eView (f : ER D) : ER D := fun ρ => match f ρ with
  | .ok d _ => if scalD d = true then .ok d ρ else .stuck
  | .exc e _ => if (e.fs.map (·.2)).all scalD = true then .exc e ρ else .stuck
  | .stuck => .stuck
theorem eok_view (h : EOk K mg W (pus Γ) te .pu fa) : EOk K mg W Γ te .pu (eView fa) := by
  intro B R H σ ρ Q pw O hl
  obtain ⟨B', F, sB, O', Wf, hF⟩ := O.freezeAll
  unfold eView at hl
  refine h B' R H σ ρ Q pw O' ?_
  cases e : fa ρ with
  | stuck => rw [e] at hl; exact hl
  | ok d ρ1 =>
    rw [e] at hl
    by_cases hd : scalD d = true
    · simp only [hd, if_true] at hl
      intro B2 H2 v s2 O2
      exact hl B H2 v (Same.refl _) ((O.thaw Wf sB hF s2 O2.sb O2.sr O2.br).pushP (O2.top.scal hd))
    · simp only [hd] at hl; exact hl.elim
  | exc x ρ1 =>
    rw [e] at hl
    by_cases hd : (x.fs.map (·.2)).all scalD = true
    · simp only [hd, if_true] at hl; exact XLand.view O Wf sB hF hd hl
    · simp only [hd] at hl; exact hl.elim
def tView (f : ER Bool) : ER Bool := fun ρ => match f ρ with
  | .ok d _ => .ok d ρ
  | .exc e _ => if (e.fs.map (·.2)).all scalD = true then .exc e ρ else .stuck
  | .stuck => .stuck
theorem tok_view (h : TOk K mg W (pus Γ) tt ft) : TOk K mg W Γ tt (tView ft) := by
  intro B R H σ ρ Q pw O hl
  obtain ⟨B', F, sB, O', Wf, hF⟩ := O.freezeAll
  unfold tView at hl
  refine h B' R H σ ρ Q pw O' ?_
  cases e : ft ρ with
  | stuck => rw [e] at hl; exact hl
  | ok d ρ1 =>
    rw [e] at hl
    intro B2 H2 s2 O2
    exact hl B H2 (Same.refl _) (O.thaw Wf sB hF s2 O2.sb O2.sr O2.br)
  | exc x ρ1 =>
    rw [e] at hl
    by_cases hd : (x.fs.map (·.2)).all scalD = true
    · simp only [hd, if_true] at hl; exact XLand.view O Wf sB hF hd hl
    · simp only [hd] at hl; exact hl.elim
/-! ### slots forgotten: the shape of what is empty is free -/
theorem sok_fgt {i : Nat} {s : Sh} {ts : TS} {f : Env → Out} (h : SOk K mg C (Γ.set i s) Γ' ts f) : SOk K mg C Γ Γ' ts (fun ρ => f (ρ.set i none)) := by
  intro B R H σ ρ D pw O hl
  have O1 : Ok K Γ B R H σ (ρ.set i none) := O.drop rfl (by simp) fun j d hj => by
    by_cases z : i = j
    · subst z
      by_cases hl : i < ρ.length
      · rw [List.getElem?_set_self hl] at hj; cases hj
      · rw [List.getElem?_eq_none (by simpa using hl)] at hj; cases hj
    · rw [List.getElem?_set_ne z] at hj; exact ⟨hj, rfl⟩
  refine h B R H σ (ρ.set i none) D pw (O1.reshape (by simp) fun j d hj => ?_) hl
  by_cases z : i = j
  · subst z
    by_cases hl : i < ρ.length
    · rw [List.getElem?_set_self hl] at hj; cases hj
    · rw [List.getElem?_eq_none (by simpa using hl)] at hj; cases hj
  · rw [List.getElem?_set_ne z]
/-! ### the item of an own list -/
def eIxO (i : Nat) (fe : ER D) : ER D := fun ρ => match ρ[i]? with
  | some (some _) => (fe ρ).bind fun d ρ' => match d, ρ'[i]? with
    | .int k, some (some (.lst ds)) => ofOpt (atI ds k) ρ'
    | _, _ => .stuck
  | _ => .stuck
theorem ixN_lt {n : Nat} {i : Int} {j : Nat} (h : ixN n i = some j) : j < n := (ixN_seq h).2.1
theorem Reps.atI {B : Hp} {vs : List V} {ds : List D} {k : Int} {d : D} (r : Reps K B vs ds) (h : L2.atI ds k = some d) : ∃ v, L2.atI vs k = some v ∧ Rep K B v d := by
  unfold L2.atI at h ⊢
  rw [r.length]
  cases e : ixN ds.length k with
  | none => rw [e] at h; cases h
  | some j => rw [e] at h; exact r.get h
theorem some_get {B R H : Hp} {σ : L2.St} {ρ : Env} {i : Nat} {d : D} {s : Sh} (O : Ok K Γ B R H σ ρ) (h : ρ[i]? = some (some d)) (hs : Γ[i]? = some s) : ∃ v, σ[i]? = some (some v) := by
  obtain ⟨F, W⟩ := O.own
  obtain ⟨v, h1, _⟩ := W.at_ i d s h hs
  exact ⟨v, h1⟩
theorem eok_ixO {i : Nat} (hs : Γ[i]? = some .ls) (h : EOk K mg W Γ te .pu fe) : EOk K mg W Γ (tOp (rIx K) (tVar i) te) .pu (eIxO i fe) := by
  intro B R H σ ρ Q pw O hl
  unfold eIxO at hl
  cases e0 : ρ[i]? with
  | none => rw [e0] at hl; exact hl.elim
  | some o =>
    cases o with
    | none => rw [e0] at hl; exact hl.elim
    | some d0 =>
      rw [e0] at hl
      obtain ⟨v0, hv0⟩ := some_get O e0 hs
      refine ⟨v0, hv0, h B R H σ ρ _ pw O ?_⟩
      simp only at hl
      cases e : fe ρ with
      | stuck => rw [e] at hl; exact hl
      | exc x ρ1 => rw [e] at hl; exact hl
      | ok d ρ1 =>
        rw [e] at hl
        intro B2 H2 u s2 O2
        have ru := O2.top
        have P2 := O2.pop
        clear O2
        simp only [Res.bind] at hl
        split at hl
        · rename_i k ds he
          obtain ⟨p, vs, ds', q1, q2, q3, q4⟩ := P2.getLs he hs
          cases q1
          rw [hv0] at q2; cases q2
          cases ru
          cases e5 : L2.atI ds k with
          | none => rw [e5] at hl; exact hl.elim
          | some o =>
            rw [e5] at hl
            obtain ⟨w, hw, rw'⟩ := q4.atI e5
            exact .inl ⟨p, vs, k, w, rfl, rfl, SqL.of q3, hw, hl B2 H2 w s2 (P2.pushP rw')⟩
        · exact hl.elim
/-! ### methods of own lists -/
def MOk (K : PySem.W.Frag) (r : V → List V → Hp → VK → Prop) (g : List D → List D → Option (D × List D)) : Prop :=
  ∀ (p : Addr) (vs : List V) (ds : List D) (xs : List V) (es : List D) (B H : Hp) (Q : VK) (d : D) (ds' : List D), H p = some (.lst vs) → Same B H → Reps K B vs ds → Reps K B xs es → g ds es = some (d, ds') →
    ∃ vs' w, Reps K B vs' ds' ∧ Rep K B w d ∧ (Q w (upd H p (.lst vs')) → r (.ref p) xs H Q)
def eMtO (i : Nat) (g : List D → List D → Option (D × List D)) (f : ER (List D)) : ER D := fun ρ => match ρ[i]? with
  | some (some _) => (f ρ).bind fun es ρ' => match ρ'[i]? with
    | some (some (.lst ds)) => match g ds es with
      | some (d, ds') => .ok d (ρ'.set i (some (.lst ds')))
      | none => .stuck
    | _ => .stuck
  | _ => .stuck
theorem mtO_end {B R H : Hp} {σ : L2.St} {ρ : Env} {Q : VK} {i : Nat} {r : V → List V → Hp → VK → Prop} {g : List D → List D → Option (D × List D)} {v0 : V} {xs : List V} {es : List D} (hr : MOk K r g) (hs : Γ[i]? = some .ls) (O : Ok K Γ B R H σ ρ) (hv0 : σ[i]? = some (some v0)) (rx : Reps K B xs es)
    (hl : ELand K mg W Γ .pu B R σ Q (match ρ[i]? with
    | some (some (.lst ds)) => match g ds es with
      | some (d, ds') => .ok d (ρ.set i (some (.lst ds')))
      | none => .stuck
    | _ => .stuck)) : tyV K "list" v0 H ∧ r v0 xs H Q := by
  split at hl
  · rename_i ds he
    obtain ⟨p, vs, ds', q1, q2, q3, q4⟩ := O.getLs he hs
    cases q1
    rw [hv0] at q2; cases q2
    refine ⟨.inl ⟨rfl, vs, SqL.of q3⟩, ?_⟩
    cases e5 : g ds es with
    | none => rw [e5] at hl; exact hl.elim
    | some o =>
      obtain ⟨d, ds'⟩ := o
      rw [e5] at hl
      obtain ⟨vs', w, r1, r2, k⟩ := hr p vs ds xs es B H Q d ds' q3 O.sb q4 rx e5
      exact k (hl B _ w (Same.refl _) ((O.write he hs hv0 r1).pushP r2))
  · exact hl.elim
theorem eok_mt0 {i : Nat} {r : V → List V → Hp → VK → Prop} {g : List D → List D → Option (D × List D)} (hr : MOk K r g) (hs : Γ[i]? = some .ls) : EOk K mg W Γ (tBM0 K "list" r (tVar i)) .pu (eMtO i g aNil) := by
  intro B R H σ ρ Q pw O hl
  unfold eMtO at hl
  cases e0 : ρ[i]? with
  | none => rw [e0] at hl; exact hl.elim
  | some o =>
    cases o with
    | none => rw [e0] at hl; exact hl.elim
    | some d0 =>
      rw [e0] at hl
      obtain ⟨v0, hv0⟩ := some_get O e0 hs
      refine ⟨v0, hv0, mtO_end (mg := mg) (W := W) hr hs O hv0 .nil ?_⟩
      exact hl
theorem eok_mt {i : Nat} {r : V → List V → Hp → VK → Prop} {g : List D → List D → Option (D × List D)} {ta : TA} {f : ER (List D)} (hr : MOk K r g) (hs : Γ[i]? = some .ls) (ha : AOk K mg W Γ ta f) :
    EOk K mg W Γ (tBM K "list" r (tVar i) ta) .pu (eMtO i g f) := by
  intro B R H σ ρ Q pw O hl
  unfold eMtO at hl
  cases e0 : ρ[i]? with
  | none => rw [e0] at hl; exact hl.elim
  | some o =>
    cases o with
    | none => rw [e0] at hl; exact hl.elim
    | some d0 =>
      rw [e0] at hl
      simp only at hl
      obtain ⟨v0, hv0⟩ := some_get O e0 hs
      have ty : tyV K "list" v0 H := by
        obtain ⟨p, vs, ds', q1, q2, q3, q4⟩ := O.getLs e0 hs
        rw [hv0] at q2; cases q2
        exact .inl ⟨rfl, vs, SqL.of q3⟩
      refine ⟨v0, hv0, ty, ha B R H σ ρ _ pw O ?_⟩
      cases e : f ρ with
      | stuck => rw [e] at hl; exact hl
      | exc x ρ1 => rw [e] at hl; exact hl
      | ok es ρ1 =>
        rw [e] at hl
        simp only [Res.bind] at hl
        intro B2 H2 xs s2 O2 rx
        exact (mtO_end (mg := mg) (W := W) hr hs O2 hv0 rx (ELand.mono hl s2)).2
/-! append, pop, extend, reverse, clear, insert -/
def gAppend : List D → List D → Option (D × List D) := fun ds es => match es with
  | [e] => if ds.length < sizeLine then some (.non, ds ++ [e]) else none
  | _ => none
theorem mok_append : MOk K rAppend gAppend := by
  intro p vs ds xs es B H Q d ds' hp sb r rx h
  unfold gAppend at h
  split at h
  · rename_i e
    split at h
    · rename_i hz
      cases h
      cases rx with
      | cons r1 r2 =>
        cases r2
        exact ⟨_, .non, r.snoc r1, .non, fun q => ⟨p, vs, _, rfl, rfl, hp, by rw [r.length]; exact hz, q⟩⟩
    · cases h
  · cases h
def gPop : List D → List D → Option (D × List D) := fun ds es => match es with
  | [] => (ds[ds.length - 1]?).map fun d => (d, ds.dropLast)
  | _ => none
theorem mok_pop : MOk K rPop gPop := by
  intro p vs ds xs es B H Q d ds' hp sb r rx h
  unfold gPop at h
  split at h
  · cases rx
    cases e : ds[ds.length - 1]? with
    | none => rw [e] at h; cases h
    | some y =>
      rw [e] at h; cases h
      obtain ⟨w, h1, h2⟩ := r.get e
      exact ⟨_, w, r.dropLast, h2, fun q => ⟨p, vs, w, rfl, rfl, hp, by rw [r.length]; exact h1, q⟩⟩
  · cases h
def gPopAt : List D → List D → Option (D × List D) := fun ds es => match es with
  | [.int i] => match ixN ds.length i with
    | some k => if ds.length ≤ sizeLine then (ds[k]?).map fun d => (d, ds.eraseIdx k) else none
    | none => none
  | _ => none
theorem mok_popAt : MOk K rPopAt gPopAt := by
  intro p vs ds xs es B H Q d ds' hp sb r rx h
  unfold gPopAt at h
  split at h
  · rename_i i
    cases rx with
    | cons r1 r2 =>
      cases r2; cases r1
      cases e1 : ixN ds.length i with
      | none => rw [e1] at h; cases h
      | some k =>
        rw [e1] at h
        dsimp only at h
        split at h
        · rename_i hz
          cases e : ds[k]? with
          | none => rw [e] at h; cases h
          | some y =>
            rw [e] at h; cases h
            obtain ⟨w, h1, h2⟩ := r.get e
            obtain ⟨z1, z2, z3, z4⟩ := ixN_seq e1
            have hn := line63
            exact ⟨_, w, r.eraseIdx k, h2, fun q => ⟨p, vs, i, k, w, rfl, rfl, hp, by omega, by omega, by rw [r.length]; exact z1, h1, q⟩⟩
        · cases h
  · cases h
def gExtend : List D → List D → Option (D × List D) := fun ds es => match es with
  | [.lst zs] => if ds.length + zs.length ≤ sizeLine then some (.non, ds ++ zs) else none
  | _ => none
theorem mok_extend : MOk K rExtend gExtend := by
  intro p vs ds xs es B H Q d ds' hp sb r rx h
  unfold gExtend at h
  split at h
  · rename_i zs
    split at h
    · rename_i hz
      cases h
      cases rx with
      | cons r1 r2 =>
        cases r2
        cases r1 with
        | lst hb rz =>
          rename_i b ws
          exact ⟨_, .non, r.append rz, .non, fun q => ⟨p, b, vs, ws, rfl, rfl, hp, sb _ _ hb, by rw [r.length, rz.length]; exact hz, q⟩⟩
    · cases h
  · cases h
/-! ### x[e] = v, x an own list -/
def sSetI (i : Nat) (fv fi : ER D) : Env → Out := fun ρ => (fv ρ).out fun d ρ => match ρ[i]? with
  | some (some _) => (fi ρ).out fun k ρ => match k, ρ[i]? with
    | .int k, some (some (.lst ds)) => match ixN ds.length k with
      | some j => .nx (ρ.set i (some (.lst (ds.set j d))))
      | none => .stuck
    | _, _ => .stuck
  | _ => .stuck
theorem sok_seti {i : Nat} {tv ti : TE} {fv fi : ER D} (ag : C.ag Γ) (hs : Γ[i]? = some .ls) (hv : EOk K mg C.W Γ tv .pu fv) (hi : EOk K mg C.W Γ ti .pu fi) : SOk K mg C Γ Γ (tAsg tv (gSub (tVar i) ti rSetL)) (sSetI i fv fi) := by
  intro B R H σ ρ Dn pw O hl
  unfold sSetI at hl
  refine hv B R H σ ρ _ pw O ?_
  cases e1 : fv ρ with
  | stuck => rw [e1] at hl; exact hl
  | exc x ρ1 => rw [e1] at hl; exact SLand.exc hl ag
  | ok d ρ1 =>
    rw [e1] at hl
    simp only [Res.out] at hl
    intro B1 H1 v s1 O1
    have rv := O1.top
    have O1 := O1.pop
    cases e0 : ρ1[i]? with
    | none => rw [e0] at hl; exact hl.elim
    | some o =>
      cases o with
      | none => rw [e0] at hl; exact hl.elim
      | some d0 =>
        rw [e0] at hl
        simp only at hl
        obtain ⟨v0, hv0⟩ := some_get O1 e0 hs
        refine ⟨v0, hv0, hi B1 R H1 σ ρ1 _ pw O1 ?_⟩
        cases e2 : fi ρ1 with
        | stuck => rw [e2] at hl; exact hl
        | exc x ρ2 => rw [e2] at hl; exact XLand.mono (SLand.exc hl ag) s1
        | ok kd ρ2 =>
          rw [e2] at hl
          simp only at hl
          intro B2 H2 u s2 O2
          have ru := O2.top
          have P2 := O2.pop
          clear O2
          split at hl
          · rename_i k ds he
            obtain ⟨p, vs, ds', q1, q2, q3, q4⟩ := P2.getLs he hs
            cases q1
            rw [hv0] at q2; cases q2
            cases ru
            cases e5 : ixN ds.length k with
            | none => rw [e5] at hl; exact hl.elim
            | some j =>
              rw [e5] at hl
              refine ⟨p, vs, k, j, rfl, rfl, q3, by rw [q4.length]; exact e5, ?_⟩
              exact hl B2 _ σ (s1.trans s2) (P2.write he hs hv0 (q4.set (rv.mono s2) j)) Pin.refl
          · exact hl.elim
end
end DL
namespace DL
open PySem L2
section
variable {K : PySem.W.Frag} {X : Cx}
/-! ## operators by their values -/
/-- an operator whose answer is a scalar -/
theorem r2_scal {r : R2} {g : D → D → Option D} (h : ∀ (B H : Hp) (v u : V) (d e o : D) (Q : VK), Same B H → Rep K B v d → Rep K B u e → g d e = some o → ∃ w, (∀ B, Rep K B w o) ∧ (Q w H → r v u H Q)) : R2Ok K r .pu g := by
  intro Γ B R H σ ρ v u d e o Q O rv ru hg k
  obtain ⟨w, hw, q⟩ := h B H v u d e o Q O.sb rv ru hg
  exact q (k B H w (Same.refl _) (O.pushP (hw B)))
theorem u1_scal {r : V → Hp → VK → Prop} {g : D → Option D} (h : ∀ (B H : Hp) (v : V) (d o : D) (Q : VK), Same B H → Rep K B v d → g d = some o → ∃ w, (∀ B, Rep K B w o) ∧ (Q w H → r v H Q)) : U1Ok K r .pu g := by
  intro Γ B R H σ ρ v d o Q O rv hg k
  obtain ⟨w, hw, q⟩ := h B H v d o Q O.sb rv hg
  exact q (k B H w (Same.refl _) (O.pushP (hw B)))
theorem c1_scal {r : List V → Hp → VK → Prop} {g : List D → Option D} (h : ∀ (B H : Hp) (vs : List V) (ds : List D) (o : D) (Q : VK), Same B H → Reps K B vs ds → g ds = some o → ∃ w, (∀ B, Rep K B w o) ∧ (Q w H → r vs H Q)) : C1Ok K r .pu g := by
  intro Γ B R H σ ρ vs ds o Q O rv hg k
  obtain ⟨w, hw, q⟩ := h B H vs ds o Q O.sb rv hg
  exact q (k B H w (Same.refl _) (O.pushP (hw B)))
theorem repI {B : Hp} {v : V} {i : Int} (r : Rep K B v (.int i)) : v = .int i := by cases r; rfl
theorem repS {B : Hp} {v : V} {i : Str} (r : Rep K B v (.str i)) : v = .str i := by cases r; rfl
theorem repB {B : Hp} {v : V} {i : Bool} (r : Rep K B v (.bl i)) : v = .bl i := by cases r; rfl
theorem repN {B : Hp} {v : V} (r : Rep K B v .non) : v = .non := by cases r; rfl
theorem repT {B : Hp} {v : V} {ds : List D} (r : Rep K B v (.tup ds)) : ∃ a vs, v = .ref a ∧ SqT K B a vs ∧ Reps K B vs ds := by cases r with | tup h r => exact ⟨_, _, rfl, h, r⟩
theorem repL {B : Hp} {v : V} {ds : List D} (r : Rep K B v (.lst ds)) : ∃ a vs, v = .ref a ∧ B a = some (.lst vs) ∧ Reps K B vs ds := by cases r with | lst h r => exact ⟨_, _, rfl, h, r⟩
theorem repX {B : Hp} {v : V} {ns : List Int} (r : Rep K B v (.scr ns)) : ∃ a, v = .ref a ∧ SqL K B a (ns.map V.int) := by cases r with | scr h => exact ⟨_, rfl, h⟩
theorem reps_int {B : Hp} : ∀ (ns : List Int), Reps K B (ns.map V.int) (ns.map D.int)
  | [] => .nil
  | n :: ns => .cons (.int n) (reps_int ns)

/-! + -/
def gAdd : D → D → Option D
  | .int i, .int j => some (.int (i + j))
  | .str i, .str j => if i.length + j.length ≤ sizeLine then some (.str (i ++ j)) else none
  | .tup xs, .tup ys => if xs.length + ys.length ≤ sizeLine then some (.tup (xs ++ ys)) else none
  | .lst xs, .lst ys => if xs.length + ys.length ≤ sizeLine then some (.lst (xs ++ ys)) else none
  | _, _ => none
def rAddS : R2 := fun x y H Q => ∃ i j, x = .str i ∧ y = .str j ∧ i.length + j.length ≤ sizeLine ∧ Q (.str (i ++ j)) H
def rAdd (K : PySem.W.Frag) : R2 := fun x y H Q => ((rI0 (fun i j => .int (i + j)) x y H Q ∨ rAddS x y H Q) ∨ rCatA K x y H Q) ∨ rCat x y H Q
theorem opAdd : OpR X (binaryOp .Add) (rAdd X.K) := ((op_add.or op_add_str).or op_catA).or op_cat
theorem r2_add : R2Ok K (rAdd K) .pu gAdd := by
  intro Γ B R H σ ρ v u d e o Q O rv ru hg k
  unfold gAdd at hg
  split at hg
  · cases hg; cases repI rv; cases repI ru
    exact .inl (.inl (.inl ⟨_, _, rfl, rfl, k B H _ (Same.refl _) (O.pushP (.int _))⟩))
  · split at hg
    · rename_i hz
      cases hg; cases repS rv; cases repS ru
      exact .inl (.inl (.inr ⟨_, _, rfl, rfl, hz, k B H _ (Same.refl _) (O.pushP (.str _))⟩))
    · cases hg
  · split at hg
    · rename_i hz
      cases hg
      obtain ⟨a, vs, rfl, ha, ra⟩ := repT rv
      obtain ⟨b, ws, rfl, hb, rb⟩ := repT ru
      refine .inl (.inr ⟨a, b, vs, ws, rfl, rfl, sameT O.sb ha, sameT O.sb hb, by rw [ra.length, rb.length]; exact hz, fun e => ?_, fun e1 e2 => ?_, fun e1 e2 p hp => ?_⟩)
      · subst e; cases ra
        exact k B H _ (Same.refl _) (O.pushP ru)
      · subst e2; cases rb
        exact k B H _ (Same.refl _) (O.pushP (by rw [List.append_nil]; exact rv))
      · obtain ⟨B', s', O'⟩ := O.layTup hp (ra.append rb)
        exact k B' _ _ s' O'
    · cases hg
  · split at hg
    · rename_i hz
      cases hg
      obtain ⟨a, vs, rfl, ha, ra⟩ := repL rv
      obtain ⟨b, ws, rfl, hb, rb⟩ := repL ru
      refine .inr ⟨a, b, vs, ws, rfl, rfl, O.sb _ _ ha, O.sb _ _ hb, by rw [ra.length, rb.length]; exact hz, fun p hp => ?_⟩
      obtain ⟨B', s', O'⟩ := O.layLst hp (ra.append rb)
      exact k B' _ _ s' O'
    · cases hg
  · cases hg
/-- list + list, the new list is own -/
def gCat : D → D → Option D
  | .lst xs, .lst ys => if xs.length + ys.length ≤ sizeLine then some (.lst (xs ++ ys)) else none
  | _, _ => none
theorem r2_cat : R2Ok K rCat .ls gCat := by
  intro Γ B R H σ ρ v u d e o Q O rv ru hg k
  unfold gCat at hg
  split at hg
  · split at hg
    · rename_i hz
      cases hg
      obtain ⟨a, vs, rfl, ha, ra⟩ := repL rv
      obtain ⟨b, ws, rfl, hb, rb⟩ := repL ru
      exact ⟨a, b, vs, ws, rfl, rfl, O.sb _ _ ha, O.sb _ _ hb, by rw [ra.length, rb.length]; exact hz, fun p hp => k B _ _ (Same.refl _) (O.pushN hp (ra.append rb))⟩
    · cases hg
  · cases hg
/-! in place: + of ints, texts (a tuple's += is +) -/
def gIAdd : D → D → Option D
  | .int i, .int j => some (.int (i + j))
  | .str i, .str j => if i.length + j.length ≤ sizeLine then some (.str (i ++ j)) else none
  | _, _ => none
def rIAdd : R2 := fun x y H Q => rI0 (fun i j => .int (i + j)) x y H Q ∨ rAddS x y H Q
theorem iopAdd : OpR X (inplaceOp .Add) rIAdd := iop_add.or iop_add_str
theorem r2_iadd : R2Ok K rIAdd .pu gIAdd := r2_scal fun B H v u d e o Q sb rv ru hg => by
  unfold gIAdd at hg
  split at hg
  · cases hg; cases repI rv; cases repI ru
    exact ⟨_, fun _ => .int _, fun q => .inl ⟨_, _, rfl, rfl, q⟩⟩
  · split at hg
    · rename_i hz
      cases hg; cases repS rv; cases repS ru
      exact ⟨_, fun _ => .str _, fun q => .inr ⟨_, _, rfl, rfl, hz, q⟩⟩
    · cases hg
  · cases hg
/-! - // % << ** on ints -/
def gI0 (f : Int → Int → Int) : D → D → Option D
  | .int i, .int j => some (.int (f i j))
  | _, _ => none
theorem r2_i0 {f : Int → Int → Int} : R2Ok K (rI0 fun i j => .int (f i j)) .pu (gI0 f) := r2_scal fun B H v u d e o Q sb rv ru hg => by
  unfold gI0 at hg
  split at hg
  · cases hg; cases repI rv; cases repI ru
    exact ⟨_, fun _ => .int _, fun q => ⟨_, _, rfl, rfl, q⟩⟩
  · cases hg
def gIC (c : Int → Int → Prop) [∀ i j, Decidable (c i j)] (f : Int → Int → Int) : D → D → Option D
  | .int i, .int j => if c i j then some (.int (f i j)) else none
  | _, _ => none
theorem r2_ic {c : Int → Int → Prop} [∀ i j, Decidable (c i j)] {f : Int → Int → Int} : R2Ok K (rI c fun i j => .int (f i j)) .pu (gIC c f) := r2_scal fun B H v u d e o Q sb rv ru hg => by
  unfold gIC at hg
  split at hg
  · split at hg
    · rename_i hc
      cases hg; cases repI rv; cases repI ru
      exact ⟨_, fun _ => .int _, fun q => ⟨_, _, rfl, rfl, hc, q⟩⟩
    · cases hg
  · cases hg
instance (i j : Int) : Decidable (CMul i j) := by unfold CMul; infer_instance
instance (i j : Int) : Decidable (CDiv i j) := by unfold CDiv; infer_instance
instance (i j : Int) : Decidable (CPow i j) := by unfold CPow; infer_instance
abbrev CMod (_ j : Int) : Prop := 0 < j
/-! a bool result -/
def gB0 (f : Int → Int → Bool) : D → D → Option D
  | .int i, .int j => some (.bl (f i j))
  | _, _ => none
theorem r2_b0 {f : Int → Int → Bool} : R2Ok K (rI0 fun i j => .bl (f i j)) .pu (gB0 f) := r2_scal fun B H v u d e o Q sb rv ru hg => by
  unfold gB0 at hg
  split at hg
  · cases hg; cases repI rv; cases repI ru
    exact ⟨_, fun _ => .bl _, fun q => ⟨_, _, rfl, rfl, q⟩⟩
  · cases hg
/-! * : ints, text * int, list * int, tuple * int -/
/-- text * int -/
def CRepS (x : Str) (n : Int) : Prop := -(2 ^ 62) ≤ n ∧ n < 2 ^ 62 ∧ x.length * n.toNat ≤ sizeLine
instance (x : Str) (n : Int) : Decidable (CRepS x n) := by unfold CRepS; infer_instance
def repS' (x : Str) (n : Int) : Str := ⟨(List.replicate n.toNat x.cps).foldl (· ++ ·) #[]⟩
theorem foldl_len (c : Array Nat) : ∀ (n : Nat) (acc : Array Nat), (List.foldl (fun x1 x2 => x1 ++ x2) acc (List.replicate n c)).size = acc.size + n * c.size
  | 0, acc => by simp
  | n + 1, acc => by
    rw [List.replicate_succ, List.foldl_cons, foldl_len c n (acc ++ c), Array.size_append, Nat.succ_mul]
    omega
def rRepS : R2 := fun x y H Q => ∃ z n, x = .str z ∧ y = .int n ∧ CRepS z n ∧ Q (.str (repS' z n)) H
theorem foldl_empty (n : Nat) : (List.replicate n (#[] : Array Nat)).foldl (· ++ ·) #[] = #[] := by
  induction n with
  | zero => rfl
  | succ n ih => rw [List.replicate_succ, List.foldl_cons]; exact ih
theorem op_repS : OpR X (binaryOp .Mult) rRepS := by
  intro pins s σ H x y v u Q I rx ry h
  obtain ⟨z, n, rfl, rfl, ⟨h1, h2, h3⟩, q⟩ := h
  obtain ⟨t, rfl⟩ := rx
  obtain ⟨t', rfl⟩ := ry
  have hs := sizeLine_eq
  refine PySem.P.mul_str (by rw [decide_eq_false (by omega), decide_eq_false (by omega)]; rfl) (fun g1 g2 => ?_) (fun g1 g2 => ?_) ?_
  · have hn : 0 < n := by omega
    have e1 : ((z.length : Nat) : Int) * n ≤ 16777216 := by
      have : ((z.length * n.toNat : Nat) : Int) ≤ 16777216 := by omega
      rw [Int.natCast_mul, Int.toNat_of_nonneg (by omega)] at this
      exact this
    have : (z.length : Int) ≤ (2 ^ 63 - 1) / n := by
      rw [Int.le_ediv_iff_mul_le hn]
      omega
    omega
  · unfold Builtin.Str.tooLong
    exact decide_eq_false (by omega)
  · by_cases g1 : n < 1
    · rw [if_pos g1]
      have e : repS' z n = Str.empty := by unfold repS'; rw [show n.toNat = 0 by omega]; rfl
      rw [e] at q
      exact ⟨by decide, ⟨.str Str.empty, H, I.tok _, ⟨_, rfl⟩, q⟩⟩
    · rw [if_neg g1]
      by_cases g2 : (n == 1 || z.length == 0) = true
      · rw [if_pos g2]
        have e : repS' z n = z := by
          unfold repS'
          rw [Bool.or_eq_true] at g2
          rcases g2 with g2 | g2
          · have : n = 1 := eq_of_beq g2
            subst this
            simp
          · have hz : z.length = 0 := eq_of_beq g2
            have : z.cps = #[] := by unfold Str.length at hz; exact Array.eq_empty_of_size_eq_zero hz
            rw [this, foldl_empty, ← this]
        rw [e] at q
        exact ⟨.str z, H, I, ⟨t, rfl⟩, q⟩
      · rw [if_neg g2]
        refine ⟨?_, ⟨.str (repS' z n), H, I.tok _, ⟨_, rfl⟩, q⟩⟩
        show (List.foldl (fun x1 x2 => x1 ++ x2) #[] (List.replicate n.toNat z.cps)).size ≤ sizeLine
        have e := foldl_len z.cps n.toNat #[]
        rw [e]
        show 0 + n.toNat * z.cps.size ≤ sizeLine
        rw [Nat.zero_add, Nat.mul_comm]
        exact h3

def gMul : D → D → Option D
  | .int i, .int j => if CMul i j then some (.int (i * j)) else none
  | .str x, .int n => if CRepS x n then some (.str (repS' x n)) else none
  | .lst xs, .int k => if -(2 ^ 63) ≤ k ∧ k < 2 ^ 63 ∧ xs.length * k.toNat ≤ sizeLine then some (.lst (List.replicate k.toNat xs).flatten) else none
  | .tup xs, .int k => if xs ≠ [] ∧ 2 ≤ k ∧ k ≤ 1000 ∧ xs.length ≤ 1000 then some (.tup (List.replicate k.toNat xs).flatten) else none
  | _, _ => none
def rMul (K : PySem.W.Frag) : R2 := fun x y H Q => ((rI CMul (fun i j => .int (i * j)) x y H Q ∨ rRepS x y H Q) ∨ rRep x y H Q) ∨ rRepT K x y H Q
theorem opMul : OpR X (binaryOp .Mult) (rMul X.K) := ((op_mul.or op_repS).or op_rep).or op_repT
theorem r2_mul : R2Ok K (rMul K) .pu gMul := by
  intro Γ B R H σ ρ v u d e o Q O rv ru hg k
  unfold gMul at hg
  split at hg
  · split at hg
    · rename_i hc
      cases hg; cases repI rv; cases repI ru
      exact .inl (.inl (.inl ⟨_, _, rfl, rfl, hc, k B H _ (Same.refl _) (O.pushP (.int _))⟩))
    · cases hg
  · split at hg
    · rename_i hz
      cases hg; cases repS rv; cases repI ru
      exact .inl (.inl (.inr ⟨_, _, rfl, rfl, hz, k B H _ (Same.refl _) (O.pushP (.str _))⟩))
    · cases hg
  · split at hg
    · rename_i hz
      cases hg; cases repI ru
      obtain ⟨a, vs, rfl, ha, ra⟩ := repL rv
      refine .inl (.inr ⟨a, _, vs, rfl, rfl, O.sb _ _ ha, hz.1, hz.2.1, by rw [ra.length]; exact hz.2.2, fun p hp => ?_⟩)
      obtain ⟨B', s', O'⟩ := O.layLst hp (ra.rep _)
      exact k B' _ _ s' O'
    · cases hg
  · split at hg
    · rename_i hz
      cases hg; cases repI ru
      obtain ⟨a, vs, rfl, ha, ra⟩ := repT rv
      refine .inr ⟨a, _, vs, rfl, rfl, sameT O.sb ha, fun e => ?_, hz.2.1, hz.2.2.1, by rw [ra.length]; exact hz.2.2.2, fun p hp => ?_⟩
      · subst e; cases ra; exact hz.1 rfl
      · obtain ⟨B', s', O'⟩ := O.layTup hp (ra.rep _)
        exact k B' _ _ s' O'
    · cases hg
  · cases hg
/-- list * int, the new list is own -/
def gRep : D → D → Option D
  | .lst xs, .int k => if -(2 ^ 63) ≤ k ∧ k < 2 ^ 63 ∧ xs.length * k.toNat ≤ sizeLine then some (.lst (List.replicate k.toNat xs).flatten) else none
  | _, _ => none
theorem r2_rep : R2Ok K rRep .ls gRep := by
  intro Γ B R H σ ρ v u d e o Q O rv ru hg k
  unfold gRep at hg
  split at hg
  · split at hg
    · rename_i hz
      cases hg; cases repI ru
      obtain ⟨a, vs, rfl, ha, ra⟩ := repL rv
      exact ⟨a, _, vs, rfl, rfl, O.sb _ _ ha, hz.1, hz.2.1, by rw [ra.length]; exact hz.2.2, fun p hp => k B _ _ (Same.refl _) (O.pushN hp (ra.rep _))⟩
    · cases hg
  · cases hg

/-! ## == and != -/
mutual
def toP : D → PyData
  | .non => .none | .bl b => .bool b | .int i => .int i | .str s => .str s | .tup ds => .tuple (toPs ds) | .lst ds => .list (toPs ds) | .dct _ _ => .none | .scr ns => .list (ns.map PyData.int)
def toPs : List D → List PyData
  | [] => []
  | d :: ds => toP d :: toPs ds
end
mutual
def noDct : D → Bool
  | .tup ds => noDcts ds | .lst ds => noDcts ds | .dct _ _ => false | _ => true
def noDcts : List D → Bool
  | [] => true
  | d :: ds => noDct d && noDcts ds
end
def shD (d : D) : Bool := noDct d && SeqAt.shaped (toP d)
mutual
theorem Rep.dp {B H : Hp} (sb : Same B H) : ∀ {v : V} {d : D}, Rep K B v d → noDct d = true → Dp K H v (toP d)
  | _, _, .non, _ => .non
  | _, _, .bl b, _ => .bl b
  | _, _, .int i, _ => .int i
  | _, _, .str s, _ => .str s
  | _, _, .tup h r, e => .tup (sameT sb h) (Reps.dp sb r e)
  | _, _, .lst h r, e => .lst (SqL.of (sb _ _ h)) (Reps.dp sb r e)
  | _, _, .scr (ns := ns) h, _ => .lst (sb.seq h) (dp_ints ns)
theorem Reps.dp {B H : Hp} (sb : Same B H) : ∀ {vs : List V} {ds : List D}, Reps K B vs ds → noDcts ds = true → DpAll K H vs (toPs ds)
  | _, _, .nil, _ => .nil
  | _, _, .cons h r, e => by
    unfold noDcts at e
    rw [Bool.and_eq_true] at e
    exact .cons (Rep.dp sb h e.1) (Reps.dp sb r e.2)
theorem dp_ints {H : Hp} : ∀ ns : List Int, DpAll K H (ns.map V.int) (ns.map PyData.int)
  | [] => .nil
  | n :: ns => .cons (.int n) (dp_ints ns)
end
/-- == of what is no sequence -/
def scEq : D → D → Option Bool
  | .int i, .int j => some (decide (i = j))
  | .str i, .str j => some (decide (i = j))
  | .bl i, .bl j => some (decide (i = j))
  | .non, .non => some true
  | .non, .int _ => some false | .non, .bl _ => some false | .non, .str _ => some false
  | .int _, .non => some false | .bl _, .non => some false | .str _, .non => some false
  | .int _, .str _ => some false | .str _, .int _ => some false | .bl _, .str _ => some false | .str _, .bl _ => some false
  | _, _ => none
def eqD (d e : D) : Option Bool := match scEq d e with
  | some b => some b
  | none => if shD d = true ∧ shD e = true then some (PyData.eqv (toP d) (toP e)) else none
def gEq (d e : D) : Option D := (eqD d e).map .bl
def gNe (d e : D) : Option D := (eqD d e).map fun b => .bl (!b)
theorem scEq_ok {B : Hp} {v u : V} {d e : D} {b : Bool} (rv : Rep K B v d) (ru : Rep K B u e) (h : scEq d e = some b) : scal v u = true ∧ decide (v = u) = b := by
  unfold scEq at h
  split at h <;> first | (cases h; done) | skip
  all_goals (injection h with h; subst h; cases rv; cases ru; exact ⟨rfl, by simp⟩)
def rEq2 (K : PySem.W.Frag) : R2 := fun x y H Q => rEq x y H Q ∨ rEqD K x y H Q
def rNe2 (K : PySem.W.Frag) : R2 := fun x y H Q => rNe x y H Q ∨ rNeD K x y H Q
theorem opEq (hu : X.A.units + 64 < cLine) : OpR X (compareOp .Eq) (rEq2 X.K) := op_eq.or (op_eqD hu)
theorem opNe (hu : X.A.units + 64 < cLine) : OpR X (compareOp .NotEq) (rNe2 X.K) := op_ne.or (op_neD hu)
theorem r2_eq : R2Ok K (rEq2 K) .pu gEq := r2_scal fun B H v u d e o Q sb rv ru hg => by
  unfold gEq eqD at hg
  cases h : scEq d e with
  | some b =>
    rw [h] at hg
    cases hg
    obtain ⟨h1, h2⟩ := scEq_ok rv ru h
    exact ⟨_, fun _ => .bl _, fun q => .inl ⟨h1, by rw [h2]; exact q⟩⟩
  | none =>
    rw [h] at hg
    by_cases hs : shD d = true ∧ shD e = true
    · rw [if_pos hs] at hg
      cases hg
      obtain ⟨h1, h2⟩ := hs
      unfold shD at h1 h2
      rw [Bool.and_eq_true] at h1 h2
      exact ⟨_, fun _ => .bl _, fun q => .inr ⟨_, _, rv.dp sb h1.1, ru.dp sb h2.1, h1.2, h2.2, q⟩⟩
    · rw [if_neg hs] at hg; cases hg
theorem r2_ne : R2Ok K (rNe2 K) .pu gNe := r2_scal fun B H v u d e o Q sb rv ru hg => by
  unfold gNe eqD at hg
  cases h : scEq d e with
  | some b =>
    rw [h] at hg
    cases hg
    obtain ⟨h1, h2⟩ := scEq_ok rv ru h
    exact ⟨_, fun _ => .bl _, fun q => .inl ⟨h1, by rw [h2]; exact q⟩⟩
  | none =>
    rw [h] at hg
    by_cases hs : shD d = true ∧ shD e = true
    · rw [if_pos hs] at hg
      cases hg
      obtain ⟨h1, h2⟩ := hs
      unfold shD at h1 h2
      rw [Bool.and_eq_true] at h1 h2
      exact ⟨_, fun _ => .bl _, fun q => .inr ⟨_, _, rv.dp sb h1.1, ru.dp sb h2.1, h1.2, h2.2, q⟩⟩
    · rw [if_neg hs] at hg; cases hg
/-! is None, is not None -/
def isNon : D → Bool
  | .non => true
  | _ => false
def gIsN (d e : D) : Option D := match e with
  | .non => some (.bl (isNon d))
  | _ => none
def gNotN (d e : D) : Option D := match e with
  | .non => some (.bl (!isNon d))
  | _ => none
def rIsN : R2 := fun x y H Q => y = .non ∧ Q (.bl (decide (x = .non))) H
def rNotN : R2 := fun x y H Q => y = .non ∧ Q (.bl (!decide (x = .non))) H
theorem opIsN : OpR X (compareOp .Is) rIsN := op_isN
theorem opNotN : OpR X (compareOp .IsNot) rNotN := op_notN
theorem isNon_ok {B : Hp} {v : V} {d : D} (r : Rep K B v d) : decide (v = .non) = isNon d := by cases r <;> simp [isNon]
theorem r2_isN : R2Ok K rIsN .pu gIsN := r2_scal fun B H v u d e o Q sb rv ru hg => by
  unfold gIsN at hg
  split at hg
  · cases hg
    exact ⟨_, fun _ => .bl _, fun q => ⟨repN ru, by rw [isNon_ok rv]; exact q⟩⟩
  · cases hg
theorem r2_notN : R2Ok K rNotN .pu gNotN := r2_scal fun B H v u d e o Q sb rv ru hg => by
  unfold gNotN at hg
  split at hg
  · cases hg
    exact ⟨_, fun _ => .bl _, fun q => ⟨repN ru, by rw [isNon_ok rv]; exact q⟩⟩
  · cases hg
/-! in -/
def flatD : D → Bool
  | .non => true | .bl _ => true | .int _ => true | .str _ => true | _ => false
def flEq : D → D → Bool
  | .non, .non => true
  | .bl a, .bl b => a == b
  | .bl a, .int b => (if a then 1 else 0) == b
  | .int a, .bl b => a == (if b then 1 else 0)
  | .int a, .int b => a == b
  | .str a, .str b => a == b
  | _, _ => false
theorem flat_ok {B : Hp} {v : V} {d : D} (r : Rep K B v d) (h : flatD d = true) : flatV v = true := by cases r <;> first | rfl | cases h
theorem flEq_ok {B : Hp} {v u : V} {d e : D} (rv : Rep K B v d) (ru : Rep K B u e) (h : flatD d = true) (h2 : flatD e = true) : eqV v u = flEq d e := by
  cases rv <;> first | (cases h; done) | (cases ru <;> first | (cases h2; done) | rfl)
theorem flats_ok {B : Hp} : ∀ {vs : List V} {ds : List D}, Reps K B vs ds → ds.all flatD = true → vs.all flatV = true
  | _, _, .nil, _ => rfl
  | _, _, .cons r t, h => by
    rw [List.all_cons, Bool.and_eq_true] at h
    rw [List.all_cons, flat_ok r h.1, flats_ok t h.2]
    rfl
theorem inV_ok {B : Hp} {v : V} {d : D} (rv : Rep K B v d) (h : flatD d = true) : ∀ {vs : List V} {ds : List D}, Reps K B vs ds → ds.all flatD = true → inV v vs = ds.any fun y => flEq y d
  | _, _, .nil, _ => rfl
  | _, _, .cons r t, hh => by
    rw [List.all_cons, Bool.and_eq_true] at hh
    have ih := inV_ok rv h t hh.2
    unfold inV at ih ⊢
    rw [List.any_cons, List.any_cons, flEq_ok r rv hh.1 h, ih]
def inS (i j : Str) : Bool := match i.cps.toList with
  | [c] => decide (c ∈ j.cps.toList)
  | _ => !(Builtin.Str.occurrences j i 0 j.length 1).isEmpty
def inD : D → D → Option Bool
  | .str i, .str j => some (inS i j)
  | d, .tup xs => if flatD d = true ∧ xs.all flatD = true then some (xs.any fun y => flEq y d) else if shD d = true ∧ shD (.tup xs) = true then none else none
  | d, .lst xs => if flatD d = true ∧ xs.all flatD = true then some (xs.any fun y => flEq y d) else if shD d = true ∧ shD (.lst xs) = true then some ((toPs xs).any fun z => PyData.eqv z (toP d)) else none
  | .int i, .scr ns => some (ns.any fun n => n == i)
  | _, _ => none
def gIn (d e : D) : Option D := (inD d e).map .bl
def gNi (d e : D) : Option D := (inD d e).map fun b => .bl (!b)
def rInSg : R2 := fun x y H Q => ∃ (c : Nat) (z : Str), x = .str ⟨#[c]⟩ ∧ y = .str z ∧ Q (.bl (decide (c ∈ z.cps.toList))) H
def rNiSg : R2 := fun x y H Q => ∃ (c : Nat) (z : Str), x = .str ⟨#[c]⟩ ∧ y = .str z ∧ Q (.bl (!decide (c ∈ z.cps.toList))) H
def rInSt : R2 := fun x y H Q => ∃ i j, x = .str i ∧ y = .str j ∧ Q (.bl (!(Builtin.Str.occurrences j i 0 j.length 1).isEmpty)) H
def rNiSt : R2 := fun x y H Q => ∃ i j, x = .str i ∧ y = .str j ∧ Q (.bl (!(!(Builtin.Str.occurrences j i 0 j.length 1).isEmpty))) H
def rIn2 (K : PySem.W.Frag) : R2 := fun x y H Q => ((rInSg x y H Q ∨ rInSt x y H Q) ∨ rIn K false x y H Q) ∨ rInD K x y H Q
def rNi2 (K : PySem.W.Frag) : R2 := fun x y H Q => ((rNiSg x y H Q ∨ rNiSt x y H Q) ∨ rIn K true x y H Q) ∨ rNotInD K x y H Q
theorem opIn (hu : X.A.units + 65 < cLine) : OpR X (compareOp .In) (rIn2 X.K) := ((op_in_sign.or op_in_str).or op_in_seq).or (op_inD hu)
theorem opNi (hu : X.A.units + 65 < cLine) : OpR X (compareOp .NotIn) (rNi2 X.K) := ((op_notIn_sign.or op_notIn_str).or op_notIn_seq).or (op_notInD hu)
theorem any_scr {i : Int} : ∀ ns : List Int, inV (.int i) (ns.map V.int) = ns.any fun n => n == i
  | [] => rfl
  | n :: ns => by
    have := any_scr (i := i) ns
    unfold inV at this ⊢
    rw [List.map_cons, List.any_cons, List.any_cons, this]
    rfl
theorem all_scr : ∀ ns : List Int, (ns.map V.int).all flatV = true
  | [] => rfl
  | n :: ns => by rw [List.map_cons, List.all_cons, all_scr ns]; rfl
theorem one_sign {i : Str} {c : Nat} (h : i.cps.toList = [c]) : i = ⟨#[c]⟩ := by
  cases i with
  | mk cps =>
    simp only [Str.mk.injEq]
    apply Array.toList_inj.mp
    simpa using h
theorem inD_ok {B H : Hp} {v u : V} {d e : D} {b : Bool} (neg : Bool) {Q : VK} (sb : Same B H) (rv : Rep K B v d) (ru : Rep K B u e) (h : inD d e = some b) (q : Q (.bl (if neg then !b else b)) H) :
    if neg then rNi2 K v u H Q else rIn2 K v u H Q := by
  unfold inD at h
  split at h
  · rename_i i j
    cases h; cases repS rv; cases repS ru
    unfold inS at q
    generalize e0 : i.cps.toList = l at q
    rcases l with _ | ⟨c, _ | ⟨c2, l⟩⟩
    · cases neg
      · exact .inl (.inl (.inr ⟨i, j, rfl, rfl, q⟩))
      · exact .inl (.inl (.inr ⟨i, j, rfl, rfl, q⟩))
    · cases one_sign e0
      cases neg
      · exact .inl (.inl (.inl ⟨c, j, rfl, rfl, q⟩))
      · exact .inl (.inl (.inl ⟨c, j, rfl, rfl, q⟩))
    · cases neg
      · exact .inl (.inl (.inr ⟨i, j, rfl, rfl, q⟩))
      · exact .inl (.inl (.inr ⟨i, j, rfl, rfl, q⟩))
  · rename_i xs
    split at h
    · rename_i hf
      cases h
      obtain ⟨a, vs, rfl, ha, ra⟩ := repT ru
      have e := inV_ok rv hf.1 ra hf.2
      cases neg
      · exact .inl (.inr ⟨a, vs, rfl, .inr (sameT sb ha), flat_ok rv hf.1, flats_ok ra hf.2, by simp only [Bool.false_eq_true, if_false] at q ⊢; rw [e]; exact q⟩)
      · exact .inl (.inr ⟨a, vs, rfl, .inr (sameT sb ha), flat_ok rv hf.1, flats_ok ra hf.2, by simp only [if_true] at q ⊢; rw [e]; exact q⟩)
    · split at h <;> cases h
  · rename_i xs
    split at h
    · rename_i hf
      cases h
      obtain ⟨a, vs, rfl, ha, ra⟩ := repL ru
      have e := inV_ok rv hf.1 ra hf.2
      cases neg
      · exact .inl (.inr ⟨a, vs, rfl, .inl (SqL.of (sb _ _ ha)), flat_ok rv hf.1, flats_ok ra hf.2, by simp only [Bool.false_eq_true, if_false] at q ⊢; rw [e]; exact q⟩)
      · exact .inl (.inr ⟨a, vs, rfl, .inl (SqL.of (sb _ _ ha)), flat_ok rv hf.1, flats_ok ra hf.2, by simp only [if_true] at q ⊢; rw [e]; exact q⟩)
    · split at h
      · rename_i hs
        cases h
        obtain ⟨h1, h2⟩ := hs
        unfold shD at h1 h2
        rw [Bool.and_eq_true] at h1 h2
        have p2 := ru.dp sb h2.1
        cases neg
        · exact .inr ⟨_, _, rv.dp sb h1.1, p2, h1.2, h2.2, q⟩
        · exact .inr ⟨_, _, rv.dp sb h1.1, p2, h1.2, h2.2, q⟩
      · cases h
  · rename_i i ns
    cases h
    cases repI rv
    obtain ⟨a, rfl, ha⟩ := repX ru
    cases neg
    · exact .inl (.inr ⟨a, _, rfl, .inl (sb.seq ha), rfl, all_scr ns, by simp only [Bool.false_eq_true, if_false] at q ⊢; rw [any_scr]; exact q⟩)
    · exact .inl (.inr ⟨a, _, rfl, .inl (sb.seq ha), rfl, all_scr ns, by simp only [if_true] at q ⊢; rw [any_scr]; exact q⟩)
  · cases h
theorem r2_in : R2Ok K (rIn2 K) .pu gIn := r2_scal fun B H v u d e o Q sb rv ru hg => by
  unfold gIn at hg
  cases h : inD d e with
  | none => rw [h] at hg; cases hg
  | some b => rw [h] at hg; cases hg; exact ⟨_, fun _ => .bl _, fun q => inD_ok false sb rv ru h q⟩
theorem r2_ni : R2Ok K (rNi2 K) .pu gNi := r2_scal fun B H v u d e o Q sb rv ru hg => by
  unfold gNi at hg
  cases h : inD d e with
  | none => rw [h] at hg; cases hg
  | some b => rw [h] at hg; cases hg; exact ⟨_, fun _ => .bl _, fun q => inD_ok true sb rv ru h q⟩
/-! unary - -/
def gNeg : D → Option D
  | .int i => some (.int (-i))
  | _ => none
theorem u1_neg : U1Ok K (rU fun i => .int (-i)) .pu gNeg := u1_scal fun B H v d o Q sb rv hg => by
  unfold gNeg at hg
  split at hg
  · cases hg; cases repI rv; exact ⟨_, fun _ => .int _, fun q => ⟨_, rfl, q⟩⟩
  · cases hg
/-! subscripts -/
def gIx : D → D → Option D
  | .tup ds, .int i => atI ds i
  | .lst ds, .int i => atI ds i
  | .scr ns, .int i => (atI ns i).map .int
  | .str z, .int i => if z.length ≤ sizeLine then (atI z.cps.toList i).map fun c => .str ⟨#[c]⟩ else none
  | _, _ => none
theorem atI_map {α β : Type} {f : α → β} {xs : List α} {i : Int} {x : α} (h : atI xs i = some x) : atI (xs.map f) i = some (f x) := by
  unfold atI at h ⊢
  rw [List.length_map]
  cases e : ixN xs.length i with
  | none => rw [e] at h; cases h
  | some j => rw [e] at h; simp only [Option.bind_some] at h ⊢; rw [List.getElem?_map, h]; rfl
theorem r2_ix : R2Ok K (rIx K) .pu gIx := by
  intro Γ B R H σ ρ v u d e o Q O rv ru hg k
  unfold gIx at hg
  split at hg
  · cases repI ru
    obtain ⟨a, vs, rfl, ha, ra⟩ := repT rv
    obtain ⟨w, h1, h2⟩ := ra.atI hg
    exact .inr (.inl ⟨a, vs, _, w, rfl, rfl, sameT O.sb ha, h1, k B H w (Same.refl _) (O.pushP h2)⟩)
  · cases repI ru
    obtain ⟨a, vs, rfl, ha, ra⟩ := repL rv
    obtain ⟨w, h1, h2⟩ := ra.atI hg
    exact .inl ⟨a, vs, _, w, rfl, rfl, SqL.of (O.sb _ _ ha), h1, k B H w (Same.refl _) (O.pushP h2)⟩
  · rename_i ns i
    cases repI ru
    obtain ⟨a, rfl, ha⟩ := repX rv
    cases e : atI ns i with
    | none => rw [e] at hg; cases hg
    | some x =>
      rw [e] at hg; cases hg
      exact .inl ⟨a, _, _, _, rfl, rfl, O.sb.seq ha, atI_map e, k B H _ (Same.refl _) (O.pushP (.int x))⟩
  · split at hg
    · rename_i z i hz
      cases repI ru; cases repS rv
      cases e : atI z.cps.toList i with
      | none => rw [e] at hg; cases hg
      | some x =>
        rw [e] at hg; cases hg
        exact .inr (.inr ⟨z, _, _, rfl, rfl, hz, e, k B H _ (Same.refl _) (O.pushP (.str _))⟩)
    · cases hg
  · cases hg
end
end DL
namespace DL
open PySem L2
section
variable {K : PySem.W.Frag} {X : Cx} {mg : Mg} {W : Wc} {Γ : List Sh} {s : Sh} {te ta tb : TE} {fa fe : ER D}
/-! ## slices -/
def ELandO (K : PySem.W.Frag) (mg : Mg) (W : Wc) (Γ : List Sh) (B R : Hp) (σ : L2.St) (Q : Option Int → Hp → Prop) : Res (Option Int) → Prop
  | .ok o ρ => ∀ B' H', Same B B' → Ok K Γ B' R H' σ ρ → Q o H'
  | .exc e ρ => XLand K mg W Γ B R σ e ρ
  | .stuck => False
def POk (K : PySem.W.Frag) (mg : Mg) (W : Wc) (Γ : List Sh) (t : TO) (f : ER (Option Int)) : Prop := ∀ B R H σ ρ Q, W.P R σ → Ok K Γ B R H σ ρ → ELandO K mg W Γ B R σ Q (f ρ) → t σ H Q
def pNo : ER (Option Int) := fun ρ => .ok none ρ
def pSo (f : ER D) : ER (Option Int) := fun ρ => (f ρ).bind fun d ρ => match d with
  | .int i => .ok (some i) ρ
  | _ => .stuck
theorem pok_no : POk K mg W Γ tNoPart pNo := fun B R H σ ρ Q pw O h => h B H (Same.refl _) O
theorem pok_so (h : EOk K mg W Γ te .pu fe) : POk K mg W Γ (tPart te) (pSo fe) := by
  intro B R H σ ρ Q pw O hl
  unfold pSo at hl
  refine h B R H σ ρ _ pw O ?_
  cases e : fe ρ with
  | stuck => rw [e] at hl; exact hl
  | exc x ρ1 => rw [e] at hl; exact hl
  | ok d ρ1 =>
    rw [e] at hl
    intro B1 H1 v s1 O1
    simp only [Res.bind] at hl
    split at hl
    · cases repI O1.top
      exact ⟨_, rfl, hl B1 H1 s1 O1.pop⟩
    · exact hl.elim
def SlOk (K : PySem.W.Frag) (r : V → Option Int → Option Int → Hp → VK → Prop) (s : Sh) (g : D → Option Int → Option Int → Option D) : Prop :=
  ∀ (Γ : List Sh) (B R H : Hp) (σ : L2.St) (ρ : Env) (v : V) (d o : D) (lo hi : Option Int) (Q : VK), Ok K Γ B R H σ ρ → Rep K B v d → g d lo hi = some o →
    (∀ B' H' w, Same B B' → Ok K (s :: Γ) B' R H' (some w :: σ) (some o :: ρ) → Q w H') → r v lo hi H Q
def eSl (g : D → Option Int → Option Int → Option D) (f : ER D) (fl fh : ER (Option Int)) : ER D := fun ρ => (f ρ).bind fun d ρ => (fl ρ).bind fun lo ρ => (fh ρ).bind fun hi ρ => ofOpt (g d lo hi) ρ
theorem eok_sl {r : V → Option Int → Option Int → Hp → VK → Prop} {g : D → Option Int → Option Int → Option D} {tl th : TO} {fl fh : ER (Option Int)} (hr : SlOk K r s g) (h : EOk K mg W Γ te .pu fe) (hl : POk K mg W Γ tl fl) (hh : POk K mg W Γ th fh) :
    EOk K mg W Γ (tSl r te tl th) s (eSl g fe fl fh) := by
  intro B R H σ ρ Q pw O hd
  unfold eSl at hd
  refine h B R H σ ρ _ pw O ?_
  cases e : fe ρ with
  | stuck => rw [e] at hd; exact hd
  | exc x ρ1 => rw [e] at hd; exact hd
  | ok d ρ1 =>
    rw [e] at hd
    intro B1 H1 v s1 O1
    have rv := O1.top
    refine hl B1 R H1 σ ρ1 _ pw O1.pop ?_
    simp only [Res.bind] at hd
    cases e1 : fl ρ1 with
    | stuck => rw [e1] at hd; exact hd
    | exc x ρ2 => rw [e1] at hd; exact XLand.mono hd s1
    | ok lo ρ2 =>
      rw [e1] at hd
      intro B2 H2 s2 O2
      refine hh B2 R H2 σ ρ2 _ pw O2 ?_
      simp only at hd
      cases e2 : fh ρ2 with
      | stuck => rw [e2] at hd; exact hd
      | exc x ρ3 => rw [e2] at hd; exact XLand.mono hd (s1.trans s2)
      | ok hi ρ3 =>
        rw [e2] at hd
        intro B3 H3 s3 O3
        simp only [ofOpt] at hd
        cases e3 : g d lo hi with
        | none => rw [e3] at hd; exact hd.elim
        | some o =>
          rw [e3] at hd
          exact hr Γ B3 R H3 σ ρ3 v d o lo hi Q O3 (rv.mono (s2.trans s3)) e3 fun B4 H4 w s4 O4 => hd B4 H4 w (((s1.trans s2).trans s3).trans s4) O4
/-- the items of xs[lo:hi] -/
def cutD {α : Type} (xs : List α) (lo hi : Option Int) : List α := (xs.drop (HT.sIx xs.length 0 lo)).take (HT.sIx xs.length xs.length hi - HT.sIx xs.length 0 lo)
theorem Reps.cut {B : Hp} {vs : List V} {ds : List D} (r : Reps K B vs ds) (lo hi : Option Int) : Reps K B (cutV vs lo hi) (cutD ds lo hi) := by
  unfold cutV cutD
  rw [r.length]
  exact (r.drop _).take _
theorem cutV_map {α : Type} {f : α → V} (ns : List α) (lo hi : Option Int) : cutV (ns.map f) lo hi = (cutD ns lo hi).map f := by
  unfold cutV cutD
  rw [List.length_map, List.map_take, List.map_drop]
theorem cut_whole {α : Type} {xs : List α} {lo hi : Option Int} (h : HT.sIx xs.length 0 lo = 0 ∧ HT.sIx xs.length xs.length hi = xs.length) : cutD xs lo hi = xs := by
  unfold cutD
  rw [h.1, h.2]
  simp
def gSl (d : D) (lo hi : Option Int) : Option D := match d with
  | .tup ds => some (.tup (cutD ds lo hi))
  | .lst ds => some (.lst (cutD ds lo hi))
  | .scr ns => some (.lst ((cutD ns lo hi).map .int))
  | .str z => if z.length ≤ sizeLine then some (.str (cutS z lo hi)) else none
  | _ => none
def rSl (K : PySem.W.Frag) : V → Option Int → Option Int → Hp → VK → Prop := fun x lo hi H Q => (rSlL K x lo hi H Q ∨ rSlA K x lo hi H Q) ∨ rSlS x lo hi H Q
theorem slAny : SlR X (rSl X.K) := (sl_list.or sl_tupA).or sl_str
theorem slok_any : SlOk K (rSl K) .pu gSl := by
  intro Γ B R H σ ρ v d o lo hi Q O rv hg k
  unfold gSl at hg
  split at hg
  · rename_i ds
    cases hg
    obtain ⟨a, vs, rfl, ha, ra⟩ := repT rv
    refine .inl (.inr ⟨a, vs, rfl, sameT O.sb ha, fun hw => ?_, fun hw p hp => ?_⟩)
    · rw [ra.length] at hw
      exact k B H _ (Same.refl _) (O.pushP (by rw [cut_whole hw]; exact rv))
    · obtain ⟨B', s', O'⟩ := O.layTup hp (ra.cut lo hi)
      exact k B' _ _ s' O'
  · cases hg
    obtain ⟨a, vs, rfl, ha, ra⟩ := repL rv
    refine .inl (.inl ⟨a, vs, rfl, SqL.of (O.sb _ _ ha), fun p hp => ?_⟩)
    obtain ⟨B', s', O'⟩ := O.layLst hp (ra.cut lo hi)
    exact k B' _ _ s' O'
  · cases hg
    obtain ⟨a, rfl, ha⟩ := repX rv
    refine .inl (.inl ⟨a, _, rfl, O.sb.seq ha, fun p hp => ?_⟩)
    rw [cutV_map]
    obtain ⟨B', s', O'⟩ := O.layLst hp (reps_int (K := K) (B := B) _)
    exact k B' _ _ s' O'
  · split at hg
    · rename_i z hz
      cases hg; cases repS rv
      exact .inr ⟨z, rfl, hz, k B H _ (Same.refl _) (O.pushP (.str _))⟩
    · cases hg
  · cases hg
/-- a list's slice, own -/
def gSlO (d : D) (lo hi : Option Int) : Option D := match d with
  | .lst ds => some (.lst (cutD ds lo hi))
  | .scr ns => some (.lst ((cutD ns lo hi).map .int))
  | _ => none
theorem slok_own : SlOk K (rSlL K) .ls gSlO := by
  intro Γ B R H σ ρ v d o lo hi Q O rv hg k
  unfold gSlO at hg
  split at hg
  · cases hg
    obtain ⟨a, vs, rfl, ha, ra⟩ := repL rv
    exact ⟨a, vs, rfl, SqL.of (O.sb _ _ ha), fun p hp => k B _ _ (Same.refl _) (O.pushN hp (ra.cut lo hi))⟩
  · cases hg
    obtain ⟨a, rfl, ha⟩ := repX rv
    refine ⟨a, _, rfl, O.sb.seq ha, fun p hp => ?_⟩
    rw [cutV_map]
    exact k B _ _ (Same.refl _) (O.pushN hp (reps_int (K := K) (B := B) _))
  · cases hg
/-! ## built-ins -/
def gLen : List D → Option D
  | [.tup ds] => some (.int ds.length)
  | [.lst ds] => some (.int ds.length)
  | [.scr ns] => some (.int ns.length)
  | [.str z] => if z.length ≤ sizeLine then some (.int z.length) else none
  | _ => none
def rLen (K : PySem.W.Frag) : List V → Hp → VK → Prop := fun xs H Q => ∃ x n, xs = [x] ∧ LenV K x H n ∧ Q (.int n) H
theorem callLen : CallR X (.builtin "len") (rLen X.K) := call_len
theorem reps1 {B : Hp} {vs : List V} {d : D} (r : Reps K B vs [d]) : ∃ v, vs = [v] ∧ Rep K B v d := by
  cases r with
  | cons h r => cases r; exact ⟨_, rfl, h⟩
theorem reps2 {B : Hp} {vs : List V} {d e : D} (r : Reps K B vs [d, e]) : ∃ v u, vs = [v, u] ∧ Rep K B v d ∧ Rep K B u e := by
  cases r with
  | cons h r => obtain ⟨u, rfl, h2⟩ := reps1 r; exact ⟨_, u, rfl, h, h2⟩
theorem c1_len : C1Ok K (rLen K) .pu gLen := c1_scal fun B H vs ds o Q sb rs hg => by
  unfold gLen at hg
  split at hg
  · cases hg
    obtain ⟨v, rfl, rv⟩ := reps1 rs
    obtain ⟨a, ws, rfl, ha, ra⟩ := repT rv
    exact ⟨_, fun _ => .int _, fun q => ⟨_, ws.length, rfl, .inr ⟨ws, sameT sb ha, rfl⟩, by rw [ra.length]; exact q⟩⟩
  · cases hg
    obtain ⟨v, rfl, rv⟩ := reps1 rs
    obtain ⟨a, ws, rfl, ha, ra⟩ := repL rv
    exact ⟨_, fun _ => .int _, fun q => ⟨_, ws.length, rfl, .inl ⟨ws, SqL.of (sb _ _ ha), rfl⟩, by rw [ra.length]; exact q⟩⟩
  · rename_i ns
    cases hg
    obtain ⟨v, rfl, rv⟩ := reps1 rs
    obtain ⟨a, rfl, ha⟩ := repX rv
    exact ⟨_, fun _ => .int _, fun q => ⟨_, ns.length, rfl, .inl ⟨_, sb.seq ha, by simp⟩, q⟩⟩
  · split at hg
    · rename_i z hz
      cases hg
      obtain ⟨v, rfl, rv⟩ := reps1 rs
      cases repS rv
      exact ⟨_, fun _ => .int _, fun q => ⟨_, z.length, rfl, ⟨hz, rfl⟩, q⟩⟩
    · cases hg
  · cases hg
def gAbs : List D → Option D
  | [.int i] => some (.int (if i < 0 then -i else i))
  | _ => none
def rAbs : List V → Hp → VK → Prop := fun xs H Q => ∃ i, xs = [.int i] ∧ Q (.int (if i < 0 then -i else i)) H
theorem callAbs : CallR X (.builtin "abs") rAbs := call_abs
theorem c1_abs : C1Ok K rAbs .pu gAbs := c1_scal fun B H vs ds o Q sb rs hg => by
  unfold gAbs at hg
  split at hg
  · cases hg
    obtain ⟨v, rfl, rv⟩ := reps1 rs
    cases repI rv
    exact ⟨_, fun _ => .int _, fun q => ⟨_, rfl, q⟩⟩
  · cases hg
def gInt : List D → Option D
  | [.int i] => some (.int i)
  | [.bl k] => some (.int (if k then 1 else 0))
  | _ => none
def rInt1 : List V → Hp → VK → Prop := fun xs H Q => (∃ i, xs = [.int i] ∧ Q (.int i) H) ∨ ∃ k, xs = [.bl k] ∧ Q (.int (if k then 1 else 0)) H
theorem callInt : CallR X (.type "int") rInt1 := call_int1
theorem c1_int : C1Ok K rInt1 .pu gInt := c1_scal fun B H vs ds o Q sb rs hg => by
  unfold gInt at hg
  split at hg
  · cases hg
    obtain ⟨v, rfl, rv⟩ := reps1 rs
    cases repI rv
    exact ⟨_, fun _ => .int _, fun q => .inl ⟨_, rfl, q⟩⟩
  · cases hg
    obtain ⟨v, rfl, rv⟩ := reps1 rs
    cases repB rv
    exact ⟨_, fun _ => .int _, fun q => .inr ⟨_, rfl, q⟩⟩
  · cases hg
def gStr : List D → Option D
  | [.int i] => if i.natAbs.log2 < 1920 then some (.str (toString i)) else none
  | _ => none
def rStrI : List V → Hp → VK → Prop := fun xs H Q => ∃ i, xs = [.int i] ∧ i.natAbs.log2 < 1920 ∧ Q (.str (toString i)) H
theorem callStr : CallR X (.type "str") rStrI := call_str_int
theorem c1_str : C1Ok K rStrI .pu gStr := c1_scal fun B H vs ds o Q sb rs hg => by
  unfold gStr at hg
  split at hg
  · split at hg
    · rename_i hz
      cases hg
      obtain ⟨v, rfl, rv⟩ := reps1 rs
      cases repI rv
      exact ⟨_, fun _ => .str _, fun q => ⟨_, rfl, hz, q⟩⟩
    · cases hg
  · cases hg
/-! max, min -/
def intsD : List D → Option (List Int)
  | [] => some []
  | .int i :: ds => (intsD ds).map (i :: ·)
  | _ => none
theorem intsD_eq : ∀ {ds : List D} {ns : List Int}, intsD ds = some ns → ds = ns.map D.int
  | [], ns, h => by cases h; rfl
  | .int i :: ds, ns, h => by
    unfold intsD at h
    cases e : intsD ds with
    | none => rw [e] at h; cases h
    | some ms => rw [e] at h; cases h; rw [intsD_eq e]; rfl
theorem reps_ints {B : Hp} : ∀ {vs : List V} {ns : List Int}, Reps K B vs (ns.map D.int) → vs = ns.map V.int
  | _, [], r => by cases r; rfl
  | _, n :: ns, r => by
    cases r with
    | cons h r => cases repI h; rw [reps_ints r]; rfl
/-- a list of ints -/
def listD : D → Option (List Int)
  | .lst ds => intsD ds
  | .scr ns => some ns
  | _ => none
theorem listD_ok {B : Hp} {v : V} {d : D} {ns : List Int} (r : Rep K B v d) (h : listD d = some ns) : ∃ a, v = .ref a ∧ SqL K B a (ns.map V.int) := by
  unfold listD at h
  split at h
  · obtain ⟨a, vs, rfl, ha, ra⟩ := repL r
    rw [intsD_eq h] at ra
    cases reps_ints ra
    exact ⟨a, rfl, SqL.of ha⟩
  · cases h
    exact repX r
  · cases h
def maxI : Int → List Int → Int
  | m, [] => m
  | m, n :: ns => maxI (if n > m then n else m) ns
def minI : Int → List Int → Int
  | m, [] => m
  | m, n :: ns => minI (if n < m then n else m) ns
theorem maxI_ok : ∀ (ns : List Int) (m : Int), m ≤ maxI m ns ∧ (∀ y ∈ ns, y ≤ maxI m ns) ∧ (maxI m ns = m ∨ maxI m ns ∈ ns)
  | [], m => ⟨Int.le_refl _, by simp, .inl rfl⟩
  | n :: ns, m => by
    obtain ⟨h1, h2, h3⟩ := maxI_ok ns (if n > m then n else m)
    have hm : m ≤ (if n > m then n else m) := by split <;> omega
    have hn : n ≤ (if n > m then n else m) := by split <;> omega
    show m ≤ maxI (if n > m then n else m) ns ∧ (∀ y ∈ n :: ns, y ≤ maxI (if n > m then n else m) ns) ∧ (maxI (if n > m then n else m) ns = m ∨ maxI (if n > m then n else m) ns ∈ n :: ns)
    refine ⟨Int.le_trans hm h1, fun y hy => ?_, ?_⟩
    · rcases List.mem_cons.mp hy with rfl | hy
      · exact Int.le_trans hn h1
      · exact h2 y hy
    · rcases h3 with h3 | h3
      · rw [h3]; split
        · exact .inr List.mem_cons_self
        · exact .inl rfl
      · exact .inr (List.mem_cons_of_mem _ h3)
theorem minI_ok : ∀ (ns : List Int) (m : Int), minI m ns ≤ m ∧ (∀ y ∈ ns, minI m ns ≤ y) ∧ (minI m ns = m ∨ minI m ns ∈ ns)
  | [], m => ⟨Int.le_refl _, by simp, .inl rfl⟩
  | n :: ns, m => by
    obtain ⟨h1, h2, h3⟩ := minI_ok ns (if n < m then n else m)
    have hm : (if n < m then n else m) ≤ m := by split <;> omega
    have hn : (if n < m then n else m) ≤ n := by split <;> omega
    show minI (if n < m then n else m) ns ≤ m ∧ (∀ y ∈ n :: ns, minI (if n < m then n else m) ns ≤ y) ∧ (minI (if n < m then n else m) ns = m ∨ minI (if n < m then n else m) ns ∈ n :: ns)
    refine ⟨Int.le_trans h1 hm, fun y hy => ?_, ?_⟩
    · rcases List.mem_cons.mp hy with rfl | hy
      · exact Int.le_trans h1 hn
      · exact h2 y hy
    · rcases h3 with h3 | h3
      · rw [h3]; split
        · exact .inr List.mem_cons_self
        · exact .inl rfl
      · exact .inr (List.mem_cons_of_mem _ h3)
def gMax : List D → Option D
  | [.int i, .int j] => some (.int (if j > i then j else i))
  | [d] => match listD d with
    | some (n :: ns) => some (.int (maxI n ns))
    | _ => none
  | _ => none
def gMin : List D → Option D
  | [.int i, .int j] => some (.int (if j < i then j else i))
  | [d] => match listD d with
    | some (n :: ns) => some (.int (minI n ns))
    | _ => none
  | _ => none
def rMax22 : List V → Hp → VK → Prop := fun xs H Q => ∃ i j, xs = [.int i, .int j] ∧ Q (.int (if j > i then j else i)) H
def rMin22 : List V → Hp → VK → Prop := fun xs H Q => ∃ i j, xs = [.int i, .int j] ∧ Q (.int (if j < i then j else i)) H
def rMaxA (K : PySem.W.Frag) : List V → Hp → VK → Prop := fun xs H Q => rMax22 xs H Q ∨ rMax K xs H Q
def rMinA (K : PySem.W.Frag) : List V → Hp → VK → Prop := fun xs H Q => rMin22 xs H Q ∨ rMin K xs H Q
theorem callMax (hc : X.calm = true) : CallR X (.builtin "max") (rMaxA X.K) := (call_max2 hc).or (cr_max hc)
theorem callMin (hc : X.calm = true) : CallR X (.builtin "min") (rMinA X.K) := (call_min2 hc).or (cr_min hc)
theorem c1_max : C1Ok K (rMaxA K) .pu gMax := c1_scal fun B H vs ds o Q sb rs hg => by
  unfold gMax at hg
  split at hg
  · cases hg
    obtain ⟨v, u, rfl, rv, ru⟩ := reps2 rs
    cases repI rv; cases repI ru
    exact ⟨_, fun _ => .int _, fun q => .inl ⟨_, _, rfl, q⟩⟩
  · split at hg
    · rename_i n ns e
      cases hg
      obtain ⟨v, rfl, rv⟩ := reps1 rs
      obtain ⟨a, rfl, ha⟩ := listD_ok rv e
      obtain ⟨h1, h2, h3⟩ := maxI_ok ns n
      refine ⟨_, fun _ => .int _, fun q => .inr ⟨a, n :: ns, rfl, sb.seq ha, by simp, fun m hm hy => ?_⟩⟩
      have e1 : maxI n ns ≤ m := hy _ (by rcases h3 with h3 | h3; · rw [h3]; exact List.mem_cons_self
                                          · exact List.mem_cons_of_mem _ h3)
      have e2 : m ≤ maxI n ns := by
        rcases List.mem_cons.mp hm with rfl | hm
        · exact h1
        · exact h2 m hm
      have : m = maxI n ns := by omega
      rw [this]; exact q
    · cases hg
  · cases hg
theorem c1_min : C1Ok K (rMinA K) .pu gMin := c1_scal fun B H vs ds o Q sb rs hg => by
  unfold gMin at hg
  split at hg
  · cases hg
    obtain ⟨v, u, rfl, rv, ru⟩ := reps2 rs
    cases repI rv; cases repI ru
    exact ⟨_, fun _ => .int _, fun q => .inl ⟨_, _, rfl, q⟩⟩
  · split at hg
    · rename_i n ns e
      cases hg
      obtain ⟨v, rfl, rv⟩ := reps1 rs
      obtain ⟨a, rfl, ha⟩ := listD_ok rv e
      obtain ⟨h1, h2, h3⟩ := minI_ok ns n
      refine ⟨_, fun _ => .int _, fun q => .inr ⟨a, n :: ns, rfl, sb.seq ha, by simp, fun m hm hy => ?_⟩⟩
      have e1 : m ≤ minI n ns := hy _ (by rcases h3 with h3 | h3; · rw [h3]; exact List.mem_cons_self
                                          · exact List.mem_cons_of_mem _ h3)
      have e2 : minI n ns ≤ m := by
        rcases List.mem_cons.mp hm with rfl | hm
        · exact h1
        · exact h2 m hm
      have : m = minI n ns := by omega
      rw [this]; exact q
    · cases hg
  · cases hg
def gSum : List D → Option D
  | [d] => (listD d).map fun ns => .int ns.sum
  | _ => none
theorem callSum (hc : X.calm = true) : CallR X (.builtin "sum") (rSum X.K) := cr_sum hc
theorem c1_sum : C1Ok K (rSum K) .pu gSum := c1_scal fun B H vs ds o Q sb rs hg => by
  unfold gSum at hg
  split at hg
  · rename_i d
    cases e : listD d with
    | none => rw [e] at hg; cases hg
    | some ns =>
      rw [e] at hg
      cases hg
      obtain ⟨v, rfl, rv⟩ := reps1 rs
      obtain ⟨a, rfl, ha⟩ := listD_ok rv e
      exact ⟨_, fun _ => .int _, fun q => ⟨a, ns, rfl, sb.seq ha, q⟩⟩
  · cases hg
/-! list(x), tuple(x) -/
def gList : List D → Option D
  | [.lst ds] => some (.lst ds)
  | [.tup ds] => some (.lst ds)
  | [.scr ns] => some (.lst (ns.map .int))
  | _ => none
def rList (K : PySem.W.Frag) : List V → Hp → VK → Prop := fun xs H Q => ∃ p ys, xs = [.ref p] ∧ (SqL K H p ys ∨ SqT K H p ys) ∧ ∀ l, H l = none → Q (.ref l) (upd H l (.lst ys))
theorem callList : CallR X (.type "list") (rList X.K) := call_list_of
theorem c1_list : C1Ok K (rList K) .ls gList := by
  intro Γ B R H σ ρ vs ds o Q O rs hg k
  unfold gList at hg
  split at hg
  · cases hg
    obtain ⟨v, rfl, rv⟩ := reps1 rs
    obtain ⟨a, ws, rfl, ha, ra⟩ := repL rv
    exact ⟨a, ws, rfl, .inl (SqL.of (O.sb _ _ ha)), fun l hl => k B _ _ (Same.refl _) (O.pushN hl ra)⟩
  · cases hg
    obtain ⟨v, rfl, rv⟩ := reps1 rs
    obtain ⟨a, ws, rfl, ha, ra⟩ := repT rv
    exact ⟨a, ws, rfl, .inr (sameT O.sb ha), fun l hl => k B _ _ (Same.refl _) (O.pushN hl ra)⟩
  · cases hg
    obtain ⟨v, rfl, rv⟩ := reps1 rs
    obtain ⟨a, rfl, ha⟩ := repX rv
    exact ⟨a, _, rfl, .inl (O.sb.seq ha), fun l hl => k B _ _ (Same.refl _) (O.pushN hl (reps_int _))⟩
  · cases hg
def gTuple : List D → Option D
  | [.lst ds] => some (.tup ds)
  | [.tup ds] => some (.tup ds)
  | [.scr ns] => some (.tup (ns.map .int))
  | _ => none
def rTuple (K : PySem.W.Frag) : List V → Hp → VK → Prop := fun xs H Q => ∃ p ys, xs = [.ref p] ∧ ((SqL K H p ys ∧ ∀ l, H l = none → Q (.ref l) (upd H l (.tup ys))) ∨ (SqT K H p ys ∧ Q (.ref p) H))
theorem callTuple : CallR X (.type "tuple") (rTuple X.K) := call_tuple_of
theorem c1_tuple : C1Ok K (rTuple K) .pu gTuple := by
  intro Γ B R H σ ρ vs ds o Q O rs hg k
  unfold gTuple at hg
  split at hg
  · cases hg
    obtain ⟨v, rfl, rv⟩ := reps1 rs
    obtain ⟨a, ws, rfl, ha, ra⟩ := repL rv
    refine ⟨a, ws, rfl, .inl ⟨SqL.of (O.sb _ _ ha), fun l hl => ?_⟩⟩
    obtain ⟨B', s', O'⟩ := O.layTup hl ra
    exact k B' _ _ s' O'
  · cases hg
    obtain ⟨v, rfl, rv⟩ := reps1 rs
    obtain ⟨a, ws, rfl, ha, ra⟩ := repT rv
    exact ⟨a, ws, rfl, .inr ⟨sameT O.sb ha, k B H _ (Same.refl _) (O.pushP rv)⟩⟩
  · cases hg
    obtain ⟨v, rfl, rv⟩ := reps1 rs
    obtain ⟨a, rfl, ha⟩ := repX rv
    refine ⟨a, _, rfl, .inl ⟨O.sb.seq ha, fun l hl => ?_⟩⟩
    obtain ⟨B', s', O'⟩ := O.layTup hl (reps_int (K := K) (B := B) _)
    exact k B' _ _ s' O'
  · cases hg
/-! isinstance(x, T), T a built-in type -/
def tyN : D → String
  | .non => "NoneType" | .bl _ => "bool" | .int _ => "int" | .str _ => "str" | .tup _ => "tuple" | .lst _ => "list" | .scr _ => "list" | .dct _ _ => "dict"
def isTup : D → Bool
  | .tup _ => true
  | _ => false
def isLst : D → Bool
  | .lst _ => true | .scr _ => true
  | _ => false
def isStr : D → Bool
  | .str _ => true
  | _ => false
def isBl : D → Bool
  | .bl _ => true
  | _ => false
def isInt : D → Bool
  | .int _ => true | .bl _ => true
  | _ => false
def isDct : D → Bool
  | .dct _ _ => true
  | _ => false
theorem ty_tup (d : D) : kitB (tyN d) "tuple" = some (isTup d) := by cases d <;> (dsimp only [tyN, isTup]; decide +kernel)
theorem ty_lst (d : D) : kitB (tyN d) "list" = some (isLst d) := by cases d <;> (dsimp only [tyN, isLst]; decide +kernel)
theorem ty_str (d : D) : kitB (tyN d) "str" = some (isStr d) := by cases d <;> (dsimp only [tyN, isStr]; decide +kernel)
theorem ty_bl (d : D) : kitB (tyN d) "bool" = some (isBl d) := by cases d <;> (dsimp only [tyN, isBl]; decide +kernel)
theorem ty_int (d : D) : kitB (tyN d) "int" = some (isInt d) := by cases d <;> (dsimp only [tyN, isInt]; decide +kernel)
theorem ty_dct (d : D) : kitB (tyN d) "dict" = some (isDct d) := by cases d <;> (dsimp only [tyN, isDct]; decide +kernel)
theorem sqt_ty {H : Hp} {a : Addr} {vs : List V} (h : SqT K H a vs) : TyX K H (.ref a) (.type "tuple") := by
  rcases h with (h | ⟨o, h⟩) | ⟨o, its, n, h1, h2, _⟩
  · exact .base (.tup h)
  · exact .fTuple h
  · exact .kTuple h1 h2
theorem sql_ty {H : Hp} {a : Addr} {vs : List V} (h : SqL K H a vs) : TyX K H (.ref a) (.type "list") := by
  rcases h with (h | ⟨o, h⟩) | ⟨o, its, n, h1, h2, _⟩
  · exact .base (.lst h)
  · exact .base (.frz h)
  · exact .kList h1 h2
theorem rep_ty {B H : Hp} {v : V} {d : D} (sb : Same B H) (r : Rep K B v d) : TyX K H v (.type (tyN d)) := by
  cases r with
  | non => exact .base .non
  | bl b => exact .base (.bl b)
  | int i => exact .base (.int i)
  | str s => exact .base (.str s)
  | tup h r => exact sqt_ty (sameT sb h)
  | lst h r => exact .base (.lst (sb _ _ h))
  | scr h => exact sql_ty (sb.seq h)
def eIsi (p : D → Bool) (f : ER D) : ER D := fun ρ => (f ρ).bind fun d ρ => .ok (.bl (p d)) ρ
theorem eok_isi {n : String} {p : D → Bool} (hp : ∀ d, kitB (tyN d) n = some (p d)) (h : EOk K mg W Γ te .pu fe) : EOk K mg W Γ (tCB (rIsi K) (tCons te (tCons (tC (.ty n)) tNil))) .pu (eIsi p fe) := by
  intro B R H σ ρ Q pw O hd
  unfold eIsi at hd
  refine h B R H σ ρ _ pw O ?_
  cases e : fe ρ with
  | stuck => rw [e] at hd; exact hd
  | exc x ρ1 => rw [e] at hd; exact hd
  | ok d ρ1 =>
    rw [e] at hd
    intro B1 H1 v s1 O1
    exact ⟨v, .ty n, .type (tyN d), .type n, p d, rfl, .ty n, rep_ty O1.sb O1.top, kit_ty (hp d), hd B1 H1 _ s1 (O1.pop.pushP (.bl _))⟩
/-! conditional chains of comparisons and the like are made of the above -/
end
end DL
namespace DLZ
open PySem
open PySem.Sem (wp)
section
variable {prog : Program} {w : World} {A : Around} {E : Value → Shared → Prop} {s : Shared}
/-! 'next' of a zip of two tuples, the tuple given out before still there (as KE.KDictZip has it for lists) -/
theorem item_held {z TI TO T i1 i2 l1 l2 : Addr} {f : Bool} {obT : Obj} {k1 k2 : Nat} {xs ys : Array Value} {x y : Value} {Q : Value → Shared → Prop} (ap : ZipApart z TI TO i1 i2 l1 l2)
    (gz : IsZipHeld s.heap z TI TO T f) (gT : s.heap.get? T = some obT) (gI : IsPair s.heap TI (.ref i1) (.ref i2))
    (h1 : s.heap.IsTupleIter i1 l1 k1) (h2 : s.heap.IsTupleIter i2 l2 k2) (gl1 : s.heap.IsTuple l1 xs) (gl2 : s.heap.IsTuple l2 ys) (gx : xs[k1]? = some x) (gy : ys[k2]? = some y)
    (gQ : ∀ h', IsZipHeld h' z TI TO T true → h'.IsTupleIter i1 l1 (k1 + 1) → h'.IsTupleIter i2 l2 (k2 + 1) → IsPair h' s.heap.objs.size x y → h'.objs.size = s.heap.objs.size + 1 →
      (∀ c o, c ≠ z → c ≠ i1 → c ≠ i2 → s.heap.get? c = some o → h'.get? c = some o) → Q (.ref s.heap.objs.size) { s with heap := h' }) :
    wpAny (model prog w) A (Builtin.«zip.__next__» ⟨[.ref z], []⟩) (fun fin s' => ∃ v, fin = .done (.ret v) ∧ Q v s') E s := by
  show wpAny _ _ (field (.ref z) 2 >>= _) _ _ _
  refine wpAny_bind (wpAny_field gz rfl (x := .bool false) rfl ?_)
  show wpAny _ _ (field (.ref z) 3 >>= _) _ _ _
  refine wpAny_bind (wpAny_field gz rfl (x := .ref TI) rfl ?_)
  refine wpAny_bind (wpAny_seqItems gI rfl ?_)
  show wpAny _ _ (Builtin.SmallTypes.ownedTupleIsFree (.ref z) >>= _) _ _ _
  refine wpAny_bind (wpAny_tupleHeld_zip gz gT fun m1 z1 b1 => ?_)
  simp only [Bool.false_eq_true, if_false]
  refine wpAny_bind ?_
  rw [← Array.forIn_toList]
  simp only [List.forIn_cons, List.forIn_nil]
  refine wpAny_bind (wpAny_bind (wpAny_holding ?_))
  show wpAny _ _ (Builtin.SmallTypes.nextOf (.ref i1) >>= _) _ _ _
  refine wpAny_bind (RZ.nextOf_tuple_item (s := { s with heap := m1 }) (h1.extBut b1.extBut ap.i1z) (gl1.extBut b1.extBut ap.l1z) gx fun m2 i1k b2 => wpAny_pure ?_)
  refine wpAny_pure ?_
  refine wpAny_bind (wpAny_bind (wpAny_holding ?_))
  show wpAny _ _ (Builtin.SmallTypes.nextOf (.ref i2) >>= _) _ _ _
  refine wpAny_bind (RZ.nextOf_tuple_item (s := { s with heap := m2 }) ((h2.extBut b1.extBut ap.i2z).extBut b2.extBut ap.i12.symm) ((gl2.extBut b1.extBut ap.l2z).extBut b2.extBut ap.l2i1) gy fun m3 i2k b3 => wpAny_pure ?_)
  refine wpAny_pure (wpAny_pure ?_)
  show wpAny _ _ (newTuple [x, y] >>= _) _ _ _
  refine wpAny_bind (wpAny_newTuple ?_)
  have esz : m3.objs.size = s.heap.objs.size := by rw [b3.1, b2.1, b1.1]
  have z3 : IsZipHeld m3 z TI TO T true := b3.extBut _ _ ap.i2z.symm (b2.extBut _ _ ap.i1z.symm z1)
  have gk : ∀ c o, c ≠ z → c ≠ i1 → c ≠ i2 → s.heap.get? c = some o → m3.get? c = some o := fun c o c1 c2 c3 e => b3.extBut _ _ c3 (b2.extBut _ _ c2 (b1.extBut _ _ c1 e))
  have i13 : m3.IsTupleIter i1 l1 (k1 + 1) := i1k.extBut b3.extBut ap.i12
  refine wpAny_pure ⟨_, rfl, ?_⟩
  show Q (.ref m3.objs.size) _
  have gp : IsPair (m3.push { cls := .type "tuple", data := .seq #[x, y] }) m3.objs.size x y := Heap.get?_push_size _ rfl
  have hz4 : (m3.push { cls := .type "tuple", data := .seq #[x, y] }).objs.size = m3.objs.size + 1 := Heap.size_push ..
  rw [esz] at gp hz4 ⊢
  exact gQ _ (Heap.get?_push_of_some _ z3) (i13.at fun o e => Heap.get?_push_of_some _ e) (i2k.at fun o e => Heap.get?_push_of_some _ e) gp hz4 fun c o c1 c2 c3 e => Heap.get?_push_of_some _ (gk c o c1 c2 c3 e)
theorem end_held {z TI TO T i1 i2 l1 l2 : Addr} {f : Bool} {obT : Obj} {k1 k2 : Nat} {xs ys : Array Value} {Q : Fin → Shared → Prop} (gh : A.handled = none) (ap : ZipApart z TI TO i1 i2 l1 l2)
    (gz : IsZipHeld s.heap z TI TO T f) (gT : s.heap.get? T = some obT) (gI : IsPair s.heap TI (.ref i1) (.ref i2))
    (h1 : s.heap.IsTupleIter i1 l1 k1) (h2 : s.heap.IsTupleIter i2 l2 k2) (gl1 : s.heap.IsTuple l1 xs) (gl2 : s.heap.IsTuple l2 ys) (gend : xs[k1]? = none ∨ ys[k2]? = none)
    (gE : ∀ h' e, (∀ c o, c ≠ z → c ≠ i1 → c ≠ i2 → s.heap.get? c = some o → h'.get? c = some o) → (∃ o, h'.get? e = some o ∧ o.cls = .type "StopIteration") → E (.ref e) { s with heap := h' }) :
    wpAny (model prog w) A (Builtin.«zip.__next__» ⟨[.ref z], []⟩) Q E s := by
  show wpAny _ _ (field (.ref z) 2 >>= _) _ _ _
  refine wpAny_bind (wpAny_field gz rfl (x := .bool false) rfl ?_)
  show wpAny _ _ (field (.ref z) 3 >>= _) _ _ _
  refine wpAny_bind (wpAny_field gz rfl (x := .ref TI) rfl ?_)
  refine wpAny_bind (wpAny_seqItems gI rfl ?_)
  show wpAny _ _ (Builtin.SmallTypes.ownedTupleIsFree (.ref z) >>= _) _ _ _
  refine wpAny_bind (wpAny_tupleHeld_zip gz gT fun m1 z1 b1 => ?_)
  simp only [Bool.false_eq_true, if_false]
  refine wpAny_bind ?_
  rw [← Array.forIn_toList]
  simp only [List.forIn_cons, List.forIn_nil]
  refine wpAny_bind (wpAny_bind (wpAny_holding ?_))
  show wpAny _ _ (Builtin.SmallTypes.nextOf (.ref i1) >>= _) _ _ _
  cases gx : xs[k1]? with
  | none =>
    refine wpAny_bind (RZ.nextOf_tuple_end (s := { s with heap := m1 }) gh (h1.extBut b1.extBut ap.i1z) (gl1.extBut b1.extBut ap.l1z) gx fun m2 e b2 he => ?_)
    exact gE m2 e (fun c o c1 c2 _ x => b2 _ _ c2 (b1.extBut _ _ c1 x)) he
  | some x =>
    have gy : ys[k2]? = none := by rcases gend with h | h; rw [gx] at h; cases h; exact h
    refine wpAny_bind (RZ.nextOf_tuple_item (s := { s with heap := m1 }) (h1.extBut b1.extBut ap.i1z) (gl1.extBut b1.extBut ap.l1z) gx fun m2 i1k b2 => wpAny_pure ?_)
    refine wpAny_pure ?_
    refine wpAny_bind (wpAny_bind (wpAny_holding ?_))
    show wpAny _ _ (Builtin.SmallTypes.nextOf (.ref i2) >>= _) _ _ _
    refine wpAny_bind (RZ.nextOf_tuple_end (s := { s with heap := m2 }) gh ((h2.extBut b1.extBut ap.i2z).extBut b2.extBut ap.i12.symm) ((gl2.extBut b1.extBut ap.l2z).extBut b2.extBut ap.l2i1) gy fun m3 e b3 he => ?_)
    exact gE m3 e (fun c o c1 c2 c3 x => b3 _ _ c3 (b2.extBut _ _ c2 (b1.extBut _ _ c1 x))) he
theorem next_item_held {z TI TO T i1 i2 l1 l2 : Addr} {f : Bool} {obT : Obj} {k1 k2 : Nat} {xs ys : Array Value} {x y : Value} {Q : Option Value → Shared → Prop} (ap : ZipApart z TI TO i1 i2 l1 l2)
    (gz : IsZipHeld s.heap z TI TO T f) (gT : s.heap.get? T = some obT) (gI : IsPair s.heap TI (.ref i1) (.ref i2))
    (h1 : s.heap.IsTupleIter i1 l1 k1) (h2 : s.heap.IsTupleIter i2 l2 k2) (gl1 : s.heap.IsTuple l1 xs) (gl2 : s.heap.IsTuple l2 ys) (gx : xs[k1]? = some x) (gy : ys[k2]? = some y)
    (gQ : ∀ h', IsZipHeld h' z TI TO T true → h'.IsTupleIter i1 l1 (k1 + 1) → h'.IsTupleIter i2 l2 (k2 + 1) → IsPair h' s.heap.objs.size x y → h'.objs.size = s.heap.objs.size + 1 →
      (∀ c o, c ≠ z → c ≠ i1 → c ≠ i2 → s.heap.get? c = some o → h'.get? c = some o) → Q (some (.ref s.heap.objs.size)) { s with heap := h' }) :
    wpAny (model prog w) A (pyNext (.ref z)) Q E s := by
  have hTy : s.TypeIs (.ref z) "zip" := ⟨_, gz, rfl⟩
  unfold pyNext
  exact wpAny_bind (wpAny_attempt (wpAny_callSpecial?_slot (name := Str.ofString "__next__") hTy F.slot_zip_next
    (wpAny_call_entry F.slot_zip_next hTy F.entry_zip_next
      (item_held ap gz gT gI h1 h2 gl1 gl2 gx gy fun h' a1 a3 a4 a5 a6 a7 => wpAny_pure (gQ h' a1 a3 a4 a5 a6 a7)) (F.args_zip_next_1 _))))
theorem next_end_held {z TI TO T i1 i2 l1 l2 : Addr} {f : Bool} {obT : Obj} {k1 k2 : Nat} {xs ys : Array Value} {Q : Option Value → Shared → Prop} (gh : A.handled = none) (ap : ZipApart z TI TO i1 i2 l1 l2)
    (gz : IsZipHeld s.heap z TI TO T f) (gT : s.heap.get? T = some obT) (gI : IsPair s.heap TI (.ref i1) (.ref i2))
    (h1 : s.heap.IsTupleIter i1 l1 k1) (h2 : s.heap.IsTupleIter i2 l2 k2) (gl1 : s.heap.IsTuple l1 xs) (gl2 : s.heap.IsTuple l2 ys) (gend : xs[k1]? = none ∨ ys[k2]? = none)
    (gQ : ∀ h', (∀ c o, c ≠ z → c ≠ i1 → c ≠ i2 → s.heap.get? c = some o → h'.get? c = some o) → Q none { s with heap := h' }) : wpAny (model prog w) A (pyNext (.ref z)) Q E s := by
  have hTy : s.TypeIs (.ref z) "zip" := ⟨_, gz, rfl⟩
  unfold pyNext
  refine wpAny_bind (wpAny_attempt (wpAny_callSpecial?_slot (name := Str.ofString "__next__") hTy F.slot_zip_next
    (wpAny_call_entry F.slot_zip_next hTy F.entry_zip_next (end_held gh ap gz gT gI h1 h2 gl1 gl2 gend fun h' e gk he => ?_) (F.args_zip_next_1 _))))
  obtain ⟨o, ho, hc⟩ := he
  refine wpAny_bind (wpAny_isInstance (T := "StopIteration") (b := true) ⟨o, ho, hc⟩ isSubtype_stop ?_)
  exact wpAny_pure (gQ _ gk)
theorem zip_no_len : typeLookup (.type "zip") "__len__" = pure none := am_miss_of_fast (by decide +kernel)
theorem zip_no_hint : typeLookup (.type "zip") "__length_hint__" = pure none := am_miss_of_fast (by decide +kernel)
theorem zip_hint {a : Addr} {Q : Bool → Shared → Prop} (hT : s.TypeIs (.ref a) "zip") (h : Q true s) : wpAny (model prog w) A (Builtin.List.listLengthHint (.ref a)) Q E s := by
  unfold Builtin.List.listLengthHint
  refine wpAny_bind (wpAny_specialOf hT zip_no_len ?_)
  show wpAny _ _ (specialOf (Value.ref a) (Str.ofString "__length_hint__") >>= _) _ _ _
  refine wpAny_bind (wpAny_specialOf hT zip_no_hint ?_)
  exact wpAny_pure h
end
end DLZ
namespace L2
open PySem PySem.Spec PyProof.Rows
/-- the pairs of two tuples laid one after another, then the list -/
def zipW : List V → List V → List V → Hp → VK → Prop
  | u :: us, v :: vs, acc, H, Q => ∀ T, H T = none → zipW us vs (acc ++ [.ref T]) (upd H T (.tup [u, v])) Q
  | _, _, acc, H, Q => ∀ p, H p = none → Q (.ref p) (upd H p (.lst acc))
theorem upd_comm {H : Hp} {a b : Addr} {o u : HO} (h : a ≠ b) : upd (upd H a o) b u = upd (upd H b u) a o := by
  funext c
  by_cases h1 : c = a
  · subst h1; rw [upd_ne h, upd_same, upd_same]
  · by_cases h2 : c = b
    · subst h2; rw [upd_same, upd_ne h1, upd_same]
    · rw [upd_ne h2, upd_ne h1, upd_ne h1, upd_ne h2]
section
variable {X : Cx} {pins : List (Addr × Obj)} {σ : St} {A1 : Around} {z TI TO i1 i2 a b S : Addr}
/-- where a zip of two tuples stands -/
def ZSt (z TI TO i1 i2 a b : Addr) (i : Nat) (h : Heap) : Prop := IsPair h TI (.ref i1) (.ref i2) ∧ h.IsTupleIter i1 a i ∧ h.IsTupleIter i2 b i ∧
  (∃ x y, IsPair h TO x y) ∧ (IsZip h z TI TO .none ∨ ∃ T f oT, IsZipHeld h z TI TO T f ∧ h.get? T = some oT ∧ T ≠ z ∧ T ≠ i1 ∧ T ≠ i2)
theorem zip_loop {us vs : List V} {Q : VK} {Rs : Result → Shared → Prop} (hh : A1.handled = none) (D : ZipApart z TI TO i1 i2 a b) (hS : S ∉ [z, TI, TO, i1, i2])
    (hdone : ∀ acc H s, Inv X pins σ (upd H S (.lst acc)) s → Q (.ref S) (upd H S (.lst acc)) → Rs (.ok (.ret .none)) s) :
    ∀ (m i : Nat) (acc : List V) (H : Hp) (s : Shared), m = us.length - i → acc.length = i → i ≤ us.length → Inv X pins σ (upd H S (.lst acc)) s → H S = none → SqT X.K H a us → SqT X.K H b vs → (∀ c ∈ [z, TI, TO, i1, i2], FpOk X pins (upd H S (.lst acc)) c) → ZSt z TI TO i1 i2 a b i s.heap →
      zipW (us.drop i) (vs.drop i) acc H Q → codeAny (model X.prog X.w) A1 (.builtin "list.extend.loop" ⟨[.ref S, .ref z, .none], []⟩) Rs s := by
  intro m
  induction m with
  | zero =>
    intro i acc H s hm hacc hle I hn ha hb hf st hw
    refine codeAny_builtin PySem.F.entry_extend_loop ?_
    rw [Around.under_plainId PySem.F.plain_extend_loop _]
    show wpAny _ A1.in1 (pyNext (.ref z) >>= _) _ _ s
    have sS : Same H (upd H S (.lst acc)) := fun c o e => by rw [upd_ne (ne_of_none e hn)]; exact e
    have sT : ∀ {l : Addr} {xs : List V}, SqT X.K H l xs → SqT X.K (upd H S (.lst acc)) l xs := fun {l xs} h => by
      rcases h with (h | ⟨o, h⟩) | h
      · exact .inl (.inl (sS _ _ h))
      · exact .inl (.inr ⟨o, sS _ _ h⟩)
      · exact .inr h
    obtain ⟨its, rv, p1, _⟩ := I.tuple (sT ha)
    obtain ⟨its2, rv2, p2, _⟩ := I.tuple (sT hb)
    have hend : its.toArray[i]? = none ∨ its2.toArray[i]? = none := .inl (by have := rv.length; simp; omega)
    have hd : us.drop i = [] := List.drop_eq_nil_of_le (by omega)
    rw [hd] at hw
    have fin : ∀ h', (∀ c o, c ∉ [z, TI, TO, i1, i2] → s.heap.get? c = some o → h'.get? c = some o) → Rs (.ok (.ret .none)) { s with heap := h' } := fun h' k =>
      hdone acc H _ (I.turnedL (t' := s.toks) k hf) (by unfold zipW at hw; exact hw S hn)
    obtain ⟨hTI, h1, h2, ⟨x, y, hTO⟩, hz | ⟨T, f, oT, hz, hT, t1, t2, t3⟩⟩ := st
    · exact wpAny_bind (RZ.pyNext_zipT_end (A := A1.in1) hh D hz hTI hTO h1 h2 p1 p2 hend fun h' hk => wpAny_pure (fin h' fun c o hc e => hk c o (fun q => hc (by simp [q])) (fun q => hc (by simp [q])) (fun q => hc (by simp [q])) (fun q => hc (by simp [q])) e))
    · exact wpAny_bind (DLZ.next_end_held (A := A1.in1) hh D hz hT hTI h1 h2 p1 p2 hend fun h' hk => wpAny_pure (fin h' fun c o hc e => hk c o (fun q => hc (by simp [q])) (fun q => hc (by simp [q])) (fun q => hc (by simp [q])) e))
  | succ m ih =>
    intro i acc H s hm hacc hle I hn ha hb hf st hw
    refine codeAny_builtin PySem.F.entry_extend_loop ?_
    rw [Around.under_plainId PySem.F.plain_extend_loop _]
    show wpAny _ A1.in1 (pyNext (.ref z) >>= _) _ _ s
    have sS : Same H (upd H S (.lst acc)) := fun c o e => by rw [upd_ne (ne_of_none e hn)]; exact e
    have sT : ∀ {H H' : Hp} {l : Addr} {xs : List V}, Same H H' → SqT X.K H l xs → SqT X.K H' l xs := fun {H H' l xs} sS h => by
      rcases h with (h | ⟨o, h⟩) | h
      · exact .inl (.inl (sS _ _ h))
      · exact .inl (.inr ⟨o, sS _ _ h⟩)
      · exact .inr h
    obtain ⟨its, rv, p1, hl1⟩ := I.tuple (sT sS ha)
    obtain ⟨its2, rv2, p2, _⟩ := I.tuple (sT sS hb)
    have hi : i < us.length := by omega
    obtain ⟨u, hu, ru⟩ := rv.get (List.getElem?_eq_getElem hi)
    by_cases hj : i < vs.length
    · obtain ⟨v, hv, rv'⟩ := rv2.get (List.getElem?_eq_getElem hj)
      rw [List.drop_eq_getElem_cons hi, List.drop_eq_getElem_cons hj] at hw
      unfold zipW at hw
      have nf : H s.heap.objs.size = none := by
        have h1 := I.hok.fresh (Nat.le_refl s.heap.objs.size)
        by_cases e : s.heap.objs.size = S
        · rw [e]; exact hn
        · rw [upd_ne e] at h1; exact h1
      have hSlt : S < s.heap.objs.size := by
        obtain ⟨_, _, _, _, _, e⟩ := I.lstM (upd_same (H := H) (a := S) (o := .lst acc))
        exact Heap.lt_size e
      have hTS : s.heap.objs.size ≠ S := Nat.ne_of_gt hSlt
      have lt5 : ∀ c ∈ [z, TI, TO, i1, i2], c < s.heap.objs.size := by
        obtain ⟨hTI, h1, h2, ⟨x, y, hTO⟩, hzz⟩ := st
        obtain ⟨_, e1, _⟩ := h1
        obtain ⟨_, e2, _⟩ := h2
        intro c hc
        have e' : c = z ∨ c = TI ∨ c = TO ∨ c = i1 ∨ c = i2 := by simpa using hc
        rcases e' with q | q | q | q | q
        · rcases hzz with hz | ⟨T, f, oT, hz, _⟩
          · rw [q]; exact Heap.lt_size hz
          · rw [q]; exact Heap.lt_size hz
        · rw [q]; exact Heap.lt_size hTI
        · rw [q]; exact Heap.lt_size hTO
        · rw [q]; exact Heap.lt_size e1
        · rw [q]; exact Heap.lt_size e2
      -- what comes behind the pair
      have go : ∀ h', (∀ c o, c ∉ [z, TI, TO, i1, i2] → s.heap.get? c = some o → h'.get? c = some o) → IsPair h' s.heap.objs.size u v → ZSt z TI TO i1 i2 a b (i + 1) h' →
          wpAny (model X.prog X.w) A1.in1 (updateSeq S (·.push (Value.ref s.heap.objs.size)) >>= fun _ => again (.builtin "list.extend.loop" ⟨[.ref S, .ref z, .none], []⟩))
            (fun fin s' => match fin with | .done f => Rs (.ok f) s' | .again c' => c'.quiet = true ∧ codeAny (model X.prog X.w) A1 c' Rs s') (fun e s' => Rs (.error e) s') { s with heap := h' } := by
        intro h' hk hp st'
        have new : ObjOk X.prog X.w (upd (upd H S (.lst acc)) s.heap.objs.size (.tup [us[i], vs[i]])) h' s.heap.objs.size (.tup [us[i], vs[i]]) :=
          ⟨by show 2 ≤ sizeLine; decide, [u, v], .cons ru (.cons rv' .nil), ⟨_, hp, rfl, _, rfl⟩⟩
        have I1 := I.turnedNew (t' := s.toks) hk hf (Nat.le_refl _) new
        rw [upd_comm (Ne.symm hTS)] at I1
        obtain ⟨zz, jts, n, r, hl, e⟩ := I1.lstM upd_same
        have hacc' : acc.length < sizeLine := by omega
        refine wpAny_bind (wpAny_updateSeq e rfl (wpAny_pure ⟨plainId_quiet PySem.F.plain_extend_loop _, ?_⟩) (by rw [List.size_toArray]; omega) (by show (jts.toArray.push _).size ≤ sizeLine + 1; rw [Array.size_push, List.size_toArray]; omega))
        have I2 := I1.lset (f := (·.push (Value.ref s.heap.objs.size))) (its' := jts ++ [Value.ref s.heap.objs.size]) (ys := acc ++ [.ref s.heap.objs.size]) (t' := s.toks) upd_same e (by simp) (r.append (show Vals [V.ref s.heap.objs.size] [Value.ref s.heap.objs.size] from .cons rfl .nil)) (by rw [List.length_append, List.length_singleton]; omega)
        rw [upd_upd] at I2
        have sH : Same H (upd H s.heap.objs.size (.tup [us[i], vs[i]])) := fun c o e => by rw [upd_ne (ne_of_none e nf)]; exact e
        refine ih (i + 1) _ _ _ (by omega) (by simp [hacc]) (by omega) I2 (by rw [upd_ne (Ne.symm hTS)]; exact hn) (sT sH ha) (sT sH hb) (fun c hc => ?_) ?_ (hw _ nf)
        · obtain ⟨f1, f2⟩ := hf c hc
          refine ⟨?_, f2⟩
          have cS : c ≠ S := fun q => hS (by rw [← q]; exact hc)
          rw [upd_ne cS] at f1 ⊢
          rw [upd_ne (Nat.ne_of_lt (lt5 c hc))]; exact f1
        · have keep : ∀ c o, c ≠ S → h'.get? c = some o → (h'.update S (Obj.mapSeq (·.push (Value.ref s.heap.objs.size)))).get? c = some o := fun c o hc e => (Heap.get?_update_other _ _ (Ne.symm hc)).trans e
          have nS : ∀ c ∈ [z, TI, TO, i1, i2], c ≠ S := fun c hc q => hS (by rw [← q]; exact hc)
          obtain ⟨hTI, h1, h2, ⟨x, y, hTO⟩, hzz⟩ := st'
          refine ⟨keep _ _ (nS _ (by simp)) hTI, h1.at fun o e => keep _ o (nS _ (by simp)) e, h2.at fun o e => keep _ o (nS _ (by simp)) e, ⟨x, y, keep _ _ (nS _ (by simp)) hTO⟩, ?_⟩
          rcases hzz with hz | ⟨T, f, oT, hz, hT, t1, t2, t3⟩
          · exact .inl (keep _ _ (nS _ (by simp)) hz)
          · by_cases hTs : T = S
            · subst hTs
              exact .inr ⟨T, f, _, keep _ _ (nS _ (by simp)) hz, Heap.get?_update_self _ e (by rfl), t1, t2, t3⟩
            · exact .inr ⟨T, f, oT, keep _ _ (nS _ (by simp)) hz, keep _ _ hTs hT, t1, t2, t3⟩
      obtain ⟨hTI, h1, h2, ⟨x, y, hTO⟩, hz | ⟨T, f, oT, hz, hT, t1, t2, t3⟩⟩ := st
      · refine wpAny_bind (RZ.pyNext_zipT_item (A := A1.in1) D hz hTI hTO h1 h2 p1 p2 (x := u) (y := v) (by simpa using hu) (by simpa using hv) fun h' z' TO' h1' h2' hT hsz hk => ?_)
        have hk' : ∀ c o, c ∉ [z, TI, TO, i1, i2] → s.heap.get? c = some o → h'.get? c = some o := fun c o hc e => hk c o (fun q => hc (by simp [q])) (fun q => hc (by simp [q])) (fun q => hc (by simp [q])) (fun q => hc (by simp [q])) e
        exact go h' hk' hT ⟨hk _ _ D.TIz D.TITO D.TIi1 D.TIi2 hTI, h1', h2', ⟨_, _, TO'⟩, .inr ⟨_, false, _, z', hT, Nat.ne_of_gt (lt5 z (by simp)), Nat.ne_of_gt (lt5 i1 (by simp)), Nat.ne_of_gt (lt5 i2 (by simp))⟩⟩
      · refine wpAny_bind (DLZ.next_item_held (A := A1.in1) D hz hT hTI h1 h2 p1 p2 (x := u) (y := v) (by simpa using hu) (by simpa using hv) fun h' z' h1' h2' hP hsz hk => ?_)
        have hk' : ∀ c o, c ∉ [z, TI, TO, i1, i2] → s.heap.get? c = some o → h'.get? c = some o := fun c o hc e => hk c o (fun q => hc (by simp [q])) (fun q => hc (by simp [q])) (fun q => hc (by simp [q])) e
        exact go h' hk' hP ⟨hk _ _ D.TIz D.TIi1 D.TIi2 hTI, h1', h2', ⟨x, y, hk _ _ D.TOz D.TOi1 D.TOi2 hTO⟩, .inr ⟨T, true, _, z', hk _ _ t1 t2 t3 hT, t1, t2, t3⟩⟩
    · have hend : its.toArray[i]? = none ∨ its2.toArray[i]? = none := .inr (by have := rv2.length; simp; omega)
      have hd : vs.drop i = [] := List.drop_eq_nil_of_le (by omega)
      rw [hd] at hw
      have fin : ∀ h', (∀ c o, c ∉ [z, TI, TO, i1, i2] → s.heap.get? c = some o → h'.get? c = some o) → Rs (.ok (.ret .none)) { s with heap := h' } := fun h' k =>
        hdone acc H _ (I.turnedL (t' := s.toks) k hf) (by
          cases e : us.drop i with
          | nil => rw [e] at hw; unfold zipW at hw; exact hw S hn
          | cons _ _ => rw [e] at hw; unfold zipW at hw; exact hw S hn)
      obtain ⟨hTI, h1, h2, ⟨x, y, hTO⟩, hz | ⟨T, f, oT, hz, hT, t1, t2, t3⟩⟩ := st
      · exact wpAny_bind (RZ.pyNext_zipT_end (A := A1.in1) hh D hz hTI hTO h1 h2 p1 p2 hend fun h' hk => wpAny_pure (fin h' fun c o hc e => hk c o (fun q => hc (by simp [q])) (fun q => hc (by simp [q])) (fun q => hc (by simp [q])) (fun q => hc (by simp [q])) e))
      · exact wpAny_bind (DLZ.next_end_held (A := A1.in1) hh D hz hT hTI h1 h2 p1 p2 hend fun h' hk => wpAny_pure (fin h' fun c o hc e => hk c o (fun q => hc (by simp [q])) (fun q => hc (by simp [q])) (fun q => hc (by simp [q])) e))

/-- list(zip(..)) of two tuples -/
def tListZ (K : PySem.W.Frag) (ta : TA) : TE := fun σ H Q => ta σ H fun vs H1 => ∃ a b us ws, vs = [.ref a, .ref b] ∧ SqT K H1 a us ∧ SqT K H1 b ws ∧ zipW us ws [] H1 Q
theorem pe_listZ {e e2 : Expr} {ta : TA} {p pos p2 pos2 : Pos} (hc : X.calm = true) (hg : Gl X "zip") (hm : X.mg "zip" = none) (hg2 : Gl X "list") (hm2 : X.mg "list" = none) (ha : PA X [e, e2] ta)
    (hs : starEach [e, e2] X.env = (false, eval e X.env) :: starEach [e2] X.env := by rfl) (hpl : (backTo pos (starEach [e2] X.env)).any (·.1) = false := by rfl)
    (he : starEach [Expr.Call (.Name "zip" p) [e, e2] [] pos] X.env = (false, eval (.Call (.Name "zip" p) [e, e2] [] pos) X.env) :: starEach [] X.env := by rfl) :
    PE X (.Call (.Name "list" p2) [.Call (.Name "zip" p) [e, e2] [] pos] [] pos2) (tListZ X.K ta) := by
  refine ⟨fun pins s σ H Q I h => ?_⟩
  refine wpAny_Call_Name_kw (ld_blt I hg2 hm2 PyProof.Rows.boot_list ?_)
  refine PyProof.Rows.callWith_type1 ?_ he rfl
  rw [he]
  show wpAny _ _ (spliced ((false, eval (.Call (.Name "zip" p) [e, e2] [] pos) X.env) :: backTo pos2 (starEach [] X.env))) _ _ s
  refine Calls.spliced_cons ?_
  refine Call_ (ld_blt I hg hm PyProof.Rows.boot_zip (PyProof.Rows.callWith_type1 (thn (ha.run pos pins s σ H _ I h) fun vs0 s1 ⟨vs, H1, I1, r1, q1⟩ => ?_) hs hpl))
  obtain ⟨a, b, us, ws, ex, hqx, hqy, q⟩ := q1
  subst ex
  cases r1 with
  | cons r rr =>
    cases rr with
    | cons r' rr =>
      cases rr
      cases r
      cases r'
      obtain ⟨its, rv, p1, _⟩ := I1.tuple hqx
      obtain ⟨its2, rv2, p2, _⟩ := I1.tuple hqy
      obtain ⟨o1, ho1, _⟩ := id p1
      obtain ⟨o2, ho2, _⟩ := id p2
      refine RZ.call_zipT (show s1.heap.IsTuple a its.toArray from p1) (show s1.heap.IsTuple b its2.toArray from p2) fun h' hz hTI hTO h1 h2 hsz hk => ?_
      refine Calls.spliced_nil ?_
      have I2 : Inv X pins σ H1 { s1 with heap := h' } := I1.kept (t' := s1.toks) hk
      have fr2 : ∀ c, s1.heap.objs.size ≤ c → H1 c = none := fun c hle => I1.hok.fresh hle
      have inL : ∀ c ∈ [s1.heap.objs.size + 4, s1.heap.objs.size + 2, s1.heap.objs.size + 3, s1.heap.objs.size, s1.heap.objs.size + 1], s1.heap.objs.size ≤ c ∧ c < h'.objs.size := fun c hc => by
        have e' : c = s1.heap.objs.size + 4 ∨ c = s1.heap.objs.size + 2 ∨ c = s1.heap.objs.size + 3 ∨ c = s1.heap.objs.size ∨ c = s1.heap.objs.size + 1 := by simpa using hc
        have hsz : h'.objs.size = s1.heap.objs.size + 5 := hsz
        rcases e' with q | q | q | q | q <;> (rw [q]; omega)
      refine callType_codes (Q₁ := fun obj s₁ => obj = .ref h'.objs.size ∧ s₁ = { s1 with heap := h'.push { cls := .type "list", data := .seq #[] } }) PySem.F.called_list (PySem.F.typeCall_list_1 _) PySem.F.entry_list_init
        (code_list_new _ ⟨rfl, rfl⟩) fun obj s₁ h₁ => ?_
      obtain ⟨rfl, rfl⟩ := h₁
      have hS : (h'.push { cls := .type "list", data := .seq #[] }).get? h'.objs.size = some { cls := .type "list", data := .seq #[] } := Heap.get?_push_size _ rfl
      refine ⟨⟨_, hS, rfl⟩, PySem.F.args_list_init_2 _ _, ?_⟩
      have fr : H1 h'.objs.size = none := I2.hok.fresh (Nat.le_refl _)
      have I3 : Inv X pins σ (upd H1 h'.objs.size (.lst [])) { s1 with heap := h'.push { cls := .type "list", data := .seq #[] } } := I2.lnew (its := []) (t' := s1.toks) .nil (Nat.zero_le _)
      show wpAny _ _ (do let old ← Builtin.List.listItems (.ref h'.objs.size); Builtin.List.listUpdate (.ref h'.objs.size) (fun _ => #[]); letGo old.toList.reverse; Builtin.List.listExtendWith (.ref h'.objs.size) (.ref (s1.heap.objs.size + 4)) .none) _ _ _
      refine wpAny_bind ?_
      unfold Builtin.List.listItems
      refine wpAny_bind (wpAny_seqItems hS rfl (wpAny_pure ?_))
      show wpAny _ _ (updateSeq h'.objs.size (fun _ => #[]) >>= fun _ => letGo (#[] : Array Value).toList.reverse >>= fun _ => Builtin.List.listExtendWith (.ref h'.objs.size) (.ref (s1.heap.objs.size + 4)) .none) _ _ _
      refine wpAny_bind (wpAny_updateSeq hS rfl ?_)
      have I4 := I3.lset (f := fun _ => #[]) (its := []) (its' := []) (ys := []) (t' := s1.toks) upd_same hS rfl .nil (Nat.zero_le _)
      rw [upd_upd] at I4
      refine wpAny_bind (wpAny_letGo ?_)
      have keep : ∀ c o, c < h'.objs.size → h'.get? c = some o → ((h'.push { cls := .type "list", data := .seq #[] }).update h'.objs.size (Obj.mapSeq fun _ => #[])).get? c = some o := fun c o hc e =>
        (Heap.get?_update_other _ _ (Ne.symm (Nat.ne_of_lt hc))).trans (Heap.get?_push_of_some _ e)
      have D := PySem.W.ktu_apart s1.heap.objs.size a b (Heap.lt_size ho1) (Heap.lt_size ho2)
      have hz4 := keep _ _ (Heap.lt_size hz) hz
      have hTy : Shared.TypeIs { s1 with heap := (h'.push { cls := .type "list", data := .seq #[] }).update h'.objs.size (Obj.mapSeq fun _ => #[]) } (.ref (s1.heap.objs.size + 4)) "zip" := ⟨_, hz4, rfl⟩
      unfold Builtin.List.listExtendWith
      refine wpAny_bind (wpAny_typeOf hTy ?_)
      have g1 : Builtin.List.listSameRef (.ref h'.objs.size) (.ref (s1.heap.objs.size + 4)) = false := by
        have hne := Nat.ne_of_gt (inL (s1.heap.objs.size + 4) (by simp)).2
        show (h'.objs.size == s1.heap.objs.size + 4) = false
        exact beq_eq_false_iff_ne.mpr hne
      have g2 : (Value.type "zip" == Value.type "list") = false := by decide
      have g3 : (Value.type "zip" == Value.type "tuple") = false := by decide
      simp only [g1, g2, g3, Bool.or_false, Bool.false_eq_true, if_false]
      refine wpAny_bind (wpAny_pyIter_zip hz4 ?_)
      refine wpAny_bind (wpAny_holding (DLZ.zip_hint hTy ?_))
      show wpAny _ _ (rule "list.extend.makes-room" >>= fun _ => Builtin.List.listTouch (.ref h'.objs.size) >>= fun _ => again (.builtin "list.extend.loop" ⟨[.ref h'.objs.size, .ref (s1.heap.objs.size + 4), .none], []⟩)) _ _ _
      refine wpAny_bind (wpAny_rule ?_)
      refine wpAny_bind ?_
      obtain ⟨z5, its5, k5, r5, hl5, e5⟩ := I4.lstM upd_same
      cases r5
      show wpAny _ _ (updateSeq h'.objs.size (·.push .none) >>= fun _ => updateSeq h'.objs.size (·.pop)) _ _ _
      refine wpAny_bind (wpAny_updateSeq e5 rfl ?_)
      have I6 := I4.lset (f := (·.push Value.none)) (its' := [Value.none]) (ys := [.non]) (t' := s1.toks) upd_same e5 (by simp) (.cons rfl .nil) (by rw [List.length_singleton, sizeLine_eq]; decide)
      obtain ⟨z6, its6, k6, r6, hl6, e6⟩ := I6.lstM upd_same
      obtain ⟨u6, rfl, ru6⟩ := r6.one
      refine wpAny_updateSeq e6 rfl ?_ (by show 1 ≤ sizeLine; rw [sizeLine_eq]; decide) (by show 0 ≤ sizeLine + 1; exact Nat.zero_le _)
      have I7 := I6.lset (f := (·.pop)) (its := [u6]) (its' := []) (ys := []) (t' := s1.toks) upd_same e6 (by rfl) .nil (Nat.zero_le _)
      rw [upd_upd, upd_upd] at I7
      have nS : ∀ c ∈ [s1.heap.objs.size + 4, s1.heap.objs.size + 2, s1.heap.objs.size + 3, s1.heap.objs.size, s1.heap.objs.size + 1], c ≠ h'.objs.size := fun c hc => Nat.ne_of_lt (inL c hc).2
      have up : ∀ c ∈ [s1.heap.objs.size + 4, s1.heap.objs.size + 2, s1.heap.objs.size + 3, s1.heap.objs.size, s1.heap.objs.size + 1], ∀ o, h'.get? c = some o →
          ((((h'.push { cls := .type "list", data := .seq #[] }).update h'.objs.size (Obj.mapSeq fun _ => #[])).update h'.objs.size (Obj.mapSeq (·.push Value.none))).update h'.objs.size (Obj.mapSeq (·.pop))).get? c = some o := fun c hc o e =>
        (Heap.get?_update_other _ _ (Ne.symm (nS c hc))).trans ((Heap.get?_update_other _ _ (Ne.symm (nS c hc))).trans (keep c o (inL c hc).2 e))
      refine wpAny_pure ⟨plainId_quiet PySem.F.plain_extend_loop _, ?_⟩
      refine zip_loop (A1 := X.A.in1) (pins := pins) (σ := σ) (Q := Q) (us := us) (vs := ws) (I.ok.hd hc) D (fun hm => nS _ hm rfl)
        (fun acc H' s' I' hq => ⟨rfl, .ref h'.objs.size, _, I', rfl, hq⟩) us.length 0 [] H1 _ (by omega) rfl (Nat.zero_le _) I7 fr hqx hqy (fun c hc => ?_) ?_ (by simpa using q)
      · have := I1.fpOk (H' := upd H1 h'.objs.size (.lst [])) (inL c hc).1 (by rw [upd_ne (nS c hc)]; exact fr2 c (inL c hc).1)
        exact this
      · exact ⟨up _ (by simp) _ hTI, h1.at fun o e => up _ (by simp) o e, h2.at fun o e => up _ (by simp) o e, ⟨_, _, up _ (by simp) _ hTO⟩, .inl (up _ (by simp) _ hz)⟩
end
end L2
/-! a def that stands at the top, and its calls -/
namespace L2
open PySem PySem.Spec PyProof.Rows
/-- what a def is to those that call it -/
def Df (P : Program) (w : World) (K : PySem.W.Frag) (mg : Str → Option Value) (base : Heap) (x : Str) (st : Stmt) (ps : List Str) (k : Nat) (sp : Sp) : Prop :=
  ∃ (f : Addr) (fd : FuncData), FnOk P w K mg base (L2.CX P w) k f fd ps sp ∧ mg x = some (.ref f) ∧ PySem.W.keepIn K (.ref f) = true ∧ Binds K fd ps [] ∧ Fun K x x st f fd
section
variable {X : Cx} {W : WX} {x : Str} {st : Stmt} {ps : List Str} {k : Nat} {sp : Sp} {e : Expr} {es : List Expr} {t tk : TA} {p pos : Pos} {kws : List Keyword}
theorem pe_df (D : Df X.prog X.w X.K X.mg X.base x st ps k sp) (hr : Room k X.A) (hg : Gl X x) (tk : Takes X W) (ha : PA X (e :: es) t) (hdb : (x == ("__debug__" : Str)) = false := by decide)
    (he : starEach (e :: es) X.env = (false, eval e X.env) :: starEach es X.env := by rfl) (hpl : (backTo pos (starEach es X.env)).any (·.1) = false := by rfl) :
    PE X (.Call (.Name x p) (e :: es) [] pos) (tCallS sp (WE W) t) := by
  obtain ⟨f, fd, F, hm, hk, hb, _⟩ := D
  exact pe_callS F hr hg hm hk hb (fun σ => passAt tk σ) ha hdb he hpl
theorem pe_df0 (D : Df X.prog X.w X.K X.mg X.base x st ps k sp) (hr : Room k X.A) (hg : Gl X x) (tk : Takes X W) (hdb : (x == ("__debug__" : Str)) = false := by decide) :
    PE X (.Call (.Name x p) [] [] pos) (tCallS sp (WE W) tNil) := by
  obtain ⟨f, fd, F, hm, hk, hb, _⟩ := D
  refine ⟨fun pins s σ H Q I h => ?_⟩
  refine wpAny_Call_Name_kw (ld_glob I hg hm ?_ hdb)
  exact PySem.W.callWith_K0 I.kIn hk (run_fnS (us := []) (E := WE W) F hr hb (passAt tk σ) I .nil h)
/-- the arguments in the parameters' order -/
def pm {α : Type} (p : List Nat) (xs : List α) : List α := p.filterMap (xs[·]?)
theorem Vals.pm {vs : List V} {us : List Value} (r : Vals vs us) : ∀ p : List Nat, Vals (L2.pm p vs) (L2.pm p us)
  | [] => .nil
  | i :: p => by
    have ih := Vals.pm r p
    unfold L2.pm at ih ⊢
    rw [List.filterMap_cons, List.filterMap_cons]
    cases e : vs[i]? with
    | none =>
      have h1 : us[i]? = none := by
        have := List.getElem?_eq_none_iff.mp e
        exact List.getElem?_eq_none (by rw [← r.length]; exact this)
      rw [h1]; exact ih
    | some v =>
      obtain ⟨u, h1, h2⟩ := r.get e
      rw [h1]
      exact .cons h2 ih
def tCallKS (sp : Sp) (q : List Nat) (n m : Nat) (E : St → XK) (t tk : TA) : TE := fun σ H Q => t σ H fun vs H1 => tk σ H1 fun zs H2 => vs.length = n ∧ zs.length = m ∧ sp (pm q (vs ++ zs)) H2 Q (E σ)
def KwB (x : Str) (st : Stmt) (ps ks : List Str) (n : Nat) (q : List Nat) : Prop := ∀ (kV doc pm : Value) (an : Option Addr) (cdv ct : Value) (us ws : List Value), us.length = n → ws.length = ks.length →
  bindArgs (PySem.W.fnOf x x (defArgs st) (defBody st) (defScope st) .none kV doc pm an cdv ct) ⟨us, ks.zip ws⟩ = pure (ps.zip (L2.pm q (us ++ ws)))
theorem run_kw {ks : List Str} {q : List Nat} {n : Nat} {f : Addr} {fd : FuncData} {pins : List (Addr × Obj)} {σ : St} {H : Hp} {s : Shared} {Q : VK} {us ws : List Value} {vs zs : List V} (F : FnOk X.prog X.w X.K X.mg X.base (L2.CX X.prog X.w) k f fd ps sp) (FF : Fun X.K x x st f fd) (hb : KwB x st ps ks n q) (hr : Room k X.A) (tk : Takes X W)
    (hn : us.length = n) (hk : ws.length = ks.length) (I : Inv X pins σ H s) (r : Vals vs us) (rz : Vals zs ws) (h : sp (pm q (vs ++ zs)) H Q (WE W σ)) : wpAny (model X.prog X.w) X.A (call (.ref f) us (ks.zip ws)) (EP X pins σ Q) X.xe s := by
  obtain ⟨oc, od, kV, doc, pm0, an, cdv, ct, osl, rfl, lk, hcd⟩ := FF.ex
  have r2 := (r.append rz).pm q
  refine wpAny_call (codeAny_mono (F.run X.A X.stack s H ⟨us, ks.zip ws⟩ (pm q (us ++ ws)) (pm q (vs ++ zs)) Q (WE W σ) hr I.env0 (.of_eq (hb kV doc pm0 an cdv ct us ws hn hk)) r2 h) fun r s' hq => ?_)
  cases r with
  | error e => exact passAt tk σ pins H s e s' I hq
  | ok fl =>
    cases fl with
    | ret u => exact I.after hq
    | next => exact False.elim hq
    | brk => exact False.elim hq
    | cont => exact False.elim hq
theorem pe_kw {ks : List Str} {q : List Nat} {n : Nat} (D : Df X.prog X.w X.K X.mg X.base x st ps k sp) (hb : KwB x st ps ks n q) (hr : Room k X.A) (hg : Gl X x) (tk : Takes X W) (ha : PA X (e :: es) t) (hkw : PK X kws tk')
    (hall : (backToKw pos (keywordEach kws X.env)).all (·.1.isSome) = true := by rfl) (hks : (backToKw pos (keywordEach kws X.env)).filterMap (·.1) = ks := by rfl) (hdb : (x == ("__debug__" : Str)) = false := by decide)
    (he : starEach (e :: es) X.env = (false, eval e X.env) :: starEach es X.env := by rfl) (hpl : ((backTo pos (starEach (e :: es) X.env)).any (·.1) || (backToKw pos (keywordEach kws X.env)).any (·.1.isNone)) = false := by rfl) :
    PE X (.Call (.Name x p) (e :: es) kws pos) (tCallKS sp q n ks.length (WE W) t tk') := by
  obtain ⟨f, fd, F, hm, hk, _, FF⟩ := D
  refine ⟨fun pins s σ H Q I h => ?_⟩
  refine wpAny_Call_Name_kw (ld_glob I hg hm ?_ hdb)
  refine PySem.W.callWith_KW (h₀ := X.base) I.ok.mod.kin hk hall (thn (ha.run pos pins s σ H _ I h) fun us s1 ⟨vs, H1, I1, r, q1⟩ => ?_) hpl he
  refine thn (hkw.run pos pins s1 σ H1 _ I1 q1) fun ws s2 ⟨zs, H2, I2, rz, l1, l2, q2⟩ => ⟨I2.kIn, ?_⟩
  rw [hks]
  exact run_kw (us := us) (vs := vs) F FF hb hr tk (by rw [← r.length]; exact l1) (by rw [← rz.length]; exact l2) I2 r rz q2
theorem pe_kw0 {ks : List Str} {q : List Nat} (D : Df X.prog X.w X.K X.mg X.base x st ps k sp) (hb : KwB x st ps ks 0 q) (hr : Room k X.A) (hg : Gl X x) (tk : Takes X W) (hkw : PK X kws tk')
    (hall : (backToKw pos (keywordEach kws X.env)).all (·.1.isSome) = true := by rfl) (hks : (backToKw pos (keywordEach kws X.env)).filterMap (·.1) = ks := by rfl) (hdb : (x == ("__debug__" : Str)) = false := by decide)
    (hpl : ((backTo pos (starEach [] X.env)).any (·.1) || (backToKw pos (keywordEach kws X.env)).any (·.1.isNone)) = false := by rfl) :
    PE X (.Call (.Name x p) [] kws pos) (tCallKS sp q 0 ks.length (WE W) tNil tk') := by
  obtain ⟨f, fd, F, hm, hk, _, FF⟩ := D
  refine ⟨fun pins s σ H Q I h => ?_⟩
  refine wpAny_Call_Name_kw (ld_glob I hg hm ?_ hdb)
  refine PySem.W.callWith_KW0 (h₀ := X.base) I.ok.mod.kin hk hall ?_ hpl
  refine thn (hkw.run pos pins s σ H _ I h) fun ws s2 ⟨zs, H2, I2, rz, l1, l2, q2⟩ => ⟨I2.kIn, ?_⟩
  rw [hks]
  exact run_kw (us := []) (vs := []) F FF hb hr tk rfl (by rw [← rz.length]; exact l2) I2 .nil rz q2
end
theorem Room.u65 {k : Nat} {A : Around} (r : Room k A) : A.units + 65 < cLine := by have := r.un; omega
theorem Room.u64 {k : Nat} {A : Around} (r : Room k A) : A.units + 64 < cLine := by have := r.un; omega
theorem Room.u1 {k : Nat} {A : Around} (r : Room k A) : A.units + 1 < cLine := by have := r.un; omega
section
variable {X : Cx} {tg : Expr}
/-- for x in a list or a tuple -/
def iAny (K : PySem.W.Frag) (tl : TE) : TI := fun σ H R => tl σ H fun x H1 => (∃ a, x = .ref a ∧ (∃ xs, SqL K H1 a xs) ∧ R (Itl K a) H1) ∨ (∃ a, x = .ref a ∧ (∃ xs, SqT K H1 a xs) ∧ R (Itt K a) H1)
theorem pi_any {l : Expr} {tl : TE} (hl : PE X l tl) : PI X tg l (iAny X.K tl) := by
  refine ⟨fun pins s σ H R I h => ?_⟩
  refine thn (hl.run pins s σ H _ I h) fun v s1 ⟨x, H1, I1, r1, q1⟩ => ?_
  rcases q1 with ⟨a, e, ⟨xs, hq⟩, q⟩ | ⟨a, e, ⟨xs, hq⟩, q⟩
  · subst e
    cases r1
    obtain ⟨its, rv, p, hz⟩ := I1.list hq
    refine wpAny_pyIter_list p.isList ?_
    refine ⟨s1.heap.objs.size, [s1.heap.objs.size], _, _, H1, rfl, I1.kept (t' := s1.toks) fun b o e => Heap.get?_push_of_some _ e, turn_list a _, ⟨_, Heap.get?_push_size _ rfl, rfl, rfl⟩, fun b hb => ?_, q⟩
    have e : b = s1.heap.objs.size := by simpa using hb
    subst e
    exact I1.fpOk (Nat.le_refl _) (I1.hok.fresh (Nat.le_refl _))
  · subst e
    cases r1
    obtain ⟨its, rv, p, hz⟩ := I1.tuple hq
    refine wpAny_pyIter_tuple (show s1.heap.IsTuple a its.toArray from p) ?_
    refine ⟨s1.heap.objs.size, [s1.heap.objs.size], _, _, H1, rfl, I1.kept (t' := s1.toks) fun b o e => Heap.get?_push_of_some _ e, turn_tuple a _, ⟨_, Heap.get?_push_size _ rfl, rfl, rfl⟩, fun b hb => ?_, q⟩
    have e : b = s1.heap.objs.size := by simpa using hb
    subst e
    exact I1.fpOk (Nat.le_refl _) (I1.hok.fresh (Nat.le_refl _))
end
end L2
namespace DL
open PySem L2
section
variable {K : PySem.W.Frag} {mg : Mg} {W : Wc} {C : Cf} {Γ Γ' : List Sh} {s sr : Sh} {te ta tb : TE} {tt : TT} {fa fe : ER D} {ft : ER Bool}
/-! ### own things move -/
def eMove (i : Nat) : ER D := fun ρ => match ρ[i]? with
  | some (some d) => .ok d (ρ.set i none)
  | _ => .stuck
theorem eok_move {i : Nat} {l : Sh} (hs : Γ[i]? = some l) : EOk K mg W Γ (tVar i) l (eMove i) := by
  intro B R H σ ρ Q pw O hl
  unfold eMove at hl
  cases e0 : ρ[i]? with
  | none => rw [e0] at hl; exact hl.elim
  | some o =>
    cases o with
    | none => rw [e0] at hl; exact hl.elim
    | some d =>
      rw [e0] at hl
      obtain ⟨F, Wf⟩ := O.own
      obtain ⟨v, h1, h2⟩ := Wf.at_ i d l e0 hs
      refine ⟨v, h1, hl B H v (Same.refl _) ?_⟩
      refine ⟨O.sb, O.sr, by simp [O.lσ], by simp [O.lρ], O.br, fun j => match j with | 0 => F i | j + 1 => if j = i then [] else F j, ⟨fun j e s' h hs' => ?_, fun j p hp => ?_, fun j => ?_, fun j k p h3 h4 => ?_⟩⟩
      · cases j with
        | zero => simp at h hs'; subst h hs'; exact ⟨v, rfl, h2⟩
        | succ j =>
          have h : (ρ.set i none)[j]? = some (some e) := by simpa using h
          by_cases hj : j = i
          · subst hj
            by_cases hlt : j < ρ.length
            · rw [List.getElem?_set_self hlt] at h; cases h
            · rw [List.getElem?_eq_none (by simpa using hlt)] at h; cases h
          · rw [List.getElem?_set_ne (Ne.symm hj)] at h
            simp only [hj, if_false]
            exact Wf.at_ j e s' h (by simpa using hs')
      · cases j with
        | zero => exact Wf.no i p hp
        | succ j =>
          by_cases hj : j = i
          · simp [hj] at hp
          · simp only [hj, if_false] at hp; exact Wf.no j p hp
      · cases j with
        | zero => exact Wf.nd i
        | succ j =>
          by_cases hj : j = i
          · simp [hj]
          · simp only [hj, if_false]; exact Wf.nd j
      · cases j with
        | zero =>
          cases k with
          | zero => rfl
          | succ k =>
            by_cases hk : k = i
            · simp [hk] at h4
            · simp only [hk, if_false] at h4; exact absurd (Wf.dj _ _ p h4 h3) hk
        | succ j =>
          by_cases hj : j = i
          · simp [hj] at h3
          · simp only [hj, if_false] at h3
            cases k with
            | zero => exact absurd (Wf.dj _ _ p h3 h4) hj
            | succ k =>
              by_cases hk : k = i
              · simp [hk] at h4
              · simp only [hk, if_false] at h4
                rw [Wf.dj _ _ p h3 h4]
/-! ### assignments that keep the shapes -/
theorem set_same {i : Nat} (hs : Γ[i]? = some s) : Γ.set i s = Γ := by
  refine List.ext_getElem? fun j => ?_
  by_cases h : i = j
  · subst h
    rw [List.getElem?_set_self (List.getElem?_eq_some_iff.mp hs).1, hs]
  · rw [List.getElem?_set_ne h]
theorem sok_setK {i : Nat} (ag : C.ag Γ) (hp : i ∉ C.pn) (hs : Γ[i]? = some s) (h : EOk K mg C.W Γ te s fe) : SOk K mg C Γ Γ (tAsg te (gName i)) (sSet i fe) := by
  have := sok_set ag hp h
  rwa [set_same hs] at this
theorem gok_nameK {i : Nat} (hs : Γ[i]? = some .pu) : GOk (K := K) Γ Γ [i] (gName i) (gN i) := by
  have := gok_name (K := K) (Γ := Γ) (i := i)
  rwa [set_same hs] at this
theorem sok_parK {i j : Nat} {ta : TA} {fa : ER (List D)} (ag : C.ag Γ) (hi : i ∉ C.pn) (hj : j ∉ C.pn) (hs : Γ[i]? = some .pu) (hs2 : Γ[j]? = some .pu) (h : AOk K mg C.W Γ ta fa) : SOk K mg C Γ Γ (tPar i j ta) (sPar i j fa) := by
  have := sok_par ag hi hj h
  rwa [set_same hs, set_same hs2] at this
theorem sok_augK {i : Nat} {r : R2} {g : D → D → Option D} (ag : C.ag Γ) (hi : i ∉ C.pn) (hs : Γ[i]? = some .pu) (hr : R2Ok K r .pu g) (h : EOk K mg C.W Γ te .pu fe) : SOk K mg C Γ Γ (tAug i te r) (sAug g i fe) := by
  have := sok_aug ag hi hs hr h
  rwa [set_same hs] at this
end
end DL
namespace DL
open PySem L2
section
variable {K : PySem.W.Frag} {mg : Mg} {W : Wc} {C : Cf} {Γ Γ' : List Sh} {s sr : Sh} {te ta tb : TE} {tt : TT} {fa fe : ER D} {ft : ER Bool}
/-! ### for over a list or a tuple -/
def iA (f : ER D) : ER (List D) := fun ρ => (f ρ).bind fun d ρ => match d with
  | .lst ds => .ok ds ρ
  | .tup ds => .ok ds ρ
  | .scr ns => .ok (ns.map .int) ρ
  | _ => .stuck
theorem iok_any {te : TE} {f : ER D} (h : EOk K mg W Γ te .pu f) : IOk K mg W Γ (iAny K te) (iA f) := by
  intro B R H σ ρ Q pw O hl
  unfold iA at hl
  refine h B R H σ ρ _ pw O ?_
  cases e : f ρ with
  | stuck => rw [e] at hl; exact hl
  | exc x ρ1 => rw [e] at hl; exact hl
  | ok d ρ1 =>
    rw [e] at hl
    intro B1 H1 v s1 O1
    have rv := O1.top
    simp only [Res.bind] at hl
    split at hl
    · obtain ⟨a, vs, rfl, ha, ra⟩ := repL rv
      exact .inl ⟨a, rfl, ⟨vs, SqL.of (O1.sb _ _ ha)⟩, hl B1 H1 _ s1 O1.pop (walk_list (SqL.of ha) ra)⟩
    · obtain ⟨a, vs, rfl, ha, ra⟩ := repT rv
      exact .inr ⟨a, rfl, ⟨vs, sameT O1.sb ha⟩, hl B1 H1 _ s1 O1.pop (walk_tup ha ra)⟩
    · obtain ⟨a, rfl, ha⟩ := repX rv
      exact .inl ⟨a, rfl, ⟨_, O1.sb.seq ha⟩, hl B1 H1 _ s1 O1.pop (walk_list ha (reps_int _))⟩
    · exact hl.elim
/-! ### list(zip(..)) -/
def zipD : List D → List D → List D
  | a :: as, b :: bs => .tup [a, b] :: zipD as bs
  | _, _ => []
theorem zipW_ok {R : Hp} {σ : L2.St} {ρ : Env} {Q : VK} : ∀ {us ws acc : List V} {xs ys as : List D} {B H : Hp}, Reps K B us xs → Reps K B ws ys → Reps K B acc as → Ok K Γ B R H σ ρ →
    (∀ B' H' w, Same B B' → Ok K (.ls :: Γ) B' R H' (some w :: σ) (some (.lst (as ++ zipD xs ys)) :: ρ) → Q w H') → zipW us ws acc H Q
  | [], _, acc, xs, ys, as, B, H, ru, rw, ra, O, k => by
    cases ru
    unfold zipW
    refine fun p hp => k B _ _ (Same.refl _) ?_
    have e : zipD [] ys = [] := by unfold zipD; rfl
    rw [e, List.append_nil]
    exact O.pushN hp ra
  | u :: us, [], acc, xs, ys, as, B, H, ru, rw, ra, O, k => by
    cases rw
    unfold zipW
    refine fun p hp => k B _ _ (Same.refl _) ?_
    have e : zipD xs [] = [] := by cases xs <;> (unfold zipD; rfl)
    rw [e, List.append_nil]
    exact O.pushN hp ra
  | u :: us, w :: ws, acc, xs, ys, as, B, H, ru, rw', ra, O, k => by
    cases ru with
    | cons u1 u2 =>
      cases rw' with
      | cons w1 w2 =>
        rename_i x xs y ys
        unfold zipW
        intro T hT
        obtain ⟨B', s', O'⟩ := O.layTup hT (.cons u1 (.cons w1 .nil))
        have rt : Rep K B' (.ref T) (.tup [x, y]) := O'.top
        refine zipW_ok (as := as ++ [.tup [x, y]]) (u2.mono s') (w2.mono s') ((ra.mono s').snoc rt) O'.pop fun B2 H2 v s2 O2 => k B2 H2 v (s'.trans s2) ?_
        have e : zipD (x :: xs) (y :: ys) = .tup [x, y] :: zipD xs ys := by rfl
        rw [e]
        rw [List.append_assoc] at O2
        exact O2
def eListZ (f : ER (List D)) : ER D := fun ρ => (f ρ).bind fun ds ρ => match ds with
  | [.tup xs, .tup ys] => .ok (.lst (zipD xs ys)) ρ
  | _ => .stuck
theorem eok_listZ {ta : TA} {f : ER (List D)} (ha : AOk K mg W Γ ta f) : EOk K mg W Γ (tListZ K ta) .ls (eListZ f) := by
  intro B R H σ ρ Q pw O hl
  unfold eListZ at hl
  refine ha B R H σ ρ _ pw O ?_
  cases e : f ρ with
  | stuck => rw [e] at hl; exact hl
  | exc x ρ1 => rw [e] at hl; exact hl
  | ok ds ρ1 =>
    rw [e] at hl
    intro B1 H1 vs s1 O1 r1
    simp only [Res.bind] at hl
    split at hl
    · obtain ⟨v, u, rfl, rv, ru⟩ := reps2 r1
      obtain ⟨a, us, rfl, h1, h2⟩ := repT rv
      obtain ⟨b, ws, rfl, h3, h4⟩ := repT ru
      exact ⟨a, b, us, ws, rfl, sameT O1.sb h1, sameT O1.sb h3, zipW_ok h2 h4 .nil O1 fun B' H' w s' O' => hl B' H' w (s1.trans s') O'⟩
    · exact hl.elim
/-! ### calls with keywords -/
def aKw (q : List Nat) (n m : Nat) (fa fk : ER (List D)) : ER (List D) := fun ρ => (fa ρ).bind fun ds ρ => (fk ρ).bind fun es ρ => if ds.length = n ∧ es.length = m then .ok (pm q (ds ++ es)) ρ else .stuck
theorem Reps.pm {B : Hp} {vs : List V} {ds : List D} (r : Reps K B vs ds) : ∀ q : List Nat, Reps K B (L2.pm q vs) (L2.pm q ds)
  | [] => .nil
  | i :: q => by
    have ih := Reps.pm r q
    unfold L2.pm at ih ⊢
    rw [List.filterMap_cons, List.filterMap_cons]
    cases e : ds[i]? with
    | none =>
      have h1 : vs[i]? = none := by
        have := List.getElem?_eq_none_iff.mp e
        exact List.getElem?_eq_none (by rw [r.length]; exact this)
      rw [h1]; exact ih
    | some d =>
      obtain ⟨v, h1, h2⟩ := r.get e
      rw [h1]
      exact .cons h2 ih
theorem aok_kw {q : List Nat} {n m : Nat} {t tk : TA} {fa fk : ER (List D)} (ha : AOk K mg W Γ t fa) (hk : AOk K mg W Γ tk fk) : AOk K mg W Γ (fun σ H Q => t σ H fun vs H1 => tk σ H1 fun zs H2 => vs.length = n ∧ zs.length = m ∧ Q (L2.pm q (vs ++ zs)) H2) (aKw q n m fa fk) := by
  intro B R H σ ρ Q pw O hl
  unfold aKw at hl
  refine ha B R H σ ρ _ pw O ?_
  cases e : fa ρ with
  | stuck => rw [e] at hl; exact hl
  | exc x ρ1 => rw [e] at hl; exact hl
  | ok ds ρ1 =>
    rw [e] at hl
    simp only [Res.bind] at hl
    intro B1 H1 vs s1 O1 r1
    refine hk B1 R H1 σ ρ1 _ pw O1 ?_
    cases e2 : fk ρ1 with
    | stuck => rw [e2] at hl; exact hl
    | exc x ρ2 => rw [e2] at hl; exact XLand.mono hl s1
    | ok es ρ2 =>
      rw [e2] at hl
      simp only at hl
      intro B2 H2 zs s2 O2 r2
      by_cases hc : ds.length = n ∧ es.length = m
      · rw [if_pos hc] at hl
        refine ⟨by rw [r1.length]; exact hc.1, by rw [r2.length]; exact hc.2, hl B2 H2 _ (s1.trans s2) O2 ?_⟩
        exact ((r1.mono s2).append r2).pm q
      · rw [if_neg hc] at hl; exact hl.elim
theorem eok_callK {f : Den} {n m N : Nat} {q : List Nat} {t tk : TA} {fa fk : ER (List D)} (ha : AOk K mg W Γ t fa) (hk : AOk K mg W Γ tk fk) :
    EOk K mg W Γ (tCallKS (spD K mg (List.replicate N .pu) sr f) q n m (WE W.W) t tk) sr (eCall N f (aKw q n m fa fk)) :=
  eok_call (W := W) (n := N) (f := f) (aok_kw (q := q) (n := n) (m := m) ha hk)
/-! ### own lists: slices, list(x), tuple(x) -/
def eSlO (i : Nat) (fl fh : ER (Option Int)) : ER D := fun ρ => match ρ[i]? with
  | some (some _) => (fl ρ).bind fun lo ρ => (fh ρ).bind fun hi ρ => match ρ[i]? with
    | some (some (.lst ds)) => .ok (.lst (cutD ds lo hi)) ρ
    | _ => .stuck
  | _ => .stuck
theorem eok_slO {i : Nat} {tl th : TO} {fl fh : ER (Option Int)} (hs : Γ[i]? = some .ls) (hl : POk K mg W Γ tl fl) (hh : POk K mg W Γ th fh) : EOk K mg W Γ (tSl (rSlL K) (tVar i) tl th) .ls (eSlO i fl fh) := by
  intro B R H σ ρ Q pw O hd
  unfold eSlO at hd
  cases e0 : ρ[i]? with
  | none => rw [e0] at hd; exact hd.elim
  | some o =>
    cases o with
    | none => rw [e0] at hd; exact hd.elim
    | some d0 =>
      rw [e0] at hd
      simp only at hd
      obtain ⟨v0, hv0⟩ := some_get O e0 hs
      refine ⟨v0, hv0, hl B R H σ ρ _ pw O ?_⟩
      cases e1 : fl ρ with
      | stuck => rw [e1] at hd; exact hd
      | exc x ρ2 => rw [e1] at hd; exact hd
      | ok lo ρ1 =>
        rw [e1] at hd
        simp only [Res.bind] at hd
        intro B1 H1 s1 O1
        refine hh B1 R H1 σ ρ1 _ pw O1 ?_
        cases e2 : fh ρ1 with
        | stuck => rw [e2] at hd; exact hd
        | exc x ρ2 => rw [e2] at hd; exact XLand.mono hd s1
        | ok hi ρ2 =>
          rw [e2] at hd
          simp only at hd
          intro B2 H2 s2 O2
          split at hd
          · rename_i ds he
            obtain ⟨p, vs, ds', q1, q2, q3, q4⟩ := O2.getLs he hs
            cases q1
            rw [hv0] at q2; cases q2
            exact ⟨p, vs, rfl, SqL.of q3, fun a ha => hd B2 _ _ (s1.trans s2) (O2.pushN ha (q4.cut lo hi))⟩
          · exact hd.elim
def eCpO (i : Nat) : ER D := fun ρ => match ρ[i]? with
  | some (some (.lst ds)) => .ok (.lst ds) ρ
  | _ => .stuck
def eTpO (i : Nat) : ER D := fun ρ => match ρ[i]? with
  | some (some (.lst ds)) => .ok (.tup ds) ρ
  | _ => .stuck
theorem eok_listO {i : Nat} (hs : Γ[i]? = some .ls) : EOk K mg W Γ (tCB (rList K) (tCons (tVar i) tNil)) .ls (eCpO i) := by
  intro B R H σ ρ Q pw O hd
  unfold eCpO at hd
  split at hd
  · rename_i ds he
    obtain ⟨p, vs, ds', q1, q2, q3, q4⟩ := O.getLs he hs
    cases q1
    exact ⟨_, q2, p, vs, rfl, .inl (SqL.of q3), fun l hl => hd B _ _ (Same.refl _) (O.pushN hl q4)⟩
  · exact hd.elim
theorem eok_tupleO {i : Nat} (hs : Γ[i]? = some .ls) : EOk K mg W Γ (tCB (rTuple K) (tCons (tVar i) tNil)) .pu (eTpO i) := by
  intro B R H σ ρ Q pw O hd
  unfold eTpO at hd
  split at hd
  · rename_i ds he
    obtain ⟨p, vs, ds', q1, q2, q3, q4⟩ := O.getLs he hs
    cases q1
    refine ⟨_, q2, p, vs, rfl, .inl ⟨SqL.of q3, fun l hl => ?_⟩⟩
    obtain ⟨B', s', O'⟩ := O.layTup hl q4
    exact hd B' _ _ s' O'
  · exact hd.elim
/-! ### the head: a law's own promise -/
theorem law_ok {f : Den} {H : Hp} {a : Addr} {ns : List Int} (hS : SqL K H a (ns.map V.int)) (hO : Only H) (h : ∃ outs, f [.scr ns] = .ret (.bl true) outs) : spD K mg [.pu] .pu f [.ref a] H (fun v _ => v = .bl true) fun _ _ _ => False := by
  obtain ⟨outs, h⟩ := h
  refine ⟨H, fun _ => none, [.scr ns], ?_, ?_⟩
  · exact ⟨Same.refl _, fun a o e => (by cases e), rfl, rfl, fun p o e => (by cases e), fun _ => [], ⟨fun i d s h hs => by
      cases i with
      | zero => simp at h hs; subst h hs; exact ⟨.ref a, rfl, .scr hS, rfl⟩
      | succ i => simp at h, fun i p hp => absurd hp (by simp), fun _ => List.nodup_nil, fun i j p hp => absurd hp (by simp)⟩⟩
  · rw [h]
    intro B' H' v sb O
    exact repB O.top
end
end DL
namespace L2
open PySem PySem.Spec PyProof.Rows
def tTryAs (K : PySem.W.Frag) (c : Value) (i : Nat) (tb : WX → TS) (ts : Addr → Value → Option Addr → TS) (W : WX) : TS := fun D σ H => tb (wAs K c i ts W D) D σ H
def tTryO (K : PySem.W.Frag) (c : Value) (tb : WX → TS) (ts : Addr → Value → Option Addr → TS) (W : WX) : TS := fun D σ H => tb (wOnly K c ts W D) D σ H
section
variable {X : Cx} {x n : Str} {c : Value} {i : Nat} {np pos pos' : Pos} {body suite : List Stmt} {b₀ : Stmt} {tb : WX → TS} {ts : Addr → Value → Option Addr → TS} {Wout : WX}
theorem ps_tryA (hs : X.stack = X.env :: X.outer) (hf : X.env.frame = some X.env.locals) (hN : X.N.Nodup) (hi : X.N[i]? = some n) (hln : X.env.kindOf n = some .local) (hc : Names X x c) (tk : Takes X Wout)
    (hb : ∀ (W : WX) (pn : List (Addr × Obj)) (xe : Value → Shared → Prop), Takes (X.tr pn xe) W → PassesOwn (model X.prog X.w) X.A X.env xe → PSs (X.tr pn xe) body (tb W))
    (hsu : ∀ (a : Addr) (oe : Obj) (cls : Value) (d : Option Addr) (pn : List (Addr × Obj)), Zc cls d oe → (∃ vs, oe.data = .fields vs) → PSs (X.suite a ((a, oe) :: pn)) (b₀ :: suite) (ts a cls d)) :
    PS X (.Try body [.ExceptHandler (some (.Name x np)) (some n) (b₀ :: suite) pos'] [] [] pos) (tTryAs X.K c i tb ts Wout) := ps_try_as hs hf hN hi hln hc tk hb hsu
end
end L2
namespace DL
open PySem L2
theorem np {i : Nat} {l : List Nat} (h : l.elem i = false) : i ∉ l := fun q => by
  rw [List.elem_eq_contains] at h
  have := List.contains_iff_mem.mpr q
  rw [h] at this; cases this
theorem np2 {tv l : List Nat} (h : tv.all (fun i => !l.elem i) = true) : ∀ i ∈ tv, i ∉ l := fun i hi => np (by
  have := List.all_eq_true.mp h i hi
  simpa using this)
section
variable {K : PySem.W.Frag} {mg : Mg}
/-- what a clause says of errors, by their classes -/
def CsOk (K : PySem.W.Frag) (mg : Mg) (c : Value) : List (Nat × Bool) → Prop
  | [] => True
  | p :: r => (∃ C, mg (clsN p.1) = some (.ref C) ∧ PySem.W.exmOne K (.ref C) c = some p.2) ∧ CsOk K mg c r
theorem cs_of {c : Value} : ∀ {cs : List (Nat × Bool)}, CsOk K mg c cs → ∀ k b, cs.lookup k = some b → ∀ C0, mg (clsN k) = some (.ref C0) → PySem.W.exmOne K (.ref C0) c = some b
  | [], _, k, b, h, _, _ => by cases h
  | (k0, b0) :: cs, ⟨⟨C, g, m⟩, r⟩, k, b, h, C0, g0 => by
    rw [List.lookup_cons] at h
    by_cases e : k = k0
    · subst e
      have e2 : (k == k) = true := by simp
      rw [e2] at h
      cases h
      rw [g] at g0; cases g0
      exact m
    · have e2 : (k == k0) = false := by simpa using e
      rw [e2] at h
      exact cs_of r k b h C0 g0
def IsOk (K : PySem.W.Frag) (mg : Mg) (Cx : Addr) : List (Nat × Bool) → Prop
  | [] => True
  | p :: r => (∃ C, mg (clsN p.1) = some (.ref C) ∧ ExcC K C ∧ PySem.W.kitOne K (.ref C) (.ref Cx) = some p.2) ∧ IsOk K mg Cx r
theorem is_of {Cx : Addr} : ∀ {cs : List (Nat × Bool)}, IsOk K mg Cx cs → ∀ k b, cs.lookup k = some b → ∀ C0, mg (clsN k) = some (.ref C0) → ExcC K C0 ∧ PySem.W.kitOne K (.ref C0) (.ref Cx) = some b
  | [], _, k, b, h, _, _ => by cases h
  | (k0, b0) :: cs, ⟨⟨C, g, m⟩, r⟩, k, b, h, C0, g0 => by
    rw [List.lookup_cons] at h
    by_cases e : k = k0
    · subst e
      have e2 : (k == k) = true := by simp
      rw [e2] at h
      cases h
      rw [g] at g0; cases g0
      exact m
    · have e2 : (k == k0) = false := by simpa using e
      rw [e2] at h
      exact is_of r k b h C0 g0
/-- an error of the class at S, a clause that names T -/
theorem exm_of {S T : Addr} {b : Bool} (h1 : PySem.W.subIn K (.ref S) (.type "BaseException") = some true) (h0 : PySem.W.subIn K (.ref T) (.type "BaseException") = some true) (h2 : PySem.W.isClsIn K T = true) (h3 : PySem.W.typeIn K (.ref T) = some (.type "type")) (h4 : PySem.W.subIn K (.ref S) (.ref T) = some b) :
    PySem.W.exmOne K (.ref S) (.ref T) = some b := by
  have e1 : (PySem.W.subIn K (.ref T) (.type "BaseException") == some true) = true := by rw [h0] <;> rfl
  have e2 : ((PySem.W.clsIn K T).isSome && PySem.W.typeIn K (.ref T) == some (.type "type")) = true := by
    have h2' : (PySem.W.clsIn K T).isSome = true := h2
    rw [h2', h3] <;> rfl
  show (if (PySem.W.subIn K (.ref T) (.type "BaseException") == some true) = true then (if ((PySem.W.clsIn K T).isSome && PySem.W.typeIn K (.ref T) == some (.type "type")) = true then PySem.W.subIn K (.ref S) (.ref T) else none) else none) = some b
  rw [if_pos e1, if_pos e2]
  exact h4
theorem sok_tryA {C : Cf} {Γ Γ' : List Sh} {c : Value} {i : Nat} {cs : List (Nat × Bool)} {tb : WX → TS} {ts : Addr → Value → Option Addr → TS} {fb : DL.Env → Out} {fsu : Ex → DL.Env → Out} (ag : C.ag Γ) (hi : i ∉ C.pn) (hΓ : Γ[i]? = some .pu)
    (hcs : CsOk K mg c cs)
    (hb : ∀ W', SOk K mg (cfTry C Γ W') Γ Γ' (tb W') fb)
    (hsu : ∀ a e cls p l, ExV K mg e cls l → SOk K mg (cfSu C i a p l) Γ Γ' (ts a cls (some p)) (fsu e)) :
    SOk K mg C Γ Γ' (tTryAs K c i tb ts C.W.W) (sTryAs i cs fb fsu) := sok_try_as ag (.inr trivial) hi hΓ (cs_of hcs) hb hsu
theorem nn_ret {f : ER D} : ∀ ρ ρ', sRet f ρ ≠ .nx ρ' := fun ρ ρ' h => by
  unfold sRet at h
  cases e : f ρ <;> (rw [e] at h; cases h)
theorem nn_raise {c : Nat} {fs : List Str} {f : ER (List D)} : ∀ ρ ρ', sRaise c fs f ρ ≠ .nx ρ' := fun ρ ρ' h => by
  unfold sRaise at h
  cases e : f ρ with
  | ok ds ρ1 =>
    rw [e] at h
    simp only [Res.out] at h
    split at h <;> cases h
  | exc _ _ => rw [e] at h; cases h
  | stuck => rw [e] at h; cases h
theorem nn_seq {f g : DL.Env → Out} (hg : ∀ ρ ρ', g ρ ≠ .nx ρ') : ∀ ρ ρ', sSeq f g ρ ≠ .nx ρ' := fun ρ ρ' h => by
  unfold sSeq at h
  cases e : f ρ with
  | nx ρ1 => rw [e] at h; exact hg _ _ h
  | _ => rw [e] at h; cases h
theorem nn_if {t : ER Bool} {f g : DL.Env → Out} (hf : ∀ ρ ρ', f ρ ≠ .nx ρ') (hg : ∀ ρ ρ', g ρ ≠ .nx ρ') : ∀ ρ ρ', sIf t f g ρ ≠ .nx ρ' := fun ρ ρ' h => by
  unfold sIf at h
  cases e : t ρ with
  | ok b ρ1 =>
    rw [e] at h
    cases b with
    | true => exact hf _ _ h
    | false => exact hg _ _ h
  | exc _ _ => rw [e] at h; cases h
  | stuck => rw [e] at h; cases h
theorem cx_no {P : Program} {w : World} {outer : List PySem.Env} {H : Hp} {s : Shared} {e : Value} {s' : Shared} (h : L2.CX P w outer H s (fun _ _ _ => False) e s') : False := by
  obtain ⟨_, _, _, _, _, _, _, _, _, _, _, _, z⟩ := h
  exact z
/-- the law's promise for every table of globals -/
def spLaw (f : Den) (K : PySem.W.Frag) : Sp := fun vs H Q E => ∀ mg : Mg, spD K mg (List.replicate 1 .pu) .pu f vs H Q E
end
end DL
/-! the denotations, reckoned: simp's lemmas -/
namespace DL
open PySem L2
section
variable {ρ : DL.Env} {f g : DL.Env → Out} {fe fl fh : ER D} {ft fu : ER Bool} {fa fb : ER (List D)}
@[simp] theorem bind_ok {α β : Type} {a : α} {k : α → DL.Env → Res β} : (Res.ok a ρ).bind k = k a ρ := rfl
@[simp] theorem bind_exc {α β : Type} {e : Ex} {k : α → DL.Env → Res β} : (Res.exc e ρ : Res α).bind k = .exc e ρ := rfl
@[simp] theorem out_ok {α : Type} {a : α} {k : α → DL.Env → Out} : (Res.ok a ρ).out k = k a ρ := rfl
@[simp] theorem out_exc {α : Type} {e : Ex} {k : α → DL.Env → Out} : (Res.exc e ρ : Res α).out k = .exc e ρ := rfl
@[simp] theorem seq_nx {k : DL.Env → Out} : (Out.nx ρ).seq k = k ρ := rfl
@[simp] theorem seq_rt {d : D} {k : DL.Env → Out} : (Out.rt d ρ).seq k = .rt d ρ := rfl
@[simp] theorem seq_bk {k : DL.Env → Out} : (Out.bk ρ).seq k = .bk ρ := rfl
@[simp] theorem seq_ct {k : DL.Env → Out} : (Out.ct ρ).seq k = .ct ρ := rfl
@[simp] theorem seq_exc {e : Ex} {k : DL.Env → Out} : (Out.exc e ρ).seq k = .exc e ρ := rfl
@[simp] theorem sSeq_ap : sSeq f g ρ = (f ρ).seq g := rfl
@[simp] theorem sSet_ap {i : Nat} : sSet i fe ρ = (fe ρ).out fun d ρ => .nx (ρ.set i (some d)) := rfl
@[simp] theorem sDrop_ap : sDrop fe ρ = (fe ρ).out fun _ ρ => .nx ρ := rfl
@[simp] theorem sRet_ap : sRet fe ρ = (fe ρ).out fun d ρ => .rt d ρ := rfl
@[simp] theorem sIf_ap : sIf ft f g ρ = (ft ρ).out fun b ρ => if b = true then f ρ else g ρ := by
  unfold sIf; congr 1; funext b ρ; cases b <;> rfl
@[simp] theorem sPar_ap {i j : Nat} : sPar i j fa ρ = (fa ρ).out fun ds ρ => match ds with | [d, e] => .nx ((ρ.set i (some d)).set j (some e)) | _ => .stuck := rfl
@[simp] theorem sAsg_ap {gf : D → DL.Env → Option DL.Env} : sAsg fe gf ρ = (fe ρ).out fun d ρ => match gf d ρ with | some ρ => .nx ρ | none => .stuck := rfl
@[simp] theorem sAug_ap {i : Nat} {gg : D → D → Option D} : sAug gg i fe ρ = (eVar i ρ).out fun d ρ => (fe ρ).out fun e ρ => match gg d e with | some o => .nx (ρ.set i (some o)) | none => .stuck := rfl
@[simp] theorem sRaise_ap {c : Nat} {fs : List Str} : sRaise c fs fa ρ = (fa ρ).out fun ds ρ => if ds.length = fs.length then .exc ⟨c, fs.zip ds⟩ ρ else .stuck := rfl
@[simp] theorem sFor_ap {gf : D → DL.Env → Option DL.Env} : sFor fa gf f ρ = (fa ρ).out fun es ρ => forL gf f es ρ := rfl
@[simp] theorem gN_ap {i : Nat} {d : D} : gN i d ρ = some (ρ.set i (some d)) := rfl
@[simp] theorem gT_ap {n : Nat} {h : List D → DL.Env → Option DL.Env} {ds : List D} : gT n h (.tup ds) ρ = if ds.length = n then h ds ρ else none := rfl
@[simp] theorem gsNil_ap : gsNil [] ρ = some ρ := rfl
@[simp] theorem gsCons_ap {g : D → DL.Env → Option DL.Env} {h : List D → DL.Env → Option DL.Env} {d : D} {r : List D} : gsCons g h (d :: r) ρ = (g d ρ).bind fun ρ => h r ρ := rfl
@[simp] theorem eC_ap {d : D} : eC d ρ = .ok d ρ := rfl
theorem eVar_ap {i : Nat} : eVar i ρ = match ρ[i]? with | some (some d) => .ok d ρ | _ => .stuck := rfl
@[simp] theorem eVar_0 {d : D} {r : DL.Env} : eVar 0 (some d :: r) = .ok d (some d :: r) := rfl
@[simp] theorem eVar_1 {a : Option D} {d : D} {r : DL.Env} : eVar 1 (a :: some d :: r) = .ok d (a :: some d :: r) := rfl
@[simp] theorem eVar_2 {a b : Option D} {d : D} {r : DL.Env} : eVar 2 (a :: b :: some d :: r) = .ok d (a :: b :: some d :: r) := rfl
@[simp] theorem eVar_3 {a b c : Option D} {d : D} {r : DL.Env} : eVar 3 (a :: b :: c :: some d :: r) = .ok d (a :: b :: c :: some d :: r) := rfl
@[simp] theorem eVar_4 {a b c e : Option D} {d : D} {r : DL.Env} : eVar 4 (a :: b :: c :: e :: some d :: r) = .ok d (a :: b :: c :: e :: some d :: r) := rfl
@[simp] theorem eVar_5 {a b c e p : Option D} {d : D} {r : DL.Env} : eVar 5 (a :: b :: c :: e :: p :: some d :: r) = .ok d (a :: b :: c :: e :: p :: some d :: r) := rfl
@[simp] theorem eVar_6 {a b c e p q : Option D} {d : D} {r : DL.Env} : eVar 6 (a :: b :: c :: e :: p :: q :: some d :: r) = .ok d (a :: b :: c :: e :: p :: q :: some d :: r) := rfl
@[simp] theorem eVar_7 {a b c e p q s : Option D} {d : D} {r : DL.Env} : eVar 7 (a :: b :: c :: e :: p :: q :: s :: some d :: r) = .ok d (a :: b :: c :: e :: p :: q :: s :: some d :: r) := rfl
@[simp] theorem eVar_8 {a b c e p q s t : Option D} {d : D} {r : DL.Env} : eVar 8 (a :: b :: c :: e :: p :: q :: s :: t :: some d :: r) = .ok d (a :: b :: c :: e :: p :: q :: s :: t :: some d :: r) := rfl
@[simp] theorem eOp_ap {gg : D → D → Option D} : eOp gg fe fl ρ = (fe ρ).bind fun d ρ => (fl ρ).bind fun e ρ => ofOpt (gg d e) ρ := rfl
@[simp] theorem eUn_ap {gg : D → Option D} : eUn gg fe ρ = (fe ρ).bind fun d ρ => ofOpt (gg d) ρ := rfl
@[simp] theorem eCB_ap {gg : List D → Option D} : eCB gg fa ρ = (fa ρ).bind fun ds ρ => ofOpt (gg ds) ρ := rfl
@[simp] theorem ofOpt_some {α : Type} {a : α} : ofOpt (some a) ρ = .ok a ρ := rfl
@[simp] theorem aNil_ap : aNil ρ = .ok [] ρ := rfl
@[simp] theorem aCons_ap : aCons fe fa ρ = (fe ρ).bind fun d ρ => (fa ρ).bind fun ds ρ => .ok (d :: ds) ρ := rfl
@[simp] theorem eTup_ap : eTup fa ρ = (fa ρ).bind fun ds ρ => if ds.length ≤ sizeLine then .ok (.tup ds) ρ else .stuck := rfl
@[simp] theorem eLst_ap : eLst fa ρ = (fa ρ).bind fun ds ρ => if ds.length ≤ sizeLine then .ok (.lst ds) ρ else .stuck := rfl
@[simp] theorem tVal_ap : tVal fe ρ = (fe ρ).bind fun d ρ => match d with | .bl b => .ok b ρ | _ => .stuck := rfl
@[simp] theorem bAnd_ap : bAnd ft fu ρ = (ft ρ).bind fun b ρ => if b = true then fu ρ else .ok false ρ := by
  unfold bAnd; congr 1; funext b ρ; cases b <;> rfl
@[simp] theorem bOr_ap : bOr ft fu ρ = (ft ρ).bind fun b ρ => if b = true then .ok true ρ else fu ρ := by
  unfold bOr; congr 1; funext b ρ; cases b <;> rfl
@[simp] theorem bNot_ap : bNot ft ρ = (ft ρ).bind fun b ρ => .ok (!b) ρ := rfl
@[simp] theorem eIf_ap : eIf ft fe fl ρ = (ft ρ).bind fun b ρ => if b = true then fe ρ else fl ρ := by
  unfold eIf; congr 1; funext b ρ; cases b <;> rfl
@[simp] theorem eAndV_ap : eAndV fe fl ρ = (tVal fe ρ).bind fun b ρ => if b = true then fl ρ else .ok (.bl false) ρ := by
  unfold eAndV; congr 1; funext b ρ; cases b <;> rfl
@[simp] theorem eOrV_ap : eOrV fe fl ρ = (tVal fe ρ).bind fun b ρ => if b = true then .ok (.bl true) ρ else fl ρ := by
  unfold eOrV; congr 1; funext b ρ; cases b <;> rfl
@[simp] theorem eNotV_ap : eNotV fe ρ = (tVal fe ρ).bind fun b ρ => .ok (.bl (!b)) ρ := rfl
@[simp] theorem eCall_ap {n : Nat} {h : Den} : eCall n h fa ρ = (fa ρ).bind fun ds ρ => if ds.length = n then (match h ds with | .ret d _ => .ok d ρ | .exc e _ => .exc e ρ | .stuck => .stuck) else .stuck := rfl
@[simp] theorem eIsi_ap {p : D → Bool} : eIsi p fe ρ = (fe ρ).bind fun d ρ => .ok (.bl (p d)) ρ := rfl
@[simp] theorem eSl_ap {gg : D → Option Int → Option Int → Option D} {pl ph : ER (Option Int)} : eSl gg fe pl ph ρ = (fe ρ).bind fun d ρ => (pl ρ).bind fun lo ρ => (ph ρ).bind fun hi ρ => ofOpt (gg d lo hi) ρ := rfl
@[simp] theorem pNo_ap : pNo ρ = .ok none ρ := rfl
@[simp] theorem pSo_ap : pSo fe ρ = (fe ρ).bind fun d ρ => match d with | .int i => .ok (some i) ρ | _ => .stuck := rfl
@[simp] theorem iA_ap : iA fe ρ = (fe ρ).bind fun d ρ => match d with | .lst ds => .ok ds ρ | .tup ds => .ok ds ρ | .scr ns => .ok (ns.map .int) ρ | _ => .stuck := rfl
@[simp] theorem iR1_ap : iR1 fa ρ = (fa ρ).bind fun ds ρ => match ds with | [.int j] => if inRg j = true then .ok (rangeD 0 j.toNat) ρ else .stuck | _ => .stuck := rfl
@[simp] theorem iR2_ap : iR2 fa ρ = (fa ρ).bind fun ds ρ => match ds with | [.int i, .int j] => if inRg i = true ∧ inRg j = true then .ok (rangeD i (j - i).toNat) ρ else .stuck | _ => .stuck := rfl
@[simp] theorem eListZ_ap : eListZ fa ρ = (fa ρ).bind fun ds ρ => match ds with | [.tup xs, .tup ys] => .ok (.lst (zipD xs ys)) ρ | _ => .stuck := rfl
@[simp] theorem aKw_ap {q : List Nat} {n m : Nat} : aKw q n m fa fb ρ = (fa ρ).bind fun ds ρ => (fb ρ).bind fun es ρ => if ds.length = n ∧ es.length = m then .ok (pm q (ds ++ es)) ρ else .stuck := rfl
@[simp] theorem eView_ap : eView fe ρ = match fe ρ with | .ok d _ => if scalD d = true then .ok d ρ else .stuck | .exc e _ => if (e.fs.map (·.2)).all scalD = true then .exc e ρ else .stuck | .stuck => .stuck := rfl
@[simp] theorem tView_ap : tView ft ρ = match ft ρ with | .ok d _ => .ok d ρ | .exc e _ => if (e.fs.map (·.2)).all scalD = true then .exc e ρ else .stuck | .stuck => .stuck := rfl
@[simp] theorem gI0_ap {h : Int → Int → Int} {i j : Int} : gI0 h (.int i) (.int j) = some (.int (h i j)) := rfl
@[simp] theorem gB0_ap {h : Int → Int → Bool} {i j : Int} : gB0 h (.int i) (.int j) = some (.bl (h i j)) := rfl
@[simp] theorem gIC_ap {c : Int → Int → Prop} [∀ i j, Decidable (c i j)] {h : Int → Int → Int} {i j : Int} : gIC c h (.int i) (.int j) = if c i j then some (.int (h i j)) else none := rfl
@[simp] theorem gAdd_i {i j : Int} : gAdd (.int i) (.int j) = some (.int (i + j)) := rfl
@[simp] theorem gAdd_s {i j : Str} : gAdd (.str i) (.str j) = if i.length + j.length ≤ sizeLine then some (.str (i ++ j)) else none := rfl
@[simp] theorem gAdd_t {i j : List D} : gAdd (.tup i) (.tup j) = if i.length + j.length ≤ sizeLine then some (.tup (i ++ j)) else none := rfl
@[simp] theorem gAdd_l {i j : List D} : gAdd (.lst i) (.lst j) = if i.length + j.length ≤ sizeLine then some (.lst (i ++ j)) else none := rfl
@[simp] theorem gCat_l {i j : List D} : gCat (.lst i) (.lst j) = if i.length + j.length ≤ sizeLine then some (.lst (i ++ j)) else none := rfl
@[simp] theorem gIAdd_i {i j : Int} : gIAdd (.int i) (.int j) = some (.int (i + j)) := rfl
@[simp] theorem gIAdd_s {i j : Str} : gIAdd (.str i) (.str j) = if i.length + j.length ≤ sizeLine then some (.str (i ++ j)) else none := rfl
@[simp] theorem gMul_i {i j : Int} : gMul (.int i) (.int j) = if CMul i j then some (.int (i * j)) else none := rfl
@[simp] theorem gMul_s {i : Str} {j : Int} : gMul (.str i) (.int j) = if CRepS i j then some (.str (repS' i j)) else none := rfl
@[simp] theorem gNeg_i {i : Int} : gNeg (.int i) = some (.int (-i)) := rfl
@[simp] theorem gEq_i {i j : Int} : gEq (.int i) (.int j) = some (.bl (decide (i = j))) := rfl
@[simp] theorem gEq_s {i j : Str} : gEq (.str i) (.str j) = some (.bl (decide (i = j))) := rfl
@[simp] theorem gEq_b {i j : Bool} : gEq (.bl i) (.bl j) = some (.bl (decide (i = j))) := rfl
@[simp] theorem gNe_i {i j : Int} : gNe (.int i) (.int j) = some (.bl (!decide (i = j))) := rfl
@[simp] theorem gNe_s {i j : Str} : gNe (.str i) (.str j) = some (.bl (!decide (i = j))) := rfl
@[simp] theorem gNe_b {i j : Bool} : gNe (.bl i) (.bl j) = some (.bl (!decide (i = j))) := rfl
@[simp] theorem gIsN_ap {d : D} : gIsN d .non = some (.bl (isNon d)) := rfl
@[simp] theorem gNotN_ap {d : D} : gNotN d .non = some (.bl (!isNon d)) := rfl
@[simp] theorem isNon_n : isNon .non = true := rfl
@[simp] theorem isNon_i {i : Int} : isNon (.int i) = false := rfl
@[simp] theorem isNon_s {i : Str} : isNon (.str i) = false := rfl
@[simp] theorem isNon_b {i : Bool} : isNon (.bl i) = false := rfl
@[simp] theorem isNon_t {i : List D} : isNon (.tup i) = false := rfl
@[simp] theorem isNon_l {i : List D} : isNon (.lst i) = false := rfl
@[simp] theorem gIx_t {ds : List D} {i : Int} : gIx (.tup ds) (.int i) = atI ds i := rfl
@[simp] theorem gIx_l {ds : List D} {i : Int} : gIx (.lst ds) (.int i) = atI ds i := rfl
@[simp] theorem gIx_x {ns : List Int} {i : Int} : gIx (.scr ns) (.int i) = (atI ns i).map .int := rfl
@[simp] theorem gLen_t {ds : List D} : gLen [.tup ds] = some (.int ds.length) := rfl
@[simp] theorem gLen_l {ds : List D} : gLen [.lst ds] = some (.int ds.length) := rfl
@[simp] theorem gLen_x {ds : List Int} : gLen [.scr ds] = some (.int ds.length) := rfl
@[simp] theorem gLen_s {z : Str} : gLen [.str z] = if z.length ≤ sizeLine then some (.int z.length) else none := rfl
@[simp] theorem gAbs_i {i : Int} : gAbs [.int i] = some (.int (if i < 0 then -i else i)) := rfl
@[simp] theorem gInt_i {i : Int} : gInt [.int i] = some (.int i) := rfl
/-- the text of an int -/
def tI (i : Int) : Str := Str.ofString (toString i)
@[simp] theorem gStr_i {i : Int} : gStr [.int i] = if i.natAbs.log2 < 1920 then some (.str (tI i)) else none := rfl
@[simp] theorem gSl_t {ds : List D} {lo hi : Option Int} : gSl (.tup ds) lo hi = some (.tup (cutD ds lo hi)) := rfl
@[simp] theorem gSl_l {ds : List D} {lo hi : Option Int} : gSl (.lst ds) lo hi = some (.lst (cutD ds lo hi)) := rfl
@[simp] theorem gSl_x {ns : List Int} {lo hi : Option Int} : gSl (.scr ns) lo hi = some (.lst ((cutD ns lo hi).map .int)) := rfl
@[simp] theorem gAppend_ap {ds : List D} {e : D} : gAppend ds [e] = if ds.length < sizeLine then some (.non, ds ++ [e]) else none := rfl
@[simp] theorem gExtend_ap {ds zs : List D} : gExtend ds [.lst zs] = if ds.length + zs.length ≤ sizeLine then some (.non, ds ++ zs) else none := rfl
@[simp] theorem scal_i {i : Int} : scalD (.int i) = true := rfl
@[simp] theorem scal_b {i : Bool} : scalD (.bl i) = true := rfl
@[simp] theorem scal_s {i : Str} : scalD (.str i) = true := rfl
@[simp] theorem scal_n : scalD .non = true := rfl
/-- an item by its place -/
theorem at_nat {α : Type} {xs : List α} {i : Int} (h0 : 0 ≤ i) (h1 : i < xs.length) : atI xs i = xs[i.toNat]? := by
  unfold atI ixN
  rw [if_pos h0, if_pos h1]
  rfl
@[simp] theorem at0 {α : Type} {x : α} {xs : List α} : atI (x :: xs) 0 = some x := by
  rw [at_nat (by decide) (by simp only [List.length_cons]; omega)]; rfl
@[simp] theorem at1 {α : Type} {x y : α} {xs : List α} : atI (x :: y :: xs) 1 = some y := by
  rw [at_nat (by decide) (by simp only [List.length_cons]; omega)]; rfl
@[simp] theorem at2 {α : Type} {x y z : α} {xs : List α} : atI (x :: y :: z :: xs) 2 = some z := by
  rw [at_nat (by decide) (by simp only [List.length_cons]; omega)]; rfl
theorem sz : sizeLine = 16777216 := sizeLine_eq
@[simp] theorem toF_rt {k : Nat} {d : D} : toF k (.rt d ρ) = .ret d (ρ.take k) := rfl
@[simp] theorem toF_nx {k : Nat} : toF k (.nx ρ) = .ret .non (ρ.take k) := rfl
@[simp] theorem toF_exc {k : Nat} {e : Ex} : toF k (.exc e ρ) = .exc e (ρ.take k) := rfl
theorem mkF_ap {N k : Nat} {fb : DL.Env → Out} {ds : List D} : mkF N k fb ds = toF k (fb (ds.map some ++ List.replicate (N - ds.length) none)) := rfl
end
end DL
namespace K11
open PySem L2 DL
def top (i : Nat) : Stmt := PySem.Challenge.pw_whatevertext_k11_sizes.main.body.getD i (.Pass ⟨0, 0, 0, 0⟩)

structure Zs (mg : Mg) : Prop where
  z_abs : mg "abs" = none
  z_bool : mg "bool" = none
  z_int : mg "int" = none
  z_isinstance : mg "isinstance" = none
  z_len : mg "len" = none
  z_list : mg "list" = none
  z_range : mg "range" = none
  z_str : mg "str" = none
  z_tuple : mg "tuple" = none
  z_zip : mg "zip" = none
structure Xs (P : Program) (K : PySem.W.Frag) (mg : Mg) (C_BadStep C_CallError C_MoveError : Addr) : Prop where
  t_BadStep : PySem.DLX.ExTxt P K mg "BadStep" C_BadStep ["word"]
  g_BadStep : mg "BadStep" = some (.ref C_BadStep)
  g_CallError : mg "CallError" = some (.ref C_CallError)
  g_MoveError : mg "MoveError" = some (.ref C_MoveError)
  m_BadStep_BadStep : PySem.W.exmOne K (.ref C_BadStep) (.ref C_BadStep) = some true
  i_BadStep_CallError : ∀ k b, ([(4, true)] : List (Nat × Bool)).lookup k = some b → ∀ C0, mg (clsN k) = some (.ref C0) → ExcC K C0 ∧ PySem.W.kitOne K (.ref C0) (.ref C_CallError) = some b
  i_BadStep_MoveError : ∀ k b, ([(4, true)] : List (Nat × Bool)).lookup k = some b → ∀ C0, mg (clsN k) = some (.ref C0) → ExcC K C0 ∧ PySem.W.kitOne K (.ref C0) (.ref C_MoveError) = some b
abbrev s_common_divisor : Stmt := top 1
abbrev N_common_divisor : List Str := ["one", "other"]
theorem sc_common_divisor : FnScope N_common_divisor ["one", "other"] (defScope s_common_divisor) := ⟨rfl, rfl, rfl, by decide +kernel, rfl, by decide +kernel, by decide +kernel⟩
def w_common_divisor_0 : DL.Env → Nat := fun (ρ : DL.Env) => match ρ[1]? with | some (some (D.int j)) => j.toNat + 1 | _ => 0
def b_common_divisor : DL.Env → Out := (sSeq (sWhile w_common_divisor_0 (tVal (eOp (gB0 fun i j => decide (j < i)) (eVar 1) (eC (.int 0)))) (sPar 0 1 (aCons (eVar 1) (aCons (eOp (gIC CMod fun i j => i % j) (eVar 0) (eVar 1)) aNil)))) (sRet (eVar 0)))
def d_common_divisor : Den := mkF 2 0 b_common_divisor
abbrev p_common_divisor (K : PySem.W.Frag) (mg : Mg) : Sp := spD K mg (List.replicate 2 .pu) .pu d_common_divisor
theorem ok_common_divisor {P : Program} {w : World} {K : PySem.W.Frag} {mg : Mg} {base : Heap} {C_BadStep C_CallError C_MoveError : Addr} (z : Zs mg) (x : Xs P K mg C_BadStep C_CallError C_MoveError) {f : Addr} {fd : FuncData} (F : Fun K "common_divisor" "common_divisor" s_common_divisor f fd) : FnOk P w K mg base (L2.CX P w) 2 f fd ["one", "other"] (p_common_divisor K mg) := by
  refine F.okX sc_common_divisor (fun vs H Q E h => spD_len h) (fun cdv A outer s H vs Q E hr h => ?_)
  exact ⟨_, (pss_cons (ps_while (passes_of rfl) (pt_cmpR op_gt (pv 1) pe_int (nomark _)) (pss_one (ps_par (i := 0) (j := 1) rfl sc_common_divisor.nd rfl rfl (by decide) rfl rfl (pa_cons (pv 1) (pa_cons (pe_op op_mod (pv 0) (pv 1)) pa_nil)) rfl))) (pss_one (ps_ret (pv 0)))),
    fn_body (N := N_common_divisor) (k := 0) (Γp := (List.replicate 2 .pu)) (sr := .pu) (fb := b_common_divisor) (Γi := []) (Γ' := [.pu, .pu]) (by decide) rfl (.inl rfl) ⟨rfl, rfl⟩ (sok_seq (sok_while (fuel := w_common_divisor_0) ⟨rfl, rfl⟩ (tok_test (eok_op r2_b0 (eok_var rfl) eok_int)) (sok_parK ⟨rfl, rfl⟩ (np rfl) (np rfl) rfl rfl (aok_cons (eok_var rfl) (aok_cons (eok_op (r2_ic (c := CMod)) (eok_var rfl) (eok_var rfl)) aok_nil)))) (sok_ret ⟨rfl, rfl⟩ (eok_var rfl))) h⟩
abbrev s_size_at : Stmt := top 7
abbrev N_size_at : List Str := ["size", "parts", "length", "number"]
theorem sc_size_at : FnScope N_size_at ["size", "parts", "length"] (defScope s_size_at) := ⟨rfl, rfl, rfl, by decide +kernel, rfl, by decide +kernel, by decide +kernel⟩
def b_size_at : DL.Env → Out := (sSeq (sSet 3 (eOp gAdd (eOp gMul (eOp gIx (eVar 0) (eC (.int 0))) (eVar 2)) (eOp gIx (eVar 0) (eC (.int 1))))) (sSeq (sIf (tVal (eOp gNe (eOp (gIC CMod fun i j => i % j) (eVar 3) (eVar 1)) (eC (.int 0)))) (sRaise 4 ["word"] (aCons (eC (.str "whole")) aNil)) Out.nx) (sRet (eOp (gIC CDiv fun i j => i / j) (eVar 3) (eVar 1)))))
def d_size_at : Den := mkF 4 0 b_size_at
abbrev p_size_at (K : PySem.W.Frag) (mg : Mg) : Sp := spD K mg (List.replicate 3 .pu) .pu d_size_at
theorem ok_size_at {P : Program} {w : World} {K : PySem.W.Frag} {mg : Mg} {base : Heap} {C_BadStep C_CallError C_MoveError : Addr} (z : Zs mg) (x : Xs P K mg C_BadStep C_CallError C_MoveError) {f : Addr} {fd : FuncData} (F : Fun K "size_at" "size_at" s_size_at f fd) : FnOk P w K mg base (L2.CX P w) 2 f fd ["size", "parts", "length"] (p_size_at K mg) := by
  refine F.okX sc_size_at (fun vs H Q E h => spD_len h) (fun cdv A outer s H vs Q E hr h => ?_)
  exact ⟨_, (pss_cons (ps_set (i := 3) sc_size_at.nd rfl (by first | exact Or.inl rfl | exact Or.inr rfl) (pe_op opAdd (pe_op opMul (pe_ix ix_seq (pv 0) pe_int (fun _ _ => rfl)) (pv 2)) (pe_ix ix_seq (pv 0) pe_int (fun _ _ => rfl)))) (pss_cons (ps_if (pt_cmpR (opNe (Room.u64 hr)) (pe_op op_mod (pv 3) (pv 1)) pe_int (nomark _)) (pss_one (ps_raise rfl (takes_of rfl rfl rfl rfl) (pmk_ex x.t_BadStep (by decide) hr (pa_cons pe_str pa_nil) rfl))) pss_nil) (pss_one (ps_ret (pe_op op_fdiv (pv 3) (pv 1)))))),
    fn_body (N := N_size_at) (k := 0) (Γp := (List.replicate 3 .pu)) (sr := .pu) (fb := b_size_at) (Γi := [.pu]) (Γ' := [.pu, .pu, .pu, .pu]) (by decide) rfl (.inl rfl) ⟨rfl, rfl⟩ (sok_seq (sok_setK ⟨rfl, rfl⟩ (np rfl) rfl (eok_op r2_add (eok_op r2_mul (eok_op r2_ix (eok_var rfl) eok_int) (eok_var rfl)) (eok_op r2_ix (eok_var rfl) eok_int))) (sok_seq (sok_if ⟨rfl, rfl⟩ (tok_test (eok_op r2_ne (eok_op (r2_ic (c := CMod)) (eok_var rfl) (eok_var rfl)) eok_int)) (sok_raise (c := 4) x.t_BadStep.gC ⟨rfl, rfl⟩ (aok_cons eok_str aok_nil)) sok_next) (sok_ret ⟨rfl, rfl⟩ (eok_op (r2_ic (c := CDiv)) (eok_var rfl) (eok_var rfl))))) h⟩
abbrev s_size_sum : Stmt := top 8
abbrev N_size_sum : List Str := ["one", "other"]
theorem sc_size_sum : FnScope N_size_sum ["one", "other"] (defScope s_size_sum) := ⟨rfl, rfl, rfl, by decide +kernel, rfl, by decide +kernel, by decide +kernel⟩
def b_size_sum : DL.Env → Out := (sRet (eTup (aCons (eOp gAdd (eOp gIx (eVar 0) (eC (.int 0))) (eOp gIx (eVar 1) (eC (.int 0)))) (aCons (eOp gAdd (eOp gIx (eVar 0) (eC (.int 1))) (eOp gIx (eVar 1) (eC (.int 1)))) aNil))))
def d_size_sum : Den := mkF 2 0 b_size_sum
abbrev p_size_sum (K : PySem.W.Frag) (mg : Mg) : Sp := spD K mg (List.replicate 2 .pu) .pu d_size_sum
theorem ok_size_sum {P : Program} {w : World} {K : PySem.W.Frag} {mg : Mg} {base : Heap} {C_BadStep C_CallError C_MoveError : Addr} (z : Zs mg) (x : Xs P K mg C_BadStep C_CallError C_MoveError) {f : Addr} {fd : FuncData} (F : Fun K "size_sum" "size_sum" s_size_sum f fd) : FnOk P w K mg base (L2.CX P w) 2 f fd ["one", "other"] (p_size_sum K mg) := by
  refine F.okX sc_size_sum (fun vs H Q E h => spD_len h) (fun cdv A outer s H vs Q E hr h => ?_)
  exact ⟨_, (pss_one (ps_ret (pe_tup (pa_cons (pe_op opAdd (pe_ix ix_seq (pv 0) pe_int (fun _ _ => rfl)) (pe_ix ix_seq (pv 1) pe_int (fun _ _ => rfl))) (pa_cons (pe_op opAdd (pe_ix ix_seq (pv 0) pe_int (fun _ _ => rfl)) (pe_ix ix_seq (pv 1) pe_int (fun _ _ => rfl))) pa_nil))))),
    fn_body (N := N_size_sum) (k := 0) (Γp := (List.replicate 2 .pu)) (sr := .pu) (fb := b_size_sum) (Γi := []) (Γ' := [.pu, .pu]) (by decide) rfl (.inl rfl) ⟨rfl, rfl⟩ (sok_ret ⟨rfl, rfl⟩ (eok_tup (aok_cons (eok_op r2_add (eok_op r2_ix (eok_var rfl) eok_int) (eok_op r2_ix (eok_var rfl) eok_int)) (aok_cons (eok_op r2_add (eok_op r2_ix (eok_var rfl) eok_int) (eok_op r2_ix (eok_var rfl) eok_int)) aok_nil)))) h⟩
abbrev s_size_less : Stmt := top 9
abbrev N_size_less : List Str := ["one", "other"]
theorem sc_size_less : FnScope N_size_less ["one", "other"] (defScope s_size_less) := ⟨rfl, rfl, rfl, by decide +kernel, rfl, by decide +kernel, by decide +kernel⟩
def b_size_less : DL.Env → Out := (sRet (eTup (aCons (eOp (gI0 fun i j => i - j) (eOp gIx (eVar 0) (eC (.int 0))) (eOp gIx (eVar 1) (eC (.int 0)))) (aCons (eOp (gI0 fun i j => i - j) (eOp gIx (eVar 0) (eC (.int 1))) (eOp gIx (eVar 1) (eC (.int 1)))) aNil))))
def d_size_less : Den := mkF 2 0 b_size_less
abbrev p_size_less (K : PySem.W.Frag) (mg : Mg) : Sp := spD K mg (List.replicate 2 .pu) .pu d_size_less
theorem ok_size_less {P : Program} {w : World} {K : PySem.W.Frag} {mg : Mg} {base : Heap} {C_BadStep C_CallError C_MoveError : Addr} (z : Zs mg) (x : Xs P K mg C_BadStep C_CallError C_MoveError) {f : Addr} {fd : FuncData} (F : Fun K "size_less" "size_less" s_size_less f fd) : FnOk P w K mg base (L2.CX P w) 2 f fd ["one", "other"] (p_size_less K mg) := by
  refine F.okX sc_size_less (fun vs H Q E h => spD_len h) (fun cdv A outer s H vs Q E hr h => ?_)
  exact ⟨_, (pss_one (ps_ret (pe_tup (pa_cons (pe_op op_sub (pe_ix ix_seq (pv 0) pe_int (fun _ _ => rfl)) (pe_ix ix_seq (pv 1) pe_int (fun _ _ => rfl))) (pa_cons (pe_op op_sub (pe_ix ix_seq (pv 0) pe_int (fun _ _ => rfl)) (pe_ix ix_seq (pv 1) pe_int (fun _ _ => rfl))) pa_nil))))),
    fn_body (N := N_size_less) (k := 0) (Γp := (List.replicate 2 .pu)) (sr := .pu) (fb := b_size_less) (Γi := []) (Γ' := [.pu, .pu]) (by decide) rfl (.inl rfl) ⟨rfl, rfl⟩ (sok_ret ⟨rfl, rfl⟩ (eok_tup (aok_cons (eok_op r2_i0 (eok_op r2_ix (eok_var rfl) eok_int) (eok_op r2_ix (eok_var rfl) eok_int)) (aok_cons (eok_op r2_i0 (eok_op r2_ix (eok_var rfl) eok_int) (eok_op r2_ix (eok_var rfl) eok_int)) aok_nil)))) h⟩
abbrev s_part_text : Stmt := top 10
abbrev N_part_text : List Str := ["number", "parts", "divisor", "bottom"]
theorem sc_part_text : FnScope N_part_text ["number", "parts"] (defScope s_part_text) := ⟨rfl, rfl, rfl, by decide +kernel, rfl, by decide +kernel, by decide +kernel⟩
def b_part_text : DL.Env → Out := (sSeq (sSet 2 (eCall 2 d_common_divisor (aCons (eVar 0) (aCons (eVar 1) aNil)))) (sSeq (sSet 3 (eIf (tVal (eOp (gB0 fun i j => decide (j < i)) (eVar 1) (eVar 2))) (eOp gAdd (eC (.str "/")) (eCB gStr (aCons (eOp (gIC CDiv fun i j => i / j) (eVar 1) (eVar 2)) aNil))) (eC (.str "")))) (sRet (eOp gAdd (eCB gStr (aCons (eOp (gIC CDiv fun i j => i / j) (eVar 0) (eVar 2)) aNil)) (eVar 3)))))
def d_part_text : Den := mkF 4 0 b_part_text
abbrev p_part_text (K : PySem.W.Frag) (mg : Mg) : Sp := spD K mg (List.replicate 2 .pu) .pu d_part_text
theorem ok_part_text {P : Program} {w : World} {K : PySem.W.Frag} {mg : Mg} {base : Heap} {C_BadStep C_CallError C_MoveError : Addr} (z : Zs mg) (x : Xs P K mg C_BadStep C_CallError C_MoveError) (g_common_divisor : Df P w K mg base "common_divisor" s_common_divisor ["one", "other"] 2 (p_common_divisor K mg)) {f : Addr} {fd : FuncData} (F : Fun K "part_text" "part_text" s_part_text f fd) : FnOk P w K mg base (L2.CX P w) 4 f fd ["number", "parts"] (p_part_text K mg) := by
  refine F.okX sc_part_text (fun vs H Q E h => spD_len h) (fun cdv A outer s H vs Q E hr h => ?_)
  exact ⟨_, (pss_cons (ps_set (i := 2) sc_part_text.nd rfl (by first | exact Or.inl rfl | exact Or.inr rfl) (pe_df g_common_divisor (hr.mono (by decide)) rfl (takes_of rfl rfl rfl rfl) (pa_cons (pv 0) (pa_cons (pv 1) pa_nil)))) (pss_cons (ps_set (i := 3) sc_part_text.nd rfl (by first | exact Or.inl rfl | exact Or.inr rfl) (pe_ifExp (pt_cmpR op_gt (pv 1) (pv 2) (nomark _)) (pe_op opAdd pe_str (pe_callTy callStr rfl z.z_str rfl (pa_cons (pe_op op_fdiv (pv 1) (pv 2)) pa_nil))) pe_str)) (pss_one (ps_ret (pe_op opAdd (pe_callTy callStr rfl z.z_str rfl (pa_cons (pe_op op_fdiv (pv 0) (pv 2)) pa_nil)) (pv 3)))))),
    fn_body (N := N_part_text) (k := 0) (Γp := (List.replicate 2 .pu)) (sr := .pu) (fb := b_part_text) (Γi := [.pu, .pu]) (Γ' := [.pu, .pu, .pu, .pu]) (by decide) rfl (.inl rfl) ⟨rfl, rfl⟩ (sok_seq (sok_setK ⟨rfl, rfl⟩ (np rfl) rfl (eok_call (aok_cons (eok_var rfl) (aok_cons (eok_var rfl) aok_nil)))) (sok_seq (sok_setK ⟨rfl, rfl⟩ (np rfl) rfl (eok_if (tok_test (eok_op r2_b0 (eok_var rfl) (eok_var rfl))) (eok_op r2_add eok_str (eok_cb c1_str (aok_cons (eok_op (r2_ic (c := CDiv)) (eok_var rfl) (eok_var rfl)) aok_nil))) eok_str)) (sok_ret ⟨rfl, rfl⟩ (eok_op r2_add (eok_cb c1_str (aok_cons (eok_op (r2_ic (c := CDiv)) (eok_var rfl) (eok_var rfl)) aok_nil)) (eok_var rfl))))) h⟩
abbrev s_growing_text : Stmt := top 11
abbrev N_growing_text : List Str := ["number", "parts", "text"]
theorem sc_growing_text : FnScope N_growing_text ["number", "parts"] (defScope s_growing_text) := ⟨rfl, rfl, rfl, by decide +kernel, rfl, by decide +kernel, by decide +kernel⟩
def b_growing_text : DL.Env → Out := (sSeq (sSet 2 (eCall 2 d_part_text (aCons (eVar 0) (aCons (eVar 1) aNil)))) (sRet (eIf (tVal (eOp gEq (eVar 2) (eC (.str "1")))) (eC (.str "n")) (eOp gAdd (eVar 2) (eC (.str " n"))))))
def d_growing_text : Den := mkF 3 0 b_growing_text
abbrev p_growing_text (K : PySem.W.Frag) (mg : Mg) : Sp := spD K mg (List.replicate 2 .pu) .pu d_growing_text
theorem ok_growing_text {P : Program} {w : World} {K : PySem.W.Frag} {mg : Mg} {base : Heap} {C_BadStep C_CallError C_MoveError : Addr} (z : Zs mg) (x : Xs P K mg C_BadStep C_CallError C_MoveError) (g_part_text : Df P w K mg base "part_text" s_part_text ["number", "parts"] 4 (p_part_text K mg)) {f : Addr} {fd : FuncData} (F : Fun K "growing_text" "growing_text" s_growing_text f fd) : FnOk P w K mg base (L2.CX P w) 6 f fd ["number", "parts"] (p_growing_text K mg) := by
  refine F.okX sc_growing_text (fun vs H Q E h => spD_len h) (fun cdv A outer s H vs Q E hr h => ?_)
  exact ⟨_, (pss_cons (ps_set (i := 2) sc_growing_text.nd rfl (by first | exact Or.inl rfl | exact Or.inr rfl) (pe_df g_part_text (hr.mono (by decide)) rfl (takes_of rfl rfl rfl rfl) (pa_cons (pv 0) (pa_cons (pv 1) pa_nil)))) (pss_one (ps_ret (pe_ifExp (pt_cmpR (opEq (Room.u64 hr)) (pv 2) pe_str (nomark _)) pe_str (pe_op opAdd (pv 2) pe_str))))),
    fn_body (N := N_growing_text) (k := 0) (Γp := (List.replicate 2 .pu)) (sr := .pu) (fb := b_growing_text) (Γi := [.pu]) (Γ' := [.pu, .pu, .pu]) (by decide) rfl (.inl rfl) ⟨rfl, rfl⟩ (sok_seq (sok_setK ⟨rfl, rfl⟩ (np rfl) rfl (eok_call (aok_cons (eok_var rfl) (aok_cons (eok_var rfl) aok_nil)))) (sok_ret ⟨rfl, rfl⟩ (eok_if (tok_test (eok_op r2_eq (eok_var rfl) eok_str)) eok_str (eok_op r2_add (eok_var rfl) eok_str)))) h⟩
abbrev s_size_text : Stmt := top 12
abbrev N_size_text : List Str := ["size", "parts", "pairs", "found", "number", "text"]
theorem sc_size_text : FnScope N_size_text ["size", "parts"] (defScope s_size_text) := ⟨rfl, rfl, rfl, by decide +kernel, rfl, by decide +kernel, by decide +kernel⟩
def b_size_text : DL.Env → Out := (sSeq (sSet 2 (eLst aNil)) (sSeq (sIf (tVal (eOp gNe (eOp gIx (eVar 0) (eC (.int 0))) (eC (.int 0)))) (sDrop (eMtO 2 gAppend (aCons (eTup (aCons (eOp gIx (eVar 0) (eC (.int 0))) (aCons (eCall 2 d_growing_text (aCons (eCB gAbs (aCons (eOp gIx (eVar 0) (eC (.int 0))) aNil)) (aCons (eVar 1) aNil))) aNil))) aNil))) Out.nx) (sSeq (sIf (tVal (eOp gNe (eOp gIx (eVar 0) (eC (.int 1))) (eC (.int 0)))) (sDrop (eMtO 2 gAppend (aCons (eTup (aCons (eOp gIx (eVar 0) (eC (.int 1))) (aCons (eCall 2 d_part_text (aCons (eCB gAbs (aCons (eOp gIx (eVar 0) (eC (.int 1))) aNil)) (aCons (eVar 1) aNil))) aNil))) aNil))) Out.nx) (sSeq (sIf (tVal (eOp gEq (eCB gLen (aCons (eVar 2) aNil)) (eC (.int 0)))) (sRet (eC (.str "0"))) Out.nx) (sSeq (sSet 3 (eOp gAdd (eIf (tVal (eOp (gB0 fun i j => decide (i < j)) (eOp gIx (eOp gIx (eVar 2) (eC (.int 0))) (eC (.int 0))) (eC (.int 0)))) (eC (.str "-")) (eC (.str ""))) (eOp gIx (eOp gIx (eVar 2) (eC (.int 0))) (eC (.int 1))))) (sSeq (sFor (iA (eSl gSl (eVar 2) (pSo (eC (.int 1))) pNo)) (gT 2 (gsCons (gN 4) (gsCons (gN 5) gsNil))) (sAug gIAdd 3 (eOp gAdd (eIf (tVal (eOp (gB0 fun i j => decide (i < j)) (eVar 4) (eC (.int 0)))) (eC (.str " - ")) (eC (.str " + "))) (eVar 5)))) (sRet (eVar 3))))))))
def d_size_text : Den := mkF 6 0 b_size_text
abbrev p_size_text (K : PySem.W.Frag) (mg : Mg) : Sp := spD K mg (List.replicate 2 .pu) .pu d_size_text
theorem ok_size_text {P : Program} {w : World} {K : PySem.W.Frag} {mg : Mg} {base : Heap} {C_BadStep C_CallError C_MoveError : Addr} (z : Zs mg) (x : Xs P K mg C_BadStep C_CallError C_MoveError) (g_growing_text : Df P w K mg base "growing_text" s_growing_text ["number", "parts"] 6 (p_growing_text K mg)) (g_part_text : Df P w K mg base "part_text" s_part_text ["number", "parts"] 4 (p_part_text K mg)) {f : Addr} {fd : FuncData} (F : Fun K "size_text" "size_text" s_size_text f fd) : FnOk P w K mg base (L2.CX P w) 8 f fd ["size", "parts"] (p_size_text K mg) := by
  refine F.okX sc_size_text (fun vs H Q E h => spD_len h) (fun cdv A outer s H vs Q E hr h => ?_)
  exact ⟨_, (pss_cons (ps_set (i := 2) sc_size_text.nd rfl (by first | exact Or.inl rfl | exact Or.inr rfl) (pe_lst pa_nil)) (pss_cons (ps_if (pt_cmpR (opNe (Room.u64 hr)) (pe_ix ix_seq (pv 0) pe_int (fun _ _ => rfl)) pe_int (nomark _)) (pss_one (ps_expr (pe_bm PySem.F.plainAttrs_list PySem.F.slot_list_append PySem.F.type_list_append mt_append (pv 2) (pa_cons (pe_tup (pa_cons (pe_ix ix_seq (pv 0) pe_int (fun _ _ => rfl)) (pa_cons (pe_df g_growing_text (hr.mono (by decide)) rfl (takes_of rfl rfl rfl rfl) (pa_cons (pe_callB callAbs rfl z.z_abs rfl (pa_cons (pe_ix ix_seq (pv 0) pe_int (fun _ _ => rfl)) pa_nil)) (pa_cons (pv 1) pa_nil))) pa_nil))) pa_nil)))) pss_nil) (pss_cons (ps_if (pt_cmpR (opNe (Room.u64 hr)) (pe_ix ix_seq (pv 0) pe_int (fun _ _ => rfl)) pe_int (nomark _)) (pss_one (ps_expr (pe_bm PySem.F.plainAttrs_list PySem.F.slot_list_append PySem.F.type_list_append mt_append (pv 2) (pa_cons (pe_tup (pa_cons (pe_ix ix_seq (pv 0) pe_int (fun _ _ => rfl)) (pa_cons (pe_df g_part_text (hr.mono (by decide)) rfl (takes_of rfl rfl rfl rfl) (pa_cons (pe_callB callAbs rfl z.z_abs rfl (pa_cons (pe_ix ix_seq (pv 0) pe_int (fun _ _ => rfl)) pa_nil)) (pa_cons (pv 1) pa_nil))) pa_nil))) pa_nil)))) pss_nil) (pss_cons (ps_if (pt_cmpR (opEq (Room.u64 hr)) (pe_callB callLen rfl z.z_len rfl (pa_cons (pv 2) pa_nil)) pe_int (nomark _)) (pss_one (ps_ret pe_str)) pss_nil) (pss_cons (ps_set (i := 3) sc_size_text.nd rfl (by first | exact Or.inl rfl | exact Or.inr rfl) (pe_op opAdd (pe_ifExp (pt_cmpR op_lt (pe_ix ix_seq (pe_ix ix_seq (pv 2) pe_int (fun _ _ => rfl)) pe_int (fun _ _ => rfl)) pe_int (nomark _)) pe_str pe_str) (pe_ix ix_seq (pe_ix ix_seq (pv 2) pe_int (fun _ _ => rfl)) pe_int (fun _ _ => rfl)))) (pss_cons (ps_for (passes_of rfl) rfl (pi_any (pe_slice slAny (pv 2) (po_some pe_int) po_none)) (pg_tup rfl (pgs_cons (pg_name (i := 4) sc_size_text.nd rfl (by first | exact Or.inl rfl | exact Or.inr rfl)) (pgs_cons (pg_name (i := 5) sc_size_text.nd rfl (by first | exact Or.inl rfl | exact Or.inr rfl)) pgs_nil))) (pss_one (ps_aug (i := 3) sc_size_text.nd rfl (by first | exact Or.inl rfl | exact Or.inr rfl) (pe_op opAdd (pe_ifExp (pt_cmpR op_lt (pv 4) pe_int (nomark _)) pe_str pe_str) (pv 5)) iopAdd))) (pss_one (ps_ret (pv 3))))))))),
    fn_body (N := N_size_text) (k := 0) (Γp := (List.replicate 2 .pu)) (sr := .pu) (fb := b_size_text) (Γi := [.ls, .pu, .pu, .pu]) (Γ' := [.pu, .pu, .pu, .pu, .pu, .pu]) (by decide) rfl (.inl rfl) ⟨rfl, rfl⟩ (sok_seq (sok_setK ⟨rfl, rfl⟩ (np rfl) rfl (eok_lst aok_nil)) (sok_seq (sok_if ⟨rfl, rfl⟩ (tok_test (eok_op r2_ne (eok_op r2_ix (eok_var rfl) eok_int) eok_int)) (sok_drop ⟨rfl, rfl⟩ (eok_mt mok_append rfl (aok_cons (eok_tup (aok_cons (eok_op r2_ix (eok_var rfl) eok_int) (aok_cons (eok_call (aok_cons (eok_cb c1_abs (aok_cons (eok_op r2_ix (eok_var rfl) eok_int) aok_nil)) (aok_cons (eok_var rfl) aok_nil))) aok_nil))) aok_nil))) sok_next) (sok_seq (sok_if ⟨rfl, rfl⟩ (tok_test (eok_op r2_ne (eok_op r2_ix (eok_var rfl) eok_int) eok_int)) (sok_drop ⟨rfl, rfl⟩ (eok_mt mok_append rfl (aok_cons (eok_tup (aok_cons (eok_op r2_ix (eok_var rfl) eok_int) (aok_cons (eok_call (aok_cons (eok_cb c1_abs (aok_cons (eok_op r2_ix (eok_var rfl) eok_int) aok_nil)) (aok_cons (eok_var rfl) aok_nil))) aok_nil))) aok_nil))) sok_next) (sok_frz (i := 2) rfl (sok_seq (sok_if ⟨rfl, rfl⟩ (tok_test (eok_op r2_eq (eok_cb c1_len (aok_cons (eok_var rfl) aok_nil)) eok_int)) (sok_ret ⟨rfl, rfl⟩ eok_str) sok_next) (sok_seq (sok_setK ⟨rfl, rfl⟩ (np rfl) rfl (eok_op r2_add (eok_if (tok_test (eok_op r2_b0 (eok_op r2_ix (eok_op r2_ix (eok_var rfl) eok_int) eok_int) eok_int)) eok_str eok_str) (eok_op r2_ix (eok_op r2_ix (eok_var rfl) eok_int) eok_int))) (sok_seq (sok_for ⟨rfl, rfl⟩ (np2 rfl) (iok_any (eok_sl slok_any (eok_var rfl) (pok_so eok_int) pok_no)) (gok_tup (n := 2) (gsok_cons (gok_nameK (i := 4) rfl) (gsok_cons (gok_nameK (i := 5) rfl) gsok_nil))) (sok_augK ⟨rfl, rfl⟩ (np rfl) rfl r2_iadd (eok_op r2_add (eok_if (tok_test (eok_op r2_b0 (eok_var rfl) eok_int)) eok_str eok_str) (eok_var rfl)))) (sok_ret ⟨rfl, rfl⟩ (eok_var rfl))))))))) h⟩
abbrev s__law_beam : Stmt := top 14
abbrev N__law_beam : List Str := ["script", "beam", "cell"]
theorem sc__law_beam : FnScope N__law_beam ["script"] (defScope s__law_beam) := ⟨rfl, rfl, rfl, by decide +kernel, rfl, by decide +kernel, by decide +kernel⟩
def b__law_beam : DL.Env → Out := (sSeq (sSet 1 (eLst (aCons (eC (.int 5003)) aNil))) (sSeq (sFor (iA (eSl gSl (eVar 0) pNo (pSo (eC (.int 40))))) (gN 2) (sDrop (eMtO 1 gAppend (aCons (eOp (gIC CMod fun i j => i % j) (eOp gAdd (eOp gAdd (eOp gMul (eIxO 1 (eUn gNeg (eC (.int 1)))) (eC (.int 463))) (eOp (gIC CMod fun i j => i % j) (eOp (gIC CMod fun i j => i % j) (eCB gAbs (aCons (eCB gInt (aCons (eVar 2) aNil)) aNil)) (eOp (gIC CPow fun i j => i * 2 ^ j.toNat) (eC (.int 1)) (eC (.int 2000)))) (eC (.int 1000393)))) (eView (eCB gLen (aCons (eVar 1) aNil)))) (eC (.int 1999271))) aNil)))) (sRet (eLst (aCons (eOp gAdd (eVar 1) (eLst (aCons (eOp gAdd (eOp (gIC CDiv fun i j => i / j) (eOp gIx (eVar 1) (eUn gNeg (eC (.int 1)))) (eC (.int 9))) (eC (.int 2))) aNil))) (aCons (eC (.int 0)) (aCons (eOp gAdd (eOp gIx (eVar 1) (eUn gNeg (eC (.int 1)))) (eC (.int 5003))) aNil)))))))
def d__law_beam : Den := mkF 3 0 b__law_beam
abbrev p__law_beam (K : PySem.W.Frag) (mg : Mg) : Sp := spD K mg (List.replicate 1 .pu) .ls d__law_beam
theorem ok__law_beam {P : Program} {w : World} {K : PySem.W.Frag} {mg : Mg} {base : Heap} {C_BadStep C_CallError C_MoveError : Addr} (z : Zs mg) (x : Xs P K mg C_BadStep C_CallError C_MoveError) {f : Addr} {fd : FuncData} (F : Fun K "_law_beam" "_law_beam" s__law_beam f fd) : FnOk P w K mg base (L2.CX P w) 2 f fd ["script"] (p__law_beam K mg) := by
  refine F.okX sc__law_beam (fun vs H Q E h => spD_len h) (fun cdv A outer s H vs Q E hr h => ?_)
  exact ⟨_, (pss_cons (ps_set (i := 1) sc__law_beam.nd rfl (by first | exact Or.inl rfl | exact Or.inr rfl) (pe_lst (pa_cons pe_int pa_nil))) (pss_cons (ps_for (passes_of rfl) rfl (pi_any (pe_slice slAny (pv 0) po_none (po_some pe_int))) (pg_name (i := 2) sc__law_beam.nd rfl (by first | exact Or.inl rfl | exact Or.inr rfl)) (pss_one (ps_expr (pe_bm PySem.F.plainAttrs_list PySem.F.slot_list_append PySem.F.type_list_append mt_append (pv 1) (pa_cons (pe_op op_mod (pe_op opAdd (pe_op opAdd (pe_op opMul (pe_ix ix_seq (pv 1) (pe_un un_neg pe_int) (fun _ _ => rfl)) pe_int) (pe_op op_mod (pe_op op_mod (pe_callB callAbs rfl z.z_abs rfl (pa_cons (pe_callTy callInt rfl z.z_int rfl (pa_cons (pv 2) pa_nil)) pa_nil)) (pe_op op_shl pe_int pe_int)) pe_int)) (pe_callB callLen rfl z.z_len rfl (pa_cons (pv 1) pa_nil))) pe_int) pa_nil))))) (pss_one (ps_ret (pe_lst (pa_cons (pe_op opAdd (pv 1) (pe_lst (pa_cons (pe_op opAdd (pe_op op_fdiv (pe_ix ix_seq (pv 1) (pe_un un_neg pe_int) (fun _ _ => rfl)) pe_int) pe_int) pa_nil))) (pa_cons pe_int (pa_cons (pe_op opAdd (pe_ix ix_seq (pv 1) (pe_un un_neg pe_int) (fun _ _ => rfl)) pe_int) pa_nil)))))))),
    fn_body (N := N__law_beam) (k := 0) (Γp := (List.replicate 1 .pu)) (sr := .ls) (fb := b__law_beam) (Γi := [.ls, .pu]) (Γ' := [.pu, .pu, .pu]) (by decide) rfl (.inr (nn_seq (nn_seq nn_ret))) ⟨rfl, rfl⟩ (sok_seq (sok_setK ⟨rfl, rfl⟩ (np rfl) rfl (eok_lst (aok_cons eok_int aok_nil))) (sok_seq (sok_for ⟨rfl, rfl⟩ (np2 rfl) (iok_any (eok_sl slok_any (eok_var rfl) pok_no (pok_so eok_int))) (gok_nameK (i := 2) rfl) (sok_drop ⟨rfl, rfl⟩ (eok_mt mok_append rfl (aok_cons (eok_op (r2_ic (c := CMod)) (eok_op r2_add (eok_op r2_add (eok_op r2_mul (eok_ixO rfl (eok_un u1_neg eok_int)) eok_int) (eok_op (r2_ic (c := CMod)) (eok_op (r2_ic (c := CMod)) (eok_cb c1_abs (aok_cons (eok_cb c1_int (aok_cons (eok_var rfl) aok_nil)) aok_nil)) (eok_op (r2_ic (c := CPow)) eok_int eok_int)) eok_int)) (eok_view (eok_cb c1_len (aok_cons (eok_var rfl) aok_nil)))) eok_int) aok_nil)))) (sok_frz (i := 1) rfl (sok_ret ⟨rfl, rfl⟩ (eok_lst (aok_cons (eok_op r2_add (eok_var rfl) (eok_frz (eok_lst (aok_cons (eok_op r2_add (eok_op (r2_ic (c := CDiv)) (eok_op r2_ix (eok_var rfl) (eok_un u1_neg eok_int)) eok_int) eok_int) aok_nil)))) (aok_cons eok_int (aok_cons (eok_op r2_add (eok_op r2_ix (eok_var rfl) (eok_un u1_neg eok_int)) eok_int) aok_nil)))))))) h⟩
abbrev s__law_mark : Stmt := top 15
abbrev N__law_mark : List Str := ["beam", "many"]
theorem sc__law_mark : FnScope N__law_mark ["beam", "many"] (defScope s__law_mark) := ⟨rfl, rfl, rfl, by decide +kernel, rfl, by decide +kernel, by decide +kernel⟩
def b__law_mark : DL.Env → Out := (sSeq (sSetI 0 (eOp gAdd (eIxO 0 (eC (.int 1))) (eC (.int 1))) (eC (.int 1))) (sSeq (sSetI 0 (eOp (gIC CMod fun i j => i % j) (eCB gInt (aCons (eOp gAdd (eOp gAdd (eOp gMul (eIxO 0 (eC (.int 2))) (eC (.int 1069))) (eOp gMul (eOp gIx (eIxO 0 (eC (.int 0))) (eOp (gIC CMod fun i j => i % j) (eIxO 0 (eC (.int 1))) (eCB gLen (aCons (eIxO 0 (eC (.int 0))) aNil)))) (eOp gAdd (eIxO 0 (eC (.int 1))) (eC (.int 7))))) (eC (.int 5003))) aNil)) (eC (.int 1999271))) (eC (.int 2))) (sRet (eOp (gIC CMod fun i j => i % j) (eOp (gIC CDiv fun i j => i / j) (eCB gInt (aCons (eIxO 0 (eC (.int 2))) aNil)) (eC (.int 23))) (eVar 1)))))
def d__law_mark : Den := mkF 2 1 b__law_mark
abbrev p__law_mark (K : PySem.W.Frag) (mg : Mg) : Sp := spD K mg (.ls :: List.replicate 1 .pu) .pu d__law_mark
theorem ok__law_mark {P : Program} {w : World} {K : PySem.W.Frag} {mg : Mg} {base : Heap} {C_BadStep C_CallError C_MoveError : Addr} (z : Zs mg) (x : Xs P K mg C_BadStep C_CallError C_MoveError) {f : Addr} {fd : FuncData} (F : Fun K "_law_mark" "_law_mark" s__law_mark f fd) : FnOk P w K mg base (L2.CX P w) 2 f fd ["beam", "many"] (p__law_mark K mg) := by
  refine F.okX sc__law_mark (fun vs H Q E h => spD_len h) (fun cdv A outer s H vs Q E hr h => ?_)
  exact ⟨_, (pss_cons (ps_asg (pe_op opAdd (pe_ix ix_seq (pv 0) pe_int (fun _ _ => rfl)) pe_int) (pg_sub (pv 0) pe_int set_list)) (pss_cons (ps_asg (pe_op op_mod (pe_callTy callInt rfl z.z_int rfl (pa_cons (pe_op opAdd (pe_op opAdd (pe_op opMul (pe_ix ix_seq (pv 0) pe_int (fun _ _ => rfl)) pe_int) (pe_op opMul (pe_ix ix_seq (pe_ix ix_seq (pv 0) pe_int (fun _ _ => rfl)) (pe_op op_mod (pe_ix ix_seq (pv 0) pe_int (fun _ _ => rfl)) (pe_callB callLen rfl z.z_len rfl (pa_cons (pe_ix ix_seq (pv 0) pe_int (fun _ _ => rfl)) pa_nil))) (fun _ _ => rfl)) (pe_op opAdd (pe_ix ix_seq (pv 0) pe_int (fun _ _ => rfl)) pe_int))) pe_int) pa_nil)) pe_int) (pg_sub (pv 0) pe_int set_list)) (pss_one (ps_ret (pe_op op_mod (pe_op op_fdiv (pe_callTy callInt rfl z.z_int rfl (pa_cons (pe_ix ix_seq (pv 0) pe_int (fun _ _ => rfl)) pa_nil)) pe_int) (pv 1)))))),
    fn_body (N := N__law_mark) (k := 1) (Γp := (.ls :: List.replicate 1 .pu)) (sr := .pu) (fb := b__law_mark) (Γi := []) (Γ' := [.ls, .pu]) (by decide) rfl (.inl rfl) ⟨rfl, rfl⟩ (sok_seq (sok_seti ⟨rfl, rfl⟩ rfl (eok_op r2_add (eok_ixO rfl eok_int) eok_int) eok_int) (sok_seq (sok_seti ⟨rfl, rfl⟩ rfl (eok_op (r2_ic (c := CMod)) (eok_cb c1_int (aok_cons (eok_op r2_add (eok_op r2_add (eok_op r2_mul (eok_ixO rfl eok_int) eok_int) (eok_op r2_mul (eok_op r2_ix (eok_ixO rfl eok_int) (eok_op (r2_ic (c := CMod)) (eok_ixO rfl eok_int) (eok_cb c1_len (aok_cons (eok_ixO rfl eok_int) aok_nil)))) (eok_op r2_add (eok_ixO rfl eok_int) eok_int))) eok_int) aok_nil)) eok_int) eok_int) (sok_ret ⟨rfl, rfl⟩ (eok_op (r2_ic (c := CMod)) (eok_op (r2_ic (c := CDiv)) (eok_cb c1_int (aok_cons (eok_ixO rfl eok_int) aok_nil)) eok_int) (eok_var rfl))))) h⟩
abbrev s__law_like : Stmt := top 16
abbrev N__law_like : List Str := ["told", "due", "pairs", "lap", "one", "other"]
theorem sc__law_like : FnScope N__law_like ["told", "due"] (defScope s__law_like) := ⟨rfl, rfl, rfl, by decide +kernel, rfl, by decide +kernel, by decide +kernel⟩
def b__law_like : DL.Env → Out := (sSeq (sSet 2 (eLst (aCons (eTup (aCons (eVar 0) (aCons (eVar 1) aNil))) aNil))) (sSeq (sFor (iR1 (aCons (eC (.int 300000)) aNil)) (gN 3) (sSeq (sIf (tVal (eOp gEq (eView (eCB gLen (aCons (eVar 2) aNil))) (eC (.int 0)))) (sRet (eC (.bl true))) Out.nx) (sSeq (sAsg (eMtO 2 gPop aNil) (gT 2 (gsCons (gN 4) (gsCons (gN 5) gsNil)))) (sIf (tVal (eIsi isTup (eVar 5))) (sSeq (sIf (bOr (bNot (tVal (eIsi isTup (eVar 4)))) (tVal (eOp gNe (eCB gLen (aCons (eVar 4) aNil)) (eCB gLen (aCons (eVar 5) aNil))))) (sRet (eC (.bl false))) Out.nx) (sDrop (eMtO 2 gExtend (aCons (eListZ (aCons (eVar 4) (aCons (eVar 5) aNil))) aNil)))) (sIf (bOr (tVal (eOp gIsN (eVar 5) (eC .non))) (tVal (eOp gIsN (eVar 4) (eC .non)))) (sIf (bOr (tVal (eOp gNotN (eVar 4) (eC .non))) (tVal (eOp gNotN (eVar 5) (eC .non)))) (sRet (eC (.bl false))) Out.nx) (sIf (bOr (tVal (eIsi isStr (eVar 5))) (tVal (eIsi isStr (eVar 4)))) (sIf (bOr (bNot (tVal (eIsi isStr (eVar 5)))) (bOr (bNot (tVal (eIsi isStr (eVar 4)))) (tVal (eOp gNe (eVar 4) (eVar 5))))) (sRet (eC (.bl false))) Out.nx) (sIf (bOr (tVal (eOp gNe (eIsi isBl (eVar 5)) (eIsi isBl (eVar 4)))) (bOr (bNot (tVal (eIsi isInt (eVar 4)))) (tVal (eOp gNe (eVar 4) (eVar 5))))) (sRet (eC (.bl false))) Out.nx))))))) (sRet (eC (.bl false)))))
def d__law_like : Den := mkF 6 0 b__law_like
abbrev p__law_like (K : PySem.W.Frag) (mg : Mg) : Sp := spD K mg (List.replicate 2 .pu) .pu d__law_like
theorem ok__law_like {P : Program} {w : World} {K : PySem.W.Frag} {mg : Mg} {base : Heap} {C_BadStep C_CallError C_MoveError : Addr} (z : Zs mg) (x : Xs P K mg C_BadStep C_CallError C_MoveError) {f : Addr} {fd : FuncData} (F : Fun K "_law_like" "_law_like" s__law_like f fd) : FnOk P w K mg base (L2.CX P w) 2 f fd ["told", "due"] (p__law_like K mg) := by
  refine F.okX sc__law_like (fun vs H Q E h => spD_len h) (fun cdv A outer s H vs Q E hr h => ?_)
  exact ⟨_, (pss_cons (ps_set (i := 2) sc__law_like.nd rfl (by first | exact Or.inl rfl | exact Or.inr rfl) (pe_lst (pa_cons (pe_tup (pa_cons (pv 0) (pa_cons (pv 1) pa_nil))) pa_nil))) (pss_cons (ps_for (passes_of rfl) rfl (pi_range1 rfl z.z_range (pa_cons pe_int pa_nil)) (pg_name (i := 3) sc__law_like.nd rfl (by first | exact Or.inl rfl | exact Or.inr rfl)) (pss_cons (ps_if (pt_cmpR (opEq (Room.u64 hr)) (pe_callB callLen rfl z.z_len rfl (pa_cons (pv 2) pa_nil)) pe_int (nomark _)) (pss_one (ps_ret pe_bl)) pss_nil) (pss_cons (ps_asg (pe_bm0 PySem.F.plainAttrs_list PySem.F.slot_list_pop PySem.F.type_list_pop mt_pop (pv 2)) (pg_tup rfl (pgs_cons (pg_name (i := 4) sc__law_like.nd rfl (by first | exact Or.inl rfl | exact Or.inr rfl)) (pgs_cons (pg_name (i := 5) sc__law_like.nd rfl (by first | exact Or.inl rfl | exact Or.inr rfl)) pgs_nil)))) (pss_one (ps_if (pt_val (pe_callB call_isi rfl z.z_isinstance rfl (pa_cons (pv 5) (pa_cons (pe_bltn (v := .ty "tuple") rfl z.z_tuple (by decide +kernel) rfl) pa_nil)))) (pss_cons (ps_if (PW.pt (pw_or (pt_not (pt_val (pe_callB call_isi rfl z.z_isinstance rfl (pa_cons (pv 4) (pa_cons (pe_bltn (v := .ty "tuple") rfl z.z_tuple (by decide +kernel) rfl) pa_nil))))) (pw_or1 (pt_cmpR (opNe (Room.u64 hr)) (pe_callB callLen rfl z.z_len rfl (pa_cons (pv 4) pa_nil)) (pe_callB callLen rfl z.z_len rfl (pa_cons (pv 5) pa_nil)) (nomark _))))) (pss_one (ps_ret pe_bl)) pss_nil) (pss_one (ps_expr (pe_bm PySem.F.plainAttrs_list PySem.F.slot_list_extend PySem.F.type_list_extend mt_extend (pv 2) (pa_cons (pe_listZ rfl rfl z.z_zip rfl z.z_list (pa_cons (pv 4) (pa_cons (pv 5) pa_nil))) pa_nil))))) (pss_one (ps_if (PW.pt (pw_or (pt_cmpR opIsN (pv 5) pe_non (nomark _)) (pw_or1 (pt_cmpR opIsN (pv 4) pe_non (nomark _))))) (pss_one (ps_if (PW.pt (pw_or (pt_cmpR opNotN (pv 4) pe_non (nomark _)) (pw_or1 (pt_cmpR opNotN (pv 5) pe_non (nomark _))))) (pss_one (ps_ret pe_bl)) pss_nil)) (pss_one (ps_if (PW.pt (pw_or (pt_val (pe_callB call_isi rfl z.z_isinstance rfl (pa_cons (pv 5) (pa_cons (pe_bltn (v := .ty "str") rfl z.z_str (by decide +kernel) rfl) pa_nil)))) (pw_or1 (pt_val (pe_callB call_isi rfl z.z_isinstance rfl (pa_cons (pv 4) (pa_cons (pe_bltn (v := .ty "str") rfl z.z_str (by decide +kernel) rfl) pa_nil))))))) (pss_one (ps_if (PW.pt (pw_or (pt_not (pt_val (pe_callB call_isi rfl z.z_isinstance rfl (pa_cons (pv 5) (pa_cons (pe_bltn (v := .ty "str") rfl z.z_str (by decide +kernel) rfl) pa_nil))))) (pw_or (pt_not (pt_val (pe_callB call_isi rfl z.z_isinstance rfl (pa_cons (pv 4) (pa_cons (pe_bltn (v := .ty "str") rfl z.z_str (by decide +kernel) rfl) pa_nil))))) (pw_or1 (pt_cmpR (opNe (Room.u64 hr)) (pv 4) (pv 5) (nomark _)))))) (pss_one (ps_ret pe_bl)) pss_nil)) (pss_one (ps_if (PW.pt (pw_or (pt_cmpR (opNe (Room.u64 hr)) (pe_callB call_isi rfl z.z_isinstance rfl (pa_cons (pv 5) (pa_cons (pe_bltn (v := .ty "bool") rfl z.z_bool (by decide +kernel) rfl) pa_nil))) (pe_callB call_isi rfl z.z_isinstance rfl (pa_cons (pv 4) (pa_cons (pe_bltn (v := .ty "bool") rfl z.z_bool (by decide +kernel) rfl) pa_nil))) (nomark _)) (pw_or (pt_not (pt_val (pe_callB call_isi rfl z.z_isinstance rfl (pa_cons (pv 4) (pa_cons (pe_bltn (v := .ty "int") rfl z.z_int (by decide +kernel) rfl) pa_nil))))) (pw_or1 (pt_cmpR (opNe (Room.u64 hr)) (pv 4) (pv 5) (nomark _)))))) (pss_one (ps_ret pe_bl)) pss_nil))))))))))) (pss_one (ps_ret pe_bl)))),
    fn_body (N := N__law_like) (k := 0) (Γp := (List.replicate 2 .pu)) (sr := .pu) (fb := b__law_like) (Γi := [.ls, .pu, .pu, .pu]) (Γ' := [.pu, .pu, .ls, .pu, .pu, .pu]) (by decide) rfl (.inl rfl) ⟨rfl, rfl⟩ (sok_seq (sok_setK ⟨rfl, rfl⟩ (np rfl) rfl (eok_lst (aok_cons (eok_tup (aok_cons (eok_var rfl) (aok_cons (eok_var rfl) aok_nil))) aok_nil))) (sok_seq (sok_for ⟨rfl, rfl⟩ (np2 rfl) (iok_range1 (aok_cons eok_int aok_nil)) (gok_nameK (i := 3) rfl) (sok_seq (sok_if ⟨rfl, rfl⟩ (tok_test (eok_op r2_eq (eok_view (eok_cb c1_len (aok_cons (eok_var rfl) aok_nil))) eok_int)) (sok_ret ⟨rfl, rfl⟩ eok_bl) sok_next) (sok_seq (sok_asg ⟨rfl, rfl⟩ (np2 rfl) (eok_mt0 mok_pop rfl) (gok_tup (n := 2) (gsok_cons (gok_nameK (i := 4) rfl) (gsok_cons (gok_nameK (i := 5) rfl) gsok_nil)))) (sok_if ⟨rfl, rfl⟩ (tok_b (eok_isi ty_tup (eok_var rfl))) (sok_seq (sok_if ⟨rfl, rfl⟩ (tok_or (tok_not (tok_b (eok_isi ty_tup (eok_var rfl)))) (tok_test (eok_op r2_ne (eok_cb c1_len (aok_cons (eok_var rfl) aok_nil)) (eok_cb c1_len (aok_cons (eok_var rfl) aok_nil))))) (sok_ret ⟨rfl, rfl⟩ eok_bl) sok_next) (sok_drop ⟨rfl, rfl⟩ (eok_mt mok_extend rfl (aok_cons (eok_frz (eok_listZ (aok_cons (eok_var rfl) (aok_cons (eok_var rfl) aok_nil)))) aok_nil)))) (sok_if ⟨rfl, rfl⟩ (tok_or (tok_test (eok_op r2_isN (eok_var rfl) eok_non)) (tok_test (eok_op r2_isN (eok_var rfl) eok_non))) (sok_if ⟨rfl, rfl⟩ (tok_or (tok_test (eok_op r2_notN (eok_var rfl) eok_non)) (tok_test (eok_op r2_notN (eok_var rfl) eok_non))) (sok_ret ⟨rfl, rfl⟩ eok_bl) sok_next) (sok_if ⟨rfl, rfl⟩ (tok_or (tok_b (eok_isi ty_str (eok_var rfl))) (tok_b (eok_isi ty_str (eok_var rfl)))) (sok_if ⟨rfl, rfl⟩ (tok_or (tok_not (tok_b (eok_isi ty_str (eok_var rfl)))) (tok_or (tok_not (tok_b (eok_isi ty_str (eok_var rfl)))) (tok_test (eok_op r2_ne (eok_var rfl) (eok_var rfl))))) (sok_ret ⟨rfl, rfl⟩ eok_bl) sok_next) (sok_if ⟨rfl, rfl⟩ (tok_or (tok_test (eok_op r2_ne (eok_isi ty_bl (eok_var rfl)) (eok_isi ty_bl (eok_var rfl)))) (tok_or (tok_not (tok_b (eok_isi ty_int (eok_var rfl)))) (tok_test (eok_op r2_ne (eok_var rfl) (eok_var rfl))))) (sok_ret ⟨rfl, rfl⟩ eok_bl) sok_next))))))) (sok_ret ⟨rfl, rfl⟩ eok_bl))) h⟩
abbrev s__law_number : Stmt := top 17
abbrev N__law_number : List Str := ["beam"]
theorem sc__law_number : FnScope N__law_number ["beam"] (defScope s__law_number) := ⟨rfl, rfl, rfl, by decide +kernel, rfl, by decide +kernel, by decide +kernel⟩
def b__law_number : DL.Env → Out := (sRet (eOp gIx (eTup (aCons (eC (.int 0)) (aCons (eC (.int 1)) (aCons (eUn gNeg (eC (.int 1))) (aCons (eC (.int 2)) (aCons (eUn gNeg (eC (.int 2))) (aCons (eC (.int 3)) (aCons (eC (.int 4)) (aCons (eUn gNeg (eC (.int 4))) (aCons (eC (.int 6)) (aCons (eC (.int 8)) (aCons (eUn gNeg (eC (.int 8))) (aCons (eC (.int 12)) (aCons (eC (.int 16)) (aCons (eC (.int 32)) (aCons (eUn gNeg (eC (.int 33))) (aCons (eC (.int 200)) (aCons (eUn gNeg (eC (.int 1000))) (aCons (eC (.int 5)) aNil))))))))))))))))))) (eCallO 0 1 d__law_mark (aCons (eC (.int 18)) aNil))))
def d__law_number : Den := mkF 1 1 b__law_number
abbrev p__law_number (K : PySem.W.Frag) (mg : Mg) : Sp := spD K mg (.ls :: List.replicate 0 .pu) .pu d__law_number
theorem ok__law_number {P : Program} {w : World} {K : PySem.W.Frag} {mg : Mg} {base : Heap} {C_BadStep C_CallError C_MoveError : Addr} (z : Zs mg) (x : Xs P K mg C_BadStep C_CallError C_MoveError) (g__law_mark : Df P w K mg base "_law_mark" s__law_mark ["beam", "many"] 2 (p__law_mark K mg)) {f : Addr} {fd : FuncData} (F : Fun K "_law_number" "_law_number" s__law_number f fd) : FnOk P w K mg base (L2.CX P w) 4 f fd ["beam"] (p__law_number K mg) := by
  refine F.okX sc__law_number (fun vs H Q E h => spD_len h) (fun cdv A outer s H vs Q E hr h => ?_)
  exact ⟨_, (pss_one (ps_ret (pe_ix ix_seq (pe_tup (pa_cons pe_int (pa_cons pe_int (pa_cons (pe_un un_neg pe_int) (pa_cons pe_int (pa_cons (pe_un un_neg pe_int) (pa_cons pe_int (pa_cons pe_int (pa_cons (pe_un un_neg pe_int) (pa_cons pe_int (pa_cons pe_int (pa_cons (pe_un un_neg pe_int) (pa_cons pe_int (pa_cons pe_int (pa_cons pe_int (pa_cons (pe_un un_neg pe_int) (pa_cons pe_int (pa_cons (pe_un un_neg pe_int) (pa_cons pe_int pa_nil))))))))))))))))))) (pe_df g__law_mark (hr.mono (by decide)) rfl (takes_of rfl rfl rfl rfl) (pa_cons (pv 0) (pa_cons pe_int pa_nil))) (fun _ _ => rfl)))),
    fn_body (N := N__law_number) (k := 1) (Γp := (.ls :: List.replicate 0 .pu)) (sr := .pu) (fb := b__law_number) (Γi := []) (Γ' := [.ls]) (by decide) rfl (.inl rfl) ⟨rfl, rfl⟩ (sok_ret ⟨rfl, rfl⟩ (eok_op r2_ix (eok_tup (aok_cons eok_int (aok_cons eok_int (aok_cons (eok_un u1_neg eok_int) (aok_cons eok_int (aok_cons (eok_un u1_neg eok_int) (aok_cons eok_int (aok_cons eok_int (aok_cons (eok_un u1_neg eok_int) (aok_cons eok_int (aok_cons eok_int (aok_cons (eok_un u1_neg eok_int) (aok_cons eok_int (aok_cons eok_int (aok_cons eok_int (aok_cons (eok_un u1_neg eok_int) (aok_cons eok_int (aok_cons (eok_un u1_neg eok_int) (aok_cons eok_int aok_nil))))))))))))))))))) (eok_callO rfl (aok_cons eok_int aok_nil)))) h⟩
abbrev s__law_worth : Stmt := top 18
abbrev N__law_worth : List Str := ["size", "parts", "length", "whole"]
theorem sc__law_worth : FnScope N__law_worth ["size", "parts", "length"] (defScope s__law_worth) := ⟨rfl, rfl, rfl, by decide +kernel, rfl, by decide +kernel, by decide +kernel⟩
def b__law_worth : DL.Env → Out := (sSeq (sSet 3 (eOp gAdd (eOp gMul (eOp gIx (eVar 0) (eC (.int 0))) (eVar 2)) (eOp gIx (eVar 0) (eC (.int 1))))) (sRet (eIf (tVal (eOp gEq (eOp (gIC CMod fun i j => i % j) (eCB gInt (aCons (eVar 3) aNil)) (eVar 1)) (eC (.int 0)))) (eTup (aCons (eC (.str "told")) (aCons (eOp (gIC CDiv fun i j => i / j) (eVar 3) (eVar 1)) aNil))) (eTup (aCons (eC (.str "step")) (aCons (eC (.str "whole")) aNil))))))
def d__law_worth : Den := mkF 4 0 b__law_worth
abbrev p__law_worth (K : PySem.W.Frag) (mg : Mg) : Sp := spD K mg (List.replicate 3 .pu) .pu d__law_worth
theorem ok__law_worth {P : Program} {w : World} {K : PySem.W.Frag} {mg : Mg} {base : Heap} {C_BadStep C_CallError C_MoveError : Addr} (z : Zs mg) (x : Xs P K mg C_BadStep C_CallError C_MoveError) {f : Addr} {fd : FuncData} (F : Fun K "_law_worth" "_law_worth" s__law_worth f fd) : FnOk P w K mg base (L2.CX P w) 2 f fd ["size", "parts", "length"] (p__law_worth K mg) := by
  refine F.okX sc__law_worth (fun vs H Q E h => spD_len h) (fun cdv A outer s H vs Q E hr h => ?_)
  exact ⟨_, (pss_cons (ps_set (i := 3) sc__law_worth.nd rfl (by first | exact Or.inl rfl | exact Or.inr rfl) (pe_op opAdd (pe_op opMul (pe_ix ix_seq (pv 0) pe_int (fun _ _ => rfl)) (pv 2)) (pe_ix ix_seq (pv 0) pe_int (fun _ _ => rfl)))) (pss_one (ps_ret (pe_ifExp (pt_cmpR (opEq (Room.u64 hr)) (pe_op op_mod (pe_callTy callInt rfl z.z_int rfl (pa_cons (pv 3) pa_nil)) (pv 1)) pe_int (nomark _)) (pe_tup (pa_cons pe_str (pa_cons (pe_op op_fdiv (pv 3) (pv 1)) pa_nil))) (pe_tup (pa_cons pe_str (pa_cons pe_str pa_nil))))))),
    fn_body (N := N__law_worth) (k := 0) (Γp := (List.replicate 3 .pu)) (sr := .pu) (fb := b__law_worth) (Γi := [.pu]) (Γ' := [.pu, .pu, .pu, .pu]) (by decide) rfl (.inl rfl) ⟨rfl, rfl⟩ (sok_seq (sok_setK ⟨rfl, rfl⟩ (np rfl) rfl (eok_op r2_add (eok_op r2_mul (eok_op r2_ix (eok_var rfl) eok_int) (eok_var rfl)) (eok_op r2_ix (eok_var rfl) eok_int))) (sok_ret ⟨rfl, rfl⟩ (eok_if (tok_test (eok_op r2_eq (eok_op (r2_ic (c := CMod)) (eok_cb c1_int (aok_cons (eok_var rfl) aok_nil)) (eok_var rfl)) eok_int)) (eok_tup (aok_cons eok_str (aok_cons (eok_op (r2_ic (c := CDiv)) (eok_var rfl) (eok_var rfl)) aok_nil))) (eok_tup (aok_cons eok_str (aok_cons eok_str aok_nil)))))) h⟩
abbrev s__law_heard : Stmt := top 19
abbrev N__law_heard : List Str := ["size", "parts", "length", "why"]
theorem sc__law_heard : FnScope N__law_heard ["size", "parts", "length"] (defScope s__law_heard) := ⟨rfl, rfl, rfl, by decide +kernel, rfl, by decide +kernel, by decide +kernel⟩
def b__law_heard : DL.Env → Out := (sTryAs 3 [(4, true)] (sRet (eTup (aCons (eC (.str "told")) (aCons (eCall 3 d_size_at (aCons (eVar 0) (aCons (eVar 1) (aCons (eVar 2) aNil)))) aNil)))) (fun e => (sRet (eIf (bAnd (tVal (eIsX e [(4, true)])) (tVal (eIsX e [(4, true)]))) (eTup (aCons (eC (.str "step")) (aCons (eWhy e 4 "word") aNil))) (eTup (aCons (eC (.str "other")) (aCons (eC (.str "")) aNil)))))))
def d__law_heard : Den := mkF 4 0 b__law_heard
abbrev p__law_heard (K : PySem.W.Frag) (mg : Mg) : Sp := spD K mg (List.replicate 3 .pu) .pu d__law_heard
theorem ok__law_heard {P : Program} {w : World} {K : PySem.W.Frag} {mg : Mg} {base : Heap} {C_BadStep C_CallError C_MoveError : Addr} (z : Zs mg) (x : Xs P K mg C_BadStep C_CallError C_MoveError) (g_size_at : Df P w K mg base "size_at" s_size_at ["size", "parts", "length"] 2 (p_size_at K mg)) {f : Addr} {fd : FuncData} (F : Fun K "_law_heard" "_law_heard" s__law_heard f fd) : FnOk P w K mg base (L2.CX P w) 4 f fd ["size", "parts", "length"] (p__law_heard K mg) := by
  refine F.okX sc__law_heard (fun vs H Q E h => spD_len h) (fun cdv A outer s H vs Q E hr h => ?_)
  exact ⟨_, (pss_one (ps_tryA (i := 3) rfl rfl sc__law_heard.nd rfl rfl ⟨rfl, by decide, Or.inl x.g_BadStep⟩ (takes_of rfl rfl rfl rfl) (fun W pn xe tk hp => (pss_one (ps_ret (pe_tup (pa_cons pe_str (pa_cons (pe_df g_size_at (hr.mono (by decide)) rfl tk (pa_cons (pv 0) (pa_cons (pv 1) (pa_cons (pv 2) pa_nil)))) pa_nil)))))) (fun a oe cls d pn hz hf => (pss_one (ps_ret (pe_ifExp (PW.pt (pw_and (pt_val (pe_callB (call_isX hz hf) rfl z.z_isinstance rfl (pa_cons (pv 3) (pa_cons (pe_glob (v := .ref C_CallError) rfl x.g_CallError rfl) pa_nil)))) (pw_and1 (pt_val (pe_callB (call_isX hz hf) rfl z.z_isinstance rfl (pa_cons (pv 3) (pa_cons (pe_glob (v := .ref C_MoveError) rfl x.g_MoveError rfl) pa_nil))))))) (pe_tup (pa_cons pe_str (pa_cons (pe_byEx x.t_BadStep (by decide) hz hf (pv 3)) pa_nil))) (pe_tup (pa_cons pe_str (pa_cons pe_str pa_nil))))))))),
    fn_body (N := N__law_heard) (k := 0) (Γp := (List.replicate 3 .pu)) (sr := .pu) (fb := b__law_heard) (Γi := [.pu]) (Γ' := [.pu, .pu, .pu, .pu]) (by decide) rfl (.inl rfl) ⟨rfl, rfl⟩ (sok_tryA (C := (cfF E (List.replicate 3 .pu) .pu 4 0)) (i := 3) (cs := [(4, true)]) (by exact ⟨rfl, rfl⟩) (np rfl) rfl ⟨⟨_, x.t_BadStep.gC, x.m_BadStep_BadStep⟩, trivial⟩ (fun W' => (sok_ret rfl (eok_tup (aok_cons eok_str (aok_cons (eok_call (aok_cons (eok_var rfl) (aok_cons (eok_var rfl) (aok_cons (eok_var rfl) aok_nil)))) aok_nil))))) (fun a e cls p l hx => (sok_ret (by exact ⟨rfl, rfl⟩) (eok_if (tok_and (tok_b (eok_isx x.i_BadStep_CallError hx)) (tok_b (eok_isx x.i_BadStep_MoveError hx))) (eok_tup (aok_cons eok_str (aok_cons (eok_why x.t_BadStep.gC hx) aok_nil))) (eok_tup (aok_cons eok_str (aok_cons eok_str aok_nil))))))) h⟩
abbrev s__law_fraction : Stmt := top 20
abbrev N__law_fraction : List Str := ["number", "parts", "lap"]
theorem sc__law_fraction : FnScope N__law_fraction ["number", "parts"] (defScope s__law_fraction) := ⟨rfl, rfl, rfl, by decide +kernel, rfl, by decide +kernel, by decide +kernel⟩
def b__law_fraction : DL.Env → Out := (sSeq (sFor (iR1 (aCons (eC (.int 6)) aNil)) (gN 2) (sIf (bAnd (tVal (eOp (gB0 fun i j => decide (j < i)) (eVar 1) (eC (.int 1)))) (tVal (eOp gEq (eOp (gIC CMod fun i j => i % j) (eCB gInt (aCons (eVar 0) aNil)) (eC (.int 2))) (eC (.int 0))))) (sPar 0 1 (aCons (eOp (gIC CDiv fun i j => i / j) (eVar 0) (eC (.int 2))) (aCons (eOp (gIC CDiv fun i j => i / j) (eVar 1) (eC (.int 2))) aNil))) Out.nx)) (sRet (eIf (tVal (eOp gEq (eVar 1) (eC (.int 1)))) (eCB gStr (aCons (eVar 0) aNil)) (eOp gAdd (eOp gAdd (eCB gStr (aCons (eVar 0) aNil)) (eC (.str "/"))) (eCB gStr (aCons (eVar 1) aNil))))))
def d__law_fraction : Den := mkF 3 0 b__law_fraction
abbrev p__law_fraction (K : PySem.W.Frag) (mg : Mg) : Sp := spD K mg (List.replicate 2 .pu) .pu d__law_fraction
theorem ok__law_fraction {P : Program} {w : World} {K : PySem.W.Frag} {mg : Mg} {base : Heap} {C_BadStep C_CallError C_MoveError : Addr} (z : Zs mg) (x : Xs P K mg C_BadStep C_CallError C_MoveError) {f : Addr} {fd : FuncData} (F : Fun K "_law_fraction" "_law_fraction" s__law_fraction f fd) : FnOk P w K mg base (L2.CX P w) 2 f fd ["number", "parts"] (p__law_fraction K mg) := by
  refine F.okX sc__law_fraction (fun vs H Q E h => spD_len h) (fun cdv A outer s H vs Q E hr h => ?_)
  exact ⟨_, (pss_cons (ps_for (passes_of rfl) rfl (pi_range1 rfl z.z_range (pa_cons pe_int pa_nil)) (pg_name (i := 2) sc__law_fraction.nd rfl (by first | exact Or.inl rfl | exact Or.inr rfl)) (pss_one (ps_if (PW.pt (pw_and (pt_cmpR op_gt (pv 1) pe_int (nomark _)) (pw_and1 (pt_cmpR (opEq (Room.u64 hr)) (pe_op op_mod (pe_callTy callInt rfl z.z_int rfl (pa_cons (pv 0) pa_nil)) pe_int) pe_int (nomark _))))) (pss_one (ps_par (i := 0) (j := 1) rfl sc__law_fraction.nd rfl rfl (by decide) rfl rfl (pa_cons (pe_op op_fdiv (pv 0) pe_int) (pa_cons (pe_op op_fdiv (pv 1) pe_int) pa_nil)) rfl)) pss_nil))) (pss_one (ps_ret (pe_ifExp (pt_cmpR (opEq (Room.u64 hr)) (pv 1) pe_int (nomark _)) (pe_callTy callStr rfl z.z_str rfl (pa_cons (pv 0) pa_nil)) (pe_op opAdd (pe_op opAdd (pe_callTy callStr rfl z.z_str rfl (pa_cons (pv 0) pa_nil)) pe_str) (pe_callTy callStr rfl z.z_str rfl (pa_cons (pv 1) pa_nil))))))),
    fn_body (N := N__law_fraction) (k := 0) (Γp := (List.replicate 2 .pu)) (sr := .pu) (fb := b__law_fraction) (Γi := [.pu]) (Γ' := [.pu, .pu, .pu]) (by decide) rfl (.inl rfl) ⟨rfl, rfl⟩ (sok_seq (sok_for ⟨rfl, rfl⟩ (np2 rfl) (iok_range1 (aok_cons eok_int aok_nil)) (gok_nameK (i := 2) rfl) (sok_if ⟨rfl, rfl⟩ (tok_and (tok_test (eok_op r2_b0 (eok_var rfl) eok_int)) (tok_test (eok_op r2_eq (eok_op (r2_ic (c := CMod)) (eok_cb c1_int (aok_cons (eok_var rfl) aok_nil)) eok_int) eok_int))) (sok_parK ⟨rfl, rfl⟩ (np rfl) (np rfl) rfl rfl (aok_cons (eok_op (r2_ic (c := CDiv)) (eok_var rfl) eok_int) (aok_cons (eok_op (r2_ic (c := CDiv)) (eok_var rfl) eok_int) aok_nil))) sok_next)) (sok_ret ⟨rfl, rfl⟩ (eok_if (tok_test (eok_op r2_eq (eok_var rfl) eok_int)) (eok_cb c1_str (aok_cons (eok_var rfl) aok_nil)) (eok_op r2_add (eok_op r2_add (eok_cb c1_str (aok_cons (eok_var rfl) aok_nil)) eok_str) (eok_cb c1_str (aok_cons (eok_var rfl) aok_nil)))))) h⟩
abbrev s__law_text : Stmt := top 21
abbrev N__law_text : List Str := ["size", "parts", "a", "c", "told", "many"]
theorem sc__law_text : FnScope N__law_text ["size", "parts"] (defScope s__law_text) := ⟨rfl, rfl, rfl, by decide +kernel, rfl, by decide +kernel, by decide +kernel⟩
def b__law_text : DL.Env → Out := (sSeq (sAsg (eVar 0) (gT 2 (gsCons (gN 2) (gsCons (gN 3) gsNil)))) (sSeq (sSet 4 (eC (.str ""))) (sSeq (sIf (tVal (eOp gNe (eVar 2) (eC (.int 0)))) (sSeq (sSet 5 (eCall 2 d__law_fraction (aCons (eCB gAbs (aCons (eVar 2) aNil)) (aCons (eVar 1) aNil)))) (sSeq (sSet 4 (eOp gAdd (eIf (tVal (eOp (gB0 fun i j => decide (i < j)) (eVar 2) (eC (.int 0)))) (eC (.str "-")) (eC (.str ""))) (eIf (tVal (eOp gEq (eVar 5) (eC (.str "1")))) (eC (.str "n")) (eOp gAdd (eVar 5) (eC (.str " n")))))) (sSeq (sIf (tVal (eOp gNe (eVar 3) (eC (.int 0)))) (sSet 4 (eOp gAdd (eOp gAdd (eVar 4) (eIf (tVal (eOp (gB0 fun i j => decide (i < j)) (eVar 3) (eC (.int 0)))) (eC (.str " - ")) (eC (.str " + ")))) (eCall 2 d__law_fraction (aCons (eCB gAbs (aCons (eVar 3) aNil)) (aCons (eVar 1) aNil))))) Out.nx) (sRet (eVar 4))))) Out.nx) (sRet (eOp gAdd (eIf (tVal (eOp (gB0 fun i j => decide (i < j)) (eVar 3) (eC (.int 0)))) (eC (.str "-")) (eC (.str ""))) (eCall 2 d__law_fraction (aCons (eCB gAbs (aCons (eVar 3) aNil)) (aCons (eVar 1) aNil))))))))
def d__law_text : Den := mkF 6 0 b__law_text
abbrev p__law_text (K : PySem.W.Frag) (mg : Mg) : Sp := spD K mg (List.replicate 2 .pu) .pu d__law_text
theorem ok__law_text {P : Program} {w : World} {K : PySem.W.Frag} {mg : Mg} {base : Heap} {C_BadStep C_CallError C_MoveError : Addr} (z : Zs mg) (x : Xs P K mg C_BadStep C_CallError C_MoveError) (g__law_fraction : Df P w K mg base "_law_fraction" s__law_fraction ["number", "parts"] 2 (p__law_fraction K mg)) {f : Addr} {fd : FuncData} (F : Fun K "_law_text" "_law_text" s__law_text f fd) : FnOk P w K mg base (L2.CX P w) 4 f fd ["size", "parts"] (p__law_text K mg) := by
  refine F.okX sc__law_text (fun vs H Q E h => spD_len h) (fun cdv A outer s H vs Q E hr h => ?_)
  exact ⟨_, (pss_cons (ps_asg (pv 0) (pg_tup rfl (pgs_cons (pg_name (i := 2) sc__law_text.nd rfl (by first | exact Or.inl rfl | exact Or.inr rfl)) (pgs_cons (pg_name (i := 3) sc__law_text.nd rfl (by first | exact Or.inl rfl | exact Or.inr rfl)) pgs_nil)))) (pss_cons (ps_set (i := 4) sc__law_text.nd rfl (by first | exact Or.inl rfl | exact Or.inr rfl) pe_str) (pss_cons (ps_if (pt_cmpR (opNe (Room.u64 hr)) (pv 2) pe_int (nomark _)) (pss_cons (ps_set (i := 5) sc__law_text.nd rfl (by first | exact Or.inl rfl | exact Or.inr rfl) (pe_df g__law_fraction (hr.mono (by decide)) rfl (takes_of rfl rfl rfl rfl) (pa_cons (pe_callB callAbs rfl z.z_abs rfl (pa_cons (pv 2) pa_nil)) (pa_cons (pv 1) pa_nil)))) (pss_cons (ps_set (i := 4) sc__law_text.nd rfl (by first | exact Or.inl rfl | exact Or.inr rfl) (pe_op opAdd (pe_ifExp (pt_cmpR op_lt (pv 2) pe_int (nomark _)) pe_str pe_str) (pe_ifExp (pt_cmpR (opEq (Room.u64 hr)) (pv 5) pe_str (nomark _)) pe_str (pe_op opAdd (pv 5) pe_str)))) (pss_cons (ps_if (pt_cmpR (opNe (Room.u64 hr)) (pv 3) pe_int (nomark _)) (pss_one (ps_set (i := 4) sc__law_text.nd rfl (by first | exact Or.inl rfl | exact Or.inr rfl) (pe_op opAdd (pe_op opAdd (pv 4) (pe_ifExp (pt_cmpR op_lt (pv 3) pe_int (nomark _)) pe_str pe_str)) (pe_df g__law_fraction (hr.mono (by decide)) rfl (takes_of rfl rfl rfl rfl) (pa_cons (pe_callB callAbs rfl z.z_abs rfl (pa_cons (pv 3) pa_nil)) (pa_cons (pv 1) pa_nil)))))) pss_nil) (pss_one (ps_ret (pv 4)))))) pss_nil) (pss_one (ps_ret (pe_op opAdd (pe_ifExp (pt_cmpR op_lt (pv 3) pe_int (nomark _)) pe_str pe_str) (pe_df g__law_fraction (hr.mono (by decide)) rfl (takes_of rfl rfl rfl rfl) (pa_cons (pe_callB callAbs rfl z.z_abs rfl (pa_cons (pv 3) pa_nil)) (pa_cons (pv 1) pa_nil))))))))),
    fn_body (N := N__law_text) (k := 0) (Γp := (List.replicate 2 .pu)) (sr := .pu) (fb := b__law_text) (Γi := [.pu, .pu, .pu, .pu]) (Γ' := [.pu, .pu, .pu, .pu, .pu, .pu]) (by decide) rfl (.inl rfl) ⟨rfl, rfl⟩ (sok_seq (sok_asg ⟨rfl, rfl⟩ (np2 rfl) (eok_var rfl) (gok_tup (n := 2) (gsok_cons (gok_nameK (i := 2) rfl) (gsok_cons (gok_nameK (i := 3) rfl) gsok_nil)))) (sok_seq (sok_setK ⟨rfl, rfl⟩ (np rfl) rfl eok_str) (sok_seq (sok_if ⟨rfl, rfl⟩ (tok_test (eok_op r2_ne (eok_var rfl) eok_int)) (sok_seq (sok_setK ⟨rfl, rfl⟩ (np rfl) rfl (eok_call (aok_cons (eok_cb c1_abs (aok_cons (eok_var rfl) aok_nil)) (aok_cons (eok_var rfl) aok_nil)))) (sok_seq (sok_setK ⟨rfl, rfl⟩ (np rfl) rfl (eok_op r2_add (eok_if (tok_test (eok_op r2_b0 (eok_var rfl) eok_int)) eok_str eok_str) (eok_if (tok_test (eok_op r2_eq (eok_var rfl) eok_str)) eok_str (eok_op r2_add (eok_var rfl) eok_str)))) (sok_seq (sok_if ⟨rfl, rfl⟩ (tok_test (eok_op r2_ne (eok_var rfl) eok_int)) (sok_setK ⟨rfl, rfl⟩ (np rfl) rfl (eok_op r2_add (eok_op r2_add (eok_var rfl) (eok_if (tok_test (eok_op r2_b0 (eok_var rfl) eok_int)) eok_str eok_str)) (eok_call (aok_cons (eok_cb c1_abs (aok_cons (eok_var rfl) aok_nil)) (aok_cons (eok_var rfl) aok_nil))))) sok_next) (sok_ret ⟨rfl, rfl⟩ (eok_var rfl))))) sok_next) (sok_ret ⟨rfl, rfl⟩ (eok_op r2_add (eok_if (tok_test (eok_op r2_b0 (eok_var rfl) eok_int)) eok_str eok_str) (eok_call (aok_cons (eok_cb c1_abs (aok_cons (eok_var rfl) aok_nil)) (aok_cons (eok_var rfl) aok_nil)))))))) h⟩
abbrev s__law_asked : Stmt := top 22
abbrev N__law_asked : List Str := ["beam", "parts", "one", "other", "length", "size"]
theorem sc__law_asked : FnScope N__law_asked ["beam"] (defScope s__law_asked) := ⟨rfl, rfl, rfl, by decide +kernel, rfl, by decide +kernel, by decide +kernel⟩
def b__law_asked : DL.Env → Out := (sSeq (sSet 1 (eOp gIx (eTup (aCons (eC (.int 1)) (aCons (eC (.int 2)) (aCons (eC (.int 4)) (aCons (eC (.int 8)) (aCons (eC (.int 16)) (aCons (eC (.int 32)) aNil))))))) (eCallO 0 1 d__law_mark (aCons (eC (.int 6)) aNil)))) (sSeq (sPar 2 3 (aCons (eTup (aCons (eCallO 0 0 d__law_number aNil) (aCons (eCallO 0 0 d__law_number aNil) aNil))) (aCons (eTup (aCons (eCallO 0 0 d__law_number aNil) (aCons (eCallO 0 0 d__law_number aNil) aNil))) aNil))) (sSeq (sIf (bNot (tVal (eCall 2 d__law_like (aCons (eTup (aCons (eCall 2 d_size_sum (aCons (eVar 2) (aCons (eVar 3) aNil))) (aCons (eCall 2 d_size_less (aCons (eVar 2) (aCons (eVar 3) aNil))) (aCons (eCall 2 d_size_text (aCons (eVar 2) (aCons (eVar 1) aNil))) aNil)))) (aCons (eTup (aCons (eTup (aCons (eOp gAdd (eOp gIx (eVar 2) (eC (.int 0))) (eOp gIx (eVar 3) (eC (.int 0)))) (aCons (eOp gAdd (eOp gIx (eVar 2) (eC (.int 1))) (eOp gIx (eVar 3) (eC (.int 1)))) aNil))) (aCons (eTup (aCons (eOp (gI0 fun i j => i - j) (eOp gIx (eVar 2) (eC (.int 0))) (eOp gIx (eVar 3) (eC (.int 0)))) (aCons (eOp (gI0 fun i j => i - j) (eOp gIx (eVar 2) (eC (.int 1))) (eOp gIx (eVar 3) (eC (.int 1)))) aNil))) (aCons (eCall 2 d__law_text (aCons (eVar 2) (aCons (eVar 1) aNil))) aNil)))) aNil))))) (sRet (eC (.bl false))) Out.nx) (sSeq (sFor (iA (eTup (aCons (eC (.int 0)) (aCons (eC (.int 1)) (aCons (eCallO 0 1 d__law_mark (aCons (eC (.int 40)) aNil)) (aCons (eCallO 0 1 d__law_mark (aCons (eC (.int 201)) aNil)) (aCons (eC (.int 200)) aNil))))))) (gN 4) (sIf (bNot (tVal (eCall 2 d__law_like (aCons (eCall 3 d__law_heard (aCons (eVar 2) (aCons (eVar 1) (aCons (eVar 4) aNil)))) (aCons (eCall 3 d__law_worth (aCons (eVar 2) (aCons (eVar 1) (aCons (eVar 4) aNil)))) aNil))))) (sRet (eC (.bl false))) Out.nx)) (sSeq (sSet 4 (eCallO 0 1 d__law_mark (aCons (eC (.int 60)) aNil))) (sSeq (sSet 5 (eTup (aCons (eOp gIx (eVar 2) (eC (.int 0))) (aCons (eOp (gI0 fun i j => i - j) (eOp gMul (eVar 1) (eOp (gI0 fun i j => i - j) (eCallO 0 1 d__law_mark (aCons (eC (.int 30)) aNil)) (eC (.int 9)))) (eOp gMul (eOp gIx (eVar 2) (eC (.int 0))) (eVar 4))) aNil)))) (sSeq (sIf (bNot (tVal (eCall 2 d__law_like (aCons (eTup (aCons (eCall 3 d__law_heard (aCons (eVar 5) (aCons (eVar 1) (aCons (eVar 4) aNil)))) (aCons (eCall 2 d_size_text (aCons (eVar 5) (aCons (eVar 1) aNil))) aNil))) (aCons (eTup (aCons (eTup (aCons (eC (.str "told")) (aCons (eOp (gIC CDiv fun i j => i / j) (eOp gAdd (eOp gMul (eOp gIx (eVar 5) (eC (.int 0))) (eVar 4)) (eOp gIx (eVar 5) (eC (.int 1)))) (eVar 1)) aNil))) (aCons (eCall 2 d__law_text (aCons (eVar 5) (aCons (eVar 1) aNil))) aNil))) aNil))))) (sRet (eC (.bl false))) Out.nx) (sRet (eOrV (eOp gEq (eVar 1) (eC (.int 1))) (eCall 2 d__law_like (aCons (eCall 3 d__law_heard (aCons (eTup (aCons (eOp gIx (eVar 5) (eC (.int 0))) (aCons (eOp gAdd (eOp gIx (eVar 5) (eC (.int 1))) (eC (.int 1))) aNil))) (aCons (eVar 1) (aCons (eVar 4) aNil)))) (aCons (eTup (aCons (eC (.str "step")) (aCons (eC (.str "whole")) aNil))) aNil))))))))))))
def d__law_asked : Den := mkF 6 1 b__law_asked
abbrev p__law_asked (K : PySem.W.Frag) (mg : Mg) : Sp := spD K mg (.ls :: List.replicate 0 .pu) .pu d__law_asked
theorem ok__law_asked {P : Program} {w : World} {K : PySem.W.Frag} {mg : Mg} {base : Heap} {C_BadStep C_CallError C_MoveError : Addr} (z : Zs mg) (x : Xs P K mg C_BadStep C_CallError C_MoveError) (g__law_mark : Df P w K mg base "_law_mark" s__law_mark ["beam", "many"] 2 (p__law_mark K mg)) (g__law_like : Df P w K mg base "_law_like" s__law_like ["told", "due"] 2 (p__law_like K mg)) (g__law_number : Df P w K mg base "_law_number" s__law_number ["beam"] 4 (p__law_number K mg)) (g__law_heard : Df P w K mg base "_law_heard" s__law_heard ["size", "parts", "length"] 4 (p__law_heard K mg)) (g_size_sum : Df P w K mg base "size_sum" s_size_sum ["one", "other"] 2 (p_size_sum K mg)) (g_size_less : Df P w K mg base "size_less" s_size_less ["one", "other"] 2 (p_size_less K mg)) (g_size_text : Df P w K mg base "size_text" s_size_text ["size", "parts"] 8 (p_size_text K mg)) (g__law_text : Df P w K mg base "_law_text" s__law_text ["size", "parts"] 4 (p__law_text K mg)) (g__law_worth : Df P w K mg base "_law_worth" s__law_worth ["size", "parts", "length"] 2 (p__law_worth K mg)) {f : Addr} {fd : FuncData} (F : Fun K "_law_asked" "_law_asked" s__law_asked f fd) : FnOk P w K mg base (L2.CX P w) 10 f fd ["beam"] (p__law_asked K mg) := by
  refine F.okX sc__law_asked (fun vs H Q E h => spD_len h) (fun cdv A outer s H vs Q E hr h => ?_)
  exact ⟨_, (pss_cons (ps_set (i := 1) sc__law_asked.nd rfl (by first | exact Or.inl rfl | exact Or.inr rfl) (pe_ix ix_seq (pe_tup (pa_cons pe_int (pa_cons pe_int (pa_cons pe_int (pa_cons pe_int (pa_cons pe_int (pa_cons pe_int pa_nil))))))) (pe_df g__law_mark (hr.mono (by decide)) rfl (takes_of rfl rfl rfl rfl) (pa_cons (pv 0) (pa_cons pe_int pa_nil))) (fun _ _ => rfl))) (pss_cons (ps_par (i := 2) (j := 3) rfl sc__law_asked.nd rfl rfl (by decide) rfl rfl (pa_cons (pe_tup (pa_cons (pe_df g__law_number (hr.mono (by decide)) rfl (takes_of rfl rfl rfl rfl) (pa_cons (pv 0) pa_nil)) (pa_cons (pe_df g__law_number (hr.mono (by decide)) rfl (takes_of rfl rfl rfl rfl) (pa_cons (pv 0) pa_nil)) pa_nil))) (pa_cons (pe_tup (pa_cons (pe_df g__law_number (hr.mono (by decide)) rfl (takes_of rfl rfl rfl rfl) (pa_cons (pv 0) pa_nil)) (pa_cons (pe_df g__law_number (hr.mono (by decide)) rfl (takes_of rfl rfl rfl rfl) (pa_cons (pv 0) pa_nil)) pa_nil))) pa_nil)) rfl) (pss_cons (ps_if (pt_not (pt_val (pe_df g__law_like (hr.mono (by decide)) rfl (takes_of rfl rfl rfl rfl) (pa_cons (pe_tup (pa_cons (pe_df g_size_sum (hr.mono (by decide)) rfl (takes_of rfl rfl rfl rfl) (pa_cons (pv 2) (pa_cons (pv 3) pa_nil))) (pa_cons (pe_df g_size_less (hr.mono (by decide)) rfl (takes_of rfl rfl rfl rfl) (pa_cons (pv 2) (pa_cons (pv 3) pa_nil))) (pa_cons (pe_df g_size_text (hr.mono (by decide)) rfl (takes_of rfl rfl rfl rfl) (pa_cons (pv 2) (pa_cons (pv 1) pa_nil))) pa_nil)))) (pa_cons (pe_tup (pa_cons (pe_tup (pa_cons (pe_op opAdd (pe_ix ix_seq (pv 2) pe_int (fun _ _ => rfl)) (pe_ix ix_seq (pv 3) pe_int (fun _ _ => rfl))) (pa_cons (pe_op opAdd (pe_ix ix_seq (pv 2) pe_int (fun _ _ => rfl)) (pe_ix ix_seq (pv 3) pe_int (fun _ _ => rfl))) pa_nil))) (pa_cons (pe_tup (pa_cons (pe_op op_sub (pe_ix ix_seq (pv 2) pe_int (fun _ _ => rfl)) (pe_ix ix_seq (pv 3) pe_int (fun _ _ => rfl))) (pa_cons (pe_op op_sub (pe_ix ix_seq (pv 2) pe_int (fun _ _ => rfl)) (pe_ix ix_seq (pv 3) pe_int (fun _ _ => rfl))) pa_nil))) (pa_cons (pe_df g__law_text (hr.mono (by decide)) rfl (takes_of rfl rfl rfl rfl) (pa_cons (pv 2) (pa_cons (pv 1) pa_nil))) pa_nil)))) pa_nil))))) (pss_one (ps_ret pe_bl)) pss_nil) (pss_cons (ps_for (passes_of rfl) rfl (pi_any (pe_tup (pa_cons pe_int (pa_cons pe_int (pa_cons (pe_df g__law_mark (hr.mono (by decide)) rfl (takes_of rfl rfl rfl rfl) (pa_cons (pv 0) (pa_cons pe_int pa_nil))) (pa_cons (pe_df g__law_mark (hr.mono (by decide)) rfl (takes_of rfl rfl rfl rfl) (pa_cons (pv 0) (pa_cons pe_int pa_nil))) (pa_cons pe_int pa_nil))))))) (pg_name (i := 4) sc__law_asked.nd rfl (by first | exact Or.inl rfl | exact Or.inr rfl)) (pss_one (ps_if (pt_not (pt_val (pe_df g__law_like (hr.mono (by decide)) rfl (takes_of rfl rfl rfl rfl) (pa_cons (pe_df g__law_heard (hr.mono (by decide)) rfl (takes_of rfl rfl rfl rfl) (pa_cons (pv 2) (pa_cons (pv 1) (pa_cons (pv 4) pa_nil)))) (pa_cons (pe_df g__law_worth (hr.mono (by decide)) rfl (takes_of rfl rfl rfl rfl) (pa_cons (pv 2) (pa_cons (pv 1) (pa_cons (pv 4) pa_nil)))) pa_nil))))) (pss_one (ps_ret pe_bl)) pss_nil))) (pss_cons (ps_set (i := 4) sc__law_asked.nd rfl (by first | exact Or.inl rfl | exact Or.inr rfl) (pe_df g__law_mark (hr.mono (by decide)) rfl (takes_of rfl rfl rfl rfl) (pa_cons (pv 0) (pa_cons pe_int pa_nil)))) (pss_cons (ps_set (i := 5) sc__law_asked.nd rfl (by first | exact Or.inl rfl | exact Or.inr rfl) (pe_tup (pa_cons (pe_ix ix_seq (pv 2) pe_int (fun _ _ => rfl)) (pa_cons (pe_op op_sub (pe_op opMul (pv 1) (pe_op op_sub (pe_df g__law_mark (hr.mono (by decide)) rfl (takes_of rfl rfl rfl rfl) (pa_cons (pv 0) (pa_cons pe_int pa_nil))) pe_int)) (pe_op opMul (pe_ix ix_seq (pv 2) pe_int (fun _ _ => rfl)) (pv 4))) pa_nil)))) (pss_cons (ps_if (pt_not (pt_val (pe_df g__law_like (hr.mono (by decide)) rfl (takes_of rfl rfl rfl rfl) (pa_cons (pe_tup (pa_cons (pe_df g__law_heard (hr.mono (by decide)) rfl (takes_of rfl rfl rfl rfl) (pa_cons (pv 5) (pa_cons (pv 1) (pa_cons (pv 4) pa_nil)))) (pa_cons (pe_df g_size_text (hr.mono (by decide)) rfl (takes_of rfl rfl rfl rfl) (pa_cons (pv 5) (pa_cons (pv 1) pa_nil))) pa_nil))) (pa_cons (pe_tup (pa_cons (pe_tup (pa_cons pe_str (pa_cons (pe_op op_fdiv (pe_op opAdd (pe_op opMul (pe_ix ix_seq (pv 5) pe_int (fun _ _ => rfl)) (pv 4)) (pe_ix ix_seq (pv 5) pe_int (fun _ _ => rfl))) (pv 1)) pa_nil))) (pa_cons (pe_df g__law_text (hr.mono (by decide)) rfl (takes_of rfl rfl rfl rfl) (pa_cons (pv 5) (pa_cons (pv 1) pa_nil))) pa_nil))) pa_nil))))) (pss_one (ps_ret pe_bl)) pss_nil) (pss_one (ps_ret (pe_or (pe_cmpR (opEq (Room.u64 hr)) (pv 1) pe_int (nomark _)) (pe_one (pe_df g__law_like (hr.mono (by decide)) rfl (takes_of rfl rfl rfl rfl) (pa_cons (pe_df g__law_heard (hr.mono (by decide)) rfl (takes_of rfl rfl rfl rfl) (pa_cons (pe_tup (pa_cons (pe_ix ix_seq (pv 5) pe_int (fun _ _ => rfl)) (pa_cons (pe_op opAdd (pe_ix ix_seq (pv 5) pe_int (fun _ _ => rfl)) pe_int) pa_nil))) (pa_cons (pv 1) (pa_cons (pv 4) pa_nil)))) (pa_cons (pe_tup (pa_cons pe_str (pa_cons pe_str pa_nil))) pa_nil)))))))))))))),
    fn_body (N := N__law_asked) (k := 1) (Γp := (.ls :: List.replicate 0 .pu)) (sr := .pu) (fb := b__law_asked) (Γi := [.pu, .pu, .pu, .pu, .pu]) (Γ' := [.ls, .pu, .pu, .pu, .pu, .pu]) (by decide) rfl (.inl rfl) ⟨rfl, rfl⟩ (sok_seq (sok_setK ⟨rfl, rfl⟩ (np rfl) rfl (eok_op r2_ix (eok_tup (aok_cons eok_int (aok_cons eok_int (aok_cons eok_int (aok_cons eok_int (aok_cons eok_int (aok_cons eok_int aok_nil))))))) (eok_callO rfl (aok_cons eok_int aok_nil)))) (sok_seq (sok_parK ⟨rfl, rfl⟩ (np rfl) (np rfl) rfl rfl (aok_cons (eok_tup (aok_cons (eok_callO rfl aok_nil) (aok_cons (eok_callO rfl aok_nil) aok_nil))) (aok_cons (eok_tup (aok_cons (eok_callO rfl aok_nil) (aok_cons (eok_callO rfl aok_nil) aok_nil))) aok_nil))) (sok_seq (sok_if ⟨rfl, rfl⟩ (tok_not (tok_b (eok_call (aok_cons (eok_tup (aok_cons (eok_call (aok_cons (eok_var rfl) (aok_cons (eok_var rfl) aok_nil))) (aok_cons (eok_call (aok_cons (eok_var rfl) (aok_cons (eok_var rfl) aok_nil))) (aok_cons (eok_call (aok_cons (eok_var rfl) (aok_cons (eok_var rfl) aok_nil))) aok_nil)))) (aok_cons (eok_tup (aok_cons (eok_tup (aok_cons (eok_op r2_add (eok_op r2_ix (eok_var rfl) eok_int) (eok_op r2_ix (eok_var rfl) eok_int)) (aok_cons (eok_op r2_add (eok_op r2_ix (eok_var rfl) eok_int) (eok_op r2_ix (eok_var rfl) eok_int)) aok_nil))) (aok_cons (eok_tup (aok_cons (eok_op r2_i0 (eok_op r2_ix (eok_var rfl) eok_int) (eok_op r2_ix (eok_var rfl) eok_int)) (aok_cons (eok_op r2_i0 (eok_op r2_ix (eok_var rfl) eok_int) (eok_op r2_ix (eok_var rfl) eok_int)) aok_nil))) (aok_cons (eok_call (aok_cons (eok_var rfl) (aok_cons (eok_var rfl) aok_nil))) aok_nil)))) aok_nil))))) (sok_ret ⟨rfl, rfl⟩ eok_bl) sok_next) (sok_seq (sok_for ⟨rfl, rfl⟩ (np2 rfl) (iok_any (eok_tup (aok_cons eok_int (aok_cons eok_int (aok_cons (eok_callO rfl (aok_cons eok_int aok_nil)) (aok_cons (eok_callO rfl (aok_cons eok_int aok_nil)) (aok_cons eok_int aok_nil))))))) (gok_nameK (i := 4) rfl) (sok_if ⟨rfl, rfl⟩ (tok_not (tok_b (eok_call (aok_cons (eok_call (aok_cons (eok_var rfl) (aok_cons (eok_var rfl) (aok_cons (eok_var rfl) aok_nil)))) (aok_cons (eok_call (aok_cons (eok_var rfl) (aok_cons (eok_var rfl) (aok_cons (eok_var rfl) aok_nil)))) aok_nil))))) (sok_ret ⟨rfl, rfl⟩ eok_bl) sok_next)) (sok_seq (sok_setK ⟨rfl, rfl⟩ (np rfl) rfl (eok_callO rfl (aok_cons eok_int aok_nil))) (sok_seq (sok_setK ⟨rfl, rfl⟩ (np rfl) rfl (eok_tup (aok_cons (eok_op r2_ix (eok_var rfl) eok_int) (aok_cons (eok_op r2_i0 (eok_op r2_mul (eok_var rfl) (eok_op r2_i0 (eok_callO rfl (aok_cons eok_int aok_nil)) eok_int)) (eok_op r2_mul (eok_op r2_ix (eok_var rfl) eok_int) (eok_var rfl))) aok_nil)))) (sok_seq (sok_if ⟨rfl, rfl⟩ (tok_not (tok_b (eok_call (aok_cons (eok_tup (aok_cons (eok_call (aok_cons (eok_var rfl) (aok_cons (eok_var rfl) (aok_cons (eok_var rfl) aok_nil)))) (aok_cons (eok_call (aok_cons (eok_var rfl) (aok_cons (eok_var rfl) aok_nil))) aok_nil))) (aok_cons (eok_tup (aok_cons (eok_tup (aok_cons eok_str (aok_cons (eok_op (r2_ic (c := CDiv)) (eok_op r2_add (eok_op r2_mul (eok_op r2_ix (eok_var rfl) eok_int) (eok_var rfl)) (eok_op r2_ix (eok_var rfl) eok_int)) (eok_var rfl)) aok_nil))) (aok_cons (eok_call (aok_cons (eok_var rfl) (aok_cons (eok_var rfl) aok_nil))) aok_nil))) aok_nil))))) (sok_ret ⟨rfl, rfl⟩ eok_bl) sok_next) (sok_ret ⟨rfl, rfl⟩ (eok_or (eok_op r2_eq (eok_var rfl) eok_int) (eok_call (aok_cons (eok_call (aok_cons (eok_tup (aok_cons (eok_op r2_ix (eok_var rfl) eok_int) (aok_cons (eok_op r2_add (eok_op r2_ix (eok_var rfl) eok_int) eok_int) aok_nil))) (aok_cons (eok_var rfl) (aok_cons (eok_var rfl) aok_nil)))) (aok_cons (eok_tup (aok_cons eok_str (aok_cons eok_str aok_nil))) aok_nil)))))))))))) h⟩
abbrev s_law : Stmt := top 23
abbrev N_law : List Str := ["script", "beam", "lap", "sizes", "texts", "at", "size", "parts", "told"]
theorem sc_law : FnScope N_law ["script"] (defScope s_law) := ⟨rfl, rfl, rfl, by decide +kernel, rfl, by decide +kernel, by decide +kernel⟩
def b_law : DL.Env → Out := (sSeq (sSet 1 (eCall 1 d__law_beam (aCons (eVar 0) aNil))) (sSeq (sFor (iR1 (aCons (eC (.int 12)) aNil)) (gN 2) (sIf (bNot (tVal (eCallO 1 0 d__law_asked aNil))) (sRet (eC (.bl false))) Out.nx)) (sSeq (sSet 3 (eTup (aCons (eTup (aCons (eTup (aCons (eC (.int 1)) (aCons (eUn gNeg (eC (.int 1))) aNil))) (aCons (eC (.int 2)) aNil))) (aCons (eTup (aCons (eTup (aCons (eC (.int 0)) (aCons (eC (.int 6)) aNil))) (aCons (eC (.int 2)) aNil))) (aCons (eTup (aCons (eTup (aCons (eUn gNeg (eC (.int 2))) (aCons (eC (.int 4)) aNil))) (aCons (eC (.int 2)) aNil))) (aCons (eTup (aCons (eTup (aCons (eC (.int 0)) (aCons (eC (.int 0)) aNil))) (aCons (eC (.int 1)) aNil))) (aCons (eTup (aCons (eTup (aCons (eC (.int 0)) (aCons (eC (.int 0)) aNil))) (aCons (eC (.int 32)) aNil))) (aCons (eTup (aCons (eTup (aCons (eC (.int 1)) (aCons (eC (.int 0)) aNil))) (aCons (eC (.int 1)) aNil))) (aCons (eTup (aCons (eTup (aCons (eUn gNeg (eC (.int 1))) (aCons (eC (.int 0)) aNil))) (aCons (eC (.int 1)) aNil))) (aCons (eTup (aCons (eTup (aCons (eC (.int 2)) (aCons (eC (.int 0)) aNil))) (aCons (eC (.int 1)) aNil))) (aCons (eTup (aCons (eTup (aCons (eC (.int 3)) (aCons (eC (.int 0)) aNil))) (aCons (eC (.int 2)) aNil))) (aCons (eTup (aCons (eTup (aCons (eC (.int 4)) (aCons (eUn gNeg (eC (.int 6))) aNil))) (aCons (eC (.int 4)) aNil))) (aCons (eTup (aCons (eTup (aCons (eC (.int 0)) (aCons (eUn gNeg (eC (.int 3))) aNil))) (aCons (eC (.int 2)) aNil))) (aCons (eTup (aCons (eTup (aCons (eUn gNeg (eC (.int 1))) (aCons (eUn gNeg (eC (.int 1))) aNil))) (aCons (eC (.int 4)) aNil))) (aCons (eTup (aCons (eTup (aCons (eC (.int 6)) (aCons (eC (.int 8)) aNil))) (aCons (eC (.int 2)) aNil))) (aCons (eTup (aCons (eTup (aCons (eC (.int 0)) (aCons (eC (.int 5)) aNil))) (aCons (eC (.int 1)) aNil))) (aCons (eTup (aCons (eTup (aCons (eC (.int 32)) (aCons (eC (.int 16)) aNil))) (aCons (eC (.int 32)) aNil))) (aCons (eTup (aCons (eTup (aCons (eUn gNeg (eC (.int 3))) (aCons (eC (.int 3)) aNil))) (aCons (eC (.int 1)) aNil))) (aCons (eTup (aCons (eTup (aCons (eC (.int 2)) (aCons (eC (.int 1)) aNil))) (aCons (eC (.int 8)) aNil))) aNil))))))))))))))))))) (sSeq (sSet 4 (eTup (aCons (eC (.str "1/2 n - 1/2")) (aCons (eC (.str "3")) (aCons (eC (.str "-n + 2")) (aCons (eC (.str "0")) (aCons (eC (.str "0")) (aCons (eC (.str "n")) (aCons (eC (.str "-n")) (aCons (eC (.str "2 n")) (aCons (eC (.str "3/2 n")) (aCons (eC (.str "n - 3/2")) (aCons (eC (.str "-3/2")) (aCons (eC (.str "-1/4 n - 1/4")) (aCons (eC (.str "3 n + 4")) (aCons (eC (.str "5")) (aCons (eC (.str "n + 1/2")) (aCons (eC (.str "-3 n + 3")) (aCons (eC (.str "1/4 n + 1/8")) aNil))))))))))))))))))) (sSeq (sFor (iR1 (aCons (eCB gLen (aCons (eVar 3) aNil)) aNil)) (gN 5) (sSeq (sAsg (eOp gIx (eVar 3) (eVar 5)) (gT 2 (gsCons (gN 6) (gsCons (gN 7) gsNil)))) (sIf (bNot (tVal (eCall 2 d__law_like (aCons (eTup (aCons (eCall 2 d_size_text (aCons (eVar 6) (aCons (eVar 7) aNil))) (aCons (eCall 2 d__law_text (aCons (eVar 6) (aCons (eVar 7) aNil))) aNil))) (aCons (eOp gMul (eTup (aCons (eOp gIx (eVar 4) (eVar 5)) aNil)) (eC (.int 2))) aNil))))) (sRet (eC (.bl false))) Out.nx))) (sSeq (sSet 8 (eTup (aCons (eCall 3 d_size_at (aKw [2, 1, 0] 0 3 aNil (aCons (eC (.int 5)) (aCons (eC (.int 2)) (aCons (eTup (aCons (eC (.int 1)) (aCons (eUn gNeg (eC (.int 1))) aNil))) aNil))))) (aCons (eCall 2 d_size_sum (aKw [0, 1] 0 2 aNil (aCons (eTup (aCons (eC (.int 1)) (aCons (eUn gNeg (eC (.int 1))) aNil))) (aCons (eTup (aCons (eC (.int 1)) (aCons (eC (.int 1)) aNil))) aNil)))) (aCons (eCall 2 d_size_less (aKw [1, 0] 0 2 aNil (aCons (eTup (aCons (eC (.int 1)) (aCons (eC (.int 1)) aNil))) (aCons (eTup (aCons (eC (.int 1)) (aCons (eUn gNeg (eC (.int 1))) aNil))) aNil)))) (aCons (eCall 3 d__law_heard (aCons (eTup (aCons (eC (.int 1)) (aCons (eC (.int 0)) aNil))) (aCons (eC (.int 2)) (aCons (eC (.int 3)) aNil)))) aNil)))))) (sSeq (sSet 8 (eOp gAdd (eVar 8) (eTup (aCons (eCall 3 d__law_heard (aCons (eTup (aCons (eUn gNeg (eC (.int 1))) (aCons (eC (.int 0)) aNil))) (aCons (eC (.int 2)) (aCons (eC (.int 4)) aNil)))) (aCons (eCall 3 d__law_heard (aCons (eTup (aCons (eUn gNeg (eC (.int 3))) (aCons (eC (.int 1)) aNil))) (aCons (eC (.int 4)) (aCons (eC (.int 3)) aNil)))) (aCons (eCall 3 d_size_at (aCons (eTup (aCons (eC (.int 0)) (aCons (eUn gNeg (eC (.int 8))) aNil))) (aCons (eC (.int 4)) (aCons (eC (.int 9)) aNil)))) (aCons (eCall 2 d_size_text (aKw [1, 0] 0 2 aNil (aCons (eC (.int 4)) (aCons (eTup (aCons (eUn gNeg (eC (.int 4))) (aCons (eC (.int 0)) aNil))) aNil)))) aNil))))))) (sRet (eCall 2 d__law_like (aCons (eVar 8) (aCons (eTup (aCons (eC (.int 2)) (aCons (eTup (aCons (eC (.int 2)) (aCons (eC (.int 0)) aNil))) (aCons (eTup (aCons (eC (.int 0)) (aCons (eUn gNeg (eC (.int 2))) aNil))) (aCons (eTup (aCons (eC (.str "step")) (aCons (eC (.str "whole")) aNil))) (aCons (eTup (aCons (eC (.str "told")) (aCons (eUn gNeg (eC (.int 2))) aNil))) (aCons (eTup (aCons (eC (.str "told")) (aCons (eUn gNeg (eC (.int 2))) aNil))) (aCons (eUn gNeg (eC (.int 2))) (aCons (eC (.str "-n")) aNil))))))))) aNil)))))))))))
def d_law : Den := mkF 9 0 b_law
abbrev p_law (K : PySem.W.Frag) (mg : Mg) : Sp := spD K mg (List.replicate 1 .pu) .pu d_law
theorem ok_law {P : Program} {w : World} {K : PySem.W.Frag} {mg : Mg} {base : Heap} {C_BadStep C_CallError C_MoveError : Addr} (z : Zs mg) (x : Xs P K mg C_BadStep C_CallError C_MoveError) (g__law_beam : Df P w K mg base "_law_beam" s__law_beam ["script"] 2 (p__law_beam K mg)) (g__law_like : Df P w K mg base "_law_like" s__law_like ["told", "due"] 2 (p__law_like K mg)) (g_size_at : Df P w K mg base "size_at" s_size_at ["size", "parts", "length"] 2 (p_size_at K mg)) (g_size_sum : Df P w K mg base "size_sum" s_size_sum ["one", "other"] 2 (p_size_sum K mg)) (g_size_less : Df P w K mg base "size_less" s_size_less ["one", "other"] 2 (p_size_less K mg)) (g__law_heard : Df P w K mg base "_law_heard" s__law_heard ["size", "parts", "length"] 4 (p__law_heard K mg)) (g__law_asked : Df P w K mg base "_law_asked" s__law_asked ["beam"] 10 (p__law_asked K mg)) (g_size_text : Df P w K mg base "size_text" s_size_text ["size", "parts"] 8 (p_size_text K mg)) (g__law_text : Df P w K mg base "_law_text" s__law_text ["size", "parts"] 4 (p__law_text K mg)) {f : Addr} {fd : FuncData} (F : Fun K "law" "law" s_law f fd) : FnOk P w K mg base (L2.CX P w) 12 f fd ["script"] (p_law K mg) := by
  refine F.okX sc_law (fun vs H Q E h => spD_len h) (fun cdv A outer s H vs Q E hr h => ?_)
  exact ⟨_, (pss_cons (ps_set (i := 1) sc_law.nd rfl (by first | exact Or.inl rfl | exact Or.inr rfl) (pe_df g__law_beam (hr.mono (by decide)) rfl (takes_of rfl rfl rfl rfl) (pa_cons (pv 0) pa_nil))) (pss_cons (ps_for (passes_of rfl) rfl (pi_range1 rfl z.z_range (pa_cons pe_int pa_nil)) (pg_name (i := 2) sc_law.nd rfl (by first | exact Or.inl rfl | exact Or.inr rfl)) (pss_one (ps_if (pt_not (pt_val (pe_df g__law_asked (hr.mono (by decide)) rfl (takes_of rfl rfl rfl rfl) (pa_cons (pv 1) pa_nil)))) (pss_one (ps_ret pe_bl)) pss_nil))) (pss_cons (ps_set (i := 3) sc_law.nd rfl (by first | exact Or.inl rfl | exact Or.inr rfl) (pe_tup (pa_cons (pe_tup (pa_cons (pe_tup (pa_cons pe_int (pa_cons (pe_un un_neg pe_int) pa_nil))) (pa_cons pe_int pa_nil))) (pa_cons (pe_tup (pa_cons (pe_tup (pa_cons pe_int (pa_cons pe_int pa_nil))) (pa_cons pe_int pa_nil))) (pa_cons (pe_tup (pa_cons (pe_tup (pa_cons (pe_un un_neg pe_int) (pa_cons pe_int pa_nil))) (pa_cons pe_int pa_nil))) (pa_cons (pe_tup (pa_cons (pe_tup (pa_cons pe_int (pa_cons pe_int pa_nil))) (pa_cons pe_int pa_nil))) (pa_cons (pe_tup (pa_cons (pe_tup (pa_cons pe_int (pa_cons pe_int pa_nil))) (pa_cons pe_int pa_nil))) (pa_cons (pe_tup (pa_cons (pe_tup (pa_cons pe_int (pa_cons pe_int pa_nil))) (pa_cons pe_int pa_nil))) (pa_cons (pe_tup (pa_cons (pe_tup (pa_cons (pe_un un_neg pe_int) (pa_cons pe_int pa_nil))) (pa_cons pe_int pa_nil))) (pa_cons (pe_tup (pa_cons (pe_tup (pa_cons pe_int (pa_cons pe_int pa_nil))) (pa_cons pe_int pa_nil))) (pa_cons (pe_tup (pa_cons (pe_tup (pa_cons pe_int (pa_cons pe_int pa_nil))) (pa_cons pe_int pa_nil))) (pa_cons (pe_tup (pa_cons (pe_tup (pa_cons pe_int (pa_cons (pe_un un_neg pe_int) pa_nil))) (pa_cons pe_int pa_nil))) (pa_cons (pe_tup (pa_cons (pe_tup (pa_cons pe_int (pa_cons (pe_un un_neg pe_int) pa_nil))) (pa_cons pe_int pa_nil))) (pa_cons (pe_tup (pa_cons (pe_tup (pa_cons (pe_un un_neg pe_int) (pa_cons (pe_un un_neg pe_int) pa_nil))) (pa_cons pe_int pa_nil))) (pa_cons (pe_tup (pa_cons (pe_tup (pa_cons pe_int (pa_cons pe_int pa_nil))) (pa_cons pe_int pa_nil))) (pa_cons (pe_tup (pa_cons (pe_tup (pa_cons pe_int (pa_cons pe_int pa_nil))) (pa_cons pe_int pa_nil))) (pa_cons (pe_tup (pa_cons (pe_tup (pa_cons pe_int (pa_cons pe_int pa_nil))) (pa_cons pe_int pa_nil))) (pa_cons (pe_tup (pa_cons (pe_tup (pa_cons (pe_un un_neg pe_int) (pa_cons pe_int pa_nil))) (pa_cons pe_int pa_nil))) (pa_cons (pe_tup (pa_cons (pe_tup (pa_cons pe_int (pa_cons pe_int pa_nil))) (pa_cons pe_int pa_nil))) pa_nil))))))))))))))))))) (pss_cons (ps_set (i := 4) sc_law.nd rfl (by first | exact Or.inl rfl | exact Or.inr rfl) (pe_tup (pa_cons pe_str (pa_cons pe_str (pa_cons pe_str (pa_cons pe_str (pa_cons pe_str (pa_cons pe_str (pa_cons pe_str (pa_cons pe_str (pa_cons pe_str (pa_cons pe_str (pa_cons pe_str (pa_cons pe_str (pa_cons pe_str (pa_cons pe_str (pa_cons pe_str (pa_cons pe_str (pa_cons pe_str pa_nil))))))))))))))))))) (pss_cons (ps_for (passes_of rfl) rfl (pi_range1 rfl z.z_range (pa_cons (pe_callB callLen rfl z.z_len rfl (pa_cons (pv 3) pa_nil)) pa_nil)) (pg_name (i := 5) sc_law.nd rfl (by first | exact Or.inl rfl | exact Or.inr rfl)) (pss_cons (ps_asg (pe_ix ix_seq (pv 3) (pv 5) (fun _ _ => rfl)) (pg_tup rfl (pgs_cons (pg_name (i := 6) sc_law.nd rfl (by first | exact Or.inl rfl | exact Or.inr rfl)) (pgs_cons (pg_name (i := 7) sc_law.nd rfl (by first | exact Or.inl rfl | exact Or.inr rfl)) pgs_nil)))) (pss_one (ps_if (pt_not (pt_val (pe_df g__law_like (hr.mono (by decide)) rfl (takes_of rfl rfl rfl rfl) (pa_cons (pe_tup (pa_cons (pe_df g_size_text (hr.mono (by decide)) rfl (takes_of rfl rfl rfl rfl) (pa_cons (pv 6) (pa_cons (pv 7) pa_nil))) (pa_cons (pe_df g__law_text (hr.mono (by decide)) rfl (takes_of rfl rfl rfl rfl) (pa_cons (pv 6) (pa_cons (pv 7) pa_nil))) pa_nil))) (pa_cons (pe_op opMul (pe_tup (pa_cons (pe_ix ix_seq (pv 4) (pv 5) (fun _ _ => rfl)) pa_nil)) pe_int) pa_nil))))) (pss_one (ps_ret pe_bl)) pss_nil)))) (pss_cons (ps_set (i := 8) sc_law.nd rfl (by first | exact Or.inl rfl | exact Or.inr rfl) (pe_tup (pa_cons (pe_kw0 (ks := ["length", "parts", "size"]) (q := [2, 1, 0]) g_size_at (fun _ _ _ _ _ _ us ws h1 h2 => match us, ws, h1, h2 with | [], [_, _, _], _, _ => rfl) (hr.mono (by decide)) rfl (takes_of rfl rfl rfl rfl) (pk_cons pe_int (pk_cons pe_int (pk_cons (pe_tup (pa_cons pe_int (pa_cons (pe_un un_neg pe_int) pa_nil))) pk_nil)))) (pa_cons (pe_kw0 (ks := ["one", "other"]) (q := [0, 1]) g_size_sum (fun _ _ _ _ _ _ us ws h1 h2 => match us, ws, h1, h2 with | [], [_, _], _, _ => rfl) (hr.mono (by decide)) rfl (takes_of rfl rfl rfl rfl) (pk_cons (pe_tup (pa_cons pe_int (pa_cons (pe_un un_neg pe_int) pa_nil))) (pk_cons (pe_tup (pa_cons pe_int (pa_cons pe_int pa_nil))) pk_nil))) (pa_cons (pe_kw0 (ks := ["other", "one"]) (q := [1, 0]) g_size_less (fun _ _ _ _ _ _ us ws h1 h2 => match us, ws, h1, h2 with | [], [_, _], _, _ => rfl) (hr.mono (by decide)) rfl (takes_of rfl rfl rfl rfl) (pk_cons (pe_tup (pa_cons pe_int (pa_cons pe_int pa_nil))) (pk_cons (pe_tup (pa_cons pe_int (pa_cons (pe_un un_neg pe_int) pa_nil))) pk_nil))) (pa_cons (pe_df g__law_heard (hr.mono (by decide)) rfl (takes_of rfl rfl rfl rfl) (pa_cons (pe_tup (pa_cons pe_int (pa_cons pe_int pa_nil))) (pa_cons pe_int (pa_cons pe_int pa_nil)))) pa_nil)))))) (pss_cons (ps_set (i := 8) sc_law.nd rfl (by first | exact Or.inl rfl | exact Or.inr rfl) (pe_op opAdd (pv 8) (pe_tup (pa_cons (pe_df g__law_heard (hr.mono (by decide)) rfl (takes_of rfl rfl rfl rfl) (pa_cons (pe_tup (pa_cons (pe_un un_neg pe_int) (pa_cons pe_int pa_nil))) (pa_cons pe_int (pa_cons pe_int pa_nil)))) (pa_cons (pe_df g__law_heard (hr.mono (by decide)) rfl (takes_of rfl rfl rfl rfl) (pa_cons (pe_tup (pa_cons (pe_un un_neg pe_int) (pa_cons pe_int pa_nil))) (pa_cons pe_int (pa_cons pe_int pa_nil)))) (pa_cons (pe_df g_size_at (hr.mono (by decide)) rfl (takes_of rfl rfl rfl rfl) (pa_cons (pe_tup (pa_cons pe_int (pa_cons (pe_un un_neg pe_int) pa_nil))) (pa_cons pe_int (pa_cons pe_int pa_nil)))) (pa_cons (pe_kw0 (ks := ["parts", "size"]) (q := [1, 0]) g_size_text (fun _ _ _ _ _ _ us ws h1 h2 => match us, ws, h1, h2 with | [], [_, _], _, _ => rfl) (hr.mono (by decide)) rfl (takes_of rfl rfl rfl rfl) (pk_cons pe_int (pk_cons (pe_tup (pa_cons (pe_un un_neg pe_int) (pa_cons pe_int pa_nil))) pk_nil))) pa_nil))))))) (pss_one (ps_ret (pe_df g__law_like (hr.mono (by decide)) rfl (takes_of rfl rfl rfl rfl) (pa_cons (pv 8) (pa_cons (pe_tup (pa_cons pe_int (pa_cons (pe_tup (pa_cons pe_int (pa_cons pe_int pa_nil))) (pa_cons (pe_tup (pa_cons pe_int (pa_cons (pe_un un_neg pe_int) pa_nil))) (pa_cons (pe_tup (pa_cons pe_str (pa_cons pe_str pa_nil))) (pa_cons (pe_tup (pa_cons pe_str (pa_cons (pe_un un_neg pe_int) pa_nil))) (pa_cons (pe_tup (pa_cons pe_str (pa_cons (pe_un un_neg pe_int) pa_nil))) (pa_cons (pe_un un_neg pe_int) (pa_cons pe_str pa_nil))))))))) pa_nil)))))))))))),
    fn_body (N := N_law) (k := 0) (Γp := (List.replicate 1 .pu)) (sr := .pu) (fb := b_law) (Γi := [.ls, .pu, .pu, .pu, .pu, .pu, .pu, .pu]) (Γ' := [.pu, .ls, .pu, .pu, .pu, .pu, .pu, .pu, .pu]) (by decide) rfl (.inl rfl) ⟨rfl, rfl⟩ (sok_seq (sok_setK ⟨rfl, rfl⟩ (np rfl) rfl (eok_call (aok_cons (eok_var rfl) aok_nil))) (sok_seq (sok_for ⟨rfl, rfl⟩ (np2 rfl) (iok_range1 (aok_cons eok_int aok_nil)) (gok_nameK (i := 2) rfl) (sok_if ⟨rfl, rfl⟩ (tok_not (tok_b (eok_callO rfl aok_nil))) (sok_ret ⟨rfl, rfl⟩ eok_bl) sok_next)) (sok_seq (sok_setK ⟨rfl, rfl⟩ (np rfl) rfl (eok_tup (aok_cons (eok_tup (aok_cons (eok_tup (aok_cons eok_int (aok_cons (eok_un u1_neg eok_int) aok_nil))) (aok_cons eok_int aok_nil))) (aok_cons (eok_tup (aok_cons (eok_tup (aok_cons eok_int (aok_cons eok_int aok_nil))) (aok_cons eok_int aok_nil))) (aok_cons (eok_tup (aok_cons (eok_tup (aok_cons (eok_un u1_neg eok_int) (aok_cons eok_int aok_nil))) (aok_cons eok_int aok_nil))) (aok_cons (eok_tup (aok_cons (eok_tup (aok_cons eok_int (aok_cons eok_int aok_nil))) (aok_cons eok_int aok_nil))) (aok_cons (eok_tup (aok_cons (eok_tup (aok_cons eok_int (aok_cons eok_int aok_nil))) (aok_cons eok_int aok_nil))) (aok_cons (eok_tup (aok_cons (eok_tup (aok_cons eok_int (aok_cons eok_int aok_nil))) (aok_cons eok_int aok_nil))) (aok_cons (eok_tup (aok_cons (eok_tup (aok_cons (eok_un u1_neg eok_int) (aok_cons eok_int aok_nil))) (aok_cons eok_int aok_nil))) (aok_cons (eok_tup (aok_cons (eok_tup (aok_cons eok_int (aok_cons eok_int aok_nil))) (aok_cons eok_int aok_nil))) (aok_cons (eok_tup (aok_cons (eok_tup (aok_cons eok_int (aok_cons eok_int aok_nil))) (aok_cons eok_int aok_nil))) (aok_cons (eok_tup (aok_cons (eok_tup (aok_cons eok_int (aok_cons (eok_un u1_neg eok_int) aok_nil))) (aok_cons eok_int aok_nil))) (aok_cons (eok_tup (aok_cons (eok_tup (aok_cons eok_int (aok_cons (eok_un u1_neg eok_int) aok_nil))) (aok_cons eok_int aok_nil))) (aok_cons (eok_tup (aok_cons (eok_tup (aok_cons (eok_un u1_neg eok_int) (aok_cons (eok_un u1_neg eok_int) aok_nil))) (aok_cons eok_int aok_nil))) (aok_cons (eok_tup (aok_cons (eok_tup (aok_cons eok_int (aok_cons eok_int aok_nil))) (aok_cons eok_int aok_nil))) (aok_cons (eok_tup (aok_cons (eok_tup (aok_cons eok_int (aok_cons eok_int aok_nil))) (aok_cons eok_int aok_nil))) (aok_cons (eok_tup (aok_cons (eok_tup (aok_cons eok_int (aok_cons eok_int aok_nil))) (aok_cons eok_int aok_nil))) (aok_cons (eok_tup (aok_cons (eok_tup (aok_cons (eok_un u1_neg eok_int) (aok_cons eok_int aok_nil))) (aok_cons eok_int aok_nil))) (aok_cons (eok_tup (aok_cons (eok_tup (aok_cons eok_int (aok_cons eok_int aok_nil))) (aok_cons eok_int aok_nil))) aok_nil))))))))))))))))))) (sok_seq (sok_setK ⟨rfl, rfl⟩ (np rfl) rfl (eok_tup (aok_cons eok_str (aok_cons eok_str (aok_cons eok_str (aok_cons eok_str (aok_cons eok_str (aok_cons eok_str (aok_cons eok_str (aok_cons eok_str (aok_cons eok_str (aok_cons eok_str (aok_cons eok_str (aok_cons eok_str (aok_cons eok_str (aok_cons eok_str (aok_cons eok_str (aok_cons eok_str (aok_cons eok_str aok_nil))))))))))))))))))) (sok_seq (sok_for ⟨rfl, rfl⟩ (np2 rfl) (iok_range1 (aok_cons (eok_cb c1_len (aok_cons (eok_var rfl) aok_nil)) aok_nil)) (gok_nameK (i := 5) rfl) (sok_seq (sok_asg ⟨rfl, rfl⟩ (np2 rfl) (eok_op r2_ix (eok_var rfl) (eok_var rfl)) (gok_tup (n := 2) (gsok_cons (gok_nameK (i := 6) rfl) (gsok_cons (gok_nameK (i := 7) rfl) gsok_nil)))) (sok_if ⟨rfl, rfl⟩ (tok_not (tok_b (eok_call (aok_cons (eok_tup (aok_cons (eok_call (aok_cons (eok_var rfl) (aok_cons (eok_var rfl) aok_nil))) (aok_cons (eok_call (aok_cons (eok_var rfl) (aok_cons (eok_var rfl) aok_nil))) aok_nil))) (aok_cons (eok_op r2_mul (eok_tup (aok_cons (eok_op r2_ix (eok_var rfl) (eok_var rfl)) aok_nil)) eok_int) aok_nil))))) (sok_ret ⟨rfl, rfl⟩ eok_bl) sok_next))) (sok_seq (sok_setK ⟨rfl, rfl⟩ (np rfl) rfl (eok_tup (aok_cons (eok_callK aok_nil (aok_cons eok_int (aok_cons eok_int (aok_cons (eok_tup (aok_cons eok_int (aok_cons (eok_un u1_neg eok_int) aok_nil))) aok_nil)))) (aok_cons (eok_callK aok_nil (aok_cons (eok_tup (aok_cons eok_int (aok_cons (eok_un u1_neg eok_int) aok_nil))) (aok_cons (eok_tup (aok_cons eok_int (aok_cons eok_int aok_nil))) aok_nil))) (aok_cons (eok_callK aok_nil (aok_cons (eok_tup (aok_cons eok_int (aok_cons eok_int aok_nil))) (aok_cons (eok_tup (aok_cons eok_int (aok_cons (eok_un u1_neg eok_int) aok_nil))) aok_nil))) (aok_cons (eok_call (aok_cons (eok_tup (aok_cons eok_int (aok_cons eok_int aok_nil))) (aok_cons eok_int (aok_cons eok_int aok_nil)))) aok_nil)))))) (sok_seq (sok_setK ⟨rfl, rfl⟩ (np rfl) rfl (eok_op r2_add (eok_var rfl) (eok_tup (aok_cons (eok_call (aok_cons (eok_tup (aok_cons (eok_un u1_neg eok_int) (aok_cons eok_int aok_nil))) (aok_cons eok_int (aok_cons eok_int aok_nil)))) (aok_cons (eok_call (aok_cons (eok_tup (aok_cons (eok_un u1_neg eok_int) (aok_cons eok_int aok_nil))) (aok_cons eok_int (aok_cons eok_int aok_nil)))) (aok_cons (eok_call (aok_cons (eok_tup (aok_cons eok_int (aok_cons (eok_un u1_neg eok_int) aok_nil))) (aok_cons eok_int (aok_cons eok_int aok_nil)))) (aok_cons (eok_callK aok_nil (aok_cons eok_int (aok_cons (eok_tup (aok_cons (eok_un u1_neg eok_int) (aok_cons eok_int aok_nil))) aok_nil))) aok_nil))))))) (sok_ret ⟨rfl, rfl⟩ (eok_call (aok_cons (eok_var rfl) (aok_cons (eok_tup (aok_cons eok_int (aok_cons (eok_tup (aok_cons eok_int (aok_cons eok_int aok_nil))) (aok_cons (eok_tup (aok_cons eok_int (aok_cons (eok_un u1_neg eok_int) aok_nil))) (aok_cons (eok_tup (aok_cons eok_str (aok_cons eok_str aok_nil))) (aok_cons (eok_tup (aok_cons eok_str (aok_cons (eok_un u1_neg eok_int) aok_nil))) (aok_cons (eok_tup (aok_cons eok_str (aok_cons (eok_un u1_neg eok_int) aok_nil))) (aok_cons (eok_un u1_neg eok_int) (aok_cons eok_str aok_nil))))))))) aok_nil))))))))))) h⟩
def clsStmt (st : Stmt) (j : Nat) : Stmt := match st with
  | .ClassDef _ _ _ body _ _ _ _ _ _ _ => body.getD j (.Pass ⟨0, 0, 0, 0⟩)
  | _ => .Pass ⟨0, 0, 0, 0⟩
def init_BadStep : Stmt := clsStmt (top 5) 0
def bdy_BadStep : List (Str × PySem.DLX.Pl) := [("word", ⟨14, 25, 14, 29⟩, ⟨15, 8, 15, 12⟩, ⟨15, 8, 15, 17⟩, ⟨15, 20, 15, 24⟩, ⟨15, 8, 15, 24⟩)]
theorem all_mk {P : Program} {w : World} {K : PySem.W.Frag} {h : Heap} {mg : Mg} {fa : Addr} (X : K.In h) (G : h.Ns mainGlobals mg) (hfa : mg "law" = some (.ref fa))
    {C_BadStep C_CallError C_MoveError : Addr}
    {nm_BadStep qn_BadStep : Str} {NN_BadStep : Addr} {bs_BadStep sub_BadStep : List Value} {sn_BadStep : List Str} {ab_BadStep : Bool} {col_BadStep : Option Bool} {dd_BadStep : Option Addr} {m0_BadStep m1_BadStep m2_BadStep m3_BadStep m5_BadStep : Option Value}
    {fI_BadStep cda_BadStep cc_BadStep : Addr} {odI_BadStep anI_BadStep cddI_BadStep : Option Addr} {slI_BadStep : Array (Option Value)} {ocI_BadStep docI_BadStep pmI_BadStep ctI_BadStep : Value}
    {ccl_BadStep ccv_BadStep : Value} {cldI_BadStep : Option Addr} {ccs_BadStep csl_BadStep : Array (Option Value)} {vsI_BadStep : Array Value} {file_BadStep : Str} {tf_BadStep : Tok}
    {f_common_divisor f_size_at f_size_sum f_size_less f_part_text f_growing_text f_size_text f__law_beam f__law_mark f__law_like f__law_number f__law_worth f__law_heard f__law_fraction f__law_text f__law_asked f_law : Addr}
    {od_common_divisor an_common_divisor : Option Addr} {sl_common_divisor : Array (Option Value)} {oc_common_divisor kV_common_divisor dc_common_divisor pm_common_divisor cd_common_divisor ct_common_divisor : Value}
    {od_size_at an_size_at : Option Addr} {sl_size_at : Array (Option Value)} {oc_size_at kV_size_at dc_size_at pm_size_at cd_size_at ct_size_at : Value}
    {od_size_sum an_size_sum : Option Addr} {sl_size_sum : Array (Option Value)} {oc_size_sum kV_size_sum dc_size_sum pm_size_sum cd_size_sum ct_size_sum : Value}
    {od_size_less an_size_less : Option Addr} {sl_size_less : Array (Option Value)} {oc_size_less kV_size_less dc_size_less pm_size_less cd_size_less ct_size_less : Value}
    {od_part_text an_part_text : Option Addr} {sl_part_text : Array (Option Value)} {oc_part_text kV_part_text dc_part_text pm_part_text cd_part_text ct_part_text : Value}
    {od_growing_text an_growing_text : Option Addr} {sl_growing_text : Array (Option Value)} {oc_growing_text kV_growing_text dc_growing_text pm_growing_text cd_growing_text ct_growing_text : Value}
    {od_size_text an_size_text : Option Addr} {sl_size_text : Array (Option Value)} {oc_size_text kV_size_text dc_size_text pm_size_text cd_size_text ct_size_text : Value}
    {od__law_beam an__law_beam : Option Addr} {sl__law_beam : Array (Option Value)} {oc__law_beam kV__law_beam dc__law_beam pm__law_beam cd__law_beam ct__law_beam : Value}
    {od__law_mark an__law_mark : Option Addr} {sl__law_mark : Array (Option Value)} {oc__law_mark kV__law_mark dc__law_mark pm__law_mark cd__law_mark ct__law_mark : Value}
    {od__law_like an__law_like : Option Addr} {sl__law_like : Array (Option Value)} {oc__law_like kV__law_like dc__law_like pm__law_like cd__law_like ct__law_like : Value}
    {od__law_number an__law_number : Option Addr} {sl__law_number : Array (Option Value)} {oc__law_number kV__law_number dc__law_number pm__law_number cd__law_number ct__law_number : Value}
    {od__law_worth an__law_worth : Option Addr} {sl__law_worth : Array (Option Value)} {oc__law_worth kV__law_worth dc__law_worth pm__law_worth cd__law_worth ct__law_worth : Value}
    {od__law_heard an__law_heard : Option Addr} {sl__law_heard : Array (Option Value)} {oc__law_heard kV__law_heard dc__law_heard pm__law_heard cd__law_heard ct__law_heard : Value}
    {od__law_fraction an__law_fraction : Option Addr} {sl__law_fraction : Array (Option Value)} {oc__law_fraction kV__law_fraction dc__law_fraction pm__law_fraction cd__law_fraction ct__law_fraction : Value}
    {od__law_text an__law_text : Option Addr} {sl__law_text : Array (Option Value)} {oc__law_text kV__law_text dc__law_text pm__law_text cd__law_text ct__law_text : Value}
    {od__law_asked an__law_asked : Option Addr} {sl__law_asked : Array (Option Value)} {oc__law_asked kV__law_asked dc__law_asked pm__law_asked cd__law_asked ct__law_asked : Value}
    {od_law an_law : Option Addr} {sl_law : Array (Option Value)} {oc_law kV_law dc_law pm_law cd_law ct_law : Value}
    (aC_BadStep : PySem.W.nsIn K mainGlobals "BadStep" = some (some (.ref C_BadStep)))
    (aC_CallError : PySem.W.nsIn K mainGlobals "CallError" = some (some (.ref C_CallError)))
    (aC_MoveError : PySem.W.nsIn K mainGlobals "MoveError" = some (some (.ref C_MoveError)))
    (eC_BadStep : PySem.W.subIn K (.ref C_BadStep) (.type "BaseException") = some true)
    (tC_BadStep : PySem.W.typeIn K (.ref C_BadStep) = some (.type "type"))
    (iC_BadStep : PySem.W.isClsIn K C_BadStep = true)
    (eC_CallError : PySem.W.subIn K (.ref C_CallError) (.type "BaseException") = some true)
    (tC_CallError : PySem.W.typeIn K (.ref C_CallError) = some (.type "type"))
    (iC_CallError : PySem.W.isClsIn K C_CallError = true)
    (eC_MoveError : PySem.W.subIn K (.ref C_MoveError) (.type "BaseException") = some true)
    (tC_MoveError : PySem.W.typeIn K (.ref C_MoveError) = some (.type "type"))
    (iC_MoveError : PySem.W.isClsIn K C_MoveError = true)
    (s_BadStep_BadStep : PySem.W.subIn K (.ref C_BadStep) (.ref C_BadStep) = some true)
    (q_BadStep_CallError : PySem.W.kitOne K (.ref C_BadStep) (.ref C_CallError) = some true)
    (q_BadStep_MoveError : PySem.W.kitOne K (.ref C_BadStep) (.ref C_MoveError) = some true)
    (xC_BadStep : K.lookup C_BadStep = some (excClassObj nm_BadStep qn_BadStep C_BadStep NN_BadStep bs_BadStep [.ref C_CallError, .ref C_MoveError, .type "ValueError", .type "Exception", .type "BaseException", .type "object"] true sn_BadStep sub_BadStep ab_BadStep col_BadStep dd_BadStep m0_BadStep m1_BadStep m2_BadStep m3_BadStep m5_BadStep "ValueError.__new__"))
    (al_BadStep : PySem.W.alongIn K "__init__" [.ref C_CallError, .ref C_MoveError, .type "ValueError", .type "Exception", .type "BaseException", .type "object"] = some (some (.builtin "ValueError.__init__")))
    (sa_BadStep : PySem.W.findIn K (.ref C_BadStep) "__setattr__" = some (some (.builtin "object.__setattr__")))
    (ga_BadStep : PySem.W.findIn K (.ref C_BadStep) "__getattribute__" = some (some (.builtin "BaseException.__getattribute__")))
    (gg_BadStep : PySem.W.findIn K (.ref C_BadStep) "__getattr__" = some none)
    (nf_word_BadStep : PySem.W.findIn K (.ref C_BadStep) "word" = some none)
    (hd_BadStep : PySem.W.hasDictIn K C_BadStep = true)
    (kC_BadStep : PySem.W.keepIn K (.ref C_BadStep) = true)
    (fi_BadStep : PySem.W.findIn K (.ref C_BadStep) "__init__" = some (some (.ref fI_BadStep)))
    (ti_BadStep : PySem.W.typeIn K (.ref fI_BadStep) = some (.type "function"))
    (li_BadStep : K.lookup fI_BadStep = some ⟨ocI_BadStep, odI_BadStep, .func (PySem.W.fnX "__init__" "BadStep.__init__" (defArgs init_BadStep) (PySem.DLX.bdy bdy_BadStep ⟨14, 8, 14, 13⟩ ⟨14, 8, 14, 15⟩ ⟨14, 8, 14, 24⟩ ⟨14, 8, 14, 30⟩ ⟨14, 8, 14, 30⟩) (defScope init_BadStep) [("__class__", cc_BadStep)] .none .none docI_BadStep pmI_BadStep anI_BadStep (.ref cda_BadStep) ctI_BadStep), slI_BadStep⟩)
    (cd_BadStep : PySem.W.codeIn K (.ref cda_BadStep) "BadStep.__init__" = true)
    (la_BadStep : K.lookup cda_BadStep = some ⟨ccl_BadStep, cddI_BadStep, .fields vsI_BadStep, ccs_BadStep⟩)
    (v2_BadStep : vsI_BadStep[2]? = some (.str file_BadStep tf_BadStep))
    (fl_BadStep : ((P.main.file : Str) == file_BadStep) = true)
    (lc_BadStep : K.lookup cc_BadStep = some ⟨ccv_BadStep, cldI_BadStep, .cell (some (.ref C_BadStep)), csl_BadStep⟩)
    (op_any : PySem.W.nsIn K cStatics "thirdparty.any" = some none)
    (z_super : PySem.W.nsIn K mainGlobals "super" = some none)
    (sup_none : (P.main.scope.names.lookup ("super" : Str)).isSome = false)
    (z_abs : PySem.W.nsIn K mainGlobals "abs" = some none)
    (z_bool : PySem.W.nsIn K mainGlobals "bool" = some none)
    (z_int : PySem.W.nsIn K mainGlobals "int" = some none)
    (z_isinstance : PySem.W.nsIn K mainGlobals "isinstance" = some none)
    (z_len : PySem.W.nsIn K mainGlobals "len" = some none)
    (z_list : PySem.W.nsIn K mainGlobals "list" = some none)
    (z_range : PySem.W.nsIn K mainGlobals "range" = some none)
    (z_str : PySem.W.nsIn K mainGlobals "str" = some none)
    (z_tuple : PySem.W.nsIn K mainGlobals "tuple" = some none)
    (z_zip : PySem.W.nsIn K mainGlobals "zip" = some none)
    (xa_BadStep : PySem.W.findIn K (.ref C_BadStep) "__class__" = some (some (.builtin "object.__class__")))
    (xm_BadStep : PySem.W.mroIn K C_BadStep (.type "object") = some true)
    (x_sp : PySem.W.specialIn K (.builtin "object.__class__") "__get__" = some (some (.builtin "getset_descriptor.__get__")))
    (x_tk : PySem.W.takesIn K (.builtin "object.__class__") = some true)
    (a_common_divisor : PySem.W.nsIn K mainGlobals "common_divisor" = some (some (.ref f_common_divisor)))
    (l_common_divisor : K.lookup f_common_divisor = some ⟨oc_common_divisor, od_common_divisor, .func (PySem.W.fnOf "common_divisor" "common_divisor" (defArgs s_common_divisor) (defBody s_common_divisor) (defScope s_common_divisor) .none kV_common_divisor dc_common_divisor pm_common_divisor an_common_divisor cd_common_divisor ct_common_divisor), sl_common_divisor⟩)
    (c_common_divisor : PySem.W.codeIn K cd_common_divisor "common_divisor" = true)
    (k_common_divisor : PySem.W.keepIn K (.ref f_common_divisor) = true)
    (a_size_at : PySem.W.nsIn K mainGlobals "size_at" = some (some (.ref f_size_at)))
    (l_size_at : K.lookup f_size_at = some ⟨oc_size_at, od_size_at, .func (PySem.W.fnOf "size_at" "size_at" (defArgs s_size_at) (defBody s_size_at) (defScope s_size_at) .none kV_size_at dc_size_at pm_size_at an_size_at cd_size_at ct_size_at), sl_size_at⟩)
    (c_size_at : PySem.W.codeIn K cd_size_at "size_at" = true)
    (k_size_at : PySem.W.keepIn K (.ref f_size_at) = true)
    (a_size_sum : PySem.W.nsIn K mainGlobals "size_sum" = some (some (.ref f_size_sum)))
    (l_size_sum : K.lookup f_size_sum = some ⟨oc_size_sum, od_size_sum, .func (PySem.W.fnOf "size_sum" "size_sum" (defArgs s_size_sum) (defBody s_size_sum) (defScope s_size_sum) .none kV_size_sum dc_size_sum pm_size_sum an_size_sum cd_size_sum ct_size_sum), sl_size_sum⟩)
    (c_size_sum : PySem.W.codeIn K cd_size_sum "size_sum" = true)
    (k_size_sum : PySem.W.keepIn K (.ref f_size_sum) = true)
    (a_size_less : PySem.W.nsIn K mainGlobals "size_less" = some (some (.ref f_size_less)))
    (l_size_less : K.lookup f_size_less = some ⟨oc_size_less, od_size_less, .func (PySem.W.fnOf "size_less" "size_less" (defArgs s_size_less) (defBody s_size_less) (defScope s_size_less) .none kV_size_less dc_size_less pm_size_less an_size_less cd_size_less ct_size_less), sl_size_less⟩)
    (c_size_less : PySem.W.codeIn K cd_size_less "size_less" = true)
    (k_size_less : PySem.W.keepIn K (.ref f_size_less) = true)
    (a_part_text : PySem.W.nsIn K mainGlobals "part_text" = some (some (.ref f_part_text)))
    (l_part_text : K.lookup f_part_text = some ⟨oc_part_text, od_part_text, .func (PySem.W.fnOf "part_text" "part_text" (defArgs s_part_text) (defBody s_part_text) (defScope s_part_text) .none kV_part_text dc_part_text pm_part_text an_part_text cd_part_text ct_part_text), sl_part_text⟩)
    (c_part_text : PySem.W.codeIn K cd_part_text "part_text" = true)
    (k_part_text : PySem.W.keepIn K (.ref f_part_text) = true)
    (a_growing_text : PySem.W.nsIn K mainGlobals "growing_text" = some (some (.ref f_growing_text)))
    (l_growing_text : K.lookup f_growing_text = some ⟨oc_growing_text, od_growing_text, .func (PySem.W.fnOf "growing_text" "growing_text" (defArgs s_growing_text) (defBody s_growing_text) (defScope s_growing_text) .none kV_growing_text dc_growing_text pm_growing_text an_growing_text cd_growing_text ct_growing_text), sl_growing_text⟩)
    (c_growing_text : PySem.W.codeIn K cd_growing_text "growing_text" = true)
    (k_growing_text : PySem.W.keepIn K (.ref f_growing_text) = true)
    (a_size_text : PySem.W.nsIn K mainGlobals "size_text" = some (some (.ref f_size_text)))
    (l_size_text : K.lookup f_size_text = some ⟨oc_size_text, od_size_text, .func (PySem.W.fnOf "size_text" "size_text" (defArgs s_size_text) (defBody s_size_text) (defScope s_size_text) .none kV_size_text dc_size_text pm_size_text an_size_text cd_size_text ct_size_text), sl_size_text⟩)
    (c_size_text : PySem.W.codeIn K cd_size_text "size_text" = true)
    (k_size_text : PySem.W.keepIn K (.ref f_size_text) = true)
    (a__law_beam : PySem.W.nsIn K mainGlobals "_law_beam" = some (some (.ref f__law_beam)))
    (l__law_beam : K.lookup f__law_beam = some ⟨oc__law_beam, od__law_beam, .func (PySem.W.fnOf "_law_beam" "_law_beam" (defArgs s__law_beam) (defBody s__law_beam) (defScope s__law_beam) .none kV__law_beam dc__law_beam pm__law_beam an__law_beam cd__law_beam ct__law_beam), sl__law_beam⟩)
    (c__law_beam : PySem.W.codeIn K cd__law_beam "_law_beam" = true)
    (k__law_beam : PySem.W.keepIn K (.ref f__law_beam) = true)
    (a__law_mark : PySem.W.nsIn K mainGlobals "_law_mark" = some (some (.ref f__law_mark)))
    (l__law_mark : K.lookup f__law_mark = some ⟨oc__law_mark, od__law_mark, .func (PySem.W.fnOf "_law_mark" "_law_mark" (defArgs s__law_mark) (defBody s__law_mark) (defScope s__law_mark) .none kV__law_mark dc__law_mark pm__law_mark an__law_mark cd__law_mark ct__law_mark), sl__law_mark⟩)
    (c__law_mark : PySem.W.codeIn K cd__law_mark "_law_mark" = true)
    (k__law_mark : PySem.W.keepIn K (.ref f__law_mark) = true)
    (a__law_like : PySem.W.nsIn K mainGlobals "_law_like" = some (some (.ref f__law_like)))
    (l__law_like : K.lookup f__law_like = some ⟨oc__law_like, od__law_like, .func (PySem.W.fnOf "_law_like" "_law_like" (defArgs s__law_like) (defBody s__law_like) (defScope s__law_like) .none kV__law_like dc__law_like pm__law_like an__law_like cd__law_like ct__law_like), sl__law_like⟩)
    (c__law_like : PySem.W.codeIn K cd__law_like "_law_like" = true)
    (k__law_like : PySem.W.keepIn K (.ref f__law_like) = true)
    (a__law_number : PySem.W.nsIn K mainGlobals "_law_number" = some (some (.ref f__law_number)))
    (l__law_number : K.lookup f__law_number = some ⟨oc__law_number, od__law_number, .func (PySem.W.fnOf "_law_number" "_law_number" (defArgs s__law_number) (defBody s__law_number) (defScope s__law_number) .none kV__law_number dc__law_number pm__law_number an__law_number cd__law_number ct__law_number), sl__law_number⟩)
    (c__law_number : PySem.W.codeIn K cd__law_number "_law_number" = true)
    (k__law_number : PySem.W.keepIn K (.ref f__law_number) = true)
    (a__law_worth : PySem.W.nsIn K mainGlobals "_law_worth" = some (some (.ref f__law_worth)))
    (l__law_worth : K.lookup f__law_worth = some ⟨oc__law_worth, od__law_worth, .func (PySem.W.fnOf "_law_worth" "_law_worth" (defArgs s__law_worth) (defBody s__law_worth) (defScope s__law_worth) .none kV__law_worth dc__law_worth pm__law_worth an__law_worth cd__law_worth ct__law_worth), sl__law_worth⟩)
    (c__law_worth : PySem.W.codeIn K cd__law_worth "_law_worth" = true)
    (k__law_worth : PySem.W.keepIn K (.ref f__law_worth) = true)
    (a__law_heard : PySem.W.nsIn K mainGlobals "_law_heard" = some (some (.ref f__law_heard)))
    (l__law_heard : K.lookup f__law_heard = some ⟨oc__law_heard, od__law_heard, .func (PySem.W.fnOf "_law_heard" "_law_heard" (defArgs s__law_heard) (defBody s__law_heard) (defScope s__law_heard) .none kV__law_heard dc__law_heard pm__law_heard an__law_heard cd__law_heard ct__law_heard), sl__law_heard⟩)
    (c__law_heard : PySem.W.codeIn K cd__law_heard "_law_heard" = true)
    (k__law_heard : PySem.W.keepIn K (.ref f__law_heard) = true)
    (a__law_fraction : PySem.W.nsIn K mainGlobals "_law_fraction" = some (some (.ref f__law_fraction)))
    (l__law_fraction : K.lookup f__law_fraction = some ⟨oc__law_fraction, od__law_fraction, .func (PySem.W.fnOf "_law_fraction" "_law_fraction" (defArgs s__law_fraction) (defBody s__law_fraction) (defScope s__law_fraction) .none kV__law_fraction dc__law_fraction pm__law_fraction an__law_fraction cd__law_fraction ct__law_fraction), sl__law_fraction⟩)
    (c__law_fraction : PySem.W.codeIn K cd__law_fraction "_law_fraction" = true)
    (k__law_fraction : PySem.W.keepIn K (.ref f__law_fraction) = true)
    (a__law_text : PySem.W.nsIn K mainGlobals "_law_text" = some (some (.ref f__law_text)))
    (l__law_text : K.lookup f__law_text = some ⟨oc__law_text, od__law_text, .func (PySem.W.fnOf "_law_text" "_law_text" (defArgs s__law_text) (defBody s__law_text) (defScope s__law_text) .none kV__law_text dc__law_text pm__law_text an__law_text cd__law_text ct__law_text), sl__law_text⟩)
    (c__law_text : PySem.W.codeIn K cd__law_text "_law_text" = true)
    (k__law_text : PySem.W.keepIn K (.ref f__law_text) = true)
    (a__law_asked : PySem.W.nsIn K mainGlobals "_law_asked" = some (some (.ref f__law_asked)))
    (l__law_asked : K.lookup f__law_asked = some ⟨oc__law_asked, od__law_asked, .func (PySem.W.fnOf "_law_asked" "_law_asked" (defArgs s__law_asked) (defBody s__law_asked) (defScope s__law_asked) .none kV__law_asked dc__law_asked pm__law_asked an__law_asked cd__law_asked ct__law_asked), sl__law_asked⟩)
    (c__law_asked : PySem.W.codeIn K cd__law_asked "_law_asked" = true)
    (k__law_asked : PySem.W.keepIn K (.ref f__law_asked) = true)
    (a_law : PySem.W.nsIn K mainGlobals "law" = some (some (.ref f_law)))
    (l_law : K.lookup f_law = some ⟨oc_law, od_law, .func (PySem.W.fnOf "law" "law" (defArgs s_law) (defBody s_law) (defScope s_law) .none kV_law dc_law pm_law an_law cd_law ct_law), sl_law⟩)
    (c_law : PySem.W.codeIn K cd_law "law" = true)
    (k_law : PySem.W.keepIn K (.ref f_law) = true)
    : ∃ fd : FuncData, (∀ (s : Shared) (v : Value), BindsTo s fd ⟨[v], []⟩ [("script", v)]) ∧ ∀ base : Heap, K.In base → base.Ns mainGlobals mg → FnOk P w K mg base (L2.CX P w) 12 fa fd ["script"] (spLaw d_law K) := by
  have e := hfa.symm.trans (PySem.W.mg_of X G a_law)
  cases e
  have t_BadStep : PySem.DLX.ExTxt P K mg "BadStep" C_BadStep ["word"] := { gC := PySem.W.mg_of X G aC_BadStep, kC := kC_BadStep, cls := ⟨_, _, _, _, _, _, _, _, _, _, _, _, _, _, _, xC_BadStep, by first | rfl | decide +kernel, al_BadStep⟩, sa := sa_BadStep, ga := ga_BadStep, gg := gg_BadStep, noF := fun f hf => by simp only [List.mem_cons, List.not_mem_nil, or_false] at hf; rcases hf with rfl <;> assumption, exC := eC_BadStep, tyC := tC_BadStep, hdC := hd_BadStep, op := op_any, sup := PySem.W.mg_none_of X G z_super, nd := by decide, few := by decide, fn := ⟨_, fi_BadStep, ti_BadStep, _, _, _, _, bdy_BadStep, _, _, _, _, _, _, _, _, _, _, _, _, _, _, _, _, _, _, _, _, _, _, li_BadStep, cd_BadStep, rfl, rfl, la_BadStep, v2_BadStep, fl_BadStep, lc_BadStep, sup_none, rfl, rfl, rfl, by decide +kernel, rfl, by decide +kernel, rfl, rfl, rfl, fun us hl => match us, hl with | [_, _], _ => rfl⟩ }
  have z : Zs mg := ⟨PySem.W.mg_none_of X G z_abs, PySem.W.mg_none_of X G z_bool, PySem.W.mg_none_of X G z_int, PySem.W.mg_none_of X G z_isinstance, PySem.W.mg_none_of X G z_len, PySem.W.mg_none_of X G z_list, PySem.W.mg_none_of X G z_range, PySem.W.mg_none_of X G z_str, PySem.W.mg_none_of X G z_tuple, PySem.W.mg_none_of X G z_zip⟩
  have x : Xs P K mg C_BadStep C_CallError C_MoveError := ⟨t_BadStep, PySem.W.mg_of X G aC_BadStep, PySem.W.mg_of X G aC_CallError, PySem.W.mg_of X G aC_MoveError, exm_of eC_BadStep eC_BadStep iC_BadStep tC_BadStep s_BadStep_BadStep, is_of ⟨⟨C_BadStep, PySem.W.mg_of X G aC_BadStep, ⟨ga_BadStep, gg_BadStep, eC_BadStep, hd_BadStep, xa_BadStep, x_sp, x_tk, xm_BadStep⟩, q_BadStep_CallError⟩, trivial⟩, is_of ⟨⟨C_BadStep, PySem.W.mg_of X G aC_BadStep, ⟨ga_BadStep, gg_BadStep, eC_BadStep, hd_BadStep, xa_BadStep, x_sp, x_tk, xm_BadStep⟩, q_BadStep_MoveError⟩, trivial⟩⟩
  have F_common_divisor := fun_mk (st := s_common_divisor) l_common_divisor c_common_divisor k_common_divisor
  have D_common_divisor : ∀ base : Heap, Df P w K mg base "common_divisor" s_common_divisor ["one", "other"] 2 (p_common_divisor K mg) := fun base => ⟨_, _, ok_common_divisor z x  F_common_divisor, PySem.W.mg_of X G a_common_divisor, k_common_divisor, F_common_divisor.binds (ps := ["one", "other"]) (fun _ _ _ _ _ _ us hl => match us, hl with | [_, _], _ => rfl), F_common_divisor⟩
  have F_size_at := fun_mk (st := s_size_at) l_size_at c_size_at k_size_at
  have D_size_at : ∀ base : Heap, Df P w K mg base "size_at" s_size_at ["size", "parts", "length"] 2 (p_size_at K mg) := fun base => ⟨_, _, ok_size_at z x  F_size_at, PySem.W.mg_of X G a_size_at, k_size_at, F_size_at.binds (ps := ["size", "parts", "length"]) (fun _ _ _ _ _ _ us hl => match us, hl with | [_, _, _], _ => rfl), F_size_at⟩
  have F_size_sum := fun_mk (st := s_size_sum) l_size_sum c_size_sum k_size_sum
  have D_size_sum : ∀ base : Heap, Df P w K mg base "size_sum" s_size_sum ["one", "other"] 2 (p_size_sum K mg) := fun base => ⟨_, _, ok_size_sum z x  F_size_sum, PySem.W.mg_of X G a_size_sum, k_size_sum, F_size_sum.binds (ps := ["one", "other"]) (fun _ _ _ _ _ _ us hl => match us, hl with | [_, _], _ => rfl), F_size_sum⟩
  have F_size_less := fun_mk (st := s_size_less) l_size_less c_size_less k_size_less
  have D_size_less : ∀ base : Heap, Df P w K mg base "size_less" s_size_less ["one", "other"] 2 (p_size_less K mg) := fun base => ⟨_, _, ok_size_less z x  F_size_less, PySem.W.mg_of X G a_size_less, k_size_less, F_size_less.binds (ps := ["one", "other"]) (fun _ _ _ _ _ _ us hl => match us, hl with | [_, _], _ => rfl), F_size_less⟩
  have F__law_beam := fun_mk (st := s__law_beam) l__law_beam c__law_beam k__law_beam
  have D__law_beam : ∀ base : Heap, Df P w K mg base "_law_beam" s__law_beam ["script"] 2 (p__law_beam K mg) := fun base => ⟨_, _, ok__law_beam z x  F__law_beam, PySem.W.mg_of X G a__law_beam, k__law_beam, F__law_beam.binds (ps := ["script"]) (fun _ _ _ _ _ _ us hl => match us, hl with | [_], _ => rfl), F__law_beam⟩
  have F__law_mark := fun_mk (st := s__law_mark) l__law_mark c__law_mark k__law_mark
  have D__law_mark : ∀ base : Heap, Df P w K mg base "_law_mark" s__law_mark ["beam", "many"] 2 (p__law_mark K mg) := fun base => ⟨_, _, ok__law_mark z x  F__law_mark, PySem.W.mg_of X G a__law_mark, k__law_mark, F__law_mark.binds (ps := ["beam", "many"]) (fun _ _ _ _ _ _ us hl => match us, hl with | [_, _], _ => rfl), F__law_mark⟩
  have F__law_like := fun_mk (st := s__law_like) l__law_like c__law_like k__law_like
  have D__law_like : ∀ base : Heap, Df P w K mg base "_law_like" s__law_like ["told", "due"] 2 (p__law_like K mg) := fun base => ⟨_, _, ok__law_like z x  F__law_like, PySem.W.mg_of X G a__law_like, k__law_like, F__law_like.binds (ps := ["told", "due"]) (fun _ _ _ _ _ _ us hl => match us, hl with | [_, _], _ => rfl), F__law_like⟩
  have F__law_worth := fun_mk (st := s__law_worth) l__law_worth c__law_worth k__law_worth
  have D__law_worth : ∀ base : Heap, Df P w K mg base "_law_worth" s__law_worth ["size", "parts", "length"] 2 (p__law_worth K mg) := fun base => ⟨_, _, ok__law_worth z x  F__law_worth, PySem.W.mg_of X G a__law_worth, k__law_worth, F__law_worth.binds (ps := ["size", "parts", "length"]) (fun _ _ _ _ _ _ us hl => match us, hl with | [_, _, _], _ => rfl), F__law_worth⟩
  have F__law_fraction := fun_mk (st := s__law_fraction) l__law_fraction c__law_fraction k__law_fraction
  have D__law_fraction : ∀ base : Heap, Df P w K mg base "_law_fraction" s__law_fraction ["number", "parts"] 2 (p__law_fraction K mg) := fun base => ⟨_, _, ok__law_fraction z x  F__law_fraction, PySem.W.mg_of X G a__law_fraction, k__law_fraction, F__law_fraction.binds (ps := ["number", "parts"]) (fun _ _ _ _ _ _ us hl => match us, hl with | [_, _], _ => rfl), F__law_fraction⟩
  have F_part_text := fun_mk (st := s_part_text) l_part_text c_part_text k_part_text
  have D_part_text : ∀ base : Heap, Df P w K mg base "part_text" s_part_text ["number", "parts"] 4 (p_part_text K mg) := fun base => ⟨_, _, ok_part_text z x (D_common_divisor base) F_part_text, PySem.W.mg_of X G a_part_text, k_part_text, F_part_text.binds (ps := ["number", "parts"]) (fun _ _ _ _ _ _ us hl => match us, hl with | [_, _], _ => rfl), F_part_text⟩
  have F__law_number := fun_mk (st := s__law_number) l__law_number c__law_number k__law_number
  have D__law_number : ∀ base : Heap, Df P w K mg base "_law_number" s__law_number ["beam"] 4 (p__law_number K mg) := fun base => ⟨_, _, ok__law_number z x (D__law_mark base) F__law_number, PySem.W.mg_of X G a__law_number, k__law_number, F__law_number.binds (ps := ["beam"]) (fun _ _ _ _ _ _ us hl => match us, hl with | [_], _ => rfl), F__law_number⟩
  have F__law_heard := fun_mk (st := s__law_heard) l__law_heard c__law_heard k__law_heard
  have D__law_heard : ∀ base : Heap, Df P w K mg base "_law_heard" s__law_heard ["size", "parts", "length"] 4 (p__law_heard K mg) := fun base => ⟨_, _, ok__law_heard z x (D_size_at base) F__law_heard, PySem.W.mg_of X G a__law_heard, k__law_heard, F__law_heard.binds (ps := ["size", "parts", "length"]) (fun _ _ _ _ _ _ us hl => match us, hl with | [_, _, _], _ => rfl), F__law_heard⟩
  have F__law_text := fun_mk (st := s__law_text) l__law_text c__law_text k__law_text
  have D__law_text : ∀ base : Heap, Df P w K mg base "_law_text" s__law_text ["size", "parts"] 4 (p__law_text K mg) := fun base => ⟨_, _, ok__law_text z x (D__law_fraction base) F__law_text, PySem.W.mg_of X G a__law_text, k__law_text, F__law_text.binds (ps := ["size", "parts"]) (fun _ _ _ _ _ _ us hl => match us, hl with | [_, _], _ => rfl), F__law_text⟩
  have F_growing_text := fun_mk (st := s_growing_text) l_growing_text c_growing_text k_growing_text
  have D_growing_text : ∀ base : Heap, Df P w K mg base "growing_text" s_growing_text ["number", "parts"] 6 (p_growing_text K mg) := fun base => ⟨_, _, ok_growing_text z x (D_part_text base) F_growing_text, PySem.W.mg_of X G a_growing_text, k_growing_text, F_growing_text.binds (ps := ["number", "parts"]) (fun _ _ _ _ _ _ us hl => match us, hl with | [_, _], _ => rfl), F_growing_text⟩
  have F_size_text := fun_mk (st := s_size_text) l_size_text c_size_text k_size_text
  have D_size_text : ∀ base : Heap, Df P w K mg base "size_text" s_size_text ["size", "parts"] 8 (p_size_text K mg) := fun base => ⟨_, _, ok_size_text z x (D_growing_text base) (D_part_text base) F_size_text, PySem.W.mg_of X G a_size_text, k_size_text, F_size_text.binds (ps := ["size", "parts"]) (fun _ _ _ _ _ _ us hl => match us, hl with | [_, _], _ => rfl), F_size_text⟩
  have F__law_asked := fun_mk (st := s__law_asked) l__law_asked c__law_asked k__law_asked
  have D__law_asked : ∀ base : Heap, Df P w K mg base "_law_asked" s__law_asked ["beam"] 10 (p__law_asked K mg) := fun base => ⟨_, _, ok__law_asked z x (D__law_mark base) (D__law_like base) (D__law_number base) (D__law_heard base) (D_size_sum base) (D_size_less base) (D_size_text base) (D__law_text base) (D__law_worth base) F__law_asked, PySem.W.mg_of X G a__law_asked, k__law_asked, F__law_asked.binds (ps := ["beam"]) (fun _ _ _ _ _ _ us hl => match us, hl with | [_], _ => rfl), F__law_asked⟩
  have F_law := fun_mk (st := s_law) l_law c_law k_law
  exact ⟨PySem.W.fnOf "law" "law" (defArgs s_law) (defBody s_law) (defScope s_law) .none kV_law dc_law pm_law an_law cd_law ct_law, fun s v => .of_eq rfl, fun base _ _ => (ok_law z x (D__law_beam base) (D__law_like base) (D_size_at base) (D_size_sum base) (D_size_less base) (D__law_heard base) (D__law_asked base) (D_size_text base) (D__law_text base) F_law).imp fun vs H Q E h => h mg⟩
end K11
namespace K11
open PySem L2 DL
theorem gcd_step {a b : Int} (ha : 0 ≤ a) (hb : 0 ≤ b) : Int.gcd b (a % b) = Int.gcd a b := by
  show Nat.gcd b.natAbs (a % b).natAbs = Nat.gcd a.natAbs b.natAbs
  rw [Int.natAbs_emod_of_nonneg ha, Nat.gcd_comm, ← Nat.gcd_rec, Nat.gcd_comm]
theorem cd_loop : ∀ (n : Nat) (a b : Int), 0 ≤ a → 0 ≤ b → b < n → whileF (tVal (eOp (gB0 fun i j => decide (j < i)) (eVar 1) (eC (.int 0)))) (sPar 0 1 (aCons (eVar 1) (aCons (eOp (gIC CMod fun i j => i % j) (eVar 0) (eVar 1)) aNil))) n [some (.int a), some (.int b)] = .nx [some (.int (Int.gcd a b)), some (.int 0)]
  | 0, a, b, ha, hb, h => by omega
  | n + 1, a, b, ha, hb, h => by
    unfold whileF
    by_cases h0 : 0 < b
    · have h1 : 0 ≤ a % b := Int.emod_nonneg _ (by omega)
      have h2 : a % b < b := Int.emod_lt_of_pos _ h0
      have ih := cd_loop n b (a % b) hb h1 (by omega)
      simp [h0, CMod, ih, gcd_step ha hb]
    · have : b = 0 := by omega
      subst this
      simp [ha]
      omega
theorem cd (a b : Int) (ha : 0 ≤ a) (hb : 0 ≤ b) : d_common_divisor [.int a, .int b] = .ret (.int (Int.gcd a b)) [] := by
  have h := cd_loop (b.toNat + 1) a b ha hb (by omega)
  unfold d_common_divisor
  rw [mkF_ap]
  unfold b_common_divisor
  simp [sWhile, w_common_divisor_0, h]
/-! like -/
mutual
def sz1 : D → Nat
  | .tup ds => 1 + szs ds
  | _ => 1
def szs : List D → Nat
  | [] => 0
  | d :: ds => sz1 d + szs ds
end
mutual
def okL : D → Bool
  | .tup ds => okLs ds
  | .int _ => true | .str _ => true | .bl _ => true | .non => true
  | _ => false
def okLs : List D → Bool
  | [] => true
  | d :: ds => okL d && okLs ds
end
theorem szs_append : ∀ (a b : List D), szs (a ++ b) = szs a + szs b
  | [], b => by simp [szs]
  | d :: a, b => by simp [szs, szs_append a b]; omega
theorem okLs_append : ∀ (a b : List D), okLs (a ++ b) = (okLs a && okLs b)
  | [], b => by simp [okLs]
  | d :: a, b => by simp [okLs, okLs_append a b, Bool.and_assoc]
theorem len_szs : ∀ (a : List D), a.length ≤ szs a
  | [] => by simp
  | d :: a => by
    have := len_szs a
    have : 1 ≤ sz1 d := by cases d <;> simp [sz1]
    simp [szs]; omega
theorem zip_self : ∀ (xs : List D), zipD xs xs = xs.map fun d => .tup [d, d]
  | [] => rfl
  | d :: xs => by simp [zipD, zip_self xs]
def likeB : DL.Env → Out := (sSeq (sIf (tVal (eOp gEq (eView (eCB gLen (aCons (eVar 2) aNil))) (eC (.int 0)))) (sRet (eC (.bl true))) Out.nx) (sSeq (sAsg (eMtO 2 gPop aNil) (gT 2 (gsCons (gN 4) (gsCons (gN 5) gsNil)))) (sIf (tVal (eIsi isTup (eVar 5))) (sSeq (sIf (bOr (bNot (tVal (eIsi isTup (eVar 4)))) (tVal (eOp gNe (eCB gLen (aCons (eVar 4) aNil)) (eCB gLen (aCons (eVar 5) aNil))))) (sRet (eC (.bl false))) Out.nx) (sDrop (eMtO 2 gExtend (aCons (eListZ (aCons (eVar 4) (aCons (eVar 5) aNil))) aNil)))) (sIf (bOr (tVal (eOp gIsN (eVar 5) (eC .non))) (tVal (eOp gIsN (eVar 4) (eC .non)))) (sIf (bOr (tVal (eOp gNotN (eVar 4) (eC .non))) (tVal (eOp gNotN (eVar 5) (eC .non)))) (sRet (eC (.bl false))) Out.nx) (sIf (bOr (tVal (eIsi isStr (eVar 5))) (tVal (eIsi isStr (eVar 4)))) (sIf (bOr (bNot (tVal (eIsi isStr (eVar 5)))) (bOr (bNot (tVal (eIsi isStr (eVar 4)))) (tVal (eOp gNe (eVar 4) (eVar 5))))) (sRet (eC (.bl false))) Out.nx) (sIf (bOr (tVal (eOp gNe (eIsi isBl (eVar 5)) (eIsi isBl (eVar 4)))) (bOr (bNot (tVal (eIsi isInt (eVar 4)))) (tVal (eOp gNe (eVar 4) (eVar 5))))) (sRet (eC (.bl false))) Out.nx))))))
theorem like_body : b__law_like = (sSeq (sSet 2 (eLst (aCons (eTup (aCons (eVar 0) (aCons (eVar 1) aNil))) aNil))) (sSeq (sFor (iR1 (aCons (eC (.int 300000)) aNil)) (gN 3) likeB) (sRet (eC (.bl false))))) := rfl
theorem mt0 {ds : List D} {d a b x3 x4 x5 : Option D} {p : D} {h : d = some (.lst (ds ++ [p]))} : eMtO 2 gPop aNil [a, b, d, x3, x4, x5] = .ok p [a, b, some (.lst ds), x3, x4, x5] := by
  subst h
  simp [eMtO, gPop]
theorem like_loop : ∀ (es ds : List D) (a b x3 x4 x5 : Option D), okLs ds = true → szs ds < es.length → szs ds ≤ 16777216 → ∃ ρ', forL (gN 3) likeB es [a, b, some (.lst (ds.map fun d => .tup [d, d])), x3, x4, x5] = .rt (.bl true) ρ'
  | [], ds, a, b, x3, x4, x5, ok, h, _ => by simp at h
  | e :: es, ds, a, b, x3, x4, x5, ok, h, hb => by
    unfold forL
    rcases List.eq_nil_or_concat ds with rfl | ⟨ds, d, rfl⟩
    · refine ⟨[a, b, some (.lst []), some e, x4, x5], ?_⟩
      simp [likeB]
    · simp only [List.concat_eq_append, szs_append, okLs_append, List.length_cons, Bool.and_eq_true] at ok h hb
      have h1 : szs [d] = sz1 d := by simp [szs]
      rw [h1] at h hb
      have hd : 1 ≤ sz1 d := by cases d <;> simp [sz1]
      have ih := fun x4 x5 => like_loop es ds a b (some e) x4 x5 ok.1 (by omega) (by omega)
      have e1 : gPop (ds.map (fun d => D.tup [d, d]) ++ [D.tup [d, d]]) [] = some (D.tup [d, d], ds.map fun d => D.tup [d, d]) := by simp [gPop]
      have ne : ¬ ((((ds.length : Nat) : Int) + 1) = 0) := by omega
      have okd : okL d = true := by have := ok.2; simpa [okLs] using this
      cases d with
      | tup xs =>
        have e2 := zip_self xs
        have hl := len_szs xs
        have hl2 := len_szs ds
        have hs : sz1 (.tup xs) = 1 + szs xs := by simp [sz1]
        rw [hs] at h hb
        have ih2 := fun x4 x5 => like_loop es (ds ++ xs) a b (some e) x4 x5 (by rw [okLs_append, ok.1]; simpa [okL] using okd) (by rw [szs_append]; omega) (by rw [szs_append]; omega)
        have hz : ds.length + xs.length ≤ 16777216 := by omega
        simpa [likeB, eMtO, e1, ne, isTup, isStr, isBl, isInt, sz, e2, hz] using ih2 _ _
      | int i => simpa [likeB, eMtO, e1, ne, isTup, isStr, isBl, isInt] using ih _ _
      | str i => simpa [likeB, eMtO, e1, ne, isTup, isStr, isBl, isInt] using ih _ _
      | bl i => simpa [likeB, eMtO, e1, ne, isTup, isStr, isBl, isInt] using ih _ _
      | non => simpa [likeB, eMtO, e1, ne, isTup, isStr, isBl, isInt] using ih _ _
      | _ => simp [okL] at okd
theorem like (d : D) (ok : okL d = true) (h : sz1 d < 300000) : d__law_like [d, d] = .ret (.bl true) [] := by
  unfold d__law_like
  rw [mkF_ap, like_body]
  obtain ⟨ρ', h2⟩ := like_loop (rangeD 0 300000) [d] (some d) (some d) none none none (by simpa [okLs] using ok) (by simpa [szs, rangeD] using h) (by simp [szs]; omega)
  simp only [List.map_cons, List.map_nil] at h2
  simp [sz, inRg, h2]
end K11
namespace DL
open PySem L2
section
variable {ρ : DL.Env} {fe fl fi fv : ER D} {fa : ER (List D)}
@[simp] theorem eIxO_ap {i : Nat} : eIxO i fe ρ = match ρ[i]? with | some (some _) => (fe ρ).bind fun d ρ' => (match d, ρ'[i]? with | .int k, some (some (.lst ds)) => ofOpt (atI ds k) ρ' | _, _ => .stuck) | _ => .stuck := rfl
@[simp] theorem sSetI_ap {i : Nat} : sSetI i fv fi ρ = (fv ρ).out fun d ρ => match ρ[i]? with | some (some _) => (fi ρ).out fun k ρ => (match k, ρ[i]? with | .int k, some (some (.lst ds)) => (match ixN ds.length k with | some j => .nx (ρ.set i (some (.lst (ds.set j d)))) | none => .stuck) | _, _ => .stuck) | _ => .stuck := rfl
@[simp] theorem eMtO_ap {i : Nat} {g : List D → List D → Option (D × List D)} : eMtO i g fa ρ = match ρ[i]? with | some (some _) => (fa ρ).bind fun es ρ' => (match ρ'[i]? with | some (some (.lst ds)) => (match g ds es with | some (d, ds') => .ok d (ρ'.set i (some (.lst ds'))) | none => .stuck) | _ => .stuck) | _ => .stuck := rfl
@[simp] theorem eCallO_ap {i n : Nat} {f : Den} : eCallO i n f fa ρ = match ρ[i]? with | some (some _) => (fa ρ).bind fun ds ρ => (match ρ[i]? with | some (some d0) => if ds.length = n then (match f (d0 :: ds) with | .ret d outs => .ok d (ρ.set i outs.head?.join) | .exc e outs => .exc e (ρ.set i outs.head?.join) | .stuck => .stuck) else .stuck | _ => .stuck) | _ => .stuck := rfl
@[simp] theorem ix30 : ixN 3 0 = some 0 := rfl
@[simp] theorem ix31 : ixN 3 1 = some 1 := rfl
@[simp] theorem ix32 : ixN 3 2 = some 2 := rfl
end
end DL
namespace K11
open PySem L2 DL
/-! the beam -/
abbrev Bm (cs : List Int) (c v : Int) : D := .lst [.lst (cs.map .int), .int c, .int v]
structure BOk (cs : List Int) (c v : Int) : Prop where
  ne : 0 < cs.length
  sm : ∀ x ∈ cs, -(2 ^ 64) < x ∧ x < 2 ^ 64
  v0 : -(2 ^ 64) < v ∧ v < 2 ^ 64
theorem mark {cs : List Int} {c v n : Int} (h : BOk cs c v) (hn : 0 < n) : ∃ r v', 0 ≤ r ∧ r < n ∧ BOk cs (c + 1) v' ∧ d__law_mark [Bm cs c v, .int n] = .ret (.int r) [some (Bm cs (c + 1) v')] := by
  have hl : (0 : Int) < cs.length := by have := h.ne; omega
  have h1 : 0 ≤ (c + 1) % (cs.length : Int) := Int.emod_nonneg _ (by omega)
  have h2 : (c + 1) % (cs.length : Int) < cs.length := Int.emod_lt_of_pos _ hl
  obtain ⟨k, hk⟩ : ∃ k, ((c + 1) % (cs.length : Int)).toNat = k := ⟨_, rfl⟩
  have hkl : k < cs.length := by omega
  have hx := h.sm cs[k] (List.getElem_mem hkl)
  have e1 : atI (cs.map D.int) ((c + 1) % (cs.length : Int)) = some (.int cs[k]) := by
    rw [at_nat h1 (by simpa using h2), hk, List.getElem?_map, List.getElem?_eq_getElem hkl]
    rfl
  have m1 : CMul v 1069 := .inr (by decide)
  have m2 : CMul cs[k] (c + 1 + 7) := .inl hx
  have v0 : 0 ≤ (v * 1069 + cs[k] * (c + 1 + 7) + 5003) % 1999271 := Int.emod_nonneg _ (by decide)
  have v1 : (v * 1069 + cs[k] * (c + 1 + 7) + 5003) % 1999271 < 1999271 := Int.emod_lt_of_pos _ (by decide)
  refine ⟨(v * 1069 + cs[k] * (c + 1 + 7) + 5003) % 1999271 / 23 % n, (v * 1069 + cs[k] * (c + 1 + 7) + 5003) % 1999271, Int.emod_nonneg _ (by omega), Int.emod_lt_of_pos _ hn, ⟨h.ne, h.sm, by omega⟩, ?_⟩
  unfold d__law_mark
  rw [mkF_ap]
  unfold b__law_mark
  simp [CMod, CDiv, e1, m1, m2, h.ne, hn]
def L18 : List Int := [0, 1, -1, 2, -2, 3, 4, -4, 6, 8, -8, 12, 16, 32, -33, 200, -1000, 5]
theorem number {cs : List Int} {c v : Int} (h : BOk cs c v) : ∃ x v', x ∈ L18 ∧ BOk cs (c + 1) v' ∧ d__law_number [Bm cs c v] = .ret (.int x) [some (Bm cs (c + 1) v')] := by
  obtain ⟨r, v', h0, h1, hb, e⟩ := mark h (n := 18) (by decide)
  have hl : L18.length = 18 := rfl
  have hr : r.toNat < L18.length := by rw [hl]; omega
  have e1 : atI (L18.map D.int) r = some (.int L18[r.toNat]) := by
    rw [at_nat h0 (by rw [List.length_map, hl]; omega), List.getElem?_map, List.getElem?_eq_getElem hr]
    rfl
  refine ⟨_, v', List.getElem_mem hr, hb, ?_⟩
  have e2 : L18.map D.int = [.int 0, .int 1, .int (-1), .int 2, .int (-2), .int 3, .int 4, .int (-4), .int 6, .int 8, .int (-8), .int 12, .int 16, .int 32, .int (-33), .int 200, .int (-1000), .int 5] := rfl
  rw [e2] at e1
  unfold d__law_number
  rw [mkF_ap]
  unfold b__law_number
  simp [sz, e, e1]
/-- the beam laid -/
def beamB : DL.Env → Out := (sDrop (eMtO 1 gAppend (aCons (eOp (gIC CMod fun i j => i % j) (eOp gAdd (eOp gAdd (eOp gMul (eIxO 1 (eUn gNeg (eC (.int 1)))) (eC (.int 463))) (eOp (gIC CMod fun i j => i % j) (eOp (gIC CMod fun i j => i % j) (eCB gAbs (aCons (eCB gInt (aCons (eVar 2) aNil)) aNil)) (eOp (gIC CPow fun i j => i * 2 ^ j.toNat) (eC (.int 1)) (eC (.int 2000)))) (eC (.int 1000393)))) (eView (eCB gLen (aCons (eVar 1) aNil)))) (eC (.int 1999271))) aNil)))
theorem at_neg {α : Type} {xs : List α} {x : α} : atI (xs ++ [x]) (-1) = some x := atI_last xs x
theorem p2000 : (0 : Int) < 2 ^ 2000 := Int.pow_pos (by decide)
theorem beam_loop : ∀ (es cs : List Int) (l : Int) (a x : Option D), (∀ y ∈ cs ++ [l], -(2 ^ 63) < y ∧ y < 2 ^ 63) → cs.length + es.length < 1000 → ∃ cs' l' x', forL (gN 2) beamB (es.map .int) [a, some (.lst ((cs ++ [l]).map .int)), x] = .nx [a, some (.lst ((cs' ++ [l']).map .int)), x'] ∧ (∀ y ∈ cs' ++ [l'], -(2 ^ 63) < y ∧ y < 2 ^ 63) ∧ cs'.length < 1000
  | [], cs, l, a, x, h, hl => ⟨cs, l, x, rfl, h, by simpa using hl⟩
  | e :: es, cs, l, a, x, h, hl => by
    have hl0 := h l (by simp)
    have m1 : CMul l 463 := .inr (by decide)
    obtain ⟨y, hy⟩ : ∃ y, (l * 463 + (if e < 0 then -e else e) % 2 ^ 2000 % 1000393 + ((cs.length : Int) + 1)) % 1999271 = y := ⟨_, rfl⟩
    have y0 : 0 ≤ y := by rw [← hy]; exact Int.emod_nonneg _ (by decide)
    have y1 : y < 1999271 := by rw [← hy]; exact Int.emod_lt_of_pos _ (by decide)
    obtain ⟨cs', l', x', h1, h2, h3⟩ := beam_loop es (cs ++ [l]) y a (some (.int e)) (fun z hz => by
      rcases List.mem_append.mp hz with hz | hz
      · exact h z hz
      · have : z = y := by simpa using hz
        omega) (by simp at hl ⊢; omega)
    refine ⟨cs', l', x', ?_, h2, h3⟩
    rw [List.map_cons]
    unfold forL
    have pw : CPow 1 2000 := by decide
    have hz : cs.length + 1 < 16777216 := by simp at hl; omega
    have e1 : atI (cs.map D.int ++ [D.int l]) (-1) = some (.int l) := at_neg
    simp at h1
    simp [beamB, e1, CMod, m1, pw, p2000, hy, sz, hz]
    exact h1
theorem cut40 (ns : List Int) : (cutD ns none (some 40)).length ≤ 40 := by
  unfold cutD HT.sIx
  simp
  omega
theorem beam (ns : List Int) : ∃ cs v, BOk cs 0 v ∧ d__law_beam [.scr ns] = .ret (Bm cs 0 v) [] := by
  have hc := cut40 ns
  obtain ⟨cs, l, x, h1, h2, h3⟩ := beam_loop (cutD ns none (some 40)) [] 5003 (some (.scr ns)) none (by simp) (by simp; omega)
  have hl := h2 l (by simp)
  have hq : l / 9 ≤ 2 ^ 63 := by omega
  have hq2 : -(2 ^ 63) ≤ l / 9 := by omega
  refine ⟨cs ++ [l] ++ [l / 9 + 2], l + 5003, ⟨by simp, fun y hy => ?_, by omega⟩, ?_⟩
  · rcases List.mem_append.mp hy with hy | hy
    · have := h2 y hy; omega
    · have : y = l / 9 + 2 := by simpa using hy
      omega
  · unfold d__law_beam
    rw [mkF_ap]
    have e0 : b__law_beam = (sSeq (sSet 1 (eLst (aCons (eC (.int 5003)) aNil))) (sSeq (sFor (iA (eSl gSl (eVar 0) pNo (pSo (eC (.int 40))))) (gN 2) beamB) (sRet (eLst (aCons (eOp gAdd (eVar 1) (eLst (aCons (eOp gAdd (eOp (gIC CDiv fun i j => i / j) (eOp gIx (eVar 1) (eUn gNeg (eC (.int 1)))) (eC (.int 9))) (eC (.int 2))) aNil))) (aCons (eC (.int 0)) (aCons (eOp gAdd (eOp gIx (eVar 1) (eUn gNeg (eC (.int 1)))) (eC (.int 5003))) aNil))))))) := rfl
    rw [e0]
    have e1 : atI (cs.map D.int ++ [D.int l]) (-1) = some (.int l) := at_neg
    have hz : cs.length + 1 + 1 ≤ 16777216 := by omega
    simp at h1
    simp [sz, h1, e1, CDiv, hz]
end K11
namespace K11
open PySem L2 DL
theorem tI_len {i : Int} (h0 : 0 ≤ i) (h : i < 10 ^ 10) : (tI i).length ≤ 10 := PyProof.Rows.toString_length_le h0 (by decide) h
theorem log_ok {i : Int} (h0 : 0 ≤ i) (h : i < 10 ^ 10) : i.natAbs.log2 < 1920 := by
  have h1 : i.natAbs < 2 ^ 40 := by omega
  by_cases hz : i.natAbs = 0
  · rw [hz]; decide
  · have := (Nat.log2_lt hz).mpr h1
    omega
/-- n / p in its lowest terms -/
def ptx (n p : Int) : Str := if Int.gcd n p < p then tI (n / Int.gcd n p) ++ ("/" ++ tI (p / Int.gcd n p)) else tI (n / Int.gcd n p)
theorem app_nil (a : Str) : a ++ ("" : Str) = a := by
  have : (a ++ ("" : Str)).cps = a.cps := by show a.cps ++ #[] = a.cps; simp
  cases a; cases h : (Str.mk _ ++ ("" : Str)); rw [h] at this; simpa using this
theorem nil_app (a : Str) : ("" : Str) ++ a = a := by
  have : (("" : Str) ++ a).cps = a.cps := by show #[] ++ a.cps = a.cps; simp
  cases a; cases h : (("" : Str) ++ Str.mk _); rw [h] at this; simpa using this
theorem gcd_pos' {n p : Int} (hp : 0 < p) : 0 < (Int.gcd n p : Int) ∧ (Int.gcd n p : Int) ≤ p := by
  have h1 : 0 < Int.gcd n p := Int.gcd_pos_of_ne_zero_right _ (by omega)
  have h2 : (Int.gcd n p : Int) ∣ p := Int.gcd_dvd_right ..
  have := Int.le_of_dvd hp h2
  omega
theorem div_le {n g : Int} (hn : 0 ≤ n) (hg : 0 < g) : 0 ≤ n / g ∧ n / g ≤ n := by
  refine ⟨Int.ediv_nonneg hn (by omega), Int.ediv_le_self _ hn⟩
theorem one_len : ("/" : Str).length = 1 := by decide +kernel
theorem ptx_len {n p : Int} (hn : 0 ≤ n) (h1 : n < 10 ^ 10) (hp : 0 < p) (h2 : p ≤ 32) : (ptx n p).length ≤ 21 := by
  obtain ⟨g0, g1⟩ := gcd_pos' (n := n) hp
  have a := div_le hn g0
  have b := div_le (Int.le_of_lt hp) g0
  have l1 := tI_len a.1 (by omega)
  have l2 := tI_len b.1 (by omega)
  unfold ptx
  split
  · rw [PySem.Str.length_append, PySem.Str.length_append, one_len]; omega
  · omega
theorem part {n p : Int} (hn : 0 ≤ n) (h1 : n < 10 ^ 10) (hp : 0 < p) (h2 : p ≤ 32) : d_part_text [.int n, .int p] = .ret (.str (ptx n p)) [] := by
  obtain ⟨g0, g1⟩ := gcd_pos' (n := n) hp
  have a := div_le hn g0
  have b := div_le (Int.le_of_lt hp) g0
  have l1 := tI_len a.1 (by omega)
  have l2 := tI_len b.1 (by omega)
  have c := cd n p hn (by omega)
  have cd1 : CDiv n (Int.gcd n p) := ⟨g0, by omega⟩
  have cd2 : CDiv p (Int.gcd n p) := ⟨g0, by omega⟩
  have lg1 := log_ok a.1 (by omega)
  have lg2 := log_ok b.1 (by omega)
  have z1 : 1 + (tI (p / Int.gcd n p)).length ≤ 16777216 := by omega
  have z2 : (tI (n / Int.gcd n p)).length + (1 + (tI (p / Int.gcd n p)).length) ≤ 16777216 := by omega
  have z3 : (tI (n / Int.gcd n p)).length ≤ 16777216 := by omega
  have e0 : ("" : Str).length = 0 := by decide +kernel
  unfold d_part_text
  rw [mkF_ap]
  unfold b_part_text ptx
  by_cases h : (Int.gcd n p : Int) < p
  · simp [c, cd1, cd2, lg1, lg2, h, sz, one_len, z1, z2, PySem.Str.length_append]
  · simp [c, cd1, cd2, lg1, lg2, h, sz, e0, z3, app_nil]
/-! the law's own writer -/
def hf (s : Int × Int) : Int × Int := if 1 < s.2 ∧ s.1 % 2 = 0 then (s.1 / 2, s.2 / 2) else s
def hfs : Nat → Int × Int → Int × Int
  | 0, s => s
  | n + 1, s => hfs n (hf s)
def fracB : DL.Env → Out := (sIf (bAnd (tVal (eOp (gB0 fun i j => decide (j < i)) (eVar 1) (eC (.int 1)))) (tVal (eOp gEq (eOp (gIC CMod fun i j => i % j) (eCB gInt (aCons (eVar 0) aNil)) (eC (.int 2))) (eC (.int 0))))) (sPar 0 1 (aCons (eOp (gIC CDiv fun i j => i / j) (eVar 0) (eC (.int 2))) (aCons (eOp (gIC CDiv fun i j => i / j) (eVar 1) (eC (.int 2))) aNil))) Out.nx)
theorem frac_loop : ∀ (es : List D) (n p : Int) (x : Option D), ∃ x', forL (gN 2) fracB es [some (.int n), some (.int p), x] = .nx [some (.int (hfs es.length (n, p)).1), some (.int (hfs es.length (n, p)).2), x']
  | [], n, p, x => ⟨x, rfl⟩
  | e :: es, n, p, x => by
    unfold forL
    obtain ⟨x', ih⟩ := frac_loop es (hf (n, p)).1 (hf (n, p)).2 (some e)
    refine ⟨x', ?_⟩
    rw [List.length_cons]
    show _ = Out.nx [some (.int (hfs es.length (hf (n, p))).1), some (.int (hfs es.length (hf (n, p))).2), x']
    have ub : ∀ ρ, fracB ρ = (sIf (bAnd (tVal (eOp (gB0 fun i j => decide (j < i)) (eVar 1) (eC (.int 1)))) (tVal (eOp gEq (eOp (gIC CMod fun i j => i % j) (eCB gInt (aCons (eVar 0) aNil)) (eC (.int 2))) (eC (.int 0))))) (sPar 0 1 (aCons (eOp (gIC CDiv fun i j => i / j) (eVar 0) (eC (.int 2))) (aCons (eOp (gIC CDiv fun i j => i / j) (eVar 1) (eC (.int 2))) aNil))) Out.nx) ρ := fun _ => rfl
    have cd : ∀ z, CDiv z 2 := fun z => ⟨by decide, by decide⟩
    by_cases h1 : 1 < p
    · by_cases h2 : n % 2 = 0
      · have e1 : hf (n, p) = (n / 2, p / 2) := by unfold hf; rw [if_pos ⟨h1, h2⟩]
        rw [e1] at ih ⊢
        simp [ub, h1, h2, CMod, cd, ih]
      · have e1 : hf (n, p) = (n, p) := by unfold hf; rw [if_neg (fun z => h2 z.2)]
        rw [e1] at ih ⊢
        simp [ub, h1, h2, CMod, ih]
    · have e1 : hf (n, p) = (n, p) := by unfold hf; rw [if_neg (fun z => h1 z.1)]
      rw [e1] at ih ⊢
      simp [ub, h1, ih]
theorem hf_fix {n p : Int} (h : ¬ (1 < p ∧ n % 2 = 0)) : ∀ m, hfs m (n, p) = (n, p)
  | 0 => rfl
  | m + 1 => by
    unfold hfs
    have : hf (n, p) = (n, p) := by unfold hf; rw [if_neg h]
    rw [this, hf_fix h m]
theorem gcd_odd {n : Int} (h : n % 2 ≠ 0) : ∀ k : Nat, Int.gcd n (2 ^ k) = 1
  | 0 => by simp
  | k + 1 => by
    have ih := gcd_odd h k
    have h2 : Int.gcd n 2 = 1 := by
      have : Int.gcd n 2 ∣ 2 := by
        have := Int.gcd_dvd_right (a := n) (b := 2)
        exact Int.natCast_dvd_natCast.mp (by simpa using this)
      have hle := Nat.le_of_dvd (by decide) this
      have hp : 0 < Int.gcd n 2 := Int.gcd_pos_of_ne_zero_right _ (by decide)
      rcases Nat.lt_or_ge (Int.gcd n 2) 2 with z | z
      · omega
      · have e : Int.gcd n 2 = 2 := by omega
        have d := Int.gcd_dvd_left (a := n) (b := 2)
        rw [e] at d
        exact absurd (Int.emod_eq_zero_of_dvd d) h
    rw [Int.pow_succ]
    exact Int.gcd_mul_right_right_of_gcd_eq_one ih |>.trans h2
theorem hfs_gcd : ∀ (k m : Nat) (n : Int), k ≤ m → 0 ≤ n → hfs m (n, (2 : Int) ^ k) = (n / (Int.gcd n (2 ^ k) : Int), (2 : Int) ^ k / (Int.gcd n (2 ^ k) : Int))
  | 0, m, n, _, hn => by
    rw [hf_fix (by simp) m]
    simp
  | k + 1, 0, n, h, _ => by omega
  | k + 1, m + 1, n, h, hn => by
    have hp : (1 : Int) ≤ 2 ^ k := by have : (0 : Int) < 2 ^ k := Int.pow_pos (by decide); omega
    have e0 : (2 : Int) ^ (k + 1) = 2 ^ k * 2 := Int.pow_succ ..
    by_cases h2 : n % 2 = 0
    · have e1 : hf (n, 2 ^ (k + 1)) = (n / 2, 2 ^ k) := by
        unfold hf
        rw [if_pos ⟨by show (1:Int) < 2 ^ (k + 1); omega, h2⟩]
        show (n / 2, (2 : Int) ^ (k + 1) / 2) = _
        rw [e0, Int.mul_ediv_cancel _ (by decide)]
      unfold hfs
      rw [e1, hfs_gcd k m (n / 2) (by omega) (by omega)]
      obtain ⟨q, rfl⟩ : ∃ q, n = q * 2 := ⟨n / 2, by omega⟩
      rw [Int.mul_ediv_cancel _ (by decide), e0, Int.gcd_mul_right]
      show _ = (q * 2 / (((Int.gcd q (2 ^ k) * 2 : Nat)) : Int), 2 ^ k * 2 / (((Int.gcd q (2 ^ k) * 2 : Nat)) : Int))
      rw [Int.natCast_mul]
      rw [show ((2 : Nat) : Int) = 2 from rfl, Int.mul_ediv_mul_of_pos_left _ _ (by decide), Int.mul_ediv_mul_of_pos_left _ _ (by decide)]
    · rw [hf_fix (fun z => h2 z.2), gcd_odd h2]
      simp
theorem frac {n : Int} {k : Nat} (hn : 0 ≤ n) (h1 : n < 10 ^ 10) (hk : k ≤ 5) : d__law_fraction [.int n, .int (2 ^ k)] = .ret (.str (ptx n (2 ^ k))) [] := by
  have hp : (0 : Int) < 2 ^ k := Int.pow_pos (by decide)
  have h2 : (2 : Int) ^ k ≤ 32 := by
    have : k = 0 ∨ k = 1 ∨ k = 2 ∨ k = 3 ∨ k = 4 ∨ k = 5 := by omega
    rcases this with rfl | rfl | rfl | rfl | rfl | rfl <;> decide
  obtain ⟨g0, g1⟩ := gcd_pos' (n := n) hp
  have a := div_le hn g0
  have b := div_le (Int.le_of_lt hp) g0
  have l1 := tI_len a.1 (by omega)
  have l2 := tI_len b.1 (by omega)
  have lg1 := log_ok a.1 (by omega)
  have lg2 := log_ok b.1 (by omega)
  obtain ⟨x, hx⟩ := frac_loop (rangeD 0 6) n (2 ^ k) none
  have e6 : (rangeD 0 6).length = 6 := by simp [rangeD]
  rw [e6, hfs_gcd k 6 n (by omega) hn] at hx
  have e0 : b__law_fraction = (sSeq (sFor (iR1 (aCons (eC (.int 6)) aNil)) (gN 2) fracB) (sRet (eIf (tVal (eOp gEq (eVar 1) (eC (.int 1)))) (eCB gStr (aCons (eVar 0) aNil)) (eOp gAdd (eOp gAdd (eCB gStr (aCons (eVar 0) aNil)) (eC (.str "/"))) (eCB gStr (aCons (eVar 1) aNil)))))) := rfl
  have z1 : (tI (n / Int.gcd n (2 ^ k))).length + 1 ≤ 16777216 := by omega
  have z2 : (tI (n / Int.gcd n (2 ^ k))).length + 1 + (tI (2 ^ k / Int.gcd n (2 ^ k))).length ≤ 16777216 := by omega
  unfold d__law_fraction
  rw [mkF_ap, e0]
  unfold ptx
  have hd : (Int.gcd n (2 ^ k) : Int) ∣ 2 ^ k := Int.gcd_dvd_right ..
  by_cases h : (Int.gcd n (2 ^ k) : Int) < 2 ^ k
  · have ne : ¬ ((2 : Int) ^ k / Int.gcd n (2 ^ k) = 1) := fun z => by
      have := Int.ediv_mul_cancel hd
      rw [z] at this
      omega
    simp [inRg, hx, ne, lg1, lg2, sz, one_len, z1, z2, PySem.Str.length_append, h, PySem.Str.append_assoc]
  · have e : (Int.gcd n (2 ^ k) : Int) = 2 ^ k := by omega
    have e1 : (2 : Int) ^ k / Int.gcd n (2 ^ k) = 1 := by rw [e]; exact Int.ediv_self (by omega)
    simp [inRg, hx, e1, lg1, sz, h]
end K11
namespace K11
open PySem L2 DL
def ab (i : Int) : Int := if i < 0 then -i else i
def gtx (A : Str) : Str := if A = "1" then "n" else A ++ " n"
def sg (a : Int) : Str := if a < 0 then "-" else ""
def sp (a : Int) : Str := if a < 0 then " - " else " + "
/-- the text of a size -/
def stx (a c p : Int) : Str :=
  if a = 0 then sg c ++ ptx (ab c) p
  else if c = 0 then sg a ++ gtx (ptx (ab a) p) else (sg a ++ gtx (ptx (ab a) p)) ++ (sp c ++ ptx (ab c) p)
theorem len_n : ("n" : Str).length = 1 := by decide +kernel
theorem len_sn : (" n" : Str).length = 2 := by decide +kernel
theorem len_m : ("-" : Str).length = 1 := by decide +kernel
theorem len_e : ("" : Str).length = 0 := by decide +kernel
theorem len_sm : (" - " : Str).length = 3 := by decide +kernel
theorem len_sp : (" + " : Str).length = 3 := by decide +kernel
theorem sg_len (a : Int) : (sg a).length ≤ 1 := by unfold sg; split; rw [len_m]; exact Nat.le_refl _; rw [len_e]; exact Nat.zero_le _
theorem sp_len (a : Int) : (sp a).length = 3 := by unfold sp; split; exact len_sm; exact len_sp
theorem gtx_len {A : Str} (h : A.length ≤ 21) : (gtx A).length ≤ 23 := by
  unfold gtx; split
  · rw [len_n]; omega
  · rw [Str.length_append, len_sn]; omega
theorem growing {n p : Int} (hn : 0 ≤ n) (h1 : n < 10 ^ 10) (hp : 0 < p) (h2 : p ≤ 32) : d_growing_text [.int n, .int p] = .ret (.str (gtx (ptx n p))) [] := by
  have e := part hn h1 hp h2
  have l := ptx_len hn h1 hp h2
  have z : (ptx n p).length + 2 ≤ 16777216 := by omega
  unfold d_growing_text
  rw [mkF_ap]
  unfold b_growing_text gtx
  by_cases h : ptx n p = "1"
  · simp [e, h]
  · simp [e, h, sz, len_sn, z]
/-- the sizes that are asked -/
structure Sz (a c p : Int) : Prop where
  a0 : -(10 ^ 9) < a ∧ a < 10 ^ 9
  c0 : -(10 ^ 9) < c ∧ c < 10 ^ 9
  p0 : ∃ k : Nat, k ≤ 5 ∧ p = 2 ^ k
theorem Sz.pp {a c p : Int} (h : Sz a c p) : 0 < p ∧ p ≤ 32 := by
  obtain ⟨k, hk, rfl⟩ := h.p0
  have : k = 0 ∨ k = 1 ∨ k = 2 ∨ k = 3 ∨ k = 4 ∨ k = 5 := by omega
  rcases this with rfl | rfl | rfl | rfl | rfl | rfl <;> decide
theorem ab_ok {a : Int} (h : -(10 ^ 9) < a ∧ a < 10 ^ 9) : 0 ≤ ab a ∧ ab a < 10 ^ 10 := by unfold ab; split <;> omega
theorem ptx0 {p : Int} (hp : 0 < p) : ptx 0 p = "0" := by
  have e : (Int.gcd 0 p : Int) = p := by rw [Int.gcd_zero_left]; omega
  unfold ptx
  rw [e, if_neg (by omega)]
  simp
  decide +kernel
theorem size_text {a c p : Int} (h : Sz a c p) : d_size_text [.tup [.int a, .int c], .int p] = .ret (.str (stx a c p)) [] := by
  obtain ⟨p1, p2⟩ := h.pp
  obtain ⟨a1, a2⟩ := ab_ok h.a0
  obtain ⟨c1, c2⟩ := ab_ok h.c0
  have e1 := growing a1 a2 p1 p2
  have e2 := part c1 c2 p1 p2
  have l1 := gtx_len (ptx_len a1 a2 p1 p2)
  have l2 := ptx_len c1 c2 p1 p2
  have l3 := sg_len a
  have l4 := sg_len c
  have l5 := sp_len c
  unfold ab at e1 e2
  unfold d_size_text
  rw [mkF_ap]
  unfold b_size_text
  have s1 : ∀ (x : Int), (if x < 0 then (D.str "-") else D.str "") = D.str (sg x) := fun x => by unfold sg; split <;> rfl
  by_cases ha : a = 0
  · subst ha
    by_cases hc : c = 0
    · subst hc
      simp [sz, stx, sg, ab, ptx0 p1, nil_app]
    · have z : (sg c).length + (ptx (ab c) p).length ≤ 16777216 := by omega
      have e : stx 0 c p = sg c ++ ptx (ab c) p := by unfold stx; rw [if_pos rfl]
      rw [e]
      have hcut : cutD [D.tup [.int c, .str (ptx (ab c) p)]] (some 1) none = [] := by simp [cutD, HT.sIx]
      by_cases hn : c < 0
      · have es : sg c = "-" := by unfold sg; rw [if_pos hn]
        rw [es] at z ⊢
        unfold ab at z hcut ⊢
        simp only [hn, if_true] at z hcut e2 ⊢
        simp [sz, hc, e2, hn, hcut, z, forL]
      · have es : sg c = "" := by unfold sg; rw [if_neg hn]
        rw [es] at z ⊢
        unfold ab at z hcut ⊢
        simp only [hn, if_false] at z hcut e2 ⊢
        simp [sz, hc, e2, hn, hcut, z, forL]
  · obtain ⟨A, hA⟩ : ∃ A, gtx (ptx (ab a) p) = A := ⟨_, rfl⟩
    obtain ⟨T, hT⟩ : ∃ T, ptx (ab c) p = T := ⟨_, rfl⟩
    obtain ⟨x, hx⟩ : ∃ x, ab a = x := ⟨_, rfl⟩
    obtain ⟨y, hy⟩ : ∃ y, ab c = y := ⟨_, rfl⟩
    rw [hA] at l1
    rw [hT] at l2
    unfold stx
    rw [if_neg ha, hA, hT]
    rw [hx] at hA
    rw [hy] at hT
    unfold ab at hx hy
    rw [hx, hA] at e1
    rw [hy, hT] at e2
    have z1 : (sg a).length + A.length ≤ 16777216 := by omega
    have z2 : (sg a ++ A).length + ((sp c) ++ T).length ≤ 16777216 := by rw [Str.length_append, Str.length_append]; omega
    have z3 : (sp c).length + T.length ≤ 16777216 := by omega
    by_cases hc : c = 0
    · subst hc
      have hcut : cutD [D.tup [.int a, .str A]] (some 1) none = [] := by simp [cutD, HT.sIx]
      rw [if_pos rfl]
      by_cases hn : a < 0
      · have es : sg a = "-" := by unfold sg; rw [if_pos hn]
        rw [es] at z1 ⊢
        simp only [hn, if_true] at hx
        simp [sz, ha, hn, hx, e1, hcut, z1, forL]
      · have es : sg a = "" := by unfold sg; rw [if_neg hn]
        rw [es] at z1 ⊢
        simp only [hn, if_false] at hx
        subst hx
        simp [sz, ha, hn, e1, hcut, z1, forL]
    · have hcut : cutD [D.tup [.int a, .str A], D.tup [.int c, .str T]] (some 1) none = [D.tup [.int c, .str T]] := by simp [cutD, HT.sIx]
      rw [if_neg hc]
      by_cases hn : a < 0
      · have es : sg a = "-" := by unfold sg; rw [if_pos hn]
        rw [es] at z1 z2 ⊢
        simp only [hn, if_true] at hx
        by_cases hm : c < 0
        · have et : sp c = " - " := by unfold sp; rw [if_pos hm]
          rw [et] at z2 z3 ⊢
          simp only [hm, if_true] at hy
          simp [sz, ha, hn, hx, e1, hc, hm, hy, e2, hcut, z1, z2, z3, forL]
        · have et : sp c = " + " := by unfold sp; rw [if_neg hm]
          rw [et] at z2 z3 ⊢
          simp only [hm, if_false] at hy
          subst hy
          simp [sz, ha, hn, hx, e1, hc, hm, e2, hcut, z1, z2, z3, forL]
      · have es : sg a = "" := by unfold sg; rw [if_neg hn]
        rw [es] at z1 z2 ⊢
        simp only [hn, if_false] at hx
        subst hx
        by_cases hm : c < 0
        · have et : sp c = " - " := by unfold sp; rw [if_pos hm]
          rw [et] at z2 z3 ⊢
          simp only [hm, if_true] at hy
          simp [sz, ha, hn, e1, hc, hm, hy, e2, hcut, z1, z2, z3, forL]
        · have et : sp c = " + " := by unfold sp; rw [if_neg hm]
          rw [et] at z2 z3 ⊢
          simp only [hm, if_false] at hy
          subst hy
          simp [sz, ha, hn, e1, hc, hm, e2, hcut, z1, z2, z3, forL]
theorem law_text {a c p : Int} (h : Sz a c p) : d__law_text [.tup [.int a, .int c], .int p] = .ret (.str (stx a c p)) [] := by
  obtain ⟨p1, p2⟩ := h.pp
  obtain ⟨a1, a2⟩ := ab_ok h.a0
  obtain ⟨c1, c2⟩ := ab_ok h.c0
  obtain ⟨k, hk, rfl⟩ := h.p0
  have e1 := frac a1 a2 hk
  have e2 := frac c1 c2 hk
  have l1 := ptx_len a1 a2 p1 p2
  have l1' := gtx_len l1
  have l2 := ptx_len c1 c2 p1 p2
  have l3 := sg_len a
  have l4 := sg_len c
  have l5 := sp_len c
  unfold d__law_text
  rw [mkF_ap]
  unfold b__law_text
  obtain ⟨T, hT⟩ : ∃ T, ptx (ab c) (2 ^ k) = T := ⟨_, rfl⟩
  obtain ⟨y, hy⟩ : ∃ y, ab c = y := ⟨_, rfl⟩
  unfold stx
  rw [hT] at e2 l2
  rw [hT]
  unfold ab at hy
  by_cases ha : a = 0
  · subst ha
    rw [if_pos rfl]
    have z : (sg c).length + T.length ≤ 16777216 := by omega
    by_cases hm : c < 0
    · have et : sg c = "-" := by unfold sg; rw [if_pos hm]
      rw [et] at z ⊢
      unfold ab at e2
      simp only [hm, if_true] at e2
      simp [sz, hm, e2, z]
    · have et : sg c = "" := by unfold sg; rw [if_neg hm]
      rw [et] at z ⊢
      unfold ab at e2
      simp only [hm, if_false] at e2
      simp [sz, hm, e2, z]
  · obtain ⟨A0, hA0⟩ : ∃ A0, ptx (ab a) (2 ^ k) = A0 := ⟨_, rfl⟩
    rw [if_neg ha, hA0]
    rw [hA0] at e1 l1 l1'
    have zn : A0.length + 2 ≤ 16777216 := by omega
    have z1 : (sg a).length + (gtx A0).length ≤ 16777216 := by omega
    have z2 : (sg a ++ gtx A0).length + (sp c).length ≤ 16777216 := by rw [Str.length_append]; omega
    have z3 : (sg a ++ gtx A0 ++ sp c).length + T.length ≤ 16777216 := by rw [Str.length_append, Str.length_append]; omega
    unfold ab at e1 e2
    by_cases h1 : A0 = "1"
    · have eg : gtx A0 = "n" := by unfold gtx; rw [if_pos h1]
      rw [eg] at z1 z2 z3 ⊢
      by_cases hn : a < 0
      · have es : sg a = "-" := by unfold sg; rw [if_pos hn]
        rw [es] at z1 z2 z3 ⊢
        simp only [hn, if_true] at e1
        by_cases hc : c = 0
        · simp [sz, ha, hn, e1, h1, z1, hc]
        · by_cases hm : c < 0
          · have et : sp c = " - " := by unfold sp; rw [if_pos hm]
            rw [et] at z2 z3 ⊢
            simp only [hm, if_true] at e2
            have z2' := z2
            have z3' := z3
            simp only [Str.append_assoc] at z2' z3'
            simp [sz, ha, hn, e1, h1, hc, hm, e2, z1, z2, z3, z2', z3', Str.append_assoc]
          · have et : sp c = " + " := by unfold sp; rw [if_neg hm]
            rw [et] at z2 z3 ⊢
            simp only [hm, if_false] at e2
            have z2' := z2
            have z3' := z3
            simp only [Str.append_assoc] at z2' z3'
            simp [sz, ha, hn, e1, h1, hc, hm, e2, z1, z2, z3, z2', z3', Str.append_assoc]
      · have es : sg a = "" := by unfold sg; rw [if_neg hn]
        rw [es] at z1 z2 z3 ⊢
        simp only [hn, if_false] at e1
        by_cases hc : c = 0
        · simp [sz, ha, hn, e1, h1, z1, hc]
        · by_cases hm : c < 0
          · have et : sp c = " - " := by unfold sp; rw [if_pos hm]
            rw [et] at z2 z3 ⊢
            simp only [hm, if_true] at e2
            have z2' := z2
            have z3' := z3
            simp only [Str.append_assoc] at z2' z3'
            simp [sz, ha, hn, e1, h1, hc, hm, e2, z1, z2, z3, z2', z3', Str.append_assoc]
          · have et : sp c = " + " := by unfold sp; rw [if_neg hm]
            rw [et] at z2 z3 ⊢
            simp only [hm, if_false] at e2
            have z2' := z2
            have z3' := z3
            simp only [Str.append_assoc] at z2' z3'
            simp [sz, ha, hn, e1, h1, hc, hm, e2, z1, z2, z3, z2', z3', Str.append_assoc]
    · have eg : gtx A0 = A0 ++ " n" := by unfold gtx; rw [if_neg h1]
      rw [eg] at z1 z2 z3 ⊢
      by_cases hn : a < 0
      · have es : sg a = "-" := by unfold sg; rw [if_pos hn]
        rw [es] at z1 z2 z3 ⊢
        simp only [hn, if_true] at e1
        by_cases hc : c = 0
        · simp [sz, ha, hn, e1, h1, z1, hc, zn, len_sn]
        · by_cases hm : c < 0
          · have et : sp c = " - " := by unfold sp; rw [if_pos hm]
            rw [et] at z2 z3 ⊢
            simp only [hm, if_true] at e2
            have z2' := z2
            have z3' := z3
            simp only [Str.append_assoc] at z2' z3'
            simp [sz, ha, hn, e1, h1, hc, hm, e2, z1, z2, z3, z2', z3', zn, len_sn, Str.append_assoc]
          · have et : sp c = " + " := by unfold sp; rw [if_neg hm]
            rw [et] at z2 z3 ⊢
            simp only [hm, if_false] at e2
            have z2' := z2
            have z3' := z3
            simp only [Str.append_assoc] at z2' z3'
            simp [sz, ha, hn, e1, h1, hc, hm, e2, z1, z2, z3, z2', z3', zn, len_sn, Str.append_assoc]
      · have es : sg a = "" := by unfold sg; rw [if_neg hn]
        rw [es] at z1 z2 z3 ⊢
        simp only [hn, if_false] at e1
        by_cases hc : c = 0
        · simp [sz, ha, hn, e1, h1, z1, hc, zn, len_sn]
        · by_cases hm : c < 0
          · have et : sp c = " - " := by unfold sp; rw [if_pos hm]
            rw [et] at z2 z3 ⊢
            simp only [hm, if_true] at e2
            have z2' := z2
            have z3' := z3
            simp only [Str.append_assoc] at z2' z3'
            simp [sz, ha, hn, e1, h1, hc, hm, e2, z1, z2, z3, z2', z3', zn, len_sn, Str.append_assoc]
          · have et : sp c = " + " := by unfold sp; rw [if_neg hm]
            rw [et] at z2 z3 ⊢
            simp only [hm, if_false] at e2
            have z2' := z2
            have z3' := z3
            simp only [Str.append_assoc] at z2' z3'
            simp [sz, ha, hn, e1, h1, hc, hm, e2, z1, z2, z3, z2', z3', zn, len_sn, Str.append_assoc]
end K11
namespace DL
open PySem L2
@[simp] theorem sTryAs_ap {i : Nat} {cs : List (Nat × Bool)} {fb : DL.Env → Out} {fsu : Ex → DL.Env → Out} {ρ : DL.Env} : sTryAs i cs fb fsu ρ = match fb ρ with
  | .exc e ρ' => (match cs.lookup e.c with
    | some true => if (e.fs.map (·.2)).all scalD = true then (fsu e (ρ'.set i none)).wipe i else .stuck
    | some false => .exc e ρ'
    | none => .stuck)
  | o => o := rfl
@[simp] theorem wipe_rt {i : Nat} {d : D} {ρ : DL.Env} : (Out.rt d ρ).wipe i = .rt d ρ := rfl
@[simp] theorem eWhy_ap {e : Ex} {c : Nat} {f : Str} {ρ : DL.Env} : eWhy e c f ρ = if e.c = c then (match e.fs.lookup f with | some d => .ok d ρ | none => .stuck) else .stuck := rfl
@[simp] theorem eIsX_ap {e : Ex} {cs : List (Nat × Bool)} {ρ : DL.Env} : eIsX e cs ρ = match cs.lookup e.c with | some b => .ok (.bl b) ρ | none => .stuck := rfl
end DL
namespace K11
open PySem L2 DL
def nu (a c n : Int) : Int := a * n + c
theorem size_at {a c p n : Int} (h : Sz a c p) : d_size_at [.tup [.int a, .int c], .int p, .int n] = if nu a c n % p = 0 then .ret (.int (nu a c n / p)) [] else .exc ⟨4, [("word", .str "whole")]⟩ [] := by
  obtain ⟨p1, p2⟩ := h.pp
  have m : CMul a n := .inl (by have := h.a0; omega)
  have cd : CDiv (a * n + c) p := ⟨p1, by omega⟩
  unfold d_size_at
  rw [mkF_ap]
  unfold b_size_at nu
  by_cases hz : (a * n + c) % p = 0
  · simp [m, cd, CMod, p1, hz]
  · simp [m, CMod, p1, hz]
def hw (a c p n : Int) : D := if nu a c n % p = 0 then .tup [.str "told", .int (nu a c n / p)] else .tup [.str "step", .str "whole"]
theorem heard {a c p n : Int} (h : Sz a c p) : d__law_heard [.tup [.int a, .int c], .int p, .int n] = .ret (hw a c p n) [] := by
  have e := size_at h (n := n)
  unfold d__law_heard
  rw [mkF_ap]
  unfold b__law_heard hw
  by_cases hz : nu a c n % p = 0
  · rw [if_pos hz] at e ⊢
    simp [e, sz]
  · rw [if_neg hz] at e ⊢
    simp [e, sz, List.lookup]
theorem worth {a c p n : Int} (h : Sz a c p) : d__law_worth [.tup [.int a, .int c], .int p, .int n] = .ret (hw a c p n) [] := by
  obtain ⟨p1, p2⟩ := h.pp
  have m : CMul a n := .inl (by have := h.a0; omega)
  have cd : CDiv (a * n + c) p := ⟨p1, by omega⟩
  unfold d__law_worth
  rw [mkF_ap]
  unfold b__law_worth hw nu
  by_cases hz : (a * n + c) % p = 0
  · simp [m, cd, CMod, p1, hz, sz]
  · simp [m, CMod, p1, hz, sz]
theorem hw_ok (a c p n : Int) : okL (hw a c p n) = true ∧ sz1 (hw a c p n) = 3 := by
  unfold hw; split <;> simp [okL, okLs, sz1, szs]
theorem like_hw (a c p n : Int) : d__law_like [hw a c p n, hw a c p n] = .ret (.bl true) [] := like _ (hw_ok a c p n).1 (by rw [(hw_ok a c p n).2]; decide)
theorem sum_ok {a c b d : Int} : d_size_sum [.tup [.int a, .int c], .tup [.int b, .int d]] = .ret (.tup [.int (a + b), .int (c + d)]) [] := by
  unfold d_size_sum; rw [mkF_ap]; unfold b_size_sum; simp [sz]
theorem less_ok {a c b d : Int} : d_size_less [.tup [.int a, .int c], .tup [.int b, .int d]] = .ret (.tup [.int (a - b), .int (c - d)]) [] := by
  unfold d_size_less; rw [mkF_ap]; unfold b_size_less; simp [sz]
theorem L18_sm : ∀ x ∈ L18, -1000 ≤ x ∧ x ≤ 200 := by decide
def P6 : List Int := [1, 2, 4, 8, 16, 32]
/-- one round -/
theorem asked {cs : List Int} {c v : Int} (h : BOk cs c v) : ∃ c' v', BOk cs c' v' ∧ d__law_asked [Bm cs c v] = .ret (.bl true) [some (Bm cs c' v')] := by
  obtain ⟨r, v1, r0, r1, b1, e1⟩ := mark h (n := 6) (by decide)
  obtain ⟨x1, v2, hx1, b2, e2⟩ := number b1
  obtain ⟨x2, v3, hx2, b3, e3⟩ := number b2
  obtain ⟨x3, v4, hx3, b4, e4⟩ := number b3
  obtain ⟨x4, v5, hx4, b5, e5⟩ := number b4
  obtain ⟨m1, v6, m10, m11, b6, e6⟩ := mark b5 (n := 40) (by decide)
  obtain ⟨m2, v7, m20, m21, b7, e7⟩ := mark b6 (n := 201) (by decide)
  obtain ⟨m3, v8, m30, m31, b8, e8⟩ := mark b7 (n := 60) (by decide)
  obtain ⟨m4, v9, m40, m41, b9, e9⟩ := mark b8 (n := 30) (by decide)
  obtain ⟨p, hp, k, hk, hpk⟩ : ∃ p, atI [D.int 1, .int 2, .int 4, .int 8, .int 16, .int 32] r = some (.int p) ∧ ∃ k : Nat, k ≤ 5 ∧ p = 2 ^ k := by
    have : r = 0 ∨ r = 1 ∨ r = 2 ∨ r = 3 ∨ r = 4 ∨ r = 5 := by omega
    rcases this with rfl | rfl | rfl | rfl | rfl | rfl
    · exact ⟨1, rfl, 0, by decide, rfl⟩
    · exact ⟨2, rfl, 1, by decide, rfl⟩
    · exact ⟨4, rfl, 2, by decide, rfl⟩
    · exact ⟨8, rfl, 3, by decide, rfl⟩
    · exact ⟨16, rfl, 4, by decide, rfl⟩
    · exact ⟨32, rfl, 5, by decide, rfl⟩
  have s1 := L18_sm x1 hx1
  have s2 := L18_sm x2 hx2
  have s3 := L18_sm x3 hx3
  have s4 := L18_sm x4 hx4
  have S1 : Sz x1 x2 p := ⟨by omega, by omega, k, hk, hpk⟩
  have hpp := S1.pp
  have q0 : -(10 ^ 6) < x1 * m3 ∧ x1 * m3 < 10 ^ 6 := by
    have a1 : x1 * m3 ≤ 200 * m3 := Int.mul_le_mul_of_nonneg_right s1.2 m30
    have a2 : -1000 * m3 ≤ x1 * m3 := Int.mul_le_mul_of_nonneg_right s1.1 m30
    omega
  have q1 : -(10 ^ 6) < p * (m4 - 9) ∧ p * (m4 - 9) < 10 ^ 6 := by
    have : k = 0 ∨ k = 1 ∨ k = 2 ∨ k = 3 ∨ k = 4 ∨ k = 5 := by omega
    rcases this with rfl | rfl | rfl | rfl | rfl | rfl <;> (simp at hpk; subst hpk; omega)
  obtain ⟨y, hy⟩ : ∃ y, p * (m4 - 9) - x1 * m3 = y := ⟨_, rfl⟩
  have S2 : Sz x1 y p := ⟨by omega, by omega, k, hk, hpk⟩
  have S3 : Sz x1 (y + 1) p := ⟨by omega, by omega, k, hk, hpk⟩
  have t1 := size_text S1
  have t2 := law_text S1
  have t3 := size_text S2
  have t4 := law_text S2
  have mm1 : CMul p (m4 - 9) := .inl (by omega)
  have mm2 : CMul x1 m3 := .inl (by omega)
  have nu2 : nu x1 y m3 = p * (m4 - 9) := by unfold nu; omega
  have hmod : nu x1 y m3 % p = 0 := by rw [nu2]; exact Int.mul_emod_right ..
  have cd : CDiv (x1 * m3 + y) p := ⟨hpp.1, by omega⟩
  have hw2 : hw x1 y p m3 = .tup [.str "told", .int ((x1 * m3 + y) / p)] := by unfold hw; rw [if_pos hmod]; rfl
  have hd2 := heard S2 (n := m3)
  rw [hw2] at hd2
  have lk1 := like (.tup [.tup [.int (x1 + x3), .int (x2 + x4)], .tup [.int (x1 - x3), .int (x2 - x4)], .str (stx x1 x2 p)]) (by simp [okL, okLs]) (by simp [sz1, szs])
  have lk2 := like (.tup [.tup [.str "told", .int ((x1 * m3 + y) / p)], .str (stx x1 y p)]) (by simp [okL, okLs]) (by simp [sz1, szs])
  have lk3 := like (.tup [.str "step", .str "whole"]) (by simp [okL, okLs]) (by simp [sz1, szs])
  have hd3 : 1 < p → d__law_heard [.tup [.int x1, .int (y + 1)], .int p, .int m3] = .ret (.tup [.str "step", .str "whole"]) [] := fun h1 => by
    have e := heard S3 (n := m3)
    have : nu x1 (y + 1) m3 % p = 1 := by
      have : nu x1 (y + 1) m3 = 1 + p * (m4 - 9) := by unfold nu at nu2 ⊢; omega
      rw [this, Int.add_mul_emod_self_left]
      exact Int.emod_eq_of_lt (by decide) h1
    unfold hw at e
    rw [this, if_neg (by decide)] at e
    exact e
  refine ⟨_, v9, b9, ?_⟩
  have hr1 := heard S1 (n := 0)
  have hr2 := heard S1 (n := 1)
  have hr3 := heard S1 (n := m1)
  have hr4 := heard S1 (n := m2)
  have hr5 := heard S1 (n := 200)
  have wr1 := worth S1 (n := 0)
  have wr2 := worth S1 (n := 1)
  have wr3 := worth S1 (n := m1)
  have wr4 := worth S1 (n := m2)
  have wr5 := worth S1 (n := 200)
  unfold d__law_asked
  rw [mkF_ap]
  unfold b__law_asked
  by_cases h1 : p = 1
  · have h1 := eq_true h1
    simp [sz, e1, hp, e2, e3, e4, e5, sum_ok, less_ok, t1, t2, lk1, e6, e7, forL, hr1, hr2, hr3, hr4, hr5, wr1, wr2, wr3, wr4, wr5, like_hw, e8, e9, mm1, mm2, hy, hd2, t3, t4, cd, lk2, h1]
  · have h2 := hd3 (by omega)
    simp [sz, e1, hp, e2, e3, e4, e5, sum_ok, less_ok, t1, t2, lk1, e6, e7, forL, hr1, hr2, hr3, hr4, hr5, wr1, wr2, wr3, wr4, wr5, like_hw, e8, e9, mm1, mm2, hy, hd2, t3, t4, cd, lk2, h1, h2, lk3]
theorem rounds : ∀ (es : List D) {cs : List Int} {c v : Int} (a x : Option D) (r : DL.Env), BOk cs c v → ∃ c' v' x', BOk cs c' v' ∧ forL (gN 2) (sIf (bNot (tVal (eCallO 1 0 d__law_asked aNil))) (sRet (eC (.bl false))) Out.nx) es (a :: some (Bm cs c v) :: x :: r) = .nx (a :: some (Bm cs c' v') :: x' :: r)
  | [], cs, c, v, a, x, r, h => ⟨c, v, x, h, rfl⟩
  | e :: es, cs, c, v, a, x, r, h => by
    obtain ⟨c1, v1, b1, e1⟩ := asked h
    obtain ⟨c', v', x', b2, e2⟩ := rounds es a (some e) r b1
    refine ⟨c', v', x', b2, ?_⟩
    unfold forL
    simp [e1, e2]
theorem like_st (s : Str) : d__law_like [.tup [.str s, .str s], .tup [.str s, .str s]] = .ret (.bl true) [] := like _ (by simp [okL, okLs]) (by simp [sz1, szs])
theorem rep2 (s : Str) : gMul (.tup [.str s]) (.int 2) = some (.tup [.str s, .str s]) := rfl
theorem sz_of {a c : Int} {k : Nat} (h : -(10 ^ 9) < a ∧ a < 10 ^ 9) (h2 : -(10 ^ 9) < c ∧ c < 10 ^ 9) (hk : k ≤ 5) : Sz a c (2 ^ k) := ⟨h, h2, k, hk, rfl⟩
theorem two_texts {a c p : Int} {s : Str} (h : Sz a c p) (e : stx a c p = s) : d_size_text [.tup [.int a, .int c], .int p] = .ret (.str s) [] ∧ d__law_text [.tup [.int a, .int c], .int p] = .ret (.str s) [] := by
  rw [← e]; exact ⟨size_text h, law_text h⟩
theorem law_true (ns : List Int) (h : ns.length ≤ 63) : ∃ outs, d_law [.scr ns] = .ret (.bl true) outs := by
  obtain ⟨cs, v, b, eb⟩ := beam ns
  obtain ⟨c', v', x', b', er⟩ := rounds (rangeD 0 12) (some (.scr ns)) none [none, none, none, none, none, none] b
  have s1 : ∀ (a c p : Int) (k : Nat), -(10 ^ 9) < a → a < 10 ^ 9 → -(10 ^ 9) < c → c < 10 ^ 9 → k ≤ 5 → p = 2 ^ k → Sz a c p := fun a c p k h1 h2 h3 h4 h5 h6 => ⟨⟨h1, h2⟩, ⟨h3, h4⟩, k, h5, h6⟩
  have t1 := two_texts (s := "1/2 n - 1/2") (s1 1 (-1) 2 1 (by decide) (by decide) (by decide) (by decide) (by decide) (by decide)) (by decide +kernel)
  have t2 := two_texts (s := "3") (s1 0 6 2 1 (by decide) (by decide) (by decide) (by decide) (by decide) (by decide)) (by decide +kernel)
  have t3 := two_texts (s := "-n + 2") (s1 (-2) 4 2 1 (by decide) (by decide) (by decide) (by decide) (by decide) (by decide)) (by decide +kernel)
  have t4 := two_texts (s := "0") (s1 0 0 1 0 (by decide) (by decide) (by decide) (by decide) (by decide) (by decide)) (by decide +kernel)
  have t5 := two_texts (s := "0") (s1 0 0 32 5 (by decide) (by decide) (by decide) (by decide) (by decide) (by decide)) (by decide +kernel)
  have t6 := two_texts (s := "n") (s1 1 0 1 0 (by decide) (by decide) (by decide) (by decide) (by decide) (by decide)) (by decide +kernel)
  have t7 := two_texts (s := "-n") (s1 (-1) 0 1 0 (by decide) (by decide) (by decide) (by decide) (by decide) (by decide)) (by decide +kernel)
  have t8 := two_texts (s := "2 n") (s1 2 0 1 0 (by decide) (by decide) (by decide) (by decide) (by decide) (by decide)) (by decide +kernel)
  have t9 := two_texts (s := "3/2 n") (s1 3 0 2 1 (by decide) (by decide) (by decide) (by decide) (by decide) (by decide)) (by decide +kernel)
  have t10 := two_texts (s := "n - 3/2") (s1 4 (-6) 4 2 (by decide) (by decide) (by decide) (by decide) (by decide) (by decide)) (by decide +kernel)
  have t11 := two_texts (s := "-3/2") (s1 0 (-3) 2 1 (by decide) (by decide) (by decide) (by decide) (by decide) (by decide)) (by decide +kernel)
  have t12 := two_texts (s := "-1/4 n - 1/4") (s1 (-1) (-1) 4 2 (by decide) (by decide) (by decide) (by decide) (by decide) (by decide)) (by decide +kernel)
  have t13 := two_texts (s := "3 n + 4") (s1 6 8 2 1 (by decide) (by decide) (by decide) (by decide) (by decide) (by decide)) (by decide +kernel)
  have t14 := two_texts (s := "5") (s1 0 5 1 0 (by decide) (by decide) (by decide) (by decide) (by decide) (by decide)) (by decide +kernel)
  have t15 := two_texts (s := "n + 1/2") (s1 32 16 32 5 (by decide) (by decide) (by decide) (by decide) (by decide) (by decide)) (by decide +kernel)
  have t16 := two_texts (s := "-3 n + 3") (s1 (-3) 3 1 0 (by decide) (by decide) (by decide) (by decide) (by decide) (by decide)) (by decide +kernel)
  have t17 := two_texts (s := "1/4 n + 1/8") (s1 2 1 8 3 (by decide) (by decide) (by decide) (by decide) (by decide) (by decide)) (by decide +kernel)
  have t18 := two_texts (s := "-n") (s1 (-4) 0 4 2 (by decide) (by decide) (by decide) (by decide) (by decide) (by decide)) (by decide +kernel)
  have a1 := size_at (n := 5) (s1 1 (-1) 2 1 (by decide) (by decide) (by decide) (by decide) (by decide) (by decide))
  have a2 := heard (n := 3) (s1 1 0 2 1 (by decide) (by decide) (by decide) (by decide) (by decide) (by decide))
  have a3 := heard (n := 4) (s1 (-1) 0 2 1 (by decide) (by decide) (by decide) (by decide) (by decide) (by decide))
  have a4 := heard (n := 3) (s1 (-3) 1 4 2 (by decide) (by decide) (by decide) (by decide) (by decide) (by decide))
  have a5 := size_at (n := 9) (s1 0 (-8) 4 2 (by decide) (by decide) (by decide) (by decide) (by decide) (by decide))
  have lkE := like (.tup [.int 2, .tup [.int 2, .int 0], .tup [.int 0, .int (-2)], .tup [.str "step", .str "whole"], .tup [.str "told", .int (-2)], .tup [.str "told", .int (-2)], .int (-2), .str "-n"]) (by decide +kernel) (by decide +kernel)
  have rg : rangeD 0 17 = [.int 0, .int 1, .int 2, .int 3, .int 4, .int 5, .int 6, .int 7, .int 8, .int 9, .int 10, .int 11, .int 12, .int 13, .int 14, .int 15, .int 16] := rfl
  refine ⟨[], ?_⟩
  unfold d_law
  rw [mkF_ap]
  unfold b_law
  simp [eb, inRg, er, sz, rg, forL, atI, ixN, rep2, like_st, t1.1, t1.2, t2.1, t2.2, t3.1, t3.2, t4.1, t4.2, t5.1, t5.2, t6.1, t6.2, t7.1, t7.2, t8.1, t8.2, t9.1, t9.2, t10.1, t10.2, t11.1, t11.2, t12.1, t12.2, t13.1, t13.2, t14.1, t14.2, t15.1, t15.2, t16.1, t16.2, t17.1, t17.2, t18.1, a1, a2, a3, a4, a5, sum_ok, less_ok, nu, hw, pm, lkE]
end K11
open PySem PySem.W PyProof.Rows
set_option maxHeartbeats 0 in
theorem PySem.Challenge.cw_whatevertext_k11_sizes_holds : PySem.Challenge.rw_whatevertext_k11_sizes.Holds := by
  w_on; o_law; k_head; (case hw => w_witness2)
  k_fill
  refine L2.walk_of (l := PySem.Challenge.rw_whatevertext_k11_sizes) (n := 63) (k := 12) (x := "script") (CX := fun w => L2.CX PySem.Challenge.rw_whatevertext_k11_sizes.prog w) (sp := fun w => DL.spLaw K11.d_law _) rfl (by decide) rfl ⟨rfl, by decide, by decide⟩ (fun w h Y => PySem.W.kIn_of Y) ?F (fun _ H a ns hl hO hS mg => DL.law_ok hS hO (K11.law_true ns hl)) (fun _ _ _ _ _ h => DL.cx_no h)
  case F =>
    intro w mg fa h KX G hmg
    refine' K11.all_mk KX G hmg ?aC_BadStep ?aC_CallError ?aC_MoveError ?eC_BadStep ?tC_BadStep ?iC_BadStep ?eC_CallError ?tC_CallError ?iC_CallError ?eC_MoveError ?tC_MoveError ?iC_MoveError ?s_BadStep_BadStep ?q_BadStep_CallError ?q_BadStep_MoveError ?xC_BadStep ?al_BadStep ?sa_BadStep ?ga_BadStep ?gg_BadStep ?nf_word_BadStep ?hd_BadStep ?kC_BadStep ?fi_BadStep ?ti_BadStep ?li_BadStep ?cd_BadStep ?la_BadStep ?v2_BadStep ?fl_BadStep ?lc_BadStep ?op_any ?z_super ?sup_none ?z_abs ?z_bool ?z_int ?z_isinstance ?z_len ?z_list ?z_range ?z_str ?z_tuple ?z_zip ?xa_BadStep ?xm_BadStep ?x_sp ?x_tk ?a_common_divisor ?l_common_divisor ?c_common_divisor ?k_common_divisor ?a_size_at ?l_size_at ?c_size_at ?k_size_at ?a_size_sum ?l_size_sum ?c_size_sum ?k_size_sum ?a_size_less ?l_size_less ?c_size_less ?k_size_less ?a_part_text ?l_part_text ?c_part_text ?k_part_text ?a_growing_text ?l_growing_text ?c_growing_text ?k_growing_text ?a_size_text ?l_size_text ?c_size_text ?k_size_text ?a__law_beam ?l__law_beam ?c__law_beam ?k__law_beam ?a__law_mark ?l__law_mark ?c__law_mark ?k__law_mark ?a__law_like ?l__law_like ?c__law_like ?k__law_like ?a__law_number ?l__law_number ?c__law_number ?k__law_number ?a__law_worth ?l__law_worth ?c__law_worth ?k__law_worth ?a__law_heard ?l__law_heard ?c__law_heard ?k__law_heard ?a__law_fraction ?l__law_fraction ?c__law_fraction ?k__law_fraction ?a__law_text ?l__law_text ?c__law_text ?k__law_text ?a__law_asked ?l__law_asked ?c__law_asked ?k__law_asked ?a_law ?l_law ?c_law ?k_law
    (case aC_BadStep => k_is)
    (case aC_CallError => k_is)
    (case aC_MoveError => k_is)
    (case eC_BadStep => k_is)
    (case tC_BadStep => k_is)
    (case iC_BadStep => k_is)
    (case eC_CallError => k_is)
    (case tC_CallError => k_is)
    (case iC_CallError => k_is)
    (case eC_MoveError => k_is)
    (case tC_MoveError => k_is)
    (case iC_MoveError => k_is)
    (case s_BadStep_BadStep => first | k_is | rfl)
    (case q_BadStep_CallError => first | k_is | rfl)
    (case q_BadStep_MoveError => first | k_is | rfl)
    (case xC_BadStep => k_is)
    (case al_BadStep => first | k_is | rfl)
    (case sa_BadStep => k_is)
    (case ga_BadStep => k_is)
    (case gg_BadStep => k_is)
    (case nf_word_BadStep => k_is)
    (case hd_BadStep => k_is)
    (case kC_BadStep => k_is)
    (case fi_BadStep => k_is)
    (case ti_BadStep => k_is)
    (case li_BadStep => first | k_is | rfl)
    (case cd_BadStep => k_is)
    (case la_BadStep => k_is)
    (case v2_BadStep => first | rfl | decide +kernel)
    (case fl_BadStep => first | rfl | decide +kernel)
    (case lc_BadStep => k_is)
    (case op_any => k_is)
    (case z_super => k_is)
    (case sup_none => first | rfl | decide +kernel)
    (case z_abs => k_is)
    (case z_bool => k_is)
    (case z_int => k_is)
    (case z_isinstance => k_is)
    (case z_len => k_is)
    (case z_list => k_is)
    (case z_range => k_is)
    (case z_str => k_is)
    (case z_tuple => k_is)
    (case z_zip => k_is)
    (case xa_BadStep => k_is)
    (case xm_BadStep => k_is)
    (case x_sp => k_is)
    (case x_tk => k_is)
    (case a_common_divisor => k_is)
    (case l_common_divisor => k_is)
    (case c_common_divisor => k_is)
    (case k_common_divisor => k_is)
    (case a_size_at => k_is)
    (case l_size_at => k_is)
    (case c_size_at => k_is)
    (case k_size_at => k_is)
    (case a_size_sum => k_is)
    (case l_size_sum => k_is)
    (case c_size_sum => k_is)
    (case k_size_sum => k_is)
    (case a_size_less => k_is)
    (case l_size_less => k_is)
    (case c_size_less => k_is)
    (case k_size_less => k_is)
    (case a_part_text => k_is)
    (case l_part_text => k_is)
    (case c_part_text => k_is)
    (case k_part_text => k_is)
    (case a_growing_text => k_is)
    (case l_growing_text => k_is)
    (case c_growing_text => k_is)
    (case k_growing_text => k_is)
    (case a_size_text => k_is)
    (case l_size_text => k_is)
    (case c_size_text => k_is)
    (case k_size_text => k_is)
    (case a__law_beam => k_is)
    (case l__law_beam => k_is)
    (case c__law_beam => k_is)
    (case k__law_beam => k_is)
    (case a__law_mark => k_is)
    (case l__law_mark => k_is)
    (case c__law_mark => k_is)
    (case k__law_mark => k_is)
    (case a__law_like => k_is)
    (case l__law_like => k_is)
    (case c__law_like => k_is)
    (case k__law_like => k_is)
    (case a__law_number => k_is)
    (case l__law_number => k_is)
    (case c__law_number => k_is)
    (case k__law_number => k_is)
    (case a__law_worth => k_is)
    (case l__law_worth => k_is)
    (case c__law_worth => k_is)
    (case k__law_worth => k_is)
    (case a__law_heard => k_is)
    (case l__law_heard => k_is)
    (case c__law_heard => k_is)
    (case k__law_heard => k_is)
    (case a__law_fraction => k_is)
    (case l__law_fraction => k_is)
    (case c__law_fraction => k_is)
    (case k__law_fraction => k_is)
    (case a__law_text => k_is)
    (case l__law_text => k_is)
    (case c__law_text => k_is)
    (case k__law_text => k_is)
    (case a__law_asked => k_is)
    (case l__law_asked => k_is)
    (case c__law_asked => k_is)
    (case k__law_asked => k_is)
    (case a_law => k_is)
    (case l_law => k_is)
    (case c_law => k_is)
    (case k_law => k_is)
