import PyProof.Rows.All
import Wide.All
import OpenK.AllK
import Wide.FinOn
import HandS.ForMost
import HandS.Exc
import HandS.TryOnly
import HandS.ExcOwn
import HandS.WordsExc
import HandS.IsInst
import HandS.Zip
import HandS.TupAny
import HandS.TupMul
import HandS.ExcSuper
import KE.KExcSuper
import KE.KSuper
import HandS.ExcIs
import HandS.Small
import HandS.Deep
import PyProof.StrOps2
import HandS.WordsDict
import HandS.OwnIter
import KE.KDictZip
import HandS.Ends
import HandS.Style
import KE.GoesEnum
import KE.DatumOrd
import PySem.Challenge.RW_whatevertext_k09_pieces
set_option Elab.async false
set_option linter.all false
set_option maxRecDepth 100000
set_option maxHeartbeats 4000000
namespace DL
open PySem L2

inductive D where
  | non | bl (b : Bool) | int (i : Int) | str (s : Str) | tup (ds : List D) | lst (ds : List D) | dct (kds : List (Key × D)) | scr (ns : List Int)
  deriving Inhabited

mutual
inductive Rep (K : PySem.W.Frag) (B : Hp) : V → D → Prop
  | non : Rep K B .non .non
  | bl (b : Bool) : Rep K B (.bl b) (.bl b)
  | int (i : Int) : Rep K B (.int i) (.int i)
  | str (s : Str) : Rep K B (.str s) (.str s)
  | tup {a : Addr} {vs : List V} {ds : List D} (h : SqT K B a vs) (r : Reps K B vs ds) : Rep K B (.ref a) (.tup ds)
  | lst {a : Addr} {vs : List V} {ds : List D} (h : B a = some (.lst vs)) (r : Reps K B vs ds) : Rep K B (.ref a) (.lst ds)
  | scr {a : Addr} {ns : List Int} (h : SqL K B a (ns.map V.int)) : Rep K B (.ref a) (.scr ns)
  | dct {a : Addr} {kvs : List (Key × V)} {kds : List (Key × D)} (h : B a = some (.dK kvs)) (r : RepsK K B kvs kds) : Rep K B (.ref a) (.dct kds)
inductive Reps (K : PySem.W.Frag) (B : Hp) : List V → List D → Prop
  | nil : Reps K B [] []
  | cons {v : V} {d : D} {vs : List V} {ds : List D} (h : Rep K B v d) (r : Reps K B vs ds) : Reps K B (v :: vs) (d :: ds)
inductive RepsK (K : PySem.W.Frag) (B : Hp) : List (Key × V) → List (Key × D) → Prop
  | nil : RepsK K B [] []
  | cons {k : Key} {v : V} {d : D} {vs : List (Key × V)} {ds : List (Key × D)} (h : Rep K B v d) (r : RepsK K B vs ds) : RepsK K B ((k, v) :: vs) ((k, d) :: ds)
end
theorem sameT {K : PySem.W.Frag} {H H' : Hp} {a : Addr} {xs : List V} (e : Same H H') (h : SqT K H a xs) : SqT K H' a xs := by
  rcases h with (h | ⟨o, h⟩) | h
  · exact .inl (.inl (e _ _ h))
  · exact .inl (.inr ⟨o, e _ _ h⟩)
  · exact .inr h
mutual
theorem Rep.mono {K : PySem.W.Frag} {B B' : Hp} (e : Same B B') : ∀ {v : V} {d : D}, Rep K B v d → Rep K B' v d
  | _, _, .non => .non
  | _, _, .bl b => .bl b
  | _, _, .int i => .int i
  | _, _, .str s => .str s
  | _, _, .tup h r => .tup (sameT e h) (Reps.mono e r)
  | _, _, .lst h r => .lst (e _ _ h) (Reps.mono e r)
  | _, _, .scr h => .scr (e.seq h)
  | _, _, .dct h r => .dct (e _ _ h) (RepsK.mono e r)
theorem Reps.mono {K : PySem.W.Frag} {B B' : Hp} (e : Same B B') : ∀ {vs : List V} {ds : List D}, Reps K B vs ds → Reps K B' vs ds
  | _, _, .nil => .nil
  | _, _, .cons h r => .cons (Rep.mono e h) (Reps.mono e r)
theorem RepsK.mono {K : PySem.W.Frag} {B B' : Hp} (e : Same B B') : ∀ {vs : List (Key × V)} {ds : List (Key × D)}, RepsK K B vs ds → RepsK K B' vs ds
  | _, _, .nil => .nil
  | _, _, .cons h r => .cons (Rep.mono e h) (RepsK.mono e r)
end
section
variable {K : PySem.W.Frag} {B B' H H' R : Hp} {vs ws : List V} {ds es : List D} {v : V} {d : D}
theorem Reps.length : ∀ {vs : List V} {ds : List D}, Reps K B vs ds → vs.length = ds.length
  | _, _, .nil => rfl
  | _, _, .cons _ r => by rw [List.length_cons, List.length_cons, Reps.length r]
theorem Reps.append : ∀ {vs : List V} {ds : List D}, Reps K B vs ds → Reps K B ws es → Reps K B (vs ++ ws) (ds ++ es)
  | _, _, .nil, h => h
  | _, _, .cons h r, q => .cons h (Reps.append r q)
theorem Reps.get : ∀ {vs : List V} {ds : List D} {i : Nat} {d : D}, Reps K B vs ds → ds[i]? = some d → ∃ v, vs[i]? = some v ∧ Rep K B v d
  | _, _, _, _, .nil, e => by simp at e
  | _, _, 0, _, .cons h _, e => by simp at e; subst e; exact ⟨_, rfl, h⟩
  | _, _, i + 1, d, .cons _ r, e => by
    obtain ⟨v, h1, h2⟩ := Reps.get (i := i) (d := d) r (by simpa using e)
    exact ⟨v, by simpa using h1, h2⟩
theorem Reps.take : ∀ {vs : List V} {ds : List D} (n : Nat), Reps K B vs ds → Reps K B (vs.take n) (ds.take n)
  | _, _, 0, _ => .nil
  | _, _, n + 1, .nil => .nil
  | _, _, n + 1, .cons h r => .cons h (Reps.take n r)
theorem Reps.drop : ∀ {vs : List V} {ds : List D} (n : Nat), Reps K B vs ds → Reps K B (vs.drop n) (ds.drop n)
  | _, _, 0, r => r
  | _, _, n + 1, .nil => .nil
  | _, _, n + 1, .cons h r => Reps.drop n r
theorem Reps.set {v : V} {d : D} (h : Rep K B v d) : ∀ {vs : List V} {ds : List D} (n : Nat), Reps K B vs ds → Reps K B (vs.set n v) (ds.set n d)
  | _, _, _, .nil => .nil
  | _, _, 0, .cons _ r => .cons h r
  | _, _, n + 1, .cons q r => .cons q (Reps.set h n r)
theorem Reps.snoc (r : Reps K B vs ds) (h : Rep K B v d) : Reps K B (vs ++ [v]) (ds ++ [d]) := r.append (.cons h .nil)
theorem Reps.dropLast : ∀ {vs : List V} {ds : List D}, Reps K B vs ds → Reps K B vs.dropLast ds.dropLast
  | _, _, .nil => .nil
  | _, _, .cons h .nil => .nil
  | _, _, .cons h (.cons h2 r) => by
    have := Reps.dropLast (.cons h2 r)
    simpa [List.dropLast] using Reps.cons h this
theorem Reps.reverse (r : Reps K B vs ds) : Reps K B vs.reverse ds.reverse := by
  induction vs generalizing ds with
  | nil => cases r; exact .nil
  | cons v vs ih =>
    cases r with
    | cons h r =>
      rw [List.reverse_cons, List.reverse_cons]
      exact (ih r).snoc h
theorem Reps.eraseIdx : ∀ {vs : List V} {ds : List D} (n : Nat), Reps K B vs ds → Reps K B (vs.eraseIdx n) (ds.eraseIdx n)
  | _, _, _, .nil => .nil
  | _, _, 0, .cons _ r => r
  | _, _, n + 1, .cons q r => .cons q (Reps.eraseIdx n r)
theorem Reps.rep (r : Reps K B vs ds) : ∀ k : Nat, Reps K B (List.replicate k vs).flatten (List.replicate k ds).flatten
  | 0 => .nil
  | k + 1 => by
    rw [List.replicate_succ, List.replicate_succ, List.flatten_cons, List.flatten_cons]
    exact r.append (Reps.rep r k)
end

/-! ## shapes: what a slot holds -/
inductive LS where
  | pu | ls
  deriving DecidableEq
inductive Sh where
  | lf (l : LS) | rc (ls : List LS)
  deriving DecidableEq
abbrev Sh.pu : Sh := .lf .pu
abbrev Sh.ls : Sh := .lf .ls
/-- what stands at an own place: a list, a dict -/
inductive OwnO (K : PySem.W.Frag) (B H : Hp) (p : Addr) : D → Prop
  | lst {vs : List V} {ds : List D} (h : H p = some (.lst vs)) (r : Reps K B vs ds) : OwnO K B H p (.lst ds)
  | dct {kvs : List (Key × V)} {kds : List (Key × D)} (h : H p = some (.dK kvs)) (r : RepsK K B kvs kds) : OwnO K B H p (.dct kds)
def OwnL (K : PySem.W.Frag) (B H : Hp) : LS → V → D → List Addr → Prop
  | .pu, v, d, f => Rep K B v d ∧ f = []
  | .ls, v, d, f => ∃ p, v = .ref p ∧ f = [p] ∧ OwnO K B H p d
inductive OwnLs (K : PySem.W.Frag) (B H : Hp) : List LS → List V → List D → List Addr → Prop
  | nil : OwnLs K B H [] [] [] []
  | cons {l : LS} {ls : List LS} {v : V} {vs : List V} {d : D} {ds : List D} {f fs : List Addr} (h : OwnL K B H l v d f) (r : OwnLs K B H ls vs ds fs) : OwnLs K B H (l :: ls) (v :: vs) (d :: ds) (f ++ fs)
def Own (K : PySem.W.Frag) (B H : Hp) : Sh → V → D → List Addr → Prop
  | .lf l, v, d, f => OwnL K B H l v d f
  | .rc ls, v, d, f => ∃ p vs ds fs, v = .ref p ∧ d = .lst ds ∧ f = p :: fs ∧ H p = some (.lst vs) ∧ OwnLs K B H ls vs ds fs

abbrev Env := List (Option D)
def isS (ρ : Env) (i : Nat) : Prop := ∃ d, ρ[i]? = some (some d)
/-- the footprints: what each slot owns -/
structure Feet (K : PySem.W.Frag) (Γ : List Sh) (B R H : Hp) (σ : L2.St) (ρ : Env) (F : Nat → List Addr) : Prop where
  at_ : ∀ i d s, ρ[i]? = some (some d) → Γ[i]? = some s → ∃ v, σ[i]? = some (some v) ∧ Own K B H s v d (F i)
  no : ∀ i p, p ∈ F i → H p ≠ none ∧ B p = none ∧ R p = none
  nd : ∀ i, (F i).Nodup
  dj : ∀ i j p, p ∈ F i → p ∈ F j → i = j
structure Ok (K : PySem.W.Frag) (Γ : List Sh) (B R H : Hp) (σ : L2.St) (ρ : Env) : Prop where
  sb : Same B H
  sr : Same R H
  lσ : σ.length = Γ.length
  lρ : ρ.length = Γ.length
  br : ∀ p o, R p = some o → B p = none
  own : ∃ F : Nat → List Addr, Feet K Γ B R H σ ρ F
section
variable {K : PySem.W.Frag} {Γ : List Sh} {B B' R H H' : Hp} {σ : L2.St} {ρ : Env} {s : Sh} {v : V} {d : D} {f : List Addr} {i : Nat}
theorem OwnO.at {p : Addr} (sb : Same B B') (h : OwnO K B H p d) (k : ∀ o, H p = some o → H' p = some o) : OwnO K B' H' p d := by
  cases h with
  | lst h r => exact .lst (k _ h) (r.mono sb)
  | dct h r => exact .dct (k _ h) (r.mono sb)
theorem OwnO.there {p : Addr} (h : OwnO K B H p d) : ∃ o, H p = some o ∧ (∀ B' : Hp, Same B B' → B' p = some o → Rep K B' (.ref p) d) := by
  cases h with
  | lst h r => exact ⟨_, h, fun B' sb e => .lst e (r.mono sb)⟩
  | dct h r => exact ⟨_, h, fun B' sb e => .dct e (r.mono sb)⟩
theorem OwnL.mono (sb : Same B B') (sh : Same H H') : ∀ {l : LS} {v : V} {d : D} {f : List Addr}, OwnL K B H l v d f → OwnL K B' H' l v d f
  | .pu, _, _, _, ⟨r, e⟩ => ⟨r.mono sb, e⟩
  | .ls, _, _, _, ⟨p, e1, e3, h⟩ => ⟨p, e1, e3, h.at sb fun o => sh _ o⟩
theorem OwnLs.mono (sb : Same B B') (sh : Same H H') {ls : List LS} {vs : List V} {ds : List D} {fs : List Addr} (h : OwnLs K B H ls vs ds fs) : OwnLs K B' H' ls vs ds fs := by
  induction h with
  | nil => exact .nil
  | cons h _ ih => exact .cons (h.mono sb sh) ih
theorem Own.mono (sb : Same B B') (sh : Same H H') : ∀ {s : Sh} {v : V} {d : D} {f : List Addr}, Own K B H s v d f → Own K B' H' s v d f
  | .lf _, _, _, _, h => OwnL.mono sb sh h
  | .rc _, _, _, _, ⟨p, vs, ds, fs, e1, e2, e3, h, r⟩ => ⟨p, vs, ds, fs, e1, e2, e3, sh _ _ h, r.mono sb sh⟩
/-- what owned things stand on: only their feet and the frozen part -/
theorem OwnL.at (sb : Same B B') : ∀ {l : LS} {v : V} {d : D} {f : List Addr}, OwnL K B H l v d f → (∀ p ∈ f, ∀ o, H p = some o → H' p = some o) → OwnL K B' H' l v d f
  | .pu, _, _, _, ⟨r, e⟩, _ => ⟨r.mono sb, e⟩
  | .ls, _, _, _, ⟨p, e1, e3, h⟩, k => ⟨p, e1, e3, h.at sb fun o => k p (by rw [e3]; exact List.mem_cons_self) o⟩
theorem OwnLs.at (sb : Same B B') {ls : List LS} {vs : List V} {ds : List D} {fs : List Addr} (h : OwnLs K B H ls vs ds fs) : (∀ p ∈ fs, ∀ o, H p = some o → H' p = some o) → OwnLs K B' H' ls vs ds fs := by
  induction h with
  | nil => exact fun _ => .nil
  | cons h _ ih => exact fun k => .cons (h.at sb fun p hp => k p (List.mem_append_left _ hp)) (ih fun p hp => k p (List.mem_append_right _ hp))
theorem Own.at (sb : Same B B') : ∀ {s : Sh} {v : V} {d : D} {f : List Addr}, Own K B H s v d f → (∀ p ∈ f, ∀ o, H p = some o → H' p = some o) → Own K B' H' s v d f
  | .lf _, _, _, _, h, k => OwnL.at sb h k
  | .rc _, _, _, _, ⟨p, vs, ds, fs, e1, e2, e3, h, r⟩, k => ⟨p, vs, ds, fs, e1, e2, e3, k p (by rw [e3]; exact List.mem_cons_self) _ h, r.at sb fun q hq => k q (by rw [e3]; exact List.mem_cons_of_mem _ hq)⟩
theorem Ok.get (O : Ok K Γ B R H σ ρ) (h : ρ[i]? = some (some d)) (hs : Γ[i]? = some .pu) : ∃ v, σ[i]? = some (some v) ∧ Rep K B v d := by
  obtain ⟨F, O⟩ := O.own
  obtain ⟨v, h1, h2, _⟩ := O.at_ i d _ h hs
  exact ⟨v, h1, h2⟩
/-- the heap grows, what is new may be frozen -/
theorem Ok.grow (O : Ok K Γ B R H σ ρ) (sb : Same B B') (sh : Same H H') (sbh : Same B' H') (nw : ∀ a o, B' a = some o → B a = some o ∨ H a = none) : Ok K Γ B' R H' σ ρ := by
  obtain ⟨F, W⟩ := O.own
  refine ⟨sbh, O.sr.trans sh, O.lσ, O.lρ, fun p o e => ?_, F, ⟨fun i d s h hs => ?_, fun i p hp => ?_, W.nd, W.dj⟩⟩
  · cases e2 : B' p with
    | none => rfl
    | some u =>
      rcases nw p u e2 with z | z
      · rw [O.br p o e] at z; cases z
      · rw [O.sr p o e] at z; cases z
  · obtain ⟨v, h1, h2⟩ := W.at_ i d s h hs
    exact ⟨v, h1, h2.mono sb sh⟩
  · obtain ⟨h1, h2, h3⟩ := W.no i p hp
    refine ⟨?_, ?_, h3⟩
    · intro z
      cases e : H p with
      | none => exact h1 e
      | some o => rw [sh p o e] at z; cases z
    · cases e : B' p with
      | none => rfl
      | some o =>
        rcases nw p o e with z | z
        · rw [h2] at z; cases z
        · exact absurd z h1
theorem Ok.heap (O : Ok K Γ B R H σ ρ) (sh : Same H H') : Ok K Γ B R H' σ ρ := O.grow (Same.refl _) sh (O.sb.trans sh) fun _ _ h => .inl h
theorem same_upd {p : Addr} {o : HO} (h : H p = none) : Same H (upd H p o) := fun a u e => by rw [upd_ne (ne_of_none e h)]; exact e
/-- a new object is laid and frozen -/
theorem Ok.lay (O : Ok K Γ B R H σ ρ) {p : Addr} {o : HO} (h : H p = none) : Same B (upd B p o) ∧ Ok K Γ (upd B p o) R (upd H p o) σ ρ := by
  have hb : B p = none := O.sb.free h
  refine ⟨same_upd hb, O.grow (same_upd hb) (same_upd h) (fun a u e => ?_) fun a u e => ?_⟩
  · by_cases q : a = p
    · subst q; rw [upd_same] at e ⊢; exact e
    · rw [upd_ne q] at e ⊢; exact O.sb _ _ e
  · by_cases q : a = p
    · subst q; exact .inr h
    · rw [upd_ne q] at e; exact .inl e
theorem Ok.pushP (O : Ok K Γ B R H σ ρ) (r : Rep K B v d) : Ok K (.pu :: Γ) B R H (some v :: σ) (some d :: ρ) := by
  obtain ⟨F, W⟩ := O.own
  refine ⟨O.sb, O.sr, by simp [O.lσ], by simp [O.lρ], O.br, fun j => match j with | 0 => [] | j + 1 => F j, ⟨fun j e s h hs => ?_, fun j p hp => ?_, fun j => ?_, fun j k p h1 h2 => ?_⟩⟩
  · cases j with
    | zero => simp at h hs; subst h hs; exact ⟨v, rfl, r, rfl⟩
    | succ j => exact W.at_ j e s (by simpa using h) (by simpa using hs)
  · cases j with
    | zero => exact absurd hp (by simp)
    | succ j => exact W.no j p hp
  · cases j with
    | zero => exact List.nodup_nil
    | succ j => exact W.nd j
  · cases j with
    | zero => exact absurd h1 (by simp)
    | succ j =>
      cases k with
      | zero => exact absurd h2 (by simp)
      | succ k => rw [W.dj j k p h1 h2]
theorem Feet.heap {F : Nat → List Addr} (W : Feet K Γ B R H σ ρ F) (sh : Same H H') : Feet K Γ B R H' σ ρ F :=
  ⟨fun i d s h hs => let ⟨v, h1, h2⟩ := W.at_ i d s h hs; ⟨v, h1, h2.mono (Same.refl _) sh⟩, fun i p hp => by
    obtain ⟨h1, h2, h3⟩ := W.no i p hp
    refine ⟨fun z => ?_, h2, h3⟩
    cases e : H p with
    | none => exact h1 e
    | some o => (rw [sh p o e] at z; cases z), W.nd, W.dj⟩
theorem Ok.pushO (br : ∀ p o, R p = some o → B p = none) (sb : Same B H) (sr : Same R H) (lσ : σ.length = Γ.length) (lρ : ρ.length = Γ.length) {F : Nat → List Addr} (W : Feet K Γ B R H σ ρ F) (r : Own K B H s v d f) (nd : f.Nodup)
    (hf : ∀ p ∈ f, H p ≠ none ∧ B p = none ∧ R p = none ∧ ∀ i, p ∉ F i) : Ok K (s :: Γ) B R H (some v :: σ) (some d :: ρ) := by
  refine ⟨sb, sr, by simp [lσ], by simp [lρ], br, fun j => match j with | 0 => f | j + 1 => F j, ⟨fun j e s h hs => ?_, fun j p hp => ?_, fun j => ?_, fun j k p h1 h2 => ?_⟩⟩
  · cases j with
    | zero => simp at h hs; subst h hs; exact ⟨v, rfl, r⟩
    | succ j => exact W.at_ j e s (by simpa using h) (by simpa using hs)
  · cases j with
    | zero => obtain ⟨a, b, c, _⟩ := hf p hp; exact ⟨a, b, c⟩
    | succ j => exact W.no j p hp
  · cases j with
    | zero => exact nd
    | succ j => exact W.nd j
  · cases j with
    | zero =>
      cases k with
      | zero => rfl
      | succ k => exact absurd h2 ((hf p h1).2.2.2 k)
    | succ j =>
      cases k with
      | zero => exact absurd h1 ((hf p h2).2.2.2 j)
      | succ k => rw [W.dj j k p h1 h2]
/-- a new list, owned -/
theorem Ok.pushN (O : Ok K Γ B R H σ ρ) {p : Addr} {vs : List V} {ds : List D} (h : H p = none) (r : Reps K B vs ds) : Ok K (.ls :: Γ) B R (upd H p (.lst vs)) (some (.ref p) :: σ) (some (.lst ds) :: ρ) := by
  have sh := same_upd (o := .lst vs) h
  obtain ⟨F, W⟩ := O.own
  refine Ok.pushO (f := [p]) O.br (O.sb.trans sh) (O.sr.trans sh) O.lσ O.lρ (W.heap sh) ⟨p, rfl, rfl, .lst upd_same r⟩ (by simp) fun q hq => ?_
  have e : q = p := by simpa using hq
  subst e
  exact ⟨by rw [upd_same]; simp, O.sb.free h, O.sr.free h, fun i hi => (W.no i q hi).1 h⟩
theorem Ok.pushD (O : Ok K Γ B R H σ ρ) {p : Addr} {kvs : List (Key × V)} {kds : List (Key × D)} (h : H p = none) (r : RepsK K B kvs kds) : Ok K (.ls :: Γ) B R (upd H p (.dK kvs)) (some (.ref p) :: σ) (some (.dct kds) :: ρ) := by
  have sh := same_upd (o := .dK kvs) h
  obtain ⟨F, W⟩ := O.own
  refine Ok.pushO (f := [p]) O.br (O.sb.trans sh) (O.sr.trans sh) O.lσ O.lρ (W.heap sh) ⟨p, rfl, rfl, .dct upd_same r⟩ (by simp) fun q hq => ?_
  have e : q = p := by simpa using hq
  subst e
  exact ⟨by rw [upd_same]; simp, O.sb.free h, O.sr.free h, fun i hi => (W.no i q hi).1 h⟩
theorem Ok.pop {x : Option V} {y : Option D} (O : Ok K (s :: Γ) B R H (x :: σ) (y :: ρ)) : Ok K Γ B R H σ ρ := by
  obtain ⟨F, W⟩ := O.own
  refine ⟨O.sb, O.sr, by simpa using O.lσ, by simpa using O.lρ, O.br, fun j => F (j + 1), ⟨fun j e s h hs => W.at_ (j + 1) e s (by simpa using h) (by simpa using hs), fun j p hp => W.no (j + 1) p hp, fun j => W.nd (j + 1), fun j k p h1 h2 => ?_⟩⟩
  have := W.dj (j + 1) (k + 1) p h1 h2
  omega

/-- the value on the top goes into slot i -/
theorem Ok.store (O : Ok K (s :: Γ) B R H (some v :: σ) (some d :: ρ)) (i : Nat) : Ok K (Γ.set i s) B R H (σ.set i (some v)) (ρ.set i (some d)) := by
  obtain ⟨F, W⟩ := O.own
  have l1 : σ.length = Γ.length := by simpa using O.lσ
  have l2 : ρ.length = Γ.length := by simpa using O.lρ
  refine ⟨O.sb, O.sr, by simp [l1], by simp [l2], O.br, fun j => if j = i then F 0 else F (j + 1), ⟨fun j e s' h hs => ?_, fun j p hp => ?_, fun j => ?_, fun j k p h1 h2 => ?_⟩⟩
  · by_cases hj : j = i
    · subst hj
      have hl : j < ρ.length := by have := (List.getElem?_eq_some_iff.mp h).1; simpa using this
      rw [List.getElem?_set_self hl] at h
      rw [List.getElem?_set_self (by omega)] at hs
      cases h; cases hs
      obtain ⟨v', h1, h2⟩ := W.at_ 0 d s rfl rfl
      cases h1
      exact ⟨v, List.getElem?_set_self (by omega), by simpa using h2⟩
    · rw [List.getElem?_set_ne (Ne.symm hj)] at h hs ⊢
      simp only [hj, if_false]
      exact W.at_ (j + 1) e s' (by simpa using h) (by simpa using hs)
  · split at hp
    · exact W.no _ p hp
    · exact W.no _ p hp
  · split
    · exact W.nd _
    · exact W.nd _
  · split at h1 <;> split at h2
    · omega
    · have := W.dj _ _ p h1 h2; omega
    · have := W.dj _ _ p h1 h2; omega
    · have := W.dj _ _ p h1 h2; omega
/-- slots forgotten -/
theorem Ok.drop (O : Ok K Γ B R H σ ρ) {σ' : L2.St} {ρ' : Env} (l1 : σ'.length = σ.length) (l2 : ρ'.length = ρ.length) (h1 : ∀ (i : Nat) (d : D), ρ'[i]? = some (some d) → ρ[i]? = some (some d) ∧ σ'[i]? = σ[i]?) : Ok K Γ B R H σ' ρ' := by
  obtain ⟨F, W⟩ := O.own
  refine ⟨O.sb, O.sr, l1.trans O.lσ, l2.trans O.lρ, O.br, F, ⟨fun i d s h hs => ?_, W.no, W.nd, W.dj⟩⟩
  obtain ⟨h2, h3⟩ := h1 i d h
  rw [h3]
  exact W.at_ i d s h2 hs
/-- the shape of a slot that holds nothing -/
theorem Ok.reshape (O : Ok K Γ B R H σ ρ) {Γ' : List Sh} (l : Γ'.length = Γ.length) (h : ∀ (i : Nat) (d : D), ρ[i]? = some (some d) → Γ'[i]? = Γ[i]?) : Ok K Γ' B R H σ ρ := by
  obtain ⟨F, W⟩ := O.own
  refine ⟨O.sb, O.sr, O.lσ.trans l.symm, O.lρ.trans l.symm, O.br, F, ⟨fun i d s h1 hs => ?_, W.no, W.nd, W.dj⟩⟩
  exact W.at_ i d s h1 (by rw [← h i d h1]; exact hs)
/-- the list that slot i owns is written -/
theorem Ok.writeO (O : Ok K Γ B R H σ ρ) {p : Addr} {o' : HO} {d' : D} (h : ρ[i]? = some (some d)) (hs : Γ[i]? = some .ls) (hv : σ[i]? = some (some (.ref p))) (r : OwnO K B (upd H p o') p d') :
    Ok K Γ B R (upd H p o') σ (ρ.set i (some d')) := by
  obtain ⟨F, W⟩ := O.own
  obtain ⟨v, h1, q, e1, e3, h4⟩ := W.at_ i d _ h hs
  rw [hv] at h1; cases h1; cases e1
  have hp : p ∈ F i := by rw [e3]; exact List.mem_cons_self
  obtain ⟨n1, n2, n3⟩ := W.no i p hp
  have keep : ∀ {G : Hp}, Same G H → G p = none → Same G (upd H p o') := fun sg z a o e => by
    rw [upd_ne (fun q => by subst q; rw [z] at e; cases e)]; exact sg a o e
  refine ⟨keep O.sb n2, keep O.sr n3, O.lσ, by simp [O.lρ], O.br, F, ⟨fun j e s h hs => ?_, fun j q hq => ?_, W.nd, W.dj⟩⟩
  · by_cases hj : j = i
    · subst hj
      have hl : j < ρ.length := by have := (List.getElem?_eq_some_iff.mp h).1; simpa using this
      rw [List.getElem?_set_self hl] at h
      cases h
      rename_i hs0
      rw [hs0] at hs; cases hs
      exact ⟨_, hv, p, rfl, e3, r⟩
    · rw [List.getElem?_set_ne (Ne.symm hj)] at h
      obtain ⟨v, h1, h2⟩ := W.at_ j e s h hs
      refine ⟨v, h1, h2.at (Same.refl _) fun q hq o ho => ?_⟩
      rw [upd_ne (fun z => hj (W.dj j i q hq (by rw [z]; exact hp)))]
      exact ho
  · obtain ⟨m1, m2, m3⟩ := W.no j q hq
    refine ⟨?_, m2, m3⟩
    by_cases e : q = p
    · subst e; rw [upd_same]; simp
    · rw [upd_ne e]; exact m1
theorem Ok.write (O : Ok K Γ B R H σ ρ) {p : Addr} {ds' : List D} {vs' : List V} (h : ρ[i]? = some (some d)) (hs : Γ[i]? = some .ls) (hv : σ[i]? = some (some (.ref p))) (r : Reps K B vs' ds') :
    Ok K Γ B R (upd H p (.lst vs')) σ (ρ.set i (some (.lst ds'))) := O.writeO h hs hv (.lst upd_same r)
theorem Ok.getO (O : Ok K Γ B R H σ ρ) (h : ρ[i]? = some (some d)) (hs : Γ[i]? = some .ls) : ∃ p, σ[i]? = some (some (.ref p)) ∧ OwnO K B H p d := by
  obtain ⟨F, W⟩ := O.own
  obtain ⟨v, h1, q, e1, e3, h4⟩ := W.at_ i d _ h hs
  subst e1
  exact ⟨q, h1, h4⟩
theorem Ok.getLs {ds : List D} (O : Ok K Γ B R H σ ρ) (h : ρ[i]? = some (some (.lst ds))) (hs : Γ[i]? = some .ls) : ∃ p vs, σ[i]? = some (some (.ref p)) ∧ H p = some (.lst vs) ∧ Reps K B vs ds := by
  obtain ⟨p, h1, h2⟩ := O.getO h hs
  cases h2 with
  | lst h r => exact ⟨p, _, h1, h, r⟩
theorem Ok.getD {kds : List (Key × D)} (O : Ok K Γ B R H σ ρ) (h : ρ[i]? = some (some (.dct kds))) (hs : Γ[i]? = some .ls) : ∃ p kvs, σ[i]? = some (some (.ref p)) ∧ H p = some (.dK kvs) ∧ RepsK K B kvs kds := by
  obtain ⟨p, h1, h2⟩ := O.getO h hs
  cases h2 with
  | dct h r => exact ⟨p, _, h1, h, r⟩
/-- the value on the top is frozen -/
theorem Ok.freezeTop (O : Ok K (.ls :: Γ) B R H (some v :: σ) (some d :: ρ)) : ∃ B', Same B B' ∧ Ok K (.pu :: Γ) B' R H (some v :: σ) (some d :: ρ) := by
  obtain ⟨F, W⟩ := O.own
  obtain ⟨v', h1, p, e1, e3, hO⟩ := W.at_ 0 d .ls rfl rfl
  cases h1; subst e1
  obtain ⟨ob, h4, h5⟩ := hO.there
  have hp : p ∈ F 0 := by rw [e3]; exact List.mem_cons_self
  obtain ⟨n1, n2, n3⟩ := W.no 0 p hp
  have sB : Same B (upd B p ob) := same_upd n2
  refine ⟨upd B p ob, sB, fun a o e => ?_, O.sr, O.lσ, O.lρ, fun q o e => ?_, fun j => match j with | 0 => [] | j + 1 => F (j + 1), ⟨fun j e s h hs => ?_, fun j q hq => ?_, fun j => ?_, fun j k q h1 h2 => ?_⟩⟩
  · by_cases q : a = p
    · subst q; rw [upd_same] at e; rw [← e]; exact h4
    · rw [upd_ne q] at e; exact O.sb a o e
  · by_cases z : q = p
    · subst z; rw [n3] at e; cases e
    · rw [upd_ne z]; exact O.br q o e
  · cases j with
    | zero =>
      simp at h hs; subst h hs
      exact ⟨_, rfl, h5 _ sB upd_same, rfl⟩
    | succ j =>
      obtain ⟨v, h1, h2⟩ := W.at_ (j + 1) e s (by simpa using h) (by simpa using hs)
      exact ⟨v, h1, h2.mono sB (Same.refl _)⟩
  · cases j with
    | zero => exact absurd hq (by simp)
    | succ j =>
      obtain ⟨m1, m2, m3⟩ := W.no (j + 1) q hq
      refine ⟨m1, ?_, m3⟩
      rw [upd_ne (fun z => by subst z; have := W.dj _ _ q hq hp; omega)]
      exact m2
  · cases j with
    | zero => exact List.nodup_nil
    | succ j => exact W.nd _
  · cases j with
    | zero => exact absurd h1 (by simp)
    | succ j =>
      cases k with
      | zero => exact absurd h2 (by simp)
      | succ k => exact W.dj _ _ q h1 h2
/-- the list in slot i is frozen -/
theorem Ok.freeze (O : Ok K Γ B R H σ ρ) (hs : Γ[i]? = some .ls) : ∃ B', Same B B' ∧ Ok K (Γ.set i .pu) B' R H σ ρ := by
  by_cases hd : ∃ d, ρ[i]? = some (some d)
  · obtain ⟨d, h⟩ := hd
    obtain ⟨F, W⟩ := O.own
    obtain ⟨v', hv, p, e1, e3, hO⟩ := W.at_ i d .ls h hs
    subst e1
    obtain ⟨ob, h4, h5⟩ := hO.there
    have hp : p ∈ F i := by rw [e3]; exact List.mem_cons_self
    obtain ⟨n1, n2, n3⟩ := W.no i p hp
    have sB : Same B (upd B p ob) := same_upd n2
    refine ⟨upd B p ob, sB, fun a o e => ?_, O.sr, by simpa using O.lσ, by simpa using O.lρ, fun q o e => ?_, fun j => if j = i then [] else F j, ⟨fun j e s h' hs' => ?_, fun j q hq => ?_, fun j => ?_, fun j k q h1 h2 => ?_⟩⟩
    · by_cases q : a = p
      · subst q; rw [upd_same] at e; rw [← e]; exact h4
      · rw [upd_ne q] at e; exact O.sb a o e
    · by_cases z : q = p
      · subst z; rw [n3] at e; cases e
      · rw [upd_ne z]; exact O.br q o e
    · by_cases hj : j = i
      · subst hj
        have hl : j < Γ.length := (List.getElem?_eq_some_iff.mp hs).1
        rw [List.getElem?_set_self hl] at hs'
        rw [h] at h'; cases h'; cases hs'
        exact ⟨_, hv, h5 _ sB upd_same, by simp⟩
      · rw [List.getElem?_set_ne (Ne.symm hj)] at hs'
        obtain ⟨v, h1, h2⟩ := W.at_ j e s h' hs'
        simp only [hj, if_false]
        exact ⟨v, h1, h2.mono sB (Same.refl _)⟩
    · split at hq
      · exact absurd hq (by simp)
      · rename_i hj
        obtain ⟨m1, m2, m3⟩ := W.no j q hq
        refine ⟨m1, ?_, m3⟩
        rw [upd_ne (fun z => by subst z; exact hj (W.dj _ _ q hq hp))]
        exact m2
    · split
      · exact List.nodup_nil
      · exact W.nd _
    · split at h1 <;> split at h2
      · omega
      · exact absurd h1 (by simp)
      · exact absurd h2 (by simp)
      · exact W.dj _ _ q h1 h2
  · refine ⟨B, Same.refl _, O.reshape (by simp) fun j d h => ?_⟩
    by_cases hj : j = i
    · subst hj; exact absurd ⟨d, h⟩ hd
    · rw [List.getElem?_set_ne (Ne.symm hj)]
/-- less is told of what stands beside -/
theorem Ok.weakR {R2 : Hp} (O : Ok K Γ B R2 H σ ρ) (h : Same R R2) : Ok K Γ B R H σ ρ := by
  obtain ⟨F, W⟩ := O.own
  exact ⟨O.sb, fun a o e => O.sr a o (h a o e), O.lσ, O.lρ, fun p o e => O.br p o (h p o e), F, ⟨W.at_, fun i p hp => ⟨(W.no i p hp).1, (W.no i p hp).2.1, h.free (W.no i p hp).2.2⟩, W.nd, W.dj⟩⟩
/-- more is told of it -/
theorem Ok.addR (O : Ok K Γ B R H σ ρ) {F : Nat → List Addr} (W : Feet K Γ B R H σ ρ F) {p : Addr} {o : HO} (hp : ∀ i, p ∉ F i) (h1 : H p = some o) (h2 : B p = none) : Ok K Γ B (upd R p o) H σ ρ := by
  refine ⟨O.sb, fun a u e => ?_, O.lσ, O.lρ, fun a u e => ?_, F, ⟨W.at_, fun i q hq => ?_, W.nd, W.dj⟩⟩
  · by_cases z : a = p
    · subst z; rw [upd_same] at e; rw [← e]; exact h1
    · rw [upd_ne z] at e; exact O.sr a u e
  · by_cases z : a = p
    · subst z; exact h2
    · rw [upd_ne z] at e; exact O.br a u e
  · obtain ⟨n1, n2, n3⟩ := W.no i q hq
    have ne : q ≠ p := fun z => hp i (by rw [← z]; exact hq)
    rw [upd_ne ne]
    exact ⟨n1, n2, n3⟩
/-- a new own thing is set aside and taken back -/
theorem Ok.hold (O : Ok K (.ls :: Γ) B R H (some v :: σ) (some d :: ρ)) : ∃ p o, v = .ref p ∧ H p = some o ∧ R p = none ∧ Ok K Γ B (upd R p o) H σ ρ ∧
    ∀ (Γ2 : List Sh) (B' H' : Hp) (σ' : L2.St) (ρ' : Env), Same B B' → Ok K Γ2 B' (upd R p o) H' σ' ρ' → Ok K (.ls :: Γ2) B' R H' (some v :: σ') (some d :: ρ') := by
  obtain ⟨F, W⟩ := O.own
  obtain ⟨v', h1, p, e1, e3, hO⟩ := W.at_ 0 d .ls rfl rfl
  cases h1; subst e1
  obtain ⟨ob, h4, _⟩ := hO.there
  have hp : p ∈ F 0 := by rw [e3]; exact List.mem_cons_self
  obtain ⟨n1, n2, n3⟩ := W.no 0 p hp
  have W1 : Feet K Γ B R H σ ρ (fun j => F (j + 1)) := ⟨fun j e s h hs => W.at_ (j + 1) e s (by simpa using h) (by simpa using hs), fun j p hp => W.no (j + 1) p hp, fun j => W.nd (j + 1), fun j k p h1 h2 => by
    have := W.dj (j + 1) (k + 1) p h1 h2
    omega⟩
  refine ⟨p, ob, rfl, h4, n3, O.pop.addR W1 (fun i hi => by have := W.dj 0 (i + 1) p hp hi; omega) h4 n2, fun Γ2 B' H' σ' ρ' sb O' => ?_⟩
  obtain ⟨F', W'⟩ := O'.own
  have hpH : H' p = some ob := O'.sr p ob upd_same
  have hpB : B' p = none := O'.br p ob upd_same
  have sR : Same R (upd R p ob) := same_upd n3
  have O2 := O'.weakR sR
  have W2 : Feet K Γ2 B' R H' σ' ρ' F' := ⟨W'.at_, fun i q hq => ⟨(W'.no i q hq).1, (W'.no i q hq).2.1, sR.free (W'.no i q hq).2.2⟩, W'.nd, W'.dj⟩
  refine Ok.pushO (f := [p]) O2.br O2.sb O2.sr O2.lσ O2.lρ W2 ⟨p, rfl, rfl, ?_⟩ (by simp) fun q hq => ?_
  · cases hO with
    | lst h r => rw [h] at h4; cases h4; exact .lst hpH (r.mono sb)
    | dct h r => rw [h] at h4; cases h4; exact .dct hpH (r.mono sb)
  · have e : q = p := by simpa using hq
    subst e
    refine ⟨by rw [hpH]; simp, hpB, n3, fun i hi => ?_⟩
    have := (W'.no i q hi).2.2
    rw [upd_same] at this
    cases this
end
end DL
namespace DL
open PySem L2

/-- an own error: its class by number, its fields -/
structure Ex where
  c : Nat
  fs : List (Str × D)
inductive Res (α : Type) where
  | ok (a : α) (ρ : Env) | exc (e : Ex) (ρ : Env) | stuck
def Res.bind {α β : Type} (r : Res α) (k : α → Env → Res β) : Res β := match r with
  | .ok a ρ => k a ρ
  | .exc e ρ => .exc e ρ
  | .stuck => .stuck
inductive Out where
  | nx (ρ : Env) | bk (ρ : Env) | ct (ρ : Env) | rt (d : D) (ρ : Env) | exc (e : Ex) (ρ : Env) | stuck
abbrev ER (α : Type) := Env → Res α
def Res.out {α : Type} (r : Res α) (k : α → Env → Out) : Out := match r with
  | .ok a ρ => k a ρ
  | .exc e ρ => .exc e ρ
  | .stuck => .stuck
def ofOpt {α : Type} (o : Option α) (ρ : Env) : Res α := match o with
  | some a => .ok a ρ
  | none => .stuck

abbrev Mg := Str → Option Value
/-- the package's classes of errors -/
def clsN : Nat → Str
  | 0 => "BadRecipe" | 1 => "BadCode" | 2 => "BadPiece" | 3 => "BadForm" | 4 => "BadStep" | 5 => "BadText" | 6 => "BadCommand" | 7 => "NoSuch" | 8 => "Taken"
  | 9 => "MoveError" | 10 => "DataError" | 11 => "CallError" | 12 => "TextError" | 13 => "AskError" | _ => "ValueError"
def ExR (K : PySem.W.Frag) (mg : Mg) (B : Hp) (e : Ex) (cls : Value) (l : List (Str × V)) : Prop :=
  ∃ (C : Addr) (vs : List V), mg (clsN e.c) = some (.ref C) ∧ cls = .ref C ∧ l = (e.fs.map (·.1)).zip vs ∧ Reps K B vs (e.fs.map (·.2))

/-- the wish of exceptions; what is known of what stands beside and of the slots -/
structure Wc where
  W : WX
  P : Hp → L2.St → Prop
  mono : ∀ R R' σ, Same R R' → P R σ → P R' σ
section
variable (K : PySem.W.Frag) (mg : Mg) (W : Wc)
/-- an exception leaves -/
def XLand (Γ : List Sh) (B R : Hp) (σ : L2.St) (e : Ex) (ρ : Env) : Prop :=
  ∀ B' H' cls p l, Same B B' → R p = none → Ok K Γ B' (upd R p (.xd l)) H' σ ρ → ExR K mg B' e cls l → W.W cls (some p) σ H'
def ELand (Γ : List Sh) (s : Sh) (B R : Hp) (σ : L2.St) (Q : VK) : Res D → Prop
  | .ok d ρ => ∀ B' H' v, Same B B' → Ok K (s :: Γ) B' R H' (some v :: σ) (some d :: ρ) → Q v H'
  | .exc e ρ => XLand K mg W Γ B R σ e ρ
  | .stuck => False
def EOk (Γ : List Sh) (te : TE) (s : Sh) (f : ER D) : Prop := ∀ B R H σ ρ Q, W.P R σ → Ok K Γ B R H σ ρ → ELand K mg W Γ s B R σ Q (f ρ) → te σ H Q
def TLand (Γ : List Sh) (B R : Hp) (σ : L2.St) (Q : Bool → Hp → Prop) : Res Bool → Prop
  | .ok b ρ => ∀ B' H', Same B B' → Ok K Γ B' R H' σ ρ → Q b H'
  | .exc e ρ => XLand K mg W Γ B R σ e ρ
  | .stuck => False
def TOk (Γ : List Sh) (tt : TT) (f : ER Bool) : Prop := ∀ B R H σ ρ Q, W.P R σ → Ok K Γ B R H σ ρ → TLand K mg W Γ B R σ Q (f ρ) → tt σ H Q
def ALand (Γ : List Sh) (B R : Hp) (σ : L2.St) (Q : List V → Hp → Prop) : Res (List D) → Prop
  | .ok ds ρ => ∀ B' H' vs, Same B B' → Ok K Γ B' R H' σ ρ → Reps K B' vs ds → Q vs H'
  | .exc e ρ => XLand K mg W Γ B R σ e ρ
  | .stuck => False
def AOk (Γ : List Sh) (ta : TA) (f : ER (List D)) : Prop := ∀ B R H σ ρ Q, W.P R σ → Ok K Γ B R H σ ρ → ALand K mg W Γ B R σ Q (f ρ) → ta σ H Q
end
section
variable {K : PySem.W.Frag} {mg : Mg} {W : Wc} {Γ : List Sh} {s : Sh} {ta tb te : TE} {fa fb : ER D} {tt tu : TT} {ft fu : ER Bool}
theorem XLand.mono {B B1 R : Hp} {σ : L2.St} {e : Ex} {ρ : Env} (h : XLand K mg W Γ B R σ e ρ) (sb : Same B B1) : XLand K mg W Γ B1 R σ e ρ :=
  fun B' H' cls p l q n O x => h B' H' cls p l (sb.trans q) n O x
/-- what comes behind an expression -/
theorem EOk.then {B R H : Hp} {σ : L2.St} {ρ : Env} {Q : VK} (h : EOk K mg W Γ te s fa) (pw : W.P R σ) (O : Ok K Γ B R H σ ρ)
    (hx : ∀ e ρ', fa ρ = .exc e ρ' → XLand K mg W Γ B R σ e ρ') (hn : fa ρ ≠ .stuck)
    (hk : ∀ d ρ', fa ρ = .ok d ρ' → ∀ B' H' v, Same B B' → Ok K (s :: Γ) B' R H' (some v :: σ) (some d :: ρ') → Q v H') : te σ H Q := by
  refine h B R H σ ρ Q pw O ?_
  cases e : fa ρ with
  | ok d ρ' => exact hk d ρ' e
  | exc x ρ' => exact hx x ρ' e
  | stuck => exact hn e

/-! ### names, constants -/
def eVar (i : Nat) : ER D := fun ρ => match ρ[i]? with
  | some (some d) => .ok d ρ
  | _ => .stuck
theorem eok_var {i : Nat} (hs : Γ[i]? = some .pu) : EOk K mg W Γ (tVar i) .pu (eVar i) := by
  intro B R H σ ρ Q pw O h
  unfold eVar at h
  split at h
  · rename_i d e
    obtain ⟨v, h1, r⟩ := O.get e hs
    exact ⟨v, h1, h B H v (Same.refl _) (O.pushP r)⟩
  · exact h.elim
def eC (d : D) : ER D := fun ρ => .ok d ρ
theorem eok_c {v : V} {d : D} (r : ∀ B, Rep K B v d) : EOk K mg W Γ (tC v) .pu (eC d) := fun B R H σ ρ Q pw O h => h B H v (Same.refl _) (O.pushP (r B))
theorem eok_int {i : Int} : EOk K mg W Γ (tC (.int i)) .pu (eC (.int i)) := eok_c fun _ => .int i
theorem eok_str {i : Str} : EOk K mg W Γ (tC (.str i)) .pu (eC (.str i)) := eok_c fun _ => .str i
theorem eok_bl {i : Bool} : EOk K mg W Γ (tC (.bl i)) .pu (eC (.bl i)) := eok_c fun _ => .bl i
theorem eok_non : EOk K mg W Γ (tC .non) .pu (eC .non) := eok_c fun _ => .non
theorem Ok.top {B R H : Hp} {σ : L2.St} {ρ : Env} {v : V} {d : D} (O : Ok K (.pu :: Γ) B R H (some v :: σ) (some d :: ρ)) : Rep K B v d := by
  obtain ⟨v', h1, h2⟩ := O.get (i := 0) rfl rfl
  cases h1
  exact h2
/-- freeze a new list -/
theorem eok_frz (h : EOk K mg W Γ te .ls fa) : EOk K mg W Γ te .pu fa := by
  intro B R H σ ρ Q pw O hl
  refine h B R H σ ρ Q pw O ?_
  cases e : fa ρ with
  | ok d ρ' =>
    rw [e] at hl
    intro B' H' v sb O'
    obtain ⟨B2, s2, O2⟩ := O'.freezeTop
    exact hl B2 H' v (sb.trans s2) O2
  | exc x ρ' => rw [e] at hl; exact hl
  | stuck => rw [e] at hl; exact hl

/-! ### two operands -/
/-- an operator by its values: g tells the answer; nothing is stored in what stands -/
def R2Ok (K : PySem.W.Frag) (r : R2) (s : Sh) (g : D → D → Option D) : Prop :=
  ∀ (Γ : List Sh) (B R H : Hp) (σ : L2.St) (ρ : Env) (v u : V) (d e o : D) (Q : VK), Ok K Γ B R H σ ρ → Rep K B v d → Rep K B u e → g d e = some o →
    (∀ B' H' w, Same B B' → Ok K (s :: Γ) B' R H' (some w :: σ) (some o :: ρ) → Q w H') → r v u H Q
def eOp (g : D → D → Option D) (fa fb : ER D) : ER D := fun ρ => (fa ρ).bind fun d ρ => (fb ρ).bind fun e ρ => ofOpt (g d e) ρ
theorem eok_op {r : R2} {g : D → D → Option D} (hr : R2Ok K r s g) (ha : EOk K mg W Γ ta .pu fa) (hb : EOk K mg W Γ tb .pu fb) : EOk K mg W Γ (tOp r ta tb) s (eOp g fa fb) := by
  intro B R H σ ρ Q pw O hl
  unfold eOp at hl
  refine ha B R H σ ρ _ pw O ?_
  cases e1 : fa ρ with
  | stuck => rw [e1] at hl; exact hl
  | exc x ρ1 => rw [e1] at hl; exact hl
  | ok d ρ1 =>
    rw [e1] at hl
    intro B1 H1 v s1 O1
    have rv := O1.top
    refine hb B1 R H1 σ ρ1 _ pw O1.pop ?_
    simp only [Res.bind] at hl
    cases e2 : fb ρ1 with
    | stuck => rw [e2] at hl; exact hl
    | exc x ρ2 => rw [e2] at hl; exact XLand.mono hl s1
    | ok e ρ2 =>
      rw [e2] at hl
      intro B2 H2 u s2 O2
      simp only [ofOpt] at hl
      cases e3 : g d e with
      | none => rw [e3] at hl; exact hl.elim
      | some o =>
        rw [e3] at hl
        exact hr Γ B2 R H2 σ ρ2 v u d e o Q O2.pop (rv.mono s2) O2.top e3 fun B3 H3 w s3 O3 => hl B3 H3 w ((s1.trans s2).trans s3) O3
def U1Ok (K : PySem.W.Frag) (r : V → Hp → VK → Prop) (s : Sh) (g : D → Option D) : Prop :=
  ∀ (Γ : List Sh) (B R H : Hp) (σ : L2.St) (ρ : Env) (v : V) (d o : D) (Q : VK), Ok K Γ B R H σ ρ → Rep K B v d → g d = some o →
    (∀ B' H' w, Same B B' → Ok K (s :: Γ) B' R H' (some w :: σ) (some o :: ρ) → Q w H') → r v H Q
def eUn (g : D → Option D) (fa : ER D) : ER D := fun ρ => (fa ρ).bind fun d ρ => ofOpt (g d) ρ
theorem eok_un {r : V → Hp → VK → Prop} {g : D → Option D} (hr : U1Ok K r s g) (ha : EOk K mg W Γ ta .pu fa) : EOk K mg W Γ (tUn r ta) s (eUn g fa) := by
  intro B R H σ ρ Q pw O hl
  unfold eUn at hl
  refine ha B R H σ ρ _ pw O ?_
  cases e1 : fa ρ with
  | stuck => rw [e1] at hl; exact hl
  | exc x ρ1 => rw [e1] at hl; exact hl
  | ok d ρ1 =>
    rw [e1] at hl
    intro B1 H1 v s1 O1
    simp only [Res.bind, ofOpt] at hl
    cases e3 : g d with
    | none => rw [e3] at hl; exact hl.elim
    | some o =>
      rw [e3] at hl
      exact hr Γ B1 R H1 σ ρ1 v d o Q O1.pop O1.top e3 fun B3 H3 w s3 O3 => hl B3 H3 w (s1.trans s3) O3
/-! ### argument lists -/
def aNil : ER (List D) := fun ρ => .ok [] ρ
def aCons (f : ER D) (g : ER (List D)) : ER (List D) := fun ρ => (f ρ).bind fun d ρ => (g ρ).bind fun ds ρ => .ok (d :: ds) ρ
theorem aok_nil : AOk K mg W Γ tNil aNil := fun B R H σ ρ Q pw O h => h B H [] (Same.refl _) O .nil
theorem aok_cons {t : TA} {g : ER (List D)} (ha : EOk K mg W Γ ta .pu fa) (hr : AOk K mg W Γ t g) : AOk K mg W Γ (tCons ta t) (aCons fa g) := by
  intro B R H σ ρ Q pw O hl
  unfold aCons at hl
  refine ha B R H σ ρ _ pw O ?_
  cases e1 : fa ρ with
  | stuck => rw [e1] at hl; exact hl
  | exc x ρ1 => rw [e1] at hl; exact hl
  | ok d ρ1 =>
    rw [e1] at hl
    intro B1 H1 v s1 O1
    refine hr B1 R H1 σ ρ1 _ pw O1.pop ?_
    simp only [Res.bind] at hl
    cases e2 : g ρ1 with
    | stuck => rw [e2] at hl; exact hl
    | exc x ρ2 => rw [e2] at hl; exact XLand.mono hl s1
    | ok ds ρ2 =>
      rw [e2] at hl
      intro B2 H2 vs s2 O2 r2
      exact hl B2 H2 (v :: vs) (s1.trans s2) O2 (.cons (O1.top.mono s2) r2)
/-- a built-in by its values -/
def C1Ok (K : PySem.W.Frag) (r : List V → Hp → VK → Prop) (s : Sh) (g : List D → Option D) : Prop :=
  ∀ (Γ : List Sh) (B R H : Hp) (σ : L2.St) (ρ : Env) (vs : List V) (ds : List D) (o : D) (Q : VK), Ok K Γ B R H σ ρ → Reps K B vs ds → g ds = some o →
    (∀ B' H' w, Same B B' → Ok K (s :: Γ) B' R H' (some w :: σ) (some o :: ρ) → Q w H') → r vs H Q
def eCB (g : List D → Option D) (f : ER (List D)) : ER D := fun ρ => (f ρ).bind fun ds ρ => ofOpt (g ds) ρ
theorem eok_cb {r : List V → Hp → VK → Prop} {g : List D → Option D} {t : TA} {f : ER (List D)} (hr : C1Ok K r s g) (ha : AOk K mg W Γ t f) : EOk K mg W Γ (tCB r t) s (eCB g f) := by
  intro B R H σ ρ Q pw O hl
  unfold eCB at hl
  refine ha B R H σ ρ _ pw O ?_
  cases e1 : f ρ with
  | stuck => rw [e1] at hl; exact hl
  | exc x ρ1 => rw [e1] at hl; exact hl
  | ok ds ρ1 =>
    rw [e1] at hl
    intro B1 H1 vs s1 O1 r1
    simp only [Res.bind, ofOpt] at hl
    cases e3 : g ds with
    | none => rw [e3] at hl; exact hl.elim
    | some o =>
      rw [e3] at hl
      exact hr Γ B1 R H1 σ ρ1 vs ds o Q O1 r1 e3 fun B3 H3 w s3 O3 => hl B3 H3 w (s1.trans s3) O3
/-- a tuple is laid -/
theorem Ok.layTup {B R H : Hp} {σ : L2.St} {ρ : Env} {p : Addr} {vs : List V} {ds : List D} (O : Ok K Γ B R H σ ρ) (h : H p = none) (r : Reps K B vs ds) :
    ∃ B', Same B B' ∧ Ok K (.pu :: Γ) B' R (upd H p (.tup vs)) (some (.ref p) :: σ) (some (.tup ds) :: ρ) := by
  obtain ⟨sb, O1⟩ := O.lay (o := .tup vs) h
  exact ⟨_, sb, O1.pushP (.tup (SqT.of upd_same) (r.mono sb))⟩
theorem Ok.layLst {B R H : Hp} {σ : L2.St} {ρ : Env} {p : Addr} {vs : List V} {ds : List D} (O : Ok K Γ B R H σ ρ) (h : H p = none) (r : Reps K B vs ds) :
    ∃ B', Same B B' ∧ Ok K (.pu :: Γ) B' R (upd H p (.lst vs)) (some (.ref p) :: σ) (some (.lst ds) :: ρ) := by
  obtain ⟨sb, O1⟩ := O.lay (o := .lst vs) h
  exact ⟨_, sb, O1.pushP (.lst upd_same (r.mono sb))⟩
def eTup (f : ER (List D)) : ER D := fun ρ => (f ρ).bind fun ds ρ => if ds.length ≤ sizeLine then .ok (.tup ds) ρ else .stuck
def eLst (f : ER (List D)) : ER D := fun ρ => (f ρ).bind fun ds ρ => if ds.length ≤ sizeLine then .ok (.lst ds) ρ else .stuck
theorem eok_tup {t : TA} {f : ER (List D)} (ha : AOk K mg W Γ t f) : EOk K mg W Γ (tTup t) .pu (eTup f) := by
  intro B R H σ ρ Q pw O hl
  unfold eTup at hl
  refine ha B R H σ ρ _ pw O ?_
  cases e1 : f ρ with
  | stuck => rw [e1] at hl; exact hl
  | exc x ρ1 => rw [e1] at hl; exact hl
  | ok ds ρ1 =>
    rw [e1] at hl
    intro B1 H1 vs s1 O1 r1
    simp only [Res.bind] at hl
    by_cases hz : ds.length ≤ sizeLine
    · rw [if_pos hz] at hl
      refine ⟨by rw [r1.length]; exact hz, fun p hp => ?_⟩
      obtain ⟨B2, s2, O2⟩ := O1.layTup hp r1
      exact hl B2 _ _ (s1.trans s2) O2
    · rw [if_neg hz] at hl; exact hl.elim
theorem eok_lst {t : TA} {f : ER (List D)} (ha : AOk K mg W Γ t f) : EOk K mg W Γ (tLst t) .ls (eLst f) := by
  intro B R H σ ρ Q pw O hl
  unfold eLst at hl
  refine ha B R H σ ρ _ pw O ?_
  cases e1 : f ρ with
  | stuck => rw [e1] at hl; exact hl
  | exc x ρ1 => rw [e1] at hl; exact hl
  | ok ds ρ1 =>
    rw [e1] at hl
    intro B1 H1 vs s1 O1 r1
    simp only [Res.bind] at hl
    by_cases hz : ds.length ≤ sizeLine
    · rw [if_pos hz] at hl
      refine ⟨by rw [r1.length]; exact hz, fun p hp => ?_⟩
      exact hl B1 _ _ s1 (O1.pushN hp r1)
    · rw [if_neg hz] at hl; exact hl.elim
/-! ### tests -/
def tVal (f : ER D) : ER Bool := fun ρ => (f ρ).bind fun d ρ => match d with
  | .bl b => .ok b ρ
  | _ => .stuck
theorem tok_test (h : EOk K mg W Γ te .pu fa) : TOk K mg W Γ (tTest te) (tVal fa) := by
  intro B R H σ ρ Q pw O hl
  unfold tVal at hl
  refine h B R H σ ρ _ pw O ?_
  cases e1 : fa ρ with
  | stuck => rw [e1] at hl; exact hl
  | exc x ρ1 => rw [e1] at hl; exact hl
  | ok d ρ1 =>
    rw [e1] at hl
    intro B1 H1 v s1 O1
    have rv := O1.top
    simp only [Res.bind] at hl
    cases rv with
    | bl b => exact ⟨b, rfl, hl B1 H1 s1 O1.pop⟩
    | non => exact hl.elim
    | int i => exact hl.elim
    | str i => exact hl.elim
    | tup _ _ => exact hl.elim
    | lst _ _ => exact hl.elim
    | scr _ => exact hl.elim
    | dct _ _ => exact hl.elim
theorem tok_b (h : EOk K mg W Γ te .pu fa) : TOk K mg W Γ (tB te) (tVal fa) := tok_test h
def bAnd (f g : ER Bool) : ER Bool := fun ρ => (f ρ).bind fun b ρ => match b with
  | true => g ρ
  | false => .ok false ρ
def bOr (f g : ER Bool) : ER Bool := fun ρ => (f ρ).bind fun b ρ => match b with
  | true => .ok true ρ
  | false => g ρ
def bNot (f : ER Bool) : ER Bool := fun ρ => (f ρ).bind fun b ρ => .ok (!b) ρ
theorem TLand.mono {B B1 R : Hp} {σ : L2.St} {Q : Bool → Hp → Prop} {r : Res Bool} (h : TLand K mg W Γ B R σ Q r) (sb : Same B B1) : TLand K mg W Γ B1 R σ Q r := by
  cases r with
  | ok b ρ => exact fun B' H' q O => h B' H' (sb.trans q) O
  | exc e ρ => exact XLand.mono h sb
  | stuck => exact h
theorem ELand.mono {B B1 R : Hp} {σ : L2.St} {Q : VK} {r : Res D} (h : ELand K mg W Γ s B R σ Q r) (sb : Same B B1) : ELand K mg W Γ s B1 R σ Q r := by
  cases r with
  | ok b ρ => exact fun B' H' v q O => h B' H' v (sb.trans q) O
  | exc e ρ => exact XLand.mono h sb
  | stuck => exact h
theorem tok_and (ha : TOk K mg W Γ tt ft) (hb : TOk K mg W Γ tu fu) : TOk K mg W Γ (L2.tAnd tt tu) (bAnd ft fu) := by
  intro B R H σ ρ Q pw O hl
  unfold bAnd at hl
  refine ha B R H σ ρ _ pw O ?_
  cases e1 : ft ρ with
  | stuck => rw [e1] at hl; exact hl
  | exc x ρ1 => rw [e1] at hl; exact hl
  | ok b ρ1 =>
    rw [e1] at hl
    intro B1 H1 s1 O1
    simp only [Res.bind] at hl
    cases b with
    | true => rw [if_pos rfl]; exact hb B1 R H1 σ ρ1 Q pw O1 (TLand.mono hl s1)
    | false => rw [if_neg Bool.false_ne_true]; exact hl B1 H1 s1 O1
theorem tok_or (ha : TOk K mg W Γ tt ft) (hb : TOk K mg W Γ tu fu) : TOk K mg W Γ (L2.tOr tt tu) (bOr ft fu) := by
  intro B R H σ ρ Q pw O hl
  unfold bOr at hl
  refine ha B R H σ ρ _ pw O ?_
  cases e1 : ft ρ with
  | stuck => rw [e1] at hl; exact hl
  | exc x ρ1 => rw [e1] at hl; exact hl
  | ok b ρ1 =>
    rw [e1] at hl
    intro B1 H1 s1 O1
    simp only [Res.bind] at hl
    cases b with
    | false => rw [if_neg Bool.false_ne_true]; exact hb B1 R H1 σ ρ1 Q pw O1 (TLand.mono hl s1)
    | true => rw [if_pos rfl]; exact hl B1 H1 s1 O1
theorem tok_not (ha : TOk K mg W Γ tt ft) : TOk K mg W Γ (L2.tNot tt) (bNot ft) := by
  intro B R H σ ρ Q pw O hl
  unfold bNot at hl
  refine ha B R H σ ρ _ pw O ?_
  cases e1 : ft ρ with
  | stuck => rw [e1] at hl; exact hl
  | exc x ρ1 => rw [e1] at hl; exact hl
  | ok b ρ1 => rw [e1] at hl; exact hl
def eIf (t : ER Bool) (f g : ER D) : ER D := fun ρ => (t ρ).bind fun b ρ => match b with
  | true => f ρ
  | false => g ρ
theorem eok_if (ht : TOk K mg W Γ tt ft) (ha : EOk K mg W Γ ta s fa) (hb : EOk K mg W Γ tb s fb) : EOk K mg W Γ (L2.tIf tt ta tb) s (eIf ft fa fb) := by
  intro B R H σ ρ Q pw O hl
  unfold eIf at hl
  refine ht B R H σ ρ _ pw O ?_
  cases e1 : ft ρ with
  | stuck => rw [e1] at hl; exact hl
  | exc x ρ1 => rw [e1] at hl; exact hl
  | ok b ρ1 =>
    rw [e1] at hl
    intro B1 H1 s1 O1
    simp only [Res.bind] at hl
    cases b with
    | true => rw [if_pos rfl]; exact ha B1 R H1 σ ρ1 Q pw O1 (ELand.mono hl s1)
    | false => rw [if_neg Bool.false_ne_true]; exact hb B1 R H1 σ ρ1 Q pw O1 (ELand.mono hl s1)
/-- and, or, not as values -/
def eB (f : ER Bool) : ER D := fun ρ => (f ρ).bind fun b ρ => .ok (.bl b) ρ
def eAndV (f g : ER D) : ER D := fun ρ => (tVal f ρ).bind fun b ρ => match b with
  | true => g ρ
  | false => .ok (.bl false) ρ
def eOrV (f g : ER D) : ER D := fun ρ => (tVal f ρ).bind fun b ρ => match b with
  | true => .ok (.bl true) ρ
  | false => g ρ
def eNotV (f : ER D) : ER D := fun ρ => (tVal f ρ).bind fun b ρ => .ok (.bl (!b)) ρ
theorem eok_and (ha : EOk K mg W Γ ta .pu fa) (hb : EOk K mg W Γ tb .pu fb) : EOk K mg W Γ (tAndV ta tb) .pu (eAndV fa fb) := by
  intro B R H σ ρ Q pw O hl
  unfold eAndV at hl
  refine tok_b ha B R H σ ρ _ pw O ?_
  cases e1 : tVal fa ρ with
  | stuck => rw [e1] at hl; exact hl
  | exc x ρ1 => rw [e1] at hl; exact hl
  | ok b ρ1 =>
    rw [e1] at hl
    intro B1 H1 s1 O1
    simp only [Res.bind] at hl
    cases b with
    | true => rw [if_pos rfl]; exact hb B1 R H1 σ ρ1 Q pw O1 (ELand.mono hl s1)
    | false => rw [if_neg Bool.false_ne_true]; exact hl B1 H1 _ s1 (O1.pushP (.bl false))
theorem eok_or (ha : EOk K mg W Γ ta .pu fa) (hb : EOk K mg W Γ tb .pu fb) : EOk K mg W Γ (tOrV ta tb) .pu (eOrV fa fb) := by
  intro B R H σ ρ Q pw O hl
  unfold eOrV at hl
  refine tok_b ha B R H σ ρ _ pw O ?_
  cases e1 : tVal fa ρ with
  | stuck => rw [e1] at hl; exact hl
  | exc x ρ1 => rw [e1] at hl; exact hl
  | ok b ρ1 =>
    rw [e1] at hl
    intro B1 H1 s1 O1
    simp only [Res.bind] at hl
    cases b with
    | false => rw [if_neg Bool.false_ne_true]; exact hb B1 R H1 σ ρ1 Q pw O1 (ELand.mono hl s1)
    | true => rw [if_pos rfl]; exact hl B1 H1 _ s1 (O1.pushP (.bl true))
theorem eok_not (ha : EOk K mg W Γ ta .pu fa) : EOk K mg W Γ (tNotV ta) .pu (eNotV fa) := by
  intro B R H σ ρ Q pw O hl
  unfold eNotV at hl
  refine tok_b ha B R H σ ρ _ pw O ?_
  cases e1 : tVal fa ρ with
  | stuck => rw [e1] at hl; exact hl
  | exc x ρ1 => rw [e1] at hl; exact hl
  | ok b ρ1 =>
    rw [e1] at hl
    intro B1 H1 s1 O1
    exact hl B1 H1 _ s1 (O1.pushP (.bl _))
end
end DL
namespace DL
open PySem L2

def Pin (pn : List Nat) (σ σ' : L2.St) : Prop := ∀ i ∈ pn, σ'[i]? = σ[i]?
/-- what a block stands in: the wish of exceptions, the loop's shapes, what is returned, the slots that stay, the shapes at which one may leave -/
structure Cf where
  W : Wc
  Γl : List Sh
  sr : Sh
  pn : List Nat
  ag : List Sh → Prop
  hP : ∀ R σ σ', Pin pn σ σ' → W.P R σ → W.P R σ'
theorem Pin.refl {pn : List Nat} {σ : L2.St} : Pin pn σ σ := fun _ _ => rfl
theorem Pin.trans {pn : List Nat} {σ σ1 σ2 : L2.St} (a : Pin pn σ σ1) (b : Pin pn σ1 σ2) : Pin pn σ σ2 := fun i h => (b i h).trans (a i h)
def Out.seq (o : Out) (k : Env → Out) : Out := match o with
  | .nx ρ => k ρ
  | o => o
section
variable (K : PySem.W.Frag) (mg : Mg) (C : Cf)
def SLand (Γ' : List Sh) (B R : Hp) (σ : L2.St) (D : Ends) : Out → Prop
  | .nx ρ => ∀ B' H' σ', Same B B' → Ok K Γ' B' R H' σ' ρ → Pin C.pn σ σ' → D.nx σ' H'
  | .bk ρ => ∀ B' H' σ', Same B B' → Ok K C.Γl B' R H' σ' ρ → Pin C.pn σ σ' → D.bk σ' H'
  | .ct ρ => ∀ B' H' σ', Same B B' → Ok K C.Γl B' R H' σ' ρ → Pin C.pn σ σ' → D.ct σ' H'
  | .rt d ρ => ∀ B' H' σ' v Γ1, Same B B' → C.ag Γ1 → Ok K (C.sr :: Γ1) B' R H' (some v :: σ') (some d :: ρ) → Pin C.pn σ σ' → D.rt v H'
  | .exc e ρ => ∀ B' H' σ' cls p l Γ1, Same B B' → R p = none → C.ag Γ1 → Ok K Γ1 B' (upd R p (.xd l)) H' σ' ρ → Pin C.pn σ σ' → ExR K mg B' e cls l → C.W.W cls (some p) σ' H'
  | .stuck => False
def SOk (Γ Γ' : List Sh) (ts : TS) (f : Env → Out) : Prop := ∀ B R H σ ρ D, C.W.P R σ → Ok K Γ B R H σ ρ → SLand K mg C Γ' B R σ D (f ρ) → ts D σ H
end
section
variable {K : PySem.W.Frag} {mg : Mg} {C : Cf} {Γ Γ' Γ1 : List Sh} {ts tu : TS} {f g : Env → Out} {s : Sh} {te : TE} {fe : ER D}
theorem SLand.mono {B B1 R : Hp} {σ σ1 : L2.St} {D : Ends} {o : Out} (h : SLand K mg C Γ' B R σ D o) (sb : Same B B1) (p : Pin C.pn σ σ1) : SLand K mg C Γ' B1 R σ1 D o := by
  cases o with
  | nx ρ => exact fun B' H' σ' a O q => h B' H' σ' (sb.trans a) O (p.trans q)
  | bk ρ => exact fun B' H' σ' a O q => h B' H' σ' (sb.trans a) O (p.trans q)
  | ct ρ => exact fun B' H' σ' a O q => h B' H' σ' (sb.trans a) O (p.trans q)
  | rt d ρ => exact fun B' H' σ' v Γ1 a g O q => h B' H' σ' v Γ1 (sb.trans a) g O (p.trans q)
  | exc e ρ => exact fun B' H' σ' cls p' l Γ1 a n g O q x => h B' H' σ' cls p' l Γ1 (sb.trans a) n g O (p.trans q) x
  | stuck => exact h
theorem SLand.exc {B R : Hp} {σ : L2.St} {D : Ends} {e : Ex} {ρ : Env} (h : SLand K mg C Γ' B R σ D (.exc e ρ)) (ag : C.ag Γ) : XLand K mg C.W Γ B R σ e ρ :=
  fun B' H' cls p l sb n O x => h B' H' σ cls p l Γ sb n ag O Pin.refl x
/-- nothing is done -/
theorem sok_next : SOk K mg C Γ Γ L2.tNext .nx := fun B R H σ ρ D pw O h => h B H σ (Same.refl _) O Pin.refl
def sSeq (f g : Env → Out) : Env → Out := fun ρ => (f ρ).seq g
theorem sok_seq (h1 : SOk K mg C Γ Γ1 ts f) (h2 : SOk K mg C Γ1 Γ' tu g) : SOk K mg C Γ Γ' (L2.tSeq ts tu) (sSeq f g) := by
  intro B R H σ ρ D pw O h
  refine h1 B R H σ ρ _ pw O ?_
  unfold sSeq at h
  cases e : f ρ with
  | nx ρ1 =>
    rw [e] at h
    exact fun B' H' σ' sb O' p => h2 B' R H' σ' ρ1 D (C.hP _ _ _ p pw) O' (SLand.mono h sb p)
  | bk ρ1 => rw [e] at h; exact h
  | ct ρ1 => rw [e] at h; exact h
  | rt d ρ1 => rw [e] at h; exact h
  | exc x ρ1 => rw [e] at h; exact h
  | stuck => rw [e] at h; exact h
/-- a list is frozen first -/
theorem sok_frz {i : Nat} (hs : Γ[i]? = some .ls) (h : SOk K mg C (Γ.set i .pu) Γ' ts f) : SOk K mg C Γ Γ' ts f := by
  intro B R H σ ρ D pw O hl
  obtain ⟨B', sb, O'⟩ := O.freeze hs
  exact h B' R H σ ρ D pw O' (SLand.mono hl sb Pin.refl)
/-- x = e -/
def sSet (i : Nat) (f : ER D) : Env → Out := fun ρ => (f ρ).out fun d ρ => .nx (ρ.set i (some d))
theorem sok_set {i : Nat} (ag : C.ag Γ) (hp : i ∉ C.pn) (h : EOk K mg C.W Γ te s fe) : SOk K mg C Γ (Γ.set i s) (tAsg te (gName i)) (sSet i fe) := by
  intro B R H σ ρ D pw O hl
  unfold sSet at hl
  refine h B R H σ ρ _ pw O ?_
  cases e : fe ρ with
  | stuck => rw [e] at hl; exact hl
  | exc x ρ1 => rw [e] at hl; exact SLand.exc hl ag
  | ok d ρ1 =>
    rw [e] at hl
    intro B' H' v sb O'
    refine hl B' H' _ sb (O'.store i) fun j hj => ?_
    rw [List.getElem?_set_ne]
    rintro rfl; exact hp hj
/-- an expression alone -/
def sDrop (f : ER D) : Env → Out := fun ρ => (f ρ).out fun _ ρ => .nx ρ
theorem sok_drop (ag : C.ag Γ) (h : EOk K mg C.W Γ te s fe) : SOk K mg C Γ Γ (tDrop te) (sDrop fe) := by
  intro B R H σ ρ D pw O hl
  unfold sDrop at hl
  refine h B R H σ ρ _ pw O ?_
  cases e : fe ρ with
  | stuck => rw [e] at hl; exact hl
  | exc x ρ1 => rw [e] at hl; exact SLand.exc hl ag
  | ok d ρ1 => rw [e] at hl; exact fun B' H' v sb O' => hl B' H' σ sb O'.pop Pin.refl
def sRet (f : ER D) : Env → Out := fun ρ => (f ρ).out fun d ρ => .rt d ρ
theorem sok_ret (ag : C.ag Γ) (h : EOk K mg C.W Γ te C.sr fe) : SOk K mg C Γ Γ' (tRet te) (sRet fe) := by
  intro B R H σ ρ D pw O hl
  unfold sRet at hl
  refine h B R H σ ρ _ pw O ?_
  cases e : fe ρ with
  | stuck => rw [e] at hl; exact hl
  | exc x ρ1 => rw [e] at hl; exact SLand.exc hl ag
  | ok d ρ1 => rw [e] at hl; exact fun B' H' v sb O' => hl B' H' σ v Γ sb ag O' Pin.refl
theorem sok_retN (ag : C.ag Γ) (hr : C.sr = .pu) : SOk K mg C Γ Γ' tRetN (.rt .non) := by
  intro B R H σ ρ D pw O hl
  have hl : SLand K mg C Γ' B R σ D (.rt .non ρ) := hl
  exact hl B H σ .non Γ (Same.refl _) ag (by rw [hr]; exact O.pushP .non) Pin.refl
theorem sok_break (e : C.Γl = Γ) : SOk K mg C Γ Γ' tBreak .bk := fun B R H σ ρ D pw O h => h B H σ (Same.refl _) (by rw [e]; exact O) Pin.refl
theorem sok_cont (e : C.Γl = Γ) : SOk K mg C Γ Γ' tCont .ct := fun B R H σ ρ D pw O h => h B H σ (Same.refl _) (by rw [e]; exact O) Pin.refl
def sIf (t : ER Bool) (f g : Env → Out) : Env → Out := fun ρ => (t ρ).out fun b ρ => match b with
  | true => f ρ
  | false => g ρ
theorem sok_if {tt : TT} {ft : ER Bool} (ag : C.ag Γ) (ht : TOk K mg C.W Γ tt ft) (ha : SOk K mg C Γ Γ' ts f) (hb : SOk K mg C Γ Γ' tu g) : SOk K mg C Γ Γ' (tIfS tt ts tu) (sIf ft f g) := by
  intro B R H σ ρ D pw O hl
  unfold sIf at hl
  refine ht B R H σ ρ _ pw O ?_
  cases e : ft ρ with
  | stuck => rw [e] at hl; exact hl
  | exc x ρ1 => rw [e] at hl; exact SLand.exc hl ag
  | ok b ρ1 =>
    rw [e] at hl
    intro B1 H1 s1 O1
    cases b with
    | true => rw [if_pos rfl]; exact ha B1 R H1 σ ρ1 D pw O1 (SLand.mono hl s1 Pin.refl)
    | false => rw [if_neg Bool.false_ne_true]; exact hb B1 R H1 σ ρ1 D pw O1 (SLand.mono hl s1 Pin.refl)
/-- the shapes of what holds nothing are changed -/
theorem sok_never : SOk K mg C Γ Γ' tNever (fun _ => .stuck) := fun _ _ _ _ _ _ _ _ h => h

/-! ### targets -/
def GOk (Γ Γ' : List Sh) (tv : List Nat) (g : TG) (gf : D → Env → Option Env) : Prop :=
  ∀ B R H σ ρ v d ρ' Q, Ok K Γ B R H σ ρ → Rep K B v d → gf d ρ = some ρ' → (∀ σ', Ok K Γ' B R H σ' ρ' → (∀ j, j ∉ tv → σ'[j]? = σ[j]?) → Q σ' H) → g v σ H Q
def gN (i : Nat) : D → Env → Option Env := fun d ρ => some (ρ.set i (some d))
theorem gok_name {i : Nat} : GOk (K := K) Γ (Γ.set i .pu) [i] (gName i) (gN i) := by
  intro B R H σ ρ v d ρ' Q O r e k
  cases e
  refine k _ ((O.pushP r).store i) fun j hj => ?_
  rw [List.getElem?_set_ne]
  rintro rfl; exact hj (by simp)
def GsOk (Γ Γ' : List Sh) (tv : List Nat) (g : TGs) (gf : List D → Env → Option Env) : Prop :=
  ∀ B R H σ ρ vs ds ρ' Q, Ok K Γ B R H σ ρ → Reps K B vs ds → gf ds ρ = some ρ' → (∀ σ', Ok K Γ' B R H σ' ρ' → (∀ j, j ∉ tv → σ'[j]? = σ[j]?) → Q σ' H) → g vs σ H Q
def gsNil : List D → Env → Option Env := fun ds ρ => match ds with
  | [] => some ρ
  | _ => none
def gsCons (g : D → Env → Option Env) (h : List D → Env → Option Env) : List D → Env → Option Env := fun ds ρ => match ds with
  | d :: r => (g d ρ).bind fun ρ => h r ρ
  | [] => none
theorem gsok_nil : GsOk (K := K) Γ Γ [] gNil gsNil := by
  intro B R H σ ρ vs ds ρ' Q O r e k
  cases r with
  | nil => cases e; exact ⟨rfl, k σ O fun _ _ => rfl⟩
  | cons _ _ => cases e
theorem gsok_cons {t1 t2 : List Nat} {g : TG} {gs : TGs} {gf : D → Env → Option Env} {gsf : List D → Env → Option Env} (h1 : GOk (K := K) Γ Γ1 t1 g gf) (h2 : GsOk (K := K) Γ1 Γ' t2 gs gsf) : GsOk (K := K) Γ Γ' (t1 ++ t2) (gCons g gs) (gsCons gf gsf) := by
  intro B R H σ ρ vs ds ρ' Q O r e k
  cases r with
  | nil => cases e
  | cons q r =>
    rename_i v d vs ds
    unfold gsCons at e
    dsimp only at e
    cases e1 : gf d ρ with
    | none => rw [e1] at e; cases e
    | some ρ1 =>
      rw [e1] at e
      refine ⟨v, vs, rfl, h1 B R H σ ρ v d ρ1 _ O q e1 fun σ1 O1 k1 => ?_⟩
      exact h2 B R H σ1 ρ1 vs ds ρ' Q O1 r e fun σ2 O2 k2 => k σ2 O2 fun j hj => (k2 j fun z => hj (List.mem_append_right _ z)).trans (k1 j fun z => hj (List.mem_append_left _ z))
def gT (n : Nat) (h : List D → Env → Option Env) : D → Env → Option Env := fun d ρ => match d with
  | .tup ds => if ds.length = n then h ds ρ else none
  | _ => none
theorem gok_tup {tv : List Nat} {gs : TGs} {gsf : List D → Env → Option Env} {n : Nat} (h : GsOk (K := K) Γ Γ' tv gs gsf) : GOk (K := K) Γ Γ' tv (gTup K n gs) (gT n gsf) := by
  intro B R H σ ρ v d ρ' Q O r e k
  cases r with
  | tup hq rr =>
    rename_i a vs ds
    unfold gT at e
    dsimp only at e
    by_cases hn : ds.length = n
    · rw [if_pos hn] at e
      exact ⟨a, vs, rfl, sameT O.sb hq, by rw [rr.length]; exact hn, h B R H σ ρ vs ds ρ' Q O rr e k⟩
    · rw [if_neg hn] at e; cases e
  | _ => cases e
def sAsg (f : ER D) (g : D → Env → Option Env) : Env → Out := fun ρ => (f ρ).out fun d ρ => match g d ρ with
  | some ρ => .nx ρ
  | none => .stuck
theorem sok_asg {g : TG} {gf : D → Env → Option Env} {tv : List Nat} (ag : C.ag Γ) (hp : ∀ i ∈ tv, i ∉ C.pn) (h : EOk K mg C.W Γ te .pu fe) (hg : GOk (K := K) Γ Γ' tv g gf) : SOk K mg C Γ Γ' (tAsg te g) (sAsg fe gf) := by
  intro B R H σ ρ D pw O hl
  unfold sAsg at hl
  refine h B R H σ ρ _ pw O ?_
  cases e : fe ρ with
  | stuck => rw [e] at hl; exact hl
  | exc x ρ1 => rw [e] at hl; exact SLand.exc hl ag
  | ok d ρ1 =>
    rw [e] at hl
    intro B' H' v sb O'
    simp only [Res.out] at hl
    cases e2 : gf d ρ1 with
    | none => rw [e2] at hl; exact hl.elim
    | some ρ2 =>
      rw [e2] at hl
      exact hg B' R H' σ ρ1 v d ρ2 _ O'.pop O'.top e2 fun σ' O2 k => hl B' H' σ' sb O2 fun i hi => k i fun z => hp i z hi
/-- a, b = e1, e2 -/
def sPar (i j : Nat) (f : ER (List D)) : Env → Out := fun ρ => (f ρ).out fun ds ρ => match ds with
  | [d, e] => .nx ((ρ.set i (some d)).set j (some e))
  | _ => .stuck
theorem sok_par {i j : Nat} {ta : TA} {fa : ER (List D)} (ag : C.ag Γ) (hi : i ∉ C.pn) (hj : j ∉ C.pn) (h : AOk K mg C.W Γ ta fa) : SOk K mg C Γ ((Γ.set i .pu).set j .pu) (tPar i j ta) (sPar i j fa) := by
  intro B R H σ ρ D pw O hl
  unfold sPar at hl
  refine h B R H σ ρ _ pw O ?_
  cases e : fa ρ with
  | stuck => rw [e] at hl; exact hl
  | exc x ρ1 => rw [e] at hl; exact SLand.exc hl ag
  | ok ds ρ1 =>
    rw [e] at hl
    intro B' H' vs sb O' r
    simp only [Res.out] at hl
    cases r with
    | nil => exact hl.elim
    | cons r1 r =>
      cases r with
      | nil => exact hl.elim
      | cons r2 r =>
        cases r with
        | cons _ _ => exact hl.elim
        | nil =>
          refine ⟨_, _, rfl, hl B' H' _ sb ((((O'.pushP r1).store i).pushP r2).store j) fun k hk => ?_⟩
          rw [List.getElem?_set_ne (by rintro rfl; exact hj hk), List.getElem?_set_ne (by rintro rfl; exact hi hk)]
/-- x op= e -/
def sAug (g : D → D → Option D) (i : Nat) (f : ER D) : Env → Out := fun ρ => (eVar i ρ).out fun d ρ => (f ρ).out fun e ρ => match g d e with
  | some o => .nx (ρ.set i (some o))
  | none => .stuck
theorem sok_aug {i : Nat} {r : R2} {g : D → D → Option D} (ag : C.ag Γ) (hi : i ∉ C.pn) (hs : Γ[i]? = some .pu) (hr : R2Ok K r s g) (h : EOk K mg C.W Γ te .pu fe) : SOk K mg C Γ (Γ.set i s) (tAug i te r) (sAug g i fe) := by
  intro B R H σ ρ D pw O hl
  unfold sAug eVar at hl
  cases e0 : ρ[i]? with
  | none => rw [e0] at hl; exact hl.elim
  | some o =>
    cases o with
    | none => rw [e0] at hl; exact hl.elim
    | some d =>
      rw [e0] at hl
      obtain ⟨v, h1, rv⟩ := O.get e0 hs
      refine ⟨v, h1, h B R H σ ρ _ pw O ?_⟩
      simp only [Res.out] at hl
      cases e : fe ρ with
      | stuck => rw [e] at hl; exact hl
      | exc x ρ1 => rw [e] at hl; exact SLand.exc hl ag
      | ok d2 ρ1 =>
        rw [e] at hl
        intro B' H' v2 sb O'
        simp only at hl
        cases e2 : g d d2 with
        | none => rw [e2] at hl; exact hl.elim
        | some o =>
          rw [e2] at hl
          refine hr Γ B' R H' σ ρ1 v v2 d d2 o _ O'.pop (rv.mono sb) O'.top e2 fun B3 H3 w s3 O3 => hl B3 H3 _ (sb.trans s3) (O3.store i) fun k hk => ?_
          rw [List.getElem?_set_ne (by rintro rfl; exact hi hk)]

/-! ### loops -/
structure Walks (K : PySem.W.Frag) (B : Hp) (J : It) (es : List D) : Prop where
  go : ∀ B2 H2, Same B B2 → Same B2 H2 → ∀ i, i < es.length → J.go i H2
  yld : ∀ B2 H2, Same B B2 → Same B2 H2 → ∀ i d x H3, es[i]? = some d → J.yld i H2 x H3 → ∃ B3, Same B2 B3 ∧ Same H2 H3 ∧ Same B3 H3 ∧ (∀ a o, B3 a = some o → B2 a = some o ∨ H2 a = none) ∧ Rep K B3 x d
  stop : ∀ B2 H2, Same B B2 → Same B2 H2 → ∀ i, es.length ≤ i → J.stop i H2
theorem Walks.mono {B B' : Hp} {J : It} {es : List D} (w : Walks K B J es) (sb : Same B B') : Walks K B' J es :=
  ⟨fun B2 H2 a => w.go B2 H2 (sb.trans a), fun B2 H2 a => w.yld B2 H2 (sb.trans a), fun B2 H2 a => w.stop B2 H2 (sb.trans a)⟩
def ILand (K : PySem.W.Frag) (mg : Mg) (W : Wc) (Γ : List Sh) (B R : Hp) (σ : L2.St) (Q : It → Hp → Prop) : Res (List D) → Prop
  | .ok es ρ => ∀ B' H' J, Same B B' → Ok K Γ B' R H' σ ρ → Walks K B' J es → Q J H'
  | .exc e ρ => XLand K mg W Γ B R σ e ρ
  | .stuck => False
def IOk (K : PySem.W.Frag) (mg : Mg) (W : Wc) (Γ : List Sh) (wi : TI) (f : ER (List D)) : Prop := ∀ B R H σ ρ Q, W.P R σ → Ok K Γ B R H σ ρ → ILand K mg W Γ B R σ Q (f ρ) → wi σ H Q
def forL (gf : D → Env → Option Env) (fb : Env → Out) : List D → Env → Out
  | [], ρ => .nx ρ
  | d :: es, ρ => match gf d ρ with
    | none => .stuck
    | some ρ1 => match fb ρ1 with
      | .nx ρ2 => forL gf fb es ρ2
      | .ct ρ2 => forL gf fb es ρ2
      | .bk ρ2 => .nx ρ2
      | o => o
def sFor (fi : ER (List D)) (gf : D → Env → Option Env) (fb : Env → Out) : Env → Out := fun ρ => (fi ρ).out fun es ρ => forL gf fb es ρ
theorem sok_for {wi : TI} {g : TG} {fi : ER (List D)} {gf : D → Env → Option Env} {tv : List Nat} (ag : C.ag Γ) (hp : ∀ i ∈ tv, i ∉ C.pn) (hi : IOk K mg C.W Γ wi fi) (hg : GOk (K := K) Γ Γ tv g gf) (hb : SOk K mg { C with Γl := Γ } Γ Γ ts f) :
    SOk K mg C Γ Γ (tFor wi g ts) (sFor fi gf f) := by
  intro B R H σ ρ D pw O hl
  unfold sFor at hl
  refine hi B R H σ ρ _ pw O ?_
  cases e : fi ρ with
  | stuck => rw [e] at hl; exact hl
  | exc x ρ1 => rw [e] at hl; exact SLand.exc hl ag
  | ok es ρ1 =>
    rw [e] at hl
    intro B1 H1 J s1 O1 wk
    refine ⟨fun i m σ' H' => m = es.length - i ∧ i ≤ es.length ∧ ∃ B' ρ', Same B1 B' ∧ Ok K Γ B' R H' σ' ρ' ∧ Pin C.pn σ σ' ∧ SLand K mg C Γ B' R σ' D (forL gf f (es.drop i) ρ'), ⟨es.length, by simp, Nat.zero_le _, B1, ρ1, Same.refl _, O1, Pin.refl, SLand.mono hl s1 Pin.refl⟩, ?_⟩
    rintro i m σ2 H2 ⟨rfl, hle, B2, ρ2, s2, O2, p2, l2⟩
    by_cases hlt : i < es.length
    · refine .inr ⟨wk.go B2 H2 s2 O2.sb i hlt, fun σ' H' => i < es.length ∧ ∃ B' ρ', Same B1 B' ∧ Ok K Γ B' R H' σ' ρ' ∧ Pin C.pn σ σ' ∧ SLand K mg C Γ B' R σ' D (forL gf f (es.drop (i + 1)) ρ'), fun σ' H' n => ⟨es.length - (i + 1), by omega, rfl, by omega, n.2⟩, fun x H3 y => ?_⟩
      obtain ⟨B3, sb3, sh3, sbh3, nw3, rx⟩ := wk.yld B2 H2 s2 O2.sb i es[i] x H3 (by simp [hlt]) y
      have O3 := O2.grow sb3 sh3 sbh3 nw3
      rw [List.drop_eq_getElem_cons hlt] at l2
      unfold forL at l2
      cases e2 : gf es[i] ρ2 with
      | none => rw [e2] at l2; exact l2.elim
      | some ρ3 =>
        rw [e2] at l2
        simp only at l2
        refine hg B3 R H3 σ2 ρ2 x _ ρ3 _ O3 rx e2 fun σ4 O4 k4 => ?_
        have p4 : Pin C.pn σ2 σ4 := fun j hj => k4 j fun z => hp j z hj
        refine hb B3 R H3 σ4 ρ3 _ (C.hP _ _ _ (p2.trans p4) pw) O4 ?_
        cases e3 : f ρ3 with
        | stuck => rw [e3] at l2; exact l2
        | nx ρ5 =>
          rw [e3] at l2
          exact fun B5 H5 σ5 sb5 O5 p5 => ⟨hlt, B5, ρ5, (s2.trans sb3).trans sb5, O5, (p2.trans p4).trans p5, SLand.mono l2 (sb3.trans sb5) (p4.trans p5)⟩
        | ct ρ5 =>
          rw [e3] at l2
          exact fun B5 H5 σ5 sb5 O5 p5 => ⟨hlt, B5, ρ5, (s2.trans sb3).trans sb5, O5, (p2.trans p4).trans p5, SLand.mono l2 (sb3.trans sb5) (p4.trans p5)⟩
        | bk ρ5 =>
          rw [e3] at l2
          exact fun B5 H5 σ5 sb5 O5 p5 => l2 B5 H5 σ5 (sb3.trans sb5) O5 (p4.trans p5)
        | rt d ρ5 =>
          rw [e3] at l2
          exact fun B5 H5 σ5 v Γ1 sb5 a O5 p5 => l2 B5 H5 σ5 v Γ1 (sb3.trans sb5) a O5 (p4.trans p5)
        | exc x ρ5 =>
          rw [e3] at l2
          exact fun B5 H5 σ5 cls p l Γ1 sb5 n a O5 p5 q => l2 B5 H5 σ5 cls p l Γ1 (sb3.trans sb5) n a O5 (p4.trans p5) q
    · have ei : i = es.length := by omega
      refine .inl ⟨wk.stop B2 H2 s2 O2.sb i (by omega), ?_⟩
      rw [ei, List.drop_length] at l2
      exact l2 B2 H2 σ2 (Same.refl _) O2 Pin.refl
def whileF (fc : ER Bool) (fb : Env → Out) : Nat → Env → Out
  | 0, _ => .stuck
  | n + 1, ρ => (fc ρ).out fun b ρ => match b with
    | false => .nx ρ
    | true => match fb ρ with
      | .nx ρ2 => whileF fc fb n ρ2
      | .ct ρ2 => whileF fc fb n ρ2
      | .bk ρ2 => .nx ρ2
      | o => o
def sWhile (fuel : Env → Nat) (fc : ER Bool) (fb : Env → Out) : Env → Out := fun ρ => whileF fc fb (fuel ρ) ρ
theorem sok_while {tc : TT} {fc : ER Bool} {fuel : Env → Nat} (ag : C.ag Γ) (hc : TOk K mg C.W Γ tc fc) (hb : SOk K mg { C with Γl := Γ } Γ Γ ts f) : SOk K mg C Γ Γ (tWhile tc ts) (sWhile fuel fc f) := by
  intro B R H σ ρ D pw O hl
  refine ⟨fun m σ' H' => ∃ B' ρ', Same B B' ∧ Ok K Γ B' R H' σ' ρ' ∧ Pin C.pn σ σ' ∧ SLand K mg C Γ B' R σ' D (whileF fc f m ρ'), ⟨fuel ρ, B, ρ, Same.refl _, O, Pin.refl, hl⟩, ?_⟩
  rintro m σ2 H2 ⟨B2, ρ2, s2, O2, p2, l2⟩
  cases m with
  | zero => exact l2.elim
  | succ m =>
    unfold whileF at l2
    refine hc B2 R H2 σ2 ρ2 _ (C.hP _ _ _ p2 pw) O2 ?_
    cases e : fc ρ2 with
    | stuck => rw [e] at l2; exact l2
    | exc x ρ3 => rw [e] at l2; exact SLand.exc l2 ag
    | ok b ρ3 =>
      rw [e] at l2
      intro B3 H3 s3 O3
      cases b with
      | false => rw [if_neg Bool.false_ne_true]; exact l2 B3 H3 σ2 s3 O3 Pin.refl
      | true =>
        rw [if_pos rfl]
        refine ⟨fun σ' H' => ∃ B' ρ', Same B B' ∧ Ok K Γ B' R H' σ' ρ' ∧ Pin C.pn σ σ' ∧ SLand K mg C Γ B' R σ' D (whileF fc f m ρ'), fun σ' H' n => ⟨m, Nat.lt_succ_self _, n⟩, ?_⟩
        simp only [Res.out] at l2
        refine hb B3 R H3 σ2 ρ3 _ (C.hP _ _ _ p2 pw) O3 ?_
        cases e3 : f ρ3 with
        | stuck => rw [e3] at l2; exact l2
        | nx ρ5 =>
          rw [e3] at l2
          exact fun B5 H5 σ5 sb5 O5 p5 => ⟨B5, ρ5, (s2.trans s3).trans sb5, O5, p2.trans p5, SLand.mono l2 (s3.trans sb5) p5⟩
        | ct ρ5 =>
          rw [e3] at l2
          exact fun B5 H5 σ5 sb5 O5 p5 => ⟨B5, ρ5, (s2.trans s3).trans sb5, O5, p2.trans p5, SLand.mono l2 (s3.trans sb5) p5⟩
        | bk ρ5 => rw [e3] at l2; exact fun B5 H5 σ5 sb5 O5 p5 => l2 B5 H5 σ5 (s3.trans sb5) O5 p5
        | rt d ρ5 => rw [e3] at l2; exact fun B5 H5 σ5 v Γ1 sb5 a O5 p5 => l2 B5 H5 σ5 v Γ1 (s3.trans sb5) a O5 p5
        | exc x ρ5 => rw [e3] at l2; exact fun B5 H5 σ5 cls p l Γ1 sb5 n a O5 p5 q => l2 B5 H5 σ5 cls p l Γ1 (s3.trans sb5) n a O5 p5 q
end
end DL
namespace DL
open PySem L2

inductive FRes where
  | ret (d : D) (outs : Env) | exc (e : Ex) (outs : Env) | stuck
abbrev Den := List D → FRes
/-- what is left of the first parameters, in the parameters' places -/
def plug (n : Nat) (outs : Env) : Env := outs ++ List.replicate (n - outs.length) none
def toF (k : Nat) (o : Out) : FRes := match o with
  | .rt d ρ => .ret d (ρ.take k)
  | .nx ρ => .ret .non (ρ.take k)
  | .exc e ρ => .exc e (ρ.take k)
  | _ => .stuck
def mkF (N k : Nat) (fb : Env → Out) : Den := fun ds => toF k (fb (ds.map some ++ List.replicate (N - ds.length) none))
section
variable (K : PySem.W.Frag) (mg : Mg)
def FLand (Γp : List Sh) (sr : Sh) (B R : Hp) (vs : List V) (Q : VK) (E : XK) : FRes → Prop
  | .ret d outs => ∀ B' H' v, Same B B' → Ok K (sr :: Γp) B' R H' (some v :: vs.map some) (some d :: plug Γp.length outs) → Q v H'
  | .exc e outs => ∀ B' H' cls p l, Same B B' → R p = none → Ok K Γp B' (upd R p (.xd l)) H' (vs.map some) (plug Γp.length outs) → ExR K mg B' e cls l → E cls (some p) H'
  | .stuck => False
/-- the promise of a def that reckons f -/
def spD (Γp : List Sh) (sr : Sh) (f : Den) : Sp := fun vs H Q E => ∃ B R ds, Ok K Γp B R H (vs.map some) (ds.map some) ∧ FLand K mg Γp sr B R vs Q E (f ds)
end
section
variable {K : PySem.W.Frag} {mg : Mg} {Γ Γp : List Sh} {sr : Sh}
theorem spD_len {f : Den} {vs : List V} {H : Hp} {Q : VK} {E : XK} (h : spD K mg Γp sr f vs H Q E) : vs.length = Γp.length := by
  obtain ⟨B, R, ds, O, _⟩ := h
  simpa using O.lσ
/-- the state of a def's body: k first parameters are the caller's own -/
def cfF (E : XK) (Γp : List Sh) (sr : Sh) (n k : Nat) : Cf := { W := ⟨fun cls d _ H => E cls d H, fun _ _ => True, fun _ _ _ _ _ => trivial⟩, hP := fun _ _ _ _ _ => trivial, Γl := [], sr := sr, pn := List.range k, ag := fun Γ1 => Γ1.length = n ∧ Γ1.take k = Γp.take k }
theorem getElem?_take_eq {α : Type} {l : List α} {k i : Nat} (h : i < k) : (l.take k)[i]? = l[i]? := by
  rw [List.getElem?_take]; simp [h]
theorem Ok.shorten {Γ1 : List Sh} {B R H : Hp} {σ : L2.St} {ρ : Env} {v : V} {d : D} {vs : List V} {k : Nat} (hk : k ≤ Γp.length) (hv : vs.length = Γp.length) (ag : Γ1.take k = Γp.take k) (lN : Γp.length ≤ Γ1.length)
    (pin : ∀ i, i < k → σ[i]? = (vs.map some)[i]?) (O : Ok K Γ1 B R H σ ρ) : Ok K Γp B R H (vs.map some) (plug Γp.length (ρ.take k)) := by
  obtain ⟨F, W⟩ := O.own
  have lρ := O.lρ
  have lt : (ρ.take k).length = k := by rw [List.length_take]; omega
  have at_ : ∀ i d, (plug Γp.length (ρ.take k))[i]? = some (some d) → i < k ∧ ρ[i]? = some (some d) := fun i d h => by
    unfold plug at h
    by_cases hi : i < k
    · rw [List.getElem?_append_left (by omega), getElem?_take_eq hi] at h
      exact ⟨hi, h⟩
    · rw [List.getElem?_append_right (by omega), List.getElem?_replicate] at h
      split at h <;> cases h
  refine ⟨O.sb, O.sr, by simp [hv], by unfold plug; simp [lt]; omega, O.br, F, ⟨fun i d s h hs => ?_, W.no, W.nd, W.dj⟩⟩
  obtain ⟨hi, h2⟩ := at_ i d h
  rw [← pin i hi]
  refine W.at_ i d s h2 ?_
  rw [← getElem?_take_eq hi, ag, getElem?_take_eq hi]
  exact hs
theorem Ok.shortenV {Γ1 : List Sh} {B R H : Hp} {σ : L2.St} {ρ : Env} {v : V} {d : D} {vs : List V} {k : Nat} (hk : k ≤ Γp.length) (hv : vs.length = Γp.length) (ag : Γ1.take k = Γp.take k) (lN : Γp.length ≤ Γ1.length)
    (pin : ∀ i, i < k → σ[i]? = (vs.map some)[i]?) (O : Ok K (sr :: Γ1) B R H (some v :: σ) (some d :: ρ)) : Ok K (sr :: Γp) B R H (some v :: vs.map some) (some d :: plug Γp.length (ρ.take k)) := by
  have h := Ok.shorten (Γp := sr :: Γp) (vs := v :: vs) (k := k + 1) (v := v) (d := d) (by simpa using hk) (by simpa using hv) (by simpa using ag) (by simpa using lN) (fun i hi => by
    cases i with
    | zero => rfl
    | succ i => simpa using pin i (by omega)) O
  have e : plug (sr :: Γp).length ((some d :: ρ).take (k + 1)) = some d :: plug Γp.length (ρ.take k) := by
    unfold plug
    simp
  rw [e] at h
  exact h
/-- A DEF's BODY: what it reckons is what it promises -/
theorem fn_body {N : List Str} {k : Nat} {Γi Γ' : List Sh} {t : TS} {fb : Env → Out} {vs : List V} {H : Hp} {Q : VK} {E : XK} (hk : k ≤ Γp.length) (hN : Γp.length + Γi.length = N.length) (hr : sr = .pu ∨ ∀ ρ ρ', fb ρ ≠ .nx ρ')
    (hn : Γ'.length = N.length ∧ Γ'.take k = Γp.take k)
    (hb : SOk K mg (cfF E Γp sr N.length k) (Γp ++ Γi) Γ' t fb) (h : spD K mg Γp sr (mkF N.length k fb) vs H Q E) :
    t { nx := fun _ H' => Q .non H', rt := Q } (L2.start N vs) H := by
  have hv := spD_len h
  obtain ⟨B, R, ds, O, h⟩ := h
  have hd : ds.length = Γp.length := by simpa using O.lρ
  have O0 : Ok K (Γp ++ Γi) B R H (L2.start N vs) (ds.map some ++ List.replicate (N.length - ds.length) none) := by
    obtain ⟨F, W⟩ := O.own
    refine ⟨O.sb, O.sr, by simp [L2.start, hv]; omega, by simp [hd]; omega, O.br, F, ⟨fun i d s h hs => ?_, W.no, W.nd, W.dj⟩⟩
    by_cases hi : i < Γp.length
    · rw [List.getElem?_append_left (by simpa [hd] using hi)] at h
      rw [List.getElem?_append_left hi] at hs
      obtain ⟨v, h1, h2⟩ := W.at_ i d s h hs
      refine ⟨v, ?_, h2⟩
      unfold L2.start
      rw [List.getElem?_append_left (by simpa [hv] using hi)]
      exact h1
    · rw [List.getElem?_append_right (by simp; omega), List.getElem?_replicate] at h
      split at h <;> cases h
  have pin0 : ∀ i, i < k → (L2.start N vs)[i]? = (vs.map some)[i]? := fun i hi => by
    unfold L2.start
    rw [List.getElem?_append_left (by simp; omega)]
  refine hb B R H _ _ _ trivial O0 ?_
  unfold mkF at h
  cases e : fb (ds.map some ++ List.replicate (N.length - ds.length) none) with
  | stuck => rw [e] at h; exact h
  | bk ρ => rw [e] at h; exact h.elim
  | ct ρ => rw [e] at h; exact h.elim
  | nx ρ =>
    rw [e] at h
    rcases hr with hr | hr
    · subst hr
      intro B' H' σ' sb O' p
      refine h B' H' .non sb ?_
      exact Ok.shortenV hk hv hn.2 (by omega) (fun i hi => (p i (List.mem_range.mpr hi)).trans (pin0 i hi)) (O'.pushP .non)
    · exact absurd e (hr _ _)
  | rt d ρ =>
    rw [e] at h
    intro B' H' σ' v Γ1 sb ag O' p
    exact h B' H' v sb (Ok.shortenV hk hv ag.2 (by have := ag.1; omega) (fun i hi => (p i (List.mem_range.mpr hi)).trans (pin0 i hi)) O')
  | exc x ρ =>
    rw [e] at h
    intro B' H' σ' cls p' l Γ1 sb n ag O' p q
    exact h B' H' cls p' l sb n (Ok.shorten (v := .non) (d := .non) hk hv ag.2 (by have := ag.1; omega) (fun i hi => (p i (List.mem_range.mpr hi)).trans (pin0 i hi)) O') q

/-! ### calls -/
/-- f(..): all arguments pure; n their number -/
def eCall (n : Nat) (f : Den) (fa : ER (List D)) : ER D := fun ρ => (fa ρ).bind fun ds ρ => if ds.length = n then (match f ds with
  | .ret d _ => .ok d ρ
  | .exc e _ => .exc e ρ
  | .stuck => .stuck) else .stuck
/-- what the caller bears lies beside -/
theorem Ok.callee {B R H : Hp} {σ : L2.St} {ρ : Env} {vs : List V} {ds : List D} (O : Ok K Γ B R H σ ρ) (r : Reps K B vs ds) :
    ∃ Rc : Hp, (∀ a, Rc a = if B a = none then H a else none) ∧ Ok K (List.replicate ds.length .pu) B Rc H (vs.map some) (ds.map some) := by
  refine ⟨fun a => if B a = none then H a else none, fun _ => rfl, O.sb, fun a o e => ?_, by simp [r.length], by simp, fun p o e => ?_, fun _ => [], ⟨fun i d s h hs => ?_, fun i p hp => absurd hp (by simp), fun _ => List.nodup_nil, fun i j p hp => absurd hp (by simp)⟩⟩
  · split at e
    · exact e
    · cases e
  · split at e
    · assumption
    · cases e
  · rw [List.getElem?_replicate] at hs
    split at hs
    · cases hs
      rw [List.getElem?_map] at h
      cases q : ds[i]? with
      | none => rw [q] at h; cases h
      | some d' =>
        rw [q] at h; cases h
        obtain ⟨v, h1, h2⟩ := r.get q
        exact ⟨v, by rw [List.getElem?_map, h1]; rfl, h2, rfl⟩
    · cases hs
/-- behind the call -/
theorem Ok.after {B B' R Rc H H' : Hp} {σ : L2.St} {ρ : Env} (O : Ok K Γ B R H σ ρ) (hc : ∀ a, Rc a = if B a = none then H a else none) (sb : Same B B') (sbh : Same B' H') (src : Same Rc H') (br : ∀ p o, Rc p = some o → B' p = none) :
    Same H H' ∧ Ok K Γ B' R H' σ ρ := by
  have sh : Same H H' := fun a o e => by
    cases q : B a with
    | none => exact src a o (by rw [hc, if_pos q]; exact e)
    | some u =>
      have e2 := O.sb a u q
      rw [e] at e2; cases e2
      exact sbh a o (sb a o q)
  refine ⟨sh, O.grow sb sh sbh fun a o e => ?_⟩
  cases q : B a with
  | some u => left; rw [sb a u q] at e; exact e
  | none =>
    right
    cases z : H a with
    | none => rfl
    | some u =>
      have := br a u (by rw [hc, if_pos q]; exact z)
      rw [this] at e; cases e
theorem eok_call {W : Wc} {f : Den} {n : Nat} {ta : TA} {fa : ER (List D)} (ha : AOk K mg W Γ ta fa) : EOk K mg W Γ (tCallS (spD K mg (List.replicate n .pu) sr f) (WE W.W) ta) sr (eCall n f fa) := by
  intro B R H σ ρ Q pw O hl
  unfold eCall at hl
  refine ha B R H σ ρ _ pw O ?_
  cases e1 : fa ρ with
  | stuck => rw [e1] at hl; exact hl
  | exc x ρ1 => rw [e1] at hl; exact hl
  | ok ds ρ1 =>
    rw [e1] at hl
    intro B1 H1 vs s1 O1 r1
    simp only [Res.bind] at hl
    by_cases hn : ds.length = n
    · rw [if_pos hn] at hl
      obtain ⟨Rc, hc, Oc⟩ := O1.callee r1
      rw [hn] at Oc
      refine ⟨B1, Rc, ds, Oc, ?_⟩
      cases e : f ds with
      | stuck => rw [e] at hl; exact hl
      | ret d outs =>
        rw [e] at hl
        intro B2 H2 v s2 O2
        obtain ⟨sh, O3⟩ := O1.after hc s2 O2.sb O2.sr O2.br
        obtain ⟨Fc, Wc⟩ := O2.own
        obtain ⟨F3, W3⟩ := O1.own
        refine hl B2 H2 v (s1.trans s2) ?_
        obtain ⟨v', h1, h2⟩ := Wc.at_ 0 d sr rfl rfl
        cases h1
        obtain ⟨_, O4⟩ := O1.after hc s2 O2.sb O2.sr O2.br
        have W4 : Feet K Γ B2 R H2 σ ρ1 F3 := by
          refine ⟨fun i d s h hs => ?_, fun i p hp => ?_, W3.nd, W3.dj⟩
          · obtain ⟨v, h1, h2⟩ := W3.at_ i d s h hs
            exact ⟨v, h1, h2.mono s2 sh⟩
          · obtain ⟨n1, n2, n3⟩ := W3.no i p hp
            cases z : H1 p with
            | none => exact absurd z n1
            | some u =>
              have q := hc p
              rw [if_pos n2, z] at q
              exact ⟨by rw [sh p u z]; simp, O2.br p u q, n3⟩
        refine Ok.pushO O4.br O4.sb O4.sr O4.lσ O4.lρ W4 h2 (Wc.nd 0) fun p hp => ?_
        obtain ⟨m1, m2, m3⟩ := Wc.no 0 p hp
        have hp0 : ∀ u, H1 p = some u → False := fun u z => by
          have q := hc p
          cases zb : B1 p with
          | none => rw [if_pos zb, z, m3] at q; cases q
          | some w => rw [s2 p w zb] at m2; cases m2
        refine ⟨m1, m2, ?_, fun i hi => ?_⟩
        · cases z : R p with
          | none => rfl
          | some u => exact (hp0 u (O1.sr p u z)).elim
        · obtain ⟨k1, _, _⟩ := W3.no i p hi
          cases z : H1 p with
          | none => exact k1 z
          | some u => exact hp0 u z
      | exc x outs =>
        rw [e] at hl
        intro B2 H2 cls p l s2 np O2 q
        have hBp : B2 p = none := O2.br p _ upd_same
        have hHp : H2 p = some (.xd l) := O2.sr p _ upd_same
        have nB : B1 p = none := s2.free hBp
        have nH : H1 p = none := by have z := hc p; rw [if_pos nB, np] at z; exact z.symm
        have le : Same Rc (upd Rc p (.xd l)) := fun a u e => by rw [upd_ne (fun z => by subst z; rw [np] at e; cases e)]; exact e
        have O2' := O2.weakR le
        obtain ⟨sh, O3⟩ := O1.after hc s2 O2'.sb O2'.sr O2'.br
        obtain ⟨F3, W3⟩ := O1.own
        have W4 : Feet K Γ B2 R H2 σ ρ1 F3 := by
          refine ⟨fun i d s h hs => ?_, fun i p hp => ?_, W3.nd, W3.dj⟩
          · obtain ⟨v, h1, h2⟩ := W3.at_ i d s h hs
            exact ⟨v, h1, h2.mono s2 sh⟩
          · obtain ⟨n1, n2, n3⟩ := W3.no i p hp
            cases z : H1 p with
            | none => exact absurd z n1
            | some u =>
              have q := hc p
              rw [if_pos n2, z] at q
              exact ⟨by rw [sh p u z]; simp, O2'.br p u q, n3⟩
        exact hl B2 H2 cls p l (s1.trans s2) (O1.sr.free nH) (O3.addR W4 (fun i hi => (W3.no i p hi).1 nH) hHp hBp) q
    · rw [if_neg hn] at hl; exact hl.elim
/-- f(x, ..), x a name whose own thing the def may change -/
def eCallO (i n : Nat) (f : Den) (fa : ER (List D)) : ER D := fun ρ => match ρ[i]? with
  | some (some _) => (fa ρ).bind fun ds ρ => match ρ[i]? with
    | some (some d0) => if ds.length = n then (match f (d0 :: ds) with
      | .ret d outs => .ok d (ρ.set i outs.head?.join)
      | .exc e outs => .exc e (ρ.set i outs.head?.join)
      | .stuck => .stuck) else .stuck
    | _ => .stuck
  | _ => .stuck
theorem plug1 {n : Nat} {outs : Env} (i : Nat) {d : D} (h : (plug (n + 1) outs)[0]? = some (some d)) : outs.head?.join = some d := by
  unfold plug at h
  cases outs with
  | nil => simp at h
  | cons o r => simp at h; subst h; rfl
theorem feet_call {B B' R Rc H H' : Hp} {σ : L2.St} {ρ : Env} {F Fc : Nat → List Addr} {i : Nat} {s0 : Sh} {v0 : V} {o : Option D} {base : Nat} {Γc : List Sh} {σc : L2.St} {ρc : Env}
    (O : Ok K Γ B R H σ ρ) (W : Feet K Γ B R H σ ρ F) (hi : Γ[i]? = some s0) (hv : σ[i]? = some (some v0)) (hc : ∀ a, Rc a = if B a = none ∧ a ∉ F i then H a else none)
    (sb : Same B B') (sbh : Same B' H') (src : Same Rc H') (br : ∀ p o, Rc p = some o → B' p = none) (Wc : Feet K Γc B' Rc H' σc ρc Fc)
    (ho : ∀ d, o = some d → Own K B' H' s0 v0 d (Fc base)) :
    Ok K Γ B' R H' σ (ρ.set i o) ∧ Feet K Γ B' R H' σ (ρ.set i o) (fun j => if j = i then (if o.isSome then Fc base else []) else F j) ∧ ∀ b p, p ∈ Fc b → H' p ≠ none ∧ B' p = none ∧ R p = none ∧ ∀ j, j ≠ i → p ∉ F j := by
  have lB : ∀ p, B' p = none → B p = none := fun p h => by
    cases q : B p with
    | none => rfl
    | some u => rw [sb p u q] at h; cases h
  have keepF : ∀ j, j ≠ i → ∀ p ∈ F j, ∀ u, H p = some u → Rc p = some u := fun j hj p hp u hu => by
    rw [hc, if_pos ⟨(W.no j p hp).2.1, fun z => hj (W.dj j i p hp z)⟩]; exact hu
  have facts : ∀ b p, p ∈ Fc b → H' p ≠ none ∧ B' p = none ∧ R p = none ∧ ∀ j, j ≠ i → p ∉ F j := fun b p hp => by
    obtain ⟨m1, m2, m3⟩ := Wc.no b p hp
    refine ⟨m1, m2, ?_, fun j hj hpj => ?_⟩
    · cases z : R p with
      | none => rfl
      | some u =>
        have hH := O.sr p u z
        have nF : p ∉ F i := fun q => by rw [(W.no i p q).2.2] at z; cases z
        have q := hc p
        rw [if_pos ⟨lB p m2, nF⟩, hH, m3] at q
        cases q
    · cases z : H p with
      | none => exact (W.no j p hpj).1 z
      | some u => rw [keepF j hj p hpj u z] at m3; cases m3
  have li : i < Γ.length := (List.getElem?_eq_some_iff.mp hi).1
  have WW : Feet K Γ B' R H' σ (ρ.set i o) (fun j => if j = i then (if o.isSome then Fc base else []) else F j) := by
    refine ⟨fun j d s h hs => ?_, fun j p hp => ?_, fun j => ?_, fun j k p h1 h2 => ?_⟩
    · by_cases hj : j = i
      · subst hj
        rw [List.getElem?_set_self (by rw [O.lρ]; exact li)] at h
        cases h
        rw [hi] at hs; cases hs
        exact ⟨v0, hv, by simpa using ho d rfl⟩
      · rw [List.getElem?_set_ne (Ne.symm hj)] at h
        obtain ⟨v, h1, h2⟩ := W.at_ j d s h hs
        simp only [hj, if_false]
        exact ⟨v, h1, h2.at sb fun p hp u hu => src p u (keepF j hj p hp u hu)⟩
    · split at hp
      · split at hp
        · obtain ⟨a, b, c, _⟩ := facts base p hp; exact ⟨a, b, c⟩
        · exact absurd hp (by simp)
      · rename_i hj
        obtain ⟨n1, n2, n3⟩ := W.no j p hp
        cases z : H p with
        | none => exact absurd z n1
        | some u =>
          have q := keepF j hj p hp u z
          exact ⟨by rw [src p u q]; simp, br p u q, n3⟩
    · split
      · split
        · exact Wc.nd _
        · exact List.nodup_nil
      · exact W.nd _
    · split at h1 <;> split at h2
      · omega
      · split at h1
        · exact absurd h2 ((facts base p h1).2.2.2 k (by assumption))
        · exact absurd h1 (by simp)
      · split at h2
        · exact absurd h1 ((facts base p h2).2.2.2 j (by assumption))
        · exact absurd h2 (by simp)
      · exact W.dj _ _ p h1 h2
  refine ⟨⟨sbh, fun a u e => ?_, O.lσ, by simp [O.lρ], fun p u e => ?_, _, WW⟩, WW, facts⟩
  · have hH := O.sr a u e
    have nF : a ∉ F i := fun q => by rw [(W.no i a q).2.2] at e; cases e
    exact src a u (by rw [hc, if_pos ⟨O.br a u e, nF⟩]; exact hH)
  · have hH := O.sr p u e
    have nF : p ∉ F i := fun q => by rw [(W.no i p q).2.2] at e; cases e
    exact br p u (by rw [hc, if_pos ⟨O.br p u e, nF⟩]; exact hH)
theorem eok_callO {W : Wc} {f : Den} {i n : Nat} {s0 : Sh} {ta : TA} {fa : ER (List D)} (hi : Γ[i]? = some s0) (ha : AOk K mg W Γ ta fa) :
    EOk K mg W Γ (tCallS (spD K mg (s0 :: List.replicate n .pu) sr f) (WE W.W) (tCons (tVar i) ta)) sr (eCallO i n f fa) := by
  intro B R H σ ρ Q pw O hl
  unfold eCallO at hl
  split at hl
  · rename_i dz hz
    obtain ⟨Fz, Wz⟩ := O.own
    obtain ⟨v0, hv, _⟩ := Wz.at_ i dz s0 hz hi
    refine ⟨v0, hv, ha B R H σ ρ _ pw O ?_⟩
    cases e1 : fa ρ with
    | stuck => rw [e1] at hl; exact hl
    | exc x ρ1 => rw [e1] at hl; exact hl
    | ok ds ρ1 =>
      rw [e1] at hl
      intro B1 H1 vs s1 O1 r1
      simp only [Res.bind] at hl
      split at hl
      · rename_i d0 hd0
        by_cases hn : ds.length = n
        · rw [if_pos hn] at hl
          obtain ⟨F, W1⟩ := O1.own
          obtain ⟨v0', hv', own0⟩ := W1.at_ i d0 s0 hd0 hi
          rw [hv] at hv'; cases hv'
          let Rc : Hp := fun a => if B1 a = none ∧ a ∉ F i then H1 a else none
          have hc : ∀ a, Rc a = if B1 a = none ∧ a ∉ F i then H1 a else none := fun _ => rfl
          have Oc : Ok K (s0 :: List.replicate n .pu) B1 Rc H1 ((v0 :: vs).map some) ((d0 :: ds).map some) := by
            refine ⟨O1.sb, fun a o e => ?_, by simp [r1.length, hn], by simp [hn], fun p o e => ?_, fun j => match j with | 0 => F i | _ + 1 => [], ⟨fun j d s h hs => ?_, fun j p hp => ?_, fun j => ?_, fun j k p h1 h2 => ?_⟩⟩
            · rw [hc] at e; split at e; exact e; cases e
            · rw [hc] at e; split at e; rename_i z; exact z.1; cases e
            · cases j with
              | zero => simp at h hs; subst h hs; exact ⟨v0, rfl, own0⟩
              | succ j =>
                have hs : (List.replicate n Sh.pu)[j]? = some s := by simpa using hs
                rw [List.getElem?_replicate] at hs
                split at hs
                · cases hs
                  have h : (ds.map some)[j]? = some (some d) := by simpa using h
                  rw [List.getElem?_map] at h
                  cases q : ds[j]? with
                  | none => rw [q] at h; cases h
                  | some d' =>
                    rw [q] at h; cases h
                    obtain ⟨v, h1, h2⟩ := r1.get q
                    exact ⟨v, by simp [h1], h2, rfl⟩
                · cases hs
            · cases j with
              | zero =>
                obtain ⟨n1, n2, _⟩ := W1.no i p hp
                exact ⟨n1, n2, by rw [hc, if_neg (fun z => z.2 hp)]⟩
              | succ j => exact absurd hp (by simp)
            · cases j with
              | zero => exact W1.nd i
              | succ j => exact List.nodup_nil
            · cases j with
              | zero =>
                cases k with
                | zero => rfl
                | succ k => exact absurd h2 (by simp)
              | succ j => exact absurd h1 (by simp)
          refine ⟨B1, Rc, d0 :: ds, Oc, ?_⟩
          cases e : f (d0 :: ds) with
          | stuck => rw [e] at hl; exact hl
          | ret d outs =>
            rw [e] at hl
            intro B2 H2 v s2 O2
            obtain ⟨Fc, Wc⟩ := O2.own
            have ho : ∀ d1, outs.head?.join = some d1 → Own K B2 H2 s0 v0 d1 (Fc 1) := fun d1 hd1 => by
              have e0 : (plug (s0 :: List.replicate n Sh.pu).length outs)[0]? = some (some d1) := by
                unfold plug
                cases outs with
                | nil => cases hd1
                | cons o r => simp at hd1 ⊢; exact hd1
              obtain ⟨v', h1, h2⟩ := Wc.at_ 1 d1 s0 (by simpa using e0) rfl
              have : v' = v0 := by simpa using h1.symm
              subst this; exact h2
            obtain ⟨O4, W4, facts⟩ := feet_call (i := i) (base := 1) O1 W1 hi hv hc s2 O2.sb O2.sr O2.br Wc ho
            refine hl B2 H2 v (s1.trans s2) ?_
            obtain ⟨v', h1, h2⟩ := Wc.at_ 0 d sr rfl rfl
            cases h1
            refine Ok.pushO O4.br O4.sb O4.sr O4.lσ O4.lρ W4 h2 (Wc.nd 0) fun p hp => ?_
            obtain ⟨a, b, c, e⟩ := facts 0 p hp
            refine ⟨a, b, c, fun j hj => ?_⟩
            split at hj
            · split at hj
              · have := Wc.dj _ _ p hp hj; omega
              · exact absurd hj (by simp)
            · exact e j (by assumption) hj
          | exc x outs =>
            rw [e] at hl
            intro B2 H2 cls p l s2 np O2 q
            have hBp : B2 p = none := O2.br p _ upd_same
            have hHp : H2 p = some (.xd l) := O2.sr p _ upd_same
            have nB : B1 p = none := s2.free hBp
            have le : Same Rc (upd Rc p (.xd l)) := fun a u e => by rw [upd_ne (fun z => by subst z; rw [np] at e; cases e)]; exact e
            obtain ⟨Fc, Wc0⟩ := O2.own
            have npc : ∀ b, p ∉ Fc b := fun b z => by have := (Wc0.no b p z).2.2; rw [upd_same] at this; cases this
            have Wc : Feet K (s0 :: List.replicate n .pu) B2 Rc H2 ((v0 :: vs).map some) (plug (s0 :: List.replicate n Sh.pu).length outs) Fc :=
              ⟨Wc0.at_, fun b q hq => ⟨(Wc0.no b q hq).1, (Wc0.no b q hq).2.1, le.free (Wc0.no b q hq).2.2⟩, Wc0.nd, Wc0.dj⟩
            have O2' := O2.weakR le
            have ho : ∀ d1, outs.head?.join = some d1 → Own K B2 H2 s0 v0 d1 (Fc 0) := fun d1 hd1 => by
              have e0 : (plug (s0 :: List.replicate n Sh.pu).length outs)[0]? = some (some d1) := by
                unfold plug
                cases outs with
                | nil => cases hd1
                | cons o r => simp at hd1 ⊢; exact hd1
              obtain ⟨v', h1, h2⟩ := Wc.at_ 0 d1 s0 e0 rfl
              have : v' = v0 := by simpa using h1.symm
              subst this; exact h2
            obtain ⟨O4, W4, _⟩ := feet_call (i := i) (base := 0) O1 W1 hi hv hc s2 O2'.sb O2'.sr O2'.br Wc ho
            have cs : p ∈ F i ∨ H1 p = none := by
              by_cases z : p ∈ F i
              · exact .inl z
              · have q' := hc p
                rw [if_pos ⟨nB, z⟩, np] at q'
                exact .inr q'.symm
            have nR : R p = none := by
              rcases cs with z | z
              · exact (W1.no i p z).2.2
              · exact O1.sr.free z
            refine hl B2 H2 cls p l (s1.trans s2) nR (O4.addR W4 (fun j hj => ?_) hHp hBp) q
            split at hj
            · split at hj
              · exact npc 0 hj
              · exact absurd hj (by simp)
            · rename_i hji
              rcases cs with z | z
              · exact hji (W1.dj j i p hj z)
              · exact (W1.no j p hj).1 z
        · rw [if_neg hn] at hl; exact hl.elim
      · exact hl.elim
  · exact hl.elim
end
end DL
namespace DL
open PySem L2
/-- nothing may be raised -/
abbrev w0 (W : Wc) : Wc := ⟨fun _ _ _ _ => False, fun _ _ => True, fun _ _ _ _ _ => trivial⟩
section
variable {K : PySem.W.Frag} {mg : Mg} {W : Wc} {Γ : List Sh}
/-! ### what is walked -/
theorem walk_list {B : Hp} {a : Addr} {vs : List V} {ds : List D} (h : SqL K B a vs) (r : Reps K B vs ds) : Walks K B (Itl K a) ds where
  go := fun B2 H2 s1 s2 i hi => by
    have hl := r.length
    exact ⟨vs, vs[i]'(by omega), s2.seq (s1.seq h), List.getElem?_eq_getElem (by omega)⟩
  yld := fun B2 H2 s1 s2 i d x H3 e y => by
    obtain ⟨rfl, y⟩ := y
    obtain ⟨v, h1, h2⟩ := r.get e
    have := y vs (s2.seq (s1.seq h))
    rw [h1] at this; cases this
    exact ⟨B2, Same.refl _, Same.refl _, s2, fun _ _ q => .inl q, h2.mono s1⟩
  stop := fun B2 H2 s1 s2 i hi => ⟨vs, s2.seq (s1.seq h), by rw [r.length]; exact hi⟩
theorem walk_tup {B : Hp} {a : Addr} {vs : List V} {ds : List D} (h : SqT K B a vs) (r : Reps K B vs ds) : Walks K B (Itt K a) ds where
  go := fun B2 H2 s1 s2 i hi => by
    have hl := r.length
    exact ⟨vs, vs[i]'(by omega), sameT s2 (sameT s1 h), List.getElem?_eq_getElem (by omega)⟩
  yld := fun B2 H2 s1 s2 i d x H3 e y => by
    obtain ⟨rfl, y⟩ := y
    obtain ⟨v, h1, h2⟩ := r.get e
    have := y vs (sameT s2 (sameT s1 h))
    rw [h1] at this; cases this
    exact ⟨B2, Same.refl _, Same.refl _, s2, fun _ _ q => .inl q, h2.mono s1⟩
  stop := fun B2 H2 s1 s2 i hi => ⟨vs, sameT s2 (sameT s1 h), by rw [r.length]; exact hi⟩
def iL (f : ER D) : ER (List D) := fun ρ => (f ρ).bind fun d ρ => match d with
  | .lst ds => .ok ds ρ
  | _ => .stuck
def iT (f : ER D) : ER (List D) := fun ρ => (f ρ).bind fun d ρ => match d with
  | .tup ds => .ok ds ρ
  | _ => .stuck
theorem iok_list {te : TE} {f : ER D} (h : EOk K mg W Γ te .pu f) : IOk K mg W Γ (iList K te) (iL f) := by
  intro B R H σ ρ Q pw O hl
  unfold iL at hl
  refine h B R H σ ρ _ pw O ?_
  cases e : f ρ with
  | stuck => rw [e] at hl; exact hl
  | exc x ρ1 => rw [e] at hl; exact hl
  | ok d ρ1 =>
    rw [e] at hl
    intro B1 H1 v s1 O1
    have rv := O1.top
    cases rv with
    | lst hq r => exact ⟨_, rfl, ⟨_, O1.sb.seq (SqL.of hq)⟩, hl B1 H1 _ s1 O1.pop (walk_list (SqL.of hq) r)⟩
    | _ => exact hl.elim
theorem iok_tup {te : TE} {f : ER D} (h : EOk K mg W Γ te .pu f) : IOk K mg W Γ (iTup K te) (iT f) := by
  intro B R H σ ρ Q pw O hl
  unfold iT at hl
  refine h B R H σ ρ _ pw O ?_
  cases e : f ρ with
  | stuck => rw [e] at hl; exact hl
  | exc x ρ1 => rw [e] at hl; exact hl
  | ok d ρ1 =>
    rw [e] at hl
    intro B1 H1 v s1 O1
    have rv := O1.top
    cases rv with
    | tup hq r => exact ⟨_, rfl, ⟨_, sameT O1.sb hq⟩, hl B1 H1 _ s1 O1.pop (walk_tup hq r)⟩
    | _ => exact hl.elim
/-- the ints of a range -/
def rangeD (lo : Int) (n : Nat) : List D := (List.range n).map fun (i : Nat) => D.int (lo + (i : Int))
theorem walk_range {B : Hp} {lo : Int} {n : Nat} : Walks K B (Itr lo n) (rangeD lo n) where
  go := fun B2 H2 s1 s2 i hi => by show i < n; simpa [rangeD] using hi
  yld := fun B2 H2 s1 s2 i d x H3 e y => by
    obtain ⟨rfl, rfl⟩ := y
    refine ⟨B2, Same.refl _, Same.refl _, s2, fun _ _ q => .inl q, ?_⟩
    unfold rangeD at e
    rw [List.getElem?_map] at e
    cases q : (List.range n)[i]? with
    | none => rw [q] at e; cases e
    | some j =>
      rw [q] at e; cases e
      have := (List.getElem?_eq_some_iff.mp q)
      obtain ⟨h1, h2⟩ := this
      simp at h2
      subst h2
      exact .int _
  stop := fun B2 H2 s1 s2 i hi => by show n ≤ i; simpa [rangeD] using hi
def inRg (j : Int) : Bool := decide (-(2 ^ 62) ≤ j) && decide (j < 2 ^ 62)
def iR1 (f : ER (List D)) : ER (List D) := fun ρ => (f ρ).bind fun ds ρ => match ds with
  | [.int j] => if inRg j = true then .ok (rangeD 0 j.toNat) ρ else .stuck
  | _ => .stuck
def iR2 (f : ER (List D)) : ER (List D) := fun ρ => (f ρ).bind fun ds ρ => match ds with
  | [.int i, .int j] => if inRg i = true ∧ inRg j = true then .ok (rangeD i (j - i).toNat) ρ else .stuck
  | _ => .stuck
theorem iok_range1 {ta : TA} {f : ER (List D)} (h : AOk K mg W Γ ta f) : IOk K mg W Γ (iRng1 ta) (iR1 f) := by
  intro B R H σ ρ Q pw O hl
  unfold iR1 at hl
  refine h B R H σ ρ _ pw O ?_
  cases e : f ρ with
  | stuck => rw [e] at hl; exact hl
  | exc x ρ1 => rw [e] at hl; exact hl
  | ok ds ρ1 =>
    rw [e] at hl
    intro B1 H1 vs s1 O1 r
    simp only [Res.bind] at hl
    split at hl
    · rename_i j
      cases r with
      | cons r1 r2 =>
        cases r2
        cases r1
        by_cases hj : inRg j = true
        · rw [if_pos hj] at hl
          simp only [inRg, Bool.and_eq_true, decide_eq_true_eq] at hj
          exact ⟨j, rfl, hj.1, hj.2, hl B1 H1 _ s1 O1 walk_range⟩
        · rw [if_neg hj] at hl; exact hl.elim
    · exact hl.elim
theorem iok_range2 {ta : TA} {f : ER (List D)} (h : AOk K mg W Γ ta f) : IOk K mg W Γ (iRng2 ta) (iR2 f) := by
  intro B R H σ ρ Q pw O hl
  unfold iR2 at hl
  refine h B R H σ ρ _ pw O ?_
  cases e : f ρ with
  | stuck => rw [e] at hl; exact hl
  | exc x ρ1 => rw [e] at hl; exact hl
  | ok ds ρ1 =>
    rw [e] at hl
    intro B1 H1 vs s1 O1 r
    simp only [Res.bind] at hl
    split at hl
    · rename_i i j
      cases r with
      | cons r1 r2 =>
        cases r2 with
        | cons r2 r3 =>
          cases r3
          cases r1
          cases r2
          by_cases hj : inRg i = true ∧ inRg j = true
          · rw [if_pos hj] at hl
            simp only [inRg, Bool.and_eq_true, decide_eq_true_eq] at hj
            exact ⟨i, j, rfl, ⟨hj.1.1, hj.1.2, hj.2.1, hj.2.2⟩, hl B1 H1 _ s1 O1 walk_range⟩
          · rw [if_neg hj] at hl; exact hl.elim
    · exact hl.elim
/-- the signs of a text -/
def signsD (x : Str) : List D := x.cps.toList.map fun c => .str ⟨#[c]⟩
theorem walk_str {B : Hp} {x : Str} : Walks K B (Its x) (signsD x) where
  go := fun B2 H2 s1 s2 i hi => by simpa [signsD, Its] using hi
  yld := fun B2 H2 s1 s2 i d y H3 e q => by
    obtain ⟨rfl, c, hc, rfl⟩ := q
    refine ⟨B2, Same.refl _, Same.refl _, s2, fun _ _ q => .inl q, ?_⟩
    unfold signsD at e
    rw [List.getElem?_map, Array.getElem?_toList, hc] at e
    cases e
    exact .str _
  stop := fun B2 H2 s1 s2 i hi => by simpa [signsD, Its] using hi
def iS (f : ER D) : ER (List D) := fun ρ => (f ρ).bind fun d ρ => match d with
  | .str x => .ok (signsD x) ρ
  | _ => .stuck
theorem iok_str {te : TE} {f : ER D} (h : EOk K mg W Γ te .pu f) : IOk K mg W Γ (iStr te) (iS f) := by
  intro B R H σ ρ Q pw O hl
  unfold iS at hl
  refine h B R H σ ρ _ pw O ?_
  cases e : f ρ with
  | stuck => rw [e] at hl; exact hl
  | exc x ρ1 => rw [e] at hl; exact hl
  | ok d ρ1 =>
    rw [e] at hl
    intro B1 H1 v s1 O1
    have rv := O1.top
    cases rv with
    | str x => exact ⟨x, rfl, hl B1 H1 _ s1 O1.pop walk_str⟩
    | _ => exact hl.elim

/-! ### a list that grows beside what stands -/
theorem Ok.guard {B R H : Hp} {σ : L2.St} {ρ : Env} {p : Addr} {o : HO} (O : Ok K Γ B R H σ ρ) (h : H p = none) : Ok K Γ B (upd R p o) (upd H p o) σ ρ := by
  obtain ⟨F, W⟩ := O.own
  have sh := same_upd (o := o) h
  refine ⟨O.sb.trans sh, fun a u e => ?_, O.lσ, O.lρ, fun a u e => ?_, F, ⟨fun i d s h1 hs => ?_, fun i q hq => ?_, W.nd, W.dj⟩⟩
  · by_cases q : a = p
    · subst q; rw [upd_same] at e ⊢; exact e
    · rw [upd_ne q] at e ⊢; exact O.sr a u e
  · by_cases q : a = p
    · subst q; exact O.sb.free h
    · rw [upd_ne q] at e; exact O.br a u e
  · obtain ⟨v, h2, h3⟩ := W.at_ i d s h1 hs
    exact ⟨v, h2, h3.mono (Same.refl _) sh⟩
  · obtain ⟨n1, n2, n3⟩ := W.no i q hq
    have ne : q ≠ p := fun z => by subst z; exact n1 h
    rw [upd_ne ne, upd_ne ne]
    exact ⟨n1, n2, n3⟩
theorem Ok.reguard {B R H : Hp} {σ : L2.St} {ρ : Env} {p : Addr} {o o' : HO} (O : Ok K Γ B (upd R p o) H σ ρ) : Ok K Γ B (upd R p o') (upd H p o') σ ρ := by
  obtain ⟨F, W⟩ := O.own
  have hB : B p = none := O.br p o upd_same
  have nF : ∀ i, p ∉ F i := fun i z => by have := (W.no i p z).2.2; rw [upd_same] at this; cases this
  refine ⟨fun a u e => ?_, fun a u e => ?_, O.lσ, O.lρ, fun a u e => ?_, F, ⟨fun i d s h1 hs => ?_, fun i q hq => ?_, W.nd, W.dj⟩⟩
  · rw [upd_ne (fun z => by subst z; rw [hB] at e; cases e)]; exact O.sb a u e
  · by_cases q : a = p
    · subst q; rw [upd_same] at e ⊢; exact e
    · rw [upd_ne q] at e ⊢; exact O.sr a u (by rw [upd_ne q]; exact e)
  · by_cases q : a = p
    · subst q; exact hB
    · rw [upd_ne q] at e; exact O.br a u (by rw [upd_ne q]; exact e)
  · obtain ⟨v, h2, h3⟩ := W.at_ i d s h1 hs
    exact ⟨v, h2, h3.at (Same.refl _) fun q hq u hu => by rw [upd_ne (fun z => nF i (by rw [← z]; exact hq))]; exact hu⟩
  · obtain ⟨n1, n2, n3⟩ := W.no i q hq
    have ne : q ≠ p := fun z => nF i (by rw [← z]; exact hq)
    rw [upd_ne ne] at n3 ⊢
    rw [upd_ne ne]
    exact ⟨n1, n2, n3⟩
theorem Ok.unguard {B R H : Hp} {σ : L2.St} {ρ : Env} {p : Addr} {vs : List V} {ds : List D} (O : Ok K Γ B (upd R p (.lst vs)) H σ ρ) (h : R p = none) (r : Reps K B vs ds) : Ok K (.ls :: Γ) B R H (some (.ref p) :: σ) (some (.lst ds) :: ρ) := by
  obtain ⟨F, W⟩ := O.own
  have hB : B p = none := O.br p _ upd_same
  have nF : ∀ i, p ∉ F i := fun i z => by have := (W.no i p z).2.2; rw [upd_same] at this; cases this
  have hH : H p = some (.lst vs) := O.sr p _ upd_same
  have le : ∀ a u, R a = some u → upd R p (.lst vs) a = some u := fun a u e => by rw [upd_ne (fun z => by subst z; rw [h] at e; cases e)]; exact e
  refine Ok.pushO (f := [p]) (F := F) (fun a u e => O.br a u (le a u e)) O.sb (fun a u e => O.sr a u (le a u e)) O.lσ O.lρ ⟨W.at_, fun i q hq => ?_, W.nd, W.dj⟩ ⟨p, rfl, rfl, .lst hH r⟩ (by simp) fun q hq => ?_
  · obtain ⟨n1, n2, n3⟩ := W.no i q hq
    have ne : q ≠ p := fun z => nF i (by rw [← z]; exact hq)
    rw [upd_ne ne] at n3
    exact ⟨n1, n2, n3⟩
  · have e : q = p := by simpa using hq
    subst e
    exact ⟨by rw [hH]; simp, hB, h, nF⟩

/-! ### comprehensions -/
def wipeD (ρ : Env) : List Nat → Env
  | [] => ρ
  | v :: vs => (wipeD ρ vs).set v none
theorem wipeD_length (ρ : Env) : ∀ vs : List Nat, (wipeD ρ vs).length = ρ.length
  | [] => rfl
  | v :: vs => by unfold wipeD; rw [List.length_set, wipeD_length ρ vs]
theorem wipeD_some {ρ : Env} {i : Nat} {d : D} : ∀ {vs : List Nat}, (wipeD ρ vs)[i]? = some (some d) → ρ[i]? = some (some d) ∧ i ∉ vs
  | [], h => ⟨h, by simp⟩
  | v :: vs, h => by
    unfold wipeD at h
    by_cases e : v = i
    · subst e
      by_cases hl : v < (wipeD ρ vs).length
      · rw [List.getElem?_set_self hl] at h; cases h
      · rw [List.getElem?_eq_none (by simpa using hl)] at h; cases h
    · rw [List.getElem?_set_ne e] at h
      obtain ⟨h1, h2⟩ := wipeD_some h
      exact ⟨h1, by simp only [List.mem_cons, not_or]; exact ⟨fun z => e z.symm, h2⟩⟩
theorem wipe_get {σ : L2.St} {i : Nat} : ∀ {vs : List Nat}, i ∉ vs → (wipe σ vs)[i]? = σ[i]?
  | [], _ => rfl
  | v :: vs, h => by
    unfold wipe
    rw [List.getElem?_set_ne (fun e => h (by simp [e])), wipe_get (fun z => h (List.mem_cons_of_mem _ z))]
theorem wipe_in {σ : L2.St} {i : Nat} : ∀ {vs : List Nat}, i ∈ vs → i < σ.length → (wipe σ vs)[i]? = some none
  | v :: vs, h, hl => by
    unfold wipe
    by_cases e : v = i
    · subst e; rw [List.getElem?_set_self (by rw [wipe_length]; exact hl)]
    · rw [List.getElem?_set_ne e]
      exact wipe_in (by simpa [Ne.symm e] using h) hl
theorem wipe_same {σ σ' : L2.St} {vs : List Nat} (hl : σ'.length = σ.length) (h : ∀ j, j ∉ vs → σ'[j]? = σ[j]?) : wipe σ' vs = wipe σ vs := by
  refine List.ext_getElem? fun j => ?_
  by_cases hj : j ∈ vs
  · by_cases hlt : j < σ.length
    · rw [wipe_in hj (by omega), wipe_in hj hlt]
    · rw [List.getElem?_eq_none (by rw [wipe_length]; omega), List.getElem?_eq_none (by rw [wipe_length]; omega)]
  · rw [wipe_get hj, wipe_get hj]; exact h j hj
theorem Ok.wiped {B R H : Hp} {σ σ' : L2.St} {ρ : Env} {vs : List Nat} (O : Ok K Γ B R H σ ρ) (hl : σ'.length = σ.length) (h : ∀ j, j ∉ vs → σ'[j]? = σ[j]?) : Ok K Γ B R H σ' (wipeD ρ vs) :=
  O.drop hl (wipeD_length _ _) fun i d e => by
    obtain ⟨h1, h2⟩ := wipeD_some e
    exact ⟨h1, h i h2⟩
def compF (gf : D → Env → Option Env) (ft : ER Bool) (fe : ER D) (vs : List Nat) : List D → ER (List D)
  | [], ρ => .ok [] ρ
  | d :: es, ρ => match gf d ρ with
    | none => .stuck
    | some ρ1 => (ft ρ1).bind fun b ρ2 => match b with
      | true => (fe ρ2).bind fun y ρ3 => (compF gf ft fe vs es (wipeD ρ3 vs)).bind fun ys ρ4 => .ok (y :: ys) ρ4
      | false => compF gf ft fe vs es (wipeD ρ2 vs)
def eLc (fi : ER (List D)) (gf : D → Env → Option Env) (ft : ER Bool) (fe : ER D) (vs : List Nat) : ER D := fun ρ => (fi ρ).bind fun es ρ => match compF gf ft fe vs es (wipeD ρ vs) with
  | .ok ys ρ' => if ys.length ≤ sizeLine then .ok (.lst ys) ρ' else .stuck
  | _ => .stuck
def bYes : ER Bool := fun ρ => .ok true ρ
theorem tok_yes : TOk K mg W Γ tYes bYes := fun B R H σ ρ Q pw O h => h B H (Same.refl _) O
theorem eok_lc {wi : TI} {g : TG} {tt : TT} {te : TE} {vs tv : List Nat} {fi : ER (List D)} {gf : D → Env → Option Env} {ft : ER Bool} {fe : ER D} (hv : ∀ i ∈ tv, i ∈ vs)
    (hi : IOk K mg W Γ wi fi) (hg : GOk (K := K) Γ Γ tv g gf) (ht : TOk K mg (w0 W) Γ tt ft) (he : EOk K mg (w0 W) Γ te .pu fe) : EOk K mg W Γ (tLc wi g tt te vs) .ls (eLc fi gf ft fe vs) := by
  intro B R H σ ρ Q pw O hl
  unfold eLc at hl
  refine hi B R H σ ρ _ pw O ?_
  cases e : fi ρ with
  | stuck => rw [e] at hl; exact hl
  | exc x ρ1 => rw [e] at hl; exact hl
  | ok es ρ1 =>
    rw [e] at hl
    simp only [Res.bind] at hl
    intro B1 H1 J s1 O1 wk D hD
    cases e2 : compF gf ft fe vs es (wipeD ρ1 vs) with
    | stuck => rw [e2] at hl; exact hl.elim
    | exc x ρ2 => rw [e2] at hl; exact hl.elim
    | ok ys ρf =>
      rw [e2] at hl
      simp only at hl
      by_cases hz : ys.length ≤ sizeLine
      · rw [if_pos hz] at hl
        have hRD : R D = none := O1.sr.free hD
        refine ⟨fun i m H' => m = es.length - i ∧ i ≤ es.length ∧ ∃ B' ρ' acc accv rest, Same B1 B' ∧ Ok K Γ B' (upd R D (.lst accv)) H' (wipe σ vs) ρ' ∧ Reps K B' accv acc ∧ compF gf ft fe vs (es.drop i) ρ' = .ok rest ρf ∧ acc ++ rest = ys,
          ⟨es.length, by simp, Nat.zero_le _, B1, wipeD ρ1 vs, [], [], ys, Same.refl _, (O1.guard hD).wiped (wipe_length _ _) (fun j hj => wipe_get hj), .nil, e2, rfl⟩, ?_⟩
        rintro i m H2 ⟨rfl, hle, B2, ρ2, acc, accv, rest, s2, O2, r2, c2, t2⟩
        by_cases hlt : i < es.length
        · refine .inr ⟨wk.go B2 H2 s2 O2.sb i hlt, fun H' => i < es.length ∧ ∃ B' ρ' acc accv rest, Same B1 B' ∧ Ok K Γ B' (upd R D (.lst accv)) H' (wipe σ vs) ρ' ∧ Reps K B' accv acc ∧ compF gf ft fe vs (es.drop (i + 1)) ρ' = .ok rest ρf ∧ acc ++ rest = ys,
            fun H' n => ⟨es.length - (i + 1), by omega, rfl, by omega, n.2⟩, fun x H3 y => ?_⟩
          obtain ⟨B3, sb3, sh3, sbh3, nw3, rx⟩ := wk.yld B2 H2 s2 O2.sb i es[i] x H3 (by simp [hlt]) y
          have O3 := O2.grow sb3 sh3 sbh3 nw3
          rw [List.drop_eq_getElem_cons hlt] at c2
          unfold compF at c2
          cases e3 : gf es[i] ρ2 with
          | none => rw [e3] at c2; cases c2
          | some ρ3 =>
            rw [e3] at c2
            simp only at c2
            refine hg B3 _ H3 _ ρ2 x _ ρ3 _ O3 rx e3 fun σ4 O4 k4 => ?_
            have hl4 : σ4.length = (wipe σ vs).length := O4.lσ.trans O3.lσ.symm
            have k4' : ∀ j, j ∉ vs → σ4[j]? = (wipe σ vs)[j]? := fun j hj => k4 j fun z => hj (hv j z)
            refine ⟨?_, ?_⟩
            · rw [wipe_same hl4 k4']
              exact wipe_same (wipe_length _ _) fun j hj => wipe_get hj
            · refine ht B3 _ H3 σ4 ρ3 _ trivial O4 ?_
              cases e4 : ft ρ3 with
              | stuck => rw [e4] at c2; cases c2
              | exc x ρ5 => rw [e4] at c2; cases c2
              | ok b ρ5 =>
                rw [e4] at c2
                simp only [Res.bind] at c2
                intro B5 H5 s5 O5
                cases b with
                | false =>
                  rw [if_neg Bool.false_ne_true]
                  simp only at c2
                  exact ⟨hlt, B5, wipeD ρ5 vs, acc, accv, rest, (s2.trans sb3).trans s5, O5.wiped hl4.symm (fun j hj => (k4' j hj).symm), r2.mono (sb3.trans s5), c2, t2⟩
                | true =>
                  rw [if_pos rfl]
                  refine he B5 _ H5 σ4 ρ5 _ trivial O5 ?_
                  cases e6 : fe ρ5 with
                  | stuck => rw [e6] at c2; cases c2
                  | exc x ρ6 => rw [e6] at c2; cases c2
                  | ok yd ρ6 =>
                    rw [e6] at c2
                    simp only at c2
                    intro B6 H6 yv s6 O6
                    cases e7 : compF gf ft fe vs (es.drop (i + 1)) (wipeD ρ6 vs) with
                    | stuck => rw [e7] at c2; cases c2
                    | exc x ρ7 => rw [e7] at c2; cases c2
                    | ok ys' ρ7 =>
                      rw [e7] at c2
                      cases c2
                      have hacc : accv.length < sizeLine := by
                        have h1 := r2.length
                        have h2 := congrArg List.length t2
                        simp at h2
                        omega
                      refine ⟨accv, O6.sr D _ upd_same, hacc, hlt, B6, wipeD ρ6 vs, acc ++ [yd], accv ++ [yv], ys', ((s2.trans sb3).trans s5).trans s6, ?_, ?_, e7, by rw [← t2]; simp⟩
                      · exact (O6.pop.reguard (o' := .lst (accv ++ [yv]))).wiped hl4.symm fun j hj => (k4' j hj).symm
                      · exact (r2.mono ((sb3.trans s5).trans s6)).snoc O6.top
        · have ei : i = es.length := by omega
          refine .inl ⟨wk.stop B2 H2 s2 O2.sb i (by omega), ?_⟩
          rw [ei, List.drop_length] at c2
          cases c2
          have t3 : acc = ys := by simpa using t2
          subst t3
          have O3 := O2.unguard hRD r2
          refine hl B2 H2 _ (s1.trans s2) (O3.drop (by simp [wipe_length]) (by simp) fun j d hj => ?_)
          cases j with
          | zero => exact ⟨hj, rfl⟩
          | succ j =>
            refine ⟨hj, ?_⟩
            have hj : ρf[j]? = some (some d) := by simpa using hj
            by_cases hv : j ∈ vs
            · obtain ⟨F, W⟩ := O2.own
              exfalso
              have hjl : j < Γ.length := by have := (List.getElem?_eq_some_iff.mp hj).1; rw [O2.lρ] at this; exact this
              obtain ⟨v, h1, _⟩ := W.at_ j d Γ[j] hj (by simp [hjl])
              rw [wipe_in hv (by rw [O.lσ]; exact hjl)] at h1
              cases h1
            · simp [wipe_get hv]
      · rw [if_neg hz] at hl; exact hl.elim
end
end DL
/-! An own error whose __init__ says super().__init__(f1, ..) and self.f1 = f1, ..: made, raised, read. -/
namespace PySem
namespace DLX
open Builtin Builtin.ObjectAttr
open PySem.W PySem.Calls PyProof.Rows PySem.HandSPX
abbrev Pl := Pos × Pos × Pos × Pos × Pos
/-- super().__init__(f1, ..) -/
def sSup (l : List (Str × Pl)) (p1 p2 p3 p4 p5 : Pos) : Stmt := .Expr (.Call (.Attribute (.Call (.Name "super" p1) [] [] p2) "__init__" p3) (l.map fun q => .Name q.1 q.2.1) [] p4) p5
/-- self.f = f -/
def sSto (q : Str × Pl) : Stmt := .Assign [.Attribute (.Name "self" q.2.2.1) q.1 q.2.2.2.1] (.Name q.1 q.2.2.2.2.1) q.2.2.2.2.2
def bdy (l : List (Str × Pl)) (p1 p2 p3 p4 p5 : Pos) : List Stmt := sSup l p1 p2 p3 p4 p5 :: l.map sSto
/-- what the written part says of the class nm at C, whose __init__ stands at fI, its fields fs -/
structure ExTxt (prog : Program) (K : Frag) (mg : Str → Option Value) (nm : Str) (C : Addr) (fs : List Str) : Prop where
  gC : mg nm = some (.ref C)
  kC : keepIn K (.ref C) = true
  cls : ∃ n q N bs bm sn sub ab col dd k0 k1 k2 k3 k5, K.lookup C = some (excClassObj n q C N bs bm true sn sub ab col dd k0 k1 k2 k3 k5 "ValueError.__new__") ∧ refsVE bm = true ∧ alongIn K "__init__" bm = some (some (.builtin "ValueError.__init__"))
  sa : findIn K (.ref C) "__setattr__" = some (some (.builtin "object.__setattr__"))
  ga : findIn K (.ref C) "__getattribute__" = some (some (.builtin "BaseException.__getattribute__"))
  gg : findIn K (.ref C) "__getattr__" = some none
  noF : ∀ f ∈ fs, findIn K (.ref C) f = some none
  exC : subIn K (.ref C) (.type "BaseException") = some true
  tyC : typeIn K (.ref C) = some (.type "type")
  hdC : hasDictIn K C = true
  op : nsIn K cStatics "thirdparty.any" = some none
  sup : mg "super" = none
  nd : fs.Nodup
  few : fs.length ≤ 3
  fn : ∃ fI, findIn K (.ref C) "__init__" = some (some (.ref fI)) ∧ typeIn K (.ref fI) = some (.type "function") ∧
    ∃ (oc : Value) (od : Option Addr) (qual : Str) (ps : Arguments) (l : List (Str × Pl)) (p1 p2 p3 p4 p5 : Pos) (sc : Scope) (doc pm ct : Value) (an : Option Addr) (osl : Array (Option Value)) (cda cc : Addr)
      (ccl : Value) (cdd : Option Addr) (vs : Array Value) (ccs : Array (Option Value)) (file : Str) (tf : Tok) (cl : Value) (cld : Option Addr) (csl : Array (Option Value)),
    K.lookup fI = some ⟨oc, od, .func (fnX "__init__" qual ps (bdy l p1 p2 p3 p4 p5) sc [("__class__", cc)] .none .none doc pm an (.ref cda) ct), osl⟩ ∧ codeIn K (.ref cda) qual = true ∧
    (p3.endLine == p4.line) = true ∧ l.map (·.1) = fs ∧ K.lookup cda = some ⟨ccl, cdd, .fields vs, ccs⟩ ∧ vs[2]? = some (.str file tf) ∧ ((prog.main.file : Str) == file) = true ∧ K.lookup cc = some ⟨cl, cld, .cell (some (.ref C)), csl⟩ ∧
    (prog.main.scope.names.lookup ("super" : Str)).isSome = false ∧ sc.kind = .function ∧ sc.isCoroutine = false ∧ sc.isGenerator = false ∧ (∀ x ∈ sc.names, x.2 ≠ .cell) ∧ sc.names.lookup ("self" : Str) = some .local ∧ (∀ f ∈ fs, sc.names.lookup f = some .local ∧ (f == ("__debug__" : Str)) = false ∧ f ≠ ("self" : Str)) ∧
    sc.names.lookup ("super" : Str) = some .globalImplicit ∧ sc.names.lookup ("__class__" : Str) = some .free ∧ (ps.posonlyargs ++ ps.args).head?.map (·.arg) = some ("self" : Str) ∧
    (∀ us : List Value, us.length = fs.length + 1 → bindArgs (fnX "__init__" qual ps (bdy l p1 p2 p3 p4 p5) sc [("__class__", cc)] .none .none doc pm an (.ref cda) ct) ⟨us, []⟩ = pure ((("self" : Str) :: fs).zip us))
section
variable {M : Model} {A : Around} {E : Value → Shared → Prop} {s : Shared}
theorem starEach_name {x : Str} {p : Pos} {es : List Expr} {env : Env} : starEach (.Name x p :: es) env = (false, eval (.Name x p) env) :: starEach es env := by rfl
theorem backTo_cons {pos : Pos} {t : Sem Value} {r : List (Bool × Sem Value)} : backTo pos ((false, t) :: r) = (false, t) :: backTo pos r := by rfl
theorem splice_names {env : Env} {m : Str → Option Value} (hk : env.scope.kind = .function) (hn : s.heap.Ns env.locals m) (pos : Pos) : ∀ (l : List (Str × Pl)) (vs : List Value) (Q : List Value → Shared → Prop),
    (∀ (i : Nat) (q : Str × Pl), l[i]? = some q → env.kindOf q.1 = some .local ∧ (q.1 == ("__debug__" : Str)) = false ∧ ∃ v, vs[i]? = some v ∧ m q.1 = some v) → l.length = vs.length → Q vs s →
    wpAny M A (spliced (backTo pos (starEach (l.map fun q => .Name q.1 q.2.1) env))) Q E s
  | [], [], Q, _, _, h => spliced_nil h
  | [], _ :: _, _, _, hl, _ => by cases hl
  | _ :: _, [], _, _, hl, _ => by cases hl
  | q :: l, v :: vs, Q, hq, hl, h => by
    obtain ⟨h1, h2, v', e1, e2⟩ := hq 0 q rfl
    cases e1
    rw [List.map_cons, starEach_name, backTo_cons]
    refine spliced_cons (ESX.ldL hn e2 ?_ hk h1 h2)
    exact splice_names hk hn pos l vs (fun us => Q (v :: us)) (fun i q hi => by simpa using hq (i + 1) q (by simpa using hi)) (by simpa using hl) h
end
section
variable {prog : Program} {w : World} {A : Around} {E : Value → Shared → Prop} {R : Result → Shared → Prop} {hp : Heap} {g : Array GenState} {d : Drawn} {t : Nat} {os : OsState}
/-- the walk to the own dict -/
theorem osa_excV {K : W.Frag} {name : Str} {tk : Tok} {v : Value} {x C : Addr} {ox : Obj} {od : Option Obj} {cd : ClassData}
    (X : K.In hp) (I : W.InstAt hp x ox C od) (gcd : W.clsIn K C = some cd) (gm : refsVE cd.mro = true) (ga : W.findIn K (.ref C) name = some none)
    (gq : wpAny (model prog w) A.in1 (storeInOwnDict (.ref x) (.ref C) (.str name tk) name v false)
      (fun fin s' => match fin with | .done f => R (.ok f) s' | .again c' => c'.quiet = true ∧ codeAny (model prog w) A c' R s') (fun e s' => R (.error e) s') ⟨hp, g, d, t, os⟩) :
    codeAny (model prog w) A (.call (.builtin "object.__setattr__") ⟨[.ref x, .str name tk, v], []⟩) R ⟨hp, g, d, t, os⟩ := by
  have st := F.store_object
  have nen := refsVE_ne gm
  have gob : cd.mro.contains (.type "object") = true := (refsVE_contains "object" _ gm).trans (by decide +kernel)
  have isb : W.Looks (model prog w) hp (isInstance (.ref x) (.type "object")) true := I.type.andThen (W.looks_mroIn X (by unfold W.mroIn; rw [gcd, Option.bind_some, if_neg (by rw [nen]; decide), gob]))
  refine codeAny_call_builtin st.slot.plain st.entry (@W.check_slot (model prog w) _ _ ⟨hp, g, d, t, os⟩ "object.__setattr__" "object" "__setattr__" (.ref x) [.str name tk, v] [] _ st.kind st.split isb (st.args (.ref x) (.str name tk) v) ?_)
  have gmr : W.Looks (model prog w) hp (mroOf (.ref C)) cd.mro := (W.looks_clsIn X gcd).andThen .now
  have w3 : W.Looks (model prog w) hp (storeTaker? none) none := .now
  rw [W.osa_eq, refuse_eq]
  refine wpAny_bind (wpAny_bind (I.type.at (wpAny_bind (gmr.at ?_))))
  rw [refsVE_pass _ _ gm]
  refine wpAny_pure (wpAny_bind (I.type.at (wpAny_bind ((W.looks_findIn X ga).at (wpAny_bind (w3.at ?_))))))
  exact gq
/-- self.name = v on such an error that has a dict -/
theorem osa_oldV {K : W.Frag} {name : Str} {tk : Tok} {v : Value} {x C dx : Addr} {fv : Array Value} {cd : ClassData} {m0 : Str → Option Value} {nl : List Str}
    (X : K.In hp) (gx : hp.get? x = some { cls := .ref C, dict := some dx, data := .fields fv }) (gns : hp.Ns1 dx m0) (gw : Within m0 nl) (gz : nl.length ≤ 1000) (gcd : W.clsIn K C = some cd) (gm : refsVE cd.mro = true) (hh : cd.hasDict = true)
    (ga : W.findIn K (.ref C) name = some none)
    (gq : ∀ h' tk', (∀ b o, b ≠ dx → hp.get? b = some o → h'.get? b = some o) → h'.Ns1 dx (fun y => if y = name then some v else m0 y) → R (.ok (.ret .none)) ⟨h', g, d, tk', os⟩) :
    codeAny (model prog w) A (.call (.builtin "object.__setattr__") ⟨[.ref x, .str name tk, v], []⟩) R ⟨hp, g, d, t, os⟩ := by
  obtain ⟨obD, esD, epD, goD, gdD, _⟩ := gns.count gw
  have I : W.InstAt hp x { cls := .ref C, dict := some dx, data := .fields fv } C (some obD) := ⟨gx, rfl, rfl, goD⟩
  refine osa_excV X I gcd gm ga ?_
  have gcls : W.Looks (model prog w) hp (classData C) cd := W.looks_clsIn X gcd
  obtain ⟨nm, bs, mro, ns, qn, hd, sn, sb, ab, col, del⟩ := cd
  dsimp only at hh
  subst hh
  unfold storeInOwnDict ownDictForStores
  repeat (first | with_reducible refine ESX.store_in_old gns gw gz ?_ | with_reducible refine wpAny_loadPart_at gx ?_ | with_reducible refine gcls.at ?_ | wp_step)
  intro h' tk' hn' hs
  exact gq h' tk' (fun b o hb ho => (hs.2 b hb).trans ho) hn'
theorem snoc_lookup {f : Str} {v : Value} : ∀ {l : List (Str × Value)}, f ∉ l.map (·.1) → ∀ y, (l ++ [(f, v)]).lookup y = if y = f then some v else l.lookup y
  | [], _, y => by
    by_cases h : y = f
    · subst h; simp [List.lookup]
    · have : (y == f) = false := by simpa using h
      simp [List.lookup, this, h]
  | (g, u) :: l, hn, y => by
    have ih := snoc_lookup (l := l) (f := f) (v := v) (fun z => hn (List.mem_cons_of_mem _ z)) y
    have hg : g ≠ f := fun z => hn (by simp [z])
    by_cases h : y = g
    · subst h
      simp [List.lookup, hg]
    · have e : (y == g) = false := by simpa using h
      simp [List.lookup, e, ih]
theorem within_lookup : ∀ (l : List (Str × Value)), Within (fun y => l.lookup y) (l.map (·.1)) := fun l y hy => by
  cases q : l.lookup y with
  | none => exact absurd q hy
  | some v => exact List.mem_map.mpr ⟨(y, v), PySem.mem_of_lookup q, rfl⟩

theorem sto_step {K : Frag} {env : Env} {m : Str → Option Value} {q : Str × Pl} {x C : Addr} {ox : Obj} {od : Option Obj} {v : Value} {Q : Flow → Shared → Prop} {s : Shared} (X : K.In s.heap) (hk : env.scope.kind = .function) (hn : s.heap.Ns env.locals m)
    (h1 : env.kindOf q.1 = some .local) (h2 : (q.1 == ("__debug__" : Str)) = false) (h3 : m q.1 = some v) (h4 : env.kindOf "self" = some .local) (h5 : m "self" = some (.ref x)) (I : W.InstAt s.heap x ox C od)
    (hs : findIn K (.ref C) "__setattr__" = some (some (.builtin "object.__setattr__")))
    (h : codeAny (model prog w) A (.call (.builtin "object.__setattr__") ⟨[.ref x, .str q.1 s.toks, v], []⟩) (fun r s' => match r with | .ok (.ret _) => Q .next s' | .ok _ => False | .error e => E e s') { s with toks := s.toks + 1 }) :
    wpAny (model prog w) A (exec (sSto q) env) Q E s := by
  refine plainObj_wpAny_Assign_Attribute ?_
  refine ESX.ldL hn h3 (ESX.ldL hn h5 ?_ hk h4) hk h1 h2
  exact set_plain X I hs h
theorem stores_run {K : Frag} {base : Heap} {env : Env} {m : Str → Option Value} {x C dx : Addr} {cd : ClassData} {fv : Array Value} {Q : Flow → Shared → Prop} (KB : K.In base) (hk : env.scope.kind = .function)
    (hcd : W.clsIn K C = some cd) (hm : refsVE cd.mro = true) (hh : cd.hasDict = true) (hs : findIn K (.ref C) "__setattr__" = some (some (.builtin "object.__setattr__")))
    (h4 : env.kindOf "self" = some .local) (h5 : m "self" = some (.ref x)) (nb : base.get? dx = none) (nL : env.locals ≠ dx) (nx : x ≠ dx) :
    ∀ (l : List (Str × Pl)) (vs : List Value) (dn : List (Str × Value)) (s : Shared), (∀ b o, base.get? b = some o → s.heap.get? b = some o) → s.heap.Ns env.locals m → s.heap.get? x = some { cls := .ref C, dict := some dx, data := .fields fv } →
    s.heap.Ns1 dx (fun y => dn.lookup y) → dn.length + l.length ≤ 1000 → l.length = vs.length → (dn.map (·.1) ++ l.map (·.1)).Nodup →
    (∀ (i : Nat) (q : Str × Pl), l[i]? = some q → findIn K (.ref C) q.1 = some none ∧ env.kindOf q.1 = some .local ∧ (q.1 == ("__debug__" : Str)) = false ∧ ∃ v, vs[i]? = some v ∧ m q.1 = some v) →
    (∀ h' tk, (∀ b o, b ≠ dx → s.heap.get? b = some o → h'.get? b = some o) → h'.Ns1 dx (fun y => (dn ++ (l.map (·.1)).zip vs).lookup y) → Q .next { s with heap := h', toks := tk }) →
    wpAny (model prog w) A (execs (l.map sSto) env) Q E s
  | [], [], dn, s, _, _, _, hd, _, _, _, _, h => wpAny_execs_nil (h s.heap s.toks (fun _ _ _ e => e) (by simpa using hd))
  | [], _ :: _, _, _, _, _, _, _, _, hl, _, _, _ => by cases hl
  | _ :: _, [], _, _, _, _, _, _, _, hl, _, _, _ => by cases hl
  | q :: l, v :: vs, dn, s, kb, hn, hx, hd, hz, hl, nd, hq, h => by
    obtain ⟨h0, h1, h2, v', e1, e2⟩ := hq 0 q rfl
    cases e1
    have X : K.In s.heap := KB.keeps kb
    obtain ⟨oD, esD, epD, hoD, hdD, _⟩ := hd.count (within_lookup dn)
    refine wpAny_execs_cons (sto_step X hk hn h1 h2 e2 h4 h5 (ox := { cls := .ref C, dict := some dx, data := .fields fv }) (od := some oD) ⟨hx, rfl, rfl, hoD⟩ hs ?_)
    refine osa_oldV (hp := s.heap) (g := s.gens) (d := s.drawn) (os := s.os) X hx hd (within_lookup dn) (by simp at hz ⊢; omega) hcd hm hh h0 fun h' tk' k hn' => ?_
    have nf : q.1 ∉ dn.map (·.1) := fun z => by
      have := (List.nodup_append.mp nd).2.2 q.1 z q.1 (by simp)
      exact this rfl
    have e : (fun y => if y = q.1 then some v else dn.lookup y) = fun y => (dn ++ [(q.1, v)]).lookup y := funext fun y => (snoc_lookup nf y).symm
    rw [e] at hn'
    refine stores_run KB hk hcd hm hh hs h4 h5 nb nL nx l vs (dn ++ [(q.1, v)]) { s with heap := h', toks := tk' } (fun b o hb => k b o (fun z => by rw [z, nb] at hb; cases hb) (kb b o hb)) ?_ (k _ _ nx hx) hn' (by simp at hz ⊢; omega) (by simpa using hl) (by simpa using nd)
      (fun i q' hi => by simpa using hq (i + 1) q' (by simpa using hi)) fun h2 tk2 k2 hn2 => ?_
    · obtain ⟨o, es, ep, ho, r⟩ := hn
      exact ⟨o, es, ep, k _ _ nL ho, r⟩
    · refine h h2 tk2 (fun b o hb ho => k2 b o hb (k b o hb ho)) ?_
      simpa using hn2
/-- what __init__ leaves of a fresh error at x -/
structure InitEnd (h h' : Heap) (x C dx t1 : Addr) (l : List (Str × Value)) : Prop where
  keep : ∀ b o, b ≠ x → h.get? b = some o → h'.get? b = some o
  obj : h'.get? x = some { cls := .ref C, dict := some dx, data := .fields #[.ref t1, .none, .none, .none, .bool false, .none] }
  dbig : h.objs.size ≤ dx
  dne : dx ≠ x
  ns : h'.Ns1 dx (fun y => l.lookup y)
structure OwnMade (h h' : Heap) (e C d : Addr) (l : List (Str × Value)) : Prop where
  keep : ∀ b o, h.get? b = some o → h'.get? b = some o
  new : h.objs.size ≤ e
  obj : ∃ oe vs, h'.get? e = some oe ∧ oe.cls = .ref C ∧ oe.dict = some d ∧ oe.data = .fields vs ∧ vs[1]? = some .none
  dbig : h.objs.size ≤ d
  dne : d ≠ e
  ns : h'.Ns1 d (fun y => l.lookup y)
end
end DLX
end PySem
namespace PySem
namespace DLX
open Builtin Builtin.ObjectAttr
open PySem.W PySem.Calls PyProof.Rows PySem.HandSPX
theorem plain_names {env : Env} (pos : Pos) : ∀ (l : List (Str × Pl)), (backTo pos (starEach (l.map fun q => .Name q.1 q.2.1) env)).any (·.1) = false
  | [] => rfl
  | q :: l => by
    rw [List.map_cons, starEach_name, backTo_cons, List.any_cons, plain_names pos l]
    rfl
section
variable {prog : Program} {w : World} {A : Around} {E : Value → Shared → Prop} {h : Heap} {g : Array GenState} {d : Drawn} {t : Nat} {os : OsState}
variable {nm q : Str} {C N : Addr} {bs bm : List Value} {hdct : Bool} {sn : List Str} {sub : List Value} {ab : Bool} {col : Option Bool} {dd : Option Addr} {k0 k1 k2 k3 k5 : Option Value}
theorem call_mw {u e t0 : Addr} {rest : List Value} {Q : Value → Shared → Prop}
    (hC : h.get? C = some (excClassObj nm q C N bs bm hdct sn sub ab col dd k0 k1 k2 k3 k5 "ValueError.__new__")) (he : h.get? e = some (excO C t0)) (hu : h.get? u = some (kxs_mw "ValueError.__init__" e)) (hrest : rest.length ≤ sizeLine)
    (hq : ∀ h' t1, (∀ b o, b ≠ e → h.get? b = some o → h'.get? b = some o) → h'.get? e = some (excO C t1) → Q .none ⟨h', g, d, t, os⟩) :
    wpAny (model prog w) A (call (.ref u) rest) Q E ⟨h, g, d, t, os⟩ := by
  refine wpAny_call (codeAny_of_tree ?_)
  show wpAny _ A.in1 (callAny (.ref u) ⟨rest, []⟩) _ _ _
  simp only [callAny]
  refine wpAny_bind (wpAny_load hu ?_)
  simp only [kxs_mw, show (Value.type "method-wrapper" == Value.type "method" || Value.type "method-wrapper" == Value.type "builtin_function_or_method" || Value.type "method-wrapper" == Value.type "method-wrapper") = true by decide, if_true]
  refine KFB.if_so (by decide) ?_
  refine wpAny_bind (check_bound_init F.excBase_ValueError.toExcCallFacts hC he rfl ?_)
  refine wpAny_bind (wpAny_pure (wpAny_pure ?_))
  refine ⟨plainId_quiet F.excBase_ValueError.init.plain _, codeAny_builtin F.excBase_ValueError.initEntry ?_⟩
  rw [Around.under_plainId F.excBase_ValueError.init.plain _]
  wp_walk
  refine hq _ h.objs.size (fun b o hb ho => ?_) ?_
  · rw [Heap.get?_update_other _ _ (Ne.symm hb)]
    exact Heap.get?_push_of_some _ ho
  · rw [Heap.get?_update_self _ (Heap.get?_push_of_some _ he) rfl]
    rfl
theorem zip_lookup : ∀ {names : List Str} {vals : List Value}, names.Nodup → names.length = vals.length → ∀ {i : Nat} {f : Str} {v : Value}, names[i]? = some f → vals[i]? = some v → (names.zip vals).lookup f = some v
  | [], _, _, _, _, _, _, h, _ => by simp at h
  | _ :: _, [], _, hl, _, _, _, _, _ => by cases hl
  | n :: ns, u :: us, nd, hl, 0, f, v, h1, h2 => by
    simp at h1 h2; subst h1; subst h2
    simp [List.lookup]
  | n :: ns, u :: us, nd, hl, i + 1, f, v, h1, h2 => by
    have ne : f ≠ n := fun z => by
      subst z
      exact (List.nodup_cons.mp nd).1 (List.mem_of_getElem? (by simpa using h1))
    have e : (f == n) = false := by simpa using ne
    rw [List.zip_cons_cons, List.lookup_cons, e]
    exact zip_lookup (List.nodup_cons.mp nd).2 (by simpa using hl) (by simpa using h1) (by simpa using h2)
theorem lookup_mem {l : List (Str × Value)} (nd : (l.map (·.1)).Nodup) {p : Str × Value} (hp : p ∈ l) : l.lookup p.1 = some p.2 := by
  induction l with
  | nil => cases hp
  | cons q l ih =>
    rcases List.mem_cons.mp hp with rfl | hp
    · simp [List.lookup]
    · have ne : p.1 ≠ q.1 := fun z => (List.nodup_cons.mp nd).1 (show q.1 ∈ l.map (·.1) by rw [← z]; exact List.mem_map_of_mem hp)
      have e : (p.1 == q.1) = false := by simpa using ne
      rw [show q = (q.1, q.2) from rfl, List.lookup_cons, e]
      exact ih (List.nodup_cons.mp nd).2 hp
theorem zip_rev_lookup {names : List Str} {vals : List Value} (nd : names.Nodup) (hl : names.length = vals.length) {i : Nat} {f : Str} {v : Value} (h1 : names[i]? = some f) (h2 : vals[i]? = some v) : (names.zip vals).reverse.lookup f = some v := by
  have mp : (names.zip vals).map (·.1) = names := List.map_fst_zip (by omega)
  refine lookup_mem (p := (f, v)) ?_ ?_
  · rw [List.map_reverse, (List.reverse_perm _).nodup_iff, mp]; exact nd
  · rw [List.mem_reverse]
    refine List.mem_of_getElem? (i := i) ?_
    rw [List.getElem?_zip_eq_some]
    exact ⟨h1, h2⟩
end
abbrev supE (p1 p2 : Pos) : Expr := .Call (.Name "super" p1) [] [] p2
theorem mc_sup {p1 p2 apos pos : Pos} {name : Str} {env : Env} (hline : (apos.endLine == pos.line) = true) (ov : Value) (n : Nat) (args : List (Bool × Sem Value)) (hf : methodCallForm n args [] = true) :
    methodCall (supE p1 p2) name apos pos env ov n args [] = (do
      let (f, first) ← holding [ov] (getMethod ov name (do return (← importBound (supE p1 p2) env).getD true))
      callWith pos f first args []) := by
  unfold methodCall
  rw [hf]
  have e : methodCallPos true (supE p1 p2) env apos pos = pure pos := by unfold methodCallPos; rw [hline]; rfl
  rw [e]
  rfl
theorem he_sup {env : Env} {p1 p2 : Pos} {name : Str} {apos pos : Pos} (hline : (apos.endLine == pos.line) = true) (l : List (Str × Pl)) (hf : ∀ pos, methodCallForm (l.map fun q : Str × Pl => Expr.Name q.1 q.2.1).length (backTo pos (starEach (l.map fun q : Str × Pl => Expr.Name q.1 q.2.1) env)) [] = true) : ∃ pl : Sem Bool, eval (.Call (.Attribute (supE p1 p2) name apos) (l.map fun q : Str × Pl => Expr.Name q.1 q.2.1) [] pos) env = (do
      let ov ← attributeBase (supE p1 p2) name env (eval (supE p1 p2) env)
      standAt apos.atName
      let (f, first) ← holding [ov] (getMethod ov name pl)
      callWith pos f first (backTo pos (starEach (l.map fun q : Str × Pl => Expr.Name q.1 q.2.1) env)) []) := by
  refine ⟨do return (← importBound (supE p1 p2) env).getD true, ?_⟩
  show (do
    let ov ← attributeBase (supE p1 p2) name env (eval (supE p1 p2) env)
    standAt apos.atName
    methodCall (supE p1 p2) name apos pos env ov ((l.map fun q : Str × Pl => Expr.Name q.1 q.2.1).length + 0) (backTo pos (starEach (l.map fun q : Str × Pl => Expr.Name q.1 q.2.1) env)) []) = _
  congr 1
  funext ov
  congr 1
  funext _
  exact mc_sup hline ov _ _ (hf pos)
theorem form_names {env : Env} : ∀ (l : List (Str × Pl)) (pos : Pos), (backTo pos (starEach (l.map fun q => .Name q.1 q.2.1) env)).all (!·.1) = true
  | [], _ => rfl
  | q :: l, pos => by
    rw [List.map_cons, starEach_name, backTo_cons, List.all_cons, form_names l pos]
    rfl
theorem evalArgs_names {M : Model} {A : Around} {E : Value → Shared → Prop} {s : Shared} {env : Env} {m : Str → Option Value} {f : Value} (hk : env.scope.kind = .function) (hn : s.heap.Ns env.locals m) (pos : Pos) (l : List (Str × Pl)) (vs : List Value) {Q : Args → Shared → Prop} (ne : l ≠ [])
    (hq : ∀ (i : Nat) (q : Str × Pl), l[i]? = some q → env.kindOf q.1 = some .local ∧ (q.1 == ("__debug__" : Str)) = false ∧ ∃ v, vs[i]? = some v ∧ m q.1 = some v) (hl : l.length = vs.length) (h : Q ⟨vs, []⟩ s) :
    wpAny M A (evalArgs f true (backTo pos (starEach (l.map fun q => .Name q.1 q.2.1) env)) []) Q E s := by
  have h0 := splice_names (M := M) (A := A) (E := E) hk hn pos l vs (fun us s' => Q ⟨us, []⟩ s') hq hl h
  cases l with
  | nil => exact absurd rfl ne
  | cons q l =>
    rw [List.map_cons, starEach_name, backTo_cons] at h0 ⊢
    exact evalArgs_plain h0
section
variable {prog : Program} {w : World} {A : Around} {E : Value → Shared → Prop} {R : Result → Shared → Prop} {K : Frag} {mg mb : Str → Option Value} {base : Heap} {nm : Str} {C : Addr} {fs : List Str}
theorem ex_init {fI : Addr} (T : ExTxt prog K mg nm C fs) (hfI : findIn K (.ref C) "__init__" = some (some (.ref fI))) {s : Shared} (KB : K.In base) (G : base.Ns mainGlobals mg) (BL : base.Ns builtinsNs mb) (bl : ∀ x : Str, x ≠ "__name__" → mb x = bootBuiltins x) (lim : base.NoLimit)
    (kb : ∀ b o, base.get? b = some o → s.heap.get? b = some o) {x t0 : Addr} {vs : List Value} (hx : s.heap.get? x = some (excO C t0)) (nb : base.get? x = none) (hroom : A.depth < recursionLimit) (hl : vs.length = fs.length) (h1 : 0 < fs.length)
    (hq : ∀ h' tk dx t1, InitEnd s.heap h' x C dx t1 (fs.zip vs) → base.get? dx = none → R (.ok (.ret .none)) { s with heap := h', toks := tk }) :
    codeAny (model prog w) A (.call (.ref fI) ⟨.ref x :: vs, []⟩) R s := by
  obtain ⟨fI', a1, a2, oc, od, qual, ps, l, p1, p2, p3, p4, p5, sc, doc, pm, ct, an, osl, cda, cc, ccl, cdd, vsC, ccs, file, tf, cl, cld, csl, lk, hcd, hline, hfs, hcode, hv2, hfile, hcell, htop, hk, hco, hgen, hnc, hself, hloc, hsup, hcls, hhead, hbind⟩ := T.fn
  rw [hfI] at a1
  cases a1
  obtain ⟨n, q, N, bs, bm, sn, sub, ab, col, dd, k0, k1, k2, k3, k5, hC, hbm, hal⟩ := T.cls
  have hclsIn : clsIn K C = some { name := n, bases := bs, mro := .ref C :: bm, ns := N, qualname := q, hasDict := true, slotNames := sn, subclasses := sub, abstract := ab, collection := col, hasDel := false } := by unfold clsIn; rw [hC] <;> rfl
  have X : K.In s.heap := KB.keeps kb
  have ndS : (("self" : Str) :: fs).Nodup := List.nodup_cons.mpr ⟨fun z => (hloc _ z).2.2 rfl, T.nd⟩
  have lenS : (("self" : Str) :: fs).length = (Value.ref x :: vs).length := by simp [hl]
  refine ks_codeAny_call_defAt (fd := fnX "__init__" qual ps (bdy l p1 p2 p3 p4 p5) sc [("__class__", cc)] .none .none doc pm an (.ref cda) ct) (body := bdy l p1 p2 p3 p4 p5) (binds := (("self" : Str) :: fs).zip (Value.ref x :: vs)) hroom (X _ _ lk) rfl (lim.keeps kb) (codeRec_of X hcd) rfl
    (.of_eq (hbind _ (by simp [hl]))) hnc (fun y hy => ?_) (fun h₀ hns k0' => ?_) hco hgen hk
  · rcases List.mem_cons.mp (List.of_mem_zip hy).1 with e | e
    · rw [e]; exact hself
    · exact (hloc _ e).1
  have kb0 : ∀ b o, base.get? b = some o → h₀.get? b = some o := fun b o e => k0' b o (kb b o e)
  have X0 : K.In h₀ := KB.keeps kb0
  have hx0 := k0' _ _ hx
  have mself : (((("self" : Str) :: fs).zip (Value.ref x :: vs)).reverse.lookup ("self" : Str)) = some (Value.ref x) := zip_rev_lookup ndS lenS (i := 0) rfl rfl
  have mf : ∀ (i : Nat) (f : Str) (v : Value), fs[i]? = some f → vs[i]? = some v → (((("self" : Str) :: fs).zip (Value.ref x :: vs)).reverse.lookup f) = some v := fun i f v e1 e2 => zip_rev_lookup ndS lenS (i := i + 1) (by simpa using e1) (by simpa using e2)
  obtain ⟨ar, har, harg⟩ : ∃ ar, (ps.posonlyargs ++ ps.args).head? = some ar ∧ ar.arg = "self" := by
    cases e : (ps.posonlyargs ++ ps.args).head? with
    | none => rw [e] at hhead; cases hhead
    | some ar => rw [e] at hhead; exact ⟨ar, rfl, Option.some.inj hhead⟩
  obtain ⟨hp, g, dr, tk, os⟩ := s
  have lenL : l.length = vs.length := by rw [hl, ← hfs, List.length_map]
  have inL : ∀ (i : Nat) (q : Str × Pl), l[i]? = some q → fs[i]? = some q.1 := fun i q e => by rw [← hfs, List.getElem?_map, e]; rfl
  have allL : ∀ (i : Nat) (q : Str × Pl), l[i]? = some q → ∃ v, vs[i]? = some v ∧ (((("self" : Str) :: fs).zip (Value.ref x :: vs)).reverse.lookup q.1) = some v := fun i q e => by
    have hi : i < vs.length := by rw [← lenL]; exact (List.getElem?_eq_some_iff.mp e).1
    exact ⟨vs[i], List.getElem?_eq_getElem hi, mf i q.1 _ (inL i q e) (List.getElem?_eq_getElem hi)⟩
  have ne0 : l ≠ [] := fun z => by rw [z] at hfs; rw [← hfs] at h1; simp at h1
  have inter : ∀ L, interactive (callEnv (fnX "__init__" qual ps (bdy l p1 p2 p3 p4 p5) sc [("__class__", cc)] .none .none doc pm an (.ref cda) ct) L fI) = false := fun L => by
    show interactive (envX qual sc L fI (.ref cda) [("__class__", cc)]) = false
    simp [interactive, hk]
  show _root_.PySem.wpAt _ _ _ (execs (sSup l p1 p2 p3 p4 p5 :: l.map sSto) (envX qual sc hp.objs.size fI (.ref cda) [("__class__", cc)])) _ _ _
  have few3 : l.length ≤ 3 := by rw [lenL, hl]; exact T.few
  obtain ⟨pl, he⟩ := he_sup (env := envX qual sc hp.objs.size fI (.ref cda) [("__class__", cc)]) (p1 := p1) (p2 := p2) (name := "__init__") (apos := p3) (pos := p4) hline l fun pos => by
    unfold methodCallForm
    rw [form_names, List.length_map]
    simp
    omega
  refine ks_wpAt_execs_cons (ks_wpAt_Expr_any (ks_wpAt_MethodCall (pl := pl) (he := he) (ks_wpAt_super_base (env := envX qual sc hp.objs.size fI (.ref cda) [("__class__", cc)]) hsup hcls (by decide) rfl (X0 _ _ lk) rfl har rfl (X0 _ _ hcode) rfl hv2 hfile htop ?_)) (inter _))
  refine ks_loadName_global hk hsup (Calls.loadGlobal_builtin (env := envX qual sc hp.objs.size fI (.ref cda) [("__class__", cc)]) (G.keeps kb0) T.sup (BL.keeps kb0) ((bl _ (by decide +kernel)).trans (by decide +kernel)) ⟨rfl, ?_⟩)
  refine wpAny_loadName_free hk hcls rfl ⟨_, X0 _ _ hcell, rfl⟩ ?_
  refine wpAny_loadName_local hk (by rw [harg]; exact hself) hns (by rw [harg]; exact mself) ?_
  have hCh := X0 _ _ hC
  have hmro : mroIn K C (.ref C) = some true := by
    unfold mroIn
    rw [hclsIn, Option.bind_some]
    simp
  refine ks_wpAny_isType_cls hCh rfl ⟨rfl, ?_⟩
  refine ks_wpAny_call_super hCh rfl hx0 rfl (fun c e => by cases e) (looks_mroIn X0 hmro) (fun h2 e2 k2 => ?_)
  have X2 : K.In h2 := X0.keeps k2
  have hx2 := k2 _ _ hx0
  have xC : x ≠ C := fun z => by rw [z] at hx2; have := X2 _ _ hC; rw [hx2] at this; cases this
  have I2 : InstAt h2 x (excO C t0) C none := ⟨hx2, rfl, rfl, trivial⟩
  have sVE : mroIn K C (.type "ValueError") = some true := by
    unfold mroIn
    rw [hclsIn, Option.bind_some]
    have e : (Value.ref C :: bm).contains (.type "ValueError") = true := by rw [List.contains_cons, refsVE_contains "ValueError" _ hbm, (by decide +kernel : veTail.contains (.type "ValueError") = true), Bool.or_true]
    rw [if_neg (show ¬ (List.isEmpty (Value.ref C :: bm) = true) from Bool.false_ne_true), e]
  refine kxs_getMethod kxs_ValueError e2 (looks_opaque X2 T.op) (l₀ := .ref C :: bm) (l := bm) ((looks_clsIn X2 hclsIn).andThen .now) (by simp [List.dropWhile_cons]) X2 hal (I2.type.andThen (looks_mroIn X2 sVE)) xC (by decide) ?_
  refine kxs_callWith (i := "ValueError.__init__") (x := x) (plain_names p4 l) ?_
  have ns3 : (h2.push (kxs_mw "ValueError.__init__" x)).Ns hp.objs.size (fun y => (((("self" : Str) :: fs).zip (Value.ref x :: vs)).reverse.lookup y)) := by
    obtain ⟨o, es, ep, ho, r⟩ := hns
    exact ⟨o, es, ep, Heap.get?_push_of_some _ (k2 _ _ ho), r⟩
  have hx3 : (h2.push (kxs_mw "ValueError.__init__" x)).get? x = some (excO C t0) := Heap.get?_push_of_some _ hx2
  have hu3 : (h2.push (kxs_mw "ValueError.__init__" x)).get? h2.objs.size = some (kxs_mw "ValueError.__init__" x) := Heap.get?_push_at rfl rfl
  have hC3 : (h2.push (kxs_mw "ValueError.__init__" x)).get? C = some _ := Heap.get?_push_of_some _ (X2 _ _ hC)
  refine evalArgs_names (m := fun y => (((("self" : Str) :: fs).zip (Value.ref x :: vs)).reverse.lookup y)) hk ns3 p4 l vs ne0 (fun i q e => ?_) lenL ⟨hu3, ?_⟩
  · have hq := hloc _ (List.mem_of_getElem? (inL i q e))
    exact ⟨hq.1, hq.2.1, allL i q e⟩
  show wpAny _ _ (call (.ref h2.objs.size) ([] ++ vs)) _ _ _
  rw [List.nil_append]
  refine call_mw hC3 hx3 hu3 (by rw [hl]; exact Nat.le_trans T.few (by rw [sizeLine_eq]; decide)) fun h4 t1 k4 hx4 => ?_
  -- the stores
  have keep04 : ∀ b o, b ≠ x → h₀.get? b = some o → h4.get? b = some o := fun b o hb e => k4 b o hb (Heap.get?_push_of_some _ (k2 _ _ e))
  have keepS4 : ∀ b o, b ≠ x → hp.get? b = some o → h4.get? b = some o := fun b o hb e => keep04 b o hb (k0' b o e)
  have kb4 : ∀ b o, base.get? b = some o → h4.get? b = some o := fun b o e => keepS4 b o (fun z => by rw [z, nb] at e; cases e) (kb b o e)
  have X4 : K.In h4 := KB.keeps kb4
  have xL : hp.objs.size ≠ x := Nat.ne_of_gt (Heap.lt_size hx)
  have ns4 : h4.Ns hp.objs.size (fun y => (((("self" : Str) :: fs).zip (Value.ref x :: vs)).reverse.lookup y)) := by
    obtain ⟨o, es, ep, ho, r⟩ := hns
    exact ⟨o, es, ep, keep04 _ _ xL ho, r⟩
  have szL : hp.objs.size < h4.objs.size := ns4.lt
  cases l with
  | nil => exact absurd rfl ne0
  | cons q0 l' =>
    cases vs with
    | nil => cases lenL
    | cons v0 vs' =>
      obtain ⟨w0, e0, m0⟩ := allL 0 q0 rfl
      cases e0
      have f0 : q0.1 ∈ fs := List.mem_of_getElem? (inL 0 q0 rfl)
      refine _root_.PySem.wpAt_of_wpAny (wpAny_execs_cons (sto_step (x := x) (C := C) (ox := excO C t1) (od := none) X4 hk ns4 (hloc _ f0).1 (hloc _ f0).2.1 m0 hself mself ⟨hx4, rfl, rfl, trivial⟩ T.sa ?_))
      refine exc_osa X4 hx4 hclsIn (show refsVE (.ref C :: bm) = true from hbm) rfl (T.noF _ f0) fun h5 tk5 dx k5 dn dne hx5 hn5 => ?_
      have dn : h4.objs.size ≤ dx := dn
      have nbd : base.get? dx = none := by
        cases z : base.get? dx with
        | none => rfl
        | some o => exact absurd (Nat.lt_of_lt_of_le (Heap.lt_size (kb4 _ _ z)) dn) (Nat.lt_irrefl _)
      have fin : ∀ h6 tk6, (∀ b o, b ≠ dx → h5.get? b = some o → h6.get? b = some o) → h6.Ns1 dx (fun y => (fs.zip (v0 :: vs')).lookup y) → R (.ok (.ret .none)) ⟨h6, g, dr, tk6, os⟩ := fun h6 tk6 k6 n6 => by
        refine hq h6 tk6 dx t1 ⟨fun b o hb e => k6 b o ?_ (k5 b o hb (keepS4 b o hb e)), k6 _ _ (Ne.symm dne) hx5, ?_, dne, n6⟩ nbd
        · have z1 : b < hp.objs.size := Heap.lt_size e
          exact Nat.ne_of_lt (Nat.lt_of_lt_of_le z1 (Nat.le_trans (Nat.le_of_lt szL) dn))
        · show hp.objs.size ≤ dx
          omega
      have e5 : (fun y => if y = q0.1 then some v0 else none) = fun y => ([(q0.1, v0)] : List (Str × Value)).lookup y := funext fun y => by
        by_cases h : y = q0.1
        · subst h; simp [List.lookup]
        · have : (y == q0.1) = false := by simpa using h
          simp [List.lookup, this, h]
      rw [e5] at hn5
      have ne5 : envX qual sc hp.objs.size fI (.ref cda) [("__class__", cc)] = envX qual sc hp.objs.size fI (.ref cda) [("__class__", cc)] := rfl
      refine stores_run (x := x) (C := C) (dx := dx) (m := fun y => (((("self" : Str) :: fs).zip (Value.ref x :: v0 :: vs')).reverse.lookup y)) (env := envX qual sc hp.objs.size fI (.ref cda) [("__class__", cc)]) KB hk hclsIn (show refsVE (.ref C :: bm) = true from hbm) rfl T.sa hself mself nbd
        (by show hp.objs.size ≠ dx; omega) (Ne.symm dne) l' vs' [(q0.1, v0)] ⟨h5, g, dr, tk5, os⟩ (fun b o e => k5 b o (fun z => by rw [z, nb] at e; cases e) (kb4 b o e)) ?_ hx5 hn5 (by simp at few3 ⊢; omega) (by simpa using lenL) ?_ (fun i q e => ?_) fun h6 tk6 k6 n6 => ?_
      · obtain ⟨o, es, ep, ho, r⟩ := ns4
        exact ⟨o, es, ep, k5 _ _ xL ho, r⟩
      · have := T.nd
        rw [← hfs] at this
        simpa using this
      · have e' : (q0 :: l')[i + 1]? = some q := by simpa using e
        have hm := List.mem_of_getElem? (inL (i + 1) q e')
        obtain ⟨v, h1, h2⟩ := allL (i + 1) q e'
        exact ⟨T.noF _ hm, (hloc _ hm).1, (hloc _ hm).2.1, v, by simpa using h1, h2⟩
      · refine fin h6 tk6 k6 ?_
        rw [← hfs]
        simpa using n6
end
end DLX
end PySem
namespace PySem
namespace DLX
open Builtin Builtin.ObjectAttr
open PySem.W PySem.Calls PyProof.Rows PySem.HandSPX
section
variable {prog : Program} {w : World} {A : Around} {R : Result → Shared → Prop} {K : Frag} {mg mb : Str → Option Value} {base : Heap} {nm : Str} {C : Addr} {fs : List Str}
theorem ex_made (T : ExTxt prog K mg nm C fs) {s : Shared} (KB : K.In base) (G : base.Ns mainGlobals mg) (BL : base.Ns builtinsNs mb) (bl : ∀ x : Str, x ≠ "__name__" → mb x = bootBuiltins x) (lim : base.NoLimit)
    (kb : ∀ b o, base.get? b = some o → s.heap.get? b = some o) {vs : List Value} (hroom : A.depth + 1 < recursionLimit) (hl : vs.length = fs.length) (h1 : 0 < fs.length)
    (hq : ∀ h' tk e d, OwnMade s.heap h' e C d (fs.zip vs) → R (.ok (.ret (.ref e))) { s with heap := h', toks := tk }) :
    codeAny (model prog w) A (.call (.ref C) ⟨vs, []⟩) R s := by
  obtain ⟨fI, hi, ht, _⟩ := id T.fn
  obtain ⟨n, q, N, bs, bm, sn, sub, ab, col, dd, k0, k1, k2, k3, k5, hC, hbm, hal⟩ := T.cls
  have X : K.In s.heap := KB.keeps kb
  obtain ⟨hp, g, dr, tk, os⟩ := s
  have k : ∀ b o, hp.get? b = some o → ((hp.push (kdv_tup vs)).push (excO C hp.objs.size)).get? b = some o := fun b o e => Heap.get?_push_of_some _ (Heap.get?_push_of_some _ e)
  have hget : ((hp.push (kdv_tup vs)).push (excO C hp.objs.size)).get? (hp.objs.size + 1) = some (excO C hp.objs.size) := by heap_get
  have nb : base.get? (hp.objs.size + 1) = none := by
    cases e : base.get? (hp.objs.size + 1) with
    | none => rfl
    | some o => exact absurd (Nat.lt_of_succ_lt (Heap.lt_size (kb _ _ e))) (Nat.lt_irrefl _)
  refine call_own F.excBase_ValueError (fun X => refsVE_contains X bm hbm) (X _ _ hC) (looks_findIn X hi) (fun self => bind_fn X self ht) (by rw [hl]; exact Nat.le_trans T.few (by rw [sizeLine_eq]; decide)) ?_
  refine ex_init (s := ⟨(hp.push (kdv_tup vs)).push (excO C hp.objs.size), g, dr, tk, os⟩) T hi KB G BL bl lim (fun b o e => k b o (kb b o e)) hget nb ?_ hl h1 fun h' tk' dx t1 ⟨k', hx, dn, dne, hns⟩ _ => ?_
  · show A.depth + 1 < recursionLimit
    exact hroom
  · have old : ∀ b o, hp.get? b = some o → h'.get? b = some o := fun b o e => k' b o (Nat.ne_of_lt (Nat.lt_succ_of_lt (Heap.lt_size e))) (k b o e)
    have z : hp.objs.size + 1 + 1 ≤ dx := by
      first
        | (simpa only [Heap.size_push] using dn)
        | exact dn
        | (have q := dn; rw [Heap.size_push, Heap.size_push] at q; exact q)
    exact ⟨rfl, hq h' tk' (hp.objs.size + 1) dx ⟨old, Nat.le_succ _, ⟨_, _, hx, rfl, rfl, rfl, rfl⟩, Nat.le_trans (Nat.le_trans (Nat.le_succ _) (Nat.le_succ _)) z, dne, hns⟩⟩
end
end DLX
end PySem
namespace L2
open PySem PySem.Spec PyProof.Rows
theorem relO_zip : ∀ {fs : List Str} {vs : List V} {us : List Value}, Vals vs us → ∀ f, RelO ((fs.zip vs).lookup f) ((fs.zip us).lookup f)
  | [], _, _, _, f => trivial
  | _ :: _, _, _, .nil, f => trivial
  | g :: fs, _, _, .cons r t, f => by
    rw [List.zip_cons_cons, List.zip_cons_cons, List.lookup_cons, List.lookup_cons]
    cases f == g with
    | true => exact r
    | false => exact relO_zip t f
section
variable {X : Cx} {C : Addr} {nm : Str} {fs : List Str}
/-- Err(e1, ..): a new own dict d bears the fields -/
def tMkEx (C : Addr) (fs : List Str) (ta : TA) : St → Hp → XK → Prop := fun σ H Q => ta σ H fun vs H1 => vs.length = fs.length ∧ ∀ d, H1 d = none → Q (.ref C) (some d) (upd H1 d (.xd (fs.zip vs)))
theorem pmk_ex {a : Expr} {as : List Expr} {ta : TA} {p pos : Pos} {k : Nat} (T : PySem.DLX.ExTxt X.prog X.K X.mg nm C fs) (h1 : 0 < fs.length) (hr : Room k X.A) (ha : PA X (a :: as) ta) (hg : Gl X nm) (hdb : (nm == ("__debug__" : Str)) = false := by decide)
    (he : starEach (a :: as) X.env = (false, eval a X.env) :: starEach as X.env := by rfl) (hpl : (backTo pos (starEach as X.env)).any (·.1) = false := by rfl) :
    PMk X (.Call (.Name nm p) (a :: as) [] pos) (tMkEx C fs ta) := by
  intro pins s σ H Q I h
  refine wpAny_Call_Name_kw (ld_glob I hg T.gC ?_ hdb)
  refine PySem.W.callWith_K (h₀ := X.base) I.ok.mod.kin T.kC (thn (ha.run pos pins s σ H _ I h) fun us s1 hh => ?_) he hpl
  obtain ⟨vs, H1, I1, r1, hl, q1⟩ := hh
  refine ⟨I1.kIn, ?_⟩
  obtain ⟨mb, hmb, hbb⟩ := I1.mod.blt
  have bk := I1.bk
  have hlen : us.length = fs.length := by rw [← r1.length]; exact hl
  show wpAny _ _ (call (.ref C) us) _ _ _
  obtain ⟨hp, g, dr, tk, os⟩ := s1
  refine wpAny_call (PySem.DLX.ex_made T I1.mod.kin I1.mod.glob hmb hbb I1.mod.nolimit bk (by have := hr.dp; omega) hlen h1 fun h' tk' e d M => ?_)
  show MkP X pins σ Q (.ref e) ⟨h', g, dr, tk', os⟩
  obtain ⟨oe, fv, hoe, hc, hd, hdat, h1v⟩ := M.obj
  have hns := M.ns
  obtain ⟨G', g1, g2⟩ := restrict h' fun b => decide (b ≠ e)
  have gk : ∀ b, b ≠ e → G'.get? b = h'.get? b := fun b hb => g1 b (decide_eq_true hb)
  have ge : G'.get? e = none := g2 e (by simp)
  have old : ∀ b o, hp.get? b = some o → G'.get? b = some o := fun b o q => (gk b (Nat.ne_of_lt (Nat.lt_of_lt_of_le (Heap.lt_size q) M.new))).trans (M.keep b o q)
  have ob : ObjOk X.prog X.w (upd H1 d (.xd (fs.zip vs))) G' d (.xd (fs.zip vs)) :=
    ⟨_, hns.at (fun o q => (gk d M.dne).trans q), fun f => relO_zip r1 f⟩
  have J : Inv X pins σ (upd H1 d (.xd (fs.zip vs))) ⟨G', g, dr, tk', os⟩ := I1.laid (t' := tk') old M.dbig ob
  refine ⟨e, oe, fv, ⟨G', g, dr, tk', os⟩, _, .ref C, some d, rfl, J, fun b o q => ?_, ge, hoe, ⟨hc, hd⟩, hdat, h1v, ?_, rfl, I1.bare, raises_own T.exC T.tyC, q1 d (I1.hok.fresh M.dbig)⟩
  · by_cases hb : b = e
    · have q' : G'.get? b = some o := q
      rw [hb, ge] at q'; cases q'
    · exact (gk b hb).symm.trans q
  · rw [upd_ne (Ne.symm M.dne)]
    exact I1.hok.fresh M.new
/-- why.f, why the error that the suite holds (at a; its class cls, its dict d) -/
def tByEx (C : Addr) (a : Addr) (cls : Value) (d : Option Addr) (f : Str) (te : TE) : TE := fun σ H Q => te σ H fun x H1 => x = .ref a ∧ cls = .ref C ∧ ∃ (dd : Addr) (l : List (Str × V)) (v : V), d = some dd ∧ H1 dd = some (.xd l) ∧ l.lookup f = some v ∧ Q v H1
theorem pe_byEx {f : Str} {a : Addr} {oe : Obj} {cls : Value} {d : Option Addr} {pn : List (Addr × Obj)} {e : Expr} {te : TE} {pos : Pos} (T : PySem.DLX.ExTxt X.prog X.K X.mg nm C fs) (hf0 : f ∈ fs) (hz : Zc cls d oe) (hf : ∃ vs, oe.data = .fields vs) (he : PE (X.suite a ((a, oe) :: pn)) e te)
    (hb : attributeBase e f X.env (eval e X.env) = eval e X.env := by rfl) :
    PE (X.suite a ((a, oe) :: pn)) (.Attribute e f pos) (tByEx C a cls d f te) := by
  refine ⟨fun pins s σ H Q I h => ?_⟩
  refine attr_of hb (thn (he.run pins s σ H _ I h) fun u s1 hh => ?_)
  obtain ⟨x, H1, I1, rx, ex, ec, dd, l, v, ed, ea, el, q⟩ := hh
  subst ex
  obtain rfl : u = Value.ref a := rx
  subst ec
  subst ed
  obtain ⟨ha, _⟩ := I1.pin (a, oe) (List.mem_append_left _ List.mem_cons_self)
  obtain ⟨vs, hd⟩ := hf
  have hx : ObjOk X.prog X.w H1 s1.heap dd (.xd l) := I1.hok dd _ ea
  obtain ⟨mA, hns, hr⟩ := hx
  obtain ⟨od, ho, hl⟩ := lookIn_ns hns
  obtain ⟨u, hu, ru⟩ := RelO.some_of (v := v) (o := mA f) (by rw [← el]; exact hr f)
  have J : PySem.W.InstAt s1.heap a oe C (some od) := ⟨ha, hz.1, by unfold PySem.W.notCls; rw [hd] <;> rfl, by rw [hz.2]; exact ho⟩
  exact HandSPX.exc_get I1.kIn J T.ga T.gg T.exC (PySem.W.findObj_own T.hdC (T.noF f hf0) rfl (by rw [hl, hu])) (handed_of ru) ⟨v, H1, I1.tok _, ru, q⟩
end
end L2
namespace PySem
namespace DLX
open PySem.W PySem.Calls PyProof.Rows PySem.HandSPX
section
variable {prog : Program} {w : World} {A : Around} {E : Value → Shared → Prop} {s : Shared} {K : Frag} {x D : Addr} {ox : Obj} {od : Option Obj}
theorem findObj_dataD {C : Addr} {name : Str} {a g : Value} (gc : (clsIn K C).isSome = true) (ga : findIn K (.ref C) name = some (some a)) (hg : specialIn K a "__get__" = some (some g)) (ht : takesIn K a = some true) : findObj K C od name = some (.bind g a) := by
  obtain ⟨cdt, gc⟩ := Option.isSome_iff_exists.mp gc
  unfold findObj
  rw [gc, Option.bind_some, ga, Option.bind_some]
  simp [hg, ht]
theorem kin_classD {Q : Option Value → Shared → Prop} (c : L2.ExcC K D)
    (X : K.In s.heap) (I : InstAt s.heap x ox D od) (h : Q (some (.ref D)) { s with toks := s.toks + 1 }) : wpAny (model prog w) A (getAttr? (.ref x) "__class__") Q E s := by
  have gf : findObj K D od "__class__" = some (.bind (.builtin "getset_descriptor.__get__") (.builtin "object.__class__")) := findObj_dataD (by obtain ⟨cdt, gc, _⟩ := any_some c.hd; rw [gc]; rfl) c.ha c.hn c.ht
  obtain ⟨hp, g, d, t, os⟩ := s
  have w0 := I.type (M := model prog w)
  have w1 := looks_findIn (M := model prog w) X c.hg
  have L2 := looks_findIn (M := model prog w) X c.hk
  have w3 := looks_find (M := model prog w) X I gf
  have sub : Looks (model prog w) hp (isInstance (.ref x) (.type "BaseException")) true := w0.andThen (looks_subIn X c.hs)
  have x0 : (false && onTheHeap (Value.builtin "BaseException.__getattribute__")) = false := rfl
  have x2 : (Value.builtin "BaseException.__getattribute__" == Value.builtin "object.__getattribute__") = false := by decide +kernel
  have x1 : (onTheHeap (Value.ref D) && Value.builtin "BaseException.__getattribute__" == Value.builtin "object.__getattribute__") = false := by rw [x2]; rfl
  unfold getAttr? getAttrBy? getAttrBy
  refine wpAny_bind (wpAny_mkText (wpAny_bind (wpAny_attempt (wpAny_holding (wpAny_bind (w0.at (wpAny_bind (w1.at ?_))))))))
  show wpAny _ _ (if (onTheHeap (Value.ref D) && Value.builtin "BaseException.__getattribute__" == Value.builtin "object.__getattribute__") = true then _ else _) _ _ _
  rw [x1, if_neg Bool.false_ne_true]
  unfold getAttrByItsOwn hookBefore
  refine wpAny_bind ?_
  rw [if_pos (show onTheHeap (Value.ref D) = true from rfl)]
  refine L2.at ?_
  refine wpAny_bind (wpAny_attempt (wpAny_holding ?_))
  unfold callGetattribute
  rw [x0, if_neg Bool.false_ne_true]
  unfold boundAndCalled
  rw [PySem.F.excAttr_ValueError.ga.bind (.ref x)]
  refine wpAny_bind (wpAny_pure ?_)
  show wpAny _ _ (call (.builtin "BaseException.__getattribute__") [.ref x, .str "__class__" t]) _ _ _
  refine wpAny_call (codeAny_call_builtin PySem.F.excAttr_ValueError.ga.plain PySem.F.entry_bexc_ga ?_)
  refine @check_slot (model prog w) _ _ ⟨hp, g, d, t + 1, os⟩ "BaseException.__getattribute__" "BaseException" "__getattribute__" (.ref x) [.str "__class__" t] [] _ (by decide +kernel) (by decide +kernel) sub (PySem.F.args_bexc_ga (.ref x) (.str "__class__" t)) ?_
  unfold Builtin.«object.__getattribute__»
  refine wpAny_bind (wpAny_of_eq (a := ((Value.ref x : Value), [Value.str "__class__" t])) (by first | rfl | (simp only [slotArgs]; rfl)) ?_)
  refine wpAny_bind (wpAny_pure (wpAny_bind (w0.at (wpAny_bind (w3.at ?_)))))
  show wpAny _ _ (holding [Value.builtin "object.__class__"] (call (.builtin "getset_descriptor.__get__") [.builtin "object.__class__", .ref x, .ref D]) >>= ret) _ _ _
  refine wpAny_bind (wpAny_holding (wpAny_call (class_get (s := ⟨hp, g, d, t + 1, os⟩) (ox := ox) (od := od) X I c.hm ?_)))
  refine wpAny_pure ?_
  show wpAny _ _ (handedOut (.ref D)) _ _ _
  rw [handedOut_of (v := .ref D) rfl]
  first
    | exact wpAny_pure (wpAny_pure h)
    | exact wpAny_pure h
    | exact wpAny_pure (wpAny_bind (wpAny_pure (wpAny_pure h)))
theorem kitx_excD (c : L2.ExcC K D) : KitX K (.ref x) (.ref D) (fun h => ∃ od, InstAt h x ox D od) where
  ty := fun _ _ _ ⟨_, I⟩ => I.type
  it := fun _ _ X _ => by
    obtain ⟨cdD, hcD, _⟩ := any_some c.hd
    unfold clsIn at hcD
    split at hcD
    · rename_i c' d' cd' sl' ho
      intro A' Q' E' s' k q
      unfold isType loadHead
      exact wpAny_bind (wpAny_loadPart (k _ _ (X _ _ ho)) (wpAny_pure q))
    · cases hcD
  ne := fun h tp dd its n sl X htp => by
    obtain ⟨cdD, hcD, _⟩ := any_some c.hd
    refine Bool.eq_false_iff.mpr fun q => ?_
    have e : D = tp := Value.ref.inj (beq_iff_eq.mp q)
    subst e
    unfold clsIn at hcD
    split at hcD
    · rename_i c' d' cd' sl' ho
      have z := (X _ _ ho).symm.trans htp
      cases z
    · cases hcD
  ca := fun X ⟨_, I⟩ k => kin_classD c X I k
end
end DLX
end PySem
namespace L2
open PySem PySem.Spec PyProof.Rows
/-- isinstance(why, X), why the error that the suite holds, with fields of its own -/
def rIsX (K : PySem.W.Frag) (cls : Value) (d : Option Addr) (a : Addr) : List V → Hp → VK → Prop := fun xs H Q => ∃ (D dd : Addr) (l : List (Str × V)) (c : V) (cv : Value) (b : Bool), cls = .ref D ∧ d = some dd ∧ H dd = some (.xd l) ∧ ExcC K D ∧
  xs = [.ref a, c] ∧ (∀ u, RelV c u → u = cv) ∧ PySem.W.kitOne K (.ref D) cv = some b ∧ Q (.bl b) H
theorem call_isX {X : Cx} {a : Addr} {cls : Value} {d : Option Addr} {oe : Obj} {pn : List (Addr × Obj)} (hz : Zc cls d oe) (hf : ∃ vs, oe.data = .fields vs) : CallR (X.suite a ((a, oe) :: pn)) (.builtin "isinstance") (rIsX X.K cls d a) := by
  intro pins s σ H xs us Q I r h
  obtain ⟨D, dd, l, c, cv, b, rfl, rfl, hH, C, rfl, hcv, e, q⟩ := h
  cases r with
  | cons rx rr =>
    cases rr with
    | cons rt rr =>
      cases rr
      cases rx
      have ec := hcv _ rt
      subst ec
      obtain ⟨hget, _⟩ := I.pin (a, oe) (List.mem_append.mpr (.inl List.mem_cons_self))
      obtain ⟨vs, hv⟩ := hf
      have hx : ObjOk X.prog X.w H s.heap dd (.xd l) := I.hok dd _ hH
      obtain ⟨mA, ⟨od, es, ep, ho, _⟩, _⟩ := hx
      have J : PySem.W.InstAt s.heap a oe D (some od) := by
        obtain ⟨oc, od', oda, osl⟩ := oe
        obtain ⟨h1, h2⟩ := hz
        dsimp only at h1 h2 hv
        subst h1 h2 hv
        exact ⟨hget, rfl, rfl, ho⟩
      exact PySem.W.kia_one (PySem.DLX.kitx_excD C) I.kIn ⟨some od, J⟩ e (fun z => nomatch z) fun tk => ⟨.bl b, H, I.kept (t' := tk) fun _ _ z => z, rfl, q⟩
end L2
namespace DL
open PySem L2
section
variable {K : PySem.W.Frag} {mg : Mg} {C : Cf} {Γ Γ' : List Sh}
/-- raise Err(e1, ..) -/
def tRaiseEx (C0 : Addr) (fs : List Str) (W : WX) (ta : TA) : TS := fun _ σ H => tMkEx C0 fs ta σ H fun cls d H' => W cls d σ H'
def sRaise (c : Nat) (fs : List Str) (fa : ER (List D)) : Env → Out := fun ρ => (fa ρ).out fun ds ρ => if ds.length = fs.length then .exc ⟨c, fs.zip ds⟩ ρ else .stuck
theorem zip_fst : ∀ {fs : List Str} {ds : List D}, ds.length = fs.length → (fs.zip ds).map (·.1) = fs ∧ (fs.zip ds).map (·.2) = ds
  | [], [], _ => ⟨rfl, rfl⟩
  | f :: fs, d :: ds, h => by
    obtain ⟨h1, h2⟩ := zip_fst (fs := fs) (ds := ds) (by simpa using h)
    exact ⟨by simp [h1], by simp [h2]⟩
  | [], _ :: _, h => by cases h
  | _ :: _, [], h => by cases h
theorem sok_raise {c : Nat} {C0 : Addr} {fs : List Str} {ta : TA} {fa : ER (List D)} (gC : mg (clsN c) = some (.ref C0)) (ag : C.ag Γ) (ha : AOk K mg C.W Γ ta fa) : SOk K mg C Γ Γ' (tRaiseEx C0 fs C.W.W ta) (sRaise c fs fa) := by
  intro B R H σ ρ D pw O hl
  unfold sRaise at hl
  refine ha B R H σ ρ _ pw O ?_
  cases e : fa ρ with
  | stuck => rw [e] at hl; exact hl
  | exc x ρ1 => rw [e] at hl; exact SLand.exc hl ag
  | ok ds ρ1 =>
    rw [e] at hl
    intro B1 H1 vs s1 O1 r1
    simp only [Res.out] at hl
    by_cases hn : ds.length = fs.length
    · rw [if_pos hn] at hl
      obtain ⟨z1, z2⟩ := zip_fst hn
      refine ⟨by rw [r1.length]; exact hn, fun d hd => ?_⟩
      exact hl B1 _ σ _ d _ Γ s1 (O1.sr.free hd) ag (O1.guard hd) Pin.refl ⟨C0, vs, gC, rfl, by dsimp only; rw [z1], by dsimp only; rw [z2]; exact r1⟩
    · rw [if_neg hn] at hl; exact hl.elim
/-! ### try -/
def scalD : D → Bool
  | .non => true | .bl _ => true | .int _ => true | .str _ => true | _ => false
theorem Rep.scal {B B' : Hp} {v : V} {d : D} (r : Rep K B v d) (h : scalD d = true) : Rep K B' v d := by
  cases r with
  | non => exact .non
  | bl b => exact .bl b
  | int i => exact .int i
  | str s => exact .str s
  | _ => cases h
theorem Reps.scal {B B' : Hp} : ∀ {vs : List V} {ds : List D}, Reps K B vs ds → ds.all scalD = true → Reps K B' vs ds
  | _, _, .nil, _ => .nil
  | _, _, .cons r t, h => by
    rw [List.all_cons, Bool.and_eq_true] at h
    exact .cons (r.scal h.1) (Reps.scal t h.2)
def Out.wipe (i : Nat) : Out → Out
  | .nx ρ => .nx (ρ.set i none)
  | .bk ρ => .bk (ρ.set i none)
  | .ct ρ => .ct (ρ.set i none)
  | .exc _ _ => .stuck
  | o => o
def Out.nox : Out → Out
  | .exc _ _ => .stuck
  | o => o
def sTryAs (i : Nat) (cs : List (Nat × Bool)) (fb : Env → Out) (fsu : Ex → Env → Out) : Env → Out := fun ρ => match fb ρ with
  | .exc e ρ' => match cs.lookup e.c with
    | some true => if (e.fs.map (·.2)).all scalD = true then (fsu e (ρ'.set i none)).wipe i else .stuck
    | some false => .exc e ρ'
    | none => .stuck
  | o => o
def sTry (cs : List (Nat × Bool)) (fb : Env → Out) (fsu : Env → Out) : Env → Out := fun ρ => match fb ρ with
  | .exc e ρ' => match cs.lookup e.c with
    | some true => (fsu ρ').nox
    | some false => .exc e ρ'
    | none => .stuck
  | o => o
/-- within the body of a try -/
def cfTry (C : Cf) (Γ : List Sh) (W' : WX) : Cf := { C with W := ⟨W', C.W.P, C.W.mono⟩, ag := fun Γ1 => Γ1 = Γ, hP := C.hP }
/-- what a suite knows of its error -/
def ExV (K : PySem.W.Frag) (mg : Mg) (e : Ex) (cls : Value) (l : List (Str × V)) : Prop := ∃ (C0 : Addr) (vs : List V), mg (clsN e.c) = some (.ref C0) ∧ cls = .ref C0 ∧ l = (e.fs.map (·.1)).zip vs ∧ ∀ B, Reps K B vs (e.fs.map (·.2))
def PSu (i : Nat) (a p : Addr) (l : List (Str × V)) : Hp → L2.St → Prop := fun R σ => σ[i]? = some (some (.ref a)) ∧ R p = some (.xd l)
theorem psu_mono {i : Nat} {a p : Addr} {l : List (Str × V)} : ∀ R R' σ, Same R R' → PSu i a p l R σ → PSu i a p l R' σ := fun _ _ _ s h => ⟨h.1, s _ _ h.2⟩
def cfSu (C : Cf) (i : Nat) (a p : Addr) (l : List (Str × V)) : Cf := { C with W := ⟨fun _ _ _ _ => False, PSu i a p l, psu_mono⟩, pn := i :: C.pn, hP := fun R σ σ' h q => ⟨(h i List.mem_cons_self).trans q.1, q.2⟩ }
theorem sok_try_as {c : Value} {i : Nat} {cs : List (Nat × Bool)} {tb : WX → TS} {ts : Addr → Value → Option Addr → TS} {fb : Env → Out} {fsu : Ex → Env → Out} (ag : C.ag Γ) (hl : C.Γl = Γ ∨ True) (hi : i ∉ C.pn) (hΓ : Γ[i]? = some .pu)
    (hcs : ∀ k b, cs.lookup k = some b → ∀ C0, mg (clsN k) = some (.ref C0) → PySem.W.exmOne K (.ref C0) c = some b)
    (hb : ∀ W', SOk K mg (cfTry C Γ W') Γ Γ' (tb W') fb)
    (hsu : ∀ a e cls p l, ExV K mg e cls l → SOk K mg (cfSu C i a p l) Γ Γ' (ts a cls (some p)) (fsu e)) :
    SOk K mg C Γ Γ' (fun D σ H => tb (wAs K c i ts C.W.W D) D σ H) (sTryAs i cs fb fsu) := by
  intro B R H σ ρ D pw O h
  unfold sTryAs at h
  refine hb (wAs K c i ts C.W.W D) B R H σ ρ D pw O ?_
  cases e : fb ρ with
  | nx ρ1 => rw [e] at h; exact h
  | bk ρ1 => rw [e] at h; exact h
  | ct ρ1 => rw [e] at h; exact h
  | rt d ρ1 =>
    rw [e] at h
    intro B' H' σ' v Γ1 sb ag1 O' p
    have ag1 : Γ1 = Γ := ag1
    subst ag1
    exact h B' H' σ' v _ sb ag O' p
  | stuck => rw [e] at h; exact h
  | exc x ρ1 =>
    rw [e] at h
    intro B' H' σ' cls p l Γ1 sb np ag1 O' pin xr
    have ag1 : Γ1 = Γ := ag1
    subst ag1
    simp only at h
    have xr0 := xr
    obtain ⟨C0, vs, g1, rfl, rfl, g4⟩ := xr
    cases e2 : cs.lookup x.c with
    | none => rw [e2] at h; exact h.elim
    | some b =>
      rw [e2] at h
      refine ⟨b, hcs _ _ e2 _ g1, fun hbt a ha => ?_, fun hbf => ?_⟩
      · subst hbt
        simp only at h
        by_cases hz : (x.fs.map (·.2)).all scalD = true
        · rw [if_pos hz] at h
          have nR : Same R (upd R p (.xd ((x.fs.map (·.1)).zip vs))) := same_upd np
          have hlen : i < σ'.length := by rw [O'.lσ]; exact (List.getElem?_eq_some_iff.mp hΓ).1
          have Os : Ok K Γ1 B' (upd R p (.xd ((x.fs.map (·.1)).zip vs))) H' (σ'.set i (some (.ref a))) (ρ1.set i none) := O'.drop (by simp) (by simp) fun j d hj => by
            by_cases z : j = i
            · subst z
              by_cases hl : j < ρ1.length
              · rw [List.getElem?_set_self hl] at hj; cases hj
              · rw [List.getElem?_eq_none (by simpa using hl)] at hj; cases hj
            · rw [List.getElem?_set_ne (Ne.symm z)] at hj ⊢
              exact ⟨hj, rfl⟩
          have pin2 : Pin C.pn σ (σ'.set i (some (.ref a))) := fun j hj => by
            rw [List.getElem?_set_ne (fun z => hi (by rw [z]; exact hj))]; exact pin j hj
          refine hsu a x _ p _ ⟨C0, vs, g1, rfl, rfl, fun B2 => g4.scal hz⟩ B' _ H' _ (ρ1.set i none) _ ⟨List.getElem?_set_self hlen, upd_same⟩ Os ?_
          have out : ∀ {Γ2 : List Sh} {B2 H2 : Hp} {σ2 : L2.St} {ρ2 : Env}, Ok K Γ2 B2 (upd R p (.xd ((x.fs.map (·.1)).zip vs))) H2 σ2 ρ2 → Ok K Γ2 B2 R H2 (σ2.set i none) (ρ2.set i none) := fun {Γ2 B2 H2 σ2 ρ2} O2 => (O2.weakR nR).drop (by simp) (by simp) fun j d hj => by
            by_cases z : j = i
            · subst z
              by_cases hl : j < ρ2.length
              · rw [List.getElem?_set_self hl] at hj; cases hj
              · rw [List.getElem?_eq_none (by simpa using hl)] at hj; cases hj
            · rw [List.getElem?_set_ne (Ne.symm z)] at hj ⊢
              exact ⟨hj, rfl⟩
          have pout : ∀ {σ2 : L2.St}, Pin (i :: C.pn) (σ'.set i (some (.ref a))) σ2 → Pin C.pn σ (σ2.set i none) := fun {σ2} q j hj => by
            rw [List.getElem?_set_ne (fun z => hi (by rw [z]; exact hj))]
            exact (q j (List.mem_cons_of_mem _ hj)).trans (pin2 j hj)
          have pout2 : ∀ {σ2 : L2.St}, Pin (i :: C.pn) (σ'.set i (some (.ref a))) σ2 → Pin C.pn σ σ2 := fun {σ2} q j hj => (q j (List.mem_cons_of_mem _ hj)).trans (pin2 j hj)
          cases e3 : fsu x (ρ1.set i none) with
          | stuck => rw [e3] at h; exact h
          | nx ρ3 => rw [e3] at h; exact fun B3 H3 σ3 s3 O3 p3 => h B3 H3 (σ3.set i none) (sb.trans s3) (out O3) (pout p3)
          | bk ρ3 => rw [e3] at h; exact fun B3 H3 σ3 s3 O3 p3 => h B3 H3 (σ3.set i none) (sb.trans s3) (out O3) (pout p3)
          | ct ρ3 => rw [e3] at h; exact fun B3 H3 σ3 s3 O3 p3 => h B3 H3 (σ3.set i none) (sb.trans s3) (out O3) (pout p3)
          | rt d ρ3 => rw [e3] at h; exact fun B3 H3 σ3 v Γ3 s3 a3 O3 p3 => h B3 H3 σ3 v Γ3 (sb.trans s3) a3 (O3.weakR nR) (pout2 p3)
          | exc y ρ3 => rw [e3] at h; exact h.elim
        · rw [if_neg hz] at h; exact h.elim
      · subst hbf
        simp only at h
        exact h B' H' σ' _ p _ Γ1 sb np ag O' pin xr0
/-- the suite of a clause without a name -/
def cfSu0 (C : Cf) : Cf := { C with W := ⟨fun _ _ _ _ => False, C.W.P, C.W.mono⟩, hP := C.hP }
theorem sok_try {c : Value} {cs : List (Nat × Bool)} {tb : WX → TS} {ts : Addr → Value → Option Addr → TS} {fb : Env → Out} {fsu : Env → Out} (ag : C.ag Γ)
    (hcs : ∀ k b, cs.lookup k = some b → ∀ C0, mg (clsN k) = some (.ref C0) → PySem.W.exmOne K (.ref C0) c = some b)
    (hb : ∀ W', SOk K mg (cfTry C Γ W') Γ Γ' (tb W') fb)
    (hsu : ∀ a cls d, SOk K mg (cfSu0 C) Γ Γ' (ts a cls d) fsu) :
    SOk K mg C Γ Γ' (fun D σ H => tb (wOnly K c ts C.W.W D) D σ H) (sTry cs fb fsu) := by
  intro B R H σ ρ D pw O h
  unfold sTry at h
  refine hb (wOnly K c ts C.W.W D) B R H σ ρ D pw O ?_
  cases e : fb ρ with
  | nx ρ1 => rw [e] at h; exact h
  | bk ρ1 => rw [e] at h; exact h
  | ct ρ1 => rw [e] at h; exact h
  | rt d ρ1 =>
    rw [e] at h
    intro B' H' σ' v Γ1 sb ag1 O' p
    have ag1 : Γ1 = Γ := ag1
    subst ag1
    exact h B' H' σ' v _ sb ag O' p
  | stuck => rw [e] at h; exact h
  | exc x ρ1 =>
    rw [e] at h
    intro B' H' σ' cls p l Γ1 sb np ag1 O' pin xr
    have ag1 : Γ1 = Γ := ag1
    subst ag1
    simp only at h
    have xr0 := xr
    obtain ⟨C0, vs, g1, rfl, rfl, g4⟩ := xr
    cases e2 : cs.lookup x.c with
    | none => rw [e2] at h; exact h.elim
    | some b =>
      rw [e2] at h
      refine ⟨b, hcs _ _ e2 _ g1, fun hbt a ha => ?_, fun hbf => ?_⟩
      · subst hbt
        simp only at h
        have nR : Same R (upd R p (.xd ((x.fs.map (·.1)).zip vs))) := same_upd np
        refine hsu a _ _ B' R H' σ' ρ1 _ (C.hP _ _ _ pin pw) (O'.weakR nR) ?_
        cases e3 : fsu ρ1 with
        | stuck => rw [e3] at h; exact h
        | nx ρ3 => rw [e3] at h; exact fun B3 H3 σ3 s3 O3 p3 => h B3 H3 σ3 (sb.trans s3) O3 (pin.trans p3)
        | bk ρ3 => rw [e3] at h; exact fun B3 H3 σ3 s3 O3 p3 => h B3 H3 σ3 (sb.trans s3) O3 (pin.trans p3)
        | ct ρ3 => rw [e3] at h; exact fun B3 H3 σ3 s3 O3 p3 => h B3 H3 σ3 (sb.trans s3) O3 (pin.trans p3)
        | rt d ρ3 => rw [e3] at h; exact fun B3 H3 σ3 v Γ3 s3 a3 O3 p3 => h B3 H3 σ3 v Γ3 (sb.trans s3) a3 O3 (pin.trans p3)
        | exc y ρ3 => rw [e3] at h; exact h.elim
      · subst hbf
        simp only at h
        exact h B' H' σ' _ p _ Γ1 sb np ag O' pin xr0
/-! ### why.f, isinstance(why, X) -/
def eWhy (e : Ex) (c : Nat) (f : Str) : ER D := fun ρ => if e.c = c then (match e.fs.lookup f with
  | some d => .ok d ρ
  | none => .stuck) else .stuck
theorem lookup_rep {f : Str} {d : D} : ∀ {fs : List (Str × D)} {vs : List V}, (∀ B, Reps K B vs (fs.map (·.2))) → fs.lookup f = some d → ∃ v, ((fs.map (·.1)).zip vs).lookup f = some v ∧ ∀ B, Rep K B v d
  | [], _, _, h => by cases h
  | (g, u) :: fs, vs, r, h => by
    cases vs with
    | nil => cases r (fun _ => none)
    | cons v vs =>
      have r1 : ∀ B, Rep K B v u := fun B => by cases r B with | cons a _ => exact a
      have r2 : ∀ B, Reps K B vs (fs.map (·.2)) := fun B => by cases r B with | cons _ b => exact b
      rw [List.lookup_cons] at h
      rw [List.map_cons, List.zip_cons_cons, List.lookup_cons]
      cases q : f == g with
      | true => rw [q] at h; cases h; exact ⟨v, rfl, r1⟩
      | false => rw [q] at h; exact lookup_rep r2 h
theorem eok_why {i c : Nat} {a p : Addr} {l : List (Str × V)} {e : Ex} {cls : Value} {f : Str} {C0 : Addr} {Wx : WX} (gC : mg (clsN c) = some (.ref C0)) (x : ExV K mg e cls l) : EOk K mg ⟨Wx, PSu i a p l, psu_mono⟩ Γ (tByEx C0 a cls (some p) f (tVar i)) .pu (eWhy e c f) := by
  intro B R H σ ρ Q pw O h
  unfold eWhy at h
  obtain ⟨C1, vs, g1, rfl, rfl, g4⟩ := x
  obtain ⟨p1, p2⟩ := pw
  by_cases hc : e.c = c
  · rw [if_pos hc] at h
    subst hc
    rw [gC] at g1
    cases g1
    cases q : e.fs.lookup f with
    | none => rw [q] at h; exact h.elim
    | some d =>
      rw [q] at h
      obtain ⟨v, h1, h2⟩ := lookup_rep g4 q
      exact ⟨_, p1, rfl, rfl, p, _, v, rfl, O.sr _ _ p2, h1, h B H v (Same.refl _) (O.pushP (h2 B))⟩
  · rw [if_neg hc] at h; exact h.elim
/-- is the error of class k? cs tells it by its own class -/
def eIsX (e : Ex) (cs : List (Nat × Bool)) : ER D := fun ρ => match cs.lookup e.c with
  | some b => .ok (.bl b) ρ
  | none => .stuck
theorem eok_isx {i : Nat} {a p Cx : Addr} {l : List (Str × V)} {e : Ex} {cls : Value} {cs : List (Nat × Bool)} {Wx : WX}
    (hcs : ∀ k b, cs.lookup k = some b → ∀ C0, mg (clsN k) = some (.ref C0) → ExcC K C0 ∧ PySem.W.kitOne K (.ref C0) (.ref Cx) = some b) (x : ExV K mg e cls l) :
    EOk K mg ⟨Wx, PSu i a p l, psu_mono⟩ Γ (tCB (rIsX K cls (some p) a) (tCons (tVar i) (tCons (tC (.ref Cx)) tNil))) .pu (eIsX e cs) := by
  intro B R H σ ρ Q pw O h
  unfold eIsX at h
  obtain ⟨C1, vs, g1, rfl, rfl, g4⟩ := x
  obtain ⟨p1, p2⟩ := pw
  cases q : cs.lookup e.c with
  | none => rw [q] at h; exact h.elim
  | some b =>
    rw [q] at h
    obtain ⟨h1, h2⟩ := hcs _ _ q _ g1
    exact ⟨_, p1, C1, p, _, .ref Cx, .ref Cx, b, rfl, rfl, O.sr _ _ p2, h1, rfl, fun u hu => hu, h2, h B H _ (Same.refl _) (O.pushP (.bl b))⟩
end
end DL
namespace DL
open PySem L2
section
variable {K : PySem.W.Frag} {mg : Mg} {W : Wc} {C : Cf} {Γ Γ' : List Sh} {s : Sh} {te ta tb : TE} {tt : TT} {fa fe : ER D} {ft : ER Bool}
/-! ### own things looked at: frozen for the time of a look -/
def pus (Γ : List Sh) : List Sh := Γ.map fun _ => .pu
theorem OwnL.toRep {B B' H : Hp} (sb : Same B B') : ∀ {l : LS} {v : V} {d : D} {f : List Addr}, OwnL K B H l v d f → (∀ p ∈ f, ∀ o, H p = some o → B' p = some o) → Rep K B' v d
  | .pu, _, _, _, ⟨r, _⟩, _ => r.mono sb
  | .ls, _, _, _, ⟨p, e1, e3, h⟩, k => by
    subst e1
    obtain ⟨o, h1, h2⟩ := h.there
    exact h2 _ sb (k p (by rw [e3]; exact List.mem_cons_self) _ h1)
theorem OwnLs.toReps {B B' H : Hp} (sb : Same B B') {ls : List LS} {vs : List V} {ds : List D} {fs : List Addr} (h : OwnLs K B H ls vs ds fs) : (∀ p ∈ fs, ∀ o, H p = some o → B' p = some o) → Reps K B' vs ds := by
  induction h with
  | nil => exact fun _ => .nil
  | cons h _ ih => exact fun k => .cons (h.toRep sb fun p hp => k p (List.mem_append_left _ hp)) (ih fun p hp => k p (List.mem_append_right _ hp))
theorem Own.toRep {B B' H : Hp} (sb : Same B B') : ∀ {s : Sh} {v : V} {d : D} {f : List Addr}, Own K B H s v d f → (∀ p ∈ f, ∀ o, H p = some o → B' p = some o) → Rep K B' v d
  | .lf _, _, _, _, h, k => OwnL.toRep sb h k
  | .rc _, _, _, _, ⟨p, vs, ds, fs, e1, e2, e3, h, r⟩, k => by
    subst e1 e2
    exact .lst (k p (by rw [e3]; exact List.mem_cons_self) _ h) (r.toReps sb fun q hq => k q (by rw [e3]; exact List.mem_cons_of_mem _ hq))
open Classical in
theorem Ok.freezeAll {B R H : Hp} {σ : L2.St} {ρ : Env} (O : Ok K Γ B R H σ ρ) : ∃ B' F, Same B B' ∧ Ok K (pus Γ) B' R H σ ρ ∧ Feet K Γ B R H σ ρ F ∧ ∀ i p, p ∈ F i → B' p = H p := by
  obtain ⟨F, W⟩ := O.own
  let B' : Hp := fun a => if B a = none then (if ∃ i, a ∈ F i then H a else none) else B a
  have sB : Same B B' := fun a o e => by show (if B a = none then _ else _) = _; rw [if_neg (by rw [e]; simp)]; exact e
  have hF : ∀ i p, p ∈ F i → B' p = H p := fun i p hp => by show (if B p = none then _ else _) = _; rw [if_pos (W.no i p hp).2.1, if_pos ⟨i, hp⟩]
  refine ⟨B', F, sB, ⟨fun a o e => ?_, O.sr, by simp [pus, O.lσ], by simp [pus, O.lρ], fun p o e => ?_, fun _ => [], ⟨fun i d s h hs => ?_, fun i p hp => absurd hp (by simp), fun _ => List.nodup_nil, fun i j p hp => absurd hp (by simp)⟩⟩, W, hF⟩
  · have e : (if B a = none then (if ∃ i, a ∈ F i then H a else none) else B a) = some o := e
    by_cases hb : B a = none
    · rw [if_pos hb] at e
      by_cases hi : ∃ i, a ∈ F i
      · rw [if_pos hi] at e; exact e
      · rw [if_neg hi] at e; cases e
    · rw [if_neg hb] at e; exact O.sb a o e
  · show (if B p = none then (if ∃ i, p ∈ F i then H p else none) else B p) = none
    rw [if_pos (O.br p o e)]
    by_cases hi : ∃ i, p ∈ F i
    · obtain ⟨i, hp⟩ := hi
      rw [(W.no i p hp).2.2] at e; cases e
    · rw [if_neg hi]
  · have hl : i < Γ.length := by have := (List.getElem?_eq_some_iff.mp hs).1; simpa [pus] using this
    obtain ⟨v, h1, h2⟩ := W.at_ i d Γ[i] h (by simp [hl])
    have : s = .pu := by unfold pus at hs; rw [List.getElem?_map] at hs; simp [hl] at hs; exact hs.symm
    subst this
    exact ⟨v, h1, h2.toRep sB fun p hp o ho => by rw [hF i p hp]; exact ho, rfl⟩
theorem Ok.thaw {B R R' H B' H' : Hp} {σ : L2.St} {ρ : Env} {F : Nat → List Addr} (O : Ok K Γ B R H σ ρ) (W : Feet K Γ B R H σ ρ F) (sB : Same B B') (hF : ∀ i p, p ∈ F i → B' p = H p) {B2 : Hp} (s1 : Same B' B2) (s2 : Same B2 H') (s3 : Same R' H') (s4 : ∀ p o, R' p = some o → B2 p = none) :
    Ok K Γ B R' H' σ ρ := by
  have keep : ∀ i p, p ∈ F i → ∀ o, H p = some o → B2 p = some o := fun i p hp o ho => s1 _ _ (by rw [hF i p hp]; exact ho)
  refine ⟨(sB.trans s1).trans s2, s3, O.lσ, O.lρ, fun p o e => (sB.trans s1).free (s4 p o e), F, ⟨fun i d s h hs => ?_, fun i p hp => ?_, W.nd, W.dj⟩⟩
  · obtain ⟨v, h1, h2⟩ := W.at_ i d s h hs
    exact ⟨v, h1, h2.at (Same.refl _) fun p hp o ho => s2 _ _ (keep i p hp o ho)⟩
  · obtain ⟨n1, n2, n3⟩ := W.no i p hp
    cases z : H p with
    | none => exact absurd z n1
    | some o =>
      have hb := keep i p hp o z
      refine ⟨by rw [s2 _ _ hb]; simp, n2, ?_⟩
      cases q : R' p with
      | none => rfl
      | some u => rw [s4 p u q] at hb; cases hb
theorem XLand.view {B B' R H : Hp} {σ : L2.St} {ρ ρ' : Env} {e : Ex} {F : Nat → List Addr} (O : Ok K Γ B R H σ ρ) (Wf : Feet K Γ B R H σ ρ F) (sB : Same B B') (hF : ∀ i p, p ∈ F i → B' p = H p) (hs : (e.fs.map (·.2)).all scalD = true)
    (h : XLand K mg W Γ B R σ e ρ) : XLand K mg W (pus Γ) B' R σ e ρ' := by
  intro B2 H2 cls p l s2 np O2 x
  obtain ⟨C0, vs, g1, g2, g3, g4⟩ := x
  exact h B H2 cls p l (Same.refl _) np (O.thaw Wf sB hF s2 O2.sb O2.sr O2.br) ⟨C0, vs, g1, g2, g3, g4.scal hs⟩
def eView (f : ER D) : ER D := fun ρ => match f ρ with
  | .ok d _ => if scalD d = true then .ok d ρ else .stuck
  | .exc e _ => if (e.fs.map (·.2)).all scalD = true then .exc e ρ else .stuck
  | .stuck => .stuck
theorem eok_view (h : EOk K mg W (pus Γ) te .pu fa) : EOk K mg W Γ te .pu (eView fa) := by
  intro B R H σ ρ Q pw O hl
  obtain ⟨B', F, sB, O', Wf, hF⟩ := O.freezeAll
  unfold eView at hl
  refine h B' R H σ ρ Q pw O' ?_
  cases e : fa ρ with
  | stuck => rw [e] at hl; exact hl
  | ok d ρ1 =>
    rw [e] at hl
    by_cases hd : scalD d = true
    · simp only [hd, if_true] at hl
      intro B2 H2 v s2 O2
      exact hl B H2 v (Same.refl _) ((O.thaw Wf sB hF s2 O2.sb O2.sr O2.br).pushP (O2.top.scal hd))
    · simp only [hd] at hl; exact hl.elim
  | exc x ρ1 =>
    rw [e] at hl
    by_cases hd : (x.fs.map (·.2)).all scalD = true
    · simp only [hd, if_true] at hl; exact XLand.view O Wf sB hF hd hl
    · simp only [hd] at hl; exact hl.elim
def tView (f : ER Bool) : ER Bool := fun ρ => match f ρ with
  | .ok d _ => .ok d ρ
  | .exc e _ => if (e.fs.map (·.2)).all scalD = true then .exc e ρ else .stuck
  | .stuck => .stuck
theorem tok_view (h : TOk K mg W (pus Γ) tt ft) : TOk K mg W Γ tt (tView ft) := by
  intro B R H σ ρ Q pw O hl
  obtain ⟨B', F, sB, O', Wf, hF⟩ := O.freezeAll
  unfold tView at hl
  refine h B' R H σ ρ Q pw O' ?_
  cases e : ft ρ with
  | stuck => rw [e] at hl; exact hl
  | ok d ρ1 =>
    rw [e] at hl
    intro B2 H2 s2 O2
    exact hl B H2 (Same.refl _) (O.thaw Wf sB hF s2 O2.sb O2.sr O2.br)
  | exc x ρ1 =>
    rw [e] at hl
    by_cases hd : (x.fs.map (·.2)).all scalD = true
    · simp only [hd, if_true] at hl; exact XLand.view O Wf sB hF hd hl
    · simp only [hd] at hl; exact hl.elim
/-! ### slots forgotten: the shape of what is empty is free -/
theorem sok_fgt {i : Nat} {s : Sh} {ts : TS} {f : Env → Out} (h : SOk K mg C (Γ.set i s) Γ' ts f) : SOk K mg C Γ Γ' ts (fun ρ => f (ρ.set i none)) := by
  intro B R H σ ρ D pw O hl
  have O1 : Ok K Γ B R H σ (ρ.set i none) := O.drop rfl (by simp) fun j d hj => by
    by_cases z : i = j
    · subst z
      by_cases hl : i < ρ.length
      · rw [List.getElem?_set_self hl] at hj; cases hj
      · rw [List.getElem?_eq_none (by simpa using hl)] at hj; cases hj
    · rw [List.getElem?_set_ne z] at hj; exact ⟨hj, rfl⟩
  refine h B R H σ (ρ.set i none) D pw (O1.reshape (by simp) fun j d hj => ?_) hl
  by_cases z : i = j
  · subst z
    by_cases hl : i < ρ.length
    · rw [List.getElem?_set_self hl] at hj; cases hj
    · rw [List.getElem?_eq_none (by simpa using hl)] at hj; cases hj
  · rw [List.getElem?_set_ne z]
theorem some_get {B R H : Hp} {σ : L2.St} {ρ : Env} {i : Nat} {d : D} {s : Sh} (O : Ok K Γ B R H σ ρ) (h : ρ[i]? = some (some d)) (hs : Γ[i]? = some s) : ∃ v, σ[i]? = some (some v) := by
  obtain ⟨F, W⟩ := O.own
  obtain ⟨v, h1, _⟩ := W.at_ i d s h hs
  exact ⟨v, h1⟩
/-! ### methods of own lists -/
def MOk (K : PySem.W.Frag) (r : V → List V → Hp → VK → Prop) (g : List D → List D → Option (D × List D)) : Prop :=
  ∀ (p : Addr) (vs : List V) (ds : List D) (xs : List V) (es : List D) (B H : Hp) (Q : VK) (d : D) (ds' : List D), H p = some (.lst vs) → Same B H → Reps K B vs ds → Reps K B xs es → g ds es = some (d, ds') →
    ∃ vs' w, Reps K B vs' ds' ∧ Rep K B w d ∧ (Q w (upd H p (.lst vs')) → r (.ref p) xs H Q)
def eMtO (i : Nat) (g : List D → List D → Option (D × List D)) (f : ER (List D)) : ER D := fun ρ => match ρ[i]? with
  | some (some (.lst _)) => (f ρ).bind fun es ρ' => match ρ'[i]? with
    | some (some (.lst ds)) => match g ds es with
      | some (d, ds') => .ok d (ρ'.set i (some (.lst ds')))
      | none => .stuck
    | _ => .stuck
  | _ => .stuck
theorem mtO_end {B R H : Hp} {σ : L2.St} {ρ : Env} {Q : VK} {i : Nat} {r : V → List V → Hp → VK → Prop} {g : List D → List D → Option (D × List D)} {v0 : V} {xs : List V} {es : List D} (hr : MOk K r g) (hs : Γ[i]? = some .ls) (O : Ok K Γ B R H σ ρ) (hv0 : σ[i]? = some (some v0)) (rx : Reps K B xs es)
    (hl : ELand K mg W Γ .pu B R σ Q (match ρ[i]? with
    | some (some (.lst ds)) => match g ds es with
      | some (d, ds') => .ok d (ρ.set i (some (.lst ds')))
      | none => .stuck
    | _ => .stuck)) : tyV K "list" v0 H ∧ r v0 xs H Q := by
  split at hl
  · rename_i ds he
    obtain ⟨p, vs, q2, q3, q4⟩ := O.getLs he hs
    rw [hv0] at q2; cases q2
    refine ⟨.inl ⟨rfl, vs, SqL.of q3⟩, ?_⟩
    cases e5 : g ds es with
    | none => rw [e5] at hl; exact hl.elim
    | some o =>
      obtain ⟨d, ds'⟩ := o
      rw [e5] at hl
      obtain ⟨vs', w, r1, r2, k⟩ := hr p vs ds xs es B H Q d ds' q3 O.sb q4 rx e5
      exact k (hl B _ w (Same.refl _) ((O.write he hs hv0 r1).pushP r2))
  · exact hl.elim
theorem eok_mt0 {i : Nat} {r : V → List V → Hp → VK → Prop} {g : List D → List D → Option (D × List D)} (hr : MOk K r g) (hs : Γ[i]? = some .ls) : EOk K mg W Γ (tBM0 K "list" r (tVar i)) .pu (eMtO i g aNil) := by
  intro B R H σ ρ Q pw O hl
  unfold eMtO at hl
  split at hl
  · rename_i ds0 e0
    obtain ⟨v0, hv0⟩ := some_get O e0 hs
    refine ⟨v0, hv0, mtO_end (mg := mg) (W := W) hr hs O hv0 .nil ?_⟩
    simp only [aNil, Res.bind] at hl
    rw [e0] at hl ⊢
    exact hl
  · exact hl.elim
theorem eok_mt {i : Nat} {r : V → List V → Hp → VK → Prop} {g : List D → List D → Option (D × List D)} {ta : TA} {f : ER (List D)} (hr : MOk K r g) (hs : Γ[i]? = some .ls) (ha : AOk K mg W Γ ta f) :
    EOk K mg W Γ (tBM K "list" r (tVar i) ta) .pu (eMtO i g f) := by
  intro B R H σ ρ Q pw O hl
  unfold eMtO at hl
  split at hl
  · rename_i ds0 e0
    obtain ⟨v0, hv0⟩ := some_get O e0 hs
    have ty : tyV K "list" v0 H := by
      obtain ⟨p, vs, q2, q3, q4⟩ := O.getLs e0 hs
      rw [hv0] at q2; cases q2
      exact .inl ⟨rfl, vs, SqL.of q3⟩
    refine ⟨v0, hv0, ty, ha B R H σ ρ _ pw O ?_⟩
    cases e : f ρ with
    | stuck => rw [e] at hl; exact hl
    | exc x ρ1 => rw [e] at hl; exact hl
    | ok es ρ1 =>
      rw [e] at hl
      simp only [Res.bind] at hl
      intro B2 H2 xs s2 O2 rx
      exact (mtO_end (mg := mg) (W := W) hr hs O2 hv0 rx (ELand.mono hl s2)).2
  · exact hl.elim
/-! append, pop, extend, reverse, clear, insert -/
def gAppend : List D → List D → Option (D × List D) := fun ds es => match es with
  | [e] => if ds.length < sizeLine then some (.non, ds ++ [e]) else none
  | _ => none
theorem mok_append : MOk K rAppend gAppend := by
  intro p vs ds xs es B H Q d ds' hp sb r rx h
  unfold gAppend at h
  split at h
  · rename_i e
    split at h
    · rename_i hz
      cases h
      cases rx with
      | cons r1 r2 =>
        cases r2
        exact ⟨_, .non, r.snoc r1, .non, fun q => ⟨p, vs, _, rfl, rfl, hp, by rw [r.length]; exact hz, q⟩⟩
    · cases h
  · cases h
def gPop : List D → List D → Option (D × List D) := fun ds es => match es with
  | [] => (ds[ds.length - 1]?).map fun d => (d, ds.dropLast)
  | _ => none
theorem mok_pop : MOk K rPop gPop := by
  intro p vs ds xs es B H Q d ds' hp sb r rx h
  unfold gPop at h
  split at h
  · cases rx
    cases e : ds[ds.length - 1]? with
    | none => rw [e] at h; cases h
    | some y =>
      rw [e] at h; cases h
      obtain ⟨w, h1, h2⟩ := r.get e
      exact ⟨_, w, r.dropLast, h2, fun q => ⟨p, vs, w, rfl, rfl, hp, by rw [r.length]; exact h1, q⟩⟩
  · cases h
def gPopAt : List D → List D → Option (D × List D) := fun ds es => match es with
  | [.int i] => match ixN ds.length i with
    | some k => if ds.length ≤ sizeLine then (ds[k]?).map fun d => (d, ds.eraseIdx k) else none
    | none => none
  | _ => none
theorem mok_popAt : MOk K rPopAt gPopAt := by
  intro p vs ds xs es B H Q d ds' hp sb r rx h
  unfold gPopAt at h
  split at h
  · rename_i i
    cases rx with
    | cons r1 r2 =>
      cases r2; cases r1
      cases e1 : ixN ds.length i with
      | none => rw [e1] at h; cases h
      | some k =>
        rw [e1] at h
        dsimp only at h
        split at h
        · rename_i hz
          cases e : ds[k]? with
          | none => rw [e] at h; cases h
          | some y =>
            rw [e] at h; cases h
            obtain ⟨w, h1, h2⟩ := r.get e
            obtain ⟨z1, z2, z3, z4⟩ := ixN_seq e1
            have hn := line63
            exact ⟨_, w, r.eraseIdx k, h2, fun q => ⟨p, vs, i, k, w, rfl, rfl, hp, by omega, by omega, by rw [r.length]; exact z1, h1, q⟩⟩
        · cases h
  · cases h
def gExtend : List D → List D → Option (D × List D) := fun ds es => match es with
  | [.lst zs] => if ds.length + zs.length ≤ sizeLine then some (.non, ds ++ zs) else none
  | _ => none
theorem mok_extend : MOk K rExtend gExtend := by
  intro p vs ds xs es B H Q d ds' hp sb r rx h
  unfold gExtend at h
  split at h
  · rename_i zs
    split at h
    · rename_i hz
      cases h
      cases rx with
      | cons r1 r2 =>
        cases r2
        cases r1 with
        | lst hb rz =>
          rename_i b ws
          exact ⟨_, .non, r.append rz, .non, fun q => ⟨p, b, vs, ws, rfl, rfl, hp, sb _ _ hb, by rw [r.length, rz.length]; exact hz, q⟩⟩
    · cases h
  · cases h
/-! ### keys, dicts -/
def keyD : D → Option Key
  | .int i => some (.inl i)
  | .str s => some (.inr s)
  | _ => none
theorem keyD_ok {B : Hp} {v : V} {d : D} {k : Key} (r : Rep K B v d) (h : keyD d = some k) : v = kV k := by
  unfold keyD at h
  split at h
  · cases h; cases r; rfl
  · cases h; cases r; rfl
  · cases h
def getK (kds : List (Key × D)) (k : Key) : Option D := (kds.find? fun kd => decide (kd.1 = k)).map (·.2)
def putD (kds : List (Key × D)) (k : Key) (d : D) : List (Key × D) :=
  if (kds.any fun kd => decide (kd.1 = k)) = true then kds.map (fun kd => if kd.1 = k then (kd.1, d) else kd) else kds ++ [(k, d)]
theorem RepsK.get {B : Hp} {k : Key} {d : D} : ∀ {kvs : List (Key × V)} {kds : List (Key × D)}, RepsK K B kvs kds → getK kds k = some d → ∃ v, valV kvs k = some v ∧ Rep K B v d
  | _, _, .nil, h => by cases h
  | _, _, .cons (k := k0) (v := v0) (d := d0) hr r, h => by
    unfold getK at h
    unfold valV
    rw [List.find?_cons] at h ⊢
    by_cases e : k0 = k
    · simp only [e, decide_true] at h ⊢
      cases h
      exact ⟨v0, rfl, hr⟩
    · simp only [e, decide_false] at h ⊢
      exact RepsK.get r h
theorem RepsK.none {B : Hp} {k : Key} : ∀ {kvs : List (Key × V)} {kds : List (Key × D)}, RepsK K B kvs kds → getK kds k = none → valV kvs k = none
  | _, _, .nil, h => rfl
  | _, _, .cons (k := k0) (v := v0) (d := d0) hr r, h => by
    unfold getK at h
    unfold valV
    rw [List.find?_cons] at h ⊢
    by_cases e : k0 = k
    · simp only [e, decide_true] at h ⊢
      cases h
    · simp only [e, decide_false] at h ⊢
      exact RepsK.none r h
theorem RepsK.any {B : Hp} {k : Key} : ∀ {kvs : List (Key × V)} {kds : List (Key × D)}, RepsK K B kvs kds → (kvs.any fun kv => decide (kv.1 = k)) = kds.any fun kd => decide (kd.1 = k)
  | _, _, .nil => rfl
  | _, _, .cons hr r => by rw [List.any_cons, List.any_cons, RepsK.any r]
theorem RepsK.length {B : Hp} : ∀ {kvs : List (Key × V)} {kds : List (Key × D)}, RepsK K B kvs kds → kvs.length = kds.length
  | _, _, .nil => rfl
  | _, _, .cons _ r => by rw [List.length_cons, List.length_cons, RepsK.length r]
theorem RepsK.mapk {B : Hp} {k : Key} {v : V} {d : D} (h : Rep K B v d) : ∀ {kvs : List (Key × V)} {kds : List (Key × D)}, RepsK K B kvs kds → RepsK K B (kvs.map fun kv => if kv.1 = k then (kv.1, v) else kv) (kds.map fun kd => if kd.1 = k then (kd.1, d) else kd)
  | _, _, .nil => .nil
  | _, _, .cons (k := k0) hr r => by
    rw [List.map_cons, List.map_cons]
    by_cases e : k0 = k
    · simp only [e, if_true]; exact .cons h (RepsK.mapk h r)
    · simp only [e, if_false]; exact .cons hr (RepsK.mapk h r)
theorem RepsK.append {B : Hp} {ws : List (Key × V)} {es : List (Key × D)} : ∀ {kvs : List (Key × V)} {kds : List (Key × D)}, RepsK K B kvs kds → RepsK K B ws es → RepsK K B (kvs ++ ws) (kds ++ es)
  | _, _, .nil, h => h
  | _, _, .cons h r, q => .cons h (RepsK.append r q)
theorem RepsK.put {B : Hp} {k : Key} {v : V} {d : D} {kvs : List (Key × V)} {kds : List (Key × D)} (r : RepsK K B kvs kds) (h : Rep K B v d) : RepsK K B (putK kvs k v) (putD kds k d) := by
  unfold putK putD
  rw [r.any]
  split
  · exact r.mapk h
  · exact r.append (.cons h .nil)
/-! ### the item of an own list, of an own dict -/
def rIxDk : R2 := fun x y H Q => ∃ a v, x = .ref a ∧ DGet H a y (some v) ∧ Q v H
theorem ix_dk {X : Cx} (hu : X.A.units + 1 < cLine) : IxR X rIxDk := by
  intro value slice pins s σ H x y v u Q I rx ry h hs
  obtain ⟨a, w, rfl, g, q⟩ := h
  obtain rfl : v = Value.ref a := rx
  exact PyProof.Rows.tail_any (dict_typeIs I g) PySem.F.slot_dict_getitem.lookup (d_getItem hu I g ry fun w' s3 I3 rw' => ⟨w, H, I3, rw', q⟩) hs
def rIxA (K : PySem.W.Frag) : R2 := fun x y H Q => rIx K x y H Q ∨ rIxDk x y H Q
theorem ix_any {X : Cx} (hu : X.A.units + 1 < cLine) : IxR X (rIxA X.K) := ix_seq.or (ix_dk hu)
theorem ixN_lt {n : Nat} {i : Int} {j : Nat} (h : ixN n i = some j) : j < n := (ixN_seq h).2.1
theorem Reps.atI {B : Hp} {vs : List V} {ds : List D} {k : Int} {d : D} (r : Reps K B vs ds) (h : L2.atI ds k = some d) : ∃ v, L2.atI vs k = some v ∧ Rep K B v d := by
  unfold L2.atI at h ⊢
  rw [r.length]
  cases e : ixN ds.length k with
  | none => rw [e] at h; cases h
  | some j => rw [e] at h; exact r.get h
/-- the item of what an own place holds -/
def itemO (x y : D) : Option D := match x with
  | .lst ds => (match y with
    | .int k => L2.atI ds k
    | _ => none)
  | .dct kds => (keyD y).bind fun k => getK kds k
  | _ => none
theorem itemO_ok {B H : Hp} {p : Addr} {d y o : D} {u : V} {Q : VK} (h : OwnO K B H p d) (ry : Rep K B u y) (e : itemO d y = some o) : ∃ w, Rep K B w o ∧ (Q w H → rIxA K (.ref p) u H Q) := by
  cases h with
  | lst h r =>
    cases y with
    | int k =>
      cases ry
      obtain ⟨w, h1, h2⟩ := r.atI e
      exact ⟨w, h2, fun q => .inl (.inl ⟨p, _, k, w, rfl, rfl, SqL.of h, h1, q⟩)⟩
    | _ => cases e
  | dct h r =>
    simp only [itemO] at e
    cases ek : keyD y with
    | none => rw [ek] at e; cases e
    | some k =>
      rw [ek] at e
      obtain ⟨w, h1, h2⟩ := r.get e
      cases keyD_ok ry ek
      exact ⟨w, h2, fun q => .inr ⟨p, w, rfl, by rw [← h1]; exact DGet.k h, q⟩⟩
def eIxO (i : Nat) (fe : ER D) : ER D := fun ρ => match ρ[i]? with
  | some (some _) => (fe ρ).bind fun y ρ' => match ρ'[i]? with
    | some (some d) => ofOpt (itemO d y) ρ'
    | _ => .stuck
  | _ => .stuck
theorem eok_ixO {i : Nat} (hs : Γ[i]? = some .ls) (h : EOk K mg W Γ te .pu fe) : EOk K mg W Γ (tOp (rIxA K) (tVar i) te) .pu (eIxO i fe) := by
  intro B R H σ ρ Q pw O hl
  unfold eIxO at hl
  split at hl
  · rename_i d0 e0
    obtain ⟨v0, hv0⟩ := some_get O e0 hs
    refine ⟨v0, hv0, h B R H σ ρ _ pw O ?_⟩
    cases e : fe ρ with
    | stuck => rw [e] at hl; exact hl
    | exc x ρ1 => rw [e] at hl; exact hl
    | ok y ρ1 =>
      rw [e] at hl
      intro B2 H2 u s2 O2
      have ru := O2.top
      have P2 := O2.pop
      clear O2
      simp only [Res.bind] at hl
      split at hl
      · rename_i d he
        obtain ⟨p, q2, q3⟩ := P2.getO he hs
        rw [hv0] at q2; cases q2
        cases e5 : itemO d y with
        | none => rw [e5] at hl; exact hl.elim
        | some o =>
          rw [e5] at hl
          obtain ⟨w, h2, k⟩ := itemO_ok (Q := Q) q3 ru e5
          exact k (hl B2 H2 w s2 (P2.pushP h2))
      · exact hl.elim
  · exact hl.elim
/-! ### x[e] = v, x an own list, an own dict -/
def rSetA : TSet := fun o i v H Q => rSetL o i v H Q ∨ rSetD o i v H Q
theorem setAny {X : Cx} (hu : X.A.units + 1 < cLine) : PSet X rSetA := by
  intro pins s σ H o i v ov iv u Q I ro ri rv h
  rcases h with h | h
  · exact set_list pins s σ H o i v ov iv u Q I ro ri rv h
  · exact set_dict hu pins s σ H o i v ov iv u Q I ro ri rv h
def storeO (x y d : D) : Option D := match x with
  | .lst ds => (match y with
    | .int k => (ixN ds.length k).map fun j => .lst (ds.set j d)
    | _ => none)
  | .dct kds => if kds.length < sizeLine then (keyD y).map fun k => .dct (putD kds k d) else none
  | _ => none
def sSetI (i : Nat) (fv fi : ER D) : Env → Out := fun ρ => (fv ρ).out fun d ρ => match ρ[i]? with
  | some (some _) => (fi ρ).out fun k ρ => match ρ[i]? with
    | some (some x) => match storeO x k d with
      | some x' => .nx (ρ.set i (some x'))
      | none => .stuck
    | _ => .stuck
  | _ => .stuck
theorem sok_seti {i : Nat} {tv ti : TE} {fv fi : ER D} (ag : C.ag Γ) (hs : Γ[i]? = some .ls) (hv : EOk K mg C.W Γ tv .pu fv) (hi : EOk K mg C.W Γ ti .pu fi) : SOk K mg C Γ Γ (tAsg tv (gSub (tVar i) ti rSetA)) (sSetI i fv fi) := by
  intro B R H σ ρ Dn pw O hl
  unfold sSetI at hl
  refine hv B R H σ ρ _ pw O ?_
  cases e1 : fv ρ with
  | stuck => rw [e1] at hl; exact hl
  | exc x ρ1 => rw [e1] at hl; exact SLand.exc hl ag
  | ok d ρ1 =>
    rw [e1] at hl
    simp only [Res.out] at hl
    intro B1 H1 v s1 O1
    have rv := O1.top
    have O1 := O1.pop
    split at hl
    · rename_i d0 e0
      obtain ⟨v0, hv0⟩ := some_get O1 e0 hs
      refine ⟨v0, hv0, hi B1 R H1 σ ρ1 _ pw O1 ?_⟩
      cases e2 : fi ρ1 with
      | stuck => rw [e2] at hl; exact hl
      | exc x ρ2 => rw [e2] at hl; exact XLand.mono (SLand.exc hl ag) s1
      | ok kd ρ2 =>
        rw [e2] at hl
        simp only at hl
        intro B2 H2 u s2 O2
        have ru := O2.top
        have P2 := O2.pop
        clear O2
        split at hl
        · rename_i x he
          obtain ⟨p, q2, q3⟩ := P2.getO he hs
          rw [hv0] at q2; cases q2
          cases e5 : storeO x kd d with
          | none => rw [e5] at hl; exact hl.elim
          | some x' =>
            rw [e5] at hl
            have fin : ∀ {o : HO}, OwnO K B2 (upd H2 p o) p x' → Dn.nx σ (upd H2 p o) := fun {o} ho => hl B2 _ σ (s1.trans s2) (P2.writeO he hs hv0 ho) Pin.refl
            cases q3 with
            | lst h r =>
              cases kd with
              | int k =>
                rename_i ds
                cases ru
                simp only [storeO] at e5
                cases e6 : ixN ds.length k with
                | none => rw [e6] at e5; cases e5
                | some j =>
                  rw [e6] at e5; cases e5
                  exact .inl ⟨p, _, k, j, rfl, rfl, h, by rw [r.length]; exact e6, fin (.lst upd_same (r.set (rv.mono s2) j))⟩
              | _ => cases e5
            | dct h r =>
              simp only [storeO] at e5
              split at e5
              · rename_i hz
                cases ek : keyD kd with
                | none => rw [ek] at e5; cases e5
                | some k =>
                  rw [ek] at e5; cases e5
                  cases keyD_ok ru ek
                  exact .inr ⟨p, _, rfl, .inl ⟨_, k, h, rfl, by rw [r.length]; exact hz, rfl⟩, fin (.dct upd_same (r.put (rv.mono s2)))⟩
              · cases e5
        · exact hl.elim
    · exact hl.elim
end
end DL
namespace DL
open PySem L2
section
variable {K : PySem.W.Frag} {X : Cx}
/-! ## operators by their values -/
/-- an operator whose answer is a scalar -/
theorem r2_scal {r : R2} {g : D → D → Option D} (h : ∀ (B H : Hp) (v u : V) (d e o : D) (Q : VK), Same B H → Rep K B v d → Rep K B u e → g d e = some o → ∃ w, (∀ B, Rep K B w o) ∧ (Q w H → r v u H Q)) : R2Ok K r .pu g := by
  intro Γ B R H σ ρ v u d e o Q O rv ru hg k
  obtain ⟨w, hw, q⟩ := h B H v u d e o Q O.sb rv ru hg
  exact q (k B H w (Same.refl _) (O.pushP (hw B)))
theorem u1_scal {r : V → Hp → VK → Prop} {g : D → Option D} (h : ∀ (B H : Hp) (v : V) (d o : D) (Q : VK), Same B H → Rep K B v d → g d = some o → ∃ w, (∀ B, Rep K B w o) ∧ (Q w H → r v H Q)) : U1Ok K r .pu g := by
  intro Γ B R H σ ρ v d o Q O rv hg k
  obtain ⟨w, hw, q⟩ := h B H v d o Q O.sb rv hg
  exact q (k B H w (Same.refl _) (O.pushP (hw B)))
theorem c1_scal {r : List V → Hp → VK → Prop} {g : List D → Option D} (h : ∀ (B H : Hp) (vs : List V) (ds : List D) (o : D) (Q : VK), Same B H → Reps K B vs ds → g ds = some o → ∃ w, (∀ B, Rep K B w o) ∧ (Q w H → r vs H Q)) : C1Ok K r .pu g := by
  intro Γ B R H σ ρ vs ds o Q O rv hg k
  obtain ⟨w, hw, q⟩ := h B H vs ds o Q O.sb rv hg
  exact q (k B H w (Same.refl _) (O.pushP (hw B)))
theorem repI {B : Hp} {v : V} {i : Int} (r : Rep K B v (.int i)) : v = .int i := by cases r; rfl
theorem repS {B : Hp} {v : V} {i : Str} (r : Rep K B v (.str i)) : v = .str i := by cases r; rfl
theorem repB {B : Hp} {v : V} {i : Bool} (r : Rep K B v (.bl i)) : v = .bl i := by cases r; rfl
theorem repN {B : Hp} {v : V} (r : Rep K B v .non) : v = .non := by cases r; rfl
theorem repT {B : Hp} {v : V} {ds : List D} (r : Rep K B v (.tup ds)) : ∃ a vs, v = .ref a ∧ SqT K B a vs ∧ Reps K B vs ds := by cases r with | tup h r => exact ⟨_, _, rfl, h, r⟩
theorem repL {B : Hp} {v : V} {ds : List D} (r : Rep K B v (.lst ds)) : ∃ a vs, v = .ref a ∧ B a = some (.lst vs) ∧ Reps K B vs ds := by cases r with | lst h r => exact ⟨_, _, rfl, h, r⟩
theorem repD {B : Hp} {v : V} {kds : List (Key × D)} (r : Rep K B v (.dct kds)) : ∃ a kvs, v = .ref a ∧ B a = some (.dK kvs) ∧ RepsK K B kvs kds := by cases r with | dct h r => exact ⟨_, _, rfl, h, r⟩
theorem repX {B : Hp} {v : V} {ns : List Int} (r : Rep K B v (.scr ns)) : ∃ a, v = .ref a ∧ SqL K B a (ns.map V.int) := by cases r with | scr h => exact ⟨_, rfl, h⟩
theorem reps_int {B : Hp} : ∀ (ns : List Int), Reps K B (ns.map V.int) (ns.map D.int)
  | [] => .nil
  | n :: ns => .cons (.int n) (reps_int ns)

/-! + -/
def gAdd : D → D → Option D
  | .int i, .int j => some (.int (i + j))
  | .str i, .str j => if i.length + j.length ≤ sizeLine then some (.str (i ++ j)) else none
  | .tup xs, .tup ys => if xs.length + ys.length ≤ sizeLine then some (.tup (xs ++ ys)) else none
  | .lst xs, .lst ys => if xs.length + ys.length ≤ sizeLine then some (.lst (xs ++ ys)) else none
  | _, _ => none
def rAddS : R2 := fun x y H Q => ∃ i j, x = .str i ∧ y = .str j ∧ i.length + j.length ≤ sizeLine ∧ Q (.str (i ++ j)) H
def rAdd (K : PySem.W.Frag) : R2 := fun x y H Q => ((rI0 (fun i j => .int (i + j)) x y H Q ∨ rAddS x y H Q) ∨ rCatA K x y H Q) ∨ rCat x y H Q
theorem opAdd : OpR X (binaryOp .Add) (rAdd X.K) := ((op_add.or op_add_str).or op_catA).or op_cat
theorem r2_add : R2Ok K (rAdd K) .pu gAdd := by
  intro Γ B R H σ ρ v u d e o Q O rv ru hg k
  unfold gAdd at hg
  split at hg
  · cases hg; cases repI rv; cases repI ru
    exact .inl (.inl (.inl ⟨_, _, rfl, rfl, k B H _ (Same.refl _) (O.pushP (.int _))⟩))
  · split at hg
    · rename_i hz
      cases hg; cases repS rv; cases repS ru
      exact .inl (.inl (.inr ⟨_, _, rfl, rfl, hz, k B H _ (Same.refl _) (O.pushP (.str _))⟩))
    · cases hg
  · split at hg
    · rename_i hz
      cases hg
      obtain ⟨a, vs, rfl, ha, ra⟩ := repT rv
      obtain ⟨b, ws, rfl, hb, rb⟩ := repT ru
      refine .inl (.inr ⟨a, b, vs, ws, rfl, rfl, sameT O.sb ha, sameT O.sb hb, by rw [ra.length, rb.length]; exact hz, fun e => ?_, fun e1 e2 => ?_, fun e1 e2 p hp => ?_⟩)
      · subst e; cases ra
        exact k B H _ (Same.refl _) (O.pushP ru)
      · subst e2; cases rb
        exact k B H _ (Same.refl _) (O.pushP (by rw [List.append_nil]; exact rv))
      · obtain ⟨B', s', O'⟩ := O.layTup hp (ra.append rb)
        exact k B' _ _ s' O'
    · cases hg
  · split at hg
    · rename_i hz
      cases hg
      obtain ⟨a, vs, rfl, ha, ra⟩ := repL rv
      obtain ⟨b, ws, rfl, hb, rb⟩ := repL ru
      refine .inr ⟨a, b, vs, ws, rfl, rfl, O.sb _ _ ha, O.sb _ _ hb, by rw [ra.length, rb.length]; exact hz, fun p hp => ?_⟩
      obtain ⟨B', s', O'⟩ := O.layLst hp (ra.append rb)
      exact k B' _ _ s' O'
    · cases hg
  · cases hg
/-- list + list, the new list is own -/
def gCat : D → D → Option D
  | .lst xs, .lst ys => if xs.length + ys.length ≤ sizeLine then some (.lst (xs ++ ys)) else none
  | _, _ => none
theorem r2_cat : R2Ok K rCat .ls gCat := by
  intro Γ B R H σ ρ v u d e o Q O rv ru hg k
  unfold gCat at hg
  split at hg
  · split at hg
    · rename_i hz
      cases hg
      obtain ⟨a, vs, rfl, ha, ra⟩ := repL rv
      obtain ⟨b, ws, rfl, hb, rb⟩ := repL ru
      exact ⟨a, b, vs, ws, rfl, rfl, O.sb _ _ ha, O.sb _ _ hb, by rw [ra.length, rb.length]; exact hz, fun p hp => k B _ _ (Same.refl _) (O.pushN hp (ra.append rb))⟩
    · cases hg
  · cases hg
/-! in place: + of ints, texts (a tuple's += is +) -/
def gIAdd : D → D → Option D
  | .int i, .int j => some (.int (i + j))
  | .str i, .str j => if i.length + j.length ≤ sizeLine then some (.str (i ++ j)) else none
  | _, _ => none
def rIAdd : R2 := fun x y H Q => rI0 (fun i j => .int (i + j)) x y H Q ∨ rAddS x y H Q
theorem iopAdd : OpR X (inplaceOp .Add) rIAdd := iop_add.or iop_add_str
theorem r2_iadd : R2Ok K rIAdd .pu gIAdd := r2_scal fun B H v u d e o Q sb rv ru hg => by
  unfold gIAdd at hg
  split at hg
  · cases hg; cases repI rv; cases repI ru
    exact ⟨_, fun _ => .int _, fun q => .inl ⟨_, _, rfl, rfl, q⟩⟩
  · split at hg
    · rename_i hz
      cases hg; cases repS rv; cases repS ru
      exact ⟨_, fun _ => .str _, fun q => .inr ⟨_, _, rfl, rfl, hz, q⟩⟩
    · cases hg
  · cases hg
/-! - // % << ** on ints -/
def gI0 (f : Int → Int → Int) : D → D → Option D
  | .int i, .int j => some (.int (f i j))
  | _, _ => none
theorem r2_i0 {f : Int → Int → Int} : R2Ok K (rI0 fun i j => .int (f i j)) .pu (gI0 f) := r2_scal fun B H v u d e o Q sb rv ru hg => by
  unfold gI0 at hg
  split at hg
  · cases hg; cases repI rv; cases repI ru
    exact ⟨_, fun _ => .int _, fun q => ⟨_, _, rfl, rfl, q⟩⟩
  · cases hg
def gIC (c : Int → Int → Prop) [∀ i j, Decidable (c i j)] (f : Int → Int → Int) : D → D → Option D
  | .int i, .int j => if c i j then some (.int (f i j)) else none
  | _, _ => none
theorem r2_ic {c : Int → Int → Prop} [∀ i j, Decidable (c i j)] {f : Int → Int → Int} : R2Ok K (rI c fun i j => .int (f i j)) .pu (gIC c f) := r2_scal fun B H v u d e o Q sb rv ru hg => by
  unfold gIC at hg
  split at hg
  · split at hg
    · rename_i hc
      cases hg; cases repI rv; cases repI ru
      exact ⟨_, fun _ => .int _, fun q => ⟨_, _, rfl, rfl, hc, q⟩⟩
    · cases hg
  · cases hg
instance (i j : Int) : Decidable (CMul i j) := by unfold CMul; infer_instance
instance (i j : Int) : Decidable (CDiv i j) := by unfold CDiv; infer_instance
instance (i j : Int) : Decidable (CPow i j) := by unfold CPow; infer_instance
abbrev CMod (_ j : Int) : Prop := 0 < j
/-! a bool result -/
def gB0 (f : Int → Int → Bool) : D → D → Option D
  | .int i, .int j => some (.bl (f i j))
  | _, _ => none
theorem r2_b0 {f : Int → Int → Bool} : R2Ok K (rI0 fun i j => .bl (f i j)) .pu (gB0 f) := r2_scal fun B H v u d e o Q sb rv ru hg => by
  unfold gB0 at hg
  split at hg
  · cases hg; cases repI rv; cases repI ru
    exact ⟨_, fun _ => .bl _, fun q => ⟨_, _, rfl, rfl, q⟩⟩
  · cases hg
/-! * : ints, text * int, list * int, tuple * int -/
/-- text * int -/
def CRepS (x : Str) (n : Int) : Prop := -(2 ^ 62) ≤ n ∧ n < 2 ^ 62 ∧ x.length * n.toNat ≤ sizeLine
instance (x : Str) (n : Int) : Decidable (CRepS x n) := by unfold CRepS; infer_instance
def repS' (x : Str) (n : Int) : Str := ⟨(List.replicate n.toNat x.cps).foldl (· ++ ·) #[]⟩
theorem foldl_len (c : Array Nat) : ∀ (n : Nat) (acc : Array Nat), (List.foldl (fun x1 x2 => x1 ++ x2) acc (List.replicate n c)).size = acc.size + n * c.size
  | 0, acc => by simp
  | n + 1, acc => by
    rw [List.replicate_succ, List.foldl_cons, foldl_len c n (acc ++ c), Array.size_append, Nat.succ_mul]
    omega
def rRepS : R2 := fun x y H Q => ∃ z n, x = .str z ∧ y = .int n ∧ CRepS z n ∧ Q (.str (repS' z n)) H
theorem foldl_empty (n : Nat) : (List.replicate n (#[] : Array Nat)).foldl (· ++ ·) #[] = #[] := by
  induction n with
  | zero => rfl
  | succ n ih => rw [List.replicate_succ, List.foldl_cons]; exact ih
theorem op_repS : OpR X (binaryOp .Mult) rRepS := by
  intro pins s σ H x y v u Q I rx ry h
  obtain ⟨z, n, rfl, rfl, ⟨h1, h2, h3⟩, q⟩ := h
  obtain ⟨t, rfl⟩ := rx
  obtain ⟨t', rfl⟩ := ry
  have hs := sizeLine_eq
  refine PySem.P.mul_str (by rw [decide_eq_false (by omega), decide_eq_false (by omega)]; rfl) (fun g1 g2 => ?_) (fun g1 g2 => ?_) ?_
  · have hn : 0 < n := by omega
    have e1 : ((z.length : Nat) : Int) * n ≤ 16777216 := by
      have : ((z.length * n.toNat : Nat) : Int) ≤ 16777216 := by omega
      rw [Int.natCast_mul, Int.toNat_of_nonneg (by omega)] at this
      exact this
    have : (z.length : Int) ≤ (2 ^ 63 - 1) / n := by
      rw [Int.le_ediv_iff_mul_le hn]
      omega
    omega
  · unfold Builtin.Str.tooLong
    exact decide_eq_false (by omega)
  · by_cases g1 : n < 1
    · rw [if_pos g1]
      have e : repS' z n = Str.empty := by unfold repS'; rw [show n.toNat = 0 by omega]; rfl
      rw [e] at q
      exact ⟨by decide, ⟨.str Str.empty, H, I.tok _, ⟨_, rfl⟩, q⟩⟩
    · rw [if_neg g1]
      by_cases g2 : (n == 1 || z.length == 0) = true
      · rw [if_pos g2]
        have e : repS' z n = z := by
          unfold repS'
          rw [Bool.or_eq_true] at g2
          rcases g2 with g2 | g2
          · have : n = 1 := eq_of_beq g2
            subst this
            simp
          · have hz : z.length = 0 := eq_of_beq g2
            have : z.cps = #[] := by unfold Str.length at hz; exact Array.eq_empty_of_size_eq_zero hz
            rw [this, foldl_empty, ← this]
        rw [e] at q
        exact ⟨.str z, H, I, ⟨t, rfl⟩, q⟩
      · rw [if_neg g2]
        refine ⟨?_, ⟨.str (repS' z n), H, I.tok _, ⟨_, rfl⟩, q⟩⟩
        show (List.foldl (fun x1 x2 => x1 ++ x2) #[] (List.replicate n.toNat z.cps)).size ≤ sizeLine
        have e := foldl_len z.cps n.toNat #[]
        rw [e]
        show 0 + n.toNat * z.cps.size ≤ sizeLine
        rw [Nat.zero_add, Nat.mul_comm]
        exact h3

def gMul : D → D → Option D
  | .int i, .int j => if CMul i j then some (.int (i * j)) else none
  | .str x, .int n => if CRepS x n then some (.str (repS' x n)) else none
  | .lst xs, .int k => if -(2 ^ 63) ≤ k ∧ k < 2 ^ 63 ∧ xs.length * k.toNat ≤ sizeLine then some (.lst (List.replicate k.toNat xs).flatten) else none
  | .tup xs, .int k => if xs ≠ [] ∧ 2 ≤ k ∧ k ≤ 1000 ∧ xs.length ≤ 1000 then some (.tup (List.replicate k.toNat xs).flatten) else none
  | _, _ => none
def rMul (K : PySem.W.Frag) : R2 := fun x y H Q => ((rI CMul (fun i j => .int (i * j)) x y H Q ∨ rRepS x y H Q) ∨ rRep x y H Q) ∨ rRepT K x y H Q
theorem opMul : OpR X (binaryOp .Mult) (rMul X.K) := ((op_mul.or op_repS).or op_rep).or op_repT
theorem r2_mul : R2Ok K (rMul K) .pu gMul := by
  intro Γ B R H σ ρ v u d e o Q O rv ru hg k
  unfold gMul at hg
  split at hg
  · split at hg
    · rename_i hc
      cases hg; cases repI rv; cases repI ru
      exact .inl (.inl (.inl ⟨_, _, rfl, rfl, hc, k B H _ (Same.refl _) (O.pushP (.int _))⟩))
    · cases hg
  · split at hg
    · rename_i hz
      cases hg; cases repS rv; cases repI ru
      exact .inl (.inl (.inr ⟨_, _, rfl, rfl, hz, k B H _ (Same.refl _) (O.pushP (.str _))⟩))
    · cases hg
  · split at hg
    · rename_i hz
      cases hg; cases repI ru
      obtain ⟨a, vs, rfl, ha, ra⟩ := repL rv
      refine .inl (.inr ⟨a, _, vs, rfl, rfl, O.sb _ _ ha, hz.1, hz.2.1, by rw [ra.length]; exact hz.2.2, fun p hp => ?_⟩)
      obtain ⟨B', s', O'⟩ := O.layLst hp (ra.rep _)
      exact k B' _ _ s' O'
    · cases hg
  · split at hg
    · rename_i hz
      cases hg; cases repI ru
      obtain ⟨a, vs, rfl, ha, ra⟩ := repT rv
      refine .inr ⟨a, _, vs, rfl, rfl, sameT O.sb ha, fun e => ?_, hz.2.1, hz.2.2.1, by rw [ra.length]; exact hz.2.2.2, fun p hp => ?_⟩
      · subst e; cases ra; exact hz.1 rfl
      · obtain ⟨B', s', O'⟩ := O.layTup hp (ra.rep _)
        exact k B' _ _ s' O'
    · cases hg
  · cases hg
/-- list * int, the new list is own -/
def gRep : D → D → Option D
  | .lst xs, .int k => if -(2 ^ 63) ≤ k ∧ k < 2 ^ 63 ∧ xs.length * k.toNat ≤ sizeLine then some (.lst (List.replicate k.toNat xs).flatten) else none
  | _, _ => none
theorem r2_rep : R2Ok K rRep .ls gRep := by
  intro Γ B R H σ ρ v u d e o Q O rv ru hg k
  unfold gRep at hg
  split at hg
  · split at hg
    · rename_i hz
      cases hg; cases repI ru
      obtain ⟨a, vs, rfl, ha, ra⟩ := repL rv
      exact ⟨a, _, vs, rfl, rfl, O.sb _ _ ha, hz.1, hz.2.1, by rw [ra.length]; exact hz.2.2, fun p hp => k B _ _ (Same.refl _) (O.pushN hp (ra.rep _))⟩
    · cases hg
  · cases hg

/-! ## == and != -/
mutual
def toP : D → PyData
  | .non => .none | .bl b => .bool b | .int i => .int i | .str s => .str s | .tup ds => .tuple (toPs ds) | .lst ds => .list (toPs ds) | .dct _ => .none | .scr ns => .list (ns.map PyData.int)
def toPs : List D → List PyData
  | [] => []
  | d :: ds => toP d :: toPs ds
end
mutual
def noDct : D → Bool
  | .tup ds => noDcts ds | .lst ds => noDcts ds | .dct _ => false | _ => true
def noDcts : List D → Bool
  | [] => true
  | d :: ds => noDct d && noDcts ds
end
def shD (d : D) : Bool := noDct d && SeqAt.shaped (toP d)
mutual
theorem Rep.dp {B H : Hp} (sb : Same B H) : ∀ {v : V} {d : D}, Rep K B v d → noDct d = true → Dp K H v (toP d)
  | _, _, .non, _ => .non
  | _, _, .bl b, _ => .bl b
  | _, _, .int i, _ => .int i
  | _, _, .str s, _ => .str s
  | _, _, .tup h r, e => .tup (sameT sb h) (Reps.dp sb r e)
  | _, _, .lst h r, e => .lst (SqL.of (sb _ _ h)) (Reps.dp sb r e)
  | _, _, .scr (ns := ns) h, _ => .lst (sb.seq h) (dp_ints ns)
  | _, _, .dct h r, e => by cases e
theorem Reps.dp {B H : Hp} (sb : Same B H) : ∀ {vs : List V} {ds : List D}, Reps K B vs ds → noDcts ds = true → DpAll K H vs (toPs ds)
  | _, _, .nil, _ => .nil
  | _, _, .cons h r, e => by
    unfold noDcts at e
    rw [Bool.and_eq_true] at e
    exact .cons (Rep.dp sb h e.1) (Reps.dp sb r e.2)
theorem dp_ints {H : Hp} : ∀ ns : List Int, DpAll K H (ns.map V.int) (ns.map PyData.int)
  | [] => .nil
  | n :: ns => .cons (.int n) (dp_ints ns)
end
/-- == of what is no sequence -/
def scEq : D → D → Option Bool
  | .int i, .int j => some (decide (i = j))
  | .str i, .str j => some (decide (i = j))
  | .bl i, .bl j => some (decide (i = j))
  | .non, .non => some true
  | .non, .int _ => some false | .non, .bl _ => some false | .non, .str _ => some false
  | .int _, .non => some false | .bl _, .non => some false | .str _, .non => some false
  | .int _, .str _ => some false | .str _, .int _ => some false | .bl _, .str _ => some false | .str _, .bl _ => some false
  | _, _ => none
def eqD (d e : D) : Option Bool := match scEq d e with
  | some b => some b
  | none => if shD d = true ∧ shD e = true then some (PyData.eqv (toP d) (toP e)) else none
def gEq (d e : D) : Option D := (eqD d e).map .bl
def gNe (d e : D) : Option D := (eqD d e).map fun b => .bl (!b)
theorem scEq_ok {B : Hp} {v u : V} {d e : D} {b : Bool} (rv : Rep K B v d) (ru : Rep K B u e) (h : scEq d e = some b) : scal v u = true ∧ decide (v = u) = b := by
  unfold scEq at h
  split at h <;> first | (cases h; done) | skip
  all_goals (injection h with h; subst h; cases rv; cases ru; exact ⟨rfl, by simp⟩)
def rEq2 (K : PySem.W.Frag) : R2 := fun x y H Q => rEq x y H Q ∨ rEqD K x y H Q
def rNe2 (K : PySem.W.Frag) : R2 := fun x y H Q => rNe x y H Q ∨ rNeD K x y H Q
theorem opEq (hu : X.A.units + 64 < cLine) : OpR X (compareOp .Eq) (rEq2 X.K) := op_eq.or (op_eqD hu)
theorem opNe (hu : X.A.units + 64 < cLine) : OpR X (compareOp .NotEq) (rNe2 X.K) := op_ne.or (op_neD hu)
theorem r2_eq : R2Ok K (rEq2 K) .pu gEq := r2_scal fun B H v u d e o Q sb rv ru hg => by
  unfold gEq eqD at hg
  cases h : scEq d e with
  | some b =>
    rw [h] at hg
    cases hg
    obtain ⟨h1, h2⟩ := scEq_ok rv ru h
    exact ⟨_, fun _ => .bl _, fun q => .inl ⟨h1, by rw [h2]; exact q⟩⟩
  | none =>
    rw [h] at hg
    by_cases hs : shD d = true ∧ shD e = true
    · rw [if_pos hs] at hg
      cases hg
      obtain ⟨h1, h2⟩ := hs
      unfold shD at h1 h2
      rw [Bool.and_eq_true] at h1 h2
      exact ⟨_, fun _ => .bl _, fun q => .inr ⟨_, _, rv.dp sb h1.1, ru.dp sb h2.1, h1.2, h2.2, q⟩⟩
    · rw [if_neg hs] at hg; cases hg
theorem r2_ne : R2Ok K (rNe2 K) .pu gNe := r2_scal fun B H v u d e o Q sb rv ru hg => by
  unfold gNe eqD at hg
  cases h : scEq d e with
  | some b =>
    rw [h] at hg
    cases hg
    obtain ⟨h1, h2⟩ := scEq_ok rv ru h
    exact ⟨_, fun _ => .bl _, fun q => .inl ⟨h1, by rw [h2]; exact q⟩⟩
  | none =>
    rw [h] at hg
    by_cases hs : shD d = true ∧ shD e = true
    · rw [if_pos hs] at hg
      cases hg
      obtain ⟨h1, h2⟩ := hs
      unfold shD at h1 h2
      rw [Bool.and_eq_true] at h1 h2
      exact ⟨_, fun _ => .bl _, fun q => .inr ⟨_, _, rv.dp sb h1.1, ru.dp sb h2.1, h1.2, h2.2, q⟩⟩
    · rw [if_neg hs] at hg; cases hg
/-! is None, is not None -/
def isNon : D → Bool
  | .non => true
  | _ => false
def gIsN (d e : D) : Option D := match e with
  | .non => some (.bl (isNon d))
  | _ => none
def gNotN (d e : D) : Option D := match e with
  | .non => some (.bl (!isNon d))
  | _ => none
def rIsN : R2 := fun x y H Q => y = .non ∧ Q (.bl (decide (x = .non))) H
def rNotN : R2 := fun x y H Q => y = .non ∧ Q (.bl (!decide (x = .non))) H
theorem opIsN : OpR X (compareOp .Is) rIsN := op_isN
theorem opNotN : OpR X (compareOp .IsNot) rNotN := op_notN
theorem isNon_ok {B : Hp} {v : V} {d : D} (r : Rep K B v d) : decide (v = .non) = isNon d := by cases r <;> simp [isNon]
theorem r2_isN : R2Ok K rIsN .pu gIsN := r2_scal fun B H v u d e o Q sb rv ru hg => by
  unfold gIsN at hg
  split at hg
  · cases hg
    exact ⟨_, fun _ => .bl _, fun q => ⟨repN ru, by rw [isNon_ok rv]; exact q⟩⟩
  · cases hg
theorem r2_notN : R2Ok K rNotN .pu gNotN := r2_scal fun B H v u d e o Q sb rv ru hg => by
  unfold gNotN at hg
  split at hg
  · cases hg
    exact ⟨_, fun _ => .bl _, fun q => ⟨repN ru, by rw [isNon_ok rv]; exact q⟩⟩
  · cases hg
/-! in -/
def flatD : D → Bool
  | .non => true | .bl _ => true | .int _ => true | .str _ => true | _ => false
def flEq : D → D → Bool
  | .non, .non => true
  | .bl a, .bl b => a == b
  | .bl a, .int b => (if a then 1 else 0) == b
  | .int a, .bl b => a == (if b then 1 else 0)
  | .int a, .int b => a == b
  | .str a, .str b => a == b
  | _, _ => false
theorem flat_ok {B : Hp} {v : V} {d : D} (r : Rep K B v d) (h : flatD d = true) : flatV v = true := by cases r <;> first | rfl | cases h
theorem flEq_ok {B : Hp} {v u : V} {d e : D} (rv : Rep K B v d) (ru : Rep K B u e) (h : flatD d = true) (h2 : flatD e = true) : eqV v u = flEq d e := by
  cases rv <;> first | (cases h; done) | (cases ru <;> first | (cases h2; done) | rfl)
theorem flats_ok {B : Hp} : ∀ {vs : List V} {ds : List D}, Reps K B vs ds → ds.all flatD = true → vs.all flatV = true
  | _, _, .nil, _ => rfl
  | _, _, .cons r t, h => by
    rw [List.all_cons, Bool.and_eq_true] at h
    rw [List.all_cons, flat_ok r h.1, flats_ok t h.2]
    rfl
theorem inV_ok {B : Hp} {v : V} {d : D} (rv : Rep K B v d) (h : flatD d = true) : ∀ {vs : List V} {ds : List D}, Reps K B vs ds → ds.all flatD = true → inV v vs = ds.any fun y => flEq y d
  | _, _, .nil, _ => rfl
  | _, _, .cons r t, hh => by
    rw [List.all_cons, Bool.and_eq_true] at hh
    have ih := inV_ok rv h t hh.2
    unfold inV at ih ⊢
    rw [List.any_cons, List.any_cons, flEq_ok r rv hh.1 h, ih]
def inS (i j : Str) : Bool := match i.cps.toList with
  | [c] => decide (c ∈ j.cps.toList)
  | _ => !(Builtin.Str.occurrences j i 0 j.length 1).isEmpty
def inD : D → D → Option Bool
  | .str i, .str j => some (inS i j)
  | d, .tup xs => if flatD d = true ∧ xs.all flatD = true then some (xs.any fun y => flEq y d) else if shD d = true ∧ shD (.tup xs) = true then none else none
  | d, .lst xs => if flatD d = true ∧ xs.all flatD = true then some (xs.any fun y => flEq y d) else if shD d = true ∧ shD (.lst xs) = true then some ((toPs xs).any fun z => PyData.eqv z (toP d)) else none
  | .int i, .scr ns => some (ns.any fun n => n == i)
  | _, _ => none
def gIn (d e : D) : Option D := (inD d e).map .bl
def gNi (d e : D) : Option D := (inD d e).map fun b => .bl (!b)
def rInSg : R2 := fun x y H Q => ∃ (c : Nat) (z : Str), x = .str ⟨#[c]⟩ ∧ y = .str z ∧ Q (.bl (decide (c ∈ z.cps.toList))) H
def rNiSg : R2 := fun x y H Q => ∃ (c : Nat) (z : Str), x = .str ⟨#[c]⟩ ∧ y = .str z ∧ Q (.bl (!decide (c ∈ z.cps.toList))) H
def rInSt : R2 := fun x y H Q => ∃ i j, x = .str i ∧ y = .str j ∧ Q (.bl (!(Builtin.Str.occurrences j i 0 j.length 1).isEmpty)) H
def rNiSt : R2 := fun x y H Q => ∃ i j, x = .str i ∧ y = .str j ∧ Q (.bl (!(!(Builtin.Str.occurrences j i 0 j.length 1).isEmpty))) H
def rIn2 (K : PySem.W.Frag) : R2 := fun x y H Q => ((rInSg x y H Q ∨ rInSt x y H Q) ∨ rIn K false x y H Q) ∨ rInD K x y H Q
def rNi2 (K : PySem.W.Frag) : R2 := fun x y H Q => ((rNiSg x y H Q ∨ rNiSt x y H Q) ∨ rIn K true x y H Q) ∨ rNotInD K x y H Q
theorem opIn (hu : X.A.units + 65 < cLine) : OpR X (compareOp .In) (rIn2 X.K) := ((op_in_sign.or op_in_str).or op_in_seq).or (op_inD hu)
theorem opNi (hu : X.A.units + 65 < cLine) : OpR X (compareOp .NotIn) (rNi2 X.K) := ((op_notIn_sign.or op_notIn_str).or op_notIn_seq).or (op_notInD hu)
theorem any_scr {i : Int} : ∀ ns : List Int, inV (.int i) (ns.map V.int) = ns.any fun n => n == i
  | [] => rfl
  | n :: ns => by
    have := any_scr (i := i) ns
    unfold inV at this ⊢
    rw [List.map_cons, List.any_cons, List.any_cons, this]
    rfl
theorem all_scr : ∀ ns : List Int, (ns.map V.int).all flatV = true
  | [] => rfl
  | n :: ns => by rw [List.map_cons, List.all_cons, all_scr ns]; rfl
theorem one_sign {i : Str} {c : Nat} (h : i.cps.toList = [c]) : i = ⟨#[c]⟩ := by
  cases i with
  | mk cps =>
    simp only [Str.mk.injEq]
    apply Array.toList_inj.mp
    simpa using h
theorem inD_ok {B H : Hp} {v u : V} {d e : D} {b : Bool} (neg : Bool) {Q : VK} (sb : Same B H) (rv : Rep K B v d) (ru : Rep K B u e) (h : inD d e = some b) (q : Q (.bl (if neg then !b else b)) H) :
    if neg then rNi2 K v u H Q else rIn2 K v u H Q := by
  unfold inD at h
  split at h
  · rename_i i j
    cases h; cases repS rv; cases repS ru
    unfold inS at q
    generalize e0 : i.cps.toList = l at q
    rcases l with _ | ⟨c, _ | ⟨c2, l⟩⟩
    · cases neg
      · exact .inl (.inl (.inr ⟨i, j, rfl, rfl, q⟩))
      · exact .inl (.inl (.inr ⟨i, j, rfl, rfl, q⟩))
    · cases one_sign e0
      cases neg
      · exact .inl (.inl (.inl ⟨c, j, rfl, rfl, q⟩))
      · exact .inl (.inl (.inl ⟨c, j, rfl, rfl, q⟩))
    · cases neg
      · exact .inl (.inl (.inr ⟨i, j, rfl, rfl, q⟩))
      · exact .inl (.inl (.inr ⟨i, j, rfl, rfl, q⟩))
  · rename_i xs
    split at h
    · rename_i hf
      cases h
      obtain ⟨a, vs, rfl, ha, ra⟩ := repT ru
      have e := inV_ok rv hf.1 ra hf.2
      cases neg
      · exact .inl (.inr ⟨a, vs, rfl, .inr (sameT sb ha), flat_ok rv hf.1, flats_ok ra hf.2, by simp only [Bool.false_eq_true, if_false] at q ⊢; rw [e]; exact q⟩)
      · exact .inl (.inr ⟨a, vs, rfl, .inr (sameT sb ha), flat_ok rv hf.1, flats_ok ra hf.2, by simp only [if_true] at q ⊢; rw [e]; exact q⟩)
    · split at h <;> cases h
  · rename_i xs
    split at h
    · rename_i hf
      cases h
      obtain ⟨a, vs, rfl, ha, ra⟩ := repL ru
      have e := inV_ok rv hf.1 ra hf.2
      cases neg
      · exact .inl (.inr ⟨a, vs, rfl, .inl (SqL.of (sb _ _ ha)), flat_ok rv hf.1, flats_ok ra hf.2, by simp only [Bool.false_eq_true, if_false] at q ⊢; rw [e]; exact q⟩)
      · exact .inl (.inr ⟨a, vs, rfl, .inl (SqL.of (sb _ _ ha)), flat_ok rv hf.1, flats_ok ra hf.2, by simp only [if_true] at q ⊢; rw [e]; exact q⟩)
    · split at h
      · rename_i hs
        cases h
        obtain ⟨h1, h2⟩ := hs
        unfold shD at h1 h2
        rw [Bool.and_eq_true] at h1 h2
        have p2 := ru.dp sb h2.1
        cases neg
        · exact .inr ⟨_, _, rv.dp sb h1.1, p2, h1.2, h2.2, q⟩
        · exact .inr ⟨_, _, rv.dp sb h1.1, p2, h1.2, h2.2, q⟩
      · cases h
  · rename_i i ns
    cases h
    cases repI rv
    obtain ⟨a, rfl, ha⟩ := repX ru
    cases neg
    · exact .inl (.inr ⟨a, _, rfl, .inl (sb.seq ha), rfl, all_scr ns, by simp only [Bool.false_eq_true, if_false] at q ⊢; rw [any_scr]; exact q⟩)
    · exact .inl (.inr ⟨a, _, rfl, .inl (sb.seq ha), rfl, all_scr ns, by simp only [if_true] at q ⊢; rw [any_scr]; exact q⟩)
  · cases h
theorem r2_in : R2Ok K (rIn2 K) .pu gIn := r2_scal fun B H v u d e o Q sb rv ru hg => by
  unfold gIn at hg
  cases h : inD d e with
  | none => rw [h] at hg; cases hg
  | some b => rw [h] at hg; cases hg; exact ⟨_, fun _ => .bl _, fun q => inD_ok false sb rv ru h q⟩
theorem r2_ni : R2Ok K (rNi2 K) .pu gNi := r2_scal fun B H v u d e o Q sb rv ru hg => by
  unfold gNi at hg
  cases h : inD d e with
  | none => rw [h] at hg; cases hg
  | some b => rw [h] at hg; cases hg; exact ⟨_, fun _ => .bl _, fun q => inD_ok true sb rv ru h q⟩
/-! unary - -/
def gNeg : D → Option D
  | .int i => some (.int (-i))
  | _ => none
theorem u1_neg : U1Ok K (rU fun i => .int (-i)) .pu gNeg := u1_scal fun B H v d o Q sb rv hg => by
  unfold gNeg at hg
  split at hg
  · cases hg; cases repI rv; exact ⟨_, fun _ => .int _, fun q => ⟨_, rfl, q⟩⟩
  · cases hg
/-! subscripts -/
def gIx (x y : D) : Option D := match x with
  | .tup ds => (match y with
    | .int i => atI ds i
    | _ => none)
  | .lst ds => (match y with
    | .int i => atI ds i
    | _ => none)
  | .scr ns => (match y with
    | .int i => (atI ns i).map .int
    | _ => none)
  | .str z => (match y with
    | .int i => if z.length ≤ sizeLine then (atI z.cps.toList i).map fun c => .str ⟨#[c]⟩ else none
    | _ => none)
  | .dct kds => (keyD y).bind fun k => getK kds k
  | _ => none
theorem atI_map {α β : Type} {f : α → β} {xs : List α} {i : Int} {x : α} (h : atI xs i = some x) : atI (xs.map f) i = some (f x) := by
  unfold atI at h ⊢
  rw [List.length_map]
  cases e : ixN xs.length i with
  | none => rw [e] at h; cases h
  | some j => rw [e] at h; simp only [Option.bind_some] at h ⊢; rw [List.getElem?_map, h]; rfl
theorem r2_ix : R2Ok K (rIxA K) .pu gIx := by
  intro Γ B R H σ ρ v u d e o Q O rv ru hg k
  unfold gIx at hg
  split at hg
  · split at hg
    · cases repI ru
      obtain ⟨a, vs, rfl, ha, ra⟩ := repT rv
      obtain ⟨w, h1, h2⟩ := ra.atI hg
      exact .inl (.inr (.inl ⟨a, vs, _, w, rfl, rfl, sameT O.sb ha, h1, k B H w (Same.refl _) (O.pushP h2)⟩))
    · cases hg
  · split at hg
    · cases repI ru
      obtain ⟨a, vs, rfl, ha, ra⟩ := repL rv
      obtain ⟨w, h1, h2⟩ := ra.atI hg
      exact .inl (.inl ⟨a, vs, _, w, rfl, rfl, SqL.of (O.sb _ _ ha), h1, k B H w (Same.refl _) (O.pushP h2)⟩)
    · cases hg
  · rename_i ns
    split at hg
    · rename_i i
      cases repI ru
      obtain ⟨a, rfl, ha⟩ := repX rv
      cases e : atI ns i with
      | none => rw [e] at hg; cases hg
      | some x =>
        rw [e] at hg; cases hg
        exact .inl (.inl ⟨a, _, _, _, rfl, rfl, O.sb.seq ha, atI_map e, k B H _ (Same.refl _) (O.pushP (.int x))⟩)
    · cases hg
  · rename_i z
    split at hg
    · rename_i i
      split at hg
      · rename_i hz
        cases repI ru; cases repS rv
        cases e : atI z.cps.toList i with
        | none => rw [e] at hg; cases hg
        | some x =>
          rw [e] at hg; cases hg
          exact .inl (.inr (.inr ⟨z, _, _, rfl, rfl, hz, e, k B H _ (Same.refl _) (O.pushP (.str _))⟩))
      · cases hg
    · cases hg
  · obtain ⟨a, kvs, rfl, ha, ra⟩ := repD rv
    cases ek : keyD e with
    | none => rw [ek] at hg; cases hg
    | some y =>
      rw [ek] at hg
      obtain ⟨w, h1, h2⟩ := ra.get hg
      cases keyD_ok ru ek
      exact .inr ⟨a, w, rfl, by rw [← h1]; exact DGet.k (O.sb _ _ ha), k B H w (Same.refl _) (O.pushP h2)⟩
  · cases hg
end
end DL
namespace DL
open PySem L2
section
variable {K : PySem.W.Frag} {X : Cx} {mg : Mg} {W : Wc} {Γ : List Sh} {s : Sh} {te ta tb : TE} {fa fe : ER D}
/-! ## slices -/
def ELandO (K : PySem.W.Frag) (mg : Mg) (W : Wc) (Γ : List Sh) (B R : Hp) (σ : L2.St) (Q : Option Int → Hp → Prop) : Res (Option Int) → Prop
  | .ok o ρ => ∀ B' H', Same B B' → Ok K Γ B' R H' σ ρ → Q o H'
  | .exc e ρ => XLand K mg W Γ B R σ e ρ
  | .stuck => False
def POk (K : PySem.W.Frag) (mg : Mg) (W : Wc) (Γ : List Sh) (t : TO) (f : ER (Option Int)) : Prop := ∀ B R H σ ρ Q, W.P R σ → Ok K Γ B R H σ ρ → ELandO K mg W Γ B R σ Q (f ρ) → t σ H Q
def pNo : ER (Option Int) := fun ρ => .ok none ρ
def pSo (f : ER D) : ER (Option Int) := fun ρ => (f ρ).bind fun d ρ => match d with
  | .int i => .ok (some i) ρ
  | _ => .stuck
theorem pok_no : POk K mg W Γ tNoPart pNo := fun B R H σ ρ Q pw O h => h B H (Same.refl _) O
theorem pok_so (h : EOk K mg W Γ te .pu fe) : POk K mg W Γ (tPart te) (pSo fe) := by
  intro B R H σ ρ Q pw O hl
  unfold pSo at hl
  refine h B R H σ ρ _ pw O ?_
  cases e : fe ρ with
  | stuck => rw [e] at hl; exact hl
  | exc x ρ1 => rw [e] at hl; exact hl
  | ok d ρ1 =>
    rw [e] at hl
    intro B1 H1 v s1 O1
    simp only [Res.bind] at hl
    split at hl
    · cases repI O1.top
      exact ⟨_, rfl, hl B1 H1 s1 O1.pop⟩
    · exact hl.elim
def SlOk (K : PySem.W.Frag) (r : V → Option Int → Option Int → Hp → VK → Prop) (s : Sh) (g : D → Option Int → Option Int → Option D) : Prop :=
  ∀ (Γ : List Sh) (B R H : Hp) (σ : L2.St) (ρ : Env) (v : V) (d o : D) (lo hi : Option Int) (Q : VK), Ok K Γ B R H σ ρ → Rep K B v d → g d lo hi = some o →
    (∀ B' H' w, Same B B' → Ok K (s :: Γ) B' R H' (some w :: σ) (some o :: ρ) → Q w H') → r v lo hi H Q
def eSl (g : D → Option Int → Option Int → Option D) (f : ER D) (fl fh : ER (Option Int)) : ER D := fun ρ => (f ρ).bind fun d ρ => (fl ρ).bind fun lo ρ => (fh ρ).bind fun hi ρ => ofOpt (g d lo hi) ρ
theorem eok_sl {r : V → Option Int → Option Int → Hp → VK → Prop} {g : D → Option Int → Option Int → Option D} {tl th : TO} {fl fh : ER (Option Int)} (hr : SlOk K r s g) (h : EOk K mg W Γ te .pu fe) (hl : POk K mg W Γ tl fl) (hh : POk K mg W Γ th fh) :
    EOk K mg W Γ (tSl r te tl th) s (eSl g fe fl fh) := by
  intro B R H σ ρ Q pw O hd
  unfold eSl at hd
  refine h B R H σ ρ _ pw O ?_
  cases e : fe ρ with
  | stuck => rw [e] at hd; exact hd
  | exc x ρ1 => rw [e] at hd; exact hd
  | ok d ρ1 =>
    rw [e] at hd
    intro B1 H1 v s1 O1
    have rv := O1.top
    refine hl B1 R H1 σ ρ1 _ pw O1.pop ?_
    simp only [Res.bind] at hd
    cases e1 : fl ρ1 with
    | stuck => rw [e1] at hd; exact hd
    | exc x ρ2 => rw [e1] at hd; exact XLand.mono hd s1
    | ok lo ρ2 =>
      rw [e1] at hd
      intro B2 H2 s2 O2
      refine hh B2 R H2 σ ρ2 _ pw O2 ?_
      simp only at hd
      cases e2 : fh ρ2 with
      | stuck => rw [e2] at hd; exact hd
      | exc x ρ3 => rw [e2] at hd; exact XLand.mono hd (s1.trans s2)
      | ok hi ρ3 =>
        rw [e2] at hd
        intro B3 H3 s3 O3
        simp only [ofOpt] at hd
        cases e3 : g d lo hi with
        | none => rw [e3] at hd; exact hd.elim
        | some o =>
          rw [e3] at hd
          exact hr Γ B3 R H3 σ ρ3 v d o lo hi Q O3 (rv.mono (s2.trans s3)) e3 fun B4 H4 w s4 O4 => hd B4 H4 w (((s1.trans s2).trans s3).trans s4) O4
/-- the items of xs[lo:hi] -/
def cutD {α : Type} (xs : List α) (lo hi : Option Int) : List α := (xs.drop (HT.sIx xs.length 0 lo)).take (HT.sIx xs.length xs.length hi - HT.sIx xs.length 0 lo)
theorem Reps.cut {B : Hp} {vs : List V} {ds : List D} (r : Reps K B vs ds) (lo hi : Option Int) : Reps K B (cutV vs lo hi) (cutD ds lo hi) := by
  unfold cutV cutD
  rw [r.length]
  exact (r.drop _).take _
theorem cutV_map {α : Type} {f : α → V} (ns : List α) (lo hi : Option Int) : cutV (ns.map f) lo hi = (cutD ns lo hi).map f := by
  unfold cutV cutD
  rw [List.length_map, List.map_take, List.map_drop]
theorem cut_whole {α : Type} {xs : List α} {lo hi : Option Int} (h : HT.sIx xs.length 0 lo = 0 ∧ HT.sIx xs.length xs.length hi = xs.length) : cutD xs lo hi = xs := by
  unfold cutD
  rw [h.1, h.2]
  simp
def gSl (d : D) (lo hi : Option Int) : Option D := match d with
  | .tup ds => some (.tup (cutD ds lo hi))
  | .lst ds => some (.lst (cutD ds lo hi))
  | .scr ns => some (.lst ((cutD ns lo hi).map .int))
  | .str z => if z.length ≤ sizeLine then some (.str (cutS z lo hi)) else none
  | _ => none
def rSl (K : PySem.W.Frag) : V → Option Int → Option Int → Hp → VK → Prop := fun x lo hi H Q => (rSlL K x lo hi H Q ∨ rSlA K x lo hi H Q) ∨ rSlS x lo hi H Q
theorem slAny : SlR X (rSl X.K) := (sl_list.or sl_tupA).or sl_str
theorem slok_any : SlOk K (rSl K) .pu gSl := by
  intro Γ B R H σ ρ v d o lo hi Q O rv hg k
  unfold gSl at hg
  split at hg
  · rename_i ds
    cases hg
    obtain ⟨a, vs, rfl, ha, ra⟩ := repT rv
    refine .inl (.inr ⟨a, vs, rfl, sameT O.sb ha, fun hw => ?_, fun hw p hp => ?_⟩)
    · rw [ra.length] at hw
      exact k B H _ (Same.refl _) (O.pushP (by rw [cut_whole hw]; exact rv))
    · obtain ⟨B', s', O'⟩ := O.layTup hp (ra.cut lo hi)
      exact k B' _ _ s' O'
  · cases hg
    obtain ⟨a, vs, rfl, ha, ra⟩ := repL rv
    refine .inl (.inl ⟨a, vs, rfl, SqL.of (O.sb _ _ ha), fun p hp => ?_⟩)
    obtain ⟨B', s', O'⟩ := O.layLst hp (ra.cut lo hi)
    exact k B' _ _ s' O'
  · cases hg
    obtain ⟨a, rfl, ha⟩ := repX rv
    refine .inl (.inl ⟨a, _, rfl, O.sb.seq ha, fun p hp => ?_⟩)
    rw [cutV_map]
    obtain ⟨B', s', O'⟩ := O.layLst hp (reps_int (K := K) (B := B) _)
    exact k B' _ _ s' O'
  · split at hg
    · rename_i z hz
      cases hg; cases repS rv
      exact .inr ⟨z, rfl, hz, k B H _ (Same.refl _) (O.pushP (.str _))⟩
    · cases hg
  · cases hg
/-- a list's slice, own -/
def gSlO (d : D) (lo hi : Option Int) : Option D := match d with
  | .lst ds => some (.lst (cutD ds lo hi))
  | .scr ns => some (.lst ((cutD ns lo hi).map .int))
  | _ => none
theorem slok_own : SlOk K (rSlL K) .ls gSlO := by
  intro Γ B R H σ ρ v d o lo hi Q O rv hg k
  unfold gSlO at hg
  split at hg
  · cases hg
    obtain ⟨a, vs, rfl, ha, ra⟩ := repL rv
    exact ⟨a, vs, rfl, SqL.of (O.sb _ _ ha), fun p hp => k B _ _ (Same.refl _) (O.pushN hp (ra.cut lo hi))⟩
  · cases hg
    obtain ⟨a, rfl, ha⟩ := repX rv
    refine ⟨a, _, rfl, O.sb.seq ha, fun p hp => ?_⟩
    rw [cutV_map]
    exact k B _ _ (Same.refl _) (O.pushN hp (reps_int (K := K) (B := B) _))
  · cases hg
/-! ## built-ins -/
def gLen : List D → Option D
  | [.tup ds] => some (.int ds.length)
  | [.lst ds] => some (.int ds.length)
  | [.scr ns] => some (.int ns.length)
  | [.dct kds] => some (.int kds.length)
  | [.str z] => if z.length ≤ sizeLine then some (.int z.length) else none
  | _ => none
def rLen (K : PySem.W.Frag) : List V → Hp → VK → Prop := fun xs H Q => (∃ x n, xs = [x] ∧ LenV K x H n ∧ Q (.int n) H) ∨ ∃ a kvs, xs = [V.ref a] ∧ H a = some (.dK kvs) ∧ Q (.int kvs.length) H
theorem callLen : CallR X (.builtin "len") (rLen X.K) := call_len.or call_lenD
theorem reps1 {B : Hp} {vs : List V} {d : D} (r : Reps K B vs [d]) : ∃ v, vs = [v] ∧ Rep K B v d := by
  cases r with
  | cons h r => cases r; exact ⟨_, rfl, h⟩
theorem reps2 {B : Hp} {vs : List V} {d e : D} (r : Reps K B vs [d, e]) : ∃ v u, vs = [v, u] ∧ Rep K B v d ∧ Rep K B u e := by
  cases r with
  | cons h r => obtain ⟨u, rfl, h2⟩ := reps1 r; exact ⟨_, u, rfl, h, h2⟩
theorem c1_len : C1Ok K (rLen K) .pu gLen := c1_scal fun B H vs ds o Q sb rs hg => by
  unfold gLen at hg
  split at hg
  · cases hg
    obtain ⟨v, rfl, rv⟩ := reps1 rs
    obtain ⟨a, ws, rfl, ha, ra⟩ := repT rv
    exact ⟨_, fun _ => .int _, fun q => .inl ⟨_, ws.length, rfl, .inr ⟨ws, sameT sb ha, rfl⟩, by rw [ra.length]; exact q⟩⟩
  · cases hg
    obtain ⟨v, rfl, rv⟩ := reps1 rs
    obtain ⟨a, ws, rfl, ha, ra⟩ := repL rv
    exact ⟨_, fun _ => .int _, fun q => .inl ⟨_, ws.length, rfl, .inl ⟨ws, SqL.of (sb _ _ ha), rfl⟩, by rw [ra.length]; exact q⟩⟩
  · rename_i ns
    cases hg
    obtain ⟨v, rfl, rv⟩ := reps1 rs
    obtain ⟨a, rfl, ha⟩ := repX rv
    exact ⟨_, fun _ => .int _, fun q => .inl ⟨_, ns.length, rfl, .inl ⟨_, sb.seq ha, by simp⟩, q⟩⟩
  · cases hg
    obtain ⟨v, rfl, rv⟩ := reps1 rs
    obtain ⟨a, kvs, rfl, ha, ra⟩ := repD rv
    exact ⟨_, fun _ => .int _, fun q => .inr ⟨a, kvs, rfl, sb _ _ ha, by rw [ra.length]; exact q⟩⟩
  · split at hg
    · rename_i z hz
      cases hg
      obtain ⟨v, rfl, rv⟩ := reps1 rs
      cases repS rv
      exact ⟨_, fun _ => .int _, fun q => .inl ⟨_, z.length, rfl, ⟨hz, rfl⟩, q⟩⟩
    · cases hg
  · cases hg
def gAbs : List D → Option D
  | [.int i] => some (.int (if i < 0 then -i else i))
  | _ => none
def rAbs : List V → Hp → VK → Prop := fun xs H Q => ∃ i, xs = [.int i] ∧ Q (.int (if i < 0 then -i else i)) H
theorem callAbs : CallR X (.builtin "abs") rAbs := call_abs
theorem c1_abs : C1Ok K rAbs .pu gAbs := c1_scal fun B H vs ds o Q sb rs hg => by
  unfold gAbs at hg
  split at hg
  · cases hg
    obtain ⟨v, rfl, rv⟩ := reps1 rs
    cases repI rv
    exact ⟨_, fun _ => .int _, fun q => ⟨_, rfl, q⟩⟩
  · cases hg
def gInt : List D → Option D
  | [.int i] => some (.int i)
  | [.bl k] => some (.int (if k then 1 else 0))
  | _ => none
def rInt1 : List V → Hp → VK → Prop := fun xs H Q => (∃ i, xs = [.int i] ∧ Q (.int i) H) ∨ ∃ k, xs = [.bl k] ∧ Q (.int (if k then 1 else 0)) H
theorem callInt : CallR X (.type "int") rInt1 := call_int1
theorem c1_int : C1Ok K rInt1 .pu gInt := c1_scal fun B H vs ds o Q sb rs hg => by
  unfold gInt at hg
  split at hg
  · cases hg
    obtain ⟨v, rfl, rv⟩ := reps1 rs
    cases repI rv
    exact ⟨_, fun _ => .int _, fun q => .inl ⟨_, rfl, q⟩⟩
  · cases hg
    obtain ⟨v, rfl, rv⟩ := reps1 rs
    cases repB rv
    exact ⟨_, fun _ => .int _, fun q => .inr ⟨_, rfl, q⟩⟩
  · cases hg
def gStr : List D → Option D
  | [.int i] => if i.natAbs.log2 < 1920 then some (.str (toString i)) else none
  | _ => none
def rStrI : List V → Hp → VK → Prop := fun xs H Q => ∃ i, xs = [.int i] ∧ i.natAbs.log2 < 1920 ∧ Q (.str (toString i)) H
theorem callStr : CallR X (.type "str") rStrI := call_str_int
theorem c1_str : C1Ok K rStrI .pu gStr := c1_scal fun B H vs ds o Q sb rs hg => by
  unfold gStr at hg
  split at hg
  · split at hg
    · rename_i hz
      cases hg
      obtain ⟨v, rfl, rv⟩ := reps1 rs
      cases repI rv
      exact ⟨_, fun _ => .str _, fun q => ⟨_, rfl, hz, q⟩⟩
    · cases hg
  · cases hg
/-! max, min -/
def intsD : List D → Option (List Int)
  | [] => some []
  | .int i :: ds => (intsD ds).map (i :: ·)
  | _ => none
theorem intsD_eq : ∀ {ds : List D} {ns : List Int}, intsD ds = some ns → ds = ns.map D.int
  | [], ns, h => by cases h; rfl
  | .int i :: ds, ns, h => by
    unfold intsD at h
    cases e : intsD ds with
    | none => rw [e] at h; cases h
    | some ms => rw [e] at h; cases h; rw [intsD_eq e]; rfl
theorem reps_ints {B : Hp} : ∀ {vs : List V} {ns : List Int}, Reps K B vs (ns.map D.int) → vs = ns.map V.int
  | _, [], r => by cases r; rfl
  | _, n :: ns, r => by
    cases r with
    | cons h r => cases repI h; rw [reps_ints r]; rfl
/-- a list of ints -/
def listD : D → Option (List Int)
  | .lst ds => intsD ds
  | .scr ns => some ns
  | _ => none
theorem listD_ok {B : Hp} {v : V} {d : D} {ns : List Int} (r : Rep K B v d) (h : listD d = some ns) : ∃ a, v = .ref a ∧ SqL K B a (ns.map V.int) := by
  unfold listD at h
  split at h
  · obtain ⟨a, vs, rfl, ha, ra⟩ := repL r
    rw [intsD_eq h] at ra
    cases reps_ints ra
    exact ⟨a, rfl, SqL.of ha⟩
  · cases h
    exact repX r
  · cases h
def maxI : Int → List Int → Int
  | m, [] => m
  | m, n :: ns => maxI (if n > m then n else m) ns
def minI : Int → List Int → Int
  | m, [] => m
  | m, n :: ns => minI (if n < m then n else m) ns
theorem maxI_ok : ∀ (ns : List Int) (m : Int), m ≤ maxI m ns ∧ (∀ y ∈ ns, y ≤ maxI m ns) ∧ (maxI m ns = m ∨ maxI m ns ∈ ns)
  | [], m => ⟨Int.le_refl _, by simp, .inl rfl⟩
  | n :: ns, m => by
    obtain ⟨h1, h2, h3⟩ := maxI_ok ns (if n > m then n else m)
    have hm : m ≤ (if n > m then n else m) := by split <;> omega
    have hn : n ≤ (if n > m then n else m) := by split <;> omega
    show m ≤ maxI (if n > m then n else m) ns ∧ (∀ y ∈ n :: ns, y ≤ maxI (if n > m then n else m) ns) ∧ (maxI (if n > m then n else m) ns = m ∨ maxI (if n > m then n else m) ns ∈ n :: ns)
    refine ⟨Int.le_trans hm h1, fun y hy => ?_, ?_⟩
    · rcases List.mem_cons.mp hy with rfl | hy
      · exact Int.le_trans hn h1
      · exact h2 y hy
    · rcases h3 with h3 | h3
      · rw [h3]; split
        · exact .inr List.mem_cons_self
        · exact .inl rfl
      · exact .inr (List.mem_cons_of_mem _ h3)
theorem minI_ok : ∀ (ns : List Int) (m : Int), minI m ns ≤ m ∧ (∀ y ∈ ns, minI m ns ≤ y) ∧ (minI m ns = m ∨ minI m ns ∈ ns)
  | [], m => ⟨Int.le_refl _, by simp, .inl rfl⟩
  | n :: ns, m => by
    obtain ⟨h1, h2, h3⟩ := minI_ok ns (if n < m then n else m)
    have hm : (if n < m then n else m) ≤ m := by split <;> omega
    have hn : (if n < m then n else m) ≤ n := by split <;> omega
    show minI (if n < m then n else m) ns ≤ m ∧ (∀ y ∈ n :: ns, minI (if n < m then n else m) ns ≤ y) ∧ (minI (if n < m then n else m) ns = m ∨ minI (if n < m then n else m) ns ∈ n :: ns)
    refine ⟨Int.le_trans h1 hm, fun y hy => ?_, ?_⟩
    · rcases List.mem_cons.mp hy with rfl | hy
      · exact Int.le_trans h1 hn
      · exact h2 y hy
    · rcases h3 with h3 | h3
      · rw [h3]; split
        · exact .inr List.mem_cons_self
        · exact .inl rfl
      · exact .inr (List.mem_cons_of_mem _ h3)
def gMax : List D → Option D
  | [.int i, .int j] => some (.int (if j > i then j else i))
  | [d] => match listD d with
    | some (n :: ns) => some (.int (maxI n ns))
    | _ => none
  | _ => none
def gMin : List D → Option D
  | [.int i, .int j] => some (.int (if j < i then j else i))
  | [d] => match listD d with
    | some (n :: ns) => some (.int (minI n ns))
    | _ => none
  | _ => none
def rMax22 : List V → Hp → VK → Prop := fun xs H Q => ∃ i j, xs = [.int i, .int j] ∧ Q (.int (if j > i then j else i)) H
def rMin22 : List V → Hp → VK → Prop := fun xs H Q => ∃ i j, xs = [.int i, .int j] ∧ Q (.int (if j < i then j else i)) H
def rMaxA (K : PySem.W.Frag) : List V → Hp → VK → Prop := fun xs H Q => rMax22 xs H Q ∨ rMax K xs H Q
def rMinA (K : PySem.W.Frag) : List V → Hp → VK → Prop := fun xs H Q => rMin22 xs H Q ∨ rMin K xs H Q
theorem callMax (hc : X.calm = true) : CallR X (.builtin "max") (rMaxA X.K) := (call_max2 hc).or (cr_max hc)
theorem callMin (hc : X.calm = true) : CallR X (.builtin "min") (rMinA X.K) := (call_min2 hc).or (cr_min hc)
theorem c1_max : C1Ok K (rMaxA K) .pu gMax := c1_scal fun B H vs ds o Q sb rs hg => by
  unfold gMax at hg
  split at hg
  · cases hg
    obtain ⟨v, u, rfl, rv, ru⟩ := reps2 rs
    cases repI rv; cases repI ru
    exact ⟨_, fun _ => .int _, fun q => .inl ⟨_, _, rfl, q⟩⟩
  · split at hg
    · rename_i n ns e
      cases hg
      obtain ⟨v, rfl, rv⟩ := reps1 rs
      obtain ⟨a, rfl, ha⟩ := listD_ok rv e
      obtain ⟨h1, h2, h3⟩ := maxI_ok ns n
      refine ⟨_, fun _ => .int _, fun q => .inr ⟨a, n :: ns, rfl, sb.seq ha, by simp, fun m hm hy => ?_⟩⟩
      have e1 : maxI n ns ≤ m := hy _ (by rcases h3 with h3 | h3; · rw [h3]; exact List.mem_cons_self
                                          · exact List.mem_cons_of_mem _ h3)
      have e2 : m ≤ maxI n ns := by
        rcases List.mem_cons.mp hm with rfl | hm
        · exact h1
        · exact h2 m hm
      have : m = maxI n ns := by omega
      rw [this]; exact q
    · cases hg
  · cases hg
theorem c1_min : C1Ok K (rMinA K) .pu gMin := c1_scal fun B H vs ds o Q sb rs hg => by
  unfold gMin at hg
  split at hg
  · cases hg
    obtain ⟨v, u, rfl, rv, ru⟩ := reps2 rs
    cases repI rv; cases repI ru
    exact ⟨_, fun _ => .int _, fun q => .inl ⟨_, _, rfl, q⟩⟩
  · split at hg
    · rename_i n ns e
      cases hg
      obtain ⟨v, rfl, rv⟩ := reps1 rs
      obtain ⟨a, rfl, ha⟩ := listD_ok rv e
      obtain ⟨h1, h2, h3⟩ := minI_ok ns n
      refine ⟨_, fun _ => .int _, fun q => .inr ⟨a, n :: ns, rfl, sb.seq ha, by simp, fun m hm hy => ?_⟩⟩
      have e1 : m ≤ minI n ns := hy _ (by rcases h3 with h3 | h3; · rw [h3]; exact List.mem_cons_self
                                          · exact List.mem_cons_of_mem _ h3)
      have e2 : minI n ns ≤ m := by
        rcases List.mem_cons.mp hm with rfl | hm
        · exact h1
        · exact h2 m hm
      have : m = minI n ns := by omega
      rw [this]; exact q
    · cases hg
  · cases hg
def gSum : List D → Option D
  | [d] => (listD d).map fun ns => .int ns.sum
  | _ => none
theorem callSum (hc : X.calm = true) : CallR X (.builtin "sum") (rSum X.K) := cr_sum hc
theorem c1_sum : C1Ok K (rSum K) .pu gSum := c1_scal fun B H vs ds o Q sb rs hg => by
  unfold gSum at hg
  split at hg
  · rename_i d
    cases e : listD d with
    | none => rw [e] at hg; cases hg
    | some ns =>
      rw [e] at hg
      cases hg
      obtain ⟨v, rfl, rv⟩ := reps1 rs
      obtain ⟨a, rfl, ha⟩ := listD_ok rv e
      exact ⟨_, fun _ => .int _, fun q => ⟨a, ns, rfl, sb.seq ha, q⟩⟩
  · cases hg
/-! list(x), tuple(x) -/
def gList : List D → Option D
  | [.lst ds] => some (.lst ds)
  | [.tup ds] => some (.lst ds)
  | [.scr ns] => some (.lst (ns.map .int))
  | _ => none
def rList (K : PySem.W.Frag) : List V → Hp → VK → Prop := fun xs H Q => ∃ p ys, xs = [.ref p] ∧ (SqL K H p ys ∨ SqT K H p ys) ∧ ∀ l, H l = none → Q (.ref l) (upd H l (.lst ys))
theorem callList : CallR X (.type "list") (rList X.K) := call_list_of
theorem c1_list : C1Ok K (rList K) .ls gList := by
  intro Γ B R H σ ρ vs ds o Q O rs hg k
  unfold gList at hg
  split at hg
  · cases hg
    obtain ⟨v, rfl, rv⟩ := reps1 rs
    obtain ⟨a, ws, rfl, ha, ra⟩ := repL rv
    exact ⟨a, ws, rfl, .inl (SqL.of (O.sb _ _ ha)), fun l hl => k B _ _ (Same.refl _) (O.pushN hl ra)⟩
  · cases hg
    obtain ⟨v, rfl, rv⟩ := reps1 rs
    obtain ⟨a, ws, rfl, ha, ra⟩ := repT rv
    exact ⟨a, ws, rfl, .inr (sameT O.sb ha), fun l hl => k B _ _ (Same.refl _) (O.pushN hl ra)⟩
  · cases hg
    obtain ⟨v, rfl, rv⟩ := reps1 rs
    obtain ⟨a, rfl, ha⟩ := repX rv
    exact ⟨a, _, rfl, .inl (O.sb.seq ha), fun l hl => k B _ _ (Same.refl _) (O.pushN hl (reps_int _))⟩
  · cases hg
def gTuple : List D → Option D
  | [.lst ds] => some (.tup ds)
  | [.tup ds] => some (.tup ds)
  | [.scr ns] => some (.tup (ns.map .int))
  | _ => none
def rTuple (K : PySem.W.Frag) : List V → Hp → VK → Prop := fun xs H Q => ∃ p ys, xs = [.ref p] ∧ ((SqL K H p ys ∧ ∀ l, H l = none → Q (.ref l) (upd H l (.tup ys))) ∨ (SqT K H p ys ∧ Q (.ref p) H))
theorem callTuple : CallR X (.type "tuple") (rTuple X.K) := call_tuple_of
theorem c1_tuple : C1Ok K (rTuple K) .pu gTuple := by
  intro Γ B R H σ ρ vs ds o Q O rs hg k
  unfold gTuple at hg
  split at hg
  · cases hg
    obtain ⟨v, rfl, rv⟩ := reps1 rs
    obtain ⟨a, ws, rfl, ha, ra⟩ := repL rv
    refine ⟨a, ws, rfl, .inl ⟨SqL.of (O.sb _ _ ha), fun l hl => ?_⟩⟩
    obtain ⟨B', s', O'⟩ := O.layTup hl ra
    exact k B' _ _ s' O'
  · cases hg
    obtain ⟨v, rfl, rv⟩ := reps1 rs
    obtain ⟨a, ws, rfl, ha, ra⟩ := repT rv
    exact ⟨a, ws, rfl, .inr ⟨sameT O.sb ha, k B H _ (Same.refl _) (O.pushP rv)⟩⟩
  · cases hg
    obtain ⟨v, rfl, rv⟩ := reps1 rs
    obtain ⟨a, rfl, ha⟩ := repX rv
    refine ⟨a, _, rfl, .inl ⟨O.sb.seq ha, fun l hl => ?_⟩⟩
    obtain ⟨B', s', O'⟩ := O.layTup hl (reps_int (K := K) (B := B) _)
    exact k B' _ _ s' O'
  · cases hg
/-! isinstance(x, T), T a built-in type -/
def tyN : D → String
  | .non => "NoneType" | .bl _ => "bool" | .int _ => "int" | .str _ => "str" | .tup _ => "tuple" | .lst _ => "list" | .scr _ => "list" | .dct _ => "dict"
def isTup : D → Bool
  | .tup _ => true
  | _ => false
def isLst : D → Bool
  | .lst _ => true | .scr _ => true
  | _ => false
def isStr : D → Bool
  | .str _ => true
  | _ => false
def isBl : D → Bool
  | .bl _ => true
  | _ => false
def isInt : D → Bool
  | .int _ => true | .bl _ => true
  | _ => false
def isDct : D → Bool
  | .dct _ => true
  | _ => false
theorem ty_tup (d : D) : kitB (tyN d) "tuple" = some (isTup d) := by cases d <;> (dsimp only [tyN, isTup]; decide +kernel)
theorem ty_lst (d : D) : kitB (tyN d) "list" = some (isLst d) := by cases d <;> (dsimp only [tyN, isLst]; decide +kernel)
theorem ty_str (d : D) : kitB (tyN d) "str" = some (isStr d) := by cases d <;> (dsimp only [tyN, isStr]; decide +kernel)
theorem ty_bl (d : D) : kitB (tyN d) "bool" = some (isBl d) := by cases d <;> (dsimp only [tyN, isBl]; decide +kernel)
theorem ty_int (d : D) : kitB (tyN d) "int" = some (isInt d) := by cases d <;> (dsimp only [tyN, isInt]; decide +kernel)
theorem ty_dct (d : D) : kitB (tyN d) "dict" = some (isDct d) := by cases d <;> (dsimp only [tyN, isDct]; decide +kernel)
theorem sqt_ty {H : Hp} {a : Addr} {vs : List V} (h : SqT K H a vs) : TyX K H (.ref a) (.type "tuple") := by
  rcases h with (h | ⟨o, h⟩) | ⟨o, its, n, h1, h2, _⟩
  · exact .base (.tup h)
  · exact .fTuple h
  · exact .kTuple h1 h2
theorem sql_ty {H : Hp} {a : Addr} {vs : List V} (h : SqL K H a vs) : TyX K H (.ref a) (.type "list") := by
  rcases h with (h | ⟨o, h⟩) | ⟨o, its, n, h1, h2, _⟩
  · exact .base (.lst h)
  · exact .base (.frz h)
  · exact .kList h1 h2
theorem rep_ty {B H : Hp} {v : V} {d : D} (sb : Same B H) (r : Rep K B v d) : TyX K H v (.type (tyN d)) := by
  cases r with
  | non => exact .base .non
  | bl b => exact .base (.bl b)
  | int i => exact .base (.int i)
  | str s => exact .base (.str s)
  | tup h r => exact sqt_ty (sameT sb h)
  | lst h r => exact .base (.lst (sb _ _ h))
  | scr h => exact sql_ty (sb.seq h)
  | dct h r => exact .base (.dK (sb _ _ h))
def eIsi (p : D → Bool) (f : ER D) : ER D := fun ρ => (f ρ).bind fun d ρ => .ok (.bl (p d)) ρ
theorem eok_isi {n : String} {p : D → Bool} (hp : ∀ d, kitB (tyN d) n = some (p d)) (h : EOk K mg W Γ te .pu fe) : EOk K mg W Γ (tCB (rIsi K) (tCons te (tCons (tC (.ty n)) tNil))) .pu (eIsi p fe) := by
  intro B R H σ ρ Q pw O hd
  unfold eIsi at hd
  refine h B R H σ ρ _ pw O ?_
  cases e : fe ρ with
  | stuck => rw [e] at hd; exact hd
  | exc x ρ1 => rw [e] at hd; exact hd
  | ok d ρ1 =>
    rw [e] at hd
    intro B1 H1 v s1 O1
    exact ⟨v, .ty n, .type (tyN d), .type n, p d, rfl, .ty n, rep_ty O1.sb O1.top, kit_ty (hp d), hd B1 H1 _ s1 (O1.pop.pushP (.bl _))⟩
/-! conditional chains of comparisons and the like are made of the above -/
end
end DL
namespace DLZ
open PySem
open PySem.Sem (wp)
section
variable {prog : Program} {w : World} {A : Around} {E : Value → Shared → Prop} {s : Shared}
/-! 'next' of a zip of two tuples, the tuple given out before still there (as KE.KDictZip has it for lists) -/
theorem item_held {z TI TO T i1 i2 l1 l2 : Addr} {f : Bool} {obT : Obj} {k1 k2 : Nat} {xs ys : Array Value} {x y : Value} {Q : Value → Shared → Prop} (ap : ZipApart z TI TO i1 i2 l1 l2)
    (gz : IsZipHeld s.heap z TI TO T f) (gT : s.heap.get? T = some obT) (gI : IsPair s.heap TI (.ref i1) (.ref i2))
    (h1 : s.heap.IsTupleIter i1 l1 k1) (h2 : s.heap.IsTupleIter i2 l2 k2) (gl1 : s.heap.IsTuple l1 xs) (gl2 : s.heap.IsTuple l2 ys) (gx : xs[k1]? = some x) (gy : ys[k2]? = some y)
    (gQ : ∀ h', IsZipHeld h' z TI TO T true → h'.IsTupleIter i1 l1 (k1 + 1) → h'.IsTupleIter i2 l2 (k2 + 1) → IsPair h' s.heap.objs.size x y → h'.objs.size = s.heap.objs.size + 1 →
      (∀ c o, c ≠ z → c ≠ i1 → c ≠ i2 → s.heap.get? c = some o → h'.get? c = some o) → Q (.ref s.heap.objs.size) { s with heap := h' }) :
    wpAny (model prog w) A (Builtin.«zip.__next__» ⟨[.ref z], []⟩) (fun fin s' => ∃ v, fin = .done (.ret v) ∧ Q v s') E s := by
  show wpAny _ _ (field (.ref z) 2 >>= _) _ _ _
  refine wpAny_bind (wpAny_field gz rfl (x := .bool false) rfl ?_)
  show wpAny _ _ (field (.ref z) 3 >>= _) _ _ _
  refine wpAny_bind (wpAny_field gz rfl (x := .ref TI) rfl ?_)
  refine wpAny_bind (wpAny_seqItems gI rfl ?_)
  show wpAny _ _ (Builtin.SmallTypes.ownedTupleIsFree (.ref z) >>= _) _ _ _
  refine wpAny_bind (wpAny_tupleHeld_zip gz gT fun m1 z1 b1 => ?_)
  simp only [Bool.false_eq_true, if_false]
  refine wpAny_bind ?_
  rw [← Array.forIn_toList]
  simp only [List.forIn_cons, List.forIn_nil]
  refine wpAny_bind (wpAny_bind (wpAny_holding ?_))
  show wpAny _ _ (Builtin.SmallTypes.nextOf (.ref i1) >>= _) _ _ _
  refine wpAny_bind (RZ.nextOf_tuple_item (s := { s with heap := m1 }) (h1.extBut b1.extBut ap.i1z) (gl1.extBut b1.extBut ap.l1z) gx fun m2 i1k b2 => wpAny_pure ?_)
  refine wpAny_pure ?_
  refine wpAny_bind (wpAny_bind (wpAny_holding ?_))
  show wpAny _ _ (Builtin.SmallTypes.nextOf (.ref i2) >>= _) _ _ _
  refine wpAny_bind (RZ.nextOf_tuple_item (s := { s with heap := m2 }) ((h2.extBut b1.extBut ap.i2z).extBut b2.extBut ap.i12.symm) ((gl2.extBut b1.extBut ap.l2z).extBut b2.extBut ap.l2i1) gy fun m3 i2k b3 => wpAny_pure ?_)
  refine wpAny_pure (wpAny_pure ?_)
  show wpAny _ _ (newTuple [x, y] >>= _) _ _ _
  refine wpAny_bind (wpAny_newTuple ?_)
  have esz : m3.objs.size = s.heap.objs.size := by rw [b3.1, b2.1, b1.1]
  have z3 : IsZipHeld m3 z TI TO T true := b3.extBut _ _ ap.i2z.symm (b2.extBut _ _ ap.i1z.symm z1)
  have gk : ∀ c o, c ≠ z → c ≠ i1 → c ≠ i2 → s.heap.get? c = some o → m3.get? c = some o := fun c o c1 c2 c3 e => b3.extBut _ _ c3 (b2.extBut _ _ c2 (b1.extBut _ _ c1 e))
  have i13 : m3.IsTupleIter i1 l1 (k1 + 1) := i1k.extBut b3.extBut ap.i12
  refine wpAny_pure ⟨_, rfl, ?_⟩
  show Q (.ref m3.objs.size) _
  have gp : IsPair (m3.push { cls := .type "tuple", data := .seq #[x, y] }) m3.objs.size x y := Heap.get?_push_size _ rfl
  have hz4 : (m3.push { cls := .type "tuple", data := .seq #[x, y] }).objs.size = m3.objs.size + 1 := Heap.size_push ..
  rw [esz] at gp hz4 ⊢
  exact gQ _ (Heap.get?_push_of_some _ z3) (i13.at fun o e => Heap.get?_push_of_some _ e) (i2k.at fun o e => Heap.get?_push_of_some _ e) gp hz4 fun c o c1 c2 c3 e => Heap.get?_push_of_some _ (gk c o c1 c2 c3 e)
theorem end_held {z TI TO T i1 i2 l1 l2 : Addr} {f : Bool} {obT : Obj} {k1 k2 : Nat} {xs ys : Array Value} {Q : Fin → Shared → Prop} (gh : A.handled = none) (ap : ZipApart z TI TO i1 i2 l1 l2)
    (gz : IsZipHeld s.heap z TI TO T f) (gT : s.heap.get? T = some obT) (gI : IsPair s.heap TI (.ref i1) (.ref i2))
    (h1 : s.heap.IsTupleIter i1 l1 k1) (h2 : s.heap.IsTupleIter i2 l2 k2) (gl1 : s.heap.IsTuple l1 xs) (gl2 : s.heap.IsTuple l2 ys) (gend : xs[k1]? = none ∨ ys[k2]? = none)
    (gE : ∀ h' e, (∀ c o, c ≠ z → c ≠ i1 → c ≠ i2 → s.heap.get? c = some o → h'.get? c = some o) → (∃ o, h'.get? e = some o ∧ o.cls = .type "StopIteration") → E (.ref e) { s with heap := h' }) :
    wpAny (model prog w) A (Builtin.«zip.__next__» ⟨[.ref z], []⟩) Q E s := by
  show wpAny _ _ (field (.ref z) 2 >>= _) _ _ _
  refine wpAny_bind (wpAny_field gz rfl (x := .bool false) rfl ?_)
  show wpAny _ _ (field (.ref z) 3 >>= _) _ _ _
  refine wpAny_bind (wpAny_field gz rfl (x := .ref TI) rfl ?_)
  refine wpAny_bind (wpAny_seqItems gI rfl ?_)
  show wpAny _ _ (Builtin.SmallTypes.ownedTupleIsFree (.ref z) >>= _) _ _ _
  refine wpAny_bind (wpAny_tupleHeld_zip gz gT fun m1 z1 b1 => ?_)
  simp only [Bool.false_eq_true, if_false]
  refine wpAny_bind ?_
  rw [← Array.forIn_toList]
  simp only [List.forIn_cons, List.forIn_nil]
  refine wpAny_bind (wpAny_bind (wpAny_holding ?_))
  show wpAny _ _ (Builtin.SmallTypes.nextOf (.ref i1) >>= _) _ _ _
  cases gx : xs[k1]? with
  | none =>
    refine wpAny_bind (RZ.nextOf_tuple_end (s := { s with heap := m1 }) gh (h1.extBut b1.extBut ap.i1z) (gl1.extBut b1.extBut ap.l1z) gx fun m2 e b2 he => ?_)
    exact gE m2 e (fun c o c1 c2 _ x => b2 _ _ c2 (b1.extBut _ _ c1 x)) he
  | some x =>
    have gy : ys[k2]? = none := by rcases gend with h | h; rw [gx] at h; cases h; exact h
    refine wpAny_bind (RZ.nextOf_tuple_item (s := { s with heap := m1 }) (h1.extBut b1.extBut ap.i1z) (gl1.extBut b1.extBut ap.l1z) gx fun m2 i1k b2 => wpAny_pure ?_)
    refine wpAny_pure ?_
    refine wpAny_bind (wpAny_bind (wpAny_holding ?_))
    show wpAny _ _ (Builtin.SmallTypes.nextOf (.ref i2) >>= _) _ _ _
    refine wpAny_bind (RZ.nextOf_tuple_end (s := { s with heap := m2 }) gh ((h2.extBut b1.extBut ap.i2z).extBut b2.extBut ap.i12.symm) ((gl2.extBut b1.extBut ap.l2z).extBut b2.extBut ap.l2i1) gy fun m3 e b3 he => ?_)
    exact gE m3 e (fun c o c1 c2 c3 x => b3 _ _ c3 (b2.extBut _ _ c2 (b1.extBut _ _ c1 x))) he
theorem next_item_held {z TI TO T i1 i2 l1 l2 : Addr} {f : Bool} {obT : Obj} {k1 k2 : Nat} {xs ys : Array Value} {x y : Value} {Q : Option Value → Shared → Prop} (ap : ZipApart z TI TO i1 i2 l1 l2)
    (gz : IsZipHeld s.heap z TI TO T f) (gT : s.heap.get? T = some obT) (gI : IsPair s.heap TI (.ref i1) (.ref i2))
    (h1 : s.heap.IsTupleIter i1 l1 k1) (h2 : s.heap.IsTupleIter i2 l2 k2) (gl1 : s.heap.IsTuple l1 xs) (gl2 : s.heap.IsTuple l2 ys) (gx : xs[k1]? = some x) (gy : ys[k2]? = some y)
    (gQ : ∀ h', IsZipHeld h' z TI TO T true → h'.IsTupleIter i1 l1 (k1 + 1) → h'.IsTupleIter i2 l2 (k2 + 1) → IsPair h' s.heap.objs.size x y → h'.objs.size = s.heap.objs.size + 1 →
      (∀ c o, c ≠ z → c ≠ i1 → c ≠ i2 → s.heap.get? c = some o → h'.get? c = some o) → Q (some (.ref s.heap.objs.size)) { s with heap := h' }) :
    wpAny (model prog w) A (pyNext (.ref z)) Q E s := by
  have hTy : s.TypeIs (.ref z) "zip" := ⟨_, gz, rfl⟩
  unfold pyNext
  exact wpAny_bind (wpAny_attempt (wpAny_callSpecial?_slot (name := Str.ofString "__next__") hTy F.slot_zip_next
    (wpAny_call_entry F.slot_zip_next hTy F.entry_zip_next
      (item_held ap gz gT gI h1 h2 gl1 gl2 gx gy fun h' a1 a3 a4 a5 a6 a7 => wpAny_pure (gQ h' a1 a3 a4 a5 a6 a7)) (F.args_zip_next_1 _))))
theorem next_end_held {z TI TO T i1 i2 l1 l2 : Addr} {f : Bool} {obT : Obj} {k1 k2 : Nat} {xs ys : Array Value} {Q : Option Value → Shared → Prop} (gh : A.handled = none) (ap : ZipApart z TI TO i1 i2 l1 l2)
    (gz : IsZipHeld s.heap z TI TO T f) (gT : s.heap.get? T = some obT) (gI : IsPair s.heap TI (.ref i1) (.ref i2))
    (h1 : s.heap.IsTupleIter i1 l1 k1) (h2 : s.heap.IsTupleIter i2 l2 k2) (gl1 : s.heap.IsTuple l1 xs) (gl2 : s.heap.IsTuple l2 ys) (gend : xs[k1]? = none ∨ ys[k2]? = none)
    (gQ : ∀ h', (∀ c o, c ≠ z → c ≠ i1 → c ≠ i2 → s.heap.get? c = some o → h'.get? c = some o) → Q none { s with heap := h' }) : wpAny (model prog w) A (pyNext (.ref z)) Q E s := by
  have hTy : s.TypeIs (.ref z) "zip" := ⟨_, gz, rfl⟩
  unfold pyNext
  refine wpAny_bind (wpAny_attempt (wpAny_callSpecial?_slot (name := Str.ofString "__next__") hTy F.slot_zip_next
    (wpAny_call_entry F.slot_zip_next hTy F.entry_zip_next (end_held gh ap gz gT gI h1 h2 gl1 gl2 gend fun h' e gk he => ?_) (F.args_zip_next_1 _))))
  obtain ⟨o, ho, hc⟩ := he
  refine wpAny_bind (wpAny_isInstance (T := "StopIteration") (b := true) ⟨o, ho, hc⟩ isSubtype_stop ?_)
  exact wpAny_pure (gQ _ gk)
theorem zip_no_len : typeLookup (.type "zip") "__len__" = pure none := am_miss_of_fast (by decide +kernel)
theorem zip_no_hint : typeLookup (.type "zip") "__length_hint__" = pure none := am_miss_of_fast (by decide +kernel)
theorem zip_hint {a : Addr} {Q : Bool → Shared → Prop} (hT : s.TypeIs (.ref a) "zip") (h : Q true s) : wpAny (model prog w) A (Builtin.List.listLengthHint (.ref a)) Q E s := by
  unfold Builtin.List.listLengthHint
  refine wpAny_bind (wpAny_specialOf hT zip_no_len ?_)
  show wpAny _ _ (specialOf (Value.ref a) (Str.ofString "__length_hint__") >>= _) _ _ _
  refine wpAny_bind (wpAny_specialOf hT zip_no_hint ?_)
  exact wpAny_pure h
end
end DLZ
namespace L2
open PySem PySem.Spec PyProof.Rows
/-- the pairs of two tuples laid one after another, then the list -/
def zipW : List V → List V → List V → Hp → VK → Prop
  | u :: us, v :: vs, acc, H, Q => ∀ T, H T = none → zipW us vs (acc ++ [.ref T]) (upd H T (.tup [u, v])) Q
  | _, _, acc, H, Q => ∀ p, H p = none → Q (.ref p) (upd H p (.lst acc))
theorem upd_comm {H : Hp} {a b : Addr} {o u : HO} (h : a ≠ b) : upd (upd H a o) b u = upd (upd H b u) a o := by
  funext c
  by_cases h1 : c = a
  · subst h1; rw [upd_ne h, upd_same, upd_same]
  · by_cases h2 : c = b
    · subst h2; rw [upd_same, upd_ne h1, upd_same]
    · rw [upd_ne h2, upd_ne h1, upd_ne h1, upd_ne h2]
section
variable {X : Cx} {pins : List (Addr × Obj)} {σ : St} {A1 : Around} {z TI TO i1 i2 a b S : Addr}
/-- where a zip of two tuples stands -/
def ZSt (z TI TO i1 i2 a b : Addr) (i : Nat) (h : Heap) : Prop := IsPair h TI (.ref i1) (.ref i2) ∧ h.IsTupleIter i1 a i ∧ h.IsTupleIter i2 b i ∧
  (∃ x y, IsPair h TO x y) ∧ (IsZip h z TI TO .none ∨ ∃ T f oT, IsZipHeld h z TI TO T f ∧ h.get? T = some oT ∧ T ≠ z ∧ T ≠ i1 ∧ T ≠ i2)
theorem zip_loop {us vs : List V} {Q : VK} {Rs : Result → Shared → Prop} (hh : A1.handled = none) (D : ZipApart z TI TO i1 i2 a b) (hS : S ∉ [z, TI, TO, i1, i2])
    (hdone : ∀ acc H s, Inv X pins σ (upd H S (.lst acc)) s → Q (.ref S) (upd H S (.lst acc)) → Rs (.ok (.ret .none)) s) :
    ∀ (m i : Nat) (acc : List V) (H : Hp) (s : Shared), m = us.length - i → acc.length = i → i ≤ us.length → Inv X pins σ (upd H S (.lst acc)) s → H S = none → SqT X.K H a us → SqT X.K H b vs → (∀ c ∈ [z, TI, TO, i1, i2], FpOk X pins (upd H S (.lst acc)) c) → ZSt z TI TO i1 i2 a b i s.heap →
      zipW (us.drop i) (vs.drop i) acc H Q → codeAny (model X.prog X.w) A1 (.builtin "list.extend.loop" ⟨[.ref S, .ref z, .none], []⟩) Rs s := by
  intro m
  induction m with
  | zero =>
    intro i acc H s hm hacc hle I hn ha hb hf st hw
    refine codeAny_builtin PySem.F.entry_extend_loop ?_
    rw [Around.under_plainId PySem.F.plain_extend_loop _]
    show wpAny _ A1.in1 (pyNext (.ref z) >>= _) _ _ s
    have sS : Same H (upd H S (.lst acc)) := fun c o e => by rw [upd_ne (ne_of_none e hn)]; exact e
    have sT : ∀ {l : Addr} {xs : List V}, SqT X.K H l xs → SqT X.K (upd H S (.lst acc)) l xs := fun {l xs} h => by
      rcases h with (h | ⟨o, h⟩) | h
      · exact .inl (.inl (sS _ _ h))
      · exact .inl (.inr ⟨o, sS _ _ h⟩)
      · exact .inr h
    obtain ⟨its, rv, p1, _⟩ := I.tuple (sT ha)
    obtain ⟨its2, rv2, p2, _⟩ := I.tuple (sT hb)
    have hend : its.toArray[i]? = none ∨ its2.toArray[i]? = none := .inl (by have := rv.length; simp; omega)
    have hd : us.drop i = [] := List.drop_eq_nil_of_le (by omega)
    rw [hd] at hw
    have fin : ∀ h', (∀ c o, c ∉ [z, TI, TO, i1, i2] → s.heap.get? c = some o → h'.get? c = some o) → Rs (.ok (.ret .none)) { s with heap := h' } := fun h' k =>
      hdone acc H _ (I.turnedL (t' := s.toks) k hf) (by unfold zipW at hw; exact hw S hn)
    obtain ⟨hTI, h1, h2, ⟨x, y, hTO⟩, hz | ⟨T, f, oT, hz, hT, t1, t2, t3⟩⟩ := st
    · exact wpAny_bind (RZ.pyNext_zipT_end (A := A1.in1) hh D hz hTI hTO h1 h2 p1 p2 hend fun h' hk => wpAny_pure (fin h' fun c o hc e => hk c o (fun q => hc (by simp [q])) (fun q => hc (by simp [q])) (fun q => hc (by simp [q])) (fun q => hc (by simp [q])) e))
    · exact wpAny_bind (DLZ.next_end_held (A := A1.in1) hh D hz hT hTI h1 h2 p1 p2 hend fun h' hk => wpAny_pure (fin h' fun c o hc e => hk c o (fun q => hc (by simp [q])) (fun q => hc (by simp [q])) (fun q => hc (by simp [q])) e))
  | succ m ih =>
    intro i acc H s hm hacc hle I hn ha hb hf st hw
    refine codeAny_builtin PySem.F.entry_extend_loop ?_
    rw [Around.under_plainId PySem.F.plain_extend_loop _]
    show wpAny _ A1.in1 (pyNext (.ref z) >>= _) _ _ s
    have sS : Same H (upd H S (.lst acc)) := fun c o e => by rw [upd_ne (ne_of_none e hn)]; exact e
    have sT : ∀ {H H' : Hp} {l : Addr} {xs : List V}, Same H H' → SqT X.K H l xs → SqT X.K H' l xs := fun {H H' l xs} sS h => by
      rcases h with (h | ⟨o, h⟩) | h
      · exact .inl (.inl (sS _ _ h))
      · exact .inl (.inr ⟨o, sS _ _ h⟩)
      · exact .inr h
    obtain ⟨its, rv, p1, hl1⟩ := I.tuple (sT sS ha)
    obtain ⟨its2, rv2, p2, _⟩ := I.tuple (sT sS hb)
    have hi : i < us.length := by omega
    obtain ⟨u, hu, ru⟩ := rv.get (List.getElem?_eq_getElem hi)
    by_cases hj : i < vs.length
    · obtain ⟨v, hv, rv'⟩ := rv2.get (List.getElem?_eq_getElem hj)
      rw [List.drop_eq_getElem_cons hi, List.drop_eq_getElem_cons hj] at hw
      unfold zipW at hw
      have nf : H s.heap.objs.size = none := by
        have h1 := I.hok.fresh (Nat.le_refl s.heap.objs.size)
        by_cases e : s.heap.objs.size = S
        · rw [e]; exact hn
        · rw [upd_ne e] at h1; exact h1
      have hSlt : S < s.heap.objs.size := by
        obtain ⟨_, _, _, _, _, e⟩ := I.lstM (upd_same (H := H) (a := S) (o := .lst acc))
        exact Heap.lt_size e
      have hTS : s.heap.objs.size ≠ S := Nat.ne_of_gt hSlt
      have lt5 : ∀ c ∈ [z, TI, TO, i1, i2], c < s.heap.objs.size := by
        obtain ⟨hTI, h1, h2, ⟨x, y, hTO⟩, hzz⟩ := st
        obtain ⟨_, e1, _⟩ := h1
        obtain ⟨_, e2, _⟩ := h2
        intro c hc
        have e' : c = z ∨ c = TI ∨ c = TO ∨ c = i1 ∨ c = i2 := by simpa using hc
        rcases e' with q | q | q | q | q
        · rcases hzz with hz | ⟨T, f, oT, hz, _⟩
          · rw [q]; exact Heap.lt_size hz
          · rw [q]; exact Heap.lt_size hz
        · rw [q]; exact Heap.lt_size hTI
        · rw [q]; exact Heap.lt_size hTO
        · rw [q]; exact Heap.lt_size e1
        · rw [q]; exact Heap.lt_size e2
      -- what comes behind the pair
      have go : ∀ h', (∀ c o, c ∉ [z, TI, TO, i1, i2] → s.heap.get? c = some o → h'.get? c = some o) → IsPair h' s.heap.objs.size u v → ZSt z TI TO i1 i2 a b (i + 1) h' →
          wpAny (model X.prog X.w) A1.in1 (updateSeq S (·.push (Value.ref s.heap.objs.size)) >>= fun _ => again (.builtin "list.extend.loop" ⟨[.ref S, .ref z, .none], []⟩))
            (fun fin s' => match fin with | .done f => Rs (.ok f) s' | .again c' => c'.quiet = true ∧ codeAny (model X.prog X.w) A1 c' Rs s') (fun e s' => Rs (.error e) s') { s with heap := h' } := by
        intro h' hk hp st'
        have new : ObjOk X.prog X.w (upd (upd H S (.lst acc)) s.heap.objs.size (.tup [us[i], vs[i]])) h' s.heap.objs.size (.tup [us[i], vs[i]]) :=
          ⟨by show 2 ≤ sizeLine; decide, [u, v], .cons ru (.cons rv' .nil), ⟨_, hp, rfl, _, rfl⟩⟩
        have I1 := I.turnedNew (t' := s.toks) hk hf (Nat.le_refl _) new
        rw [upd_comm (Ne.symm hTS)] at I1
        obtain ⟨zz, jts, n, r, hl, e⟩ := I1.lstM upd_same
        have hacc' : acc.length < sizeLine := by omega
        refine wpAny_bind (wpAny_updateSeq e rfl (wpAny_pure ⟨plainId_quiet PySem.F.plain_extend_loop _, ?_⟩) (by rw [List.size_toArray]; omega) (by show (jts.toArray.push _).size ≤ sizeLine + 1; rw [Array.size_push, List.size_toArray]; omega))
        have I2 := I1.lset (f := (·.push (Value.ref s.heap.objs.size))) (its' := jts ++ [Value.ref s.heap.objs.size]) (ys := acc ++ [.ref s.heap.objs.size]) (t' := s.toks) upd_same e (by simp) (r.append (show Vals [V.ref s.heap.objs.size] [Value.ref s.heap.objs.size] from .cons rfl .nil)) (by rw [List.length_append, List.length_singleton]; omega)
        rw [upd_upd] at I2
        have sH : Same H (upd H s.heap.objs.size (.tup [us[i], vs[i]])) := fun c o e => by rw [upd_ne (ne_of_none e nf)]; exact e
        refine ih (i + 1) _ _ _ (by omega) (by simp [hacc]) (by omega) I2 (by rw [upd_ne (Ne.symm hTS)]; exact hn) (sT sH ha) (sT sH hb) (fun c hc => ?_) ?_ (hw _ nf)
        · obtain ⟨f1, f2⟩ := hf c hc
          refine ⟨?_, f2⟩
          have cS : c ≠ S := fun q => hS (by rw [← q]; exact hc)
          rw [upd_ne cS] at f1 ⊢
          rw [upd_ne (Nat.ne_of_lt (lt5 c hc))]; exact f1
        · have keep : ∀ c o, c ≠ S → h'.get? c = some o → (h'.update S (Obj.mapSeq (·.push (Value.ref s.heap.objs.size)))).get? c = some o := fun c o hc e => (Heap.get?_update_other _ _ (Ne.symm hc)).trans e
          have nS : ∀ c ∈ [z, TI, TO, i1, i2], c ≠ S := fun c hc q => hS (by rw [← q]; exact hc)
          obtain ⟨hTI, h1, h2, ⟨x, y, hTO⟩, hzz⟩ := st'
          refine ⟨keep _ _ (nS _ (by simp)) hTI, h1.at fun o e => keep _ o (nS _ (by simp)) e, h2.at fun o e => keep _ o (nS _ (by simp)) e, ⟨x, y, keep _ _ (nS _ (by simp)) hTO⟩, ?_⟩
          rcases hzz with hz | ⟨T, f, oT, hz, hT, t1, t2, t3⟩
          · exact .inl (keep _ _ (nS _ (by simp)) hz)
          · by_cases hTs : T = S
            · subst hTs
              exact .inr ⟨T, f, _, keep _ _ (nS _ (by simp)) hz, Heap.get?_update_self _ e (by rfl), t1, t2, t3⟩
            · exact .inr ⟨T, f, oT, keep _ _ (nS _ (by simp)) hz, keep _ _ hTs hT, t1, t2, t3⟩
      obtain ⟨hTI, h1, h2, ⟨x, y, hTO⟩, hz | ⟨T, f, oT, hz, hT, t1, t2, t3⟩⟩ := st
      · refine wpAny_bind (RZ.pyNext_zipT_item (A := A1.in1) D hz hTI hTO h1 h2 p1 p2 (x := u) (y := v) (by simpa using hu) (by simpa using hv) fun h' z' TO' h1' h2' hT hsz hk => ?_)
        have hk' : ∀ c o, c ∉ [z, TI, TO, i1, i2] → s.heap.get? c = some o → h'.get? c = some o := fun c o hc e => hk c o (fun q => hc (by simp [q])) (fun q => hc (by simp [q])) (fun q => hc (by simp [q])) (fun q => hc (by simp [q])) e
        exact go h' hk' hT ⟨hk _ _ D.TIz D.TITO D.TIi1 D.TIi2 hTI, h1', h2', ⟨_, _, TO'⟩, .inr ⟨_, false, _, z', hT, Nat.ne_of_gt (lt5 z (by simp)), Nat.ne_of_gt (lt5 i1 (by simp)), Nat.ne_of_gt (lt5 i2 (by simp))⟩⟩
      · refine wpAny_bind (DLZ.next_item_held (A := A1.in1) D hz hT hTI h1 h2 p1 p2 (x := u) (y := v) (by simpa using hu) (by simpa using hv) fun h' z' h1' h2' hP hsz hk => ?_)
        have hk' : ∀ c o, c ∉ [z, TI, TO, i1, i2] → s.heap.get? c = some o → h'.get? c = some o := fun c o hc e => hk c o (fun q => hc (by simp [q])) (fun q => hc (by simp [q])) (fun q => hc (by simp [q])) e
        exact go h' hk' hP ⟨hk _ _ D.TIz D.TIi1 D.TIi2 hTI, h1', h2', ⟨x, y, hk _ _ D.TOz D.TOi1 D.TOi2 hTO⟩, .inr ⟨T, true, _, z', hk _ _ t1 t2 t3 hT, t1, t2, t3⟩⟩
    · have hend : its.toArray[i]? = none ∨ its2.toArray[i]? = none := .inr (by have := rv2.length; simp; omega)
      have hd : vs.drop i = [] := List.drop_eq_nil_of_le (by omega)
      rw [hd] at hw
      have fin : ∀ h', (∀ c o, c ∉ [z, TI, TO, i1, i2] → s.heap.get? c = some o → h'.get? c = some o) → Rs (.ok (.ret .none)) { s with heap := h' } := fun h' k =>
        hdone acc H _ (I.turnedL (t' := s.toks) k hf) (by
          cases e : us.drop i with
          | nil => rw [e] at hw; unfold zipW at hw; exact hw S hn
          | cons _ _ => rw [e] at hw; unfold zipW at hw; exact hw S hn)
      obtain ⟨hTI, h1, h2, ⟨x, y, hTO⟩, hz | ⟨T, f, oT, hz, hT, t1, t2, t3⟩⟩ := st
      · exact wpAny_bind (RZ.pyNext_zipT_end (A := A1.in1) hh D hz hTI hTO h1 h2 p1 p2 hend fun h' hk => wpAny_pure (fin h' fun c o hc e => hk c o (fun q => hc (by simp [q])) (fun q => hc (by simp [q])) (fun q => hc (by simp [q])) (fun q => hc (by simp [q])) e))
      · exact wpAny_bind (DLZ.next_end_held (A := A1.in1) hh D hz hT hTI h1 h2 p1 p2 hend fun h' hk => wpAny_pure (fin h' fun c o hc e => hk c o (fun q => hc (by simp [q])) (fun q => hc (by simp [q])) (fun q => hc (by simp [q])) e))

/-- list(zip(..)) of two tuples -/
def tListZ (K : PySem.W.Frag) (ta : TA) : TE := fun σ H Q => ta σ H fun vs H1 => ∃ a b us ws, vs = [.ref a, .ref b] ∧ SqT K H1 a us ∧ SqT K H1 b ws ∧ zipW us ws [] H1 Q
theorem pe_listZ {e e2 : Expr} {ta : TA} {p pos p2 pos2 : Pos} (hc : X.calm = true) (hg : Gl X "zip") (hm : X.mg "zip" = none) (hg2 : Gl X "list") (hm2 : X.mg "list" = none) (ha : PA X [e, e2] ta)
    (hs : starEach [e, e2] X.env = (false, eval e X.env) :: starEach [e2] X.env := by rfl) (hpl : (backTo pos (starEach [e2] X.env)).any (·.1) = false := by rfl)
    (he : starEach [Expr.Call (.Name "zip" p) [e, e2] [] pos] X.env = (false, eval (.Call (.Name "zip" p) [e, e2] [] pos) X.env) :: starEach [] X.env := by rfl) :
    PE X (.Call (.Name "list" p2) [.Call (.Name "zip" p) [e, e2] [] pos] [] pos2) (tListZ X.K ta) := by
  refine ⟨fun pins s σ H Q I h => ?_⟩
  refine wpAny_Call_Name_kw (ld_blt I hg2 hm2 PyProof.Rows.boot_list ?_)
  refine PyProof.Rows.callWith_type1 ?_ he rfl
  rw [he]
  show wpAny _ _ (spliced ((false, eval (.Call (.Name "zip" p) [e, e2] [] pos) X.env) :: backTo pos2 (starEach [] X.env))) _ _ s
  refine Calls.spliced_cons ?_
  refine Call_ (ld_blt I hg hm PyProof.Rows.boot_zip (PyProof.Rows.callWith_type1 (thn (ha.run pos pins s σ H _ I h) fun vs0 s1 ⟨vs, H1, I1, r1, q1⟩ => ?_) hs hpl))
  obtain ⟨a, b, us, ws, ex, hqx, hqy, q⟩ := q1
  subst ex
  cases r1 with
  | cons r rr =>
    cases rr with
    | cons r' rr =>
      cases rr
      cases r
      cases r'
      obtain ⟨its, rv, p1, _⟩ := I1.tuple hqx
      obtain ⟨its2, rv2, p2, _⟩ := I1.tuple hqy
      obtain ⟨o1, ho1, _⟩ := id p1
      obtain ⟨o2, ho2, _⟩ := id p2
      refine RZ.call_zipT (show s1.heap.IsTuple a its.toArray from p1) (show s1.heap.IsTuple b its2.toArray from p2) fun h' hz hTI hTO h1 h2 hsz hk => ?_
      refine Calls.spliced_nil ?_
      have I2 : Inv X pins σ H1 { s1 with heap := h' } := I1.kept (t' := s1.toks) hk
      have fr2 : ∀ c, s1.heap.objs.size ≤ c → H1 c = none := fun c hle => I1.hok.fresh hle
      have inL : ∀ c ∈ [s1.heap.objs.size + 4, s1.heap.objs.size + 2, s1.heap.objs.size + 3, s1.heap.objs.size, s1.heap.objs.size + 1], s1.heap.objs.size ≤ c ∧ c < h'.objs.size := fun c hc => by
        have e' : c = s1.heap.objs.size + 4 ∨ c = s1.heap.objs.size + 2 ∨ c = s1.heap.objs.size + 3 ∨ c = s1.heap.objs.size ∨ c = s1.heap.objs.size + 1 := by simpa using hc
        have hsz : h'.objs.size = s1.heap.objs.size + 5 := hsz
        rcases e' with q | q | q | q | q <;> (rw [q]; omega)
      refine callType_codes (Q₁ := fun obj s₁ => obj = .ref h'.objs.size ∧ s₁ = { s1 with heap := h'.push { cls := .type "list", data := .seq #[] } }) PySem.F.called_list (PySem.F.typeCall_list_1 _) PySem.F.entry_list_init
        (code_list_new _ ⟨rfl, rfl⟩) fun obj s₁ h₁ => ?_
      obtain ⟨rfl, rfl⟩ := h₁
      have hS : (h'.push { cls := .type "list", data := .seq #[] }).get? h'.objs.size = some { cls := .type "list", data := .seq #[] } := Heap.get?_push_size _ rfl
      refine ⟨⟨_, hS, rfl⟩, PySem.F.args_list_init_2 _ _, ?_⟩
      have fr : H1 h'.objs.size = none := I2.hok.fresh (Nat.le_refl _)
      have I3 : Inv X pins σ (upd H1 h'.objs.size (.lst [])) { s1 with heap := h'.push { cls := .type "list", data := .seq #[] } } := I2.lnew (its := []) (t' := s1.toks) .nil (Nat.zero_le _)
      show wpAny _ _ (do let old ← Builtin.List.listItems (.ref h'.objs.size); Builtin.List.listUpdate (.ref h'.objs.size) (fun _ => #[]); letGo old.toList.reverse; Builtin.List.listExtendWith (.ref h'.objs.size) (.ref (s1.heap.objs.size + 4)) .none) _ _ _
      refine wpAny_bind ?_
      unfold Builtin.List.listItems
      refine wpAny_bind (wpAny_seqItems hS rfl (wpAny_pure ?_))
      show wpAny _ _ (updateSeq h'.objs.size (fun _ => #[]) >>= fun _ => letGo (#[] : Array Value).toList.reverse >>= fun _ => Builtin.List.listExtendWith (.ref h'.objs.size) (.ref (s1.heap.objs.size + 4)) .none) _ _ _
      refine wpAny_bind (wpAny_updateSeq hS rfl ?_)
      have I4 := I3.lset (f := fun _ => #[]) (its := []) (its' := []) (ys := []) (t' := s1.toks) upd_same hS rfl .nil (Nat.zero_le _)
      rw [upd_upd] at I4
      refine wpAny_bind (wpAny_letGo ?_)
      have keep : ∀ c o, c < h'.objs.size → h'.get? c = some o → ((h'.push { cls := .type "list", data := .seq #[] }).update h'.objs.size (Obj.mapSeq fun _ => #[])).get? c = some o := fun c o hc e =>
        (Heap.get?_update_other _ _ (Ne.symm (Nat.ne_of_lt hc))).trans (Heap.get?_push_of_some _ e)
      have D := PySem.W.ktu_apart s1.heap.objs.size a b (Heap.lt_size ho1) (Heap.lt_size ho2)
      have hz4 := keep _ _ (Heap.lt_size hz) hz
      have hTy : Shared.TypeIs { s1 with heap := (h'.push { cls := .type "list", data := .seq #[] }).update h'.objs.size (Obj.mapSeq fun _ => #[]) } (.ref (s1.heap.objs.size + 4)) "zip" := ⟨_, hz4, rfl⟩
      unfold Builtin.List.listExtendWith
      refine wpAny_bind (wpAny_typeOf hTy ?_)
      have g1 : Builtin.List.listSameRef (.ref h'.objs.size) (.ref (s1.heap.objs.size + 4)) = false := by
        have hne := Nat.ne_of_gt (inL (s1.heap.objs.size + 4) (by simp)).2
        show (h'.objs.size == s1.heap.objs.size + 4) = false
        exact beq_eq_false_iff_ne.mpr hne
      have g2 : (Value.type "zip" == Value.type "list") = false := by decide
      have g3 : (Value.type "zip" == Value.type "tuple") = false := by decide
      simp only [g1, g2, g3, Bool.or_false, Bool.false_eq_true, if_false]
      refine wpAny_bind (wpAny_pyIter_zip hz4 ?_)
      refine wpAny_bind (wpAny_holding (DLZ.zip_hint hTy ?_))
      show wpAny _ _ (rule "list.extend.makes-room" >>= fun _ => Builtin.List.listTouch (.ref h'.objs.size) >>= fun _ => again (.builtin "list.extend.loop" ⟨[.ref h'.objs.size, .ref (s1.heap.objs.size + 4), .none], []⟩)) _ _ _
      refine wpAny_bind (wpAny_rule ?_)
      refine wpAny_bind ?_
      obtain ⟨z5, its5, k5, r5, hl5, e5⟩ := I4.lstM upd_same
      cases r5
      show wpAny _ _ (updateSeq h'.objs.size (·.push .none) >>= fun _ => updateSeq h'.objs.size (·.pop)) _ _ _
      refine wpAny_bind (wpAny_updateSeq e5 rfl ?_)
      have I6 := I4.lset (f := (·.push Value.none)) (its' := [Value.none]) (ys := [.non]) (t' := s1.toks) upd_same e5 (by simp) (.cons rfl .nil) (by rw [List.length_singleton, sizeLine_eq]; decide)
      obtain ⟨z6, its6, k6, r6, hl6, e6⟩ := I6.lstM upd_same
      obtain ⟨u6, rfl, ru6⟩ := r6.one
      refine wpAny_updateSeq e6 rfl ?_ (by show 1 ≤ sizeLine; rw [sizeLine_eq]; decide) (by show 0 ≤ sizeLine + 1; exact Nat.zero_le _)
      have I7 := I6.lset (f := (·.pop)) (its := [u6]) (its' := []) (ys := []) (t' := s1.toks) upd_same e6 (by rfl) .nil (Nat.zero_le _)
      rw [upd_upd, upd_upd] at I7
      have nS : ∀ c ∈ [s1.heap.objs.size + 4, s1.heap.objs.size + 2, s1.heap.objs.size + 3, s1.heap.objs.size, s1.heap.objs.size + 1], c ≠ h'.objs.size := fun c hc => Nat.ne_of_lt (inL c hc).2
      have up : ∀ c ∈ [s1.heap.objs.size + 4, s1.heap.objs.size + 2, s1.heap.objs.size + 3, s1.heap.objs.size, s1.heap.objs.size + 1], ∀ o, h'.get? c = some o →
          ((((h'.push { cls := .type "list", data := .seq #[] }).update h'.objs.size (Obj.mapSeq fun _ => #[])).update h'.objs.size (Obj.mapSeq (·.push Value.none))).update h'.objs.size (Obj.mapSeq (·.pop))).get? c = some o := fun c hc o e =>
        (Heap.get?_update_other _ _ (Ne.symm (nS c hc))).trans ((Heap.get?_update_other _ _ (Ne.symm (nS c hc))).trans (keep c o (inL c hc).2 e))
      refine wpAny_pure ⟨plainId_quiet PySem.F.plain_extend_loop _, ?_⟩
      refine zip_loop (A1 := X.A.in1) (pins := pins) (σ := σ) (Q := Q) (us := us) (vs := ws) (I.ok.hd hc) D (fun hm => nS _ hm rfl)
        (fun acc H' s' I' hq => ⟨rfl, .ref h'.objs.size, _, I', rfl, hq⟩) us.length 0 [] H1 _ (by omega) rfl (Nat.zero_le _) I7 fr hqx hqy (fun c hc => ?_) ?_ (by simpa using q)
      · have := I1.fpOk (H' := upd H1 h'.objs.size (.lst [])) (inL c hc).1 (by rw [upd_ne (nS c hc)]; exact fr2 c (inL c hc).1)
        exact this
      · exact ⟨up _ (by simp) _ hTI, h1.at fun o e => up _ (by simp) o e, h2.at fun o e => up _ (by simp) o e, ⟨_, _, up _ (by simp) _ hTO⟩, .inl (up _ (by simp) _ hz)⟩
end
end L2
/-! a def that stands at the top, and its calls -/
namespace L2
open PySem PySem.Spec PyProof.Rows
/-- what a def is to those that call it -/
def Df (P : Program) (w : World) (K : PySem.W.Frag) (mg : Str → Option Value) (base : Heap) (x : Str) (st : Stmt) (ps : List Str) (k : Nat) (sp : Sp) : Prop :=
  ∃ (f : Addr) (fd : FuncData), FnOk P w K mg base (L2.CX P w) k f fd ps sp ∧ mg x = some (.ref f) ∧ PySem.W.keepIn K (.ref f) = true ∧ Binds K fd ps [] ∧ Fun K x x st f fd
section
variable {X : Cx} {W : WX} {x : Str} {st : Stmt} {ps : List Str} {k : Nat} {sp : Sp} {e : Expr} {es : List Expr} {t tk : TA} {p pos : Pos} {kws : List Keyword}
theorem pe_df (D : Df X.prog X.w X.K X.mg X.base x st ps k sp) (hr : Room k X.A) (hg : Gl X x) (tk : Takes X W) (ha : PA X (e :: es) t) (hdb : (x == ("__debug__" : Str)) = false := by decide)
    (he : starEach (e :: es) X.env = (false, eval e X.env) :: starEach es X.env := by rfl) (hpl : (backTo pos (starEach es X.env)).any (·.1) = false := by rfl) :
    PE X (.Call (.Name x p) (e :: es) [] pos) (tCallS sp (WE W) t) := by
  obtain ⟨f, fd, F, hm, hk, hb, _⟩ := D
  exact pe_callS F hr hg hm hk hb (fun σ => passAt tk σ) ha hdb he hpl
theorem pe_df0 (D : Df X.prog X.w X.K X.mg X.base x st ps k sp) (hr : Room k X.A) (hg : Gl X x) (tk : Takes X W) (hdb : (x == ("__debug__" : Str)) = false := by decide) :
    PE X (.Call (.Name x p) [] [] pos) (tCallS sp (WE W) tNil) := by
  obtain ⟨f, fd, F, hm, hk, hb, _⟩ := D
  refine ⟨fun pins s σ H Q I h => ?_⟩
  refine wpAny_Call_Name_kw (ld_glob I hg hm ?_ hdb)
  exact PySem.W.callWith_K0 I.kIn hk (run_fnS (us := []) (E := WE W) F hr hb (passAt tk σ) I .nil h)
/-- the arguments in the parameters' order -/
def pm {α : Type} (p : List Nat) (xs : List α) : List α := p.filterMap (xs[·]?)
theorem Vals.pm {vs : List V} {us : List Value} (r : Vals vs us) : ∀ p : List Nat, Vals (L2.pm p vs) (L2.pm p us)
  | [] => .nil
  | i :: p => by
    have ih := Vals.pm r p
    unfold L2.pm at ih ⊢
    rw [List.filterMap_cons, List.filterMap_cons]
    cases e : vs[i]? with
    | none =>
      have h1 : us[i]? = none := by
        have := List.getElem?_eq_none_iff.mp e
        exact List.getElem?_eq_none (by rw [← r.length]; exact this)
      rw [h1]; exact ih
    | some v =>
      obtain ⟨u, h1, h2⟩ := r.get e
      rw [h1]
      exact .cons h2 ih
def tCallKS (sp : Sp) (q : List Nat) (n m : Nat) (E : St → XK) (t tk : TA) : TE := fun σ H Q => t σ H fun vs H1 => tk σ H1 fun zs H2 => vs.length = n ∧ zs.length = m ∧ sp (pm q (vs ++ zs)) H2 Q (E σ)
def KwB (x : Str) (st : Stmt) (ps ks : List Str) (n : Nat) (q : List Nat) : Prop := ∀ (kV doc pm : Value) (an : Option Addr) (cdv ct : Value) (us ws : List Value), us.length = n → ws.length = ks.length →
  bindArgs (PySem.W.fnOf x x (defArgs st) (defBody st) (defScope st) .none kV doc pm an cdv ct) ⟨us, ks.zip ws⟩ = pure (ps.zip (L2.pm q (us ++ ws)))
theorem run_kw {ks : List Str} {q : List Nat} {n : Nat} {f : Addr} {fd : FuncData} {pins : List (Addr × Obj)} {σ : St} {H : Hp} {s : Shared} {Q : VK} {us ws : List Value} {vs zs : List V} (F : FnOk X.prog X.w X.K X.mg X.base (L2.CX X.prog X.w) k f fd ps sp) (FF : Fun X.K x x st f fd) (hb : KwB x st ps ks n q) (hr : Room k X.A) (tk : Takes X W)
    (hn : us.length = n) (hk : ws.length = ks.length) (I : Inv X pins σ H s) (r : Vals vs us) (rz : Vals zs ws) (h : sp (pm q (vs ++ zs)) H Q (WE W σ)) : wpAny (model X.prog X.w) X.A (call (.ref f) us (ks.zip ws)) (EP X pins σ Q) X.xe s := by
  obtain ⟨oc, od, kV, doc, pm0, an, cdv, ct, osl, rfl, lk, hcd⟩ := FF.ex
  have r2 := (r.append rz).pm q
  refine wpAny_call (codeAny_mono (F.run X.A X.stack s H ⟨us, ks.zip ws⟩ (pm q (us ++ ws)) (pm q (vs ++ zs)) Q (WE W σ) hr I.env0 (.of_eq (hb kV doc pm0 an cdv ct us ws hn hk)) r2 h) fun r s' hq => ?_)
  cases r with
  | error e => exact passAt tk σ pins H s e s' I hq
  | ok fl =>
    cases fl with
    | ret u => exact I.after hq
    | next => exact False.elim hq
    | brk => exact False.elim hq
    | cont => exact False.elim hq
theorem pe_kw {ks : List Str} {q : List Nat} {n : Nat} (D : Df X.prog X.w X.K X.mg X.base x st ps k sp) (hb : KwB x st ps ks n q) (hr : Room k X.A) (hg : Gl X x) (tk : Takes X W) (ha : PA X (e :: es) t) (hkw : PK X kws tk')
    (hall : (backToKw pos (keywordEach kws X.env)).all (·.1.isSome) = true := by rfl) (hks : (backToKw pos (keywordEach kws X.env)).filterMap (·.1) = ks := by rfl) (hdb : (x == ("__debug__" : Str)) = false := by decide)
    (he : starEach (e :: es) X.env = (false, eval e X.env) :: starEach es X.env := by rfl) (hpl : ((backTo pos (starEach (e :: es) X.env)).any (·.1) || (backToKw pos (keywordEach kws X.env)).any (·.1.isNone)) = false := by rfl) :
    PE X (.Call (.Name x p) (e :: es) kws pos) (tCallKS sp q n ks.length (WE W) t tk') := by
  obtain ⟨f, fd, F, hm, hk, _, FF⟩ := D
  refine ⟨fun pins s σ H Q I h => ?_⟩
  refine wpAny_Call_Name_kw (ld_glob I hg hm ?_ hdb)
  refine PySem.W.callWith_KW (h₀ := X.base) I.ok.mod.kin hk hall (thn (ha.run pos pins s σ H _ I h) fun us s1 ⟨vs, H1, I1, r, q1⟩ => ?_) hpl he
  refine thn (hkw.run pos pins s1 σ H1 _ I1 q1) fun ws s2 ⟨zs, H2, I2, rz, l1, l2, q2⟩ => ⟨I2.kIn, ?_⟩
  rw [hks]
  exact run_kw (us := us) (vs := vs) F FF hb hr tk (by rw [← r.length]; exact l1) (by rw [← rz.length]; exact l2) I2 r rz q2
theorem pe_kw0 {ks : List Str} {q : List Nat} (D : Df X.prog X.w X.K X.mg X.base x st ps k sp) (hb : KwB x st ps ks 0 q) (hr : Room k X.A) (hg : Gl X x) (tk : Takes X W) (hkw : PK X kws tk')
    (hall : (backToKw pos (keywordEach kws X.env)).all (·.1.isSome) = true := by rfl) (hks : (backToKw pos (keywordEach kws X.env)).filterMap (·.1) = ks := by rfl) (hdb : (x == ("__debug__" : Str)) = false := by decide)
    (hpl : ((backTo pos (starEach [] X.env)).any (·.1) || (backToKw pos (keywordEach kws X.env)).any (·.1.isNone)) = false := by rfl) :
    PE X (.Call (.Name x p) [] kws pos) (tCallKS sp q 0 ks.length (WE W) tNil tk') := by
  obtain ⟨f, fd, F, hm, hk, _, FF⟩ := D
  refine ⟨fun pins s σ H Q I h => ?_⟩
  refine wpAny_Call_Name_kw (ld_glob I hg hm ?_ hdb)
  refine PySem.W.callWith_KW0 (h₀ := X.base) I.ok.mod.kin hk hall ?_ hpl
  refine thn (hkw.run pos pins s σ H _ I h) fun ws s2 ⟨zs, H2, I2, rz, l1, l2, q2⟩ => ⟨I2.kIn, ?_⟩
  rw [hks]
  exact run_kw (us := []) (vs := []) F FF hb hr tk rfl (by rw [← rz.length]; exact l2) I2 .nil rz q2
end
theorem Room.u65 {k : Nat} {A : Around} (r : Room k A) : A.units + 65 < cLine := by have := r.un; omega
theorem Room.u64 {k : Nat} {A : Around} (r : Room k A) : A.units + 64 < cLine := by have := r.un; omega
theorem Room.u1 {k : Nat} {A : Around} (r : Room k A) : A.units + 1 < cLine := by have := r.un; omega
section
variable {X : Cx} {tg : Expr}
/-- for x in a list or a tuple -/
def iAny (K : PySem.W.Frag) (tl : TE) : TI := fun σ H R => tl σ H fun x H1 => (∃ a, x = .ref a ∧ (∃ xs, SqL K H1 a xs) ∧ R (Itl K a) H1) ∨ (∃ a, x = .ref a ∧ (∃ xs, SqT K H1 a xs) ∧ R (Itt K a) H1)
theorem pi_any {l : Expr} {tl : TE} (hl : PE X l tl) : PI X tg l (iAny X.K tl) := by
  refine ⟨fun pins s σ H R I h => ?_⟩
  refine thn (hl.run pins s σ H _ I h) fun v s1 ⟨x, H1, I1, r1, q1⟩ => ?_
  rcases q1 with ⟨a, e, ⟨xs, hq⟩, q⟩ | ⟨a, e, ⟨xs, hq⟩, q⟩
  · subst e
    cases r1
    obtain ⟨its, rv, p, hz⟩ := I1.list hq
    refine wpAny_pyIter_list p.isList ?_
    refine ⟨s1.heap.objs.size, [s1.heap.objs.size], _, _, H1, rfl, I1.kept (t' := s1.toks) fun b o e => Heap.get?_push_of_some _ e, turn_list a _, ⟨_, Heap.get?_push_size _ rfl, rfl, rfl⟩, fun b hb => ?_, q⟩
    have e : b = s1.heap.objs.size := by simpa using hb
    subst e
    exact I1.fpOk (Nat.le_refl _) (I1.hok.fresh (Nat.le_refl _))
  · subst e
    cases r1
    obtain ⟨its, rv, p, hz⟩ := I1.tuple hq
    refine wpAny_pyIter_tuple (show s1.heap.IsTuple a its.toArray from p) ?_
    refine ⟨s1.heap.objs.size, [s1.heap.objs.size], _, _, H1, rfl, I1.kept (t' := s1.toks) fun b o e => Heap.get?_push_of_some _ e, turn_tuple a _, ⟨_, Heap.get?_push_size _ rfl, rfl, rfl⟩, fun b hb => ?_, q⟩
    have e : b = s1.heap.objs.size := by simpa using hb
    subst e
    exact I1.fpOk (Nat.le_refl _) (I1.hok.fresh (Nat.le_refl _))
end
end L2
namespace DL
open PySem L2
section
variable {K : PySem.W.Frag} {mg : Mg} {W : Wc} {C : Cf} {Γ Γ' : List Sh} {s sr : Sh} {te ta tb : TE} {tt : TT} {fa fe : ER D} {ft : ER Bool}
/-! ### own things move -/
def eMove (i : Nat) : ER D := fun ρ => match ρ[i]? with
  | some (some d) => .ok d (ρ.set i none)
  | _ => .stuck
theorem eok_move {i : Nat} {l : Sh} (hs : Γ[i]? = some l) : EOk K mg W Γ (tVar i) l (eMove i) := by
  intro B R H σ ρ Q pw O hl
  unfold eMove at hl
  cases e0 : ρ[i]? with
  | none => rw [e0] at hl; exact hl.elim
  | some o =>
    cases o with
    | none => rw [e0] at hl; exact hl.elim
    | some d =>
      rw [e0] at hl
      obtain ⟨F, Wf⟩ := O.own
      obtain ⟨v, h1, h2⟩ := Wf.at_ i d l e0 hs
      refine ⟨v, h1, hl B H v (Same.refl _) ?_⟩
      refine ⟨O.sb, O.sr, by simp [O.lσ], by simp [O.lρ], O.br, fun j => match j with | 0 => F i | j + 1 => if j = i then [] else F j, ⟨fun j e s' h hs' => ?_, fun j p hp => ?_, fun j => ?_, fun j k p h3 h4 => ?_⟩⟩
      · cases j with
        | zero => simp at h hs'; subst h hs'; exact ⟨v, rfl, h2⟩
        | succ j =>
          have h : (ρ.set i none)[j]? = some (some e) := by simpa using h
          by_cases hj : j = i
          · subst hj
            by_cases hlt : j < ρ.length
            · rw [List.getElem?_set_self hlt] at h; cases h
            · rw [List.getElem?_eq_none (by simpa using hlt)] at h; cases h
          · rw [List.getElem?_set_ne (Ne.symm hj)] at h
            simp only [hj, if_false]
            exact Wf.at_ j e s' h (by simpa using hs')
      · cases j with
        | zero => exact Wf.no i p hp
        | succ j =>
          by_cases hj : j = i
          · simp [hj] at hp
          · simp only [hj, if_false] at hp; exact Wf.no j p hp
      · cases j with
        | zero => exact Wf.nd i
        | succ j =>
          by_cases hj : j = i
          · simp [hj]
          · simp only [hj, if_false]; exact Wf.nd j
      · cases j with
        | zero =>
          cases k with
          | zero => rfl
          | succ k =>
            by_cases hk : k = i
            · simp [hk] at h4
            · simp only [hk, if_false] at h4; exact absurd (Wf.dj _ _ p h4 h3) hk
        | succ j =>
          by_cases hj : j = i
          · simp [hj] at h3
          · simp only [hj, if_false] at h3
            cases k with
            | zero => exact absurd (Wf.dj _ _ p h3 h4) hj
            | succ k =>
              by_cases hk : k = i
              · simp [hk] at h4
              · simp only [hk, if_false] at h4
                rw [Wf.dj _ _ p h3 h4]
/-! ### assignments that keep the shapes -/
theorem set_same {i : Nat} (hs : Γ[i]? = some s) : Γ.set i s = Γ := by
  refine List.ext_getElem? fun j => ?_
  by_cases h : i = j
  · subst h
    rw [List.getElem?_set_self (List.getElem?_eq_some_iff.mp hs).1, hs]
  · rw [List.getElem?_set_ne h]
theorem sok_setK {i : Nat} (ag : C.ag Γ) (hp : i ∉ C.pn) (hs : Γ[i]? = some s) (h : EOk K mg C.W Γ te s fe) : SOk K mg C Γ Γ (tAsg te (gName i)) (sSet i fe) := by
  have := sok_set ag hp h
  rwa [set_same hs] at this
theorem gok_nameK {i : Nat} (hs : Γ[i]? = some .pu) : GOk (K := K) Γ Γ [i] (gName i) (gN i) := by
  have := gok_name (K := K) (Γ := Γ) (i := i)
  rwa [set_same hs] at this
theorem sok_parK {i j : Nat} {ta : TA} {fa : ER (List D)} (ag : C.ag Γ) (hi : i ∉ C.pn) (hj : j ∉ C.pn) (hs : Γ[i]? = some .pu) (hs2 : Γ[j]? = some .pu) (h : AOk K mg C.W Γ ta fa) : SOk K mg C Γ Γ (tPar i j ta) (sPar i j fa) := by
  have := sok_par ag hi hj h
  rwa [set_same hs, set_same hs2] at this
theorem sok_augK {i : Nat} {r : R2} {g : D → D → Option D} (ag : C.ag Γ) (hi : i ∉ C.pn) (hs : Γ[i]? = some .pu) (hr : R2Ok K r .pu g) (h : EOk K mg C.W Γ te .pu fe) : SOk K mg C Γ Γ (tAug i te r) (sAug g i fe) := by
  have := sok_aug ag hi hs hr h
  rwa [set_same hs] at this
end
end DL
namespace DL
open PySem L2
section
variable {K : PySem.W.Frag} {mg : Mg} {W : Wc} {C : Cf} {Γ Γ' : List Sh} {s sr : Sh} {te ta tb : TE} {tt : TT} {fa fe : ER D} {ft : ER Bool}
/-! ### for over a list or a tuple -/
def iA (f : ER D) : ER (List D) := fun ρ => (f ρ).bind fun d ρ => match d with
  | .lst ds => .ok ds ρ
  | .tup ds => .ok ds ρ
  | .scr ns => .ok (ns.map .int) ρ
  | _ => .stuck
theorem iok_any {te : TE} {f : ER D} (h : EOk K mg W Γ te .pu f) : IOk K mg W Γ (iAny K te) (iA f) := by
  intro B R H σ ρ Q pw O hl
  unfold iA at hl
  refine h B R H σ ρ _ pw O ?_
  cases e : f ρ with
  | stuck => rw [e] at hl; exact hl
  | exc x ρ1 => rw [e] at hl; exact hl
  | ok d ρ1 =>
    rw [e] at hl
    intro B1 H1 v s1 O1
    have rv := O1.top
    simp only [Res.bind] at hl
    split at hl
    · obtain ⟨a, vs, rfl, ha, ra⟩ := repL rv
      exact .inl ⟨a, rfl, ⟨vs, SqL.of (O1.sb _ _ ha)⟩, hl B1 H1 _ s1 O1.pop (walk_list (SqL.of ha) ra)⟩
    · obtain ⟨a, vs, rfl, ha, ra⟩ := repT rv
      exact .inr ⟨a, rfl, ⟨vs, sameT O1.sb ha⟩, hl B1 H1 _ s1 O1.pop (walk_tup ha ra)⟩
    · obtain ⟨a, rfl, ha⟩ := repX rv
      exact .inl ⟨a, rfl, ⟨_, O1.sb.seq ha⟩, hl B1 H1 _ s1 O1.pop (walk_list ha (reps_int _))⟩
    · exact hl.elim
/-! ### list(zip(..)) -/
def zipD : List D → List D → List D
  | a :: as, b :: bs => .tup [a, b] :: zipD as bs
  | _, _ => []
theorem zipW_ok {R : Hp} {σ : L2.St} {ρ : Env} {Q : VK} : ∀ {us ws acc : List V} {xs ys as : List D} {B H : Hp}, Reps K B us xs → Reps K B ws ys → Reps K B acc as → Ok K Γ B R H σ ρ →
    (∀ B' H' w, Same B B' → Ok K (.ls :: Γ) B' R H' (some w :: σ) (some (.lst (as ++ zipD xs ys)) :: ρ) → Q w H') → zipW us ws acc H Q
  | [], _, acc, xs, ys, as, B, H, ru, rw, ra, O, k => by
    cases ru
    unfold zipW
    refine fun p hp => k B _ _ (Same.refl _) ?_
    have e : zipD [] ys = [] := by unfold zipD; rfl
    rw [e, List.append_nil]
    exact O.pushN hp ra
  | u :: us, [], acc, xs, ys, as, B, H, ru, rw, ra, O, k => by
    cases rw
    unfold zipW
    refine fun p hp => k B _ _ (Same.refl _) ?_
    have e : zipD xs [] = [] := by cases xs <;> (unfold zipD; rfl)
    rw [e, List.append_nil]
    exact O.pushN hp ra
  | u :: us, w :: ws, acc, xs, ys, as, B, H, ru, rw', ra, O, k => by
    cases ru with
    | cons u1 u2 =>
      cases rw' with
      | cons w1 w2 =>
        rename_i x xs y ys
        unfold zipW
        intro T hT
        obtain ⟨B', s', O'⟩ := O.layTup hT (.cons u1 (.cons w1 .nil))
        have rt : Rep K B' (.ref T) (.tup [x, y]) := O'.top
        refine zipW_ok (as := as ++ [.tup [x, y]]) (u2.mono s') (w2.mono s') ((ra.mono s').snoc rt) O'.pop fun B2 H2 v s2 O2 => k B2 H2 v (s'.trans s2) ?_
        have e : zipD (x :: xs) (y :: ys) = .tup [x, y] :: zipD xs ys := by rfl
        rw [e]
        rw [List.append_assoc] at O2
        exact O2
def eListZ (f : ER (List D)) : ER D := fun ρ => (f ρ).bind fun ds ρ => match ds with
  | [.tup xs, .tup ys] => .ok (.lst (zipD xs ys)) ρ
  | _ => .stuck
theorem eok_listZ {ta : TA} {f : ER (List D)} (ha : AOk K mg W Γ ta f) : EOk K mg W Γ (tListZ K ta) .ls (eListZ f) := by
  intro B R H σ ρ Q pw O hl
  unfold eListZ at hl
  refine ha B R H σ ρ _ pw O ?_
  cases e : f ρ with
  | stuck => rw [e] at hl; exact hl
  | exc x ρ1 => rw [e] at hl; exact hl
  | ok ds ρ1 =>
    rw [e] at hl
    intro B1 H1 vs s1 O1 r1
    simp only [Res.bind] at hl
    split at hl
    · obtain ⟨v, u, rfl, rv, ru⟩ := reps2 r1
      obtain ⟨a, us, rfl, h1, h2⟩ := repT rv
      obtain ⟨b, ws, rfl, h3, h4⟩ := repT ru
      exact ⟨a, b, us, ws, rfl, sameT O1.sb h1, sameT O1.sb h3, zipW_ok h2 h4 .nil O1 fun B' H' w s' O' => hl B' H' w (s1.trans s') O'⟩
    · exact hl.elim
/-! ### calls with keywords -/
def aKw (q : List Nat) (n m : Nat) (fa fk : ER (List D)) : ER (List D) := fun ρ => (fa ρ).bind fun ds ρ => (fk ρ).bind fun es ρ => if ds.length = n ∧ es.length = m then .ok (pm q (ds ++ es)) ρ else .stuck
theorem Reps.pm {B : Hp} {vs : List V} {ds : List D} (r : Reps K B vs ds) : ∀ q : List Nat, Reps K B (L2.pm q vs) (L2.pm q ds)
  | [] => .nil
  | i :: q => by
    have ih := Reps.pm r q
    unfold L2.pm at ih ⊢
    rw [List.filterMap_cons, List.filterMap_cons]
    cases e : ds[i]? with
    | none =>
      have h1 : vs[i]? = none := by
        have := List.getElem?_eq_none_iff.mp e
        exact List.getElem?_eq_none (by rw [r.length]; exact this)
      rw [h1]; exact ih
    | some d =>
      obtain ⟨v, h1, h2⟩ := r.get e
      rw [h1]
      exact .cons h2 ih
theorem aok_kw {q : List Nat} {n m : Nat} {t tk : TA} {fa fk : ER (List D)} (ha : AOk K mg W Γ t fa) (hk : AOk K mg W Γ tk fk) : AOk K mg W Γ (fun σ H Q => t σ H fun vs H1 => tk σ H1 fun zs H2 => vs.length = n ∧ zs.length = m ∧ Q (L2.pm q (vs ++ zs)) H2) (aKw q n m fa fk) := by
  intro B R H σ ρ Q pw O hl
  unfold aKw at hl
  refine ha B R H σ ρ _ pw O ?_
  cases e : fa ρ with
  | stuck => rw [e] at hl; exact hl
  | exc x ρ1 => rw [e] at hl; exact hl
  | ok ds ρ1 =>
    rw [e] at hl
    simp only [Res.bind] at hl
    intro B1 H1 vs s1 O1 r1
    refine hk B1 R H1 σ ρ1 _ pw O1 ?_
    cases e2 : fk ρ1 with
    | stuck => rw [e2] at hl; exact hl
    | exc x ρ2 => rw [e2] at hl; exact XLand.mono hl s1
    | ok es ρ2 =>
      rw [e2] at hl
      simp only at hl
      intro B2 H2 zs s2 O2 r2
      by_cases hc : ds.length = n ∧ es.length = m
      · rw [if_pos hc] at hl
        refine ⟨by rw [r1.length]; exact hc.1, by rw [r2.length]; exact hc.2, hl B2 H2 _ (s1.trans s2) O2 ?_⟩
        exact ((r1.mono s2).append r2).pm q
      · rw [if_neg hc] at hl; exact hl.elim
theorem eok_callK {f : Den} {n m N : Nat} {q : List Nat} {t tk : TA} {fa fk : ER (List D)} (ha : AOk K mg W Γ t fa) (hk : AOk K mg W Γ tk fk) :
    EOk K mg W Γ (tCallKS (spD K mg (List.replicate N .pu) sr f) q n m (WE W.W) t tk) sr (eCall N f (aKw q n m fa fk)) :=
  eok_call (W := W) (n := N) (f := f) (aok_kw (q := q) (n := n) (m := m) ha hk)
/-! ### own lists: slices, list(x), tuple(x) -/
def eSlO (i : Nat) (fl fh : ER (Option Int)) : ER D := fun ρ => match ρ[i]? with
  | some (some _) => (fl ρ).bind fun lo ρ => (fh ρ).bind fun hi ρ => match ρ[i]? with
    | some (some (.lst ds)) => .ok (.lst (cutD ds lo hi)) ρ
    | _ => .stuck
  | _ => .stuck
theorem eok_slO {i : Nat} {tl th : TO} {fl fh : ER (Option Int)} (hs : Γ[i]? = some .ls) (hl : POk K mg W Γ tl fl) (hh : POk K mg W Γ th fh) : EOk K mg W Γ (tSl (rSlL K) (tVar i) tl th) .ls (eSlO i fl fh) := by
  intro B R H σ ρ Q pw O hd
  unfold eSlO at hd
  cases e0 : ρ[i]? with
  | none => rw [e0] at hd; exact hd.elim
  | some o =>
    cases o with
    | none => rw [e0] at hd; exact hd.elim
    | some d0 =>
      rw [e0] at hd
      simp only at hd
      obtain ⟨v0, hv0⟩ := some_get O e0 hs
      refine ⟨v0, hv0, hl B R H σ ρ _ pw O ?_⟩
      cases e1 : fl ρ with
      | stuck => rw [e1] at hd; exact hd
      | exc x ρ2 => rw [e1] at hd; exact hd
      | ok lo ρ1 =>
        rw [e1] at hd
        simp only [Res.bind] at hd
        intro B1 H1 s1 O1
        refine hh B1 R H1 σ ρ1 _ pw O1 ?_
        cases e2 : fh ρ1 with
        | stuck => rw [e2] at hd; exact hd
        | exc x ρ2 => rw [e2] at hd; exact XLand.mono hd s1
        | ok hi ρ2 =>
          rw [e2] at hd
          simp only at hd
          intro B2 H2 s2 O2
          split at hd
          · rename_i ds he
            obtain ⟨p, vs, q2, q3, q4⟩ := O2.getLs he hs
            rw [hv0] at q2; cases q2
            exact ⟨p, vs, rfl, SqL.of q3, fun a ha => hd B2 _ _ (s1.trans s2) (O2.pushN ha (q4.cut lo hi))⟩
          · exact hd.elim
def eCpO (i : Nat) : ER D := fun ρ => match ρ[i]? with
  | some (some (.lst ds)) => .ok (.lst ds) ρ
  | _ => .stuck
def eTpO (i : Nat) : ER D := fun ρ => match ρ[i]? with
  | some (some (.lst ds)) => .ok (.tup ds) ρ
  | _ => .stuck
theorem eok_listO {i : Nat} (hs : Γ[i]? = some .ls) : EOk K mg W Γ (tCB (rList K) (tCons (tVar i) tNil)) .ls (eCpO i) := by
  intro B R H σ ρ Q pw O hd
  unfold eCpO at hd
  split at hd
  · rename_i ds he
    obtain ⟨p, vs, q2, q3, q4⟩ := O.getLs he hs
    exact ⟨_, q2, p, vs, rfl, .inl (SqL.of q3), fun l hl => hd B _ _ (Same.refl _) (O.pushN hl q4)⟩
  · exact hd.elim
theorem eok_tupleO {i : Nat} (hs : Γ[i]? = some .ls) : EOk K mg W Γ (tCB (rTuple K) (tCons (tVar i) tNil)) .pu (eTpO i) := by
  intro B R H σ ρ Q pw O hd
  unfold eTpO at hd
  split at hd
  · rename_i ds he
    obtain ⟨p, vs, q2, q3, q4⟩ := O.getLs he hs
    refine ⟨_, q2, p, vs, rfl, .inl ⟨SqL.of q3, fun l hl => ?_⟩⟩
    obtain ⟨B', s', O'⟩ := O.layTup hl q4
    exact hd B' _ _ s' O'
  · exact hd.elim
/-! ### the head: a law's own promise -/
theorem law_ok {f : Den} {H : Hp} {a : Addr} {ns : List Int} (hS : SqL K H a (ns.map V.int)) (hO : Only H) (h : ∃ outs, f [.scr ns] = .ret (.bl true) outs) : spD K mg [.pu] .pu f [.ref a] H (fun v _ => v = .bl true) fun _ _ _ => False := by
  obtain ⟨outs, h⟩ := h
  refine ⟨H, fun _ => none, [.scr ns], ?_, ?_⟩
  · exact ⟨Same.refl _, fun a o e => (by cases e), rfl, rfl, fun p o e => (by cases e), fun _ => [], ⟨fun i d s h hs => by
      cases i with
      | zero => simp at h hs; subst h hs; exact ⟨.ref a, rfl, .scr hS, rfl⟩
      | succ i => simp at h, fun i p hp => absurd hp (by simp), fun _ => List.nodup_nil, fun i j p hp => absurd hp (by simp)⟩⟩
  · rw [h]
    intro B' H' v sb O
    exact repB O.top
end
end DL
namespace L2
open PySem PySem.Spec PyProof.Rows
def tTryAs (K : PySem.W.Frag) (c : Value) (i : Nat) (tb : WX → TS) (ts : Addr → Value → Option Addr → TS) (W : WX) : TS := fun D σ H => tb (wAs K c i ts W D) D σ H
def tTryO (K : PySem.W.Frag) (c : Value) (tb : WX → TS) (ts : Addr → Value → Option Addr → TS) (W : WX) : TS := fun D σ H => tb (wOnly K c ts W D) D σ H
section
variable {X : Cx} {x n : Str} {c : Value} {i : Nat} {np pos pos' : Pos} {body suite : List Stmt} {b₀ : Stmt} {tb : WX → TS} {ts : Addr → Value → Option Addr → TS} {Wout : WX}
theorem ps_tryA (hs : X.stack = X.env :: X.outer) (hf : X.env.frame = some X.env.locals) (hN : X.N.Nodup) (hi : X.N[i]? = some n) (hln : X.env.kindOf n = some .local) (hc : Names X x c) (tk : Takes X Wout)
    (hb : ∀ (W : WX) (pn : List (Addr × Obj)) (xe : Value → Shared → Prop), Takes (X.tr pn xe) W → PassesOwn (model X.prog X.w) X.A X.env xe → PSs (X.tr pn xe) body (tb W))
    (hsu : ∀ (a : Addr) (oe : Obj) (cls : Value) (d : Option Addr) (pn : List (Addr × Obj)), Zc cls d oe → (∃ vs, oe.data = .fields vs) → PSs (X.suite a ((a, oe) :: pn)) (b₀ :: suite) (ts a cls d)) :
    PS X (.Try body [.ExceptHandler (some (.Name x np)) (some n) (b₀ :: suite) pos'] [] [] pos) (tTryAs X.K c i tb ts Wout) := ps_try_as hs hf hN hi hln hc tk hb hsu
end
end L2
namespace DL
open PySem L2
theorem np {i : Nat} {l : List Nat} (h : l.elem i = false) : i ∉ l := fun q => by
  rw [List.elem_eq_contains] at h
  have := List.contains_iff_mem.mpr q
  rw [h] at this; cases this
theorem np2 {tv l : List Nat} (h : tv.all (fun i => !l.elem i) = true) : ∀ i ∈ tv, i ∉ l := fun i hi => np (by
  have := List.all_eq_true.mp h i hi
  simpa using this)
section
variable {K : PySem.W.Frag} {mg : Mg}
/-- what a clause says of errors, by their classes -/
def CsOk (K : PySem.W.Frag) (mg : Mg) (c : Value) : List (Nat × Bool) → Prop
  | [] => True
  | p :: r => (∃ C, mg (clsN p.1) = some (.ref C) ∧ PySem.W.exmOne K (.ref C) c = some p.2) ∧ CsOk K mg c r
theorem cs_of {c : Value} : ∀ {cs : List (Nat × Bool)}, CsOk K mg c cs → ∀ k b, cs.lookup k = some b → ∀ C0, mg (clsN k) = some (.ref C0) → PySem.W.exmOne K (.ref C0) c = some b
  | [], _, k, b, h, _, _ => by cases h
  | (k0, b0) :: cs, ⟨⟨C, g, m⟩, r⟩, k, b, h, C0, g0 => by
    rw [List.lookup_cons] at h
    by_cases e : k = k0
    · subst e
      have e2 : (k == k) = true := by simp
      rw [e2] at h
      cases h
      rw [g] at g0; cases g0
      exact m
    · have e2 : (k == k0) = false := by simpa using e
      rw [e2] at h
      exact cs_of r k b h C0 g0
def IsOk (K : PySem.W.Frag) (mg : Mg) (Cx : Addr) : List (Nat × Bool) → Prop
  | [] => True
  | p :: r => (∃ C, mg (clsN p.1) = some (.ref C) ∧ ExcC K C ∧ PySem.W.kitOne K (.ref C) (.ref Cx) = some p.2) ∧ IsOk K mg Cx r
theorem is_of {Cx : Addr} : ∀ {cs : List (Nat × Bool)}, IsOk K mg Cx cs → ∀ k b, cs.lookup k = some b → ∀ C0, mg (clsN k) = some (.ref C0) → ExcC K C0 ∧ PySem.W.kitOne K (.ref C0) (.ref Cx) = some b
  | [], _, k, b, h, _, _ => by cases h
  | (k0, b0) :: cs, ⟨⟨C, g, m⟩, r⟩, k, b, h, C0, g0 => by
    rw [List.lookup_cons] at h
    by_cases e : k = k0
    · subst e
      have e2 : (k == k) = true := by simp
      rw [e2] at h
      cases h
      rw [g] at g0; cases g0
      exact m
    · have e2 : (k == k0) = false := by simpa using e
      rw [e2] at h
      exact is_of r k b h C0 g0
/-- an error of the class at S, a clause that names T -/
theorem exm_of {S T : Addr} {b : Bool} (h1 : PySem.W.subIn K (.ref S) (.type "BaseException") = some true) (h0 : PySem.W.subIn K (.ref T) (.type "BaseException") = some true) (h2 : PySem.W.isClsIn K T = true) (h3 : PySem.W.typeIn K (.ref T) = some (.type "type")) (h4 : PySem.W.subIn K (.ref S) (.ref T) = some b) :
    PySem.W.exmOne K (.ref S) (.ref T) = some b := by
  have e1 : (PySem.W.subIn K (.ref T) (.type "BaseException") == some true) = true := by rw [h0] <;> rfl
  have e2 : ((PySem.W.clsIn K T).isSome && PySem.W.typeIn K (.ref T) == some (.type "type")) = true := by
    have h2' : (PySem.W.clsIn K T).isSome = true := h2
    rw [h2', h3] <;> rfl
  show (if (PySem.W.subIn K (.ref T) (.type "BaseException") == some true) = true then (if ((PySem.W.clsIn K T).isSome && PySem.W.typeIn K (.ref T) == some (.type "type")) = true then PySem.W.subIn K (.ref S) (.ref T) else none) else none) = some b
  rw [if_pos e1, if_pos e2]
  exact h4
theorem sok_tryA {C : Cf} {Γ Γ' : List Sh} {c : Value} {i : Nat} {cs : List (Nat × Bool)} {tb : WX → TS} {ts : Addr → Value → Option Addr → TS} {fb : DL.Env → Out} {fsu : Ex → DL.Env → Out} (ag : C.ag Γ) (hi : i ∉ C.pn) (hΓ : Γ[i]? = some .pu)
    (hcs : CsOk K mg c cs)
    (hb : ∀ W', SOk K mg (cfTry C Γ W') Γ Γ' (tb W') fb)
    (hsu : ∀ a e cls p l, ExV K mg e cls l → SOk K mg (cfSu C i a p l) Γ Γ' (ts a cls (some p)) (fsu e)) :
    SOk K mg C Γ Γ' (tTryAs K c i tb ts C.W.W) (sTryAs i cs fb fsu) := sok_try_as ag (.inr trivial) hi hΓ (cs_of hcs) hb hsu
theorem nn_ret {f : ER D} : ∀ ρ ρ', sRet f ρ ≠ .nx ρ' := fun ρ ρ' h => by
  unfold sRet at h
  cases e : f ρ <;> (rw [e] at h; cases h)
theorem nn_raise {c : Nat} {fs : List Str} {f : ER (List D)} : ∀ ρ ρ', sRaise c fs f ρ ≠ .nx ρ' := fun ρ ρ' h => by
  unfold sRaise at h
  cases e : f ρ with
  | ok ds ρ1 =>
    rw [e] at h
    simp only [Res.out] at h
    split at h <;> cases h
  | exc _ _ => rw [e] at h; cases h
  | stuck => rw [e] at h; cases h
theorem nn_seq {f g : DL.Env → Out} (hg : ∀ ρ ρ', g ρ ≠ .nx ρ') : ∀ ρ ρ', sSeq f g ρ ≠ .nx ρ' := fun ρ ρ' h => by
  unfold sSeq at h
  cases e : f ρ with
  | nx ρ1 => rw [e] at h; exact hg _ _ h
  | _ => rw [e] at h; cases h
theorem nn_if {t : ER Bool} {f g : DL.Env → Out} (hf : ∀ ρ ρ', f ρ ≠ .nx ρ') (hg : ∀ ρ ρ', g ρ ≠ .nx ρ') : ∀ ρ ρ', sIf t f g ρ ≠ .nx ρ' := fun ρ ρ' h => by
  unfold sIf at h
  cases e : t ρ with
  | ok b ρ1 =>
    rw [e] at h
    cases b with
    | true => exact hf _ _ h
    | false => exact hg _ _ h
  | exc _ _ => rw [e] at h; cases h
  | stuck => rw [e] at h; cases h
theorem cx_no {P : Program} {w : World} {outer : List PySem.Env} {H : Hp} {s : Shared} {e : Value} {s' : Shared} (h : L2.CX P w outer H s (fun _ _ _ => False) e s') : False := by
  obtain ⟨_, _, _, _, _, _, _, _, _, _, _, _, z⟩ := h
  exact z
/-- the law's promise for every table of globals -/
def spLaw (f : Den) (K : PySem.W.Frag) : Sp := fun vs H Q E => ∀ mg : Mg, spD K mg (List.replicate 1 .pu) .pu f vs H Q E
end
end DL
/-! own things in a parallel assignment, dicts written out, a chain of comparisons -/
namespace DL
open PySem L2
section
variable {K : PySem.W.Frag} {mg : Mg} {W : Wc} {C : Cf} {Γ Γ' : List Sh} {s : Sh} {ss : List Sh} {te ta tb tc : TE} {fe fa fb fc : ER D}

/-! ### arguments of which some are own -/
def ALandS (K : PySem.W.Frag) (mg : Mg) (W : Wc) (Γ ss : List Sh) (B R : Hp) (σ : L2.St) (Q : List V → Hp → Prop) : Res (List D) → Prop
  | .ok ds ρ => ∀ B' H' vs, Same B B' → vs.length = ss.length → ds.length = ss.length → Ok K (ss ++ Γ) B' R H' (vs.map some ++ σ) (ds.map some ++ ρ) → Q vs H'
  | .exc e ρ => XLand K mg W Γ B R σ e ρ
  | .stuck => False
def AOkS (K : PySem.W.Frag) (mg : Mg) (W : Wc) (Γ ss : List Sh) (ta : TA) (f : ER (List D)) : Prop := ∀ B R H σ ρ Q, W.P R σ → Ok K Γ B R H σ ρ → ALandS K mg W Γ ss B R σ Q (f ρ) → ta σ H Q
theorem aoks_nil : AOkS K mg W Γ [] tNil aNil := fun B R H σ ρ Q pw O h => h B H [] (Same.refl _) rfl rfl O
theorem aoks_pu {t : TA} {f : ER (List D)} (h : EOk K mg W Γ te .pu fe) (ha : AOkS K mg W Γ ss t f) : AOkS K mg W Γ (.pu :: ss) (tCons te t) (aCons fe f) := by
  intro B R H σ ρ Q pw O hl
  unfold aCons at hl
  refine h B R H σ ρ _ pw O ?_
  cases e1 : fe ρ with
  | stuck => rw [e1] at hl; exact hl
  | exc x ρ1 => rw [e1] at hl; exact hl
  | ok d ρ1 =>
    rw [e1] at hl
    intro B1 H1 v s1 O1
    refine ha B1 R H1 σ ρ1 _ pw O1.pop ?_
    simp only [Res.bind] at hl
    cases e2 : f ρ1 with
    | stuck => rw [e2] at hl; exact hl
    | exc x ρ2 => rw [e2] at hl; exact XLand.mono hl s1
    | ok ds ρ2 =>
      rw [e2] at hl
      intro B2 H2 vs s2 l1 l2 O2
      exact hl B2 H2 (v :: vs) (s1.trans s2) (by simp [l1]) (by simp [l2]) (O2.pushP (O1.top.mono s2))
theorem aoks_ls {t : TA} {f : ER (List D)} (h : EOk K mg W Γ te .ls fe) (ha : AOkS K mg W Γ ss t f) : AOkS K mg W Γ (.ls :: ss) (tCons te t) (aCons fe f) := by
  intro B R H σ ρ Q pw O hl
  unfold aCons at hl
  refine h B R H σ ρ _ pw O ?_
  cases e1 : fe ρ with
  | stuck => rw [e1] at hl; exact hl
  | exc x ρ1 => rw [e1] at hl; exact hl
  | ok d ρ1 =>
    rw [e1] at hl
    intro B1 H1 v s1 O1
    obtain ⟨p, o, -, -, n3, Oh, back⟩ := O1.hold
    have sR : Same R (upd R p o) := same_upd n3
    refine ha B1 (upd R p o) H1 σ ρ1 _ (W.mono _ _ _ sR pw) Oh ?_
    simp only [Res.bind] at hl
    cases e2 : f ρ1 with
    | stuck => rw [e2] at hl; exact hl
    | exc x ρ2 =>
      rw [e2] at hl
      intro B' H' cls p' l sb n O' x'
      have hne : p' ≠ p := fun z => by rw [z, upd_same] at n; cases n
      rw [upd_ne hne] at n
      refine hl B' H' cls p' l (s1.trans sb) n (O'.weakR fun a u e => ?_) x'
      by_cases z : a = p'
      · subst z; rw [upd_same] at e ⊢; exact e
      · rw [upd_ne z] at e ⊢
        exact sR a u e
    | ok ds ρ2 =>
      rw [e2] at hl
      intro B2 H2 vs s2 l1 l2 O2
      exact hl B2 H2 (v :: vs) (s1.trans s2) (by simp [l1]) (by simp [l2]) (back _ _ _ _ _ s2 O2)
theorem len2 {α : Type} {xs : List α} (h : xs.length = 2) : ∃ a b, xs = [a, b] := by
  match xs, h with
  | [a, b], _ => exact ⟨a, b, rfl⟩
theorem len3 {α : Type} {xs : List α} (h : xs.length = 3) : ∃ a b c, xs = [a, b, c] := by
  match xs, h with
  | [a, b, c], _ => exact ⟨a, b, c, rfl⟩
theorem sok_parS {i j : Nat} {s1 s2 : Sh} {t : TA} {fa : ER (List D)} (ag : C.ag Γ) (hi : i ∉ C.pn) (hj : j ∉ C.pn) (h : AOkS K mg C.W Γ [s1, s2] t fa) : SOk K mg C Γ ((Γ.set i s1).set j s2) (tPar i j t) (sPar i j fa) := by
  intro B R H σ ρ D pw O hl
  unfold sPar at hl
  refine h B R H σ ρ _ pw O ?_
  cases e : fa ρ with
  | stuck => rw [e] at hl; exact hl
  | exc x ρ1 => rw [e] at hl; exact SLand.exc hl ag
  | ok ds ρ1 =>
    rw [e] at hl
    intro B' H' vs sb l1 l2 O'
    obtain ⟨v, w, rfl⟩ := len2 l1
    obtain ⟨d, u, rfl⟩ := len2 l2
    simp only [Res.out] at hl
    refine ⟨v, w, rfl, hl B' H' _ sb ?_ fun k hk => ?_⟩
    · have O1 := O'.store (i + 1)
      simp only [List.cons_append, List.nil_append, List.map_cons, List.map_nil, List.set_cons_succ] at O1
      exact O1.store j
    · rw [List.getElem?_set_ne (by rintro rfl; exact hj hk), List.getElem?_set_ne (by rintro rfl; exact hi hk)]
def sPar3 (i j l : Nat) (f : ER (List D)) : Env → Out := fun ρ => (f ρ).out fun ds ρ => match ds with
  | [d, e, o] => .nx (((ρ.set i (some d)).set j (some e)).set l (some o))
  | _ => .stuck
theorem sok_parS3 {i j l : Nat} {s1 s2 s3 : Sh} {t : TA} {fa : ER (List D)} (ag : C.ag Γ) (hi : i ∉ C.pn) (hj : j ∉ C.pn) (hk : l ∉ C.pn) (h : AOkS K mg C.W Γ [s1, s2, s3] t fa) : SOk K mg C Γ (((Γ.set i s1).set j s2).set l s3) (tPar3 i j l t) (sPar3 i j l fa) := by
  intro B R H σ ρ D pw O hl
  unfold sPar3 at hl
  refine h B R H σ ρ _ pw O ?_
  cases e : fa ρ with
  | stuck => rw [e] at hl; exact hl
  | exc x ρ1 => rw [e] at hl; exact SLand.exc hl ag
  | ok ds ρ1 =>
    rw [e] at hl
    intro B' H' vs sb l1 l2 O'
    obtain ⟨v, w, y, rfl⟩ := len3 l1
    obtain ⟨d, u, z, rfl⟩ := len3 l2
    simp only [Res.out] at hl
    refine ⟨v, w, y, rfl, hl B' H' _ sb ?_ fun k hk2 => ?_⟩
    · have O1 := O'.store (i + 1 + 1)
      simp only [List.cons_append, List.nil_append, List.map_cons, List.map_nil, List.set_cons_succ] at O1
      have O2 := O1.store (j + 1)
      exact O2.store l
    · rw [List.getElem?_set_ne (by rintro rfl; exact hk hk2), List.getElem?_set_ne (by rintro rfl; exact hj hk2), List.getElem?_set_ne (by rintro rfl; exact hi hk2)]

/-! ### a dict written out -/
def PLand (K : PySem.W.Frag) (mg : Mg) (W : Wc) (Γ : List Sh) (ks : List Key) (B R : Hp) (σ : L2.St) (Q : List (V × V) → Hp → Prop) : Res (List D) → Prop
  | .ok ds ρ => ∀ B' H' kvs, Same B B' → Ok K Γ B' R H' σ ρ → ds.length = ks.length → RepsK K B' kvs (ks.zip ds) → Q (kvs.map fun kv => (kV kv.1, kv.2)) H'
  | .exc e ρ => XLand K mg W Γ B R σ e ρ
  | .stuck => False
def PsOk (K : PySem.W.Frag) (mg : Mg) (W : Wc) (Γ : List Sh) (trs : List (TE × TE)) (ks : List Key) (f : ER (List D)) : Prop := ∀ B R H σ ρ Q, W.P R σ → Ok K Γ B R H σ ρ → PLand K mg W Γ ks B R σ Q (f ρ) → tPairs trs σ H Q
theorem psok_nil : PsOk K mg W Γ [] [] aNil := fun B R H σ ρ Q pw O h => h B H [] (Same.refl _) O rfl .nil
theorem psok_cons {trs : List (TE × TE)} {k : Key} {ks : List Key} {f : ER (List D)} (h : EOk K mg W Γ te .pu fe) (ha : PsOk K mg W Γ trs ks f) : PsOk K mg W Γ ((tC (kV k), te) :: trs) (k :: ks) (aCons fe f) := by
  intro B R H σ ρ Q pw O hl
  unfold aCons at hl
  show te σ H _
  refine h B R H σ ρ _ pw O ?_
  cases e1 : fe ρ with
  | stuck => rw [e1] at hl; exact hl
  | exc x ρ1 => rw [e1] at hl; exact hl
  | ok d ρ1 =>
    rw [e1] at hl
    intro B1 H1 v s1 O1
    refine ha B1 R H1 σ ρ1 _ pw O1.pop ?_
    simp only [Res.bind] at hl
    cases e2 : f ρ1 with
    | stuck => rw [e2] at hl; exact hl
    | exc x ρ2 => rw [e2] at hl; exact XLand.mono hl s1
    | ok ds ρ2 =>
      rw [e2] at hl
      intro B2 H2 kvs s2 O2 l2 r2
      exact hl B2 H2 ((k, v) :: kvs) (s1.trans s2) O2 (by simp [l2]) (.cons (O1.top.mono s2) r2)
def mergeD (kds more : List (Key × D)) : List (Key × D) := more.foldl (fun acc kv => putD acc kv.1 kv.2) kds
theorem RepsK.merge {B : Hp} : ∀ {kvs2 : List (Key × V)} {kds2 : List (Key × D)} {kvs : List (Key × V)} {kds : List (Key × D)}, RepsK K B kvs2 kds2 → RepsK K B kvs kds → RepsK K B (mergeK kvs kvs2) (mergeD kds kds2)
  | [], [], _, _, _, r => r
  | (k, v) :: kvs2, (k', d) :: kds2, kvs, kds, r2, r => by
    cases r2 with
    | cons h r2 => exact RepsK.merge (kvs2 := kvs2) (kds2 := kds2) r2 (r.put h)
theorem RepsK.len {B : Hp} : ∀ {kvs : List (Key × V)} {kds : List (Key × D)}, RepsK K B kvs kds → kvs.length = kds.length
  | [], _, r => by cases r; rfl
  | _ :: _, _, r => by
    cases r with
    | cons h r => simp [RepsK.len r]
def eDisp (ks : List Key) (f : ER (List D)) : ER D := fun ρ => (f ρ).bind fun ds ρ => .ok (.dct (mergeD [] (ks.zip ds))) ρ
theorem eok_disp {trs : List (TE × TE)} {ks : List Key} {f : ER (List D)} (h15 : ks.length ≤ 15) (h : PsOk K mg W Γ trs ks f) : EOk K mg W Γ (tDisp trs) .ls (eDisp ks f) := by
  intro B R H σ ρ Q pw O hl p hp
  unfold eDisp at hl
  have O0 := O.pushD hp (.nil (K := K) (B := B))
  obtain ⟨p', o', ep, eo, n3, Oh, back⟩ := O0.hold
  cases ep
  rw [upd_same] at eo
  cases eo
  have sR : Same R (upd R p (.dK [])) := same_upd n3
  refine h B _ _ σ ρ _ (W.mono _ _ _ sR pw) Oh ?_
  cases e1 : f ρ with
  | stuck => rw [e1] at hl; exact hl
  | exc x ρ1 =>
    rw [e1] at hl
    intro B' H' cls p' l sb n O' x'
    have hne : p' ≠ p := fun z => by rw [z, upd_same] at n; cases n
    rw [upd_ne hne] at n
    refine hl B' H' cls p' l sb n (O'.weakR fun a u e => ?_) x'
    by_cases z : a = p'
    · subst z; rw [upd_same] at e ⊢; exact e
    · rw [upd_ne z] at e ⊢
      exact sR a u e
  | ok ds ρ1 =>
    rw [e1] at hl
    intro B1 H1 kvs s1 O1 l1 r1
    have O2 := back _ _ _ _ _ s1 O1
    refine ⟨O1.sr _ _ upd_same, kvs, rfl, ?_, ?_⟩
    · rw [r1.len, List.length_zip, l1]; omega
    · have O3 := O2.writeO (i := 0) (o' := .dK (mergeK [] kvs)) (d' := .dct (mergeD [] (ks.zip ds))) rfl rfl rfl (.dct upd_same (r1.merge .nil))
      exact hl B1 _ _ s1 O3
/-! ### a op b op c -/
def eChain (g g' : D → D → Option D) (fa fb fc : ER D) : ER D := fun ρ => (fa ρ).bind fun d ρ => (fb ρ).bind fun e ρ => match g d e with
  | some (.bl true) => (fc ρ).bind fun o ρ => ofOpt (g' e o) ρ
  | some (.bl false) => .ok (.bl false) ρ
  | _ => .stuck
theorem eok_chain {r r' : R2} {g g' : D → D → Option D} (hr : R2Ok K r .pu g) (hr' : R2Ok K r' .pu g') (ha : EOk K mg W Γ ta .pu fa) (hb : EOk K mg W Γ tb .pu fb) (hc : EOk K mg W Γ tc .pu fc) :
    EOk K mg W Γ (tChain r r' ta tb tc) .pu (eChain g g' fa fb fc) := by
  intro B R H σ ρ Q pw O hl
  unfold eChain at hl
  refine ha B R H σ ρ _ pw O ?_
  cases e1 : fa ρ with
  | stuck => rw [e1] at hl; exact hl
  | exc x ρ1 => rw [e1] at hl; exact hl
  | ok d ρ1 =>
    rw [e1] at hl
    intro B1 H1 v s1 O1
    have rv := O1.top
    refine hb B1 R H1 σ ρ1 _ pw O1.pop ?_
    simp only [Res.bind] at hl
    cases e2 : fb ρ1 with
    | stuck => rw [e2] at hl; exact hl
    | exc x ρ2 => rw [e2] at hl; exact XLand.mono hl s1
    | ok e ρ2 =>
      rw [e2] at hl
      intro B2 H2 u s2 O2
      have ru := O2.top
      simp only at hl
      cases e3 : g d e with
      | none => rw [e3] at hl; exact hl.elim
      | some z =>
        rw [e3] at hl
        refine hr Γ B2 R H2 σ ρ2 v u d e z _ O2.pop (rv.mono s2) ru e3 fun B3 H3 w s3 O3 => ?_
        have rw3 := O3.top
        cases z with
        | bl k =>
          cases rw3
          refine ⟨k, rfl, ?_⟩
          cases k with
          | false =>
            rw [if_neg Bool.false_ne_true]
            exact hl B3 H3 _ ((s1.trans s2).trans s3) O3
          | true =>
            rw [if_pos rfl]
            simp only at hl
            refine hc B3 R H3 σ ρ2 _ pw O3.pop ?_
            cases e4 : fc ρ2 with
            | stuck => rw [e4] at hl; exact hl
            | exc x ρ3 => rw [e4] at hl; exact XLand.mono hl ((s1.trans s2).trans s3)
            | ok o ρ3 =>
              rw [e4] at hl
              intro B4 H4 w4 s4 O4
              simp only [ofOpt] at hl
              cases e5 : g' e o with
              | none => rw [e5] at hl; exact hl.elim
              | some z' =>
                rw [e5] at hl
                exact hr' Γ B4 R H4 σ ρ3 u w4 e o z' _ O4.pop ((ru.mono s3).mono s4) O4.top e5 fun B5 H5 w5 s5 O5 => hl B5 H5 w5 ((((s1.trans s2).trans s3).trans s4).trans s5) O5
        | _ => exact hl.elim
end
end DL
namespace L2
open PySem PySem.Spec PyProof.Rows
set_option maxHeartbeats 1000000 in
theorem meets_enumerate_newB1 {v : Value} {o : Obj} {H : Heap → Prop} (B : Begins v o H) :
    Meets (Builtin.«enumerate.__new__» ⟨[.type "enumerate", v], []⟩) (fun _ R s => H s.heap ∧
      R (.ok (.ret (.ref (s.heap.push o).objs.size))) { s with heap := (s.heap.push o).push { cls := .type "enumerate", data := .fields #[.none, .bool false, .ref s.heap.objs.size, rawInt 0, .none, .none] } }) :=
  .of_wp fun prog w A R s h => by
    obtain ⟨hp, g, d, tk, os⟩ := s; obtain ⟨h1, h⟩ := h
    have hsub := sub_enumerate
    have q1 : ∀ {A' : Around} {E : Value → Shared → Prop} {Q : Value → Shared → Prop}, Q (.ref hp.objs.size) ⟨hp.push o, g, d, tk, os⟩ → wpAny (model prog w) A' (pyIter v) Q E ⟨hp, g, d, tk, os⟩ :=
      fun q => B.iter prog w _ _ ⟨hp, g, d, tk, os⟩ _ h1 q
    wp_walk using q1
    refine wpAny_stack_any fun st => wpAny_pure ?_
    split
    · rename_i c _ _ _ _ _
      cases (c == Value.type "enumerate")
      · wp_walk using q1
        exact ⟨_, rfl, h⟩
      · wp_walk using q1
        exact ⟨_, rfl, h⟩
    · wp_walk using q1
      exact ⟨_, rfl, h⟩
section
variable {prog : Program} {w : World} {A : Around} {E : Value → Shared → Prop} {s : Shared}
theorem enum_begins1 {v : Value} {o : Obj} {H : Heap → Prop} {Q : Value → Shared → Prop} (B : Begins v o H) (h1 : H s.heap)
    (h : ∀ h', IsEnum h' (s.heap.objs.size + 1) s.heap.objs.size 0 .none → h'.get? s.heap.objs.size = some o → h'.objs.size = s.heap.objs.size + 2 →
      (∀ b o, s.heap.get? b = some o → h'.get? b = some o) → Q (.ref (s.heap.objs.size + 1)) { s with heap := h' }) :
    wpAny (model prog w) A (call (.type "enumerate") [v]) Q E s := by
  refine callType_new F.called_enumerate (by decide) (F.typeCall_enumerate_1 _) (F.newCall_enumerate_1 _) (fun obj => F.args_object_init_2 obj _) F.entry_enumerate_new
    (meets_enumerate_newB1 B) ⟨h1, ?_⟩
  have hz : (s.heap.push o).objs.size = s.heap.objs.size + 1 := Heap.size_push ..
  show _ ∧ _
  rw [hz]
  have he : IsEnum ((s.heap.push o).push { cls := .type "enumerate", data := .fields #[.none, .bool false, .ref s.heap.objs.size, rawInt 0, .none, .none] }) (s.heap.objs.size + 1) s.heap.objs.size 0 .none := by
    have := Heap.get?_push_size (s.heap.push o) (o := { cls := .type "enumerate", data := .fields #[.none, .bool false, .ref s.heap.objs.size, rawInt 0, .none, .none] }) rfl
    rw [hz] at this; exact this
  refine ⟨⟨_, he, rfl⟩, h _ he (Heap.get?_push_of_some _ (Heap.get?_push_size _ B.free)) (by rw [Heap.size_push, hz]) fun b o x => Heap.get?_push_of_some _ (Heap.get?_push_of_some _ x)⟩
end
/-- the tuple at a, each item in a new pair -/
def IteT (K : PySem.W.Frag) (a : Addr) : It :=
  ⟨fun i H => ∃ (xs : List V) (x : V), SqT K H a xs ∧ xs[i]? = some x, fun i H v H' => ∃ T x, v = .ref T ∧ H T = none ∧ H' = upd H T (.tup [.int (i : Nat), x]) ∧ ∀ xs, SqT K H a xs → xs[i]? = some x, fun i H => ∃ xs : List V, SqT K H a xs ∧ xs.length ≤ i⟩
theorem draws_end {prog : Program} {w : World} {A : Around} (hh : A.handled = none) (it t : Addr) (items : Array Value) (i : Nat) (hi : items.size ≤ i) :
    Draws prog w A it [it, t] i (fun _ _ => True) (fun j h => j = i ∧ h.IsTupleIter it t i ∧ h.IsTuple t items) where
  live := fun _ _ st => let ⟨o, ho, _⟩ := st.2.1; ⟨o, ho⟩
  frame := fun _ _ _ st hk => ⟨st.1, st.2.1.at fun o e => hk it (by simp) o e, st.2.2.at fun o e => hk t (by simp) o e⟩
  item := fun j s Q E hj st hQ => by have := st.1; omega
  done := fun s Q E st hE => wpAny_nextOf_tuple_end hh st.2.1 st.2.2 (by simp; omega) hE
theorem tuple_not_enum {h : Heap} {a e it : Addr} {i : Int} {old : Value} {its : Array Value} (p : h.IsTuple a its) (he : IsEnum h e it i old) : e ≠ a := by
  rintro rfl
  obtain ⟨o, ho, hc, _⟩ := p
  rw [he] at ho; cases ho; exact absurd (Value.type.inj hc) (by decide)
theorem tuple_not_iter {h : Heap} {a it : Addr} {i : Nat} {its : Array Value} (p : h.IsTuple a its) (hit : h.IsTupleIter it a i) : a ≠ it := by
  rintro rfl
  obtain ⟨o, ho, hc, _⟩ := p
  obtain ⟨o', ho', hc', _⟩ := hit
  rw [ho] at ho'; cases ho'; rw [hc] at hc'; exact absurd (Value.type.inj hc') (by decide)
theorem turn_enumT {P : Program} {w : World} {K : PySem.W.Frag} {elts : List Expr} {kk : Nat} {tpos : Pos} (a e it : Addr) :
    Turn P w K (.Tuple elts kk tpos) (IteT K a) [e, it] e (fun i h => (∃ old, IsEnum h e it ((i : Nat) : Int) old) ∧ h.IsTupleIter it a i ∧ e ≠ it) where
  mem := by simp
  obj := fun i h st b hb => by
    obtain ⟨⟨old, he⟩, ⟨o, ho, hc, hd⟩, _⟩ := st
    have e' : b = e ∨ b = it := by simpa using hb
    rcases e' with z | z
    · rw [z]; exact ⟨_, he, fun v q => nomatch q⟩
    · rw [z]; exact ⟨o, ho, fun v q => by rw [hd] at q; cases q⟩
  keep := fun i h h' st k => let ⟨⟨old, he⟩, hi, hne⟩ := st; ⟨⟨old, k e (by simp) _ he⟩, hi.at fun o q => k it (by simp) o q, hne⟩
  item := by
    intro X hP hw hK hc i pins s σ H E I hf st hg
    subst hP hw hK
    obtain ⟨⟨old, he⟩, hit, hne⟩ := st
    obtain ⟨xs, x, hq, hx⟩ := hg
    obtain ⟨its, rv, p, hz⟩ := I.tuple hq
    have p' : s.heap.IsTuple a its.toArray := p
    obtain ⟨u, hu, ru⟩ := rv.get hx
    have hel : e < s.heap.objs.size := Heap.lt_size he
    have hil : it < s.heap.objs.size := by obtain ⟨_, q, _⟩ := hit; exact Heap.lt_size q
    have hea := tuple_not_enum p' he
    have hai := tuple_not_iter p' hit
    have hlt : i < its.toArray.size := by
      have := List.getElem?_eq_some_iff.mp hu
      obtain ⟨h1, _⟩ := this
      simpa using h1
    refine wpAny_pyNext_enum_itemD (Draws.tuple (show X.A.in1.handled = none from I.ok.hd hc) it a hai its.toArray) he ⟨hit, p'⟩ hlt hne (by simp [hne, hea]) fun x' h' tk hP ho hit' hT hsz hk => ?_
    have ex : x' = u := by
      have h1 : its.toArray[i]? = some x' := hP
      have h2 : its.toArray[i]? = some u := by simpa using hu
      rw [h1] at h2; cases h2; rfl
    subst ex
    refine ⟨_, rfl, wpAny_letOwnedTupleGo_enum (s := { s with heap := h', toks := tk + 1 }) ho fun h'' he' sb => ?_⟩
    have hT2 : h''.get? s.heap.objs.size = some { cls := .type "tuple", data := .seq #[.int i tk, x'] } := (sb.2 _ (Nat.ne_of_gt hel)).trans hT
    have new : ObjOk X.prog X.w (upd H s.heap.objs.size (.tup [.int (i : Nat), x])) h'' s.heap.objs.size (.tup [.int (i : Nat), x]) :=
      ⟨by show 2 ≤ sizeLine; decide, [.int i tk, x'], .cons ⟨_, rfl⟩ (.cons ru .nil), ⟨_, hT2, rfl, _, rfl⟩⟩
    have I1 : Inv X pins σ (upd H s.heap.objs.size (.tup [.int (i : Nat), x])) { s with heap := h'', toks := tk + 1 } :=
      I.turnedNew (ch := [e, it]) (fun b ob hb q => (sb.2 b (fun z => hb (by simp [z]))).trans (hk b ob (fun z => hb (by simp [z])) (fun z => hb (by simp [z])) q)) hf (Nat.le_refl _) new
    refine ⟨.ref s.heap.objs.size, _, I1, rfl, ⟨_, x, rfl, I.hok.fresh (Nat.le_refl _), rfl, fun ys hy => ?_⟩, ⟨⟨x', ?_⟩, hit'.1.at fun o q => (sb.2 it (Ne.symm hne)).trans q, hne⟩, fun b hb => ?_⟩
    · have ey : ys = xs := I.tuple_inj hy hq
      rw [ey]; exact hx
    · have e1 : ((i + 1 : Nat) : Int) = (i : Int) + 1 := by omega
      rw [e1]; exact he'
    · have hb' : b < s.heap.objs.size := by
        have e' : b = e ∨ b = it := by simpa using hb
        rcases e' with z | z
        · rw [z]; exact hel
        · rw [z]; exact hil
      rw [upd_ne (Nat.ne_of_lt hb')]
      exact (hf b hb).1
  done := by
    intro X hP hw hK hc i pins s σ H E I hf st hg
    subst hP hw hK
    obtain ⟨⟨old, he⟩, hit, hne⟩ := st
    obtain ⟨xs, hq, hx⟩ := hg
    obtain ⟨its, rv, p, hz⟩ := I.tuple hq
    obtain ⟨f0, f1, f2, f3, f4, f5⟩ := hf it (by simp)
    have hl := rv.length
    exact wpAny_pyNext_enum_endD (draws_end (show X.A.in1.handled = none from I.ok.hd hc) it a its.toArray i (by simp; omega)) he ⟨rfl, hit, p⟩ fun h' eb => ⟨rfl, I.turned (t' := s.toks) (fun b o hb q => eb b o hb q) f0 f1 f3 f4 f5⟩
  self := fun A i s Q E st h => let ⟨⟨_, he⟩, _⟩ := st; wpAny_pyIter_enum he h
def iEnumA (K : PySem.W.Frag) (ta : TA) : TI := fun σ H R => ta σ H fun vs H1 => (∃ a xs, vs = [.ref a] ∧ SqL K H1 a xs ∧ R (Ite K a) H1) ∨ (∃ a xs, vs = [.ref a] ∧ SqT K H1 a xs ∧ R (IteT K a) H1)
theorem pi_enumA {X : Cx} {e : Expr} {ta : TA} {p pos tpos : Pos} {elts : List Expr} {kk : Nat} (hg : Gl X "enumerate") (hm : X.mg "enumerate" = none) (ha : PA X [e] ta) (hs : starEach [e] X.env = [(false, eval e X.env)] := by rfl) :
    PI X (.Tuple elts kk tpos) (.Call (.Name "enumerate" p) [e] [] pos) (iEnumA X.K ta) := by
  refine ⟨fun pins s σ H R I h => ?_⟩
  refine Call_ (ld_blt I hg hm boot_enumerate (PyProof.Rows.callWith_type1 (thn (ha.run pos pins s σ H _ I h) fun us s1 ⟨vs, H1, I1, r1, q1⟩ => ?_) hs rfl))
  rcases q1 with ⟨a, xs, ex, hq, q⟩ | ⟨a, xs, ex, hq, q⟩
  · subst ex
    cases r1 with
    | cons r rr =>
      cases rr
      cases r
      obtain ⟨its, rv, p', hz⟩ := I1.list hq
      refine call_enumerate_list p'.isList fun h' he hit hsz hk => wpAny_pyIter_enum he ?_
      have I2 : Inv X pins σ H1 { s1 with heap := h' } := I1.kept (t' := s1.toks) hk
      refine ⟨s1.heap.objs.size + 1, [s1.heap.objs.size + 1, s1.heap.objs.size], _, _, H1, rfl, I2, turn_enum a (s1.heap.objs.size + 1) s1.heap.objs.size, ⟨⟨.none, he⟩, hit, Nat.succ_ne_self _⟩, fun b hb => ?_, q⟩
      have e' : b = s1.heap.objs.size + 1 ∨ b = s1.heap.objs.size := by simpa using hb
      have hle : s1.heap.objs.size ≤ b := by
        rcases e' with z | z
        · rw [z]; exact Nat.le_add_right _ _
        · rw [z]; exact Nat.le_refl _
      exact I1.fpOk hle (I1.hok.fresh hle)
  · subst ex
    cases r1 with
    | cons r rr =>
      cases rr
      cases r
      obtain ⟨its, rv, p', hz⟩ := I1.tuple hq
      refine enum_begins1 (begins_tuple a its.toArray) p' fun h' he hit hsz hk => wpAny_pyIter_enum he ?_
      have I2 : Inv X pins σ H1 { s1 with heap := h' } := I1.kept (t' := s1.toks) hk
      refine ⟨s1.heap.objs.size + 1, [s1.heap.objs.size + 1, s1.heap.objs.size], _, _, H1, rfl, I2, turn_enumT a (s1.heap.objs.size + 1) s1.heap.objs.size, ⟨⟨.none, he⟩, ⟨_, hit, rfl, rfl⟩, Nat.succ_ne_self _⟩, fun b hb => ?_, q⟩
      have e' : b = s1.heap.objs.size + 1 ∨ b = s1.heap.objs.size := by simpa using hb
      have hle : s1.heap.objs.size ≤ b := by
        rcases e' with z | z
        · rw [z]; exact Nat.le_add_right _ _
        · rw [z]; exact Nat.le_refl _
      exact I1.fpOk hle (I1.hok.fresh hle)
end L2
namespace DL
open PySem L2
section
variable {K : PySem.W.Frag} {mg : Mg} {W : Wc} {Γ : List Sh} {te : TE} {fe : ER D} {ta : TA}
def enumD (n : Nat) : List D → List D
  | [] => []
  | d :: ds => .tup [.int n, d] :: enumD (n + 1) ds
theorem enumD_len : ∀ (ds : List D) (n : Nat), (enumD n ds).length = ds.length
  | [], _ => rfl
  | d :: ds, n => by unfold enumD; simp [enumD_len ds]
theorem enumD_get : ∀ (ds : List D) (n i : Nat) (e : D), (enumD n ds)[i]? = some e → ∃ d, ds[i]? = some d ∧ e = .tup [.int ((n + i : Nat) : Int), d]
  | [], _, i, e, h => by simp [enumD] at h
  | d :: ds, n, i, e, h => by
    unfold enumD at h
    cases i with
    | zero => simp at h; exact ⟨d, rfl, by rw [← h]; simp⟩
    | succ i =>
      obtain ⟨x, h1, h2⟩ := enumD_get ds (n + 1) i e (by simpa using h)
      exact ⟨x, by simpa using h1, by rw [h2]; congr 3; congr 1; omega⟩
theorem Reps.at' {B : Hp} : ∀ {vs : List V} {ds : List D}, Reps K B vs ds → ∀ {i : Nat} {d : D}, ds[i]? = some d → ∃ v, vs[i]? = some v ∧ Rep K B v d
  | [], [], _, i, d, h => by simp at h
  | v :: vs, e :: ds, r, i, d, h => by
    cases r with
    | cons q r =>
      cases i with
      | zero => simp at h; subst h; exact ⟨v, rfl, q⟩
      | succ i =>
        obtain ⟨u, h1, h2⟩ := Reps.at' r (i := i) (d := d) (by simpa using h)
        exact ⟨u, by simpa using h1, h2⟩
theorem walk_enum_core {B : Hp} {J : It} {vs : List V} {ds : List D} (r : Reps K B vs ds)
    (go : ∀ B2 H2, Same B B2 → Same B2 H2 → ∀ i x, vs[i]? = some x → J.go i H2)
    (yld : ∀ B2 H2, Same B B2 → Same B2 H2 → ∀ i v H', J.yld i H2 v H' → ∃ T x, v = .ref T ∧ H2 T = none ∧ H' = upd H2 T (.tup [.int (i : Nat), x]) ∧ vs[i]? = some x)
    (stop : ∀ B2 H2, Same B B2 → Same B2 H2 → ∀ i, vs.length ≤ i → J.stop i H2) : Walks K B J (enumD 0 ds) where
  go := fun B2 H2 a b i hi => by
    rw [enumD_len, ← r.length] at hi
    exact go B2 H2 a b i vs[i] (by simp [hi])
  yld := fun B2 H2 a b i d x H3 hd y => by
    obtain ⟨T, x', rfl, hT, rfl, hx⟩ := yld B2 H2 a b i x H3 y
    obtain ⟨e, h1, rfl⟩ := enumD_get ds 0 i d hd
    obtain ⟨v, h2, rv⟩ := Reps.at' r h1
    rw [hx] at h2; cases h2
    have hb : B2 T = none := b.free hT
    refine ⟨upd B2 T (.tup [.int (i : Nat), x']), same_upd hb, same_upd hT, fun q o e => ?_, fun q o e => ?_, .tup (SqT.of upd_same) (.cons ?_ (.cons (rv.mono (a.trans (same_upd hb))) .nil))⟩
    · by_cases z : q = T
      · subst z; rw [upd_same] at e ⊢; exact e
      · rw [upd_ne z] at e ⊢; exact b _ _ e
    · by_cases z : q = T
      · subst z; exact .inr hT
      · rw [upd_ne z] at e; exact .inl e
    · rw [Nat.zero_add]; exact .int _
  stop := fun B2 H2 a b i hi => by
    rw [enumD_len, ← r.length] at hi
    exact stop B2 H2 a b i hi
def iEn (f : ER (List D)) : ER (List D) := fun ρ => (f ρ).bind fun ds ρ => match ds with
  | [.lst ds] => .ok (enumD 0 ds) ρ
  | [.tup ds] => .ok (enumD 0 ds) ρ
  | _ => .stuck
theorem iok_enum {f : ER (List D)} (h : AOk K mg W Γ ta f) : IOk K mg W Γ (iEnumA K ta) (iEn f) := by
  intro B R H σ ρ Q pw O hl
  unfold iEn at hl
  refine h B R H σ ρ _ pw O ?_
  cases e : f ρ with
  | stuck => rw [e] at hl; exact hl
  | exc x ρ1 => rw [e] at hl; exact hl
  | ok ds ρ1 =>
    rw [e] at hl
    intro B1 H1 vs s1 O1 rr
    simp only [Res.bind] at hl
    split at hl
    · obtain ⟨v, rfl, rv⟩ := reps1 rr
      obtain ⟨a, vs, rfl, ha, ra⟩ := repL rv
      refine .inl ⟨a, vs, rfl, SqL.of (O1.sb _ _ ha), hl B1 H1 _ s1 O1 (walk_enum_core ra (fun B2 H2 p q i x hx => ⟨vs, x, SqL.of (q _ _ (p _ _ ha)), hx⟩) (fun B2 H2 p q i v H' y => ?_) fun B2 H2 p q i hi => ⟨vs, SqL.of (q _ _ (p _ _ ha)), hi⟩)⟩
      obtain ⟨T, x, h1, h2, h3, h4⟩ := y
      exact ⟨T, x, h1, h2, h3, h4 _ (SqL.of (q _ _ (p _ _ ha)))⟩
    · obtain ⟨v, rfl, rv⟩ := reps1 rr
      obtain ⟨a, vs, rfl, ha, ra⟩ := repT rv
      refine .inr ⟨a, vs, rfl, sameT O1.sb ha, hl B1 H1 _ s1 O1 (walk_enum_core ra (fun B2 H2 p q i x hx => ⟨vs, x, sameT q (sameT p ha), hx⟩) (fun B2 H2 p q i v H' y => ?_) fun B2 H2 p q i hi => ⟨vs, sameT q (sameT p ha), hi⟩)⟩
      obtain ⟨T, x, h1, h2, h3, h4⟩ := y
      exact ⟨T, x, h1, h2, h3, h4 _ (sameT q (sameT p ha))⟩
    · exact hl.elim
end
end DL
namespace L2
open PySem PySem.Spec PyProof.Rows PySem.W
def rMaxT (K : PySem.W.Frag) : List V → Hp → VK → Prop := fun vs H Q => ∃ (a : Addr) (n : Int) (ns : List Int), vs = [V.ref a] ∧ SqT K H a ((n :: ns).map V.int) ∧ Q (.int (ns.foldl max n)) H
def rMinT (K : PySem.W.Frag) : List V → Hp → VK → Prop := fun vs H Q => ∃ (a : Addr) (n : Int) (ns : List Int), vs = [V.ref a] ∧ SqT K H a ((n :: ns).map V.int) ∧ Q (.int (ns.foldl min n)) H
theorem maxOf_int (n : Int) (ns : List Int) : maxOf n ns = ns.foldl max n := by
  have h1 := maxD_map n ns
  have h2 := maxD_ints n ns
  have h3 : PyData.int (ns.foldl max n) = PyData.int (maxOf n ns) := h2.symm.trans h1
  exact (PyData.int.inj h3).symm
theorem minOf_int (n : Int) (ns : List Int) : minOf n ns = ns.foldl min n := by
  have h1 := minD_map n ns
  have h2 := minD_ints n ns
  have h3 : PyData.int (ns.foldl min n) = PyData.int (minOf n ns) := h2.symm.trans h1
  exact (PyData.int.inj h3).symm
theorem holds_toInt {h : Heap} {v : Value} {n : Int} (H : Holds h v n) : ∃ t, v = .int n t := by
  obtain ⟨as, r⟩ := H
  cases r
  exact ⟨_, rfl⟩
variable {X : Cx}
theorem cr_maxT (hc : X.calm = true) (hu : X.A.units + 1 < cLine) : CallR X (.builtin "max") (rMaxT X.K) := by
  intro pins s σ H vs us Q I r h
  obtain ⟨a, n, ns, rfl, hs, q⟩ := h
  obtain ⟨its, rv, p, _⟩ := I.tuple hs
  rw [Vals.ref1 r]
  refine max_tuple_datum (α := Int) (vs := its.toArray) (x := n) (xs := ns) (I.ok.hd hc) p (by simpa using HoldAll.of_ints rv.ints) hu fun i v h' tk hv hh hk => ?_
  obtain ⟨t, rfl⟩ := holds_toInt hh
  rw [maxOf_int]
  exact ⟨.int _, H, I.kept hk, ⟨_, rfl⟩, q⟩
theorem cr_minT (hc : X.calm = true) (hu : X.A.units + 1 < cLine) : CallR X (.builtin "min") (rMinT X.K) := by
  intro pins s σ H vs us Q I r h
  obtain ⟨a, n, ns, rfl, hs, q⟩ := h
  obtain ⟨its, rv, p, _⟩ := I.tuple hs
  rw [Vals.ref1 r]
  refine min_tuple_datum (α := Int) (vs := its.toArray) (x := n) (xs := ns) (I.ok.hd hc) p (by simpa using HoldAll.of_ints rv.ints) hu fun i v h' tk hv hh hk => ?_
  obtain ⟨t, rfl⟩ := holds_toInt hh
  rw [minOf_int]
  exact ⟨.int _, H, I.kept hk, ⟨_, rfl⟩, q⟩
end L2
namespace DL
open PySem L2
variable {K : PySem.W.Frag} {X : Cx} {mg : Mg} {W : Wc} {Γ : List Sh}
def gMaxA : List D → Option D
  | [.tup ds] => match intsD ds with
    | some (n :: ns) => some (.int (ns.foldl max n))
    | _ => none
  | ds => gMax ds
def gMinA : List D → Option D
  | [.tup ds] => match intsD ds with
    | some (n :: ns) => some (.int (ns.foldl min n))
    | _ => none
  | ds => gMin ds
def rMaxB (K : PySem.W.Frag) : List V → Hp → VK → Prop := fun xs H Q => rMaxA K xs H Q ∨ rMaxT K xs H Q
def rMinB (K : PySem.W.Frag) : List V → Hp → VK → Prop := fun xs H Q => rMinA K xs H Q ∨ rMinT K xs H Q
theorem callMaxA (hu : X.A.units + 1 < cLine) (hc : X.calm = true) : CallR X (.builtin "max") (rMaxB X.K) := (callMax hc).or (cr_maxT hc hu)
theorem callMinA (hu : X.A.units + 1 < cLine) (hc : X.calm = true) : CallR X (.builtin "min") (rMinB X.K) := (callMin hc).or (cr_minT hc hu)
theorem c1_maxA : C1Ok K (rMaxB K) .pu gMaxA := by
  intro Γ B R H σ ρ vs ds o Q O rs hg k
  unfold gMaxA at hg
  split at hg
  · split at hg
    · rename_i n ns e
      cases hg
      obtain ⟨v, rfl, rv⟩ := reps1 rs
      obtain ⟨a, us, rfl, ha, ra⟩ := repT rv
      rw [intsD_eq e] at ra
      cases reps_ints ra
      exact .inr ⟨a, n, ns, rfl, sameT O.sb ha, k B H _ (Same.refl _) (O.pushP (.int _))⟩
    · cases hg
  · exact .inl (c1_max Γ B R H σ ρ vs ds o Q O rs hg k)
theorem c1_minA : C1Ok K (rMinB K) .pu gMinA := by
  intro Γ B R H σ ρ vs ds o Q O rs hg k
  unfold gMinA at hg
  split at hg
  · split at hg
    · rename_i n ns e
      cases hg
      obtain ⟨v, rfl, rv⟩ := reps1 rs
      obtain ⟨a, us, rfl, ha, ra⟩ := repT rv
      rw [intsD_eq e] at ra
      cases reps_ints ra
      exact .inr ⟨a, n, ns, rfl, sameT O.sb ha, k B H _ (Same.refl _) (O.pushP (.int _))⟩
    · cases hg
  · exact .inl (c1_min Γ B R H σ ρ vs ds o Q O rs hg k)
end DL
/-! the denotations, reckoned: simp's lemmas -/
namespace DL
open PySem L2
section
variable {ρ : DL.Env} {f g : DL.Env → Out} {fe fl fh : ER D} {ft fu : ER Bool} {fa fb : ER (List D)}
@[simp] theorem bind_ok {α β : Type} {a : α} {k : α → DL.Env → Res β} : (Res.ok a ρ).bind k = k a ρ := rfl
@[simp] theorem bind_exc {α β : Type} {e : Ex} {k : α → DL.Env → Res β} : (Res.exc e ρ : Res α).bind k = .exc e ρ := rfl
@[simp] theorem out_ok {α : Type} {a : α} {k : α → DL.Env → Out} : (Res.ok a ρ).out k = k a ρ := rfl
@[simp] theorem out_exc {α : Type} {e : Ex} {k : α → DL.Env → Out} : (Res.exc e ρ : Res α).out k = .exc e ρ := rfl
@[simp] theorem seq_nx {k : DL.Env → Out} : (Out.nx ρ).seq k = k ρ := rfl
@[simp] theorem seq_rt {d : D} {k : DL.Env → Out} : (Out.rt d ρ).seq k = .rt d ρ := rfl
@[simp] theorem seq_bk {k : DL.Env → Out} : (Out.bk ρ).seq k = .bk ρ := rfl
@[simp] theorem seq_ct {k : DL.Env → Out} : (Out.ct ρ).seq k = .ct ρ := rfl
@[simp] theorem seq_exc {e : Ex} {k : DL.Env → Out} : (Out.exc e ρ).seq k = .exc e ρ := rfl
@[simp] theorem sSeq_ap : sSeq f g ρ = (f ρ).seq g := rfl
@[simp] theorem sSet_ap {i : Nat} : sSet i fe ρ = (fe ρ).out fun d ρ => .nx (ρ.set i (some d)) := rfl
@[simp] theorem sDrop_ap : sDrop fe ρ = (fe ρ).out fun _ ρ => .nx ρ := rfl
@[simp] theorem sRet_ap : sRet fe ρ = (fe ρ).out fun d ρ => .rt d ρ := rfl
@[simp] theorem sIf_ap : sIf ft f g ρ = (ft ρ).out fun b ρ => if b = true then f ρ else g ρ := by
  unfold sIf; congr 1; funext b ρ; cases b <;> rfl
@[simp] theorem sPar_ap {i j : Nat} : sPar i j fa ρ = (fa ρ).out fun ds ρ => match ds with | [d, e] => .nx ((ρ.set i (some d)).set j (some e)) | _ => .stuck := rfl
@[simp] theorem sAsg_ap {gf : D → DL.Env → Option DL.Env} : sAsg fe gf ρ = (fe ρ).out fun d ρ => match gf d ρ with | some ρ => .nx ρ | none => .stuck := rfl
@[simp] theorem sAug_ap {i : Nat} {gg : D → D → Option D} : sAug gg i fe ρ = (eVar i ρ).out fun d ρ => (fe ρ).out fun e ρ => match gg d e with | some o => .nx (ρ.set i (some o)) | none => .stuck := rfl
@[simp] theorem sRaise_ap {c : Nat} {fs : List Str} : sRaise c fs fa ρ = (fa ρ).out fun ds ρ => if ds.length = fs.length then .exc ⟨c, fs.zip ds⟩ ρ else .stuck := rfl
@[simp] theorem sFor_ap {gf : D → DL.Env → Option DL.Env} : sFor fa gf f ρ = (fa ρ).out fun es ρ => forL gf f es ρ := rfl
@[simp] theorem gN_ap {i : Nat} {d : D} : gN i d ρ = some (ρ.set i (some d)) := rfl
@[simp] theorem gT_ap {n : Nat} {h : List D → DL.Env → Option DL.Env} {ds : List D} : gT n h (.tup ds) ρ = if ds.length = n then h ds ρ else none := rfl
@[simp] theorem gsNil_ap : gsNil [] ρ = some ρ := rfl
@[simp] theorem gsCons_ap {g : D → DL.Env → Option DL.Env} {h : List D → DL.Env → Option DL.Env} {d : D} {r : List D} : gsCons g h (d :: r) ρ = (g d ρ).bind fun ρ => h r ρ := rfl
@[simp] theorem eC_ap {d : D} : eC d ρ = .ok d ρ := rfl
theorem eVar_ap {i : Nat} : eVar i ρ = match ρ[i]? with | some (some d) => .ok d ρ | _ => .stuck := rfl
@[simp] theorem eVar_0 {d : D} {r : DL.Env} : eVar 0 (some d :: r) = .ok d (some d :: r) := rfl
@[simp] theorem eVar_1 {a : Option D} {d : D} {r : DL.Env} : eVar 1 (a :: some d :: r) = .ok d (a :: some d :: r) := rfl
@[simp] theorem eVar_2 {a b : Option D} {d : D} {r : DL.Env} : eVar 2 (a :: b :: some d :: r) = .ok d (a :: b :: some d :: r) := rfl
@[simp] theorem eVar_3 {a b c : Option D} {d : D} {r : DL.Env} : eVar 3 (a :: b :: c :: some d :: r) = .ok d (a :: b :: c :: some d :: r) := rfl
@[simp] theorem eVar_4 {a b c e : Option D} {d : D} {r : DL.Env} : eVar 4 (a :: b :: c :: e :: some d :: r) = .ok d (a :: b :: c :: e :: some d :: r) := rfl
@[simp] theorem eVar_5 {a b c e p : Option D} {d : D} {r : DL.Env} : eVar 5 (a :: b :: c :: e :: p :: some d :: r) = .ok d (a :: b :: c :: e :: p :: some d :: r) := rfl
@[simp] theorem eVar_6 {a b c e p q : Option D} {d : D} {r : DL.Env} : eVar 6 (a :: b :: c :: e :: p :: q :: some d :: r) = .ok d (a :: b :: c :: e :: p :: q :: some d :: r) := rfl
@[simp] theorem eVar_7 {a b c e p q s : Option D} {d : D} {r : DL.Env} : eVar 7 (a :: b :: c :: e :: p :: q :: s :: some d :: r) = .ok d (a :: b :: c :: e :: p :: q :: s :: some d :: r) := rfl
@[simp] theorem eVar_8 {a b c e p q s t : Option D} {d : D} {r : DL.Env} : eVar 8 (a :: b :: c :: e :: p :: q :: s :: t :: some d :: r) = .ok d (a :: b :: c :: e :: p :: q :: s :: t :: some d :: r) := rfl
@[simp] theorem eOp_ap {gg : D → D → Option D} : eOp gg fe fl ρ = (fe ρ).bind fun d ρ => (fl ρ).bind fun e ρ => ofOpt (gg d e) ρ := rfl
@[simp] theorem eUn_ap {gg : D → Option D} : eUn gg fe ρ = (fe ρ).bind fun d ρ => ofOpt (gg d) ρ := rfl
@[simp] theorem eCB_ap {gg : List D → Option D} : eCB gg fa ρ = (fa ρ).bind fun ds ρ => ofOpt (gg ds) ρ := rfl
@[simp] theorem ofOpt_some {α : Type} {a : α} : ofOpt (some a) ρ = .ok a ρ := rfl
@[simp] theorem aNil_ap : aNil ρ = .ok [] ρ := rfl
@[simp] theorem aCons_ap : aCons fe fa ρ = (fe ρ).bind fun d ρ => (fa ρ).bind fun ds ρ => .ok (d :: ds) ρ := rfl
@[simp] theorem eTup_ap : eTup fa ρ = (fa ρ).bind fun ds ρ => if ds.length ≤ sizeLine then .ok (.tup ds) ρ else .stuck := rfl
@[simp] theorem eLst_ap : eLst fa ρ = (fa ρ).bind fun ds ρ => if ds.length ≤ sizeLine then .ok (.lst ds) ρ else .stuck := rfl
@[simp] theorem tVal_ap : tVal fe ρ = (fe ρ).bind fun d ρ => match d with | .bl b => .ok b ρ | _ => .stuck := rfl
@[simp] theorem bAnd_ap : bAnd ft fu ρ = (ft ρ).bind fun b ρ => if b = true then fu ρ else .ok false ρ := by
  unfold bAnd; congr 1; funext b ρ; cases b <;> rfl
@[simp] theorem bOr_ap : bOr ft fu ρ = (ft ρ).bind fun b ρ => if b = true then .ok true ρ else fu ρ := by
  unfold bOr; congr 1; funext b ρ; cases b <;> rfl
@[simp] theorem bNot_ap : bNot ft ρ = (ft ρ).bind fun b ρ => .ok (!b) ρ := rfl
@[simp] theorem eIf_ap : eIf ft fe fl ρ = (ft ρ).bind fun b ρ => if b = true then fe ρ else fl ρ := by
  unfold eIf; congr 1; funext b ρ; cases b <;> rfl
@[simp] theorem eAndV_ap : eAndV fe fl ρ = (tVal fe ρ).bind fun b ρ => if b = true then fl ρ else .ok (.bl false) ρ := by
  unfold eAndV; congr 1; funext b ρ; cases b <;> rfl
@[simp] theorem eOrV_ap : eOrV fe fl ρ = (tVal fe ρ).bind fun b ρ => if b = true then .ok (.bl true) ρ else fl ρ := by
  unfold eOrV; congr 1; funext b ρ; cases b <;> rfl
@[simp] theorem eNotV_ap : eNotV fe ρ = (tVal fe ρ).bind fun b ρ => .ok (.bl (!b)) ρ := rfl
@[simp] theorem eCall_ap {n : Nat} {h : Den} : eCall n h fa ρ = (fa ρ).bind fun ds ρ => if ds.length = n then (match h ds with | .ret d _ => .ok d ρ | .exc e _ => .exc e ρ | .stuck => .stuck) else .stuck := rfl
@[simp] theorem eIsi_ap {p : D → Bool} : eIsi p fe ρ = (fe ρ).bind fun d ρ => .ok (.bl (p d)) ρ := rfl
@[simp] theorem eSl_ap {gg : D → Option Int → Option Int → Option D} {pl ph : ER (Option Int)} : eSl gg fe pl ph ρ = (fe ρ).bind fun d ρ => (pl ρ).bind fun lo ρ => (ph ρ).bind fun hi ρ => ofOpt (gg d lo hi) ρ := rfl
@[simp] theorem pNo_ap : pNo ρ = .ok none ρ := rfl
@[simp] theorem pSo_ap : pSo fe ρ = (fe ρ).bind fun d ρ => match d with | .int i => .ok (some i) ρ | _ => .stuck := rfl
@[simp] theorem iA_ap : iA fe ρ = (fe ρ).bind fun d ρ => match d with | .lst ds => .ok ds ρ | .tup ds => .ok ds ρ | .scr ns => .ok (ns.map .int) ρ | _ => .stuck := rfl
@[simp] theorem iR1_ap : iR1 fa ρ = (fa ρ).bind fun ds ρ => match ds with | [.int j] => if inRg j = true then .ok (rangeD 0 j.toNat) ρ else .stuck | _ => .stuck := rfl
@[simp] theorem iR2_ap : iR2 fa ρ = (fa ρ).bind fun ds ρ => match ds with | [.int i, .int j] => if inRg i = true ∧ inRg j = true then .ok (rangeD i (j - i).toNat) ρ else .stuck | _ => .stuck := rfl
@[simp] theorem eListZ_ap : eListZ fa ρ = (fa ρ).bind fun ds ρ => match ds with | [.tup xs, .tup ys] => .ok (.lst (zipD xs ys)) ρ | _ => .stuck := rfl
@[simp] theorem aKw_ap {q : List Nat} {n m : Nat} : aKw q n m fa fb ρ = (fa ρ).bind fun ds ρ => (fb ρ).bind fun es ρ => if ds.length = n ∧ es.length = m then .ok (pm q (ds ++ es)) ρ else .stuck := rfl
@[simp] theorem eView_ap : eView fe ρ = match fe ρ with | .ok d _ => if scalD d = true then .ok d ρ else .stuck | .exc e _ => if (e.fs.map (·.2)).all scalD = true then .exc e ρ else .stuck | .stuck => .stuck := rfl
@[simp] theorem tView_ap : tView ft ρ = match ft ρ with | .ok d _ => .ok d ρ | .exc e _ => if (e.fs.map (·.2)).all scalD = true then .exc e ρ else .stuck | .stuck => .stuck := rfl
@[simp] theorem gI0_ap {h : Int → Int → Int} {i j : Int} : gI0 h (.int i) (.int j) = some (.int (h i j)) := rfl
@[simp] theorem gB0_ap {h : Int → Int → Bool} {i j : Int} : gB0 h (.int i) (.int j) = some (.bl (h i j)) := rfl
@[simp] theorem gIC_ap {c : Int → Int → Prop} [∀ i j, Decidable (c i j)] {h : Int → Int → Int} {i j : Int} : gIC c h (.int i) (.int j) = if c i j then some (.int (h i j)) else none := rfl
@[simp] theorem gAdd_i {i j : Int} : gAdd (.int i) (.int j) = some (.int (i + j)) := rfl
@[simp] theorem gAdd_s {i j : Str} : gAdd (.str i) (.str j) = if i.length + j.length ≤ sizeLine then some (.str (i ++ j)) else none := rfl
@[simp] theorem gAdd_t {i j : List D} : gAdd (.tup i) (.tup j) = if i.length + j.length ≤ sizeLine then some (.tup (i ++ j)) else none := rfl
@[simp] theorem gAdd_l {i j : List D} : gAdd (.lst i) (.lst j) = if i.length + j.length ≤ sizeLine then some (.lst (i ++ j)) else none := rfl
@[simp] theorem gCat_l {i j : List D} : gCat (.lst i) (.lst j) = if i.length + j.length ≤ sizeLine then some (.lst (i ++ j)) else none := rfl
@[simp] theorem gIAdd_i {i j : Int} : gIAdd (.int i) (.int j) = some (.int (i + j)) := rfl
@[simp] theorem gIAdd_s {i j : Str} : gIAdd (.str i) (.str j) = if i.length + j.length ≤ sizeLine then some (.str (i ++ j)) else none := rfl
@[simp] theorem gMul_i {i j : Int} : gMul (.int i) (.int j) = if CMul i j then some (.int (i * j)) else none := rfl
@[simp] theorem gMul_s {i : Str} {j : Int} : gMul (.str i) (.int j) = if CRepS i j then some (.str (repS' i j)) else none := rfl
@[simp] theorem gNeg_i {i : Int} : gNeg (.int i) = some (.int (-i)) := rfl
@[simp] theorem gEq_i {i j : Int} : gEq (.int i) (.int j) = some (.bl (decide (i = j))) := rfl
@[simp] theorem gEq_s {i j : Str} : gEq (.str i) (.str j) = some (.bl (decide (i = j))) := rfl
@[simp] theorem gEq_b {i j : Bool} : gEq (.bl i) (.bl j) = some (.bl (decide (i = j))) := rfl
@[simp] theorem gNe_i {i j : Int} : gNe (.int i) (.int j) = some (.bl (!decide (i = j))) := rfl
@[simp] theorem gNe_s {i j : Str} : gNe (.str i) (.str j) = some (.bl (!decide (i = j))) := rfl
@[simp] theorem gNe_b {i j : Bool} : gNe (.bl i) (.bl j) = some (.bl (!decide (i = j))) := rfl
@[simp] theorem gIsN_ap {d : D} : gIsN d .non = some (.bl (isNon d)) := rfl
@[simp] theorem gNotN_ap {d : D} : gNotN d .non = some (.bl (!isNon d)) := rfl
@[simp] theorem isNon_n : isNon .non = true := rfl
@[simp] theorem isNon_i {i : Int} : isNon (.int i) = false := rfl
@[simp] theorem isNon_s {i : Str} : isNon (.str i) = false := rfl
@[simp] theorem isNon_b {i : Bool} : isNon (.bl i) = false := rfl
@[simp] theorem isNon_t {i : List D} : isNon (.tup i) = false := rfl
@[simp] theorem isNon_l {i : List D} : isNon (.lst i) = false := rfl
@[simp] theorem gIx_t {ds : List D} {i : Int} : gIx (.tup ds) (.int i) = atI ds i := rfl
@[simp] theorem gIx_l {ds : List D} {i : Int} : gIx (.lst ds) (.int i) = atI ds i := rfl
@[simp] theorem gIx_x {ns : List Int} {i : Int} : gIx (.scr ns) (.int i) = (atI ns i).map .int := rfl
@[simp] theorem gLen_t {ds : List D} : gLen [.tup ds] = some (.int ds.length) := rfl
@[simp] theorem gLen_l {ds : List D} : gLen [.lst ds] = some (.int ds.length) := rfl
@[simp] theorem gLen_x {ds : List Int} : gLen [.scr ds] = some (.int ds.length) := rfl
@[simp] theorem gLen_s {z : Str} : gLen [.str z] = if z.length ≤ sizeLine then some (.int z.length) else none := rfl
@[simp] theorem gAbs_i {i : Int} : gAbs [.int i] = some (.int (if i < 0 then -i else i)) := rfl
@[simp] theorem gInt_i {i : Int} : gInt [.int i] = some (.int i) := rfl
/-- the text of an int -/
def tI (i : Int) : Str := Str.ofString (toString i)
@[simp] theorem gStr_i {i : Int} : gStr [.int i] = if i.natAbs.log2 < 1920 then some (.str (tI i)) else none := rfl
@[simp] theorem gSl_t {ds : List D} {lo hi : Option Int} : gSl (.tup ds) lo hi = some (.tup (cutD ds lo hi)) := rfl
@[simp] theorem gSl_l {ds : List D} {lo hi : Option Int} : gSl (.lst ds) lo hi = some (.lst (cutD ds lo hi)) := rfl
@[simp] theorem gSl_x {ns : List Int} {lo hi : Option Int} : gSl (.scr ns) lo hi = some (.lst ((cutD ns lo hi).map .int)) := rfl
@[simp] theorem gAppend_ap {ds : List D} {e : D} : gAppend ds [e] = if ds.length < sizeLine then some (.non, ds ++ [e]) else none := rfl
@[simp] theorem gExtend_ap {ds zs : List D} : gExtend ds [.lst zs] = if ds.length + zs.length ≤ sizeLine then some (.non, ds ++ zs) else none := rfl
@[simp] theorem scal_i {i : Int} : scalD (.int i) = true := rfl
@[simp] theorem scal_b {i : Bool} : scalD (.bl i) = true := rfl
@[simp] theorem scal_s {i : Str} : scalD (.str i) = true := rfl
@[simp] theorem scal_n : scalD .non = true := rfl
/-- an item by its place -/
theorem at_nat {α : Type} {xs : List α} {i : Int} (h0 : 0 ≤ i) (h1 : i < xs.length) : atI xs i = xs[i.toNat]? := by
  unfold atI ixN
  rw [if_pos h0, if_pos h1]
  rfl
@[simp] theorem at0 {α : Type} {x : α} {xs : List α} : atI (x :: xs) 0 = some x := by
  rw [at_nat (by decide) (by simp only [List.length_cons]; omega)]; rfl
@[simp] theorem at1 {α : Type} {x y : α} {xs : List α} : atI (x :: y :: xs) 1 = some y := by
  rw [at_nat (by decide) (by simp only [List.length_cons]; omega)]; rfl
@[simp] theorem at2 {α : Type} {x y z : α} {xs : List α} : atI (x :: y :: z :: xs) 2 = some z := by
  rw [at_nat (by decide) (by simp only [List.length_cons]; omega)]; rfl
theorem sz : sizeLine = 16777216 := sizeLine_eq
@[simp] theorem toF_rt {k : Nat} {d : D} : toF k (.rt d ρ) = .ret d (ρ.take k) := rfl
@[simp] theorem toF_nx {k : Nat} : toF k (.nx ρ) = .ret .non (ρ.take k) := rfl
@[simp] theorem toF_exc {k : Nat} {e : Ex} : toF k (.exc e ρ) = .exc e (ρ.take k) := rfl
theorem mkF_ap {N k : Nat} {fb : DL.Env → Out} {ds : List D} : mkF N k fb ds = toF k (fb (ds.map some ++ List.replicate (N - ds.length) none)) := rfl
end
end DL
/-! more of simp's lemmas; the comparing of a value with itself; own dicts -/
namespace DL
open PySem L2
section
variable {ρ : DL.Env} {fe fl fi fv fb fc : ER D} {fa : ER (List D)}
@[simp] theorem eIxO_ap {i : Nat} : eIxO i fe ρ = match ρ[i]? with | some (some _) => (fe ρ).bind fun y ρ' => (match ρ'[i]? with | some (some d) => ofOpt (itemO d y) ρ' | _ => .stuck) | _ => .stuck := rfl
@[simp] theorem itemO_l {ds : List D} {k : Int} : itemO (.lst ds) (.int k) = atI ds k := rfl
@[simp] theorem itemO_d {kds : List (Key × D)} {y : D} : itemO (.dct kds) y = (keyD y).bind fun k => getK kds k := rfl
@[simp] theorem keyD_i {i : Int} : keyD (.int i) = some (.inl i) := rfl
@[simp] theorem keyD_s {s : Str} : keyD (.str s) = some (.inr s) := rfl
@[simp] theorem sSetI_ap {i : Nat} : sSetI i fv fi ρ = (fv ρ).out fun d ρ => match ρ[i]? with | some (some _) => (fi ρ).out fun k ρ => (match ρ[i]? with | some (some x) => (match storeO x k d with | some x' => .nx (ρ.set i (some x')) | none => .stuck) | _ => .stuck) | _ => .stuck := rfl
@[simp] theorem storeO_l {ds : List D} {k : Int} {d : D} : storeO (.lst ds) (.int k) d = (ixN ds.length k).map fun j => .lst (ds.set j d) := rfl
@[simp] theorem storeO_d {kds : List (Key × D)} {y d : D} : storeO (.dct kds) y d = if kds.length < sizeLine then (keyD y).map fun k => .dct (putD kds k d) else none := rfl
theorem getK_cons {kds : List (Key × D)} {k k0 : Key} {d : D} : getK ((k0, d) :: kds) k = if k0 = k then some d else getK kds k := by
  unfold getK
  rw [List.find?_cons]
  by_cases e : k0 = k
  · simp [e]
  · simp [e]
@[simp] theorem getK_nil {k : Key} : getK [] k = none := rfl
@[simp] theorem eMtO_ap {i : Nat} {g : List D → List D → Option (D × List D)} : eMtO i g fa ρ = match ρ[i]? with | some (some (.lst _)) => (fa ρ).bind fun es ρ' => (match ρ'[i]? with | some (some (.lst ds)) => (match g ds es with | some (d, ds') => .ok d (ρ'.set i (some (.lst ds'))) | none => .stuck) | _ => .stuck) | _ => .stuck := rfl
@[simp] theorem eCallO_ap {i n : Nat} {f : Den} : eCallO i n f fa ρ = match ρ[i]? with | some (some _) => (fa ρ).bind fun ds ρ => (match ρ[i]? with | some (some d0) => if ds.length = n then (match f (d0 :: ds) with | .ret d outs => .ok d (ρ.set i outs.head?.join) | .exc e outs => .exc e (ρ.set i outs.head?.join) | .stuck => .stuck) else .stuck | _ => .stuck) | _ => .stuck := rfl
@[simp] theorem ix30 : ixN 3 0 = some 0 := rfl
@[simp] theorem ix31 : ixN 3 1 = some 1 := rfl
@[simp] theorem ix32 : ixN 3 2 = some 2 := rfl
@[simp] theorem sTryAs_ap {i : Nat} {cs : List (Nat × Bool)} {fb : DL.Env → Out} {fsu : Ex → DL.Env → Out} {ρ : DL.Env} : sTryAs i cs fb fsu ρ = match fb ρ with
  | .exc e ρ' => (match cs.lookup e.c with
    | some true => if (e.fs.map (·.2)).all scalD = true then (fsu e (ρ'.set i none)).wipe i else .stuck
    | some false => .exc e ρ'
    | none => .stuck)
  | o => o := rfl
@[simp] theorem wipe_rt {i : Nat} {d : D} {ρ : DL.Env} : (Out.rt d ρ).wipe i = .rt d ρ := rfl
@[simp] theorem eWhy_ap {e : Ex} {c : Nat} {f : Str} {ρ : DL.Env} : eWhy e c f ρ = if e.c = c then (match e.fs.lookup f with | some d => .ok d ρ | none => .stuck) else .stuck := rfl
@[simp] theorem eIsX_ap {e : Ex} {cs : List (Nat × Bool)} {ρ : DL.Env} : eIsX e cs ρ = match cs.lookup e.c with | some b => .ok (.bl b) ρ | none => .stuck := rfl
@[simp] theorem eDisp_ap {ks : List Key} : eDisp ks fa ρ = (fa ρ).bind fun ds ρ => .ok (.dct (mergeD [] (ks.zip ds))) ρ := rfl
@[simp] theorem eChain_ap {g g' : D → D → Option D} : eChain g g' fb fc fe ρ = (fb ρ).bind fun d ρ => (fc ρ).bind fun e ρ => match g d e with
  | some (.bl true) => (fe ρ).bind fun o ρ => ofOpt (g' e o) ρ
  | some (.bl false) => .ok (.bl false) ρ
  | _ => .stuck := rfl
@[simp] theorem iEn_ap : iEn fa ρ = (fa ρ).bind fun ds ρ => match ds with | [.lst ds] => .ok (enumD 0 ds) ρ | [.tup ds] => .ok (enumD 0 ds) ρ | _ => .stuck := rfl
@[simp] theorem sPar3_ap {i j l : Nat} : sPar3 i j l fa ρ = (fa ρ).out fun ds ρ => match ds with | [d, e, o] => .nx (((ρ.set i (some d)).set j (some e)).set l (some o)) | _ => .stuck := rfl
@[simp] theorem eLc_ap {gf : D → DL.Env → Option DL.Env} {ft : ER Bool} {vs : List Nat} : eLc fa gf ft fe vs ρ = (fa ρ).bind fun es ρ => match compF gf ft fe vs es (wipeD ρ vs) with
  | .ok ys ρ' => if ys.length ≤ sizeLine then .ok (.lst ys) ρ' else .stuck
  | _ => .stuck := rfl
@[simp] theorem bYes_ap : bYes ρ = .ok true ρ := rfl
@[simp] theorem gTuple_l {ds : List D} : gTuple [.lst ds] = some (.tup ds) := rfl
@[simp] theorem gTuple_t {ds : List D} : gTuple [.tup ds] = some (.tup ds) := rfl
@[simp] theorem gList_l {ds : List D} : gList [.lst ds] = some (.lst ds) := rfl
@[simp] theorem gList_t {ds : List D} : gList [.tup ds] = some (.lst ds) := rfl
@[simp] theorem gMaxA_2 {i j : Int} : gMaxA [.int i, .int j] = some (.int (if j > i then j else i)) := rfl
@[simp] theorem gMinA_2 {i j : Int} : gMinA [.int i, .int j] = some (.int (if j < i then j else i)) := rfl
@[simp] theorem gMax_2 {i j : Int} : gMax [.int i, .int j] = some (.int (if j > i then j else i)) := rfl
@[simp] theorem gMin_2 {i j : Int} : gMin [.int i, .int j] = some (.int (if j < i then j else i)) := rfl
end

/-! ### a value and itself, by a stack of pairs (the laws' own comparing) -/
mutual
def sz1 : D → Nat
  | .tup ds => 1 + szs ds
  | _ => 1
def szs : List D → Nat
  | [] => 0
  | d :: ds => sz1 d + szs ds
end
mutual
def okL : D → Bool
  | .tup ds => okLs ds
  | .int _ => true | .str _ => true | .bl _ => true | .non => true
  | _ => false
def okLs : List D → Bool
  | [] => true
  | d :: ds => okL d && okLs ds
end
theorem szs_append : ∀ (a b : List D), szs (a ++ b) = szs a + szs b
  | [], b => by simp [szs]
  | d :: a, b => by simp [szs, szs_append a b]; omega
theorem okLs_append : ∀ (a b : List D), okLs (a ++ b) = (okLs a && okLs b)
  | [], b => by simp [okLs]
  | d :: a, b => by simp [okLs, okLs_append a b, Bool.and_assoc]
theorem len_szs : ∀ (a : List D), a.length ≤ szs a
  | [] => by simp
  | d :: a => by
    have := len_szs a
    have : 1 ≤ sz1 d := by cases d <;> simp [sz1]
    simp [szs]; omega
theorem zip_self : ∀ (xs : List D), zipD xs xs = xs.map fun d => .tup [d, d]
  | [] => rfl
  | d :: xs => by simp [zipD, zip_self xs]
def likeB : DL.Env → Out := (sSeq (sIf (tVal (eOp gEq (eView (eCB gLen (aCons (eVar 2) aNil))) (eC (.int 0)))) (sRet (eC (.bl true))) Out.nx) (sSeq (sAsg (eMtO 2 gPop aNil) (gT 2 (gsCons (gN 4) (gsCons (gN 5) gsNil)))) (sIf (tVal (eIsi isTup (eVar 5))) (sSeq (sIf (bOr (bNot (tVal (eIsi isTup (eVar 4)))) (tVal (eOp gNe (eCB gLen (aCons (eVar 4) aNil)) (eCB gLen (aCons (eVar 5) aNil))))) (sRet (eC (.bl false))) Out.nx) (sDrop (eMtO 2 gExtend (aCons (eListZ (aCons (eVar 4) (aCons (eVar 5) aNil))) aNil)))) (sIf (bOr (tVal (eOp gIsN (eVar 5) (eC .non))) (tVal (eOp gIsN (eVar 4) (eC .non)))) (sIf (bOr (tVal (eOp gNotN (eVar 4) (eC .non))) (tVal (eOp gNotN (eVar 5) (eC .non)))) (sRet (eC (.bl false))) Out.nx) (sIf (bOr (tVal (eIsi isStr (eVar 5))) (tVal (eIsi isStr (eVar 4)))) (sIf (bOr (bNot (tVal (eIsi isStr (eVar 5)))) (bOr (bNot (tVal (eIsi isStr (eVar 4)))) (tVal (eOp gNe (eVar 4) (eVar 5))))) (sRet (eC (.bl false))) Out.nx) (sIf (bOr (tVal (eOp gNe (eIsi isBl (eVar 5)) (eIsi isBl (eVar 4)))) (bOr (bNot (tVal (eIsi isInt (eVar 4)))) (tVal (eOp gNe (eVar 4) (eVar 5))))) (sRet (eC (.bl false))) Out.nx))))))
def sameB : DL.Env → Out := (sSeq (sSet 2 (eLst (aCons (eTup (aCons (eVar 0) (aCons (eVar 1) aNil))) aNil))) (sSeq (sFor (iR1 (aCons (eC (.int 300000)) aNil)) (gN 3) likeB) (sRet (eC (.bl false)))))
theorem like_loop : ∀ (es ds : List D) (a b x3 x4 x5 : Option D), okLs ds = true → szs ds < es.length → szs ds ≤ 16777216 → ∃ ρ', forL (gN 3) likeB es [a, b, some (.lst (ds.map fun d => .tup [d, d])), x3, x4, x5] = .rt (.bl true) ρ'
  | [], ds, a, b, x3, x4, x5, ok, h, _ => by simp at h
  | e :: es, ds, a, b, x3, x4, x5, ok, h, hb => by
    unfold forL
    rcases List.eq_nil_or_concat ds with rfl | ⟨ds, d, rfl⟩
    · refine ⟨[a, b, some (.lst []), some e, x4, x5], ?_⟩
      simp [likeB]
    · simp only [List.concat_eq_append, szs_append, okLs_append, List.length_cons, Bool.and_eq_true] at ok h hb
      have h1 : szs [d] = sz1 d := by simp [szs]
      rw [h1] at h hb
      have hd : 1 ≤ sz1 d := by cases d <;> simp [sz1]
      have ih := fun x4 x5 => like_loop es ds a b (some e) x4 x5 ok.1 (by omega) (by omega)
      have e1 : gPop (ds.map (fun d => D.tup [d, d]) ++ [D.tup [d, d]]) [] = some (D.tup [d, d], ds.map fun d => D.tup [d, d]) := by simp [gPop]
      have ne : ¬ ((((ds.length : Nat) : Int) + 1) = 0) := by omega
      have okd : okL d = true := by have := ok.2; simpa [okLs] using this
      cases d with
      | tup xs =>
        have e2 := zip_self xs
        have hl := len_szs xs
        have hl2 := len_szs ds
        have hs : sz1 (.tup xs) = 1 + szs xs := by simp [sz1]
        rw [hs] at h hb
        have ih2 := fun x4 x5 => like_loop es (ds ++ xs) a b (some e) x4 x5 (by rw [okLs_append, ok.1]; simpa [okL] using okd) (by rw [szs_append]; omega) (by rw [szs_append]; omega)
        have hz : ds.length + xs.length ≤ 16777216 := by omega
        simpa [likeB, e1, ne, isTup, isStr, isBl, isInt, sz, e2, hz] using ih2 _ _
      | int i => simpa [likeB, e1, ne, isTup, isStr, isBl, isInt] using ih _ _
      | str i => simpa [likeB, e1, ne, isTup, isStr, isBl, isInt] using ih _ _
      | bl i => simpa [likeB, e1, ne, isTup, isStr, isBl, isInt] using ih _ _
      | non => simpa [likeB, e1, ne, isTup, isStr, isBl, isInt] using ih _ _
      | _ => simp [okL] at okd
theorem same_self (d : D) (ok : okL d = true) (h : sz1 d < 300000) : mkF 6 0 sameB [d, d] = .ret (.bl true) [] := by
  rw [mkF_ap]
  unfold sameB
  obtain ⟨ρ', h2⟩ := like_loop (rangeD 0 300000) [d] (some d) (some d) none none none (by simpa [okLs] using ok) (by simpa [szs, rangeD] using h) (by simp [szs]; omega)
  simp only [List.map_cons, List.map_nil] at h2
  simp [sz, inRg, h2]
end DL
/-! plain programs: what a def reckons without slots, and that the denotation goes with it -/
namespace DL
open PySem L2
inductive O (σ L β : Type) where
  | nx (s : σ) | bk (s : L) | ct (s : L) | rt (b : β) | exc (e : Ex) | stuck
abbrev Fr (β : Type) := O Empty Empty β
section
variable {α β γ σ τ L L' : Type}
def O.bnd (x : Fr α) (k : α → O σ L β) : O σ L β := match x with
  | .rt a => k a
  | .exc e => .exc e
  | .stuck => .stuck
  | .nx s => s.elim
  | .bk s => s.elim
  | .ct s => s.elim
def O.seq (o : O σ L β) (k : σ → O τ L β) : O τ L β := match o with
  | .nx s => k s
  | .bk s => .bk s
  | .ct s => .ct s
  | .rt b => .rt b
  | .exc e => .exc e
  | .stuck => .stuck
def ofO (o : Option α) : Fr α := match o with
  | some a => .rt a
  | none => .stuck
def nFor (f : α → σ → O σ σ β) : List α → σ → O σ L β
  | [], s => .nx s
  | x :: xs, s => match f x s with
    | .nx s => nFor f xs s
    | .ct s => nFor f xs s
    | .bk s => .nx s
    | .rt b => .rt b
    | .exc e => .exc e
    | .stuck => .stuck
/-- a def that may come to its end -/
def fin (z : β) (o : O Unit Empty β) : Fr β := match o with
  | .nx _ => .rt z
  | .rt b => .rt b
  | .exc e => .exc e
  | .stuck => .stuck
  | .bk s => s.elim
  | .ct s => s.elim
/-- a comprehension: f tells the item or passes by -/
def nLc (f : α → σ → O σ Empty (β × σ)) : List α → σ → Fr (List β × σ)
  | [], s => .rt ([], s)
  | x :: xs, s => match f x s with
    | .nx s => nLc f xs s
    | .rt (b, s) => (nLc f xs s).bnd fun r => .rt (b :: r.1, r.2)
    | .exc e => .stuck
    | .stuck => .stuck
    | .bk s => s.elim
    | .ct s => s.elim
def tryN (m : O σ L β) (cs : List (Nat × Bool)) (h : Ex → O σ L β) : O σ L β := match m with
  | .exc e => match cs.lookup e.c with
    | some true => if (e.fs.map (·.2)).all scalD = true then h e else .stuck
    | some false => .exc e
    | none => .stuck
  | o => o
def noX (x : Fr α) : Fr α := match x with
  | .exc e => if (e.fs.map (·.2)).all scalD = true then .exc e else .stuck
  | o => o
def noXO (x : O σ L β) : O σ L β := match x with
  | .exc _ => .stuck
  | o => o
@[simp] theorem bnd_rt {a : α} {k : α → O σ L β} : O.bnd (.rt a) k = k a := rfl
@[simp] theorem bnd_exc {e : Ex} {k : α → O σ L β} : O.bnd (.exc e) k = .exc e := rfl
@[simp] theorem bnd_stuck {k : α → O σ L β} : O.bnd .stuck k = .stuck := rfl
@[simp] theorem oseq_nx {s : σ} {k : σ → O τ L β} : O.seq (.nx s) k = k s := rfl
@[simp] theorem oseq_rt {s : β} {k : σ → O τ L β} : O.seq (.rt s) k = .rt s := rfl
@[simp] theorem oseq_bk {s : L} {k : σ → O τ L β} : O.seq (.bk s) k = .bk s := rfl
@[simp] theorem oseq_ct {s : L} {k : σ → O τ L β} : O.seq (.ct s) k = .ct s := rfl
@[simp] theorem oseq_exc {s : Ex} {k : σ → O τ L β} : O.seq (.exc s) k = .exc s := rfl
@[simp] theorem oseq_stuck {k : σ → O τ L β} : O.seq .stuck k = .stuck := rfl
@[simp] theorem ofO_some {a : α} : ofO (some a) = .rt a := rfl
@[simp] theorem ofO_none : (ofO none : Fr α) = .stuck := rfl
@[simp] theorem nFor_nil {f : α → σ → O σ σ β} {s : σ} : (nFor f [] s : O σ L β) = .nx s := rfl
@[simp] theorem fin_nx {z : β} {s : Unit} : fin z (.nx s) = .rt z := rfl
@[simp] theorem fin_rt {z b : β} : fin z (.rt b) = .rt b := rfl
@[simp] theorem fin_exc {z : β} {e : Ex} : fin z (.exc e) = .exc e := rfl
@[simp] theorem nLc_nil {f : α → σ → O σ Empty (β × σ)} {s : σ} : nLc f [] s = .rt ([], s) := rfl
@[simp] theorem tryN_rt {b : β} {cs : List (Nat × Bool)} {h : Ex → O σ L β} : tryN (.rt b) cs h = .rt b := rfl
@[simp] theorem tryN_nx {b : σ} {cs : List (Nat × Bool)} {h : Ex → O σ L β} : tryN (.nx b) cs h = .nx b := rfl
@[simp] theorem tryN_exc {e : Ex} {cs : List (Nat × Bool)} {h : Ex → O σ L β} : tryN (.exc e) cs h = match cs.lookup e.c with
    | some true => if (e.fs.map (·.2)).all scalD = true then h e else .stuck
    | some false => .exc e
    | none => .stuck := rfl
@[simp] theorem noX_rt {b : α} : noX (.rt b) = .rt b := rfl
@[simp] theorem noXO_rt {b : β} : (noXO (.rt b) : O σ L β) = .rt b := rfl
@[simp] theorem noXO_nx {b : σ} : (noXO (.nx b) : O σ L β) = .nx b := rfl
end
/-! ## going together -/
section
variable {α β γ σ τ υ L L' : Type}
def SimM (E : σ → DL.Env → Prop) (EL : L → DL.Env → Prop) (RB : β → D → DL.Env → Prop) (EX : DL.Env → Prop) (o : Out) (n : O σ L β) : Prop := match n with
  | .nx s => ∃ ρ, o = .nx ρ ∧ E s ρ
  | .bk s => ∃ ρ, o = .bk ρ ∧ EL s ρ
  | .ct s => ∃ ρ, o = .ct ρ ∧ EL s ρ
  | .rt b => ∃ d ρ, o = .rt d ρ ∧ RB b d ρ
  | .exc e => ∃ ρ, o = .exc e ρ ∧ EX ρ
  | .stuck => True
structure Sim (E : σ → DL.Env → Prop) (EL : L → DL.Env → Prop) (RB : β → D → DL.Env → Prop) (EX : DL.Env → Prop) (o : Out) (n : O σ L β) : Prop where
  h : SimM E EL RB EX o n
variable {E : σ → DL.Env → Prop} {E1 : τ → DL.Env → Prop} {EL : L → DL.Env → Prop} {RB : β → D → DL.Env → Prop} {EX EX1 : DL.Env → Prop}
variable {ρ ρ' : DL.Env} {fe fa fb fc : ER D} {ft fu : ER Bool} {fl : ER (List D)} {f g : DL.Env → Out} {n : O σ L β} {d e o : D} {b : Bool}
/-- no error to be told of beyond -/
theorem c_ok {ξ : Type} {r : Res ξ} {x : ξ} {K : ξ → DL.Env → Out} (h : r = .ok x ρ') (hk : Sim E EL RB EX (K x ρ') n) : Sim E EL RB EX (r.out K) n := by rw [h]; exact hk
/-- expressions that stand alone -/
abbrev SimE (v : α → D) (w : α → DL.Env) (EX : DL.Env → Prop) (r : Res D) (x : Fr α) : Prop := Sim (σ := Empty) (L := Empty) (fun s _ => s.elim) (fun s _ => s.elim) (fun a d ρ => d = v a ∧ ρ = w a) EX (r.out fun d ρ => .rt d ρ) x
abbrev SimT (w : Bool → DL.Env) (EX : DL.Env → Prop) (r : Res Bool) (x : Fr Bool) : Prop := Sim (σ := Empty) (L := Empty) (fun s _ => s.elim) (fun s _ => s.elim) (fun a d ρ => d = .bl a ∧ ρ = w a) EX (r.out fun d ρ => .rt (.bl d) ρ) x
theorem c_blk {x : Fr α} {k : α → O σ L β} {v : α → D} {w : α → DL.Env} {r : Res D} {K : D → DL.Env → Out} (h : SimE v w EX r x) (hk : ∀ a, Sim E EL RB EX (K (v a) (w a)) (k a)) : Sim E EL RB EX (r.out K) (x.bnd k) := by
  cases x with
  | nx s => exact s.elim
  | bk s => exact s.elim
  | ct s => exact s.elim
  | stuck => exact ⟨trivial⟩
  | exc e =>
    obtain ⟨ρ, h1, h2⟩ := h.h
    cases r with
    | ok a ρ1 => cases h1
    | stuck => cases h1
    | exc e' ρ1 => cases h1; exact ⟨⟨_, rfl, h2⟩⟩
  | rt a =>
    obtain ⟨d, ρ, h1, h2, h3⟩ := h.h
    cases r with
    | stuck => cases h1
    | exc e' ρ1 => cases h1
    | ok a' ρ1 => cases h1; subst h2; subst h3; exact hk a
theorem c_blkT {x : Fr Bool} {k : Bool → O σ L β} {w : Bool → DL.Env} {r : Res Bool} {K : Bool → DL.Env → Out} (h : SimT w EX r x) (hk : ∀ a, Sim E EL RB EX (K a (w a)) (k a)) : Sim E EL RB EX (r.out K) (x.bnd k) := by
  cases x with
  | nx s => exact s.elim
  | bk s => exact s.elim
  | ct s => exact s.elim
  | stuck => exact ⟨trivial⟩
  | exc e =>
    obtain ⟨ρ, h1, h2⟩ := h.h
    cases r with
    | ok a ρ1 => cases h1
    | stuck => cases h1
    | exc e' ρ1 => cases h1; exact ⟨⟨_, rfl, h2⟩⟩
  | rt a =>
    obtain ⟨d, ρ, h1, h2, h3⟩ := h.h
    cases r with
    | stuck => cases h1
    | exc e' ρ1 => cases h1
    | ok a' ρ1 => cases h1; cases h2; subst h3; exact hk a
theorem c_rt {v : α → D} {w : α → DL.Env} {a : α} (h : d = v a) (hw : ρ = w a) : Sim (σ := Empty) (L := Empty) (fun s _ => s.elim) (fun s _ => s.elim) (fun a d ρ => d = v a ∧ ρ = w a) EX (.rt d ρ) (.rt a) := ⟨_, _, rfl, h, hw⟩
theorem bind_out {ξ ζ : Type} {r : Res ξ} {h : ξ → DL.Env → Res ζ} {K : ζ → DL.Env → Out} : (r.bind h).out K = r.out fun a ρ => (h a ρ).out K := by cases r <;> rfl
/-! ### partial steps -/
theorem c_opt {ξ : Type} {o : Option ξ} {x : Option α} {v : α → ξ} {k : α → O σ L β} {K : ξ → DL.Env → Out} (hg : o = x.map v) (h : ∀ a, Sim E EL RB EX (K (v a) ρ) (k a)) : Sim E EL RB EX ((ofOpt o ρ).out K) ((ofO x).bnd k) := by
  subst hg
  cases x with
  | none => exact ⟨trivial⟩
  | some a => exact h a
theorem c_get {x : Option α} {v : α → D} {v0 : Option α → D} {k : α → O σ L β} {K : D → Out} (hv : ∀ a, v0 (some a) = v a) (h : ∀ a, Sim E EL RB EX (K (v a)) (k a)) : Sim E EL RB EX (K (v0 x)) ((ofO x).bnd k) := by
  cases x with
  | none => exact ⟨trivial⟩
  | some a => rw [hv]; exact h a
/-- a result known up to an equality of operators -/
theorem c_eq {ξ : Type} {r r' : Res ξ} {K : ξ → DL.Env → Out} (h : r = r') (hk : Sim E EL RB EX (r'.out K) n) : Sim E EL RB EX (r.out K) n := by rw [h]; exact hk
theorem c_op {gg : D → D → Option D} {K : D → DL.Env → Out} (h : Sim E EL RB EX ((fa ρ).out fun d ρ => (fb ρ).out fun e ρ => (ofOpt (gg d e) ρ).out K) n) : Sim E EL RB EX ((eOp gg fa fb ρ).out K) n := by
  have : (eOp gg fa fb ρ).out K = (fa ρ).out fun d ρ => (fb ρ).out fun e ρ => (ofOpt (gg d e) ρ).out K := by
    unfold eOp; rw [bind_out]; congr 1; funext d ρ; rw [bind_out]
  rw [this]; exact h
theorem c_un {gg : D → Option D} {K : D → DL.Env → Out} (h : Sim E EL RB EX ((fa ρ).out fun d ρ => (ofOpt (gg d) ρ).out K) n) : Sim E EL RB EX ((eUn gg fa ρ).out K) n := by
  have : (eUn gg fa ρ).out K = (fa ρ).out fun d ρ => (ofOpt (gg d) ρ).out K := by
    unfold eUn; rw [bind_out]
  rw [this]; exact h
theorem c_cb {gg : List D → Option D} {K : D → DL.Env → Out} (h : Sim E EL RB EX ((fl ρ).out fun d ρ => (ofOpt (gg d) ρ).out K) n) : Sim E EL RB EX ((eCB gg fl ρ).out K) n := by
  have : (eCB gg fl ρ).out K = (fl ρ).out fun d ρ => (ofOpt (gg d) ρ).out K := by
    unfold eCB; rw [bind_out]
  rw [this]; exact h
theorem c_nil {K : List D → DL.Env → Out} (h : Sim E EL RB EX (K [] ρ) n) : Sim E EL RB EX ((aNil ρ).out K) n := h
theorem c_cons {K : List D → DL.Env → Out} (h : Sim E EL RB EX ((fa ρ).out fun d ρ => (fl ρ).out fun ds ρ => K (d :: ds) ρ) n) : Sim E EL RB EX ((aCons fa fl ρ).out K) n := by
  have : (aCons fa fl ρ).out K = (fa ρ).out fun d ρ => (fl ρ).out fun ds ρ => K (d :: ds) ρ := by
    unfold aCons; rw [bind_out]; congr 1; funext d ρ; rw [bind_out]; rfl
  rw [this]; exact h
theorem c_tup {K : D → DL.Env → Out} (h : Sim E EL RB EX ((fl ρ).out fun ds ρ => (if ds.length ≤ sizeLine then Res.ok (.tup ds) ρ else .stuck).out K) n) : Sim E EL RB EX ((eTup fl ρ).out K) n := by
  have : (eTup fl ρ).out K = (fl ρ).out fun ds ρ => (if ds.length ≤ sizeLine then Res.ok (.tup ds) ρ else .stuck).out K := by
    unfold eTup; rw [bind_out]
  rw [this]; exact h
theorem c_lst {K : D → DL.Env → Out} (h : Sim E EL RB EX ((fl ρ).out fun ds ρ => (if ds.length ≤ sizeLine then Res.ok (.lst ds) ρ else .stuck).out K) n) : Sim E EL RB EX ((eLst fl ρ).out K) n := by
  have : (eLst fl ρ).out K = (fl ρ).out fun ds ρ => (if ds.length ≤ sizeLine then Res.ok (.lst ds) ρ else .stuck).out K := by
    unfold eLst; rw [bind_out]
  rw [this]; exact h
theorem le_size {k : Nat} (h : k ≤ 16777216) : k ≤ sizeLine := by rw [sz]; exact h
theorem c_size {ds : List D} {v : D} {K : D → DL.Env → Out} (hs : ds.length ≤ 16777216) (h : Sim E EL RB EX (K v ρ) n) : Sim E EL RB EX ((if ds.length ≤ sizeLine then Res.ok v ρ else .stuck).out K) n := by
  rw [if_pos (le_size hs)]; exact h
theorem c_view {x : Fr α} {k : α → O σ L β} {v : α → D} {K : D → DL.Env → Out} (h : Sim (σ := Empty) (L := Empty) (fun s _ => s.elim) (fun s _ => s.elim) (fun a d _ => d = v a) (fun _ => True) ((fe ρ).out fun d ρ => .rt d ρ) x) (hs : ∀ a, scalD (v a) = true) (hx : EX ρ) (hk : ∀ a, Sim E EL RB EX (K (v a) ρ) (k a)) : Sim E EL RB EX ((eView fe ρ).out K) ((noX x).bnd k) := by
  unfold eView
  cases x with
  | nx s => exact s.elim
  | bk s => exact s.elim
  | ct s => exact s.elim
  | stuck => exact ⟨trivial⟩
  | exc e =>
    obtain ⟨ρ1, h1, h2⟩ := h.h
    unfold noX
    by_cases hq : (e.fs.map (·.2)).all scalD = true
    · simp only [hq, if_true]
      cases e1 : fe ρ with
      | ok a ρ1 => rw [e1] at h1; cases h1
      | stuck => rw [e1] at h1; cases h1
      | exc e' ρ1 => rw [e1] at h1; cases h1; simp only [hq, if_true]; exact ⟨⟨_, rfl, hx⟩⟩
    · simp only [hq]; exact ⟨trivial⟩
  | rt a =>
    obtain ⟨d, ρ1, h1, h2⟩ := h.h
    cases e1 : fe ρ with
    | stuck => rw [e1] at h1; cases h1
    | exc e' ρ1 => rw [e1] at h1; cases h1
    | ok a' ρ1 => rw [e1] at h1; cases h1; subst h2; simp only [hs, if_true]; exact hk a
theorem c_viewT {x : Fr Bool} {k : Bool → O σ L β} {K : Bool → DL.Env → Out} (h : Sim (σ := Empty) (L := Empty) (fun s _ => s.elim) (fun s _ => s.elim) (fun a d _ => d = D.bl a) (fun _ => True) ((ft ρ).out fun d ρ => .rt (.bl d) ρ) x) (hx : EX ρ) (hk : ∀ a, Sim E EL RB EX (K a ρ) (k a)) : Sim E EL RB EX ((tView ft ρ).out K) ((noX x).bnd k) := by
  unfold tView
  cases x with
  | nx s => exact s.elim
  | bk s => exact s.elim
  | ct s => exact s.elim
  | stuck => exact ⟨trivial⟩
  | exc e =>
    obtain ⟨ρ1, h1, h2⟩ := h.h
    unfold noX
    by_cases hq : (e.fs.map (·.2)).all scalD = true
    · simp only [hq, if_true]
      cases e1 : ft ρ with
      | ok a ρ1 => rw [e1] at h1; cases h1
      | stuck => rw [e1] at h1; cases h1
      | exc e' ρ1 => rw [e1] at h1; cases h1; simp only [hq, if_true]; exact ⟨⟨_, rfl, hx⟩⟩
    · simp only [hq]; exact ⟨trivial⟩
  | rt a =>
    obtain ⟨d, ρ1, h1, h2⟩ := h.h
    cases e1 : ft ρ with
    | stuck => rw [e1] at h1; cases h1
    | exc e' ρ1 => rw [e1] at h1; cases h1
    | ok a' ρ1 => rw [e1] at h1; cases h1; cases h2; exact hk a
/-- how an expression ends that stands alone -/
theorem c_rtv {v : α → D} {a : α} (h : d = v a) : Sim (σ := Empty) (L := Empty) (fun s _ => s.elim) (fun s _ => s.elim) (fun a d _ => d = v a) EX (.rt d ρ) (.rt a) := ⟨_, _, rfl, h⟩
/-! ### tests -/
def bOf (d : D) (ρ : DL.Env) : Res Bool := match d with
  | .bl b => .ok b ρ
  | _ => .stuck
def iOf (d : D) (ρ : DL.Env) : Res (Option Int) := match d with
  | .int i => .ok (some i) ρ
  | _ => .stuck
theorem c_tval {K : Bool → DL.Env → Out} (h : Sim E EL RB EX ((fe ρ).out fun d ρ => (bOf d ρ).out K) n) : Sim E EL RB EX ((tVal fe ρ).out K) n := by
  have : (tVal fe ρ).out K = (fe ρ).out fun d ρ => (bOf d ρ).out K := by
    unfold tVal; rw [bind_out]; congr 1
  rw [this]; exact h
def asB : D → Option Bool
  | .bl b => some b
  | _ => none
def asI : D → Option Int
  | .int b => some b
  | _ => none
def asS : D → Option Str
  | .str b => some b
  | _ => none
def asLs : D → Option (List D)
  | .lst ds => some ds | .tup ds => some ds | .scr ns => some (ns.map .int) | _ => none
@[simp] theorem asB_b {b : Bool} : asB (.bl b) = some b := rfl
@[simp] theorem asI_i {b : Int} : asI (.int b) = some b := rfl
@[simp] theorem asS_s {b : Str} : asS (.str b) = some b := rfl
@[simp] theorem asLs_l {ds : List D} : asLs (.lst ds) = some ds := rfl
@[simp] theorem asLs_t {ds : List D} : asLs (.tup ds) = some ds := rfl
@[simp] theorem asLs_x {ds : List Int} : asLs (.scr ds) = some (ds.map .int) := rfl
theorem c_asB {K : Bool → DL.Env → Out} {k : Bool → O σ L β} (h : ∀ b, Sim E EL RB EX (K b ρ) (k b)) : Sim E EL RB EX ((bOf d ρ).out K) ((ofO (asB d)).bnd k) := by
  cases d <;> first | exact h _ | exact ⟨trivial⟩
theorem c_bnot {K : Bool → DL.Env → Out} (h : Sim E EL RB EX ((ft ρ).out fun b ρ => K (!b) ρ) n) : Sim E EL RB EX ((bNot ft ρ).out K) n := by
  have : (bNot ft ρ).out K = (ft ρ).out fun b ρ => K (!b) ρ := by
    unfold bNot; rw [bind_out]; rfl
  rw [this]; exact h
/-- a wait within a case: only where K is the end of a block -/
theorem c_band {K : Bool → DL.Env → Out} (h : Sim E EL RB EX ((ft ρ).out fun b ρ => if b = true then (fu ρ).out K else K false ρ) n) : Sim E EL RB EX ((bAnd ft fu ρ).out K) n := by
  have : (bAnd ft fu ρ).out K = (ft ρ).out fun b ρ => if b = true then (fu ρ).out K else K false ρ := by
    unfold bAnd; rw [bind_out]; congr 1; funext b ρ; cases b <;> rfl
  rw [this]; exact h
theorem c_bor {K : Bool → DL.Env → Out} (h : Sim E EL RB EX ((ft ρ).out fun b ρ => if b = true then K true ρ else (fu ρ).out K) n) : Sim E EL RB EX ((bOr ft fu ρ).out K) n := by
  have : (bOr ft fu ρ).out K = (ft ρ).out fun b ρ => if b = true then K true ρ else (fu ρ).out K := by
    unfold bOr; rw [bind_out]; congr 1; funext b ρ; cases b <;> rfl
  rw [this]; exact h
theorem c_and {K : D → DL.Env → Out} (h : Sim E EL RB EX ((tVal fa ρ).out fun b ρ => if b = true then (fb ρ).out K else K (.bl false) ρ) n) : Sim E EL RB EX ((eAndV fa fb ρ).out K) n := by
  have : (eAndV fa fb ρ).out K = (tVal fa ρ).out fun b ρ => if b = true then (fb ρ).out K else K (.bl false) ρ := by
    unfold eAndV; rw [bind_out]; congr 1; funext b ρ; cases b <;> rfl
  rw [this]; exact h
theorem c_or {K : D → DL.Env → Out} (h : Sim E EL RB EX ((tVal fa ρ).out fun b ρ => if b = true then K (.bl true) ρ else (fb ρ).out K) n) : Sim E EL RB EX ((eOrV fa fb ρ).out K) n := by
  have : (eOrV fa fb ρ).out K = (tVal fa ρ).out fun b ρ => if b = true then K (.bl true) ρ else (fb ρ).out K := by
    unfold eOrV; rw [bind_out]; congr 1; funext b ρ; cases b <;> rfl
  rw [this]; exact h
theorem c_not {K : D → DL.Env → Out} (h : Sim E EL RB EX ((tVal fa ρ).out fun b ρ => K (.bl (!b)) ρ) n) : Sim E EL RB EX ((eNotV fa ρ).out K) n := by
  have : (eNotV fa ρ).out K = (tVal fa ρ).out fun b ρ => K (.bl (!b)) ρ := by
    unfold eNotV; rw [bind_out]; rfl
  rw [this]; exact h
theorem c_if {K : D → DL.Env → Out} (h : Sim E EL RB EX ((ft ρ).out fun b ρ => if b = true then (fa ρ).out K else (fb ρ).out K) n) : Sim E EL RB EX ((eIf ft fa fb ρ).out K) n := by
  have : (eIf ft fa fb ρ).out K = (ft ρ).out fun b ρ => if b = true then (fa ρ).out K else (fb ρ).out K := by
    unfold eIf; rw [bind_out]; congr 1; funext b ρ; cases b <;> rfl
  rw [this]; exact h
theorem c_ite {b : Bool} {x y : Out} {n m : O σ L β} (h1 : Sim E EL RB EX x n) (h2 : Sim E EL RB EX y m) : Sim E EL RB EX (if b = true then x else y) (if b = true then n else m) := by
  cases b with
  | true => exact h1
  | false => exact h2
theorem c_isi {p : D → Bool} {K : D → DL.Env → Out} (h : Sim E EL RB EX ((fa ρ).out fun d ρ => K (.bl (p d)) ρ) n) : Sim E EL RB EX ((eIsi p fa ρ).out K) n := by
  have : (eIsi p fa ρ).out K = (fa ρ).out fun d ρ => K (.bl (p d)) ρ := by
    unfold eIsi; rw [bind_out]; rfl
  rw [this]; exact h
theorem c_sl {gg : D → Option Int → Option Int → Option D} {pl ph : ER (Option Int)} {K : D → DL.Env → Out} (h : Sim E EL RB EX ((fa ρ).out fun d ρ => (pl ρ).out fun lo ρ => (ph ρ).out fun hi ρ => (ofOpt (gg d lo hi) ρ).out K) n) : Sim E EL RB EX ((eSl gg fa pl ph ρ).out K) n := by
  have : (eSl gg fa pl ph ρ).out K = (fa ρ).out fun d ρ => (pl ρ).out fun lo ρ => (ph ρ).out fun hi ρ => (ofOpt (gg d lo hi) ρ).out K := by
    unfold eSl; rw [bind_out]; congr 1; funext d ρ; rw [bind_out]; congr 1; funext d ρ; rw [bind_out]
  rw [this]; exact h
theorem c_pso {K : Option Int → DL.Env → Out} (h : Sim E EL RB EX ((fa ρ).out fun d ρ => (iOf d ρ).out K) n) : Sim E EL RB EX ((pSo fa ρ).out K) n := by
  have : (pSo fa ρ).out K = (fa ρ).out fun d ρ => (iOf d ρ).out K := by
    unfold pSo; rw [bind_out]; congr 1
  rw [this]; exact h
theorem c_asI {K : Option Int → DL.Env → Out} {k : Int → O σ L β} (h : ∀ b, Sim E EL RB EX (K (some b) ρ) (k b)) : Sim E EL RB EX ((iOf d ρ).out K) ((ofO (asI d)).bnd k) := by
  cases d <;> first | exact h _ | exact ⟨trivial⟩
def chK (o1 : Option D) (y : DL.Env → Res D) (ρ : DL.Env) : Res D := match o1 with
  | some (.bl true) => y ρ
  | some (.bl false) => .ok (.bl false) ρ
  | _ => .stuck
theorem c_chain {gg gh : D → D → Option D} {K : D → DL.Env → Out} (h : Sim E EL RB EX ((fa ρ).out fun d ρ => (fb ρ).out fun e ρ => (chK (gg d e) (fun ρ => (fc ρ).bind fun o ρ => ofOpt (gh e o) ρ) ρ).out K) n) : Sim E EL RB EX ((eChain gg gh fa fb fc ρ).out K) n := by
  have : (eChain gg gh fa fb fc ρ).out K = (fa ρ).out fun d ρ => (fb ρ).out fun e ρ => (chK (gg d e) (fun ρ => (fc ρ).bind fun o ρ => ofOpt (gh e o) ρ) ρ).out K := by
    unfold eChain; rw [bind_out]; congr 1; funext d ρ; rw [bind_out]; congr 1
  rw [this]; exact h
theorem c_chain2 {b : Bool} {o1 : Option D} {y : DL.Env → Res D} {K : D → DL.Env → Out} (h0 : o1 = some (.bl b)) (h : Sim E EL RB EX (if b = true then (y ρ).out K else K (.bl false) ρ) n) : Sim E EL RB EX ((chK o1 y ρ).out K) n := by
  subst h0
  cases b <;> exact h
theorem c_chain3 {o1 : Option D} {x : Option Bool} {y : DL.Env → Res D} {K : D → DL.Env → Out} {k : Bool → O σ L β} (h0 : o1 = x.map D.bl) (h : ∀ b, Sim E EL RB EX (if b = true then (y ρ).out K else K (.bl false) ρ) (k b)) : Sim E EL RB EX ((chK o1 y ρ).out K) (O.bnd (ofO x) k) := by
  subst h0
  cases x with
  | none => exact ⟨True.intro⟩
  | some b => have := h b; cases b <;> exact this
theorem c_bind {ξ ζ : Type} {r : Res ξ} {h : ξ → DL.Env → Res ζ} {K : ζ → DL.Env → Out} (q : Sim E EL RB EX (r.out fun a ρ => (h a ρ).out K) n) : Sim E EL RB EX ((r.bind h).out K) n := by rw [bind_out]; exact q
/-! ### calls -/
def SimP (v : α → D) (w : α → DL.Env) (r : FRes) (x : Fr α) : Prop := match x with
  | .rt a => r = .ret (v a) (w a)
  | .exc e => ∃ outs, r = .exc e outs
  | .stuck => True
  | .nx s => s.elim
  | .bk s => s.elim
  | .ct s => s.elim
structure SimF (v : α → D) (w : α → DL.Env) (r : FRes) (x : Fr α) : Prop where
  h : SimP v w r x
theorem c_call {N : Nat} {h : Den} {ds : List D} {x : Fr α} {k : α → O σ L β} {v : α → D} {w : α → DL.Env} {K : D → DL.Env → Out} (ha : fl ρ = .ok ds ρ') (hl : ds.length = N) (hf : SimF v w (h ds) x) (hx : EX ρ') (hk : ∀ a, Sim E EL RB EX (K (v a) ρ') (k a)) : Sim E EL RB EX ((eCall N h fl ρ).out K) (x.bnd k) := by
  unfold eCall
  rw [ha]
  show Sim E EL RB EX ((if ds.length = N then _ else Res.stuck).out K) _
  rw [if_pos hl]
  cases x with
  | nx s => exact s.elim
  | bk s => exact s.elim
  | ct s => exact s.elim
  | stuck => exact ⟨trivial⟩
  | exc e => obtain ⟨outs, h1⟩ := hf.h; rw [h1]; exact ⟨⟨_, rfl, hx⟩⟩
  | rt a => have h1 : h ds = .ret (v a) (w a) := hf.h; rw [h1]; exact hk a
def callR (N : Nat) (h : Den) (ds : List D) (ρ : DL.Env) : Res D := if ds.length = N then (match h ds with | .ret d _ => Res.ok d ρ | .exc e _ => .exc e ρ | .stuck => .stuck) else .stuck
theorem c_callM {N : Nat} {h : Den} {K : D → DL.Env → Out} (q : Sim E EL RB EX ((fl ρ).out fun ds ρ => (callR N h ds ρ).out K) n) : Sim E EL RB EX ((eCall N h fl ρ).out K) n := by
  have : eCall N h fl ρ = (fl ρ).bind fun ds ρ => callR N h ds ρ := rfl
  rw [this, bind_out]; exact q
theorem c_fret {N : Nat} {h : Den} {ds : List D} {x : Fr α} {k : α → O σ L β} {v : α → D} {w : α → DL.Env} {K : D → DL.Env → Out} (hl : ds.length = N) (hf : SimF v w (h ds) x) (hx : EX ρ) (hk : ∀ a, Sim E EL RB EX (K (v a) ρ) (k a)) : Sim E EL RB EX ((callR N h ds ρ).out K) (x.bnd k) := by
  unfold callR
  rw [if_pos hl]
  cases x with
  | nx s => exact s.elim
  | bk s => exact s.elim
  | ct s => exact s.elim
  | stuck => exact ⟨trivial⟩
  | exc e => obtain ⟨outs, h1⟩ := hf.h; rw [h1]; exact ⟨⟨_, rfl, hx⟩⟩
  | rt a => have h1 : h ds = .ret (v a) (w a) := hf.h; rw [h1]; exact hk a
def callOK (i N : Nat) (h : Den) (ds : List D) (ρ : DL.Env) : Res D := match ρ[i]? with
    | some (some d0) => if ds.length = N then (match h (d0 :: ds) with
      | .ret d outs => .ok d (ρ.set i outs.head?.join)
      | .exc e outs => .exc e (ρ.set i outs.head?.join)
      | .stuck => .stuck) else .stuck
    | _ => .stuck
theorem c_callO {i N : Nat} {h : Den} {d1 : D} {K : D → DL.Env → Out} (h0 : ρ[i]? = some (some d1)) (q : Sim E EL RB EX ((fl ρ).out fun ds ρ => (callOK i N h ds ρ).out K) n) : Sim E EL RB EX ((eCallO i N h fl ρ).out K) n := by
  unfold eCallO
  rw [h0]
  show Sim E EL RB EX (((fl ρ).bind fun ds ρ => callOK i N h ds ρ).out K) n
  rw [bind_out]; exact q
theorem c_fretO {i N : Nat} {h : Den} {d0 : D} {ds : List D} {x : Fr α} {k : α → O σ L β} {v u : α → D} {K : D → DL.Env → Out} (h0 : ρ[i]? = some (some d0)) (hl : ds.length = N) (hf : SimF v (fun a => [some (u a)]) (h (d0 :: ds)) x) (hx : ∀ y, EX (ρ.set i y)) (hk : ∀ a, Sim E EL RB EX (K (v a) (ρ.set i (some (u a)))) (k a)) : Sim E EL RB EX ((callOK i N h ds ρ).out K) (x.bnd k) := by
  unfold callOK
  rw [h0]
  simp only [if_pos hl]
  cases x with
  | nx s => exact s.elim
  | bk s => exact s.elim
  | ct s => exact s.elim
  | stuck => exact ⟨trivial⟩
  | exc e => obtain ⟨outs, h1⟩ := hf.h; rw [h1]; exact ⟨⟨_, rfl, hx _⟩⟩
  | rt a => have h1 : h (d0 :: ds) = .ret (v a) [some (u a)] := hf.h; rw [h1]; exact hk a
def frOf (r : FRes) : Fr D := match r with
  | .ret d _ => .rt d
  | .exc e _ => .exc e
  | .stuck => .stuck
def frOf1 (r : FRes) : Fr (D × D) := match r with
  | .ret d [some o] => .rt (d, o)
  | .exc e _ => .exc e
  | _ => .stuck
theorem simF_of {N : Nat} {fb : DL.Env → Out} {ds : List D} : SimF (fun d => d) (fun _ => []) (mkF N 0 fb ds) (frOf (mkF N 0 fb ds)) := by
  constructor
  unfold mkF
  cases fb (ds.map some ++ List.replicate (N - ds.length) none) <;> first | rfl | exact ⟨_, rfl⟩ | trivial
theorem simF_of1 {r : FRes} : SimF (fun d : D × D => d.1) (fun d => [some d.2]) r (frOf1 r) := by
  constructor
  unfold frOf1
  split
  · rfl
  · exact ⟨_, rfl⟩
  · trivial
theorem simF_mk {N k : Nat} {fb : DL.Env → Out} {ds : List D} {x : Fr α} {v : α → D} {w : α → DL.Env} (h : Sim (σ := Empty) (L := Empty) (fun s _ => s.elim) (fun s _ => s.elim) (fun a d ρ => d = v a ∧ ρ.take k = w a) (fun _ => True) (fb (ds.map some ++ List.replicate (N - ds.length) none)) x) : SimF v w (mkF N k fb ds) x := by
  constructor
  unfold mkF
  cases x with
  | nx s => exact s.elim
  | bk s => exact s.elim
  | ct s => exact s.elim
  | stuck => trivial
  | exc e => obtain ⟨ρ, h1, _⟩ := h.h; rw [h1]; exact ⟨_, rfl⟩
  | rt a => obtain ⟨d, ρ, h1, h2, h3⟩ := h.h; rw [h1]; subst h2; show FRes.ret _ _ = _; rw [h3]
theorem simF_mkN {N k : Nat} {fb : DL.Env → Out} {ds : List D} {x : O Unit Empty α} {z : α} {v : α → D} {w : α → DL.Env} (hz : v z = .non) (h : Sim (σ := Unit) (L := Empty) (fun _ ρ => ρ.take k = w z) (fun s _ => s.elim) (fun a d ρ => d = v a ∧ ρ.take k = w a) (fun _ => True) (fb (ds.map some ++ List.replicate (N - ds.length) none)) x) : SimF v w (mkF N k fb ds) (fin z x) := by
  constructor
  unfold mkF
  cases x with
  | nx s => obtain ⟨ρ, h1, h2⟩ := h.h; rw [h1]; show FRes.ret _ _ = _; rw [h2, hz]
  | bk s => exact s.elim
  | ct s => exact s.elim
  | stuck => trivial
  | exc e => obtain ⟨ρ, h1, _⟩ := h.h; rw [h1]; exact ⟨_, rfl⟩
  | rt a => obtain ⟨d, ρ, h1, h2, h3⟩ := h.h; rw [h1]; subst h2; show FRes.ret _ _ = _; rw [h3]
theorem SimF.rt {v : α → D} {w : α → DL.Env} {r : FRes} {x : Fr α} {a : α} (h : SimF v w r x) (e : x = .rt a) : r = .ret (v a) (w a) := by subst e; exact h.h
end
end DL
namespace DL
open PySem L2
section
variable {α β γ σ τ υ L L' : Type}
variable {E : σ → DL.Env → Prop} {E1 : τ → DL.Env → Prop} {EL : L → DL.Env → Prop} {RB : β → D → DL.Env → Prop} {EX EX1 : DL.Env → Prop}
variable {ρ ρ' : DL.Env} {fe fa fb fc : ER D} {ft fu : ER Bool} {fl : ER (List D)} {f g : DL.Env → Out} {n : O σ L β} {d e o : D} {b : Bool} {K : DL.Env → Out} {i j l : Nat}
/-! ### statements -/
theorem seq_seq {o : Out} {h : DL.Env → Out} {K : DL.Env → Out} : (o.seq h).seq K = o.seq fun ρ => (h ρ).seq K := by cases o <;> rfl
theorem out_seq {ξ : Type} {r : Res ξ} {h : ξ → DL.Env → Out} {K : DL.Env → Out} : (r.out h).seq K = r.out fun a ρ => (h a ρ).seq K := by cases r <;> rfl
theorem t_end (h : Sim E EL RB EX ((f ρ).seq Out.nx) n) : Sim E EL RB EX (f ρ) n := by
  have : (f ρ).seq Out.nx = f ρ := by cases f ρ <;> rfl
  rw [this] at h; exact h
theorem t_nx {s : σ} (h : E s ρ) : Sim E EL RB EX (Out.nx ρ) (.nx s : O σ L β) := ⟨⟨_, rfl, h⟩⟩
theorem t_rt {a : β} (h : RB a d ρ) : Sim E EL RB EX (Out.rt d ρ) (.rt a : O σ L β) := ⟨⟨_, _, rfl, h⟩⟩
theorem t_pass (h : Sim E EL RB EX (K ρ) n) : Sim E EL RB EX ((Out.nx ρ).seq K) n := h
theorem t_bk {s : L} (h : EL s ρ) : Sim E EL RB EX ((Out.bk ρ).seq K) (.bk s : O σ L β) := ⟨⟨_, rfl, h⟩⟩
theorem t_ct {s : L} (h : EL s ρ) : Sim E EL RB EX ((Out.ct ρ).seq K) (.ct s : O σ L β) := ⟨⟨_, rfl, h⟩⟩
theorem t_seq (h : Sim E EL RB EX ((f ρ).seq fun ρ => (g ρ).seq K) n) : Sim E EL RB EX ((sSeq f g ρ).seq K) n := by
  unfold sSeq; rw [seq_seq]; exact h
theorem t_set (h : Sim E EL RB EX ((fe ρ).out fun d ρ => K (ρ.set i (some d))) n) : Sim E EL RB EX ((sSet i fe ρ).seq K) n := by
  unfold sSet; rw [out_seq]; exact h
theorem t_drop (h : Sim E EL RB EX ((fe ρ).out fun _ ρ => K ρ) n) : Sim E EL RB EX ((sDrop fe ρ).seq K) n := by
  unfold sDrop; rw [out_seq]; exact h
theorem t_ret (h : Sim E EL RB EX ((fe ρ).out fun d ρ => .rt d ρ) n) : Sim E EL RB EX ((sRet fe ρ).seq K) n := by
  unfold sRet; rw [out_seq]; exact h
theorem t_retN {a : β} (h : RB a .non ρ) : Sim E EL RB EX ((Out.rt .non ρ).seq K) (.rt a : O σ L β) := ⟨⟨_, _, rfl, h⟩⟩
theorem t_if (h : Sim E EL RB EX ((ft ρ).out fun b ρ => if b = true then (f ρ).seq K else (g ρ).seq K) n) : Sim E EL RB EX ((sIf ft f g ρ).seq K) n := by
  have : (sIf ft f g ρ).seq K = (ft ρ).out fun b ρ => if b = true then (f ρ).seq K else (g ρ).seq K := by
    unfold sIf; rw [out_seq]; congr 1; funext b ρ; cases b <;> rfl
  rw [this]; exact h
def parK (i j : Nat) (K : DL.Env → Out) (ds : List D) (ρ : DL.Env) : Out := match ds with
  | [d, e] => K ((ρ.set i (some d)).set j (some e))
  | _ => .stuck
theorem t_par (h : Sim E EL RB EX ((fl ρ).out (parK i j K)) n) : Sim E EL RB EX ((sPar i j fl ρ).seq K) n := by
  have : (sPar i j fl ρ).seq K = (fl ρ).out (parK i j K) := by
    unfold sPar; rw [out_seq]; congr 1; funext ds ρ; unfold parK; split <;> first | rfl | (split <;> first | rfl | simp_all)
  rw [this]; exact h
theorem t_parK (h : Sim E EL RB EX (K ((ρ.set i (some d)).set j (some e))) n) : Sim E EL RB EX (parK i j K [d, e] ρ) n := h
def parK3 (i j l : Nat) (K : DL.Env → Out) (ds : List D) (ρ : DL.Env) : Out := match ds with
  | [d, e, o] => K (((ρ.set i (some d)).set j (some e)).set l (some o))
  | _ => .stuck
theorem t_par3 (h : Sim E EL RB EX ((fl ρ).out (parK3 i j l K)) n) : Sim E EL RB EX ((sPar3 i j l fl ρ).seq K) n := by
  have : (sPar3 i j l fl ρ).seq K = (fl ρ).out (parK3 i j l K) := by
    unfold sPar3; rw [out_seq]; congr 1; funext ds ρ; unfold parK3; split <;> first | rfl | (split <;> first | rfl | simp_all)
  rw [this]; exact h
theorem t_parK3 (h : Sim E EL RB EX (K (((ρ.set i (some d)).set j (some e)).set l (some o))) n) : Sim E EL RB EX (parK3 i j l K [d, e, o] ρ) n := h
def asgK (gf : D → DL.Env → Option DL.Env) (K : DL.Env → Out) (d : D) (ρ : DL.Env) : Out := match gf d ρ with
  | some ρ => K ρ
  | none => .stuck
theorem t_asg {gf : D → DL.Env → Option DL.Env} (h : Sim E EL RB EX ((fe ρ).out (asgK gf K)) n) : Sim E EL RB EX ((sAsg fe gf ρ).seq K) n := by
  have : (sAsg fe gf ρ).seq K = (fe ρ).out (asgK gf K) := by
    unfold sAsg; rw [out_seq]; congr 1; funext ds ρ; unfold asgK; cases gf ds ρ <;> rfl
  rw [this]; exact h
theorem t_asgK {gf : D → DL.Env → Option DL.Env} (e : gf d ρ = some ρ') (h : Sim E EL RB EX (K ρ') n) : Sim E EL RB EX (asgK gf K d ρ) n := by
  unfold asgK; rw [e]; exact h
/-- a value of unknown shape, taken apart -/
def un2 : D → Option (D × D)
  | .tup [a, b] => some (a, b)
  | _ => none
def un3 : D → Option (D × D × D)
  | .tup [a, b, c] => some (a, b, c)
  | _ => none
def l2 {α : Type} : List α → Option (α × α)
  | [a, b] => some (a, b)
  | _ => none
def l3 {α : Type} : List α → Option (α × α × α)
  | [a, b, c] => some (a, b, c)
  | _ => none
theorem t_un2 {a b : Nat} {k : D × D → O σ L β} (h : ∀ p, Sim E EL RB EX (K ((ρ.set a (some p.1)).set b (some p.2))) (k p)) : Sim E EL RB EX (asgK (gT 2 (gsCons (gN a) (gsCons (gN b) gsNil))) K d ρ) ((ofO (un2 d)).bnd k) := by
  unfold un2
  split
  · exact h (_, _)
  · exact ⟨trivial⟩
theorem t_un3 {a b c : Nat} {k : D × D × D → O σ L β} (h : ∀ p, Sim E EL RB EX (K (((ρ.set a (some p.1)).set b (some p.2.1)).set c (some p.2.2))) (k p)) : Sim E EL RB EX (asgK (gT 3 (gsCons (gN a) (gsCons (gN b) (gsCons (gN c) gsNil)))) K d ρ) ((ofO (un3 d)).bnd k) := by
  unfold un3
  split
  · exact h (_, _, _)
  · exact ⟨trivial⟩
theorem t_l2 {a b : Nat} {v : α → D} {xs : List α} {k : α × α → O σ L β} (h : ∀ p, Sim E EL RB EX (K ((ρ.set a (some (v p.1))).set b (some (v p.2)))) (k p)) : Sim E EL RB EX (asgK (gT 2 (gsCons (gN a) (gsCons (gN b) gsNil))) K (.tup (xs.map v)) ρ) ((ofO (l2 xs)).bnd k) := by
  unfold l2
  split
  · exact h (_, _)
  · exact ⟨trivial⟩
theorem t_l3 {a b c : Nat} {v : α → D} {xs : List α} {k : α × α × α → O σ L β} (h : ∀ p, Sim E EL RB EX (K (((ρ.set a (some (v p.1))).set b (some (v p.2.1))).set c (some (v p.2.2)))) (k p)) : Sim E EL RB EX (asgK (gT 3 (gsCons (gN a) (gsCons (gN b) (gsCons (gN c) gsNil)))) K (.tup (xs.map v)) ρ) ((ofO (l3 xs)).bnd k) := by
  unfold l3
  split
  · exact h (_, _, _)
  · exact ⟨trivial⟩
theorem t_aug {gg : D → D → Option D} {d0 : D} (h0 : ρ[i]? = some (some d0)) (h : Sim E EL RB EX ((fe ρ).out fun e ρ => (ofOpt (gg d0 e) ρ).out fun o ρ => K (ρ.set i (some o))) n) : Sim E EL RB EX ((sAug gg i fe ρ).seq K) n := by
  have : (sAug gg i fe ρ).seq K = (fe ρ).out fun e ρ => (ofOpt (gg d0 e) ρ).out fun o ρ => K (ρ.set i (some o)) := by
    have e0 : eVar i ρ = .ok d0 ρ := by unfold eVar; rw [h0]
    unfold sAug; rw [e0, out_seq, out_ok, out_seq]; congr 1; funext e ρ; cases gg d0 e <;> rfl
  rw [this]; exact h
def setiK (i : Nat) (K : DL.Env → Out) (d k : D) (ρ : DL.Env) : Out := match ρ[i]? with
  | some (some x) => (ofOpt (storeO x k d) ρ).out fun x' ρ => K (ρ.set i (some x'))
  | _ => .stuck
def setiW (i : Nat) (K : DL.Env → Out) (fi : ER D) (d : D) (ρ : DL.Env) : Out := match ρ[i]? with
  | some (some _) => (fi ρ).out (setiK i K d)
  | _ => .stuck
theorem t_seti {fv fi : ER D} {d0 : D} (h : Sim E EL RB EX ((fv ρ).out (setiW i K fi)) n) : Sim E EL RB EX ((sSetI i fv fi ρ).seq K) n := by
  have : (sSetI i fv fi ρ).seq K = (fv ρ).out (setiW i K fi) := by
    unfold sSetI; rw [out_seq]; congr 1; funext d ρ; unfold setiW; cases ρ[i]? with
    | none => rfl
    | some o => cases o with
      | none => rfl
      | some x => rw [out_seq]; congr 1; funext k ρ; unfold setiK; cases ρ[i]? with
        | none => rfl
        | some o => cases o with
          | none => rfl
          | some x => show Out.seq (match storeO x k d with | some x' => _ | none => _) K = (ofOpt (storeO x k d) ρ).out _; cases storeO x k d <;> rfl
  rw [this]; exact h
theorem t_seti2 {fi : ER D} {d0 : D} (h0 : ρ[i]? = some (some d0)) (h : Sim E EL RB EX ((fi ρ).out (setiK i K d)) n) : Sim E EL RB EX (setiW i K fi d ρ) n := by
  unfold setiW; rw [h0]; exact h
theorem t_setiK {k d0 : D} (h0 : ρ[i]? = some (some d0)) (h : Sim E EL RB EX ((ofOpt (storeO d0 k d) ρ).out fun x' ρ => K (ρ.set i (some x'))) n) : Sim E EL RB EX (setiK i K d k ρ) n := by
  unfold setiK; rw [h0]; exact h
theorem t_raise {c : Nat} {fs : List Str} (h : Sim E EL RB EX ((fl ρ).out fun ds ρ => if ds.length = fs.length then .exc ⟨c, fs.zip ds⟩ ρ else .stuck) n) : Sim E EL RB EX ((sRaise c fs fl ρ).seq K) n := by
  have : (sRaise c fs fl ρ).seq K = (fl ρ).out fun ds ρ => if ds.length = fs.length then .exc ⟨c, fs.zip ds⟩ ρ else .stuck := by
    unfold sRaise; rw [out_seq]; congr 1; funext ds ρ; split <;> rfl
  rw [this]; exact h
theorem t_exc {c : Nat} {fs : List Str} {ds : List D} (hl : ds.length = fs.length) (hx : EX ρ) : Sim E EL RB EX (if ds.length = fs.length then .exc ⟨c, fs.zip ds⟩ ρ else .stuck) (.exc ⟨c, fs.zip ds⟩ : O σ L β) := by
  rw [if_pos hl]; exact ⟨⟨_, rfl, hx⟩⟩
/-- two ways meet -/
theorem t_cut {m : O τ L β} {k : τ → O σ L β} (h1 : Sim E1 EL RB EX (f ρ) m) (h2 : ∀ s ρ', E1 s ρ' → Sim E EL RB EX (K ρ') (k s)) : Sim E EL RB EX ((f ρ).seq K) (m.seq k) := by
  cases m with
  | nx s => obtain ⟨ρ1, e1, h⟩ := h1.h; rw [e1]; exact h2 s ρ1 h
  | bk s => obtain ⟨ρ1, e1, h⟩ := h1.h; rw [e1]; exact ⟨⟨_, rfl, h⟩⟩
  | ct s => obtain ⟨ρ1, e1, h⟩ := h1.h; rw [e1]; exact ⟨⟨_, rfl, h⟩⟩
  | rt s => obtain ⟨d, ρ1, e1, h⟩ := h1.h; rw [e1]; exact ⟨⟨_, _, rfl, h⟩⟩
  | exc s => obtain ⟨ρ1, e1, h⟩ := h1.h; rw [e1]; exact ⟨⟨_, rfl, h⟩⟩
  | stuck => exact ⟨trivial⟩
theorem forL_sim {v : α → D} {gf : D → DL.Env → Option DL.Env} {F : α → τ → O τ τ β} (hb : ∀ x s ρ, E1 s ρ → Sim E1 E1 RB EX (asgK gf f (v x) ρ) (F x s)) : ∀ (xs : List α) (s : τ) (ρ : DL.Env), E1 s ρ → Sim E1 EL RB EX (forL gf f (xs.map v) ρ) (nFor F xs s : O τ L β)
  | [], s, ρ, h => ⟨_, rfl, h⟩
  | x :: xs, s, ρ, h => by
    have h2 := hb x s ρ h
    rw [List.map_cons]
    unfold forL nFor
    unfold asgK at h2
    cases h1 : gf (v x) ρ with
    | none =>
      rw [h1] at h2
      cases e : F x s with
      | stuck => exact ⟨trivial⟩
      | nx s' => rw [e] at h2; obtain ⟨ρ2, e2, h3⟩ := h2.h; cases e2
      | ct s' => rw [e] at h2; obtain ⟨ρ2, e2, h3⟩ := h2.h; cases e2
      | bk s' => rw [e] at h2; obtain ⟨ρ2, e2, h3⟩ := h2.h; cases e2
      | rt b => rw [e] at h2; obtain ⟨d, ρ2, e2, h3⟩ := h2.h; cases e2
      | exc b => rw [e] at h2; obtain ⟨ρ2, e2, h3⟩ := h2.h; cases e2
    | some ρ1 =>
      rw [h1] at h2
      simp only at h2 ⊢
      cases e : F x s with
      | nx s' => rw [e] at h2; obtain ⟨ρ2, e2, h3⟩ := h2.h; rw [e2]; exact forL_sim hb xs s' ρ2 h3
      | ct s' => rw [e] at h2; obtain ⟨ρ2, e2, h3⟩ := h2.h; rw [e2]; exact forL_sim hb xs s' ρ2 h3
      | bk s' => rw [e] at h2; obtain ⟨ρ2, e2, h3⟩ := h2.h; rw [e2]; exact ⟨⟨_, rfl, h3⟩⟩
      | rt b => rw [e] at h2; obtain ⟨d, ρ2, e2, h3⟩ := h2.h; rw [e2]; exact ⟨⟨_, _, rfl, h3⟩⟩
      | exc b => rw [e] at h2; obtain ⟨ρ2, e2, h3⟩ := h2.h; rw [e2]; exact ⟨⟨_, rfl, h3⟩⟩
      | stuck => exact ⟨trivial⟩
theorem t_forK {fi : ER (List D)} {gf : D → DL.Env → Option DL.Env} (h : Sim E EL RB EX ((fi ρ).out fun es ρ => (forL gf f es ρ).seq K) n) : Sim E EL RB EX ((sFor fi gf f ρ).seq K) n := by
  unfold sFor; rw [out_seq]; exact h
/-- the last statement of a block -/
theorem t_loop {v : α → D} {gf : D → DL.Env → Option DL.Env} {F : α → τ → O τ τ β} {xs : List α} {s : τ} {k : τ → O σ L β} (h0 : E1 s ρ) (hb : ∀ x s ρ, E1 s ρ → Sim E1 E1 RB EX (asgK gf f (v x) ρ) (F x s)) (h2 : ∀ s ρ', E1 s ρ' → Sim E EL RB EX (K ρ') (k s)) :
    Sim E EL RB EX ((forL gf f (xs.map v) ρ).seq K) ((nFor F xs s : O τ L β).seq k) :=
  t_cut (f := fun ρ => forL gf f (xs.map v) ρ) (forL_sim hb xs s ρ h0) h2
/-! ### iterables -/
theorem c_iA {K : List D → DL.Env → Out} (h : Sim E EL RB EX ((fa ρ).out fun d ρ => (ofOpt (asLs d) ρ).out K) n) : Sim E EL RB EX ((iA fa ρ).out K) n := by
  have : (iA fa ρ).out K = (fa ρ).out fun d ρ => (ofOpt (asLs d) ρ).out K := by
    unfold iA; rw [bind_out]; congr 1; funext d ρ; cases d <;> rfl
  rw [this]; exact h
theorem c_iS {K : List D → DL.Env → Out} (h : Sim E EL RB EX ((fa ρ).out fun d ρ => (ofOpt ((asS d).map signsD) ρ).out K) n) : Sim E EL RB EX ((iS fa ρ).out K) n := by
  have : (iS fa ρ).out K = (fa ρ).out fun d ρ => (ofOpt ((asS d).map signsD) ρ).out K := by
    unfold iS; rw [bind_out]; congr 1; funext d ρ; cases d <;> rfl
  rw [this]; exact h
def gR1 : List D → Option (List D)
  | [.int j] => if inRg j = true then some (rangeD 0 j.toNat) else none
  | _ => none
def gR2 : List D → Option (List D)
  | [.int i, .int j] => if inRg i = true ∧ inRg j = true then some (rangeD i (j - i).toNat) else none
  | _ => none
def gEn : List D → Option (List D)
  | [.lst ds] => some (enumD 0 ds)
  | [.tup ds] => some (enumD 0 ds)
  | _ => none
theorem c_iR1 {K : List D → DL.Env → Out} (h : Sim E EL RB EX ((fl ρ).out fun d ρ => (ofOpt (gR1 d) ρ).out K) n) : Sim E EL RB EX ((iR1 fl ρ).out K) n := by
  have : (iR1 fl ρ).out K = (fl ρ).out fun d ρ => (ofOpt (gR1 d) ρ).out K := by
    unfold iR1; rw [bind_out]; congr 1; funext ds ρ; unfold gR1; split
    · rename_i j; by_cases q : inRg j = true <;> simp [q]; rfl
    · first | rfl | (split <;> first | rfl | simp_all)
  rw [this]; exact h
theorem c_iR2 {K : List D → DL.Env → Out} (h : Sim E EL RB EX ((fl ρ).out fun d ρ => (ofOpt (gR2 d) ρ).out K) n) : Sim E EL RB EX ((iR2 fl ρ).out K) n := by
  have : (iR2 fl ρ).out K = (fl ρ).out fun d ρ => (ofOpt (gR2 d) ρ).out K := by
    unfold iR2; rw [bind_out]; congr 1; funext ds ρ; unfold gR2; split
    · rename_i i j; by_cases q : inRg i = true ∧ inRg j = true <;> simp [q]; rfl
    · first | rfl | (split <;> first | rfl | simp_all)
  rw [this]; exact h
theorem c_iEn {K : List D → DL.Env → Out} (h : Sim E EL RB EX ((fl ρ).out fun d ρ => (ofOpt (gEn d) ρ).out K) n) : Sim E EL RB EX ((iEn fl ρ).out K) n := by
  have : (iEn fl ρ).out K = (fl ρ).out fun d ρ => (ofOpt (gEn d) ρ).out K := by
    unfold iEn; rw [bind_out]; congr 1; funext ds ρ; unfold gEn; split <;> first | rfl | (split <;> first | rfl | simp_all)
  rw [this]; exact h
def rgI (lo : Int) (n : Nat) : List Int := (List.range n).map fun (i : Nat) => lo + (i : Int)
def enI (n : Nat) : List α → List (Int × α)
  | [] => []
  | x :: xs => ((n : Int), x) :: enI (n + 1) xs
def sgS (x : Str) : List Str := x.cps.toList.map fun c => ⟨#[c]⟩
theorem rg_map (lo : Int) (n : Nat) : rangeD lo n = (rgI lo n).map D.int := by unfold rangeD rgI; rw [List.map_map]; rfl
theorem en_map {v : α → D} : ∀ (xs : List α) (n : Nat), enumD n (xs.map v) = (enI n xs).map fun p => .tup [.int p.1, v p.2]
  | [], _ => rfl
  | x :: xs, n => by rw [List.map_cons]; unfold enumD enI; rw [en_map xs, List.map_cons]
@[irreducible] def rg1 (j : Int) : Option (List Int) := if inRg j = true then some (rgI 0 j.toNat) else none
@[irreducible] def rg2 (i j : Int) : Option (List Int) := if inRg i = true ∧ inRg j = true then some (rgI i (j - i).toNat) else none
theorem h_r1 {j : Int} : gR1 [.int j] = (rg1 j).map fun xs => xs.map D.int := by
  unfold gR1 rg1; simp only; split
  · rw [rg_map]; rfl
  · rfl
theorem h_r1l {j : Int} (h : inRg j = true) : gR1 [.int j] = some ((rgI 0 j.toNat).map D.int) := by
  unfold gR1; simp only [h]; rw [rg_map]; rfl
theorem h_r2 {i j : Int} : gR2 [.int i, .int j] = (rg2 i j).map fun xs => xs.map D.int := by
  unfold gR2 rg2; simp only; split
  · rw [rg_map]; rfl
  · rfl
theorem h_enT {v : α → D} {xs : List α} : gEn [.tup (xs.map v)] = some ((enI 0 xs).map fun p => .tup [.int p.1, v p.2]) := by unfold gEn; simp only; rw [en_map]
theorem h_enL {v : α → D} {xs : List α} : gEn [.lst (xs.map v)] = some ((enI 0 xs).map fun p => .tup [.int p.1, v p.2]) := by unfold gEn; simp only; rw [en_map]
theorem h_sg {x : Str} : (some x).map signsD = some ((sgS x).map D.str) := by show some (signsD x) = _; unfold signsD sgS; rw [List.map_map]; rfl
/-! ### own lists -/
def mtR (i : Nat) (gg : List D → List D → Option (D × List D)) (es : List D) (ρ : DL.Env) : Res D := match ρ[i]? with
    | some (some (.lst ds)) => (match gg ds es with | some (d, ds') => Res.ok d (ρ.set i (some (.lst ds'))) | none => .stuck)
    | _ => .stuck
theorem c_mtO {i : Nat} {gg : List D → List D → Option (D × List D)} {d0 : List D} {K : D → DL.Env → Out} (h0 : ρ[i]? = some (some (.lst d0))) (h : Sim E EL RB EX ((fl ρ).out fun es ρ => (mtR i gg es ρ).out K) n) : Sim E EL RB EX ((eMtO i gg fl ρ).out K) n := by
  have : eMtO i gg fl ρ = (fl ρ).bind fun es ρ => mtR i gg es ρ := by
    unfold eMtO; rw [h0]; rfl
  rw [this, bind_out]
  exact h
theorem c_mt2 {i : Nat} {gg : List D → List D → Option (D × List D)} {d0 es : List D} {x : Option α} {v : α → D} {u : α → List D} {k : α → O σ L β} {K : D → DL.Env → Out} (h0 : ρ[i]? = some (some (.lst d0))) (hg : gg d0 es = x.map fun a => (v a, u a)) (h : ∀ a, Sim E EL RB EX (K (v a) (ρ.set i (some (.lst (u a))))) (k a)) : Sim E EL RB EX ((mtR i gg es ρ).out K) ((ofO x).bnd k) := by
  unfold mtR
  rw [h0]
  simp only
  rw [hg]
  cases x with
  | none => exact ⟨trivial⟩
  | some a => exact h a
def ixR (i : Nat) (y : D) (ρ : DL.Env) : Res D := match ρ[i]? with
  | some (some d) => ofOpt (itemO d y) ρ
  | _ => .stuck
theorem c_ixO {i : Nat} {d0 : D} {K : D → DL.Env → Out} (h0 : ρ[i]? = some (some d0)) (h : Sim E EL RB EX ((fe ρ).out fun y ρ => (ixR i y ρ).out K) n) : Sim E EL RB EX ((eIxO i fe ρ).out K) n := by
  have : eIxO i fe ρ = (fe ρ).bind fun y ρ => ixR i y ρ := by
    unfold eIxO; rw [h0]; rfl
  rw [this, bind_out]
  exact h
theorem c_ix2 {i : Nat} {d0 y : D} {K : D → DL.Env → Out} (h0 : ρ[i]? = some (some d0)) (h : Sim E EL RB EX ((ofOpt (itemO d0 y) ρ).out K) n) : Sim E EL RB EX ((ixR i y ρ).out K) n := by
  unfold ixR; rw [h0]; exact h
theorem c_slO {i : Nat} {ds : List D} {lo hi : Option Int} {pl ph : ER (Option Int)} {K : D → DL.Env → Out} (h0 : ρ[i]? = some (some (.lst ds))) (hl : pl ρ = .ok lo ρ) (hh : ph ρ = .ok hi ρ) (h : Sim E EL RB EX (K (.lst (cutD ds lo hi)) ρ) n) : Sim E EL RB EX ((eSlO i pl ph ρ).out K) n := by
  unfold eSlO
  rw [h0]
  simp only
  rw [hl]
  simp only [bind_ok]
  rw [hh]
  simp only [bind_ok]
  rw [h0]
  exact h
theorem c_cpO {i : Nat} {ds : List D} {K : D → DL.Env → Out} (h0 : ρ[i]? = some (some (.lst ds))) (h : Sim E EL RB EX (K (.lst ds) ρ) n) : Sim E EL RB EX ((eCpO i ρ).out K) n := by
  unfold eCpO; rw [h0]; exact h
theorem c_tpO {i : Nat} {ds : List D} {K : D → DL.Env → Out} (h0 : ρ[i]? = some (some (.lst ds))) (h : Sim E EL RB EX (K (.tup ds) ρ) n) : Sim E EL RB EX ((eTpO i ρ).out K) n := by
  unfold eTpO; rw [h0]; exact h
theorem c_move {i : Nat} {d0 : D} {K : D → DL.Env → Out} (h0 : ρ[i]? = some (some d0)) (h : Sim E EL RB EX (K d0 (ρ.set i none)) n) : Sim E EL RB EX ((eMove i ρ).out K) n := by
  unfold eMove; rw [h0]; exact h
def gListZ : List D → Option D
  | [.tup xs, .tup ys] => some (.lst (zipD xs ys))
  | _ => none
theorem c_listZ {K : D → DL.Env → Out} (h : Sim E EL RB EX ((fl ρ).out fun ds ρ => (ofOpt (gListZ ds) ρ).out K) n) : Sim E EL RB EX ((eListZ fl ρ).out K) n := by
  have : (eListZ fl ρ).out K = (fl ρ).out fun ds ρ => (ofOpt (gListZ ds) ρ).out K := by
    unfold eListZ; rw [bind_out]; congr 1; funext ds ρ; unfold gListZ; split <;> first | rfl | (split <;> first | rfl | simp_all)
  rw [this]; exact h
theorem c_disp {ks : List Key} {K : D → DL.Env → Out} (h : Sim E EL RB EX ((fl ρ).out fun ds ρ => K (.dct (mergeD [] (ks.zip ds))) ρ) n) : Sim E EL RB EX ((eDisp ks fl ρ).out K) n := by
  have : (eDisp ks fl ρ).out K = (fl ρ).out fun ds ρ => K (.dct (mergeD [] (ks.zip ds))) ρ := by
    unfold eDisp; rw [bind_out]; rfl
  rw [this]; exact h
theorem c_kw {q : List Nat} {nn m : Nat} {fk : ER (List D)} {K : List D → DL.Env → Out} (h : Sim E EL RB EX ((fl ρ).out fun ds ρ => (fk ρ).out fun es ρ => (if ds.length = nn ∧ es.length = m then Res.ok (pm q (ds ++ es)) ρ else .stuck).out K) n) : Sim E EL RB EX ((aKw q nn m fl fk ρ).out K) n := by
  have : (aKw q nn m fl fk ρ).out K = (fl ρ).out fun ds ρ => (fk ρ).out fun es ρ => (if ds.length = nn ∧ es.length = m then Res.ok (pm q (ds ++ es)) ρ else .stuck).out K := by
    unfold aKw; rw [bind_out]; congr 1; funext ds ρ; rw [bind_out]
  rw [this]; exact h
theorem c_kw2 {q : List Nat} {nn m : Nat} {ds es ws : List D} {K : List D → DL.Env → Out} (hl : ds.length = nn ∧ es.length = m) (hw : pm q (ds ++ es) = ws) (h : Sim E EL RB EX (K ws ρ) n) : Sim E EL RB EX ((if ds.length = nn ∧ es.length = m then Res.ok (pm q (ds ++ es)) ρ else .stuck : Res (List D)).out K) n := by
  rw [if_pos hl, hw]; exact h
/-! ### errors -/
theorem t_tryAs {i : Nat} {cs : List (Nat × Bool)} {fb : DL.Env → Out} {fsu : Ex → DL.Env → Out} {m : O σ L β} {h : Ex → O σ L β} (h1 : Sim E EL RB EX1 (fb ρ) m) (hx : ∀ ρ', EX1 ρ' → EX ρ') (h2 : ∀ e ρ', EX1 ρ' → Sim E EL RB EX ((fsu e (ρ'.set i none)).wipe i) (h e)) : Sim E EL RB EX (sTryAs i cs fb fsu ρ) (tryN m cs h) := by
  unfold sTryAs
  cases m with
  | nx s => obtain ⟨ρ1, e1, q⟩ := h1.h; rw [e1]; exact ⟨⟨_, rfl, q⟩⟩
  | bk s => obtain ⟨ρ1, e1, q⟩ := h1.h; rw [e1]; exact ⟨⟨_, rfl, q⟩⟩
  | ct s => obtain ⟨ρ1, e1, q⟩ := h1.h; rw [e1]; exact ⟨⟨_, rfl, q⟩⟩
  | rt s => obtain ⟨d, ρ1, e1, q⟩ := h1.h; rw [e1]; exact ⟨⟨_, _, rfl, q⟩⟩
  | stuck => exact ⟨trivial⟩
  | exc e =>
    obtain ⟨ρ1, e1, q⟩ := h1.h
    rw [e1]
    simp only [tryN_exc]
    cases cs.lookup e.c with
    | none => exact ⟨trivial⟩
    | some b =>
      cases b with
      | false => exact ⟨⟨_, rfl, hx _ q⟩⟩
      | true =>
        simp only
        by_cases hq : (e.fs.map (·.2)).all scalD = true
        · simp only [hq, if_true]; exact h2 e ρ1 q
        · simp only [hq]; exact ⟨trivial⟩
theorem t_try {cs : List (Nat × Bool)} {fb fsu : DL.Env → Out} {m : O σ L β} {h : Ex → O σ L β} (h1 : Sim E EL RB EX1 (fb ρ) m) (hx : ∀ ρ', EX1 ρ' → EX ρ') (h2 : ∀ e ρ', EX1 ρ' → Sim E EL RB EX ((fsu ρ').nox) (h e)) : Sim E EL RB EX (sTry cs fb fsu ρ) (tryN m cs h) := by
  unfold sTry
  cases m with
  | nx s => obtain ⟨ρ1, e1, q⟩ := h1.h; rw [e1]; exact ⟨⟨_, rfl, q⟩⟩
  | bk s => obtain ⟨ρ1, e1, q⟩ := h1.h; rw [e1]; exact ⟨⟨_, rfl, q⟩⟩
  | ct s => obtain ⟨ρ1, e1, q⟩ := h1.h; rw [e1]; exact ⟨⟨_, rfl, q⟩⟩
  | rt s => obtain ⟨d, ρ1, e1, q⟩ := h1.h; rw [e1]; exact ⟨⟨_, _, rfl, q⟩⟩
  | stuck => exact ⟨trivial⟩
  | exc e =>
    obtain ⟨ρ1, e1, q⟩ := h1.h
    rw [e1]
    simp only [tryN_exc]
    cases cs.lookup e.c with
    | none => exact ⟨trivial⟩
    | some b =>
      cases b with
      | false => exact ⟨⟨_, rfl, hx _ q⟩⟩
      | true =>
        simp only
        by_cases hq : (e.fs.map (·.2)).all scalD = true
        · simp only [hq, if_true]; exact h2 e ρ1 q
        · simp only [hq]; exact ⟨trivial⟩
theorem t_wipe {i : Nat} {r : Out} {m : O σ L β} {EX0 : DL.Env → Prop} (h : Sim (fun s ρ => E s (ρ.set i none)) (fun s ρ => EL s (ρ.set i none)) RB EX0 r m) : Sim E EL RB EX (r.wipe i) (noXO m) := by
  cases m with
  | nx s => obtain ⟨ρ1, e1, q⟩ := h.h; rw [e1]; exact ⟨⟨_, rfl, q⟩⟩
  | bk s => obtain ⟨ρ1, e1, q⟩ := h.h; rw [e1]; exact ⟨⟨_, rfl, q⟩⟩
  | ct s => obtain ⟨ρ1, e1, q⟩ := h.h; rw [e1]; exact ⟨⟨_, rfl, q⟩⟩
  | rt s => obtain ⟨d, ρ1, e1, q⟩ := h.h; rw [e1]; exact ⟨⟨_, _, rfl, q⟩⟩
  | stuck => exact ⟨trivial⟩
  | exc e => exact ⟨trivial⟩
theorem t_nox {r : Out} {m : O σ L β} {EX0 : DL.Env → Prop} (h : Sim E EL RB EX0 r m) : Sim E EL RB EX (r.nox) (noXO m) := by
  cases m with
  | nx s => obtain ⟨ρ1, e1, q⟩ := h.h; rw [e1]; exact ⟨⟨_, rfl, q⟩⟩
  | bk s => obtain ⟨ρ1, e1, q⟩ := h.h; rw [e1]; exact ⟨⟨_, rfl, q⟩⟩
  | ct s => obtain ⟨ρ1, e1, q⟩ := h.h; rw [e1]; exact ⟨⟨_, rfl, q⟩⟩
  | rt s => obtain ⟨d, ρ1, e1, q⟩ := h.h; rw [e1]; exact ⟨⟨_, _, rfl, q⟩⟩
  | stuck => exact ⟨trivial⟩
  | exc e => exact ⟨trivial⟩
def whyN (e : Ex) (c : Nat) (f : Str) : Option D := if e.c = c then e.fs.lookup f else none
theorem c_why {ex : Ex} {c : Nat} {fd : Str} {k : D → O σ L β} {K : D → DL.Env → Out} (h : ∀ d, Sim E EL RB EX (K d ρ) (k d)) : Sim E EL RB EX ((eWhy ex c fd ρ).out K) ((ofO (whyN ex c fd)).bnd k) := by
  unfold eWhy whyN
  by_cases hc : ex.c = c
  · simp only [hc, if_true]
    cases ex.fs.lookup fd with
    | none => exact ⟨trivial⟩
    | some d => exact h d
  · simp only [hc]; exact ⟨trivial⟩
theorem c_isx {ex : Ex} {cs : List (Nat × Bool)} {k : Bool → O σ L β} {K : D → DL.Env → Out} (h : ∀ b, Sim E EL RB EX (K (.bl b) ρ) (k b)) : Sim E EL RB EX ((eIsX ex cs ρ).out K) ((ofO (cs.lookup ex.c)).bnd k) := by
  unfold eIsX
  cases cs.lookup ex.c with
  | none => exact ⟨trivial⟩
  | some d => exact h d
/-! ### comprehensions -/
def compK (ft : ER Bool) (fe : ER D) (ρ1 : DL.Env) : Out := (ft ρ1).out fun b ρ2 => if b = true then (fe ρ2).out fun y ρ3 => .rt y ρ3 else .nx ρ2
theorem comp_sim {v : α → D} {w : γ → D} {gf : D → DL.Env → Option DL.Env} {vs : List Nat} {F : α → τ → O τ Empty (γ × τ)} (hb : ∀ x s ρ, E1 s ρ → Sim (σ := τ) (L := Empty) (β := γ × τ) (fun s ρ => E1 s (wipeD ρ vs)) (fun s _ => s.elim) (fun p d ρ => d = w p.1 ∧ E1 p.2 (wipeD ρ vs)) (fun _ => True) (asgK gf (compK ft fe) (v x) ρ) (F x s)) :
    ∀ (xs : List α) (s : τ) (ρ : DL.Env), E1 s ρ → (match nLc F xs s with
      | .rt r => ∃ ρ', compF gf ft fe vs (xs.map v) ρ = .ok (r.1.map w) ρ' ∧ E1 r.2 ρ'
      | .stuck => True
      | .exc _ => False
      | .nx s => s.elim | .bk s => s.elim | .ct s => s.elim)
  | [], s, ρ, h => ⟨ρ, rfl, h⟩
  | x :: xs, s, ρ, h => by
    have h2 := hb x s ρ h
    unfold nLc
    unfold asgK at h2
    cases h1 : gf (v x) ρ with
    | none =>
      rw [h1] at h2
      cases e : F x s with
      | bk s => exact s.elim
      | ct s => exact s.elim
      | stuck => trivial
      | exc e => trivial
      | nx s' => rw [e] at h2; obtain ⟨ρ2, e2, h3⟩ := h2.h; cases e2
      | rt b => rw [e] at h2; obtain ⟨d, ρ2, e2, h3⟩ := h2.h; cases e2
    | some ρ1 =>
    rw [h1] at h2
    simp only at h2
    unfold compK at h2
    have e0 : compF gf ft fe vs ((x :: xs).map v) ρ = (ft ρ1).bind fun b ρ2 => match b with
        | true => (fe ρ2).bind fun y ρ3 => (compF gf ft fe vs (xs.map v) (wipeD ρ3 vs)).bind fun ys ρ4 => .ok (y :: ys) ρ4
        | false => compF gf ft fe vs (xs.map v) (wipeD ρ2 vs) := by
      rw [List.map_cons]; unfold compF; rw [h1]; simp only; cases xs <;> rfl
    rw [e0]
    cases e : F x s with
    | bk s => exact s.elim
    | ct s => exact s.elim
    | stuck => trivial
    | exc e => trivial
    | nx s' =>
      rw [e] at h2
      obtain ⟨ρ2, e2, h3⟩ := h2.h
      cases et : ft ρ1 with
      | stuck => rw [et] at e2; cases e2
      | exc x ρ => rw [et] at e2; cases e2
      | ok b ρ3 =>
        rw [et] at e2
        cases b with
        | true => simp only [out_ok, if_true] at e2; cases e4 : fe ρ3 <;> rw [e4] at e2 <;> cases e2
        | false => cases e2; exact comp_sim hb xs s' _ h3
    | rt p =>
      rw [e] at h2
      obtain ⟨d, ρ2, e2, h3, h4⟩ := h2.h
      cases et : ft ρ1 with
      | stuck => rw [et] at e2; cases e2
      | exc x ρ => rw [et] at e2; cases e2
      | ok b ρ3 =>
        rw [et] at e2
        cases b with
        | false => cases e2
        | true =>
          simp only [out_ok, if_true] at e2
          cases e4 : fe ρ3 with
          | stuck => rw [e4] at e2; cases e2
          | exc x ρ => rw [e4] at e2; cases e2
          | ok y ρ4 =>
            rw [e4] at e2
            cases e2
            have ih := comp_sim hb xs p.2 _ h4
            simp only [bind_ok]
            rw [e4]
            simp only [bind_ok]
            cases e5 : nLc F xs p.2 with
            | nx s => exact s.elim
            | bk s => exact s.elim
            | ct s => exact s.elim
            | stuck => trivial
            | exc e => rw [e5] at ih; exact ih.elim
            | rt r =>
              rw [e5] at ih
              obtain ⟨ρ5, h5, h6⟩ := ih
              exact ⟨ρ5, by rw [h5, h3]; rfl, h6⟩
@[irreducible] def sized (xs : List α) : Option (List α) := if xs.length ≤ sizeLine then some xs else none
def lcR (r : Res (List D)) : Res D := match r with
  | .ok ys ρ' => if ys.length ≤ sizeLine then Res.ok (.lst ys) ρ' else .stuck
  | _ => .stuck
theorem c_yes {w : γ → D} {vs : List Nat} {b : γ × τ} (h1 : d = w b.1) (h2 : E1 b.2 (wipeD ρ vs)) : Sim (σ := τ) (L := Empty) (β := γ × τ) (fun s ρ => E1 s (wipeD ρ vs)) (fun s _ => s.elim) (fun p d ρ => d = w p.1 ∧ E1 p.2 (wipeD ρ vs)) (fun _ => True) (.rt d ρ) (.rt b) := ⟨_, _, rfl, h1, h2⟩
theorem c_nay {w : γ → D} {vs : List Nat} {s : τ} (h2 : E1 s (wipeD ρ vs)) : Sim (σ := τ) (L := Empty) (β := γ × τ) (fun s ρ => E1 s (wipeD ρ vs)) (fun s _ => s.elim) (fun p d ρ => d = w p.1 ∧ E1 p.2 (wipeD ρ vs)) (fun _ => True) (.nx ρ) (.nx s) := ⟨_, rfl, h2⟩
theorem c_lcK {fi : ER (List D)} {gf : D → DL.Env → Option DL.Env} {vs : List Nat} {K : D → DL.Env → Out} (h : Sim E EL RB EX ((fi ρ).out fun es ρ => (lcR (compF gf ft fe vs es (wipeD ρ vs))).out K) n) : Sim E EL RB EX ((eLc fi gf ft fe vs ρ).out K) n := by
  unfold eLc; rw [bind_out]; exact h
def nLs (F : α → τ → O τ Empty (γ × τ)) (xs : List α) (s : τ) : Fr (List γ × τ) := (nLc F xs s).bnd fun r => (ofO (sized r.1)).bnd fun _ => .rt r
theorem c_lc {v : α → D} {w : γ → D} {gf : D → DL.Env → Option DL.Env} {vs : List Nat} {F : α → τ → O τ Empty (γ × τ)} {xs : List α} {s : τ} {k : List γ × τ → O σ L β} {K : D → DL.Env → Out} (h0 : E1 s (wipeD ρ vs)) (hb : ∀ x s ρ, E1 s ρ → Sim (σ := τ) (L := Empty) (β := γ × τ) (fun s ρ => E1 s (wipeD ρ vs)) (fun s _ => s.elim) (fun p d ρ => d = w p.1 ∧ E1 p.2 (wipeD ρ vs)) (fun _ => True) (asgK gf (compK ft fe) (v x) ρ) (F x s))
    (hk : ∀ r ρ', E1 r.2 ρ' → Sim E EL RB EX (K (.lst (r.1.map w)) ρ') (k r)) : Sim E EL RB EX ((lcR (compF gf ft fe vs (xs.map v) (wipeD ρ vs))).out K) ((nLs F xs s).bnd k) := by
  have h := comp_sim hb xs s _ h0
  unfold nLs
  cases e : nLc F xs s with
  | nx s => exact s.elim
  | bk s => exact s.elim
  | ct s => exact s.elim
  | stuck => exact ⟨trivial⟩
  | exc x => rw [e] at h; exact h.elim
  | rt r =>
    rw [e] at h
    obtain ⟨ρ', h1, h2⟩ := h
    rw [h1]
    unfold lcR
    simp only [bnd_rt]
    unfold sized
    rw [List.length_map]
    split
    · exact hk _ _ h2
    · exact ⟨trivial⟩
theorem c_lcP {v : α → D} {w : γ → D} {gf : D → DL.Env → Option DL.Env} {vs : List Nat} {t : α → Bool} {F : α → γ} {xs : List α} {k : List γ → O σ L β} {K : D → DL.Env → Out} (hb : ∀ x, ∃ ρ1, gf (v x) (wipeD ρ vs) = some ρ1 ∧ ft ρ1 = .ok (t x) ρ1 ∧ fe ρ1 = .ok (w (F x)) ρ1 ∧ wipeD ρ1 vs = wipeD ρ vs)
    (hk : ∀ ys, Sim E EL RB EX (K (.lst (ys.map w)) (wipeD ρ vs)) (k ys)) : Sim E EL RB EX ((lcR (compF gf ft fe vs (xs.map v) (wipeD ρ vs))).out K) ((ofO (sized ((xs.filter t).map F))).bnd k) := by
  have h : ∀ xs : List α, compF gf ft fe vs (xs.map v) (wipeD ρ vs) = .ok (((xs.filter t).map F).map w) (wipeD ρ vs) := by
    intro xs
    induction xs with
    | nil => rfl
    | cons x xs ih =>
      obtain ⟨ρ1, h1, h2, h3, h4⟩ := hb x
      rw [List.map_cons]
      unfold compF
      rw [h1]
      simp only [h2, bind_ok]
      cases e : t x with
      | false => rw [List.filter_cons_of_neg (by simp [e])]; simp only [h4]; exact ih
      | true => rw [List.filter_cons_of_pos e]; simp only [h3, bind_ok, h4, ih]; rfl
  rw [h xs]
  unfold sized lcR
  simp only [List.length_map]
  split
  · exact hk _
  · exact ⟨trivial⟩
theorem c_lcM {v : α → D} {w : γ → D} {gf : D → DL.Env → Option DL.Env} {vs : List Nat} {F : α → γ} {xs : List α} {k : List γ → O σ L β} {K : D → DL.Env → Out} (hb : ∀ x, ∃ ρ1, gf (v x) (wipeD ρ vs) = some ρ1 ∧ ft ρ1 = .ok true ρ1 ∧ fe ρ1 = .ok (w (F x)) ρ1 ∧ wipeD ρ1 vs = wipeD ρ vs)
    (hk : ∀ ys, Sim E EL RB EX (K (.lst (ys.map w)) (wipeD ρ vs)) (k ys)) : Sim E EL RB EX ((lcR (compF gf ft fe vs (xs.map v) (wipeD ρ vs))).out K) ((ofO (sized (xs.map F))).bnd k) := by
  have h := c_lcP (EX := EX) (t := fun _ => true) (xs := xs) hb hk
  rw [show (xs.filter fun _ => true) = xs from List.filter_eq_self.mpr (fun _ _ => rfl)] at h
  exact h
end
end DL
/-! operators by their operands' kinds -/
namespace DL
open PySem L2
section
variable {α β γ : Type} {v : α → D} {w : β → D} {ρ : DL.Env}
/-! ### what stands alone -/
theorem e_op {fa fb : ER D} {gg : D → D → Option D} {d e o : D} (ha : fa ρ = .ok d ρ) (hb : fb ρ = .ok e ρ) (hg : gg d e = some o) : eOp gg fa fb ρ = .ok o ρ := by unfold eOp; rw [ha, bind_ok, hb, bind_ok, hg]; rfl
theorem e_un {fa : ER D} {gg : D → Option D} {d o : D} (ha : fa ρ = .ok d ρ) (hg : gg d = some o) : eUn gg fa ρ = .ok o ρ := by unfold eUn; rw [ha, bind_ok, hg]; rfl
theorem e_cb {fa : ER (List D)} {gg : List D → Option D} {ds : List D} {o : D} (ha : fa ρ = .ok ds ρ) (hg : gg ds = some o) : eCB gg fa ρ = .ok o ρ := by unfold eCB; rw [ha, bind_ok, hg]; rfl
theorem e_nil : aNil ρ = .ok [] ρ := rfl
theorem e_cons {fa : ER D} {fl : ER (List D)} {d : D} {ds : List D} (ha : fa ρ = .ok d ρ) (hb : fl ρ = .ok ds ρ) : aCons fa fl ρ = .ok (d :: ds) ρ := by unfold aCons; rw [ha, bind_ok, hb]; rfl
theorem e_tup {fl : ER (List D)} {ds : List D} (ha : fl ρ = .ok ds ρ) (hs : ds.length ≤ 16777216) : eTup fl ρ = .ok (.tup ds) ρ := by unfold eTup; rw [ha, bind_ok, if_pos (le_size hs)]
theorem e_lst {fl : ER (List D)} {ds : List D} (ha : fl ρ = .ok ds ρ) (hs : ds.length ≤ 16777216) : eLst fl ρ = .ok (.lst ds) ρ := by unfold eLst; rw [ha, bind_ok, if_pos (le_size hs)]
theorem e_if {ft : ER Bool} {fa fb : ER D} {b : Bool} {x y : α} (h : ft ρ = .ok b ρ) (ha : fa ρ = .ok (v x) ρ) (hb : fb ρ = .ok (v y) ρ) : eIf ft fa fb ρ = .ok (v (if b = true then x else y)) ρ := by
  unfold eIf; rw [h, bind_ok]; cases b
  · exact hb
  · exact ha
theorem e_tval {fe : ER D} {b : Bool} (h : fe ρ = .ok (.bl b) ρ) : tVal fe ρ = .ok b ρ := by unfold tVal; rw [h]; rfl
theorem e_band {ft fu : ER Bool} {b c : Bool} (h : ft ρ = .ok b ρ) (h2 : fu ρ = .ok c ρ) : bAnd ft fu ρ = .ok (b && c) ρ := by
  unfold bAnd; rw [h, bind_ok]; cases b
  · rfl
  · exact h2
theorem e_bor {ft fu : ER Bool} {b c : Bool} (h : ft ρ = .ok b ρ) (h2 : fu ρ = .ok c ρ) : bOr ft fu ρ = .ok (b || c) ρ := by
  unfold bOr; rw [h, bind_ok]; cases b
  · exact h2
  · rfl
theorem e_bnot {ft : ER Bool} {b : Bool} (h : ft ρ = .ok b ρ) : bNot ft ρ = .ok (!b) ρ := by unfold bNot; rw [h]; rfl
theorem e_and {fa fb : ER D} {b c : Bool} (h : fa ρ = .ok (.bl b) ρ) (h2 : fb ρ = .ok (.bl c) ρ) : eAndV fa fb ρ = .ok (.bl (b && c)) ρ := by
  unfold eAndV; rw [e_tval h, bind_ok]; cases b
  · rfl
  · exact h2
theorem e_or {fa fb : ER D} {b c : Bool} (h : fa ρ = .ok (.bl b) ρ) (h2 : fb ρ = .ok (.bl c) ρ) : eOrV fa fb ρ = .ok (.bl (b || c)) ρ := by
  unfold eOrV; rw [e_tval h, bind_ok]; cases b
  · exact h2
  · rfl
theorem e_not {fa : ER D} {b : Bool} (h : fa ρ = .ok (.bl b) ρ) : eNotV fa ρ = .ok (.bl (!b)) ρ := by unfold eNotV; rw [e_tval h]; rfl
theorem e_isi {fa : ER D} {p : D → Bool} {d : D} (h : fa ρ = .ok d ρ) : eIsi p fa ρ = .ok (.bl (p d)) ρ := by unfold eIsi; rw [h]; rfl
theorem e_chain {gg gh : D → D → Option D} {fa fb fc : ER D} {d e o : D} {b c : Bool} (ha : fa ρ = .ok d ρ) (hb : fb ρ = .ok e ρ) (hc : fc ρ = .ok o ρ) (h1 : gg d e = some (.bl b)) (h2 : gh e o = some (.bl c)) : eChain gg gh fa fb fc ρ = .ok (.bl (b && c)) ρ := by
  unfold eChain; rw [ha, bind_ok, hb, bind_ok, h1]; cases b
  · rfl
  · simp only; rw [hc, bind_ok, h2]; rfl
theorem e_view {fe : ER D} {d : D} (h : fe ρ = .ok d ρ) (hs : scalD d = true) : eView fe ρ = .ok d ρ := by unfold eView; rw [h]; simp only [hs, if_true]
theorem e_viewT {ft : ER Bool} {d : Bool} (h : ft ρ = .ok d ρ) : tView ft ρ = .ok d ρ := by unfold tView; rw [h]
theorem e_sl {fa : ER D} {pl ph : ER (Option Int)} {gg : D → Option Int → Option Int → Option D} {d o : D} {lo hi : Option Int} (ha : fa ρ = .ok d ρ) (hl : pl ρ = .ok lo ρ) (hh : ph ρ = .ok hi ρ) (hg : gg d lo hi = some o) : eSl gg fa pl ph ρ = .ok o ρ := by
  unfold eSl; rw [ha, bind_ok, hl, bind_ok, hh, bind_ok, hg]; rfl
theorem e_pso {fa : ER D} {i : Int} (h : fa ρ = .ok (.int i) ρ) : pSo fa ρ = .ok (some i) ρ := by unfold pSo; rw [h]; rfl
theorem e_listZ {fl : ER (List D)} {ds : List D} {o : D} (ha : fl ρ = .ok ds ρ) (hg : gListZ ds = some o) : eListZ fl ρ = .ok o ρ := by
  unfold gListZ at hg
  split at hg
  · cases hg; unfold eListZ; rw [ha]; rfl
  · cases hg
theorem e_disp {fl : ER (List D)} {ds : List D} {ks : List Key} (ha : fl ρ = .ok ds ρ) : eDisp ks fl ρ = .ok (.dct (mergeD [] (ks.zip ds))) ρ := by unfold eDisp; rw [ha]; rfl
theorem e_kw {q : List Nat} {nn m : Nat} {fl fk : ER (List D)} {ds es ws : List D} (ha : fl ρ = .ok ds ρ) (hb : fk ρ = .ok es ρ) (hl : ds.length = nn ∧ es.length = m) (hw : pm q (ds ++ es) = ws) : aKw q nn m fl fk ρ = .ok ws ρ := by
  unfold aKw; rw [ha, bind_ok, hb, bind_ok, if_pos hl, hw]
theorem e_iA {fe : ER D} {d : D} {ds : List D} (h : fe ρ = .ok d ρ) (hg : asLs d = some ds) : iA fe ρ = .ok ds ρ := by
  unfold iA; rw [h]; cases d <;> first | (cases hg; rfl) | cases hg
/-! ### lists -/
theorem h_lenT {xs : List α} : gLen [.tup (xs.map v)] = some (.int (xs.length : Int)) := by simp
theorem h_lenL {xs : List α} : gLen [.lst (xs.map v)] = some (.int (xs.length : Int)) := by simp
@[irreducible] def cat (xs ys : List α) : Option (List α) := if xs.length + ys.length ≤ sizeLine then some (xs ++ ys) else none
theorem h_catT {xs ys : List α} : gAdd (.tup (xs.map v)) (.tup (ys.map v)) = (cat xs ys).map fun zs => .tup (zs.map v) := by
  unfold cat; simp only [gAdd_t, List.length_map]; split
  · simp
  · rfl
theorem h_catL {xs ys : List α} : gAdd (.lst (xs.map v)) (.lst (ys.map v)) = (cat xs ys).map fun zs => .lst (zs.map v) := by
  unfold cat; simp only [gAdd_l, List.length_map]; split
  · simp
  · rfl
theorem h_catL2 {xs ys : List α} : gCat (.lst (xs.map v)) (.lst (ys.map v)) = (cat xs ys).map fun zs => .lst (zs.map v) := by
  unfold cat; simp only [gCat_l, List.length_map]; split
  · simp
  · rfl
theorem at_map {xs : List α} {i : Int} : atI (xs.map v) i = (atI xs i).map v := by
  unfold atI
  rw [List.length_map]
  cases ixN xs.length i with
  | none => rfl
  | some k => simp
theorem h_ixT {xs : List α} {i : Int} : gIx (.tup (xs.map v)) (.int i) = (atI xs i).map v := at_map
theorem h_ixL {xs : List α} {i : Int} : gIx (.lst (xs.map v)) (.int i) = (atI xs i).map v := at_map
theorem h_ixX {xs : List Int} {i : Int} : gIx (.scr xs) (.int i) = (atI xs i).map .int := rfl
theorem h_itL {xs : List α} {i : Int} : itemO (.lst (xs.map v)) (.int i) = (atI xs i).map v := at_map
theorem cut_map {xs : List α} {lo hi : Option Int} : cutD (xs.map v) lo hi = (cutD xs lo hi).map v := by
  unfold cutD; simp [List.map_take, List.map_drop]
theorem h_slT {xs : List α} {lo hi : Option Int} : gSl (.tup (xs.map v)) lo hi = some (.tup ((cutD xs lo hi).map v)) := by show some (D.tup (cutD (xs.map v) lo hi)) = _; rw [cut_map]
theorem h_slL {xs : List α} {lo hi : Option Int} : gSl (.lst (xs.map v)) lo hi = some (.lst ((cutD xs lo hi).map v)) := by show some (D.lst (cutD (xs.map v) lo hi)) = _; rw [cut_map]
theorem h_slX {xs : List Int} {lo hi : Option Int} : gSl (.scr xs) lo hi = some (.lst ((cutD xs lo hi).map .int)) := rfl
@[irreducible] def setAt (xs : List α) (i : Int) (a : α) : Option (List α) := (ixN xs.length i).map fun j => xs.set j a
theorem h_stL {xs : List α} {i : Int} {a : α} : storeO (.lst (xs.map v)) (.int i) (v a) = (setAt xs i a).map fun ys => .lst (ys.map v) := by
  simp only [storeO_l, List.length_map]; unfold setAt
  cases ixN xs.length i with
  | none => rfl
  | some j => simp [List.map_set]
@[irreducible] def push (xs : List α) (a : α) : Option (List α) := if xs.length < sizeLine then some (xs ++ [a]) else none
theorem h_app {xs : List α} {a : α} : gAppend (xs.map v) [v a] = (push xs a).map fun ys => (.non, ys.map v) := by
  rw [gAppend_ap, List.length_map]; unfold push; split
  · simp
  · rfl
def popL (xs : List α) : Option (α × List α) := (xs[xs.length - 1]?).map fun a => (a, xs.dropLast)
theorem h_pop {xs : List α} : gPop (xs.map v) [] = (popL xs).map fun p => (v p.1, p.2.map v) := by
  unfold gPop popL; simp only [List.length_map, List.getElem?_map]
  cases xs[xs.length - 1]? with
  | none => rfl
  | some a => simp [List.map_dropLast]
@[irreducible] def popA (xs : List α) (i : Int) : Option (α × List α) := match ixN xs.length i with
  | some k => if xs.length ≤ sizeLine then (xs[k]?).map fun a => (a, xs.eraseIdx k) else none
  | none => none
theorem h_popA {xs : List α} {i : Int} : gPopAt (xs.map v) [.int i] = (popA xs i).map fun p => (v p.1, p.2.map v) := by
  unfold gPopAt popA; simp only [List.length_map, List.getElem?_map]
  cases ixN xs.length i with
  | none => rfl
  | some k =>
    simp only
    split
    · cases xs[k]? with
      | none => rfl
      | some a =>
        simp only [Option.map_some]
        congr 2
        rw [List.eraseIdx_eq_take_drop_succ, List.eraseIdx_eq_take_drop_succ]
        simp [List.map_take, List.map_drop]
    · rfl
theorem h_ext {xs ys : List α} : gExtend (xs.map v) [.lst (ys.map v)] = (cat xs ys).map fun zs => (.non, zs.map v) := by
  unfold cat; simp only [gExtend_ap, List.length_map]; split
  · simp
  · rfl
theorem ints_map : ∀ xs : List Int, intsD (xs.map D.int) = some xs
  | [] => rfl
  | x :: xs => by rw [List.map_cons]; unfold intsD; rw [ints_map xs]; rfl
theorem h_sumL {xs : List Int} : gSum [.lst (xs.map .int)] = some (.int xs.sum) := by unfold gSum listD; simp [ints_map]
theorem h_sumX {xs : List Int} : gSum [.scr xs] = some (.int xs.sum) := rfl
def maxO (xs : List Int) : Option Int := match xs with
  | [] => none
  | n :: ns => some (ns.foldl max n)
def minO (xs : List Int) : Option Int := match xs with
  | [] => none
  | n :: ns => some (ns.foldl min n)
theorem maxI_fold : ∀ (ns : List Int) (n : Int), maxI n ns = ns.foldl max n
  | [], _ => rfl
  | m :: ns, n => by
    unfold maxI; rw [List.foldl_cons, maxI_fold ns]
    congr 1; rw [Int.max_def]; split <;> split <;> omega
theorem minI_fold : ∀ (ns : List Int) (n : Int), minI n ns = ns.foldl min n
  | [], _ => rfl
  | m :: ns, n => by
    unfold minI; rw [List.foldl_cons, minI_fold ns]
    congr 1; rw [Int.min_def]; split <;> split <;> omega
theorem h_maxT {xs : List Int} : gMaxA [.tup (xs.map .int)] = (maxO xs).map .int := by
  unfold gMaxA maxO; simp only [ints_map]; cases xs <;> rfl
theorem h_minT {xs : List Int} : gMinA [.tup (xs.map .int)] = (minO xs).map .int := by
  unfold gMinA minO; simp only [ints_map]; cases xs <;> rfl
theorem h_maxL {xs : List Int} : gMaxA [.lst (xs.map .int)] = (maxO xs).map .int := by
  unfold gMaxA maxO gMax listD; simp only [ints_map]; cases xs
  · rfl
  · simp only [maxI_fold]; rfl
theorem h_minL {xs : List Int} : gMinA [.lst (xs.map .int)] = (minO xs).map .int := by
  unfold gMinA minO gMin listD; simp only [ints_map]; cases xs
  · rfl
  · simp only [minI_fold]; rfl
theorem flats_int : ∀ xs : List Int, (xs.map D.int).all flatD = true
  | [] => rfl
  | x :: xs => by rw [List.map_cons, List.all_cons, flats_int xs]; rfl
theorem flats_str : ∀ xs : List Str, (xs.map D.str).all flatD = true
  | [] => rfl
  | x :: xs => by rw [List.map_cons, List.all_cons, flats_str xs]; rfl
theorem fl_int (i : Int) : ∀ xs : List Int, ((xs.map D.int).any fun y => flEq y (.int i)) = decide (i ∈ xs)
  | [] => rfl
  | x :: xs => by
    rw [List.map_cons, List.any_cons, fl_int i xs]
    show ((x == i) || _) = _
    rw [Bool.eq_iff_iff]
    simp only [Bool.or_eq_true, beq_iff_eq, decide_eq_true_eq, List.mem_cons]
    constructor
    · rintro (h | h)
      · exact .inl h.symm
      · exact .inr h
    · rintro (h | h)
      · exact .inl h.symm
      · exact .inr h
theorem fl_str (i : Str) : ∀ xs : List Str, ((xs.map D.str).any fun y => flEq y (.str i)) = decide (i ∈ xs)
  | [] => rfl
  | x :: xs => by
    rw [List.map_cons, List.any_cons, fl_str i xs]
    show ((x == i) || _) = _
    rw [Bool.eq_iff_iff]
    simp only [Bool.or_eq_true, beq_iff_eq, decide_eq_true_eq, List.mem_cons]
    constructor
    · rintro (h | h)
      · exact .inl h.symm
      · exact .inr h
    · rintro (h | h)
      · exact .inl h.symm
      · exact .inr h
theorem h_inTI {i : Int} {xs : List Int} : gIn (.int i) (.tup (xs.map .int)) = some (.bl (decide (i ∈ xs))) := by
  unfold gIn inD; simp only; rw [if_pos ⟨rfl, flats_int xs⟩, fl_int]; rfl
theorem h_inLI {i : Int} {xs : List Int} : gIn (.int i) (.lst (xs.map .int)) = some (.bl (decide (i ∈ xs))) := by
  unfold gIn inD; simp only; rw [if_pos ⟨rfl, flats_int xs⟩, fl_int]; rfl
theorem h_niTI {i : Int} {xs : List Int} : gNi (.int i) (.tup (xs.map .int)) = some (.bl (!decide (i ∈ xs))) := by
  unfold gNi inD; simp only; rw [if_pos ⟨rfl, flats_int xs⟩, fl_int]; rfl
theorem h_niLI {i : Int} {xs : List Int} : gNi (.int i) (.lst (xs.map .int)) = some (.bl (!decide (i ∈ xs))) := by
  unfold gNi inD; simp only; rw [if_pos ⟨rfl, flats_int xs⟩, fl_int]; rfl
theorem h_inTS {i : Str} {xs : List Str} : gIn (.str i) (.tup (xs.map .str)) = some (.bl (decide (i ∈ xs))) := by
  unfold gIn inD; simp only; rw [if_pos ⟨rfl, flats_str xs⟩, fl_str]; rfl
theorem h_inLS {i : Str} {xs : List Str} : gIn (.str i) (.lst (xs.map .str)) = some (.bl (decide (i ∈ xs))) := by
  unfold gIn inD; simp only; rw [if_pos ⟨rfl, flats_str xs⟩, fl_str]; rfl
theorem h_niTS {i : Str} {xs : List Str} : gNi (.str i) (.tup (xs.map .str)) = some (.bl (!decide (i ∈ xs))) := by
  unfold gNi inD; simp only; rw [if_pos ⟨rfl, flats_str xs⟩, fl_str]; rfl
theorem h_niLS {i : Str} {xs : List Str} : gNi (.str i) (.lst (xs.map .str)) = some (.bl (!decide (i ∈ xs))) := by
  unfold gNi inD; simp only; rw [if_pos ⟨rfl, flats_str xs⟩, fl_str]; rfl
theorem zip_map : ∀ (xs : List α) (ys : List β), zipD (xs.map v) (ys.map w) = (xs.zip ys).map fun p => .tup [v p.1, w p.2]
  | [], ys => by cases ys <;> rfl
  | x :: xs, [] => rfl
  | x :: xs, y :: ys => by
    rw [List.map_cons, List.map_cons, List.zip_cons_cons, List.map_cons, ← zip_map xs ys]; rfl
theorem h_zip {xs : List α} {ys : List β} : gListZ [.tup (xs.map v), .tup (ys.map w)] = some (.lst ((xs.zip ys).map fun p => .tup [v p.1, w p.2])) := by
  unfold gListZ; simp only; rw [zip_map]
/-! ### numbers, texts -/
@[irreducible] def mulI (i j : Int) : Option Int := if CMul i j then some (i * j) else none
theorem h_mul {i j : Int} : gMul (.int i) (.int j) = (mulI i j).map .int := by
  unfold mulI; rw [gMul_i]; split <;> rfl
theorem h_mulR {i j : Int} (h : CMul i j) : gMul (.int i) (.int j) = some (.int (i * j)) := by rw [gMul_i, if_pos h]
@[irreducible] def icI (c : Int → Int → Prop) [∀ i j, Decidable (c i j)] (f : Int → Int → Int) (i j : Int) : Option Int := if c i j then some (f i j) else none
theorem h_ic {c : Int → Int → Prop} [∀ i j, Decidable (c i j)] {f : Int → Int → Int} {i j : Int} : gIC c f (.int i) (.int j) = (icI c f i j).map .int := by
  unfold icI; rw [gIC_ap]; split <;> rfl
theorem h_icR {c : Int → Int → Prop} [∀ i j, Decidable (c i j)] {f : Int → Int → Int} {i j : Int} (h : c i j) : gIC c f (.int i) (.int j) = some (.int (f i j)) := by rw [gIC_ap, if_pos h]
@[irreducible] def catS (x y : Str) : Option Str := if x.length + y.length ≤ sizeLine then some (x ++ y) else none
theorem h_catS {x y : Str} : gAdd (.str x) (.str y) = (catS x y).map .str := by
  unfold catS; rw [gAdd_s]; split <;> rfl
theorem h_icatS {x y : Str} : gIAdd (.str x) (.str y) = (catS x y).map .str := by
  unfold catS; rw [gIAdd_s]; split <;> rfl
@[irreducible] def lenS (x : Str) : Option Int := if x.length ≤ sizeLine then some (x.length : Int) else none
theorem h_lenS {x : Str} : gLen [.str x] = (lenS x).map .int := by
  unfold lenS; rw [gLen_s]; split <;> rfl
@[irreducible] def strI (i : Int) : Option Str := if i.natAbs.log2 < 1920 then some (tI i) else none
theorem h_strI {i : Int} : gStr [.int i] = (strI i).map .str := by
  unfold strI; rw [gStr_i]; split <;> rfl
@[irreducible] def repSt (x : Str) (n : Int) : Option Str := if CRepS x n then some (repS' x n) else none
theorem h_repS {x : Str} {n : Int} : gMul (.str x) (.int n) = (repSt x n).map .str := by
  unfold repSt; rw [gMul_s]; split <;> rfl
theorem h_isnO {x : Option α} {v0 : Option α → D} (h0 : v0 none = .non) (h1 : ∀ a, isNon (v0 (some a)) = false) : gIsN (v0 x) .non = some (.bl x.isNone) := by
  cases x with
  | none => rw [h0]; rfl
  | some a => rw [gIsN_ap, h1]; rfl
theorem h_notO {x : Option α} {v0 : Option α → D} (h0 : v0 none = .non) (h1 : ∀ a, isNon (v0 (some a)) = false) : gNotN (v0 x) .non = some (.bl x.isSome) := by
  cases x with
  | none => rw [h0]; rfl
  | some a => rw [gNotN_ap, h1]; rfl
/-! ### plain kinds: equal values are the same -/
structure Pl (v : α → D) (k : Nat) : Prop where
  nod : ∀ a, noDct (v a) = true
  lay : ∀ a, (toP (v a)).canLay0 = true
  dep : ∀ a, (toP (v a)).depth ≤ k
  eq : ∀ a b, PyData.eqv (toP (v a)) (toP (v b)) = true ↔ a = b
theorem toPs_map : ∀ ds : List D, toPs ds = ds.map toP
  | [] => rfl
  | d :: ds => by unfold toPs; rw [toPs_map ds]; rfl
theorem pl_int : Pl D.int 0 := ⟨fun _ => rfl, fun _ => rfl, fun _ => Nat.le_refl _, fun a b => by show (a == b) = true ↔ _; simp⟩
theorem pl_bl : Pl D.bl 0 := ⟨fun _ => rfl, fun _ => rfl, fun _ => Nat.le_refl _, fun a b => by show (a == b) = true ↔ _; simp⟩
theorem nods_map {k : Nat} (h : Pl v k) : ∀ xs : List α, noDcts (xs.map v) = true
  | [] => rfl
  | x :: xs => by rw [List.map_cons]; unfold noDcts; rw [h.nod, nods_map h xs]; rfl
theorem lays_map {k : Nat} (h : Pl v k) : ∀ xs : List α, PyData.canLayAll0 (toPs (xs.map v)) = true
  | [] => rfl
  | x :: xs => by rw [List.map_cons]; unfold toPs PyData.canLayAll0; rw [h.lay, lays_map h xs]; rfl
theorem deps_map {k : Nat} (h : Pl v k) : ∀ xs : List α, PyData.depthAll (toPs (xs.map v)) ≤ k
  | [] => Nat.zero_le _
  | x :: xs => by
    rw [List.map_cons]; unfold toPs PyData.depthAll
    exact Nat.max_le.mpr ⟨h.dep x, deps_map h xs⟩
theorem eqs_map {k : Nat} (h : Pl v k) : ∀ xs ys : List α, PyData.eqvAll (toPs (xs.map v)) (toPs (ys.map v)) = true ↔ xs = ys
  | [], [] => by simp [toPs, PyData.eqvAll]
  | [], y :: ys => by simp [toPs, PyData.eqvAll]
  | x :: xs, [] => by simp [toPs, PyData.eqvAll]
  | x :: xs, y :: ys => by
    simp only [List.map_cons, toPs, PyData.eqvAll, Bool.and_eq_true, h.eq, eqs_map h xs ys, List.cons.injEq]
theorem pl_tup {k : Nat} (h : Pl v k) : Pl (fun xs : List α => D.tup (xs.map v)) (k + 1) where
  nod xs := by unfold noDct; exact nods_map h xs
  lay xs := by unfold toP PyData.canLay0; exact lays_map h xs
  dep xs := by unfold toP PyData.depth; have := deps_map h xs; omega
  eq xs ys := by unfold toP PyData.eqv; exact eqs_map h xs ys
theorem pl_lst {k : Nat} (h : Pl v k) : Pl (fun xs : List α => D.lst (xs.map v)) (k + 1) where
  nod xs := by unfold noDct; exact nods_map h xs
  lay xs := by unfold toP PyData.canLay0; exact lays_map h xs
  dep xs := by unfold toP PyData.depth; have := deps_map h xs; omega
  eq xs ys := by unfold toP PyData.eqv; exact eqs_map h xs ys
theorem pl_p2 {u : γ → D} {k l m : Nat} (h : Pl v k) (h2 : Pl w l) (hk : k ≤ m) (hl : l ≤ m) : Pl (fun p : α × β => D.tup [v p.1, w p.2]) (m + 1) where
  nod p := by simp [noDct, noDcts, h.nod, h2.nod]
  lay p := by simp [toP, toPs, PyData.canLay0, PyData.canLayAll0, h.lay, h2.lay]
  dep p := by
    simp only [toP, toPs, PyData.depth, PyData.depthAll]
    have := h.dep p.1; have := h2.dep p.2; omega
  eq p q := by simp [toP, toPs, PyData.eqv, PyData.eqvAll, h.eq, h2.eq, Prod.ext_iff]
theorem pl_p3 {u : γ → D} {k l j m : Nat} (h : Pl v k) (h2 : Pl w l) (h3 : Pl u j) (hk : k ≤ m) (hl : l ≤ m) (hj : j ≤ m) : Pl (fun p : α × β × γ => D.tup [v p.1, w p.2.1, u p.2.2]) (m + 1) where
  nod p := by simp [noDct, noDcts, h.nod, h2.nod, h3.nod]
  lay p := by simp [toP, toPs, PyData.canLay0, PyData.canLayAll0, h.lay, h2.lay, h3.lay]
  dep p := by
    simp only [toP, toPs, PyData.depth, PyData.depthAll]
    have := h.dep p.1; have := h2.dep p.2.1; have := h3.dep p.2.2; omega
  eq p q := by simp [toP, toPs, PyData.eqv, PyData.eqvAll, h.eq, h2.eq, h3.eq, Prod.ext_iff]
theorem scEq_pl {k : Nat} (h : Pl v k) [DecidableEq α] (a b : α) (x : Bool) (e : scEq (v a) (v b) = some x) : x = decide (a = b) := by
  have q := h.eq a b
  revert q e
  cases v a <;> cases v b <;> intro e q <;> first | (cases e; done) | skip
  all_goals (cases e; first | exact decide_eq_decide.mpr (by simpa [toP, PyData.eqv] using q) | (simp [toP, PyData.eqv] at q; simp [q]))
theorem h_eqP {k : Nat} (h : Pl v k) (hk : k ≤ 64) [DecidableEq α] {a b : α} : gEq (v a) (v b) = some (.bl (decide (a = b))) := by
  unfold gEq eqD
  cases e : scEq (v a) (v b) with
  | some x => simp only; rw [scEq_pl h a b x e]; rfl
  | none =>
    simp only
    have s : ∀ a, shD (v a) = true := fun a => by
      unfold shD SeqAt.shaped
      rw [h.nod, h.lay]
      have := h.dep a
      simp; omega
    rw [if_pos ⟨s a, s b⟩]
    have := h.eq a b
    simp only [Option.map_some]
    congr 2
    rw [Bool.eq_iff_iff, decide_eq_true_iff]; exact this
theorem h_neP {k : Nat} (h : Pl v k) (hk : k ≤ 64) [DecidableEq α] {a b : α} : gNe (v a) (v b) = some (.bl (!decide (a = b))) := by
  have q := h_eqP h hk (a := a) (b := b)
  unfold gEq at q
  unfold gNe
  cases e : eqD (v a) (v b) with
  | none => rw [e] at q; cases q
  | some x => rw [e] at q; cases q; rfl
end
end DL
/-! how kinds stand among values; the last rules -/
namespace DL
open PySem L2
section
variable {α β γ δ ε ζ σ τ L : Type}
abbrev vN (_ : Unit) : D := .non
abbrev vD (d : D) : D := d
abbrev vT (v : α → D) (xs : List α) : D := .tup (xs.map v)
abbrev vL (v : α → D) (xs : List α) : D := .lst (xs.map v)
abbrev vP0 (_ : Unit) : D := .tup []
abbrev vP1 (v : α → D) (p : α) : D := .tup [v p]
abbrev vP2 (v : α → D) (w : β → D) (p : α × β) : D := .tup [v p.1, w p.2]
abbrev vP3 (v : α → D) (w : β → D) (u : γ → D) (p : α × β × γ) : D := .tup [v p.1, w p.2.1, u p.2.2]
abbrev vP4 (v : α → D) (w : β → D) (u : γ → D) (t : δ → D) (p : α × β × γ × δ) : D := .tup [v p.1, w p.2.1, u p.2.2.1, t p.2.2.2]
abbrev vP5 (v : α → D) (w : β → D) (u : γ → D) (t : δ → D) (s : ε → D) (p : α × β × γ × δ × ε) : D := .tup [v p.1, w p.2.1, u p.2.2.1, t p.2.2.2.1, s p.2.2.2.2]
abbrev vP6 (v : α → D) (w : β → D) (u : γ → D) (t : δ → D) (s : ε → D) (r : ζ → D) (p : α × β × γ × δ × ε × ζ) : D := .tup [v p.1, w p.2.1, u p.2.2.1, t p.2.2.2.1, s p.2.2.2.2.1, r p.2.2.2.2.2]
def oD (v : α → D) : Option α → D
  | some a => v a
  | none => .non
variable {v : α → D} {w : β → D} {u : γ → D} {ρ : DL.Env}
theorem pl_P2 {k l m : Nat} (h : Pl v k) (h2 : Pl w l) (hk : k ≤ m) (hl : l ≤ m) : Pl (vP2 v w) (m + 1) := pl_p2 (u := v) h h2 hk hl
theorem pl_P3 {k l j m : Nat} (h : Pl v k) (h2 : Pl w l) (h3 : Pl u j) (hk : k ≤ m) (hl : l ≤ m) (hj : j ≤ m) : Pl (vP3 v w u) (m + 1) := pl_p3 h h2 h3 hk hl hj
theorem pl_T {k : Nat} (h : Pl v k) : Pl (vT v) (k + 1) := pl_tup h
theorem pl_L {k : Nat} (h : Pl v k) : Pl (vL v) (k + 1) := pl_lst h
variable {E : σ → DL.Env → Prop} {EL : L → DL.Env → Prop} {RB : β → D → DL.Env → Prop} {EX : DL.Env → Prop} {n : O σ L β}
theorem c_tot {ξ : Type} {o : Option ξ} {x : ξ} {K : ξ → DL.Env → Out} (hg : o = some x) (h : Sim E EL RB EX (K x ρ) n) : Sim E EL RB EX ((ofOpt o ρ).out K) n := by subst hg; exact h
theorem c_bB {b : Bool} {K : Bool → DL.Env → Out} (h : Sim E EL RB EX (K b ρ) n) : Sim E EL RB EX ((bOf (.bl b) ρ).out K) n := h
theorem c_iI {b : Int} {K : Option Int → DL.Env → Out} (h : Sim E EL RB EX (K (some b) ρ) n) : Sim E EL RB EX ((iOf (.int b) ρ).out K) n := h
theorem c_pno {K : Option Int → DL.Env → Out} (h : Sim E EL RB EX (K none ρ) n) : Sim E EL RB EX ((pNo ρ).out K) n := h
/-- a value gets a name -/
theorem c_let {x : α} {k : α → O σ L β} {K : D → Out} (h : ∀ a, Sim E EL RB EX (K (v a)) (k a)) : Sim E EL RB EX (K (v x)) (O.bnd (.rt x) k) := h x
theorem h_addP {i j : List D} (h : i.length + j.length ≤ 16777216) : gAdd (.tup i) (.tup j) = some (.tup (i ++ j)) := by rw [gAdd_t, if_pos (le_size h)]
def neD (d e : D) : Option Bool := (eqD d e).map fun b => !b
theorem h_eqD {d e : D} : gEq d e = (eqD d e).map D.bl := rfl
theorem h_neD {d e : D} : gNe d e = (neD d e).map D.bl := by unfold gNe neD; rw [Option.map_map]; rfl
def niD (d e : D) : Option Bool := (inD d e).map fun b => !b
theorem h_inD {d e : D} : gIn d e = (inD d e).map D.bl := rfl
theorem h_niD {d e : D} : gNi d e = (niD d e).map D.bl := by unfold gNi niD; rw [Option.map_map]; rfl
theorem h_any {o : Option D} : o = o.map vD := by cases o <;> rfl
theorem h_anyL {o : Option (List D)} : o = o.map fun xs => xs.map vD := by
  cases o with
  | none => rfl
  | some xs => simp
theorem h_mtD {o : Option (D × List D)} : o = o.map fun p => (p.1, p.2.map vD) := by
  cases o with
  | none => rfl
  | some p => simp
theorem e_slO {i : Nat} {xs : List α} {lo hi : Option Int} {pl ph : ER (Option Int)} (h0 : ρ[i]? = some (some (.lst (xs.map v)))) (hl : pl ρ = .ok lo ρ) (hh : ph ρ = .ok hi ρ) : eSlO i pl ph ρ = .ok (.lst ((cutD xs lo hi).map v)) ρ := by
  unfold eSlO
  rw [h0]
  simp only
  rw [hl]
  simp only [bind_ok]
  rw [hh]
  simp only [bind_ok]
  rw [h0]
  show Res.ok (D.lst (cutD (xs.map v) lo hi)) ρ = _
  rw [cut_map]
end
end DL
namespace DL
section
variable {α β σ L : Type} {v : α → D} {E : σ → DL.Env → Prop} {EL : L → DL.Env → Prop} {RB : β → D → DL.Env → Prop} {EX : DL.Env → Prop} {n : O σ L β}
theorem c_stk {o : Out} : Sim E EL RB EX o (.stuck : O σ L β) := ⟨True.intro⟩
theorem c_red {o : Out} {a : α} {k : α → O σ L β} (h : Sim E EL RB EX o (k a)) : Sim E EL RB EX o (O.bnd (ofO (some a)) k) := h
theorem c_okE {r : Res D} {d : D} {ρ' : DL.Env} {x : α} {k : α → O σ L β} {K : D → DL.Env → Out} (h : r = .ok d ρ') (e : d = v x) (hk : ∀ a, Sim E EL RB EX (K (v a) ρ') (k a)) : Sim E EL RB EX (r.out K) (O.bnd (.rt x) k) := by rw [h, e]; exact hk x
theorem c_cvE {d : D} {ρ : DL.Env} {x : α} {k : α → O σ L β} {Z : D → DL.Env} {K : DL.Env → Out} (e : d = v x) (h : ∀ a, Sim E EL RB EX (K (Z (v a))) (k a)) : Sim E EL RB EX (K (Z d)) (O.bnd (.rt x) k) := by rw [e]; exact h x
theorem c_letE {x : α} {k : α → O σ L β} {Z : D → DL.Env} {ρ : DL.Env} {K : DL.Env → Out} (e : ρ = Z (v x)) (h : ∀ a, Sim E EL RB EX (K (Z (v a))) (k a)) : Sim E EL RB EX (K ρ) (O.bnd (.rt x) k) := by subst e; exact h x
end
end DL
namespace DL
open PySem L2
section
variable {α β γ σ τ L : Type} {v : α → D} {E : σ → DL.Env → Prop} {EL : L → DL.Env → Prop} {RB : β → D → DL.Env → Prop} {EX : DL.Env → Prop} {n : O σ L β} {ρ : DL.Env} {d e : D}
theorem cv_L {xs : List α} : D.lst (xs.map v) = vL vD (xs.map v) := by unfold vL; congr 1; rw [List.map_map]; rfl
theorem cv_T {xs : List α} : D.tup (xs.map v) = vT vD (xs.map v) := by unfold vT; congr 1; rw [List.map_map]; rfl
theorem asI_eq {a : Int} (h : asI d = some a) : d = .int a := by cases d <;> cases h; rfl
theorem asB_eq {a : Bool} (h : asB d = some a) : d = .bl a := by cases d <;> cases h; rfl
theorem asS_eq {a : Str} (h : asS d = some a) : d = .str a := by cases d <;> cases h; rfl
def i2 (d e : D) : Option (Int × Int) := match d, e with
  | .int i, .int j => some (i, j)
  | _, _ => none
@[simp] theorem i2_i {i j : Int} : i2 (.int i) (.int j) = some (i, j) := rfl
theorem h_i0D {f : Int → Int → Int} : gI0 f d e = ((i2 d e).map fun p => f p.1 p.2).map D.int := by cases d <;> cases e <;> rfl
theorem h_b0D {f : Int → Int → Bool} : gB0 f d e = ((i2 d e).map fun p => f p.1 p.2).map D.bl := by cases d <;> cases e <;> rfl
theorem h_icD {c : Int → Int → Prop} [∀ i j, Decidable (c i j)] {f : Int → Int → Int} : gIC c f d e = ((i2 d e).bind fun p => icI c f p.1 p.2).map D.int := by
  cases d <;> cases e <;> try rfl
  simp only [i2, Option.bind_some]; exact h_ic
theorem h_negD : gNeg d = ((asI d).map fun i => -i).map D.int := by cases d <;> rfl
def intD : D → Option Int
  | .int i => some i
  | .bl k => some (if k then 1 else 0)
  | _ => none
@[simp] theorem intD_i {i : Int} : intD (.int i) = some i := rfl
theorem h_intD : gInt [d] = (intD d).map D.int := by cases d <;> rfl
def absD : D → Option Int
  | .int i => some (if i < 0 then -i else i)
  | _ => none
@[simp] theorem absD_i {i : Int} : absD (.int i) = some (if i < 0 then -i else i) := rfl
theorem h_absD : gAbs [d] = (absD d).map D.int := by cases d <;> rfl
def lenD (d : D) : Option Int := (gLen [d]).bind asI
theorem h_lenD : gLen [d] = (lenD d).map D.int := by
  unfold lenD
  cases d <;> try rfl
  rename_i s; rw [gLen_s]; split <;> rfl
@[simp] theorem lenD_t {ds : List D} : lenD (.tup ds) = some (ds.length : Int) := rfl
@[simp] theorem lenD_l {ds : List D} : lenD (.lst ds) = some (ds.length : Int) := rfl
def sumD (d : D) : Option Int := listD d |>.map List.sum
theorem h_sumD : gSum [d] = (sumD d).map D.int := by unfold gSum sumD; simp only; cases listD d <;> rfl
def maxD (ds : List D) : Option Int := (gMaxA ds).bind asI
def minD (ds : List D) : Option Int := (gMinA ds).bind asI
theorem h_maxD {ds : List D} : gMaxA ds = (maxD ds).map D.int := by
  have h : ∀ d, gMaxA ds = some d → ∃ i, d = .int i := by
    intro d e
    unfold gMaxA gMax at e
    repeat' split at e
    all_goals first | (cases e; exact ⟨_, rfl⟩) | cases e
  unfold maxD
  cases q : gMaxA ds with
  | none => rfl
  | some d => obtain ⟨i, rfl⟩ := h d q; rfl
theorem h_minD {ds : List D} : gMinA ds = (minD ds).map D.int := by
  have h : ∀ d, gMinA ds = some d → ∃ i, d = .int i := by
    intro d e
    unfold gMinA gMin at e
    repeat' split at e
    all_goals first | (cases e; exact ⟨_, rfl⟩) | cases e
  unfold minD
  cases q : gMinA ds with
  | none => rfl
  | some d => obtain ⟨i, rfl⟩ := h d q; rfl
end
end DL
/-! reckoning with plain programs -/
namespace DL
open PySem L2
section
variable {α β γ σ τ L : Type}
theorem push_ok {xs : List α} {a : α} (h : xs.length < 16777216) : push xs a = some (xs ++ [a]) := by unfold push; rw [if_pos (by rw [sz]; exact h)]
theorem cat_ok {xs ys : List α} (h : xs.length + ys.length ≤ 16777216) : cat xs ys = some (xs ++ ys) := by unfold cat; rw [if_pos (by rw [sz]; exact h)]
theorem sized_ok {xs : List α} (h : xs.length ≤ 16777216) : sized xs = some xs := by unfold sized; rw [if_pos (by rw [sz]; exact h)]
theorem inRg_ok {j : Int} (h : -1000000000 < j ∧ j < 1000000000) : inRg j = true := by
  unfold inRg; simp; omega
theorem rg1_ok {j : Int} (h : -1000000000 < j ∧ j < 1000000000) : rg1 j = some (rgI 0 j.toNat) := by unfold rg1; rw [if_pos (inRg_ok h)]
theorem rg2_ok {i j : Int} (h : -1000000000 < i ∧ i < 1000000000) (h2 : -1000000000 < j ∧ j < 1000000000) : rg2 i j = some (rgI i (j - i).toNat) := by unfold rg2; rw [if_pos ⟨inRg_ok h, inRg_ok h2⟩]
theorem mulI_l {i j : Int} (h : -(2 ^ 64) < i ∧ i < 2 ^ 64) : mulI i j = some (i * j) := by unfold mulI; rw [if_pos (.inl h)]
theorem mulI_r {i j : Int} (h : -(2 ^ 64) < j ∧ j < 2 ^ 64) : mulI i j = some (i * j) := by unfold mulI; rw [if_pos (.inr h)]
theorem icI_ok {c : Int → Int → Prop} [∀ i j, Decidable (c i j)] {f : Int → Int → Int} {i j : Int} (h : c i j) : icI c f i j = some (f i j) := by unfold icI; rw [if_pos h]
theorem catS_ok {x y : Str} (h : x.length + y.length ≤ 16777216) : catS x y = some (x ++ y) := by unfold catS; rw [if_pos (by rw [sz]; exact h)]
theorem lenS_ok {x : Str} (h : x.length ≤ 16777216) : lenS x = some (x.length : Int) := by unfold lenS; rw [if_pos (by rw [sz]; exact h)]
theorem strI_ok {i : Int} (h : i.natAbs.log2 < 1920) : strI i = some (tI i) := by unfold strI; rw [if_pos h]
theorem rgI_zero {lo : Int} : rgI lo 0 = [] := rfl
theorem rgI_succ {lo : Int} {n : Nat} : rgI lo (n + 1) = lo :: rgI (lo + 1) n := by
  unfold rgI
  rw [List.range_succ_eq_map]
  simp [Function.comp_def]
  intro a _
  omega
theorem rgI_len {lo : Int} {n : Nat} : (rgI lo n).length = n := by unfold rgI; simp
theorem mem_rgI {lo x : Int} {n : Nat} : x ∈ rgI lo n ↔ lo ≤ x ∧ x < lo + n := by
  unfold rgI
  simp only [List.mem_map, List.mem_range]
  constructor
  · rintro ⟨a, h, rfl⟩; omega
  · rintro ⟨h1, h2⟩; exact ⟨(x - lo).toNat, by omega, by omega⟩
/-! items -/
theorem atI_nat {xs : List α} {i : Int} (h0 : 0 ≤ i) (h1 : i < xs.length) : atI xs i = xs[i.toNat]? := at_nat h0 h1
theorem atI_get {xs : List α} {n : Nat} {a : α} (h : xs[n]? = some a) : atI xs (n : Int) = some a := by
  obtain ⟨h1, _⟩ := List.getElem?_eq_some_iff.mp h
  rw [at_nat (by omega) (by omega)]; simpa using h
theorem ixN_neg {l : Nat} {i : Int} (h0 : i < 0) (h1 : 0 ≤ i + (l : Int)) : ixN l i = some (i + (l : Int)).toNat := by
  unfold ixN
  rw [if_neg (by omega), if_pos (by omega)]
theorem atI_last {xs : List α} {a : α} : atI (xs ++ [a]) (-1) = some a := by
  unfold atI
  rw [ixN_neg (by decide) (by simp; omega)]
  have : (-1 + ((xs ++ [a]).length : Int)).toNat = xs.length := by simp; omega
  rw [this]
  simp
theorem atI_len {xs : List α} {a : α} {n : Int} (h : n = xs.length) : atI (xs ++ [a]) n = some a := by
  subst h
  rw [at_nat (by omega) (by simp; omega)]
  simp
theorem ixN_nat {l : Nat} {i : Int} (h0 : 0 ≤ i) (h1 : i < l) : ixN l i = some i.toNat := by
  unfold ixN; rw [if_pos h0, if_pos h1]
theorem setAt_ok {xs : List α} {i : Int} {a : α} (h0 : 0 ≤ i) (h1 : i < xs.length) : setAt xs i a = some (xs.set i.toNat a) := by
  unfold setAt; rw [ixN_nat h0 h1]; rfl
theorem setAt_len {xs : List α} {x a : α} {n : Int} (h : n = xs.length) : setAt (xs ++ [x]) n a = some (xs ++ [a]) := by
  subst h
  rw [setAt_ok (by omega) (by simp; omega)]
  simp
theorem setAt_last {xs : List α} {x a : α} : setAt (xs ++ [x]) (-1) a = some (xs ++ [a]) := by
  unfold setAt
  rw [ixN_neg (by decide) (by simp; omega)]
  have : (-1 + ((xs ++ [x]).length : Int)).toNat = xs.length := by simp; omega
  rw [this]
  simp
theorem popL_snoc {xs : List α} {a : α} : popL (xs ++ [a]) = some (a, xs) := by unfold popL; simp
/-! slices -/
theorem cut_take {xs : List α} {i : Int} (h0 : 0 ≤ i) : cutD xs none (some i) = xs.take i.toNat := by
  unfold cutD HT.sIx
  have h : ¬ i < 0 := by omega
  simp [h]
theorem cut_drop {xs : List α} {i : Int} (h0 : 0 ≤ i) : cutD xs (some i) none = xs.drop i.toNat := by
  unfold cutD HT.sIx
  have h : ¬ i < 0 := by omega
  simp only [h, if_false]
  by_cases hl : i.toNat ≤ xs.length
  · rw [Nat.min_eq_left hl, List.take_of_length_le (by simp)]
  · rw [Nat.min_eq_right (by omega), List.drop_of_length_le (Nat.le_refl _), List.drop_of_length_le (by omega)]; simp
theorem sumD_l {xs : List Int} : sumD (.lst (xs.map .int)) = some xs.sum := by
  show (intsD (xs.map D.int)).map List.sum = _
  rw [ints_map]; rfl
/-! a step at a time -/
theorem bnd_eq {x : Fr α} {a : α} {k : α → O σ L β} (h : x = .rt a) : O.bnd x k = k a := by rw [h]; rfl
theorem seq_eq {x : O σ L β} {a : σ} {k : σ → O τ L β} (h : x = .nx a) : O.seq x k = k a := by rw [h]; rfl
theorem ofO_eq {o : Option α} {a : α} (h : o = some a) : ofO o = .rt a := by rw [h]; rfl
theorem ite_f {b : Bool} {x y : α} (h : b = false) : (if b = true then x else y) = y := by rw [h]; rfl
theorem ite_t {b : Bool} {x y : α} (h : b = true) : (if b = true then x else y) = x := by rw [h]; rfl
/-! loops -/
theorem nFor_cons {f : α → σ → O σ σ β} {x : α} {xs : List α} {s : σ} : (nFor f (x :: xs) s : O σ L β) = match f x s with
    | .nx s => nFor f xs s
    | .ct s => nFor f xs s
    | .bk s => .nx s
    | .rt b => .rt b
    | .exc e => .exc e
    | .stuck => .stuck := rfl
theorem nFor_nx {f : α → σ → O σ σ β} {x : α} {xs : List α} {s s' : σ} (h : f x s = .nx s') : (nFor f (x :: xs) s : O σ L β) = nFor f xs s' := by rw [nFor_cons, h]
theorem nFor_bk {f : α → σ → O σ σ β} {x : α} {xs : List α} {s s' : σ} (h : f x s = .bk s') : (nFor f (x :: xs) s : O σ L β) = .nx s' := by rw [nFor_cons, h]
theorem nFor_rt {f : α → σ → O σ σ β} {x : α} {xs : List α} {s : σ} {b : β} (h : f x s = .rt b) : (nFor f (x :: xs) s : O σ L β) = .rt b := by rw [nFor_cons, h]
theorem nFor_exc {f : α → σ → O σ σ β} {x : α} {xs : List α} {s : σ} {b : Ex} (h : f x s = .exc b) : (nFor f (x :: xs) s : O σ L β) = .exc b := by rw [nFor_cons, h]
/-- each lap leads on; P of the items to come -/
theorem nFor_ex {f : α → σ → O σ σ β} {P : List α → σ → Prop} (h : ∀ x r s, P (x :: r) s → ∃ s', f x s = .nx s' ∧ P r s') : ∀ (xs : List α) (s : σ), P xs s → ∃ s', (nFor f xs s : O σ L β) = .nx s' ∧ P [] s'
  | [], s, p => ⟨s, rfl, p⟩
  | x :: xs, s, p => by
    obtain ⟨s', h1, h2⟩ := h x xs s p
    obtain ⟨s2, h3, h4⟩ := nFor_ex h xs s' h2
    exact ⟨s2, by rw [nFor_nx h1]; exact h3, h4⟩
/-- some laps leave -/
theorem nFor_exB {f : α → σ → O σ σ β} {P : List α → σ → Prop} {Q : σ → Prop} (h : ∀ x r s, P (x :: r) s → (∃ s', f x s = .nx s' ∧ P r s') ∨ ∃ s', f x s = .bk s' ∧ Q s') (hq : ∀ s, P [] s → Q s) : ∀ (xs : List α) (s : σ), P xs s → ∃ s', (nFor f xs s : O σ L β) = .nx s' ∧ Q s'
  | [], s, p => ⟨s, rfl, hq s p⟩
  | x :: xs, s, p => by
    rcases h x xs s p with ⟨s', h1, h2⟩ | ⟨s', h1, h2⟩
    · obtain ⟨s2, h3, h4⟩ := nFor_exB h hq xs s' h2
      exact ⟨s2, by rw [nFor_nx h1]; exact h3, h4⟩
    · exact ⟨s', by rw [nFor_bk h1], h2⟩
/-- each lap is a step of g -/
theorem nFor_fold {f : α → σ → O σ σ β} {g : σ → α → σ} {P : List α → σ → Prop} (h : ∀ x r s, P (x :: r) s → f x s = .nx (g s x) ∧ P r (g s x)) : ∀ (xs : List α) (s : σ), P xs s → (nFor f xs s : O σ L β) = .nx (xs.foldl g s)
  | [], s, p => rfl
  | x :: xs, s, p => by
    obtain ⟨h1, h2⟩ := h x xs s p
    rw [nFor_nx h1, List.foldl_cons]
    exact nFor_fold h xs _ h2
/-- nothing is changed -/
theorem nFor_all {f : α → σ → O σ σ β} {s : σ} : ∀ (xs : List α), (∀ x ∈ xs, f x s = .nx s) → (nFor f xs s : O σ L β) = .nx s
  | [], _ => rfl
  | x :: xs, h => by
    rw [nFor_nx (h x List.mem_cons_self)]
    exact nFor_all xs fun y hy => h y (List.mem_cons_of_mem _ hy)
/-- a list grows by what each item gives -/
theorem nFor_grow {f : α → List γ → O (List γ) (List γ) β} {g : α → List γ} {B : Nat} (h : ∀ x, ∀ s : List γ, s.length + (g x).length ≤ B → f x s = .nx (s ++ g x)) : ∀ (xs : List α) (s : List γ), s.length + (xs.flatMap g).length ≤ B → (nFor f xs s : O (List γ) L β) = .nx (s ++ xs.flatMap g)
  | [], s, _ => by simp
  | x :: xs, s, hb => by
    rw [List.flatMap_cons, List.length_append] at hb
    rw [nFor_nx (h x s (by omega)), nFor_grow h xs _ (by rw [List.length_append]; omega), List.flatMap_cons, List.append_assoc]
theorem nFor_growM {f : α → List γ → O (List γ) (List γ) β} {g : α → List γ} {B : Nat} : ∀ (xs : List α) (s : List γ), (∀ x ∈ xs, ∀ s : List γ, s.length + (g x).length ≤ B → f x s = .nx (s ++ g x)) → s.length + (xs.flatMap g).length ≤ B → (nFor f xs s : O (List γ) L β) = .nx (s ++ xs.flatMap g)
  | [], s, _, _ => by simp
  | x :: xs, s, h, hb => by
    rw [List.flatMap_cons, List.length_append] at hb
    rw [nFor_nx (h x List.mem_cons_self s (by omega)), nFor_growM xs _ (fun y hy => h y (List.mem_cons_of_mem _ hy)) (by rw [List.length_append]; omega), List.flatMap_cons, List.append_assoc]
/-! comprehensions -/
theorem nLs_ok {F : α → Unit → O Unit Empty (β × Unit)} {t : α → Bool} {g : α → β} : ∀ (xs : List α), (∀ x ∈ xs, F x () = if t x = true then .rt (g x, ()) else .nx ()) → xs.length ≤ 16777216 → nLs F xs () = .rt ((xs.filter t).map g, ()) := by
  intro xs h hl
  have h2 : ∀ ys : List α, (∀ x ∈ ys, F x () = if t x = true then .rt (g x, ()) else .nx ()) → nLc F ys () = .rt ((ys.filter t).map g, ()) := by
    intro ys
    induction ys with
    | nil => intro _; rfl
    | cons y ys ih =>
      intro h
      have ih := ih fun x hx => h x (List.mem_cons_of_mem _ hx)
      have h1 := h y List.mem_cons_self
      unfold nLc
      rw [h1]
      cases e : t y with
      | false => rw [List.filter_cons_of_neg (by simp [e])]; exact ih
      | true => rw [List.filter_cons_of_pos e]; simp only [if_true, ih]; rfl
  unfold nLs
  rw [h2 xs h, bnd_rt, sized_ok]
  · rfl
  · rw [List.length_map]; exact Nat.le_trans (List.length_filter_le _ _) hl
theorem nLs_map {F : α → Unit → O Unit Empty (β × Unit)} {g : α → β} (xs : List α) (h : ∀ x ∈ xs, F x () = .rt (g x, ())) (hl : xs.length ≤ 16777216) : nLs F xs () = .rt (xs.map g, ()) := by
  have := nLs_ok (F := F) (t := fun _ => true) (g := g) xs (fun x hx => by rw [h x hx]; rfl) hl
  rwa [show (xs.filter fun _ => true) = xs from List.filter_eq_self.mpr (fun _ _ => rfl)] at this
/-! a value and itself -/
theorem okLs_map {v : α → D} : ∀ xs : List α, (∀ x ∈ xs, okL (v x) = true) → okLs (xs.map v) = true
  | [], _ => rfl
  | x :: xs, h => by
    rw [List.map_cons]; unfold okLs
    rw [h x List.mem_cons_self, okLs_map xs fun y hy => h y (List.mem_cons_of_mem _ hy)]; rfl
theorem szs_map {v : α → D} {k : Nat} : ∀ xs : List α, (∀ x ∈ xs, sz1 (v x) ≤ k) → szs (xs.map v) ≤ k * xs.length
  | [], _ => by simp [szs]
  | x :: xs, h => by
    rw [List.map_cons]; unfold szs
    have h1 := h x List.mem_cons_self
    have h2 := szs_map xs fun y hy => h y (List.mem_cons_of_mem _ hy)
    rw [List.length_cons, Nat.mul_succ]; omega
theorem ok_T {v : α → D} {xs : List α} (h : ∀ x ∈ xs, okL (v x) = true) : okL (vT v xs) = true := by unfold vT okL; exact okLs_map xs h
theorem sz_T {v : α → D} {k : Nat} {xs : List α} (h : ∀ x ∈ xs, sz1 (v x) ≤ k) : sz1 (vT v xs) ≤ 1 + k * xs.length := by unfold vT sz1; have := szs_map xs h; omega
end
end DL
namespace K09
open PySem L2 DL
def top (i : Nat) : Stmt := PySem.Challenge.pw_whatevertext_k09_pieces.main.body.getD i (.Pass ⟨0, 0, 0, 0⟩)

structure Zs (mg : Mg) : Prop where
  z_abs : mg "abs" = none
  z_bool : mg "bool" = none
  z_enumerate : mg "enumerate" = none
  z_int : mg "int" = none
  z_isinstance : mg "isinstance" = none
  z_len : mg "len" = none
  z_list : mg "list" = none
  z_max : mg "max" = none
  z_min : mg "min" = none
  z_range : mg "range" = none
  z_str : mg "str" = none
  z_sum : mg "sum" = none
  z_tuple : mg "tuple" = none
  z_zip : mg "zip" = none
structure Xs (P : Program) (K : PySem.W.Frag) (mg : Mg) (C_BadPiece C_DataError C_MoveError : Addr) : Prop where
  t_BadPiece : PySem.DLX.ExTxt P K mg "BadPiece" C_BadPiece ["at", "word"]
  g_BadPiece : mg "BadPiece" = some (.ref C_BadPiece)
  g_DataError : mg "DataError" = some (.ref C_DataError)
  g_MoveError : mg "MoveError" = some (.ref C_MoveError)
  m_BadPiece_BadPiece : PySem.W.exmOne K (.ref C_BadPiece) (.ref C_BadPiece) = some true
  i_BadPiece_DataError : ∀ k b, ([(2, true)] : List (Nat × Bool)).lookup k = some b → ∀ C0, mg (clsN k) = some (.ref C0) → ExcC K C0 ∧ PySem.W.kitOne K (.ref C0) (.ref C_DataError) = some b
  i_BadPiece_MoveError : ∀ k b, ([(2, true)] : List (Nat × Bool)).lookup k = some b → ∀ C0, mg (clsN k) = some (.ref C0) → ExcC K C0 ∧ PySem.W.kitOne K (.ref C0) (.ref C_MoveError) = some b
abbrev s_is_integer : Stmt := top 1
abbrev N_is_integer : List Str := ["thing"]
theorem sc_is_integer : FnScope N_is_integer ["thing"] (defScope s_is_integer) := ⟨rfl, rfl, rfl, by decide +kernel, rfl, by decide +kernel, by decide +kernel⟩
def b_is_integer : DL.Env → Out := (sRet (eAndV (eIsi isInt (eVar 0)) (eNotV (eIsi isBl (eVar 0)))))
def d_is_integer : Den := mkF 1 0 b_is_integer
abbrev p_is_integer (K : PySem.W.Frag) (mg : Mg) : Sp := spD K mg (List.replicate 1 .pu) .pu d_is_integer
theorem ok_is_integer {P : Program} {w : World} {K : PySem.W.Frag} {mg : Mg} {base : Heap} {C_BadPiece C_DataError C_MoveError : Addr} (z : Zs mg) (x : Xs P K mg C_BadPiece C_DataError C_MoveError) {f : Addr} {fd : FuncData} (F : Fun K "is_integer" "is_integer" s_is_integer f fd) : FnOk P w K mg base (L2.CX P w) 2 f fd ["thing"] (p_is_integer K mg) := by
  refine F.okX sc_is_integer (fun vs H Q E h => spD_len h) (fun cdv A outer s H vs Q E hr h => ?_)
  exact ⟨_, (pss_one (ps_ret (pe_and (pe_callB call_isi rfl z.z_isinstance rfl (pa_cons (pv 0) (pa_cons (pe_bltn (v := .ty "int") rfl z.z_int (by decide +kernel) rfl) pa_nil))) (pe_one (pe_not (pe_callB call_isi rfl z.z_isinstance rfl (pa_cons (pv 0) (pa_cons (pe_bltn (v := .ty "bool") rfl z.z_bool (by decide +kernel) rfl) pa_nil)))))))),
    fn_body (N := N_is_integer) (k := 0) (Γp := (List.replicate 1 .pu)) (sr := .pu) (fb := b_is_integer) (Γi := []) (Γ' := [.pu]) (by decide) rfl (.inl rfl) ⟨rfl, rfl⟩ (sok_ret ⟨rfl, rfl⟩ (eok_and (eok_isi ty_int (eok_var rfl)) (eok_not (eok_isi ty_bl (eok_var rfl))))) h⟩
abbrev s_is_within : Stmt := top 2
abbrev N_is_within : List Str := ["thing", "least", "most"]
theorem sc_is_within : FnScope N_is_within ["thing", "least", "most"] (defScope s_is_within) := ⟨rfl, rfl, rfl, by decide +kernel, rfl, by decide +kernel, by decide +kernel⟩
def b_is_within : DL.Env → Out := (sRet (eAndV (eCall 1 d_is_integer (aCons (eVar 0) aNil)) (eChain (gB0 fun i j => decide (i ≤ j)) (gB0 fun i j => decide (i ≤ j)) (eVar 1) (eVar 0) (eVar 2))))
def d_is_within : Den := mkF 3 0 b_is_within
abbrev p_is_within (K : PySem.W.Frag) (mg : Mg) : Sp := spD K mg (List.replicate 3 .pu) .pu d_is_within
theorem ok_is_within {P : Program} {w : World} {K : PySem.W.Frag} {mg : Mg} {base : Heap} {C_BadPiece C_DataError C_MoveError : Addr} (z : Zs mg) (x : Xs P K mg C_BadPiece C_DataError C_MoveError) (g_is_integer : Df P w K mg base "is_integer" s_is_integer ["thing"] 2 (p_is_integer K mg)) {f : Addr} {fd : FuncData} (F : Fun K "is_within" "is_within" s_is_within f fd) : FnOk P w K mg base (L2.CX P w) 4 f fd ["thing", "least", "most"] (p_is_within K mg) := by
  refine F.okX sc_is_within (fun vs H Q E h => spD_len h) (fun cdv A outer s H vs Q E hr h => ?_)
  exact ⟨_, (pss_one (ps_ret (pe_and (pe_df g_is_integer (hr.mono (by decide)) rfl (takes_of rfl rfl rfl rfl) (pa_cons (pv 0) pa_nil)) (pe_one (pe_chain op_le op_le (pv 1) (pv 0) (pv 2)))))),
    fn_body (N := N_is_within) (k := 0) (Γp := (List.replicate 3 .pu)) (sr := .pu) (fb := b_is_within) (Γi := []) (Γ' := [.pu, .pu, .pu]) (by decide) rfl (.inl rfl) ⟨rfl, rfl⟩ (sok_ret ⟨rfl, rfl⟩ (eok_and (eok_call (aok_cons (eok_var rfl) aok_nil)) (eok_chain r2_b0 r2_b0 (eok_var rfl) (eok_var rfl) (eok_var rfl)))) h⟩
abbrev s_are_integers : Stmt := top 3
abbrev N_are_integers : List Str := ["thing", "one"]
theorem sc_are_integers : FnScope N_are_integers ["thing"] (defScope s_are_integers) := ⟨rfl, rfl, rfl, by decide +kernel, rfl, by decide +kernel, by decide +kernel⟩
def b_are_integers : DL.Env → Out := (sRet (eAndV (eIsi isTup (eVar 0)) (eOp gEq (eCB gLen (aCons (eLc (iA (eVar 0)) (gN 1) (bNot (tVal (eCall 1 d_is_integer (aCons (eVar 1) aNil)))) (eVar 1) [1]) aNil)) (eC (.int 0)))))
def d_are_integers : Den := mkF 2 0 b_are_integers
abbrev p_are_integers (K : PySem.W.Frag) (mg : Mg) : Sp := spD K mg (List.replicate 1 .pu) .pu d_are_integers
theorem ok_are_integers {P : Program} {w : World} {K : PySem.W.Frag} {mg : Mg} {base : Heap} {C_BadPiece C_DataError C_MoveError : Addr} (z : Zs mg) (x : Xs P K mg C_BadPiece C_DataError C_MoveError) (g_is_integer : Df P w K mg base "is_integer" s_is_integer ["thing"] 2 (p_is_integer K mg)) {f : Addr} {fd : FuncData} (F : Fun K "are_integers" "are_integers" s_are_integers f fd) : FnOk P w K mg base (L2.CX P w) 4 f fd ["thing"] (p_are_integers K mg) := by
  refine F.okX sc_are_integers (fun vs H Q E h => spD_len h) (fun cdv A outer s H vs Q E hr h => ?_)
  exact ⟨_, (pss_one (ps_ret (pe_and (pe_callB call_isi rfl z.z_isinstance rfl (pa_cons (pv 0) (pa_cons (pe_bltn (v := .ty "tuple") rfl z.z_tuple (by decide +kernel) rfl) pa_nil))) (pe_one (pe_cmpR (opEq (Room.u64 hr)) (pe_callB callLen rfl z.z_len rfl (pa_cons (pe_lc (own := [("one", 1)]) rfl sc_are_integers.nd (pi_any (pv 0)) (blkOk_by (own := [("one", 1)]) (N := N_are_integers) (sc := defScope s_are_integers) (by decide +kernel)) (fun _ _ _ _ _ => (pg_name (i := 1) sc_are_integers.nd rfl (by first | exact Or.inl rfl | exact Or.inr rfl))) (fun _ _ _ _ _ => (pts_one (pt_not (pt_val (pe_df g_is_integer (hr.mono (by decide)) rfl takes0 (pa_cons (pv 1) pa_nil)))))) (fun _ _ _ _ _ => (pv 1))) pa_nil)) pe_int (nomark _)))))),
    fn_body (N := N_are_integers) (k := 0) (Γp := (List.replicate 1 .pu)) (sr := .pu) (fb := b_are_integers) (Γi := [.pu]) (Γ' := [.pu, .pu]) (by decide) rfl (.inl rfl) ⟨rfl, rfl⟩ (sok_ret ⟨rfl, rfl⟩ (eok_and (eok_isi ty_tup (eok_var rfl)) (eok_op r2_eq (eok_cb c1_len (aok_cons (eok_frz (eok_lc (vs := [1]) (by decide) (iok_any (eok_var rfl)) (gok_nameK (i := 1) rfl) (tok_not (tok_b (eok_call (aok_cons (eok_var rfl) aok_nil)))) (eok_var rfl))) aok_nil)) eok_int))) h⟩
abbrev s_last_place : Stmt := top 9
abbrev N_last_place : List Str := ["piece"]
theorem sc_last_place : FnScope N_last_place ["piece"] (defScope s_last_place) := ⟨rfl, rfl, rfl, by decide +kernel, rfl, by decide +kernel, by decide +kernel⟩
def b_last_place : DL.Env → Out := (sRet (eOp gAdd (eOp gIx (eVar 0) (eC (.int 0))) (eOp gMul (eOp gIx (eVar 0) (eC (.int 2))) (eOp (gI0 fun i j => i - j) (eOp gIx (eVar 0) (eC (.int 1))) (eC (.int 1))))))
def d_last_place : Den := mkF 1 0 b_last_place
abbrev p_last_place (K : PySem.W.Frag) (mg : Mg) : Sp := spD K mg (List.replicate 1 .pu) .pu d_last_place
theorem ok_last_place {P : Program} {w : World} {K : PySem.W.Frag} {mg : Mg} {base : Heap} {C_BadPiece C_DataError C_MoveError : Addr} (z : Zs mg) (x : Xs P K mg C_BadPiece C_DataError C_MoveError) {f : Addr} {fd : FuncData} (F : Fun K "last_place" "last_place" s_last_place f fd) : FnOk P w K mg base (L2.CX P w) 2 f fd ["piece"] (p_last_place K mg) := by
  refine F.okX sc_last_place (fun vs H Q E h => spD_len h) (fun cdv A outer s H vs Q E hr h => ?_)
  exact ⟨_, (pss_one (ps_ret (pe_op opAdd (pe_ix (ix_any (Room.u1 hr)) (pv 0) pe_int (fun _ _ => rfl)) (pe_op opMul (pe_ix (ix_any (Room.u1 hr)) (pv 0) pe_int (fun _ _ => rfl)) (pe_op op_sub (pe_ix (ix_any (Room.u1 hr)) (pv 0) pe_int (fun _ _ => rfl)) pe_int))))),
    fn_body (N := N_last_place) (k := 0) (Γp := (List.replicate 1 .pu)) (sr := .pu) (fb := b_last_place) (Γi := []) (Γ' := [.pu]) (by decide) rfl (.inl rfl) ⟨rfl, rfl⟩ (sok_ret ⟨rfl, rfl⟩ (eok_op r2_add (eok_op r2_ix (eok_var rfl) eok_int) (eok_op r2_mul (eok_op r2_ix (eok_var rfl) eok_int) (eok_op r2_i0 (eok_op r2_ix (eok_var rfl) eok_int) eok_int)))) h⟩
abbrev s_longer_piece : Stmt := top 10
abbrev N_longer_piece : List Str := ["piece", "place", "start", "length", "step"]
theorem sc_longer_piece : FnScope N_longer_piece ["piece", "place"] (defScope s_longer_piece) := ⟨rfl, rfl, rfl, by decide +kernel, rfl, by decide +kernel, by decide +kernel⟩
def b_longer_piece : DL.Env → Out := (sSeq (sAsg (eVar 0) (gT 3 (gsCons (gN 2) (gsCons (gN 3) (gsCons (gN 4) gsNil))))) (sSeq (sIf (bAnd (tVal (eOp gEq (eVar 3) (eC (.int 1)))) (tVal (eOp gIn (eVar 1) (eTup (aCons (eOp (gI0 fun i j => i - j) (eVar 2) (eC (.int 1))) (aCons (eOp gAdd (eVar 2) (eC (.int 1))) aNil)))))) (sRet (eTup (aCons (eVar 2) (aCons (eC (.int 2)) (aCons (eOp (gI0 fun i j => i - j) (eVar 1) (eVar 2)) aNil))))) Out.nx) (sRet (eIf (bAnd (tVal (eOp (gB0 fun i j => decide (j < i)) (eVar 3) (eC (.int 1)))) (tVal (eOp gEq (eVar 1) (eOp gAdd (eVar 2) (eOp gMul (eVar 4) (eVar 3)))))) (eTup (aCons (eVar 2) (aCons (eOp gAdd (eVar 3) (eC (.int 1))) (aCons (eVar 4) aNil)))) (eC .non)))))
def d_longer_piece : Den := mkF 5 0 b_longer_piece
abbrev p_longer_piece (K : PySem.W.Frag) (mg : Mg) : Sp := spD K mg (List.replicate 2 .pu) .pu d_longer_piece
theorem ok_longer_piece {P : Program} {w : World} {K : PySem.W.Frag} {mg : Mg} {base : Heap} {C_BadPiece C_DataError C_MoveError : Addr} (z : Zs mg) (x : Xs P K mg C_BadPiece C_DataError C_MoveError) {f : Addr} {fd : FuncData} (F : Fun K "longer_piece" "longer_piece" s_longer_piece f fd) : FnOk P w K mg base (L2.CX P w) 2 f fd ["piece", "place"] (p_longer_piece K mg) := by
  refine F.okX sc_longer_piece (fun vs H Q E h => spD_len h) (fun cdv A outer s H vs Q E hr h => ?_)
  exact ⟨_, (pss_cons (ps_asg (pv 0) (pg_tup rfl (pgs_cons (pg_name (i := 2) sc_longer_piece.nd rfl (by first | exact Or.inl rfl | exact Or.inr rfl)) (pgs_cons (pg_name (i := 3) sc_longer_piece.nd rfl (by first | exact Or.inl rfl | exact Or.inr rfl)) (pgs_cons (pg_name (i := 4) sc_longer_piece.nd rfl (by first | exact Or.inl rfl | exact Or.inr rfl)) pgs_nil))))) (pss_cons (ps_if (PW.pt (pw_and (pt_cmpR (opEq (Room.u64 hr)) (pv 3) pe_int (nomark _)) (pw_and1 (pt_cmpR (opIn (Room.u65 hr)) (pv 1) (pe_tup (pa_cons (pe_op op_sub (pv 2) pe_int) (pa_cons (pe_op opAdd (pv 2) pe_int) pa_nil))) (by with_unfolding_all rfl))))) (pss_one (ps_ret (pe_tup (pa_cons (pv 2) (pa_cons pe_int (pa_cons (pe_op op_sub (pv 1) (pv 2)) pa_nil)))))) pss_nil) (pss_one (ps_ret (pe_ifExp (PW.pt (pw_and (pt_cmpR op_gt (pv 3) pe_int (nomark _)) (pw_and1 (pt_cmpR (opEq (Room.u64 hr)) (pv 1) (pe_op opAdd (pv 2) (pe_op opMul (pv 4) (pv 3))) (nomark _))))) (pe_tup (pa_cons (pv 2) (pa_cons (pe_op opAdd (pv 3) pe_int) (pa_cons (pv 4) pa_nil)))) pe_non))))),
    fn_body (N := N_longer_piece) (k := 0) (Γp := (List.replicate 2 .pu)) (sr := .pu) (fb := b_longer_piece) (Γi := [.pu, .pu, .pu]) (Γ' := [.pu, .pu, .pu, .pu, .pu]) (by decide) rfl (.inl rfl) ⟨rfl, rfl⟩ (sok_seq (sok_asg ⟨rfl, rfl⟩ (np2 rfl) (eok_var rfl) (gok_tup (n := 3) (gsok_cons (gok_nameK (i := 2) rfl) (gsok_cons (gok_nameK (i := 3) rfl) (gsok_cons (gok_nameK (i := 4) rfl) gsok_nil))))) (sok_seq (sok_if ⟨rfl, rfl⟩ (tok_and (tok_test (eok_op r2_eq (eok_var rfl) eok_int)) (tok_test (eok_op r2_in (eok_var rfl) (eok_tup (aok_cons (eok_op r2_i0 (eok_var rfl) eok_int) (aok_cons (eok_op r2_add (eok_var rfl) eok_int) aok_nil)))))) (sok_ret ⟨rfl, rfl⟩ (eok_tup (aok_cons (eok_var rfl) (aok_cons eok_int (aok_cons (eok_op r2_i0 (eok_var rfl) (eok_var rfl)) aok_nil))))) sok_next) (sok_ret ⟨rfl, rfl⟩ (eok_if (tok_and (tok_test (eok_op r2_b0 (eok_var rfl) eok_int)) (tok_test (eok_op r2_eq (eok_var rfl) (eok_op r2_add (eok_var rfl) (eok_op r2_mul (eok_var rfl) (eok_var rfl)))))) (eok_tup (aok_cons (eok_var rfl) (aok_cons (eok_op r2_add (eok_var rfl) eok_int) (aok_cons (eok_var rfl) aok_nil)))) eok_non)))) h⟩
abbrev s_short_row : Stmt := top 11
abbrev N_short_row : List Str := ["places", "found", "place", "longer"]
theorem sc_short_row : FnScope N_short_row ["places"] (defScope s_short_row) := ⟨rfl, rfl, rfl, by decide +kernel, rfl, by decide +kernel, by decide +kernel⟩
def b_short_row : DL.Env → Out := (sSeq (sSet 1 (eLst aNil)) (sSeq (sFor (iA (eVar 0)) (gN 2) (sSeq (sSet 3 (eIf (tVal (eOp (gB0 fun i j => decide (j < i)) (eView (eCB gLen (aCons (eVar 1) aNil))) (eC (.int 0)))) (eCall 2 d_longer_piece (aCons (eIxO 1 (eOp (gI0 fun i j => i - j) (eView (eCB gLen (aCons (eVar 1) aNil))) (eC (.int 1)))) (aCons (eVar 2) aNil))) (eC .non))) (sIf (tVal (eOp gIsN (eVar 3) (eC .non))) (sDrop (eMtO 1 gAppend (aCons (eTup (aCons (eVar 2) (aCons (eC (.int 1)) (aCons (eC (.int 1)) aNil)))) aNil))) (sSetI 1 (eVar 3) (eOp (gI0 fun i j => i - j) (eView (eCB gLen (aCons (eVar 1) aNil))) (eC (.int 1))))))) (sRet (eCB gTuple (aCons (eVar 1) aNil)))))
def d_short_row : Den := mkF 4 0 b_short_row
abbrev p_short_row (K : PySem.W.Frag) (mg : Mg) : Sp := spD K mg (List.replicate 1 .pu) .pu d_short_row
theorem ok_short_row {P : Program} {w : World} {K : PySem.W.Frag} {mg : Mg} {base : Heap} {C_BadPiece C_DataError C_MoveError : Addr} (z : Zs mg) (x : Xs P K mg C_BadPiece C_DataError C_MoveError) (g_longer_piece : Df P w K mg base "longer_piece" s_longer_piece ["piece", "place"] 2 (p_longer_piece K mg)) {f : Addr} {fd : FuncData} (F : Fun K "short_row" "short_row" s_short_row f fd) : FnOk P w K mg base (L2.CX P w) 4 f fd ["places"] (p_short_row K mg) := by
  refine F.okX sc_short_row (fun vs H Q E h => spD_len h) (fun cdv A outer s H vs Q E hr h => ?_)
  exact ⟨_, (pss_cons (ps_set (i := 1) sc_short_row.nd rfl (by first | exact Or.inl rfl | exact Or.inr rfl) (pe_lst pa_nil)) (pss_cons (ps_for (passes_of rfl) rfl (pi_any (pv 0)) (pg_name (i := 2) sc_short_row.nd rfl (by first | exact Or.inl rfl | exact Or.inr rfl)) (pss_cons (ps_set (i := 3) sc_short_row.nd rfl (by first | exact Or.inl rfl | exact Or.inr rfl) (pe_ifExp (pt_cmpR op_gt (pe_callB callLen rfl z.z_len rfl (pa_cons (pv 1) pa_nil)) pe_int (nomark _)) (pe_df g_longer_piece (hr.mono (by decide)) rfl (takes_of rfl rfl rfl rfl) (pa_cons (pe_ix (ix_any (Room.u1 hr)) (pv 1) (pe_op op_sub (pe_callB callLen rfl z.z_len rfl (pa_cons (pv 1) pa_nil)) pe_int) (fun _ _ => rfl)) (pa_cons (pv 2) pa_nil))) pe_non)) (pss_one (ps_if (pt_cmpR opIsN (pv 3) pe_non (nomark _)) (pss_one (ps_expr (pe_bm PySem.F.plainAttrs_list PySem.F.slot_list_append PySem.F.type_list_append mt_append (pv 1) (pa_cons (pe_tup (pa_cons (pv 2) (pa_cons pe_int (pa_cons pe_int pa_nil)))) pa_nil)))) (pss_one (ps_asg (pv 3) (pg_sub (pv 1) (pe_op op_sub (pe_callB callLen rfl z.z_len rfl (pa_cons (pv 1) pa_nil)) pe_int) (setAny (Room.u1 hr))))))))) (pss_one (ps_ret (pe_callTy callTuple rfl z.z_tuple rfl (pa_cons (pv 1) pa_nil)))))),
    fn_body (N := N_short_row) (k := 0) (Γp := (List.replicate 1 .pu)) (sr := .pu) (fb := b_short_row) (Γi := [.ls, .pu, .pu]) (Γ' := [.pu, .pu, .pu, .pu]) (by decide) rfl (.inl rfl) ⟨rfl, rfl⟩ (sok_seq (sok_setK ⟨rfl, rfl⟩ (np rfl) rfl (eok_lst aok_nil)) (sok_seq (sok_for ⟨rfl, rfl⟩ (np2 rfl) (iok_any (eok_var rfl)) (gok_nameK (i := 2) rfl) (sok_seq (sok_setK ⟨rfl, rfl⟩ (np rfl) rfl (eok_if (tok_test (eok_op r2_b0 (eok_view (eok_cb c1_len (aok_cons (eok_var rfl) aok_nil))) eok_int)) (eok_call (aok_cons (eok_ixO rfl (eok_op r2_i0 (eok_view (eok_cb c1_len (aok_cons (eok_var rfl) aok_nil))) eok_int)) (aok_cons (eok_var rfl) aok_nil))) eok_non)) (sok_if ⟨rfl, rfl⟩ (tok_test (eok_op r2_isN (eok_var rfl) eok_non)) (sok_drop ⟨rfl, rfl⟩ (eok_mt mok_append rfl (aok_cons (eok_tup (aok_cons (eok_var rfl) (aok_cons eok_int (aok_cons eok_int aok_nil)))) aok_nil))) (sok_seti ⟨rfl, rfl⟩ rfl (eok_var rfl) (eok_op r2_i0 (eok_view (eok_cb c1_len (aok_cons (eok_var rfl) aok_nil))) eok_int))))) (sok_frz (i := 1) rfl (sok_ret ⟨rfl, rfl⟩ (eok_cb c1_tuple (aok_cons (eok_var rfl) aok_nil)))))) h⟩
abbrev s_piece_places : Stmt := top 12
abbrev N_piece_places : List Str := ["pieces", "found", "start", "length", "step", "at"]
theorem sc_piece_places : FnScope N_piece_places ["pieces"] (defScope s_piece_places) := ⟨rfl, rfl, rfl, by decide +kernel, rfl, by decide +kernel, by decide +kernel⟩
def b_piece_places : DL.Env → Out := (sSeq (sSet 1 (eLst aNil)) (sSeq (sFor (iA (eVar 0)) (gT 3 (gsCons (gN 2) (gsCons (gN 3) (gsCons (gN 4) gsNil)))) (sDrop (eMtO 1 gExtend (aCons (eLc (iR1 (aCons (eVar 3) aNil)) (gN 5) bYes (eOp gAdd (eVar 2) (eOp gMul (eVar 4) (eVar 5))) [5]) aNil)))) (sRet (eCB gTuple (aCons (eVar 1) aNil)))))
def d_piece_places : Den := mkF 6 0 b_piece_places
abbrev p_piece_places (K : PySem.W.Frag) (mg : Mg) : Sp := spD K mg (List.replicate 1 .pu) .pu d_piece_places
theorem ok_piece_places {P : Program} {w : World} {K : PySem.W.Frag} {mg : Mg} {base : Heap} {C_BadPiece C_DataError C_MoveError : Addr} (z : Zs mg) (x : Xs P K mg C_BadPiece C_DataError C_MoveError) {f : Addr} {fd : FuncData} (F : Fun K "piece_places" "piece_places" s_piece_places f fd) : FnOk P w K mg base (L2.CX P w) 2 f fd ["pieces"] (p_piece_places K mg) := by
  refine F.okX sc_piece_places (fun vs H Q E h => spD_len h) (fun cdv A outer s H vs Q E hr h => ?_)
  exact ⟨_, (pss_cons (ps_set (i := 1) sc_piece_places.nd rfl (by first | exact Or.inl rfl | exact Or.inr rfl) (pe_lst pa_nil)) (pss_cons (ps_for (passes_of rfl) rfl (pi_any (pv 0)) (pg_tup rfl (pgs_cons (pg_name (i := 2) sc_piece_places.nd rfl (by first | exact Or.inl rfl | exact Or.inr rfl)) (pgs_cons (pg_name (i := 3) sc_piece_places.nd rfl (by first | exact Or.inl rfl | exact Or.inr rfl)) (pgs_cons (pg_name (i := 4) sc_piece_places.nd rfl (by first | exact Or.inl rfl | exact Or.inr rfl)) pgs_nil)))) (pss_one (ps_expr (pe_bm PySem.F.plainAttrs_list PySem.F.slot_list_extend PySem.F.type_list_extend mt_extend (pv 1) (pa_cons (pe_lc (own := [("at", 5)]) rfl sc_piece_places.nd (pi_range1 rfl z.z_range (pa_cons (pv 3) pa_nil)) (blkOk_by (own := [("at", 5)]) (N := N_piece_places) (sc := defScope s_piece_places) (by decide +kernel)) (fun _ _ _ _ _ => (pg_name (i := 5) sc_piece_places.nd rfl (by first | exact Or.inl rfl | exact Or.inr rfl))) (fun _ _ _ _ _ => pts_nil) (fun _ _ _ _ _ => (pe_op opAdd (pv 2) (pe_op opMul (pv 4) (pv 5))))) pa_nil))))) (pss_one (ps_ret (pe_callTy callTuple rfl z.z_tuple rfl (pa_cons (pv 1) pa_nil)))))),
    fn_body (N := N_piece_places) (k := 0) (Γp := (List.replicate 1 .pu)) (sr := .pu) (fb := b_piece_places) (Γi := [.ls, .pu, .pu, .pu, .pu]) (Γ' := [.pu, .pu, .pu, .pu, .pu, .pu]) (by decide) rfl (.inl rfl) ⟨rfl, rfl⟩ (sok_seq (sok_setK ⟨rfl, rfl⟩ (np rfl) rfl (eok_lst aok_nil)) (sok_seq (sok_for ⟨rfl, rfl⟩ (np2 rfl) (iok_any (eok_var rfl)) (gok_tup (n := 3) (gsok_cons (gok_nameK (i := 2) rfl) (gsok_cons (gok_nameK (i := 3) rfl) (gsok_cons (gok_nameK (i := 4) rfl) gsok_nil)))) (sok_drop ⟨rfl, rfl⟩ (eok_mt mok_extend rfl (aok_cons (eok_frz (eok_lc (vs := [5]) (by decide) (iok_range1 (aok_cons (eok_var rfl) aok_nil)) (gok_nameK (i := 5) rfl) tok_yes (eok_op r2_add (eok_var rfl) (eok_op r2_mul (eok_var rfl) (eok_var rfl))))) aok_nil)))) (sok_frz (i := 1) rfl (sok_ret ⟨rfl, rfl⟩ (eok_cb c1_tuple (aok_cons (eok_var rfl) aok_nil)))))) h⟩
abbrev s_piece_word : Stmt := top 13
abbrev N_piece_word : List Str := ["length", "piece"]
theorem sc_piece_word : FnScope N_piece_word ["length", "piece"] (defScope s_piece_word) := ⟨rfl, rfl, rfl, by decide +kernel, rfl, by decide +kernel, by decide +kernel⟩
def b_piece_word : DL.Env → Out := (sSeq (sIf (tVal (eOp (gB0 fun i j => decide (i < j)) (eOp gIx (eVar 1) (eC (.int 1))) (eC (.int 1)))) (sRet (eC (.str "length"))) Out.nx) (sSeq (sIf (tVal (eOp gNi (eOp gIx (eVar 1) (eC (.int 2))) (eTup (aCons (eC (.int 1)) (aCons (eUn gNeg (eC (.int 1))) aNil))))) (sRet (eC (.str "step"))) Out.nx) (sSeq (sIf (bOr (bNot (tVal (eCall 3 d_is_within (aCons (eOp gIx (eVar 1) (eC (.int 0))) (aCons (eC (.int 0)) (aCons (eOp (gI0 fun i j => i - j) (eVar 0) (eC (.int 1))) aNil)))))) (bNot (tVal (eCall 3 d_is_within (aCons (eCall 1 d_last_place (aCons (eVar 1) aNil)) (aCons (eC (.int 0)) (aCons (eOp (gI0 fun i j => i - j) (eVar 0) (eC (.int 1))) aNil))))))) (sRet (eC (.str "place"))) Out.nx) (sRet (eC (.str ""))))))
def d_piece_word : Den := mkF 2 0 b_piece_word
abbrev p_piece_word (K : PySem.W.Frag) (mg : Mg) : Sp := spD K mg (List.replicate 2 .pu) .pu d_piece_word
theorem ok_piece_word {P : Program} {w : World} {K : PySem.W.Frag} {mg : Mg} {base : Heap} {C_BadPiece C_DataError C_MoveError : Addr} (z : Zs mg) (x : Xs P K mg C_BadPiece C_DataError C_MoveError) (g_is_within : Df P w K mg base "is_within" s_is_within ["thing", "least", "most"] 4 (p_is_within K mg)) (g_last_place : Df P w K mg base "last_place" s_last_place ["piece"] 2 (p_last_place K mg)) {f : Addr} {fd : FuncData} (F : Fun K "piece_word" "piece_word" s_piece_word f fd) : FnOk P w K mg base (L2.CX P w) 6 f fd ["length", "piece"] (p_piece_word K mg) := by
  refine F.okX sc_piece_word (fun vs H Q E h => spD_len h) (fun cdv A outer s H vs Q E hr h => ?_)
  exact ⟨_, (pss_cons (ps_if (pt_cmpR op_lt (pe_ix (ix_any (Room.u1 hr)) (pv 1) pe_int (fun _ _ => rfl)) pe_int (nomark _)) (pss_one (ps_ret pe_str)) pss_nil) (pss_cons (ps_if (pt_cmpR (opNi (Room.u65 hr)) (pe_ix (ix_any (Room.u1 hr)) (pv 1) pe_int (fun _ _ => rfl)) (pe_tup (pa_cons pe_int (pa_cons (pe_un un_neg pe_int) pa_nil))) (by with_unfolding_all rfl)) (pss_one (ps_ret pe_str)) pss_nil) (pss_cons (ps_if (PW.pt (pw_or (pt_not (pt_val (pe_df g_is_within (hr.mono (by decide)) rfl (takes_of rfl rfl rfl rfl) (pa_cons (pe_ix (ix_any (Room.u1 hr)) (pv 1) pe_int (fun _ _ => rfl)) (pa_cons pe_int (pa_cons (pe_op op_sub (pv 0) pe_int) pa_nil)))))) (pw_or1 (pt_not (pt_val (pe_df g_is_within (hr.mono (by decide)) rfl (takes_of rfl rfl rfl rfl) (pa_cons (pe_df g_last_place (hr.mono (by decide)) rfl (takes_of rfl rfl rfl rfl) (pa_cons (pv 1) pa_nil)) (pa_cons pe_int (pa_cons (pe_op op_sub (pv 0) pe_int) pa_nil))))))))) (pss_one (ps_ret pe_str)) pss_nil) (pss_one (ps_ret pe_str))))),
    fn_body (N := N_piece_word) (k := 0) (Γp := (List.replicate 2 .pu)) (sr := .pu) (fb := b_piece_word) (Γi := []) (Γ' := [.pu, .pu]) (by decide) rfl (.inl rfl) ⟨rfl, rfl⟩ (sok_seq (sok_if ⟨rfl, rfl⟩ (tok_test (eok_op r2_b0 (eok_op r2_ix (eok_var rfl) eok_int) eok_int)) (sok_ret ⟨rfl, rfl⟩ eok_str) sok_next) (sok_seq (sok_if ⟨rfl, rfl⟩ (tok_test (eok_op r2_ni (eok_op r2_ix (eok_var rfl) eok_int) (eok_tup (aok_cons eok_int (aok_cons (eok_un u1_neg eok_int) aok_nil))))) (sok_ret ⟨rfl, rfl⟩ eok_str) sok_next) (sok_seq (sok_if ⟨rfl, rfl⟩ (tok_or (tok_not (tok_b (eok_call (aok_cons (eok_op r2_ix (eok_var rfl) eok_int) (aok_cons eok_int (aok_cons (eok_op r2_i0 (eok_var rfl) eok_int) aok_nil)))))) (tok_not (tok_b (eok_call (aok_cons (eok_call (aok_cons (eok_var rfl) aok_nil)) (aok_cons eok_int (aok_cons (eok_op r2_i0 (eok_var rfl) eok_int) aok_nil))))))) (sok_ret ⟨rfl, rfl⟩ eok_str) sok_next) (sok_ret ⟨rfl, rfl⟩ eok_str)))) h⟩
abbrev s_check_pieces : Stmt := top 14
abbrev N_check_pieces : List Str := ["length", "thing", "at", "piece", "word", "one"]
theorem sc_check_pieces : FnScope N_check_pieces ["length", "thing"] (defScope s_check_pieces) := ⟨rfl, rfl, rfl, by decide +kernel, rfl, by decide +kernel, by decide +kernel⟩
def b_check_pieces : DL.Env → Out := (sSeq (sIf (bOr (bNot (tVal (eIsi isTup (eVar 1)))) (tVal (eOp (gB0 fun i j => decide (j < i)) (eCB gLen (aCons (eLc (iA (eVar 1)) (gN 5) (bOr (bNot (tVal (eCall 1 d_are_integers (aCons (eVar 5) aNil)))) (tVal (eOp gNe (eCB gLen (aCons (eVar 5) aNil)) (eC (.int 3))))) (eVar 5) [5]) aNil)) (eC (.int 0))))) (sRaise 2 ["at", "word"] (aCons (eUn gNeg (eC (.int 1))) (aCons (eC (.str "shape")) aNil))) Out.nx) (sSeq (sFor (iEn (aCons (eVar 1) aNil)) (gT 2 (gsCons (gN 2) (gsCons (gN 3) gsNil))) (sSeq (sSet 4 (eCall 2 d_piece_word (aCons (eVar 0) (aCons (eVar 3) aNil)))) (sIf (tVal (eOp gNe (eVar 4) (eC (.str "")))) (sRaise 2 ["at", "word"] (aCons (eVar 2) (aCons (eVar 4) aNil))) Out.nx))) (sRet (eCB gSum (aCons (eLc (iA (eVar 1)) (gN 3) bYes (eOp gIx (eVar 3) (eC (.int 1))) [3]) aNil)))))
def d_check_pieces : Den := mkF 6 0 b_check_pieces
abbrev p_check_pieces (K : PySem.W.Frag) (mg : Mg) : Sp := spD K mg (List.replicate 2 .pu) .pu d_check_pieces
theorem ok_check_pieces {P : Program} {w : World} {K : PySem.W.Frag} {mg : Mg} {base : Heap} {C_BadPiece C_DataError C_MoveError : Addr} (z : Zs mg) (x : Xs P K mg C_BadPiece C_DataError C_MoveError) (g_piece_word : Df P w K mg base "piece_word" s_piece_word ["length", "piece"] 6 (p_piece_word K mg)) (g_are_integers : Df P w K mg base "are_integers" s_are_integers ["thing"] 4 (p_are_integers K mg)) {f : Addr} {fd : FuncData} (F : Fun K "check_pieces" "check_pieces" s_check_pieces f fd) : FnOk P w K mg base (L2.CX P w) 8 f fd ["length", "thing"] (p_check_pieces K mg) := by
  refine F.okX sc_check_pieces (fun vs H Q E h => spD_len h) (fun cdv A outer s H vs Q E hr h => ?_)
  exact ⟨_, (pss_cons (ps_if (PW.pt (pw_or (pt_not (pt_val (pe_callB call_isi rfl z.z_isinstance rfl (pa_cons (pv 1) (pa_cons (pe_bltn (v := .ty "tuple") rfl z.z_tuple (by decide +kernel) rfl) pa_nil))))) (pw_or1 (pt_cmpR op_gt (pe_callB callLen rfl z.z_len rfl (pa_cons (pe_lc (own := [("one", 5)]) rfl sc_check_pieces.nd (pi_any (pv 1)) (blkOk_by (own := [("one", 5)]) (N := N_check_pieces) (sc := defScope s_check_pieces) (by decide +kernel)) (fun _ _ _ _ _ => (pg_name (i := 5) sc_check_pieces.nd rfl (by first | exact Or.inl rfl | exact Or.inr rfl))) (fun _ _ _ _ _ => (pts_one (PW.pt (pw_or (pt_not (pt_val (pe_df g_are_integers (hr.mono (by decide)) rfl takes0 (pa_cons (pv 5) pa_nil)))) (pw_or1 (pt_cmpR (opNe (Room.u64 hr)) (pe_callB callLen rfl z.z_len rfl (pa_cons (pv 5) pa_nil)) pe_int (nomark _))))))) (fun _ _ _ _ _ => (pv 5))) pa_nil)) pe_int (nomark _))))) (pss_one (ps_raise rfl (takes_of rfl rfl rfl rfl) (pmk_ex x.t_BadPiece (by decide) hr (pa_cons (pe_un un_neg pe_int) (pa_cons pe_str pa_nil)) rfl))) pss_nil) (pss_cons (ps_for (passes_of rfl) rfl (pi_enumA rfl z.z_enumerate (pa_cons (pv 1) pa_nil)) (pg_tup rfl (pgs_cons (pg_name (i := 2) sc_check_pieces.nd rfl (by first | exact Or.inl rfl | exact Or.inr rfl)) (pgs_cons (pg_name (i := 3) sc_check_pieces.nd rfl (by first | exact Or.inl rfl | exact Or.inr rfl)) pgs_nil))) (pss_cons (ps_set (i := 4) sc_check_pieces.nd rfl (by first | exact Or.inl rfl | exact Or.inr rfl) (pe_df g_piece_word (hr.mono (by decide)) rfl (takes_of rfl rfl rfl rfl) (pa_cons (pv 0) (pa_cons (pv 3) pa_nil)))) (pss_one (ps_if (pt_cmpR (opNe (Room.u64 hr)) (pv 4) pe_str (nomark _)) (pss_one (ps_raise rfl (takes_of rfl rfl rfl rfl) (pmk_ex x.t_BadPiece (by decide) hr (pa_cons (pv 2) (pa_cons (pv 4) pa_nil)) rfl))) pss_nil)))) (pss_one (ps_ret (pe_callB (callSum rfl) rfl z.z_sum rfl (pa_cons (pe_lc (own := [("piece", 3)]) rfl sc_check_pieces.nd (pi_any (pv 1)) (blkOk_by (own := [("piece", 3)]) (N := N_check_pieces) (sc := defScope s_check_pieces) (by decide +kernel)) (fun _ _ _ _ _ => (pg_name (i := 3) sc_check_pieces.nd rfl (by first | exact Or.inl rfl | exact Or.inr rfl))) (fun _ _ _ _ _ => pts_nil) (fun _ _ _ _ _ => (pe_ix (ix_any (Room.u1 hr)) (pv 3) pe_int (fun _ _ => rfl)))) pa_nil)))))),
    fn_body (N := N_check_pieces) (k := 0) (Γp := (List.replicate 2 .pu)) (sr := .pu) (fb := b_check_pieces) (Γi := [.pu, .pu, .pu, .pu]) (Γ' := [.pu, .pu, .pu, .pu, .pu, .pu]) (by decide) rfl (.inl rfl) ⟨rfl, rfl⟩ (sok_seq (sok_if ⟨rfl, rfl⟩ (tok_or (tok_not (tok_b (eok_isi ty_tup (eok_var rfl)))) (tok_test (eok_op r2_b0 (eok_cb c1_len (aok_cons (eok_frz (eok_lc (vs := [5]) (by decide) (iok_any (eok_var rfl)) (gok_nameK (i := 5) rfl) (tok_or (tok_not (tok_b (eok_call (aok_cons (eok_var rfl) aok_nil)))) (tok_test (eok_op r2_ne (eok_cb c1_len (aok_cons (eok_var rfl) aok_nil)) eok_int))) (eok_var rfl))) aok_nil)) eok_int))) (sok_raise (c := 2) x.t_BadPiece.gC ⟨rfl, rfl⟩ (aok_cons (eok_un u1_neg eok_int) (aok_cons eok_str aok_nil))) sok_next) (sok_seq (sok_for ⟨rfl, rfl⟩ (np2 rfl) (iok_enum (aok_cons (eok_var rfl) aok_nil)) (gok_tup (n := 2) (gsok_cons (gok_nameK (i := 2) rfl) (gsok_cons (gok_nameK (i := 3) rfl) gsok_nil))) (sok_seq (sok_setK ⟨rfl, rfl⟩ (np rfl) rfl (eok_call (aok_cons (eok_var rfl) (aok_cons (eok_var rfl) aok_nil)))) (sok_if ⟨rfl, rfl⟩ (tok_test (eok_op r2_ne (eok_var rfl) eok_str)) (sok_raise (c := 2) x.t_BadPiece.gC ⟨rfl, rfl⟩ (aok_cons (eok_var rfl) (aok_cons (eok_var rfl) aok_nil))) sok_next))) (sok_ret ⟨rfl, rfl⟩ (eok_cb c1_sum (aok_cons (eok_frz (eok_lc (vs := [3]) (by decide) (iok_any (eok_var rfl)) (gok_nameK (i := 3) rfl) tok_yes (eok_op r2_ix (eok_var rfl) eok_int))) aok_nil))))) h⟩
abbrev s_is_short : Stmt := top 15
abbrev N_is_short : List Str := ["pieces"]
theorem sc_is_short : FnScope N_is_short ["pieces"] (defScope s_is_short) := ⟨rfl, rfl, rfl, by decide +kernel, rfl, by decide +kernel, by decide +kernel⟩
def b_is_short : DL.Env → Out := (sRet (eOp gEq (eCall 1 d_short_row (aCons (eCall 1 d_piece_places (aCons (eVar 0) aNil)) aNil)) (eVar 0)))
def d_is_short : Den := mkF 1 0 b_is_short
abbrev p_is_short (K : PySem.W.Frag) (mg : Mg) : Sp := spD K mg (List.replicate 1 .pu) .pu d_is_short
theorem ok_is_short {P : Program} {w : World} {K : PySem.W.Frag} {mg : Mg} {base : Heap} {C_BadPiece C_DataError C_MoveError : Addr} (z : Zs mg) (x : Xs P K mg C_BadPiece C_DataError C_MoveError) (g_short_row : Df P w K mg base "short_row" s_short_row ["places"] 4 (p_short_row K mg)) (g_piece_places : Df P w K mg base "piece_places" s_piece_places ["pieces"] 2 (p_piece_places K mg)) {f : Addr} {fd : FuncData} (F : Fun K "is_short" "is_short" s_is_short f fd) : FnOk P w K mg base (L2.CX P w) 6 f fd ["pieces"] (p_is_short K mg) := by
  refine F.okX sc_is_short (fun vs H Q E h => spD_len h) (fun cdv A outer s H vs Q E hr h => ?_)
  exact ⟨_, (pss_one (ps_ret (pe_cmpR (opEq (Room.u64 hr)) (pe_df g_short_row (hr.mono (by decide)) rfl (takes_of rfl rfl rfl rfl) (pa_cons (pe_df g_piece_places (hr.mono (by decide)) rfl (takes_of rfl rfl rfl rfl) (pa_cons (pv 0) pa_nil)) pa_nil)) (pv 0) (nomark _)))),
    fn_body (N := N_is_short) (k := 0) (Γp := (List.replicate 1 .pu)) (sr := .pu) (fb := b_is_short) (Γi := []) (Γ' := [.pu]) (by decide) rfl (.inl rfl) ⟨rfl, rfl⟩ (sok_ret ⟨rfl, rfl⟩ (eok_op r2_eq (eok_call (aok_cons (eok_call (aok_cons (eok_var rfl) aok_nil)) aok_nil)) (eok_var rfl))) h⟩
abbrev s__law_pond : Stmt := top 17
abbrev N__law_pond : List Str := ["script", "digits", "whole", "cell", "size", "lap"]
theorem sc__law_pond : FnScope N__law_pond ["script"] (defScope s__law_pond) := ⟨rfl, rfl, rfl, by decide +kernel, rfl, by decide +kernel, by decide +kernel⟩
def b__law_pond : DL.Env → Out := (sSeq (sPar 1 2 (aCons (eLst aNil) (aCons (eC (.int 8009)) aNil))) (sSeq (sFor (iA (eSl gSl (eVar 0) pNo (pSo (eC (.int 44))))) (gN 3) (sSeq (sSet 4 (eOp (gIC CMod fun i j => i % j) (eCB gAbs (aCons (eCB gInt (aCons (eVar 3) aNil)) aNil)) (eOp (gIC CPow fun i j => i * 2 ^ j.toNat) (eC (.int 1)) (eC (.int 1600))))) (sSeq (sSet 2 (eOp (gIC CMod fun i j => i % j) (eOp gAdd (eOp gAdd (eOp gMul (eVar 2) (eC (.int 571))) (eOp (gIC CMod fun i j => i % j) (eVar 4) (eC (.int 1000409)))) (eC (.int 5))) (eC (.int 1999301)))) (sFor (iR1 (aCons (eC (.int 24)) aNil)) (gN 5) (sSeq (sDrop (eMtO 1 gAppend (aCons (eOp (gIC CMod fun i j => i % j) (eCB gInt (aCons (eVar 4) aNil)) (eC (.int 2027))) aNil))) (sSeq (sSet 4 (eOp (gIC CDiv fun i j => i / j) (eVar 4) (eC (.int 2027)))) (sIf (tVal (eOp gEq (eVar 4) (eC (.int 0)))) Out.bk Out.nx))))))) (sRet (eDisp [.inr "digits", .inr "at", .inr "whole"] (aCons (eOp gAdd (eVar 1) (eLst (aCons (eOp (gIC CMod fun i j => i % j) (eVar 2) (eC (.int 83))) (aCons (eC (.int 6)) aNil)))) (aCons (eC (.int 0)) (aCons (eVar 2) aNil)))))))
def d__law_pond : Den := mkF 6 0 b__law_pond
abbrev p__law_pond (K : PySem.W.Frag) (mg : Mg) : Sp := spD K mg (List.replicate 1 .pu) .ls d__law_pond
theorem ok__law_pond {P : Program} {w : World} {K : PySem.W.Frag} {mg : Mg} {base : Heap} {C_BadPiece C_DataError C_MoveError : Addr} (z : Zs mg) (x : Xs P K mg C_BadPiece C_DataError C_MoveError) {f : Addr} {fd : FuncData} (F : Fun K "_law_pond" "_law_pond" s__law_pond f fd) : FnOk P w K mg base (L2.CX P w) 2 f fd ["script"] (p__law_pond K mg) := by
  refine F.okX sc__law_pond (fun vs H Q E h => spD_len h) (fun cdv A outer s H vs Q E hr h => ?_)
  exact ⟨_, (pss_cons (ps_par (i := 1) (j := 2) rfl sc__law_pond.nd rfl rfl (by decide) rfl rfl (pa_cons (pe_lst pa_nil) (pa_cons pe_int pa_nil)) (by first | rfl | with_unfolding_all rfl)) (pss_cons (ps_for (passes_of rfl) rfl (pi_any (pe_slice slAny (pv 0) po_none (po_some pe_int))) (pg_name (i := 3) sc__law_pond.nd rfl (by first | exact Or.inl rfl | exact Or.inr rfl)) (pss_cons (ps_set (i := 4) sc__law_pond.nd rfl (by first | exact Or.inl rfl | exact Or.inr rfl) (pe_op op_mod (pe_callB callAbs rfl z.z_abs rfl (pa_cons (pe_callTy callInt rfl z.z_int rfl (pa_cons (pv 3) pa_nil)) pa_nil)) (pe_op op_shl pe_int pe_int))) (pss_cons (ps_set (i := 2) sc__law_pond.nd rfl (by first | exact Or.inl rfl | exact Or.inr rfl) (pe_op op_mod (pe_op opAdd (pe_op opAdd (pe_op opMul (pv 2) pe_int) (pe_op op_mod (pv 4) pe_int)) pe_int) pe_int)) (pss_one (ps_for (passes_of rfl) rfl (pi_range1 rfl z.z_range (pa_cons pe_int pa_nil)) (pg_name (i := 5) sc__law_pond.nd rfl (by first | exact Or.inl rfl | exact Or.inr rfl)) (pss_cons (ps_expr (pe_bm PySem.F.plainAttrs_list PySem.F.slot_list_append PySem.F.type_list_append mt_append (pv 1) (pa_cons (pe_op op_mod (pe_callTy callInt rfl z.z_int rfl (pa_cons (pv 4) pa_nil)) pe_int) pa_nil))) (pss_cons (ps_set (i := 4) sc__law_pond.nd rfl (by first | exact Or.inl rfl | exact Or.inr rfl) (pe_op op_fdiv (pv 4) pe_int)) (pss_one (ps_if (pt_cmpR (opEq (Room.u64 hr)) (pv 4) pe_int (nomark _)) (pss_one ps_break) pss_nil))))))))) (pss_one (ps_ret (pe_disp (pps_cons pe_str (pe_op opAdd (pv 1) (pe_lst (pa_cons (pe_op op_mod (pv 2) pe_int) (pa_cons pe_int pa_nil)))) (pps_cons pe_str pe_int (pps_cons pe_str (pv 2) pps_nil))) rfl rfl (List.cons_ne_nil _ _) (by decide)))))),
    fn_body (N := N__law_pond) (k := 0) (Γp := (List.replicate 1 .pu)) (sr := .ls) (fb := b__law_pond) (Γi := [.ls, .pu, .pu, .pu, .pu]) (Γ' := [.pu, .pu, .pu, .pu, .pu, .pu]) (by decide) rfl (.inr (nn_seq (nn_seq nn_ret))) ⟨rfl, rfl⟩ (sok_seq (sok_parS ⟨rfl, rfl⟩ (np rfl) (np rfl) (aoks_ls (eok_lst aok_nil) (aoks_pu eok_int aoks_nil))) (sok_seq (sok_for ⟨rfl, rfl⟩ (np2 rfl) (iok_any (eok_sl slok_any (eok_var rfl) pok_no (pok_so eok_int))) (gok_nameK (i := 3) rfl) (sok_seq (sok_setK ⟨rfl, rfl⟩ (np rfl) rfl (eok_op (r2_ic (c := CMod)) (eok_cb c1_abs (aok_cons (eok_cb c1_int (aok_cons (eok_var rfl) aok_nil)) aok_nil)) (eok_op (r2_ic (c := CPow)) eok_int eok_int))) (sok_seq (sok_setK ⟨rfl, rfl⟩ (np rfl) rfl (eok_op (r2_ic (c := CMod)) (eok_op r2_add (eok_op r2_add (eok_op r2_mul (eok_var rfl) eok_int) (eok_op (r2_ic (c := CMod)) (eok_var rfl) eok_int)) eok_int) eok_int)) (sok_for ⟨rfl, rfl⟩ (np2 rfl) (iok_range1 (aok_cons eok_int aok_nil)) (gok_nameK (i := 5) rfl) (sok_seq (sok_drop ⟨rfl, rfl⟩ (eok_mt mok_append rfl (aok_cons (eok_op (r2_ic (c := CMod)) (eok_cb c1_int (aok_cons (eok_var rfl) aok_nil)) eok_int) aok_nil))) (sok_seq (sok_setK ⟨rfl, rfl⟩ (np rfl) rfl (eok_op (r2_ic (c := CDiv)) (eok_var rfl) eok_int)) (sok_if ⟨rfl, rfl⟩ (tok_test (eok_op r2_eq (eok_var rfl) eok_int)) (sok_break rfl) sok_next))))))) (sok_frz (i := 1) rfl (sok_ret ⟨rfl, rfl⟩ (eok_disp (ks := [.inr "digits", .inr "at", .inr "whole"]) (by decide) (psok_cons (eok_op r2_add (eok_var rfl) (eok_frz (eok_lst (aok_cons (eok_op (r2_ic (c := CMod)) (eok_var rfl) eok_int) (aok_cons eok_int aok_nil))))) (psok_cons eok_int (psok_cons (eok_var rfl) psok_nil)))))))) h⟩
abbrev s__law_frog : Stmt := top 18
abbrev N__law_frog : List Str := ["pond", "many", "at"]
theorem sc__law_frog : FnScope N__law_frog ["pond", "many"] (defScope s__law_frog) := ⟨rfl, rfl, rfl, by decide +kernel, rfl, by decide +kernel, by decide +kernel⟩
def b__law_frog : DL.Env → Out := (sSeq (sSet 2 (eIxO 0 (eC (.str "at")))) (sSeq (sSetI 0 (eOp gAdd (eVar 2) (eC (.int 1))) (eC (.str "at"))) (sSeq (sSetI 0 (eOp (gIC CMod fun i j => i % j) (eCB gInt (aCons (eOp gAdd (eOp gAdd (eOp gAdd (eOp gMul (eIxO 0 (eC (.str "whole"))) (eC (.int 985))) (eOp gMul (eOp gIx (eIxO 0 (eC (.str "digits"))) (eOp (gIC CMod fun i j => i % j) (eVar 2) (eCB gLen (aCons (eIxO 0 (eC (.str "digits"))) aNil)))) (eC (.int 53)))) (eOp gMul (eVar 2) (eC (.int 37)))) (eC (.int 11))) aNil)) (eC (.int 1999301))) (eC (.str "whole"))) (sRet (eOp (gIC CMod fun i j => i % j) (eOp (gIC CDiv fun i j => i / j) (eCB gInt (aCons (eIxO 0 (eC (.str "whole"))) aNil)) (eC (.int 19))) (eVar 1))))))
def d__law_frog : Den := mkF 3 1 b__law_frog
abbrev p__law_frog (K : PySem.W.Frag) (mg : Mg) : Sp := spD K mg (.ls :: List.replicate 1 .pu) .pu d__law_frog
theorem ok__law_frog {P : Program} {w : World} {K : PySem.W.Frag} {mg : Mg} {base : Heap} {C_BadPiece C_DataError C_MoveError : Addr} (z : Zs mg) (x : Xs P K mg C_BadPiece C_DataError C_MoveError) {f : Addr} {fd : FuncData} (F : Fun K "_law_frog" "_law_frog" s__law_frog f fd) : FnOk P w K mg base (L2.CX P w) 2 f fd ["pond", "many"] (p__law_frog K mg) := by
  refine F.okX sc__law_frog (fun vs H Q E h => spD_len h) (fun cdv A outer s H vs Q E hr h => ?_)
  exact ⟨_, (pss_cons (ps_set (i := 2) sc__law_frog.nd rfl (by first | exact Or.inl rfl | exact Or.inr rfl) (pe_ix (ix_any (Room.u1 hr)) (pv 0) pe_str (fun _ _ => rfl))) (pss_cons (ps_asg (pe_op opAdd (pv 2) pe_int) (pg_sub (pv 0) pe_str (setAny (Room.u1 hr)))) (pss_cons (ps_asg (pe_op op_mod (pe_callTy callInt rfl z.z_int rfl (pa_cons (pe_op opAdd (pe_op opAdd (pe_op opAdd (pe_op opMul (pe_ix (ix_any (Room.u1 hr)) (pv 0) pe_str (fun _ _ => rfl)) pe_int) (pe_op opMul (pe_ix (ix_any (Room.u1 hr)) (pe_ix (ix_any (Room.u1 hr)) (pv 0) pe_str (fun _ _ => rfl)) (pe_op op_mod (pv 2) (pe_callB callLen rfl z.z_len rfl (pa_cons (pe_ix (ix_any (Room.u1 hr)) (pv 0) pe_str (fun _ _ => rfl)) pa_nil))) (fun _ _ => rfl)) pe_int)) (pe_op opMul (pv 2) pe_int)) pe_int) pa_nil)) pe_int) (pg_sub (pv 0) pe_str (setAny (Room.u1 hr)))) (pss_one (ps_ret (pe_op op_mod (pe_op op_fdiv (pe_callTy callInt rfl z.z_int rfl (pa_cons (pe_ix (ix_any (Room.u1 hr)) (pv 0) pe_str (fun _ _ => rfl)) pa_nil)) pe_int) (pv 1))))))),
    fn_body (N := N__law_frog) (k := 1) (Γp := (.ls :: List.replicate 1 .pu)) (sr := .pu) (fb := b__law_frog) (Γi := [.pu]) (Γ' := [.ls, .pu, .pu]) (by decide) rfl (.inl rfl) ⟨rfl, rfl⟩ (sok_seq (sok_setK ⟨rfl, rfl⟩ (np rfl) rfl (eok_ixO rfl eok_str)) (sok_seq (sok_seti ⟨rfl, rfl⟩ rfl (eok_op r2_add (eok_var rfl) eok_int) eok_str) (sok_seq (sok_seti ⟨rfl, rfl⟩ rfl (eok_op (r2_ic (c := CMod)) (eok_cb c1_int (aok_cons (eok_op r2_add (eok_op r2_add (eok_op r2_add (eok_op r2_mul (eok_ixO rfl eok_str) eok_int) (eok_op r2_mul (eok_op r2_ix (eok_ixO rfl eok_str) (eok_op (r2_ic (c := CMod)) (eok_var rfl) (eok_cb c1_len (aok_cons (eok_ixO rfl eok_str) aok_nil)))) eok_int)) (eok_op r2_mul (eok_var rfl) eok_int)) eok_int) aok_nil)) eok_int) eok_str) (sok_ret ⟨rfl, rfl⟩ (eok_op (r2_ic (c := CMod)) (eok_op (r2_ic (c := CDiv)) (eok_cb c1_int (aok_cons (eok_ixO rfl eok_str) aok_nil)) eok_int) (eok_var rfl)))))) h⟩
abbrev s__law_same : Stmt := top 19
abbrev N__law_same : List Str := ["told", "due", "pairs", "lap", "one", "other"]
theorem sc__law_same : FnScope N__law_same ["told", "due"] (defScope s__law_same) := ⟨rfl, rfl, rfl, by decide +kernel, rfl, by decide +kernel, by decide +kernel⟩
def b__law_same : DL.Env → Out := (sSeq (sSet 2 (eLst (aCons (eTup (aCons (eVar 0) (aCons (eVar 1) aNil))) aNil))) (sSeq (sFor (iR1 (aCons (eC (.int 300000)) aNil)) (gN 3) (sSeq (sIf (tVal (eOp gEq (eView (eCB gLen (aCons (eVar 2) aNil))) (eC (.int 0)))) (sRet (eC (.bl true))) Out.nx) (sSeq (sAsg (eMtO 2 gPop aNil) (gT 2 (gsCons (gN 4) (gsCons (gN 5) gsNil)))) (sIf (tVal (eIsi isTup (eVar 5))) (sSeq (sIf (bOr (bNot (tVal (eIsi isTup (eVar 4)))) (tVal (eOp gNe (eCB gLen (aCons (eVar 4) aNil)) (eCB gLen (aCons (eVar 5) aNil))))) (sRet (eC (.bl false))) Out.nx) (sDrop (eMtO 2 gExtend (aCons (eListZ (aCons (eVar 4) (aCons (eVar 5) aNil))) aNil)))) (sIf (bOr (tVal (eOp gIsN (eVar 5) (eC .non))) (tVal (eOp gIsN (eVar 4) (eC .non)))) (sIf (bOr (tVal (eOp gNotN (eVar 4) (eC .non))) (tVal (eOp gNotN (eVar 5) (eC .non)))) (sRet (eC (.bl false))) Out.nx) (sIf (bOr (tVal (eIsi isStr (eVar 5))) (tVal (eIsi isStr (eVar 4)))) (sIf (bOr (bNot (tVal (eIsi isStr (eVar 5)))) (bOr (bNot (tVal (eIsi isStr (eVar 4)))) (tVal (eOp gNe (eVar 4) (eVar 5))))) (sRet (eC (.bl false))) Out.nx) (sIf (bOr (tVal (eOp gNe (eIsi isBl (eVar 5)) (eIsi isBl (eVar 4)))) (bOr (bNot (tVal (eIsi isInt (eVar 4)))) (tVal (eOp gNe (eVar 4) (eVar 5))))) (sRet (eC (.bl false))) Out.nx))))))) (sRet (eC (.bl false)))))
def d__law_same : Den := mkF 6 0 b__law_same
abbrev p__law_same (K : PySem.W.Frag) (mg : Mg) : Sp := spD K mg (List.replicate 2 .pu) .pu d__law_same
theorem ok__law_same {P : Program} {w : World} {K : PySem.W.Frag} {mg : Mg} {base : Heap} {C_BadPiece C_DataError C_MoveError : Addr} (z : Zs mg) (x : Xs P K mg C_BadPiece C_DataError C_MoveError) {f : Addr} {fd : FuncData} (F : Fun K "_law_same" "_law_same" s__law_same f fd) : FnOk P w K mg base (L2.CX P w) 2 f fd ["told", "due"] (p__law_same K mg) := by
  refine F.okX sc__law_same (fun vs H Q E h => spD_len h) (fun cdv A outer s H vs Q E hr h => ?_)
  exact ⟨_, (pss_cons (ps_set (i := 2) sc__law_same.nd rfl (by first | exact Or.inl rfl | exact Or.inr rfl) (pe_lst (pa_cons (pe_tup (pa_cons (pv 0) (pa_cons (pv 1) pa_nil))) pa_nil))) (pss_cons (ps_for (passes_of rfl) rfl (pi_range1 rfl z.z_range (pa_cons pe_int pa_nil)) (pg_name (i := 3) sc__law_same.nd rfl (by first | exact Or.inl rfl | exact Or.inr rfl)) (pss_cons (ps_if (pt_cmpR (opEq (Room.u64 hr)) (pe_callB callLen rfl z.z_len rfl (pa_cons (pv 2) pa_nil)) pe_int (nomark _)) (pss_one (ps_ret pe_bl)) pss_nil) (pss_cons (ps_asg (pe_bm0 PySem.F.plainAttrs_list PySem.F.slot_list_pop PySem.F.type_list_pop mt_pop (pv 2)) (pg_tup rfl (pgs_cons (pg_name (i := 4) sc__law_same.nd rfl (by first | exact Or.inl rfl | exact Or.inr rfl)) (pgs_cons (pg_name (i := 5) sc__law_same.nd rfl (by first | exact Or.inl rfl | exact Or.inr rfl)) pgs_nil)))) (pss_one (ps_if (pt_val (pe_callB call_isi rfl z.z_isinstance rfl (pa_cons (pv 5) (pa_cons (pe_bltn (v := .ty "tuple") rfl z.z_tuple (by decide +kernel) rfl) pa_nil)))) (pss_cons (ps_if (PW.pt (pw_or (pt_not (pt_val (pe_callB call_isi rfl z.z_isinstance rfl (pa_cons (pv 4) (pa_cons (pe_bltn (v := .ty "tuple") rfl z.z_tuple (by decide +kernel) rfl) pa_nil))))) (pw_or1 (pt_cmpR (opNe (Room.u64 hr)) (pe_callB callLen rfl z.z_len rfl (pa_cons (pv 4) pa_nil)) (pe_callB callLen rfl z.z_len rfl (pa_cons (pv 5) pa_nil)) (nomark _))))) (pss_one (ps_ret pe_bl)) pss_nil) (pss_one (ps_expr (pe_bm PySem.F.plainAttrs_list PySem.F.slot_list_extend PySem.F.type_list_extend mt_extend (pv 2) (pa_cons (pe_listZ rfl rfl z.z_zip rfl z.z_list (pa_cons (pv 4) (pa_cons (pv 5) pa_nil))) pa_nil))))) (pss_one (ps_if (PW.pt (pw_or (pt_cmpR opIsN (pv 5) pe_non (nomark _)) (pw_or1 (pt_cmpR opIsN (pv 4) pe_non (nomark _))))) (pss_one (ps_if (PW.pt (pw_or (pt_cmpR opNotN (pv 4) pe_non (nomark _)) (pw_or1 (pt_cmpR opNotN (pv 5) pe_non (nomark _))))) (pss_one (ps_ret pe_bl)) pss_nil)) (pss_one (ps_if (PW.pt (pw_or (pt_val (pe_callB call_isi rfl z.z_isinstance rfl (pa_cons (pv 5) (pa_cons (pe_bltn (v := .ty "str") rfl z.z_str (by decide +kernel) rfl) pa_nil)))) (pw_or1 (pt_val (pe_callB call_isi rfl z.z_isinstance rfl (pa_cons (pv 4) (pa_cons (pe_bltn (v := .ty "str") rfl z.z_str (by decide +kernel) rfl) pa_nil))))))) (pss_one (ps_if (PW.pt (pw_or (pt_not (pt_val (pe_callB call_isi rfl z.z_isinstance rfl (pa_cons (pv 5) (pa_cons (pe_bltn (v := .ty "str") rfl z.z_str (by decide +kernel) rfl) pa_nil))))) (pw_or (pt_not (pt_val (pe_callB call_isi rfl z.z_isinstance rfl (pa_cons (pv 4) (pa_cons (pe_bltn (v := .ty "str") rfl z.z_str (by decide +kernel) rfl) pa_nil))))) (pw_or1 (pt_cmpR (opNe (Room.u64 hr)) (pv 4) (pv 5) (nomark _)))))) (pss_one (ps_ret pe_bl)) pss_nil)) (pss_one (ps_if (PW.pt (pw_or (pt_cmpR (opNe (Room.u64 hr)) (pe_callB call_isi rfl z.z_isinstance rfl (pa_cons (pv 5) (pa_cons (pe_bltn (v := .ty "bool") rfl z.z_bool (by decide +kernel) rfl) pa_nil))) (pe_callB call_isi rfl z.z_isinstance rfl (pa_cons (pv 4) (pa_cons (pe_bltn (v := .ty "bool") rfl z.z_bool (by decide +kernel) rfl) pa_nil))) (nomark _)) (pw_or (pt_not (pt_val (pe_callB call_isi rfl z.z_isinstance rfl (pa_cons (pv 4) (pa_cons (pe_bltn (v := .ty "int") rfl z.z_int (by decide +kernel) rfl) pa_nil))))) (pw_or1 (pt_cmpR (opNe (Room.u64 hr)) (pv 4) (pv 5) (nomark _)))))) (pss_one (ps_ret pe_bl)) pss_nil))))))))))) (pss_one (ps_ret pe_bl)))),
    fn_body (N := N__law_same) (k := 0) (Γp := (List.replicate 2 .pu)) (sr := .pu) (fb := b__law_same) (Γi := [.ls, .pu, .pu, .pu]) (Γ' := [.pu, .pu, .ls, .pu, .pu, .pu]) (by decide) rfl (.inl rfl) ⟨rfl, rfl⟩ (sok_seq (sok_setK ⟨rfl, rfl⟩ (np rfl) rfl (eok_lst (aok_cons (eok_tup (aok_cons (eok_var rfl) (aok_cons (eok_var rfl) aok_nil))) aok_nil))) (sok_seq (sok_for ⟨rfl, rfl⟩ (np2 rfl) (iok_range1 (aok_cons eok_int aok_nil)) (gok_nameK (i := 3) rfl) (sok_seq (sok_if ⟨rfl, rfl⟩ (tok_test (eok_op r2_eq (eok_view (eok_cb c1_len (aok_cons (eok_var rfl) aok_nil))) eok_int)) (sok_ret ⟨rfl, rfl⟩ eok_bl) sok_next) (sok_seq (sok_asg ⟨rfl, rfl⟩ (np2 rfl) (eok_mt0 mok_pop rfl) (gok_tup (n := 2) (gsok_cons (gok_nameK (i := 4) rfl) (gsok_cons (gok_nameK (i := 5) rfl) gsok_nil)))) (sok_if ⟨rfl, rfl⟩ (tok_b (eok_isi ty_tup (eok_var rfl))) (sok_seq (sok_if ⟨rfl, rfl⟩ (tok_or (tok_not (tok_b (eok_isi ty_tup (eok_var rfl)))) (tok_test (eok_op r2_ne (eok_cb c1_len (aok_cons (eok_var rfl) aok_nil)) (eok_cb c1_len (aok_cons (eok_var rfl) aok_nil))))) (sok_ret ⟨rfl, rfl⟩ eok_bl) sok_next) (sok_drop ⟨rfl, rfl⟩ (eok_mt mok_extend rfl (aok_cons (eok_frz (eok_listZ (aok_cons (eok_var rfl) (aok_cons (eok_var rfl) aok_nil)))) aok_nil)))) (sok_if ⟨rfl, rfl⟩ (tok_or (tok_test (eok_op r2_isN (eok_var rfl) eok_non)) (tok_test (eok_op r2_isN (eok_var rfl) eok_non))) (sok_if ⟨rfl, rfl⟩ (tok_or (tok_test (eok_op r2_notN (eok_var rfl) eok_non)) (tok_test (eok_op r2_notN (eok_var rfl) eok_non))) (sok_ret ⟨rfl, rfl⟩ eok_bl) sok_next) (sok_if ⟨rfl, rfl⟩ (tok_or (tok_b (eok_isi ty_str (eok_var rfl))) (tok_b (eok_isi ty_str (eok_var rfl)))) (sok_if ⟨rfl, rfl⟩ (tok_or (tok_not (tok_b (eok_isi ty_str (eok_var rfl)))) (tok_or (tok_not (tok_b (eok_isi ty_str (eok_var rfl)))) (tok_test (eok_op r2_ne (eok_var rfl) (eok_var rfl))))) (sok_ret ⟨rfl, rfl⟩ eok_bl) sok_next) (sok_if ⟨rfl, rfl⟩ (tok_or (tok_test (eok_op r2_ne (eok_isi ty_bl (eok_var rfl)) (eok_isi ty_bl (eok_var rfl)))) (tok_or (tok_not (tok_b (eok_isi ty_int (eok_var rfl)))) (tok_test (eok_op r2_ne (eok_var rfl) (eok_var rfl))))) (sok_ret ⟨rfl, rfl⟩ eok_bl) sok_next))))))) (sok_ret ⟨rfl, rfl⟩ eok_bl))) h⟩
abbrev s__law_short : Stmt := top 20
abbrev N__law_short : List Str := ["places", "told", "at", "lap", "step", "end", "more"]
theorem sc__law_short : FnScope N__law_short ["places"] (defScope s__law_short) := ⟨rfl, rfl, rfl, by decide +kernel, rfl, by decide +kernel, by decide +kernel⟩
def b__law_short : DL.Env → Out := (sSeq (sPar 1 2 (aCons (eLst aNil) (aCons (eC (.int 0)) aNil))) (sSeq (sFor (iR1 (aCons (eCB gLen (aCons (eVar 0) aNil)) aNil)) (gN 3) (sSeq (sIf (tVal (eOp (gB0 fun i j => decide (j ≤ i)) (eVar 2) (eCB gLen (aCons (eVar 0) aNil)))) Out.bk Out.nx) (sSeq (sPar 4 5 (aCons (eC (.int 1)) (aCons (eOp gAdd (eVar 2) (eC (.int 1))) aNil))) (sSeq (sIf (bAnd (tVal (eOp (gB0 fun i j => decide (i < j)) (eVar 5) (eCB gLen (aCons (eVar 0) aNil)))) (tVal (eOp gIn (eOp (gI0 fun i j => i - j) (eOp gIx (eVar 0) (eVar 5)) (eOp gIx (eVar 0) (eVar 2))) (eTup (aCons (eC (.int 1)) (aCons (eUn gNeg (eC (.int 1))) aNil)))))) (sSeq (sSet 4 (eOp (gI0 fun i j => i - j) (eOp gIx (eVar 0) (eVar 5)) (eOp gIx (eVar 0) (eVar 2)))) (sFor (iR2 (aCons (eVar 5) (aCons (eCB gLen (aCons (eVar 0) aNil)) aNil))) (gN 6) (sSeq (sIf (tVal (eOp gNe (eOp (gI0 fun i j => i - j) (eOp gIx (eVar 0) (eVar 6)) (eOp gIx (eVar 0) (eOp (gI0 fun i j => i - j) (eVar 6) (eC (.int 1))))) (eVar 4))) Out.bk Out.nx) (sSet 5 (eOp gAdd (eVar 6) (eC (.int 1))))))) Out.nx) (sSeq (sDrop (eMtO 1 gAppend (aCons (eTup (aCons (eOp gIx (eVar 0) (eVar 2)) (aCons (eOp (gI0 fun i j => i - j) (eVar 5) (eVar 2)) (aCons (eVar 4) aNil)))) aNil))) (sSet 2 (eVar 5))))))) (sRet (eCB gTuple (aCons (eVar 1) aNil)))))
def d__law_short : Den := mkF 7 0 b__law_short
abbrev p__law_short (K : PySem.W.Frag) (mg : Mg) : Sp := spD K mg (List.replicate 1 .pu) .pu d__law_short
theorem ok__law_short {P : Program} {w : World} {K : PySem.W.Frag} {mg : Mg} {base : Heap} {C_BadPiece C_DataError C_MoveError : Addr} (z : Zs mg) (x : Xs P K mg C_BadPiece C_DataError C_MoveError) {f : Addr} {fd : FuncData} (F : Fun K "_law_short" "_law_short" s__law_short f fd) : FnOk P w K mg base (L2.CX P w) 2 f fd ["places"] (p__law_short K mg) := by
  refine F.okX sc__law_short (fun vs H Q E h => spD_len h) (fun cdv A outer s H vs Q E hr h => ?_)
  exact ⟨_, (pss_cons (ps_par (i := 1) (j := 2) rfl sc__law_short.nd rfl rfl (by decide) rfl rfl (pa_cons (pe_lst pa_nil) (pa_cons pe_int pa_nil)) (by first | rfl | with_unfolding_all rfl)) (pss_cons (ps_for (passes_of rfl) rfl (pi_range1 rfl z.z_range (pa_cons (pe_callB callLen rfl z.z_len rfl (pa_cons (pv 0) pa_nil)) pa_nil)) (pg_name (i := 3) sc__law_short.nd rfl (by first | exact Or.inl rfl | exact Or.inr rfl)) (pss_cons (ps_if (pt_cmpR op_ge (pv 2) (pe_callB callLen rfl z.z_len rfl (pa_cons (pv 0) pa_nil)) (nomark _)) (pss_one ps_break) pss_nil) (pss_cons (ps_par (i := 4) (j := 5) rfl sc__law_short.nd rfl rfl (by decide) rfl rfl (pa_cons pe_int (pa_cons (pe_op opAdd (pv 2) pe_int) pa_nil)) (by first | rfl | with_unfolding_all rfl)) (pss_cons (ps_if (PW.pt (pw_and (pt_cmpR op_lt (pv 5) (pe_callB callLen rfl z.z_len rfl (pa_cons (pv 0) pa_nil)) (nomark _)) (pw_and1 (pt_cmpR (opIn (Room.u65 hr)) (pe_op op_sub (pe_ix (ix_any (Room.u1 hr)) (pv 0) (pv 5) (fun _ _ => rfl)) (pe_ix (ix_any (Room.u1 hr)) (pv 0) (pv 2) (fun _ _ => rfl))) (pe_tup (pa_cons pe_int (pa_cons (pe_un un_neg pe_int) pa_nil))) (by with_unfolding_all rfl))))) (pss_cons (ps_set (i := 4) sc__law_short.nd rfl (by first | exact Or.inl rfl | exact Or.inr rfl) (pe_op op_sub (pe_ix (ix_any (Room.u1 hr)) (pv 0) (pv 5) (fun _ _ => rfl)) (pe_ix (ix_any (Room.u1 hr)) (pv 0) (pv 2) (fun _ _ => rfl)))) (pss_one (ps_for (passes_of rfl) rfl (pi_range2 rfl z.z_range (pa_cons (pv 5) (pa_cons (pe_callB callLen rfl z.z_len rfl (pa_cons (pv 0) pa_nil)) pa_nil))) (pg_name (i := 6) sc__law_short.nd rfl (by first | exact Or.inl rfl | exact Or.inr rfl)) (pss_cons (ps_if (pt_cmpR (opNe (Room.u64 hr)) (pe_op op_sub (pe_ix (ix_any (Room.u1 hr)) (pv 0) (pv 6) (fun _ _ => rfl)) (pe_ix (ix_any (Room.u1 hr)) (pv 0) (pe_op op_sub (pv 6) pe_int) (fun _ _ => rfl))) (pv 4) (nomark _)) (pss_one ps_break) pss_nil) (pss_one (ps_set (i := 5) sc__law_short.nd rfl (by first | exact Or.inl rfl | exact Or.inr rfl) (pe_op opAdd (pv 6) pe_int))))))) pss_nil) (pss_cons (ps_expr (pe_bm PySem.F.plainAttrs_list PySem.F.slot_list_append PySem.F.type_list_append mt_append (pv 1) (pa_cons (pe_tup (pa_cons (pe_ix (ix_any (Room.u1 hr)) (pv 0) (pv 2) (fun _ _ => rfl)) (pa_cons (pe_op op_sub (pv 5) (pv 2)) (pa_cons (pv 4) pa_nil)))) pa_nil))) (pss_one (ps_set (i := 2) sc__law_short.nd rfl (by first | exact Or.inl rfl | exact Or.inr rfl) (pv 5)))))))) (pss_one (ps_ret (pe_callTy callTuple rfl z.z_tuple rfl (pa_cons (pv 1) pa_nil)))))),
    fn_body (N := N__law_short) (k := 0) (Γp := (List.replicate 1 .pu)) (sr := .pu) (fb := b__law_short) (Γi := [.ls, .pu, .pu, .pu, .pu, .pu]) (Γ' := [.pu, .pu, .pu, .pu, .pu, .pu, .pu]) (by decide) rfl (.inl rfl) ⟨rfl, rfl⟩ (sok_seq (sok_parS ⟨rfl, rfl⟩ (np rfl) (np rfl) (aoks_ls (eok_lst aok_nil) (aoks_pu eok_int aoks_nil))) (sok_seq (sok_for ⟨rfl, rfl⟩ (np2 rfl) (iok_range1 (aok_cons (eok_cb c1_len (aok_cons (eok_var rfl) aok_nil)) aok_nil)) (gok_nameK (i := 3) rfl) (sok_seq (sok_if ⟨rfl, rfl⟩ (tok_test (eok_op r2_b0 (eok_var rfl) (eok_cb c1_len (aok_cons (eok_var rfl) aok_nil)))) (sok_break rfl) sok_next) (sok_seq (sok_parK ⟨rfl, rfl⟩ (np rfl) (np rfl) rfl rfl (aok_cons eok_int (aok_cons (eok_op r2_add (eok_var rfl) eok_int) aok_nil))) (sok_seq (sok_if ⟨rfl, rfl⟩ (tok_and (tok_test (eok_op r2_b0 (eok_var rfl) (eok_cb c1_len (aok_cons (eok_var rfl) aok_nil)))) (tok_test (eok_op r2_in (eok_op r2_i0 (eok_op r2_ix (eok_var rfl) (eok_var rfl)) (eok_op r2_ix (eok_var rfl) (eok_var rfl))) (eok_tup (aok_cons eok_int (aok_cons (eok_un u1_neg eok_int) aok_nil)))))) (sok_seq (sok_setK ⟨rfl, rfl⟩ (np rfl) rfl (eok_op r2_i0 (eok_op r2_ix (eok_var rfl) (eok_var rfl)) (eok_op r2_ix (eok_var rfl) (eok_var rfl)))) (sok_for ⟨rfl, rfl⟩ (np2 rfl) (iok_range2 (aok_cons (eok_var rfl) (aok_cons (eok_cb c1_len (aok_cons (eok_var rfl) aok_nil)) aok_nil))) (gok_nameK (i := 6) rfl) (sok_seq (sok_if ⟨rfl, rfl⟩ (tok_test (eok_op r2_ne (eok_op r2_i0 (eok_op r2_ix (eok_var rfl) (eok_var rfl)) (eok_op r2_ix (eok_var rfl) (eok_op r2_i0 (eok_var rfl) eok_int))) (eok_var rfl))) (sok_break rfl) sok_next) (sok_setK ⟨rfl, rfl⟩ (np rfl) rfl (eok_op r2_add (eok_var rfl) eok_int))))) sok_next) (sok_seq (sok_drop ⟨rfl, rfl⟩ (eok_mt mok_append rfl (aok_cons (eok_tup (aok_cons (eok_op r2_ix (eok_var rfl) (eok_var rfl)) (aok_cons (eok_op r2_i0 (eok_var rfl) (eok_var rfl)) (aok_cons (eok_var rfl) aok_nil)))) aok_nil))) (sok_setK ⟨rfl, rfl⟩ (np rfl) rfl (eok_var rfl))))))) (sok_frz (i := 1) rfl (sok_ret ⟨rfl, rfl⟩ (eok_cb c1_tuple (aok_cons (eok_var rfl) aok_nil)))))) h⟩
abbrev s__law_places : Stmt := top 21
abbrev N__law_places : List Str := ["pond", "told", "lap", "way", "long", "more", "here"]
theorem sc__law_places : FnScope N__law_places ["pond"] (defScope s__law_places) := ⟨rfl, rfl, rfl, by decide +kernel, rfl, by decide +kernel, by decide +kernel⟩
def b__law_places : DL.Env → Out := (sSeq (sSet 1 (eLst (aCons (eCallO 0 1 d__law_frog (aCons (eC (.int 9)) aNil)) aNil))) (sSeq (sFor (iR1 (aCons (eCallO 0 1 d__law_frog (aCons (eC (.int 5)) aNil)) aNil)) (gN 2) (sSeq (sPar 3 4 (aCons (eCallO 0 1 d__law_frog (aCons (eC (.int 5)) aNil)) (aCons (eCallO 0 1 d__law_frog (aCons (eC (.int 4)) aNil)) aNil))) (sFor (iR1 (aCons (eVar 4) aNil)) (gN 5) (sSeq (sSet 6 (eIxO 1 (eUn gNeg (eC (.int 1))))) (sDrop (eMtO 1 gAppend (aCons (eIf (tVal (eOp gEq (eVar 3) (eC (.int 0)))) (eOp gAdd (eVar 6) (eC (.int 1))) (eIf (tVal (eOp gEq (eVar 3) (eC (.int 1)))) (eCB gMaxA (aCons (eC (.int 0)) (aCons (eOp (gI0 fun i j => i - j) (eVar 6) (eC (.int 1))) aNil))) (eIf (tVal (eOp gEq (eVar 3) (eC (.int 2)))) (eVar 6) (eCallO 0 1 d__law_frog (aCons (eC (.int 12)) aNil))))) aNil))))))) (sRet (eSl gSl (eCB gTuple (aCons (eVar 1) aNil)) (pSo (eOp gMul (eCallO 0 1 d__law_frog (aCons (eC (.int 2)) aNil)) (eCallO 0 1 d__law_frog (aCons (eC (.int 2)) aNil)))) pNo))))
def d__law_places : Den := mkF 7 1 b__law_places
abbrev p__law_places (K : PySem.W.Frag) (mg : Mg) : Sp := spD K mg (.ls :: List.replicate 0 .pu) .pu d__law_places
theorem ok__law_places {P : Program} {w : World} {K : PySem.W.Frag} {mg : Mg} {base : Heap} {C_BadPiece C_DataError C_MoveError : Addr} (z : Zs mg) (x : Xs P K mg C_BadPiece C_DataError C_MoveError) (g__law_frog : Df P w K mg base "_law_frog" s__law_frog ["pond", "many"] 2 (p__law_frog K mg)) {f : Addr} {fd : FuncData} (F : Fun K "_law_places" "_law_places" s__law_places f fd) : FnOk P w K mg base (L2.CX P w) 4 f fd ["pond"] (p__law_places K mg) := by
  refine F.okX sc__law_places (fun vs H Q E h => spD_len h) (fun cdv A outer s H vs Q E hr h => ?_)
  exact ⟨_, (pss_cons (ps_set (i := 1) sc__law_places.nd rfl (by first | exact Or.inl rfl | exact Or.inr rfl) (pe_lst (pa_cons (pe_df g__law_frog (hr.mono (by decide)) rfl (takes_of rfl rfl rfl rfl) (pa_cons (pv 0) (pa_cons pe_int pa_nil))) pa_nil))) (pss_cons (ps_for (passes_of rfl) rfl (pi_range1 rfl z.z_range (pa_cons (pe_df g__law_frog (hr.mono (by decide)) rfl (takes_of rfl rfl rfl rfl) (pa_cons (pv 0) (pa_cons pe_int pa_nil))) pa_nil)) (pg_name (i := 2) sc__law_places.nd rfl (by first | exact Or.inl rfl | exact Or.inr rfl)) (pss_cons (ps_par (i := 3) (j := 4) rfl sc__law_places.nd rfl rfl (by decide) rfl rfl (pa_cons (pe_df g__law_frog (hr.mono (by decide)) rfl (takes_of rfl rfl rfl rfl) (pa_cons (pv 0) (pa_cons pe_int pa_nil))) (pa_cons (pe_df g__law_frog (hr.mono (by decide)) rfl (takes_of rfl rfl rfl rfl) (pa_cons (pv 0) (pa_cons pe_int pa_nil))) pa_nil)) (by first | rfl | with_unfolding_all rfl)) (pss_one (ps_for (passes_of rfl) rfl (pi_range1 rfl z.z_range (pa_cons (pv 4) pa_nil)) (pg_name (i := 5) sc__law_places.nd rfl (by first | exact Or.inl rfl | exact Or.inr rfl)) (pss_cons (ps_set (i := 6) sc__law_places.nd rfl (by first | exact Or.inl rfl | exact Or.inr rfl) (pe_ix (ix_any (Room.u1 hr)) (pv 1) (pe_un un_neg pe_int) (fun _ _ => rfl))) (pss_one (ps_expr (pe_bm PySem.F.plainAttrs_list PySem.F.slot_list_append PySem.F.type_list_append mt_append (pv 1) (pa_cons (pe_ifExp (pt_cmpR (opEq (Room.u64 hr)) (pv 3) pe_int (nomark _)) (pe_op opAdd (pv 6) pe_int) (pe_ifExp (pt_cmpR (opEq (Room.u64 hr)) (pv 3) pe_int (nomark _)) (pe_callB (callMaxA (Room.u1 hr) rfl) rfl z.z_max rfl (pa_cons pe_int (pa_cons (pe_op op_sub (pv 6) pe_int) pa_nil))) (pe_ifExp (pt_cmpR (opEq (Room.u64 hr)) (pv 3) pe_int (nomark _)) (pv 6) (pe_df g__law_frog (hr.mono (by decide)) rfl (takes_of rfl rfl rfl rfl) (pa_cons (pv 0) (pa_cons pe_int pa_nil)))))) pa_nil))))))))) (pss_one (ps_ret (pe_slice slAny (pe_callTy callTuple rfl z.z_tuple rfl (pa_cons (pv 1) pa_nil)) (po_some (pe_op opMul (pe_df g__law_frog (hr.mono (by decide)) rfl (takes_of rfl rfl rfl rfl) (pa_cons (pv 0) (pa_cons pe_int pa_nil))) (pe_df g__law_frog (hr.mono (by decide)) rfl (takes_of rfl rfl rfl rfl) (pa_cons (pv 0) (pa_cons pe_int pa_nil))))) po_none))))),
    fn_body (N := N__law_places) (k := 1) (Γp := (.ls :: List.replicate 0 .pu)) (sr := .pu) (fb := b__law_places) (Γi := [.ls, .pu, .pu, .pu, .pu, .pu]) (Γ' := [.ls, .pu, .pu, .pu, .pu, .pu, .pu]) (by decide) rfl (.inl rfl) ⟨rfl, rfl⟩ (sok_seq (sok_setK ⟨rfl, rfl⟩ (np rfl) rfl (eok_lst (aok_cons (eok_callO rfl (aok_cons eok_int aok_nil)) aok_nil))) (sok_seq (sok_for ⟨rfl, rfl⟩ (np2 rfl) (iok_range1 (aok_cons (eok_callO rfl (aok_cons eok_int aok_nil)) aok_nil)) (gok_nameK (i := 2) rfl) (sok_seq (sok_parK ⟨rfl, rfl⟩ (np rfl) (np rfl) rfl rfl (aok_cons (eok_callO rfl (aok_cons eok_int aok_nil)) (aok_cons (eok_callO rfl (aok_cons eok_int aok_nil)) aok_nil))) (sok_for ⟨rfl, rfl⟩ (np2 rfl) (iok_range1 (aok_cons (eok_var rfl) aok_nil)) (gok_nameK (i := 5) rfl) (sok_seq (sok_setK ⟨rfl, rfl⟩ (np rfl) rfl (eok_ixO rfl (eok_un u1_neg eok_int))) (sok_drop ⟨rfl, rfl⟩ (eok_mt mok_append rfl (aok_cons (eok_if (tok_test (eok_op r2_eq (eok_var rfl) eok_int)) (eok_op r2_add (eok_var rfl) eok_int) (eok_if (tok_test (eok_op r2_eq (eok_var rfl) eok_int)) (eok_cb c1_maxA (aok_cons eok_int (aok_cons (eok_op r2_i0 (eok_var rfl) eok_int) aok_nil))) (eok_if (tok_test (eok_op r2_eq (eok_var rfl) eok_int)) (eok_var rfl) (eok_callO rfl (aok_cons eok_int aok_nil))))) aok_nil))))))) (sok_frz (i := 1) rfl (sok_ret ⟨rfl, rfl⟩ (eok_sl slok_any (eok_cb c1_tuple (aok_cons (eok_var rfl) aok_nil)) (pok_so (eok_op r2_mul (eok_callO rfl (aok_cons eok_int aok_nil)) (eok_callO rfl (aok_cons eok_int aok_nil)))) pok_no))))) h⟩
abbrev s__law_pieces : Stmt := top 22
abbrev N__law_pieces : List Str := ["pond", "told", "lap", "long", "step", "start"]
theorem sc__law_pieces : FnScope N__law_pieces ["pond"] (defScope s__law_pieces) := ⟨rfl, rfl, rfl, by decide +kernel, rfl, by decide +kernel, by decide +kernel⟩
def b__law_pieces : DL.Env → Out := (sSeq (sSet 1 (eLst aNil)) (sSeq (sFor (iR1 (aCons (eCallO 0 1 d__law_frog (aCons (eC (.int 5)) aNil)) aNil)) (gN 2) (sSeq (sPar 3 4 (aCons (eOp gAdd (eC (.int 1)) (eCallO 0 1 d__law_frog (aCons (eC (.int 4)) aNil))) (aCons (eOp gIx (eTup (aCons (eC (.int 1)) (aCons (eUn gNeg (eC (.int 1))) aNil))) (eCallO 0 1 d__law_frog (aCons (eC (.int 2)) aNil))) aNil))) (sSeq (sSet 5 (eOp gAdd (eCallO 0 1 d__law_frog (aCons (eC (.int 20)) aNil)) (eIf (tVal (eOp gEq (eVar 4) (eC (.int 1)))) (eC (.int 0)) (eOp (gI0 fun i j => i - j) (eVar 3) (eC (.int 1)))))) (sDrop (eMtO 1 gAppend (aCons (eTup (aCons (eVar 5) (aCons (eVar 3) (aCons (eVar 4) aNil)))) aNil)))))) (sRet (eCB gTuple (aCons (eVar 1) aNil)))))
def d__law_pieces : Den := mkF 6 1 b__law_pieces
abbrev p__law_pieces (K : PySem.W.Frag) (mg : Mg) : Sp := spD K mg (.ls :: List.replicate 0 .pu) .pu d__law_pieces
theorem ok__law_pieces {P : Program} {w : World} {K : PySem.W.Frag} {mg : Mg} {base : Heap} {C_BadPiece C_DataError C_MoveError : Addr} (z : Zs mg) (x : Xs P K mg C_BadPiece C_DataError C_MoveError) (g__law_frog : Df P w K mg base "_law_frog" s__law_frog ["pond", "many"] 2 (p__law_frog K mg)) {f : Addr} {fd : FuncData} (F : Fun K "_law_pieces" "_law_pieces" s__law_pieces f fd) : FnOk P w K mg base (L2.CX P w) 4 f fd ["pond"] (p__law_pieces K mg) := by
  refine F.okX sc__law_pieces (fun vs H Q E h => spD_len h) (fun cdv A outer s H vs Q E hr h => ?_)
  exact ⟨_, (pss_cons (ps_set (i := 1) sc__law_pieces.nd rfl (by first | exact Or.inl rfl | exact Or.inr rfl) (pe_lst pa_nil)) (pss_cons (ps_for (passes_of rfl) rfl (pi_range1 rfl z.z_range (pa_cons (pe_df g__law_frog (hr.mono (by decide)) rfl (takes_of rfl rfl rfl rfl) (pa_cons (pv 0) (pa_cons pe_int pa_nil))) pa_nil)) (pg_name (i := 2) sc__law_pieces.nd rfl (by first | exact Or.inl rfl | exact Or.inr rfl)) (pss_cons (ps_par (i := 3) (j := 4) rfl sc__law_pieces.nd rfl rfl (by decide) rfl rfl (pa_cons (pe_op opAdd pe_int (pe_df g__law_frog (hr.mono (by decide)) rfl (takes_of rfl rfl rfl rfl) (pa_cons (pv 0) (pa_cons pe_int pa_nil)))) (pa_cons (pe_ix (ix_any (Room.u1 hr)) (pe_tup (pa_cons pe_int (pa_cons (pe_un un_neg pe_int) pa_nil))) (pe_df g__law_frog (hr.mono (by decide)) rfl (takes_of rfl rfl rfl rfl) (pa_cons (pv 0) (pa_cons pe_int pa_nil))) (fun _ _ => rfl)) pa_nil)) (by first | rfl | with_unfolding_all rfl)) (pss_cons (ps_set (i := 5) sc__law_pieces.nd rfl (by first | exact Or.inl rfl | exact Or.inr rfl) (pe_op opAdd (pe_df g__law_frog (hr.mono (by decide)) rfl (takes_of rfl rfl rfl rfl) (pa_cons (pv 0) (pa_cons pe_int pa_nil))) (pe_ifExp (pt_cmpR (opEq (Room.u64 hr)) (pv 4) pe_int (nomark _)) pe_int (pe_op op_sub (pv 3) pe_int)))) (pss_one (ps_expr (pe_bm PySem.F.plainAttrs_list PySem.F.slot_list_append PySem.F.type_list_append mt_append (pv 1) (pa_cons (pe_tup (pa_cons (pv 5) (pa_cons (pv 3) (pa_cons (pv 4) pa_nil)))) pa_nil))))))) (pss_one (ps_ret (pe_callTy callTuple rfl z.z_tuple rfl (pa_cons (pv 1) pa_nil)))))),
    fn_body (N := N__law_pieces) (k := 1) (Γp := (.ls :: List.replicate 0 .pu)) (sr := .pu) (fb := b__law_pieces) (Γi := [.ls, .pu, .pu, .pu, .pu]) (Γ' := [.ls, .pu, .pu, .pu, .pu, .pu]) (by decide) rfl (.inl rfl) ⟨rfl, rfl⟩ (sok_seq (sok_setK ⟨rfl, rfl⟩ (np rfl) rfl (eok_lst aok_nil)) (sok_seq (sok_for ⟨rfl, rfl⟩ (np2 rfl) (iok_range1 (aok_cons (eok_callO rfl (aok_cons eok_int aok_nil)) aok_nil)) (gok_nameK (i := 2) rfl) (sok_seq (sok_parK ⟨rfl, rfl⟩ (np rfl) (np rfl) rfl rfl (aok_cons (eok_op r2_add eok_int (eok_callO rfl (aok_cons eok_int aok_nil))) (aok_cons (eok_op r2_ix (eok_tup (aok_cons eok_int (aok_cons (eok_un u1_neg eok_int) aok_nil))) (eok_callO rfl (aok_cons eok_int aok_nil))) aok_nil))) (sok_seq (sok_setK ⟨rfl, rfl⟩ (np rfl) rfl (eok_op r2_add (eok_callO rfl (aok_cons eok_int aok_nil)) (eok_if (tok_test (eok_op r2_eq (eok_var rfl) eok_int)) eok_int (eok_op r2_i0 (eok_var rfl) eok_int)))) (sok_drop ⟨rfl, rfl⟩ (eok_mt mok_append rfl (aok_cons (eok_tup (aok_cons (eok_var rfl) (aok_cons (eok_var rfl) (aok_cons (eok_var rfl) aok_nil)))) aok_nil)))))) (sok_frz (i := 1) rfl (sok_ret ⟨rfl, rfl⟩ (eok_cb c1_tuple (aok_cons (eok_var rfl) aok_nil)))))) h⟩
abbrev s__law_spread : Stmt := top 23
abbrev N__law_spread : List Str := ["pieces", "told", "start", "long", "step", "lap"]
theorem sc__law_spread : FnScope N__law_spread ["pieces"] (defScope s__law_spread) := ⟨rfl, rfl, rfl, by decide +kernel, rfl, by decide +kernel, by decide +kernel⟩
def b__law_spread : DL.Env → Out := (sSeq (sSet 1 (eLst aNil)) (sSeq (sFor (iA (eVar 0)) (gT 3 (gsCons (gN 2) (gsCons (gN 3) (gsCons (gN 4) gsNil)))) (sFor (iR1 (aCons (eVar 3) aNil)) (gN 5) (sDrop (eMtO 1 gAppend (aCons (eOp gAdd (eVar 2) (eOp gMul (eVar 4) (eVar 5))) aNil))))) (sRet (eCB gTuple (aCons (eVar 1) aNil)))))
def d__law_spread : Den := mkF 6 0 b__law_spread
abbrev p__law_spread (K : PySem.W.Frag) (mg : Mg) : Sp := spD K mg (List.replicate 1 .pu) .pu d__law_spread
theorem ok__law_spread {P : Program} {w : World} {K : PySem.W.Frag} {mg : Mg} {base : Heap} {C_BadPiece C_DataError C_MoveError : Addr} (z : Zs mg) (x : Xs P K mg C_BadPiece C_DataError C_MoveError) {f : Addr} {fd : FuncData} (F : Fun K "_law_spread" "_law_spread" s__law_spread f fd) : FnOk P w K mg base (L2.CX P w) 2 f fd ["pieces"] (p__law_spread K mg) := by
  refine F.okX sc__law_spread (fun vs H Q E h => spD_len h) (fun cdv A outer s H vs Q E hr h => ?_)
  exact ⟨_, (pss_cons (ps_set (i := 1) sc__law_spread.nd rfl (by first | exact Or.inl rfl | exact Or.inr rfl) (pe_lst pa_nil)) (pss_cons (ps_for (passes_of rfl) rfl (pi_any (pv 0)) (pg_tup rfl (pgs_cons (pg_name (i := 2) sc__law_spread.nd rfl (by first | exact Or.inl rfl | exact Or.inr rfl)) (pgs_cons (pg_name (i := 3) sc__law_spread.nd rfl (by first | exact Or.inl rfl | exact Or.inr rfl)) (pgs_cons (pg_name (i := 4) sc__law_spread.nd rfl (by first | exact Or.inl rfl | exact Or.inr rfl)) pgs_nil)))) (pss_one (ps_for (passes_of rfl) rfl (pi_range1 rfl z.z_range (pa_cons (pv 3) pa_nil)) (pg_name (i := 5) sc__law_spread.nd rfl (by first | exact Or.inl rfl | exact Or.inr rfl)) (pss_one (ps_expr (pe_bm PySem.F.plainAttrs_list PySem.F.slot_list_append PySem.F.type_list_append mt_append (pv 1) (pa_cons (pe_op opAdd (pv 2) (pe_op opMul (pv 4) (pv 5))) pa_nil))))))) (pss_one (ps_ret (pe_callTy callTuple rfl z.z_tuple rfl (pa_cons (pv 1) pa_nil)))))),
    fn_body (N := N__law_spread) (k := 0) (Γp := (List.replicate 1 .pu)) (sr := .pu) (fb := b__law_spread) (Γi := [.ls, .pu, .pu, .pu, .pu]) (Γ' := [.pu, .pu, .pu, .pu, .pu, .pu]) (by decide) rfl (.inl rfl) ⟨rfl, rfl⟩ (sok_seq (sok_setK ⟨rfl, rfl⟩ (np rfl) rfl (eok_lst aok_nil)) (sok_seq (sok_for ⟨rfl, rfl⟩ (np2 rfl) (iok_any (eok_var rfl)) (gok_tup (n := 3) (gsok_cons (gok_nameK (i := 2) rfl) (gsok_cons (gok_nameK (i := 3) rfl) (gsok_cons (gok_nameK (i := 4) rfl) gsok_nil)))) (sok_for ⟨rfl, rfl⟩ (np2 rfl) (iok_range1 (aok_cons (eok_var rfl) aok_nil)) (gok_nameK (i := 5) rfl) (sok_drop ⟨rfl, rfl⟩ (eok_mt mok_append rfl (aok_cons (eok_op r2_add (eok_var rfl) (eok_op r2_mul (eok_var rfl) (eok_var rfl))) aok_nil))))) (sok_frz (i := 1) rfl (sok_ret ⟨rfl, rfl⟩ (eok_cb c1_tuple (aok_cons (eok_var rfl) aok_nil)))))) h⟩
abbrev s__law_fault : Stmt := top 24
abbrev N__law_fault : List Str := ["length", "thing", "piece", "at", "start", "long", "step", "one"]
theorem sc__law_fault : FnScope N__law_fault ["length", "thing"] (defScope s__law_fault) := ⟨rfl, rfl, rfl, by decide +kernel, rfl, by decide +kernel, by decide +kernel⟩
def b__law_fault : DL.Env → Out := (sSeq (sIf (bNot (tVal (eIsi isTup (eVar 1)))) (sRet (eTup (aCons (eUn gNeg (eC (.int 1))) (aCons (eC (.str "shape")) aNil)))) Out.nx) (sSeq (sFor (iA (eVar 1)) (gN 2) (sIf (bOr (bNot (tVal (eIsi isTup (eVar 2)))) (bOr (tVal (eOp gNe (eCB gLen (aCons (eVar 2) aNil)) (eC (.int 3)))) (tVal (eOp (gB0 fun i j => decide (j < i)) (eCB gLen (aCons (eLc (iA (eVar 2)) (gN 7) (bOr (bNot (tVal (eIsi isInt (eVar 7)))) (tVal (eIsi isBl (eVar 7)))) (eVar 7) [7]) aNil)) (eC (.int 0)))))) (sRet (eTup (aCons (eUn gNeg (eC (.int 1))) (aCons (eC (.str "shape")) aNil)))) Out.nx)) (sSeq (sFor (iR1 (aCons (eCB gLen (aCons (eVar 1) aNil)) aNil)) (gN 3) (sSeq (sAsg (eOp gIx (eVar 1) (eVar 3)) (gT 3 (gsCons (gN 4) (gsCons (gN 5) (gsCons (gN 6) gsNil))))) (sSeq (sIf (tVal (eOp (gB0 fun i j => decide (i < j)) (eVar 5) (eC (.int 1)))) (sRet (eTup (aCons (eVar 3) (aCons (eC (.str "length")) aNil)))) Out.nx) (sSeq (sIf (tVal (eOp gNi (eVar 6) (eTup (aCons (eC (.int 1)) (aCons (eUn gNeg (eC (.int 1))) aNil))))) (sRet (eTup (aCons (eVar 3) (aCons (eC (.str "step")) aNil)))) Out.nx) (sIf (bOr (tVal (eOp (gB0 fun i j => decide (i < j)) (eCB gMinA (aCons (eVar 4) (aCons (eOp gAdd (eVar 4) (eOp gMul (eVar 6) (eOp (gI0 fun i j => i - j) (eVar 5) (eC (.int 1))))) aNil))) (eC (.int 0)))) (tVal (eOp (gB0 fun i j => decide (j ≤ i)) (eCB gMaxA (aCons (eVar 4) (aCons (eOp gAdd (eVar 4) (eOp gMul (eVar 6) (eOp (gI0 fun i j => i - j) (eVar 5) (eC (.int 1))))) aNil))) (eVar 0)))) (sRet (eTup (aCons (eVar 3) (aCons (eC (.str "place")) aNil)))) Out.nx))))) (sRet (eC .non)))))
def d__law_fault : Den := mkF 8 0 b__law_fault
abbrev p__law_fault (K : PySem.W.Frag) (mg : Mg) : Sp := spD K mg (List.replicate 2 .pu) .pu d__law_fault
theorem ok__law_fault {P : Program} {w : World} {K : PySem.W.Frag} {mg : Mg} {base : Heap} {C_BadPiece C_DataError C_MoveError : Addr} (z : Zs mg) (x : Xs P K mg C_BadPiece C_DataError C_MoveError) {f : Addr} {fd : FuncData} (F : Fun K "_law_fault" "_law_fault" s__law_fault f fd) : FnOk P w K mg base (L2.CX P w) 2 f fd ["length", "thing"] (p__law_fault K mg) := by
  refine F.okX sc__law_fault (fun vs H Q E h => spD_len h) (fun cdv A outer s H vs Q E hr h => ?_)
  exact ⟨_, (pss_cons (ps_if (pt_not (pt_val (pe_callB call_isi rfl z.z_isinstance rfl (pa_cons (pv 1) (pa_cons (pe_bltn (v := .ty "tuple") rfl z.z_tuple (by decide +kernel) rfl) pa_nil))))) (pss_one (ps_ret (pe_tup (pa_cons (pe_un un_neg pe_int) (pa_cons pe_str pa_nil))))) pss_nil) (pss_cons (ps_for (passes_of rfl) rfl (pi_any (pv 1)) (pg_name (i := 2) sc__law_fault.nd rfl (by first | exact Or.inl rfl | exact Or.inr rfl)) (pss_one (ps_if (PW.pt (pw_or (pt_not (pt_val (pe_callB call_isi rfl z.z_isinstance rfl (pa_cons (pv 2) (pa_cons (pe_bltn (v := .ty "tuple") rfl z.z_tuple (by decide +kernel) rfl) pa_nil))))) (pw_or (pt_cmpR (opNe (Room.u64 hr)) (pe_callB callLen rfl z.z_len rfl (pa_cons (pv 2) pa_nil)) pe_int (nomark _)) (pw_or1 (pt_cmpR op_gt (pe_callB callLen rfl z.z_len rfl (pa_cons (pe_lc (own := [("one", 7)]) rfl sc__law_fault.nd (pi_any (pv 2)) (blkOk_by (own := [("one", 7)]) (N := N__law_fault) (sc := defScope s__law_fault) (by decide +kernel)) (fun _ _ _ _ _ => (pg_name (i := 7) sc__law_fault.nd rfl (by first | exact Or.inl rfl | exact Or.inr rfl))) (fun _ _ _ _ _ => (pts_one (PW.pt (pw_or (pt_not (pt_val (pe_callB call_isi rfl z.z_isinstance rfl (pa_cons (pv 7) (pa_cons (pe_bltn (v := .ty "int") rfl z.z_int (by decide +kernel) rfl) pa_nil))))) (pw_or1 (pt_val (pe_callB call_isi rfl z.z_isinstance rfl (pa_cons (pv 7) (pa_cons (pe_bltn (v := .ty "bool") rfl z.z_bool (by decide +kernel) rfl) pa_nil))))))))) (fun _ _ _ _ _ => (pv 7))) pa_nil)) pe_int (nomark _)))))) (pss_one (ps_ret (pe_tup (pa_cons (pe_un un_neg pe_int) (pa_cons pe_str pa_nil))))) pss_nil))) (pss_cons (ps_for (passes_of rfl) rfl (pi_range1 rfl z.z_range (pa_cons (pe_callB callLen rfl z.z_len rfl (pa_cons (pv 1) pa_nil)) pa_nil)) (pg_name (i := 3) sc__law_fault.nd rfl (by first | exact Or.inl rfl | exact Or.inr rfl)) (pss_cons (ps_asg (pe_ix (ix_any (Room.u1 hr)) (pv 1) (pv 3) (fun _ _ => rfl)) (pg_tup rfl (pgs_cons (pg_name (i := 4) sc__law_fault.nd rfl (by first | exact Or.inl rfl | exact Or.inr rfl)) (pgs_cons (pg_name (i := 5) sc__law_fault.nd rfl (by first | exact Or.inl rfl | exact Or.inr rfl)) (pgs_cons (pg_name (i := 6) sc__law_fault.nd rfl (by first | exact Or.inl rfl | exact Or.inr rfl)) pgs_nil))))) (pss_cons (ps_if (pt_cmpR op_lt (pv 5) pe_int (nomark _)) (pss_one (ps_ret (pe_tup (pa_cons (pv 3) (pa_cons pe_str pa_nil))))) pss_nil) (pss_cons (ps_if (pt_cmpR (opNi (Room.u65 hr)) (pv 6) (pe_tup (pa_cons pe_int (pa_cons (pe_un un_neg pe_int) pa_nil))) (by with_unfolding_all rfl)) (pss_one (ps_ret (pe_tup (pa_cons (pv 3) (pa_cons pe_str pa_nil))))) pss_nil) (pss_one (ps_if (PW.pt (pw_or (pt_cmpR op_lt (pe_callB (callMinA (Room.u1 hr) rfl) rfl z.z_min rfl (pa_cons (pv 4) (pa_cons (pe_op opAdd (pv 4) (pe_op opMul (pv 6) (pe_op op_sub (pv 5) pe_int))) pa_nil))) pe_int (nomark _)) (pw_or1 (pt_cmpR op_ge (pe_callB (callMaxA (Room.u1 hr) rfl) rfl z.z_max rfl (pa_cons (pv 4) (pa_cons (pe_op opAdd (pv 4) (pe_op opMul (pv 6) (pe_op op_sub (pv 5) pe_int))) pa_nil))) (pv 0) (nomark _))))) (pss_one (ps_ret (pe_tup (pa_cons (pv 3) (pa_cons pe_str pa_nil))))) pss_nil)))))) (pss_one (ps_ret pe_non))))),
    fn_body (N := N__law_fault) (k := 0) (Γp := (List.replicate 2 .pu)) (sr := .pu) (fb := b__law_fault) (Γi := [.pu, .pu, .pu, .pu, .pu, .pu]) (Γ' := [.pu, .pu, .pu, .pu, .pu, .pu, .pu, .pu]) (by decide) rfl (.inl rfl) ⟨rfl, rfl⟩ (sok_seq (sok_if ⟨rfl, rfl⟩ (tok_not (tok_b (eok_isi ty_tup (eok_var rfl)))) (sok_ret ⟨rfl, rfl⟩ (eok_tup (aok_cons (eok_un u1_neg eok_int) (aok_cons eok_str aok_nil)))) sok_next) (sok_seq (sok_for ⟨rfl, rfl⟩ (np2 rfl) (iok_any (eok_var rfl)) (gok_nameK (i := 2) rfl) (sok_if ⟨rfl, rfl⟩ (tok_or (tok_not (tok_b (eok_isi ty_tup (eok_var rfl)))) (tok_or (tok_test (eok_op r2_ne (eok_cb c1_len (aok_cons (eok_var rfl) aok_nil)) eok_int)) (tok_test (eok_op r2_b0 (eok_cb c1_len (aok_cons (eok_frz (eok_lc (vs := [7]) (by decide) (iok_any (eok_var rfl)) (gok_nameK (i := 7) rfl) (tok_or (tok_not (tok_b (eok_isi ty_int (eok_var rfl)))) (tok_b (eok_isi ty_bl (eok_var rfl)))) (eok_var rfl))) aok_nil)) eok_int)))) (sok_ret ⟨rfl, rfl⟩ (eok_tup (aok_cons (eok_un u1_neg eok_int) (aok_cons eok_str aok_nil)))) sok_next)) (sok_seq (sok_for ⟨rfl, rfl⟩ (np2 rfl) (iok_range1 (aok_cons (eok_cb c1_len (aok_cons (eok_var rfl) aok_nil)) aok_nil)) (gok_nameK (i := 3) rfl) (sok_seq (sok_asg ⟨rfl, rfl⟩ (np2 rfl) (eok_op r2_ix (eok_var rfl) (eok_var rfl)) (gok_tup (n := 3) (gsok_cons (gok_nameK (i := 4) rfl) (gsok_cons (gok_nameK (i := 5) rfl) (gsok_cons (gok_nameK (i := 6) rfl) gsok_nil))))) (sok_seq (sok_if ⟨rfl, rfl⟩ (tok_test (eok_op r2_b0 (eok_var rfl) eok_int)) (sok_ret ⟨rfl, rfl⟩ (eok_tup (aok_cons (eok_var rfl) (aok_cons eok_str aok_nil)))) sok_next) (sok_seq (sok_if ⟨rfl, rfl⟩ (tok_test (eok_op r2_ni (eok_var rfl) (eok_tup (aok_cons eok_int (aok_cons (eok_un u1_neg eok_int) aok_nil))))) (sok_ret ⟨rfl, rfl⟩ (eok_tup (aok_cons (eok_var rfl) (aok_cons eok_str aok_nil)))) sok_next) (sok_if ⟨rfl, rfl⟩ (tok_or (tok_test (eok_op r2_b0 (eok_cb c1_minA (aok_cons (eok_var rfl) (aok_cons (eok_op r2_add (eok_var rfl) (eok_op r2_mul (eok_var rfl) (eok_op r2_i0 (eok_var rfl) eok_int))) aok_nil))) eok_int)) (tok_test (eok_op r2_b0 (eok_cb c1_maxA (aok_cons (eok_var rfl) (aok_cons (eok_op r2_add (eok_var rfl) (eok_op r2_mul (eok_var rfl) (eok_op r2_i0 (eok_var rfl) eok_int))) aok_nil))) (eok_var rfl)))) (sok_ret ⟨rfl, rfl⟩ (eok_tup (aok_cons (eok_var rfl) (aok_cons eok_str aok_nil)))) sok_next))))) (sok_ret ⟨rfl, rfl⟩ eok_non)))) h⟩
abbrev s__law_heard : Stmt := top 25
abbrev N__law_heard : List Str := ["length", "thing", "why"]
theorem sc__law_heard : FnScope N__law_heard ["length", "thing"] (defScope s__law_heard) := ⟨rfl, rfl, rfl, by decide +kernel, rfl, by decide +kernel, by decide +kernel⟩
def b__law_heard : DL.Env → Out := (sTryAs 2 [(2, true)] (sRet (eTup (aCons (eC (.str "told")) (aCons (eCall 2 d_check_pieces (aCons (eVar 0) (aCons (eVar 1) aNil))) aNil)))) (fun e => (sRet (eIf (bAnd (tVal (eIsX e [(2, true)])) (tVal (eIsX e [(2, true)]))) (eTup (aCons (eC (.str "bad")) (aCons (eWhy e 2 "at") (aCons (eWhy e 2 "word") aNil)))) (eTup (aCons (eC (.str "other")) aNil))))))
def d__law_heard : Den := mkF 3 0 b__law_heard
abbrev p__law_heard (K : PySem.W.Frag) (mg : Mg) : Sp := spD K mg (List.replicate 2 .pu) .pu d__law_heard
theorem ok__law_heard {P : Program} {w : World} {K : PySem.W.Frag} {mg : Mg} {base : Heap} {C_BadPiece C_DataError C_MoveError : Addr} (z : Zs mg) (x : Xs P K mg C_BadPiece C_DataError C_MoveError) (g_check_pieces : Df P w K mg base "check_pieces" s_check_pieces ["length", "thing"] 8 (p_check_pieces K mg)) {f : Addr} {fd : FuncData} (F : Fun K "_law_heard" "_law_heard" s__law_heard f fd) : FnOk P w K mg base (L2.CX P w) 10 f fd ["length", "thing"] (p__law_heard K mg) := by
  refine F.okX sc__law_heard (fun vs H Q E h => spD_len h) (fun cdv A outer s H vs Q E hr h => ?_)
  exact ⟨_, (pss_one (ps_tryA (i := 2) rfl rfl sc__law_heard.nd rfl rfl ⟨rfl, by decide, Or.inl x.g_BadPiece⟩ (takes_of rfl rfl rfl rfl) (fun W pn xe tk hp => (pss_one (ps_ret (pe_tup (pa_cons pe_str (pa_cons (pe_df g_check_pieces (hr.mono (by decide)) rfl tk (pa_cons (pv 0) (pa_cons (pv 1) pa_nil))) pa_nil)))))) (fun a oe cls d pn hz hf => (pss_one (ps_ret (pe_ifExp (PW.pt (pw_and (pt_val (pe_callB (call_isX hz hf) rfl z.z_isinstance rfl (pa_cons (pv 2) (pa_cons (pe_glob (v := .ref C_DataError) rfl x.g_DataError rfl) pa_nil)))) (pw_and1 (pt_val (pe_callB (call_isX hz hf) rfl z.z_isinstance rfl (pa_cons (pv 2) (pa_cons (pe_glob (v := .ref C_MoveError) rfl x.g_MoveError rfl) pa_nil))))))) (pe_tup (pa_cons pe_str (pa_cons (pe_byEx x.t_BadPiece (by decide) hz hf (pv 2)) (pa_cons (pe_byEx x.t_BadPiece (by decide) hz hf (pv 2)) pa_nil)))) (pe_tup (pa_cons pe_str pa_nil)))))))),
    fn_body (N := N__law_heard) (k := 0) (Γp := (List.replicate 2 .pu)) (sr := .pu) (fb := b__law_heard) (Γi := [.pu]) (Γ' := [.pu, .pu, .pu]) (by decide) rfl (.inl rfl) ⟨rfl, rfl⟩ (sok_tryA (C := (cfF E (List.replicate 2 .pu) .pu 3 0)) (i := 2) (cs := [(2, true)]) (by exact ⟨rfl, rfl⟩) (np rfl) rfl ⟨⟨_, x.t_BadPiece.gC, x.m_BadPiece_BadPiece⟩, trivial⟩ (fun W' => (sok_ret rfl (eok_tup (aok_cons eok_str (aok_cons (eok_call (aok_cons (eok_var rfl) (aok_cons (eok_var rfl) aok_nil))) aok_nil))))) (fun a e cls p l hx => (sok_ret (by exact ⟨rfl, rfl⟩) (eok_if (tok_and (tok_b (eok_isx x.i_BadPiece_DataError hx)) (tok_b (eok_isx x.i_BadPiece_MoveError hx))) (eok_tup (aok_cons eok_str (aok_cons (eok_why x.t_BadPiece.gC hx) (aok_cons (eok_why x.t_BadPiece.gC hx) aok_nil)))) (eok_tup (aok_cons eok_str aok_nil)))))) h⟩
abbrev s__law_right : Stmt := top 26
abbrev N__law_right : List Str := ["length", "thing", "fault", "piece"]
theorem sc__law_right : FnScope N__law_right ["length", "thing"] (defScope s__law_right) := ⟨rfl, rfl, rfl, by decide +kernel, rfl, by decide +kernel, by decide +kernel⟩
def b__law_right : DL.Env → Out := (sSeq (sSet 2 (eCall 2 d__law_fault (aCons (eVar 0) (aCons (eVar 1) aNil)))) (sRet (eCall 2 d__law_same (aCons (eCall 2 d__law_heard (aCons (eVar 0) (aCons (eVar 1) aNil))) (aCons (eIf (tVal (eOp gIsN (eVar 2) (eC .non))) (eTup (aCons (eC (.str "told")) (aCons (eCB gSum (aCons (eLc (iA (eVar 1)) (gN 3) bYes (eOp gIx (eVar 3) (eC (.int 1))) [3]) aNil)) aNil))) (eOp gAdd (eTup (aCons (eC (.str "bad")) aNil)) (eVar 2))) aNil)))))
def d__law_right : Den := mkF 4 0 b__law_right
abbrev p__law_right (K : PySem.W.Frag) (mg : Mg) : Sp := spD K mg (List.replicate 2 .pu) .pu d__law_right
theorem ok__law_right {P : Program} {w : World} {K : PySem.W.Frag} {mg : Mg} {base : Heap} {C_BadPiece C_DataError C_MoveError : Addr} (z : Zs mg) (x : Xs P K mg C_BadPiece C_DataError C_MoveError) (g__law_fault : Df P w K mg base "_law_fault" s__law_fault ["length", "thing"] 2 (p__law_fault K mg)) (g__law_same : Df P w K mg base "_law_same" s__law_same ["told", "due"] 2 (p__law_same K mg)) (g__law_heard : Df P w K mg base "_law_heard" s__law_heard ["length", "thing"] 10 (p__law_heard K mg)) {f : Addr} {fd : FuncData} (F : Fun K "_law_right" "_law_right" s__law_right f fd) : FnOk P w K mg base (L2.CX P w) 12 f fd ["length", "thing"] (p__law_right K mg) := by
  refine F.okX sc__law_right (fun vs H Q E h => spD_len h) (fun cdv A outer s H vs Q E hr h => ?_)
  exact ⟨_, (pss_cons (ps_set (i := 2) sc__law_right.nd rfl (by first | exact Or.inl rfl | exact Or.inr rfl) (pe_df g__law_fault (hr.mono (by decide)) rfl (takes_of rfl rfl rfl rfl) (pa_cons (pv 0) (pa_cons (pv 1) pa_nil)))) (pss_one (ps_ret (pe_df g__law_same (hr.mono (by decide)) rfl (takes_of rfl rfl rfl rfl) (pa_cons (pe_df g__law_heard (hr.mono (by decide)) rfl (takes_of rfl rfl rfl rfl) (pa_cons (pv 0) (pa_cons (pv 1) pa_nil))) (pa_cons (pe_ifExp (pt_cmpR opIsN (pv 2) pe_non (nomark _)) (pe_tup (pa_cons pe_str (pa_cons (pe_callB (callSum rfl) rfl z.z_sum rfl (pa_cons (pe_lc (own := [("piece", 3)]) rfl sc__law_right.nd (pi_any (pv 1)) (blkOk_by (own := [("piece", 3)]) (N := N__law_right) (sc := defScope s__law_right) (by decide +kernel)) (fun _ _ _ _ _ => (pg_name (i := 3) sc__law_right.nd rfl (by first | exact Or.inl rfl | exact Or.inr rfl))) (fun _ _ _ _ _ => pts_nil) (fun _ _ _ _ _ => (pe_ix (ix_any (Room.u1 hr)) (pv 3) pe_int (fun _ _ => rfl)))) pa_nil)) pa_nil))) (pe_op opAdd (pe_tup (pa_cons pe_str pa_nil)) (pv 2))) pa_nil)))))),
    fn_body (N := N__law_right) (k := 0) (Γp := (List.replicate 2 .pu)) (sr := .pu) (fb := b__law_right) (Γi := [.pu, .pu]) (Γ' := [.pu, .pu, .pu, .pu]) (by decide) rfl (.inl rfl) ⟨rfl, rfl⟩ (sok_seq (sok_setK ⟨rfl, rfl⟩ (np rfl) rfl (eok_call (aok_cons (eok_var rfl) (aok_cons (eok_var rfl) aok_nil)))) (sok_ret ⟨rfl, rfl⟩ (eok_call (aok_cons (eok_call (aok_cons (eok_var rfl) (aok_cons (eok_var rfl) aok_nil))) (aok_cons (eok_if (tok_test (eok_op r2_isN (eok_var rfl) eok_non)) (eok_tup (aok_cons eok_str (aok_cons (eok_cb c1_sum (aok_cons (eok_frz (eok_lc (vs := [3]) (by decide) (iok_any (eok_var rfl)) (gok_nameK (i := 3) rfl) tok_yes (eok_op r2_ix (eok_var rfl) eok_int))) aok_nil)) aok_nil))) (eok_op r2_add (eok_tup (aok_cons eok_str aok_nil)) (eok_var rfl))) aok_nil))))) h⟩
abbrev s__law_bent : Stmt := top 27
abbrev N__law_bent : List Str := ["pond", "pieces", "at", "kind", "piece", "odd"]
theorem sc__law_bent : FnScope N__law_bent ["pond", "pieces"] (defScope s__law_bent) := ⟨rfl, rfl, rfl, by decide +kernel, rfl, by decide +kernel, by decide +kernel⟩
def b__law_bent : DL.Env → Out := (sSeq (sIf (tVal (eOp gEq (eCB gLen (aCons (eVar 1) aNil)) (eC (.int 0)))) (sRet (eTup (aCons (eTup (aCons (eC (.int 0)) (aCons (eC (.int 0)) (aCons (eC (.int 1)) aNil)))) aNil))) Out.nx) (sSeq (sPar 2 3 (aCons (eCallO 0 1 d__law_frog (aCons (eCB gLen (aCons (eVar 1) aNil)) aNil)) (aCons (eCallO 0 1 d__law_frog (aCons (eC (.int 6)) aNil)) aNil))) (sSeq (sSet 4 (eCB gList (aCons (eOp gIx (eVar 1) (eVar 2)) aNil))) (sSeq (sSet 5 (eOp gIx (eTup (aCons (eC (.int 0)) (aCons (eUn gNeg (eC (.int 1))) (aCons (eC (.int 2)) (aCons (eC (.int 30)) (aCons (eC (.int 29)) (aCons (eUn gNeg (eC (.int 30))) (aCons (eC (.bl true)) (aCons (eC .non) (aCons (eC (.str "1")) (aCons (eTup (aCons (eC (.int 1)) aNil)) (aCons (eOp (gIC CPow fun i j => i ^ j.toNat) (eC (.int 10)) (eC (.int 60))) (aCons (eC (.int 1)) aNil))))))))))))) (eCallO 0 1 d__law_frog (aCons (eC (.int 12)) aNil)))) (sSeq (sIf (tVal (eOp (gB0 fun i j => decide (i < j)) (eVar 3) (eC (.int 3)))) (sSetI 4 (eVar 5) (eVar 3)) (sIf (tVal (eOp gEq (eVar 3) (eC (.int 3)))) (sRet (eOp gAdd (eOp gAdd (eSl gSl (eVar 1) pNo (pSo (eVar 2))) (eTup (aCons (eOp gIx (eLst (aCons (eVar 4) (aCons (eSl gSl (eVar 4) pNo (pSo (eC (.int 2)))) (aCons (eC .non) (aCons (eC (.int 7)) aNil))))) (eCallO 0 1 d__law_frog (aCons (eC (.int 4)) aNil))) aNil))) (eSl gSl (eVar 1) (pSo (eOp gAdd (eVar 2) (eC (.int 1)))) pNo))) (sIf (tVal (eOp gEq (eVar 3) (eC (.int 4)))) (sDrop (eMtO 4 gAppend (aCons (eC (.int 1)) aNil))) (sRet (eOp gIx (eTup (aCons (eCB gList (aCons (eVar 1) aNil)) (aCons (eOp gIx (eVar 1) (eC (.int 0))) (aCons (eC .non) (aCons (eTup (aCons (eVar 1) aNil)) (aCons (eC (.str "pieces")) aNil)))))) (eCallO 0 1 d__law_frog (aCons (eC (.int 5)) aNil))))))) (sRet (eOp gAdd (eOp gAdd (eSl gSl (eVar 1) pNo (pSo (eVar 2))) (eTup (aCons (eCB gTuple (aCons (eVar 4) aNil)) aNil))) (eSl gSl (eVar 1) (pSo (eOp gAdd (eVar 2) (eC (.int 1)))) pNo))))))))
def d__law_bent : Den := mkF 6 1 b__law_bent
abbrev p__law_bent (K : PySem.W.Frag) (mg : Mg) : Sp := spD K mg (.ls :: List.replicate 1 .pu) .pu d__law_bent
theorem ok__law_bent {P : Program} {w : World} {K : PySem.W.Frag} {mg : Mg} {base : Heap} {C_BadPiece C_DataError C_MoveError : Addr} (z : Zs mg) (x : Xs P K mg C_BadPiece C_DataError C_MoveError) (g__law_frog : Df P w K mg base "_law_frog" s__law_frog ["pond", "many"] 2 (p__law_frog K mg)) {f : Addr} {fd : FuncData} (F : Fun K "_law_bent" "_law_bent" s__law_bent f fd) : FnOk P w K mg base (L2.CX P w) 4 f fd ["pond", "pieces"] (p__law_bent K mg) := by
  refine F.okX sc__law_bent (fun vs H Q E h => spD_len h) (fun cdv A outer s H vs Q E hr h => ?_)
  exact ⟨_, (pss_cons (ps_if (pt_cmpR (opEq (Room.u64 hr)) (pe_callB callLen rfl z.z_len rfl (pa_cons (pv 1) pa_nil)) pe_int (nomark _)) (pss_one (ps_ret (pe_tup (pa_cons (pe_tup (pa_cons pe_int (pa_cons pe_int (pa_cons pe_int pa_nil)))) pa_nil)))) pss_nil) (pss_cons (ps_par (i := 2) (j := 3) rfl sc__law_bent.nd rfl rfl (by decide) rfl rfl (pa_cons (pe_df g__law_frog (hr.mono (by decide)) rfl (takes_of rfl rfl rfl rfl) (pa_cons (pv 0) (pa_cons (pe_callB callLen rfl z.z_len rfl (pa_cons (pv 1) pa_nil)) pa_nil))) (pa_cons (pe_df g__law_frog (hr.mono (by decide)) rfl (takes_of rfl rfl rfl rfl) (pa_cons (pv 0) (pa_cons pe_int pa_nil))) pa_nil)) (by first | rfl | with_unfolding_all rfl)) (pss_cons (ps_set (i := 4) sc__law_bent.nd rfl (by first | exact Or.inl rfl | exact Or.inr rfl) (pe_callTy callList rfl z.z_list rfl (pa_cons (pe_ix (ix_any (Room.u1 hr)) (pv 1) (pv 2) (fun _ _ => rfl)) pa_nil))) (pss_cons (ps_set (i := 5) sc__law_bent.nd rfl (by first | exact Or.inl rfl | exact Or.inr rfl) (pe_ix (ix_any (Room.u1 hr)) (pe_tup (pa_cons pe_int (pa_cons (pe_un un_neg pe_int) (pa_cons pe_int (pa_cons pe_int (pa_cons pe_int (pa_cons (pe_un un_neg pe_int) (pa_cons pe_bl (pa_cons pe_non (pa_cons pe_str (pa_cons (pe_tup (pa_cons pe_int pa_nil)) (pa_cons (pe_op op_pow pe_int pe_int) (pa_cons pe_int pa_nil))))))))))))) (pe_df g__law_frog (hr.mono (by decide)) rfl (takes_of rfl rfl rfl rfl) (pa_cons (pv 0) (pa_cons pe_int pa_nil))) (fun _ _ => rfl))) (pss_cons (ps_if (pt_cmpR op_lt (pv 3) pe_int (nomark _)) (pss_one (ps_asg (pv 5) (pg_sub (pv 4) (pv 3) (setAny (Room.u1 hr))))) (pss_one (ps_if (pt_cmpR (opEq (Room.u64 hr)) (pv 3) pe_int (nomark _)) (pss_one (ps_ret (pe_op opAdd (pe_op opAdd (pe_slice slAny (pv 1) po_none (po_some (pv 2))) (pe_tup (pa_cons (pe_ix (ix_any (Room.u1 hr)) (pe_lst (pa_cons (pv 4) (pa_cons (pe_slice slAny (pv 4) po_none (po_some pe_int)) (pa_cons pe_non (pa_cons pe_int pa_nil))))) (pe_df g__law_frog (hr.mono (by decide)) rfl (takes_of rfl rfl rfl rfl) (pa_cons (pv 0) (pa_cons pe_int pa_nil))) (fun _ _ => rfl)) pa_nil))) (pe_slice slAny (pv 1) (po_some (pe_op opAdd (pv 2) pe_int)) po_none)))) (pss_one (ps_if (pt_cmpR (opEq (Room.u64 hr)) (pv 3) pe_int (nomark _)) (pss_one (ps_expr (pe_bm PySem.F.plainAttrs_list PySem.F.slot_list_append PySem.F.type_list_append mt_append (pv 4) (pa_cons pe_int pa_nil)))) (pss_one (ps_ret (pe_ix (ix_any (Room.u1 hr)) (pe_tup (pa_cons (pe_callTy callList rfl z.z_list rfl (pa_cons (pv 1) pa_nil)) (pa_cons (pe_ix (ix_any (Room.u1 hr)) (pv 1) pe_int (fun _ _ => rfl)) (pa_cons pe_non (pa_cons (pe_tup (pa_cons (pv 1) pa_nil)) (pa_cons pe_str pa_nil)))))) (pe_df g__law_frog (hr.mono (by decide)) rfl (takes_of rfl rfl rfl rfl) (pa_cons (pv 0) (pa_cons pe_int pa_nil))) (fun _ _ => rfl))))))))) (pss_one (ps_ret (pe_op opAdd (pe_op opAdd (pe_slice slAny (pv 1) po_none (po_some (pv 2))) (pe_tup (pa_cons (pe_callTy callTuple rfl z.z_tuple rfl (pa_cons (pv 4) pa_nil)) pa_nil))) (pe_slice slAny (pv 1) (po_some (pe_op opAdd (pv 2) pe_int)) po_none))))))))),
    fn_body (N := N__law_bent) (k := 1) (Γp := (.ls :: List.replicate 1 .pu)) (sr := .pu) (fb := b__law_bent) (Γi := [.pu, .pu, .ls, .pu]) (Γ' := [.ls, .pu, .pu, .pu, .pu, .pu]) (by decide) rfl (.inl rfl) ⟨rfl, rfl⟩ (sok_seq (sok_if ⟨rfl, rfl⟩ (tok_test (eok_op r2_eq (eok_cb c1_len (aok_cons (eok_var rfl) aok_nil)) eok_int)) (sok_ret ⟨rfl, rfl⟩ (eok_tup (aok_cons (eok_tup (aok_cons eok_int (aok_cons eok_int (aok_cons eok_int aok_nil)))) aok_nil))) sok_next) (sok_seq (sok_parK ⟨rfl, rfl⟩ (np rfl) (np rfl) rfl rfl (aok_cons (eok_callO rfl (aok_cons (eok_cb c1_len (aok_cons (eok_var rfl) aok_nil)) aok_nil)) (aok_cons (eok_callO rfl (aok_cons eok_int aok_nil)) aok_nil))) (sok_seq (sok_setK ⟨rfl, rfl⟩ (np rfl) rfl (eok_cb c1_list (aok_cons (eok_op r2_ix (eok_var rfl) (eok_var rfl)) aok_nil))) (sok_seq (sok_setK ⟨rfl, rfl⟩ (np rfl) rfl (eok_op r2_ix (eok_tup (aok_cons eok_int (aok_cons (eok_un u1_neg eok_int) (aok_cons eok_int (aok_cons eok_int (aok_cons eok_int (aok_cons (eok_un u1_neg eok_int) (aok_cons eok_bl (aok_cons eok_non (aok_cons eok_str (aok_cons (eok_tup (aok_cons eok_int aok_nil)) (aok_cons (eok_op (r2_ic (c := CPow)) eok_int eok_int) (aok_cons eok_int aok_nil))))))))))))) (eok_callO rfl (aok_cons eok_int aok_nil)))) (sok_seq (sok_if ⟨rfl, rfl⟩ (tok_test (eok_op r2_b0 (eok_var rfl) eok_int)) (sok_seti ⟨rfl, rfl⟩ rfl (eok_var rfl) (eok_var rfl)) (sok_if ⟨rfl, rfl⟩ (tok_test (eok_op r2_eq (eok_var rfl) eok_int)) (sok_frz (i := 4) rfl (sok_ret ⟨rfl, rfl⟩ (eok_op r2_add (eok_op r2_add (eok_sl slok_any (eok_var rfl) pok_no (pok_so (eok_var rfl))) (eok_tup (aok_cons (eok_op r2_ix (eok_frz (eok_lst (aok_cons (eok_var rfl) (aok_cons (eok_sl slok_any (eok_var rfl) pok_no (pok_so eok_int)) (aok_cons eok_non (aok_cons eok_int aok_nil)))))) (eok_callO rfl (aok_cons eok_int aok_nil))) aok_nil))) (eok_sl slok_any (eok_var rfl) (pok_so (eok_op r2_add (eok_var rfl) eok_int)) pok_no)))) (sok_if ⟨rfl, rfl⟩ (tok_test (eok_op r2_eq (eok_var rfl) eok_int)) (sok_drop ⟨rfl, rfl⟩ (eok_mt mok_append rfl (aok_cons eok_int aok_nil))) (sok_ret ⟨rfl, rfl⟩ (eok_op r2_ix (eok_tup (aok_cons (eok_frz (eok_cb c1_list (aok_cons (eok_var rfl) aok_nil))) (aok_cons (eok_op r2_ix (eok_var rfl) eok_int) (aok_cons eok_non (aok_cons (eok_tup (aok_cons (eok_var rfl) aok_nil)) (aok_cons eok_str aok_nil)))))) (eok_callO rfl (aok_cons eok_int aok_nil))))))) (sok_frz (i := 4) rfl (sok_ret ⟨rfl, rfl⟩ (eok_op r2_add (eok_op r2_add (eok_sl slok_any (eok_var rfl) pok_no (pok_so (eok_var rfl))) (eok_tup (aok_cons (eok_cb c1_tuple (aok_cons (eok_var rfl) aok_nil)) aok_nil))) (eok_sl slok_any (eok_var rfl) (pok_so (eok_op r2_add (eok_var rfl) eok_int)) pok_no))))))))) h⟩
abbrev s__law_asked : Stmt := top 28
abbrev N__law_asked : List Str := ["pond", "places", "pieces", "short", "spread", "told", "length", "turn", "bent", "at", "start", "long", "step", "parted", "number", "piece"]
theorem sc__law_asked : FnScope N__law_asked ["pond"] (defScope s__law_asked) := ⟨rfl, rfl, rfl, by decide +kernel, rfl, by decide +kernel, by decide +kernel⟩
def b__law_asked : DL.Env → Out := (sSeq (sPar 1 2 (aCons (eCallO 0 0 d__law_places aNil) (aCons (eCallO 0 0 d__law_pieces aNil) aNil))) (sSeq (sAsg (eTup (aCons (eCall 1 d__law_short (aCons (eVar 1) aNil)) (aCons (eCall 1 d__law_spread (aCons (eVar 2) aNil)) aNil))) (gT 2 (gsCons (gN 3) (gsCons (gN 4) gsNil)))) (sSeq (sSet 5 (eTup (aCons (eCall 1 d_short_row (aCons (eVar 1) aNil)) (aCons (eCall 1 d_piece_places (aCons (eVar 3) aNil)) (aCons (eCall 1 d_is_short (aCons (eVar 3) aNil)) (aCons (eCall 1 d_piece_places (aCons (eVar 2) aNil)) (aCons (eCall 1 d_short_row (aCons (eVar 4) aNil)) (aCons (eCall 1 d_is_short (aCons (eVar 2) aNil)) aNil)))))))) (sSeq (sIf (bNot (tVal (eCall 2 d__law_same (aCons (eVar 5) (aCons (eTup (aCons (eVar 3) (aCons (eVar 1) (aCons (eC (.bl true)) (aCons (eVar 4) (aCons (eCall 1 d__law_short (aCons (eVar 4) aNil)) (aCons (eOp gEq (eVar 2) (eCall 1 d__law_short (aCons (eVar 4) aNil))) aNil))))))) aNil))))) (sRet (eC (.bl false))) Out.nx) (sSeq (sFor (iA (eTup (aCons (eC (.int 30)) (aCons (eC (.int 12)) (aCons (eCB gMaxA (aCons (eOp gAdd (eVar 4) (eTup (aCons (eC (.int 0)) aNil))) aNil)) (aCons (eOp gAdd (eCB gMaxA (aCons (eOp gAdd (eVar 4) (eTup (aCons (eC (.int 0)) aNil))) aNil)) (eC (.int 1))) aNil)))))) (gN 6) (sIf (bNot (tVal (eCall 2 d__law_right (aCons (eVar 6) (aCons (eVar 2) aNil))))) (sRet (eC (.bl false))) Out.nx)) (sSeq (sFor (iR1 (aCons (eC (.int 7)) aNil)) (gN 7) (sSeq (sSet 8 (eCallO 0 1 d__law_bent (aCons (eVar 2) aNil))) (sIf (bNot (tVal (eCall 2 d__law_right (aCons (eOp gIx (eTup (aCons (eC (.int 30)) (aCons (eC (.int 12)) aNil))) (eOp (gIC CMod fun i j => i % j) (eVar 7) (eC (.int 2)))) (aCons (eVar 8) aNil))))) (sRet (eC (.bl false))) Out.nx))) (sSeq (sIf (bAnd (tVal (eOp (gB0 fun i j => decide (j < i)) (eCB gLen (aCons (eVar 3) aNil)) (eC (.int 0)))) (tVal (eOp (gB0 fun i j => decide (j < i)) (eCB gMaxA (aCons (eLc (iA (eVar 3)) (gN 15) bYes (eOp gIx (eVar 15) (eC (.int 1))) [15]) aNil)) (eC (.int 1))))) (sSeq (sSet 9 (eOp gIx (eLc (iR1 (aCons (eCB gLen (aCons (eVar 3) aNil)) aNil)) (gN 14) (tVal (eOp (gB0 fun i j => decide (j < i)) (eOp gIx (eOp gIx (eVar 3) (eVar 14)) (eC (.int 1))) (eC (.int 1)))) (eVar 14) [14]) (eC (.int 0)))) (sSeq (sAsg (eOp gIx (eVar 3) (eVar 9)) (gT 3 (gsCons (gN 10) (gsCons (gN 11) (gsCons (gN 12) gsNil))))) (sSeq (sSet 13 (eOp gAdd (eOp gAdd (eSl gSl (eVar 3) pNo (pSo (eVar 9))) (eTup (aCons (eTup (aCons (eVar 10) (aCons (eC (.int 1)) (aCons (eC (.int 1)) aNil)))) (aCons (eTup (aCons (eOp gAdd (eVar 10) (eVar 12)) (aCons (eOp (gI0 fun i j => i - j) (eVar 11) (eC (.int 1))) (aCons (eIf (tVal (eOp (gB0 fun i j => decide (j < i)) (eVar 11) (eC (.int 2)))) (eVar 12) (eC (.int 1))) aNil)))) aNil)))) (eSl gSl (eVar 3) (pSo (eOp gAdd (eVar 9) (eC (.int 1)))) pNo))) (sIf (bNot (tVal (eCall 2 d__law_same (aCons (eTup (aCons (eCall 1 d_is_short (aCons (eVar 13) aNil)) (aCons (eCall 1 d_piece_places (aCons (eVar 13) aNil)) aNil))) (aCons (eTup (aCons (eC (.bl false)) (aCons (eVar 1) aNil))) aNil))))) (sRet (eC (.bl false))) Out.nx)))) Out.nx) (sRet (eC (.bl true))))))))))
def d__law_asked : Den := mkF 16 1 b__law_asked
abbrev p__law_asked (K : PySem.W.Frag) (mg : Mg) : Sp := spD K mg (.ls :: List.replicate 0 .pu) .pu d__law_asked
theorem ok__law_asked {P : Program} {w : World} {K : PySem.W.Frag} {mg : Mg} {base : Heap} {C_BadPiece C_DataError C_MoveError : Addr} (z : Zs mg) (x : Xs P K mg C_BadPiece C_DataError C_MoveError) (g__law_places : Df P w K mg base "_law_places" s__law_places ["pond"] 4 (p__law_places K mg)) (g__law_pieces : Df P w K mg base "_law_pieces" s__law_pieces ["pond"] 4 (p__law_pieces K mg)) (g__law_short : Df P w K mg base "_law_short" s__law_short ["places"] 2 (p__law_short K mg)) (g__law_spread : Df P w K mg base "_law_spread" s__law_spread ["pieces"] 2 (p__law_spread K mg)) (g_short_row : Df P w K mg base "short_row" s_short_row ["places"] 4 (p_short_row K mg)) (g_piece_places : Df P w K mg base "piece_places" s_piece_places ["pieces"] 2 (p_piece_places K mg)) (g_is_short : Df P w K mg base "is_short" s_is_short ["pieces"] 6 (p_is_short K mg)) (g__law_same : Df P w K mg base "_law_same" s__law_same ["told", "due"] 2 (p__law_same K mg)) (g__law_bent : Df P w K mg base "_law_bent" s__law_bent ["pond", "pieces"] 4 (p__law_bent K mg)) (g__law_right : Df P w K mg base "_law_right" s__law_right ["length", "thing"] 12 (p__law_right K mg)) {f : Addr} {fd : FuncData} (F : Fun K "_law_asked" "_law_asked" s__law_asked f fd) : FnOk P w K mg base (L2.CX P w) 14 f fd ["pond"] (p__law_asked K mg) := by
  refine F.okX sc__law_asked (fun vs H Q E h => spD_len h) (fun cdv A outer s H vs Q E hr h => ?_)
  exact ⟨_, (pss_cons (ps_par (i := 1) (j := 2) rfl sc__law_asked.nd rfl rfl (by decide) rfl rfl (pa_cons (pe_df g__law_places (hr.mono (by decide)) rfl (takes_of rfl rfl rfl rfl) (pa_cons (pv 0) pa_nil)) (pa_cons (pe_df g__law_pieces (hr.mono (by decide)) rfl (takes_of rfl rfl rfl rfl) (pa_cons (pv 0) pa_nil)) pa_nil)) (by first | rfl | with_unfolding_all rfl)) (pss_cons (ps_asg (pe_tup (pa_cons (pe_df g__law_short (hr.mono (by decide)) rfl (takes_of rfl rfl rfl rfl) (pa_cons (pv 1) pa_nil)) (pa_cons (pe_df g__law_spread (hr.mono (by decide)) rfl (takes_of rfl rfl rfl rfl) (pa_cons (pv 2) pa_nil)) pa_nil))) (pg_tup rfl (pgs_cons (pg_name (i := 3) sc__law_asked.nd rfl (by first | exact Or.inl rfl | exact Or.inr rfl)) (pgs_cons (pg_name (i := 4) sc__law_asked.nd rfl (by first | exact Or.inl rfl | exact Or.inr rfl)) pgs_nil)))) (pss_cons (ps_set (i := 5) sc__law_asked.nd rfl (by first | exact Or.inl rfl | exact Or.inr rfl) (pe_tup (pa_cons (pe_df g_short_row (hr.mono (by decide)) rfl (takes_of rfl rfl rfl rfl) (pa_cons (pv 1) pa_nil)) (pa_cons (pe_df g_piece_places (hr.mono (by decide)) rfl (takes_of rfl rfl rfl rfl) (pa_cons (pv 3) pa_nil)) (pa_cons (pe_df g_is_short (hr.mono (by decide)) rfl (takes_of rfl rfl rfl rfl) (pa_cons (pv 3) pa_nil)) (pa_cons (pe_df g_piece_places (hr.mono (by decide)) rfl (takes_of rfl rfl rfl rfl) (pa_cons (pv 2) pa_nil)) (pa_cons (pe_df g_short_row (hr.mono (by decide)) rfl (takes_of rfl rfl rfl rfl) (pa_cons (pv 4) pa_nil)) (pa_cons (pe_df g_is_short (hr.mono (by decide)) rfl (takes_of rfl rfl rfl rfl) (pa_cons (pv 2) pa_nil)) pa_nil)))))))) (pss_cons (ps_if (pt_not (pt_val (pe_df g__law_same (hr.mono (by decide)) rfl (takes_of rfl rfl rfl rfl) (pa_cons (pv 5) (pa_cons (pe_tup (pa_cons (pv 3) (pa_cons (pv 1) (pa_cons pe_bl (pa_cons (pv 4) (pa_cons (pe_df g__law_short (hr.mono (by decide)) rfl (takes_of rfl rfl rfl rfl) (pa_cons (pv 4) pa_nil)) (pa_cons (pe_cmpR (opEq (Room.u64 hr)) (pv 2) (pe_df g__law_short (hr.mono (by decide)) rfl (takes_of rfl rfl rfl rfl) (pa_cons (pv 4) pa_nil)) (nomark _)) pa_nil))))))) pa_nil))))) (pss_one (ps_ret pe_bl)) pss_nil) (pss_cons (ps_for (passes_of rfl) rfl (pi_any (pe_tup (pa_cons pe_int (pa_cons pe_int (pa_cons (pe_callB (callMaxA (Room.u1 hr) rfl) rfl z.z_max rfl (pa_cons (pe_op opAdd (pv 4) (pe_tup (pa_cons pe_int pa_nil))) pa_nil)) (pa_cons (pe_op opAdd (pe_callB (callMaxA (Room.u1 hr) rfl) rfl z.z_max rfl (pa_cons (pe_op opAdd (pv 4) (pe_tup (pa_cons pe_int pa_nil))) pa_nil)) pe_int) pa_nil)))))) (pg_name (i := 6) sc__law_asked.nd rfl (by first | exact Or.inl rfl | exact Or.inr rfl)) (pss_one (ps_if (pt_not (pt_val (pe_df g__law_right (hr.mono (by decide)) rfl (takes_of rfl rfl rfl rfl) (pa_cons (pv 6) (pa_cons (pv 2) pa_nil))))) (pss_one (ps_ret pe_bl)) pss_nil))) (pss_cons (ps_for (passes_of rfl) rfl (pi_range1 rfl z.z_range (pa_cons pe_int pa_nil)) (pg_name (i := 7) sc__law_asked.nd rfl (by first | exact Or.inl rfl | exact Or.inr rfl)) (pss_cons (ps_set (i := 8) sc__law_asked.nd rfl (by first | exact Or.inl rfl | exact Or.inr rfl) (pe_df g__law_bent (hr.mono (by decide)) rfl (takes_of rfl rfl rfl rfl) (pa_cons (pv 0) (pa_cons (pv 2) pa_nil)))) (pss_one (ps_if (pt_not (pt_val (pe_df g__law_right (hr.mono (by decide)) rfl (takes_of rfl rfl rfl rfl) (pa_cons (pe_ix (ix_any (Room.u1 hr)) (pe_tup (pa_cons pe_int (pa_cons pe_int pa_nil))) (pe_op op_mod (pv 7) pe_int) (fun _ _ => rfl)) (pa_cons (pv 8) pa_nil))))) (pss_one (ps_ret pe_bl)) pss_nil)))) (pss_cons (ps_if (PW.pt (pw_and (pt_cmpR op_gt (pe_callB callLen rfl z.z_len rfl (pa_cons (pv 3) pa_nil)) pe_int (nomark _)) (pw_and1 (pt_cmpR op_gt (pe_callB (callMaxA (Room.u1 hr) rfl) rfl z.z_max rfl (pa_cons (pe_lc (own := [("piece", 15)]) rfl sc__law_asked.nd (pi_any (pv 3)) (blkOk_by (own := [("piece", 15)]) (N := N__law_asked) (sc := defScope s__law_asked) (by decide +kernel)) (fun _ _ _ _ _ => (pg_name (i := 15) sc__law_asked.nd rfl (by first | exact Or.inl rfl | exact Or.inr rfl))) (fun _ _ _ _ _ => pts_nil) (fun _ _ _ _ _ => (pe_ix (ix_any (Room.u1 hr)) (pv 15) pe_int (fun _ _ => rfl)))) pa_nil)) pe_int (nomark _))))) (pss_cons (ps_set (i := 9) sc__law_asked.nd rfl (by first | exact Or.inl rfl | exact Or.inr rfl) (pe_ix (ix_any (Room.u1 hr)) (pe_lc (own := [("number", 14)]) rfl sc__law_asked.nd (pi_range1 rfl z.z_range (pa_cons (pe_callB callLen rfl z.z_len rfl (pa_cons (pv 3) pa_nil)) pa_nil)) (blkOk_by (own := [("number", 14)]) (N := N__law_asked) (sc := defScope s__law_asked) (by decide +kernel)) (fun _ _ _ _ _ => (pg_name (i := 14) sc__law_asked.nd rfl (by first | exact Or.inl rfl | exact Or.inr rfl))) (fun _ _ _ _ _ => (pts_one (pt_cmpR op_gt (pe_ix (ix_any (Room.u1 hr)) (pe_ix (ix_any (Room.u1 hr)) (pv 3) (pv 14) (fun _ _ => rfl)) pe_int (fun _ _ => rfl)) pe_int (nomark _)))) (fun _ _ _ _ _ => (pv 14))) pe_int (fun _ _ => rfl))) (pss_cons (ps_asg (pe_ix (ix_any (Room.u1 hr)) (pv 3) (pv 9) (fun _ _ => rfl)) (pg_tup rfl (pgs_cons (pg_name (i := 10) sc__law_asked.nd rfl (by first | exact Or.inl rfl | exact Or.inr rfl)) (pgs_cons (pg_name (i := 11) sc__law_asked.nd rfl (by first | exact Or.inl rfl | exact Or.inr rfl)) (pgs_cons (pg_name (i := 12) sc__law_asked.nd rfl (by first | exact Or.inl rfl | exact Or.inr rfl)) pgs_nil))))) (pss_cons (ps_set (i := 13) sc__law_asked.nd rfl (by first | exact Or.inl rfl | exact Or.inr rfl) (pe_op opAdd (pe_op opAdd (pe_slice slAny (pv 3) po_none (po_some (pv 9))) (pe_tup (pa_cons (pe_tup (pa_cons (pv 10) (pa_cons pe_int (pa_cons pe_int pa_nil)))) (pa_cons (pe_tup (pa_cons (pe_op opAdd (pv 10) (pv 12)) (pa_cons (pe_op op_sub (pv 11) pe_int) (pa_cons (pe_ifExp (pt_cmpR op_gt (pv 11) pe_int (nomark _)) (pv 12) pe_int) pa_nil)))) pa_nil)))) (pe_slice slAny (pv 3) (po_some (pe_op opAdd (pv 9) pe_int)) po_none))) (pss_one (ps_if (pt_not (pt_val (pe_df g__law_same (hr.mono (by decide)) rfl (takes_of rfl rfl rfl rfl) (pa_cons (pe_tup (pa_cons (pe_df g_is_short (hr.mono (by decide)) rfl (takes_of rfl rfl rfl rfl) (pa_cons (pv 13) pa_nil)) (pa_cons (pe_df g_piece_places (hr.mono (by decide)) rfl (takes_of rfl rfl rfl rfl) (pa_cons (pv 13) pa_nil)) pa_nil))) (pa_cons (pe_tup (pa_cons pe_bl (pa_cons (pv 1) pa_nil))) pa_nil))))) (pss_one (ps_ret pe_bl)) pss_nil))))) pss_nil) (pss_one (ps_ret pe_bl))))))))),
    fn_body (N := N__law_asked) (k := 1) (Γp := (.ls :: List.replicate 0 .pu)) (sr := .pu) (fb := b__law_asked) (Γi := [.pu, .pu, .pu, .pu, .pu, .pu, .pu, .pu, .pu, .pu, .pu, .pu, .pu, .pu, .pu]) (Γ' := [.ls, .pu, .pu, .pu, .pu, .pu, .pu, .pu, .pu, .pu, .pu, .pu, .pu, .pu, .pu, .pu]) (by decide) rfl (.inl rfl) ⟨rfl, rfl⟩ (sok_seq (sok_parK ⟨rfl, rfl⟩ (np rfl) (np rfl) rfl rfl (aok_cons (eok_callO rfl aok_nil) (aok_cons (eok_callO rfl aok_nil) aok_nil))) (sok_seq (sok_asg ⟨rfl, rfl⟩ (np2 rfl) (eok_tup (aok_cons (eok_call (aok_cons (eok_var rfl) aok_nil)) (aok_cons (eok_call (aok_cons (eok_var rfl) aok_nil)) aok_nil))) (gok_tup (n := 2) (gsok_cons (gok_nameK (i := 3) rfl) (gsok_cons (gok_nameK (i := 4) rfl) gsok_nil)))) (sok_seq (sok_setK ⟨rfl, rfl⟩ (np rfl) rfl (eok_tup (aok_cons (eok_call (aok_cons (eok_var rfl) aok_nil)) (aok_cons (eok_call (aok_cons (eok_var rfl) aok_nil)) (aok_cons (eok_call (aok_cons (eok_var rfl) aok_nil)) (aok_cons (eok_call (aok_cons (eok_var rfl) aok_nil)) (aok_cons (eok_call (aok_cons (eok_var rfl) aok_nil)) (aok_cons (eok_call (aok_cons (eok_var rfl) aok_nil)) aok_nil)))))))) (sok_seq (sok_if ⟨rfl, rfl⟩ (tok_not (tok_b (eok_call (aok_cons (eok_var rfl) (aok_cons (eok_tup (aok_cons (eok_var rfl) (aok_cons (eok_var rfl) (aok_cons eok_bl (aok_cons (eok_var rfl) (aok_cons (eok_call (aok_cons (eok_var rfl) aok_nil)) (aok_cons (eok_op r2_eq (eok_var rfl) (eok_call (aok_cons (eok_var rfl) aok_nil))) aok_nil))))))) aok_nil))))) (sok_ret ⟨rfl, rfl⟩ eok_bl) sok_next) (sok_seq (sok_for ⟨rfl, rfl⟩ (np2 rfl) (iok_any (eok_tup (aok_cons eok_int (aok_cons eok_int (aok_cons (eok_cb c1_maxA (aok_cons (eok_op r2_add (eok_var rfl) (eok_tup (aok_cons eok_int aok_nil))) aok_nil)) (aok_cons (eok_op r2_add (eok_cb c1_maxA (aok_cons (eok_op r2_add (eok_var rfl) (eok_tup (aok_cons eok_int aok_nil))) aok_nil)) eok_int) aok_nil)))))) (gok_nameK (i := 6) rfl) (sok_if ⟨rfl, rfl⟩ (tok_not (tok_b (eok_call (aok_cons (eok_var rfl) (aok_cons (eok_var rfl) aok_nil))))) (sok_ret ⟨rfl, rfl⟩ eok_bl) sok_next)) (sok_seq (sok_for ⟨rfl, rfl⟩ (np2 rfl) (iok_range1 (aok_cons eok_int aok_nil)) (gok_nameK (i := 7) rfl) (sok_seq (sok_setK ⟨rfl, rfl⟩ (np rfl) rfl (eok_callO rfl (aok_cons (eok_var rfl) aok_nil))) (sok_if ⟨rfl, rfl⟩ (tok_not (tok_b (eok_call (aok_cons (eok_op r2_ix (eok_tup (aok_cons eok_int (aok_cons eok_int aok_nil))) (eok_op (r2_ic (c := CMod)) (eok_var rfl) eok_int)) (aok_cons (eok_var rfl) aok_nil))))) (sok_ret ⟨rfl, rfl⟩ eok_bl) sok_next))) (sok_seq (sok_if ⟨rfl, rfl⟩ (tok_and (tok_test (eok_op r2_b0 (eok_cb c1_len (aok_cons (eok_var rfl) aok_nil)) eok_int)) (tok_test (eok_op r2_b0 (eok_cb c1_maxA (aok_cons (eok_frz (eok_lc (vs := [15]) (by decide) (iok_any (eok_var rfl)) (gok_nameK (i := 15) rfl) tok_yes (eok_op r2_ix (eok_var rfl) eok_int))) aok_nil)) eok_int))) (sok_seq (sok_setK ⟨rfl, rfl⟩ (np rfl) rfl (eok_op r2_ix (eok_frz (eok_lc (vs := [14]) (by decide) (iok_range1 (aok_cons (eok_cb c1_len (aok_cons (eok_var rfl) aok_nil)) aok_nil)) (gok_nameK (i := 14) rfl) (tok_test (eok_op r2_b0 (eok_op r2_ix (eok_op r2_ix (eok_var rfl) (eok_var rfl)) eok_int) eok_int)) (eok_var rfl))) eok_int)) (sok_seq (sok_asg ⟨rfl, rfl⟩ (np2 rfl) (eok_op r2_ix (eok_var rfl) (eok_var rfl)) (gok_tup (n := 3) (gsok_cons (gok_nameK (i := 10) rfl) (gsok_cons (gok_nameK (i := 11) rfl) (gsok_cons (gok_nameK (i := 12) rfl) gsok_nil))))) (sok_seq (sok_setK ⟨rfl, rfl⟩ (np rfl) rfl (eok_op r2_add (eok_op r2_add (eok_sl slok_any (eok_var rfl) pok_no (pok_so (eok_var rfl))) (eok_tup (aok_cons (eok_tup (aok_cons (eok_var rfl) (aok_cons eok_int (aok_cons eok_int aok_nil)))) (aok_cons (eok_tup (aok_cons (eok_op r2_add (eok_var rfl) (eok_var rfl)) (aok_cons (eok_op r2_i0 (eok_var rfl) eok_int) (aok_cons (eok_if (tok_test (eok_op r2_b0 (eok_var rfl) eok_int)) (eok_var rfl) eok_int) aok_nil)))) aok_nil)))) (eok_sl slok_any (eok_var rfl) (pok_so (eok_op r2_add (eok_var rfl) eok_int)) pok_no))) (sok_if ⟨rfl, rfl⟩ (tok_not (tok_b (eok_call (aok_cons (eok_tup (aok_cons (eok_call (aok_cons (eok_var rfl) aok_nil)) (aok_cons (eok_call (aok_cons (eok_var rfl) aok_nil)) aok_nil))) (aok_cons (eok_tup (aok_cons eok_bl (aok_cons (eok_var rfl) aok_nil))) aok_nil))))) (sok_ret ⟨rfl, rfl⟩ eok_bl) sok_next)))) sok_next) (sok_ret ⟨rfl, rfl⟩ eok_bl)))))))) h⟩
abbrev s_law : Stmt := top 29
abbrev N_law : List Str := ["script", "pond", "lap", "rows", "dues", "at", "things", "words", "told"]
theorem sc_law : FnScope N_law ["script"] (defScope s_law) := ⟨rfl, rfl, rfl, by decide +kernel, rfl, by decide +kernel, by decide +kernel⟩
def b_law : DL.Env → Out := (sSeq (sSet 1 (eCall 1 d__law_pond (aCons (eVar 0) aNil))) (sSeq (sFor (iR1 (aCons (eC (.int 5)) aNil)) (gN 2) (sIf (bNot (tVal (eCallO 1 0 d__law_asked aNil))) (sRet (eC (.bl false))) Out.nx)) (sSeq (sSet 3 (eTup (aCons (eTup (aCons (eC (.int 3)) (aCons (eC (.int 4)) (aCons (eC (.int 5)) (aCons (eC (.int 1)) (aCons (eC (.int 0)) (aCons (eC (.int 7)) aNil))))))) (aCons (eTup (aCons (eC (.int 0)) (aCons (eC (.int 1)) (aCons (eC (.int 0)) (aCons (eC (.int 1)) aNil))))) (aCons (eTup (aCons (eC (.int 2)) (aCons (eC (.int 2)) (aCons (eC (.int 3)) aNil)))) (aCons (eTup (aCons (eC (.int 5)) (aCons (eC (.int 4)) (aCons (eC (.int 3)) (aCons (eC (.int 4)) (aCons (eC (.int 5)) aNil)))))) (aCons (eTup aNil) (aCons (eTup (aCons (eC (.int 9)) aNil)) (aCons (eTup (aCons (eC (.int 0)) (aCons (eC (.int 2)) (aCons (eC (.int 4)) aNil)))) (aCons (eTup (aCons (eC (.int 1)) (aCons (eC (.int 0)) (aCons (eC (.int 0)) (aCons (eC (.int 1)) aNil))))) (aCons (eTup (aCons (eC (.int 3)) (aCons (eC (.int 2)) (aCons (eC (.int 1)) (aCons (eC (.int 0)) (aCons (eC (.int 1)) aNil)))))) aNil))))))))))) (sSeq (sSet 4 (eTup (aCons (eTup (aCons (eTup (aCons (eC (.int 3)) (aCons (eC (.int 3)) (aCons (eC (.int 1)) aNil)))) (aCons (eTup (aCons (eC (.int 1)) (aCons (eC (.int 2)) (aCons (eUn gNeg (eC (.int 1))) aNil)))) (aCons (eTup (aCons (eC (.int 7)) (aCons (eC (.int 1)) (aCons (eC (.int 1)) aNil)))) aNil)))) (aCons (eTup (aCons (eTup (aCons (eC (.int 0)) (aCons (eC (.int 2)) (aCons (eC (.int 1)) aNil)))) (aCons (eTup (aCons (eC (.int 0)) (aCons (eC (.int 2)) (aCons (eC (.int 1)) aNil)))) aNil))) (aCons (eTup (aCons (eTup (aCons (eC (.int 2)) (aCons (eC (.int 1)) (aCons (eC (.int 1)) aNil)))) (aCons (eTup (aCons (eC (.int 2)) (aCons (eC (.int 2)) (aCons (eC (.int 1)) aNil)))) aNil))) (aCons (eTup (aCons (eTup (aCons (eC (.int 5)) (aCons (eC (.int 3)) (aCons (eUn gNeg (eC (.int 1))) aNil)))) (aCons (eTup (aCons (eC (.int 4)) (aCons (eC (.int 2)) (aCons (eC (.int 1)) aNil)))) aNil))) (aCons (eTup aNil) (aCons (eTup (aCons (eTup (aCons (eC (.int 9)) (aCons (eC (.int 1)) (aCons (eC (.int 1)) aNil)))) aNil)) (aCons (eTup (aCons (eTup (aCons (eC (.int 0)) (aCons (eC (.int 1)) (aCons (eC (.int 1)) aNil)))) (aCons (eTup (aCons (eC (.int 2)) (aCons (eC (.int 1)) (aCons (eC (.int 1)) aNil)))) (aCons (eTup (aCons (eC (.int 4)) (aCons (eC (.int 1)) (aCons (eC (.int 1)) aNil)))) aNil)))) (aCons (eTup (aCons (eTup (aCons (eC (.int 1)) (aCons (eC (.int 2)) (aCons (eUn gNeg (eC (.int 1))) aNil)))) (aCons (eTup (aCons (eC (.int 0)) (aCons (eC (.int 2)) (aCons (eC (.int 1)) aNil)))) aNil))) (aCons (eTup (aCons (eTup (aCons (eC (.int 3)) (aCons (eC (.int 4)) (aCons (eUn gNeg (eC (.int 1))) aNil)))) (aCons (eTup (aCons (eC (.int 1)) (aCons (eC (.int 1)) (aCons (eC (.int 1)) aNil)))) aNil))) aNil))))))))))) (sSeq (sFor (iR1 (aCons (eCB gLen (aCons (eVar 3) aNil)) aNil)) (gN 5) (sIf (bNot (tVal (eCall 2 d__law_same (aCons (eTup (aCons (eCall 1 d_short_row (aCons (eOp gIx (eVar 3) (eVar 5)) aNil)) (aCons (eCall 1 d__law_short (aCons (eOp gIx (eVar 3) (eVar 5)) aNil)) (aCons (eCall 1 d_piece_places (aCons (eOp gIx (eVar 4) (eVar 5)) aNil)) (aCons (eCall 1 d_is_short (aCons (eOp gIx (eVar 4) (eVar 5)) aNil)) aNil))))) (aCons (eTup (aCons (eOp gIx (eVar 4) (eVar 5)) (aCons (eOp gIx (eVar 4) (eVar 5)) (aCons (eOp gIx (eVar 3) (eVar 5)) (aCons (eC (.bl true)) aNil))))) aNil))))) (sRet (eC (.bl false))) Out.nx)) (sSeq (sSet 6 (eTup (aCons (eTup (aCons (eTup (aCons (eC (.int 0)) (aCons (eC (.int 2)) (aCons (eC (.int 1)) aNil)))) (aCons (eTup (aCons (eC (.int 2)) (aCons (eC (.int 1)) (aCons (eC (.int 1)) aNil)))) aNil))) (aCons (eTup (aCons (eTup (aCons (eC (.int 0)) (aCons (eC (.int 0)) (aCons (eC (.int 5)) aNil)))) aNil)) (aCons (eTup (aCons (eTup (aCons (eC (.int 0)) (aCons (eC (.int 1)) (aCons (eC (.int 0)) aNil)))) aNil)) (aCons (eTup (aCons (eTup (aCons (eC (.int 4)) (aCons (eC (.int 2)) (aCons (eC (.int 1)) aNil)))) aNil)) (aCons (eTup (aCons (eTup (aCons (eC (.int 0)) (aCons (eC (.int 2)) (aCons (eUn gNeg (eC (.int 1))) aNil)))) aNil)) (aCons (eTup (aCons (eTup (aCons (eC (.int 5)) (aCons (eC (.int 1)) (aCons (eC (.int 1)) aNil)))) aNil)) (aCons (eLst (aCons (eTup (aCons (eC (.int 0)) (aCons (eC (.int 1)) (aCons (eC (.int 1)) aNil)))) aNil)) (aCons (eTup (aCons (eTup (aCons (eC (.int 0)) (aCons (eC (.int 1)) (aCons (eC (.int 1)) aNil)))) (aCons (eTup (aCons (eC (.int 0)) (aCons (eC (.int 1)) aNil))) aNil))) (aCons (eTup (aCons (eTup (aCons (eC (.int 0)) (aCons (eC (.int 6)) (aCons (eC (.int 1)) aNil)))) (aCons (eTup (aCons (eC (.int 0)) (aCons (eC (.int 0)) (aCons (eC (.int 1)) aNil)))) aNil))) (aCons (eTup (aCons (eTup (aCons (eC (.int 0)) (aCons (eC (.bl true)) (aCons (eC (.int 1)) aNil)))) aNil)) (aCons (eTup aNil) (aCons (eTup (aCons (eTup (aCons (eC (.int 4)) (aCons (eC (.int 5)) (aCons (eUn gNeg (eC (.int 1))) aNil)))) aNil)) (aCons (eTup (aCons (eTup (aCons (eC (.int 0)) (aCons (eUn gNeg (eC (.int 1))) (aCons (eC (.int 7)) aNil)))) aNil)) (aCons (eTup (aCons (eTup (aCons (eUn gNeg (eC (.int 1))) (aCons (eC (.int 1)) (aCons (eC (.int 3)) aNil)))) aNil)) aNil)))))))))))))))) (sSeq (sSet 7 (eTup (aCons (eTup (aCons (eC (.str "told")) (aCons (eC (.int 3)) aNil))) (aCons (eTup (aCons (eC (.str "bad")) (aCons (eC (.int 0)) (aCons (eC (.str "length")) aNil)))) (aCons (eTup (aCons (eC (.str "bad")) (aCons (eC (.int 0)) (aCons (eC (.str "step")) aNil)))) (aCons (eTup (aCons (eC (.str "bad")) (aCons (eC (.int 0)) (aCons (eC (.str "place")) aNil)))) (aCons (eTup (aCons (eC (.str "bad")) (aCons (eC (.int 0)) (aCons (eC (.str "place")) aNil)))) (aCons (eTup (aCons (eC (.str "bad")) (aCons (eC (.int 0)) (aCons (eC (.str "place")) aNil)))) (aCons (eTup (aCons (eC (.str "bad")) (aCons (eUn gNeg (eC (.int 1))) (aCons (eC (.str "shape")) aNil)))) (aCons (eTup (aCons (eC (.str "bad")) (aCons (eUn gNeg (eC (.int 1))) (aCons (eC (.str "shape")) aNil)))) (aCons (eTup (aCons (eC (.str "bad")) (aCons (eC (.int 0)) (aCons (eC (.str "place")) aNil)))) (aCons (eTup (aCons (eC (.str "bad")) (aCons (eUn gNeg (eC (.int 1))) (aCons (eC (.str "shape")) aNil)))) (aCons (eTup (aCons (eC (.str "told")) (aCons (eC (.int 0)) aNil))) (aCons (eTup (aCons (eC (.str "told")) (aCons (eC (.int 5)) aNil))) (aCons (eTup (aCons (eC (.str "bad")) (aCons (eC (.int 0)) (aCons (eC (.str "length")) aNil)))) (aCons (eTup (aCons (eC (.str "bad")) (aCons (eC (.int 0)) (aCons (eC (.str "step")) aNil)))) aNil)))))))))))))))) (sSeq (sFor (iR1 (aCons (eCB gLen (aCons (eVar 6) aNil)) aNil)) (gN 5) (sIf (bOr (bNot (tVal (eCall 2 d__law_same (aCons (eCall 2 d__law_heard (aCons (eC (.int 5)) (aCons (eOp gIx (eVar 6) (eVar 5)) aNil))) (aCons (eOp gIx (eVar 7) (eVar 5)) aNil))))) (bNot (tVal (eCall 2 d__law_right (aCons (eC (.int 5)) (aCons (eOp gIx (eVar 6) (eVar 5)) aNil)))))) (sRet (eC (.bl false))) Out.nx)) (sSeq (sSet 8 (eTup (aCons (eCall 1 d_piece_places (aKw [0] 0 1 aNil (aCons (eTup (aCons (eTup (aCons (eC (.int 2)) (aCons (eC (.int 3)) (aCons (eUn gNeg (eC (.int 1))) aNil)))) (aCons (eTup (aCons (eC (.int 0)) (aCons (eC (.int 1)) (aCons (eC (.int 1)) aNil)))) aNil))) aNil))) (aCons (eCall 1 d_is_short (aKw [0] 0 1 aNil (aCons (eTup (aCons (eTup (aCons (eC (.int 0)) (aCons (eC (.int 2)) (aCons (eC (.int 1)) aNil)))) (aCons (eTup (aCons (eC (.int 2)) (aCons (eC (.int 1)) (aCons (eC (.int 1)) aNil)))) aNil))) aNil))) (aCons (eCall 1 d_is_short (aCons (eTup (aCons (eTup (aCons (eC (.int 4)) (aCons (eC (.int 1)) (aCons (eUn gNeg (eC (.int 1))) aNil)))) aNil)) aNil)) (aCons (eCall 2 d_check_pieces (aKw [1, 0] 0 2 aNil (aCons (eTup aNil) (aCons (eC (.int 0)) aNil)))) (aCons (eCall 1 d_short_row (aKw [0] 0 1 aNil (aCons (eTup (aCons (eC (.int 4)) (aCons (eC (.int 3)) aNil))) aNil))) aNil))))))) (sRet (eCall 2 d__law_same (aCons (eVar 8) (aCons (eTup (aCons (eTup (aCons (eC (.int 2)) (aCons (eC (.int 1)) (aCons (eC (.int 0)) (aCons (eC (.int 0)) aNil))))) (aCons (eC (.bl false)) (aCons (eC (.bl false)) (aCons (eC (.int 0)) (aCons (eTup (aCons (eTup (aCons (eC (.int 4)) (aCons (eC (.int 2)) (aCons (eUn gNeg (eC (.int 1))) aNil)))) aNil)) aNil)))))) aNil)))))))))))))
def d_law : Den := mkF 9 0 b_law
abbrev p_law (K : PySem.W.Frag) (mg : Mg) : Sp := spD K mg (List.replicate 1 .pu) .pu d_law
theorem ok_law {P : Program} {w : World} {K : PySem.W.Frag} {mg : Mg} {base : Heap} {C_BadPiece C_DataError C_MoveError : Addr} (z : Zs mg) (x : Xs P K mg C_BadPiece C_DataError C_MoveError) (g__law_pond : Df P w K mg base "_law_pond" s__law_pond ["script"] 2 (p__law_pond K mg)) (g__law_same : Df P w K mg base "_law_same" s__law_same ["told", "due"] 2 (p__law_same K mg)) (g_piece_places : Df P w K mg base "piece_places" s_piece_places ["pieces"] 2 (p_piece_places K mg)) (g_is_short : Df P w K mg base "is_short" s_is_short ["pieces"] 6 (p_is_short K mg)) (g_check_pieces : Df P w K mg base "check_pieces" s_check_pieces ["length", "thing"] 8 (p_check_pieces K mg)) (g_short_row : Df P w K mg base "short_row" s_short_row ["places"] 4 (p_short_row K mg)) (g__law_asked : Df P w K mg base "_law_asked" s__law_asked ["pond"] 14 (p__law_asked K mg)) (g__law_right : Df P w K mg base "_law_right" s__law_right ["length", "thing"] 12 (p__law_right K mg)) (g__law_short : Df P w K mg base "_law_short" s__law_short ["places"] 2 (p__law_short K mg)) (g__law_heard : Df P w K mg base "_law_heard" s__law_heard ["length", "thing"] 10 (p__law_heard K mg)) {f : Addr} {fd : FuncData} (F : Fun K "law" "law" s_law f fd) : FnOk P w K mg base (L2.CX P w) 16 f fd ["script"] (p_law K mg) := by
  refine F.okX sc_law (fun vs H Q E h => spD_len h) (fun cdv A outer s H vs Q E hr h => ?_)
  exact ⟨_, (pss_cons (ps_set (i := 1) sc_law.nd rfl (by first | exact Or.inl rfl | exact Or.inr rfl) (pe_df g__law_pond (hr.mono (by decide)) rfl (takes_of rfl rfl rfl rfl) (pa_cons (pv 0) pa_nil))) (pss_cons (ps_for (passes_of rfl) rfl (pi_range1 rfl z.z_range (pa_cons pe_int pa_nil)) (pg_name (i := 2) sc_law.nd rfl (by first | exact Or.inl rfl | exact Or.inr rfl)) (pss_one (ps_if (pt_not (pt_val (pe_df g__law_asked (hr.mono (by decide)) rfl (takes_of rfl rfl rfl rfl) (pa_cons (pv 1) pa_nil)))) (pss_one (ps_ret pe_bl)) pss_nil))) (pss_cons (ps_set (i := 3) sc_law.nd rfl (by first | exact Or.inl rfl | exact Or.inr rfl) (pe_tup (pa_cons (pe_tup (pa_cons pe_int (pa_cons pe_int (pa_cons pe_int (pa_cons pe_int (pa_cons pe_int (pa_cons pe_int pa_nil))))))) (pa_cons (pe_tup (pa_cons pe_int (pa_cons pe_int (pa_cons pe_int (pa_cons pe_int pa_nil))))) (pa_cons (pe_tup (pa_cons pe_int (pa_cons pe_int (pa_cons pe_int pa_nil)))) (pa_cons (pe_tup (pa_cons pe_int (pa_cons pe_int (pa_cons pe_int (pa_cons pe_int (pa_cons pe_int pa_nil)))))) (pa_cons (pe_tup pa_nil) (pa_cons (pe_tup (pa_cons pe_int pa_nil)) (pa_cons (pe_tup (pa_cons pe_int (pa_cons pe_int (pa_cons pe_int pa_nil)))) (pa_cons (pe_tup (pa_cons pe_int (pa_cons pe_int (pa_cons pe_int (pa_cons pe_int pa_nil))))) (pa_cons (pe_tup (pa_cons pe_int (pa_cons pe_int (pa_cons pe_int (pa_cons pe_int (pa_cons pe_int pa_nil)))))) pa_nil))))))))))) (pss_cons (ps_set (i := 4) sc_law.nd rfl (by first | exact Or.inl rfl | exact Or.inr rfl) (pe_tup (pa_cons (pe_tup (pa_cons (pe_tup (pa_cons pe_int (pa_cons pe_int (pa_cons pe_int pa_nil)))) (pa_cons (pe_tup (pa_cons pe_int (pa_cons pe_int (pa_cons (pe_un un_neg pe_int) pa_nil)))) (pa_cons (pe_tup (pa_cons pe_int (pa_cons pe_int (pa_cons pe_int pa_nil)))) pa_nil)))) (pa_cons (pe_tup (pa_cons (pe_tup (pa_cons pe_int (pa_cons pe_int (pa_cons pe_int pa_nil)))) (pa_cons (pe_tup (pa_cons pe_int (pa_cons pe_int (pa_cons pe_int pa_nil)))) pa_nil))) (pa_cons (pe_tup (pa_cons (pe_tup (pa_cons pe_int (pa_cons pe_int (pa_cons pe_int pa_nil)))) (pa_cons (pe_tup (pa_cons pe_int (pa_cons pe_int (pa_cons pe_int pa_nil)))) pa_nil))) (pa_cons (pe_tup (pa_cons (pe_tup (pa_cons pe_int (pa_cons pe_int (pa_cons (pe_un un_neg pe_int) pa_nil)))) (pa_cons (pe_tup (pa_cons pe_int (pa_cons pe_int (pa_cons pe_int pa_nil)))) pa_nil))) (pa_cons (pe_tup pa_nil) (pa_cons (pe_tup (pa_cons (pe_tup (pa_cons pe_int (pa_cons pe_int (pa_cons pe_int pa_nil)))) pa_nil)) (pa_cons (pe_tup (pa_cons (pe_tup (pa_cons pe_int (pa_cons pe_int (pa_cons pe_int pa_nil)))) (pa_cons (pe_tup (pa_cons pe_int (pa_cons pe_int (pa_cons pe_int pa_nil)))) (pa_cons (pe_tup (pa_cons pe_int (pa_cons pe_int (pa_cons pe_int pa_nil)))) pa_nil)))) (pa_cons (pe_tup (pa_cons (pe_tup (pa_cons pe_int (pa_cons pe_int (pa_cons (pe_un un_neg pe_int) pa_nil)))) (pa_cons (pe_tup (pa_cons pe_int (pa_cons pe_int (pa_cons pe_int pa_nil)))) pa_nil))) (pa_cons (pe_tup (pa_cons (pe_tup (pa_cons pe_int (pa_cons pe_int (pa_cons (pe_un un_neg pe_int) pa_nil)))) (pa_cons (pe_tup (pa_cons pe_int (pa_cons pe_int (pa_cons pe_int pa_nil)))) pa_nil))) pa_nil))))))))))) (pss_cons (ps_for (passes_of rfl) rfl (pi_range1 rfl z.z_range (pa_cons (pe_callB callLen rfl z.z_len rfl (pa_cons (pv 3) pa_nil)) pa_nil)) (pg_name (i := 5) sc_law.nd rfl (by first | exact Or.inl rfl | exact Or.inr rfl)) (pss_one (ps_if (pt_not (pt_val (pe_df g__law_same (hr.mono (by decide)) rfl (takes_of rfl rfl rfl rfl) (pa_cons (pe_tup (pa_cons (pe_df g_short_row (hr.mono (by decide)) rfl (takes_of rfl rfl rfl rfl) (pa_cons (pe_ix (ix_any (Room.u1 hr)) (pv 3) (pv 5) (fun _ _ => rfl)) pa_nil)) (pa_cons (pe_df g__law_short (hr.mono (by decide)) rfl (takes_of rfl rfl rfl rfl) (pa_cons (pe_ix (ix_any (Room.u1 hr)) (pv 3) (pv 5) (fun _ _ => rfl)) pa_nil)) (pa_cons (pe_df g_piece_places (hr.mono (by decide)) rfl (takes_of rfl rfl rfl rfl) (pa_cons (pe_ix (ix_any (Room.u1 hr)) (pv 4) (pv 5) (fun _ _ => rfl)) pa_nil)) (pa_cons (pe_df g_is_short (hr.mono (by decide)) rfl (takes_of rfl rfl rfl rfl) (pa_cons (pe_ix (ix_any (Room.u1 hr)) (pv 4) (pv 5) (fun _ _ => rfl)) pa_nil)) pa_nil))))) (pa_cons (pe_tup (pa_cons (pe_ix (ix_any (Room.u1 hr)) (pv 4) (pv 5) (fun _ _ => rfl)) (pa_cons (pe_ix (ix_any (Room.u1 hr)) (pv 4) (pv 5) (fun _ _ => rfl)) (pa_cons (pe_ix (ix_any (Room.u1 hr)) (pv 3) (pv 5) (fun _ _ => rfl)) (pa_cons pe_bl pa_nil))))) pa_nil))))) (pss_one (ps_ret pe_bl)) pss_nil))) (pss_cons (ps_set (i := 6) sc_law.nd rfl (by first | exact Or.inl rfl | exact Or.inr rfl) (pe_tup (pa_cons (pe_tup (pa_cons (pe_tup (pa_cons pe_int (pa_cons pe_int (pa_cons pe_int pa_nil)))) (pa_cons (pe_tup (pa_cons pe_int (pa_cons pe_int (pa_cons pe_int pa_nil)))) pa_nil))) (pa_cons (pe_tup (pa_cons (pe_tup (pa_cons pe_int (pa_cons pe_int (pa_cons pe_int pa_nil)))) pa_nil)) (pa_cons (pe_tup (pa_cons (pe_tup (pa_cons pe_int (pa_cons pe_int (pa_cons pe_int pa_nil)))) pa_nil)) (pa_cons (pe_tup (pa_cons (pe_tup (pa_cons pe_int (pa_cons pe_int (pa_cons pe_int pa_nil)))) pa_nil)) (pa_cons (pe_tup (pa_cons (pe_tup (pa_cons pe_int (pa_cons pe_int (pa_cons (pe_un un_neg pe_int) pa_nil)))) pa_nil)) (pa_cons (pe_tup (pa_cons (pe_tup (pa_cons pe_int (pa_cons pe_int (pa_cons pe_int pa_nil)))) pa_nil)) (pa_cons (pe_lst (pa_cons (pe_tup (pa_cons pe_int (pa_cons pe_int (pa_cons pe_int pa_nil)))) pa_nil)) (pa_cons (pe_tup (pa_cons (pe_tup (pa_cons pe_int (pa_cons pe_int (pa_cons pe_int pa_nil)))) (pa_cons (pe_tup (pa_cons pe_int (pa_cons pe_int pa_nil))) pa_nil))) (pa_cons (pe_tup (pa_cons (pe_tup (pa_cons pe_int (pa_cons pe_int (pa_cons pe_int pa_nil)))) (pa_cons (pe_tup (pa_cons pe_int (pa_cons pe_int (pa_cons pe_int pa_nil)))) pa_nil))) (pa_cons (pe_tup (pa_cons (pe_tup (pa_cons pe_int (pa_cons pe_bl (pa_cons pe_int pa_nil)))) pa_nil)) (pa_cons (pe_tup pa_nil) (pa_cons (pe_tup (pa_cons (pe_tup (pa_cons pe_int (pa_cons pe_int (pa_cons (pe_un un_neg pe_int) pa_nil)))) pa_nil)) (pa_cons (pe_tup (pa_cons (pe_tup (pa_cons pe_int (pa_cons (pe_un un_neg pe_int) (pa_cons pe_int pa_nil)))) pa_nil)) (pa_cons (pe_tup (pa_cons (pe_tup (pa_cons (pe_un un_neg pe_int) (pa_cons pe_int (pa_cons pe_int pa_nil)))) pa_nil)) pa_nil)))))))))))))))) (pss_cons (ps_set (i := 7) sc_law.nd rfl (by first | exact Or.inl rfl | exact Or.inr rfl) (pe_tup (pa_cons (pe_tup (pa_cons pe_str (pa_cons pe_int pa_nil))) (pa_cons (pe_tup (pa_cons pe_str (pa_cons pe_int (pa_cons pe_str pa_nil)))) (pa_cons (pe_tup (pa_cons pe_str (pa_cons pe_int (pa_cons pe_str pa_nil)))) (pa_cons (pe_tup (pa_cons pe_str (pa_cons pe_int (pa_cons pe_str pa_nil)))) (pa_cons (pe_tup (pa_cons pe_str (pa_cons pe_int (pa_cons pe_str pa_nil)))) (pa_cons (pe_tup (pa_cons pe_str (pa_cons pe_int (pa_cons pe_str pa_nil)))) (pa_cons (pe_tup (pa_cons pe_str (pa_cons (pe_un un_neg pe_int) (pa_cons pe_str pa_nil)))) (pa_cons (pe_tup (pa_cons pe_str (pa_cons (pe_un un_neg pe_int) (pa_cons pe_str pa_nil)))) (pa_cons (pe_tup (pa_cons pe_str (pa_cons pe_int (pa_cons pe_str pa_nil)))) (pa_cons (pe_tup (pa_cons pe_str (pa_cons (pe_un un_neg pe_int) (pa_cons pe_str pa_nil)))) (pa_cons (pe_tup (pa_cons pe_str (pa_cons pe_int pa_nil))) (pa_cons (pe_tup (pa_cons pe_str (pa_cons pe_int pa_nil))) (pa_cons (pe_tup (pa_cons pe_str (pa_cons pe_int (pa_cons pe_str pa_nil)))) (pa_cons (pe_tup (pa_cons pe_str (pa_cons pe_int (pa_cons pe_str pa_nil)))) pa_nil)))))))))))))))) (pss_cons (ps_for (passes_of rfl) rfl (pi_range1 rfl z.z_range (pa_cons (pe_callB callLen rfl z.z_len rfl (pa_cons (pv 6) pa_nil)) pa_nil)) (pg_name (i := 5) sc_law.nd rfl (by first | exact Or.inl rfl | exact Or.inr rfl)) (pss_one (ps_if (PW.pt (pw_or (pt_not (pt_val (pe_df g__law_same (hr.mono (by decide)) rfl (takes_of rfl rfl rfl rfl) (pa_cons (pe_df g__law_heard (hr.mono (by decide)) rfl (takes_of rfl rfl rfl rfl) (pa_cons pe_int (pa_cons (pe_ix (ix_any (Room.u1 hr)) (pv 6) (pv 5) (fun _ _ => rfl)) pa_nil))) (pa_cons (pe_ix (ix_any (Room.u1 hr)) (pv 7) (pv 5) (fun _ _ => rfl)) pa_nil))))) (pw_or1 (pt_not (pt_val (pe_df g__law_right (hr.mono (by decide)) rfl (takes_of rfl rfl rfl rfl) (pa_cons pe_int (pa_cons (pe_ix (ix_any (Room.u1 hr)) (pv 6) (pv 5) (fun _ _ => rfl)) pa_nil)))))))) (pss_one (ps_ret pe_bl)) pss_nil))) (pss_cons (ps_set (i := 8) sc_law.nd rfl (by first | exact Or.inl rfl | exact Or.inr rfl) (pe_tup (pa_cons (pe_kw0 (ks := ["pieces"]) (q := [0]) g_piece_places (fun _ _ _ _ _ _ us ws h1 h2 => match us, ws, h1, h2 with | [], [_], _, _ => rfl) (hr.mono (by decide)) rfl (takes_of rfl rfl rfl rfl) (pk_cons (pe_tup (pa_cons (pe_tup (pa_cons pe_int (pa_cons pe_int (pa_cons (pe_un un_neg pe_int) pa_nil)))) (pa_cons (pe_tup (pa_cons pe_int (pa_cons pe_int (pa_cons pe_int pa_nil)))) pa_nil))) pk_nil)) (pa_cons (pe_kw0 (ks := ["pieces"]) (q := [0]) g_is_short (fun _ _ _ _ _ _ us ws h1 h2 => match us, ws, h1, h2 with | [], [_], _, _ => rfl) (hr.mono (by decide)) rfl (takes_of rfl rfl rfl rfl) (pk_cons (pe_tup (pa_cons (pe_tup (pa_cons pe_int (pa_cons pe_int (pa_cons pe_int pa_nil)))) (pa_cons (pe_tup (pa_cons pe_int (pa_cons pe_int (pa_cons pe_int pa_nil)))) pa_nil))) pk_nil)) (pa_cons (pe_df g_is_short (hr.mono (by decide)) rfl (takes_of rfl rfl rfl rfl) (pa_cons (pe_tup (pa_cons (pe_tup (pa_cons pe_int (pa_cons pe_int (pa_cons (pe_un un_neg pe_int) pa_nil)))) pa_nil)) pa_nil)) (pa_cons (pe_kw0 (ks := ["thing", "length"]) (q := [1, 0]) g_check_pieces (fun _ _ _ _ _ _ us ws h1 h2 => match us, ws, h1, h2 with | [], [_, _], _, _ => rfl) (hr.mono (by decide)) rfl (takes_of rfl rfl rfl rfl) (pk_cons (pe_tup pa_nil) (pk_cons pe_int pk_nil))) (pa_cons (pe_kw0 (ks := ["places"]) (q := [0]) g_short_row (fun _ _ _ _ _ _ us ws h1 h2 => match us, ws, h1, h2 with | [], [_], _, _ => rfl) (hr.mono (by decide)) rfl (takes_of rfl rfl rfl rfl) (pk_cons (pe_tup (pa_cons pe_int (pa_cons pe_int pa_nil))) pk_nil)) pa_nil))))))) (pss_one (ps_ret (pe_df g__law_same (hr.mono (by decide)) rfl (takes_of rfl rfl rfl rfl) (pa_cons (pv 8) (pa_cons (pe_tup (pa_cons (pe_tup (pa_cons pe_int (pa_cons pe_int (pa_cons pe_int (pa_cons pe_int pa_nil))))) (pa_cons pe_bl (pa_cons pe_bl (pa_cons pe_int (pa_cons (pe_tup (pa_cons (pe_tup (pa_cons pe_int (pa_cons pe_int (pa_cons (pe_un un_neg pe_int) pa_nil)))) pa_nil)) pa_nil)))))) pa_nil)))))))))))))),
    fn_body (N := N_law) (k := 0) (Γp := (List.replicate 1 .pu)) (sr := .pu) (fb := b_law) (Γi := [.ls, .pu, .pu, .pu, .pu, .pu, .pu, .pu]) (Γ' := [.pu, .ls, .pu, .pu, .pu, .pu, .pu, .pu, .pu]) (by decide) rfl (.inl rfl) ⟨rfl, rfl⟩ (sok_seq (sok_setK ⟨rfl, rfl⟩ (np rfl) rfl (eok_call (aok_cons (eok_var rfl) aok_nil))) (sok_seq (sok_for ⟨rfl, rfl⟩ (np2 rfl) (iok_range1 (aok_cons eok_int aok_nil)) (gok_nameK (i := 2) rfl) (sok_if ⟨rfl, rfl⟩ (tok_not (tok_b (eok_callO rfl aok_nil))) (sok_ret ⟨rfl, rfl⟩ eok_bl) sok_next)) (sok_seq (sok_setK ⟨rfl, rfl⟩ (np rfl) rfl (eok_tup (aok_cons (eok_tup (aok_cons eok_int (aok_cons eok_int (aok_cons eok_int (aok_cons eok_int (aok_cons eok_int (aok_cons eok_int aok_nil))))))) (aok_cons (eok_tup (aok_cons eok_int (aok_cons eok_int (aok_cons eok_int (aok_cons eok_int aok_nil))))) (aok_cons (eok_tup (aok_cons eok_int (aok_cons eok_int (aok_cons eok_int aok_nil)))) (aok_cons (eok_tup (aok_cons eok_int (aok_cons eok_int (aok_cons eok_int (aok_cons eok_int (aok_cons eok_int aok_nil)))))) (aok_cons (eok_tup aok_nil) (aok_cons (eok_tup (aok_cons eok_int aok_nil)) (aok_cons (eok_tup (aok_cons eok_int (aok_cons eok_int (aok_cons eok_int aok_nil)))) (aok_cons (eok_tup (aok_cons eok_int (aok_cons eok_int (aok_cons eok_int (aok_cons eok_int aok_nil))))) (aok_cons (eok_tup (aok_cons eok_int (aok_cons eok_int (aok_cons eok_int (aok_cons eok_int (aok_cons eok_int aok_nil)))))) aok_nil))))))))))) (sok_seq (sok_setK ⟨rfl, rfl⟩ (np rfl) rfl (eok_tup (aok_cons (eok_tup (aok_cons (eok_tup (aok_cons eok_int (aok_cons eok_int (aok_cons eok_int aok_nil)))) (aok_cons (eok_tup (aok_cons eok_int (aok_cons eok_int (aok_cons (eok_un u1_neg eok_int) aok_nil)))) (aok_cons (eok_tup (aok_cons eok_int (aok_cons eok_int (aok_cons eok_int aok_nil)))) aok_nil)))) (aok_cons (eok_tup (aok_cons (eok_tup (aok_cons eok_int (aok_cons eok_int (aok_cons eok_int aok_nil)))) (aok_cons (eok_tup (aok_cons eok_int (aok_cons eok_int (aok_cons eok_int aok_nil)))) aok_nil))) (aok_cons (eok_tup (aok_cons (eok_tup (aok_cons eok_int (aok_cons eok_int (aok_cons eok_int aok_nil)))) (aok_cons (eok_tup (aok_cons eok_int (aok_cons eok_int (aok_cons eok_int aok_nil)))) aok_nil))) (aok_cons (eok_tup (aok_cons (eok_tup (aok_cons eok_int (aok_cons eok_int (aok_cons (eok_un u1_neg eok_int) aok_nil)))) (aok_cons (eok_tup (aok_cons eok_int (aok_cons eok_int (aok_cons eok_int aok_nil)))) aok_nil))) (aok_cons (eok_tup aok_nil) (aok_cons (eok_tup (aok_cons (eok_tup (aok_cons eok_int (aok_cons eok_int (aok_cons eok_int aok_nil)))) aok_nil)) (aok_cons (eok_tup (aok_cons (eok_tup (aok_cons eok_int (aok_cons eok_int (aok_cons eok_int aok_nil)))) (aok_cons (eok_tup (aok_cons eok_int (aok_cons eok_int (aok_cons eok_int aok_nil)))) (aok_cons (eok_tup (aok_cons eok_int (aok_cons eok_int (aok_cons eok_int aok_nil)))) aok_nil)))) (aok_cons (eok_tup (aok_cons (eok_tup (aok_cons eok_int (aok_cons eok_int (aok_cons (eok_un u1_neg eok_int) aok_nil)))) (aok_cons (eok_tup (aok_cons eok_int (aok_cons eok_int (aok_cons eok_int aok_nil)))) aok_nil))) (aok_cons (eok_tup (aok_cons (eok_tup (aok_cons eok_int (aok_cons eok_int (aok_cons (eok_un u1_neg eok_int) aok_nil)))) (aok_cons (eok_tup (aok_cons eok_int (aok_cons eok_int (aok_cons eok_int aok_nil)))) aok_nil))) aok_nil))))))))))) (sok_seq (sok_for ⟨rfl, rfl⟩ (np2 rfl) (iok_range1 (aok_cons (eok_cb c1_len (aok_cons (eok_var rfl) aok_nil)) aok_nil)) (gok_nameK (i := 5) rfl) (sok_if ⟨rfl, rfl⟩ (tok_not (tok_b (eok_call (aok_cons (eok_tup (aok_cons (eok_call (aok_cons (eok_op r2_ix (eok_var rfl) (eok_var rfl)) aok_nil)) (aok_cons (eok_call (aok_cons (eok_op r2_ix (eok_var rfl) (eok_var rfl)) aok_nil)) (aok_cons (eok_call (aok_cons (eok_op r2_ix (eok_var rfl) (eok_var rfl)) aok_nil)) (aok_cons (eok_call (aok_cons (eok_op r2_ix (eok_var rfl) (eok_var rfl)) aok_nil)) aok_nil))))) (aok_cons (eok_tup (aok_cons (eok_op r2_ix (eok_var rfl) (eok_var rfl)) (aok_cons (eok_op r2_ix (eok_var rfl) (eok_var rfl)) (aok_cons (eok_op r2_ix (eok_var rfl) (eok_var rfl)) (aok_cons eok_bl aok_nil))))) aok_nil))))) (sok_ret ⟨rfl, rfl⟩ eok_bl) sok_next)) (sok_seq (sok_setK ⟨rfl, rfl⟩ (np rfl) rfl (eok_tup (aok_cons (eok_tup (aok_cons (eok_tup (aok_cons eok_int (aok_cons eok_int (aok_cons eok_int aok_nil)))) (aok_cons (eok_tup (aok_cons eok_int (aok_cons eok_int (aok_cons eok_int aok_nil)))) aok_nil))) (aok_cons (eok_tup (aok_cons (eok_tup (aok_cons eok_int (aok_cons eok_int (aok_cons eok_int aok_nil)))) aok_nil)) (aok_cons (eok_tup (aok_cons (eok_tup (aok_cons eok_int (aok_cons eok_int (aok_cons eok_int aok_nil)))) aok_nil)) (aok_cons (eok_tup (aok_cons (eok_tup (aok_cons eok_int (aok_cons eok_int (aok_cons eok_int aok_nil)))) aok_nil)) (aok_cons (eok_tup (aok_cons (eok_tup (aok_cons eok_int (aok_cons eok_int (aok_cons (eok_un u1_neg eok_int) aok_nil)))) aok_nil)) (aok_cons (eok_tup (aok_cons (eok_tup (aok_cons eok_int (aok_cons eok_int (aok_cons eok_int aok_nil)))) aok_nil)) (aok_cons (eok_frz (eok_lst (aok_cons (eok_tup (aok_cons eok_int (aok_cons eok_int (aok_cons eok_int aok_nil)))) aok_nil))) (aok_cons (eok_tup (aok_cons (eok_tup (aok_cons eok_int (aok_cons eok_int (aok_cons eok_int aok_nil)))) (aok_cons (eok_tup (aok_cons eok_int (aok_cons eok_int aok_nil))) aok_nil))) (aok_cons (eok_tup (aok_cons (eok_tup (aok_cons eok_int (aok_cons eok_int (aok_cons eok_int aok_nil)))) (aok_cons (eok_tup (aok_cons eok_int (aok_cons eok_int (aok_cons eok_int aok_nil)))) aok_nil))) (aok_cons (eok_tup (aok_cons (eok_tup (aok_cons eok_int (aok_cons eok_bl (aok_cons eok_int aok_nil)))) aok_nil)) (aok_cons (eok_tup aok_nil) (aok_cons (eok_tup (aok_cons (eok_tup (aok_cons eok_int (aok_cons eok_int (aok_cons (eok_un u1_neg eok_int) aok_nil)))) aok_nil)) (aok_cons (eok_tup (aok_cons (eok_tup (aok_cons eok_int (aok_cons (eok_un u1_neg eok_int) (aok_cons eok_int aok_nil)))) aok_nil)) (aok_cons (eok_tup (aok_cons (eok_tup (aok_cons (eok_un u1_neg eok_int) (aok_cons eok_int (aok_cons eok_int aok_nil)))) aok_nil)) aok_nil)))))))))))))))) (sok_seq (sok_setK ⟨rfl, rfl⟩ (np rfl) rfl (eok_tup (aok_cons (eok_tup (aok_cons eok_str (aok_cons eok_int aok_nil))) (aok_cons (eok_tup (aok_cons eok_str (aok_cons eok_int (aok_cons eok_str aok_nil)))) (aok_cons (eok_tup (aok_cons eok_str (aok_cons eok_int (aok_cons eok_str aok_nil)))) (aok_cons (eok_tup (aok_cons eok_str (aok_cons eok_int (aok_cons eok_str aok_nil)))) (aok_cons (eok_tup (aok_cons eok_str (aok_cons eok_int (aok_cons eok_str aok_nil)))) (aok_cons (eok_tup (aok_cons eok_str (aok_cons eok_int (aok_cons eok_str aok_nil)))) (aok_cons (eok_tup (aok_cons eok_str (aok_cons (eok_un u1_neg eok_int) (aok_cons eok_str aok_nil)))) (aok_cons (eok_tup (aok_cons eok_str (aok_cons (eok_un u1_neg eok_int) (aok_cons eok_str aok_nil)))) (aok_cons (eok_tup (aok_cons eok_str (aok_cons eok_int (aok_cons eok_str aok_nil)))) (aok_cons (eok_tup (aok_cons eok_str (aok_cons (eok_un u1_neg eok_int) (aok_cons eok_str aok_nil)))) (aok_cons (eok_tup (aok_cons eok_str (aok_cons eok_int aok_nil))) (aok_cons (eok_tup (aok_cons eok_str (aok_cons eok_int aok_nil))) (aok_cons (eok_tup (aok_cons eok_str (aok_cons eok_int (aok_cons eok_str aok_nil)))) (aok_cons (eok_tup (aok_cons eok_str (aok_cons eok_int (aok_cons eok_str aok_nil)))) aok_nil)))))))))))))))) (sok_seq (sok_for ⟨rfl, rfl⟩ (np2 rfl) (iok_range1 (aok_cons (eok_cb c1_len (aok_cons (eok_var rfl) aok_nil)) aok_nil)) (gok_nameK (i := 5) rfl) (sok_if ⟨rfl, rfl⟩ (tok_or (tok_not (tok_b (eok_call (aok_cons (eok_call (aok_cons eok_int (aok_cons (eok_op r2_ix (eok_var rfl) (eok_var rfl)) aok_nil))) (aok_cons (eok_op r2_ix (eok_var rfl) (eok_var rfl)) aok_nil))))) (tok_not (tok_b (eok_call (aok_cons eok_int (aok_cons (eok_op r2_ix (eok_var rfl) (eok_var rfl)) aok_nil)))))) (sok_ret ⟨rfl, rfl⟩ eok_bl) sok_next)) (sok_seq (sok_setK ⟨rfl, rfl⟩ (np rfl) rfl (eok_tup (aok_cons (eok_callK aok_nil (aok_cons (eok_tup (aok_cons (eok_tup (aok_cons eok_int (aok_cons eok_int (aok_cons (eok_un u1_neg eok_int) aok_nil)))) (aok_cons (eok_tup (aok_cons eok_int (aok_cons eok_int (aok_cons eok_int aok_nil)))) aok_nil))) aok_nil)) (aok_cons (eok_callK aok_nil (aok_cons (eok_tup (aok_cons (eok_tup (aok_cons eok_int (aok_cons eok_int (aok_cons eok_int aok_nil)))) (aok_cons (eok_tup (aok_cons eok_int (aok_cons eok_int (aok_cons eok_int aok_nil)))) aok_nil))) aok_nil)) (aok_cons (eok_call (aok_cons (eok_tup (aok_cons (eok_tup (aok_cons eok_int (aok_cons eok_int (aok_cons (eok_un u1_neg eok_int) aok_nil)))) aok_nil)) aok_nil)) (aok_cons (eok_callK aok_nil (aok_cons (eok_tup aok_nil) (aok_cons eok_int aok_nil))) (aok_cons (eok_callK aok_nil (aok_cons (eok_tup (aok_cons eok_int (aok_cons eok_int aok_nil))) aok_nil)) aok_nil))))))) (sok_ret ⟨rfl, rfl⟩ (eok_call (aok_cons (eok_var rfl) (aok_cons (eok_tup (aok_cons (eok_tup (aok_cons eok_int (aok_cons eok_int (aok_cons eok_int (aok_cons eok_int aok_nil))))) (aok_cons eok_bl (aok_cons eok_bl (aok_cons eok_int (aok_cons (eok_tup (aok_cons (eok_tup (aok_cons eok_int (aok_cons eok_int (aok_cons (eok_un u1_neg eok_int) aok_nil)))) aok_nil)) aok_nil)))))) aok_nil))))))))))))) h⟩
def clsStmt (st : Stmt) (j : Nat) : Stmt := match st with
  | .ClassDef _ _ _ body _ _ _ _ _ _ _ => body.getD j (.Pass ⟨0, 0, 0, 0⟩)
  | _ => .Pass ⟨0, 0, 0, 0⟩
def init_BadPiece : Stmt := clsStmt (top 7) 0
def bdy_BadPiece : List (Str × PySem.DLX.Pl) := [("at", ⟨16, 25, 16, 27⟩, ⟨17, 8, 17, 12⟩, ⟨17, 8, 17, 15⟩, ⟨17, 18, 17, 20⟩, ⟨17, 8, 17, 20⟩), ("word", ⟨16, 29, 16, 33⟩, ⟨18, 8, 18, 12⟩, ⟨18, 8, 18, 17⟩, ⟨18, 20, 18, 24⟩, ⟨18, 8, 18, 24⟩)]
theorem all_mk {P : Program} {w : World} {K : PySem.W.Frag} {h : Heap} {mg : Mg} {fa : Addr} (X : K.In h) (G : h.Ns mainGlobals mg) (hfa : mg "law" = some (.ref fa))
    {C_BadPiece C_DataError C_MoveError : Addr}
    {nm_BadPiece qn_BadPiece : Str} {NN_BadPiece : Addr} {bs_BadPiece sub_BadPiece : List Value} {sn_BadPiece : List Str} {ab_BadPiece : Bool} {col_BadPiece : Option Bool} {dd_BadPiece : Option Addr} {m0_BadPiece m1_BadPiece m2_BadPiece m3_BadPiece m5_BadPiece : Option Value}
    {fI_BadPiece cda_BadPiece cc_BadPiece : Addr} {odI_BadPiece anI_BadPiece cddI_BadPiece : Option Addr} {slI_BadPiece : Array (Option Value)} {ocI_BadPiece docI_BadPiece pmI_BadPiece ctI_BadPiece : Value}
    {ccl_BadPiece ccv_BadPiece : Value} {cldI_BadPiece : Option Addr} {ccs_BadPiece csl_BadPiece : Array (Option Value)} {vsI_BadPiece : Array Value} {file_BadPiece : Str} {tf_BadPiece : Tok}
    {f_is_integer f_is_within f_are_integers f_last_place f_longer_piece f_short_row f_piece_places f_piece_word f_check_pieces f_is_short f__law_pond f__law_frog f__law_same f__law_short f__law_places f__law_pieces f__law_spread f__law_fault f__law_heard f__law_right f__law_bent f__law_asked f_law : Addr}
    {od_is_integer an_is_integer : Option Addr} {sl_is_integer : Array (Option Value)} {oc_is_integer kV_is_integer dc_is_integer pm_is_integer cd_is_integer ct_is_integer : Value}
    {od_is_within an_is_within : Option Addr} {sl_is_within : Array (Option Value)} {oc_is_within kV_is_within dc_is_within pm_is_within cd_is_within ct_is_within : Value}
    {od_are_integers an_are_integers : Option Addr} {sl_are_integers : Array (Option Value)} {oc_are_integers kV_are_integers dc_are_integers pm_are_integers cd_are_integers ct_are_integers : Value}
    {od_last_place an_last_place : Option Addr} {sl_last_place : Array (Option Value)} {oc_last_place kV_last_place dc_last_place pm_last_place cd_last_place ct_last_place : Value}
    {od_longer_piece an_longer_piece : Option Addr} {sl_longer_piece : Array (Option Value)} {oc_longer_piece kV_longer_piece dc_longer_piece pm_longer_piece cd_longer_piece ct_longer_piece : Value}
    {od_short_row an_short_row : Option Addr} {sl_short_row : Array (Option Value)} {oc_short_row kV_short_row dc_short_row pm_short_row cd_short_row ct_short_row : Value}
    {od_piece_places an_piece_places : Option Addr} {sl_piece_places : Array (Option Value)} {oc_piece_places kV_piece_places dc_piece_places pm_piece_places cd_piece_places ct_piece_places : Value}
    {od_piece_word an_piece_word : Option Addr} {sl_piece_word : Array (Option Value)} {oc_piece_word kV_piece_word dc_piece_word pm_piece_word cd_piece_word ct_piece_word : Value}
    {od_check_pieces an_check_pieces : Option Addr} {sl_check_pieces : Array (Option Value)} {oc_check_pieces kV_check_pieces dc_check_pieces pm_check_pieces cd_check_pieces ct_check_pieces : Value}
    {od_is_short an_is_short : Option Addr} {sl_is_short : Array (Option Value)} {oc_is_short kV_is_short dc_is_short pm_is_short cd_is_short ct_is_short : Value}
    {od__law_pond an__law_pond : Option Addr} {sl__law_pond : Array (Option Value)} {oc__law_pond kV__law_pond dc__law_pond pm__law_pond cd__law_pond ct__law_pond : Value}
    {od__law_frog an__law_frog : Option Addr} {sl__law_frog : Array (Option Value)} {oc__law_frog kV__law_frog dc__law_frog pm__law_frog cd__law_frog ct__law_frog : Value}
    {od__law_same an__law_same : Option Addr} {sl__law_same : Array (Option Value)} {oc__law_same kV__law_same dc__law_same pm__law_same cd__law_same ct__law_same : Value}
    {od__law_short an__law_short : Option Addr} {sl__law_short : Array (Option Value)} {oc__law_short kV__law_short dc__law_short pm__law_short cd__law_short ct__law_short : Value}
    {od__law_places an__law_places : Option Addr} {sl__law_places : Array (Option Value)} {oc__law_places kV__law_places dc__law_places pm__law_places cd__law_places ct__law_places : Value}
    {od__law_pieces an__law_pieces : Option Addr} {sl__law_pieces : Array (Option Value)} {oc__law_pieces kV__law_pieces dc__law_pieces pm__law_pieces cd__law_pieces ct__law_pieces : Value}
    {od__law_spread an__law_spread : Option Addr} {sl__law_spread : Array (Option Value)} {oc__law_spread kV__law_spread dc__law_spread pm__law_spread cd__law_spread ct__law_spread : Value}
    {od__law_fault an__law_fault : Option Addr} {sl__law_fault : Array (Option Value)} {oc__law_fault kV__law_fault dc__law_fault pm__law_fault cd__law_fault ct__law_fault : Value}
    {od__law_heard an__law_heard : Option Addr} {sl__law_heard : Array (Option Value)} {oc__law_heard kV__law_heard dc__law_heard pm__law_heard cd__law_heard ct__law_heard : Value}
    {od__law_right an__law_right : Option Addr} {sl__law_right : Array (Option Value)} {oc__law_right kV__law_right dc__law_right pm__law_right cd__law_right ct__law_right : Value}
    {od__law_bent an__law_bent : Option Addr} {sl__law_bent : Array (Option Value)} {oc__law_bent kV__law_bent dc__law_bent pm__law_bent cd__law_bent ct__law_bent : Value}
    {od__law_asked an__law_asked : Option Addr} {sl__law_asked : Array (Option Value)} {oc__law_asked kV__law_asked dc__law_asked pm__law_asked cd__law_asked ct__law_asked : Value}
    {od_law an_law : Option Addr} {sl_law : Array (Option Value)} {oc_law kV_law dc_law pm_law cd_law ct_law : Value}
    (aC_BadPiece : PySem.W.nsIn K mainGlobals "BadPiece" = some (some (.ref C_BadPiece)))
    (aC_DataError : PySem.W.nsIn K mainGlobals "DataError" = some (some (.ref C_DataError)))
    (aC_MoveError : PySem.W.nsIn K mainGlobals "MoveError" = some (some (.ref C_MoveError)))
    (eC_BadPiece : PySem.W.subIn K (.ref C_BadPiece) (.type "BaseException") = some true)
    (tC_BadPiece : PySem.W.typeIn K (.ref C_BadPiece) = some (.type "type"))
    (iC_BadPiece : PySem.W.isClsIn K C_BadPiece = true)
    (eC_DataError : PySem.W.subIn K (.ref C_DataError) (.type "BaseException") = some true)
    (tC_DataError : PySem.W.typeIn K (.ref C_DataError) = some (.type "type"))
    (iC_DataError : PySem.W.isClsIn K C_DataError = true)
    (eC_MoveError : PySem.W.subIn K (.ref C_MoveError) (.type "BaseException") = some true)
    (tC_MoveError : PySem.W.typeIn K (.ref C_MoveError) = some (.type "type"))
    (iC_MoveError : PySem.W.isClsIn K C_MoveError = true)
    (s_BadPiece_BadPiece : PySem.W.subIn K (.ref C_BadPiece) (.ref C_BadPiece) = some true)
    (q_BadPiece_DataError : PySem.W.kitOne K (.ref C_BadPiece) (.ref C_DataError) = some true)
    (q_BadPiece_MoveError : PySem.W.kitOne K (.ref C_BadPiece) (.ref C_MoveError) = some true)
    (xC_BadPiece : K.lookup C_BadPiece = some (excClassObj nm_BadPiece qn_BadPiece C_BadPiece NN_BadPiece bs_BadPiece [.ref C_DataError, .ref C_MoveError, .type "ValueError", .type "Exception", .type "BaseException", .type "object"] true sn_BadPiece sub_BadPiece ab_BadPiece col_BadPiece dd_BadPiece m0_BadPiece m1_BadPiece m2_BadPiece m3_BadPiece m5_BadPiece "ValueError.__new__"))
    (al_BadPiece : PySem.W.alongIn K "__init__" [.ref C_DataError, .ref C_MoveError, .type "ValueError", .type "Exception", .type "BaseException", .type "object"] = some (some (.builtin "ValueError.__init__")))
    (sa_BadPiece : PySem.W.findIn K (.ref C_BadPiece) "__setattr__" = some (some (.builtin "object.__setattr__")))
    (ga_BadPiece : PySem.W.findIn K (.ref C_BadPiece) "__getattribute__" = some (some (.builtin "BaseException.__getattribute__")))
    (gg_BadPiece : PySem.W.findIn K (.ref C_BadPiece) "__getattr__" = some none)
    (nf_at_BadPiece : PySem.W.findIn K (.ref C_BadPiece) "at" = some none)
    (nf_word_BadPiece : PySem.W.findIn K (.ref C_BadPiece) "word" = some none)
    (hd_BadPiece : PySem.W.hasDictIn K C_BadPiece = true)
    (kC_BadPiece : PySem.W.keepIn K (.ref C_BadPiece) = true)
    (fi_BadPiece : PySem.W.findIn K (.ref C_BadPiece) "__init__" = some (some (.ref fI_BadPiece)))
    (ti_BadPiece : PySem.W.typeIn K (.ref fI_BadPiece) = some (.type "function"))
    (li_BadPiece : K.lookup fI_BadPiece = some ⟨ocI_BadPiece, odI_BadPiece, .func (PySem.W.fnX "__init__" "BadPiece.__init__" (defArgs init_BadPiece) (PySem.DLX.bdy bdy_BadPiece ⟨16, 8, 16, 13⟩ ⟨16, 8, 16, 15⟩ ⟨16, 8, 16, 24⟩ ⟨16, 8, 16, 34⟩ ⟨16, 8, 16, 34⟩) (defScope init_BadPiece) [("__class__", cc_BadPiece)] .none .none docI_BadPiece pmI_BadPiece anI_BadPiece (.ref cda_BadPiece) ctI_BadPiece), slI_BadPiece⟩)
    (cd_BadPiece : PySem.W.codeIn K (.ref cda_BadPiece) "BadPiece.__init__" = true)
    (la_BadPiece : K.lookup cda_BadPiece = some ⟨ccl_BadPiece, cddI_BadPiece, .fields vsI_BadPiece, ccs_BadPiece⟩)
    (v2_BadPiece : vsI_BadPiece[2]? = some (.str file_BadPiece tf_BadPiece))
    (fl_BadPiece : ((P.main.file : Str) == file_BadPiece) = true)
    (lc_BadPiece : K.lookup cc_BadPiece = some ⟨ccv_BadPiece, cldI_BadPiece, .cell (some (.ref C_BadPiece)), csl_BadPiece⟩)
    (op_any : PySem.W.nsIn K cStatics "thirdparty.any" = some none)
    (z_super : PySem.W.nsIn K mainGlobals "super" = some none)
    (sup_none : (P.main.scope.names.lookup ("super" : Str)).isSome = false)
    (z_abs : PySem.W.nsIn K mainGlobals "abs" = some none)
    (z_bool : PySem.W.nsIn K mainGlobals "bool" = some none)
    (z_enumerate : PySem.W.nsIn K mainGlobals "enumerate" = some none)
    (z_int : PySem.W.nsIn K mainGlobals "int" = some none)
    (z_isinstance : PySem.W.nsIn K mainGlobals "isinstance" = some none)
    (z_len : PySem.W.nsIn K mainGlobals "len" = some none)
    (z_list : PySem.W.nsIn K mainGlobals "list" = some none)
    (z_max : PySem.W.nsIn K mainGlobals "max" = some none)
    (z_min : PySem.W.nsIn K mainGlobals "min" = some none)
    (z_range : PySem.W.nsIn K mainGlobals "range" = some none)
    (z_str : PySem.W.nsIn K mainGlobals "str" = some none)
    (z_sum : PySem.W.nsIn K mainGlobals "sum" = some none)
    (z_tuple : PySem.W.nsIn K mainGlobals "tuple" = some none)
    (z_zip : PySem.W.nsIn K mainGlobals "zip" = some none)
    (xa_BadPiece : PySem.W.findIn K (.ref C_BadPiece) "__class__" = some (some (.builtin "object.__class__")))
    (xm_BadPiece : PySem.W.mroIn K C_BadPiece (.type "object") = some true)
    (x_sp : PySem.W.specialIn K (.builtin "object.__class__") "__get__" = some (some (.builtin "getset_descriptor.__get__")))
    (x_tk : PySem.W.takesIn K (.builtin "object.__class__") = some true)
    (a_is_integer : PySem.W.nsIn K mainGlobals "is_integer" = some (some (.ref f_is_integer)))
    (l_is_integer : K.lookup f_is_integer = some ⟨oc_is_integer, od_is_integer, .func (PySem.W.fnOf "is_integer" "is_integer" (defArgs s_is_integer) (defBody s_is_integer) (defScope s_is_integer) .none kV_is_integer dc_is_integer pm_is_integer an_is_integer cd_is_integer ct_is_integer), sl_is_integer⟩)
    (c_is_integer : PySem.W.codeIn K cd_is_integer "is_integer" = true)
    (k_is_integer : PySem.W.keepIn K (.ref f_is_integer) = true)
    (a_is_within : PySem.W.nsIn K mainGlobals "is_within" = some (some (.ref f_is_within)))
    (l_is_within : K.lookup f_is_within = some ⟨oc_is_within, od_is_within, .func (PySem.W.fnOf "is_within" "is_within" (defArgs s_is_within) (defBody s_is_within) (defScope s_is_within) .none kV_is_within dc_is_within pm_is_within an_is_within cd_is_within ct_is_within), sl_is_within⟩)
    (c_is_within : PySem.W.codeIn K cd_is_within "is_within" = true)
    (k_is_within : PySem.W.keepIn K (.ref f_is_within) = true)
    (a_are_integers : PySem.W.nsIn K mainGlobals "are_integers" = some (some (.ref f_are_integers)))
    (l_are_integers : K.lookup f_are_integers = some ⟨oc_are_integers, od_are_integers, .func (PySem.W.fnOf "are_integers" "are_integers" (defArgs s_are_integers) (defBody s_are_integers) (defScope s_are_integers) .none kV_are_integers dc_are_integers pm_are_integers an_are_integers cd_are_integers ct_are_integers), sl_are_integers⟩)
    (c_are_integers : PySem.W.codeIn K cd_are_integers "are_integers" = true)
    (k_are_integers : PySem.W.keepIn K (.ref f_are_integers) = true)
    (a_last_place : PySem.W.nsIn K mainGlobals "last_place" = some (some (.ref f_last_place)))
    (l_last_place : K.lookup f_last_place = some ⟨oc_last_place, od_last_place, .func (PySem.W.fnOf "last_place" "last_place" (defArgs s_last_place) (defBody s_last_place) (defScope s_last_place) .none kV_last_place dc_last_place pm_last_place an_last_place cd_last_place ct_last_place), sl_last_place⟩)
    (c_last_place : PySem.W.codeIn K cd_last_place "last_place" = true)
    (k_last_place : PySem.W.keepIn K (.ref f_last_place) = true)
    (a_longer_piece : PySem.W.nsIn K mainGlobals "longer_piece" = some (some (.ref f_longer_piece)))
    (l_longer_piece : K.lookup f_longer_piece = some ⟨oc_longer_piece, od_longer_piece, .func (PySem.W.fnOf "longer_piece" "longer_piece" (defArgs s_longer_piece) (defBody s_longer_piece) (defScope s_longer_piece) .none kV_longer_piece dc_longer_piece pm_longer_piece an_longer_piece cd_longer_piece ct_longer_piece), sl_longer_piece⟩)
    (c_longer_piece : PySem.W.codeIn K cd_longer_piece "longer_piece" = true)
    (k_longer_piece : PySem.W.keepIn K (.ref f_longer_piece) = true)
    (a_short_row : PySem.W.nsIn K mainGlobals "short_row" = some (some (.ref f_short_row)))
    (l_short_row : K.lookup f_short_row = some ⟨oc_short_row, od_short_row, .func (PySem.W.fnOf "short_row" "short_row" (defArgs s_short_row) (defBody s_short_row) (defScope s_short_row) .none kV_short_row dc_short_row pm_short_row an_short_row cd_short_row ct_short_row), sl_short_row⟩)
    (c_short_row : PySem.W.codeIn K cd_short_row "short_row" = true)
    (k_short_row : PySem.W.keepIn K (.ref f_short_row) = true)
    (a_piece_places : PySem.W.nsIn K mainGlobals "piece_places" = some (some (.ref f_piece_places)))
    (l_piece_places : K.lookup f_piece_places = some ⟨oc_piece_places, od_piece_places, .func (PySem.W.fnOf "piece_places" "piece_places" (defArgs s_piece_places) (defBody s_piece_places) (defScope s_piece_places) .none kV_piece_places dc_piece_places pm_piece_places an_piece_places cd_piece_places ct_piece_places), sl_piece_places⟩)
    (c_piece_places : PySem.W.codeIn K cd_piece_places "piece_places" = true)
    (k_piece_places : PySem.W.keepIn K (.ref f_piece_places) = true)
    (a_piece_word : PySem.W.nsIn K mainGlobals "piece_word" = some (some (.ref f_piece_word)))
    (l_piece_word : K.lookup f_piece_word = some ⟨oc_piece_word, od_piece_word, .func (PySem.W.fnOf "piece_word" "piece_word" (defArgs s_piece_word) (defBody s_piece_word) (defScope s_piece_word) .none kV_piece_word dc_piece_word pm_piece_word an_piece_word cd_piece_word ct_piece_word), sl_piece_word⟩)
    (c_piece_word : PySem.W.codeIn K cd_piece_word "piece_word" = true)
    (k_piece_word : PySem.W.keepIn K (.ref f_piece_word) = true)
    (a_check_pieces : PySem.W.nsIn K mainGlobals "check_pieces" = some (some (.ref f_check_pieces)))
    (l_check_pieces : K.lookup f_check_pieces = some ⟨oc_check_pieces, od_check_pieces, .func (PySem.W.fnOf "check_pieces" "check_pieces" (defArgs s_check_pieces) (defBody s_check_pieces) (defScope s_check_pieces) .none kV_check_pieces dc_check_pieces pm_check_pieces an_check_pieces cd_check_pieces ct_check_pieces), sl_check_pieces⟩)
    (c_check_pieces : PySem.W.codeIn K cd_check_pieces "check_pieces" = true)
    (k_check_pieces : PySem.W.keepIn K (.ref f_check_pieces) = true)
    (a_is_short : PySem.W.nsIn K mainGlobals "is_short" = some (some (.ref f_is_short)))
    (l_is_short : K.lookup f_is_short = some ⟨oc_is_short, od_is_short, .func (PySem.W.fnOf "is_short" "is_short" (defArgs s_is_short) (defBody s_is_short) (defScope s_is_short) .none kV_is_short dc_is_short pm_is_short an_is_short cd_is_short ct_is_short), sl_is_short⟩)
    (c_is_short : PySem.W.codeIn K cd_is_short "is_short" = true)
    (k_is_short : PySem.W.keepIn K (.ref f_is_short) = true)
    (a__law_pond : PySem.W.nsIn K mainGlobals "_law_pond" = some (some (.ref f__law_pond)))
    (l__law_pond : K.lookup f__law_pond = some ⟨oc__law_pond, od__law_pond, .func (PySem.W.fnOf "_law_pond" "_law_pond" (defArgs s__law_pond) (defBody s__law_pond) (defScope s__law_pond) .none kV__law_pond dc__law_pond pm__law_pond an__law_pond cd__law_pond ct__law_pond), sl__law_pond⟩)
    (c__law_pond : PySem.W.codeIn K cd__law_pond "_law_pond" = true)
    (k__law_pond : PySem.W.keepIn K (.ref f__law_pond) = true)
    (a__law_frog : PySem.W.nsIn K mainGlobals "_law_frog" = some (some (.ref f__law_frog)))
    (l__law_frog : K.lookup f__law_frog = some ⟨oc__law_frog, od__law_frog, .func (PySem.W.fnOf "_law_frog" "_law_frog" (defArgs s__law_frog) (defBody s__law_frog) (defScope s__law_frog) .none kV__law_frog dc__law_frog pm__law_frog an__law_frog cd__law_frog ct__law_frog), sl__law_frog⟩)
    (c__law_frog : PySem.W.codeIn K cd__law_frog "_law_frog" = true)
    (k__law_frog : PySem.W.keepIn K (.ref f__law_frog) = true)
    (a__law_same : PySem.W.nsIn K mainGlobals "_law_same" = some (some (.ref f__law_same)))
    (l__law_same : K.lookup f__law_same = some ⟨oc__law_same, od__law_same, .func (PySem.W.fnOf "_law_same" "_law_same" (defArgs s__law_same) (defBody s__law_same) (defScope s__law_same) .none kV__law_same dc__law_same pm__law_same an__law_same cd__law_same ct__law_same), sl__law_same⟩)
    (c__law_same : PySem.W.codeIn K cd__law_same "_law_same" = true)
    (k__law_same : PySem.W.keepIn K (.ref f__law_same) = true)
    (a__law_short : PySem.W.nsIn K mainGlobals "_law_short" = some (some (.ref f__law_short)))
    (l__law_short : K.lookup f__law_short = some ⟨oc__law_short, od__law_short, .func (PySem.W.fnOf "_law_short" "_law_short" (defArgs s__law_short) (defBody s__law_short) (defScope s__law_short) .none kV__law_short dc__law_short pm__law_short an__law_short cd__law_short ct__law_short), sl__law_short⟩)
    (c__law_short : PySem.W.codeIn K cd__law_short "_law_short" = true)
    (k__law_short : PySem.W.keepIn K (.ref f__law_short) = true)
    (a__law_places : PySem.W.nsIn K mainGlobals "_law_places" = some (some (.ref f__law_places)))
    (l__law_places : K.lookup f__law_places = some ⟨oc__law_places, od__law_places, .func (PySem.W.fnOf "_law_places" "_law_places" (defArgs s__law_places) (defBody s__law_places) (defScope s__law_places) .none kV__law_places dc__law_places pm__law_places an__law_places cd__law_places ct__law_places), sl__law_places⟩)
    (c__law_places : PySem.W.codeIn K cd__law_places "_law_places" = true)
    (k__law_places : PySem.W.keepIn K (.ref f__law_places) = true)
    (a__law_pieces : PySem.W.nsIn K mainGlobals "_law_pieces" = some (some (.ref f__law_pieces)))
    (l__law_pieces : K.lookup f__law_pieces = some ⟨oc__law_pieces, od__law_pieces, .func (PySem.W.fnOf "_law_pieces" "_law_pieces" (defArgs s__law_pieces) (defBody s__law_pieces) (defScope s__law_pieces) .none kV__law_pieces dc__law_pieces pm__law_pieces an__law_pieces cd__law_pieces ct__law_pieces), sl__law_pieces⟩)
    (c__law_pieces : PySem.W.codeIn K cd__law_pieces "_law_pieces" = true)
    (k__law_pieces : PySem.W.keepIn K (.ref f__law_pieces) = true)
    (a__law_spread : PySem.W.nsIn K mainGlobals "_law_spread" = some (some (.ref f__law_spread)))
    (l__law_spread : K.lookup f__law_spread = some ⟨oc__law_spread, od__law_spread, .func (PySem.W.fnOf "_law_spread" "_law_spread" (defArgs s__law_spread) (defBody s__law_spread) (defScope s__law_spread) .none kV__law_spread dc__law_spread pm__law_spread an__law_spread cd__law_spread ct__law_spread), sl__law_spread⟩)
    (c__law_spread : PySem.W.codeIn K cd__law_spread "_law_spread" = true)
    (k__law_spread : PySem.W.keepIn K (.ref f__law_spread) = true)
    (a__law_fault : PySem.W.nsIn K mainGlobals "_law_fault" = some (some (.ref f__law_fault)))
    (l__law_fault : K.lookup f__law_fault = some ⟨oc__law_fault, od__law_fault, .func (PySem.W.fnOf "_law_fault" "_law_fault" (defArgs s__law_fault) (defBody s__law_fault) (defScope s__law_fault) .none kV__law_fault dc__law_fault pm__law_fault an__law_fault cd__law_fault ct__law_fault), sl__law_fault⟩)
    (c__law_fault : PySem.W.codeIn K cd__law_fault "_law_fault" = true)
    (k__law_fault : PySem.W.keepIn K (.ref f__law_fault) = true)
    (a__law_heard : PySem.W.nsIn K mainGlobals "_law_heard" = some (some (.ref f__law_heard)))
    (l__law_heard : K.lookup f__law_heard = some ⟨oc__law_heard, od__law_heard, .func (PySem.W.fnOf "_law_heard" "_law_heard" (defArgs s__law_heard) (defBody s__law_heard) (defScope s__law_heard) .none kV__law_heard dc__law_heard pm__law_heard an__law_heard cd__law_heard ct__law_heard), sl__law_heard⟩)
    (c__law_heard : PySem.W.codeIn K cd__law_heard "_law_heard" = true)
    (k__law_heard : PySem.W.keepIn K (.ref f__law_heard) = true)
    (a__law_right : PySem.W.nsIn K mainGlobals "_law_right" = some (some (.ref f__law_right)))
    (l__law_right : K.lookup f__law_right = some ⟨oc__law_right, od__law_right, .func (PySem.W.fnOf "_law_right" "_law_right" (defArgs s__law_right) (defBody s__law_right) (defScope s__law_right) .none kV__law_right dc__law_right pm__law_right an__law_right cd__law_right ct__law_right), sl__law_right⟩)
    (c__law_right : PySem.W.codeIn K cd__law_right "_law_right" = true)
    (k__law_right : PySem.W.keepIn K (.ref f__law_right) = true)
    (a__law_bent : PySem.W.nsIn K mainGlobals "_law_bent" = some (some (.ref f__law_bent)))
    (l__law_bent : K.lookup f__law_bent = some ⟨oc__law_bent, od__law_bent, .func (PySem.W.fnOf "_law_bent" "_law_bent" (defArgs s__law_bent) (defBody s__law_bent) (defScope s__law_bent) .none kV__law_bent dc__law_bent pm__law_bent an__law_bent cd__law_bent ct__law_bent), sl__law_bent⟩)
    (c__law_bent : PySem.W.codeIn K cd__law_bent "_law_bent" = true)
    (k__law_bent : PySem.W.keepIn K (.ref f__law_bent) = true)
    (a__law_asked : PySem.W.nsIn K mainGlobals "_law_asked" = some (some (.ref f__law_asked)))
    (l__law_asked : K.lookup f__law_asked = some ⟨oc__law_asked, od__law_asked, .func (PySem.W.fnOf "_law_asked" "_law_asked" (defArgs s__law_asked) (defBody s__law_asked) (defScope s__law_asked) .none kV__law_asked dc__law_asked pm__law_asked an__law_asked cd__law_asked ct__law_asked), sl__law_asked⟩)
    (c__law_asked : PySem.W.codeIn K cd__law_asked "_law_asked" = true)
    (k__law_asked : PySem.W.keepIn K (.ref f__law_asked) = true)
    (a_law : PySem.W.nsIn K mainGlobals "law" = some (some (.ref f_law)))
    (l_law : K.lookup f_law = some ⟨oc_law, od_law, .func (PySem.W.fnOf "law" "law" (defArgs s_law) (defBody s_law) (defScope s_law) .none kV_law dc_law pm_law an_law cd_law ct_law), sl_law⟩)
    (c_law : PySem.W.codeIn K cd_law "law" = true)
    (k_law : PySem.W.keepIn K (.ref f_law) = true)
    : ∃ fd : FuncData, (∀ (s : Shared) (v : Value), BindsTo s fd ⟨[v], []⟩ [("script", v)]) ∧ ∀ base : Heap, K.In base → base.Ns mainGlobals mg → FnOk P w K mg base (L2.CX P w) 16 fa fd ["script"] (spLaw d_law K) := by
  have e := hfa.symm.trans (PySem.W.mg_of X G a_law)
  cases e
  have t_BadPiece : PySem.DLX.ExTxt P K mg "BadPiece" C_BadPiece ["at", "word"] := { gC := PySem.W.mg_of X G aC_BadPiece, kC := kC_BadPiece, cls := ⟨_, _, _, _, _, _, _, _, _, _, _, _, _, _, _, xC_BadPiece, by first | rfl | decide +kernel, al_BadPiece⟩, sa := sa_BadPiece, ga := ga_BadPiece, gg := gg_BadPiece, noF := fun f hf => by simp only [List.mem_cons, List.not_mem_nil, or_false] at hf; rcases hf with rfl | rfl <;> assumption, exC := eC_BadPiece, tyC := tC_BadPiece, hdC := hd_BadPiece, op := op_any, sup := PySem.W.mg_none_of X G z_super, nd := by decide, few := by decide, fn := ⟨_, fi_BadPiece, ti_BadPiece, _, _, _, _, bdy_BadPiece, _, _, _, _, _, _, _, _, _, _, _, _, _, _, _, _, _, _, _, _, _, _, li_BadPiece, cd_BadPiece, rfl, rfl, la_BadPiece, v2_BadPiece, fl_BadPiece, lc_BadPiece, sup_none, rfl, rfl, rfl, by decide +kernel, rfl, by decide +kernel, rfl, rfl, rfl, fun us hl => match us, hl with | [_, _, _], _ => rfl⟩ }
  have z : Zs mg := ⟨PySem.W.mg_none_of X G z_abs, PySem.W.mg_none_of X G z_bool, PySem.W.mg_none_of X G z_enumerate, PySem.W.mg_none_of X G z_int, PySem.W.mg_none_of X G z_isinstance, PySem.W.mg_none_of X G z_len, PySem.W.mg_none_of X G z_list, PySem.W.mg_none_of X G z_max, PySem.W.mg_none_of X G z_min, PySem.W.mg_none_of X G z_range, PySem.W.mg_none_of X G z_str, PySem.W.mg_none_of X G z_sum, PySem.W.mg_none_of X G z_tuple, PySem.W.mg_none_of X G z_zip⟩
  have x : Xs P K mg C_BadPiece C_DataError C_MoveError := ⟨t_BadPiece, PySem.W.mg_of X G aC_BadPiece, PySem.W.mg_of X G aC_DataError, PySem.W.mg_of X G aC_MoveError, exm_of eC_BadPiece eC_BadPiece iC_BadPiece tC_BadPiece s_BadPiece_BadPiece, is_of ⟨⟨C_BadPiece, PySem.W.mg_of X G aC_BadPiece, ⟨ga_BadPiece, gg_BadPiece, eC_BadPiece, hd_BadPiece, xa_BadPiece, x_sp, x_tk, xm_BadPiece⟩, q_BadPiece_DataError⟩, trivial⟩, is_of ⟨⟨C_BadPiece, PySem.W.mg_of X G aC_BadPiece, ⟨ga_BadPiece, gg_BadPiece, eC_BadPiece, hd_BadPiece, xa_BadPiece, x_sp, x_tk, xm_BadPiece⟩, q_BadPiece_MoveError⟩, trivial⟩⟩
  have F_is_integer := fun_mk (st := s_is_integer) l_is_integer c_is_integer k_is_integer
  have D_is_integer : ∀ base : Heap, Df P w K mg base "is_integer" s_is_integer ["thing"] 2 (p_is_integer K mg) := fun base => ⟨_, _, ok_is_integer z x  F_is_integer, PySem.W.mg_of X G a_is_integer, k_is_integer, F_is_integer.binds (ps := ["thing"]) (fun _ _ _ _ _ _ us hl => match us, hl with | [_], _ => rfl), F_is_integer⟩
  have F_last_place := fun_mk (st := s_last_place) l_last_place c_last_place k_last_place
  have D_last_place : ∀ base : Heap, Df P w K mg base "last_place" s_last_place ["piece"] 2 (p_last_place K mg) := fun base => ⟨_, _, ok_last_place z x  F_last_place, PySem.W.mg_of X G a_last_place, k_last_place, F_last_place.binds (ps := ["piece"]) (fun _ _ _ _ _ _ us hl => match us, hl with | [_], _ => rfl), F_last_place⟩
  have F_longer_piece := fun_mk (st := s_longer_piece) l_longer_piece c_longer_piece k_longer_piece
  have D_longer_piece : ∀ base : Heap, Df P w K mg base "longer_piece" s_longer_piece ["piece", "place"] 2 (p_longer_piece K mg) := fun base => ⟨_, _, ok_longer_piece z x  F_longer_piece, PySem.W.mg_of X G a_longer_piece, k_longer_piece, F_longer_piece.binds (ps := ["piece", "place"]) (fun _ _ _ _ _ _ us hl => match us, hl with | [_, _], _ => rfl), F_longer_piece⟩
  have F_piece_places := fun_mk (st := s_piece_places) l_piece_places c_piece_places k_piece_places
  have D_piece_places : ∀ base : Heap, Df P w K mg base "piece_places" s_piece_places ["pieces"] 2 (p_piece_places K mg) := fun base => ⟨_, _, ok_piece_places z x  F_piece_places, PySem.W.mg_of X G a_piece_places, k_piece_places, F_piece_places.binds (ps := ["pieces"]) (fun _ _ _ _ _ _ us hl => match us, hl with | [_], _ => rfl), F_piece_places⟩
  have F__law_pond := fun_mk (st := s__law_pond) l__law_pond c__law_pond k__law_pond
  have D__law_pond : ∀ base : Heap, Df P w K mg base "_law_pond" s__law_pond ["script"] 2 (p__law_pond K mg) := fun base => ⟨_, _, ok__law_pond z x  F__law_pond, PySem.W.mg_of X G a__law_pond, k__law_pond, F__law_pond.binds (ps := ["script"]) (fun _ _ _ _ _ _ us hl => match us, hl with | [_], _ => rfl), F__law_pond⟩
  have F__law_frog := fun_mk (st := s__law_frog) l__law_frog c__law_frog k__law_frog
  have D__law_frog : ∀ base : Heap, Df P w K mg base "_law_frog" s__law_frog ["pond", "many"] 2 (p__law_frog K mg) := fun base => ⟨_, _, ok__law_frog z x  F__law_frog, PySem.W.mg_of X G a__law_frog, k__law_frog, F__law_frog.binds (ps := ["pond", "many"]) (fun _ _ _ _ _ _ us hl => match us, hl with | [_, _], _ => rfl), F__law_frog⟩
  have F__law_same := fun_mk (st := s__law_same) l__law_same c__law_same k__law_same
  have D__law_same : ∀ base : Heap, Df P w K mg base "_law_same" s__law_same ["told", "due"] 2 (p__law_same K mg) := fun base => ⟨_, _, ok__law_same z x  F__law_same, PySem.W.mg_of X G a__law_same, k__law_same, F__law_same.binds (ps := ["told", "due"]) (fun _ _ _ _ _ _ us hl => match us, hl with | [_, _], _ => rfl), F__law_same⟩
  have F__law_short := fun_mk (st := s__law_short) l__law_short c__law_short k__law_short
  have D__law_short : ∀ base : Heap, Df P w K mg base "_law_short" s__law_short ["places"] 2 (p__law_short K mg) := fun base => ⟨_, _, ok__law_short z x  F__law_short, PySem.W.mg_of X G a__law_short, k__law_short, F__law_short.binds (ps := ["places"]) (fun _ _ _ _ _ _ us hl => match us, hl with | [_], _ => rfl), F__law_short⟩
  have F__law_spread := fun_mk (st := s__law_spread) l__law_spread c__law_spread k__law_spread
  have D__law_spread : ∀ base : Heap, Df P w K mg base "_law_spread" s__law_spread ["pieces"] 2 (p__law_spread K mg) := fun base => ⟨_, _, ok__law_spread z x  F__law_spread, PySem.W.mg_of X G a__law_spread, k__law_spread, F__law_spread.binds (ps := ["pieces"]) (fun _ _ _ _ _ _ us hl => match us, hl with | [_], _ => rfl), F__law_spread⟩
  have F__law_fault := fun_mk (st := s__law_fault) l__law_fault c__law_fault k__law_fault
  have D__law_fault : ∀ base : Heap, Df P w K mg base "_law_fault" s__law_fault ["length", "thing"] 2 (p__law_fault K mg) := fun base => ⟨_, _, ok__law_fault z x  F__law_fault, PySem.W.mg_of X G a__law_fault, k__law_fault, F__law_fault.binds (ps := ["length", "thing"]) (fun _ _ _ _ _ _ us hl => match us, hl with | [_, _], _ => rfl), F__law_fault⟩
  have F_is_within := fun_mk (st := s_is_within) l_is_within c_is_within k_is_within
  have D_is_within : ∀ base : Heap, Df P w K mg base "is_within" s_is_within ["thing", "least", "most"] 4 (p_is_within K mg) := fun base => ⟨_, _, ok_is_within z x (D_is_integer base) F_is_within, PySem.W.mg_of X G a_is_within, k_is_within, F_is_within.binds (ps := ["thing", "least", "most"]) (fun _ _ _ _ _ _ us hl => match us, hl with | [_, _, _], _ => rfl), F_is_within⟩
  have F_are_integers := fun_mk (st := s_are_integers) l_are_integers c_are_integers k_are_integers
  have D_are_integers : ∀ base : Heap, Df P w K mg base "are_integers" s_are_integers ["thing"] 4 (p_are_integers K mg) := fun base => ⟨_, _, ok_are_integers z x (D_is_integer base) F_are_integers, PySem.W.mg_of X G a_are_integers, k_are_integers, F_are_integers.binds (ps := ["thing"]) (fun _ _ _ _ _ _ us hl => match us, hl with | [_], _ => rfl), F_are_integers⟩
  have F_short_row := fun_mk (st := s_short_row) l_short_row c_short_row k_short_row
  have D_short_row : ∀ base : Heap, Df P w K mg base "short_row" s_short_row ["places"] 4 (p_short_row K mg) := fun base => ⟨_, _, ok_short_row z x (D_longer_piece base) F_short_row, PySem.W.mg_of X G a_short_row, k_short_row, F_short_row.binds (ps := ["places"]) (fun _ _ _ _ _ _ us hl => match us, hl with | [_], _ => rfl), F_short_row⟩
  have F__law_places := fun_mk (st := s__law_places) l__law_places c__law_places k__law_places
  have D__law_places : ∀ base : Heap, Df P w K mg base "_law_places" s__law_places ["pond"] 4 (p__law_places K mg) := fun base => ⟨_, _, ok__law_places z x (D__law_frog base) F__law_places, PySem.W.mg_of X G a__law_places, k__law_places, F__law_places.binds (ps := ["pond"]) (fun _ _ _ _ _ _ us hl => match us, hl with | [_], _ => rfl), F__law_places⟩
  have F__law_pieces := fun_mk (st := s__law_pieces) l__law_pieces c__law_pieces k__law_pieces
  have D__law_pieces : ∀ base : Heap, Df P w K mg base "_law_pieces" s__law_pieces ["pond"] 4 (p__law_pieces K mg) := fun base => ⟨_, _, ok__law_pieces z x (D__law_frog base) F__law_pieces, PySem.W.mg_of X G a__law_pieces, k__law_pieces, F__law_pieces.binds (ps := ["pond"]) (fun _ _ _ _ _ _ us hl => match us, hl with | [_], _ => rfl), F__law_pieces⟩
  have F__law_bent := fun_mk (st := s__law_bent) l__law_bent c__law_bent k__law_bent
  have D__law_bent : ∀ base : Heap, Df P w K mg base "_law_bent" s__law_bent ["pond", "pieces"] 4 (p__law_bent K mg) := fun base => ⟨_, _, ok__law_bent z x (D__law_frog base) F__law_bent, PySem.W.mg_of X G a__law_bent, k__law_bent, F__law_bent.binds (ps := ["pond", "pieces"]) (fun _ _ _ _ _ _ us hl => match us, hl with | [_, _], _ => rfl), F__law_bent⟩
  have F_piece_word := fun_mk (st := s_piece_word) l_piece_word c_piece_word k_piece_word
  have D_piece_word : ∀ base : Heap, Df P w K mg base "piece_word" s_piece_word ["length", "piece"] 6 (p_piece_word K mg) := fun base => ⟨_, _, ok_piece_word z x (D_is_within base) (D_last_place base) F_piece_word, PySem.W.mg_of X G a_piece_word, k_piece_word, F_piece_word.binds (ps := ["length", "piece"]) (fun _ _ _ _ _ _ us hl => match us, hl with | [_, _], _ => rfl), F_piece_word⟩
  have F_is_short := fun_mk (st := s_is_short) l_is_short c_is_short k_is_short
  have D_is_short : ∀ base : Heap, Df P w K mg base "is_short" s_is_short ["pieces"] 6 (p_is_short K mg) := fun base => ⟨_, _, ok_is_short z x (D_short_row base) (D_piece_places base) F_is_short, PySem.W.mg_of X G a_is_short, k_is_short, F_is_short.binds (ps := ["pieces"]) (fun _ _ _ _ _ _ us hl => match us, hl with | [_], _ => rfl), F_is_short⟩
  have F_check_pieces := fun_mk (st := s_check_pieces) l_check_pieces c_check_pieces k_check_pieces
  have D_check_pieces : ∀ base : Heap, Df P w K mg base "check_pieces" s_check_pieces ["length", "thing"] 8 (p_check_pieces K mg) := fun base => ⟨_, _, ok_check_pieces z x (D_piece_word base) (D_are_integers base) F_check_pieces, PySem.W.mg_of X G a_check_pieces, k_check_pieces, F_check_pieces.binds (ps := ["length", "thing"]) (fun _ _ _ _ _ _ us hl => match us, hl with | [_, _], _ => rfl), F_check_pieces⟩
  have F__law_heard := fun_mk (st := s__law_heard) l__law_heard c__law_heard k__law_heard
  have D__law_heard : ∀ base : Heap, Df P w K mg base "_law_heard" s__law_heard ["length", "thing"] 10 (p__law_heard K mg) := fun base => ⟨_, _, ok__law_heard z x (D_check_pieces base) F__law_heard, PySem.W.mg_of X G a__law_heard, k__law_heard, F__law_heard.binds (ps := ["length", "thing"]) (fun _ _ _ _ _ _ us hl => match us, hl with | [_, _], _ => rfl), F__law_heard⟩
  have F__law_right := fun_mk (st := s__law_right) l__law_right c__law_right k__law_right
  have D__law_right : ∀ base : Heap, Df P w K mg base "_law_right" s__law_right ["length", "thing"] 12 (p__law_right K mg) := fun base => ⟨_, _, ok__law_right z x (D__law_fault base) (D__law_same base) (D__law_heard base) F__law_right, PySem.W.mg_of X G a__law_right, k__law_right, F__law_right.binds (ps := ["length", "thing"]) (fun _ _ _ _ _ _ us hl => match us, hl with | [_, _], _ => rfl), F__law_right⟩
  have F__law_asked := fun_mk (st := s__law_asked) l__law_asked c__law_asked k__law_asked
  have D__law_asked : ∀ base : Heap, Df P w K mg base "_law_asked" s__law_asked ["pond"] 14 (p__law_asked K mg) := fun base => ⟨_, _, ok__law_asked z x (D__law_places base) (D__law_pieces base) (D__law_short base) (D__law_spread base) (D_short_row base) (D_piece_places base) (D_is_short base) (D__law_same base) (D__law_bent base) (D__law_right base) F__law_asked, PySem.W.mg_of X G a__law_asked, k__law_asked, F__law_asked.binds (ps := ["pond"]) (fun _ _ _ _ _ _ us hl => match us, hl with | [_], _ => rfl), F__law_asked⟩
  have F_law := fun_mk (st := s_law) l_law c_law k_law
  exact ⟨PySem.W.fnOf "law" "law" (defArgs s_law) (defBody s_law) (defScope s_law) .none kV_law dc_law pm_law an_law cd_law ct_law, fun s v => .of_eq rfl, fun base _ _ => (ok_law z x (D__law_pond base) (D__law_same base) (D_piece_places base) (D_is_short base) (D_check_pieces base) (D_short_row base) (D__law_asked base) (D__law_right base) (D__law_short base) (D__law_heard base) F_law).imp fun vs H Q E h => h mg⟩
end K09
namespace K09
open PySem L2 DL
def x__law_pond (ds : List D) : Fr D := frOf (d__law_pond ds)
theorem qx__law_pond (ds : List D) : SimF vD (fun _ => []) (d__law_pond ds) (x__law_pond ds) := simF_of
def x__law_same (ds : List D) : Fr D := frOf (d__law_same ds)
theorem qx__law_same (ds : List D) : SimF vD (fun _ => []) (d__law_same ds) (x__law_same ds) := simF_of
def n_is_integer (thing0 : D) : Fr Bool := (.rt ((isInt thing0) && (!(isBl thing0))))
theorem q_is_integer (thing0 : D) : SimF D.bl (fun _ => []) (d_is_integer [thing0]) (n_is_integer thing0) := simF_mk (by delta b_is_integer; exact t_end (t_ret (c_ok (e_and (e_isi rfl) (e_not (e_isi rfl))) (t_rt ⟨rfl, rfl⟩))))
def n_is_within (thing0 : D) (least0 : Int) (most0 : Int) : Fr Bool := (O.bnd ((O.bnd (n_is_integer thing0) fun x1 => (if x1 then (O.bnd ((O.bnd (ofO (Option.map (fun p : Int × Int => decide (p.1 ≤ p.2)) (i2 (D.int least0) thing0))) fun x2 => (if x2 then (O.bnd (ofO (Option.map (fun p : Int × Int => decide (p.1 ≤ p.2)) (i2 thing0 (D.int most0)))) fun x3 => (.rt x3)) else (.rt false))) : Fr Bool) fun x4 => (.rt x4)) else (.rt false))) : Fr Bool) fun x5 => (.rt x5))
theorem q_is_within (thing0 : D) (least0 : Int) (most0 : Int) : SimF D.bl (fun _ => []) (d_is_within [thing0, (D.int least0), (D.int most0)]) (n_is_within thing0 least0 most0) := simF_mk (by delta b_is_within; exact t_end (t_ret (c_blk (v := D.bl) (w := (fun _ => [some thing0, some (D.int least0), some (D.int most0)])) (c_and (c_tval (c_callM (c_ok rfl (c_fret rfl (q_is_integer thing0) trivial fun x1 => (c_bB (c_ite (c_blk (v := D.bl) (w := (fun _ => [some thing0, some (D.int least0), some (D.int most0)])) (c_chain (c_ok rfl (c_ok rfl (c_chain3 (h_b0D (f := fun i j => decide (i ≤ j))) fun x2 => (c_ite (c_bind (c_ok rfl (c_opt (h_b0D (f := fun i j => decide (i ≤ j))) fun x3 => (c_rt rfl rfl)))) (c_rt rfl rfl)))))) fun x4 => (c_rt rfl rfl)) (c_rt rfl rfl)))))))) fun x5 => (t_rt ⟨rfl, rfl⟩))))
def n_are_integers (thing0 : D) : Fr Bool := (O.bnd ((if (isTup thing0) then (O.bnd (ofO (asLs thing0)) fun x1 => (O.bnd (nLs (fun (y2 : D) (s3 : Unit) => ((O.bnd (n_is_integer y2) fun x4 => (if (!x4) then (.rt (y2, ())) else (.nx ()))) : O Unit Empty (D × Unit))) x1 ()) fun (r5 : List D × Unit) => (.rt (decide ((r5.1.length : Int) = 0))))) else (.rt false)) : Fr Bool) fun x6 => (.rt x6))
theorem q_are_integers (thing0 : D) : SimF D.bl (fun _ => []) (d_are_integers [thing0]) (n_are_integers thing0) := simF_mk (by delta b_are_integers; exact t_end (t_ret (c_blk (v := D.bl) (w := (fun _ => [some thing0, none])) (c_and (c_ok (e_tval (e_isi rfl)) (c_ite (c_op (c_cb (c_cons (c_lcK (c_iA (c_ok rfl (c_opt h_anyL fun x1 => (c_lc (E1 := (fun (s3 : Unit) (ρ : DL.Env) => ρ = [some thing0, none])) (v := vD) (w := vD) (xs := x1) (s := ()) rfl (fun y2 s3 ρ h => by subst h; exact (t_asgK rfl (c_bnot (c_tval (c_callM (c_ok rfl (c_fret rfl (q_is_integer y2) trivial fun x4 => (c_bB (c_ite (c_ok rfl (t_rt ⟨rfl, rfl⟩)) (t_nx rfl)))))))))) fun r5 ρ h => by subst h; exact (c_ok rfl (c_tot h_lenL (c_ok rfl (c_tot rfl (c_rt rfl rfl))))))))))))) (c_rt rfl rfl)))) fun x6 => (t_rt ⟨rfl, rfl⟩))))
def n_last_place (piece0 : D) : Fr D := (O.bnd (ofO (gIx piece0 (D.int 0))) fun x1 => (O.bnd (ofO (gIx piece0 (D.int 2))) fun x2 => (O.bnd (ofO (gIx piece0 (D.int 1))) fun x3 => (O.bnd (ofO (Option.map (fun p : Int × Int => p.1 - p.2) (i2 x3 (D.int 1)))) fun x4 => (O.bnd (ofO (gMul x2 (D.int x4))) fun x5 => (O.bnd (ofO (gAdd x1 x5)) fun x6 => (.rt x6)))))))
theorem q_last_place (piece0 : D) : SimF vD (fun _ => []) (d_last_place [piece0]) (n_last_place piece0) := simF_mk (by delta b_last_place; exact t_end (t_ret (c_op (c_op (c_ok rfl (c_ok rfl (c_opt h_any fun x1 => (c_op (c_op (c_ok rfl (c_ok rfl (c_opt h_any fun x2 => (c_op (c_op (c_ok rfl (c_ok rfl (c_opt h_any fun x3 => (c_ok rfl (c_opt (h_i0D (f := fun i j => i - j)) fun x4 => (c_opt h_any fun x5 => (c_opt h_any fun x6 => (t_rt ⟨rfl, rfl⟩))))))))))))))))))))))
def n_longer_piece (piece0 : (Int × Int × Int)) (place0 : Int) : Fr (Option (Int × Int × Int)) := (if ((decide (piece0.2.1 = 1)) && (decide (place0 ∈ [(piece0.1 - 1), (piece0.1 + 1)]))) then (.rt (some (piece0.1, 2, (place0 - piece0.1)))) else (O.bnd ((O.bnd ((if (decide (1 < piece0.2.1)) then (O.bnd (ofO (mulI piece0.2.2 piece0.2.1)) fun x1 => (.rt (decide (place0 = (piece0.1 + x1))))) else (.rt false)) : Fr Bool) fun x2 => (if x2 then (.rt (some (piece0.1, (piece0.2.1 + 1), piece0.2.2))) else (.rt none))) : Fr (Option (Int × Int × Int))) fun x3 => (.rt x3)))
theorem q_longer_piece (piece0 : (Int × Int × Int)) (place0 : Int) : SimF (oD (vP3 D.int D.int D.int)) (fun _ => []) (d_longer_piece [((vP3 D.int D.int D.int) piece0), (D.int place0)]) (n_longer_piece piece0 place0) := simF_mk (by delta b_longer_piece; exact t_end (t_seq (t_asg (c_ok rfl (t_asgK rfl (t_seq (t_if (c_ok (e_band (e_tval rfl) (e_tval (e_op rfl (e_tup rfl (Nat.le_of_ble_eq_true rfl)) (h_inTI (xs := [(piece0.1 - 1), (piece0.1 + 1)]))))) (c_ite (t_ret (c_ok (e_tup rfl (Nat.le_of_ble_eq_true rfl)) (t_rt ⟨rfl, rfl⟩))) (t_pass (t_ret (c_blk (v := (oD (vP3 D.int D.int D.int))) (w := (fun _ => [some ((vP3 D.int D.int D.int) piece0), some (D.int place0), some (D.int piece0.1), some (D.int piece0.2.1), some (D.int piece0.2.2)])) (c_if (c_blkT (w := (fun _ => [some ((vP3 D.int D.int D.int) piece0), some (D.int place0), some (D.int piece0.1), some (D.int piece0.2.1), some (D.int piece0.2.2)])) (c_band (c_ok (e_tval rfl) (c_ite (c_tval (c_op (c_ok rfl (c_op (c_ok rfl (c_op (c_ok rfl (c_ok rfl (c_opt h_mul fun x1 => (c_tot rfl (c_tot rfl (c_bB (c_rt rfl rfl))))))))))))) (c_rt rfl rfl)))) fun x2 => (c_ite (c_ok (e_tup rfl (Nat.le_of_ble_eq_true rfl)) (c_rt rfl rfl)) (c_ok rfl (c_rt rfl rfl))))) fun x3 => (t_rt ⟨rfl, rfl⟩)))))))))))))
def n_short_row (places0 : (List Int)) : Fr (List (Int × Int × Int)) := (O.seq (nFor (fun (y2 : Int) (s1 : (List (Int × Int × Int))) => (O.bnd ((if (decide (0 < (s1.length : Int))) then (O.bnd (ofO (atI s1 ((s1.length : Int) - 1))) fun x3 => (O.bnd (n_longer_piece x3 y2) fun x4 => (.rt x4))) else (.rt none)) : Fr (Option (Int × Int × Int))) fun x5 => (if x5.isNone then (O.bnd (ofO (push (α := (Int × Int × Int)) s1 (y2, 1, 1))) fun found7 => (.nx found7)) else (O.bnd (ofO x5) fun g9 => (O.bnd (ofO (setAt s1 ((s1.length : Int) - 1) g9)) fun found10 => (.nx found10)))))) places0 []) fun (s11 : (List (Int × Int × Int))) => (.rt s11))
theorem q_short_row (places0 : (List Int)) : SimF (vT (vP3 D.int D.int D.int)) (fun _ => []) (d_short_row [((vT D.int) places0)]) (n_short_row places0) := simF_mk (by delta b_short_row; exact t_end (t_seq (t_set (c_ok (e_lst rfl (Nat.le_of_ble_eq_true rfl)) (t_seq (t_forK (c_iA (c_ok rfl (c_tot (x := List.map D.int places0) rfl (t_loop (E1 := (fun (s1 : (List (Int × Int × Int))) (ρ : DL.Env) => ∃ u2 u3 : Option D, ρ = [some ((vT D.int) places0), some ((vL (vP3 D.int D.int D.int)) s1), u2, u3])) (v := D.int) (xs := places0) (s := []) ⟨_, _, rfl⟩ (fun y2 s1 ρ h => by obtain ⟨u2, u3, rfl⟩ := h; exact (t_asgK rfl (t_end (t_seq (t_set (c_blk (v := (oD (vP3 D.int D.int D.int))) (w := (fun _ => [some ((vT D.int) places0), some ((vL (vP3 D.int D.int D.int)) s1), some (D.int y2), u3])) (c_if (c_ok (e_tval (e_op (e_view (e_cb rfl h_lenL) rfl) rfl rfl)) (c_ite (c_callM (c_cons (c_ixO rfl (c_ok (e_op (e_view (e_cb rfl h_lenL) rfl) rfl rfl) (c_ix2 rfl (c_opt h_itL fun x3 => (c_ok rfl (c_fret rfl (q_longer_piece x3 y2) trivial fun x4 => (c_rt rfl rfl))))))))) (c_ok rfl (c_rt rfl rfl))))) fun x5 => (t_if (c_ok (e_tval (e_op rfl rfl (h_isnO rfl (fun _ => rfl)))) (c_ite (t_drop (c_mtO rfl (c_ok (e_cons (e_tup rfl (Nat.le_of_ble_eq_true rfl)) rfl) (c_mt2 rfl (h_app (v := (vP3 D.int D.int D.int)) (xs := s1) (a := (y2, 1, 1))) fun found7 => (t_nx ⟨_, _, rfl⟩))))) (t_seti (d0 := D.non) (c_ok rfl (t_seti2 rfl (c_ok (e_op (e_view (e_cb rfl h_lenL) rfl) rfl rfl) (by cases hg9 : x5 with | none => exact c_stk | some g9 => exact c_red (t_setiK rfl (c_opt (h_stL (v := (vP3 D.int D.int D.int)) (xs := s1) (a := g9)) fun found10 => (t_nx ⟨_, _, rfl⟩))))))))))))))))) (fun s11 ρ h => by obtain ⟨u2, u3, rfl⟩ := h; exact (t_ret (c_ok rfl (t_rt ⟨rfl, rfl⟩))))))))))))))
def n_piece_places (pieces0 : (List (Int × Int × Int))) : Fr (List Int) := (O.seq (nFor (fun (y2 : (Int × Int × Int)) (s1 : (List Int)) => (O.bnd (ofO (rg1 y2.2.1)) fun x3 => (O.bnd (nLs (fun (y4 : Int) (s5 : Unit) => ((O.bnd (ofO (mulI y2.2.2 y4)) fun x6 => (.rt ((y2.1 + x6), ()))) : O Unit Empty (Int × Unit))) x3 ()) fun (r7 : List Int × Unit) => (O.bnd (ofO (cat (α := Int) s1 r7.1)) fun found8 => (.nx found8))))) pieces0 []) fun (s9 : (List Int)) => (.rt s9))
theorem q_piece_places (pieces0 : (List (Int × Int × Int))) : SimF (vT D.int) (fun _ => []) (d_piece_places [((vT (vP3 D.int D.int D.int)) pieces0)]) (n_piece_places pieces0) := simF_mk (by delta b_piece_places; exact t_end (t_seq (t_set (c_ok (e_lst rfl (Nat.le_of_ble_eq_true rfl)) (t_seq (t_forK (c_iA (c_ok rfl (c_tot (x := List.map (vP3 D.int D.int D.int) pieces0) rfl (t_loop (E1 := (fun (s1 : (List Int)) (ρ : DL.Env) => ∃ u2 u3 u4 : Option D, ρ = [some ((vT (vP3 D.int D.int D.int)) pieces0), some ((vL D.int) s1), u2, u3, u4, none])) (v := (vP3 D.int D.int D.int)) (xs := pieces0) (s := []) ⟨_, _, _, rfl⟩ (fun y2 s1 ρ h => by obtain ⟨u2, u3, u4, rfl⟩ := h; exact (t_asgK rfl (t_end (t_drop (c_mtO rfl (c_cons (c_lcK (c_iR1 (c_ok rfl (c_opt h_r1 fun x3 => (c_lc (E1 := (fun (s5 : Unit) (ρ : DL.Env) => ρ = [some ((vT (vP3 D.int D.int D.int)) pieces0), some ((vL D.int) s1), some (D.int y2.1), some (D.int y2.2.1), some (D.int y2.2.2), none])) (v := D.int) (w := D.int) (xs := x3) (s := ()) rfl (fun y4 s5 ρ h => by subst h; exact (t_asgK rfl (c_ok (x := true) rfl (c_op (c_ok rfl (c_op (c_ok rfl (c_ok rfl (c_opt h_mul fun x6 => (c_tot rfl (t_rt ⟨rfl, rfl⟩))))))))))) fun r7 ρ h => by subst h; exact (c_ok rfl (c_mt2 rfl (h_ext (v := D.int) (xs := s1) (ys := r7.1)) fun found8 => (t_nx ⟨_, _, _, rfl⟩)))))))))))))) (fun s9 ρ h => by obtain ⟨u2, u3, u4, rfl⟩ := h; exact (t_ret (c_ok rfl (t_rt ⟨rfl, rfl⟩))))))))))))))
def n_piece_word (length0 : Int) (piece0 : D) : Fr Str := (O.bnd (ofO (gIx piece0 (D.int 1))) fun x1 => (O.bnd (ofO (Option.map (fun p : Int × Int => decide (p.1 < p.2)) (i2 x1 (D.int 1)))) fun x2 => (if x2 then (.rt ("length" : Str)) else (O.bnd (ofO (gIx piece0 (D.int 2))) fun x3 => (O.bnd (ofO (niD x3 (D.tup [(D.int 1), (D.int (-1))]))) fun x4 => (if x4 then (.rt ("step" : Str)) else (O.bnd ((O.bnd (ofO (gIx piece0 (D.int 0))) fun x5 => (O.bnd (n_is_within x5 0 (length0 - 1)) fun x6 => (if (!x6) then (.rt true) else (O.bnd (n_last_place piece0) fun x7 => (O.bnd (n_is_within x7 0 (length0 - 1)) fun x8 => (.rt (!x8))))))) : Fr Bool) fun x9 => (if x9 then (.rt ("place" : Str)) else (.rt ("" : Str))))))))))
theorem q_piece_word (length0 : Int) (piece0 : D) : SimF D.str (fun _ => []) (d_piece_word [(D.int length0), piece0]) (n_piece_word length0 piece0) := simF_mk (by delta b_piece_word; exact t_end (t_seq (t_if (c_tval (c_op (c_op (c_ok rfl (c_ok rfl (c_opt h_any fun x1 => (c_ok rfl (c_opt (h_b0D (f := fun i j => decide (i < j))) fun x2 => (c_bB (c_ite (t_ret (c_ok rfl (t_rt ⟨rfl, rfl⟩))) (t_pass (t_seq (t_if (c_tval (c_op (c_op (c_ok rfl (c_ok rfl (c_opt h_any fun x3 => (c_ok (e_tup rfl (Nat.le_of_ble_eq_true rfl)) (c_opt h_niD fun x4 => (c_bB (c_ite (t_ret (c_ok rfl (t_rt ⟨rfl, rfl⟩))) (t_pass (t_seq (t_if (c_blkT (w := (fun _ => [some (D.int length0), some piece0])) (c_bor (c_bnot (c_tval (c_callM (c_cons (c_op (c_ok rfl (c_ok rfl (c_opt h_any fun x5 => (c_ok rfl (c_fret rfl (q_is_within x5 0 (length0 - 1)) trivial fun x6 => (c_bB (c_ite (c_rt rfl rfl) (c_bnot (c_tval (c_callM (c_cons (c_callM (c_ok rfl (c_fret rfl (q_last_place piece0) trivial fun x7 => (c_ok rfl (c_fret rfl (q_is_within x7 0 (length0 - 1)) trivial fun x8 => (c_bB (c_rt rfl rfl)))))))))))))))))))))))) fun x9 => (c_ite (t_ret (c_ok rfl (t_rt ⟨rfl, rfl⟩))) (t_pass (t_ret (c_ok rfl (t_rt ⟨rfl, rfl⟩)))))))))))))))))))))))))))))))))))
def n_check_pieces (length0 : Int) (thing0 : D) : Fr Int := (O.bnd ((if (!(isTup thing0)) then (.rt true) else (O.bnd (ofO (asLs thing0)) fun x1 => (O.bnd (nLs (fun (y2 : D) (s3 : Unit) => ((O.bnd ((O.bnd (n_are_integers y2) fun x4 => (if (!x4) then (.rt true) else (O.bnd (ofO (lenD y2)) fun x5 => (.rt (!decide (x5 = 3)))))) : Fr Bool) fun x6 => (if x6 then (.rt (y2, ())) else (.nx ()))) : O Unit Empty (D × Unit))) x1 ()) fun (r7 : List D × Unit) => (.rt (decide (0 < (r7.1.length : Int))))))) : Fr Bool) fun x8 => (if x8 then (.exc ⟨2, (["at", "word"] : List Str).zip [(D.int (-1)), (D.str ("shape" : Str))]⟩) else (O.bnd (ofO (gEn [thing0])) fun x9 => (O.seq (nFor (fun (y11 : D) (s10 : Unit) => (O.bnd (ofO (un2 y11)) fun p12 => (O.bnd (ofO (asI p12.1)) fun c13 => (O.bnd (n_piece_word length0 p12.2) fun x14 => (if (!decide (x14 = ("" : Str))) then (.exc ⟨2, (["at", "word"] : List Str).zip [(D.int c13), (D.str x14)]⟩) else (.nx ())))))) x9 ()) fun (s15 : Unit) => (O.bnd (ofO (asLs thing0)) fun x16 => (O.bnd (nLs (fun (y17 : D) (s18 : Unit) => ((O.bnd (ofO (gIx y17 (D.int 1))) fun x19 => (.rt (x19, ()))) : O Unit Empty (D × Unit))) x16 ()) fun (r20 : List D × Unit) => (O.bnd (ofO (sumD ((vL vD) r20.1))) fun x21 => (.rt x21))))))))
theorem q_check_pieces (length0 : Int) (thing0 : D) : SimF D.int (fun _ => []) (d_check_pieces [(D.int length0), thing0]) (n_check_pieces length0 thing0) := simF_mk (by delta b_check_pieces; exact t_end (t_seq (t_if (c_blkT (w := (fun _ => [some (D.int length0), some thing0, none, none, none, none])) (c_bor (c_ok (e_bnot (e_tval (e_isi rfl))) (c_ite (c_rt rfl rfl) (c_tval (c_op (c_cb (c_cons (c_lcK (c_iA (c_ok rfl (c_opt h_anyL fun x1 => (c_lc (E1 := (fun (s3 : Unit) (ρ : DL.Env) => ρ = [some (D.int length0), some thing0, none, none, none, none])) (v := vD) (w := vD) (xs := x1) (s := ()) rfl (fun y2 s3 ρ h => by subst h; exact (t_asgK rfl (c_blkT (w := (fun _ => [some (D.int length0), some thing0, none, none, none, some y2])) (c_bor (c_bnot (c_tval (c_callM (c_ok rfl (c_fret rfl (q_are_integers y2) trivial fun x4 => (c_bB (c_ite (c_rt rfl rfl) (c_tval (c_op (c_cb (c_ok rfl (c_opt h_lenD fun x5 => (c_ok rfl (c_tot rfl (c_bB (c_rt rfl rfl))))))))))))))))) fun x6 => (c_ite (c_ok rfl (t_rt ⟨rfl, rfl⟩)) (t_nx rfl))))) fun r7 ρ h => by subst h; exact (c_ok rfl (c_tot h_lenL (c_ok rfl (c_tot rfl (c_bB (c_rt rfl rfl)))))))))))))))))) fun x8 => (c_ite (t_raise (c_ok rfl (t_exc rfl trivial))) (t_pass (t_seq (t_forK (c_iEn (c_ok rfl (c_opt h_anyL fun x9 => (t_loop (E1 := (fun (s10 : Unit) (ρ : DL.Env) => ∃ u2 u3 u4 : Option D, ρ = [some (D.int length0), some thing0, u2, u3, u4, none])) (v := vD) (xs := x9) (s := ()) ⟨_, _, _, rfl⟩ (fun y11 s10 ρ h => by obtain ⟨u2, u3, u4, rfl⟩ := h; exact (t_un2 fun p12 => (by cases hc13 : asI p12.1 with | none => exact c_stk | some c13 => (rw [asI_eq hc13]; exact c_red (t_end (t_seq (t_set (c_callM (c_ok rfl (c_fret rfl (q_piece_word length0 p12.2) trivial fun x14 => (t_if (c_ok (e_tval rfl) (c_ite (t_raise (c_ok rfl (t_exc rfl trivial))) (t_pass (t_nx ⟨_, _, _, rfl⟩))))))))))))))) (fun s15 ρ h => by obtain ⟨u2, u3, u4, rfl⟩ := h; exact (t_ret (c_cb (c_cons (c_lcK (c_iA (c_ok rfl (c_opt h_anyL fun x16 => (c_lc (E1 := (fun (s18 : Unit) (ρ : DL.Env) => ρ = [some (D.int length0), some thing0, u2, none, u4, none])) (v := vD) (w := vD) (xs := x16) (s := ()) rfl (fun y17 s18 ρ h => by subst h; exact (t_asgK rfl (c_ok (x := true) rfl (c_op (c_ok rfl (c_ok rfl (c_opt h_any fun x19 => (t_rt ⟨rfl, rfl⟩)))))))) fun r20 ρ h => by subst h; exact (c_ok rfl (c_opt h_sumD fun x21 => (t_rt ⟨rfl, rfl⟩))))))))))))))))))))))))
def n_is_short (pieces0 : (List (Int × Int × Int))) : Fr Bool := (O.bnd (n_piece_places pieces0) fun x1 => (O.bnd (n_short_row x1) fun x2 => (.rt (decide (x2 = pieces0)))))
theorem q_is_short (pieces0 : (List (Int × Int × Int))) : SimF D.bl (fun _ => []) (d_is_short [((vT (vP3 D.int D.int D.int)) pieces0)]) (n_is_short pieces0) := simF_mk (by delta b_is_short; exact t_end (t_ret (c_op (c_callM (c_cons (c_callM (c_ok rfl (c_fret rfl (q_piece_places pieces0) trivial fun x1 => (c_ok rfl (c_fret rfl (q_short_row x1) trivial fun x2 => (c_ok rfl (c_tot (h_eqP (v := (vT (vP3 D.int D.int D.int))) (a := x2) (b := pieces0) (pl_T (pl_P3 (m := 0) pl_int pl_int pl_int (by decide) (by decide) (by decide))) (by decide)) (t_rt ⟨rfl, rfl⟩)))))))))))))
def n__law_frog (pond0 : D) (many0 : Int) : Fr (Int × D) := (O.bnd (ofO (itemO pond0 (D.str ("at" : Str)))) fun x1 => (O.bnd (ofO (gAdd x1 (D.int 1))) fun x2 => (O.bnd (ofO (storeO pond0 (D.str ("at" : Str)) x2)) fun pond4 => (O.bnd (ofO (itemO pond4 (D.str ("whole" : Str)))) fun x5 => (O.bnd (ofO (gMul x5 (D.int 985))) fun x6 => (O.bnd (ofO (itemO pond4 (D.str ("digits" : Str)))) fun x7 => (O.bnd (ofO (itemO pond4 (D.str ("digits" : Str)))) fun x8 => (O.bnd (ofO (lenD x8)) fun x9 => (O.bnd (ofO (Option.bind (i2 x1 (D.int x9)) fun p => icI CMod (fun i j => i % j) p.1 p.2)) fun x10 => (O.bnd (ofO (gIx x7 (D.int x10))) fun x11 => (O.bnd (ofO (gMul x11 (D.int 53))) fun x12 => (O.bnd (ofO (gAdd x6 x12)) fun x13 => (O.bnd (ofO (gMul x1 (D.int 37))) fun x14 => (O.bnd (ofO (gAdd x13 x14)) fun x15 => (O.bnd (ofO (gAdd x15 (D.int 11))) fun x16 => (O.bnd (ofO (intD x16)) fun x17 => (O.bnd (ofO (storeO pond4 (D.str ("whole" : Str)) (D.int (x17 % 1999301)))) fun pond19 => (O.bnd (ofO (itemO pond19 (D.str ("whole" : Str)))) fun x20 => (O.bnd (ofO (intD x20)) fun x21 => (O.bnd (ofO (icI CMod (fun i j => i % j) (x21 / 19) many0)) fun x22 => (.rt (x22, pond19))))))))))))))))))))))
theorem q__law_frog (pond0 : D) (many0 : Int) : SimF (fun p : (Int × D) => D.int p.1) (fun p : (Int × D) => [some (vD p.2)]) (d__law_frog [pond0, (D.int many0)]) (n__law_frog pond0 many0) := simF_mk (by delta b__law_frog; exact t_end (t_seq (t_set (c_ixO rfl (c_ok rfl (c_ix2 rfl (c_opt h_any fun x1 => (t_seq (t_seti (d0 := D.non) (c_op (c_ok rfl (c_ok rfl (c_opt h_any fun x2 => (t_seti2 rfl (c_ok rfl (t_setiK rfl (c_opt h_any fun pond4 => (t_seq (t_seti (d0 := D.non) (c_op (c_cb (c_cons (c_op (c_op (c_op (c_op (c_ixO rfl (c_ok rfl (c_ix2 rfl (c_opt h_any fun x5 => (c_ok rfl (c_opt h_any fun x6 => (c_op (c_op (c_ixO rfl (c_ok rfl (c_ix2 rfl (c_opt h_any fun x7 => (c_op (c_ok rfl (c_cb (c_cons (c_ixO rfl (c_ok rfl (c_ix2 rfl (c_opt h_any fun x8 => (c_ok rfl (c_opt h_lenD fun x9 => (c_opt h_icD fun x10 => (c_opt h_any fun x11 => (c_ok rfl (c_opt h_any fun x12 => (c_opt h_any fun x13 => (c_op (c_ok rfl (c_ok rfl (c_opt h_any fun x14 => (c_opt h_any fun x15 => (c_ok rfl (c_opt h_any fun x16 => (c_ok rfl (c_opt h_intD fun x17 => (c_ok rfl (c_tot (h_icR (show (0 : Int) < 1999301 from by decide)) (t_seti2 rfl (c_ok rfl (t_setiK rfl (c_opt h_any fun pond19 => (t_ret (c_op (c_op (c_cb (c_cons (c_ixO rfl (c_ok rfl (c_ix2 rfl (c_opt h_any fun x20 => (c_ok rfl (c_opt h_intD fun x21 => (c_ok rfl (c_tot (h_icR (c := CDiv) ⟨(show (0 : Int) < 19 from by decide), (show (19 : Int) < 1073741824 from by decide)⟩) (c_ok rfl (c_opt h_ic fun x22 => (t_rt ⟨rfl, rfl⟩))))))))))))))))))))))))))))))))))))))))))))))))))))))))))))))))))))))))))))))))))))
def n__law_short (places0 : (List Int)) : Fr (List (Int × Int × Int)) := (O.bnd (ofO (rg1 (places0.length : Int))) fun x1 => (O.seq (nFor (fun (y3 : Int) (s2 : ((List (Int × Int × Int)) × Int)) => (if (decide ((places0.length : Int) ≤ s2.2)) then (.bk (s2.1, s2.2)) else (O.seq (O.bnd ((if (decide ((s2.2 + 1) < (places0.length : Int))) then (O.bnd (ofO (atI places0 (s2.2 + 1))) fun x5 => (O.bnd (ofO (atI places0 s2.2)) fun x6 => (.rt (decide ((x5 - x6) ∈ [1, (-1)]))))) else (.rt false)) : Fr Bool) fun x7 => (if x7 then (O.bnd ((O.bnd (ofO (atI places0 (s2.2 + 1))) fun x8 => (O.bnd (ofO (atI places0 s2.2)) fun x9 => (.rt (x8 - x9)))) : Fr Int) fun x10 => (O.bnd (ofO (rg2 (s2.2 + 1) (places0.length : Int))) fun x11 => (O.seq (nFor (fun (y13 : Int) (s12 : Int) => (O.bnd (ofO (atI places0 y13)) fun x14 => (O.bnd (ofO (atI places0 (y13 - 1))) fun x15 => (if (!decide ((x14 - x15) = x10)) then (.bk s12) else (O.bnd (.rt ((y13 + 1) : Int)) fun end16 => (.nx end16)))))) x11 (s2.2 + 1)) fun (s17 : Int) => (.nx (x10, s17))))) else (.nx (1, (s2.2 + 1))))) fun (s4 : (Int × Int)) => (O.bnd (ofO (atI places0 s2.2)) fun x18 => (O.bnd (ofO (push (α := (Int × Int × Int)) s2.1 (x18, (s4.2 - s2.2), s4.1))) fun told20 => (.nx (told20, s4.2))))))) x1 ([], 0)) fun (s21 : ((List (Int × Int × Int)) × Int)) => (.rt s21.1)))
theorem q__law_short (places0 : (List Int)) : SimF (vT (vP3 D.int D.int D.int)) (fun _ => []) (d__law_short [((vT D.int) places0)]) (n__law_short places0) := simF_mk (by delta b__law_short; exact t_end (t_seq (t_par (c_ok (e_cons (e_lst rfl (Nat.le_of_ble_eq_true rfl)) rfl) (t_parK (t_seq (t_forK (c_iR1 (c_ok (e_cons (e_cb rfl h_lenT) rfl) (c_opt h_r1 fun x1 => (t_loop (E1 := (fun (s2 : ((List (Int × Int × Int)) × Int)) (ρ : DL.Env) => ∃ u3 u4 u5 u6 : Option D, ρ = [some ((vT D.int) places0), some ((vL (vP3 D.int D.int D.int)) s2.1), some (D.int s2.2), u3, u4, u5, u6])) (v := D.int) (xs := x1) (s := ([], 0)) ⟨_, _, _, _, rfl⟩ (fun y3 s2 ρ h => by obtain ⟨u3, u4, u5, u6, rfl⟩ := h; exact (t_asgK rfl (t_end (t_seq (t_if (c_ok (e_tval (e_op rfl (e_cb rfl h_lenT) rfl)) (c_ite (t_bk ⟨_, _, _, _, rfl⟩) (t_pass (t_seq (t_par (c_ok rfl (t_parK (t_seq (t_cut (E1 := (fun (s4 : (Int × Int)) (ρ : DL.Env) => ∃ u6 : Option D, ρ = [some ((vT D.int) places0), some ((vL (vP3 D.int D.int D.int)) s2.1), some (D.int s2.2), some (D.int y3), some (D.int s4.1), some (D.int s4.2), u6])) (t_end (t_if (c_blkT (w := (fun _ => [some ((vT D.int) places0), some ((vL (vP3 D.int D.int D.int)) s2.1), some (D.int s2.2), some (D.int y3), some (D.int 1), some (D.int (s2.2 + 1)), u6])) (c_band (c_ok (e_tval (e_op rfl (e_cb rfl h_lenT) rfl)) (c_ite (c_tval (c_op (c_op (c_op (c_ok rfl (c_ok rfl (c_opt h_ixT fun x5 => (c_op (c_ok rfl (c_ok rfl (c_opt h_ixT fun x6 => (c_tot rfl (c_ok (e_tup rfl (Nat.le_of_ble_eq_true rfl)) (c_tot (h_inTI (xs := [1, (-1)])) (c_bB (c_rt rfl rfl)))))))))))))))) (c_rt rfl rfl)))) fun x7 => (c_ite (t_seq (t_set (c_blk (v := D.int) (w := (fun _ => [some ((vT D.int) places0), some ((vL (vP3 D.int D.int D.int)) s2.1), some (D.int s2.2), some (D.int y3), some (D.int 1), some (D.int (s2.2 + 1)), u6])) (c_op (c_op (c_ok rfl (c_ok rfl (c_opt h_ixT fun x8 => (c_op (c_ok rfl (c_ok rfl (c_opt h_ixT fun x9 => (c_tot rfl (c_rt rfl rfl))))))))))) fun x10 => (t_forK (c_iR2 (c_ok (e_cons rfl (e_cons (e_cb rfl h_lenT) rfl)) (c_opt h_r2 fun x11 => (t_loop (E1 := (fun (s12 : Int) (ρ : DL.Env) => ∃ u6 : Option D, ρ = [some ((vT D.int) places0), some ((vL (vP3 D.int D.int D.int)) s2.1), some (D.int s2.2), some (D.int y3), some (D.int x10), some (D.int s12), u6])) (v := D.int) (xs := x11) (s := (s2.2 + 1)) ⟨_, rfl⟩ (fun y13 s12 ρ h => by obtain ⟨u6, rfl⟩ := h; exact (t_asgK rfl (t_end (t_seq (t_if (c_tval (c_op (c_op (c_op (c_ok rfl (c_ok rfl (c_opt h_ixT fun x14 => (c_op (c_ok rfl (c_ok rfl (c_opt h_ixT fun x15 => (c_tot rfl (c_ok rfl (c_tot rfl (c_bB (c_ite (t_bk ⟨_, rfl⟩) (t_pass (t_set (c_okE (v := D.int) (x := (y13 + 1)) rfl rfl fun end16 => (t_nx ⟨_, rfl⟩))))))))))))))))))))))))) (fun s17 ρ h => by obtain ⟨u6, rfl⟩ := h; exact (t_nx ⟨_, rfl⟩)))))))))) (t_pass (t_nx ⟨_, rfl⟩)))))) (fun s4 ρ h => by obtain ⟨u6, rfl⟩ := h; exact (t_seq (t_drop (c_mtO rfl (c_cons (c_tup (c_cons (c_op (c_ok rfl (c_ok rfl (c_opt h_ixT fun x18 => (c_ok rfl (c_size (Nat.le_of_ble_eq_true rfl) (c_ok rfl (c_mt2 rfl (h_app (v := (vP3 D.int D.int D.int)) (xs := s2.1) (a := (x18, (s4.2 - s2.2), s4.1))) fun told20 => (t_set (c_ok rfl (t_nx ⟨_, _, _, _, rfl⟩)))))))))))))))))))))))))))))))) (fun s21 ρ h => by obtain ⟨u3, u4, u5, u6, rfl⟩ := h; exact (t_ret (c_ok rfl (t_rt ⟨rfl, rfl⟩)))))))))))))))
def n__law_places (pond0 : D) : Fr ((List Int) × D) := (O.bnd ((O.bnd (n__law_frog pond0 9) fun x1 => (.rt ([x1.1], x1.2))) : Fr ((List Int) × D)) fun x2 => (O.bnd (n__law_frog x2.2 5) fun x3 => (O.bnd (ofO (rg1 x3.1)) fun x4 => (O.seq (nFor (fun (y6 : Int) (s5 : (D × (List Int))) => (O.bnd (n__law_frog s5.1 5) fun x7 => (O.bnd (n__law_frog x7.2 4) fun x8 => (O.bnd (ofO (rg1 x8.1)) fun x9 => (O.seq (nFor (fun (y11 : Int) (s10 : (D × (List Int))) => (O.bnd (ofO (atI s10.2 (-1))) fun x12 => (O.bnd ((if (decide (x7.1 = 0)) then (.rt ((x12 + 1), s10.1)) else (O.bnd ((if (decide (x7.1 = 1)) then (.rt ((if (x12 - 1) > 0 then (x12 - 1) else 0), s10.1)) else (O.bnd ((if (decide (x7.1 = 2)) then (.rt (x12, s10.1)) else (O.bnd (n__law_frog s10.1 12) fun x13 => (.rt (x13.1, x13.2)))) : Fr (Int × D)) fun x14 => (.rt (x14.1, x14.2)))) : Fr (Int × D)) fun x15 => (.rt (x15.1, x15.2)))) : Fr (Int × D)) fun x16 => (O.bnd (ofO (push (α := Int) s10.2 x16.1)) fun told18 => (.nx (x16.2, told18)))))) x9 (x8.2, s5.2)) fun (s19 : (D × (List Int))) => (.nx (s19.1, s19.2))))))) x4 (x3.2, x2.1)) fun (s20 : (D × (List Int))) => (O.bnd (n__law_frog s20.1 2) fun x21 => (O.bnd (n__law_frog x21.2 2) fun x22 => (O.bnd (ofO (mulI x21.1 x22.1)) fun x23 => (.rt ((cutD s20.2 (some x23) none), x22.2)))))))))
theorem q__law_places (pond0 : D) : SimF (fun p : ((List Int) × D) => (vT D.int) p.1) (fun p : ((List Int) × D) => [some (vD p.2)]) (d__law_places [pond0]) (n__law_places pond0) := simF_mk (by delta b__law_places; exact t_end (t_seq (t_set (c_blk (v := (fun x : ((List Int) × D) => (vL D.int) x.1)) (w := (fun x : ((List Int) × D) => [some x.2, none, none, none, none, none, none])) (c_lst (c_cons (c_callO rfl (c_ok rfl (c_fretO rfl rfl (q__law_frog pond0 9) (fun _ => trivial) fun x1 => (c_ok rfl (c_size (Nat.le_of_ble_eq_true rfl) (c_rt rfl rfl)))))))) fun x2 => (t_seq (t_forK (c_iR1 (c_cons (c_callO rfl (c_ok rfl (c_fretO rfl rfl (q__law_frog x2.2 5) (fun _ => trivial) fun x3 => (c_ok rfl (c_opt h_r1 fun x4 => (t_loop (E1 := (fun (s5 : (D × (List Int))) (ρ : DL.Env) => ∃ u2 u3 u4 u5 u6 : Option D, ρ = [some s5.1, some ((vL D.int) s5.2), u2, u3, u4, u5, u6])) (v := D.int) (xs := x4) (s := (x3.2, x2.1)) ⟨_, _, _, _, _, rfl⟩ (fun y6 s5 ρ h => by obtain ⟨u2, u3, u4, u5, u6, rfl⟩ := h; exact (t_asgK rfl (t_end (t_seq (t_par (c_cons (c_callO rfl (c_ok rfl (c_fretO rfl rfl (q__law_frog s5.1 5) (fun _ => trivial) fun x7 => (c_cons (c_callO rfl (c_ok rfl (c_fretO rfl rfl (q__law_frog x7.2 4) (fun _ => trivial) fun x8 => (c_ok rfl (t_parK (t_forK (c_iR1 (c_ok rfl (c_opt h_r1 fun x9 => (t_loop (E1 := (fun (s10 : (D × (List Int))) (ρ : DL.Env) => ∃ u5 u6 : Option D, ρ = [some s10.1, some ((vL D.int) s10.2), some (D.int y6), some (D.int x7.1), some (D.int x8.1), u5, u6])) (v := D.int) (xs := x9) (s := (x8.2, s5.2)) ⟨_, _, rfl⟩ (fun y11 s10 ρ h => by obtain ⟨u5, u6, rfl⟩ := h; exact (t_asgK rfl (t_end (t_seq (t_set (c_ixO rfl (c_ok rfl (c_ix2 rfl (c_opt h_itL fun x12 => (t_drop (c_mtO rfl (c_cons (c_blk (v := (fun x : (Int × D) => D.int x.1)) (w := (fun x : (Int × D) => [some x.2, some ((vL D.int) s10.2), some (D.int y6), some (D.int x7.1), some (D.int x8.1), some (D.int y11), some (D.int x12)])) (c_if (c_ok (e_tval rfl) (c_ite (c_ok rfl (c_rt rfl rfl)) (c_blk (v := (fun x : (Int × D) => D.int x.1)) (w := (fun x : (Int × D) => [some x.2, some ((vL D.int) s10.2), some (D.int y6), some (D.int x7.1), some (D.int x8.1), some (D.int y11), some (D.int x12)])) (c_if (c_ok (e_tval rfl) (c_ite (c_ok rfl (c_rt rfl rfl)) (c_blk (v := (fun x : (Int × D) => D.int x.1)) (w := (fun x : (Int × D) => [some x.2, some ((vL D.int) s10.2), some (D.int y6), some (D.int x7.1), some (D.int x8.1), some (D.int y11), some (D.int x12)])) (c_if (c_ok (e_tval rfl) (c_ite (c_ok rfl (c_rt rfl rfl)) (c_callO rfl (c_ok rfl (c_fretO rfl rfl (q__law_frog s10.1 12) (fun _ => trivial) fun x13 => (c_rt rfl rfl))))))) fun x14 => (c_rt rfl rfl))))) fun x15 => (c_rt rfl rfl))))) fun x16 => (c_ok rfl (c_mt2 rfl (h_app (v := D.int) (xs := s10.2) (a := x16.1)) fun told18 => (t_nx ⟨_, _, rfl⟩)))))))))))))))) (fun s19 ρ h => by obtain ⟨u5, u6, rfl⟩ := h; exact (t_nx ⟨_, _, _, _, _, rfl⟩)))))))))))))))))))))) (fun s20 ρ h => by obtain ⟨u2, u3, u4, u5, u6, rfl⟩ := h; exact (t_ret (c_sl (c_ok rfl (c_pso (c_op (c_callO rfl (c_ok rfl (c_fretO rfl rfl (q__law_frog s20.1 2) (fun _ => trivial) fun x21 => (c_callO rfl (c_ok rfl (c_fretO rfl rfl (q__law_frog x21.2 2) (fun _ => trivial) fun x22 => (c_opt h_mul fun x23 => (c_iI (c_pno (c_tot h_slT (t_rt ⟨rfl, rfl⟩)))))))))))))))))))))))))))))))
def n__law_pieces (pond0 : D) : Fr ((List (Int × Int × Int)) × D) := (O.bnd (n__law_frog pond0 5) fun x1 => (O.bnd (ofO (rg1 x1.1)) fun x2 => (O.seq (nFor (fun (y4 : Int) (s3 : (D × (List (Int × Int × Int)))) => (O.bnd (n__law_frog s3.1 4) fun x5 => (O.bnd (n__law_frog x5.2 2) fun x6 => (O.bnd (ofO (atI ([1, (-1)] : List Int) x6.1)) fun x7 => (O.bnd ((O.bnd (n__law_frog x6.2 20) fun x8 => (.rt ((x8.1 + (if (decide (x7 = 1)) then 0 else ((1 + x5.1) - 1))), x8.2))) : Fr (Int × D)) fun x9 => (O.bnd (ofO (push (α := (Int × Int × Int)) s3.2 (x9.1, (1 + x5.1), x7))) fun told11 => (.nx (x9.2, told11)))))))) x2 (x1.2, [])) fun (s12 : (D × (List (Int × Int × Int)))) => (.rt (s12.2, s12.1)))))
theorem q__law_pieces (pond0 : D) : SimF (fun p : ((List (Int × Int × Int)) × D) => (vT (vP3 D.int D.int D.int)) p.1) (fun p : ((List (Int × Int × Int)) × D) => [some (vD p.2)]) (d__law_pieces [pond0]) (n__law_pieces pond0) := simF_mk (by delta b__law_pieces; exact t_end (t_seq (t_set (c_ok (e_lst rfl (Nat.le_of_ble_eq_true rfl)) (t_seq (t_forK (c_iR1 (c_cons (c_callO rfl (c_ok rfl (c_fretO rfl rfl (q__law_frog pond0 5) (fun _ => trivial) fun x1 => (c_ok rfl (c_opt h_r1 fun x2 => (t_loop (E1 := (fun (s3 : (D × (List (Int × Int × Int)))) (ρ : DL.Env) => ∃ u2 u3 u4 u5 : Option D, ρ = [some s3.1, some ((vL (vP3 D.int D.int D.int)) s3.2), u2, u3, u4, u5])) (v := D.int) (xs := x2) (s := (x1.2, [])) ⟨_, _, _, _, rfl⟩ (fun y4 s3 ρ h => by obtain ⟨u2, u3, u4, u5, rfl⟩ := h; exact (t_asgK rfl (t_end (t_seq (t_par (c_cons (c_op (c_ok rfl (c_callO rfl (c_ok rfl (c_fretO rfl rfl (q__law_frog s3.1 4) (fun _ => trivial) fun x5 => (c_tot rfl (c_cons (c_op (c_ok (e_tup rfl (Nat.le_of_ble_eq_true rfl)) (c_callO rfl (c_ok rfl (c_fretO rfl rfl (q__law_frog x5.2 2) (fun _ => trivial) fun x6 => (c_opt (h_ixT (v := D.int) (xs := [1, (-1)])) fun x7 => (c_ok rfl (t_parK (t_seq (t_set (c_blk (v := (fun x : (Int × D) => D.int x.1)) (w := (fun x : (Int × D) => [some x.2, some ((vL (vP3 D.int D.int D.int)) s3.2), some (D.int y4), some (D.int (1 + x5.1)), some (D.int x7), u5])) (c_op (c_callO rfl (c_ok rfl (c_fretO rfl rfl (q__law_frog x6.2 20) (fun _ => trivial) fun x8 => (c_ok (e_if (v := D.int) (x := 0) (y := ((1 + x5.1) - 1)) (e_tval rfl) rfl rfl) (c_tot rfl (c_rt rfl rfl))))))) fun x9 => (t_drop (c_mtO rfl (c_ok (e_cons (e_tup rfl (Nat.le_of_ble_eq_true rfl)) rfl) (c_mt2 rfl (h_app (v := (vP3 D.int D.int D.int)) (xs := s3.2) (a := (x9.1, (1 + x5.1), x7))) fun told11 => (t_nx ⟨_, _, _, _, rfl⟩))))))))))))))))))))))))))))) (fun s12 ρ h => by obtain ⟨u2, u3, u4, u5, rfl⟩ := h; exact (t_ret (c_ok rfl (t_rt ⟨rfl, rfl⟩))))))))))))))))))
def n__law_spread (pieces0 : (List (Int × Int × Int))) : Fr (List Int) := (O.seq (nFor (fun (y2 : (Int × Int × Int)) (s1 : (List Int)) => (O.bnd (ofO (rg1 y2.2.1)) fun x3 => (O.seq (nFor (fun (y5 : Int) (s4 : (List Int)) => (O.bnd (ofO (mulI y2.2.2 y5)) fun x6 => (O.bnd (ofO (push (α := Int) s4 (y2.1 + x6))) fun told8 => (.nx told8)))) x3 s1) fun (s9 : (List Int)) => (.nx s9)))) pieces0 []) fun (s10 : (List Int)) => (.rt s10))
theorem q__law_spread (pieces0 : (List (Int × Int × Int))) : SimF (vT D.int) (fun _ => []) (d__law_spread [((vT (vP3 D.int D.int D.int)) pieces0)]) (n__law_spread pieces0) := simF_mk (by delta b__law_spread; exact t_end (t_seq (t_set (c_ok (e_lst rfl (Nat.le_of_ble_eq_true rfl)) (t_seq (t_forK (c_iA (c_ok rfl (c_tot (x := List.map (vP3 D.int D.int D.int) pieces0) rfl (t_loop (E1 := (fun (s1 : (List Int)) (ρ : DL.Env) => ∃ u2 u3 u4 u5 : Option D, ρ = [some ((vT (vP3 D.int D.int D.int)) pieces0), some ((vL D.int) s1), u2, u3, u4, u5])) (v := (vP3 D.int D.int D.int)) (xs := pieces0) (s := []) ⟨_, _, _, _, rfl⟩ (fun y2 s1 ρ h => by obtain ⟨u2, u3, u4, u5, rfl⟩ := h; exact (t_asgK rfl (t_end (t_forK (c_iR1 (c_ok rfl (c_opt h_r1 fun x3 => (t_loop (E1 := (fun (s4 : (List Int)) (ρ : DL.Env) => ∃ u5 : Option D, ρ = [some ((vT (vP3 D.int D.int D.int)) pieces0), some ((vL D.int) s4), some (D.int y2.1), some (D.int y2.2.1), some (D.int y2.2.2), u5])) (v := D.int) (xs := x3) (s := s1) ⟨_, rfl⟩ (fun y5 s4 ρ h => by obtain ⟨u5, rfl⟩ := h; exact (t_asgK rfl (t_end (t_drop (c_mtO rfl (c_cons (c_op (c_ok rfl (c_op (c_ok rfl (c_ok rfl (c_opt h_mul fun x6 => (c_tot rfl (c_ok rfl (c_mt2 rfl (h_app (v := D.int) (xs := s4) (a := (y2.1 + x6))) fun told8 => (t_nx ⟨_, rfl⟩)))))))))))))))) (fun s9 ρ h => by obtain ⟨u5, rfl⟩ := h; exact (t_nx ⟨_, _, _, _, rfl⟩)))))))))) (fun s10 ρ h => by obtain ⟨u2, u3, u4, u5, rfl⟩ := h; exact (t_ret (c_ok rfl (t_rt ⟨rfl, rfl⟩))))))))))))))
def n__law_fault (length0 : Int) (thing0 : D) : Fr (Option (Int × Str)) := (if (!(isTup thing0)) then (.rt (some ((-1), ("shape" : Str)))) else (O.bnd (ofO (asLs thing0)) fun x1 => (O.seq (nFor (fun (y3 : D) (s2 : Unit) => (O.bnd ((if (!(isTup y3)) then (.rt true) else (O.bnd ((O.bnd (ofO (lenD y3)) fun x4 => (if (!decide (x4 = 3)) then (.rt true) else (O.bnd (ofO (asLs y3)) fun x5 => (O.bnd (ofO (sized (List.map (fun (y6 : D) => y6) (List.filter (fun (y6 : D) => ((!(isInt y6)) || (isBl y6))) x5)))) fun x7 => (.rt (decide (0 < (x7.length : Int)))))))) : Fr Bool) fun x8 => (.rt x8))) : Fr Bool) fun x9 => (if x9 then (.rt (some ((-1), ("shape" : Str)))) else (.nx ())))) x1 ()) fun (s10 : Unit) => (O.bnd (ofO (lenD thing0)) fun x11 => (O.bnd (ofO (rg1 x11)) fun x12 => (O.seq (nFor (fun (y14 : Int) (s13 : Unit) => (O.bnd (ofO (gIx thing0 (D.int y14))) fun x15 => (O.bnd (ofO (un3 x15)) fun p16 => (O.bnd (ofO (Option.map (fun p : Int × Int => decide (p.1 < p.2)) (i2 p16.2.1 (D.int 1)))) fun x17 => (if x17 then (.rt (some (y14, ("length" : Str)))) else (O.bnd (ofO (niD p16.2.2 (D.tup [(D.int 1), (D.int (-1))]))) fun x18 => (if x18 then (.rt (some (y14, ("step" : Str)))) else (O.bnd ((O.bnd (ofO (Option.map (fun p : Int × Int => p.1 - p.2) (i2 p16.2.1 (D.int 1)))) fun x19 => (O.bnd (ofO (gMul p16.2.2 (D.int x19))) fun x20 => (O.bnd (ofO (gAdd p16.1 x20)) fun x21 => (O.bnd (ofO (minD [p16.1, x21])) fun x22 => (if (decide (x22 < 0)) then (.rt true) else (O.bnd (ofO (Option.map (fun p : Int × Int => p.1 - p.2) (i2 p16.2.1 (D.int 1)))) fun x23 => (O.bnd (ofO (gMul p16.2.2 (D.int x23))) fun x24 => (O.bnd (ofO (gAdd p16.1 x24)) fun x25 => (O.bnd (ofO (maxD [p16.1, x25])) fun x26 => (.rt (decide (length0 ≤ x26)))))))))))) : Fr Bool) fun x27 => (if x27 then (.rt (some (y14, ("place" : Str)))) else (.nx ())))))))))) x12 ()) fun (s28 : Unit) => (.rt none)))))))
theorem q__law_fault (length0 : Int) (thing0 : D) : SimF (oD (vP2 D.int D.str)) (fun _ => []) (d__law_fault [(D.int length0), thing0]) (n__law_fault length0 thing0) := simF_mk (by delta b__law_fault; exact t_end (t_seq (t_if (c_ok (e_bnot (e_tval (e_isi rfl))) (c_ite (t_ret (c_ok (e_tup rfl (Nat.le_of_ble_eq_true rfl)) (t_rt ⟨rfl, rfl⟩))) (t_pass (t_seq (t_forK (c_iA (c_ok rfl (c_opt h_anyL fun x1 => (t_loop (E1 := (fun (s2 : Unit) (ρ : DL.Env) => ∃ u2 : Option D, ρ = [some (D.int length0), some thing0, u2, none, none, none, none, none])) (v := vD) (xs := x1) (s := ()) ⟨_, rfl⟩ (fun y3 s2 ρ h => by obtain ⟨u2, rfl⟩ := h; exact (t_asgK rfl (t_end (t_if (c_blkT (w := (fun _ => [some (D.int length0), some thing0, some y3, none, none, none, none, none])) (c_bor (c_ok (e_bnot (e_tval (e_isi rfl))) (c_ite (c_rt rfl rfl) (c_blkT (w := (fun _ => [some (D.int length0), some thing0, some y3, none, none, none, none, none])) (c_bor (c_tval (c_op (c_cb (c_ok rfl (c_opt h_lenD fun x4 => (c_ok rfl (c_tot rfl (c_bB (c_ite (c_rt rfl rfl) (c_tval (c_op (c_cb (c_cons (c_lcK (c_iA (c_ok rfl (c_opt h_anyL fun x5 => (c_lcP (v := vD) (w := vD) (t := fun (y6 : D) => ((!(isInt y6)) || (isBl y6))) (F := fun (y6 : D) => y6) (xs := x5) (fun y6 => ⟨_, rfl, (e_bor (e_bnot (e_tval (e_isi rfl))) (e_tval (e_isi rfl))), rfl, rfl⟩) fun x7 => (c_ok rfl (c_tot h_lenL (c_ok rfl (c_tot rfl (c_bB (c_rt rfl rfl))))))))))))))))))))))))) fun x8 => (c_rt rfl rfl))))) fun x9 => (c_ite (t_ret (c_ok (e_tup rfl (Nat.le_of_ble_eq_true rfl)) (t_rt ⟨rfl, rfl⟩))) (t_pass (t_nx ⟨_, rfl⟩)))))))) (fun s10 ρ h => by obtain ⟨u2, rfl⟩ := h; exact (t_seq (t_forK (c_iR1 (c_cons (c_cb (c_ok rfl (c_opt h_lenD fun x11 => (c_ok rfl (c_opt h_r1 fun x12 => (t_loop (E1 := (fun (s13 : Unit) (ρ : DL.Env) => ∃ u3 u4 u5 u6 : Option D, ρ = [some (D.int length0), some thing0, u2, u3, u4, u5, u6, none])) (v := D.int) (xs := x12) (s := ()) ⟨_, _, _, _, rfl⟩ (fun y14 s13 ρ h => by obtain ⟨u3, u4, u5, u6, rfl⟩ := h; exact (t_asgK rfl (t_end (t_seq (t_asg (c_op (c_ok rfl (c_ok rfl (c_opt h_any fun x15 => (t_un3 fun p16 => (t_seq (t_if (c_tval (c_op (c_ok rfl (c_ok rfl (c_opt (h_b0D (f := fun i j => decide (i < j))) fun x17 => (c_bB (c_ite (t_ret (c_ok (e_tup rfl (Nat.le_of_ble_eq_true rfl)) (t_rt ⟨rfl, rfl⟩))) (t_pass (t_seq (t_if (c_tval (c_op (c_ok rfl (c_ok (e_tup rfl (Nat.le_of_ble_eq_true rfl)) (c_opt h_niD fun x18 => (c_bB (c_ite (t_ret (c_ok (e_tup rfl (Nat.le_of_ble_eq_true rfl)) (t_rt ⟨rfl, rfl⟩))) (t_pass (t_if (c_blkT (w := (fun _ => [some (D.int length0), some thing0, u2, some (D.int y14), some p16.1, some p16.2.1, some p16.2.2, none])) (c_bor (c_tval (c_op (c_cb (c_cons (c_ok rfl (c_cons (c_op (c_ok rfl (c_op (c_ok rfl (c_op (c_ok rfl (c_ok rfl (c_opt (h_i0D (f := fun i j => i - j)) fun x19 => (c_opt h_any fun x20 => (c_opt h_any fun x21 => (c_ok rfl (c_opt h_minD fun x22 => (c_ok rfl (c_tot rfl (c_bB (c_ite (c_rt rfl rfl) (c_tval (c_op (c_cb (c_cons (c_ok rfl (c_cons (c_op (c_ok rfl (c_op (c_ok rfl (c_op (c_ok rfl (c_ok rfl (c_opt (h_i0D (f := fun i j => i - j)) fun x23 => (c_opt h_any fun x24 => (c_opt h_any fun x25 => (c_ok rfl (c_opt h_maxD fun x26 => (c_ok rfl (c_tot rfl (c_bB (c_rt rfl rfl))))))))))))))))))))))))))))))))))))))))))))) fun x27 => (c_ite (t_ret (c_ok (e_tup rfl (Nat.le_of_ble_eq_true rfl)) (t_rt ⟨rfl, rfl⟩))) (t_pass (t_nx ⟨_, _, _, _, rfl⟩))))))))))))))))))))))))))))))))))) (fun s28 ρ h => by obtain ⟨u3, u4, u5, u6, rfl⟩ := h; exact (t_ret (c_ok rfl (t_rt ⟨rfl, rfl⟩)))))))))))))))))))))))))))
def n__law_heard (length0 : Int) (thing0 : D) : Fr D := (O.seq (tryN (O.bnd (n_check_pieces length0 thing0) fun x2 => (.rt (D.tup [(D.str ("told" : Str)), (D.int x2)]))) [(2, true)] (fun e => noXO (O.bnd ((O.bnd ((O.bnd (ofO (([(2, true)] : List (Nat × Bool)).lookup e.c)) fun x3 => (if x3 then (O.bnd (ofO (([(2, true)] : List (Nat × Bool)).lookup e.c)) fun x4 => (.rt x4)) else (.rt false))) : Fr Bool) fun x5 => (if x5 then (O.bnd (ofO (whyN e 2 "at")) fun x6 => (O.bnd (ofO (whyN e 2 "word")) fun x7 => (.rt (D.tup [(D.str ("bad" : Str)), x6, x7])))) else (.rt (D.tup [(D.str ("other" : Str))])))) : Fr D) fun x8 => (.rt x8)))) fun (s : Empty) => s.elim)
theorem q__law_heard (length0 : Int) (thing0 : D) : SimF vD (fun _ => []) (d__law_heard [(D.int length0), thing0]) (n__law_heard length0 thing0) := simF_mk (by delta b__law_heard; exact t_end (t_cut (τ := Empty) (E1 := (fun (s : Empty) _ => s.elim)) (t_tryAs (EX1 := (fun (ρ : DL.Env) => ρ = [some (D.int length0), some thing0, none])) (t_end (t_ret (c_tup (c_cons (c_ok rfl (c_cons (c_callM (c_ok rfl (c_fret rfl (q_check_pieces length0 thing0) rfl fun x2 => (c_ok rfl (c_size (Nat.le_of_ble_eq_true rfl) (t_rt ⟨rfl, rfl⟩)))))))))))) (fun _ _ => trivial) (fun e ρ h => by subst h; exact t_wipe (EX0 := fun _ => True) (t_end (t_ret (c_blk (v := vD) (w := (fun _ => [some (D.int length0), some thing0, none])) (c_if (c_blkT (w := (fun _ => [some (D.int length0), some thing0, none])) (c_band (c_tval (c_isx fun x3 => (c_bB (c_ite (c_tval (c_isx fun x4 => (c_bB (c_rt rfl rfl)))) (c_rt rfl rfl)))))) fun x5 => (c_ite (c_tup (c_cons (c_ok rfl (c_cons (c_why fun x6 => (c_cons (c_why fun x7 => (c_ok rfl (c_size (Nat.le_of_ble_eq_true rfl) (c_rt rfl rfl)))))))))) (c_ok (e_tup rfl (Nat.le_of_ble_eq_true rfl)) (c_rt rfl rfl))))) fun x8 => (t_rt ⟨rfl, rfl⟩)))))) (fun s _ _ => s.elim)))
def n__law_right (length0 : Int) (thing0 : D) : Fr Bool := (O.bnd (n__law_fault length0 thing0) fun x1 => (O.bnd (n__law_heard length0 thing0) fun x2 => (O.bnd ((if x1.isNone then (O.bnd (ofO (asLs thing0)) fun x3 => (O.bnd (nLs (fun (y4 : D) (s5 : Unit) => ((O.bnd (ofO (gIx y4 (D.int 1))) fun x6 => (.rt (x6, ()))) : O Unit Empty (D × Unit))) x3 ()) fun (r7 : List D × Unit) => (O.bnd (ofO (sumD ((vL vD) r7.1))) fun x8 => (.rt (D.tup [(D.str ("told" : Str)), (D.int x8)]))))) else (O.bnd (ofO x1) fun g9 => (.rt (D.tup [(D.str ("bad" : Str)), (D.int g9.1), (D.str g9.2)])))) : Fr D) fun x10 => (O.bnd (x__law_same [x2, x10]) fun x11 => (O.bnd (ofO (asB x11)) fun c12 => (.rt c12))))))
theorem q__law_right (length0 : Int) (thing0 : D) : SimF D.bl (fun _ => []) (d__law_right [(D.int length0), thing0]) (n__law_right length0 thing0) := simF_mk (by delta b__law_right; exact t_end (t_seq (t_set (c_callM (c_ok rfl (c_fret rfl (q__law_fault length0 thing0) trivial fun x1 => (t_ret (c_callM (c_cons (c_callM (c_ok rfl (c_fret rfl (q__law_heard length0 thing0) trivial fun x2 => (c_cons (c_blk (v := vD) (w := (fun _ => [some (D.int length0), some thing0, some ((oD (vP2 D.int D.str)) x1), none])) (c_if (c_ok (e_tval (e_op rfl rfl (h_isnO rfl (fun _ => rfl)))) (c_ite (c_tup (c_cons (c_ok rfl (c_cons (c_cb (c_cons (c_lcK (c_iA (c_ok rfl (c_opt h_anyL fun x3 => (c_lc (E1 := (fun (s5 : Unit) (ρ : DL.Env) => ρ = [some (D.int length0), some thing0, some ((oD (vP2 D.int D.str)) x1), none])) (v := vD) (w := vD) (xs := x3) (s := ()) rfl (fun y4 s5 ρ h => by subst h; exact (t_asgK rfl (c_ok (x := true) rfl (c_op (c_ok rfl (c_ok rfl (c_opt h_any fun x6 => (t_rt ⟨rfl, rfl⟩)))))))) fun r7 ρ h => by subst h; exact (c_ok rfl (c_opt h_sumD fun x8 => (c_ok rfl (c_size (Nat.le_of_ble_eq_true rfl) (c_rt rfl rfl)))))))))))))))) (c_op (c_ok (e_tup rfl (Nat.le_of_ble_eq_true rfl)) (c_ok rfl (by cases hg9 : x1 with | none => exact c_stk | some g9 => exact c_red (c_tot (h_addP (Nat.le_of_ble_eq_true rfl)) (c_rt rfl rfl))))))))) fun x10 => (c_ok rfl (c_fret rfl (qx__law_same [x2, x10]) trivial fun x11 => (by cases hc12 : asB x11 with | none => exact c_stk | some c12 => (rw [asB_eq hc12]; exact c_red (t_rt ⟨rfl, rfl⟩)))))))))))))))))))
def n__law_bent (pond0 : D) (pieces0 : (List (Int × Int × Int))) : Fr (D × D) := (if (decide ((pieces0.length : Int) = 0)) then (.rt ((D.tup [(D.tup [(D.int 0), (D.int 0), (D.int 1)])]), pond0)) else (O.bnd (n__law_frog pond0 (pieces0.length : Int)) fun x1 => (O.bnd (n__law_frog x1.2 6) fun x2 => (O.bnd ((O.bnd (ofO (atI pieces0 x1.1)) fun x3 => (.rt (List.map D.int [x3.1, x3.2.1, x3.2.2]))) : Fr (List D)) fun x4 => (O.bnd ((O.bnd (n__law_frog x2.2 12) fun x5 => (O.bnd (ofO (atI [(D.int 0), (D.int (-1)), (D.int 2), (D.int 30), (D.int 29), (D.int (-30)), (D.bl true), D.non, (D.str ("1" : Str)), (D.tup [(D.int 1)]), (D.int ((10 : Int) ^ (60 : Int).toNat)), (D.int 1)] x5.1)) fun x6 => (.rt (x6, x5.2)))) : Fr (D × D)) fun x7 => (O.seq (if (decide (x2.1 < 3)) then (O.bnd (ofO (setAt x4 x2.1 x7.1)) fun piece10 => (.nx (x7.2, piece10))) else (if (decide (x2.1 = 3)) then (O.bnd (n__law_frog x7.2 4) fun x11 => (O.bnd (ofO (atI [((vL vD) x4), ((vL vD) (cutD x4 none (some 2))), D.non, (D.int 7)] x11.1)) fun x12 => (O.bnd (ofO (gAdd ((vT (vP3 D.int D.int D.int)) (cutD pieces0 none (some x1.1))) (D.tup [x12]))) fun x13 => (O.bnd (ofO (gAdd x13 ((vT (vP3 D.int D.int D.int)) (cutD pieces0 (some (x1.1 + 1)) none)))) fun x14 => (.rt (x14, x11.2)))))) else (if (decide (x2.1 = 4)) then (O.bnd (ofO (push (α := D) x4 (D.int 1))) fun piece16 => (.nx (x7.2, piece16))) else (O.bnd (ofO (atI pieces0 0)) fun x17 => (O.bnd (n__law_frog x7.2 5) fun x18 => (O.bnd (ofO (atI ([((vL (vP3 D.int D.int D.int)) pieces0), ((vP3 D.int D.int D.int) x17), D.non, (D.tup [((vT (vP3 D.int D.int D.int)) pieces0)]), (D.str ("pieces" : Str))] : List D) x18.1)) fun x19 => (.rt (x19, x18.2)))))))) fun (s8 : (D × (List D))) => (O.bnd (ofO (gAdd ((vT (vP3 D.int D.int D.int)) (cutD pieces0 none (some x1.1))) (D.tup [((vT vD) s8.2)]))) fun x20 => (O.bnd (ofO (gAdd x20 ((vT (vP3 D.int D.int D.int)) (cutD pieces0 (some (x1.1 + 1)) none)))) fun x21 => (.rt (x21, s8.1))))))))))
theorem q__law_bent (pond0 : D) (pieces0 : (List (Int × Int × Int))) : SimF (fun p : (D × D) => vD p.1) (fun p : (D × D) => [some (vD p.2)]) (d__law_bent [pond0, ((vT (vP3 D.int D.int D.int)) pieces0)]) (n__law_bent pond0 pieces0) := simF_mk (by delta b__law_bent; exact t_end (t_seq (t_if (c_ok (e_tval (e_op (e_cb rfl h_lenT) rfl rfl)) (c_ite (t_ret (c_ok (e_tup (e_cons (e_tup rfl (Nat.le_of_ble_eq_true rfl)) rfl) (Nat.le_of_ble_eq_true rfl)) (t_rt ⟨rfl, rfl⟩))) (t_pass (t_seq (t_par (c_cons (c_callO rfl (c_ok (e_cons (e_cb rfl h_lenT) rfl) (c_fretO rfl rfl (q__law_frog pond0 (pieces0.length : Int)) (fun _ => trivial) fun x1 => (c_cons (c_callO rfl (c_ok rfl (c_fretO rfl rfl (q__law_frog x1.2 6) (fun _ => trivial) fun x2 => (c_ok rfl (t_parK (t_seq (t_set (c_blk (v := (vL vD)) (w := (fun _ => [some x2.2, some ((vT (vP3 D.int D.int D.int)) pieces0), some (D.int x1.1), some (D.int x2.1), none, none])) (c_cb (c_cons (c_op (c_ok rfl (c_ok rfl (c_opt h_ixT fun x3 => (c_ok rfl (c_tot rfl (c_rt (cv_L (v := D.int) (xs := [x3.1, x3.2.1, x3.2.2])) rfl))))))))) fun x4 => (t_seq (t_set (c_blk (v := (fun x : (D × D) => vD x.1)) (w := (fun x : (D × D) => [some x.2, some ((vT (vP3 D.int D.int D.int)) pieces0), some (D.int x1.1), some (D.int x2.1), some ((vL vD) x4), none])) (c_op (c_ok (e_tup (e_cons rfl (e_cons rfl (e_cons rfl (e_cons rfl (e_cons rfl (e_cons rfl (e_cons rfl (e_cons rfl (e_cons rfl (e_cons (e_tup rfl (Nat.le_of_ble_eq_true rfl)) (e_cons (e_op rfl rfl (h_icR (c := CPow) (show CPow (10) (60) from by decide))) rfl))))))))))) (Nat.le_of_ble_eq_true rfl)) (c_callO rfl (c_ok rfl (c_fretO rfl rfl (q__law_frog x2.2 12) (fun _ => trivial) fun x5 => (c_opt (h_ixT (v := vD) (xs := [(D.int 0), (D.int (-1)), (D.int 2), (D.int 30), (D.int 29), (D.int (-30)), (D.bl true), D.non, (D.str ("1" : Str)), (D.tup [(D.int 1)]), (D.int ((10 : Int) ^ (60 : Int).toNat)), (D.int 1)])) fun x6 => (c_rt rfl rfl))))))) fun x7 => (t_seq (t_cut (E1 := (fun (s8 : (D × (List D))) (ρ : DL.Env) => ρ = [some s8.1, some ((vT (vP3 D.int D.int D.int)) pieces0), some (D.int x1.1), some (D.int x2.1), some ((vL vD) s8.2), some x7.1])) (t_end (t_if (c_ok (e_tval rfl) (c_ite (t_seti (d0 := D.non) (c_ok rfl (t_seti2 rfl (c_ok rfl (t_setiK rfl (c_opt (h_stL (v := vD) (xs := x4) (a := x7.1)) fun piece10 => (t_nx rfl))))))) (t_if (c_ok (e_tval rfl) (c_ite (t_ret (c_op (c_op (c_ok (e_sl rfl rfl (e_pso rfl) h_slT) (c_tup (c_cons (c_op (c_ok (e_lst (e_cons rfl (e_cons (e_sl rfl rfl (e_pso rfl) h_slL) rfl)) (Nat.le_of_ble_eq_true rfl)) (c_callO rfl (c_ok rfl (c_fretO rfl rfl (q__law_frog x7.2 4) (fun _ => trivial) fun x11 => (c_opt (h_ixL (v := vD) (xs := [((vL vD) x4), ((vL vD) (cutD x4 none (some 2))), D.non, (D.int 7)])) fun x12 => (c_ok rfl (c_size (Nat.le_of_ble_eq_true rfl) (c_opt h_any fun x13 => (c_ok (e_sl rfl (e_pso rfl) rfl h_slT) (c_opt h_any fun x14 => (t_rt ⟨rfl, rfl⟩)))))))))))))))))) (t_if (c_ok (e_tval rfl) (c_ite (t_drop (c_mtO rfl (c_ok rfl (c_mt2 rfl (h_app (v := vD) (xs := x4) (a := (D.int 1))) fun piece16 => (t_nx rfl))))) (t_ret (c_op (c_tup (c_cons (c_ok rfl (c_cons (c_op (c_ok rfl (c_ok rfl (c_opt h_ixT fun x17 => (c_ok (e_cons rfl (e_cons (e_tup rfl (Nat.le_of_ble_eq_true rfl)) rfl)) (c_size (Nat.le_of_ble_eq_true rfl) (c_callO rfl (c_ok rfl (c_fretO rfl rfl (q__law_frog x7.2 5) (fun _ => trivial) fun x18 => (c_opt (h_ixT (v := vD) (xs := [((vL (vP3 D.int D.int D.int)) pieces0), ((vP3 D.int D.int D.int) x17), D.non, (D.tup [((vT (vP3 D.int D.int D.int)) pieces0)]), (D.str ("pieces" : Str))])) fun x19 => (t_rt ⟨rfl, rfl⟩))))))))))))))))))))))))))) (fun s8 ρ h => by subst h; exact (t_ret (c_op (c_op (c_ok (e_sl rfl rfl (e_pso rfl) h_slT) (c_ok (e_tup rfl (Nat.le_of_ble_eq_true rfl)) (c_opt h_any fun x20 => (c_ok (e_sl rfl (e_pso rfl) rfl h_slT) (c_opt h_any fun x21 => (t_rt ⟨rfl, rfl⟩))))))))))))))))))))))))))))))))))))
def n__law_asked (pond0 : D) : Fr (Bool × D) := (O.bnd (n__law_places pond0) fun x1 => (O.bnd (n__law_pieces x1.2) fun x2 => (O.bnd (n__law_short x1.1) fun x3 => (O.bnd (n__law_spread x2.1) fun x4 => (O.bnd ((O.bnd (n_short_row x1.1) fun x5 => (O.bnd (n_piece_places x3) fun x6 => (O.bnd (n_is_short x3) fun x7 => (O.bnd (n_piece_places x2.1) fun x8 => (O.bnd (n_short_row x4) fun x9 => (O.bnd (n_is_short x2.1) fun x10 => (.rt (x5, x6, x7, x8, x9, x10)))))))) : Fr ((List (Int × Int × Int)) × (List Int) × Bool × (List Int) × (List (Int × Int × Int)) × Bool)) fun x11 => (O.bnd (n__law_short x4) fun x12 => (O.bnd (n__law_short x4) fun x13 => (O.bnd (x__law_same [((vP6 (vT (vP3 D.int D.int D.int)) (vT D.int) D.bl (vT D.int) (vT (vP3 D.int D.int D.int)) D.bl) x11), (D.tup [((vT (vP3 D.int D.int D.int)) x3), ((vT D.int) x1.1), (D.bl true), ((vT D.int) x4), ((vT (vP3 D.int D.int D.int)) x12), (D.bl (decide (x2.1 = x13)))])]) fun x14 => (O.bnd (ofO (asB x14)) fun c15 => (if (!c15) then (.rt (false, x2.2)) else (O.bnd (ofO (cat (α := Int) x4 [0])) fun x16 => (O.bnd (ofO (maxO x16)) fun x17 => (O.bnd (ofO (cat (α := Int) x4 [0])) fun x18 => (O.bnd (ofO (maxO x18)) fun x19 => (O.seq (nFor (fun (y21 : Int) (s20 : Unit) => (O.bnd (n__law_right y21 ((vT (vP3 D.int D.int D.int)) x2.1)) fun x22 => (if (!x22) then (.rt (false, x2.2)) else (.nx ())))) ([30, 12, x17, (x19 + 1)] : (List Int)) ()) fun (s23 : Unit) => (O.seq (nFor (fun (y25 : Int) (s24 : D) => (O.bnd (n__law_bent s24 x2.1) fun x26 => (O.bnd (ofO (atI ([30, 12] : List Int) (y25 % 2))) fun x27 => (O.bnd (n__law_right x27 x26.1) fun x28 => (if (!x28) then (.rt (false, x26.2)) else (.nx x26.2)))))) (rgI 0 (Int.toNat 7)) x2.2) fun (s29 : D) => (O.seq (O.bnd ((if (decide (0 < (x3.length : Int))) then (O.bnd (ofO (sized (List.map (fun (y31 : (Int × Int × Int)) => y31.2.1) x3))) fun x32 => (O.bnd (ofO (maxO x32)) fun x33 => (.rt (decide (1 < x33))))) else (.rt false)) : Fr Bool) fun x34 => (if x34 then (O.bnd ((O.bnd (ofO (rg1 (x3.length : Int))) fun x35 => (O.bnd (nLs (fun (y36 : Int) (s37 : Unit) => ((O.bnd (ofO (atI x3 y36)) fun x38 => (if (decide (1 < x38.2.1)) then (.rt (y36, ())) else (.nx ()))) : O Unit Empty (Int × Unit))) x35 ()) fun (r39 : List Int × Unit) => (O.bnd (ofO (atI r39.1 0)) fun x40 => (.rt x40)))) : Fr Int) fun x41 => (O.bnd (ofO (atI x3 x41)) fun x42 => (O.bnd ((O.bnd (ofO (cat (α := (Int × Int × Int)) (cutD x3 none (some x41)) [(x42.1, 1, 1), ((x42.1 + x42.2.2), (x42.2.1 - 1), (if (decide (2 < x42.2.1)) then x42.2.2 else 1))])) fun x43 => (O.bnd (ofO (cat (α := (Int × Int × Int)) x43 (cutD x3 (some (x41 + 1)) none))) fun x44 => (.rt x44))) : Fr (List (Int × Int × Int))) fun x45 => (O.bnd (n_is_short x45) fun x46 => (O.bnd (n_piece_places x45) fun x47 => (O.bnd (x__law_same [(D.tup [(D.bl x46), ((vT D.int) x47)]), (D.tup [(D.bl false), ((vT D.int) x1.1)])]) fun x48 => (O.bnd (ofO (asB x48)) fun c49 => (if (!c49) then (.rt (false, s29)) else (.nx ()))))))))) else (.nx ()))) fun (s30 : Unit) => (.rt (true, s29)))))))))))))))))))
theorem q__law_asked (pond0 : D) : SimF (fun p : (Bool × D) => D.bl p.1) (fun p : (Bool × D) => [some (vD p.2)]) (d__law_asked [pond0]) (n__law_asked pond0) := simF_mk (by delta b__law_asked; exact t_end (t_seq (t_par (c_cons (c_callO rfl (c_ok rfl (c_fretO rfl rfl (q__law_places pond0) (fun _ => trivial) fun x1 => (c_cons (c_callO rfl (c_ok rfl (c_fretO rfl rfl (q__law_pieces x1.2) (fun _ => trivial) fun x2 => (c_ok rfl (t_parK (t_seq (t_asg (c_tup (c_cons (c_callM (c_ok rfl (c_fret rfl (q__law_short x1.1) trivial fun x3 => (c_cons (c_callM (c_ok rfl (c_fret rfl (q__law_spread x2.1) trivial fun x4 => (c_ok rfl (c_size (Nat.le_of_ble_eq_true rfl) (t_asgK rfl (t_seq (t_set (c_blk (v := (vP6 (vT (vP3 D.int D.int D.int)) (vT D.int) D.bl (vT D.int) (vT (vP3 D.int D.int D.int)) D.bl)) (w := (fun _ => [some x2.2, some ((vT D.int) x1.1), some ((vT (vP3 D.int D.int D.int)) x2.1), some ((vT (vP3 D.int D.int D.int)) x3), some ((vT D.int) x4), none, none, none, none, none, none, none, none, none, none, none])) (c_tup (c_cons (c_callM (c_ok rfl (c_fret rfl (q_short_row x1.1) trivial fun x5 => (c_cons (c_callM (c_ok rfl (c_fret rfl (q_piece_places x3) trivial fun x6 => (c_cons (c_callM (c_ok rfl (c_fret rfl (q_is_short x3) trivial fun x7 => (c_cons (c_callM (c_ok rfl (c_fret rfl (q_piece_places x2.1) trivial fun x8 => (c_cons (c_callM (c_ok rfl (c_fret rfl (q_short_row x4) trivial fun x9 => (c_cons (c_callM (c_ok rfl (c_fret rfl (q_is_short x2.1) trivial fun x10 => (c_ok rfl (c_size (Nat.le_of_ble_eq_true rfl) (c_rt rfl rfl)))))))))))))))))))))))))))) fun x11 => (t_seq (t_if (c_bnot (c_tval (c_callM (c_cons (c_ok rfl (c_cons (c_tup (c_cons (c_ok rfl (c_cons (c_ok rfl (c_cons (c_ok rfl (c_cons (c_ok rfl (c_cons (c_callM (c_ok rfl (c_fret rfl (q__law_short x4) trivial fun x12 => (c_cons (c_op (c_ok rfl (c_callM (c_ok rfl (c_fret rfl (q__law_short x4) trivial fun x13 => (c_tot (h_eqP (v := (vT (vP3 D.int D.int D.int))) (a := x2.1) (b := x13) (pl_T (pl_P3 (m := 0) pl_int pl_int pl_int (by decide) (by decide) (by decide))) (by decide)) (c_ok rfl (c_size (Nat.le_of_ble_eq_true rfl) (c_ok rfl (c_fret rfl (qx__law_same [((vP6 (vT (vP3 D.int D.int D.int)) (vT D.int) D.bl (vT D.int) (vT (vP3 D.int D.int D.int)) D.bl) x11), (D.tup [((vT (vP3 D.int D.int D.int)) x3), ((vT D.int) x1.1), (D.bl true), ((vT D.int) x4), ((vT (vP3 D.int D.int D.int)) x12), (D.bl (decide (x2.1 = x13)))])]) trivial fun x14 => (by cases hc15 : asB x14 with | none => exact c_stk | some c15 => (rw [asB_eq hc15]; exact c_red (c_bB (c_ite (t_ret (c_ok rfl (t_rt ⟨rfl, rfl⟩))) (t_pass (t_seq (t_forK (c_iA (c_tup (c_cons (c_ok rfl (c_cons (c_ok rfl (c_cons (c_cb (c_cons (c_op (c_ok rfl (c_ok (e_tup rfl (Nat.le_of_ble_eq_true rfl)) (c_opt (h_catT (v := D.int) (xs := x4) (ys := [0])) fun x16 => (c_ok rfl (c_opt h_maxT fun x17 => (c_cons (c_op (c_cb (c_cons (c_op (c_ok rfl (c_ok (e_tup rfl (Nat.le_of_ble_eq_true rfl)) (c_opt (h_catT (v := D.int) (xs := x4) (ys := [0])) fun x18 => (c_ok rfl (c_opt h_maxT fun x19 => (c_ok rfl (c_tot rfl (c_ok rfl (c_size (Nat.le_of_ble_eq_true rfl) (c_tot (x := List.map D.int ([30, 12, x17, (x19 + 1)] : (List Int))) rfl (t_loop (E1 := (fun (s20 : Unit) (ρ : DL.Env) => ∃ u6 : Option D, ρ = [some x2.2, some ((vT D.int) x1.1), some ((vT (vP3 D.int D.int D.int)) x2.1), some ((vT (vP3 D.int D.int D.int)) x3), some ((vT D.int) x4), some ((vP6 (vT (vP3 D.int D.int D.int)) (vT D.int) D.bl (vT D.int) (vT (vP3 D.int D.int D.int)) D.bl) x11), u6, none, none, none, none, none, none, none, none, none])) (v := D.int) (xs := ([30, 12, x17, (x19 + 1)] : (List Int))) (s := ()) ⟨_, rfl⟩ (fun y21 s20 ρ h => by obtain ⟨u6, rfl⟩ := h; exact (t_asgK rfl (t_end (t_if (c_bnot (c_tval (c_callM (c_ok rfl (c_fret rfl (q__law_right y21 ((vT (vP3 D.int D.int D.int)) x2.1)) trivial fun x22 => (c_bB (c_ite (t_ret (c_ok rfl (t_rt ⟨rfl, rfl⟩))) (t_pass (t_nx ⟨_, rfl⟩))))))))))))) (fun s23 ρ h => by obtain ⟨u6, rfl⟩ := h; exact (t_seq (t_forK (c_iR1 (c_ok rfl (c_tot (h_r1l (by decide)) (t_loop (E1 := (fun (s24 : D) (ρ : DL.Env) => ∃ u7 u8 : Option D, ρ = [some s24, some ((vT D.int) x1.1), some ((vT (vP3 D.int D.int D.int)) x2.1), some ((vT (vP3 D.int D.int D.int)) x3), some ((vT D.int) x4), some ((vP6 (vT (vP3 D.int D.int D.int)) (vT D.int) D.bl (vT D.int) (vT (vP3 D.int D.int D.int)) D.bl) x11), u6, u7, u8, none, none, none, none, none, none, none])) (v := D.int) (xs := (rgI 0 (Int.toNat 7))) (s := x2.2) ⟨_, _, rfl⟩ (fun y25 s24 ρ h => by obtain ⟨u7, u8, rfl⟩ := h; exact (t_asgK rfl (t_end (t_seq (t_set (c_callO rfl (c_ok rfl (c_fretO rfl rfl (q__law_bent s24 x2.1) (fun _ => trivial) fun x26 => (t_if (c_bnot (c_tval (c_callM (c_cons (c_op (c_ok (e_tup rfl (Nat.le_of_ble_eq_true rfl)) (c_ok (e_op rfl rfl (h_icR (show (0 : Int) < 2 from by decide))) (c_opt (h_ixT (v := D.int) (xs := [30, 12])) fun x27 => (c_ok rfl (c_fret rfl (q__law_right x27 x26.1) trivial fun x28 => (c_bB (c_ite (t_ret (c_ok rfl (t_rt ⟨rfl, rfl⟩))) (t_pass (t_nx ⟨_, _, rfl⟩))))))))))))))))))))))) (fun s29 ρ h => by obtain ⟨u7, u8, rfl⟩ := h; exact (t_seq (t_cut (E1 := (fun (s30 : Unit) (ρ : DL.Env) => ∃ u9 u10 u11 u12 u13 : Option D, ρ = [some s29, some ((vT D.int) x1.1), some ((vT (vP3 D.int D.int D.int)) x2.1), some ((vT (vP3 D.int D.int D.int)) x3), some ((vT D.int) x4), some ((vP6 (vT (vP3 D.int D.int D.int)) (vT D.int) D.bl (vT D.int) (vT (vP3 D.int D.int D.int)) D.bl) x11), u6, u7, u8, u9, u10, u11, u12, u13, none, none])) (t_end (t_if (c_blkT (w := (fun _ => [some s29, some ((vT D.int) x1.1), some ((vT (vP3 D.int D.int D.int)) x2.1), some ((vT (vP3 D.int D.int D.int)) x3), some ((vT D.int) x4), some ((vP6 (vT (vP3 D.int D.int D.int)) (vT D.int) D.bl (vT D.int) (vT (vP3 D.int D.int D.int)) D.bl) x11), u6, u7, u8, none, none, none, none, none, none, none])) (c_band (c_ok (e_tval (e_op (e_cb rfl h_lenT) rfl rfl)) (c_ite (c_tval (c_op (c_cb (c_cons (c_lcK (c_iA (c_ok rfl (c_tot (x := List.map (vP3 D.int D.int D.int) x3) rfl (c_lcM (v := (vP3 D.int D.int D.int)) (w := D.int) (F := fun (y31 : (Int × Int × Int)) => y31.2.1) (xs := x3) (fun y31 => ⟨_, rfl, rfl, rfl, rfl⟩) fun x32 => (c_ok rfl (c_opt h_maxL fun x33 => (c_ok rfl (c_tot rfl (c_bB (c_rt rfl rfl))))))))))))))) (c_rt rfl rfl)))) fun x34 => (c_ite (t_seq (t_set (c_blk (v := D.int) (w := (fun _ => [some s29, some ((vT D.int) x1.1), some ((vT (vP3 D.int D.int D.int)) x2.1), some ((vT (vP3 D.int D.int D.int)) x3), some ((vT D.int) x4), some ((vP6 (vT (vP3 D.int D.int D.int)) (vT D.int) D.bl (vT D.int) (vT (vP3 D.int D.int D.int)) D.bl) x11), u6, u7, u8, none, none, none, none, none, none, none])) (c_op (c_lcK (c_iR1 (c_ok (e_cons (e_cb rfl h_lenT) rfl) (c_opt h_r1 fun x35 => (c_lc (E1 := (fun (s37 : Unit) (ρ : DL.Env) => ρ = [some s29, some ((vT D.int) x1.1), some ((vT (vP3 D.int D.int D.int)) x2.1), some ((vT (vP3 D.int D.int D.int)) x3), some ((vT D.int) x4), some ((vP6 (vT (vP3 D.int D.int D.int)) (vT D.int) D.bl (vT D.int) (vT (vP3 D.int D.int D.int)) D.bl) x11), u6, u7, u8, none, none, none, none, none, none, none])) (v := D.int) (w := D.int) (xs := x35) (s := ()) rfl (fun y36 s37 ρ h => by subst h; exact (t_asgK rfl (c_tval (c_op (c_op (c_op (c_ok rfl (c_ok rfl (c_opt h_ixT fun x38 => (c_ok rfl (c_tot rfl (c_ok rfl (c_tot rfl (c_bB (c_ite (c_ok rfl (t_rt ⟨rfl, rfl⟩)) (t_nx rfl)))))))))))))))) fun r39 ρ h => by subst h; exact (c_ok rfl (c_opt h_ixL fun x40 => (c_rt rfl rfl))))))))) fun x41 => (t_seq (t_asg (c_op (c_ok rfl (c_ok rfl (c_opt h_ixT fun x42 => (t_asgK rfl (t_seq (t_set (c_blk (v := (vT (vP3 D.int D.int D.int))) (w := (fun _ => [some s29, some ((vT D.int) x1.1), some ((vT (vP3 D.int D.int D.int)) x2.1), some ((vT (vP3 D.int D.int D.int)) x3), some ((vT D.int) x4), some ((vP6 (vT (vP3 D.int D.int D.int)) (vT D.int) D.bl (vT D.int) (vT (vP3 D.int D.int D.int)) D.bl) x11), u6, u7, u8, some (D.int x41), some (D.int x42.1), some (D.int x42.2.1), some (D.int x42.2.2), none, none, none])) (c_op (c_op (c_ok (e_sl rfl rfl (e_pso rfl) h_slT) (c_ok (e_tup (e_cons (e_tup rfl (Nat.le_of_ble_eq_true rfl)) (e_cons (e_tup (e_cons rfl (e_cons rfl (e_cons (e_if (v := D.int) (x := x42.2.2) (y := 1) (e_tval rfl) rfl rfl) rfl))) (Nat.le_of_ble_eq_true rfl)) rfl)) (Nat.le_of_ble_eq_true rfl)) (c_opt (h_catT (v := (vP3 D.int D.int D.int)) (xs := (cutD x3 none (some x41))) (ys := [(x42.1, 1, 1), ((x42.1 + x42.2.2), (x42.2.1 - 1), (if (decide (2 < x42.2.1)) then x42.2.2 else 1))])) fun x43 => (c_ok (e_sl rfl (e_pso rfl) rfl h_slT) (c_opt (h_catT (v := (vP3 D.int D.int D.int)) (xs := x43) (ys := (cutD x3 (some (x41 + 1)) none))) fun x44 => (c_rt rfl rfl)))))))) fun x45 => (t_if (c_bnot (c_tval (c_callM (c_cons (c_tup (c_cons (c_callM (c_ok rfl (c_fret rfl (q_is_short x45) trivial fun x46 => (c_cons (c_callM (c_ok rfl (c_fret rfl (q_piece_places x45) trivial fun x47 => (c_ok rfl (c_size (Nat.le_of_ble_eq_true rfl) (c_ok (e_cons (e_tup rfl (Nat.le_of_ble_eq_true rfl)) rfl) (c_fret rfl (qx__law_same [(D.tup [(D.bl x46), ((vT D.int) x47)]), (D.tup [(D.bl false), ((vT D.int) x1.1)])]) trivial fun x48 => (by cases hc49 : asB x48 with | none => exact c_stk | some c49 => (rw [asB_eq hc49]; exact c_red (c_bB (c_ite (t_ret (c_ok rfl (t_rt ⟨rfl, rfl⟩))) (t_pass (t_nx ⟨_, _, _, _, _, rfl⟩))))))))))))))))))))))))))))))))))))) (t_pass (t_nx ⟨_, _, _, _, _, rfl⟩)))))) (fun s30 ρ h => by obtain ⟨u9, u10, u11, u12, u13, rfl⟩ := h; exact (t_ret (c_ok rfl (t_rt ⟨rfl, rfl⟩))))))))))))))))))))))))))))))))))))))))))))))))))))))))))))))))))))))))))))))))))))))))))))))))))))))))))))))))))
def n_law (script0 : (List Int)) : Fr Bool := (O.bnd (x__law_pond [(D.scr script0)]) fun x1 => (O.seq (nFor (fun (y3 : Int) (s2 : D) => (O.bnd (n__law_asked s2) fun x4 => (if (!x4.1) then (.rt false) else (.nx x4.2)))) (rgI 0 (Int.toNat 5)) x1) fun (s5 : D) => (O.bnd (.rt ([[3, 4, 5, 1, 0, 7], [0, 1, 0, 1], [2, 2, 3], [5, 4, 3, 4, 5], [], [9], [0, 2, 4], [1, 0, 0, 1], [3, 2, 1, 0, 1]] : (List (List Int)))) fun rows6 => (O.bnd (.rt ([[(3, 3, 1), (1, 2, (-1)), (7, 1, 1)], [(0, 2, 1), (0, 2, 1)], [(2, 1, 1), (2, 2, 1)], [(5, 3, (-1)), (4, 2, 1)], [], [(9, 1, 1)], [(0, 1, 1), (2, 1, 1), (4, 1, 1)], [(1, 2, (-1)), (0, 2, 1)], [(3, 4, (-1)), (1, 1, 1)]] : (List (List (Int × Int × Int))))) fun dues7 => (O.bnd (ofO (rg1 (rows6.length : Int))) fun x8 => (O.seq (nFor (fun (y10 : Int) (s9 : Unit) => (O.bnd (ofO (atI rows6 y10)) fun x11 => (O.bnd (n_short_row x11) fun x12 => (O.bnd (ofO (atI rows6 y10)) fun x13 => (O.bnd (n__law_short x13) fun x14 => (O.bnd (ofO (atI dues7 y10)) fun x15 => (O.bnd (n_piece_places x15) fun x16 => (O.bnd (ofO (atI dues7 y10)) fun x17 => (O.bnd (n_is_short x17) fun x18 => (O.bnd (ofO (atI dues7 y10)) fun x19 => (O.bnd (ofO (atI dues7 y10)) fun x20 => (O.bnd (ofO (atI rows6 y10)) fun x21 => (O.bnd (x__law_same [(D.tup [((vT (vP3 D.int D.int D.int)) x12), ((vT (vP3 D.int D.int D.int)) x14), ((vT D.int) x16), (D.bl x18)]), (D.tup [((vT (vP3 D.int D.int D.int)) x19), ((vT (vP3 D.int D.int D.int)) x20), ((vT D.int) x21), (D.bl true)])]) fun x22 => (O.bnd (ofO (asB x22)) fun c23 => (if (!c23) then (.rt false) else (.nx ())))))))))))))))) x8 ()) fun (s24 : Unit) => (O.bnd (.rt ([(D.tup [(D.tup [(D.int 0), (D.int 2), (D.int 1)]), (D.tup [(D.int 2), (D.int 1), (D.int 1)])]), (D.tup [(D.tup [(D.int 0), (D.int 0), (D.int 5)])]), (D.tup [(D.tup [(D.int 0), (D.int 1), (D.int 0)])]), (D.tup [(D.tup [(D.int 4), (D.int 2), (D.int 1)])]), (D.tup [(D.tup [(D.int 0), (D.int 2), (D.int (-1))])]), (D.tup [(D.tup [(D.int 5), (D.int 1), (D.int 1)])]), ((vL (vP3 D.int D.int D.int)) [(0, 1, 1)]), (D.tup [(D.tup [(D.int 0), (D.int 1), (D.int 1)]), (D.tup [(D.int 0), (D.int 1)])]), (D.tup [(D.tup [(D.int 0), (D.int 6), (D.int 1)]), (D.tup [(D.int 0), (D.int 0), (D.int 1)])]), (D.tup [(D.tup [(D.int 0), (D.bl true), (D.int 1)])]), (D.tup []), (D.tup [(D.tup [(D.int 4), (D.int 5), (D.int (-1))])]), (D.tup [(D.tup [(D.int 0), (D.int (-1)), (D.int 7)])]), (D.tup [(D.tup [(D.int (-1)), (D.int 1), (D.int 3)])])] : (List D))) fun things25 => (O.bnd (.rt ([(D.tup [(D.str ("told" : Str)), (D.int 3)]), (D.tup [(D.str ("bad" : Str)), (D.int 0), (D.str ("length" : Str))]), (D.tup [(D.str ("bad" : Str)), (D.int 0), (D.str ("step" : Str))]), (D.tup [(D.str ("bad" : Str)), (D.int 0), (D.str ("place" : Str))]), (D.tup [(D.str ("bad" : Str)), (D.int 0), (D.str ("place" : Str))]), (D.tup [(D.str ("bad" : Str)), (D.int 0), (D.str ("place" : Str))]), (D.tup [(D.str ("bad" : Str)), (D.int (-1)), (D.str ("shape" : Str))]), (D.tup [(D.str ("bad" : Str)), (D.int (-1)), (D.str ("shape" : Str))]), (D.tup [(D.str ("bad" : Str)), (D.int 0), (D.str ("place" : Str))]), (D.tup [(D.str ("bad" : Str)), (D.int (-1)), (D.str ("shape" : Str))]), (D.tup [(D.str ("told" : Str)), (D.int 0)]), (D.tup [(D.str ("told" : Str)), (D.int 5)]), (D.tup [(D.str ("bad" : Str)), (D.int 0), (D.str ("length" : Str))]), (D.tup [(D.str ("bad" : Str)), (D.int 0), (D.str ("step" : Str))])] : (List D))) fun words26 => (O.bnd (ofO (rg1 (things25.length : Int))) fun x27 => (O.seq (nFor (fun (y29 : Int) (s28 : Unit) => (O.bnd ((O.bnd (ofO (atI things25 y29)) fun x30 => (O.bnd (n__law_heard 5 x30) fun x31 => (O.bnd (ofO (atI words26 y29)) fun x32 => (O.bnd (x__law_same [x31, x32]) fun x33 => (O.bnd (ofO (asB x33)) fun c34 => (if (!c34) then (.rt true) else (O.bnd (ofO (atI things25 y29)) fun x35 => (O.bnd (n__law_right 5 x35) fun x36 => (.rt (!x36)))))))))) : Fr Bool) fun x37 => (if x37 then (.rt false) else (.nx ())))) x27 ()) fun (s38 : Unit) => (O.bnd ((O.bnd (n_piece_places [(2, 3, (-1)), (0, 1, 1)]) fun x39 => (O.bnd (n_is_short [(0, 2, 1), (2, 1, 1)]) fun x40 => (O.bnd (n_is_short [(4, 1, (-1))]) fun x41 => (O.bnd (n_check_pieces 0 (D.tup [])) fun x42 => (O.bnd (n_short_row [4, 3]) fun x43 => (.rt (x39, x40, x41, x42, x43))))))) : Fr ((List Int) × Bool × Bool × Int × (List (Int × Int × Int)))) fun x44 => (O.bnd (x__law_same [((vP5 (vT D.int) D.bl D.bl D.int (vT (vP3 D.int D.int D.int))) x44), (D.tup [(D.tup [(D.int 2), (D.int 1), (D.int 0), (D.int 0)]), (D.bl false), (D.bl false), (D.int 0), (D.tup [(D.tup [(D.int 4), (D.int 2), (D.int (-1))])])])]) fun x45 => (O.bnd (ofO (asB x45)) fun c46 => (.rt c46))))))))))))))
theorem q_law (script0 : (List Int)) : SimF D.bl (fun _ => []) (d_law [(D.scr script0)]) (n_law script0) := simF_mk (by delta b_law; exact t_end (t_seq (t_set (c_callM (c_ok rfl (c_fret rfl (qx__law_pond [(D.scr script0)]) trivial fun x1 => (t_seq (t_forK (c_iR1 (c_ok rfl (c_tot (h_r1l (by decide)) (t_loop (E1 := (fun (s2 : D) (ρ : DL.Env) => ∃ u2 : Option D, ρ = [some (D.scr script0), some s2, u2, none, none, none, none, none, none])) (v := D.int) (xs := (rgI 0 (Int.toNat 5))) (s := x1) ⟨_, rfl⟩ (fun y3 s2 ρ h => by obtain ⟨u2, rfl⟩ := h; exact (t_asgK rfl (t_end (t_if (c_bnot (c_tval (c_callO rfl (c_ok rfl (c_fretO rfl rfl (q__law_asked s2) (fun _ => trivial) fun x4 => (c_bB (c_ite (t_ret (c_ok rfl (t_rt ⟨rfl, rfl⟩))) (t_pass (t_nx ⟨_, rfl⟩))))))))))))) (fun s5 ρ h => by obtain ⟨u2, rfl⟩ := h; exact (t_seq (t_set (c_okE (v := (vT (vT D.int))) (x := [[3, 4, 5, 1, 0, 7], [0, 1, 0, 1], [2, 2, 3], [5, 4, 3, 4, 5], [], [9], [0, 2, 4], [1, 0, 0, 1], [3, 2, 1, 0, 1]]) (e_tup (e_cons (e_tup rfl (Nat.le_of_ble_eq_true rfl)) (e_cons (e_tup rfl (Nat.le_of_ble_eq_true rfl)) (e_cons (e_tup rfl (Nat.le_of_ble_eq_true rfl)) (e_cons (e_tup rfl (Nat.le_of_ble_eq_true rfl)) (e_cons (e_tup rfl (Nat.le_of_ble_eq_true rfl)) (e_cons (e_tup rfl (Nat.le_of_ble_eq_true rfl)) (e_cons (e_tup rfl (Nat.le_of_ble_eq_true rfl)) (e_cons (e_tup rfl (Nat.le_of_ble_eq_true rfl)) (e_cons (e_tup rfl (Nat.le_of_ble_eq_true rfl)) rfl))))))))) (Nat.le_of_ble_eq_true rfl)) rfl fun rows6 => (t_seq (t_set (c_okE (v := (vT (vT (vP3 D.int D.int D.int)))) (x := [[(3, 3, 1), (1, 2, (-1)), (7, 1, 1)], [(0, 2, 1), (0, 2, 1)], [(2, 1, 1), (2, 2, 1)], [(5, 3, (-1)), (4, 2, 1)], [], [(9, 1, 1)], [(0, 1, 1), (2, 1, 1), (4, 1, 1)], [(1, 2, (-1)), (0, 2, 1)], [(3, 4, (-1)), (1, 1, 1)]]) (e_tup (e_cons (e_tup (e_cons (e_tup rfl (Nat.le_of_ble_eq_true rfl)) (e_cons (e_tup rfl (Nat.le_of_ble_eq_true rfl)) (e_cons (e_tup rfl (Nat.le_of_ble_eq_true rfl)) rfl))) (Nat.le_of_ble_eq_true rfl)) (e_cons (e_tup (e_cons (e_tup rfl (Nat.le_of_ble_eq_true rfl)) (e_cons (e_tup rfl (Nat.le_of_ble_eq_true rfl)) rfl)) (Nat.le_of_ble_eq_true rfl)) (e_cons (e_tup (e_cons (e_tup rfl (Nat.le_of_ble_eq_true rfl)) (e_cons (e_tup rfl (Nat.le_of_ble_eq_true rfl)) rfl)) (Nat.le_of_ble_eq_true rfl)) (e_cons (e_tup (e_cons (e_tup rfl (Nat.le_of_ble_eq_true rfl)) (e_cons (e_tup rfl (Nat.le_of_ble_eq_true rfl)) rfl)) (Nat.le_of_ble_eq_true rfl)) (e_cons (e_tup rfl (Nat.le_of_ble_eq_true rfl)) (e_cons (e_tup (e_cons (e_tup rfl (Nat.le_of_ble_eq_true rfl)) rfl) (Nat.le_of_ble_eq_true rfl)) (e_cons (e_tup (e_cons (e_tup rfl (Nat.le_of_ble_eq_true rfl)) (e_cons (e_tup rfl (Nat.le_of_ble_eq_true rfl)) (e_cons (e_tup rfl (Nat.le_of_ble_eq_true rfl)) rfl))) (Nat.le_of_ble_eq_true rfl)) (e_cons (e_tup (e_cons (e_tup rfl (Nat.le_of_ble_eq_true rfl)) (e_cons (e_tup rfl (Nat.le_of_ble_eq_true rfl)) rfl)) (Nat.le_of_ble_eq_true rfl)) (e_cons (e_tup (e_cons (e_tup rfl (Nat.le_of_ble_eq_true rfl)) (e_cons (e_tup rfl (Nat.le_of_ble_eq_true rfl)) rfl)) (Nat.le_of_ble_eq_true rfl)) rfl))))))))) (Nat.le_of_ble_eq_true rfl)) rfl fun dues7 => (t_seq (t_forK (c_iR1 (c_ok (e_cons (e_cb rfl h_lenT) rfl) (c_opt h_r1 fun x8 => (t_loop (E1 := (fun (s9 : Unit) (ρ : DL.Env) => ∃ u5 : Option D, ρ = [some (D.scr script0), some s5, u2, some ((vT (vT D.int)) rows6), some ((vT (vT (vP3 D.int D.int D.int))) dues7), u5, none, none, none])) (v := D.int) (xs := x8) (s := ()) ⟨_, rfl⟩ (fun y10 s9 ρ h => by obtain ⟨u5, rfl⟩ := h; exact (t_asgK rfl (t_end (t_if (c_bnot (c_tval (c_callM (c_cons (c_tup (c_cons (c_callM (c_cons (c_op (c_ok rfl (c_ok rfl (c_opt h_ixT fun x11 => (c_ok rfl (c_fret rfl (q_short_row x11) trivial fun x12 => (c_cons (c_callM (c_cons (c_op (c_ok rfl (c_ok rfl (c_opt h_ixT fun x13 => (c_ok rfl (c_fret rfl (q__law_short x13) trivial fun x14 => (c_cons (c_callM (c_cons (c_op (c_ok rfl (c_ok rfl (c_opt h_ixT fun x15 => (c_ok rfl (c_fret rfl (q_piece_places x15) trivial fun x16 => (c_cons (c_callM (c_cons (c_op (c_ok rfl (c_ok rfl (c_opt h_ixT fun x17 => (c_ok rfl (c_fret rfl (q_is_short x17) trivial fun x18 => (c_ok rfl (c_size (Nat.le_of_ble_eq_true rfl) (c_cons (c_tup (c_cons (c_op (c_ok rfl (c_ok rfl (c_opt h_ixT fun x19 => (c_cons (c_op (c_ok rfl (c_ok rfl (c_opt h_ixT fun x20 => (c_cons (c_op (c_ok rfl (c_ok rfl (c_opt h_ixT fun x21 => (c_ok rfl (c_size (Nat.le_of_ble_eq_true rfl) (c_ok rfl (c_fret rfl (qx__law_same [(D.tup [((vT (vP3 D.int D.int D.int)) x12), ((vT (vP3 D.int D.int D.int)) x14), ((vT D.int) x16), (D.bl x18)]), (D.tup [((vT (vP3 D.int D.int D.int)) x19), ((vT (vP3 D.int D.int D.int)) x20), ((vT D.int) x21), (D.bl true)])]) trivial fun x22 => (by cases hc23 : asB x22 with | none => exact c_stk | some c23 => (rw [asB_eq hc23]; exact c_red (c_bB (c_ite (t_ret (c_ok rfl (t_rt ⟨rfl, rfl⟩))) (t_pass (t_nx ⟨_, rfl⟩)))))))))))))))))))))))))))))))))))))))))))))))))))))))))))))))))))))))))) (fun s24 ρ h => by obtain ⟨u5, rfl⟩ := h; exact (t_seq (t_set (c_okE (v := (vT vD)) (x := [(D.tup [(D.tup [(D.int 0), (D.int 2), (D.int 1)]), (D.tup [(D.int 2), (D.int 1), (D.int 1)])]), (D.tup [(D.tup [(D.int 0), (D.int 0), (D.int 5)])]), (D.tup [(D.tup [(D.int 0), (D.int 1), (D.int 0)])]), (D.tup [(D.tup [(D.int 4), (D.int 2), (D.int 1)])]), (D.tup [(D.tup [(D.int 0), (D.int 2), (D.int (-1))])]), (D.tup [(D.tup [(D.int 5), (D.int 1), (D.int 1)])]), ((vL (vP3 D.int D.int D.int)) [(0, 1, 1)]), (D.tup [(D.tup [(D.int 0), (D.int 1), (D.int 1)]), (D.tup [(D.int 0), (D.int 1)])]), (D.tup [(D.tup [(D.int 0), (D.int 6), (D.int 1)]), (D.tup [(D.int 0), (D.int 0), (D.int 1)])]), (D.tup [(D.tup [(D.int 0), (D.bl true), (D.int 1)])]), (D.tup []), (D.tup [(D.tup [(D.int 4), (D.int 5), (D.int (-1))])]), (D.tup [(D.tup [(D.int 0), (D.int (-1)), (D.int 7)])]), (D.tup [(D.tup [(D.int (-1)), (D.int 1), (D.int 3)])])]) (e_tup (e_cons (e_tup (e_cons (e_tup rfl (Nat.le_of_ble_eq_true rfl)) (e_cons (e_tup rfl (Nat.le_of_ble_eq_true rfl)) rfl)) (Nat.le_of_ble_eq_true rfl)) (e_cons (e_tup (e_cons (e_tup rfl (Nat.le_of_ble_eq_true rfl)) rfl) (Nat.le_of_ble_eq_true rfl)) (e_cons (e_tup (e_cons (e_tup rfl (Nat.le_of_ble_eq_true rfl)) rfl) (Nat.le_of_ble_eq_true rfl)) (e_cons (e_tup (e_cons (e_tup rfl (Nat.le_of_ble_eq_true rfl)) rfl) (Nat.le_of_ble_eq_true rfl)) (e_cons (e_tup (e_cons (e_tup rfl (Nat.le_of_ble_eq_true rfl)) rfl) (Nat.le_of_ble_eq_true rfl)) (e_cons (e_tup (e_cons (e_tup rfl (Nat.le_of_ble_eq_true rfl)) rfl) (Nat.le_of_ble_eq_true rfl)) (e_cons (e_lst (e_cons (e_tup rfl (Nat.le_of_ble_eq_true rfl)) rfl) (Nat.le_of_ble_eq_true rfl)) (e_cons (e_tup (e_cons (e_tup rfl (Nat.le_of_ble_eq_true rfl)) (e_cons (e_tup rfl (Nat.le_of_ble_eq_true rfl)) rfl)) (Nat.le_of_ble_eq_true rfl)) (e_cons (e_tup (e_cons (e_tup rfl (Nat.le_of_ble_eq_true rfl)) (e_cons (e_tup rfl (Nat.le_of_ble_eq_true rfl)) rfl)) (Nat.le_of_ble_eq_true rfl)) (e_cons (e_tup (e_cons (e_tup rfl (Nat.le_of_ble_eq_true rfl)) rfl) (Nat.le_of_ble_eq_true rfl)) (e_cons (e_tup rfl (Nat.le_of_ble_eq_true rfl)) (e_cons (e_tup (e_cons (e_tup rfl (Nat.le_of_ble_eq_true rfl)) rfl) (Nat.le_of_ble_eq_true rfl)) (e_cons (e_tup (e_cons (e_tup rfl (Nat.le_of_ble_eq_true rfl)) rfl) (Nat.le_of_ble_eq_true rfl)) (e_cons (e_tup (e_cons (e_tup rfl (Nat.le_of_ble_eq_true rfl)) rfl) (Nat.le_of_ble_eq_true rfl)) rfl)))))))))))))) (Nat.le_of_ble_eq_true rfl)) rfl fun things25 => (t_seq (t_set (c_okE (v := (vT vD)) (x := [(D.tup [(D.str ("told" : Str)), (D.int 3)]), (D.tup [(D.str ("bad" : Str)), (D.int 0), (D.str ("length" : Str))]), (D.tup [(D.str ("bad" : Str)), (D.int 0), (D.str ("step" : Str))]), (D.tup [(D.str ("bad" : Str)), (D.int 0), (D.str ("place" : Str))]), (D.tup [(D.str ("bad" : Str)), (D.int 0), (D.str ("place" : Str))]), (D.tup [(D.str ("bad" : Str)), (D.int 0), (D.str ("place" : Str))]), (D.tup [(D.str ("bad" : Str)), (D.int (-1)), (D.str ("shape" : Str))]), (D.tup [(D.str ("bad" : Str)), (D.int (-1)), (D.str ("shape" : Str))]), (D.tup [(D.str ("bad" : Str)), (D.int 0), (D.str ("place" : Str))]), (D.tup [(D.str ("bad" : Str)), (D.int (-1)), (D.str ("shape" : Str))]), (D.tup [(D.str ("told" : Str)), (D.int 0)]), (D.tup [(D.str ("told" : Str)), (D.int 5)]), (D.tup [(D.str ("bad" : Str)), (D.int 0), (D.str ("length" : Str))]), (D.tup [(D.str ("bad" : Str)), (D.int 0), (D.str ("step" : Str))])]) (e_tup (e_cons (e_tup rfl (Nat.le_of_ble_eq_true rfl)) (e_cons (e_tup rfl (Nat.le_of_ble_eq_true rfl)) (e_cons (e_tup rfl (Nat.le_of_ble_eq_true rfl)) (e_cons (e_tup rfl (Nat.le_of_ble_eq_true rfl)) (e_cons (e_tup rfl (Nat.le_of_ble_eq_true rfl)) (e_cons (e_tup rfl (Nat.le_of_ble_eq_true rfl)) (e_cons (e_tup rfl (Nat.le_of_ble_eq_true rfl)) (e_cons (e_tup rfl (Nat.le_of_ble_eq_true rfl)) (e_cons (e_tup rfl (Nat.le_of_ble_eq_true rfl)) (e_cons (e_tup rfl (Nat.le_of_ble_eq_true rfl)) (e_cons (e_tup rfl (Nat.le_of_ble_eq_true rfl)) (e_cons (e_tup rfl (Nat.le_of_ble_eq_true rfl)) (e_cons (e_tup rfl (Nat.le_of_ble_eq_true rfl)) (e_cons (e_tup rfl (Nat.le_of_ble_eq_true rfl)) rfl)))))))))))))) (Nat.le_of_ble_eq_true rfl)) rfl fun words26 => (t_seq (t_forK (c_iR1 (c_ok (e_cons (e_cb rfl h_lenT) rfl) (c_opt h_r1 fun x27 => (t_loop (E1 := (fun (s28 : Unit) (ρ : DL.Env) => ∃ u5 : Option D, ρ = [some (D.scr script0), some s5, u2, some ((vT (vT D.int)) rows6), some ((vT (vT (vP3 D.int D.int D.int))) dues7), u5, some ((vT vD) things25), some ((vT vD) words26), none])) (v := D.int) (xs := x27) (s := ()) ⟨_, rfl⟩ (fun y29 s28 ρ h => by obtain ⟨u5, rfl⟩ := h; exact (t_asgK rfl (t_end (t_if (c_blkT (w := (fun _ => [some (D.scr script0), some s5, u2, some ((vT (vT D.int)) rows6), some ((vT (vT (vP3 D.int D.int D.int))) dues7), some (D.int y29), some ((vT vD) things25), some ((vT vD) words26), none])) (c_bor (c_bnot (c_tval (c_callM (c_cons (c_callM (c_cons (c_ok rfl (c_cons (c_op (c_ok rfl (c_ok rfl (c_opt h_ixT fun x30 => (c_ok rfl (c_fret rfl (q__law_heard 5 x30) trivial fun x31 => (c_cons (c_op (c_ok rfl (c_ok rfl (c_opt h_ixT fun x32 => (c_ok rfl (c_fret rfl (qx__law_same [x31, x32]) trivial fun x33 => (by cases hc34 : asB x33 with | none => exact c_stk | some c34 => (rw [asB_eq hc34]; exact c_red (c_bB (c_ite (c_rt rfl rfl) (c_bnot (c_tval (c_callM (c_cons (c_ok rfl (c_cons (c_op (c_ok rfl (c_ok rfl (c_opt h_ixT fun x35 => (c_ok rfl (c_fret rfl (q__law_right 5 x35) trivial fun x36 => (c_bB (c_rt rfl rfl)))))))))))))))))))))))))))))))))))))))) fun x37 => (c_ite (t_ret (c_ok rfl (t_rt ⟨rfl, rfl⟩))) (t_pass (t_nx ⟨_, rfl⟩)))))))) (fun s38 ρ h => by obtain ⟨u5, rfl⟩ := h; exact (t_seq (t_set (c_blk (v := (vP5 (vT D.int) D.bl D.bl D.int (vT (vP3 D.int D.int D.int)))) (w := (fun _ => [some (D.scr script0), some s5, u2, some ((vT (vT D.int)) rows6), some ((vT (vT (vP3 D.int D.int D.int))) dues7), u5, some ((vT vD) things25), some ((vT vD) words26), none])) (c_tup (c_cons (c_callM (c_kw (c_ok rfl (c_ok (e_cons (e_tup (e_cons (e_tup rfl (Nat.le_of_ble_eq_true rfl)) (e_cons (e_tup rfl (Nat.le_of_ble_eq_true rfl)) rfl)) (Nat.le_of_ble_eq_true rfl)) rfl) (c_kw2 ⟨rfl, rfl⟩ rfl (c_fret rfl (q_piece_places [(2, 3, (-1)), (0, 1, 1)]) trivial fun x39 => (c_cons (c_callM (c_kw (c_ok rfl (c_ok (e_cons (e_tup (e_cons (e_tup rfl (Nat.le_of_ble_eq_true rfl)) (e_cons (e_tup rfl (Nat.le_of_ble_eq_true rfl)) rfl)) (Nat.le_of_ble_eq_true rfl)) rfl) (c_kw2 ⟨rfl, rfl⟩ rfl (c_fret rfl (q_is_short [(0, 2, 1), (2, 1, 1)]) trivial fun x40 => (c_cons (c_callM (c_ok (e_cons (e_tup (e_cons (e_tup rfl (Nat.le_of_ble_eq_true rfl)) rfl) (Nat.le_of_ble_eq_true rfl)) rfl) (c_fret rfl (q_is_short [(4, 1, (-1))]) trivial fun x41 => (c_cons (c_callM (c_kw (c_ok rfl (c_ok (e_cons (e_tup rfl (Nat.le_of_ble_eq_true rfl)) rfl) (c_kw2 ⟨rfl, rfl⟩ rfl (c_fret rfl (q_check_pieces 0 (D.tup [])) trivial fun x42 => (c_cons (c_callM (c_kw (c_ok rfl (c_ok (e_cons (e_tup rfl (Nat.le_of_ble_eq_true rfl)) rfl) (c_kw2 ⟨rfl, rfl⟩ rfl (c_fret rfl (q_short_row [4, 3]) trivial fun x43 => (c_ok rfl (c_size (Nat.le_of_ble_eq_true rfl) (c_rt rfl rfl)))))))))))))))))))))))))))))))))))) fun x44 => (t_ret (c_callM (c_ok (e_cons rfl (e_cons (e_tup (e_cons (e_tup rfl (Nat.le_of_ble_eq_true rfl)) (e_cons rfl (e_cons rfl (e_cons rfl (e_cons (e_tup (e_cons (e_tup rfl (Nat.le_of_ble_eq_true rfl)) rfl) (Nat.le_of_ble_eq_true rfl)) rfl))))) (Nat.le_of_ble_eq_true rfl)) rfl)) (c_fret rfl (qx__law_same [((vP5 (vT D.int) D.bl D.bl D.int (vT (vP3 D.int D.int D.int))) x44), (D.tup [(D.tup [(D.int 2), (D.int 1), (D.int 0), (D.int 0)]), (D.bl false), (D.bl false), (D.int 0), (D.tup [(D.tup [(D.int 4), (D.int 2), (D.int (-1))])])])]) trivial fun x45 => (by cases hc46 : asB x45 with | none => exact c_stk | some c46 => (rw [asB_eq hc46]; exact c_red (t_rt ⟨rfl, rfl⟩)))))))))))))))))))))))))))))))))))))))))))))))))
end K09
namespace K09
open PySem L2 DL
theorem same (d : D) (ok : okL d = true) (h : sz1 d < 300000) : d__law_same [d, d] = .ret (.bl true) [] := same_self d ok h
/-! the pond -/
abbrev Pd (ds : List Int) (a w : Int) : D := .dct [(.inr "digits", .lst (ds.map .int)), (.inr "at", .int a), (.inr "whole", .int w)]
@[simp] theorem pd_digits {x y z : D} : getK [(.inr "digits", x), (.inr "at", y), (.inr "whole", z)] (.inr "digits") = some x := rfl
@[simp] theorem pd_at {x y z : D} : getK [(.inr "digits", x), (.inr "at", y), (.inr "whole", z)] (.inr "at") = some y := by
  unfold getK; rw [List.find?_cons, List.find?_cons]; rfl
@[simp] theorem pd_whole {x y z : D} : getK [(.inr "digits", x), (.inr "at", y), (.inr "whole", z)] (.inr "whole") = some z := rfl
@[simp] theorem pd_pat {x y z d : D} : putD [(.inr "digits", x), (.inr "at", y), (.inr "whole", z)] (.inr "at") d = [(.inr "digits", x), (.inr "at", d), (.inr "whole", z)] := rfl
@[simp] theorem pd_pwhole {x y z d : D} : putD [(.inr "digits", x), (.inr "at", y), (.inr "whole", z)] (.inr "whole") d = [(.inr "digits", x), (.inr "at", y), (.inr "whole", d)] := rfl
theorem frog {ds : List Int} {a w n : Int} (h : 0 < ds.length) (hn : 0 < n) : ∃ r w', 0 ≤ r ∧ r < n ∧ d__law_frog [Pd ds a w, .int n] = .ret (.int r) [some (Pd ds (a + 1) w')] := by
  have hl : (0 : Int) < ds.length := by omega
  have h1 : 0 ≤ a % (ds.length : Int) := Int.emod_nonneg _ (by omega)
  have h2 : a % (ds.length : Int) < ds.length := Int.emod_lt_of_pos _ hl
  obtain ⟨k, hk⟩ : ∃ k, (a % (ds.length : Int)).toNat = k := ⟨_, rfl⟩
  have hkl : k < ds.length := by omega
  have e1 : atI (ds.map D.int) (a % (ds.length : Int)) = some (.int ds[k]) := by
    rw [at_nat h1 (by simpa using h2), hk, List.getElem?_map, List.getElem?_eq_getElem hkl]
    rfl
  have m1 : CMul w 985 := .inr (by decide)
  have m2 : CMul ds[k] 53 := .inr (by decide)
  have m3 : CMul a 37 := .inr (by decide)
  refine ⟨(w * 985 + ds[k] * 53 + a * 37 + 11) % 1999301 / 19 % n, (w * 985 + ds[k] * 53 + a * 37 + 11) % 1999301, Int.emod_nonneg _ (by omega), Int.emod_lt_of_pos _ hn, ?_⟩
  unfold d__law_frog
  rw [mkF_ap]
  unfold b__law_frog
  simp [CMod, CDiv, e1, m1, m2, m3, h, hn, sz]
end K09
namespace K09
open PySem L2 DL
def pondI : DL.Env → Out := (sSeq (sDrop (eMtO 1 gAppend (aCons (eOp (gIC CMod fun i j => i % j) (eCB gInt (aCons (eVar 4) aNil)) (eC (.int 2027))) aNil))) (sSeq (sSet 4 (eOp (gIC CDiv fun i j => i / j) (eVar 4) (eC (.int 2027)))) (sIf (tVal (eOp gEq (eVar 4) (eC (.int 0)))) Out.bk Out.nx)))
def pondO : DL.Env → Out := (sSeq (sSet 4 (eOp (gIC CMod fun i j => i % j) (eCB gAbs (aCons (eCB gInt (aCons (eVar 3) aNil)) aNil)) (eOp (gIC CPow fun i j => i * 2 ^ j.toNat) (eC (.int 1)) (eC (.int 1600))))) (sSeq (sSet 2 (eOp (gIC CMod fun i j => i % j) (eOp gAdd (eOp gAdd (eOp gMul (eVar 2) (eC (.int 571))) (eOp (gIC CMod fun i j => i % j) (eVar 4) (eC (.int 1000409)))) (eC (.int 5))) (eC (.int 1999301)))) (sFor (iR1 (aCons (eC (.int 24)) aNil)) (gN 5) pondI)))
theorem inner : ∀ (es : List D) (cs : List Int) (s w c x : Option D) (z : Int), cs.length + es.length < 2000 → ∃ (cs' : List Int) (z' : Int) (x' : Option D), cs'.length ≤ cs.length + es.length ∧ forL (gN 5) pondI es [s, some (.lst (cs.map .int)), w, c, some (.int z), x] = .nx [s, some (.lst (cs'.map .int)), w, c, some (.int z'), x']
  | [], cs, s, w, c, x, z, h => ⟨cs, z, x, by simp, rfl⟩
  | e :: es, cs, s, w, c, x, z, h => by
    simp only [List.length_cons] at h
    have hz : cs.length < 16777216 := by omega
    unfold forL
    by_cases h0 : z / 2027 = 0
    · refine ⟨cs ++ [z % 2027], 0, some e, by simp, ?_⟩
      simp [pondI, CMod, CDiv, sz, hz, h0]
    · obtain ⟨cs', z', x', h1, h2⟩ := inner es (cs ++ [z % 2027]) s w c (some e) (z / 2027) (by simp; omega)
      refine ⟨cs', z', x', by simp at h1 ⊢; omega, ?_⟩
      simp at h2
      simp [pondI, CMod, CDiv, sz, hz, h0]
      exact h2
theorem p1600 : (0 : Int) < 2 ^ 1600 := Int.pow_pos (by decide)
theorem outer : ∀ (es : List Int) (cs : List Int) (s x3 x4 x5 : Option D) (w : Int), cs.length + 24 * es.length < 1500 → ∃ (cs' : List Int) (w' : Int) (x3' x4' x5' : Option D), cs'.length ≤ cs.length + 24 * es.length ∧ forL (gN 3) pondO (es.map .int) [s, some (.lst (cs.map .int)), some (.int w), x3, x4, x5] = .nx [s, some (.lst (cs'.map .int)), some (.int w'), x3', x4', x5']
  | [], cs, s, x3, x4, x5, w, h => ⟨cs, w, x3, x4, x5, by simp, rfl⟩
  | e :: es, cs, s, x3, x4, x5, w, h => by
    simp only [List.length_cons] at h
    obtain ⟨z, hz⟩ : ∃ z, (if e < 0 then -e else e) % 2 ^ 1600 = z := ⟨_, rfl⟩
    have m : CMul w 571 := .inr (by decide)
    have pw : CPow 1 1600 := by decide
    obtain ⟨y, hy⟩ : ∃ y, (w * 571 + z % 1000409 + 5) % 1999301 = y := ⟨_, rfl⟩
    have hl : (rangeD 0 24).length = 24 := rfl
    obtain ⟨cs1, z1, x1, h1, h2⟩ := inner (rangeD 0 24) cs s (some (.int y)) (some (.int e)) x5 z (by omega)
    rw [hl] at h1
    obtain ⟨cs', w', x3', x4', x5', h3, h4⟩ := outer es cs1 s (some (.int e)) (some (.int z1)) x1 y (by omega)
    refine ⟨cs', w', x3', x4', x5', by simp; omega, ?_⟩
    rw [List.map_cons]
    unfold forL
    simp [pondO, CMod, m, pw, p1600, hz, hy, inRg, h2]
    exact h4
theorem cut44 (ns : List Int) : (cutD ns none (some 44)).length ≤ 44 := by
  unfold cutD HT.sIx
  simp
  omega
theorem pond0 (ns : List Int) : ∃ (ds : List Int) (w : Int), 0 < ds.length ∧ d__law_pond [.scr ns] = .ret (Pd ds 0 w) [] := by
  have hc := cut44 ns
  obtain ⟨cs, w, x3, x4, x5, h1, h2⟩ := outer (cutD ns none (some 44)) [] (some (.scr ns)) none none none 8009 (by simp; omega)
  refine ⟨cs ++ [w % 83, 6], w, by simp, ?_⟩
  unfold d__law_pond
  rw [mkF_ap]
  have e0 : b__law_pond = (sSeq (sPar 1 2 (aCons (eLst aNil) (aCons (eC (.int 8009)) aNil))) (sSeq (sFor (iA (eSl gSl (eVar 0) pNo (pSo (eC (.int 44))))) (gN 3) pondO) (sRet (eDisp [.inr "digits", .inr "at", .inr "whole"] (aCons (eOp gAdd (eVar 1) (eLst (aCons (eOp (gIC CMod fun i j => i % j) (eVar 2) (eC (.int 83))) (aCons (eC (.int 6)) aNil)))) (aCons (eC (.int 0)) (aCons (eVar 2) aNil))))))) := rfl
  rw [e0]
  have hz : cs.length + 2 ≤ 16777216 := by simp at h1; omega
  have em : ∀ x y z : D, mergeD [] [(.inr "digits", x), (.inr "at", y), (.inr "whole", z)] = [(.inr "digits", x), (.inr "at", y), (.inr "whole", z)] := fun _ _ _ => rfl
  simp at h2
  simp [sz, h2, CMod, hz, em]
end K09
namespace K09
open PySem L2 DL
/-! draws -/
def PondOk (p : D) : Prop := ∃ (ds : List Int) (a w : Int), 0 < ds.length ∧ p = Pd ds a w
theorem frog_n {p : D} (h : PondOk p) {n : Int} (hn : 0 < n) : ∃ r p', n__law_frog p n = .rt (r, p') ∧ 0 ≤ r ∧ r < n ∧ PondOk p' := by
  obtain ⟨ds, a, w, h, rfl⟩ := h
  have hl : (0 : Int) < ds.length := by omega
  have h1 : 0 ≤ a % (ds.length : Int) := Int.emod_nonneg _ (by omega)
  have h2 : a % (ds.length : Int) < ds.length := Int.emod_lt_of_pos _ hl
  obtain ⟨k, hk⟩ : ∃ k, (a % (ds.length : Int)).toNat = k := ⟨_, rfl⟩
  have hkl : k < ds.length := by omega
  have e1 : atI (ds.map D.int) (a % (ds.length : Int)) = some (.int ds[k]) := by
    rw [at_nat h1 (by simpa using h2), hk, List.getElem?_map, List.getElem?_eq_getElem hkl]
    rfl
  have m1 : CMul w 985 := .inr (by decide)
  have m2 : CMul ds[k] 53 := .inr (by decide)
  have m3 : CMul a 37 := .inr (by decide)
  refine ⟨(w * 985 + ds[k] * 53 + a * 37 + 11) % 1999301 / 19 % n, Pd ds (a + 1) ((w * 985 + ds[k] * 53 + a * 37 + 11) % 1999301), ?_, Int.emod_nonneg _ (by omega), Int.emod_lt_of_pos _ hn, ds, _, _, h, rfl⟩
  unfold n__law_frog
  have i1 : icI CMod (fun i j => i % j) a (ds.length : Int) = some (a % ds.length) := icI_ok hl
  have i2' : ∀ x, icI CMod (fun i j => i % j) x n = some (x % n) := fun x => icI_ok hn
  simp [e1, m1, m2, m3, h, sz, i1, i2']
theorem pond_n (ns : List Int) : ∃ p, x__law_pond [.scr ns] = .rt p ∧ PondOk p := by
  obtain ⟨ds, w, h, e⟩ := pond0 ns
  exact ⟨_, by unfold x__law_pond; rw [e]; rfl, ds, 0, w, h, rfl⟩
theorem same_n {d e : D} (h : d = e) (ok : okL d = true) (hs : sz1 d < 300000) : x__law_same [d, e] = .rt (.bl true) := by
  subst h
  unfold x__law_same
  rw [same d ok hs]; rfl
end K09
namespace K09
open PySem L2 DL
abbrev Pc := Int × Int × Int
def longer (p : Pc) (q : Int) : Option Pc :=
  if p.2.1 = 1 ∧ (q = p.1 - 1 ∨ q = p.1 + 1) then some (p.1, 2, q - p.1)
  else if 1 < p.2.1 ∧ q = p.1 + p.2.2 * p.2.1 then some (p.1, p.2.1 + 1, p.2.2) else none
def grow : Pc → List Int → List Pc
  | p, [] => [p]
  | p, q :: qs => match longer p q with
    | some p' => grow p' qs
    | none => p :: grow (q, 1, 1) qs
def short : List Int → List Pc
  | [] => []
  | q :: qs => grow (q, 1, 1) qs
def Sm (p : Pc) : Prop := p.2.2 = 1 ∨ p.2.2 = -1
theorem Sm.b {p : Pc} (h : Sm p) : -(2 ^ 64) < p.2.2 ∧ p.2.2 < 2 ^ 64 := by rcases h with h | h <;> omega
theorem longer_n {p : Pc} (h : Sm p) (q : Int) : n_longer_piece p q = .rt (longer p q) := by
  obtain ⟨s, l, t⟩ := p
  have m : mulI t l = some (t * l) := mulI_l h.b
  unfold n_longer_piece longer
  by_cases h1 : l = 1
  · subst h1
    by_cases h2 : q = s - 1 ∨ q = s + 1 <;> simp [h2]
  · by_cases h3 : 1 < l
    · by_cases h4 : q = s + t * l <;> simp [h1, h3, h4, m]
    · simp [h1, h3]
theorem longer_sm {p p' : Pc} {q : Int} (h : Sm p) (e : longer p q = some p') : Sm p' := by
  unfold longer at e
  split at e
  · rename_i h1
    cases e
    unfold Sm; simp; omega
  · split at e
    · cases e; exact h
    · cases e
theorem grow_none {p : Pc} {q : Int} {r : List Int} (h : longer p q = none) : grow p (q :: r) = p :: short (q :: r) := by
  show (match longer p q with | some p' => grow p' r | none => _) = _
  rw [h]; rfl
theorem grow_some {p p' : Pc} {q : Int} {r : List Int} (h : longer p q = some p') : grow p (q :: r) = grow p' r := by
  show (match longer p q with | some p' => grow p' r | none => _) = _
  rw [h]
theorem short_n (qs : List Int) (hl : qs.length < 1000000) : n_short_row qs = .rt (short qs) := by
  unfold n_short_row
  generalize hF : (fun (y2 : Int) (s1 : List (Int × Int × Int)) => _) = F
  have step : ∀ (rs : List Int) (acc : List Pc) (p : Pc), Sm p → acc.length + rs.length < 2000000 → (nFor F rs (acc ++ [p]) : O (List Pc) Empty (List Pc)) = .nx (acc ++ grow p rs) := by
    intro rs
    induction rs with
    | nil => intro acc p _ _; rfl
    | cons q rs ih =>
      intro acc p hp hb
      simp only [List.length_cons] at hb
      have a1 : atI (acc ++ [p]) (((acc ++ [p]).length : Int) - 1) = some p := atI_len (by simp)
      have a2 : ∀ p', setAt (acc ++ [p]) (((acc ++ [p]).length : Int) - 1) p' = some (acc ++ [p']) := fun p' => setAt_len (by simp)
      have a3 : push (acc ++ [p]) (q, 1, 1) = some ((acc ++ [p]) ++ [(q, 1, 1)]) := push_ok (by simp; omega)
      have a4 : (decide (0 < (((acc ++ [p]).length : Nat) : Int))) = true := by simp
      cases e : longer p q with
      | none =>
        have h1 : F q (acc ++ [p]) = .nx ((acc ++ [p]) ++ [(q, 1, 1)]) := by
          subst hF
          simp only [a4, if_true, a1, ofO_some, bnd_rt, longer_n hp, e, Option.isNone_none, a3]
        rw [nFor_nx h1, ih _ _ (.inl rfl) (by simp; omega), grow_none e, List.append_assoc]; rfl
      | some p' =>
        have h1 : F q (acc ++ [p]) = .nx (acc ++ [p']) := by
          subst hF
          simp only [a4, if_true, a1, ofO_some, bnd_rt, longer_n hp, e, Option.isNone_some, a2, Bool.false_eq_true, if_false]
        rw [nFor_nx h1, ih _ _ (longer_sm hp e) (by omega), grow_some e]
  cases qs with
  | nil => rfl
  | cons q qs =>
    simp only [List.length_cons] at hl
    have h1 : F q [] = .nx ([] ++ [(q, 1, 1)]) := by
      subst hF
      have a3 : push ([] : List Pc) (q, 1, 1) = some ([] ++ [(q, 1, 1)]) := push_ok (by simp)
      simp [a3]
    rw [nFor_nx h1, step _ _ _ (.inl rfl) (by simp; omega), oseq_nx, List.nil_append]; rfl
/-! places of pieces -/
def run (s : Int) (t : Int) : Nat → List Int
  | 0 => []
  | n + 1 => s :: run (s + t) t n
def run1 (p : Pc) : List Int := run p.1 p.2.2 p.2.1.toNat
def spread (ps : List Pc) : List Int := ps.flatMap run1
theorem run_len (s t : Int) : ∀ n, (run s t n).length = n
  | 0 => rfl
  | n + 1 => by unfold run; rw [List.length_cons, run_len]
theorem run_map (t : Int) : ∀ (n : Nat) (s lo : Int), (rgI lo n).map (fun i => s + t * i) = run (s + t * lo) t n
  | 0, _, _ => rfl
  | n + 1, s, lo => by
    rw [rgI_succ, List.map_cons]
    unfold run
    rw [run_map t n s (lo + 1)]
    congr 2
    rw [Int.mul_add]; omega
/-- fit pieces -/
def Fit (p : Pc) : Prop := Sm p ∧ 0 ≤ p.2.1 ∧ p.2.1 < 1000
theorem spread_n (ps : List Pc) (h : ∀ p ∈ ps, Fit p) (hl : (spread ps).length < 1000000) : n_piece_places ps = .rt (spread ps) := by
  unfold n_piece_places
  rw [nFor_growM (g := run1) (B := 1000000) ps []]
  · rfl
  · intro p hp s hs
    obtain ⟨h1, h2, h3⟩ := h p hp
    rw [rg1_ok (by omega)]
    have e1 : nLs (fun (y4 : Int) (s5 : Unit) => ((O.bnd (ofO (mulI p.2.2 y4)) fun x6 => (.rt ((p.1 + x6), ()))) : O Unit Empty (Int × Unit))) (rgI 0 p.2.1.toNat) () = .rt (run1 p, ()) := by
      rw [nLs_map (g := fun i => p.1 + p.2.2 * i)]
      · have := run_map p.2.2 p.2.1.toNat p.1 0
        rw [this]; simp [run1]
      · intro x _
        rw [mulI_l h1.b]; rfl
      · rw [rgI_len]; omega
    simp only [ofO_some, bnd_rt, e1]
    rw [cat_ok (by unfold run1 at hs ⊢; omega)]; rfl
  · show ([] : List Int).length + (spread ps).length ≤ 1000000
    rw [List.length_nil]; omega
theorem lspread_n (ps : List Pc) (h : ∀ p ∈ ps, Fit p) (hl : (spread ps).length < 1000000) : n__law_spread ps = .rt (spread ps) := by
  unfold n__law_spread
  rw [nFor_growM (g := run1) (B := 1000000) ps []]
  · rfl
  · intro p hp s hs
    obtain ⟨h1, h2, h3⟩ := h p hp
    rw [rg1_ok (by omega)]
    simp only [ofO_some, bnd_rt]
    rw [nFor_grow (g := fun i => [p.1 + p.2.2 * i]) (B := 1000000)]
    · have := run_map p.2.2 p.2.1.toNat p.1 0
      simp only [oseq_nx]
      congr 2
      rw [show (rgI 0 p.2.1.toNat).flatMap (fun i => [p.1 + p.2.2 * i]) = (rgI 0 p.2.1.toNat).map (fun i => p.1 + p.2.2 * i) from by rw [List.flatMap_def]; induction rgI 0 p.2.1.toNat <;> simp_all, this]
      simp [run1]
    · intro x s hs
      rw [mulI_l h1.b]
      simp only [ofO_some, bnd_rt]
      rw [push_ok (by simp at hs; omega)]; rfl
    · have : ((rgI 0 p.2.1.toNat).flatMap fun i => [p.1 + p.2.2 * i]).length = p.2.1.toNat := by
        have q := @rgI_len 0 p.2.1.toNat
        generalize rgI 0 p.2.1.toNat = l at q ⊢
        rw [← q]; clear q
        induction l <;> simp_all
      rw [this]
      have : (run1 p).length = p.2.1.toNat := run_len _ _ _
      omega
  · show ([] : List Int).length + (spread ps).length ≤ 1000000
    rw [List.length_nil]; omega
end K09
namespace K09
open PySem L2 DL
theorem drop_some {qs : List Int} {m : Nat} {q : Int} {r : List Int} (h : qs.drop m = q :: r) : qs[m]? = some q ∧ qs.drop (m + 1) = r ∧ m < qs.length := by
  have h1 : (qs.drop m)[0]? = some q := by rw [h]; rfl
  rw [List.getElem?_drop] at h1
  have h2 : (qs.drop m).drop 1 = r := by rw [h]; rfl
  rw [List.drop_drop] at h2
  obtain ⟨h3, _⟩ := List.getElem?_eq_some_iff.mp h1
  exact ⟨by simpa using h1, h2, by omega⟩
theorem at_i {qs : List Int} {i : Int} {n : Nat} {q : Int} (h : qs[n]? = some q) (e : i = n) : atI qs i = some q := by subst e; exact atI_get h
def shI (qs : List Int) (t : Int) (y13 : Int) (s12 : Int) : O Int Int (List Pc) := (O.bnd (ofO (atI qs y13)) fun x14 => (O.bnd (ofO (atI qs (y13 - 1))) fun x15 => (if (!decide ((x14 - x15) = t)) then (.bk s12) else (O.bnd (.rt ((y13 + 1) : Int)) fun end16 => (.nx end16)))))
theorem inner_n {L : Type} {qs : List Int} {k : Nat} {x t : Int} (ht : t = 1 ∨ t = -1) : ∀ (r : List Int) (m : Nat) (z : Int), qs.drop (m + 1) = r → k < m → qs[m]? = some z → z = x + t * ((m : Int) - k) →
    ∃ (m' : Nat), m < m' ∧ m' ≤ qs.length ∧ grow (x, (m : Int) + 1 - k, t) r = (x, (m' : Int) - k, t) :: short (qs.drop m') ∧
      (nFor (shI qs t) (rgI ((m : Int) + 1) r.length) ((m : Int) + 1) : O Int L (List Pc)) = .nx (m' : Int)
  | [], m, z, hd, hk, hz, ez => by
    obtain ⟨h1, _⟩ := List.getElem?_eq_some_iff.mp hz
    have e1 : ((m + 1 : Nat) : Int) = (m : Int) + 1 := by omega
    refine ⟨m + 1, by omega, by omega, ?_, ?_⟩
    · rw [hd, e1]; rfl
    · rw [e1]; rfl
  | q :: r, m, z, hd, hk, hz, ez => by
    obtain ⟨d1, d2, d3⟩ := drop_some hd
    have e1 : ((m + 1 : Nat) : Int) = (m : Int) + 1 := by omega
    have a1 : atI qs ((m : Int) + 1) = some q := at_i d1 e1.symm
    have a2 : atI qs (m : Int) = some z := atI_get hz
    rw [List.length_cons, rgI_succ]
    have hl1 : ¬ ((m : Int) + 1 - k = 1) := by omega
    have hl2 : 1 < (m : Int) + 1 - k := by omega
    by_cases hq : q - z = t
    · obtain ⟨m', h1, h2, h3, h4⟩ := inner_n (L := L) (k := k) (x := x) ht r (m + 1) q d2 (by omega) d1 (by rw [e1]; rcases ht with ht | ht <;> subst ht <;> omega)
      rw [e1] at h3 h4
      refine ⟨m', by omega, h2, ?_, ?_⟩
      · rw [← h3]
        have h5 : longer (x, (m : Int) + 1 - k, t) q = some (x, (m : Int) + 1 + 1 - k, t) := by
          unfold longer
          have h6 : q = x + t * ((m : Int) + 1 - k) := by rcases ht with ht | ht <;> subst ht <;> omega
          simp only
          rw [if_neg (by simp [hl1]), if_pos ⟨hl2, h6⟩]
          congr 2
          congr 1
          omega
        rw [grow_some h5]
      · rw [nFor_nx (s' := (m : Int) + 1 + 1) (by unfold shI; simp [a1, a2, hq])]
        exact h4
    · refine ⟨m + 1, by omega, by omega, ?_, ?_⟩
      · have h5 : longer (x, (m : Int) + 1 - k, t) q = none := by
          unfold longer
          simp only
          rw [if_neg (by simp [hl1]), if_neg]
          rintro ⟨_, h6⟩
          apply hq
          rcases ht with ht | ht <;> subst ht <;> omega
        rw [grow_none h5, hd, e1]
      · rw [e1]
        rw [nFor_bk (s' := (m : Int) + 1) (by unfold shI; simp [a1, a2, hq])]
def shO (qs : List Int) : Int → List Pc × Int → O (List Pc × Int) (List Pc × Int) (List Pc) := (fun (y3 : Int) (s2 : ((List (Int × Int × Int)) × Int)) => (if (decide ((qs.length : Int) ≤ s2.2)) then (.bk (s2.1, s2.2)) else (O.seq (O.bnd ((if (decide ((s2.2 + 1) < (qs.length : Int))) then (O.bnd (ofO (atI qs (s2.2 + 1))) fun x5 => (O.bnd (ofO (atI qs s2.2)) fun x6 => (.rt (decide ((x5 - x6) ∈ [1, (-1)]))))) else (.rt false)) : Fr Bool) fun x7 => (if x7 then (O.bnd ((O.bnd (ofO (atI qs (s2.2 + 1))) fun x8 => (O.bnd (ofO (atI qs s2.2)) fun x9 => (.rt (x8 - x9)))) : Fr Int) fun x10 => (O.bnd (ofO (rg2 (s2.2 + 1) (qs.length : Int))) fun x11 => (O.seq (nFor (fun (y13 : Int) (s12 : Int) => (O.bnd (ofO (atI qs y13)) fun x14 => (O.bnd (ofO (atI qs (y13 - 1))) fun x15 => (if (!decide ((x14 - x15) = x10)) then (.bk s12) else (O.bnd (.rt ((y13 + 1) : Int)) fun end16 => (.nx end16)))))) x11 (s2.2 + 1)) fun (s17 : Int) => (.nx (x10, s17))))) else (.nx (1, (s2.2 + 1))))) fun (s4 : (Int × Int)) => (O.bnd (ofO (atI qs s2.2)) fun x18 => (O.bnd (ofO (push (α := (Int × Int × Int)) s2.1 (x18, (s4.2 - s2.2), s4.1))) fun told20 => (.nx (told20, s4.2)))))))
theorem step_run {qs : List Int} {k m' : Nat} {x q e : Int} {acc : List Pc} (hlen : qs.length < 1000000) (ha : acc.length ≤ k) (hk1 : k + 1 < qs.length) (a0 : atI qs (k : Int) = some x) (a1 : atI qs ((k : Int) + 1) = some q) (ht : q - x = 1 ∨ q - x = -1)
    (loop : (nFor (shI qs (q - x)) (rgI ((k : Int) + 1) ((qs.length : Int) - ((k : Int) + 1)).toNat) ((k : Int) + 1) : O Int (List Pc × Int) (List Pc)) = .nx (m' : Int)) : shO qs e (acc, (k : Int)) = .nx (acc ++ [(x, (m' : Int) - k, q - x)], (m' : Int)) := by
  have c0 : (decide ((qs.length : Int) ≤ k)) = false := by simp; omega
  have b2 : (decide ((k : Int) + 1 < (qs.length : Int))) = true := by simp; omega
  have inn : (decide (q - x ∈ ([1, -1] : List Int))) = true := by simp; exact ht
  have p1 : push acc (x, (m' : Int) - k, q - x) = some (acc ++ [(x, (m' : Int) - k, q - x)]) := push_ok (by omega)
  unfold shO
  unfold shI at loop
  simp only [bnd_rt] at loop
  simp only [c0, b2, Bool.false_eq_true, if_false, if_true, a0, a1, ofO_some, bnd_rt, inn, rg2_ok (i := (k : Int) + 1) (j := (qs.length : Int)) (by omega) (by omega), loop, oseq_nx, p1]

theorem step_plain1 {qs : List Int} {k : Nat} {x e q : Int} {acc : List Pc} (ha : acc.length < 16777216) (c0 : (decide ((qs.length : Int) ≤ k)) = false) (b2 : (decide ((k : Int) + 1 < (qs.length : Int))) = true) (a0 : atI qs (k : Int) = some x) (a1 : atI qs ((k : Int) + 1) = some q) (inn : (decide (q - x ∈ ([1, -1] : List Int))) = false) (e2 : (k : Int) + 1 - k = 1) : shO qs e (acc, (k : Int)) = .nx (acc ++ [(x, 1, 1)], (k : Int) + 1) := by
  have p1 : push acc (x, (1 : Int), (1 : Int)) = some (acc ++ [(x, 1, 1)]) := push_ok ha
  refine (ite_f c0).trans ?_
  refine (seq_eq (a := ((1 : Int), (k : Int) + 1)) ?_).trans ?_
  · refine (bnd_eq (a := false) ?_).trans (ite_f rfl)
    refine (ite_t b2).trans ?_
    refine (bnd_eq (ofO_eq a1)).trans ?_
    refine (bnd_eq (ofO_eq a0)).trans ?_
    rw [inn]
  · refine (bnd_eq (ofO_eq a0)).trans ?_
    show O.bnd (ofO (push acc (x, (k : Int) + 1 - k, (1 : Int)))) _ = _
    rw [e2]
    exact bnd_eq (ofO_eq p1)
theorem step_plain2 {qs : List Int} {k : Nat} {x e : Int} {acc : List Pc} (ha : acc.length < 16777216) (c0 : (decide ((qs.length : Int) ≤ k)) = false) (b2 : (decide ((k : Int) + 1 < (qs.length : Int))) = false) (a0 : atI qs (k : Int) = some x) (e2 : (k : Int) + 1 - k = 1) : shO qs e (acc, (k : Int)) = .nx (acc ++ [(x, 1, 1)], (k : Int) + 1) := by
  have p1 : push acc (x, (1 : Int), (1 : Int)) = some (acc ++ [(x, 1, 1)]) := push_ok ha
  unfold shO
  simp only [c0, b2, Bool.false_eq_true, if_false, if_true, a0, ofO_some, bnd_rt, oseq_nx, e2, p1]
theorem step_plain {qs : List Int} {k : Nat} {x e : Int} {acc : List Pc} (hlen : qs.length < 1000000) (ha : acc.length ≤ k) (hlt : k < qs.length) (a0 : atI qs (k : Int) = some x) (hn : ¬ ∃ q, qs[k + 1]? = some q ∧ (q - x = 1 ∨ q - x = -1)) : shO qs e (acc, (k : Int)) = .nx (acc ++ [(x, 1, 1)], (k : Int) + 1) := by
  have c0 : (decide ((qs.length : Int) ≤ k)) = false := decide_eq_false (by omega)
  have e1 : ((k + 1 : Nat) : Int) = (k : Int) + 1 := by omega
  have e2 : (k : Int) + 1 - k = 1 := by omega
  have hb : acc.length < 16777216 := by omega
  by_cases h7 : (k : Int) + 1 < qs.length
  · have h8 : k + 1 < qs.length := by omega
    have hq1 : qs[k + 1]? = some qs[k + 1] := List.getElem?_eq_getElem h8
    have a1 : atI qs ((k : Int) + 1) = some qs[k + 1] := at_i hq1 e1.symm
    have h9 : ¬ (qs[k + 1] - x = 1 ∨ qs[k + 1] - x = -1) := fun z => hn ⟨_, hq1, z⟩
    exact step_plain1 hb c0 (decide_eq_true h7) a0 a1 (by simpa using h9) e2
  · exact step_plain2 hb c0 (decide_eq_false h7) a0 e2
theorem outerS {qs : List Int} (hq : qs.length < 1000000) : ∀ (es : List Int) (k : Nat) (acc : List Pc), acc.length ≤ k → k ≤ qs.length → qs.length - k ≤ es.length → ∃ k' : Int, (nFor (shO qs) es (acc, (k : Int)) : O (List Pc × Int) Empty (List Pc)) = .nx (acc ++ short (qs.drop k), k') := by
  intro es
  induction es with
  | nil =>
    intro k acc ha hk hl
    have : k = qs.length := by simp at hl; omega
    subst this
    exact ⟨(qs.length : Int), by simp [short]⟩
  | cons e es ih =>
    intro k acc ha hk hl
    simp only [List.length_cons] at hl
    by_cases h0 : k = qs.length
    · subst h0
      refine ⟨(qs.length : Int), ?_⟩
      rw [nFor_bk (s' := (acc, (qs.length : Int))) (by unfold shO; simp)]
      simp [short]
    · have hlt : k < qs.length := by omega
      obtain ⟨x, hx⟩ : ∃ x, qs[k]? = some x := ⟨_, List.getElem?_eq_getElem hlt⟩
      have hd : qs.drop k = x :: qs.drop (k + 1) := by
        rw [List.drop_eq_getElem_cons hlt]
        congr 1
        have := List.getElem?_eq_getElem hlt
        rw [this] at hx; cases hx; rfl
      have hs : short (qs.drop k) = grow (x, 1, 1) (qs.drop (k + 1)) := by rw [hd]; rfl
      have e1 : ((k + 1 : Nat) : Int) = (k : Int) + 1 := by omega
      have a0 : atI qs (k : Int) = some x := atI_get hx
      have c0 : (decide ((qs.length : Int) ≤ k)) = false := by simp; omega
      by_cases hn : ∃ q, qs[k + 1]? = some q ∧ (q - x = 1 ∨ q - x = -1)
      · obtain ⟨q, hq1, ht⟩ := hn
        obtain ⟨hk1, _⟩ := List.getElem?_eq_some_iff.mp hq1
        obtain ⟨r, hr⟩ : ∃ r, qs.drop (k + 1) = q :: r := ⟨qs.drop (k + 1 + 1), by
          rw [List.drop_eq_getElem_cons hk1]
          congr 1⟩
        obtain ⟨d1, d2, d3⟩ := drop_some hr
        have a1 : atI qs ((k : Int) + 1) = some q := at_i hq1 e1.symm
        obtain ⟨m', m1, m2, m3, m4⟩ := inner_n (L := List Pc × Int) (k := k) (x := x) ht r (k + 1) q d2 (by omega) hq1 (by rw [e1]; rcases ht with ht | ht <;> rw [ht] <;> omega)
        rw [e1] at m3 m4
        have hg : short (qs.drop k) = (x, (m' : Int) - k, q - x) :: short (qs.drop m') := by
          have h5 : longer (x, 1, 1) q = some (x, (k : Int) + 1 + 1 - k, q - x) := by
            unfold longer
            simp only
            rw [if_pos ⟨trivial, by omega⟩]
            congr 2
            congr 1
            omega
          rw [hs, hr, grow_some h5, m3]
        have rl : ((qs.length : Int) - ((k : Int) + 1)).toNat = r.length + 1 := by
          have := congrArg List.length hr
          simp at this
          omega
        have loop : (nFor (shI qs (q - x)) (rgI ((k : Int) + 1) ((qs.length : Int) - ((k : Int) + 1)).toNat) ((k : Int) + 1) : O Int (List Pc × Int) (List Pc)) = .nx (m' : Int) := by
          rw [rl, rgI_succ, nFor_nx (s' := (k : Int) + 1 + 1) (by
            unfold shI; simp [a0, a1])]
          exact m4
        have st := step_run (e := e) (acc := acc) hq ha hk1 a0 a1 ht loop
        obtain ⟨k', h1⟩ := ih m' (acc ++ [(x, (m' : Int) - k, q - x)]) (by simp; omega) m2 (by omega)
        refine ⟨k', ?_⟩
        rw [nFor_nx st, h1, hg, List.append_assoc]; rfl
      · have hg : short (qs.drop k) = (x, 1, 1) :: short (qs.drop (k + 1)) := by
          rw [hs]
          cases hr : qs.drop (k + 1) with
          | nil => rfl
          | cons q r =>
            obtain ⟨d1, d2, d3⟩ := drop_some hr
            have hnn : ¬ (q - x = 1 ∨ q - x = -1) := fun z => hn ⟨q, d1, z⟩
            exact grow_none (by
              unfold longer
              simp only
              rw [if_neg (by omega), if_neg (by omega)])
        have e2 : (k : Int) + 1 - k = 1 := by omega
        have st := step_plain (e := e) (acc := acc) hq ha hlt a0 hn
        obtain ⟨k', h1⟩ := ih (k + 1) (acc ++ [(x, 1, 1)]) (by simp; omega) (by omega) (by omega)
        refine ⟨k', ?_⟩
        rw [e1] at h1
        rw [nFor_nx st, h1, hg, List.append_assoc]; rfl
theorem lshort_n (qs : List Int) (hl : qs.length < 1000000) : n__law_short qs = .rt (short qs) := by
  have e : n__law_short qs = O.bnd (ofO (rg1 (qs.length : Int))) fun x1 => O.seq (nFor (shO qs) x1 ([], 0)) fun (s21 : ((List (Int × Int × Int)) × Int)) => (.rt s21.1) := rfl
  obtain ⟨k', h⟩ := outerS hl (rgI 0 (qs.length : Int).toNat) 0 [] (Nat.le_refl _) (Nat.zero_le _) (by rw [rgI_len]; omega)
  rw [e, rg1_ok (by omega), ofO_some, bnd_rt]
  have h2 : ((0 : Nat) : Int) = 0 := rfl
  rw [h2, List.nil_append, List.drop_zero] at h
  rw [h]; rfl
end K09
namespace K09
open PySem L2 DL
def isI : D → Bool
  | .int _ => true
  | _ => false
def pc (p : Pc) : D := .tup [.int p.1, .int p.2.1, .int p.2.2]
def good3 : D → Option Pc
  | .tup [.int a, .int b, .int c] => some (a, b, c)
  | _ => none
theorem good3_eq {d : D} {p : Pc} (h : good3 d = some p) : d = pc p := by
  unfold good3 at h
  split at h
  · cases h; rfl
  · cases h
theorem good3_pc (p : Pc) : good3 (pc p) = some p := rfl
theorem isint_n (d : D) : n_is_integer d = .rt (isI d) := by cases d <;> rfl
/-- tuples are not too long -/
def Lng (d : D) : Prop := ∀ es, d = .tup es → es.length ≤ 16777216
def allI : D → Bool
  | .tup es => es.all isI
  | _ => false
theorem are_n {d : D} (h : Lng d) : n_are_integers d = .rt (allI d) := by
  cases d with
  | tup es =>
    unfold n_are_integers
    have e1 : nLs (fun (y2 : D) (s3 : Unit) => ((O.bnd (n_is_integer y2) fun x4 => (if (!x4) then (.rt (y2, ())) else (.nx ()))) : O Unit Empty (D × Unit))) es () = .rt (((es.filter fun d => !isI d).map fun d => d), ()) :=
      nLs_ok es (fun x _ => by rw [isint_n]; rfl) (h es rfl)
    have e2 : (decide ((((es.filter fun d => !isI d).map fun d => d).length : Int) = 0)) = es.all isI := by
      rw [Bool.eq_iff_iff]
      simp [List.filter_eq_nil_iff]
    simp only [isTup, if_true, asLs_t, ofO_some, bnd_rt, e1, e2]; rfl
  | _ => rfl
theorem bad_iff (xs : List D) : (good3 (.tup xs)).isNone = (!(xs.all isI) || !decide ((xs.length : Int) = 3)) := by
  rw [Bool.eq_iff_iff]
  match xs with
  | [] => simp [good3]
  | [a] => simp [good3]
  | [a, b] => simp [good3]
  | [a, b, c] => cases a <;> cases b <;> cases c <;> simp [good3, isI]
  | a :: b :: c :: d :: r => simp [good3]; omega
def chkF (y2 : D) (s3 : Unit) : O Unit Empty (D × Unit) := (O.bnd ((O.bnd (n_are_integers y2) fun x4 => (if (!x4) then (.rt true) else (O.bnd (ofO (lenD y2)) fun x5 => (.rt (!decide (x5 = 3)))))) : Fr Bool) fun x6 => (if x6 then (.rt (y2, ())) else (.nx ())))
theorem chkF_ok {d : D} (h : Lng d) : chkF d () = if (good3 d).isNone = true then .rt (d, ()) else .nx () := by
  unfold chkF
  rw [are_n h]
  cases d with
  | tup xs =>
    rw [bad_iff, bnd_rt]
    simp only [lenD_t, ofO_some, bnd_rt, allI]
    by_cases e : xs.all isI = true
    · simp only [e]; rfl
    · rw [Bool.not_eq_true] at e; simp only [e]; rfl
  | _ => rfl
def word (length : Int) (p : Pc) : Str :=
  if p.2.1 < 1 then "length" else if ¬ (p.2.2 = 1 ∨ p.2.2 = -1) then "step"
  else if 0 ≤ p.1 ∧ p.1 ≤ length - 1 ∧ 0 ≤ p.1 + p.2.2 * (p.2.1 - 1) ∧ p.1 + p.2.2 * (p.2.1 - 1) ≤ length - 1 then "" else "place"
theorem within_n (i a b : Int) : n_is_within (.int i) a b = .rt (decide (a ≤ i) && decide (i ≤ b)) := by
  unfold n_is_within
  rw [isint_n]
  simp [isI]
  by_cases h : a ≤ i <;> simp [h]
theorem last_n (p : Pc) (h : p.2.2 = 1 ∨ p.2.2 = -1) : n_last_place (pc p) = .rt (.int (p.1 + p.2.2 * (p.2.1 - 1))) := by
  have m : CMul p.2.2 (p.2.1 - 1) := .inl (by rcases h with h | h <;> omega)
  unfold n_last_place pc
  simp [m]
theorem niD_ok (i : Int) : niD (.int i) (.tup [.int 1, .int (-1)]) = some (!decide (i = 1 ∨ i = -1)) := by
  have := @h_niTI i [1, -1]
  rw [h_niD] at this
  simp at this
  cases e : niD (.int i) (.tup [.int 1, .int (-1)]) with
  | none => rw [e] at this; cases this
  | some b => rw [e] at this; simp at this; rw [this]; simp
theorem word_n (length : Int) (p : Pc) : n_piece_word length (pc p) = .rt (word length p) := by
  unfold n_piece_word word
  have e1 : gIx (pc p) (.int 1) = some (.int p.2.1) := rfl
  have e2 : gIx (pc p) (.int 2) = some (.int p.2.2) := rfl
  have e0 : gIx (pc p) (.int 0) = some (.int p.1) := rfl
  by_cases h1 : p.2.1 < 1
  · simp [e1, h1]
  · by_cases h2 : p.2.2 = 1 ∨ p.2.2 = -1
    · simp only [e1, e2, e0, ofO_some, bnd_rt, i2_i, Option.map_some, h1, decide_false, Bool.false_eq_true, if_false, niD_ok, h2, decide_true, Bool.not_true, within_n, last_n p h2, not_true_eq_false]
      by_cases h3 : 0 ≤ p.1 <;> by_cases h4 : p.1 ≤ length - 1 <;> by_cases h5 : 0 ≤ p.1 + p.2.2 * (p.2.1 - 1) <;> by_cases h6 : p.1 + p.2.2 * (p.2.1 - 1) ≤ length - 1 <;> simp [h3, h4, h5, h6]
    · simp only [e1, e2, e0, ofO_some, bnd_rt, i2_i, Option.map_some, h1, decide_false, Bool.false_eq_true, if_false, niD_ok, h2, Bool.not_false, if_true, not_false_eq_true]
def firstBad (length : Int) : Nat → List Pc → Option (Int × Str)
  | _, [] => none
  | i, p :: ps => if word length p = "" then firstBad length (i + 1) ps else some ((i : Int), word length p)
def sumL (ps : List Pc) : Int := (ps.map fun p => p.2.1).sum
/-- what check_pieces does -/
def chk (length : Int) : D → Fr Int
  | .tup es => if es.all (fun d => (good3 d).isSome) = true then (match firstBad length 0 (es.filterMap good3) with
      | some (i, w) => .exc ⟨2, [("at", .int i), ("word", .str w)]⟩
      | none => .rt (sumL (es.filterMap good3)))
    else .exc ⟨2, [("at", .int (-1)), ("word", .str "shape")]⟩
  | _ => .exc ⟨2, [("at", .int (-1)), ("word", .str "shape")]⟩
def flt (length : Int) : D → Option (Int × Str)
  | .tup es => if es.all (fun d => (good3 d).isSome) = true then firstBad length 0 (es.filterMap good3) else some (-1, "shape")
  | _ => some (-1, "shape")
/-- thing and its items -/
def Fine (d : D) : Prop := ∀ es, d = .tup es → es.length ≤ 1000000 ∧ ∀ e ∈ es, Lng e
theorem all_good : ∀ {es : List D}, es.all (fun d => (good3 d).isSome) = true → es = (es.filterMap good3).map pc
  | [], _ => rfl
  | d :: es, h => by
    rw [List.all_cons, Bool.and_eq_true] at h
    cases e : good3 d with
    | none => rw [e] at h; cases h.1
    | some p => rw [List.filterMap_cons_some e, List.map_cons, ← all_good h.2, ← good3_eq e]
theorem enumD_pc {ps : List Pc} : ∀ {i : Nat}, enumD i (ps.map pc) = (enI i ps).map fun q => .tup [.int q.1, pc q.2] := by
  intro i; exact en_map ps i
def chkL (length0 : Int) (y11 : D) (s10 : Unit) : O Unit Unit Int := (O.bnd (ofO (un2 y11)) fun p12 => (O.bnd (ofO (asI p12.1)) fun c13 => (O.bnd (n_piece_word length0 p12.2) fun x14 => (if (!decide (x14 = ("" : Str))) then (.exc ⟨2, (["at", "word"] : List Str).zip [(D.int c13), (D.str x14)]⟩) else (.nx ())))))
theorem chkL_ok (length : Int) : ∀ (ps : List Pc) (i : Nat), (nFor (chkL length) (enumD i (ps.map pc)) () : O Unit Empty Int) = match firstBad length i ps with
      | some (i, w) => .exc ⟨2, [("at", .int i), ("word", .str w)]⟩
      | none => .nx ()
  | [], _ => rfl
  | p :: ps, i => by
    rw [List.map_cons]
    unfold enumD firstBad
    by_cases h : word length p = ""
    · rw [nFor_nx (s' := ()) (by unfold chkL un2; simp [word_n, h]), chkL_ok length ps (i + 1), if_pos h]
    · rw [nFor_exc (b := ⟨2, [("at", .int i), ("word", .str (word length p))]⟩) (by unfold chkL un2; simp [word_n, h]), if_neg h]
theorem check_n {length : Int} {d : D} (h : Fine d) : n_check_pieces length d = chk length d := by
  cases d with
  | tup es =>
    obtain ⟨h1, h2⟩ := h es rfl
    have e0 : n_check_pieces length (.tup es) = O.bnd (O.bnd (nLs chkF es ()) fun (r7 : List D × Unit) => (.rt (decide (0 < (r7.1.length : Int)))) : Fr Bool) fun x8 => (if x8 then (.exc ⟨2, (["at", "word"] : List Str).zip [(D.int (-1)), (D.str ("shape" : Str))]⟩) else (O.seq (nFor (chkL length) (enumD 0 es) ()) fun (s15 : Unit) => (O.bnd (nLs (fun (y17 : D) (s18 : Unit) => ((O.bnd (ofO (gIx y17 (D.int 1))) fun x19 => (.rt (x19, ()))) : O Unit Empty (D × Unit))) es ()) fun (r20 : List D × Unit) => (O.bnd (ofO (sumD ((vL vD) r20.1))) fun x21 => (.rt x21))))) := rfl
    have e1 : nLs chkF es () = .rt (((es.filter fun d => (good3 d).isNone).map fun d => d), ()) := nLs_ok es (fun x hx => chkF_ok (h2 x hx)) (by omega)
    rw [e0, e1, bnd_rt, bnd_rt]
    have e9 : chk length (.tup es) = if es.all (fun d => (good3 d).isSome) = true then (match firstBad length 0 (es.filterMap good3) with
      | some (i, w) => .exc ⟨2, [("at", .int i), ("word", .str w)]⟩
      | none => .rt (sumL (es.filterMap good3)))
    else .exc ⟨2, [("at", .int (-1)), ("word", .str "shape")]⟩ := rfl
    rw [e9]
    by_cases hg : es.all (fun d => (good3 d).isSome) = true
    · rw [if_pos hg]
      have e2 : (decide (0 < (((es.filter fun d => (good3 d).isNone).map fun d => d).length : Int))) = false := by
        have : (es.filter fun d => (good3 d).isNone) = [] := by
          rw [List.filter_eq_nil_iff]
          intro a ha
          have := List.all_eq_true.mp hg a ha
          cases q : good3 a <;> simp_all
        rw [this]; rfl
      rw [ite_f e2]
      have e3 := all_good hg
      have e4 := chkL_ok length (es.filterMap good3) 0
      rw [← e3] at e4
      rw [e4]
      cases firstBad length 0 (es.filterMap good3) with
      | some q => rfl
      | none =>
        simp only [oseq_nx]
        have e5 : nLs (fun (y17 : D) (s18 : Unit) => ((O.bnd (ofO (gIx y17 (D.int 1))) fun x19 => (.rt (x19, ()))) : O Unit Empty (D × Unit))) es () = .rt (((es.filterMap good3).map fun p => D.int p.2.1), ()) := by
          rw [e3]
          rw [nLs_map (g := fun d => match d with | .tup [_, b, _] => b | _ => .non)]
          · rw [List.filterMap_map]
            have : (good3 ∘ pc) = some := by funext p; rfl
            rw [this, List.filterMap_some, List.map_map]; rfl
          · intro x hx
            obtain ⟨p, _, rfl⟩ := List.mem_map.mp hx
            rfl
          · rw [List.length_map]; exact Nat.le_trans (List.length_filterMap_le _ _) (by omega)
        rw [e5, bnd_rt]
        have e6 : sumD (vL vD ((es.filterMap good3).map fun p => D.int p.2.1)) = some (sumL (es.filterMap good3)) := by
          unfold vL sumL
          rw [List.map_map, show (vD ∘ fun (p : Pc) => D.int p.2.1) = D.int ∘ (fun (p : Pc) => p.2.1) from rfl, ← List.map_map, sumD_l]
        rw [e6]; rfl
    · rw [if_neg hg]
      have e2 : (decide (0 < (((es.filter fun d => (good3 d).isNone).map fun d => d).length : Int))) = true := by
        rw [decide_eq_true_iff]
        have : (es.filter fun d => (good3 d).isNone) ≠ [] := by
          intro q
          rw [List.filter_eq_nil_iff] at q
          apply hg
          rw [List.all_eq_true]
          intro a ha
          have := q a ha
          cases z : good3 a <;> simp_all
        rw [List.length_map]
        have := List.length_pos_iff.mpr this
        omega
      rw [ite_t e2]; rfl
  | _ => rfl
end K09
namespace K09
open PySem L2 DL
def fltF (y3 : D) (s2 : Unit) : O Unit Unit (Option (Int × Str)) := (O.bnd ((if (!(isTup y3)) then (.rt true) else (O.bnd ((O.bnd (ofO (lenD y3)) fun x4 => (if (!decide (x4 = 3)) then (.rt true) else (O.bnd (ofO (asLs y3)) fun x5 => (O.bnd (ofO (sized (List.map (fun (y6 : D) => y6) (List.filter (fun (y6 : D) => ((!(isInt y6)) || (isBl y6))) x5)))) fun x7 => (.rt (decide (0 < (x7.length : Int)))))))) : Fr Bool) fun x8 => (.rt x8))) : Fr Bool) fun x9 => (if x9 then (.rt (some ((-1), ("shape" : Str)))) else (.nx ())))
theorem notI (d : D) : ((!(isInt d)) || (isBl d)) = !isI d := by cases d <;> rfl
theorem fltF_ok {d : D} (h : Lng d) : fltF d () = if (good3 d).isNone = true then .rt (some (-1, "shape")) else .nx () := by
  unfold fltF
  cases d with
  | tup xs =>
    have hx := h xs rfl
    rw [bad_iff]
    have e1 : (isTup (.tup xs)) = true := rfl
    simp only [e1, Bool.not_true, Bool.false_eq_true, if_false, lenD_t, ofO_some, bnd_rt, asLs_t, notI, List.map_id_fun', id_eq]
    rw [sized_ok (Nat.le_trans (List.length_filter_le _ _) hx)]
    by_cases q : (xs.length : Int) = 3
    · simp only [q, decide_true, Bool.not_true, Bool.false_eq_true, if_false, ofO_some, bnd_rt, Bool.or_false]
      have : (decide (0 < ((xs.filter fun d => !isI d).length : Int))) = !xs.all isI := by
        rw [Bool.eq_iff_iff]
        rw [decide_eq_true_iff, Bool.not_eq_true', ← Bool.not_eq_true, List.all_eq_true]
        constructor
        · intro hp ha
          have : (xs.filter fun d => !isI d) = [] := by
            rw [List.filter_eq_nil_iff]; intro a hm; simp [ha a hm]
          rw [this] at hp; simp at hp
        · intro hn
          have : (xs.filter fun d => !isI d) ≠ [] := by
            intro z; rw [List.filter_eq_nil_iff] at z
            apply hn; intro a hm
            have := z a hm
            simpa using this
          have := List.length_pos_iff.mpr this
          omega
      rw [this]
    · simp only [q, decide_false, Bool.not_false, if_true, bnd_rt, Bool.or_true]
  | _ => rfl
def fltL (length0 : Int) (thing0 : D) (y14 : Int) (s13 : Unit) : O Unit Unit (Option (Int × Str)) := (O.bnd (ofO (gIx thing0 (D.int y14))) fun x15 => (O.bnd (ofO (un3 x15)) fun p16 => (O.bnd (ofO (Option.map (fun p : Int × Int => decide (p.1 < p.2)) (i2 p16.2.1 (D.int 1)))) fun x17 => (if x17 then (.rt (some (y14, ("length" : Str)))) else (O.bnd (ofO (niD p16.2.2 (D.tup [(D.int 1), (D.int (-1))]))) fun x18 => (if x18 then (.rt (some (y14, ("step" : Str)))) else (O.bnd ((O.bnd (ofO (Option.map (fun p : Int × Int => p.1 - p.2) (i2 p16.2.1 (D.int 1)))) fun x19 => (O.bnd (ofO (gMul p16.2.2 (D.int x19))) fun x20 => (O.bnd (ofO (gAdd p16.1 x20)) fun x21 => (O.bnd (ofO (minD [p16.1, x21])) fun x22 => (if (decide (x22 < 0)) then (.rt true) else (O.bnd (ofO (Option.map (fun p : Int × Int => p.1 - p.2) (i2 p16.2.1 (D.int 1)))) fun x23 => (O.bnd (ofO (gMul p16.2.2 (D.int x23))) fun x24 => (O.bnd (ofO (gAdd p16.1 x24)) fun x25 => (O.bnd (ofO (maxD [p16.1, x25])) fun x26 => (.rt (decide (length0 ≤ x26)))))))))))) : Fr Bool) fun x27 => (if x27 then (.rt (some (y14, ("place" : Str)))) else (.nx ())))))))))
theorem min2 (i j : Int) : minD [.int i, .int j] = some (if j < i then j else i) := rfl
theorem max2 (i j : Int) : maxD [.int i, .int j] = some (if j > i then j else i) := rfl
theorem fltL1 {length : Int} {d : D} {p : Pc} {i : Nat} (h : gIx d (.int i) = some (pc p)) : fltL length d i () = if word length p = "" then .nx () else .rt (some ((i : Int), word length p)) := by
  unfold fltL word
  rw [h]
  have u : un3 (pc p) = some (.int p.1, .int p.2.1, .int p.2.2) := rfl
  rw [ofO_some, bnd_rt, u, ofO_some, bnd_rt]
  simp only [i2_i, Option.map_some, ofO_some, bnd_rt]
  have n1 : ¬ (("length" : Str) = "") := by decide
  have n2 : ¬ (("step" : Str) = "") := by decide
  have n3 : ¬ (("place" : Str) = "") := by decide
  by_cases h1 : p.2.1 < 1
  · simp only [h1, decide_true, if_true, n1, if_false]
  · by_cases h2 : p.2.2 = 1 ∨ p.2.2 = -1
    · have m : CMul p.2.2 (p.2.1 - 1) := .inl (by rcases h2 with h2 | h2 <;> omega)
      simp only [h1, decide_false, Bool.false_eq_true, if_false, niD_ok, h2, decide_true, Bool.not_true, ofO_some, bnd_rt, gMul_i, m, if_true, gAdd_i, min2, max2, not_true_eq_false]
      generalize p.1 + p.2.2 * (p.2.1 - 1) = z
      generalize p.1 = y
      by_cases h3 : (if z < y then z else y) < 0
      · simp only [h3, decide_true, if_true, bnd_rt]
        rw [if_neg (c := 0 ≤ y ∧ y ≤ length - 1 ∧ 0 ≤ z ∧ z ≤ length - 1) (by split at h3 <;> omega)]
        simp only [n3, if_false]
      · simp only [h3, decide_false, if_false, bnd_rt, Bool.false_eq_true]
        by_cases h4 : length ≤ (if z > y then z else y)
        · simp only [h4, decide_true, if_true]
          rw [if_neg (c := 0 ≤ y ∧ y ≤ length - 1 ∧ 0 ≤ z ∧ z ≤ length - 1) (by split at h4 <;> omega)]
          simp only [n3, if_false]
        · simp only [h4, decide_false, if_false, Bool.false_eq_true]
          rw [if_pos (c := 0 ≤ y ∧ y ≤ length - 1 ∧ 0 ≤ z ∧ z ≤ length - 1) (by split at h3 <;> split at h4 <;> omega)]
          simp only [if_true]
    · simp only [h1, decide_false, Bool.false_eq_true, if_false, niD_ok, h2, Bool.not_false, ofO_some, bnd_rt, if_true, not_false_eq_true, n2]
theorem fltL_ok (length : Int) (all : List Pc) : ∀ (ps : List Pc) (i : Nat), all.drop i = ps → (nFor (fltL length (.tup (all.map pc))) (rgI (i : Int) ps.length) () : O Unit Empty (Option (Int × Str))) = match firstBad length i ps with
      | some q => .rt (some q)
      | none => .nx ()
  | [], _, _ => rfl
  | p :: ps, i, h => by
    have h0 : all[i]? = some p := by
      have := congrArg (fun l => l[0]?) h
      simpa using this
    have h1 : all.drop (i + 1) = ps := by rw [← List.drop_drop, h]; rfl
    rw [List.length_cons, rgI_succ]
    have g : gIx (.tup (all.map pc)) (.int (i : Int)) = some (pc p) := by
      rw [h_ixT, atI_get h0]; rfl
    have st := fltL1 (length := length) g
    have c : ((i : Int) + 1) = ((i + 1 : Nat) : Int) := by omega
    unfold firstBad
    by_cases hw : word length p = ""
    · rw [nFor_nx (s' := ()) (by rw [st, if_pos hw]), if_pos hw, c, fltL_ok length all ps (i + 1) h1]
    · rw [nFor_rt (b := some ((i : Int), word length p)) (by rw [st, if_neg hw]), if_neg hw]
theorem fault_n {length : Int} {d : D} (h : Fine d) : n__law_fault length d = .rt (flt length d) := by
  cases d with
  | tup es =>
    obtain ⟨h1, h2⟩ := h es rfl
    have e0 : n__law_fault length (.tup es) = O.seq (nFor fltF es ()) fun (s10 : Unit) => (O.bnd (ofO (lenD (.tup es))) fun x11 => O.bnd (ofO (rg1 x11)) fun x12 => (O.seq (nFor (fltL length (.tup es)) x12 ()) fun (s28 : Unit) => (.rt none))) := rfl
    rw [lenD_t] at e0
    have e9 : flt length (.tup es) = if es.all (fun d => (good3 d).isSome) = true then firstBad length 0 (es.filterMap good3) else some (-1, "shape") := rfl
    rw [e0, e9]
    have first : ∀ xs : List D, (∀ e ∈ xs, Lng e) → (nFor fltF xs () : O Unit Empty (Option (Int × Str))) = if xs.all (fun d => (good3 d).isSome) = true then .nx () else .rt (some (-1, "shape")) := by
      intro xs
      induction xs with
      | nil => intro _; rfl
      | cons x xs ih =>
        intro hl
        have ih := ih fun e he => hl e (List.mem_cons_of_mem _ he)
        have hx := fltF_ok (hl x List.mem_cons_self)
        cases q : good3 x with
        | none =>
          rw [q] at hx
          rw [nFor_rt (b := (some (-1, "shape") : Option (Int × Str))) (by rw [hx]; rfl), List.all_cons, q]; rfl
        | some p =>
          rw [q] at hx
          rw [nFor_nx (s' := ()) (by rw [hx]; rfl), ih, List.all_cons, q]; rfl
    rw [first es h2]
    by_cases hg : es.all (fun d => (good3 d).isSome) = true
    · rw [if_pos hg, if_pos hg, oseq_nx, ofO_some, bnd_rt, rg1_ok (by omega), ofO_some, bnd_rt]
      have e3 := all_good hg
      have e4 := fltL_ok length (es.filterMap good3) (es.filterMap good3) 0 rfl
      have e5 : (es.length : Int).toNat = (es.filterMap good3).length := by
        have := congrArg List.length e3
        rw [List.length_map] at this
        omega
      rw [e5]
      rw [← e3] at e4
      have e6 : ((0 : Nat) : Int) = 0 := rfl
      rw [e6] at e4
      rw [e4]
      cases firstBad length 0 (es.filterMap good3) <;> rfl
    · rw [if_neg hg, if_neg hg]; rfl
  | _ => rfl
/-- what is heard -/
def heard (length : Int) (d : D) : D := match chk length d with
  | .rt n => .tup [.str "told", .int n]
  | .exc e => .tup (.str "bad" :: e.fs.map (·.2))
  | _ => .non
theorem lawbad (i : Int) (w : Str) : (O.seq (tryN (O.exc ⟨2, [("at", .int i), ("word", .str w)]⟩ : O Empty Empty D) [(2, true)] (fun e => noXO (O.bnd ((O.bnd ((O.bnd (ofO (([(2, true)] : List (Nat × Bool)).lookup e.c)) fun x3 => (if x3 then (O.bnd (ofO (([(2, true)] : List (Nat × Bool)).lookup e.c)) fun x4 => (.rt x4)) else (.rt false))) : Fr Bool) fun x5 => (if x5 then (O.bnd (ofO (whyN e 2 "at")) fun x6 => (O.bnd (ofO (whyN e 2 "word")) fun x7 => (.rt (D.tup [(D.str ("bad" : Str)), x6, x7])))) else (.rt (D.tup [(D.str ("other" : Str))])))) : Fr D) fun x8 => (.rt x8)))) fun (s : Empty) => s.elim : Fr D) = .rt (.tup [.str "bad", .int i, .str w]) := by
  have l : ([(2, true)] : List (Nat × Bool)).lookup 2 = some true := rfl
  have w1 : whyN ⟨2, [("at", .int i), ("word", .str w)]⟩ 2 "at" = some (.int i) := rfl
  have w2 : whyN ⟨2, [("at", .int i), ("word", .str w)]⟩ 2 "word" = some (.str w) := by
    unfold whyN
    rw [if_pos rfl]
    rw [List.lookup_cons]
    have : (("word" : Str) == "at") = false := by decide
    rw [this]
    rw [List.lookup_cons]
    simp
  simp only [tryN_exc, l]
  simp [w1, w2]
theorem heard_n {length : Int} {d : D} (h : Fine d) : n__law_heard length d = .rt (heard length d) := by
  unfold n__law_heard heard
  rw [check_n h]
  have sh := lawbad (-1) "shape"
  cases d with
  | tup es =>
    have e9 : chk length (.tup es) = if es.all (fun d => (good3 d).isSome) = true then (match firstBad length 0 (es.filterMap good3) with
      | some (i, w) => .exc ⟨2, [("at", .int i), ("word", .str w)]⟩
      | none => .rt (sumL (es.filterMap good3)))
    else .exc ⟨2, [("at", .int (-1)), ("word", .str "shape")]⟩ := rfl
    rw [e9]
    by_cases hg : es.all (fun d => (good3 d).isSome) = true
    · rw [if_pos hg]
      cases q : firstBad length 0 (es.filterMap good3) with
      | none => rfl
      | some z => exact lawbad z.1 z.2
    · rw [if_neg hg]; exact sh
  | _ => exact sh
theorem right_n {length : Int} {d : D} (h : Fine d) : n__law_right length d = .rt true := by
  unfold n__law_right
  rw [fault_n h, bnd_rt, heard_n h, bnd_rt]
  have bad : ∀ (i : Int) (w : Str), x__law_same [.tup [.str "bad", .int i, .str w], .tup [.str "bad", .int i, .str w]] = .rt (.bl true) := fun i w => same_n rfl rfl (by simp [sz1, szs])
  have told : ∀ (i : Int), x__law_same [.tup [.str "told", .int i], .tup [.str "told", .int i]] = .rt (.bl true) := fun i => same_n rfl rfl (by simp [sz1, szs])
  cases d with
  | tup es =>
    obtain ⟨h1, h2⟩ := h es rfl
    have e9 : flt length (.tup es) = if es.all (fun d => (good3 d).isSome) = true then firstBad length 0 (es.filterMap good3) else some (-1, "shape") := rfl
    have e8 : heard length (.tup es) = if es.all (fun d => (good3 d).isSome) = true then (match firstBad length 0 (es.filterMap good3) with
      | some (i, w) => .tup [.str "bad", .int i, .str w]
      | none => .tup [.str "told", .int (sumL (es.filterMap good3))]) else .tup [.str "bad", .int (-1), .str "shape"] := by
      unfold heard chk
      by_cases hg : es.all (fun d => (good3 d).isSome) = true
      · simp only [hg, if_true]
        cases firstBad length 0 (es.filterMap good3) <;> rfl
      · simp only [hg, if_false]; rfl
    rw [e8, e9]
    by_cases hg : es.all (fun d => (good3 d).isSome) = true
    · simp only [hg, if_true]
      cases q : firstBad length 0 (es.filterMap good3) with
      | some z =>
        obtain ⟨i, w⟩ := z
        simp only [Option.isNone_some, Bool.false_eq_true, if_false, ofO_some, bnd_rt, bad, asB_b]
      | none =>
        have e3 := all_good hg
        have e5 : nLs (fun (y4 : D) (s5 : Unit) => ((O.bnd (ofO (gIx y4 (D.int 1))) fun x6 => (.rt (x6, ()))) : O Unit Empty (D × Unit))) es () = .rt (((es.filterMap good3).map fun p => D.int p.2.1), ()) := by
          rw [e3]
          rw [nLs_map (g := fun d => match d with | .tup [_, b, _] => b | _ => .non)]
          · rw [List.filterMap_map]
            have : (good3 ∘ pc) = some := by funext p; rfl
            rw [this, List.filterMap_some, List.map_map]; rfl
          · intro x hx
            obtain ⟨p, _, rfl⟩ := List.mem_map.mp hx
            rfl
          · rw [List.length_map]; exact Nat.le_trans (List.length_filterMap_le _ _) (by omega)
        have e6 : sumD (vL vD ((es.filterMap good3).map fun p => D.int p.2.1)) = some (sumL (es.filterMap good3)) := by
          unfold vL sumL
          rw [List.map_map, show (vD ∘ fun (p : Pc) => D.int p.2.1) = D.int ∘ (fun (p : Pc) => p.2.1) from rfl, ← List.map_map, sumD_l]
        simp only [Option.isNone_none, if_true, asLs_t, ofO_some, bnd_rt, e5, e6, told, asB_b]
    · simp only [hg, if_false, Option.isNone_some, Bool.false_eq_true, ofO_some, bnd_rt, bad, asB_b]
  | _ => exact (bnd_eq (a := D.tup [.str "bad", .int (-1), .str "shape"]) rfl).trans ((bnd_eq (bad _ _)).trans rfl)
end K09
namespace K09
open PySem L2 DL
theorem last_of {α : Type} {xs : List α} (h : xs ≠ []) : ∃ ys a, xs = ys ++ [a] := ⟨xs.dropLast, xs.getLast h, (List.dropLast_concat_getLast h).symm⟩
theorem places_n {p : D} (hp : PondOk p) : ∃ ps p', n__law_places p = .rt (ps, p') ∧ PondOk p' ∧ ps.length < 1000 := by
  unfold n__law_places
  obtain ⟨r1, p1, e1, a1, b1, h1⟩ := frog_n hp (n := 9) (by decide)
  obtain ⟨r2, p2, e2, a2, b2, h2⟩ := frog_n h1 (n := 5) (by decide)
  rw [e1, bnd_rt, bnd_rt, e2, bnd_rt, rg1_ok (by simp only; omega), ofO_some, bnd_rt]
  generalize hF : (fun (y6 : Int) (s5 : (D × (List Int))) => _) = F
  have st : ∀ (x : Int) (r : List Int) (s : D × List Int), (PondOk s.1 ∧ s.2 ≠ [] ∧ s.2.length + 4 * (x :: r).length ≤ 100) → ∃ s', F x s = .nx s' ∧ (PondOk s'.1 ∧ s'.2 ≠ [] ∧ s'.2.length + 4 * r.length ≤ 100) := by
    rintro x r ⟨q, l⟩ ⟨hq, hl, hb⟩
    simp only [List.length_cons] at hq hl hb ⊢
    obtain ⟨r3, p3, e3, a3, b3, h3⟩ := frog_n hq (n := 5) (by decide)
    obtain ⟨r4, p4, e4, a4, b4, h4⟩ := frog_n h3 (n := 4) (by decide)
    subst hF
    simp only [e3, e4, bnd_rt]
    rw [rg1_ok (by omega), ofO_some, bnd_rt]
    generalize hG : (fun (y11 : Int) (s10 : (D × (List Int))) => _) = G
    have st2 : ∀ (x : Int) (r' : List Int) (s : D × List Int), (PondOk s.1 ∧ s.2 ≠ [] ∧ s.2.length + (x :: r').length ≤ l.length + 4) → ∃ s', G x s = .nx s' ∧ (PondOk s'.1 ∧ s'.2 ≠ [] ∧ s'.2.length + r'.length ≤ l.length + 4) := by
      rintro y r' ⟨q2, l2⟩ ⟨hq2, hl2, hb2⟩
      simp only [List.length_cons] at hq2 hl2 hb2 ⊢
      obtain ⟨ini, z, rfl⟩ := last_of hl2
      subst hG
      simp only [DL.atI_last, ofO_some, bnd_rt]
      obtain ⟨r5, p5, e5, a5, b5, h5⟩ := frog_n hq2 (n := 12) (by decide)
      have fin : ∀ (v : Int) (w : D), PondOk w → ∃ s', (O.bnd (ofO (push (α := Int) (ini ++ [z]) v)) fun told18 => (.nx (w, told18)) : O (D × List Int) (D × List Int) (List Int × D)) = .nx s' ∧ (PondOk s'.1 ∧ s'.2 ≠ [] ∧ s'.2.length + r'.length ≤ l.length + 4) := by
        intro v w hw
        rw [push_ok (by omega)]
        exact ⟨(w, (ini ++ [z]) ++ [v]), rfl, hw, by simp, by simp at hb2 ⊢; omega⟩
      by_cases c0 : r3 = 0
      · simp only [c0, decide_true, if_true, bnd_rt]; exact fin _ _ hq2
      · by_cases c1 : r3 = 1
        · simp only [c1, decide_true, if_true, bnd_rt]; exact fin _ _ hq2
        · by_cases c2 : r3 = 2
          · simp only [c2, decide_true, if_true, bnd_rt]; exact fin _ _ hq2
          · simp only [c0, c1, c2, decide_false, Bool.false_eq_true, if_false, e5, bnd_rt]; exact fin _ _ h5
    obtain ⟨s', h5, h6, h7, h8⟩ := nFor_ex (L := D × List Int) (P := fun r' s => PondOk s.1 ∧ s.2 ≠ [] ∧ s.2.length + r'.length ≤ l.length + 4) st2 (rgI 0 r4.toNat) (p4, l) ⟨h4, hl, by rw [rgI_len]; simp only; omega⟩
    rw [h5]
    exact ⟨(s'.1, s'.2), rfl, h6, h7, by simp at h8; simp only; omega⟩
  obtain ⟨s', h5, h6, h7, h8⟩ := nFor_ex (L := Empty) (P := fun r s => PondOk s.1 ∧ s.2 ≠ [] ∧ s.2.length + 4 * r.length ≤ 100) st (rgI 0 r2.toNat) (p2, [r1]) ⟨h2, by simp, by rw [rgI_len]; simp only [List.length_singleton]; omega⟩
  rw [h5, oseq_nx]
  obtain ⟨r7, p7, e7, a7, b7, h7'⟩ := frog_n h6 (n := 2) (by decide)
  obtain ⟨r8, p8, e8, a8, b8, h8'⟩ := frog_n h7' (n := 2) (by decide)
  simp only [e7, e8, bnd_rt]
  rw [mulI_l (by omega), ofO_some, bnd_rt]
  refine ⟨_, _, rfl, h8', ?_⟩
  have : (cutD s'.2 (some (r7 * r8)) none).length ≤ s'.2.length := by
    rw [cut_drop (Int.mul_nonneg a7 a8)]; simp
  simp at h8
  omega
/-- drawn pieces -/
def Dr (p : Pc) : Prop := Sm p ∧ 1 ≤ p.2.1 ∧ p.2.1 ≤ 4
theorem pieces_n {p : D} (hp : PondOk p) : ∃ ps p', n__law_pieces p = .rt (ps, p') ∧ PondOk p' ∧ ps.length ≤ 4 ∧ ∀ q ∈ ps, Dr q := by
  unfold n__law_pieces
  obtain ⟨r1, p1, e1, a1, b1, h1⟩ := frog_n hp (n := 5) (by decide)
  rw [e1, bnd_rt, rg1_ok (by simp only; omega), ofO_some, bnd_rt]
  generalize hF : (fun (y4 : Int) (s3 : (D × (List (Int × Int × Int)))) => _) = F
  have st : ∀ (x : Int) (r : List Int) (s : D × List Pc), (PondOk s.1 ∧ s.2.length + (x :: r).length ≤ 4 ∧ ∀ q ∈ s.2, Dr q) → ∃ s', F x s = .nx s' ∧ (PondOk s'.1 ∧ s'.2.length + r.length ≤ 4 ∧ ∀ q ∈ s'.2, Dr q) := by
    rintro x r ⟨q, l⟩ ⟨hq, hb, hd⟩
    simp only [List.length_cons] at hq hb hd ⊢
    obtain ⟨r3, p3, e3, a3, b3, h3⟩ := frog_n hq (n := 4) (by decide)
    obtain ⟨r4, p4, e4, a4, b4, h4⟩ := frog_n h3 (n := 2) (by decide)
    obtain ⟨r5, p5, e5, a5, b5, h5⟩ := frog_n h4 (n := 20) (by decide)
    subst hF
    simp only [e3, e4, e5, bnd_rt]
    obtain ⟨t, et, ht⟩ : ∃ t : Int, atI ([1, (-1)] : List Int) r4 = some t ∧ (t = 1 ∨ t = -1) := by
      rcases (by omega : r4 = 0 ∨ r4 = 1) with rfl | rfl
      · exact ⟨1, rfl, .inl rfl⟩
      · exact ⟨-1, rfl, .inr rfl⟩
    rw [et, ofO_some, bnd_rt, push_ok (by omega), ofO_some, bnd_rt]
    refine ⟨_, rfl, h5, by simp; omega, fun q hq => ?_⟩
    rcases List.mem_append.mp hq with h | h
    · exact hd q h
    · rw [List.mem_singleton] at h
      subst h
      exact ⟨ht, by simp only; omega, by simp only; omega⟩
  obtain ⟨s', h5, h6, h7, h8⟩ := nFor_ex (L := Empty) (P := fun r s => PondOk s.1 ∧ s.2.length + r.length ≤ 4 ∧ ∀ q ∈ s.2, Dr q) st (rgI 0 r1.toNat) (p1, []) ⟨h1, by rw [rgI_len]; simp only [List.length_nil]; omega, by simp⟩
  rw [h5]
  exact ⟨_, _, rfl, h6, by simpa using h7, h8⟩
/-- what may stand among what is bent: no long tuples -/
def Lt10 (d : D) : Prop := ∀ es, d = .tup es → es.length ≤ 10
theorem Lt10.l {d : D} (h : Lt10 d) : Lng d := fun es e => Nat.le_trans (h es e) (by decide)
theorem lt_pc (p : Pc) : Lt10 (pc p) := fun es e => by cases e; show (3 : Nat) ≤ 10; decide
theorem fine_app {a c : List Pc} {e : D} (ha : a.length ≤ 4) (hc : c.length ≤ 4) (he : Lt10 e) : Fine (.tup (a.map pc ++ [e] ++ c.map pc)) := by
  intro es q
  cases q
  refine ⟨by simp; omega, fun x hx => ?_⟩
  simp only [List.mem_append, List.mem_map, List.mem_singleton] at hx
  rcases hx with (⟨p, _, rfl⟩ | rfl) | ⟨p, _, rfl⟩
  · exact (lt_pc p).l
  · exact he.l
  · exact (lt_pc p).l
theorem fine_pcs {a : List Pc} (ha : a.length ≤ 1000) : Fine (.tup (a.map pc)) := by
  intro es q
  cases q
  refine ⟨by simp; omega, fun x hx => ?_⟩
  obtain ⟨p, _, rfl⟩ := List.mem_map.mp hx
  exact (lt_pc p).l
theorem cat3 {a c : List Pc} {e : D} (ha : a.length ≤ 4) (hc : c.length ≤ 4) : ∃ x, gAdd (.tup (a.map pc)) (.tup [e]) = some x ∧ gAdd x (.tup (c.map pc)) = some (.tup (a.map pc ++ [e] ++ c.map pc)) := by
  refine ⟨.tup (a.map pc ++ [e]), ?_, ?_⟩
  · rw [gAdd_t, if_pos (by rw [sz]; simp; omega)]
  · rw [gAdd_t, if_pos (by rw [sz]; simp; omega)]
theorem fine_not {d : D} (h : isTup d = false) : Fine d := fun es e => by subst e; cases h
theorem bent_n {p : D} (hp : PondOk p) {ps : List Pc} (hl : ps.length ≤ 4) : ∃ b p', n__law_bent p ps = .rt (b, p') ∧ PondOk p' ∧ Fine b := by
  unfold n__law_bent
  by_cases h0 : ps.length = 0
  · rw [ite_t (by rw [decide_eq_true_iff]; omega)]
    exact ⟨_, _, rfl, hp, fine_pcs (a := [(0, 0, 1)]) (by decide)⟩
  · rw [ite_f (by rw [decide_eq_false_iff_not]; omega)]
    obtain ⟨r1, p1, e1, a1, b1, h1⟩ := frog_n hp (n := (ps.length : Int)) (by omega)
    obtain ⟨r2, p2, e2, a2, b2, h2⟩ := frog_n h1 (n := 6) (by decide)
    obtain ⟨r3, p3, e3, a3, b3, h3⟩ := frog_n h2 (n := 12) (by decide)
    obtain ⟨r4, p4, e4, a4, b4, h4⟩ := frog_n h3 (n := 4) (by decide)
    obtain ⟨r5, p5, e5, a5, b5, h5⟩ := frog_n h3 (n := 5) (by decide)
    obtain ⟨q, eq⟩ : ∃ q, atI ps r1 = some q := by
      rw [atI_nat a1 b1]; exact ⟨_, List.getElem?_eq_getElem (by omega)⟩
    obtain ⟨q0, eq0⟩ : ∃ q, atI ps 0 = some q := by
      rw [atI_nat (by decide) (by omega)]; exact ⟨_, List.getElem?_eq_getElem (by simp; omega)⟩
    have odd : ∃ o, atI [(D.int 0), (D.int (-1)), (D.int 2), (D.int 30), (D.int 29), (D.int (-30)), (D.bl true), D.non, (D.str ("1" : Str)), (D.tup [(D.int 1)]), (D.int ((10 : Int) ^ (60 : Int).toNat)), (D.int 1)] r3 = some o := by
      rw [atI_nat a3 (by simpa using b3)]; exact ⟨_, List.getElem?_eq_getElem (by simp; omega)⟩
    obtain ⟨o, eo⟩ := odd
    simp only [e1, e2, e3, eq, eo, ofO_some, bnd_rt]
    have ct : cutD ps none (some r1) = ps.take r1.toNat := cut_take a1
    have cd : cutD ps (some (r1 + 1)) none = ps.drop (r1 + 1).toNat := cut_drop (by omega)
    have la : (ps.take r1.toNat).length ≤ 4 := by simp; omega
    have lc : (ps.drop (r1 + 1).toNat).length ≤ 4 := by simp; omega
    rw [ct, cd]
    have end_ : ∀ (w : D) (l : List D), PondOk w → l.length ≤ 4 → ∃ b p', (O.bnd (ofO (gAdd ((vT (vP3 D.int D.int D.int)) (ps.take r1.toNat)) (D.tup [((vT vD) l)]))) fun x20 => (O.bnd (ofO (gAdd x20 ((vT (vP3 D.int D.int D.int)) (ps.drop (r1 + 1).toNat)))) fun x21 => (.rt (x21, w))) : Fr (D × D)) = .rt (b, p') ∧ PondOk p' ∧ Fine b := by
      intro w l hw hl
      obtain ⟨x, x1, x2⟩ := cat3 (e := (vT vD) l) la lc
      refine ⟨_, _, (bnd_eq (ofO_eq x1)).trans (bnd_eq (ofO_eq x2)), hw, fine_app la lc fun es e => ?_⟩
      cases e; simp; omega
    by_cases c3 : r2 < 3
    · rw [ite_t (decide_eq_true c3), setAt_ok a2 (by simpa using c3), ofO_some, bnd_rt, oseq_nx]
      exact end_ _ _ h3 (by simp)
    · rw [ite_f (decide_eq_false c3)]
      by_cases c4 : r2 = 3
      · rw [ite_t (decide_eq_true c4)]
        have hx : ∃ x, atI [((vL vD) (List.map D.int [q.1, q.2.1, q.2.2])), ((vL vD) (cutD (List.map D.int [q.1, q.2.1, q.2.2]) none (some 2))), D.non, (D.int 7)] r4 = some x ∧ Lt10 x := by
          rcases (by omega : r4 = 0 ∨ r4 = 1 ∨ r4 = 2 ∨ r4 = 3) with rfl | rfl | rfl | rfl
          all_goals exact ⟨_, rfl, fun es e => by cases e⟩
        obtain ⟨x, ex, hx⟩ := hx
        obtain ⟨y, x1, x2⟩ := cat3 (e := x) la lc
        refine ⟨_, _, ?_, h4, fine_app la lc hx⟩
        rw [e4, bnd_rt, ex, ofO_some, bnd_rt]
        have y1 : (O.bnd (ofO (gAdd ((vT (vP3 D.int D.int D.int)) (ps.take r1.toNat)) (D.tup [x]))) fun x13 => O.bnd (ofO (gAdd x13 ((vT (vP3 D.int D.int D.int)) (ps.drop (r1 + 1).toNat)))) fun x14 => .rt (x14, p4) : O (D × List D) Empty (D × D)) = .rt (_, p4) := (bnd_eq (ofO_eq x1)).trans (bnd_eq (ofO_eq x2))
        exact (congrArg (fun z => O.seq z _) y1).trans rfl
      · rw [ite_f (decide_eq_false c4)]
        by_cases c5 : r2 = 4
        · rw [ite_t (decide_eq_true c5), push_ok (by simp), ofO_some, bnd_rt, oseq_nx]
          exact end_ _ _ h3 (by simp)
        · rw [ite_f (decide_eq_false c5), eq0, ofO_some, bnd_rt, e5, bnd_rt]
          have hx : ∃ x, atI ([((vL (vP3 D.int D.int D.int)) ps), ((vP3 D.int D.int D.int) q0), D.non, (D.tup [((vT (vP3 D.int D.int D.int)) ps)]), (D.str ("pieces" : Str))] : List D) r5 = some x ∧ Fine x := by
            rcases (by omega : r5 = 0 ∨ r5 = 1 ∨ r5 = 2 ∨ r5 = 3 ∨ r5 = 4) with rfl | rfl | rfl | rfl | rfl
            · exact ⟨_, rfl, fine_not rfl⟩
            · refine ⟨_, rfl, fun es e => ?_⟩
              cases e
              exact ⟨by simp, fun x hx => by simp at hx; rcases hx with rfl | rfl | rfl <;> exact fun es e => by cases e⟩
            · exact ⟨_, rfl, fine_not rfl⟩
            · refine ⟨_, rfl, fun es e => ?_⟩
              cases e
              refine ⟨by simp, fun x hx => ?_⟩
              rw [List.mem_singleton] at hx
              subst hx
              exact fun es e => by cases e; simp; omega
            · exact ⟨_, rfl, fine_not rfl⟩
          obtain ⟨x, ex, hx⟩ := hx
          refine ⟨_, _, ?_, h5, hx⟩
          rw [ex, ofO_some, bnd_rt, oseq_rt]
end K09
namespace K09
open PySem L2 DL
theorem run_snoc (t : Int) : ∀ (n : Nat) (s : Int), run s t (n + 1) = run s t n ++ [s + t * n]
  | 0, s => by simp [run]
  | n + 1, s => by
    rw [run, run_snoc t n (s + t)]
    show s :: (run (s + t) t n ++ [s + t + t * n]) = (s :: run (s + t) t n) ++ [s + t * ((n + 1 : Nat) : Int)]
    rw [List.cons_append]
    congr 3
    have : ((n + 1 : Nat) : Int) = (n : Int) + 1 := by omega
    rw [this, Int.mul_add]; omega
theorem longer_run {p p' : Pc} {q : Int} (h1 : 1 ≤ p.2.1) (h : longer p q = some p') : run1 p' = run1 p ++ [q] ∧ p'.2.1 = p.2.1 + 1 := by
  obtain ⟨s, l, t⟩ := p
  unfold longer at h
  simp only at h h1
  split at h
  · rename_i c
    cases h
    obtain ⟨c1, c2⟩ := c
    subst c1
    refine ⟨?_, rfl⟩
    show run s (q - s) 2 = run s t 1 ++ [q]
    simp [run]; omega
  · split at h
    · rename_i c
      cases h
      obtain ⟨c1, c2⟩ := c
      refine ⟨?_, rfl⟩
      show run s t (l + 1).toNat = run s t l.toNat ++ [q]
      have : (l + 1).toNat = l.toNat + 1 := by omega
      rw [this, run_snoc, c2]
      congr 3
      have : ((l.toNat : Nat) : Int) = l := by omega
      rw [this]
    · cases h
theorem spread_grow : ∀ (qs : List Int) (p : Pc), 1 ≤ p.2.1 → spread (grow p qs) = run1 p ++ qs
  | [], p, _ => by simp [grow, spread]
  | q :: qs, p, h => by
    cases e : longer p q with
    | none =>
      have e2 : grow p (q :: qs) = p :: grow (q, 1, 1) qs := grow_none e
      rw [e2]
      show run1 p ++ spread (grow (q, 1, 1) qs) = _
      rw [spread_grow qs (q, 1, 1) (Int.le_refl 1)]
      simp [run1, run]
    | some p' =>
      obtain ⟨h1, h2⟩ := longer_run h e
      rw [grow_some e, spread_grow qs p' (by omega), h1, List.append_assoc]; rfl
theorem spread_short (qs : List Int) : spread (short qs) = qs := by
  cases qs with
  | nil => rfl
  | cons q qs =>
    show spread (grow (q, 1, 1) qs) = _
    rw [spread_grow qs (q, 1, 1) (Int.le_refl 1)]; simp [run1, run]
theorem grow_fit : ∀ (qs : List Int) (p : Pc), Sm p → 1 ≤ p.2.1 → ∀ x ∈ grow p qs, Sm x ∧ 1 ≤ x.2.1 ∧ x.2.1 ≤ p.2.1 + qs.length
  | [], p, h, h1, x, hx => by
    rw [grow, List.mem_singleton] at hx; subst hx
    exact ⟨h, h1, by simp⟩
  | q :: qs, p, h, h1, x, hx => by
    rw [List.length_cons]
    cases e : longer p q with
    | none =>
      have e2 : grow p (q :: qs) = p :: grow (q, 1, 1) qs := grow_none e
      rw [e2] at hx
      rcases List.mem_cons.mp hx with rfl | hx
      · exact ⟨h, h1, by omega⟩
      · obtain ⟨a, b, c⟩ := grow_fit qs (q, 1, 1) (.inl rfl) (Int.le_refl 1) x hx
        simp only at c
        exact ⟨a, b, by omega⟩
    | some p' =>
      obtain ⟨_, h2⟩ := longer_run h1 e
      rw [grow_some e] at hx
      obtain ⟨a, b, c⟩ := grow_fit qs p' (longer_sm h e) (by omega) x hx
      exact ⟨a, b, by omega⟩
theorem short_fit (qs : List Int) : ∀ x ∈ short qs, Sm x ∧ 1 ≤ x.2.1 ∧ x.2.1 ≤ qs.length := by
  cases qs with
  | nil => intro x hx; cases hx
  | cons q qs =>
    intro x hx
    obtain ⟨a, b, c⟩ := grow_fit qs (q, 1, 1) (.inl rfl) (Int.le_refl 1) x hx
    simp only at c
    exact ⟨a, b, by rw [List.length_cons]; omega⟩
theorem grow_len : ∀ (qs : List Int) (p : Pc), (grow p qs).length ≤ qs.length + 1
  | [], p => by simp [grow]
  | q :: qs, p => by
    cases e : longer p q with
    | none =>
      have e2 : grow p (q :: qs) = p :: grow (q, 1, 1) qs := grow_none e
      rw [e2, List.length_cons, List.length_cons]
      have := grow_len qs (q, 1, 1); omega
    | some p' =>
      rw [grow_some e, List.length_cons]
      have := grow_len qs p'; omega
theorem short_len (qs : List Int) : (short qs).length ≤ qs.length := by
  cases qs with
  | nil => exact Nat.le_refl _
  | cons q qs => exact grow_len qs _
theorem isshort_n (ps : List Pc) (h : ∀ p ∈ ps, Fit p) (hl : (spread ps).length < 1000000) : n_is_short ps = .rt (decide (short (spread ps) = ps)) := by
  unfold n_is_short
  rw [spread_n ps h hl, bnd_rt, short_n _ hl, bnd_rt]
theorem szP (p : Pc) : sz1 (vP3 D.int D.int D.int p) = 4 := rfl
theorem sz_pcs (ps : List Pc) : sz1 (vT (vP3 D.int D.int D.int) ps) ≤ 1 + 4 * ps.length := sz_T fun p _ => Nat.le_of_eq (szP p)
theorem ok_pcs (ps : List Pc) : okL (vT (vP3 D.int D.int D.int) ps) = true := ok_T fun _ _ => rfl
theorem sz_is (ps : List Int) : sz1 (vT D.int ps) ≤ 1 + 1 * ps.length := sz_T fun p _ => Nat.le_refl _
theorem ok_is (ps : List Int) : okL (vT D.int ps) = true := ok_T fun _ _ => rfl
theorem spread_len (ps : List Pc) (h : ∀ q ∈ ps, Dr q) : (spread ps).length ≤ 4 * ps.length := by
  induction ps with
  | nil => simp [spread]
  | cons p ps ih =>
    have h1 := ih fun q hq => h q (List.mem_cons_of_mem _ hq)
    obtain ⟨_, _, h2⟩ := h p List.mem_cons_self
    show (run1 p ++ spread ps).length ≤ _
    rw [List.length_append, List.length_cons]
    have : (run1 p).length = p.2.1.toNat := run_len _ _ _
    omega
theorem maxO_some (xs : List Int) (a : Int) : ∃ m, maxO (xs ++ [a]) = some m := by
  cases xs with
  | nil => exact ⟨_, rfl⟩
  | cons x xs => exact ⟨_, rfl⟩
theorem fold_max_mem : ∀ (xs : List Int) (a : Int), xs.foldl max a = a ∨ xs.foldl max a ∈ xs
  | [], a => .inl rfl
  | x :: xs, a => by
    rw [List.foldl_cons]
    rcases fold_max_mem xs (max a x) with h | h
    · rw [h, Int.max_def]
      split
      · exact .inr List.mem_cons_self
      · exact .inl rfl
    · exact .inr (List.mem_cons_of_mem _ h)
/-- a short row with a piece parted -/
def parted (sh : List Pc) (i : Nat) (p : Pc) : List Pc := sh.take i ++ [(p.1, 1, 1), (p.1 + p.2.2, p.2.1 - 1, if 2 < p.2.1 then p.2.2 else 1)] ++ sh.drop (i + 1)
theorem spread_app (a b : List Pc) : spread (a ++ b) = spread a ++ spread b := by unfold spread; rw [List.flatMap_append]
theorem run_one (p : Pc) (h : 1 < p.2.1) : spread [(p.1, 1, 1), (p.1 + p.2.2, p.2.1 - 1, if 2 < p.2.1 then p.2.2 else 1)] = run1 p := by
  obtain ⟨s, l, t⟩ := p
  simp only at h ⊢
  obtain ⟨n, hn⟩ : ∃ n : Nat, l.toNat = n + 2 := ⟨l.toNat - 2, by omega⟩
  have e1 : (l - 1).toNat = n + 1 := by omega
  show run s 1 1 ++ (run (s + t) (if 2 < l then t else 1) (l - 1).toNat ++ []) = run s t l.toNat
  rw [hn, e1, List.append_nil]
  by_cases h2 : 2 < l
  · rw [if_pos h2]; rfl
  · rw [if_neg h2]
    have : n = 0 := by omega
    subst this
    rfl
theorem parted_spread {sh : List Pc} {i : Nat} {p : Pc} (hi : sh[i]? = some p) (h : 1 < p.2.1) : spread (parted sh i p) = spread sh := by
  obtain ⟨hl, hp⟩ := List.getElem?_eq_some_iff.mp hi
  unfold parted
  rw [spread_app, spread_app, run_one p h]
  have : sh = sh.take i ++ ([p] ++ sh.drop (i + 1)) := by
    conv => lhs; rw [← List.take_append_drop i sh, List.drop_eq_getElem_cons hl, hp]
    rfl
  conv => rhs; rw [this, spread_app, spread_app]
  rw [List.append_assoc]
  congr 2
  show run1 p = run1 p ++ []
  simp
theorem parted_len {sh : List Pc} {i : Nat} {p : Pc} (hi : sh[i]? = some p) : (parted sh i p).length = sh.length + 1 := by
  obtain ⟨hl, _⟩ := List.getElem?_eq_some_iff.mp hi
  unfold parted
  simp; omega
theorem asked_n {p : D} (hp : PondOk p) : ∃ p', n__law_asked p = .rt (true, p') ∧ PondOk p' := by
  unfold n__law_asked
  obtain ⟨pl, p1, e1, h1, l1⟩ := places_n hp
  obtain ⟨ps, p2, e2, h2, l2, d2⟩ := pieces_n h1
  have fs : ∀ q ∈ short pl, Fit q := fun q hq => by
    obtain ⟨a, b, c⟩ := short_fit pl q hq
    exact ⟨a, by omega, by omega⟩
  have fd : ∀ q ∈ ps, Fit q := fun q hq => by
    obtain ⟨a, b, c⟩ := d2 q hq
    exact ⟨a, by omega, by omega⟩
  have sl := spread_len ps d2
  have ss : spread (short pl) = pl := spread_short pl
  have shl := short_len pl
  rw [e1, bnd_rt, e2, bnd_rt]
  simp only [lshort_n pl (by omega), bnd_rt, lspread_n ps fd (by omega), short_n pl (by omega), spread_n (short pl) fs (by rw [ss]; omega), isshort_n (short pl) fs (by rw [ss]; omega), spread_n ps fd (by omega), short_n (spread ps) (by omega), isshort_n ps fd (by omega), lshort_n (spread ps) (by omega), ss, decide_true]
  have sm := same_n (d := (vP6 (vT (vP3 D.int D.int D.int)) (vT D.int) D.bl (vT D.int) (vT (vP3 D.int D.int D.int)) D.bl) (short pl, pl, true, spread ps, short (spread ps), decide (short (spread ps) = ps))) (e := D.tup [((vT (vP3 D.int D.int D.int)) (short pl)), ((vT D.int) pl), (D.bl true), ((vT D.int) (spread ps)), ((vT (vP3 D.int D.int D.int)) (short (spread ps))), (D.bl (decide (ps = short (spread ps))))])
    (by
      have : (decide (short (spread ps) = ps)) = decide (ps = short (spread ps)) := by rw [decide_eq_decide]; exact eq_comm
      rw [this])
    (by
      unfold vP6 okL
      simp only [okLs, ok_pcs, ok_is, Bool.and_self]; rfl)
    (by
      unfold vP6 sz1
      simp only [szs]
      have a1 := sz_pcs (short pl)
      have a2 := sz_is pl
      have a3 := sz_is (spread ps)
      have a4 := sz_pcs (short (spread ps))
      have a5 := short_len (spread ps)
      simp only [sz1] at a1 a2 a3 a4 ⊢
      omega)
  rw [sm, bnd_rt, asB_b, ofO_some, bnd_rt]
  rw [if_neg (show ¬ ((!true) = true) from by decide)]
  obtain ⟨m, em⟩ := maxO_some (spread ps) 0
  have ec : cat (spread ps) [0] = some (spread ps ++ [0]) := cat_ok (by simp; omega)
  simp only [ec, em, ofO_some, bnd_rt]
  have fine : Fine ((vT (vP3 D.int D.int D.int)) ps) := fine_pcs (by omega)
  rw [nFor_all (s := ()) _ (fun x _ => by rw [right_n fine]; rfl), oseq_nx]
  obtain ⟨s', h3, h4⟩ := nFor_ex (L := Empty) (P := fun _ s => PondOk s) (f := fun (y25 : Int) (s24 : D) => (O.bnd (n__law_bent s24 ps) fun x26 => (O.bnd (ofO (atI ([30, 12] : List Int) (y25 % 2))) fun x27 => (O.bnd (n__law_right x27 x26.1) fun x28 => (if (!x28) then (.rt (false, x26.2)) else (.nx x26.2)))) : O D D (Bool × D))) (fun x r s hs => by
    obtain ⟨b, q, e, hq, hf⟩ := bent_n hs l2
    obtain ⟨z, ez⟩ : ∃ z, atI ([30, 12] : List Int) (x % 2) = some z := by
      rcases (by omega : x % 2 = 0 ∨ x % 2 = 1) with h | h <;> rw [h]
      · exact ⟨_, rfl⟩
      · exact ⟨_, rfl⟩
    refine ⟨q, ?_, hq⟩
    rw [e, bnd_rt, ez, ofO_some, bnd_rt, right_n hf, bnd_rt]; rfl) (rgI 0 (Int.toNat 7)) p2 h2
  rw [h3, oseq_nx]
  by_cases c0 : 0 < ((short pl).length : Int)
  · rw [ite_t (decide_eq_true c0), sized_ok (by simp; omega), ofO_some, bnd_rt]
    obtain ⟨mm, emm, hmm⟩ : ∃ m, maxO ((short pl).map fun y => y.2.1) = some m ∧ ∃ q ∈ short pl, q.2.1 = m := by
      cases q : short pl with
      | nil => rw [q] at c0; simp at c0
      | cons x xs =>
        refine ⟨_, rfl, ?_⟩
        rcases fold_max_mem (xs.map fun y => y.2.1) x.2.1 with h | h
        · exact ⟨x, List.mem_cons_self, h.symm⟩
        · obtain ⟨y, hy, hy2⟩ := List.mem_map.mp h
          exact ⟨y, List.mem_cons_of_mem _ hy, hy2⟩
    rw [emm, ofO_some, bnd_rt, bnd_rt]
    by_cases c1 : 1 < mm
    · rw [ite_t (decide_eq_true c1), rg1_ok (by omega), ofO_some, bnd_rt]
      obtain ⟨q0, hq0, eq0⟩ := hmm
      have e5 := nLs_ok (F := fun (y36 : Int) (s37 : Unit) => ((O.bnd (ofO (atI (short pl) y36)) fun x38 => (if (decide (1 < x38.2.1)) then (.rt (y36, ())) else (.nx ()))) : O Unit Empty (Int × Unit))) (t := fun i => match atI (short pl) i with | some q => decide (1 < q.2.1) | none => false) (g := fun i => i) (rgI 0 ((short pl).length : Int).toNat) (fun x hx => by
        rw [mem_rgI] at hx
        have : ∃ q, atI (short pl) x = some q := by
          rw [atI_nat hx.1 (by omega)]; exact ⟨_, List.getElem?_eq_getElem (by omega)⟩
        obtain ⟨q, hq⟩ := this
        simp only [hq, ofO_some, bnd_rt]) (by rw [rgI_len]; omega)
      rw [e5, bnd_rt]
      obtain ⟨i0, hi0, ei0⟩ := List.mem_iff_getElem.mp hq0
      have mem : (i0 : Int) ∈ ((rgI 0 ((short pl).length : Int).toNat).filter fun i => match atI (short pl) i with | some q => decide (1 < q.2.1) | none => false).map fun i => i := by
        rw [List.map_id']
        rw [List.mem_filter]
        refine ⟨mem_rgI.mpr ⟨by omega, by omega⟩, ?_⟩
        rw [atI_get (n := i0) (a := q0) (by rw [List.getElem?_eq_getElem hi0, ei0])]
        simp only [decide_eq_true_eq]; omega
      generalize hL : ((rgI 0 ((short pl).length : Int).toNat).filter fun i => match atI (short pl) i with | some q => decide (1 < q.2.1) | none => false).map (fun i => i) = Ls at mem ⊢
      obtain ⟨i, Lr, rfl⟩ : ∃ i r, Ls = i :: r := by
        cases Ls with
        | nil => cases mem
        | cons i r => exact ⟨i, r, rfl⟩
      have hi : i ∈ ((rgI 0 ((short pl).length : Int).toNat).filter fun i => match atI (short pl) i with | some q => decide (1 < q.2.1) | none => false).map (fun i => i) := by rw [hL]; exact List.mem_cons_self
      rw [List.map_id', List.mem_filter, mem_rgI] at hi
      obtain ⟨⟨i1, i2'⟩, i3⟩ := hi
      obtain ⟨k, rfl⟩ : ∃ k : Nat, i = k := ⟨i.toNat, by omega⟩
      have hk : k < (short pl).length := by omega
      obtain ⟨q, hq⟩ : ∃ q, (short pl)[k]? = some q := ⟨_, List.getElem?_eq_getElem hk⟩
      have aq : atI (short pl) (k : Int) = some q := atI_get hq
      rw [aq] at i3
      have hq1 : 1 < q.2.1 := by simpa using i3
      have a0 : atI ((k : Int) :: Lr) 0 = some (k : Int) := at0
      rw [a0, ofO_some, bnd_rt, bnd_rt, aq, ofO_some, bnd_rt]
      have ct : cutD (short pl) none (some (k : Int)) = (short pl).take k := cut_take (by omega)
      have cd : cutD (short pl) (some ((k : Int) + 1)) none = (short pl).drop (k + 1) := by
        rw [cut_drop (by omega)]; congr 1
      rw [ct, cd, cat_ok (by simp; omega), ofO_some, bnd_rt, cat_ok (by simp; omega), ofO_some, bnd_rt, bnd_rt]
      have pe : (if (decide (2 < q.2.1)) = true then q.2.2 else 1) = if 2 < q.2.1 then q.2.2 else 1 := by simp
      rw [pe]
      rw [show (short pl).take k ++ [(q.1, 1, 1), (q.1 + q.2.2, q.2.1 - 1, if 2 < q.2.1 then q.2.2 else 1)] ++ (short pl).drop (k + 1) = parted (short pl) k q from rfl]
      have psp := parted_spread hq hq1
      have mq := List.mem_of_getElem? hq
      have fp : ∀ x ∈ parted (short pl) k q, Fit x := by
        intro x hx
        obtain ⟨w1, w2, w3⟩ := fs q mq
        unfold parted at hx
        simp only [List.mem_append, List.mem_cons, List.not_mem_nil, or_false] at hx
        rcases hx with (hx | rfl | rfl) | hx
        · exact fs x (List.mem_of_mem_take hx)
        · exact ⟨.inl rfl, (show (0 : Int) ≤ 1 from by decide), (show (1 : Int) < 1000 from by decide)⟩
        · refine ⟨?_, by simp only; omega, by simp only; omega⟩
          unfold Sm
          simp only
          by_cases h : 2 < q.2.1
          · rw [if_pos h]; exact w1
          · rw [if_neg h]; exact .inl rfl
        · exact fs x (List.mem_of_mem_drop hx)
      have pll : (spread (parted (short pl) k q)).length < 1000000 := by rw [psp, ss]; omega
      rw [isshort_n _ fp pll, bnd_rt, spread_n _ fp pll, bnd_rt, psp, ss]
      have ne : (decide (short pl = parted (short pl) k q)) = false := by
        rw [decide_eq_false_iff_not]
        intro h
        have := congrArg List.length h
        rw [parted_len hq] at this
        omega
      rw [ne]
      rw [same_n rfl (by unfold okL; simp only [okLs, ok_is, Bool.and_self]; rfl) (by unfold sz1; simp only [szs]; have := sz_is pl; simp only [sz1] at this ⊢; omega), bnd_rt, asB_b, ofO_some, bnd_rt]
      exact ⟨s', rfl, h4⟩
    · rw [ite_f (decide_eq_false c1)]
      exact ⟨s', rfl, h4⟩
  · rw [ite_f (decide_eq_false c0)]
    exact ⟨s', rfl, h4⟩
end K09
namespace K09
open PySem L2 DL
theorem fine_any {es : List D} (h : es.length ≤ 1000000) (h2 : ∀ e ∈ es, Lt10 e) : Fine (.tup es) := fun xs e => by
  cases e; exact ⟨h, fun x hx => (h2 x hx).l⟩
theorem law_n (ns : List Int) : n_law ns = .rt true := by
  unfold n_law
  obtain ⟨p0, e0, h0⟩ := pond_n ns
  rw [e0, bnd_rt]
  obtain ⟨p1, e1, h1⟩ := nFor_ex (L := Empty) (P := fun _ s => PondOk s) (f := fun (y3 : Int) (s2 : D) => (O.bnd (n__law_asked s2) fun x4 => (if (!x4.1) then (.rt false) else (.nx x4.2)) : O D D Bool)) (fun x r s hs => by
    obtain ⟨q, e, hq⟩ := asked_n hs
    exact ⟨q, by rw [e, bnd_rt]; rfl, hq⟩) (rgI 0 (Int.toNat 5)) p0 h0
  rw [e1, oseq_nx, bnd_rt, bnd_rt]
  generalize hR : ([[3, 4, 5, 1, 0, 7], [0, 1, 0, 1], [2, 2, 3], [5, 4, 3, 4, 5], [], [9], [0, 2, 4], [1, 0, 0, 1], [3, 2, 1, 0, 1]] : (List (List Int))) = rows
  generalize hD : ([[(3, 3, 1), (1, 2, (-1)), (7, 1, 1)], [(0, 2, 1), (0, 2, 1)], [(2, 1, 1), (2, 2, 1)], [(5, 3, (-1)), (4, 2, 1)], [], [(9, 1, 1)], [(0, 1, 1), (2, 1, 1), (4, 1, 1)], [(1, 2, (-1)), (0, 2, 1)], [(3, 4, (-1)), (1, 1, 1)]] : (List (List (Int × Int × Int)))) = dues
  have lr : rows.length = 9 := by subst hR; rfl
  rw [lr, rg1_ok (by decide), ofO_some, bnd_rt]
  rw [nFor_all (s := ()) _ (fun x hx => ?a), oseq_nx]
  case a =>
    rw [mem_rgI] at hx
    obtain ⟨qs, hq, hd, hl⟩ : ∃ qs, atI rows x = some qs ∧ atI dues x = some (short qs) ∧ qs.length < 100 := by
      subst hR hD
      rcases (by simp at hx; omega : x = 0 ∨ x = 1 ∨ x = 2 ∨ x = 3 ∨ x = 4 ∨ x = 5 ∨ x = 6 ∨ x = 7 ∨ x = 8) with rfl | rfl | rfl | rfl | rfl | rfl | rfl | rfl | rfl
      all_goals exact ⟨_, rfl, rfl, by decide⟩
    have ss := spread_short qs
    have sl := short_len qs
    have fs : ∀ q ∈ short qs, Fit q := fun q hq => by
      obtain ⟨a, b, c⟩ := short_fit qs q hq
      exact ⟨a, by omega, by omega⟩
    have hs : n_is_short (short qs) = .rt true := by rw [isshort_n (short qs) fs (by rw [ss]; omega), ss]; simp
    have hp : n_piece_places (short qs) = .rt qs := by rw [spread_n (short qs) fs (by rw [ss]; omega), ss]
    have h1 := short_n qs (by omega)
    have h2 := lshort_n qs (by omega)
    have sm := same_n (d := D.tup [((vT (vP3 D.int D.int D.int)) (short qs)), ((vT (vP3 D.int D.int D.int)) (short qs)), ((vT D.int) qs), (D.bl true)]) rfl (by unfold okL; simp only [okLs, ok_is, ok_pcs, Bool.and_self]; rfl) (by
      unfold sz1; simp only [szs]
      have a1 := sz_is qs; have a2 := sz_pcs (short qs)
      simp only [sz1] at a1 a2 ⊢; omega)
    refine (bnd_eq (ofO_eq hq)).trans ?_
    refine (bnd_eq h1).trans ?_
    refine (bnd_eq (ofO_eq hq)).trans ?_
    refine (bnd_eq h2).trans ?_
    refine (bnd_eq (ofO_eq hd)).trans ?_
    refine (bnd_eq hp).trans ?_
    refine (bnd_eq (ofO_eq hd)).trans ?_
    refine (bnd_eq hs).trans ?_
    refine (bnd_eq (ofO_eq hd)).trans ?_
    refine (bnd_eq (ofO_eq hd)).trans ?_
    refine (bnd_eq (ofO_eq hq)).trans ?_
    refine (bnd_eq sm).trans ?_
    rfl
  rw [bnd_rt, bnd_rt]
  generalize hT : ([(D.tup [(D.tup [(D.int 0), (D.int 2), (D.int 1)]), (D.tup [(D.int 2), (D.int 1), (D.int 1)])]), (D.tup [(D.tup [(D.int 0), (D.int 0), (D.int 5)])]), (D.tup [(D.tup [(D.int 0), (D.int 1), (D.int 0)])]), (D.tup [(D.tup [(D.int 4), (D.int 2), (D.int 1)])]), (D.tup [(D.tup [(D.int 0), (D.int 2), (D.int (-1))])]), (D.tup [(D.tup [(D.int 5), (D.int 1), (D.int 1)])]), ((vL (vP3 D.int D.int D.int)) [(0, 1, 1)]), (D.tup [(D.tup [(D.int 0), (D.int 1), (D.int 1)]), (D.tup [(D.int 0), (D.int 1)])]), (D.tup [(D.tup [(D.int 0), (D.int 6), (D.int 1)]), (D.tup [(D.int 0), (D.int 0), (D.int 1)])]), (D.tup [(D.tup [(D.int 0), (D.bl true), (D.int 1)])]), (D.tup []), (D.tup [(D.tup [(D.int 4), (D.int 5), (D.int (-1))])]), (D.tup [(D.tup [(D.int 0), (D.int (-1)), (D.int 7)])]), (D.tup [(D.tup [(D.int (-1)), (D.int 1), (D.int 3)])])] : (List D)) = things
  generalize hW : ([(D.tup [(D.str ("told" : Str)), (D.int 3)]), (D.tup [(D.str ("bad" : Str)), (D.int 0), (D.str ("length" : Str))]), (D.tup [(D.str ("bad" : Str)), (D.int 0), (D.str ("step" : Str))]), (D.tup [(D.str ("bad" : Str)), (D.int 0), (D.str ("place" : Str))]), (D.tup [(D.str ("bad" : Str)), (D.int 0), (D.str ("place" : Str))]), (D.tup [(D.str ("bad" : Str)), (D.int 0), (D.str ("place" : Str))]), (D.tup [(D.str ("bad" : Str)), (D.int (-1)), (D.str ("shape" : Str))]), (D.tup [(D.str ("bad" : Str)), (D.int (-1)), (D.str ("shape" : Str))]), (D.tup [(D.str ("bad" : Str)), (D.int 0), (D.str ("place" : Str))]), (D.tup [(D.str ("bad" : Str)), (D.int (-1)), (D.str ("shape" : Str))]), (D.tup [(D.str ("told" : Str)), (D.int 0)]), (D.tup [(D.str ("told" : Str)), (D.int 5)]), (D.tup [(D.str ("bad" : Str)), (D.int 0), (D.str ("length" : Str))]), (D.tup [(D.str ("bad" : Str)), (D.int 0), (D.str ("step" : Str))])] : (List D)) = words
  have lt : things.length = 14 := by subst hT; rfl
  rw [lt, rg1_ok (by decide), ofO_some, bnd_rt]
  rw [nFor_all (s := ()) _ (fun x hx => ?b), oseq_nx]
  case b =>
    rw [mem_rgI] at hx
    obtain ⟨th, ht, hw, hf, ok, hs⟩ : ∃ th, atI things x = some th ∧ atI words x = some (heard 5 th) ∧ Fine th ∧ okL (heard 5 th) = true ∧ sz1 (heard 5 th) < 300000 := by
      have q : ∀ es : List D, es.length ≤ 10 → Lt10 (.tup es) := fun es h xs e => by cases e; exact h
      subst hT hW
      rcases (by simp at hx; omega : x = 0 ∨ x = 1 ∨ x = 2 ∨ x = 3 ∨ x = 4 ∨ x = 5 ∨ x = 6 ∨ x = 7 ∨ x = 8 ∨ x = 9 ∨ x = 10 ∨ x = 11 ∨ x = 12 ∨ x = 13) with rfl | rfl | rfl | rfl | rfl | rfl | rfl | rfl | rfl | rfl | rfl | rfl | rfl | rfl
      · exact ⟨_, rfl, rfl, fine_any (by decide) (by simp only [List.mem_cons, List.not_mem_nil, or_false]; rintro e (rfl | rfl) <;> exact q _ (by decide)), rfl, by decide⟩
      · exact ⟨_, rfl, rfl, fine_any (by decide) (by simp only [List.mem_cons, List.not_mem_nil, or_false]; rintro e rfl; exact q _ (by decide)), rfl, by decide⟩
      · exact ⟨_, rfl, rfl, fine_any (by decide) (by simp only [List.mem_cons, List.not_mem_nil, or_false]; rintro e rfl; exact q _ (by decide)), rfl, by decide⟩
      · exact ⟨_, rfl, rfl, fine_any (by decide) (by simp only [List.mem_cons, List.not_mem_nil, or_false]; rintro e rfl; exact q _ (by decide)), rfl, by decide⟩
      · exact ⟨_, rfl, rfl, fine_any (by decide) (by simp only [List.mem_cons, List.not_mem_nil, or_false]; rintro e rfl; exact q _ (by decide)), rfl, by decide⟩
      · exact ⟨_, rfl, rfl, fine_any (by decide) (by simp only [List.mem_cons, List.not_mem_nil, or_false]; rintro e rfl; exact q _ (by decide)), rfl, by decide⟩
      · exact ⟨_, rfl, rfl, fine_not rfl, rfl, by decide⟩
      · exact ⟨_, rfl, rfl, fine_any (by decide) (by simp only [List.mem_cons, List.not_mem_nil, or_false]; rintro e (rfl | rfl) <;> exact q _ (by decide)), rfl, by decide⟩
      · exact ⟨_, rfl, rfl, fine_any (by decide) (by simp only [List.mem_cons, List.not_mem_nil, or_false]; rintro e (rfl | rfl) <;> exact q _ (by decide)), rfl, by decide⟩
      · exact ⟨_, rfl, rfl, fine_any (by decide) (by simp only [List.mem_cons, List.not_mem_nil, or_false]; rintro e rfl; exact q _ (by decide)), rfl, by decide⟩
      · exact ⟨_, rfl, rfl, fine_any (by decide) (by intro e he; cases he), rfl, by decide⟩
      · exact ⟨_, rfl, rfl, fine_any (by decide) (by simp only [List.mem_cons, List.not_mem_nil, or_false]; rintro e rfl; exact q _ (by decide)), rfl, by decide⟩
      · exact ⟨_, rfl, rfl, fine_any (by decide) (by simp only [List.mem_cons, List.not_mem_nil, or_false]; rintro e rfl; exact q _ (by decide)), rfl, by decide⟩
      · exact ⟨_, rfl, rfl, fine_any (by decide) (by simp only [List.mem_cons, List.not_mem_nil, or_false]; rintro e rfl; exact q _ (by decide)), rfl, by decide⟩
    simp only [ht, hw, ofO_some, bnd_rt, heard_n hf, same_n rfl ok hs, asB_b, right_n hf]; rfl
  have f1 : ∀ p ∈ ([(2, 3, (-1)), (0, 1, 1)] : List Pc), Fit p := by
    simp only [List.mem_cons, List.not_mem_nil, or_false]
    rintro p (rfl | rfl)
    · exact ⟨.inr rfl, by decide, by decide⟩
    · exact ⟨.inl rfl, by decide, by decide⟩
  have f2 : ∀ p ∈ ([(0, 2, 1), (2, 1, 1)] : List Pc), Fit p := by
    simp only [List.mem_cons, List.not_mem_nil, or_false]
    rintro p (rfl | rfl)
    · exact ⟨.inl rfl, by decide, by decide⟩
    · exact ⟨.inl rfl, by decide, by decide⟩
  have f3 : ∀ p ∈ ([(4, 1, (-1))] : List Pc), Fit p := by
    simp only [List.mem_cons, List.not_mem_nil, or_false]
    rintro p rfl
    exact ⟨.inr rfl, by decide, by decide⟩
  have c : n_check_pieces 0 (D.tup []) = .rt 0 := check_n (fine_any (by decide) (by intro e he; cases he))
  rw [spread_n _ f1 (by decide), bnd_rt, isshort_n _ f2 (by decide), bnd_rt, isshort_n _ f3 (by decide), bnd_rt, c, bnd_rt, short_n _ (by decide), bnd_rt, bnd_rt]
  refine (bnd_eq (a := .bl true) (same_n ?_ ?_ ?_)).trans rfl
  · rfl
  · rfl
  · decide
theorem law_true (ns : List Int) (_ : ns.length ≤ 63) : ∃ outs, d_law [.scr ns] = .ret (.bl true) outs := ⟨_, (q_law ns).rt (law_n ns)⟩
end K09
open PySem PySem.W PyProof.Rows
set_option maxHeartbeats 0 in
theorem PySem.Challenge.cw_whatevertext_k09_pieces_holds : PySem.Challenge.rw_whatevertext_k09_pieces.Holds := by
  w_on; o_law; k_head; (case hw => w_witness2)
  k_fill
  refine L2.walk_of (l := PySem.Challenge.rw_whatevertext_k09_pieces) (n := 63) (k := 16) (x := "script") (CX := fun w => L2.CX PySem.Challenge.rw_whatevertext_k09_pieces.prog w) (sp := fun w => DL.spLaw K09.d_law _) rfl (by decide) rfl ⟨rfl, by decide, by decide⟩ (fun w h Y => PySem.W.kIn_of Y) ?F (fun _ H a ns hl hO hS mg => DL.law_ok hS hO (K09.law_true ns hl)) (fun _ _ _ _ _ h => DL.cx_no h)
  case F =>
    intro w mg fa h KX G hmg
    refine' K09.all_mk KX G hmg ?aC_BadPiece ?aC_DataError ?aC_MoveError ?eC_BadPiece ?tC_BadPiece ?iC_BadPiece ?eC_DataError ?tC_DataError ?iC_DataError ?eC_MoveError ?tC_MoveError ?iC_MoveError ?s_BadPiece_BadPiece ?q_BadPiece_DataError ?q_BadPiece_MoveError ?xC_BadPiece ?al_BadPiece ?sa_BadPiece ?ga_BadPiece ?gg_BadPiece ?nf_at_BadPiece ?nf_word_BadPiece ?hd_BadPiece ?kC_BadPiece ?fi_BadPiece ?ti_BadPiece ?li_BadPiece ?cd_BadPiece ?la_BadPiece ?v2_BadPiece ?fl_BadPiece ?lc_BadPiece ?op_any ?z_super ?sup_none ?z_abs ?z_bool ?z_enumerate ?z_int ?z_isinstance ?z_len ?z_list ?z_max ?z_min ?z_range ?z_str ?z_sum ?z_tuple ?z_zip ?xa_BadPiece ?xm_BadPiece ?x_sp ?x_tk ?a_is_integer ?l_is_integer ?c_is_integer ?k_is_integer ?a_is_within ?l_is_within ?c_is_within ?k_is_within ?a_are_integers ?l_are_integers ?c_are_integers ?k_are_integers ?a_last_place ?l_last_place ?c_last_place ?k_last_place ?a_longer_piece ?l_longer_piece ?c_longer_piece ?k_longer_piece ?a_short_row ?l_short_row ?c_short_row ?k_short_row ?a_piece_places ?l_piece_places ?c_piece_places ?k_piece_places ?a_piece_word ?l_piece_word ?c_piece_word ?k_piece_word ?a_check_pieces ?l_check_pieces ?c_check_pieces ?k_check_pieces ?a_is_short ?l_is_short ?c_is_short ?k_is_short ?a__law_pond ?l__law_pond ?c__law_pond ?k__law_pond ?a__law_frog ?l__law_frog ?c__law_frog ?k__law_frog ?a__law_same ?l__law_same ?c__law_same ?k__law_same ?a__law_short ?l__law_short ?c__law_short ?k__law_short ?a__law_places ?l__law_places ?c__law_places ?k__law_places ?a__law_pieces ?l__law_pieces ?c__law_pieces ?k__law_pieces ?a__law_spread ?l__law_spread ?c__law_spread ?k__law_spread ?a__law_fault ?l__law_fault ?c__law_fault ?k__law_fault ?a__law_heard ?l__law_heard ?c__law_heard ?k__law_heard ?a__law_right ?l__law_right ?c__law_right ?k__law_right ?a__law_bent ?l__law_bent ?c__law_bent ?k__law_bent ?a__law_asked ?l__law_asked ?c__law_asked ?k__law_asked ?a_law ?l_law ?c_law ?k_law
    (case aC_BadPiece => k_is)
    (case aC_DataError => k_is)
    (case aC_MoveError => k_is)
    (case eC_BadPiece => k_is)
    (case tC_BadPiece => k_is)
    (case iC_BadPiece => k_is)
    (case eC_DataError => k_is)
    (case tC_DataError => k_is)
    (case iC_DataError => k_is)
    (case eC_MoveError => k_is)
    (case tC_MoveError => k_is)
    (case iC_MoveError => k_is)
    (case s_BadPiece_BadPiece => first | k_is | rfl)
    (case q_BadPiece_DataError => first | k_is | rfl)
    (case q_BadPiece_MoveError => first | k_is | rfl)
    (case xC_BadPiece => k_is)
    (case al_BadPiece => first | k_is | rfl)
    (case sa_BadPiece => k_is)
    (case ga_BadPiece => k_is)
    (case gg_BadPiece => k_is)
    (case nf_at_BadPiece => k_is)
    (case nf_word_BadPiece => k_is)
    (case hd_BadPiece => k_is)
    (case kC_BadPiece => k_is)
    (case fi_BadPiece => k_is)
    (case ti_BadPiece => k_is)
    (case li_BadPiece => first | k_is | rfl)
    (case cd_BadPiece => k_is)
    (case la_BadPiece => k_is)
    (case v2_BadPiece => first | rfl | decide +kernel)
    (case fl_BadPiece => first | rfl | decide +kernel)
    (case lc_BadPiece => k_is)
    (case op_any => k_is)
    (case z_super => k_is)
    (case sup_none => first | rfl | decide +kernel)
    (case z_abs => k_is)
    (case z_bool => k_is)
    (case z_enumerate => k_is)
    (case z_int => k_is)
    (case z_isinstance => k_is)
    (case z_len => k_is)
    (case z_list => k_is)
    (case z_max => k_is)
    (case z_min => k_is)
    (case z_range => k_is)
    (case z_str => k_is)
    (case z_sum => k_is)
    (case z_tuple => k_is)
    (case z_zip => k_is)
    (case xa_BadPiece => k_is)
    (case xm_BadPiece => k_is)
    (case x_sp => k_is)
    (case x_tk => k_is)
    (case a_is_integer => k_is)
    (case l_is_integer => k_is)
    (case c_is_integer => k_is)
    (case k_is_integer => k_is)
    (case a_is_within => k_is)
    (case l_is_within => k_is)
    (case c_is_within => k_is)
    (case k_is_within => k_is)
    (case a_are_integers => k_is)
    (case l_are_integers => k_is)
    (case c_are_integers => k_is)
    (case k_are_integers => k_is)
    (case a_last_place => k_is)
    (case l_last_place => k_is)
    (case c_last_place => k_is)
    (case k_last_place => k_is)
    (case a_longer_piece => k_is)
    (case l_longer_piece => k_is)
    (case c_longer_piece => k_is)
    (case k_longer_piece => k_is)
    (case a_short_row => k_is)
    (case l_short_row => k_is)
    (case c_short_row => k_is)
    (case k_short_row => k_is)
    (case a_piece_places => k_is)
    (case l_piece_places => k_is)
    (case c_piece_places => k_is)
    (case k_piece_places => k_is)
    (case a_piece_word => k_is)
    (case l_piece_word => k_is)
    (case c_piece_word => k_is)
    (case k_piece_word => k_is)
    (case a_check_pieces => k_is)
    (case l_check_pieces => k_is)
    (case c_check_pieces => k_is)
    (case k_check_pieces => k_is)
    (case a_is_short => k_is)
    (case l_is_short => k_is)
    (case c_is_short => k_is)
    (case k_is_short => k_is)
    (case a__law_pond => k_is)
    (case l__law_pond => k_is)
    (case c__law_pond => k_is)
    (case k__law_pond => k_is)
    (case a__law_frog => k_is)
    (case l__law_frog => k_is)
    (case c__law_frog => k_is)
    (case k__law_frog => k_is)
    (case a__law_same => k_is)
    (case l__law_same => k_is)
    (case c__law_same => k_is)
    (case k__law_same => k_is)
    (case a__law_short => k_is)
    (case l__law_short => k_is)
    (case c__law_short => k_is)
    (case k__law_short => k_is)
    (case a__law_places => k_is)
    (case l__law_places => k_is)
    (case c__law_places => k_is)
    (case k__law_places => k_is)
    (case a__law_pieces => k_is)
    (case l__law_pieces => k_is)
    (case c__law_pieces => k_is)
    (case k__law_pieces => k_is)
    (case a__law_spread => k_is)
    (case l__law_spread => k_is)
    (case c__law_spread => k_is)
    (case k__law_spread => k_is)
    (case a__law_fault => k_is)
    (case l__law_fault => k_is)
    (case c__law_fault => k_is)
    (case k__law_fault => k_is)
    (case a__law_heard => k_is)
    (case l__law_heard => k_is)
    (case c__law_heard => k_is)
    (case k__law_heard => k_is)
    (case a__law_right => k_is)
    (case l__law_right => k_is)
    (case c__law_right => k_is)
    (case k__law_right => k_is)
    (case a__law_bent => k_is)
    (case l__law_bent => k_is)
    (case c__law_bent => k_is)
    (case k__law_bent => k_is)
    (case a__law_asked => k_is)
    (case l__law_asked => k_is)
    (case c__law_asked => k_is)
    (case k__law_asked => k_is)
    (case a_law => k_is)
    (case l_law => k_is)
    (case c_law => k_is)
    (case k_law => k_is)
