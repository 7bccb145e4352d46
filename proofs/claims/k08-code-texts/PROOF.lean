import PyProof.Rows.All
import Wide.All
import OpenK.AllK
import Wide.FinOn
import HandS.ForMost
import HandS.Exc
import HandS.TryOnly
import HandS.ExcOwn
import HandS.WordsExc
import HandS.ExcSuper
import KE.KExcSuper
import KE.KSuper
import HandS.IsInst
import HandS.Zip
import HandS.TupAny
import HandS.TupMul
import HandS.ExcIs
import HandS.Small
import HandS.Deep
import PyProof.StrOps2
import HandS.WordsDict
import HandS.Text
import HandS.RaiseMore
import HandS.OwnIter
import KE.KDictZip
import HandS.Ends
import HandS.Style
import KE.GoesEnum
import KE.DatumOrd
import HandS.Conv
import HandS.More
import KE.GoesRaise
import KE.IntTextLaws
import PySem.Challenge.RW_whatevertext_k08_code_texts
set_option Elab.async false
set_option linter.all false
set_option maxRecDepth 100000
set_option maxHeartbeats 4000000
/-! An own error whose __init__ says super().__init__(f1, ..) and self.f1 = f1, ..: made, raised, read. -/
namespace PySem
namespace DLX
open Builtin Builtin.ObjectAttr
open PySem.W PySem.Calls PyProof.Rows PySem.HandSPX
abbrev Pl := Pos × Pos × Pos × Pos × Pos
/-- super().__init__(f1, ..) -/
def sSup (l : List (Str × Pl)) (p1 p2 p3 p4 p5 : Pos) : Stmt := .Expr (.Call (.Attribute (.Call (.Name "super" p1) [] [] p2) "__init__" p3) (l.map fun q => .Name q.1 q.2.1) [] p4) p5
/-- self.f = f -/
def sSto (q : Str × Pl) : Stmt := .Assign [.Attribute (.Name "self" q.2.2.1) q.1 q.2.2.2.1] (.Name q.1 q.2.2.2.2.1) q.2.2.2.2.2
def bdy (l : List (Str × Pl)) (p1 p2 p3 p4 p5 : Pos) : List Stmt := sSup l p1 p2 p3 p4 p5 :: l.map sSto
/-- what the written part says of the class nm at C, whose __init__ stands at fI, its fields fs -/
structure ExTxt (prog : Program) (K : Frag) (mg : Str → Option Value) (nm : Str) (C : Addr) (fs : List Str) : Prop where
  gC : mg nm = some (.ref C)
  kC : keepIn K (.ref C) = true
  cls : ∃ n q N bs bm sn sub ab col dd k0 k1 k2 k3 k5, K.lookup C = some (excClassObj n q C N bs bm true sn sub ab col dd k0 k1 k2 k3 k5 "ValueError.__new__") ∧ refsVE bm = true ∧ alongIn K "__init__" bm = some (some (.builtin "ValueError.__init__"))
  sa : findIn K (.ref C) "__setattr__" = some (some (.builtin "object.__setattr__"))
  ga : findIn K (.ref C) "__getattribute__" = some (some (.builtin "BaseException.__getattribute__"))
  gg : findIn K (.ref C) "__getattr__" = some none
  noF : ∀ f ∈ fs, findIn K (.ref C) f = some none
  exC : subIn K (.ref C) (.type "BaseException") = some true
  tyC : typeIn K (.ref C) = some (.type "type")
  hdC : hasDictIn K C = true
  op : nsIn K cStatics "thirdparty.any" = some none
  sup : mg "super" = none
  nd : fs.Nodup
  few : fs.length ≤ 3
  fn : ∃ fI, findIn K (.ref C) "__init__" = some (some (.ref fI)) ∧ typeIn K (.ref fI) = some (.type "function") ∧
    ∃ (oc : Value) (od : Option Addr) (qual : Str) (ps : Arguments) (l : List (Str × Pl)) (p1 p2 p3 p4 p5 : Pos) (sc : Scope) (doc pm ct : Value) (an : Option Addr) (osl : Array (Option Value)) (cda cc : Addr)
      (ccl : Value) (cdd : Option Addr) (vs : Array Value) (ccs : Array (Option Value)) (file : Str) (tf : Tok) (cl : Value) (cld : Option Addr) (csl : Array (Option Value)),
    K.lookup fI = some ⟨oc, od, .func (fnX "__init__" qual ps (bdy l p1 p2 p3 p4 p5) sc [("__class__", cc)] .none .none doc pm an (.ref cda) ct), osl⟩ ∧ codeIn K (.ref cda) qual = true ∧
    (p3.endLine == p4.line) = true ∧ l.map (·.1) = fs ∧ K.lookup cda = some ⟨ccl, cdd, .fields vs, ccs⟩ ∧ vs[2]? = some (.str file tf) ∧ ((prog.main.file : Str) == file) = true ∧ K.lookup cc = some ⟨cl, cld, .cell (some (.ref C)), csl⟩ ∧
    (prog.main.scope.names.lookup ("super" : Str)).isSome = false ∧ sc.kind = .function ∧ sc.isCoroutine = false ∧ sc.isGenerator = false ∧ (∀ x ∈ sc.names, x.2 ≠ .cell) ∧ sc.names.lookup ("self" : Str) = some .local ∧ (∀ f ∈ fs, sc.names.lookup f = some .local ∧ (f == ("__debug__" : Str)) = false ∧ f ≠ ("self" : Str)) ∧
    sc.names.lookup ("super" : Str) = some .globalImplicit ∧ sc.names.lookup ("__class__" : Str) = some .free ∧ (ps.posonlyargs ++ ps.args).head?.map (·.arg) = some ("self" : Str) ∧
    (∀ us : List Value, us.length = fs.length + 1 → bindArgs (fnX "__init__" qual ps (bdy l p1 p2 p3 p4 p5) sc [("__class__", cc)] .none .none doc pm an (.ref cda) ct) ⟨us, []⟩ = pure ((("self" : Str) :: fs).zip us))
section
variable {M : Model} {A : Around} {E : Value → Shared → Prop} {s : Shared}
theorem starEach_name {x : Str} {p : Pos} {es : List Expr} {env : Env} : starEach (.Name x p :: es) env = (false, eval (.Name x p) env) :: starEach es env := by rfl
theorem backTo_cons {pos : Pos} {t : Sem Value} {r : List (Bool × Sem Value)} : backTo pos ((false, t) :: r) = (false, t) :: backTo pos r := by rfl
theorem splice_names {env : Env} {m : Str → Option Value} (hk : env.scope.kind = .function) (hn : s.heap.Ns env.locals m) (pos : Pos) : ∀ (l : List (Str × Pl)) (vs : List Value) (Q : List Value → Shared → Prop),
    (∀ (i : Nat) (q : Str × Pl), l[i]? = some q → env.kindOf q.1 = some .local ∧ (q.1 == ("__debug__" : Str)) = false ∧ ∃ v, vs[i]? = some v ∧ m q.1 = some v) → l.length = vs.length → Q vs s →
    wpAny M A (spliced (backTo pos (starEach (l.map fun q => .Name q.1 q.2.1) env))) Q E s
  | [], [], Q, _, _, h => spliced_nil h
  | [], _ :: _, _, _, hl, _ => by cases hl
  | _ :: _, [], _, _, hl, _ => by cases hl
  | q :: l, v :: vs, Q, hq, hl, h => by
    obtain ⟨h1, h2, v', e1, e2⟩ := hq 0 q rfl
    cases e1
    rw [List.map_cons, starEach_name, backTo_cons]
    refine spliced_cons (ESX.ldL hn e2 ?_ hk h1 h2)
    exact splice_names hk hn pos l vs (fun us => Q (v :: us)) (fun i q hi => by simpa using hq (i + 1) q (by simpa using hi)) (by simpa using hl) h
end
section
variable {prog : Program} {w : World} {A : Around} {E : Value → Shared → Prop} {R : Result → Shared → Prop} {hp : Heap} {g : Array GenState} {d : Drawn} {t : Nat} {os : OsState}
/-- the walk to the own dict -/
theorem osa_excV {K : W.Frag} {name : Str} {tk : Tok} {v : Value} {x C : Addr} {ox : Obj} {od : Option Obj} {cd : ClassData}
    (X : K.In hp) (I : W.InstAt hp x ox C od) (gcd : W.clsIn K C = some cd) (gm : refsVE cd.mro = true) (ga : W.findIn K (.ref C) name = some none)
    (gq : wpAny (model prog w) A.in1 (storeInOwnDict (.ref x) (.ref C) (.str name tk) name v false)
      (fun fin s' => match fin with | .done f => R (.ok f) s' | .again c' => c'.quiet = true ∧ codeAny (model prog w) A c' R s') (fun e s' => R (.error e) s') ⟨hp, g, d, t, os⟩) :
    codeAny (model prog w) A (.call (.builtin "object.__setattr__") ⟨[.ref x, .str name tk, v], []⟩) R ⟨hp, g, d, t, os⟩ := by
  have st := F.store_object
  have nen := refsVE_ne gm
  have gob : cd.mro.contains (.type "object") = true := (refsVE_contains "object" _ gm).trans (by decide +kernel)
  have isb : W.Looks (model prog w) hp (isInstance (.ref x) (.type "object")) true := I.type.andThen (W.looks_mroIn X (by unfold W.mroIn; rw [gcd, Option.bind_some, if_neg (by rw [nen]; decide), gob]))
  refine codeAny_call_builtin st.slot.plain st.entry (@W.check_slot (model prog w) _ _ ⟨hp, g, d, t, os⟩ "object.__setattr__" "object" "__setattr__" (.ref x) [.str name tk, v] [] _ st.kind st.split isb (st.args (.ref x) (.str name tk) v) ?_)
  have gmr : W.Looks (model prog w) hp (mroOf (.ref C)) cd.mro := (W.looks_clsIn X gcd).andThen .now
  have w3 : W.Looks (model prog w) hp (storeTaker? none) none := .now
  rw [W.osa_eq, refuse_eq]
  refine wpAny_bind (wpAny_bind (I.type.at (wpAny_bind (gmr.at ?_))))
  rw [refsVE_pass _ _ gm]
  refine wpAny_pure (wpAny_bind (I.type.at (wpAny_bind ((W.looks_findIn X ga).at (wpAny_bind (w3.at ?_))))))
  exact gq
/-- self.name = v on such an error that has a dict -/
theorem osa_oldV {K : W.Frag} {name : Str} {tk : Tok} {v : Value} {x C dx : Addr} {fv : Array Value} {cd : ClassData} {m0 : Str → Option Value} {nl : List Str}
    (X : K.In hp) (gx : hp.get? x = some { cls := .ref C, dict := some dx, data := .fields fv }) (gns : hp.Ns1 dx m0) (gw : Within m0 nl) (gz : nl.length ≤ 1000) (gcd : W.clsIn K C = some cd) (gm : refsVE cd.mro = true) (hh : cd.hasDict = true)
    (ga : W.findIn K (.ref C) name = some none)
    (gq : ∀ h' tk', (∀ b o, b ≠ dx → hp.get? b = some o → h'.get? b = some o) → h'.Ns1 dx (fun y => if y = name then some v else m0 y) → R (.ok (.ret .none)) ⟨h', g, d, tk', os⟩) :
    codeAny (model prog w) A (.call (.builtin "object.__setattr__") ⟨[.ref x, .str name tk, v], []⟩) R ⟨hp, g, d, t, os⟩ := by
  obtain ⟨obD, esD, epD, goD, gdD, _⟩ := gns.count gw
  have I : W.InstAt hp x { cls := .ref C, dict := some dx, data := .fields fv } C (some obD) := ⟨gx, rfl, rfl, goD⟩
  refine osa_excV X I gcd gm ga ?_
  have gcls : W.Looks (model prog w) hp (classData C) cd := W.looks_clsIn X gcd
  obtain ⟨nm, bs, mro, ns, qn, hd, sn, sb, ab, col, del⟩ := cd
  dsimp only at hh
  subst hh
  unfold storeInOwnDict ownDictForStores
  repeat (first | with_reducible refine ESX.store_in_old gns gw gz ?_ | with_reducible refine wpAny_loadPart_at gx ?_ | with_reducible refine gcls.at ?_ | wp_step)
  intro h' tk' hn' hs
  exact gq h' tk' (fun b o hb ho => (hs.2 b hb).trans ho) hn'
theorem snoc_lookup {f : Str} {v : Value} : ∀ {l : List (Str × Value)}, f ∉ l.map (·.1) → ∀ y, (l ++ [(f, v)]).lookup y = if y = f then some v else l.lookup y
  | [], _, y => by
    by_cases h : y = f
    · subst h; simp [List.lookup]
    · have : (y == f) = false := by simpa using h
      simp [List.lookup, this, h]
  | (g, u) :: l, hn, y => by
    have ih := snoc_lookup (l := l) (f := f) (v := v) (fun z => hn (List.mem_cons_of_mem _ z)) y
    have hg : g ≠ f := fun z => hn (by simp [z])
    by_cases h : y = g
    · subst h
      simp [List.lookup, hg]
    · have e : (y == g) = false := by simpa using h
      simp [List.lookup, e, ih]
theorem within_lookup : ∀ (l : List (Str × Value)), Within (fun y => l.lookup y) (l.map (·.1)) := fun l y hy => by
  cases q : l.lookup y with
  | none => exact absurd q hy
  | some v => exact List.mem_map.mpr ⟨(y, v), PySem.mem_of_lookup q, rfl⟩

theorem sto_step {K : Frag} {env : Env} {m : Str → Option Value} {q : Str × Pl} {x C : Addr} {ox : Obj} {od : Option Obj} {v : Value} {Q : Flow → Shared → Prop} {s : Shared} (X : K.In s.heap) (hk : env.scope.kind = .function) (hn : s.heap.Ns env.locals m)
    (h1 : env.kindOf q.1 = some .local) (h2 : (q.1 == ("__debug__" : Str)) = false) (h3 : m q.1 = some v) (h4 : env.kindOf "self" = some .local) (h5 : m "self" = some (.ref x)) (I : W.InstAt s.heap x ox C od)
    (hs : findIn K (.ref C) "__setattr__" = some (some (.builtin "object.__setattr__")))
    (h : codeAny (model prog w) A (.call (.builtin "object.__setattr__") ⟨[.ref x, .str q.1 s.toks, v], []⟩) (fun r s' => match r with | .ok (.ret _) => Q .next s' | .ok _ => False | .error e => E e s') { s with toks := s.toks + 1 }) :
    wpAny (model prog w) A (exec (sSto q) env) Q E s := by
  refine plainObj_wpAny_Assign_Attribute ?_
  refine ESX.ldL hn h3 (ESX.ldL hn h5 ?_ hk h4) hk h1 h2
  exact set_plain X I hs h
theorem stores_run {K : Frag} {base : Heap} {env : Env} {m : Str → Option Value} {x C dx : Addr} {cd : ClassData} {fv : Array Value} {Q : Flow → Shared → Prop} (KB : K.In base) (hk : env.scope.kind = .function)
    (hcd : W.clsIn K C = some cd) (hm : refsVE cd.mro = true) (hh : cd.hasDict = true) (hs : findIn K (.ref C) "__setattr__" = some (some (.builtin "object.__setattr__")))
    (h4 : env.kindOf "self" = some .local) (h5 : m "self" = some (.ref x)) (nb : base.get? dx = none) (nL : env.locals ≠ dx) (nx : x ≠ dx) :
    ∀ (l : List (Str × Pl)) (vs : List Value) (dn : List (Str × Value)) (s : Shared), (∀ b o, base.get? b = some o → s.heap.get? b = some o) → s.heap.Ns env.locals m → s.heap.get? x = some { cls := .ref C, dict := some dx, data := .fields fv } →
    s.heap.Ns1 dx (fun y => dn.lookup y) → dn.length + l.length ≤ 1000 → l.length = vs.length → (dn.map (·.1) ++ l.map (·.1)).Nodup →
    (∀ (i : Nat) (q : Str × Pl), l[i]? = some q → findIn K (.ref C) q.1 = some none ∧ env.kindOf q.1 = some .local ∧ (q.1 == ("__debug__" : Str)) = false ∧ ∃ v, vs[i]? = some v ∧ m q.1 = some v) →
    (∀ h' tk, (∀ b o, b ≠ dx → s.heap.get? b = some o → h'.get? b = some o) → h'.Ns1 dx (fun y => (dn ++ (l.map (·.1)).zip vs).lookup y) → Q .next { s with heap := h', toks := tk }) →
    wpAny (model prog w) A (execs (l.map sSto) env) Q E s
  | [], [], dn, s, _, _, _, hd, _, _, _, _, h => wpAny_execs_nil (h s.heap s.toks (fun _ _ _ e => e) (by simpa using hd))
  | [], _ :: _, _, _, _, _, _, _, _, hl, _, _, _ => by cases hl
  | _ :: _, [], _, _, _, _, _, _, _, hl, _, _, _ => by cases hl
  | q :: l, v :: vs, dn, s, kb, hn, hx, hd, hz, hl, nd, hq, h => by
    obtain ⟨h0, h1, h2, v', e1, e2⟩ := hq 0 q rfl
    cases e1
    have X : K.In s.heap := KB.keeps kb
    obtain ⟨oD, esD, epD, hoD, hdD, _⟩ := hd.count (within_lookup dn)
    refine wpAny_execs_cons (sto_step X hk hn h1 h2 e2 h4 h5 (ox := { cls := .ref C, dict := some dx, data := .fields fv }) (od := some oD) ⟨hx, rfl, rfl, hoD⟩ hs ?_)
    refine osa_oldV (hp := s.heap) (g := s.gens) (d := s.drawn) (os := s.os) X hx hd (within_lookup dn) (by simp at hz ⊢; omega) hcd hm hh h0 fun h' tk' k hn' => ?_
    have nf : q.1 ∉ dn.map (·.1) := fun z => by
      have := (List.nodup_append.mp nd).2.2 q.1 z q.1 (by simp)
      exact this rfl
    have e : (fun y => if y = q.1 then some v else dn.lookup y) = fun y => (dn ++ [(q.1, v)]).lookup y := funext fun y => (snoc_lookup nf y).symm
    rw [e] at hn'
    refine stores_run KB hk hcd hm hh hs h4 h5 nb nL nx l vs (dn ++ [(q.1, v)]) { s with heap := h', toks := tk' } (fun b o hb => k b o (fun z => by rw [z, nb] at hb; cases hb) (kb b o hb)) ?_ (k _ _ nx hx) hn' (by simp at hz ⊢; omega) (by simpa using hl) (by simpa using nd)
      (fun i q' hi => by simpa using hq (i + 1) q' (by simpa using hi)) fun h2 tk2 k2 hn2 => ?_
    · obtain ⟨o, es, ep, ho, r⟩ := hn
      exact ⟨o, es, ep, k _ _ nL ho, r⟩
    · refine h h2 tk2 (fun b o hb ho => k2 b o hb (k b o hb ho)) ?_
      simpa using hn2
/-- what __init__ leaves of a fresh error at x -/
structure InitEnd (h h' : Heap) (x C dx t1 : Addr) (l : List (Str × Value)) : Prop where
  keep : ∀ b o, b ≠ x → h.get? b = some o → h'.get? b = some o
  obj : h'.get? x = some { cls := .ref C, dict := some dx, data := .fields #[.ref t1, .none, .none, .none, .bool false, .none] }
  dbig : h.objs.size ≤ dx
  dne : dx ≠ x
  ns : h'.Ns1 dx (fun y => l.lookup y)
structure OwnMade (h h' : Heap) (e C d : Addr) (l : List (Str × Value)) : Prop where
  keep : ∀ b o, h.get? b = some o → h'.get? b = some o
  new : h.objs.size ≤ e
  obj : ∃ oe vs, h'.get? e = some oe ∧ oe.cls = .ref C ∧ oe.dict = some d ∧ oe.data = .fields vs ∧ vs[1]? = some .none
  dbig : h.objs.size ≤ d
  dne : d ≠ e
  ns : h'.Ns1 d (fun y => l.lookup y)
end
end DLX
end PySem
namespace PySem
namespace DLX
open Builtin Builtin.ObjectAttr
open PySem.W PySem.Calls PyProof.Rows PySem.HandSPX
theorem plain_names {env : Env} (pos : Pos) : ∀ (l : List (Str × Pl)), (backTo pos (starEach (l.map fun q => .Name q.1 q.2.1) env)).any (·.1) = false
  | [] => rfl
  | q :: l => by
    rw [List.map_cons, starEach_name, backTo_cons, List.any_cons, plain_names pos l]
    rfl
section
variable {prog : Program} {w : World} {A : Around} {E : Value → Shared → Prop} {h : Heap} {g : Array GenState} {d : Drawn} {t : Nat} {os : OsState}
variable {nm q : Str} {C N : Addr} {bs bm : List Value} {hdct : Bool} {sn : List Str} {sub : List Value} {ab : Bool} {col : Option Bool} {dd : Option Addr} {k0 k1 k2 k3 k5 : Option Value}
theorem call_mw {u e t0 : Addr} {rest : List Value} {Q : Value → Shared → Prop}
    (hC : h.get? C = some (excClassObj nm q C N bs bm hdct sn sub ab col dd k0 k1 k2 k3 k5 "ValueError.__new__")) (he : h.get? e = some (excO C t0)) (hu : h.get? u = some (kxs_mw "ValueError.__init__" e)) (hrest : rest.length ≤ sizeLine)
    (hq : ∀ h' t1, (∀ b o, b ≠ e → h.get? b = some o → h'.get? b = some o) → h'.get? e = some (excO C t1) → Q .none ⟨h', g, d, t, os⟩) :
    wpAny (model prog w) A (call (.ref u) rest) Q E ⟨h, g, d, t, os⟩ := by
  refine wpAny_call (codeAny_of_tree ?_)
  show wpAny _ A.in1 (callAny (.ref u) ⟨rest, []⟩) _ _ _
  simp only [callAny]
  refine wpAny_bind (wpAny_load hu ?_)
  simp only [kxs_mw, show (Value.type "method-wrapper" == Value.type "method" || Value.type "method-wrapper" == Value.type "builtin_function_or_method" || Value.type "method-wrapper" == Value.type "method-wrapper") = true by decide, if_true]
  refine KFB.if_so (by decide) ?_
  refine wpAny_bind (check_bound_init F.excBase_ValueError.toExcCallFacts hC he rfl ?_)
  refine wpAny_bind (wpAny_pure (wpAny_pure ?_))
  refine ⟨plainId_quiet F.excBase_ValueError.init.plain _, codeAny_builtin F.excBase_ValueError.initEntry ?_⟩
  rw [Around.under_plainId F.excBase_ValueError.init.plain _]
  wp_walk
  refine hq _ h.objs.size (fun b o hb ho => ?_) ?_
  · rw [Heap.get?_update_other _ _ (Ne.symm hb)]
    exact Heap.get?_push_of_some _ ho
  · rw [Heap.get?_update_self _ (Heap.get?_push_of_some _ he) rfl]
    rfl
theorem zip_lookup : ∀ {names : List Str} {vals : List Value}, names.Nodup → names.length = vals.length → ∀ {i : Nat} {f : Str} {v : Value}, names[i]? = some f → vals[i]? = some v → (names.zip vals).lookup f = some v
  | [], _, _, _, _, _, _, h, _ => by simp at h
  | _ :: _, [], _, hl, _, _, _, _, _ => by cases hl
  | n :: ns, u :: us, nd, hl, 0, f, v, h1, h2 => by
    simp at h1 h2; subst h1; subst h2
    simp [List.lookup]
  | n :: ns, u :: us, nd, hl, i + 1, f, v, h1, h2 => by
    have ne : f ≠ n := fun z => by
      subst z
      exact (List.nodup_cons.mp nd).1 (List.mem_of_getElem? (by simpa using h1))
    have e : (f == n) = false := by simpa using ne
    rw [List.zip_cons_cons, List.lookup_cons, e]
    exact zip_lookup (List.nodup_cons.mp nd).2 (by simpa using hl) (by simpa using h1) (by simpa using h2)
theorem lookup_mem {l : List (Str × Value)} (nd : (l.map (·.1)).Nodup) {p : Str × Value} (hp : p ∈ l) : l.lookup p.1 = some p.2 := by
  induction l with
  | nil => cases hp
  | cons q l ih =>
    rcases List.mem_cons.mp hp with rfl | hp
    · simp [List.lookup]
    · have ne : p.1 ≠ q.1 := fun z => (List.nodup_cons.mp nd).1 (show q.1 ∈ l.map (·.1) by rw [← z]; exact List.mem_map_of_mem hp)
      have e : (p.1 == q.1) = false := by simpa using ne
      rw [show q = (q.1, q.2) from rfl, List.lookup_cons, e]
      exact ih (List.nodup_cons.mp nd).2 hp
theorem zip_rev_lookup {names : List Str} {vals : List Value} (nd : names.Nodup) (hl : names.length = vals.length) {i : Nat} {f : Str} {v : Value} (h1 : names[i]? = some f) (h2 : vals[i]? = some v) : (names.zip vals).reverse.lookup f = some v := by
  have mp : (names.zip vals).map (·.1) = names := List.map_fst_zip (by omega)
  refine lookup_mem (p := (f, v)) ?_ ?_
  · rw [List.map_reverse, (List.reverse_perm _).nodup_iff, mp]; exact nd
  · rw [List.mem_reverse]
    refine List.mem_of_getElem? (i := i) ?_
    rw [List.getElem?_zip_eq_some]
    exact ⟨h1, h2⟩
end
abbrev supE (p1 p2 : Pos) : Expr := .Call (.Name "super" p1) [] [] p2
theorem mc_sup {p1 p2 apos pos : Pos} {name : Str} {env : Env} (hline : (apos.endLine == pos.line) = true) (ov : Value) (n : Nat) (args : List (Bool × Sem Value)) (hf : methodCallForm n args [] = true) :
    methodCall (supE p1 p2) name apos pos env ov n args [] = (do
      let (f, first) ← holding [ov] (getMethod ov name (do return (← importBound (supE p1 p2) env).getD true))
      callWith pos f first args []) := by
  unfold methodCall
  rw [hf]
  have e : methodCallPos true (supE p1 p2) env apos pos = pure pos := by unfold methodCallPos; rw [hline]; rfl
  rw [e]
  rfl
theorem he_sup {env : Env} {p1 p2 : Pos} {name : Str} {apos pos : Pos} (hline : (apos.endLine == pos.line) = true) (l : List (Str × Pl)) (hf : ∀ pos, methodCallForm (l.map fun q : Str × Pl => Expr.Name q.1 q.2.1).length (backTo pos (starEach (l.map fun q : Str × Pl => Expr.Name q.1 q.2.1) env)) [] = true) : ∃ pl : Sem Bool, eval (.Call (.Attribute (supE p1 p2) name apos) (l.map fun q : Str × Pl => Expr.Name q.1 q.2.1) [] pos) env = (do
      let ov ← attributeBase (supE p1 p2) name env (eval (supE p1 p2) env)
      standAt apos.atName
      let (f, first) ← holding [ov] (getMethod ov name pl)
      callWith pos f first (backTo pos (starEach (l.map fun q : Str × Pl => Expr.Name q.1 q.2.1) env)) []) := by
  refine ⟨do return (← importBound (supE p1 p2) env).getD true, ?_⟩
  show (do
    let ov ← attributeBase (supE p1 p2) name env (eval (supE p1 p2) env)
    standAt apos.atName
    methodCall (supE p1 p2) name apos pos env ov ((l.map fun q : Str × Pl => Expr.Name q.1 q.2.1).length + 0) (backTo pos (starEach (l.map fun q : Str × Pl => Expr.Name q.1 q.2.1) env)) []) = _
  congr 1
  funext ov
  congr 1
  funext _
  exact mc_sup hline ov _ _ (hf pos)
theorem form_names {env : Env} : ∀ (l : List (Str × Pl)) (pos : Pos), (backTo pos (starEach (l.map fun q => .Name q.1 q.2.1) env)).all (!·.1) = true
  | [], _ => rfl
  | q :: l, pos => by
    rw [List.map_cons, starEach_name, backTo_cons, List.all_cons, form_names l pos]
    rfl
theorem evalArgs_names {M : Model} {A : Around} {E : Value → Shared → Prop} {s : Shared} {env : Env} {m : Str → Option Value} {f : Value} (hk : env.scope.kind = .function) (hn : s.heap.Ns env.locals m) (pos : Pos) (l : List (Str × Pl)) (vs : List Value) {Q : Args → Shared → Prop} (ne : l ≠ [])
    (hq : ∀ (i : Nat) (q : Str × Pl), l[i]? = some q → env.kindOf q.1 = some .local ∧ (q.1 == ("__debug__" : Str)) = false ∧ ∃ v, vs[i]? = some v ∧ m q.1 = some v) (hl : l.length = vs.length) (h : Q ⟨vs, []⟩ s) :
    wpAny M A (evalArgs f true (backTo pos (starEach (l.map fun q => .Name q.1 q.2.1) env)) []) Q E s := by
  have h0 := splice_names (M := M) (A := A) (E := E) hk hn pos l vs (fun us s' => Q ⟨us, []⟩ s') hq hl h
  cases l with
  | nil => exact absurd rfl ne
  | cons q l =>
    rw [List.map_cons, starEach_name, backTo_cons] at h0 ⊢
    exact evalArgs_plain h0
section
variable {prog : Program} {w : World} {A : Around} {E : Value → Shared → Prop} {R : Result → Shared → Prop} {K : Frag} {mg mb : Str → Option Value} {base : Heap} {nm : Str} {C : Addr} {fs : List Str}
theorem ex_init {fI : Addr} (T : ExTxt prog K mg nm C fs) (hfI : findIn K (.ref C) "__init__" = some (some (.ref fI))) {s : Shared} (KB : K.In base) (G : base.Ns mainGlobals mg) (BL : base.Ns builtinsNs mb) (bl : ∀ x : Str, x ≠ "__name__" → mb x = bootBuiltins x) (lim : base.NoLimit)
    (kb : ∀ b o, base.get? b = some o → s.heap.get? b = some o) {x t0 : Addr} {vs : List Value} (hx : s.heap.get? x = some (excO C t0)) (nb : base.get? x = none) (hroom : A.depth < recursionLimit) (hl : vs.length = fs.length) (h1 : 0 < fs.length)
    (hq : ∀ h' tk dx t1, InitEnd s.heap h' x C dx t1 (fs.zip vs) → base.get? dx = none → R (.ok (.ret .none)) { s with heap := h', toks := tk }) :
    codeAny (model prog w) A (.call (.ref fI) ⟨.ref x :: vs, []⟩) R s := by
  obtain ⟨fI', a1, a2, oc, od, qual, ps, l, p1, p2, p3, p4, p5, sc, doc, pm, ct, an, osl, cda, cc, ccl, cdd, vsC, ccs, file, tf, cl, cld, csl, lk, hcd, hline, hfs, hcode, hv2, hfile, hcell, htop, hk, hco, hgen, hnc, hself, hloc, hsup, hcls, hhead, hbind⟩ := T.fn
  rw [hfI] at a1
  cases a1
  obtain ⟨n, q, N, bs, bm, sn, sub, ab, col, dd, k0, k1, k2, k3, k5, hC, hbm, hal⟩ := T.cls
  have hclsIn : clsIn K C = some { name := n, bases := bs, mro := .ref C :: bm, ns := N, qualname := q, hasDict := true, slotNames := sn, subclasses := sub, abstract := ab, collection := col, hasDel := false } := by unfold clsIn; rw [hC] <;> rfl
  have X : K.In s.heap := KB.keeps kb
  have ndS : (("self" : Str) :: fs).Nodup := List.nodup_cons.mpr ⟨fun z => (hloc _ z).2.2 rfl, T.nd⟩
  have lenS : (("self" : Str) :: fs).length = (Value.ref x :: vs).length := by simp [hl]
  refine ks_codeAny_call_defAt (fd := fnX "__init__" qual ps (bdy l p1 p2 p3 p4 p5) sc [("__class__", cc)] .none .none doc pm an (.ref cda) ct) (body := bdy l p1 p2 p3 p4 p5) (binds := (("self" : Str) :: fs).zip (Value.ref x :: vs)) hroom (X _ _ lk) rfl (lim.keeps kb) (codeRec_of X hcd) rfl
    (.of_eq (hbind _ (by simp [hl]))) hnc (fun y hy => ?_) (fun h₀ hns k0' => ?_) hco hgen hk
  · rcases List.mem_cons.mp (List.of_mem_zip hy).1 with e | e
    · rw [e]; exact hself
    · exact (hloc _ e).1
  have kb0 : ∀ b o, base.get? b = some o → h₀.get? b = some o := fun b o e => k0' b o (kb b o e)
  have X0 : K.In h₀ := KB.keeps kb0
  have hx0 := k0' _ _ hx
  have mself : (((("self" : Str) :: fs).zip (Value.ref x :: vs)).reverse.lookup ("self" : Str)) = some (Value.ref x) := zip_rev_lookup ndS lenS (i := 0) rfl rfl
  have mf : ∀ (i : Nat) (f : Str) (v : Value), fs[i]? = some f → vs[i]? = some v → (((("self" : Str) :: fs).zip (Value.ref x :: vs)).reverse.lookup f) = some v := fun i f v e1 e2 => zip_rev_lookup ndS lenS (i := i + 1) (by simpa using e1) (by simpa using e2)
  obtain ⟨ar, har, harg⟩ : ∃ ar, (ps.posonlyargs ++ ps.args).head? = some ar ∧ ar.arg = "self" := by
    cases e : (ps.posonlyargs ++ ps.args).head? with
    | none => rw [e] at hhead; cases hhead
    | some ar => rw [e] at hhead; exact ⟨ar, rfl, Option.some.inj hhead⟩
  obtain ⟨hp, g, dr, tk, os⟩ := s
  have lenL : l.length = vs.length := by rw [hl, ← hfs, List.length_map]
  have inL : ∀ (i : Nat) (q : Str × Pl), l[i]? = some q → fs[i]? = some q.1 := fun i q e => by rw [← hfs, List.getElem?_map, e]; rfl
  have allL : ∀ (i : Nat) (q : Str × Pl), l[i]? = some q → ∃ v, vs[i]? = some v ∧ (((("self" : Str) :: fs).zip (Value.ref x :: vs)).reverse.lookup q.1) = some v := fun i q e => by
    have hi : i < vs.length := by rw [← lenL]; exact (List.getElem?_eq_some_iff.mp e).1
    exact ⟨vs[i], List.getElem?_eq_getElem hi, mf i q.1 _ (inL i q e) (List.getElem?_eq_getElem hi)⟩
  have ne0 : l ≠ [] := fun z => by rw [z] at hfs; rw [← hfs] at h1; simp at h1
  have inter : ∀ L, interactive (callEnv (fnX "__init__" qual ps (bdy l p1 p2 p3 p4 p5) sc [("__class__", cc)] .none .none doc pm an (.ref cda) ct) L fI) = false := fun L => by
    show interactive (envX qual sc L fI (.ref cda) [("__class__", cc)]) = false
    simp [interactive, hk]
  show _root_.PySem.wpAt _ _ _ (execs (sSup l p1 p2 p3 p4 p5 :: l.map sSto) (envX qual sc hp.objs.size fI (.ref cda) [("__class__", cc)])) _ _ _
  have few3 : l.length ≤ 3 := by rw [lenL, hl]; exact T.few
  obtain ⟨pl, he⟩ := he_sup (env := envX qual sc hp.objs.size fI (.ref cda) [("__class__", cc)]) (p1 := p1) (p2 := p2) (name := "__init__") (apos := p3) (pos := p4) hline l fun pos => by
    unfold methodCallForm
    rw [form_names, List.length_map]
    simp
    omega
  refine ks_wpAt_execs_cons (ks_wpAt_Expr_any (ks_wpAt_MethodCall (pl := pl) (he := he) (ks_wpAt_super_base (env := envX qual sc hp.objs.size fI (.ref cda) [("__class__", cc)]) hsup hcls (by decide) rfl (X0 _ _ lk) rfl har rfl (X0 _ _ hcode) rfl hv2 hfile htop ?_)) (inter _))
  refine ks_loadName_global hk hsup (Calls.loadGlobal_builtin (env := envX qual sc hp.objs.size fI (.ref cda) [("__class__", cc)]) (G.keeps kb0) T.sup (BL.keeps kb0) ((bl _ (by decide +kernel)).trans (by decide +kernel)) ⟨rfl, ?_⟩)
  refine wpAny_loadName_free hk hcls rfl ⟨_, X0 _ _ hcell, rfl⟩ ?_
  refine wpAny_loadName_local hk (by rw [harg]; exact hself) hns (by rw [harg]; exact mself) ?_
  have hCh := X0 _ _ hC
  have hmro : mroIn K C (.ref C) = some true := by
    unfold mroIn
    rw [hclsIn, Option.bind_some]
    simp
  refine ks_wpAny_isType_cls hCh rfl ⟨rfl, ?_⟩
  refine ks_wpAny_call_super hCh rfl hx0 rfl (fun c e => by cases e) (looks_mroIn X0 hmro) (fun h2 e2 k2 => ?_)
  have X2 : K.In h2 := X0.keeps k2
  have hx2 := k2 _ _ hx0
  have xC : x ≠ C := fun z => by rw [z] at hx2; have := X2 _ _ hC; rw [hx2] at this; cases this
  have I2 : InstAt h2 x (excO C t0) C none := ⟨hx2, rfl, rfl, trivial⟩
  have sVE : mroIn K C (.type "ValueError") = some true := by
    unfold mroIn
    rw [hclsIn, Option.bind_some]
    have e : (Value.ref C :: bm).contains (.type "ValueError") = true := by rw [List.contains_cons, refsVE_contains "ValueError" _ hbm, (by decide +kernel : veTail.contains (.type "ValueError") = true), Bool.or_true]
    rw [if_neg (show ¬ (List.isEmpty (Value.ref C :: bm) = true) from Bool.false_ne_true), e]
  refine kxs_getMethod kxs_ValueError e2 (looks_opaque X2 T.op) (l₀ := .ref C :: bm) (l := bm) ((looks_clsIn X2 hclsIn).andThen .now) (by simp [List.dropWhile_cons]) X2 hal (I2.type.andThen (looks_mroIn X2 sVE)) xC (by decide) ?_
  refine kxs_callWith (i := "ValueError.__init__") (x := x) (plain_names p4 l) ?_
  have ns3 : (h2.push (kxs_mw "ValueError.__init__" x)).Ns hp.objs.size (fun y => (((("self" : Str) :: fs).zip (Value.ref x :: vs)).reverse.lookup y)) := by
    obtain ⟨o, es, ep, ho, r⟩ := hns
    exact ⟨o, es, ep, Heap.get?_push_of_some _ (k2 _ _ ho), r⟩
  have hx3 : (h2.push (kxs_mw "ValueError.__init__" x)).get? x = some (excO C t0) := Heap.get?_push_of_some _ hx2
  have hu3 : (h2.push (kxs_mw "ValueError.__init__" x)).get? h2.objs.size = some (kxs_mw "ValueError.__init__" x) := Heap.get?_push_at rfl rfl
  have hC3 : (h2.push (kxs_mw "ValueError.__init__" x)).get? C = some _ := Heap.get?_push_of_some _ (X2 _ _ hC)
  refine evalArgs_names (m := fun y => (((("self" : Str) :: fs).zip (Value.ref x :: vs)).reverse.lookup y)) hk ns3 p4 l vs ne0 (fun i q e => ?_) lenL ⟨hu3, ?_⟩
  · have hq := hloc _ (List.mem_of_getElem? (inL i q e))
    exact ⟨hq.1, hq.2.1, allL i q e⟩
  show wpAny _ _ (call (.ref h2.objs.size) ([] ++ vs)) _ _ _
  rw [List.nil_append]
  refine call_mw hC3 hx3 hu3 (by rw [hl]; exact Nat.le_trans T.few (by rw [sizeLine_eq]; decide)) fun h4 t1 k4 hx4 => ?_
  -- the stores
  have keep04 : ∀ b o, b ≠ x → h₀.get? b = some o → h4.get? b = some o := fun b o hb e => k4 b o hb (Heap.get?_push_of_some _ (k2 _ _ e))
  have keepS4 : ∀ b o, b ≠ x → hp.get? b = some o → h4.get? b = some o := fun b o hb e => keep04 b o hb (k0' b o e)
  have kb4 : ∀ b o, base.get? b = some o → h4.get? b = some o := fun b o e => keepS4 b o (fun z => by rw [z, nb] at e; cases e) (kb b o e)
  have X4 : K.In h4 := KB.keeps kb4
  have xL : hp.objs.size ≠ x := Nat.ne_of_gt (Heap.lt_size hx)
  have ns4 : h4.Ns hp.objs.size (fun y => (((("self" : Str) :: fs).zip (Value.ref x :: vs)).reverse.lookup y)) := by
    obtain ⟨o, es, ep, ho, r⟩ := hns
    exact ⟨o, es, ep, keep04 _ _ xL ho, r⟩
  have szL : hp.objs.size < h4.objs.size := ns4.lt
  cases l with
  | nil => exact absurd rfl ne0
  | cons q0 l' =>
    cases vs with
    | nil => cases lenL
    | cons v0 vs' =>
      obtain ⟨w0, e0, m0⟩ := allL 0 q0 rfl
      cases e0
      have f0 : q0.1 ∈ fs := List.mem_of_getElem? (inL 0 q0 rfl)
      refine _root_.PySem.wpAt_of_wpAny (wpAny_execs_cons (sto_step (x := x) (C := C) (ox := excO C t1) (od := none) X4 hk ns4 (hloc _ f0).1 (hloc _ f0).2.1 m0 hself mself ⟨hx4, rfl, rfl, trivial⟩ T.sa ?_))
      refine exc_osa X4 hx4 hclsIn (show refsVE (.ref C :: bm) = true from hbm) rfl (T.noF _ f0) fun h5 tk5 dx k5 dn dne hx5 hn5 => ?_
      have dn : h4.objs.size ≤ dx := dn
      have nbd : base.get? dx = none := by
        cases z : base.get? dx with
        | none => rfl
        | some o => exact absurd (Nat.lt_of_lt_of_le (Heap.lt_size (kb4 _ _ z)) dn) (Nat.lt_irrefl _)
      have fin : ∀ h6 tk6, (∀ b o, b ≠ dx → h5.get? b = some o → h6.get? b = some o) → h6.Ns1 dx (fun y => (fs.zip (v0 :: vs')).lookup y) → R (.ok (.ret .none)) ⟨h6, g, dr, tk6, os⟩ := fun h6 tk6 k6 n6 => by
        refine hq h6 tk6 dx t1 ⟨fun b o hb e => k6 b o ?_ (k5 b o hb (keepS4 b o hb e)), k6 _ _ (Ne.symm dne) hx5, ?_, dne, n6⟩ nbd
        · have z1 : b < hp.objs.size := Heap.lt_size e
          exact Nat.ne_of_lt (Nat.lt_of_lt_of_le z1 (Nat.le_trans (Nat.le_of_lt szL) dn))
        · show hp.objs.size ≤ dx
          omega
      have e5 : (fun y => if y = q0.1 then some v0 else none) = fun y => ([(q0.1, v0)] : List (Str × Value)).lookup y := funext fun y => by
        by_cases h : y = q0.1
        · subst h; simp [List.lookup]
        · have : (y == q0.1) = false := by simpa using h
          simp [List.lookup, this, h]
      rw [e5] at hn5
      have ne5 : envX qual sc hp.objs.size fI (.ref cda) [("__class__", cc)] = envX qual sc hp.objs.size fI (.ref cda) [("__class__", cc)] := rfl
      refine stores_run (x := x) (C := C) (dx := dx) (m := fun y => (((("self" : Str) :: fs).zip (Value.ref x :: v0 :: vs')).reverse.lookup y)) (env := envX qual sc hp.objs.size fI (.ref cda) [("__class__", cc)]) KB hk hclsIn (show refsVE (.ref C :: bm) = true from hbm) rfl T.sa hself mself nbd
        (by show hp.objs.size ≠ dx; omega) (Ne.symm dne) l' vs' [(q0.1, v0)] ⟨h5, g, dr, tk5, os⟩ (fun b o e => k5 b o (fun z => by rw [z, nb] at e; cases e) (kb4 b o e)) ?_ hx5 hn5 (by simp at few3 ⊢; omega) (by simpa using lenL) ?_ (fun i q e => ?_) fun h6 tk6 k6 n6 => ?_
      · obtain ⟨o, es, ep, ho, r⟩ := ns4
        exact ⟨o, es, ep, k5 _ _ xL ho, r⟩
      · have := T.nd
        rw [← hfs] at this
        simpa using this
      · have e' : (q0 :: l')[i + 1]? = some q := by simpa using e
        have hm := List.mem_of_getElem? (inL (i + 1) q e')
        obtain ⟨v, h1, h2⟩ := allL (i + 1) q e'
        exact ⟨T.noF _ hm, (hloc _ hm).1, (hloc _ hm).2.1, v, by simpa using h1, h2⟩
      · refine fin h6 tk6 k6 ?_
        rw [← hfs]
        simpa using n6
end
end DLX
end PySem
namespace DL
open PySem L2

inductive D where
  | non | bl (b : Bool) | int (i : Int) | str (s : Str) | tup (ds : List D) | lst (ds : List D) | dct (kds : List (Key × D)) | scr (ns : List Int)
  deriving Inhabited

mutual
inductive Rep (K : PySem.W.Frag) (B : Hp) : V → D → Prop
  | non : Rep K B .non .non
  | bl (b : Bool) : Rep K B (.bl b) (.bl b)
  | int (i : Int) : Rep K B (.int i) (.int i)
  | str (s : Str) : Rep K B (.str s) (.str s)
  | tup {a : Addr} {vs : List V} {ds : List D} (h : SqT K B a vs) (r : Reps K B vs ds) : Rep K B (.ref a) (.tup ds)
  | lst {a : Addr} {vs : List V} {ds : List D} (h : B a = some (.lst vs)) (r : Reps K B vs ds) : Rep K B (.ref a) (.lst ds)
  | scr {a : Addr} {ns : List Int} (h : SqL K B a (ns.map V.int)) : Rep K B (.ref a) (.scr ns)
  | dct {a : Addr} {kvs : List (Key × V)} {kds : List (Key × D)} (h : B a = some (.dK kvs)) (r : RepsK K B kvs kds) : Rep K B (.ref a) (.dct kds)
inductive Reps (K : PySem.W.Frag) (B : Hp) : List V → List D → Prop
  | nil : Reps K B [] []
  | cons {v : V} {d : D} {vs : List V} {ds : List D} (h : Rep K B v d) (r : Reps K B vs ds) : Reps K B (v :: vs) (d :: ds)
inductive RepsK (K : PySem.W.Frag) (B : Hp) : List (Key × V) → List (Key × D) → Prop
  | nil : RepsK K B [] []
  | cons {k : Key} {v : V} {d : D} {vs : List (Key × V)} {ds : List (Key × D)} (h : Rep K B v d) (r : RepsK K B vs ds) : RepsK K B ((k, v) :: vs) ((k, d) :: ds)
end
theorem sameT {K : PySem.W.Frag} {H H' : Hp} {a : Addr} {xs : List V} (e : Same H H') (h : SqT K H a xs) : SqT K H' a xs := by
  rcases h with (h | ⟨o, h⟩) | h
  · exact .inl (.inl (e _ _ h))
  · exact .inl (.inr ⟨o, e _ _ h⟩)
  · exact .inr h
mutual
theorem Rep.mono {K : PySem.W.Frag} {B B' : Hp} (e : Same B B') : ∀ {v : V} {d : D}, Rep K B v d → Rep K B' v d
  | _, _, .non => .non
  | _, _, .bl b => .bl b
  | _, _, .int i => .int i
  | _, _, .str s => .str s
  | _, _, .tup h r => .tup (sameT e h) (Reps.mono e r)
  | _, _, .lst h r => .lst (e _ _ h) (Reps.mono e r)
  | _, _, .scr h => .scr (e.seq h)
  | _, _, .dct h r => .dct (e _ _ h) (RepsK.mono e r)
theorem Reps.mono {K : PySem.W.Frag} {B B' : Hp} (e : Same B B') : ∀ {vs : List V} {ds : List D}, Reps K B vs ds → Reps K B' vs ds
  | _, _, .nil => .nil
  | _, _, .cons h r => .cons (Rep.mono e h) (Reps.mono e r)
theorem RepsK.mono {K : PySem.W.Frag} {B B' : Hp} (e : Same B B') : ∀ {vs : List (Key × V)} {ds : List (Key × D)}, RepsK K B vs ds → RepsK K B' vs ds
  | _, _, .nil => .nil
  | _, _, .cons h r => .cons (Rep.mono e h) (RepsK.mono e r)
end
section
variable {K : PySem.W.Frag} {B B' H H' R : Hp} {vs ws : List V} {ds es : List D} {v : V} {d : D}
theorem Reps.length : ∀ {vs : List V} {ds : List D}, Reps K B vs ds → vs.length = ds.length
  | _, _, .nil => rfl
  | _, _, .cons _ r => by rw [List.length_cons, List.length_cons, Reps.length r]
theorem Reps.append : ∀ {vs : List V} {ds : List D}, Reps K B vs ds → Reps K B ws es → Reps K B (vs ++ ws) (ds ++ es)
  | _, _, .nil, h => h
  | _, _, .cons h r, q => .cons h (Reps.append r q)
theorem Reps.get : ∀ {vs : List V} {ds : List D} {i : Nat} {d : D}, Reps K B vs ds → ds[i]? = some d → ∃ v, vs[i]? = some v ∧ Rep K B v d
  | _, _, _, _, .nil, e => by simp at e
  | _, _, 0, _, .cons h _, e => by simp at e; subst e; exact ⟨_, rfl, h⟩
  | _, _, i + 1, d, .cons _ r, e => by
    obtain ⟨v, h1, h2⟩ := Reps.get (i := i) (d := d) r (by simpa using e)
    exact ⟨v, by simpa using h1, h2⟩
theorem Reps.take : ∀ {vs : List V} {ds : List D} (n : Nat), Reps K B vs ds → Reps K B (vs.take n) (ds.take n)
  | _, _, 0, _ => .nil
  | _, _, n + 1, .nil => .nil
  | _, _, n + 1, .cons h r => .cons h (Reps.take n r)
theorem Reps.drop : ∀ {vs : List V} {ds : List D} (n : Nat), Reps K B vs ds → Reps K B (vs.drop n) (ds.drop n)
  | _, _, 0, r => r
  | _, _, n + 1, .nil => .nil
  | _, _, n + 1, .cons h r => Reps.drop n r
theorem Reps.set {v : V} {d : D} (h : Rep K B v d) : ∀ {vs : List V} {ds : List D} (n : Nat), Reps K B vs ds → Reps K B (vs.set n v) (ds.set n d)
  | _, _, _, .nil => .nil
  | _, _, 0, .cons _ r => .cons h r
  | _, _, n + 1, .cons q r => .cons q (Reps.set h n r)
theorem Reps.snoc (r : Reps K B vs ds) (h : Rep K B v d) : Reps K B (vs ++ [v]) (ds ++ [d]) := r.append (.cons h .nil)
theorem Reps.dropLast : ∀ {vs : List V} {ds : List D}, Reps K B vs ds → Reps K B vs.dropLast ds.dropLast
  | _, _, .nil => .nil
  | _, _, .cons h .nil => .nil
  | _, _, .cons h (.cons h2 r) => by
    have := Reps.dropLast (.cons h2 r)
    simpa [List.dropLast] using Reps.cons h this
theorem Reps.reverse (r : Reps K B vs ds) : Reps K B vs.reverse ds.reverse := by
  induction vs generalizing ds with
  | nil => cases r; exact .nil
  | cons v vs ih =>
    cases r with
    | cons h r =>
      rw [List.reverse_cons, List.reverse_cons]
      exact (ih r).snoc h
theorem Reps.eraseIdx : ∀ {vs : List V} {ds : List D} (n : Nat), Reps K B vs ds → Reps K B (vs.eraseIdx n) (ds.eraseIdx n)
  | _, _, _, .nil => .nil
  | _, _, 0, .cons _ r => r
  | _, _, n + 1, .cons q r => .cons q (Reps.eraseIdx n r)
theorem Reps.rep (r : Reps K B vs ds) : ∀ k : Nat, Reps K B (List.replicate k vs).flatten (List.replicate k ds).flatten
  | 0 => .nil
  | k + 1 => by
    rw [List.replicate_succ, List.replicate_succ, List.flatten_cons, List.flatten_cons]
    exact r.append (Reps.rep r k)
end

/-! ## shapes: what a slot holds -/
inductive LS where
  | pu | ls
  deriving DecidableEq
inductive Sh where
  | lf (l : LS) | rc (ls : List LS)
  deriving DecidableEq
abbrev Sh.pu : Sh := .lf .pu
abbrev Sh.ls : Sh := .lf .ls
/-- what stands at an own place: a list, a dict -/
inductive OwnO (K : PySem.W.Frag) (B H : Hp) (p : Addr) : D → Prop
  | lst {vs : List V} {ds : List D} (h : H p = some (.lst vs)) (r : Reps K B vs ds) : OwnO K B H p (.lst ds)
  | dct {kvs : List (Key × V)} {kds : List (Key × D)} (h : H p = some (.dK kvs)) (r : RepsK K B kvs kds) : OwnO K B H p (.dct kds)
def OwnL (K : PySem.W.Frag) (B H : Hp) : LS → V → D → List Addr → Prop
  | .pu, v, d, f => Rep K B v d ∧ f = []
  | .ls, v, d, f => ∃ p, v = .ref p ∧ f = [p] ∧ OwnO K B H p d
inductive OwnLs (K : PySem.W.Frag) (B H : Hp) : List LS → List V → List D → List Addr → Prop
  | nil : OwnLs K B H [] [] [] []
  | cons {l : LS} {ls : List LS} {v : V} {vs : List V} {d : D} {ds : List D} {f fs : List Addr} (h : OwnL K B H l v d f) (r : OwnLs K B H ls vs ds fs) : OwnLs K B H (l :: ls) (v :: vs) (d :: ds) (f ++ fs)
def Own (K : PySem.W.Frag) (B H : Hp) : Sh → V → D → List Addr → Prop
  | .lf l, v, d, f => OwnL K B H l v d f
  | .rc ls, v, d, f => ∃ p vs ds fs, v = .ref p ∧ d = .lst ds ∧ f = p :: fs ∧ H p = some (.lst vs) ∧ OwnLs K B H ls vs ds fs

abbrev Env := List (Option D)
def isS (ρ : Env) (i : Nat) : Prop := ∃ d, ρ[i]? = some (some d)
/-- the footprints: what each slot owns -/
structure Feet (K : PySem.W.Frag) (Γ : List Sh) (B R H : Hp) (σ : L2.St) (ρ : Env) (F : Nat → List Addr) : Prop where
  at_ : ∀ i d s, ρ[i]? = some (some d) → Γ[i]? = some s → ∃ v, σ[i]? = some (some v) ∧ Own K B H s v d (F i)
  no : ∀ i p, p ∈ F i → H p ≠ none ∧ B p = none ∧ R p = none
  nd : ∀ i, (F i).Nodup
  dj : ∀ i j p, p ∈ F i → p ∈ F j → i = j
structure Ok (K : PySem.W.Frag) (Γ : List Sh) (B R H : Hp) (σ : L2.St) (ρ : Env) : Prop where
  sb : Same B H
  sr : Same R H
  lσ : σ.length = Γ.length
  lρ : ρ.length = Γ.length
  br : ∀ p o, R p = some o → B p = none
  own : ∃ F : Nat → List Addr, Feet K Γ B R H σ ρ F
section
variable {K : PySem.W.Frag} {Γ : List Sh} {B B' R H H' : Hp} {σ : L2.St} {ρ : Env} {s : Sh} {v : V} {d : D} {f : List Addr} {i : Nat}
theorem OwnO.at {p : Addr} (sb : Same B B') (h : OwnO K B H p d) (k : ∀ o, H p = some o → H' p = some o) : OwnO K B' H' p d := by
  cases h with
  | lst h r => exact .lst (k _ h) (r.mono sb)
  | dct h r => exact .dct (k _ h) (r.mono sb)
theorem OwnO.there {p : Addr} (h : OwnO K B H p d) : ∃ o, H p = some o ∧ (∀ B' : Hp, Same B B' → B' p = some o → Rep K B' (.ref p) d) := by
  cases h with
  | lst h r => exact ⟨_, h, fun B' sb e => .lst e (r.mono sb)⟩
  | dct h r => exact ⟨_, h, fun B' sb e => .dct e (r.mono sb)⟩
theorem OwnL.mono (sb : Same B B') (sh : Same H H') : ∀ {l : LS} {v : V} {d : D} {f : List Addr}, OwnL K B H l v d f → OwnL K B' H' l v d f
  | .pu, _, _, _, ⟨r, e⟩ => ⟨r.mono sb, e⟩
  | .ls, _, _, _, ⟨p, e1, e3, h⟩ => ⟨p, e1, e3, h.at sb fun o => sh _ o⟩
theorem OwnLs.mono (sb : Same B B') (sh : Same H H') {ls : List LS} {vs : List V} {ds : List D} {fs : List Addr} (h : OwnLs K B H ls vs ds fs) : OwnLs K B' H' ls vs ds fs := by
  induction h with
  | nil => exact .nil
  | cons h _ ih => exact .cons (h.mono sb sh) ih
theorem Own.mono (sb : Same B B') (sh : Same H H') : ∀ {s : Sh} {v : V} {d : D} {f : List Addr}, Own K B H s v d f → Own K B' H' s v d f
  | .lf _, _, _, _, h => OwnL.mono sb sh h
  | .rc _, _, _, _, ⟨p, vs, ds, fs, e1, e2, e3, h, r⟩ => ⟨p, vs, ds, fs, e1, e2, e3, sh _ _ h, r.mono sb sh⟩
/-- what owned things stand on: only their feet and the frozen part -/
theorem OwnL.at (sb : Same B B') : ∀ {l : LS} {v : V} {d : D} {f : List Addr}, OwnL K B H l v d f → (∀ p ∈ f, ∀ o, H p = some o → H' p = some o) → OwnL K B' H' l v d f
  | .pu, _, _, _, ⟨r, e⟩, _ => ⟨r.mono sb, e⟩
  | .ls, _, _, _, ⟨p, e1, e3, h⟩, k => ⟨p, e1, e3, h.at sb fun o => k p (by rw [e3]; exact List.mem_cons_self) o⟩
theorem OwnLs.at (sb : Same B B') {ls : List LS} {vs : List V} {ds : List D} {fs : List Addr} (h : OwnLs K B H ls vs ds fs) : (∀ p ∈ fs, ∀ o, H p = some o → H' p = some o) → OwnLs K B' H' ls vs ds fs := by
  induction h with
  | nil => exact fun _ => .nil
  | cons h _ ih => exact fun k => .cons (h.at sb fun p hp => k p (List.mem_append_left _ hp)) (ih fun p hp => k p (List.mem_append_right _ hp))
theorem Own.at (sb : Same B B') : ∀ {s : Sh} {v : V} {d : D} {f : List Addr}, Own K B H s v d f → (∀ p ∈ f, ∀ o, H p = some o → H' p = some o) → Own K B' H' s v d f
  | .lf _, _, _, _, h, k => OwnL.at sb h k
  | .rc _, _, _, _, ⟨p, vs, ds, fs, e1, e2, e3, h, r⟩, k => ⟨p, vs, ds, fs, e1, e2, e3, k p (by rw [e3]; exact List.mem_cons_self) _ h, r.at sb fun q hq => k q (by rw [e3]; exact List.mem_cons_of_mem _ hq)⟩
theorem Ok.get (O : Ok K Γ B R H σ ρ) (h : ρ[i]? = some (some d)) (hs : Γ[i]? = some .pu) : ∃ v, σ[i]? = some (some v) ∧ Rep K B v d := by
  obtain ⟨F, O⟩ := O.own
  obtain ⟨v, h1, h2, _⟩ := O.at_ i d _ h hs
  exact ⟨v, h1, h2⟩
/-- the heap grows, what is new may be frozen -/
theorem Ok.grow (O : Ok K Γ B R H σ ρ) (sb : Same B B') (sh : Same H H') (sbh : Same B' H') (nw : ∀ a o, B' a = some o → B a = some o ∨ H a = none) : Ok K Γ B' R H' σ ρ := by
  obtain ⟨F, W⟩ := O.own
  refine ⟨sbh, O.sr.trans sh, O.lσ, O.lρ, fun p o e => ?_, F, ⟨fun i d s h hs => ?_, fun i p hp => ?_, W.nd, W.dj⟩⟩
  · cases e2 : B' p with
    | none => rfl
    | some u =>
      rcases nw p u e2 with z | z
      · rw [O.br p o e] at z; cases z
      · rw [O.sr p o e] at z; cases z
  · obtain ⟨v, h1, h2⟩ := W.at_ i d s h hs
    exact ⟨v, h1, h2.mono sb sh⟩
  · obtain ⟨h1, h2, h3⟩ := W.no i p hp
    refine ⟨?_, ?_, h3⟩
    · intro z
      cases e : H p with
      | none => exact h1 e
      | some o => rw [sh p o e] at z; cases z
    · cases e : B' p with
      | none => rfl
      | some o =>
        rcases nw p o e with z | z
        · rw [h2] at z; cases z
        · exact absurd z h1
theorem Ok.heap (O : Ok K Γ B R H σ ρ) (sh : Same H H') : Ok K Γ B R H' σ ρ := O.grow (Same.refl _) sh (O.sb.trans sh) fun _ _ h => .inl h
theorem same_upd {p : Addr} {o : HO} (h : H p = none) : Same H (upd H p o) := fun a u e => by rw [upd_ne (ne_of_none e h)]; exact e
/-- a new object is laid and frozen -/
theorem Ok.lay (O : Ok K Γ B R H σ ρ) {p : Addr} {o : HO} (h : H p = none) : Same B (upd B p o) ∧ Ok K Γ (upd B p o) R (upd H p o) σ ρ := by
  have hb : B p = none := O.sb.free h
  refine ⟨same_upd hb, O.grow (same_upd hb) (same_upd h) (fun a u e => ?_) fun a u e => ?_⟩
  · by_cases q : a = p
    · subst q; rw [upd_same] at e ⊢; exact e
    · rw [upd_ne q] at e ⊢; exact O.sb _ _ e
  · by_cases q : a = p
    · subst q; exact .inr h
    · rw [upd_ne q] at e; exact .inl e
theorem Ok.pushP (O : Ok K Γ B R H σ ρ) (r : Rep K B v d) : Ok K (.pu :: Γ) B R H (some v :: σ) (some d :: ρ) := by
  obtain ⟨F, W⟩ := O.own
  refine ⟨O.sb, O.sr, by simp [O.lσ], by simp [O.lρ], O.br, fun j => match j with | 0 => [] | j + 1 => F j, ⟨fun j e s h hs => ?_, fun j p hp => ?_, fun j => ?_, fun j k p h1 h2 => ?_⟩⟩
  · cases j with
    | zero => simp at h hs; subst h hs; exact ⟨v, rfl, r, rfl⟩
    | succ j => exact W.at_ j e s (by simpa using h) (by simpa using hs)
  · cases j with
    | zero => exact absurd hp (by simp)
    | succ j => exact W.no j p hp
  · cases j with
    | zero => exact List.nodup_nil
    | succ j => exact W.nd j
  · cases j with
    | zero => exact absurd h1 (by simp)
    | succ j =>
      cases k with
      | zero => exact absurd h2 (by simp)
      | succ k => rw [W.dj j k p h1 h2]
theorem Feet.heap {F : Nat → List Addr} (W : Feet K Γ B R H σ ρ F) (sh : Same H H') : Feet K Γ B R H' σ ρ F :=
  ⟨fun i d s h hs => let ⟨v, h1, h2⟩ := W.at_ i d s h hs; ⟨v, h1, h2.mono (Same.refl _) sh⟩, fun i p hp => by
    obtain ⟨h1, h2, h3⟩ := W.no i p hp
    refine ⟨fun z => ?_, h2, h3⟩
    cases e : H p with
    | none => exact h1 e
    | some o => (rw [sh p o e] at z; cases z), W.nd, W.dj⟩
theorem Ok.pushO (br : ∀ p o, R p = some o → B p = none) (sb : Same B H) (sr : Same R H) (lσ : σ.length = Γ.length) (lρ : ρ.length = Γ.length) {F : Nat → List Addr} (W : Feet K Γ B R H σ ρ F) (r : Own K B H s v d f) (nd : f.Nodup)
    (hf : ∀ p ∈ f, H p ≠ none ∧ B p = none ∧ R p = none ∧ ∀ i, p ∉ F i) : Ok K (s :: Γ) B R H (some v :: σ) (some d :: ρ) := by
  refine ⟨sb, sr, by simp [lσ], by simp [lρ], br, fun j => match j with | 0 => f | j + 1 => F j, ⟨fun j e s h hs => ?_, fun j p hp => ?_, fun j => ?_, fun j k p h1 h2 => ?_⟩⟩
  · cases j with
    | zero => simp at h hs; subst h hs; exact ⟨v, rfl, r⟩
    | succ j => exact W.at_ j e s (by simpa using h) (by simpa using hs)
  · cases j with
    | zero => obtain ⟨a, b, c, _⟩ := hf p hp; exact ⟨a, b, c⟩
    | succ j => exact W.no j p hp
  · cases j with
    | zero => exact nd
    | succ j => exact W.nd j
  · cases j with
    | zero =>
      cases k with
      | zero => rfl
      | succ k => exact absurd h2 ((hf p h1).2.2.2 k)
    | succ j =>
      cases k with
      | zero => exact absurd h1 ((hf p h2).2.2.2 j)
      | succ k => rw [W.dj j k p h1 h2]
/-- a new list, owned -/
theorem Ok.pushN (O : Ok K Γ B R H σ ρ) {p : Addr} {vs : List V} {ds : List D} (h : H p = none) (r : Reps K B vs ds) : Ok K (.ls :: Γ) B R (upd H p (.lst vs)) (some (.ref p) :: σ) (some (.lst ds) :: ρ) := by
  have sh := same_upd (o := .lst vs) h
  obtain ⟨F, W⟩ := O.own
  refine Ok.pushO (f := [p]) O.br (O.sb.trans sh) (O.sr.trans sh) O.lσ O.lρ (W.heap sh) ⟨p, rfl, rfl, .lst upd_same r⟩ (by simp) fun q hq => ?_
  have e : q = p := by simpa using hq
  subst e
  exact ⟨by rw [upd_same]; simp, O.sb.free h, O.sr.free h, fun i hi => (W.no i q hi).1 h⟩
theorem Ok.pushD (O : Ok K Γ B R H σ ρ) {p : Addr} {kvs : List (Key × V)} {kds : List (Key × D)} (h : H p = none) (r : RepsK K B kvs kds) : Ok K (.ls :: Γ) B R (upd H p (.dK kvs)) (some (.ref p) :: σ) (some (.dct kds) :: ρ) := by
  have sh := same_upd (o := .dK kvs) h
  obtain ⟨F, W⟩ := O.own
  refine Ok.pushO (f := [p]) O.br (O.sb.trans sh) (O.sr.trans sh) O.lσ O.lρ (W.heap sh) ⟨p, rfl, rfl, .dct upd_same r⟩ (by simp) fun q hq => ?_
  have e : q = p := by simpa using hq
  subst e
  exact ⟨by rw [upd_same]; simp, O.sb.free h, O.sr.free h, fun i hi => (W.no i q hi).1 h⟩
theorem Ok.pop {x : Option V} {y : Option D} (O : Ok K (s :: Γ) B R H (x :: σ) (y :: ρ)) : Ok K Γ B R H σ ρ := by
  obtain ⟨F, W⟩ := O.own
  refine ⟨O.sb, O.sr, by simpa using O.lσ, by simpa using O.lρ, O.br, fun j => F (j + 1), ⟨fun j e s h hs => W.at_ (j + 1) e s (by simpa using h) (by simpa using hs), fun j p hp => W.no (j + 1) p hp, fun j => W.nd (j + 1), fun j k p h1 h2 => ?_⟩⟩
  have := W.dj (j + 1) (k + 1) p h1 h2
  omega

/-- the value on the top goes into slot i -/
theorem Ok.store (O : Ok K (s :: Γ) B R H (some v :: σ) (some d :: ρ)) (i : Nat) : Ok K (Γ.set i s) B R H (σ.set i (some v)) (ρ.set i (some d)) := by
  obtain ⟨F, W⟩ := O.own
  have l1 : σ.length = Γ.length := by simpa using O.lσ
  have l2 : ρ.length = Γ.length := by simpa using O.lρ
  refine ⟨O.sb, O.sr, by simp [l1], by simp [l2], O.br, fun j => if j = i then F 0 else F (j + 1), ⟨fun j e s' h hs => ?_, fun j p hp => ?_, fun j => ?_, fun j k p h1 h2 => ?_⟩⟩
  · by_cases hj : j = i
    · subst hj
      have hl : j < ρ.length := by have := (List.getElem?_eq_some_iff.mp h).1; simpa using this
      rw [List.getElem?_set_self hl] at h
      rw [List.getElem?_set_self (by omega)] at hs
      cases h; cases hs
      obtain ⟨v', h1, h2⟩ := W.at_ 0 d s rfl rfl
      cases h1
      exact ⟨v, List.getElem?_set_self (by omega), by simpa using h2⟩
    · rw [List.getElem?_set_ne (Ne.symm hj)] at h hs ⊢
      simp only [hj, if_false]
      exact W.at_ (j + 1) e s' (by simpa using h) (by simpa using hs)
  · split at hp
    · exact W.no _ p hp
    · exact W.no _ p hp
  · split
    · exact W.nd _
    · exact W.nd _
  · split at h1 <;> split at h2
    · omega
    · have := W.dj _ _ p h1 h2; omega
    · have := W.dj _ _ p h1 h2; omega
    · have := W.dj _ _ p h1 h2; omega
/-- slots forgotten -/
theorem Ok.drop (O : Ok K Γ B R H σ ρ) {σ' : L2.St} {ρ' : Env} (l1 : σ'.length = σ.length) (l2 : ρ'.length = ρ.length) (h1 : ∀ (i : Nat) (d : D), ρ'[i]? = some (some d) → ρ[i]? = some (some d) ∧ σ'[i]? = σ[i]?) : Ok K Γ B R H σ' ρ' := by
  obtain ⟨F, W⟩ := O.own
  refine ⟨O.sb, O.sr, l1.trans O.lσ, l2.trans O.lρ, O.br, F, ⟨fun i d s h hs => ?_, W.no, W.nd, W.dj⟩⟩
  obtain ⟨h2, h3⟩ := h1 i d h
  rw [h3]
  exact W.at_ i d s h2 hs
/-- the shape of a slot that holds nothing -/
theorem Ok.reshape (O : Ok K Γ B R H σ ρ) {Γ' : List Sh} (l : Γ'.length = Γ.length) (h : ∀ (i : Nat) (d : D), ρ[i]? = some (some d) → Γ'[i]? = Γ[i]?) : Ok K Γ' B R H σ ρ := by
  obtain ⟨F, W⟩ := O.own
  refine ⟨O.sb, O.sr, O.lσ.trans l.symm, O.lρ.trans l.symm, O.br, F, ⟨fun i d s h1 hs => ?_, W.no, W.nd, W.dj⟩⟩
  exact W.at_ i d s h1 (by rw [← h i d h1]; exact hs)
/-- the list that slot i owns is written -/
theorem Ok.writeO (O : Ok K Γ B R H σ ρ) {p : Addr} {o' : HO} {d' : D} (h : ρ[i]? = some (some d)) (hs : Γ[i]? = some .ls) (hv : σ[i]? = some (some (.ref p))) (r : OwnO K B (upd H p o') p d') :
    Ok K Γ B R (upd H p o') σ (ρ.set i (some d')) := by
  obtain ⟨F, W⟩ := O.own
  obtain ⟨v, h1, q, e1, e3, h4⟩ := W.at_ i d _ h hs
  rw [hv] at h1; cases h1; cases e1
  have hp : p ∈ F i := by rw [e3]; exact List.mem_cons_self
  obtain ⟨n1, n2, n3⟩ := W.no i p hp
  have keep : ∀ {G : Hp}, Same G H → G p = none → Same G (upd H p o') := fun sg z a o e => by
    rw [upd_ne (fun q => by subst q; rw [z] at e; cases e)]; exact sg a o e
  refine ⟨keep O.sb n2, keep O.sr n3, O.lσ, by simp [O.lρ], O.br, F, ⟨fun j e s h hs => ?_, fun j q hq => ?_, W.nd, W.dj⟩⟩
  · by_cases hj : j = i
    · subst hj
      have hl : j < ρ.length := by have := (List.getElem?_eq_some_iff.mp h).1; simpa using this
      rw [List.getElem?_set_self hl] at h
      cases h
      rename_i hs0
      rw [hs0] at hs; cases hs
      exact ⟨_, hv, p, rfl, e3, r⟩
    · rw [List.getElem?_set_ne (Ne.symm hj)] at h
      obtain ⟨v, h1, h2⟩ := W.at_ j e s h hs
      refine ⟨v, h1, h2.at (Same.refl _) fun q hq o ho => ?_⟩
      rw [upd_ne (fun z => hj (W.dj j i q hq (by rw [z]; exact hp)))]
      exact ho
  · obtain ⟨m1, m2, m3⟩ := W.no j q hq
    refine ⟨?_, m2, m3⟩
    by_cases e : q = p
    · subst e; rw [upd_same]; simp
    · rw [upd_ne e]; exact m1
theorem Ok.write (O : Ok K Γ B R H σ ρ) {p : Addr} {ds' : List D} {vs' : List V} (h : ρ[i]? = some (some d)) (hs : Γ[i]? = some .ls) (hv : σ[i]? = some (some (.ref p))) (r : Reps K B vs' ds') :
    Ok K Γ B R (upd H p (.lst vs')) σ (ρ.set i (some (.lst ds'))) := O.writeO h hs hv (.lst upd_same r)
theorem Ok.getO (O : Ok K Γ B R H σ ρ) (h : ρ[i]? = some (some d)) (hs : Γ[i]? = some .ls) : ∃ p, σ[i]? = some (some (.ref p)) ∧ OwnO K B H p d := by
  obtain ⟨F, W⟩ := O.own
  obtain ⟨v, h1, q, e1, e3, h4⟩ := W.at_ i d _ h hs
  subst e1
  exact ⟨q, h1, h4⟩
theorem Ok.getLs {ds : List D} (O : Ok K Γ B R H σ ρ) (h : ρ[i]? = some (some (.lst ds))) (hs : Γ[i]? = some .ls) : ∃ p vs, σ[i]? = some (some (.ref p)) ∧ H p = some (.lst vs) ∧ Reps K B vs ds := by
  obtain ⟨p, h1, h2⟩ := O.getO h hs
  cases h2 with
  | lst h r => exact ⟨p, _, h1, h, r⟩
theorem Ok.getD {kds : List (Key × D)} (O : Ok K Γ B R H σ ρ) (h : ρ[i]? = some (some (.dct kds))) (hs : Γ[i]? = some .ls) : ∃ p kvs, σ[i]? = some (some (.ref p)) ∧ H p = some (.dK kvs) ∧ RepsK K B kvs kds := by
  obtain ⟨p, h1, h2⟩ := O.getO h hs
  cases h2 with
  | dct h r => exact ⟨p, _, h1, h, r⟩
/-- the value on the top is frozen -/
theorem Ok.freezeTop (O : Ok K (.ls :: Γ) B R H (some v :: σ) (some d :: ρ)) : ∃ B', Same B B' ∧ Ok K (.pu :: Γ) B' R H (some v :: σ) (some d :: ρ) := by
  obtain ⟨F, W⟩ := O.own
  obtain ⟨v', h1, p, e1, e3, hO⟩ := W.at_ 0 d .ls rfl rfl
  cases h1; subst e1
  obtain ⟨ob, h4, h5⟩ := hO.there
  have hp : p ∈ F 0 := by rw [e3]; exact List.mem_cons_self
  obtain ⟨n1, n2, n3⟩ := W.no 0 p hp
  have sB : Same B (upd B p ob) := same_upd n2
  refine ⟨upd B p ob, sB, fun a o e => ?_, O.sr, O.lσ, O.lρ, fun q o e => ?_, fun j => match j with | 0 => [] | j + 1 => F (j + 1), ⟨fun j e s h hs => ?_, fun j q hq => ?_, fun j => ?_, fun j k q h1 h2 => ?_⟩⟩
  · by_cases q : a = p
    · subst q; rw [upd_same] at e; rw [← e]; exact h4
    · rw [upd_ne q] at e; exact O.sb a o e
  · by_cases z : q = p
    · subst z; rw [n3] at e; cases e
    · rw [upd_ne z]; exact O.br q o e
  · cases j with
    | zero =>
      simp at h hs; subst h hs
      exact ⟨_, rfl, h5 _ sB upd_same, rfl⟩
    | succ j =>
      obtain ⟨v, h1, h2⟩ := W.at_ (j + 1) e s (by simpa using h) (by simpa using hs)
      exact ⟨v, h1, h2.mono sB (Same.refl _)⟩
  · cases j with
    | zero => exact absurd hq (by simp)
    | succ j =>
      obtain ⟨m1, m2, m3⟩ := W.no (j + 1) q hq
      refine ⟨m1, ?_, m3⟩
      rw [upd_ne (fun z => by subst z; have := W.dj _ _ q hq hp; omega)]
      exact m2
  · cases j with
    | zero => exact List.nodup_nil
    | succ j => exact W.nd _
  · cases j with
    | zero => exact absurd h1 (by simp)
    | succ j =>
      cases k with
      | zero => exact absurd h2 (by simp)
      | succ k => exact W.dj _ _ q h1 h2
/-- the list in slot i is frozen -/
theorem Ok.freeze (O : Ok K Γ B R H σ ρ) (hs : Γ[i]? = some .ls) : ∃ B', Same B B' ∧ Ok K (Γ.set i .pu) B' R H σ ρ := by
  by_cases hd : ∃ d, ρ[i]? = some (some d)
  · obtain ⟨d, h⟩ := hd
    obtain ⟨F, W⟩ := O.own
    obtain ⟨v', hv, p, e1, e3, hO⟩ := W.at_ i d .ls h hs
    subst e1
    obtain ⟨ob, h4, h5⟩ := hO.there
    have hp : p ∈ F i := by rw [e3]; exact List.mem_cons_self
    obtain ⟨n1, n2, n3⟩ := W.no i p hp
    have sB : Same B (upd B p ob) := same_upd n2
    refine ⟨upd B p ob, sB, fun a o e => ?_, O.sr, by simpa using O.lσ, by simpa using O.lρ, fun q o e => ?_, fun j => if j = i then [] else F j, ⟨fun j e s h' hs' => ?_, fun j q hq => ?_, fun j => ?_, fun j k q h1 h2 => ?_⟩⟩
    · by_cases q : a = p
      · subst q; rw [upd_same] at e; rw [← e]; exact h4
      · rw [upd_ne q] at e; exact O.sb a o e
    · by_cases z : q = p
      · subst z; rw [n3] at e; cases e
      · rw [upd_ne z]; exact O.br q o e
    · by_cases hj : j = i
      · subst hj
        have hl : j < Γ.length := (List.getElem?_eq_some_iff.mp hs).1
        rw [List.getElem?_set_self hl] at hs'
        rw [h] at h'; cases h'; cases hs'
        exact ⟨_, hv, h5 _ sB upd_same, by simp⟩
      · rw [List.getElem?_set_ne (Ne.symm hj)] at hs'
        obtain ⟨v, h1, h2⟩ := W.at_ j e s h' hs'
        simp only [hj, if_false]
        exact ⟨v, h1, h2.mono sB (Same.refl _)⟩
    · split at hq
      · exact absurd hq (by simp)
      · rename_i hj
        obtain ⟨m1, m2, m3⟩ := W.no j q hq
        refine ⟨m1, ?_, m3⟩
        rw [upd_ne (fun z => by subst z; exact hj (W.dj _ _ q hq hp))]
        exact m2
    · split
      · exact List.nodup_nil
      · exact W.nd _
    · split at h1 <;> split at h2
      · omega
      · exact absurd h1 (by simp)
      · exact absurd h2 (by simp)
      · exact W.dj _ _ q h1 h2
  · refine ⟨B, Same.refl _, O.reshape (by simp) fun j d h => ?_⟩
    by_cases hj : j = i
    · subst hj; exact absurd ⟨d, h⟩ hd
    · rw [List.getElem?_set_ne (Ne.symm hj)]
/-- less is told of what stands beside -/
theorem Ok.weakR {R2 : Hp} (O : Ok K Γ B R2 H σ ρ) (h : Same R R2) : Ok K Γ B R H σ ρ := by
  obtain ⟨F, W⟩ := O.own
  exact ⟨O.sb, fun a o e => O.sr a o (h a o e), O.lσ, O.lρ, fun p o e => O.br p o (h p o e), F, ⟨W.at_, fun i p hp => ⟨(W.no i p hp).1, (W.no i p hp).2.1, h.free (W.no i p hp).2.2⟩, W.nd, W.dj⟩⟩
/-- more is told of it -/
theorem Ok.addR (O : Ok K Γ B R H σ ρ) {F : Nat → List Addr} (W : Feet K Γ B R H σ ρ F) {p : Addr} {o : HO} (hp : ∀ i, p ∉ F i) (h1 : H p = some o) (h2 : B p = none) : Ok K Γ B (upd R p o) H σ ρ := by
  refine ⟨O.sb, fun a u e => ?_, O.lσ, O.lρ, fun a u e => ?_, F, ⟨W.at_, fun i q hq => ?_, W.nd, W.dj⟩⟩
  · by_cases z : a = p
    · subst z; rw [upd_same] at e; rw [← e]; exact h1
    · rw [upd_ne z] at e; exact O.sr a u e
  · by_cases z : a = p
    · subst z; exact h2
    · rw [upd_ne z] at e; exact O.br a u e
  · obtain ⟨n1, n2, n3⟩ := W.no i q hq
    have ne : q ≠ p := fun z => hp i (by rw [← z]; exact hq)
    rw [upd_ne ne]
    exact ⟨n1, n2, n3⟩
/-- a new own thing is set aside and taken back -/
theorem Ok.hold (O : Ok K (.ls :: Γ) B R H (some v :: σ) (some d :: ρ)) : ∃ p o, v = .ref p ∧ H p = some o ∧ R p = none ∧ Ok K Γ B (upd R p o) H σ ρ ∧
    ∀ (Γ2 : List Sh) (B' H' : Hp) (σ' : L2.St) (ρ' : Env), Same B B' → Ok K Γ2 B' (upd R p o) H' σ' ρ' → Ok K (.ls :: Γ2) B' R H' (some v :: σ') (some d :: ρ') := by
  obtain ⟨F, W⟩ := O.own
  obtain ⟨v', h1, p, e1, e3, hO⟩ := W.at_ 0 d .ls rfl rfl
  cases h1; subst e1
  obtain ⟨ob, h4, _⟩ := hO.there
  have hp : p ∈ F 0 := by rw [e3]; exact List.mem_cons_self
  obtain ⟨n1, n2, n3⟩ := W.no 0 p hp
  have W1 : Feet K Γ B R H σ ρ (fun j => F (j + 1)) := ⟨fun j e s h hs => W.at_ (j + 1) e s (by simpa using h) (by simpa using hs), fun j p hp => W.no (j + 1) p hp, fun j => W.nd (j + 1), fun j k p h1 h2 => by
    have := W.dj (j + 1) (k + 1) p h1 h2
    omega⟩
  refine ⟨p, ob, rfl, h4, n3, O.pop.addR W1 (fun i hi => by have := W.dj 0 (i + 1) p hp hi; omega) h4 n2, fun Γ2 B' H' σ' ρ' sb O' => ?_⟩
  obtain ⟨F', W'⟩ := O'.own
  have hpH : H' p = some ob := O'.sr p ob upd_same
  have hpB : B' p = none := O'.br p ob upd_same
  have sR : Same R (upd R p ob) := same_upd n3
  have O2 := O'.weakR sR
  have W2 : Feet K Γ2 B' R H' σ' ρ' F' := ⟨W'.at_, fun i q hq => ⟨(W'.no i q hq).1, (W'.no i q hq).2.1, sR.free (W'.no i q hq).2.2⟩, W'.nd, W'.dj⟩
  refine Ok.pushO (f := [p]) O2.br O2.sb O2.sr O2.lσ O2.lρ W2 ⟨p, rfl, rfl, ?_⟩ (by simp) fun q hq => ?_
  · cases hO with
    | lst h r => rw [h] at h4; cases h4; exact .lst hpH (r.mono sb)
    | dct h r => rw [h] at h4; cases h4; exact .dct hpH (r.mono sb)
  · have e : q = p := by simpa using hq
    subst e
    refine ⟨by rw [hpH]; simp, hpB, n3, fun i hi => ?_⟩
    have := (W'.no i q hi).2.2
    rw [upd_same] at this
    cases this
end
end DL
namespace DL
open PySem L2

/-- an own error: its class by number, its fields -/
structure Ex where
  c : Nat
  fs : List (Str × D)
inductive Res (α : Type) where
  | ok (a : α) (ρ : Env) | exc (e : Ex) (ρ : Env) | stuck
def Res.bind {α β : Type} (r : Res α) (k : α → Env → Res β) : Res β := match r with
  | .ok a ρ => k a ρ
  | .exc e ρ => .exc e ρ
  | .stuck => .stuck
inductive Out where
  | nx (ρ : Env) | bk (ρ : Env) | ct (ρ : Env) | rt (d : D) (ρ : Env) | exc (e : Ex) (ρ : Env) | stuck
abbrev ER (α : Type) := Env → Res α
def Res.out {α : Type} (r : Res α) (k : α → Env → Out) : Out := match r with
  | .ok a ρ => k a ρ
  | .exc e ρ => .exc e ρ
  | .stuck => .stuck
def ofOpt {α : Type} (o : Option α) (ρ : Env) : Res α := match o with
  | some a => .ok a ρ
  | none => .stuck

abbrev Mg := Str → Option Value
/-- the package's classes of errors -/
def clsN : Nat → Str
  | 0 => "BadRecipe" | 1 => "BadCode" | 2 => "BadPiece" | 3 => "BadForm" | 4 => "BadStep" | 5 => "BadText" | 6 => "BadCommand" | 7 => "NoSuch" | 8 => "Taken"
  | 9 => "MoveError" | 10 => "DataError" | 11 => "CallError" | 12 => "TextError" | 13 => "AskError" | _ => "ValueError"
def ExR (K : PySem.W.Frag) (mg : Mg) (B : Hp) (e : Ex) (cls : Value) (l : List (Str × V)) : Prop :=
  ∃ (C : Addr) (vs : List V), mg (clsN e.c) = some (.ref C) ∧ cls = .ref C ∧ l = (e.fs.map (·.1)).zip vs ∧ Reps K B vs (e.fs.map (·.2))

/-- the wish of exceptions; what is known of what stands beside and of the slots -/
structure Wc where
  W : WX
  P : Hp → L2.St → Prop
  mono : ∀ R R' σ, Same R R' → P R σ → P R' σ
section
variable (K : PySem.W.Frag) (mg : Mg) (W : Wc)
/-- an exception leaves -/
def XLand (Γ : List Sh) (B R : Hp) (σ : L2.St) (e : Ex) (ρ : Env) : Prop :=
  ∀ B' H' cls p l, Same B B' → R p = none → Ok K Γ B' (upd R p (.xd l)) H' σ ρ → ExR K mg B' e cls l → W.W cls (some p) σ H'
def ELand (Γ : List Sh) (s : Sh) (B R : Hp) (σ : L2.St) (Q : VK) : Res D → Prop
  | .ok d ρ => ∀ B' H' v, Same B B' → Ok K (s :: Γ) B' R H' (some v :: σ) (some d :: ρ) → Q v H'
  | .exc e ρ => XLand K mg W Γ B R σ e ρ
  | .stuck => False
def EOk (Γ : List Sh) (te : TE) (s : Sh) (f : ER D) : Prop := ∀ B R H σ ρ Q, W.P R σ → Ok K Γ B R H σ ρ → ELand K mg W Γ s B R σ Q (f ρ) → te σ H Q
def TLand (Γ : List Sh) (B R : Hp) (σ : L2.St) (Q : Bool → Hp → Prop) : Res Bool → Prop
  | .ok b ρ => ∀ B' H', Same B B' → Ok K Γ B' R H' σ ρ → Q b H'
  | .exc e ρ => XLand K mg W Γ B R σ e ρ
  | .stuck => False
def TOk (Γ : List Sh) (tt : TT) (f : ER Bool) : Prop := ∀ B R H σ ρ Q, W.P R σ → Ok K Γ B R H σ ρ → TLand K mg W Γ B R σ Q (f ρ) → tt σ H Q
def ALand (Γ : List Sh) (B R : Hp) (σ : L2.St) (Q : List V → Hp → Prop) : Res (List D) → Prop
  | .ok ds ρ => ∀ B' H' vs, Same B B' → Ok K Γ B' R H' σ ρ → Reps K B' vs ds → Q vs H'
  | .exc e ρ => XLand K mg W Γ B R σ e ρ
  | .stuck => False
def AOk (Γ : List Sh) (ta : TA) (f : ER (List D)) : Prop := ∀ B R H σ ρ Q, W.P R σ → Ok K Γ B R H σ ρ → ALand K mg W Γ B R σ Q (f ρ) → ta σ H Q
end
section
variable {K : PySem.W.Frag} {mg : Mg} {W : Wc} {Γ : List Sh} {s : Sh} {ta tb te : TE} {fa fb : ER D} {tt tu : TT} {ft fu : ER Bool}
theorem XLand.mono {B B1 R : Hp} {σ : L2.St} {e : Ex} {ρ : Env} (h : XLand K mg W Γ B R σ e ρ) (sb : Same B B1) : XLand K mg W Γ B1 R σ e ρ :=
  fun B' H' cls p l q n O x => h B' H' cls p l (sb.trans q) n O x
/-- what comes behind an expression -/
theorem EOk.then {B R H : Hp} {σ : L2.St} {ρ : Env} {Q : VK} (h : EOk K mg W Γ te s fa) (pw : W.P R σ) (O : Ok K Γ B R H σ ρ)
    (hx : ∀ e ρ', fa ρ = .exc e ρ' → XLand K mg W Γ B R σ e ρ') (hn : fa ρ ≠ .stuck)
    (hk : ∀ d ρ', fa ρ = .ok d ρ' → ∀ B' H' v, Same B B' → Ok K (s :: Γ) B' R H' (some v :: σ) (some d :: ρ') → Q v H') : te σ H Q := by
  refine h B R H σ ρ Q pw O ?_
  cases e : fa ρ with
  | ok d ρ' => exact hk d ρ' e
  | exc x ρ' => exact hx x ρ' e
  | stuck => exact hn e

/-! ### names, constants -/
def eVar (i : Nat) : ER D := fun ρ => match ρ[i]? with
  | some (some d) => .ok d ρ
  | _ => .stuck
theorem eok_var {i : Nat} (hs : Γ[i]? = some .pu) : EOk K mg W Γ (tVar i) .pu (eVar i) := by
  intro B R H σ ρ Q pw O h
  unfold eVar at h
  split at h
  · rename_i d e
    obtain ⟨v, h1, r⟩ := O.get e hs
    exact ⟨v, h1, h B H v (Same.refl _) (O.pushP r)⟩
  · exact h.elim
def eC (d : D) : ER D := fun ρ => .ok d ρ
theorem eok_c {v : V} {d : D} (r : ∀ B, Rep K B v d) : EOk K mg W Γ (tC v) .pu (eC d) := fun B R H σ ρ Q pw O h => h B H v (Same.refl _) (O.pushP (r B))
theorem eok_int {i : Int} : EOk K mg W Γ (tC (.int i)) .pu (eC (.int i)) := eok_c fun _ => .int i
theorem eok_str {i : Str} : EOk K mg W Γ (tC (.str i)) .pu (eC (.str i)) := eok_c fun _ => .str i
theorem eok_bl {i : Bool} : EOk K mg W Γ (tC (.bl i)) .pu (eC (.bl i)) := eok_c fun _ => .bl i
theorem eok_non : EOk K mg W Γ (tC .non) .pu (eC .non) := eok_c fun _ => .non
theorem Ok.top {B R H : Hp} {σ : L2.St} {ρ : Env} {v : V} {d : D} (O : Ok K (.pu :: Γ) B R H (some v :: σ) (some d :: ρ)) : Rep K B v d := by
  obtain ⟨v', h1, h2⟩ := O.get (i := 0) rfl rfl
  cases h1
  exact h2
/-- freeze a new list -/
theorem eok_frz (h : EOk K mg W Γ te .ls fa) : EOk K mg W Γ te .pu fa := by
  intro B R H σ ρ Q pw O hl
  refine h B R H σ ρ Q pw O ?_
  cases e : fa ρ with
  | ok d ρ' =>
    rw [e] at hl
    intro B' H' v sb O'
    obtain ⟨B2, s2, O2⟩ := O'.freezeTop
    exact hl B2 H' v (sb.trans s2) O2
  | exc x ρ' => rw [e] at hl; exact hl
  | stuck => rw [e] at hl; exact hl

/-! ### two operands -/
/-- an operator by its values: g tells the answer; nothing is stored in what stands -/
def R2Ok (K : PySem.W.Frag) (r : R2) (s : Sh) (g : D → D → Option D) : Prop :=
  ∀ (Γ : List Sh) (B R H : Hp) (σ : L2.St) (ρ : Env) (v u : V) (d e o : D) (Q : VK), Ok K Γ B R H σ ρ → Rep K B v d → Rep K B u e → g d e = some o →
    (∀ B' H' w, Same B B' → Ok K (s :: Γ) B' R H' (some w :: σ) (some o :: ρ) → Q w H') → r v u H Q
def eOp (g : D → D → Option D) (fa fb : ER D) : ER D := fun ρ => (fa ρ).bind fun d ρ => (fb ρ).bind fun e ρ => ofOpt (g d e) ρ
theorem eok_op {r : R2} {g : D → D → Option D} (hr : R2Ok K r s g) (ha : EOk K mg W Γ ta .pu fa) (hb : EOk K mg W Γ tb .pu fb) : EOk K mg W Γ (tOp r ta tb) s (eOp g fa fb) := by
  intro B R H σ ρ Q pw O hl
  unfold eOp at hl
  refine ha B R H σ ρ _ pw O ?_
  cases e1 : fa ρ with
  | stuck => rw [e1] at hl; exact hl
  | exc x ρ1 => rw [e1] at hl; exact hl
  | ok d ρ1 =>
    rw [e1] at hl
    intro B1 H1 v s1 O1
    have rv := O1.top
    refine hb B1 R H1 σ ρ1 _ pw O1.pop ?_
    simp only [Res.bind] at hl
    cases e2 : fb ρ1 with
    | stuck => rw [e2] at hl; exact hl
    | exc x ρ2 => rw [e2] at hl; exact XLand.mono hl s1
    | ok e ρ2 =>
      rw [e2] at hl
      intro B2 H2 u s2 O2
      simp only [ofOpt] at hl
      cases e3 : g d e with
      | none => rw [e3] at hl; exact hl.elim
      | some o =>
        rw [e3] at hl
        exact hr Γ B2 R H2 σ ρ2 v u d e o Q O2.pop (rv.mono s2) O2.top e3 fun B3 H3 w s3 O3 => hl B3 H3 w ((s1.trans s2).trans s3) O3
def U1Ok (K : PySem.W.Frag) (r : V → Hp → VK → Prop) (s : Sh) (g : D → Option D) : Prop :=
  ∀ (Γ : List Sh) (B R H : Hp) (σ : L2.St) (ρ : Env) (v : V) (d o : D) (Q : VK), Ok K Γ B R H σ ρ → Rep K B v d → g d = some o →
    (∀ B' H' w, Same B B' → Ok K (s :: Γ) B' R H' (some w :: σ) (some o :: ρ) → Q w H') → r v H Q
def eUn (g : D → Option D) (fa : ER D) : ER D := fun ρ => (fa ρ).bind fun d ρ => ofOpt (g d) ρ
theorem eok_un {r : V → Hp → VK → Prop} {g : D → Option D} (hr : U1Ok K r s g) (ha : EOk K mg W Γ ta .pu fa) : EOk K mg W Γ (tUn r ta) s (eUn g fa) := by
  intro B R H σ ρ Q pw O hl
  unfold eUn at hl
  refine ha B R H σ ρ _ pw O ?_
  cases e1 : fa ρ with
  | stuck => rw [e1] at hl; exact hl
  | exc x ρ1 => rw [e1] at hl; exact hl
  | ok d ρ1 =>
    rw [e1] at hl
    intro B1 H1 v s1 O1
    simp only [Res.bind, ofOpt] at hl
    cases e3 : g d with
    | none => rw [e3] at hl; exact hl.elim
    | some o =>
      rw [e3] at hl
      exact hr Γ B1 R H1 σ ρ1 v d o Q O1.pop O1.top e3 fun B3 H3 w s3 O3 => hl B3 H3 w (s1.trans s3) O3
/-! ### argument lists -/
def aNil : ER (List D) := fun ρ => .ok [] ρ
def aCons (f : ER D) (g : ER (List D)) : ER (List D) := fun ρ => (f ρ).bind fun d ρ => (g ρ).bind fun ds ρ => .ok (d :: ds) ρ
theorem aok_nil : AOk K mg W Γ tNil aNil := fun B R H σ ρ Q pw O h => h B H [] (Same.refl _) O .nil
theorem aok_cons {t : TA} {g : ER (List D)} (ha : EOk K mg W Γ ta .pu fa) (hr : AOk K mg W Γ t g) : AOk K mg W Γ (tCons ta t) (aCons fa g) := by
  intro B R H σ ρ Q pw O hl
  unfold aCons at hl
  refine ha B R H σ ρ _ pw O ?_
  cases e1 : fa ρ with
  | stuck => rw [e1] at hl; exact hl
  | exc x ρ1 => rw [e1] at hl; exact hl
  | ok d ρ1 =>
    rw [e1] at hl
    intro B1 H1 v s1 O1
    refine hr B1 R H1 σ ρ1 _ pw O1.pop ?_
    simp only [Res.bind] at hl
    cases e2 : g ρ1 with
    | stuck => rw [e2] at hl; exact hl
    | exc x ρ2 => rw [e2] at hl; exact XLand.mono hl s1
    | ok ds ρ2 =>
      rw [e2] at hl
      intro B2 H2 vs s2 O2 r2
      exact hl B2 H2 (v :: vs) (s1.trans s2) O2 (.cons (O1.top.mono s2) r2)
/-- a built-in by its values -/
def C1Ok (K : PySem.W.Frag) (r : List V → Hp → VK → Prop) (s : Sh) (g : List D → Option D) : Prop :=
  ∀ (Γ : List Sh) (B R H : Hp) (σ : L2.St) (ρ : Env) (vs : List V) (ds : List D) (o : D) (Q : VK), Ok K Γ B R H σ ρ → Reps K B vs ds → g ds = some o →
    (∀ B' H' w, Same B B' → Ok K (s :: Γ) B' R H' (some w :: σ) (some o :: ρ) → Q w H') → r vs H Q
def eCB (g : List D → Option D) (f : ER (List D)) : ER D := fun ρ => (f ρ).bind fun ds ρ => ofOpt (g ds) ρ
theorem eok_cb {r : List V → Hp → VK → Prop} {g : List D → Option D} {t : TA} {f : ER (List D)} (hr : C1Ok K r s g) (ha : AOk K mg W Γ t f) : EOk K mg W Γ (tCB r t) s (eCB g f) := by
  intro B R H σ ρ Q pw O hl
  unfold eCB at hl
  refine ha B R H σ ρ _ pw O ?_
  cases e1 : f ρ with
  | stuck => rw [e1] at hl; exact hl
  | exc x ρ1 => rw [e1] at hl; exact hl
  | ok ds ρ1 =>
    rw [e1] at hl
    intro B1 H1 vs s1 O1 r1
    simp only [Res.bind, ofOpt] at hl
    cases e3 : g ds with
    | none => rw [e3] at hl; exact hl.elim
    | some o =>
      rw [e3] at hl
      exact hr Γ B1 R H1 σ ρ1 vs ds o Q O1 r1 e3 fun B3 H3 w s3 O3 => hl B3 H3 w (s1.trans s3) O3
/-- a tuple is laid -/
theorem Ok.layTup {B R H : Hp} {σ : L2.St} {ρ : Env} {p : Addr} {vs : List V} {ds : List D} (O : Ok K Γ B R H σ ρ) (h : H p = none) (r : Reps K B vs ds) :
    ∃ B', Same B B' ∧ Ok K (.pu :: Γ) B' R (upd H p (.tup vs)) (some (.ref p) :: σ) (some (.tup ds) :: ρ) := by
  obtain ⟨sb, O1⟩ := O.lay (o := .tup vs) h
  exact ⟨_, sb, O1.pushP (.tup (SqT.of upd_same) (r.mono sb))⟩
theorem Ok.layLst {B R H : Hp} {σ : L2.St} {ρ : Env} {p : Addr} {vs : List V} {ds : List D} (O : Ok K Γ B R H σ ρ) (h : H p = none) (r : Reps K B vs ds) :
    ∃ B', Same B B' ∧ Ok K (.pu :: Γ) B' R (upd H p (.lst vs)) (some (.ref p) :: σ) (some (.lst ds) :: ρ) := by
  obtain ⟨sb, O1⟩ := O.lay (o := .lst vs) h
  exact ⟨_, sb, O1.pushP (.lst upd_same (r.mono sb))⟩
def eTup (f : ER (List D)) : ER D := fun ρ => (f ρ).bind fun ds ρ => if ds.length ≤ sizeLine then .ok (.tup ds) ρ else .stuck
def eLst (f : ER (List D)) : ER D := fun ρ => (f ρ).bind fun ds ρ => if ds.length ≤ sizeLine then .ok (.lst ds) ρ else .stuck
theorem eok_tup {t : TA} {f : ER (List D)} (ha : AOk K mg W Γ t f) : EOk K mg W Γ (tTup t) .pu (eTup f) := by
  intro B R H σ ρ Q pw O hl
  unfold eTup at hl
  refine ha B R H σ ρ _ pw O ?_
  cases e1 : f ρ with
  | stuck => rw [e1] at hl; exact hl
  | exc x ρ1 => rw [e1] at hl; exact hl
  | ok ds ρ1 =>
    rw [e1] at hl
    intro B1 H1 vs s1 O1 r1
    simp only [Res.bind] at hl
    by_cases hz : ds.length ≤ sizeLine
    · rw [if_pos hz] at hl
      refine ⟨by rw [r1.length]; exact hz, fun p hp => ?_⟩
      obtain ⟨B2, s2, O2⟩ := O1.layTup hp r1
      exact hl B2 _ _ (s1.trans s2) O2
    · rw [if_neg hz] at hl; exact hl.elim
theorem eok_lst {t : TA} {f : ER (List D)} (ha : AOk K mg W Γ t f) : EOk K mg W Γ (tLst t) .ls (eLst f) := by
  intro B R H σ ρ Q pw O hl
  unfold eLst at hl
  refine ha B R H σ ρ _ pw O ?_
  cases e1 : f ρ with
  | stuck => rw [e1] at hl; exact hl
  | exc x ρ1 => rw [e1] at hl; exact hl
  | ok ds ρ1 =>
    rw [e1] at hl
    intro B1 H1 vs s1 O1 r1
    simp only [Res.bind] at hl
    by_cases hz : ds.length ≤ sizeLine
    · rw [if_pos hz] at hl
      refine ⟨by rw [r1.length]; exact hz, fun p hp => ?_⟩
      exact hl B1 _ _ s1 (O1.pushN hp r1)
    · rw [if_neg hz] at hl; exact hl.elim
/-! ### tests -/
def tVal (f : ER D) : ER Bool := fun ρ => (f ρ).bind fun d ρ => match d with
  | .bl b => .ok b ρ
  | _ => .stuck
theorem tok_test (h : EOk K mg W Γ te .pu fa) : TOk K mg W Γ (tTest te) (tVal fa) := by
  intro B R H σ ρ Q pw O hl
  unfold tVal at hl
  refine h B R H σ ρ _ pw O ?_
  cases e1 : fa ρ with
  | stuck => rw [e1] at hl; exact hl
  | exc x ρ1 => rw [e1] at hl; exact hl
  | ok d ρ1 =>
    rw [e1] at hl
    intro B1 H1 v s1 O1
    have rv := O1.top
    simp only [Res.bind] at hl
    cases rv with
    | bl b => exact ⟨b, rfl, hl B1 H1 s1 O1.pop⟩
    | non => exact hl.elim
    | int i => exact hl.elim
    | str i => exact hl.elim
    | tup _ _ => exact hl.elim
    | lst _ _ => exact hl.elim
    | scr _ => exact hl.elim
    | dct _ _ => exact hl.elim
theorem tok_b (h : EOk K mg W Γ te .pu fa) : TOk K mg W Γ (tB te) (tVal fa) := tok_test h
def bAnd (f g : ER Bool) : ER Bool := fun ρ => (f ρ).bind fun b ρ => match b with
  | true => g ρ
  | false => .ok false ρ
def bOr (f g : ER Bool) : ER Bool := fun ρ => (f ρ).bind fun b ρ => match b with
  | true => .ok true ρ
  | false => g ρ
def bNot (f : ER Bool) : ER Bool := fun ρ => (f ρ).bind fun b ρ => .ok (!b) ρ
theorem TLand.mono {B B1 R : Hp} {σ : L2.St} {Q : Bool → Hp → Prop} {r : Res Bool} (h : TLand K mg W Γ B R σ Q r) (sb : Same B B1) : TLand K mg W Γ B1 R σ Q r := by
  cases r with
  | ok b ρ => exact fun B' H' q O => h B' H' (sb.trans q) O
  | exc e ρ => exact XLand.mono h sb
  | stuck => exact h
theorem ELand.mono {B B1 R : Hp} {σ : L2.St} {Q : VK} {r : Res D} (h : ELand K mg W Γ s B R σ Q r) (sb : Same B B1) : ELand K mg W Γ s B1 R σ Q r := by
  cases r with
  | ok b ρ => exact fun B' H' v q O => h B' H' v (sb.trans q) O
  | exc e ρ => exact XLand.mono h sb
  | stuck => exact h
theorem tok_and (ha : TOk K mg W Γ tt ft) (hb : TOk K mg W Γ tu fu) : TOk K mg W Γ (L2.tAnd tt tu) (bAnd ft fu) := by
  intro B R H σ ρ Q pw O hl
  unfold bAnd at hl
  refine ha B R H σ ρ _ pw O ?_
  cases e1 : ft ρ with
  | stuck => rw [e1] at hl; exact hl
  | exc x ρ1 => rw [e1] at hl; exact hl
  | ok b ρ1 =>
    rw [e1] at hl
    intro B1 H1 s1 O1
    simp only [Res.bind] at hl
    cases b with
    | true => rw [if_pos rfl]; exact hb B1 R H1 σ ρ1 Q pw O1 (TLand.mono hl s1)
    | false => rw [if_neg Bool.false_ne_true]; exact hl B1 H1 s1 O1
theorem tok_or (ha : TOk K mg W Γ tt ft) (hb : TOk K mg W Γ tu fu) : TOk K mg W Γ (L2.tOr tt tu) (bOr ft fu) := by
  intro B R H σ ρ Q pw O hl
  unfold bOr at hl
  refine ha B R H σ ρ _ pw O ?_
  cases e1 : ft ρ with
  | stuck => rw [e1] at hl; exact hl
  | exc x ρ1 => rw [e1] at hl; exact hl
  | ok b ρ1 =>
    rw [e1] at hl
    intro B1 H1 s1 O1
    simp only [Res.bind] at hl
    cases b with
    | false => rw [if_neg Bool.false_ne_true]; exact hb B1 R H1 σ ρ1 Q pw O1 (TLand.mono hl s1)
    | true => rw [if_pos rfl]; exact hl B1 H1 s1 O1
theorem tok_not (ha : TOk K mg W Γ tt ft) : TOk K mg W Γ (L2.tNot tt) (bNot ft) := by
  intro B R H σ ρ Q pw O hl
  unfold bNot at hl
  refine ha B R H σ ρ _ pw O ?_
  cases e1 : ft ρ with
  | stuck => rw [e1] at hl; exact hl
  | exc x ρ1 => rw [e1] at hl; exact hl
  | ok b ρ1 => rw [e1] at hl; exact hl
def eIf (t : ER Bool) (f g : ER D) : ER D := fun ρ => (t ρ).bind fun b ρ => match b with
  | true => f ρ
  | false => g ρ
theorem eok_if (ht : TOk K mg W Γ tt ft) (ha : EOk K mg W Γ ta s fa) (hb : EOk K mg W Γ tb s fb) : EOk K mg W Γ (L2.tIf tt ta tb) s (eIf ft fa fb) := by
  intro B R H σ ρ Q pw O hl
  unfold eIf at hl
  refine ht B R H σ ρ _ pw O ?_
  cases e1 : ft ρ with
  | stuck => rw [e1] at hl; exact hl
  | exc x ρ1 => rw [e1] at hl; exact hl
  | ok b ρ1 =>
    rw [e1] at hl
    intro B1 H1 s1 O1
    simp only [Res.bind] at hl
    cases b with
    | true => rw [if_pos rfl]; exact ha B1 R H1 σ ρ1 Q pw O1 (ELand.mono hl s1)
    | false => rw [if_neg Bool.false_ne_true]; exact hb B1 R H1 σ ρ1 Q pw O1 (ELand.mono hl s1)
/-- and, or, not as values -/
def eB (f : ER Bool) : ER D := fun ρ => (f ρ).bind fun b ρ => .ok (.bl b) ρ
def eAndV (f g : ER D) : ER D := fun ρ => (tVal f ρ).bind fun b ρ => match b with
  | true => g ρ
  | false => .ok (.bl false) ρ
def eOrV (f g : ER D) : ER D := fun ρ => (tVal f ρ).bind fun b ρ => match b with
  | true => .ok (.bl true) ρ
  | false => g ρ
def eNotV (f : ER D) : ER D := fun ρ => (tVal f ρ).bind fun b ρ => .ok (.bl (!b)) ρ
theorem eok_and (ha : EOk K mg W Γ ta .pu fa) (hb : EOk K mg W Γ tb .pu fb) : EOk K mg W Γ (tAndV ta tb) .pu (eAndV fa fb) := by
  intro B R H σ ρ Q pw O hl
  unfold eAndV at hl
  refine tok_b ha B R H σ ρ _ pw O ?_
  cases e1 : tVal fa ρ with
  | stuck => rw [e1] at hl; exact hl
  | exc x ρ1 => rw [e1] at hl; exact hl
  | ok b ρ1 =>
    rw [e1] at hl
    intro B1 H1 s1 O1
    simp only [Res.bind] at hl
    cases b with
    | true => rw [if_pos rfl]; exact hb B1 R H1 σ ρ1 Q pw O1 (ELand.mono hl s1)
    | false => rw [if_neg Bool.false_ne_true]; exact hl B1 H1 _ s1 (O1.pushP (.bl false))
theorem eok_or (ha : EOk K mg W Γ ta .pu fa) (hb : EOk K mg W Γ tb .pu fb) : EOk K mg W Γ (tOrV ta tb) .pu (eOrV fa fb) := by
  intro B R H σ ρ Q pw O hl
  unfold eOrV at hl
  refine tok_b ha B R H σ ρ _ pw O ?_
  cases e1 : tVal fa ρ with
  | stuck => rw [e1] at hl; exact hl
  | exc x ρ1 => rw [e1] at hl; exact hl
  | ok b ρ1 =>
    rw [e1] at hl
    intro B1 H1 s1 O1
    simp only [Res.bind] at hl
    cases b with
    | false => rw [if_neg Bool.false_ne_true]; exact hb B1 R H1 σ ρ1 Q pw O1 (ELand.mono hl s1)
    | true => rw [if_pos rfl]; exact hl B1 H1 _ s1 (O1.pushP (.bl true))
theorem eok_not (ha : EOk K mg W Γ ta .pu fa) : EOk K mg W Γ (tNotV ta) .pu (eNotV fa) := by
  intro B R H σ ρ Q pw O hl
  unfold eNotV at hl
  refine tok_b ha B R H σ ρ _ pw O ?_
  cases e1 : tVal fa ρ with
  | stuck => rw [e1] at hl; exact hl
  | exc x ρ1 => rw [e1] at hl; exact hl
  | ok b ρ1 =>
    rw [e1] at hl
    intro B1 H1 s1 O1
    exact hl B1 H1 _ s1 (O1.pushP (.bl _))
end
end DL
namespace DL
open PySem L2

def Pin (pn : List Nat) (σ σ' : L2.St) : Prop := ∀ i ∈ pn, σ'[i]? = σ[i]?
/-- what a block stands in: the wish of exceptions, the loop's shapes, what is returned, the slots that stay, the shapes at which one may leave -/
structure Cf where
  W : Wc
  Γl : List Sh
  sr : Sh
  pn : List Nat
  ag : List Sh → Prop
  hP : ∀ R σ σ', Pin pn σ σ' → W.P R σ → W.P R σ'
theorem Pin.refl {pn : List Nat} {σ : L2.St} : Pin pn σ σ := fun _ _ => rfl
theorem Pin.trans {pn : List Nat} {σ σ1 σ2 : L2.St} (a : Pin pn σ σ1) (b : Pin pn σ1 σ2) : Pin pn σ σ2 := fun i h => (b i h).trans (a i h)
def Out.seq (o : Out) (k : Env → Out) : Out := match o with
  | .nx ρ => k ρ
  | o => o
section
variable (K : PySem.W.Frag) (mg : Mg) (C : Cf)
def SLand (Γ' : List Sh) (B R : Hp) (σ : L2.St) (D : Ends) : Out → Prop
  | .nx ρ => ∀ B' H' σ', Same B B' → Ok K Γ' B' R H' σ' ρ → Pin C.pn σ σ' → D.nx σ' H'
  | .bk ρ => ∀ B' H' σ', Same B B' → Ok K C.Γl B' R H' σ' ρ → Pin C.pn σ σ' → D.bk σ' H'
  | .ct ρ => ∀ B' H' σ', Same B B' → Ok K C.Γl B' R H' σ' ρ → Pin C.pn σ σ' → D.ct σ' H'
  | .rt d ρ => ∀ B' H' σ' v Γ1, Same B B' → C.ag Γ1 → Ok K (C.sr :: Γ1) B' R H' (some v :: σ') (some d :: ρ) → Pin C.pn σ σ' → D.rt v H'
  | .exc e ρ => ∀ B' H' σ' cls p l Γ1, Same B B' → R p = none → C.ag Γ1 → Ok K Γ1 B' (upd R p (.xd l)) H' σ' ρ → Pin C.pn σ σ' → ExR K mg B' e cls l → C.W.W cls (some p) σ' H'
  | .stuck => False
def SOk (Γ Γ' : List Sh) (ts : TS) (f : Env → Out) : Prop := ∀ B R H σ ρ D, C.W.P R σ → Ok K Γ B R H σ ρ → SLand K mg C Γ' B R σ D (f ρ) → ts D σ H
end
section
variable {K : PySem.W.Frag} {mg : Mg} {C : Cf} {Γ Γ' Γ1 : List Sh} {ts tu : TS} {f g : Env → Out} {s : Sh} {te : TE} {fe : ER D}
theorem SLand.mono {B B1 R : Hp} {σ σ1 : L2.St} {D : Ends} {o : Out} (h : SLand K mg C Γ' B R σ D o) (sb : Same B B1) (p : Pin C.pn σ σ1) : SLand K mg C Γ' B1 R σ1 D o := by
  cases o with
  | nx ρ => exact fun B' H' σ' a O q => h B' H' σ' (sb.trans a) O (p.trans q)
  | bk ρ => exact fun B' H' σ' a O q => h B' H' σ' (sb.trans a) O (p.trans q)
  | ct ρ => exact fun B' H' σ' a O q => h B' H' σ' (sb.trans a) O (p.trans q)
  | rt d ρ => exact fun B' H' σ' v Γ1 a g O q => h B' H' σ' v Γ1 (sb.trans a) g O (p.trans q)
  | exc e ρ => exact fun B' H' σ' cls p' l Γ1 a n g O q x => h B' H' σ' cls p' l Γ1 (sb.trans a) n g O (p.trans q) x
  | stuck => exact h
theorem SLand.exc {B R : Hp} {σ : L2.St} {D : Ends} {e : Ex} {ρ : Env} (h : SLand K mg C Γ' B R σ D (.exc e ρ)) (ag : C.ag Γ) : XLand K mg C.W Γ B R σ e ρ :=
  fun B' H' cls p l sb n O x => h B' H' σ cls p l Γ sb n ag O Pin.refl x
/-- nothing is done -/
theorem sok_next : SOk K mg C Γ Γ L2.tNext .nx := fun B R H σ ρ D pw O h => h B H σ (Same.refl _) O Pin.refl
def sSeq (f g : Env → Out) : Env → Out := fun ρ => (f ρ).seq g
theorem sok_seq (h1 : SOk K mg C Γ Γ1 ts f) (h2 : SOk K mg C Γ1 Γ' tu g) : SOk K mg C Γ Γ' (L2.tSeq ts tu) (sSeq f g) := by
  intro B R H σ ρ D pw O h
  refine h1 B R H σ ρ _ pw O ?_
  unfold sSeq at h
  cases e : f ρ with
  | nx ρ1 =>
    rw [e] at h
    exact fun B' H' σ' sb O' p => h2 B' R H' σ' ρ1 D (C.hP _ _ _ p pw) O' (SLand.mono h sb p)
  | bk ρ1 => rw [e] at h; exact h
  | ct ρ1 => rw [e] at h; exact h
  | rt d ρ1 => rw [e] at h; exact h
  | exc x ρ1 => rw [e] at h; exact h
  | stuck => rw [e] at h; exact h
/-- a list is frozen first -/
theorem sok_frz {i : Nat} (hs : Γ[i]? = some .ls) (h : SOk K mg C (Γ.set i .pu) Γ' ts f) : SOk K mg C Γ Γ' ts f := by
  intro B R H σ ρ D pw O hl
  obtain ⟨B', sb, O'⟩ := O.freeze hs
  exact h B' R H σ ρ D pw O' (SLand.mono hl sb Pin.refl)
/-- x = e -/
def sSet (i : Nat) (f : ER D) : Env → Out := fun ρ => (f ρ).out fun d ρ => .nx (ρ.set i (some d))
theorem sok_set {i : Nat} (ag : C.ag Γ) (hp : i ∉ C.pn) (h : EOk K mg C.W Γ te s fe) : SOk K mg C Γ (Γ.set i s) (tAsg te (gName i)) (sSet i fe) := by
  intro B R H σ ρ D pw O hl
  unfold sSet at hl
  refine h B R H σ ρ _ pw O ?_
  cases e : fe ρ with
  | stuck => rw [e] at hl; exact hl
  | exc x ρ1 => rw [e] at hl; exact SLand.exc hl ag
  | ok d ρ1 =>
    rw [e] at hl
    intro B' H' v sb O'
    refine hl B' H' _ sb (O'.store i) fun j hj => ?_
    rw [List.getElem?_set_ne]
    rintro rfl; exact hp hj
/-- an expression alone -/
def sDrop (f : ER D) : Env → Out := fun ρ => (f ρ).out fun _ ρ => .nx ρ
theorem sok_drop (ag : C.ag Γ) (h : EOk K mg C.W Γ te s fe) : SOk K mg C Γ Γ (tDrop te) (sDrop fe) := by
  intro B R H σ ρ D pw O hl
  unfold sDrop at hl
  refine h B R H σ ρ _ pw O ?_
  cases e : fe ρ with
  | stuck => rw [e] at hl; exact hl
  | exc x ρ1 => rw [e] at hl; exact SLand.exc hl ag
  | ok d ρ1 => rw [e] at hl; exact fun B' H' v sb O' => hl B' H' σ sb O'.pop Pin.refl
def sRet (f : ER D) : Env → Out := fun ρ => (f ρ).out fun d ρ => .rt d ρ
theorem sok_ret (ag : C.ag Γ) (h : EOk K mg C.W Γ te C.sr fe) : SOk K mg C Γ Γ' (tRet te) (sRet fe) := by
  intro B R H σ ρ D pw O hl
  unfold sRet at hl
  refine h B R H σ ρ _ pw O ?_
  cases e : fe ρ with
  | stuck => rw [e] at hl; exact hl
  | exc x ρ1 => rw [e] at hl; exact SLand.exc hl ag
  | ok d ρ1 => rw [e] at hl; exact fun B' H' v sb O' => hl B' H' σ v Γ sb ag O' Pin.refl
theorem sok_retN (ag : C.ag Γ) (hr : C.sr = .pu) : SOk K mg C Γ Γ' tRetN (.rt .non) := by
  intro B R H σ ρ D pw O hl
  have hl : SLand K mg C Γ' B R σ D (.rt .non ρ) := hl
  exact hl B H σ .non Γ (Same.refl _) ag (by rw [hr]; exact O.pushP .non) Pin.refl
theorem sok_break (e : C.Γl = Γ) : SOk K mg C Γ Γ' tBreak .bk := fun B R H σ ρ D pw O h => h B H σ (Same.refl _) (by rw [e]; exact O) Pin.refl
theorem sok_cont (e : C.Γl = Γ) : SOk K mg C Γ Γ' tCont .ct := fun B R H σ ρ D pw O h => h B H σ (Same.refl _) (by rw [e]; exact O) Pin.refl
def sIf (t : ER Bool) (f g : Env → Out) : Env → Out := fun ρ => (t ρ).out fun b ρ => match b with
  | true => f ρ
  | false => g ρ
theorem sok_if {tt : TT} {ft : ER Bool} (ag : C.ag Γ) (ht : TOk K mg C.W Γ tt ft) (ha : SOk K mg C Γ Γ' ts f) (hb : SOk K mg C Γ Γ' tu g) : SOk K mg C Γ Γ' (tIfS tt ts tu) (sIf ft f g) := by
  intro B R H σ ρ D pw O hl
  unfold sIf at hl
  refine ht B R H σ ρ _ pw O ?_
  cases e : ft ρ with
  | stuck => rw [e] at hl; exact hl
  | exc x ρ1 => rw [e] at hl; exact SLand.exc hl ag
  | ok b ρ1 =>
    rw [e] at hl
    intro B1 H1 s1 O1
    cases b with
    | true => rw [if_pos rfl]; exact ha B1 R H1 σ ρ1 D pw O1 (SLand.mono hl s1 Pin.refl)
    | false => rw [if_neg Bool.false_ne_true]; exact hb B1 R H1 σ ρ1 D pw O1 (SLand.mono hl s1 Pin.refl)
/-- the shapes of what holds nothing are changed -/
theorem sok_never : SOk K mg C Γ Γ' tNever (fun _ => .stuck) := fun _ _ _ _ _ _ _ _ h => h

/-! ### targets -/
def GOk (Γ Γ' : List Sh) (tv : List Nat) (g : TG) (gf : D → Env → Option Env) : Prop :=
  ∀ B R H σ ρ v d ρ' Q, Ok K Γ B R H σ ρ → Rep K B v d → gf d ρ = some ρ' → (∀ σ', Ok K Γ' B R H σ' ρ' → (∀ j, j ∉ tv → σ'[j]? = σ[j]?) → Q σ' H) → g v σ H Q
def gN (i : Nat) : D → Env → Option Env := fun d ρ => some (ρ.set i (some d))
theorem gok_name {i : Nat} : GOk (K := K) Γ (Γ.set i .pu) [i] (gName i) (gN i) := by
  intro B R H σ ρ v d ρ' Q O r e k
  cases e
  refine k _ ((O.pushP r).store i) fun j hj => ?_
  rw [List.getElem?_set_ne]
  rintro rfl; exact hj (by simp)
def GsOk (Γ Γ' : List Sh) (tv : List Nat) (g : TGs) (gf : List D → Env → Option Env) : Prop :=
  ∀ B R H σ ρ vs ds ρ' Q, Ok K Γ B R H σ ρ → Reps K B vs ds → gf ds ρ = some ρ' → (∀ σ', Ok K Γ' B R H σ' ρ' → (∀ j, j ∉ tv → σ'[j]? = σ[j]?) → Q σ' H) → g vs σ H Q
def gsNil : List D → Env → Option Env := fun ds ρ => match ds with
  | [] => some ρ
  | _ => none
def gsCons (g : D → Env → Option Env) (h : List D → Env → Option Env) : List D → Env → Option Env := fun ds ρ => match ds with
  | d :: r => (g d ρ).bind fun ρ => h r ρ
  | [] => none
theorem gsok_nil : GsOk (K := K) Γ Γ [] gNil gsNil := by
  intro B R H σ ρ vs ds ρ' Q O r e k
  cases r with
  | nil => cases e; exact ⟨rfl, k σ O fun _ _ => rfl⟩
  | cons _ _ => cases e
theorem gsok_cons {t1 t2 : List Nat} {g : TG} {gs : TGs} {gf : D → Env → Option Env} {gsf : List D → Env → Option Env} (h1 : GOk (K := K) Γ Γ1 t1 g gf) (h2 : GsOk (K := K) Γ1 Γ' t2 gs gsf) : GsOk (K := K) Γ Γ' (t1 ++ t2) (gCons g gs) (gsCons gf gsf) := by
  intro B R H σ ρ vs ds ρ' Q O r e k
  cases r with
  | nil => cases e
  | cons q r =>
    rename_i v d vs ds
    unfold gsCons at e
    dsimp only at e
    cases e1 : gf d ρ with
    | none => rw [e1] at e; cases e
    | some ρ1 =>
      rw [e1] at e
      refine ⟨v, vs, rfl, h1 B R H σ ρ v d ρ1 _ O q e1 fun σ1 O1 k1 => ?_⟩
      exact h2 B R H σ1 ρ1 vs ds ρ' Q O1 r e fun σ2 O2 k2 => k σ2 O2 fun j hj => (k2 j fun z => hj (List.mem_append_right _ z)).trans (k1 j fun z => hj (List.mem_append_left _ z))
def gT (n : Nat) (h : List D → Env → Option Env) : D → Env → Option Env := fun d ρ => match d with
  | .tup ds => if ds.length = n then h ds ρ else none
  | _ => none
theorem gok_tup {tv : List Nat} {gs : TGs} {gsf : List D → Env → Option Env} {n : Nat} (h : GsOk (K := K) Γ Γ' tv gs gsf) : GOk (K := K) Γ Γ' tv (gTup K n gs) (gT n gsf) := by
  intro B R H σ ρ v d ρ' Q O r e k
  cases r with
  | tup hq rr =>
    rename_i a vs ds
    unfold gT at e
    dsimp only at e
    by_cases hn : ds.length = n
    · rw [if_pos hn] at e
      exact ⟨a, vs, rfl, sameT O.sb hq, by rw [rr.length]; exact hn, h B R H σ ρ vs ds ρ' Q O rr e k⟩
    · rw [if_neg hn] at e; cases e
  | _ => cases e
def sAsg (f : ER D) (g : D → Env → Option Env) : Env → Out := fun ρ => (f ρ).out fun d ρ => match g d ρ with
  | some ρ => .nx ρ
  | none => .stuck
theorem sok_asg {g : TG} {gf : D → Env → Option Env} {tv : List Nat} (ag : C.ag Γ) (hp : ∀ i ∈ tv, i ∉ C.pn) (h : EOk K mg C.W Γ te .pu fe) (hg : GOk (K := K) Γ Γ' tv g gf) : SOk K mg C Γ Γ' (tAsg te g) (sAsg fe gf) := by
  intro B R H σ ρ D pw O hl
  unfold sAsg at hl
  refine h B R H σ ρ _ pw O ?_
  cases e : fe ρ with
  | stuck => rw [e] at hl; exact hl
  | exc x ρ1 => rw [e] at hl; exact SLand.exc hl ag
  | ok d ρ1 =>
    rw [e] at hl
    intro B' H' v sb O'
    simp only [Res.out] at hl
    cases e2 : gf d ρ1 with
    | none => rw [e2] at hl; exact hl.elim
    | some ρ2 =>
      rw [e2] at hl
      exact hg B' R H' σ ρ1 v d ρ2 _ O'.pop O'.top e2 fun σ' O2 k => hl B' H' σ' sb O2 fun i hi => k i fun z => hp i z hi
/-- a, b = e1, e2 -/
def sPar (i j : Nat) (f : ER (List D)) : Env → Out := fun ρ => (f ρ).out fun ds ρ => match ds with
  | [d, e] => .nx ((ρ.set i (some d)).set j (some e))
  | _ => .stuck
theorem sok_par {i j : Nat} {ta : TA} {fa : ER (List D)} (ag : C.ag Γ) (hi : i ∉ C.pn) (hj : j ∉ C.pn) (h : AOk K mg C.W Γ ta fa) : SOk K mg C Γ ((Γ.set i .pu).set j .pu) (tPar i j ta) (sPar i j fa) := by
  intro B R H σ ρ D pw O hl
  unfold sPar at hl
  refine h B R H σ ρ _ pw O ?_
  cases e : fa ρ with
  | stuck => rw [e] at hl; exact hl
  | exc x ρ1 => rw [e] at hl; exact SLand.exc hl ag
  | ok ds ρ1 =>
    rw [e] at hl
    intro B' H' vs sb O' r
    simp only [Res.out] at hl
    cases r with
    | nil => exact hl.elim
    | cons r1 r =>
      cases r with
      | nil => exact hl.elim
      | cons r2 r =>
        cases r with
        | cons _ _ => exact hl.elim
        | nil =>
          refine ⟨_, _, rfl, hl B' H' _ sb ((((O'.pushP r1).store i).pushP r2).store j) fun k hk => ?_⟩
          rw [List.getElem?_set_ne (by rintro rfl; exact hj hk), List.getElem?_set_ne (by rintro rfl; exact hi hk)]
/-- x op= e -/
def sAug (g : D → D → Option D) (i : Nat) (f : ER D) : Env → Out := fun ρ => (eVar i ρ).out fun d ρ => (f ρ).out fun e ρ => match g d e with
  | some o => .nx (ρ.set i (some o))
  | none => .stuck
theorem sok_aug {i : Nat} {r : R2} {g : D → D → Option D} (ag : C.ag Γ) (hi : i ∉ C.pn) (hs : Γ[i]? = some .pu) (hr : R2Ok K r s g) (h : EOk K mg C.W Γ te .pu fe) : SOk K mg C Γ (Γ.set i s) (tAug i te r) (sAug g i fe) := by
  intro B R H σ ρ D pw O hl
  unfold sAug eVar at hl
  cases e0 : ρ[i]? with
  | none => rw [e0] at hl; exact hl.elim
  | some o =>
    cases o with
    | none => rw [e0] at hl; exact hl.elim
    | some d =>
      rw [e0] at hl
      obtain ⟨v, h1, rv⟩ := O.get e0 hs
      refine ⟨v, h1, h B R H σ ρ _ pw O ?_⟩
      simp only [Res.out] at hl
      cases e : fe ρ with
      | stuck => rw [e] at hl; exact hl
      | exc x ρ1 => rw [e] at hl; exact SLand.exc hl ag
      | ok d2 ρ1 =>
        rw [e] at hl
        intro B' H' v2 sb O'
        simp only at hl
        cases e2 : g d d2 with
        | none => rw [e2] at hl; exact hl.elim
        | some o =>
          rw [e2] at hl
          refine hr Γ B' R H' σ ρ1 v v2 d d2 o _ O'.pop (rv.mono sb) O'.top e2 fun B3 H3 w s3 O3 => hl B3 H3 _ (sb.trans s3) (O3.store i) fun k hk => ?_
          rw [List.getElem?_set_ne (by rintro rfl; exact hi hk)]

/-! ### loops -/
structure Walks (K : PySem.W.Frag) (B : Hp) (J : It) (es : List D) : Prop where
  go : ∀ B2 H2, Same B B2 → Same B2 H2 → ∀ i, i < es.length → J.go i H2
  yld : ∀ B2 H2, Same B B2 → Same B2 H2 → ∀ i d x H3, es[i]? = some d → J.yld i H2 x H3 → ∃ B3, Same B2 B3 ∧ Same H2 H3 ∧ Same B3 H3 ∧ (∀ a o, B3 a = some o → B2 a = some o ∨ H2 a = none) ∧ Rep K B3 x d
  stop : ∀ B2 H2, Same B B2 → Same B2 H2 → ∀ i, es.length ≤ i → J.stop i H2
theorem Walks.mono {B B' : Hp} {J : It} {es : List D} (w : Walks K B J es) (sb : Same B B') : Walks K B' J es :=
  ⟨fun B2 H2 a => w.go B2 H2 (sb.trans a), fun B2 H2 a => w.yld B2 H2 (sb.trans a), fun B2 H2 a => w.stop B2 H2 (sb.trans a)⟩
def ILand (K : PySem.W.Frag) (mg : Mg) (W : Wc) (Γ : List Sh) (B R : Hp) (σ : L2.St) (Q : It → Hp → Prop) : Res (List D) → Prop
  | .ok es ρ => ∀ B' H' J, Same B B' → Ok K Γ B' R H' σ ρ → Walks K B' J es → Q J H'
  | .exc e ρ => XLand K mg W Γ B R σ e ρ
  | .stuck => False
def IOk (K : PySem.W.Frag) (mg : Mg) (W : Wc) (Γ : List Sh) (wi : TI) (f : ER (List D)) : Prop := ∀ B R H σ ρ Q, W.P R σ → Ok K Γ B R H σ ρ → ILand K mg W Γ B R σ Q (f ρ) → wi σ H Q
def forL (gf : D → Env → Option Env) (fb : Env → Out) : List D → Env → Out
  | [], ρ => .nx ρ
  | d :: es, ρ => match gf d ρ with
    | none => .stuck
    | some ρ1 => match fb ρ1 with
      | .nx ρ2 => forL gf fb es ρ2
      | .ct ρ2 => forL gf fb es ρ2
      | .bk ρ2 => .nx ρ2
      | o => o
def sFor (fi : ER (List D)) (gf : D → Env → Option Env) (fb : Env → Out) : Env → Out := fun ρ => (fi ρ).out fun es ρ => forL gf fb es ρ
theorem sok_for {wi : TI} {g : TG} {fi : ER (List D)} {gf : D → Env → Option Env} {tv : List Nat} (ag : C.ag Γ) (hp : ∀ i ∈ tv, i ∉ C.pn) (hi : IOk K mg C.W Γ wi fi) (hg : GOk (K := K) Γ Γ tv g gf) (hb : SOk K mg { C with Γl := Γ } Γ Γ ts f) :
    SOk K mg C Γ Γ (tFor wi g ts) (sFor fi gf f) := by
  intro B R H σ ρ D pw O hl
  unfold sFor at hl
  refine hi B R H σ ρ _ pw O ?_
  cases e : fi ρ with
  | stuck => rw [e] at hl; exact hl
  | exc x ρ1 => rw [e] at hl; exact SLand.exc hl ag
  | ok es ρ1 =>
    rw [e] at hl
    intro B1 H1 J s1 O1 wk
    refine ⟨fun i m σ' H' => m = es.length - i ∧ i ≤ es.length ∧ ∃ B' ρ', Same B1 B' ∧ Ok K Γ B' R H' σ' ρ' ∧ Pin C.pn σ σ' ∧ SLand K mg C Γ B' R σ' D (forL gf f (es.drop i) ρ'), ⟨es.length, by simp, Nat.zero_le _, B1, ρ1, Same.refl _, O1, Pin.refl, SLand.mono hl s1 Pin.refl⟩, ?_⟩
    rintro i m σ2 H2 ⟨rfl, hle, B2, ρ2, s2, O2, p2, l2⟩
    by_cases hlt : i < es.length
    · refine .inr ⟨wk.go B2 H2 s2 O2.sb i hlt, fun σ' H' => i < es.length ∧ ∃ B' ρ', Same B1 B' ∧ Ok K Γ B' R H' σ' ρ' ∧ Pin C.pn σ σ' ∧ SLand K mg C Γ B' R σ' D (forL gf f (es.drop (i + 1)) ρ'), fun σ' H' n => ⟨es.length - (i + 1), by omega, rfl, by omega, n.2⟩, fun x H3 y => ?_⟩
      obtain ⟨B3, sb3, sh3, sbh3, nw3, rx⟩ := wk.yld B2 H2 s2 O2.sb i es[i] x H3 (by simp [hlt]) y
      have O3 := O2.grow sb3 sh3 sbh3 nw3
      rw [List.drop_eq_getElem_cons hlt] at l2
      unfold forL at l2
      cases e2 : gf es[i] ρ2 with
      | none => rw [e2] at l2; exact l2.elim
      | some ρ3 =>
        rw [e2] at l2
        simp only at l2
        refine hg B3 R H3 σ2 ρ2 x _ ρ3 _ O3 rx e2 fun σ4 O4 k4 => ?_
        have p4 : Pin C.pn σ2 σ4 := fun j hj => k4 j fun z => hp j z hj
        refine hb B3 R H3 σ4 ρ3 _ (C.hP _ _ _ (p2.trans p4) pw) O4 ?_
        cases e3 : f ρ3 with
        | stuck => rw [e3] at l2; exact l2
        | nx ρ5 =>
          rw [e3] at l2
          exact fun B5 H5 σ5 sb5 O5 p5 => ⟨hlt, B5, ρ5, (s2.trans sb3).trans sb5, O5, (p2.trans p4).trans p5, SLand.mono l2 (sb3.trans sb5) (p4.trans p5)⟩
        | ct ρ5 =>
          rw [e3] at l2
          exact fun B5 H5 σ5 sb5 O5 p5 => ⟨hlt, B5, ρ5, (s2.trans sb3).trans sb5, O5, (p2.trans p4).trans p5, SLand.mono l2 (sb3.trans sb5) (p4.trans p5)⟩
        | bk ρ5 =>
          rw [e3] at l2
          exact fun B5 H5 σ5 sb5 O5 p5 => l2 B5 H5 σ5 (sb3.trans sb5) O5 (p4.trans p5)
        | rt d ρ5 =>
          rw [e3] at l2
          exact fun B5 H5 σ5 v Γ1 sb5 a O5 p5 => l2 B5 H5 σ5 v Γ1 (sb3.trans sb5) a O5 (p4.trans p5)
        | exc x ρ5 =>
          rw [e3] at l2
          exact fun B5 H5 σ5 cls p l Γ1 sb5 n a O5 p5 q => l2 B5 H5 σ5 cls p l Γ1 (sb3.trans sb5) n a O5 (p4.trans p5) q
    · have ei : i = es.length := by omega
      refine .inl ⟨wk.stop B2 H2 s2 O2.sb i (by omega), ?_⟩
      rw [ei, List.drop_length] at l2
      exact l2 B2 H2 σ2 (Same.refl _) O2 Pin.refl
def whileF (fc : ER Bool) (fb : Env → Out) : Nat → Env → Out
  | 0, _ => .stuck
  | n + 1, ρ => (fc ρ).out fun b ρ => match b with
    | false => .nx ρ
    | true => match fb ρ with
      | .nx ρ2 => whileF fc fb n ρ2
      | .ct ρ2 => whileF fc fb n ρ2
      | .bk ρ2 => .nx ρ2
      | o => o
def sWhile (fuel : Env → Nat) (fc : ER Bool) (fb : Env → Out) : Env → Out := fun ρ => whileF fc fb (fuel ρ) ρ
theorem sok_while {tc : TT} {fc : ER Bool} {fuel : Env → Nat} (ag : C.ag Γ) (hc : TOk K mg C.W Γ tc fc) (hb : SOk K mg { C with Γl := Γ } Γ Γ ts f) : SOk K mg C Γ Γ (tWhile tc ts) (sWhile fuel fc f) := by
  intro B R H σ ρ D pw O hl
  refine ⟨fun m σ' H' => ∃ B' ρ', Same B B' ∧ Ok K Γ B' R H' σ' ρ' ∧ Pin C.pn σ σ' ∧ SLand K mg C Γ B' R σ' D (whileF fc f m ρ'), ⟨fuel ρ, B, ρ, Same.refl _, O, Pin.refl, hl⟩, ?_⟩
  rintro m σ2 H2 ⟨B2, ρ2, s2, O2, p2, l2⟩
  cases m with
  | zero => exact l2.elim
  | succ m =>
    unfold whileF at l2
    refine hc B2 R H2 σ2 ρ2 _ (C.hP _ _ _ p2 pw) O2 ?_
    cases e : fc ρ2 with
    | stuck => rw [e] at l2; exact l2
    | exc x ρ3 => rw [e] at l2; exact SLand.exc l2 ag
    | ok b ρ3 =>
      rw [e] at l2
      intro B3 H3 s3 O3
      cases b with
      | false => rw [if_neg Bool.false_ne_true]; exact l2 B3 H3 σ2 s3 O3 Pin.refl
      | true =>
        rw [if_pos rfl]
        refine ⟨fun σ' H' => ∃ B' ρ', Same B B' ∧ Ok K Γ B' R H' σ' ρ' ∧ Pin C.pn σ σ' ∧ SLand K mg C Γ B' R σ' D (whileF fc f m ρ'), fun σ' H' n => ⟨m, Nat.lt_succ_self _, n⟩, ?_⟩
        simp only [Res.out] at l2
        refine hb B3 R H3 σ2 ρ3 _ (C.hP _ _ _ p2 pw) O3 ?_
        cases e3 : f ρ3 with
        | stuck => rw [e3] at l2; exact l2
        | nx ρ5 =>
          rw [e3] at l2
          exact fun B5 H5 σ5 sb5 O5 p5 => ⟨B5, ρ5, (s2.trans s3).trans sb5, O5, p2.trans p5, SLand.mono l2 (s3.trans sb5) p5⟩
        | ct ρ5 =>
          rw [e3] at l2
          exact fun B5 H5 σ5 sb5 O5 p5 => ⟨B5, ρ5, (s2.trans s3).trans sb5, O5, p2.trans p5, SLand.mono l2 (s3.trans sb5) p5⟩
        | bk ρ5 => rw [e3] at l2; exact fun B5 H5 σ5 sb5 O5 p5 => l2 B5 H5 σ5 (s3.trans sb5) O5 p5
        | rt d ρ5 => rw [e3] at l2; exact fun B5 H5 σ5 v Γ1 sb5 a O5 p5 => l2 B5 H5 σ5 v Γ1 (s3.trans sb5) a O5 p5
        | exc x ρ5 => rw [e3] at l2; exact fun B5 H5 σ5 cls p l Γ1 sb5 n a O5 p5 q => l2 B5 H5 σ5 cls p l Γ1 (s3.trans sb5) n a O5 p5 q
end
end DL
namespace DL
open PySem L2

inductive FRes where
  | ret (d : D) (outs : Env) | exc (e : Ex) (outs : Env) | stuck
abbrev Den := List D → FRes
/-- what is left of the first parameters, in the parameters' places -/
def plug (n : Nat) (outs : Env) : Env := outs ++ List.replicate (n - outs.length) none
def toF (k : Nat) (o : Out) : FRes := match o with
  | .rt d ρ => .ret d (ρ.take k)
  | .nx ρ => .ret .non (ρ.take k)
  | .exc e ρ => .exc e (ρ.take k)
  | _ => .stuck
def mkF (N k : Nat) (fb : Env → Out) : Den := fun ds => toF k (fb (ds.map some ++ List.replicate (N - ds.length) none))
section
variable (K : PySem.W.Frag) (mg : Mg)
def FLand (Γp : List Sh) (sr : Sh) (B R : Hp) (vs : List V) (Q : VK) (E : XK) : FRes → Prop
  | .ret d outs => ∀ B' H' v, Same B B' → Ok K (sr :: Γp) B' R H' (some v :: vs.map some) (some d :: plug Γp.length outs) → Q v H'
  | .exc e outs => ∀ B' H' cls p l, Same B B' → R p = none → Ok K Γp B' (upd R p (.xd l)) H' (vs.map some) (plug Γp.length outs) → ExR K mg B' e cls l → E cls (some p) H'
  | .stuck => False
/-- the promise of a def that reckons f -/
def spD (Γp : List Sh) (sr : Sh) (f : Den) : Sp := fun vs H Q E => ∃ B R ds, Ok K Γp B R H (vs.map some) (ds.map some) ∧ FLand K mg Γp sr B R vs Q E (f ds)
end
section
variable {K : PySem.W.Frag} {mg : Mg} {Γ Γp : List Sh} {sr : Sh}
theorem spD_len {f : Den} {vs : List V} {H : Hp} {Q : VK} {E : XK} (h : spD K mg Γp sr f vs H Q E) : vs.length = Γp.length := by
  obtain ⟨B, R, ds, O, _⟩ := h
  simpa using O.lσ
/-- the state of a def's body: k first parameters are the caller's own -/
def cfF (E : XK) (Γp : List Sh) (sr : Sh) (n k : Nat) : Cf := { W := ⟨fun cls d _ H => E cls d H, fun _ _ => True, fun _ _ _ _ _ => trivial⟩, hP := fun _ _ _ _ _ => trivial, Γl := [], sr := sr, pn := List.range k, ag := fun Γ1 => Γ1.length = n ∧ Γ1.take k = Γp.take k }
theorem getElem?_take_eq {α : Type} {l : List α} {k i : Nat} (h : i < k) : (l.take k)[i]? = l[i]? := by
  rw [List.getElem?_take]; simp [h]
theorem Ok.shorten {Γ1 : List Sh} {B R H : Hp} {σ : L2.St} {ρ : Env} {v : V} {d : D} {vs : List V} {k : Nat} (hk : k ≤ Γp.length) (hv : vs.length = Γp.length) (ag : Γ1.take k = Γp.take k) (lN : Γp.length ≤ Γ1.length)
    (pin : ∀ i, i < k → σ[i]? = (vs.map some)[i]?) (O : Ok K Γ1 B R H σ ρ) : Ok K Γp B R H (vs.map some) (plug Γp.length (ρ.take k)) := by
  obtain ⟨F, W⟩ := O.own
  have lρ := O.lρ
  have lt : (ρ.take k).length = k := by rw [List.length_take]; omega
  have at_ : ∀ i d, (plug Γp.length (ρ.take k))[i]? = some (some d) → i < k ∧ ρ[i]? = some (some d) := fun i d h => by
    unfold plug at h
    by_cases hi : i < k
    · rw [List.getElem?_append_left (by omega), getElem?_take_eq hi] at h
      exact ⟨hi, h⟩
    · rw [List.getElem?_append_right (by omega), List.getElem?_replicate] at h
      split at h <;> cases h
  refine ⟨O.sb, O.sr, by simp [hv], by unfold plug; simp [lt]; omega, O.br, F, ⟨fun i d s h hs => ?_, W.no, W.nd, W.dj⟩⟩
  obtain ⟨hi, h2⟩ := at_ i d h
  rw [← pin i hi]
  refine W.at_ i d s h2 ?_
  rw [← getElem?_take_eq hi, ag, getElem?_take_eq hi]
  exact hs
theorem Ok.shortenV {Γ1 : List Sh} {B R H : Hp} {σ : L2.St} {ρ : Env} {v : V} {d : D} {vs : List V} {k : Nat} (hk : k ≤ Γp.length) (hv : vs.length = Γp.length) (ag : Γ1.take k = Γp.take k) (lN : Γp.length ≤ Γ1.length)
    (pin : ∀ i, i < k → σ[i]? = (vs.map some)[i]?) (O : Ok K (sr :: Γ1) B R H (some v :: σ) (some d :: ρ)) : Ok K (sr :: Γp) B R H (some v :: vs.map some) (some d :: plug Γp.length (ρ.take k)) := by
  have h := Ok.shorten (Γp := sr :: Γp) (vs := v :: vs) (k := k + 1) (v := v) (d := d) (by simpa using hk) (by simpa using hv) (by simpa using ag) (by simpa using lN) (fun i hi => by
    cases i with
    | zero => rfl
    | succ i => simpa using pin i (by omega)) O
  have e : plug (sr :: Γp).length ((some d :: ρ).take (k + 1)) = some d :: plug Γp.length (ρ.take k) := by
    unfold plug
    simp
  rw [e] at h
  exact h
/-- A DEF's BODY: what it reckons is what it promises -/
theorem fn_body {N : List Str} {k : Nat} {Γi Γ' : List Sh} {t : TS} {fb : Env → Out} {vs : List V} {H : Hp} {Q : VK} {E : XK} (hk : k ≤ Γp.length) (hN : Γp.length + Γi.length = N.length) (hr : sr = .pu ∨ ∀ ρ ρ', fb ρ ≠ .nx ρ')
    (hn : Γ'.length = N.length ∧ Γ'.take k = Γp.take k)
    (hb : SOk K mg (cfF E Γp sr N.length k) (Γp ++ Γi) Γ' t fb) (h : spD K mg Γp sr (mkF N.length k fb) vs H Q E) :
    t { nx := fun _ H' => Q .non H', rt := Q } (L2.start N vs) H := by
  have hv := spD_len h
  obtain ⟨B, R, ds, O, h⟩ := h
  have hd : ds.length = Γp.length := by simpa using O.lρ
  have O0 : Ok K (Γp ++ Γi) B R H (L2.start N vs) (ds.map some ++ List.replicate (N.length - ds.length) none) := by
    obtain ⟨F, W⟩ := O.own
    refine ⟨O.sb, O.sr, by simp [L2.start, hv]; omega, by simp [hd]; omega, O.br, F, ⟨fun i d s h hs => ?_, W.no, W.nd, W.dj⟩⟩
    by_cases hi : i < Γp.length
    · rw [List.getElem?_append_left (by simpa [hd] using hi)] at h
      rw [List.getElem?_append_left hi] at hs
      obtain ⟨v, h1, h2⟩ := W.at_ i d s h hs
      refine ⟨v, ?_, h2⟩
      unfold L2.start
      rw [List.getElem?_append_left (by simpa [hv] using hi)]
      exact h1
    · rw [List.getElem?_append_right (by simp; omega), List.getElem?_replicate] at h
      split at h <;> cases h
  have pin0 : ∀ i, i < k → (L2.start N vs)[i]? = (vs.map some)[i]? := fun i hi => by
    unfold L2.start
    rw [List.getElem?_append_left (by simp; omega)]
  refine hb B R H _ _ _ trivial O0 ?_
  unfold mkF at h
  cases e : fb (ds.map some ++ List.replicate (N.length - ds.length) none) with
  | stuck => rw [e] at h; exact h
  | bk ρ => rw [e] at h; exact h.elim
  | ct ρ => rw [e] at h; exact h.elim
  | nx ρ =>
    rw [e] at h
    rcases hr with hr | hr
    · subst hr
      intro B' H' σ' sb O' p
      refine h B' H' .non sb ?_
      exact Ok.shortenV hk hv hn.2 (by omega) (fun i hi => (p i (List.mem_range.mpr hi)).trans (pin0 i hi)) (O'.pushP .non)
    · exact absurd e (hr _ _)
  | rt d ρ =>
    rw [e] at h
    intro B' H' σ' v Γ1 sb ag O' p
    exact h B' H' v sb (Ok.shortenV hk hv ag.2 (by have := ag.1; omega) (fun i hi => (p i (List.mem_range.mpr hi)).trans (pin0 i hi)) O')
  | exc x ρ =>
    rw [e] at h
    intro B' H' σ' cls p' l Γ1 sb n ag O' p q
    exact h B' H' cls p' l sb n (Ok.shorten (v := .non) (d := .non) hk hv ag.2 (by have := ag.1; omega) (fun i hi => (p i (List.mem_range.mpr hi)).trans (pin0 i hi)) O') q

/-! ### calls -/
/-- f(..): all arguments pure; n their number -/
def eCall (n : Nat) (f : Den) (fa : ER (List D)) : ER D := fun ρ => (fa ρ).bind fun ds ρ => if ds.length = n then (match f ds with
  | .ret d _ => .ok d ρ
  | .exc e _ => .exc e ρ
  | .stuck => .stuck) else .stuck
/-- what the caller bears lies beside -/
theorem Ok.callee {B R H : Hp} {σ : L2.St} {ρ : Env} {vs : List V} {ds : List D} (O : Ok K Γ B R H σ ρ) (r : Reps K B vs ds) :
    ∃ Rc : Hp, (∀ a, Rc a = if B a = none then H a else none) ∧ Ok K (List.replicate ds.length .pu) B Rc H (vs.map some) (ds.map some) := by
  refine ⟨fun a => if B a = none then H a else none, fun _ => rfl, O.sb, fun a o e => ?_, by simp [r.length], by simp, fun p o e => ?_, fun _ => [], ⟨fun i d s h hs => ?_, fun i p hp => absurd hp (by simp), fun _ => List.nodup_nil, fun i j p hp => absurd hp (by simp)⟩⟩
  · split at e
    · exact e
    · cases e
  · split at e
    · assumption
    · cases e
  · rw [List.getElem?_replicate] at hs
    split at hs
    · cases hs
      rw [List.getElem?_map] at h
      cases q : ds[i]? with
      | none => rw [q] at h; cases h
      | some d' =>
        rw [q] at h; cases h
        obtain ⟨v, h1, h2⟩ := r.get q
        exact ⟨v, by rw [List.getElem?_map, h1]; rfl, h2, rfl⟩
    · cases hs
/-- behind the call -/
theorem Ok.after {B B' R Rc H H' : Hp} {σ : L2.St} {ρ : Env} (O : Ok K Γ B R H σ ρ) (hc : ∀ a, Rc a = if B a = none then H a else none) (sb : Same B B') (sbh : Same B' H') (src : Same Rc H') (br : ∀ p o, Rc p = some o → B' p = none) :
    Same H H' ∧ Ok K Γ B' R H' σ ρ := by
  have sh : Same H H' := fun a o e => by
    cases q : B a with
    | none => exact src a o (by rw [hc, if_pos q]; exact e)
    | some u =>
      have e2 := O.sb a u q
      rw [e] at e2; cases e2
      exact sbh a o (sb a o q)
  refine ⟨sh, O.grow sb sh sbh fun a o e => ?_⟩
  cases q : B a with
  | some u => left; rw [sb a u q] at e; exact e
  | none =>
    right
    cases z : H a with
    | none => rfl
    | some u =>
      have := br a u (by rw [hc, if_pos q]; exact z)
      rw [this] at e; cases e
theorem eok_call {W : Wc} {f : Den} {n : Nat} {ta : TA} {fa : ER (List D)} (ha : AOk K mg W Γ ta fa) : EOk K mg W Γ (tCallS (spD K mg (List.replicate n .pu) sr f) (WE W.W) ta) sr (eCall n f fa) := by
  intro B R H σ ρ Q pw O hl
  unfold eCall at hl
  refine ha B R H σ ρ _ pw O ?_
  cases e1 : fa ρ with
  | stuck => rw [e1] at hl; exact hl
  | exc x ρ1 => rw [e1] at hl; exact hl
  | ok ds ρ1 =>
    rw [e1] at hl
    intro B1 H1 vs s1 O1 r1
    simp only [Res.bind] at hl
    by_cases hn : ds.length = n
    · rw [if_pos hn] at hl
      obtain ⟨Rc, hc, Oc⟩ := O1.callee r1
      rw [hn] at Oc
      refine ⟨B1, Rc, ds, Oc, ?_⟩
      cases e : f ds with
      | stuck => rw [e] at hl; exact hl
      | ret d outs =>
        rw [e] at hl
        intro B2 H2 v s2 O2
        obtain ⟨sh, O3⟩ := O1.after hc s2 O2.sb O2.sr O2.br
        obtain ⟨Fc, Wc⟩ := O2.own
        obtain ⟨F3, W3⟩ := O1.own
        refine hl B2 H2 v (s1.trans s2) ?_
        obtain ⟨v', h1, h2⟩ := Wc.at_ 0 d sr rfl rfl
        cases h1
        obtain ⟨_, O4⟩ := O1.after hc s2 O2.sb O2.sr O2.br
        have W4 : Feet K Γ B2 R H2 σ ρ1 F3 := by
          refine ⟨fun i d s h hs => ?_, fun i p hp => ?_, W3.nd, W3.dj⟩
          · obtain ⟨v, h1, h2⟩ := W3.at_ i d s h hs
            exact ⟨v, h1, h2.mono s2 sh⟩
          · obtain ⟨n1, n2, n3⟩ := W3.no i p hp
            cases z : H1 p with
            | none => exact absurd z n1
            | some u =>
              have q := hc p
              rw [if_pos n2, z] at q
              exact ⟨by rw [sh p u z]; simp, O2.br p u q, n3⟩
        refine Ok.pushO O4.br O4.sb O4.sr O4.lσ O4.lρ W4 h2 (Wc.nd 0) fun p hp => ?_
        obtain ⟨m1, m2, m3⟩ := Wc.no 0 p hp
        have hp0 : ∀ u, H1 p = some u → False := fun u z => by
          have q := hc p
          cases zb : B1 p with
          | none => rw [if_pos zb, z, m3] at q; cases q
          | some w => rw [s2 p w zb] at m2; cases m2
        refine ⟨m1, m2, ?_, fun i hi => ?_⟩
        · cases z : R p with
          | none => rfl
          | some u => exact (hp0 u (O1.sr p u z)).elim
        · obtain ⟨k1, _, _⟩ := W3.no i p hi
          cases z : H1 p with
          | none => exact k1 z
          | some u => exact hp0 u z
      | exc x outs =>
        rw [e] at hl
        intro B2 H2 cls p l s2 np O2 q
        have hBp : B2 p = none := O2.br p _ upd_same
        have hHp : H2 p = some (.xd l) := O2.sr p _ upd_same
        have nB : B1 p = none := s2.free hBp
        have nH : H1 p = none := by have z := hc p; rw [if_pos nB, np] at z; exact z.symm
        have le : Same Rc (upd Rc p (.xd l)) := fun a u e => by rw [upd_ne (fun z => by subst z; rw [np] at e; cases e)]; exact e
        have O2' := O2.weakR le
        obtain ⟨sh, O3⟩ := O1.after hc s2 O2'.sb O2'.sr O2'.br
        obtain ⟨F3, W3⟩ := O1.own
        have W4 : Feet K Γ B2 R H2 σ ρ1 F3 := by
          refine ⟨fun i d s h hs => ?_, fun i p hp => ?_, W3.nd, W3.dj⟩
          · obtain ⟨v, h1, h2⟩ := W3.at_ i d s h hs
            exact ⟨v, h1, h2.mono s2 sh⟩
          · obtain ⟨n1, n2, n3⟩ := W3.no i p hp
            cases z : H1 p with
            | none => exact absurd z n1
            | some u =>
              have q := hc p
              rw [if_pos n2, z] at q
              exact ⟨by rw [sh p u z]; simp, O2'.br p u q, n3⟩
        exact hl B2 H2 cls p l (s1.trans s2) (O1.sr.free nH) (O3.addR W4 (fun i hi => (W3.no i p hi).1 nH) hHp hBp) q
    · rw [if_neg hn] at hl; exact hl.elim
/-- f(x, ..), x a name whose own thing the def may change -/
def eCallO (i n : Nat) (f : Den) (fa : ER (List D)) : ER D := fun ρ => match ρ[i]? with
  | some (some _) => (fa ρ).bind fun ds ρ => match ρ[i]? with
    | some (some d0) => if ds.length = n then (match f (d0 :: ds) with
      | .ret d outs => .ok d (ρ.set i outs.head?.join)
      | .exc e outs => .exc e (ρ.set i outs.head?.join)
      | .stuck => .stuck) else .stuck
    | _ => .stuck
  | _ => .stuck
theorem plug1 {n : Nat} {outs : Env} (i : Nat) {d : D} (h : (plug (n + 1) outs)[0]? = some (some d)) : outs.head?.join = some d := by
  unfold plug at h
  cases outs with
  | nil => simp at h
  | cons o r => simp at h; subst h; rfl
theorem feet_call {B B' R Rc H H' : Hp} {σ : L2.St} {ρ : Env} {F Fc : Nat → List Addr} {i : Nat} {s0 : Sh} {v0 : V} {o : Option D} {base : Nat} {Γc : List Sh} {σc : L2.St} {ρc : Env}
    (O : Ok K Γ B R H σ ρ) (W : Feet K Γ B R H σ ρ F) (hi : Γ[i]? = some s0) (hv : σ[i]? = some (some v0)) (hc : ∀ a, Rc a = if B a = none ∧ a ∉ F i then H a else none)
    (sb : Same B B') (sbh : Same B' H') (src : Same Rc H') (br : ∀ p o, Rc p = some o → B' p = none) (Wc : Feet K Γc B' Rc H' σc ρc Fc)
    (ho : ∀ d, o = some d → Own K B' H' s0 v0 d (Fc base)) :
    Ok K Γ B' R H' σ (ρ.set i o) ∧ Feet K Γ B' R H' σ (ρ.set i o) (fun j => if j = i then (if o.isSome then Fc base else []) else F j) ∧ ∀ b p, p ∈ Fc b → H' p ≠ none ∧ B' p = none ∧ R p = none ∧ ∀ j, j ≠ i → p ∉ F j := by
  have lB : ∀ p, B' p = none → B p = none := fun p h => by
    cases q : B p with
    | none => rfl
    | some u => rw [sb p u q] at h; cases h
  have keepF : ∀ j, j ≠ i → ∀ p ∈ F j, ∀ u, H p = some u → Rc p = some u := fun j hj p hp u hu => by
    rw [hc, if_pos ⟨(W.no j p hp).2.1, fun z => hj (W.dj j i p hp z)⟩]; exact hu
  have facts : ∀ b p, p ∈ Fc b → H' p ≠ none ∧ B' p = none ∧ R p = none ∧ ∀ j, j ≠ i → p ∉ F j := fun b p hp => by
    obtain ⟨m1, m2, m3⟩ := Wc.no b p hp
    refine ⟨m1, m2, ?_, fun j hj hpj => ?_⟩
    · cases z : R p with
      | none => rfl
      | some u =>
        have hH := O.sr p u z
        have nF : p ∉ F i := fun q => by rw [(W.no i p q).2.2] at z; cases z
        have q := hc p
        rw [if_pos ⟨lB p m2, nF⟩, hH, m3] at q
        cases q
    · cases z : H p with
      | none => exact (W.no j p hpj).1 z
      | some u => rw [keepF j hj p hpj u z] at m3; cases m3
  have li : i < Γ.length := (List.getElem?_eq_some_iff.mp hi).1
  have WW : Feet K Γ B' R H' σ (ρ.set i o) (fun j => if j = i then (if o.isSome then Fc base else []) else F j) := by
    refine ⟨fun j d s h hs => ?_, fun j p hp => ?_, fun j => ?_, fun j k p h1 h2 => ?_⟩
    · by_cases hj : j = i
      · subst hj
        rw [List.getElem?_set_self (by rw [O.lρ]; exact li)] at h
        cases h
        rw [hi] at hs; cases hs
        exact ⟨v0, hv, by simpa using ho d rfl⟩
      · rw [List.getElem?_set_ne (Ne.symm hj)] at h
        obtain ⟨v, h1, h2⟩ := W.at_ j d s h hs
        simp only [hj, if_false]
        exact ⟨v, h1, h2.at sb fun p hp u hu => src p u (keepF j hj p hp u hu)⟩
    · split at hp
      · split at hp
        · obtain ⟨a, b, c, _⟩ := facts base p hp; exact ⟨a, b, c⟩
        · exact absurd hp (by simp)
      · rename_i hj
        obtain ⟨n1, n2, n3⟩ := W.no j p hp
        cases z : H p with
        | none => exact absurd z n1
        | some u =>
          have q := keepF j hj p hp u z
          exact ⟨by rw [src p u q]; simp, br p u q, n3⟩
    · split
      · split
        · exact Wc.nd _
        · exact List.nodup_nil
      · exact W.nd _
    · split at h1 <;> split at h2
      · omega
      · split at h1
        · exact absurd h2 ((facts base p h1).2.2.2 k (by assumption))
        · exact absurd h1 (by simp)
      · split at h2
        · exact absurd h1 ((facts base p h2).2.2.2 j (by assumption))
        · exact absurd h2 (by simp)
      · exact W.dj _ _ p h1 h2
  refine ⟨⟨sbh, fun a u e => ?_, O.lσ, by simp [O.lρ], fun p u e => ?_, _, WW⟩, WW, facts⟩
  · have hH := O.sr a u e
    have nF : a ∉ F i := fun q => by rw [(W.no i a q).2.2] at e; cases e
    exact src a u (by rw [hc, if_pos ⟨O.br a u e, nF⟩]; exact hH)
  · have hH := O.sr p u e
    have nF : p ∉ F i := fun q => by rw [(W.no i p q).2.2] at e; cases e
    exact br p u (by rw [hc, if_pos ⟨O.br p u e, nF⟩]; exact hH)
theorem eok_callO {W : Wc} {f : Den} {i n : Nat} {s0 : Sh} {ta : TA} {fa : ER (List D)} (hi : Γ[i]? = some s0) (ha : AOk K mg W Γ ta fa) :
    EOk K mg W Γ (tCallS (spD K mg (s0 :: List.replicate n .pu) sr f) (WE W.W) (tCons (tVar i) ta)) sr (eCallO i n f fa) := by
  intro B R H σ ρ Q pw O hl
  unfold eCallO at hl
  split at hl
  · rename_i dz hz
    obtain ⟨Fz, Wz⟩ := O.own
    obtain ⟨v0, hv, _⟩ := Wz.at_ i dz s0 hz hi
    refine ⟨v0, hv, ha B R H σ ρ _ pw O ?_⟩
    cases e1 : fa ρ with
    | stuck => rw [e1] at hl; exact hl
    | exc x ρ1 => rw [e1] at hl; exact hl
    | ok ds ρ1 =>
      rw [e1] at hl
      intro B1 H1 vs s1 O1 r1
      simp only [Res.bind] at hl
      split at hl
      · rename_i d0 hd0
        by_cases hn : ds.length = n
        · rw [if_pos hn] at hl
          obtain ⟨F, W1⟩ := O1.own
          obtain ⟨v0', hv', own0⟩ := W1.at_ i d0 s0 hd0 hi
          rw [hv] at hv'; cases hv'
          let Rc : Hp := fun a => if B1 a = none ∧ a ∉ F i then H1 a else none
          have hc : ∀ a, Rc a = if B1 a = none ∧ a ∉ F i then H1 a else none := fun _ => rfl
          have Oc : Ok K (s0 :: List.replicate n .pu) B1 Rc H1 ((v0 :: vs).map some) ((d0 :: ds).map some) := by
            refine ⟨O1.sb, fun a o e => ?_, by simp [r1.length, hn], by simp [hn], fun p o e => ?_, fun j => match j with | 0 => F i | _ + 1 => [], ⟨fun j d s h hs => ?_, fun j p hp => ?_, fun j => ?_, fun j k p h1 h2 => ?_⟩⟩
            · rw [hc] at e; split at e; exact e; cases e
            · rw [hc] at e; split at e; rename_i z; exact z.1; cases e
            · cases j with
              | zero => simp at h hs; subst h hs; exact ⟨v0, rfl, own0⟩
              | succ j =>
                have hs : (List.replicate n Sh.pu)[j]? = some s := by simpa using hs
                rw [List.getElem?_replicate] at hs
                split at hs
                · cases hs
                  have h : (ds.map some)[j]? = some (some d) := by simpa using h
                  rw [List.getElem?_map] at h
                  cases q : ds[j]? with
                  | none => rw [q] at h; cases h
                  | some d' =>
                    rw [q] at h; cases h
                    obtain ⟨v, h1, h2⟩ := r1.get q
                    exact ⟨v, by simp [h1], h2, rfl⟩
                · cases hs
            · cases j with
              | zero =>
                obtain ⟨n1, n2, _⟩ := W1.no i p hp
                exact ⟨n1, n2, by rw [hc, if_neg (fun z => z.2 hp)]⟩
              | succ j => exact absurd hp (by simp)
            · cases j with
              | zero => exact W1.nd i
              | succ j => exact List.nodup_nil
            · cases j with
              | zero =>
                cases k with
                | zero => rfl
                | succ k => exact absurd h2 (by simp)
              | succ j => exact absurd h1 (by simp)
          refine ⟨B1, Rc, d0 :: ds, Oc, ?_⟩
          cases e : f (d0 :: ds) with
          | stuck => rw [e] at hl; exact hl
          | ret d outs =>
            rw [e] at hl
            intro B2 H2 v s2 O2
            obtain ⟨Fc, Wc⟩ := O2.own
            have ho : ∀ d1, outs.head?.join = some d1 → Own K B2 H2 s0 v0 d1 (Fc 1) := fun d1 hd1 => by
              have e0 : (plug (s0 :: List.replicate n Sh.pu).length outs)[0]? = some (some d1) := by
                unfold plug
                cases outs with
                | nil => cases hd1
                | cons o r => simp at hd1 ⊢; exact hd1
              obtain ⟨v', h1, h2⟩ := Wc.at_ 1 d1 s0 (by simpa using e0) rfl
              have : v' = v0 := by simpa using h1.symm
              subst this; exact h2
            obtain ⟨O4, W4, facts⟩ := feet_call (i := i) (base := 1) O1 W1 hi hv hc s2 O2.sb O2.sr O2.br Wc ho
            refine hl B2 H2 v (s1.trans s2) ?_
            obtain ⟨v', h1, h2⟩ := Wc.at_ 0 d sr rfl rfl
            cases h1
            refine Ok.pushO O4.br O4.sb O4.sr O4.lσ O4.lρ W4 h2 (Wc.nd 0) fun p hp => ?_
            obtain ⟨a, b, c, e⟩ := facts 0 p hp
            refine ⟨a, b, c, fun j hj => ?_⟩
            split at hj
            · split at hj
              · have := Wc.dj _ _ p hp hj; omega
              · exact absurd hj (by simp)
            · exact e j (by assumption) hj
          | exc x outs =>
            rw [e] at hl
            intro B2 H2 cls p l s2 np O2 q
            have hBp : B2 p = none := O2.br p _ upd_same
            have hHp : H2 p = some (.xd l) := O2.sr p _ upd_same
            have nB : B1 p = none := s2.free hBp
            have le : Same Rc (upd Rc p (.xd l)) := fun a u e => by rw [upd_ne (fun z => by subst z; rw [np] at e; cases e)]; exact e
            obtain ⟨Fc, Wc0⟩ := O2.own
            have npc : ∀ b, p ∉ Fc b := fun b z => by have := (Wc0.no b p z).2.2; rw [upd_same] at this; cases this
            have Wc : Feet K (s0 :: List.replicate n .pu) B2 Rc H2 ((v0 :: vs).map some) (plug (s0 :: List.replicate n Sh.pu).length outs) Fc :=
              ⟨Wc0.at_, fun b q hq => ⟨(Wc0.no b q hq).1, (Wc0.no b q hq).2.1, le.free (Wc0.no b q hq).2.2⟩, Wc0.nd, Wc0.dj⟩
            have O2' := O2.weakR le
            have ho : ∀ d1, outs.head?.join = some d1 → Own K B2 H2 s0 v0 d1 (Fc 0) := fun d1 hd1 => by
              have e0 : (plug (s0 :: List.replicate n Sh.pu).length outs)[0]? = some (some d1) := by
                unfold plug
                cases outs with
                | nil => cases hd1
                | cons o r => simp at hd1 ⊢; exact hd1
              obtain ⟨v', h1, h2⟩ := Wc.at_ 0 d1 s0 e0 rfl
              have : v' = v0 := by simpa using h1.symm
              subst this; exact h2
            obtain ⟨O4, W4, _⟩ := feet_call (i := i) (base := 0) O1 W1 hi hv hc s2 O2'.sb O2'.sr O2'.br Wc ho
            have cs : p ∈ F i ∨ H1 p = none := by
              by_cases z : p ∈ F i
              · exact .inl z
              · have q' := hc p
                rw [if_pos ⟨nB, z⟩, np] at q'
                exact .inr q'.symm
            have nR : R p = none := by
              rcases cs with z | z
              · exact (W1.no i p z).2.2
              · exact O1.sr.free z
            refine hl B2 H2 cls p l (s1.trans s2) nR (O4.addR W4 (fun j hj => ?_) hHp hBp) q
            split at hj
            · split at hj
              · exact npc 0 hj
              · exact absurd hj (by simp)
            · rename_i hji
              rcases cs with z | z
              · exact hji (W1.dj j i p hj z)
              · exact (W1.no j p hj).1 z
        · rw [if_neg hn] at hl; exact hl.elim
      · exact hl.elim
  · exact hl.elim
end
end DL
namespace DL
open PySem L2
/-- nothing may be raised -/
abbrev w0 (W : Wc) : Wc := ⟨fun _ _ _ _ => False, fun _ _ => True, fun _ _ _ _ _ => trivial⟩
section
variable {K : PySem.W.Frag} {mg : Mg} {W : Wc} {Γ : List Sh}
/-! ### what is walked -/
theorem walk_list {B : Hp} {a : Addr} {vs : List V} {ds : List D} (h : SqL K B a vs) (r : Reps K B vs ds) : Walks K B (Itl K a) ds where
  go := fun B2 H2 s1 s2 i hi => by
    have hl := r.length
    exact ⟨vs, vs[i]'(by omega), s2.seq (s1.seq h), List.getElem?_eq_getElem (by omega)⟩
  yld := fun B2 H2 s1 s2 i d x H3 e y => by
    obtain ⟨rfl, y⟩ := y
    obtain ⟨v, h1, h2⟩ := r.get e
    have := y vs (s2.seq (s1.seq h))
    rw [h1] at this; cases this
    exact ⟨B2, Same.refl _, Same.refl _, s2, fun _ _ q => .inl q, h2.mono s1⟩
  stop := fun B2 H2 s1 s2 i hi => ⟨vs, s2.seq (s1.seq h), by rw [r.length]; exact hi⟩
theorem walk_tup {B : Hp} {a : Addr} {vs : List V} {ds : List D} (h : SqT K B a vs) (r : Reps K B vs ds) : Walks K B (Itt K a) ds where
  go := fun B2 H2 s1 s2 i hi => by
    have hl := r.length
    exact ⟨vs, vs[i]'(by omega), sameT s2 (sameT s1 h), List.getElem?_eq_getElem (by omega)⟩
  yld := fun B2 H2 s1 s2 i d x H3 e y => by
    obtain ⟨rfl, y⟩ := y
    obtain ⟨v, h1, h2⟩ := r.get e
    have := y vs (sameT s2 (sameT s1 h))
    rw [h1] at this; cases this
    exact ⟨B2, Same.refl _, Same.refl _, s2, fun _ _ q => .inl q, h2.mono s1⟩
  stop := fun B2 H2 s1 s2 i hi => ⟨vs, sameT s2 (sameT s1 h), by rw [r.length]; exact hi⟩
def iL (f : ER D) : ER (List D) := fun ρ => (f ρ).bind fun d ρ => match d with
  | .lst ds => .ok ds ρ
  | _ => .stuck
def iT (f : ER D) : ER (List D) := fun ρ => (f ρ).bind fun d ρ => match d with
  | .tup ds => .ok ds ρ
  | _ => .stuck
theorem iok_list {te : TE} {f : ER D} (h : EOk K mg W Γ te .pu f) : IOk K mg W Γ (iList K te) (iL f) := by
  intro B R H σ ρ Q pw O hl
  unfold iL at hl
  refine h B R H σ ρ _ pw O ?_
  cases e : f ρ with
  | stuck => rw [e] at hl; exact hl
  | exc x ρ1 => rw [e] at hl; exact hl
  | ok d ρ1 =>
    rw [e] at hl
    intro B1 H1 v s1 O1
    have rv := O1.top
    cases rv with
    | lst hq r => exact ⟨_, rfl, ⟨_, O1.sb.seq (SqL.of hq)⟩, hl B1 H1 _ s1 O1.pop (walk_list (SqL.of hq) r)⟩
    | _ => exact hl.elim
theorem iok_tup {te : TE} {f : ER D} (h : EOk K mg W Γ te .pu f) : IOk K mg W Γ (iTup K te) (iT f) := by
  intro B R H σ ρ Q pw O hl
  unfold iT at hl
  refine h B R H σ ρ _ pw O ?_
  cases e : f ρ with
  | stuck => rw [e] at hl; exact hl
  | exc x ρ1 => rw [e] at hl; exact hl
  | ok d ρ1 =>
    rw [e] at hl
    intro B1 H1 v s1 O1
    have rv := O1.top
    cases rv with
    | tup hq r => exact ⟨_, rfl, ⟨_, sameT O1.sb hq⟩, hl B1 H1 _ s1 O1.pop (walk_tup hq r)⟩
    | _ => exact hl.elim
/-- the ints of a range -/
def rangeD (lo : Int) (n : Nat) : List D := (List.range n).map fun (i : Nat) => D.int (lo + (i : Int))
theorem walk_range {B : Hp} {lo : Int} {n : Nat} : Walks K B (Itr lo n) (rangeD lo n) where
  go := fun B2 H2 s1 s2 i hi => by show i < n; simpa [rangeD] using hi
  yld := fun B2 H2 s1 s2 i d x H3 e y => by
    obtain ⟨rfl, rfl⟩ := y
    refine ⟨B2, Same.refl _, Same.refl _, s2, fun _ _ q => .inl q, ?_⟩
    unfold rangeD at e
    rw [List.getElem?_map] at e
    cases q : (List.range n)[i]? with
    | none => rw [q] at e; cases e
    | some j =>
      rw [q] at e; cases e
      have := (List.getElem?_eq_some_iff.mp q)
      obtain ⟨h1, h2⟩ := this
      simp at h2
      subst h2
      exact .int _
  stop := fun B2 H2 s1 s2 i hi => by show n ≤ i; simpa [rangeD] using hi
def inRg (j : Int) : Bool := decide (-(2 ^ 62) ≤ j) && decide (j < 2 ^ 62)
def iR1 (f : ER (List D)) : ER (List D) := fun ρ => (f ρ).bind fun ds ρ => match ds with
  | [.int j] => if inRg j = true then .ok (rangeD 0 j.toNat) ρ else .stuck
  | _ => .stuck
def iR2 (f : ER (List D)) : ER (List D) := fun ρ => (f ρ).bind fun ds ρ => match ds with
  | [.int i, .int j] => if inRg i = true ∧ inRg j = true then .ok (rangeD i (j - i).toNat) ρ else .stuck
  | _ => .stuck
theorem iok_range1 {ta : TA} {f : ER (List D)} (h : AOk K mg W Γ ta f) : IOk K mg W Γ (iRng1 ta) (iR1 f) := by
  intro B R H σ ρ Q pw O hl
  unfold iR1 at hl
  refine h B R H σ ρ _ pw O ?_
  cases e : f ρ with
  | stuck => rw [e] at hl; exact hl
  | exc x ρ1 => rw [e] at hl; exact hl
  | ok ds ρ1 =>
    rw [e] at hl
    intro B1 H1 vs s1 O1 r
    simp only [Res.bind] at hl
    split at hl
    · rename_i j
      cases r with
      | cons r1 r2 =>
        cases r2
        cases r1
        by_cases hj : inRg j = true
        · rw [if_pos hj] at hl
          simp only [inRg, Bool.and_eq_true, decide_eq_true_eq] at hj
          exact ⟨j, rfl, hj.1, hj.2, hl B1 H1 _ s1 O1 walk_range⟩
        · rw [if_neg hj] at hl; exact hl.elim
    · exact hl.elim
theorem iok_range2 {ta : TA} {f : ER (List D)} (h : AOk K mg W Γ ta f) : IOk K mg W Γ (iRng2 ta) (iR2 f) := by
  intro B R H σ ρ Q pw O hl
  unfold iR2 at hl
  refine h B R H σ ρ _ pw O ?_
  cases e : f ρ with
  | stuck => rw [e] at hl; exact hl
  | exc x ρ1 => rw [e] at hl; exact hl
  | ok ds ρ1 =>
    rw [e] at hl
    intro B1 H1 vs s1 O1 r
    simp only [Res.bind] at hl
    split at hl
    · rename_i i j
      cases r with
      | cons r1 r2 =>
        cases r2 with
        | cons r2 r3 =>
          cases r3
          cases r1
          cases r2
          by_cases hj : inRg i = true ∧ inRg j = true
          · rw [if_pos hj] at hl
            simp only [inRg, Bool.and_eq_true, decide_eq_true_eq] at hj
            exact ⟨i, j, rfl, ⟨hj.1.1, hj.1.2, hj.2.1, hj.2.2⟩, hl B1 H1 _ s1 O1 walk_range⟩
          · rw [if_neg hj] at hl; exact hl.elim
    · exact hl.elim
/-- the signs of a text -/
def signsD (x : Str) : List D := x.cps.toList.map fun c => .str ⟨#[c]⟩
theorem walk_str {B : Hp} {x : Str} : Walks K B (Its x) (signsD x) where
  go := fun B2 H2 s1 s2 i hi => by simpa [signsD, Its] using hi
  yld := fun B2 H2 s1 s2 i d y H3 e q => by
    obtain ⟨rfl, c, hc, rfl⟩ := q
    refine ⟨B2, Same.refl _, Same.refl _, s2, fun _ _ q => .inl q, ?_⟩
    unfold signsD at e
    rw [List.getElem?_map, Array.getElem?_toList, hc] at e
    cases e
    exact .str _
  stop := fun B2 H2 s1 s2 i hi => by simpa [signsD, Its] using hi
def iS (f : ER D) : ER (List D) := fun ρ => (f ρ).bind fun d ρ => match d with
  | .str x => .ok (signsD x) ρ
  | _ => .stuck
theorem iok_str {te : TE} {f : ER D} (h : EOk K mg W Γ te .pu f) : IOk K mg W Γ (iStr te) (iS f) := by
  intro B R H σ ρ Q pw O hl
  unfold iS at hl
  refine h B R H σ ρ _ pw O ?_
  cases e : f ρ with
  | stuck => rw [e] at hl; exact hl
  | exc x ρ1 => rw [e] at hl; exact hl
  | ok d ρ1 =>
    rw [e] at hl
    intro B1 H1 v s1 O1
    have rv := O1.top
    cases rv with
    | str x => exact ⟨x, rfl, hl B1 H1 _ s1 O1.pop walk_str⟩
    | _ => exact hl.elim

/-! ### a list that grows beside what stands -/
theorem Ok.guard {B R H : Hp} {σ : L2.St} {ρ : Env} {p : Addr} {o : HO} (O : Ok K Γ B R H σ ρ) (h : H p = none) : Ok K Γ B (upd R p o) (upd H p o) σ ρ := by
  obtain ⟨F, W⟩ := O.own
  have sh := same_upd (o := o) h
  refine ⟨O.sb.trans sh, fun a u e => ?_, O.lσ, O.lρ, fun a u e => ?_, F, ⟨fun i d s h1 hs => ?_, fun i q hq => ?_, W.nd, W.dj⟩⟩
  · by_cases q : a = p
    · subst q; rw [upd_same] at e ⊢; exact e
    · rw [upd_ne q] at e ⊢; exact O.sr a u e
  · by_cases q : a = p
    · subst q; exact O.sb.free h
    · rw [upd_ne q] at e; exact O.br a u e
  · obtain ⟨v, h2, h3⟩ := W.at_ i d s h1 hs
    exact ⟨v, h2, h3.mono (Same.refl _) sh⟩
  · obtain ⟨n1, n2, n3⟩ := W.no i q hq
    have ne : q ≠ p := fun z => by subst z; exact n1 h
    rw [upd_ne ne, upd_ne ne]
    exact ⟨n1, n2, n3⟩
theorem Ok.reguard {B R H : Hp} {σ : L2.St} {ρ : Env} {p : Addr} {o o' : HO} (O : Ok K Γ B (upd R p o) H σ ρ) : Ok K Γ B (upd R p o') (upd H p o') σ ρ := by
  obtain ⟨F, W⟩ := O.own
  have hB : B p = none := O.br p o upd_same
  have nF : ∀ i, p ∉ F i := fun i z => by have := (W.no i p z).2.2; rw [upd_same] at this; cases this
  refine ⟨fun a u e => ?_, fun a u e => ?_, O.lσ, O.lρ, fun a u e => ?_, F, ⟨fun i d s h1 hs => ?_, fun i q hq => ?_, W.nd, W.dj⟩⟩
  · rw [upd_ne (fun z => by subst z; rw [hB] at e; cases e)]; exact O.sb a u e
  · by_cases q : a = p
    · subst q; rw [upd_same] at e ⊢; exact e
    · rw [upd_ne q] at e ⊢; exact O.sr a u (by rw [upd_ne q]; exact e)
  · by_cases q : a = p
    · subst q; exact hB
    · rw [upd_ne q] at e; exact O.br a u (by rw [upd_ne q]; exact e)
  · obtain ⟨v, h2, h3⟩ := W.at_ i d s h1 hs
    exact ⟨v, h2, h3.at (Same.refl _) fun q hq u hu => by rw [upd_ne (fun z => nF i (by rw [← z]; exact hq))]; exact hu⟩
  · obtain ⟨n1, n2, n3⟩ := W.no i q hq
    have ne : q ≠ p := fun z => nF i (by rw [← z]; exact hq)
    rw [upd_ne ne] at n3 ⊢
    rw [upd_ne ne]
    exact ⟨n1, n2, n3⟩
theorem Ok.unguard {B R H : Hp} {σ : L2.St} {ρ : Env} {p : Addr} {vs : List V} {ds : List D} (O : Ok K Γ B (upd R p (.lst vs)) H σ ρ) (h : R p = none) (r : Reps K B vs ds) : Ok K (.ls :: Γ) B R H (some (.ref p) :: σ) (some (.lst ds) :: ρ) := by
  obtain ⟨F, W⟩ := O.own
  have hB : B p = none := O.br p _ upd_same
  have nF : ∀ i, p ∉ F i := fun i z => by have := (W.no i p z).2.2; rw [upd_same] at this; cases this
  have hH : H p = some (.lst vs) := O.sr p _ upd_same
  have le : ∀ a u, R a = some u → upd R p (.lst vs) a = some u := fun a u e => by rw [upd_ne (fun z => by subst z; rw [h] at e; cases e)]; exact e
  refine Ok.pushO (f := [p]) (F := F) (fun a u e => O.br a u (le a u e)) O.sb (fun a u e => O.sr a u (le a u e)) O.lσ O.lρ ⟨W.at_, fun i q hq => ?_, W.nd, W.dj⟩ ⟨p, rfl, rfl, .lst hH r⟩ (by simp) fun q hq => ?_
  · obtain ⟨n1, n2, n3⟩ := W.no i q hq
    have ne : q ≠ p := fun z => nF i (by rw [← z]; exact hq)
    rw [upd_ne ne] at n3
    exact ⟨n1, n2, n3⟩
  · have e : q = p := by simpa using hq
    subst e
    exact ⟨by rw [hH]; simp, hB, h, nF⟩

/-! ### comprehensions -/
def wipeD (ρ : Env) : List Nat → Env
  | [] => ρ
  | v :: vs => (wipeD ρ vs).set v none
theorem wipeD_length (ρ : Env) : ∀ vs : List Nat, (wipeD ρ vs).length = ρ.length
  | [] => rfl
  | v :: vs => by unfold wipeD; rw [List.length_set, wipeD_length ρ vs]
theorem wipeD_some {ρ : Env} {i : Nat} {d : D} : ∀ {vs : List Nat}, (wipeD ρ vs)[i]? = some (some d) → ρ[i]? = some (some d) ∧ i ∉ vs
  | [], h => ⟨h, by simp⟩
  | v :: vs, h => by
    unfold wipeD at h
    by_cases e : v = i
    · subst e
      by_cases hl : v < (wipeD ρ vs).length
      · rw [List.getElem?_set_self hl] at h; cases h
      · rw [List.getElem?_eq_none (by simpa using hl)] at h; cases h
    · rw [List.getElem?_set_ne e] at h
      obtain ⟨h1, h2⟩ := wipeD_some h
      exact ⟨h1, by simp only [List.mem_cons, not_or]; exact ⟨fun z => e z.symm, h2⟩⟩
theorem wipe_get {σ : L2.St} {i : Nat} : ∀ {vs : List Nat}, i ∉ vs → (wipe σ vs)[i]? = σ[i]?
  | [], _ => rfl
  | v :: vs, h => by
    unfold wipe
    rw [List.getElem?_set_ne (fun e => h (by simp [e])), wipe_get (fun z => h (List.mem_cons_of_mem _ z))]
theorem wipe_in {σ : L2.St} {i : Nat} : ∀ {vs : List Nat}, i ∈ vs → i < σ.length → (wipe σ vs)[i]? = some none
  | v :: vs, h, hl => by
    unfold wipe
    by_cases e : v = i
    · subst e; rw [List.getElem?_set_self (by rw [wipe_length]; exact hl)]
    · rw [List.getElem?_set_ne e]
      exact wipe_in (by simpa [Ne.symm e] using h) hl
theorem wipe_same {σ σ' : L2.St} {vs : List Nat} (hl : σ'.length = σ.length) (h : ∀ j, j ∉ vs → σ'[j]? = σ[j]?) : wipe σ' vs = wipe σ vs := by
  refine List.ext_getElem? fun j => ?_
  by_cases hj : j ∈ vs
  · by_cases hlt : j < σ.length
    · rw [wipe_in hj (by omega), wipe_in hj hlt]
    · rw [List.getElem?_eq_none (by rw [wipe_length]; omega), List.getElem?_eq_none (by rw [wipe_length]; omega)]
  · rw [wipe_get hj, wipe_get hj]; exact h j hj
theorem Ok.wiped {B R H : Hp} {σ σ' : L2.St} {ρ : Env} {vs : List Nat} (O : Ok K Γ B R H σ ρ) (hl : σ'.length = σ.length) (h : ∀ j, j ∉ vs → σ'[j]? = σ[j]?) : Ok K Γ B R H σ' (wipeD ρ vs) :=
  O.drop hl (wipeD_length _ _) fun i d e => by
    obtain ⟨h1, h2⟩ := wipeD_some e
    exact ⟨h1, h i h2⟩
def compF (gf : D → Env → Option Env) (ft : ER Bool) (fe : ER D) (vs : List Nat) : List D → ER (List D)
  | [], ρ => .ok [] ρ
  | d :: es, ρ => match gf d ρ with
    | none => .stuck
    | some ρ1 => (ft ρ1).bind fun b ρ2 => match b with
      | true => (fe ρ2).bind fun y ρ3 => (compF gf ft fe vs es (wipeD ρ3 vs)).bind fun ys ρ4 => .ok (y :: ys) ρ4
      | false => compF gf ft fe vs es (wipeD ρ2 vs)
def eLc (fi : ER (List D)) (gf : D → Env → Option Env) (ft : ER Bool) (fe : ER D) (vs : List Nat) : ER D := fun ρ => (fi ρ).bind fun es ρ => match compF gf ft fe vs es (wipeD ρ vs) with
  | .ok ys ρ' => if ys.length ≤ sizeLine then .ok (.lst ys) ρ' else .stuck
  | _ => .stuck
def bYes : ER Bool := fun ρ => .ok true ρ
theorem tok_yes : TOk K mg W Γ tYes bYes := fun B R H σ ρ Q pw O h => h B H (Same.refl _) O
theorem eok_lc {wi : TI} {g : TG} {tt : TT} {te : TE} {vs tv : List Nat} {fi : ER (List D)} {gf : D → Env → Option Env} {ft : ER Bool} {fe : ER D} (hv : ∀ i ∈ tv, i ∈ vs)
    (hi : IOk K mg W Γ wi fi) (hg : GOk (K := K) Γ Γ tv g gf) (ht : TOk K mg (w0 W) Γ tt ft) (he : EOk K mg (w0 W) Γ te .pu fe) : EOk K mg W Γ (tLc wi g tt te vs) .ls (eLc fi gf ft fe vs) := by
  intro B R H σ ρ Q pw O hl
  unfold eLc at hl
  refine hi B R H σ ρ _ pw O ?_
  cases e : fi ρ with
  | stuck => rw [e] at hl; exact hl
  | exc x ρ1 => rw [e] at hl; exact hl
  | ok es ρ1 =>
    rw [e] at hl
    simp only [Res.bind] at hl
    intro B1 H1 J s1 O1 wk D hD
    cases e2 : compF gf ft fe vs es (wipeD ρ1 vs) with
    | stuck => rw [e2] at hl; exact hl.elim
    | exc x ρ2 => rw [e2] at hl; exact hl.elim
    | ok ys ρf =>
      rw [e2] at hl
      simp only at hl
      by_cases hz : ys.length ≤ sizeLine
      · rw [if_pos hz] at hl
        have hRD : R D = none := O1.sr.free hD
        refine ⟨fun i m H' => m = es.length - i ∧ i ≤ es.length ∧ ∃ B' ρ' acc accv rest, Same B1 B' ∧ Ok K Γ B' (upd R D (.lst accv)) H' (wipe σ vs) ρ' ∧ Reps K B' accv acc ∧ compF gf ft fe vs (es.drop i) ρ' = .ok rest ρf ∧ acc ++ rest = ys,
          ⟨es.length, by simp, Nat.zero_le _, B1, wipeD ρ1 vs, [], [], ys, Same.refl _, (O1.guard hD).wiped (wipe_length _ _) (fun j hj => wipe_get hj), .nil, e2, rfl⟩, ?_⟩
        rintro i m H2 ⟨rfl, hle, B2, ρ2, acc, accv, rest, s2, O2, r2, c2, t2⟩
        by_cases hlt : i < es.length
        · refine .inr ⟨wk.go B2 H2 s2 O2.sb i hlt, fun H' => i < es.length ∧ ∃ B' ρ' acc accv rest, Same B1 B' ∧ Ok K Γ B' (upd R D (.lst accv)) H' (wipe σ vs) ρ' ∧ Reps K B' accv acc ∧ compF gf ft fe vs (es.drop (i + 1)) ρ' = .ok rest ρf ∧ acc ++ rest = ys,
            fun H' n => ⟨es.length - (i + 1), by omega, rfl, by omega, n.2⟩, fun x H3 y => ?_⟩
          obtain ⟨B3, sb3, sh3, sbh3, nw3, rx⟩ := wk.yld B2 H2 s2 O2.sb i es[i] x H3 (by simp [hlt]) y
          have O3 := O2.grow sb3 sh3 sbh3 nw3
          rw [List.drop_eq_getElem_cons hlt] at c2
          unfold compF at c2
          cases e3 : gf es[i] ρ2 with
          | none => rw [e3] at c2; cases c2
          | some ρ3 =>
            rw [e3] at c2
            simp only at c2
            refine hg B3 _ H3 _ ρ2 x _ ρ3 _ O3 rx e3 fun σ4 O4 k4 => ?_
            have hl4 : σ4.length = (wipe σ vs).length := O4.lσ.trans O3.lσ.symm
            have k4' : ∀ j, j ∉ vs → σ4[j]? = (wipe σ vs)[j]? := fun j hj => k4 j fun z => hj (hv j z)
            refine ⟨?_, ?_⟩
            · rw [wipe_same hl4 k4']
              exact wipe_same (wipe_length _ _) fun j hj => wipe_get hj
            · refine ht B3 _ H3 σ4 ρ3 _ trivial O4 ?_
              cases e4 : ft ρ3 with
              | stuck => rw [e4] at c2; cases c2
              | exc x ρ5 => rw [e4] at c2; cases c2
              | ok b ρ5 =>
                rw [e4] at c2
                simp only [Res.bind] at c2
                intro B5 H5 s5 O5
                cases b with
                | false =>
                  rw [if_neg Bool.false_ne_true]
                  simp only at c2
                  exact ⟨hlt, B5, wipeD ρ5 vs, acc, accv, rest, (s2.trans sb3).trans s5, O5.wiped hl4.symm (fun j hj => (k4' j hj).symm), r2.mono (sb3.trans s5), c2, t2⟩
                | true =>
                  rw [if_pos rfl]
                  refine he B5 _ H5 σ4 ρ5 _ trivial O5 ?_
                  cases e6 : fe ρ5 with
                  | stuck => rw [e6] at c2; cases c2
                  | exc x ρ6 => rw [e6] at c2; cases c2
                  | ok yd ρ6 =>
                    rw [e6] at c2
                    simp only at c2
                    intro B6 H6 yv s6 O6
                    cases e7 : compF gf ft fe vs (es.drop (i + 1)) (wipeD ρ6 vs) with
                    | stuck => rw [e7] at c2; cases c2
                    | exc x ρ7 => rw [e7] at c2; cases c2
                    | ok ys' ρ7 =>
                      rw [e7] at c2
                      cases c2
                      have hacc : accv.length < sizeLine := by
                        have h1 := r2.length
                        have h2 := congrArg List.length t2
                        simp at h2
                        omega
                      refine ⟨accv, O6.sr D _ upd_same, hacc, hlt, B6, wipeD ρ6 vs, acc ++ [yd], accv ++ [yv], ys', ((s2.trans sb3).trans s5).trans s6, ?_, ?_, e7, by rw [← t2]; simp⟩
                      · exact (O6.pop.reguard (o' := .lst (accv ++ [yv]))).wiped hl4.symm fun j hj => (k4' j hj).symm
                      · exact (r2.mono ((sb3.trans s5).trans s6)).snoc O6.top
        · have ei : i = es.length := by omega
          refine .inl ⟨wk.stop B2 H2 s2 O2.sb i (by omega), ?_⟩
          rw [ei, List.drop_length] at c2
          cases c2
          have t3 : acc = ys := by simpa using t2
          subst t3
          have O3 := O2.unguard hRD r2
          refine hl B2 H2 _ (s1.trans s2) (O3.drop (by simp [wipe_length]) (by simp) fun j d hj => ?_)
          cases j with
          | zero => exact ⟨hj, rfl⟩
          | succ j =>
            refine ⟨hj, ?_⟩
            have hj : ρf[j]? = some (some d) := by simpa using hj
            by_cases hv : j ∈ vs
            · obtain ⟨F, W⟩ := O2.own
              exfalso
              have hjl : j < Γ.length := by have := (List.getElem?_eq_some_iff.mp hj).1; rw [O2.lρ] at this; exact this
              obtain ⟨v, h1, _⟩ := W.at_ j d Γ[j] hj (by simp [hjl])
              rw [wipe_in hv (by rw [O.lσ]; exact hjl)] at h1
              cases h1
            · simp [wipe_get hv]
      · rw [if_neg hz] at hl; exact hl.elim
end
end DL
namespace PySem
namespace DLX
open Builtin Builtin.ObjectAttr
open PySem.W PySem.Calls PyProof.Rows PySem.HandSPX
section
variable {prog : Program} {w : World} {A : Around} {R : Result → Shared → Prop} {K : Frag} {mg mb : Str → Option Value} {base : Heap} {nm : Str} {C : Addr} {fs : List Str}
theorem ex_made (T : ExTxt prog K mg nm C fs) {s : Shared} (KB : K.In base) (G : base.Ns mainGlobals mg) (BL : base.Ns builtinsNs mb) (bl : ∀ x : Str, x ≠ "__name__" → mb x = bootBuiltins x) (lim : base.NoLimit)
    (kb : ∀ b o, base.get? b = some o → s.heap.get? b = some o) {vs : List Value} (hroom : A.depth + 1 < recursionLimit) (hl : vs.length = fs.length) (h1 : 0 < fs.length)
    (hq : ∀ h' tk e d, OwnMade s.heap h' e C d (fs.zip vs) → R (.ok (.ret (.ref e))) { s with heap := h', toks := tk }) :
    codeAny (model prog w) A (.call (.ref C) ⟨vs, []⟩) R s := by
  obtain ⟨fI, hi, ht, _⟩ := id T.fn
  obtain ⟨n, q, N, bs, bm, sn, sub, ab, col, dd, k0, k1, k2, k3, k5, hC, hbm, hal⟩ := T.cls
  have X : K.In s.heap := KB.keeps kb
  obtain ⟨hp, g, dr, tk, os⟩ := s
  have k : ∀ b o, hp.get? b = some o → ((hp.push (kdv_tup vs)).push (excO C hp.objs.size)).get? b = some o := fun b o e => Heap.get?_push_of_some _ (Heap.get?_push_of_some _ e)
  have hget : ((hp.push (kdv_tup vs)).push (excO C hp.objs.size)).get? (hp.objs.size + 1) = some (excO C hp.objs.size) := by heap_get
  have nb : base.get? (hp.objs.size + 1) = none := by
    cases e : base.get? (hp.objs.size + 1) with
    | none => rfl
    | some o => exact absurd (Nat.lt_of_succ_lt (Heap.lt_size (kb _ _ e))) (Nat.lt_irrefl _)
  refine call_own F.excBase_ValueError (fun X => refsVE_contains X bm hbm) (X _ _ hC) (looks_findIn X hi) (fun self => bind_fn X self ht) (by rw [hl]; exact Nat.le_trans T.few (by rw [sizeLine_eq]; decide)) ?_
  refine ex_init (s := ⟨(hp.push (kdv_tup vs)).push (excO C hp.objs.size), g, dr, tk, os⟩) T hi KB G BL bl lim (fun b o e => k b o (kb b o e)) hget nb ?_ hl h1 fun h' tk' dx t1 ⟨k', hx, dn, dne, hns⟩ _ => ?_
  · show A.depth + 1 < recursionLimit
    exact hroom
  · have old : ∀ b o, hp.get? b = some o → h'.get? b = some o := fun b o e => k' b o (Nat.ne_of_lt (Nat.lt_succ_of_lt (Heap.lt_size e))) (k b o e)
    have z : hp.objs.size + 1 + 1 ≤ dx := by
      first
        | (simpa only [Heap.size_push] using dn)
        | exact dn
        | (have q := dn; rw [Heap.size_push, Heap.size_push] at q; exact q)
    exact ⟨rfl, hq h' tk' (hp.objs.size + 1) dx ⟨old, Nat.le_succ _, ⟨_, _, hx, rfl, rfl, rfl, rfl⟩, Nat.le_trans (Nat.le_trans (Nat.le_succ _) (Nat.le_succ _)) z, dne, hns⟩⟩
end
end DLX
end PySem
namespace L2
open PySem PySem.Spec PyProof.Rows
theorem relO_zip : ∀ {fs : List Str} {vs : List V} {us : List Value}, Vals vs us → ∀ f, RelO ((fs.zip vs).lookup f) ((fs.zip us).lookup f)
  | [], _, _, _, f => trivial
  | _ :: _, _, _, .nil, f => trivial
  | g :: fs, _, _, .cons r t, f => by
    rw [List.zip_cons_cons, List.zip_cons_cons, List.lookup_cons, List.lookup_cons]
    cases f == g with
    | true => exact r
    | false => exact relO_zip t f
section
variable {X : Cx} {C : Addr} {nm : Str} {fs : List Str}
/-- Err(e1, ..): a new own dict d bears the fields -/
def tMkEx (C : Addr) (fs : List Str) (ta : TA) : St → Hp → XK → Prop := fun σ H Q => ta σ H fun vs H1 => vs.length = fs.length ∧ ∀ d, H1 d = none → Q (.ref C) (some d) (upd H1 d (.xd (fs.zip vs)))
theorem pmk_ex {a : Expr} {as : List Expr} {ta : TA} {p pos : Pos} {k : Nat} (T : PySem.DLX.ExTxt X.prog X.K X.mg nm C fs) (h1 : 0 < fs.length) (hr : Room k X.A) (ha : PA X (a :: as) ta) (hg : Gl X nm) (hdb : (nm == ("__debug__" : Str)) = false := by decide)
    (he : starEach (a :: as) X.env = (false, eval a X.env) :: starEach as X.env := by rfl) (hpl : (backTo pos (starEach as X.env)).any (·.1) = false := by rfl) :
    PMk X (.Call (.Name nm p) (a :: as) [] pos) (tMkEx C fs ta) := by
  intro pins s σ H Q I h
  refine wpAny_Call_Name_kw (ld_glob I hg T.gC ?_ hdb)
  refine PySem.W.callWith_K (h₀ := X.base) I.ok.mod.kin T.kC (thn (ha.run pos pins s σ H _ I h) fun us s1 hh => ?_) he hpl
  obtain ⟨vs, H1, I1, r1, hl, q1⟩ := hh
  refine ⟨I1.kIn, ?_⟩
  obtain ⟨mb, hmb, hbb⟩ := I1.mod.blt
  have bk := I1.bk
  have hlen : us.length = fs.length := by rw [← r1.length]; exact hl
  show wpAny _ _ (call (.ref C) us) _ _ _
  obtain ⟨hp, g, dr, tk, os⟩ := s1
  refine wpAny_call (PySem.DLX.ex_made T I1.mod.kin I1.mod.glob hmb hbb I1.mod.nolimit bk (by have := hr.dp; omega) hlen h1 fun h' tk' e d M => ?_)
  show MkP X pins σ Q (.ref e) ⟨h', g, dr, tk', os⟩
  obtain ⟨oe, fv, hoe, hc, hd, hdat, h1v⟩ := M.obj
  have hns := M.ns
  obtain ⟨G', g1, g2⟩ := restrict h' fun b => decide (b ≠ e)
  have gk : ∀ b, b ≠ e → G'.get? b = h'.get? b := fun b hb => g1 b (decide_eq_true hb)
  have ge : G'.get? e = none := g2 e (by simp)
  have old : ∀ b o, hp.get? b = some o → G'.get? b = some o := fun b o q => (gk b (Nat.ne_of_lt (Nat.lt_of_lt_of_le (Heap.lt_size q) M.new))).trans (M.keep b o q)
  have ob : ObjOk X.prog X.w (upd H1 d (.xd (fs.zip vs))) G' d (.xd (fs.zip vs)) :=
    ⟨_, hns.at (fun o q => (gk d M.dne).trans q), fun f => relO_zip r1 f⟩
  have J : Inv X pins σ (upd H1 d (.xd (fs.zip vs))) ⟨G', g, dr, tk', os⟩ := I1.laid (t' := tk') old M.dbig ob
  refine ⟨e, oe, fv, ⟨G', g, dr, tk', os⟩, _, .ref C, some d, rfl, J, fun b o q => ?_, ge, hoe, ⟨hc, hd⟩, hdat, h1v, ?_, rfl, I1.bare, raises_own T.exC T.tyC, q1 d (I1.hok.fresh M.dbig)⟩
  · by_cases hb : b = e
    · have q' : G'.get? b = some o := q
      rw [hb, ge] at q'; cases q'
    · exact (gk b hb).symm.trans q
  · rw [upd_ne (Ne.symm M.dne)]
    exact I1.hok.fresh M.new
/-- why.f, why the error that the suite holds (at a; its class cls, its dict d) -/
def tByEx (C : Addr) (a : Addr) (cls : Value) (d : Option Addr) (f : Str) (te : TE) : TE := fun σ H Q => te σ H fun x H1 => x = .ref a ∧ cls = .ref C ∧ ∃ (dd : Addr) (l : List (Str × V)) (v : V), d = some dd ∧ H1 dd = some (.xd l) ∧ l.lookup f = some v ∧ Q v H1
theorem pe_byEx {f : Str} {a : Addr} {oe : Obj} {cls : Value} {d : Option Addr} {pn : List (Addr × Obj)} {e : Expr} {te : TE} {pos : Pos} (T : PySem.DLX.ExTxt X.prog X.K X.mg nm C fs) (hf0 : f ∈ fs) (hz : Zc cls d oe) (hf : ∃ vs, oe.data = .fields vs) (he : PE (X.suite a ((a, oe) :: pn)) e te)
    (hb : attributeBase e f X.env (eval e X.env) = eval e X.env := by rfl) :
    PE (X.suite a ((a, oe) :: pn)) (.Attribute e f pos) (tByEx C a cls d f te) := by
  refine ⟨fun pins s σ H Q I h => ?_⟩
  refine attr_of hb (thn (he.run pins s σ H _ I h) fun u s1 hh => ?_)
  obtain ⟨x, H1, I1, rx, ex, ec, dd, l, v, ed, ea, el, q⟩ := hh
  subst ex
  obtain rfl : u = Value.ref a := rx
  subst ec
  subst ed
  obtain ⟨ha, _⟩ := I1.pin (a, oe) (List.mem_append_left _ List.mem_cons_self)
  obtain ⟨vs, hd⟩ := hf
  have hx : ObjOk X.prog X.w H1 s1.heap dd (.xd l) := I1.hok dd _ ea
  obtain ⟨mA, hns, hr⟩ := hx
  obtain ⟨od, ho, hl⟩ := lookIn_ns hns
  obtain ⟨u, hu, ru⟩ := RelO.some_of (v := v) (o := mA f) (by rw [← el]; exact hr f)
  have J : PySem.W.InstAt s1.heap a oe C (some od) := ⟨ha, hz.1, by unfold PySem.W.notCls; rw [hd] <;> rfl, by rw [hz.2]; exact ho⟩
  exact HandSPX.exc_get I1.kIn J T.ga T.gg T.exC (PySem.W.findObj_own T.hdC (T.noF f hf0) rfl (by rw [hl, hu])) (handed_of ru) ⟨v, H1, I1.tok _, ru, q⟩
end
end L2
namespace PySem
namespace DLX
open PySem.W PySem.Calls PyProof.Rows PySem.HandSPX
section
variable {prog : Program} {w : World} {A : Around} {E : Value → Shared → Prop} {s : Shared} {K : Frag} {x D : Addr} {ox : Obj} {od : Option Obj}
theorem findObj_dataD {C : Addr} {name : Str} {a g : Value} (gc : (clsIn K C).isSome = true) (ga : findIn K (.ref C) name = some (some a)) (hg : specialIn K a "__get__" = some (some g)) (ht : takesIn K a = some true) : findObj K C od name = some (.bind g a) := by
  obtain ⟨cdt, gc⟩ := Option.isSome_iff_exists.mp gc
  unfold findObj
  rw [gc, Option.bind_some, ga, Option.bind_some]
  simp [hg, ht]
theorem kin_classD {Q : Option Value → Shared → Prop} (c : L2.ExcC K D)
    (X : K.In s.heap) (I : InstAt s.heap x ox D od) (h : Q (some (.ref D)) { s with toks := s.toks + 1 }) : wpAny (model prog w) A (getAttr? (.ref x) "__class__") Q E s := by
  have gf : findObj K D od "__class__" = some (.bind (.builtin "getset_descriptor.__get__") (.builtin "object.__class__")) := findObj_dataD (by obtain ⟨cdt, gc, _⟩ := any_some c.hd; rw [gc]; rfl) c.ha c.hn c.ht
  obtain ⟨hp, g, d, t, os⟩ := s
  have w0 := I.type (M := model prog w)
  have w1 := looks_findIn (M := model prog w) X c.hg
  have L2 := looks_findIn (M := model prog w) X c.hk
  have w3 := looks_find (M := model prog w) X I gf
  have sub : Looks (model prog w) hp (isInstance (.ref x) (.type "BaseException")) true := w0.andThen (looks_subIn X c.hs)
  have x0 : (false && onTheHeap (Value.builtin "BaseException.__getattribute__")) = false := rfl
  have x2 : (Value.builtin "BaseException.__getattribute__" == Value.builtin "object.__getattribute__") = false := by decide +kernel
  have x1 : (onTheHeap (Value.ref D) && Value.builtin "BaseException.__getattribute__" == Value.builtin "object.__getattribute__") = false := by rw [x2]; rfl
  unfold getAttr? getAttrBy? getAttrBy
  refine wpAny_bind (wpAny_mkText (wpAny_bind (wpAny_attempt (wpAny_holding (wpAny_bind (w0.at (wpAny_bind (w1.at ?_))))))))
  show wpAny _ _ (if (onTheHeap (Value.ref D) && Value.builtin "BaseException.__getattribute__" == Value.builtin "object.__getattribute__") = true then _ else _) _ _ _
  rw [x1, if_neg Bool.false_ne_true]
  unfold getAttrByItsOwn hookBefore
  refine wpAny_bind ?_
  rw [if_pos (show onTheHeap (Value.ref D) = true from rfl)]
  refine L2.at ?_
  refine wpAny_bind (wpAny_attempt (wpAny_holding ?_))
  unfold callGetattribute
  rw [x0, if_neg Bool.false_ne_true]
  unfold boundAndCalled
  rw [PySem.F.excAttr_ValueError.ga.bind (.ref x)]
  refine wpAny_bind (wpAny_pure ?_)
  show wpAny _ _ (call (.builtin "BaseException.__getattribute__") [.ref x, .str "__class__" t]) _ _ _
  refine wpAny_call (codeAny_call_builtin PySem.F.excAttr_ValueError.ga.plain PySem.F.entry_bexc_ga ?_)
  refine @check_slot (model prog w) _ _ ⟨hp, g, d, t + 1, os⟩ "BaseException.__getattribute__" "BaseException" "__getattribute__" (.ref x) [.str "__class__" t] [] _ (by decide +kernel) (by decide +kernel) sub (PySem.F.args_bexc_ga (.ref x) (.str "__class__" t)) ?_
  unfold Builtin.«object.__getattribute__»
  refine wpAny_bind (wpAny_of_eq (a := ((Value.ref x : Value), [Value.str "__class__" t])) (by first | rfl | (simp only [slotArgs]; rfl)) ?_)
  refine wpAny_bind (wpAny_pure (wpAny_bind (w0.at (wpAny_bind (w3.at ?_)))))
  show wpAny _ _ (holding [Value.builtin "object.__class__"] (call (.builtin "getset_descriptor.__get__") [.builtin "object.__class__", .ref x, .ref D]) >>= ret) _ _ _
  refine wpAny_bind (wpAny_holding (wpAny_call (class_get (s := ⟨hp, g, d, t + 1, os⟩) (ox := ox) (od := od) X I c.hm ?_)))
  refine wpAny_pure ?_
  show wpAny _ _ (handedOut (.ref D)) _ _ _
  rw [handedOut_of (v := .ref D) rfl]
  first
    | exact wpAny_pure (wpAny_pure h)
    | exact wpAny_pure h
    | exact wpAny_pure (wpAny_bind (wpAny_pure (wpAny_pure h)))
theorem kitx_excD (c : L2.ExcC K D) : KitX K (.ref x) (.ref D) (fun h => ∃ od, InstAt h x ox D od) where
  ty := fun _ _ _ ⟨_, I⟩ => I.type
  it := fun _ _ X _ => by
    obtain ⟨cdD, hcD, _⟩ := any_some c.hd
    unfold clsIn at hcD
    split at hcD
    · rename_i c' d' cd' sl' ho
      intro A' Q' E' s' k q
      unfold isType loadHead
      exact wpAny_bind (wpAny_loadPart (k _ _ (X _ _ ho)) (wpAny_pure q))
    · cases hcD
  ne := fun h tp dd its n sl X htp => by
    obtain ⟨cdD, hcD, _⟩ := any_some c.hd
    refine Bool.eq_false_iff.mpr fun q => ?_
    have e : D = tp := Value.ref.inj (beq_iff_eq.mp q)
    subst e
    unfold clsIn at hcD
    split at hcD
    · rename_i c' d' cd' sl' ho
      have z := (X _ _ ho).symm.trans htp
      cases z
    · cases hcD
  ca := fun X ⟨_, I⟩ k => kin_classD c X I k
end
end DLX
end PySem
namespace L2
open PySem PySem.Spec PyProof.Rows
/-- isinstance(why, X), why the error that the suite holds, with fields of its own -/
def rIsX (K : PySem.W.Frag) (cls : Value) (d : Option Addr) (a : Addr) : List V → Hp → VK → Prop := fun xs H Q => ∃ (D dd : Addr) (l : List (Str × V)) (c : V) (cv : Value) (b : Bool), cls = .ref D ∧ d = some dd ∧ H dd = some (.xd l) ∧ ExcC K D ∧
  xs = [.ref a, c] ∧ (∀ u, RelV c u → u = cv) ∧ PySem.W.kitOne K (.ref D) cv = some b ∧ Q (.bl b) H
theorem call_isX {X : Cx} {a : Addr} {cls : Value} {d : Option Addr} {oe : Obj} {pn : List (Addr × Obj)} (hz : Zc cls d oe) (hf : ∃ vs, oe.data = .fields vs) : CallR (X.suite a ((a, oe) :: pn)) (.builtin "isinstance") (rIsX X.K cls d a) := by
  intro pins s σ H xs us Q I r h
  obtain ⟨D, dd, l, c, cv, b, rfl, rfl, hH, C, rfl, hcv, e, q⟩ := h
  cases r with
  | cons rx rr =>
    cases rr with
    | cons rt rr =>
      cases rr
      cases rx
      have ec := hcv _ rt
      subst ec
      obtain ⟨hget, _⟩ := I.pin (a, oe) (List.mem_append.mpr (.inl List.mem_cons_self))
      obtain ⟨vs, hv⟩ := hf
      have hx : ObjOk X.prog X.w H s.heap dd (.xd l) := I.hok dd _ hH
      obtain ⟨mA, ⟨od, es, ep, ho, _⟩, _⟩ := hx
      have J : PySem.W.InstAt s.heap a oe D (some od) := by
        obtain ⟨oc, od', oda, osl⟩ := oe
        obtain ⟨h1, h2⟩ := hz
        dsimp only at h1 h2 hv
        subst h1 h2 hv
        exact ⟨hget, rfl, rfl, ho⟩
      exact PySem.W.kia_one (PySem.DLX.kitx_excD C) I.kIn ⟨some od, J⟩ e (fun z => nomatch z) fun tk => ⟨.bl b, H, I.kept (t' := tk) fun _ _ z => z, rfl, q⟩
end L2
namespace DL
open PySem L2
section
variable {K : PySem.W.Frag} {mg : Mg} {C : Cf} {Γ Γ' : List Sh}
/-- raise Err(e1, ..) -/
def tRaiseEx (C0 : Addr) (fs : List Str) (W : WX) (ta : TA) : TS := fun _ σ H => tMkEx C0 fs ta σ H fun cls d H' => W cls d σ H'
def sRaise (c : Nat) (fs : List Str) (fa : ER (List D)) : Env → Out := fun ρ => (fa ρ).out fun ds ρ => if ds.length = fs.length then .exc ⟨c, fs.zip ds⟩ ρ else .stuck
theorem zip_fst : ∀ {fs : List Str} {ds : List D}, ds.length = fs.length → (fs.zip ds).map (·.1) = fs ∧ (fs.zip ds).map (·.2) = ds
  | [], [], _ => ⟨rfl, rfl⟩
  | f :: fs, d :: ds, h => by
    obtain ⟨h1, h2⟩ := zip_fst (fs := fs) (ds := ds) (by simpa using h)
    exact ⟨by simp [h1], by simp [h2]⟩
  | [], _ :: _, h => by cases h
  | _ :: _, [], h => by cases h
theorem sok_raise {c : Nat} {C0 : Addr} {fs : List Str} {ta : TA} {fa : ER (List D)} (gC : mg (clsN c) = some (.ref C0)) (ag : C.ag Γ) (ha : AOk K mg C.W Γ ta fa) : SOk K mg C Γ Γ' (tRaiseEx C0 fs C.W.W ta) (sRaise c fs fa) := by
  intro B R H σ ρ D pw O hl
  unfold sRaise at hl
  refine ha B R H σ ρ _ pw O ?_
  cases e : fa ρ with
  | stuck => rw [e] at hl; exact hl
  | exc x ρ1 => rw [e] at hl; exact SLand.exc hl ag
  | ok ds ρ1 =>
    rw [e] at hl
    intro B1 H1 vs s1 O1 r1
    simp only [Res.out] at hl
    by_cases hn : ds.length = fs.length
    · rw [if_pos hn] at hl
      obtain ⟨z1, z2⟩ := zip_fst hn
      refine ⟨by rw [r1.length]; exact hn, fun d hd => ?_⟩
      exact hl B1 _ σ _ d _ Γ s1 (O1.sr.free hd) ag (O1.guard hd) Pin.refl ⟨C0, vs, gC, rfl, by dsimp only; rw [z1], by dsimp only; rw [z2]; exact r1⟩
    · rw [if_neg hn] at hl; exact hl.elim
/-! ### try -/
def scalD : D → Bool
  | .non => true | .bl _ => true | .int _ => true | .str _ => true | _ => false
theorem Rep.scal {B B' : Hp} {v : V} {d : D} (r : Rep K B v d) (h : scalD d = true) : Rep K B' v d := by
  cases r with
  | non => exact .non
  | bl b => exact .bl b
  | int i => exact .int i
  | str s => exact .str s
  | _ => cases h
theorem Reps.scal {B B' : Hp} : ∀ {vs : List V} {ds : List D}, Reps K B vs ds → ds.all scalD = true → Reps K B' vs ds
  | _, _, .nil, _ => .nil
  | _, _, .cons r t, h => by
    rw [List.all_cons, Bool.and_eq_true] at h
    exact .cons (r.scal h.1) (Reps.scal t h.2)
def Out.wipe (i : Nat) : Out → Out
  | .nx ρ => .nx (ρ.set i none)
  | .bk ρ => .bk (ρ.set i none)
  | .ct ρ => .ct (ρ.set i none)
  | .exc _ _ => .stuck
  | o => o
def Out.nox : Out → Out
  | .exc _ _ => .stuck
  | o => o
def sTryAs (i : Nat) (cs : List (Nat × Bool)) (fb : Env → Out) (fsu : Ex → Env → Out) : Env → Out := fun ρ => match fb ρ with
  | .exc e ρ' => match cs.lookup e.c with
    | some true => if (e.fs.map (·.2)).all scalD = true then (fsu e (ρ'.set i none)).wipe i else .stuck
    | some false => .exc e ρ'
    | none => .stuck
  | o => o
def sTry (cs : List (Nat × Bool)) (fb : Env → Out) (fsu : Env → Out) : Env → Out := fun ρ => match fb ρ with
  | .exc e ρ' => match cs.lookup e.c with
    | some true => (fsu ρ').nox
    | some false => .exc e ρ'
    | none => .stuck
  | o => o
/-- within the body of a try -/
def cfTry (C : Cf) (Γ : List Sh) (W' : WX) : Cf := { C with W := ⟨W', C.W.P, C.W.mono⟩, ag := fun Γ1 => Γ1 = Γ, hP := C.hP }
/-- what a suite knows of its error -/
def ExV (K : PySem.W.Frag) (mg : Mg) (e : Ex) (cls : Value) (l : List (Str × V)) : Prop := ∃ (C0 : Addr) (vs : List V), mg (clsN e.c) = some (.ref C0) ∧ cls = .ref C0 ∧ l = (e.fs.map (·.1)).zip vs ∧ ∀ B, Reps K B vs (e.fs.map (·.2))
def PSu (i : Nat) (a p : Addr) (l : List (Str × V)) : Hp → L2.St → Prop := fun R σ => σ[i]? = some (some (.ref a)) ∧ R p = some (.xd l)
theorem psu_mono {i : Nat} {a p : Addr} {l : List (Str × V)} : ∀ R R' σ, Same R R' → PSu i a p l R σ → PSu i a p l R' σ := fun _ _ _ s h => ⟨h.1, s _ _ h.2⟩
def cfSu (C : Cf) (i : Nat) (a p : Addr) (l : List (Str × V)) : Cf := { C with W := ⟨fun _ _ _ _ => False, PSu i a p l, psu_mono⟩, pn := i :: C.pn, hP := fun R σ σ' h q => ⟨(h i List.mem_cons_self).trans q.1, q.2⟩ }
theorem sok_try_as {c : Value} {i : Nat} {cs : List (Nat × Bool)} {tb : WX → TS} {ts : Addr → Value → Option Addr → TS} {fb : Env → Out} {fsu : Ex → Env → Out} (ag : C.ag Γ) (hl : C.Γl = Γ ∨ True) (hi : i ∉ C.pn) (hΓ : Γ[i]? = some .pu)
    (hcs : ∀ k b, cs.lookup k = some b → ∀ C0, mg (clsN k) = some (.ref C0) → PySem.W.exmOne K (.ref C0) c = some b)
    (hb : ∀ W', SOk K mg (cfTry C Γ W') Γ Γ' (tb W') fb)
    (hsu : ∀ a e cls p l, ExV K mg e cls l → SOk K mg (cfSu C i a p l) Γ Γ' (ts a cls (some p)) (fsu e)) :
    SOk K mg C Γ Γ' (fun D σ H => tb (wAs K c i ts C.W.W D) D σ H) (sTryAs i cs fb fsu) := by
  intro B R H σ ρ D pw O h
  unfold sTryAs at h
  refine hb (wAs K c i ts C.W.W D) B R H σ ρ D pw O ?_
  cases e : fb ρ with
  | nx ρ1 => rw [e] at h; exact h
  | bk ρ1 => rw [e] at h; exact h
  | ct ρ1 => rw [e] at h; exact h
  | rt d ρ1 =>
    rw [e] at h
    intro B' H' σ' v Γ1 sb ag1 O' p
    have ag1 : Γ1 = Γ := ag1
    subst ag1
    exact h B' H' σ' v _ sb ag O' p
  | stuck => rw [e] at h; exact h
  | exc x ρ1 =>
    rw [e] at h
    intro B' H' σ' cls p l Γ1 sb np ag1 O' pin xr
    have ag1 : Γ1 = Γ := ag1
    subst ag1
    simp only at h
    have xr0 := xr
    obtain ⟨C0, vs, g1, rfl, rfl, g4⟩ := xr
    cases e2 : cs.lookup x.c with
    | none => rw [e2] at h; exact h.elim
    | some b =>
      rw [e2] at h
      refine ⟨b, hcs _ _ e2 _ g1, fun hbt a ha => ?_, fun hbf => ?_⟩
      · subst hbt
        simp only at h
        by_cases hz : (x.fs.map (·.2)).all scalD = true
        · rw [if_pos hz] at h
          have nR : Same R (upd R p (.xd ((x.fs.map (·.1)).zip vs))) := same_upd np
          have hlen : i < σ'.length := by rw [O'.lσ]; exact (List.getElem?_eq_some_iff.mp hΓ).1
          have Os : Ok K Γ1 B' (upd R p (.xd ((x.fs.map (·.1)).zip vs))) H' (σ'.set i (some (.ref a))) (ρ1.set i none) := O'.drop (by simp) (by simp) fun j d hj => by
            by_cases z : j = i
            · subst z
              by_cases hl : j < ρ1.length
              · rw [List.getElem?_set_self hl] at hj; cases hj
              · rw [List.getElem?_eq_none (by simpa using hl)] at hj; cases hj
            · rw [List.getElem?_set_ne (Ne.symm z)] at hj ⊢
              exact ⟨hj, rfl⟩
          have pin2 : Pin C.pn σ (σ'.set i (some (.ref a))) := fun j hj => by
            rw [List.getElem?_set_ne (fun z => hi (by rw [z]; exact hj))]; exact pin j hj
          refine hsu a x _ p _ ⟨C0, vs, g1, rfl, rfl, fun B2 => g4.scal hz⟩ B' _ H' _ (ρ1.set i none) _ ⟨List.getElem?_set_self hlen, upd_same⟩ Os ?_
          have out : ∀ {Γ2 : List Sh} {B2 H2 : Hp} {σ2 : L2.St} {ρ2 : Env}, Ok K Γ2 B2 (upd R p (.xd ((x.fs.map (·.1)).zip vs))) H2 σ2 ρ2 → Ok K Γ2 B2 R H2 (σ2.set i none) (ρ2.set i none) := fun {Γ2 B2 H2 σ2 ρ2} O2 => (O2.weakR nR).drop (by simp) (by simp) fun j d hj => by
            by_cases z : j = i
            · subst z
              by_cases hl : j < ρ2.length
              · rw [List.getElem?_set_self hl] at hj; cases hj
              · rw [List.getElem?_eq_none (by simpa using hl)] at hj; cases hj
            · rw [List.getElem?_set_ne (Ne.symm z)] at hj ⊢
              exact ⟨hj, rfl⟩
          have pout : ∀ {σ2 : L2.St}, Pin (i :: C.pn) (σ'.set i (some (.ref a))) σ2 → Pin C.pn σ (σ2.set i none) := fun {σ2} q j hj => by
            rw [List.getElem?_set_ne (fun z => hi (by rw [z]; exact hj))]
            exact (q j (List.mem_cons_of_mem _ hj)).trans (pin2 j hj)
          have pout2 : ∀ {σ2 : L2.St}, Pin (i :: C.pn) (σ'.set i (some (.ref a))) σ2 → Pin C.pn σ σ2 := fun {σ2} q j hj => (q j (List.mem_cons_of_mem _ hj)).trans (pin2 j hj)
          cases e3 : fsu x (ρ1.set i none) with
          | stuck => rw [e3] at h; exact h
          | nx ρ3 => rw [e3] at h; exact fun B3 H3 σ3 s3 O3 p3 => h B3 H3 (σ3.set i none) (sb.trans s3) (out O3) (pout p3)
          | bk ρ3 => rw [e3] at h; exact fun B3 H3 σ3 s3 O3 p3 => h B3 H3 (σ3.set i none) (sb.trans s3) (out O3) (pout p3)
          | ct ρ3 => rw [e3] at h; exact fun B3 H3 σ3 s3 O3 p3 => h B3 H3 (σ3.set i none) (sb.trans s3) (out O3) (pout p3)
          | rt d ρ3 => rw [e3] at h; exact fun B3 H3 σ3 v Γ3 s3 a3 O3 p3 => h B3 H3 σ3 v Γ3 (sb.trans s3) a3 (O3.weakR nR) (pout2 p3)
          | exc y ρ3 => rw [e3] at h; exact h.elim
        · rw [if_neg hz] at h; exact h.elim
      · subst hbf
        simp only at h
        exact h B' H' σ' _ p _ Γ1 sb np ag O' pin xr0
/-- the suite of a clause without a name -/
def cfSu0 (C : Cf) : Cf := { C with W := ⟨fun _ _ _ _ => False, C.W.P, C.W.mono⟩, hP := C.hP }
theorem sok_try {c : Value} {cs : List (Nat × Bool)} {tb : WX → TS} {ts : Addr → Value → Option Addr → TS} {fb : Env → Out} {fsu : Env → Out} (ag : C.ag Γ)
    (hcs : ∀ k b, cs.lookup k = some b → ∀ C0, mg (clsN k) = some (.ref C0) → PySem.W.exmOne K (.ref C0) c = some b)
    (hb : ∀ W', SOk K mg (cfTry C Γ W') Γ Γ' (tb W') fb)
    (hsu : ∀ a cls d, SOk K mg (cfSu0 C) Γ Γ' (ts a cls d) fsu) :
    SOk K mg C Γ Γ' (fun D σ H => tb (wOnly K c ts C.W.W D) D σ H) (sTry cs fb fsu) := by
  intro B R H σ ρ D pw O h
  unfold sTry at h
  refine hb (wOnly K c ts C.W.W D) B R H σ ρ D pw O ?_
  cases e : fb ρ with
  | nx ρ1 => rw [e] at h; exact h
  | bk ρ1 => rw [e] at h; exact h
  | ct ρ1 => rw [e] at h; exact h
  | rt d ρ1 =>
    rw [e] at h
    intro B' H' σ' v Γ1 sb ag1 O' p
    have ag1 : Γ1 = Γ := ag1
    subst ag1
    exact h B' H' σ' v _ sb ag O' p
  | stuck => rw [e] at h; exact h
  | exc x ρ1 =>
    rw [e] at h
    intro B' H' σ' cls p l Γ1 sb np ag1 O' pin xr
    have ag1 : Γ1 = Γ := ag1
    subst ag1
    simp only at h
    have xr0 := xr
    obtain ⟨C0, vs, g1, rfl, rfl, g4⟩ := xr
    cases e2 : cs.lookup x.c with
    | none => rw [e2] at h; exact h.elim
    | some b =>
      rw [e2] at h
      refine ⟨b, hcs _ _ e2 _ g1, fun hbt a ha => ?_, fun hbf => ?_⟩
      · subst hbt
        simp only at h
        have nR : Same R (upd R p (.xd ((x.fs.map (·.1)).zip vs))) := same_upd np
        refine hsu a _ _ B' R H' σ' ρ1 _ (C.hP _ _ _ pin pw) (O'.weakR nR) ?_
        cases e3 : fsu ρ1 with
        | stuck => rw [e3] at h; exact h
        | nx ρ3 => rw [e3] at h; exact fun B3 H3 σ3 s3 O3 p3 => h B3 H3 σ3 (sb.trans s3) O3 (pin.trans p3)
        | bk ρ3 => rw [e3] at h; exact fun B3 H3 σ3 s3 O3 p3 => h B3 H3 σ3 (sb.trans s3) O3 (pin.trans p3)
        | ct ρ3 => rw [e3] at h; exact fun B3 H3 σ3 s3 O3 p3 => h B3 H3 σ3 (sb.trans s3) O3 (pin.trans p3)
        | rt d ρ3 => rw [e3] at h; exact fun B3 H3 σ3 v Γ3 s3 a3 O3 p3 => h B3 H3 σ3 v Γ3 (sb.trans s3) a3 O3 (pin.trans p3)
        | exc y ρ3 => rw [e3] at h; exact h.elim
      · subst hbf
        simp only at h
        exact h B' H' σ' _ p _ Γ1 sb np ag O' pin xr0
/-! ### why.f, isinstance(why, X) -/
def eWhy (e : Ex) (c : Nat) (f : Str) : ER D := fun ρ => if e.c = c then (match e.fs.lookup f with
  | some d => .ok d ρ
  | none => .stuck) else .stuck
theorem lookup_rep {f : Str} {d : D} : ∀ {fs : List (Str × D)} {vs : List V}, (∀ B, Reps K B vs (fs.map (·.2))) → fs.lookup f = some d → ∃ v, ((fs.map (·.1)).zip vs).lookup f = some v ∧ ∀ B, Rep K B v d
  | [], _, _, h => by cases h
  | (g, u) :: fs, vs, r, h => by
    cases vs with
    | nil => cases r (fun _ => none)
    | cons v vs =>
      have r1 : ∀ B, Rep K B v u := fun B => by cases r B with | cons a _ => exact a
      have r2 : ∀ B, Reps K B vs (fs.map (·.2)) := fun B => by cases r B with | cons _ b => exact b
      rw [List.lookup_cons] at h
      rw [List.map_cons, List.zip_cons_cons, List.lookup_cons]
      cases q : f == g with
      | true => rw [q] at h; cases h; exact ⟨v, rfl, r1⟩
      | false => rw [q] at h; exact lookup_rep r2 h
theorem eok_why {i c : Nat} {a p : Addr} {l : List (Str × V)} {e : Ex} {cls : Value} {f : Str} {C0 : Addr} {Wx : WX} (gC : mg (clsN c) = some (.ref C0)) (x : ExV K mg e cls l) : EOk K mg ⟨Wx, PSu i a p l, psu_mono⟩ Γ (tByEx C0 a cls (some p) f (tVar i)) .pu (eWhy e c f) := by
  intro B R H σ ρ Q pw O h
  unfold eWhy at h
  obtain ⟨C1, vs, g1, rfl, rfl, g4⟩ := x
  obtain ⟨p1, p2⟩ := pw
  by_cases hc : e.c = c
  · rw [if_pos hc] at h
    subst hc
    rw [gC] at g1
    cases g1
    cases q : e.fs.lookup f with
    | none => rw [q] at h; exact h.elim
    | some d =>
      rw [q] at h
      obtain ⟨v, h1, h2⟩ := lookup_rep g4 q
      exact ⟨_, p1, rfl, rfl, p, _, v, rfl, O.sr _ _ p2, h1, h B H v (Same.refl _) (O.pushP (h2 B))⟩
  · rw [if_neg hc] at h; exact h.elim
/-- is the error of class k? cs tells it by its own class -/
def eIsX (e : Ex) (cs : List (Nat × Bool)) : ER D := fun ρ => match cs.lookup e.c with
  | some b => .ok (.bl b) ρ
  | none => .stuck
theorem eok_isx {i : Nat} {a p Cx : Addr} {l : List (Str × V)} {e : Ex} {cls : Value} {cs : List (Nat × Bool)} {Wx : WX}
    (hcs : ∀ k b, cs.lookup k = some b → ∀ C0, mg (clsN k) = some (.ref C0) → ExcC K C0 ∧ PySem.W.kitOne K (.ref C0) (.ref Cx) = some b) (x : ExV K mg e cls l) :
    EOk K mg ⟨Wx, PSu i a p l, psu_mono⟩ Γ (tCB (rIsX K cls (some p) a) (tCons (tVar i) (tCons (tC (.ref Cx)) tNil))) .pu (eIsX e cs) := by
  intro B R H σ ρ Q pw O h
  unfold eIsX at h
  obtain ⟨C1, vs, g1, rfl, rfl, g4⟩ := x
  obtain ⟨p1, p2⟩ := pw
  cases q : cs.lookup e.c with
  | none => rw [q] at h; exact h.elim
  | some b =>
    rw [q] at h
    obtain ⟨h1, h2⟩ := hcs _ _ q _ g1
    exact ⟨_, p1, C1, p, _, .ref Cx, .ref Cx, b, rfl, rfl, O.sr _ _ p2, h1, rfl, fun u hu => hu, h2, h B H _ (Same.refl _) (O.pushP (.bl b))⟩
end
end DL
namespace DL
open PySem L2
section
variable {K : PySem.W.Frag} {mg : Mg} {W : Wc} {C : Cf} {Γ Γ' : List Sh} {s : Sh} {te ta tb : TE} {tt : TT} {fa fe : ER D} {ft : ER Bool}
/-! ### own things looked at: frozen for the time of a look -/
def pus (Γ : List Sh) : List Sh := Γ.map fun _ => .pu
theorem OwnL.toRep {B B' H : Hp} (sb : Same B B') : ∀ {l : LS} {v : V} {d : D} {f : List Addr}, OwnL K B H l v d f → (∀ p ∈ f, ∀ o, H p = some o → B' p = some o) → Rep K B' v d
  | .pu, _, _, _, ⟨r, _⟩, _ => r.mono sb
  | .ls, _, _, _, ⟨p, e1, e3, h⟩, k => by
    subst e1
    obtain ⟨o, h1, h2⟩ := h.there
    exact h2 _ sb (k p (by rw [e3]; exact List.mem_cons_self) _ h1)
theorem OwnLs.toReps {B B' H : Hp} (sb : Same B B') {ls : List LS} {vs : List V} {ds : List D} {fs : List Addr} (h : OwnLs K B H ls vs ds fs) : (∀ p ∈ fs, ∀ o, H p = some o → B' p = some o) → Reps K B' vs ds := by
  induction h with
  | nil => exact fun _ => .nil
  | cons h _ ih => exact fun k => .cons (h.toRep sb fun p hp => k p (List.mem_append_left _ hp)) (ih fun p hp => k p (List.mem_append_right _ hp))
theorem Own.toRep {B B' H : Hp} (sb : Same B B') : ∀ {s : Sh} {v : V} {d : D} {f : List Addr}, Own K B H s v d f → (∀ p ∈ f, ∀ o, H p = some o → B' p = some o) → Rep K B' v d
  | .lf _, _, _, _, h, k => OwnL.toRep sb h k
  | .rc _, _, _, _, ⟨p, vs, ds, fs, e1, e2, e3, h, r⟩, k => by
    subst e1 e2
    exact .lst (k p (by rw [e3]; exact List.mem_cons_self) _ h) (r.toReps sb fun q hq => k q (by rw [e3]; exact List.mem_cons_of_mem _ hq))
open Classical in
theorem Ok.freezeAll {B R H : Hp} {σ : L2.St} {ρ : Env} (O : Ok K Γ B R H σ ρ) : ∃ B' F, Same B B' ∧ Ok K (pus Γ) B' R H σ ρ ∧ Feet K Γ B R H σ ρ F ∧ ∀ i p, p ∈ F i → B' p = H p := by
  obtain ⟨F, W⟩ := O.own
  let B' : Hp := fun a => if B a = none then (if ∃ i, a ∈ F i then H a else none) else B a
  have sB : Same B B' := fun a o e => by show (if B a = none then _ else _) = _; rw [if_neg (by rw [e]; simp)]; exact e
  have hF : ∀ i p, p ∈ F i → B' p = H p := fun i p hp => by show (if B p = none then _ else _) = _; rw [if_pos (W.no i p hp).2.1, if_pos ⟨i, hp⟩]
  refine ⟨B', F, sB, ⟨fun a o e => ?_, O.sr, by simp [pus, O.lσ], by simp [pus, O.lρ], fun p o e => ?_, fun _ => [], ⟨fun i d s h hs => ?_, fun i p hp => absurd hp (by simp), fun _ => List.nodup_nil, fun i j p hp => absurd hp (by simp)⟩⟩, W, hF⟩
  · have e : (if B a = none then (if ∃ i, a ∈ F i then H a else none) else B a) = some o := e
    by_cases hb : B a = none
    · rw [if_pos hb] at e
      by_cases hi : ∃ i, a ∈ F i
      · rw [if_pos hi] at e; exact e
      · rw [if_neg hi] at e; cases e
    · rw [if_neg hb] at e; exact O.sb a o e
  · show (if B p = none then (if ∃ i, p ∈ F i then H p else none) else B p) = none
    rw [if_pos (O.br p o e)]
    by_cases hi : ∃ i, p ∈ F i
    · obtain ⟨i, hp⟩ := hi
      rw [(W.no i p hp).2.2] at e; cases e
    · rw [if_neg hi]
  · have hl : i < Γ.length := by have := (List.getElem?_eq_some_iff.mp hs).1; simpa [pus] using this
    obtain ⟨v, h1, h2⟩ := W.at_ i d Γ[i] h (by simp [hl])
    have : s = .pu := by unfold pus at hs; rw [List.getElem?_map] at hs; simp [hl] at hs; exact hs.symm
    subst this
    exact ⟨v, h1, h2.toRep sB fun p hp o ho => by rw [hF i p hp]; exact ho, rfl⟩
theorem Ok.thaw {B R R' H B' H' : Hp} {σ : L2.St} {ρ : Env} {F : Nat → List Addr} (O : Ok K Γ B R H σ ρ) (W : Feet K Γ B R H σ ρ F) (sB : Same B B') (hF : ∀ i p, p ∈ F i → B' p = H p) {B2 : Hp} (s1 : Same B' B2) (s2 : Same B2 H') (s3 : Same R' H') (s4 : ∀ p o, R' p = some o → B2 p = none) :
    Ok K Γ B R' H' σ ρ := by
  have keep : ∀ i p, p ∈ F i → ∀ o, H p = some o → B2 p = some o := fun i p hp o ho => s1 _ _ (by rw [hF i p hp]; exact ho)
  refine ⟨(sB.trans s1).trans s2, s3, O.lσ, O.lρ, fun p o e => (sB.trans s1).free (s4 p o e), F, ⟨fun i d s h hs => ?_, fun i p hp => ?_, W.nd, W.dj⟩⟩
  · obtain ⟨v, h1, h2⟩ := W.at_ i d s h hs
    exact ⟨v, h1, h2.at (Same.refl _) fun p hp o ho => s2 _ _ (keep i p hp o ho)⟩
  · obtain ⟨n1, n2, n3⟩ := W.no i p hp
    cases z : H p with
    | none => exact absurd z n1
    | some o =>
      have hb := keep i p hp o z
      refine ⟨by rw [s2 _ _ hb]; simp, n2, ?_⟩
      cases q : R' p with
      | none => rfl
      | some u => rw [s4 p u q] at hb; cases hb
theorem XLand.view {B B' R H : Hp} {σ : L2.St} {ρ ρ' : Env} {e : Ex} {F : Nat → List Addr} (O : Ok K Γ B R H σ ρ) (Wf : Feet K Γ B R H σ ρ F) (sB : Same B B') (hF : ∀ i p, p ∈ F i → B' p = H p) (hs : (e.fs.map (·.2)).all scalD = true)
    (h : XLand K mg W Γ B R σ e ρ) : XLand K mg W (pus Γ) B' R σ e ρ' := by
  intro B2 H2 cls p l s2 np O2 x
  obtain ⟨C0, vs, g1, g2, g3, g4⟩ := x
  exact h B H2 cls p l (Same.refl _) np (O.thaw Wf sB hF s2 O2.sb O2.sr O2.br) ⟨C0, vs, g1, g2, g3, g4.scal hs⟩
def eView (f : ER D) : ER D := fun ρ => match f ρ with
  | .ok d _ => if scalD d = true then .ok d ρ else .stuck
  | .exc e _ => if (e.fs.map (·.2)).all scalD = true then .exc e ρ else .stuck
  | .stuck => .stuck
theorem eok_view (h : EOk K mg W (pus Γ) te .pu fa) : EOk K mg W Γ te .pu (eView fa) := by
  intro B R H σ ρ Q pw O hl
  obtain ⟨B', F, sB, O', Wf, hF⟩ := O.freezeAll
  unfold eView at hl
  refine h B' R H σ ρ Q pw O' ?_
  cases e : fa ρ with
  | stuck => rw [e] at hl; exact hl
  | ok d ρ1 =>
    rw [e] at hl
    by_cases hd : scalD d = true
    · simp only [hd, if_true] at hl
      intro B2 H2 v s2 O2
      exact hl B H2 v (Same.refl _) ((O.thaw Wf sB hF s2 O2.sb O2.sr O2.br).pushP (O2.top.scal hd))
    · simp only [hd] at hl; exact hl.elim
  | exc x ρ1 =>
    rw [e] at hl
    by_cases hd : (x.fs.map (·.2)).all scalD = true
    · simp only [hd, if_true] at hl; exact XLand.view O Wf sB hF hd hl
    · simp only [hd] at hl; exact hl.elim
def tView (f : ER Bool) : ER Bool := fun ρ => match f ρ with
  | .ok d _ => .ok d ρ
  | .exc e _ => if (e.fs.map (·.2)).all scalD = true then .exc e ρ else .stuck
  | .stuck => .stuck
theorem tok_view (h : TOk K mg W (pus Γ) tt ft) : TOk K mg W Γ tt (tView ft) := by
  intro B R H σ ρ Q pw O hl
  obtain ⟨B', F, sB, O', Wf, hF⟩ := O.freezeAll
  unfold tView at hl
  refine h B' R H σ ρ Q pw O' ?_
  cases e : ft ρ with
  | stuck => rw [e] at hl; exact hl
  | ok d ρ1 =>
    rw [e] at hl
    intro B2 H2 s2 O2
    exact hl B H2 (Same.refl _) (O.thaw Wf sB hF s2 O2.sb O2.sr O2.br)
  | exc x ρ1 =>
    rw [e] at hl
    by_cases hd : (x.fs.map (·.2)).all scalD = true
    · simp only [hd, if_true] at hl; exact XLand.view O Wf sB hF hd hl
    · simp only [hd] at hl; exact hl.elim
/-! ### slots forgotten: the shape of what is empty is free -/
theorem sok_fgt {i : Nat} {s : Sh} {ts : TS} {f : Env → Out} (h : SOk K mg C (Γ.set i s) Γ' ts f) : SOk K mg C Γ Γ' ts (fun ρ => f (ρ.set i none)) := by
  intro B R H σ ρ D pw O hl
  have O1 : Ok K Γ B R H σ (ρ.set i none) := O.drop rfl (by simp) fun j d hj => by
    by_cases z : i = j
    · subst z
      by_cases hl : i < ρ.length
      · rw [List.getElem?_set_self hl] at hj; cases hj
      · rw [List.getElem?_eq_none (by simpa using hl)] at hj; cases hj
    · rw [List.getElem?_set_ne z] at hj; exact ⟨hj, rfl⟩
  refine h B R H σ (ρ.set i none) D pw (O1.reshape (by simp) fun j d hj => ?_) hl
  by_cases z : i = j
  · subst z
    by_cases hl : i < ρ.length
    · rw [List.getElem?_set_self hl] at hj; cases hj
    · rw [List.getElem?_eq_none (by simpa using hl)] at hj; cases hj
  · rw [List.getElem?_set_ne z]
theorem some_get {B R H : Hp} {σ : L2.St} {ρ : Env} {i : Nat} {d : D} {s : Sh} (O : Ok K Γ B R H σ ρ) (h : ρ[i]? = some (some d)) (hs : Γ[i]? = some s) : ∃ v, σ[i]? = some (some v) := by
  obtain ⟨F, W⟩ := O.own
  obtain ⟨v, h1, _⟩ := W.at_ i d s h hs
  exact ⟨v, h1⟩
/-! ### methods of own lists -/
def MOk (K : PySem.W.Frag) (r : V → List V → Hp → VK → Prop) (g : List D → List D → Option (D × List D)) : Prop :=
  ∀ (p : Addr) (vs : List V) (ds : List D) (xs : List V) (es : List D) (B H : Hp) (Q : VK) (d : D) (ds' : List D), H p = some (.lst vs) → Same B H → Reps K B vs ds → Reps K B xs es → g ds es = some (d, ds') →
    ∃ vs' w, Reps K B vs' ds' ∧ Rep K B w d ∧ (Q w (upd H p (.lst vs')) → r (.ref p) xs H Q)
def eMtO (i : Nat) (g : List D → List D → Option (D × List D)) (f : ER (List D)) : ER D := fun ρ => match ρ[i]? with
  | some (some (.lst _)) => (f ρ).bind fun es ρ' => match ρ'[i]? with
    | some (some (.lst ds)) => match g ds es with
      | some (d, ds') => .ok d (ρ'.set i (some (.lst ds')))
      | none => .stuck
    | _ => .stuck
  | _ => .stuck
theorem mtO_end {B R H : Hp} {σ : L2.St} {ρ : Env} {Q : VK} {i : Nat} {r : V → List V → Hp → VK → Prop} {g : List D → List D → Option (D × List D)} {v0 : V} {xs : List V} {es : List D} (hr : MOk K r g) (hs : Γ[i]? = some .ls) (O : Ok K Γ B R H σ ρ) (hv0 : σ[i]? = some (some v0)) (rx : Reps K B xs es)
    (hl : ELand K mg W Γ .pu B R σ Q (match ρ[i]? with
    | some (some (.lst ds)) => match g ds es with
      | some (d, ds') => .ok d (ρ.set i (some (.lst ds')))
      | none => .stuck
    | _ => .stuck)) : tyV K "list" v0 H ∧ r v0 xs H Q := by
  split at hl
  · rename_i ds he
    obtain ⟨p, vs, q2, q3, q4⟩ := O.getLs he hs
    rw [hv0] at q2; cases q2
    refine ⟨.inl ⟨rfl, vs, SqL.of q3⟩, ?_⟩
    cases e5 : g ds es with
    | none => rw [e5] at hl; exact hl.elim
    | some o =>
      obtain ⟨d, ds'⟩ := o
      rw [e5] at hl
      obtain ⟨vs', w, r1, r2, k⟩ := hr p vs ds xs es B H Q d ds' q3 O.sb q4 rx e5
      exact k (hl B _ w (Same.refl _) ((O.write he hs hv0 r1).pushP r2))
  · exact hl.elim
theorem eok_mt0 {i : Nat} {r : V → List V → Hp → VK → Prop} {g : List D → List D → Option (D × List D)} (hr : MOk K r g) (hs : Γ[i]? = some .ls) : EOk K mg W Γ (tBM0 K "list" r (tVar i)) .pu (eMtO i g aNil) := by
  intro B R H σ ρ Q pw O hl
  unfold eMtO at hl
  split at hl
  · rename_i ds0 e0
    obtain ⟨v0, hv0⟩ := some_get O e0 hs
    refine ⟨v0, hv0, mtO_end (mg := mg) (W := W) hr hs O hv0 .nil ?_⟩
    simp only [aNil, Res.bind] at hl
    rw [e0] at hl ⊢
    exact hl
  · exact hl.elim
theorem eok_mt {i : Nat} {r : V → List V → Hp → VK → Prop} {g : List D → List D → Option (D × List D)} {ta : TA} {f : ER (List D)} (hr : MOk K r g) (hs : Γ[i]? = some .ls) (ha : AOk K mg W Γ ta f) :
    EOk K mg W Γ (tBM K "list" r (tVar i) ta) .pu (eMtO i g f) := by
  intro B R H σ ρ Q pw O hl
  unfold eMtO at hl
  split at hl
  · rename_i ds0 e0
    obtain ⟨v0, hv0⟩ := some_get O e0 hs
    have ty : tyV K "list" v0 H := by
      obtain ⟨p, vs, q2, q3, q4⟩ := O.getLs e0 hs
      rw [hv0] at q2; cases q2
      exact .inl ⟨rfl, vs, SqL.of q3⟩
    refine ⟨v0, hv0, ty, ha B R H σ ρ _ pw O ?_⟩
    cases e : f ρ with
    | stuck => rw [e] at hl; exact hl
    | exc x ρ1 => rw [e] at hl; exact hl
    | ok es ρ1 =>
      rw [e] at hl
      simp only [Res.bind] at hl
      intro B2 H2 xs s2 O2 rx
      exact (mtO_end (mg := mg) (W := W) hr hs O2 hv0 rx (ELand.mono hl s2)).2
  · exact hl.elim
/-! append, pop, extend, reverse, clear, insert -/
def gAppend : List D → List D → Option (D × List D) := fun ds es => match es with
  | [e] => if ds.length < sizeLine then some (.non, ds ++ [e]) else none
  | _ => none
theorem mok_append : MOk K rAppend gAppend := by
  intro p vs ds xs es B H Q d ds' hp sb r rx h
  unfold gAppend at h
  split at h
  · rename_i e
    split at h
    · rename_i hz
      cases h
      cases rx with
      | cons r1 r2 =>
        cases r2
        exact ⟨_, .non, r.snoc r1, .non, fun q => ⟨p, vs, _, rfl, rfl, hp, by rw [r.length]; exact hz, q⟩⟩
    · cases h
  · cases h
def gPop : List D → List D → Option (D × List D) := fun ds es => match es with
  | [] => (ds[ds.length - 1]?).map fun d => (d, ds.dropLast)
  | _ => none
theorem mok_pop : MOk K rPop gPop := by
  intro p vs ds xs es B H Q d ds' hp sb r rx h
  unfold gPop at h
  split at h
  · cases rx
    cases e : ds[ds.length - 1]? with
    | none => rw [e] at h; cases h
    | some y =>
      rw [e] at h; cases h
      obtain ⟨w, h1, h2⟩ := r.get e
      exact ⟨_, w, r.dropLast, h2, fun q => ⟨p, vs, w, rfl, rfl, hp, by rw [r.length]; exact h1, q⟩⟩
  · cases h
def gPopAt : List D → List D → Option (D × List D) := fun ds es => match es with
  | [.int i] => match ixN ds.length i with
    | some k => if ds.length ≤ sizeLine then (ds[k]?).map fun d => (d, ds.eraseIdx k) else none
    | none => none
  | _ => none
theorem mok_popAt : MOk K rPopAt gPopAt := by
  intro p vs ds xs es B H Q d ds' hp sb r rx h
  unfold gPopAt at h
  split at h
  · rename_i i
    cases rx with
    | cons r1 r2 =>
      cases r2; cases r1
      cases e1 : ixN ds.length i with
      | none => rw [e1] at h; cases h
      | some k =>
        rw [e1] at h
        dsimp only at h
        split at h
        · rename_i hz
          cases e : ds[k]? with
          | none => rw [e] at h; cases h
          | some y =>
            rw [e] at h; cases h
            obtain ⟨w, h1, h2⟩ := r.get e
            obtain ⟨z1, z2, z3, z4⟩ := ixN_seq e1
            have hn := line63
            exact ⟨_, w, r.eraseIdx k, h2, fun q => ⟨p, vs, i, k, w, rfl, rfl, hp, by omega, by omega, by rw [r.length]; exact z1, h1, q⟩⟩
        · cases h
  · cases h
def gExtend : List D → List D → Option (D × List D) := fun ds es => match es with
  | [.lst zs] => if ds.length + zs.length ≤ sizeLine then some (.non, ds ++ zs) else none
  | _ => none
theorem mok_extend : MOk K rExtend gExtend := by
  intro p vs ds xs es B H Q d ds' hp sb r rx h
  unfold gExtend at h
  split at h
  · rename_i zs
    split at h
    · rename_i hz
      cases h
      cases rx with
      | cons r1 r2 =>
        cases r2
        cases r1 with
        | lst hb rz =>
          rename_i b ws
          exact ⟨_, .non, r.append rz, .non, fun q => ⟨p, b, vs, ws, rfl, rfl, hp, sb _ _ hb, by rw [r.length, rz.length]; exact hz, q⟩⟩
    · cases h
  · cases h
/-! ### keys, dicts -/
def keyD : D → Option Key
  | .int i => some (.inl i)
  | .str s => some (.inr s)
  | _ => none
theorem keyD_ok {B : Hp} {v : V} {d : D} {k : Key} (r : Rep K B v d) (h : keyD d = some k) : v = kV k := by
  unfold keyD at h
  split at h
  · cases h; cases r; rfl
  · cases h; cases r; rfl
  · cases h
def getK (kds : List (Key × D)) (k : Key) : Option D := (kds.find? fun kd => decide (kd.1 = k)).map (·.2)
def putD (kds : List (Key × D)) (k : Key) (d : D) : List (Key × D) :=
  if (kds.any fun kd => decide (kd.1 = k)) = true then kds.map (fun kd => if kd.1 = k then (kd.1, d) else kd) else kds ++ [(k, d)]
theorem RepsK.get {B : Hp} {k : Key} {d : D} : ∀ {kvs : List (Key × V)} {kds : List (Key × D)}, RepsK K B kvs kds → getK kds k = some d → ∃ v, valV kvs k = some v ∧ Rep K B v d
  | _, _, .nil, h => by cases h
  | _, _, .cons (k := k0) (v := v0) (d := d0) hr r, h => by
    unfold getK at h
    unfold valV
    rw [List.find?_cons] at h ⊢
    by_cases e : k0 = k
    · simp only [e, decide_true] at h ⊢
      cases h
      exact ⟨v0, rfl, hr⟩
    · simp only [e, decide_false] at h ⊢
      exact RepsK.get r h
theorem RepsK.none {B : Hp} {k : Key} : ∀ {kvs : List (Key × V)} {kds : List (Key × D)}, RepsK K B kvs kds → getK kds k = none → valV kvs k = none
  | _, _, .nil, h => rfl
  | _, _, .cons (k := k0) (v := v0) (d := d0) hr r, h => by
    unfold getK at h
    unfold valV
    rw [List.find?_cons] at h ⊢
    by_cases e : k0 = k
    · simp only [e, decide_true] at h ⊢
      cases h
    · simp only [e, decide_false] at h ⊢
      exact RepsK.none r h
theorem RepsK.any {B : Hp} {k : Key} : ∀ {kvs : List (Key × V)} {kds : List (Key × D)}, RepsK K B kvs kds → (kvs.any fun kv => decide (kv.1 = k)) = kds.any fun kd => decide (kd.1 = k)
  | _, _, .nil => rfl
  | _, _, .cons hr r => by rw [List.any_cons, List.any_cons, RepsK.any r]
theorem RepsK.length {B : Hp} : ∀ {kvs : List (Key × V)} {kds : List (Key × D)}, RepsK K B kvs kds → kvs.length = kds.length
  | _, _, .nil => rfl
  | _, _, .cons _ r => by rw [List.length_cons, List.length_cons, RepsK.length r]
theorem RepsK.mapk {B : Hp} {k : Key} {v : V} {d : D} (h : Rep K B v d) : ∀ {kvs : List (Key × V)} {kds : List (Key × D)}, RepsK K B kvs kds → RepsK K B (kvs.map fun kv => if kv.1 = k then (kv.1, v) else kv) (kds.map fun kd => if kd.1 = k then (kd.1, d) else kd)
  | _, _, .nil => .nil
  | _, _, .cons (k := k0) hr r => by
    rw [List.map_cons, List.map_cons]
    by_cases e : k0 = k
    · simp only [e, if_true]; exact .cons h (RepsK.mapk h r)
    · simp only [e, if_false]; exact .cons hr (RepsK.mapk h r)
theorem RepsK.append {B : Hp} {ws : List (Key × V)} {es : List (Key × D)} : ∀ {kvs : List (Key × V)} {kds : List (Key × D)}, RepsK K B kvs kds → RepsK K B ws es → RepsK K B (kvs ++ ws) (kds ++ es)
  | _, _, .nil, h => h
  | _, _, .cons h r, q => .cons h (RepsK.append r q)
theorem RepsK.put {B : Hp} {k : Key} {v : V} {d : D} {kvs : List (Key × V)} {kds : List (Key × D)} (r : RepsK K B kvs kds) (h : Rep K B v d) : RepsK K B (putK kvs k v) (putD kds k d) := by
  unfold putK putD
  rw [r.any]
  split
  · exact r.mapk h
  · exact r.append (.cons h .nil)
/-! ### the item of an own list, of an own dict -/
def rIxDk : R2 := fun x y H Q => ∃ a v, x = .ref a ∧ DGet H a y (some v) ∧ Q v H
theorem ix_dk {X : Cx} (hu : X.A.units + 1 < cLine) : IxR X rIxDk := by
  intro value slice pins s σ H x y v u Q I rx ry h hs
  obtain ⟨a, w, rfl, g, q⟩ := h
  obtain rfl : v = Value.ref a := rx
  exact PyProof.Rows.tail_any (dict_typeIs I g) PySem.F.slot_dict_getitem.lookup (d_getItem hu I g ry fun w' s3 I3 rw' => ⟨w, H, I3, rw', q⟩) hs
def rIxA (K : PySem.W.Frag) : R2 := fun x y H Q => rIx K x y H Q ∨ rIxDk x y H Q
theorem ix_any {X : Cx} (hu : X.A.units + 1 < cLine) : IxR X (rIxA X.K) := ix_seq.or (ix_dk hu)
theorem ixN_lt {n : Nat} {i : Int} {j : Nat} (h : ixN n i = some j) : j < n := (ixN_seq h).2.1
theorem Reps.atI {B : Hp} {vs : List V} {ds : List D} {k : Int} {d : D} (r : Reps K B vs ds) (h : L2.atI ds k = some d) : ∃ v, L2.atI vs k = some v ∧ Rep K B v d := by
  unfold L2.atI at h ⊢
  rw [r.length]
  cases e : ixN ds.length k with
  | none => rw [e] at h; cases h
  | some j => rw [e] at h; exact r.get h
/-- the item of what an own place holds -/
def itemO (x y : D) : Option D := match x with
  | .lst ds => (match y with
    | .int k => L2.atI ds k
    | _ => none)
  | .dct kds => (keyD y).bind fun k => getK kds k
  | _ => none
theorem itemO_ok {B H : Hp} {p : Addr} {d y o : D} {u : V} {Q : VK} (h : OwnO K B H p d) (ry : Rep K B u y) (e : itemO d y = some o) : ∃ w, Rep K B w o ∧ (Q w H → rIxA K (.ref p) u H Q) := by
  cases h with
  | lst h r =>
    cases y with
    | int k =>
      cases ry
      obtain ⟨w, h1, h2⟩ := r.atI e
      exact ⟨w, h2, fun q => .inl (.inl ⟨p, _, k, w, rfl, rfl, SqL.of h, h1, q⟩)⟩
    | _ => cases e
  | dct h r =>
    simp only [itemO] at e
    cases ek : keyD y with
    | none => rw [ek] at e; cases e
    | some k =>
      rw [ek] at e
      obtain ⟨w, h1, h2⟩ := r.get e
      cases keyD_ok ry ek
      exact ⟨w, h2, fun q => .inr ⟨p, w, rfl, by rw [← h1]; exact DGet.k h, q⟩⟩
def eIxO (i : Nat) (fe : ER D) : ER D := fun ρ => match ρ[i]? with
  | some (some _) => (fe ρ).bind fun y ρ' => match ρ'[i]? with
    | some (some d) => ofOpt (itemO d y) ρ'
    | _ => .stuck
  | _ => .stuck
theorem eok_ixO {i : Nat} (hs : Γ[i]? = some .ls) (h : EOk K mg W Γ te .pu fe) : EOk K mg W Γ (tOp (rIxA K) (tVar i) te) .pu (eIxO i fe) := by
  intro B R H σ ρ Q pw O hl
  unfold eIxO at hl
  split at hl
  · rename_i d0 e0
    obtain ⟨v0, hv0⟩ := some_get O e0 hs
    refine ⟨v0, hv0, h B R H σ ρ _ pw O ?_⟩
    cases e : fe ρ with
    | stuck => rw [e] at hl; exact hl
    | exc x ρ1 => rw [e] at hl; exact hl
    | ok y ρ1 =>
      rw [e] at hl
      intro B2 H2 u s2 O2
      have ru := O2.top
      have P2 := O2.pop
      clear O2
      simp only [Res.bind] at hl
      split at hl
      · rename_i d he
        obtain ⟨p, q2, q3⟩ := P2.getO he hs
        rw [hv0] at q2; cases q2
        cases e5 : itemO d y with
        | none => rw [e5] at hl; exact hl.elim
        | some o =>
          rw [e5] at hl
          obtain ⟨w, h2, k⟩ := itemO_ok (Q := Q) q3 ru e5
          exact k (hl B2 H2 w s2 (P2.pushP h2))
      · exact hl.elim
  · exact hl.elim
/-! ### x[e] = v, x an own list, an own dict -/
def rSetA : TSet := fun o i v H Q => rSetL o i v H Q ∨ rSetD o i v H Q
theorem setAny {X : Cx} (hu : X.A.units + 1 < cLine) : PSet X rSetA := by
  intro pins s σ H o i v ov iv u Q I ro ri rv h
  rcases h with h | h
  · exact set_list pins s σ H o i v ov iv u Q I ro ri rv h
  · exact set_dict hu pins s σ H o i v ov iv u Q I ro ri rv h
def storeO (x y d : D) : Option D := match x with
  | .lst ds => (match y with
    | .int k => (ixN ds.length k).map fun j => .lst (ds.set j d)
    | _ => none)
  | .dct kds => if kds.length < sizeLine then (keyD y).map fun k => .dct (putD kds k d) else none
  | _ => none
def sSetI (i : Nat) (fv fi : ER D) : Env → Out := fun ρ => (fv ρ).out fun d ρ => match ρ[i]? with
  | some (some _) => (fi ρ).out fun k ρ => match ρ[i]? with
    | some (some x) => match storeO x k d with
      | some x' => .nx (ρ.set i (some x'))
      | none => .stuck
    | _ => .stuck
  | _ => .stuck
theorem sok_seti {i : Nat} {tv ti : TE} {fv fi : ER D} (ag : C.ag Γ) (hs : Γ[i]? = some .ls) (hv : EOk K mg C.W Γ tv .pu fv) (hi : EOk K mg C.W Γ ti .pu fi) : SOk K mg C Γ Γ (tAsg tv (gSub (tVar i) ti rSetA)) (sSetI i fv fi) := by
  intro B R H σ ρ Dn pw O hl
  unfold sSetI at hl
  refine hv B R H σ ρ _ pw O ?_
  cases e1 : fv ρ with
  | stuck => rw [e1] at hl; exact hl
  | exc x ρ1 => rw [e1] at hl; exact SLand.exc hl ag
  | ok d ρ1 =>
    rw [e1] at hl
    simp only [Res.out] at hl
    intro B1 H1 v s1 O1
    have rv := O1.top
    have O1 := O1.pop
    split at hl
    · rename_i d0 e0
      obtain ⟨v0, hv0⟩ := some_get O1 e0 hs
      refine ⟨v0, hv0, hi B1 R H1 σ ρ1 _ pw O1 ?_⟩
      cases e2 : fi ρ1 with
      | stuck => rw [e2] at hl; exact hl
      | exc x ρ2 => rw [e2] at hl; exact XLand.mono (SLand.exc hl ag) s1
      | ok kd ρ2 =>
        rw [e2] at hl
        simp only at hl
        intro B2 H2 u s2 O2
        have ru := O2.top
        have P2 := O2.pop
        clear O2
        split at hl
        · rename_i x he
          obtain ⟨p, q2, q3⟩ := P2.getO he hs
          rw [hv0] at q2; cases q2
          cases e5 : storeO x kd d with
          | none => rw [e5] at hl; exact hl.elim
          | some x' =>
            rw [e5] at hl
            have fin : ∀ {o : HO}, OwnO K B2 (upd H2 p o) p x' → Dn.nx σ (upd H2 p o) := fun {o} ho => hl B2 _ σ (s1.trans s2) (P2.writeO he hs hv0 ho) Pin.refl
            cases q3 with
            | lst h r =>
              cases kd with
              | int k =>
                rename_i ds
                cases ru
                simp only [storeO] at e5
                cases e6 : ixN ds.length k with
                | none => rw [e6] at e5; cases e5
                | some j =>
                  rw [e6] at e5; cases e5
                  exact .inl ⟨p, _, k, j, rfl, rfl, h, by rw [r.length]; exact e6, fin (.lst upd_same (r.set (rv.mono s2) j))⟩
              | _ => cases e5
            | dct h r =>
              simp only [storeO] at e5
              split at e5
              · rename_i hz
                cases ek : keyD kd with
                | none => rw [ek] at e5; cases e5
                | some k =>
                  rw [ek] at e5; cases e5
                  cases keyD_ok ru ek
                  exact .inr ⟨p, _, rfl, .inl ⟨_, k, h, rfl, by rw [r.length]; exact hz, rfl⟩, fin (.dct upd_same (r.put (rv.mono s2)))⟩
              · cases e5
        · exact hl.elim
    · exact hl.elim
end
end DL
namespace DL
open PySem L2
section
variable {K : PySem.W.Frag} {X : Cx}
/-! ## operators by their values -/
/-- an operator whose answer is a scalar -/
theorem r2_scal {r : R2} {g : D → D → Option D} (h : ∀ (B H : Hp) (v u : V) (d e o : D) (Q : VK), Same B H → Rep K B v d → Rep K B u e → g d e = some o → ∃ w, (∀ B, Rep K B w o) ∧ (Q w H → r v u H Q)) : R2Ok K r .pu g := by
  intro Γ B R H σ ρ v u d e o Q O rv ru hg k
  obtain ⟨w, hw, q⟩ := h B H v u d e o Q O.sb rv ru hg
  exact q (k B H w (Same.refl _) (O.pushP (hw B)))
theorem u1_scal {r : V → Hp → VK → Prop} {g : D → Option D} (h : ∀ (B H : Hp) (v : V) (d o : D) (Q : VK), Same B H → Rep K B v d → g d = some o → ∃ w, (∀ B, Rep K B w o) ∧ (Q w H → r v H Q)) : U1Ok K r .pu g := by
  intro Γ B R H σ ρ v d o Q O rv hg k
  obtain ⟨w, hw, q⟩ := h B H v d o Q O.sb rv hg
  exact q (k B H w (Same.refl _) (O.pushP (hw B)))
theorem c1_scal {r : List V → Hp → VK → Prop} {g : List D → Option D} (h : ∀ (B H : Hp) (vs : List V) (ds : List D) (o : D) (Q : VK), Same B H → Reps K B vs ds → g ds = some o → ∃ w, (∀ B, Rep K B w o) ∧ (Q w H → r vs H Q)) : C1Ok K r .pu g := by
  intro Γ B R H σ ρ vs ds o Q O rv hg k
  obtain ⟨w, hw, q⟩ := h B H vs ds o Q O.sb rv hg
  exact q (k B H w (Same.refl _) (O.pushP (hw B)))
theorem repI {B : Hp} {v : V} {i : Int} (r : Rep K B v (.int i)) : v = .int i := by cases r; rfl
theorem repS {B : Hp} {v : V} {i : Str} (r : Rep K B v (.str i)) : v = .str i := by cases r; rfl
theorem repB {B : Hp} {v : V} {i : Bool} (r : Rep K B v (.bl i)) : v = .bl i := by cases r; rfl
theorem repN {B : Hp} {v : V} (r : Rep K B v .non) : v = .non := by cases r; rfl
theorem repT {B : Hp} {v : V} {ds : List D} (r : Rep K B v (.tup ds)) : ∃ a vs, v = .ref a ∧ SqT K B a vs ∧ Reps K B vs ds := by cases r with | tup h r => exact ⟨_, _, rfl, h, r⟩
theorem repL {B : Hp} {v : V} {ds : List D} (r : Rep K B v (.lst ds)) : ∃ a vs, v = .ref a ∧ B a = some (.lst vs) ∧ Reps K B vs ds := by cases r with | lst h r => exact ⟨_, _, rfl, h, r⟩
theorem repD {B : Hp} {v : V} {kds : List (Key × D)} (r : Rep K B v (.dct kds)) : ∃ a kvs, v = .ref a ∧ B a = some (.dK kvs) ∧ RepsK K B kvs kds := by cases r with | dct h r => exact ⟨_, _, rfl, h, r⟩
theorem repX {B : Hp} {v : V} {ns : List Int} (r : Rep K B v (.scr ns)) : ∃ a, v = .ref a ∧ SqL K B a (ns.map V.int) := by cases r with | scr h => exact ⟨_, rfl, h⟩
theorem reps_int {B : Hp} : ∀ (ns : List Int), Reps K B (ns.map V.int) (ns.map D.int)
  | [] => .nil
  | n :: ns => .cons (.int n) (reps_int ns)

/-! + -/
def gAdd : D → D → Option D
  | .int i, .int j => some (.int (i + j))
  | .str i, .str j => if i.length + j.length ≤ sizeLine then some (.str (i ++ j)) else none
  | .tup xs, .tup ys => if xs.length + ys.length ≤ sizeLine then some (.tup (xs ++ ys)) else none
  | .lst xs, .lst ys => if xs.length + ys.length ≤ sizeLine then some (.lst (xs ++ ys)) else none
  | _, _ => none
def rAddS : R2 := fun x y H Q => ∃ i j, x = .str i ∧ y = .str j ∧ i.length + j.length ≤ sizeLine ∧ Q (.str (i ++ j)) H
def rAdd (K : PySem.W.Frag) : R2 := fun x y H Q => ((rI0 (fun i j => .int (i + j)) x y H Q ∨ rAddS x y H Q) ∨ rCatA K x y H Q) ∨ rCat x y H Q
theorem opAdd : OpR X (binaryOp .Add) (rAdd X.K) := ((op_add.or op_add_str).or op_catA).or op_cat
theorem r2_add : R2Ok K (rAdd K) .pu gAdd := by
  intro Γ B R H σ ρ v u d e o Q O rv ru hg k
  unfold gAdd at hg
  split at hg
  · cases hg; cases repI rv; cases repI ru
    exact .inl (.inl (.inl ⟨_, _, rfl, rfl, k B H _ (Same.refl _) (O.pushP (.int _))⟩))
  · split at hg
    · rename_i hz
      cases hg; cases repS rv; cases repS ru
      exact .inl (.inl (.inr ⟨_, _, rfl, rfl, hz, k B H _ (Same.refl _) (O.pushP (.str _))⟩))
    · cases hg
  · split at hg
    · rename_i hz
      cases hg
      obtain ⟨a, vs, rfl, ha, ra⟩ := repT rv
      obtain ⟨b, ws, rfl, hb, rb⟩ := repT ru
      refine .inl (.inr ⟨a, b, vs, ws, rfl, rfl, sameT O.sb ha, sameT O.sb hb, by rw [ra.length, rb.length]; exact hz, fun e => ?_, fun e1 e2 => ?_, fun e1 e2 p hp => ?_⟩)
      · subst e; cases ra
        exact k B H _ (Same.refl _) (O.pushP ru)
      · subst e2; cases rb
        exact k B H _ (Same.refl _) (O.pushP (by rw [List.append_nil]; exact rv))
      · obtain ⟨B', s', O'⟩ := O.layTup hp (ra.append rb)
        exact k B' _ _ s' O'
    · cases hg
  · split at hg
    · rename_i hz
      cases hg
      obtain ⟨a, vs, rfl, ha, ra⟩ := repL rv
      obtain ⟨b, ws, rfl, hb, rb⟩ := repL ru
      refine .inr ⟨a, b, vs, ws, rfl, rfl, O.sb _ _ ha, O.sb _ _ hb, by rw [ra.length, rb.length]; exact hz, fun p hp => ?_⟩
      obtain ⟨B', s', O'⟩ := O.layLst hp (ra.append rb)
      exact k B' _ _ s' O'
    · cases hg
  · cases hg
/-- list + list, the new list is own -/
def gCat : D → D → Option D
  | .lst xs, .lst ys => if xs.length + ys.length ≤ sizeLine then some (.lst (xs ++ ys)) else none
  | _, _ => none
theorem r2_cat : R2Ok K rCat .ls gCat := by
  intro Γ B R H σ ρ v u d e o Q O rv ru hg k
  unfold gCat at hg
  split at hg
  · split at hg
    · rename_i hz
      cases hg
      obtain ⟨a, vs, rfl, ha, ra⟩ := repL rv
      obtain ⟨b, ws, rfl, hb, rb⟩ := repL ru
      exact ⟨a, b, vs, ws, rfl, rfl, O.sb _ _ ha, O.sb _ _ hb, by rw [ra.length, rb.length]; exact hz, fun p hp => k B _ _ (Same.refl _) (O.pushN hp (ra.append rb))⟩
    · cases hg
  · cases hg
/-! in place: + of ints, texts (a tuple's += is +) -/
def gIAdd : D → D → Option D
  | .int i, .int j => some (.int (i + j))
  | .str i, .str j => if i.length + j.length ≤ sizeLine then some (.str (i ++ j)) else none
  | _, _ => none
def rIAdd : R2 := fun x y H Q => rI0 (fun i j => .int (i + j)) x y H Q ∨ rAddS x y H Q
theorem iopAdd : OpR X (inplaceOp .Add) rIAdd := iop_add.or iop_add_str
theorem r2_iadd : R2Ok K rIAdd .pu gIAdd := r2_scal fun B H v u d e o Q sb rv ru hg => by
  unfold gIAdd at hg
  split at hg
  · cases hg; cases repI rv; cases repI ru
    exact ⟨_, fun _ => .int _, fun q => .inl ⟨_, _, rfl, rfl, q⟩⟩
  · split at hg
    · rename_i hz
      cases hg; cases repS rv; cases repS ru
      exact ⟨_, fun _ => .str _, fun q => .inr ⟨_, _, rfl, rfl, hz, q⟩⟩
    · cases hg
  · cases hg
/-! - // % << ** on ints -/
def gI0 (f : Int → Int → Int) : D → D → Option D
  | .int i, .int j => some (.int (f i j))
  | _, _ => none
theorem r2_i0 {f : Int → Int → Int} : R2Ok K (rI0 fun i j => .int (f i j)) .pu (gI0 f) := r2_scal fun B H v u d e o Q sb rv ru hg => by
  unfold gI0 at hg
  split at hg
  · cases hg; cases repI rv; cases repI ru
    exact ⟨_, fun _ => .int _, fun q => ⟨_, _, rfl, rfl, q⟩⟩
  · cases hg
def gIC (c : Int → Int → Prop) [∀ i j, Decidable (c i j)] (f : Int → Int → Int) : D → D → Option D
  | .int i, .int j => if c i j then some (.int (f i j)) else none
  | _, _ => none
theorem r2_ic {c : Int → Int → Prop} [∀ i j, Decidable (c i j)] {f : Int → Int → Int} : R2Ok K (rI c fun i j => .int (f i j)) .pu (gIC c f) := r2_scal fun B H v u d e o Q sb rv ru hg => by
  unfold gIC at hg
  split at hg
  · split at hg
    · rename_i hc
      cases hg; cases repI rv; cases repI ru
      exact ⟨_, fun _ => .int _, fun q => ⟨_, _, rfl, rfl, hc, q⟩⟩
    · cases hg
  · cases hg
instance (i j : Int) : Decidable (CMul i j) := by unfold CMul; infer_instance
instance (i j : Int) : Decidable (CDiv i j) := by unfold CDiv; infer_instance
instance (i j : Int) : Decidable (CPow i j) := by unfold CPow; infer_instance
abbrev CMod (_ j : Int) : Prop := 0 < j
/-! a bool result -/
def gB0 (f : Int → Int → Bool) : D → D → Option D
  | .int i, .int j => some (.bl (f i j))
  | _, _ => none
theorem r2_b0 {f : Int → Int → Bool} : R2Ok K (rI0 fun i j => .bl (f i j)) .pu (gB0 f) := r2_scal fun B H v u d e o Q sb rv ru hg => by
  unfold gB0 at hg
  split at hg
  · cases hg; cases repI rv; cases repI ru
    exact ⟨_, fun _ => .bl _, fun q => ⟨_, _, rfl, rfl, q⟩⟩
  · cases hg
/-! * : ints, text * int, list * int, tuple * int -/
/-- text * int -/
def CRepS (x : Str) (n : Int) : Prop := -(2 ^ 62) ≤ n ∧ n < 2 ^ 62 ∧ x.length * n.toNat ≤ sizeLine
instance (x : Str) (n : Int) : Decidable (CRepS x n) := by unfold CRepS; infer_instance
def repS' (x : Str) (n : Int) : Str := ⟨(List.replicate n.toNat x.cps).foldl (· ++ ·) #[]⟩
theorem foldl_len (c : Array Nat) : ∀ (n : Nat) (acc : Array Nat), (List.foldl (fun x1 x2 => x1 ++ x2) acc (List.replicate n c)).size = acc.size + n * c.size
  | 0, acc => by simp
  | n + 1, acc => by
    rw [List.replicate_succ, List.foldl_cons, foldl_len c n (acc ++ c), Array.size_append, Nat.succ_mul]
    omega
def rRepS : R2 := fun x y H Q => ∃ z n, x = .str z ∧ y = .int n ∧ CRepS z n ∧ Q (.str (repS' z n)) H
theorem foldl_empty (n : Nat) : (List.replicate n (#[] : Array Nat)).foldl (· ++ ·) #[] = #[] := by
  induction n with
  | zero => rfl
  | succ n ih => rw [List.replicate_succ, List.foldl_cons]; exact ih
theorem op_repS : OpR X (binaryOp .Mult) rRepS := by
  intro pins s σ H x y v u Q I rx ry h
  obtain ⟨z, n, rfl, rfl, ⟨h1, h2, h3⟩, q⟩ := h
  obtain ⟨t, rfl⟩ := rx
  obtain ⟨t', rfl⟩ := ry
  have hs := sizeLine_eq
  refine PySem.P.mul_str (by rw [decide_eq_false (by omega), decide_eq_false (by omega)]; rfl) (fun g1 g2 => ?_) (fun g1 g2 => ?_) ?_
  · have hn : 0 < n := by omega
    have e1 : ((z.length : Nat) : Int) * n ≤ 16777216 := by
      have : ((z.length * n.toNat : Nat) : Int) ≤ 16777216 := by omega
      rw [Int.natCast_mul, Int.toNat_of_nonneg (by omega)] at this
      exact this
    have : (z.length : Int) ≤ (2 ^ 63 - 1) / n := by
      rw [Int.le_ediv_iff_mul_le hn]
      omega
    omega
  · unfold Builtin.Str.tooLong
    exact decide_eq_false (by omega)
  · by_cases g1 : n < 1
    · rw [if_pos g1]
      have e : repS' z n = Str.empty := by unfold repS'; rw [show n.toNat = 0 by omega]; rfl
      rw [e] at q
      exact ⟨by decide, ⟨.str Str.empty, H, I.tok _, ⟨_, rfl⟩, q⟩⟩
    · rw [if_neg g1]
      by_cases g2 : (n == 1 || z.length == 0) = true
      · rw [if_pos g2]
        have e : repS' z n = z := by
          unfold repS'
          rw [Bool.or_eq_true] at g2
          rcases g2 with g2 | g2
          · have : n = 1 := eq_of_beq g2
            subst this
            simp
          · have hz : z.length = 0 := eq_of_beq g2
            have : z.cps = #[] := by unfold Str.length at hz; exact Array.eq_empty_of_size_eq_zero hz
            rw [this, foldl_empty, ← this]
        rw [e] at q
        exact ⟨.str z, H, I, ⟨t, rfl⟩, q⟩
      · rw [if_neg g2]
        refine ⟨?_, ⟨.str (repS' z n), H, I.tok _, ⟨_, rfl⟩, q⟩⟩
        show (List.foldl (fun x1 x2 => x1 ++ x2) #[] (List.replicate n.toNat z.cps)).size ≤ sizeLine
        have e := foldl_len z.cps n.toNat #[]
        rw [e]
        show 0 + n.toNat * z.cps.size ≤ sizeLine
        rw [Nat.zero_add, Nat.mul_comm]
        exact h3

def gMul : D → D → Option D
  | .int i, .int j => if CMul i j then some (.int (i * j)) else none
  | .str x, .int n => if CRepS x n then some (.str (repS' x n)) else none
  | .lst xs, .int k => if -(2 ^ 63) ≤ k ∧ k < 2 ^ 63 ∧ xs.length * k.toNat ≤ sizeLine then some (.lst (List.replicate k.toNat xs).flatten) else none
  | .tup xs, .int k => if xs ≠ [] ∧ 2 ≤ k ∧ k ≤ 1000 ∧ xs.length ≤ 1000 then some (.tup (List.replicate k.toNat xs).flatten) else none
  | _, _ => none
def rMul (K : PySem.W.Frag) : R2 := fun x y H Q => ((rI CMul (fun i j => .int (i * j)) x y H Q ∨ rRepS x y H Q) ∨ rRep x y H Q) ∨ rRepT K x y H Q
theorem opMul : OpR X (binaryOp .Mult) (rMul X.K) := ((op_mul.or op_repS).or op_rep).or op_repT
theorem r2_mul : R2Ok K (rMul K) .pu gMul := by
  intro Γ B R H σ ρ v u d e o Q O rv ru hg k
  unfold gMul at hg
  split at hg
  · split at hg
    · rename_i hc
      cases hg; cases repI rv; cases repI ru
      exact .inl (.inl (.inl ⟨_, _, rfl, rfl, hc, k B H _ (Same.refl _) (O.pushP (.int _))⟩))
    · cases hg
  · split at hg
    · rename_i hz
      cases hg; cases repS rv; cases repI ru
      exact .inl (.inl (.inr ⟨_, _, rfl, rfl, hz, k B H _ (Same.refl _) (O.pushP (.str _))⟩))
    · cases hg
  · split at hg
    · rename_i hz
      cases hg; cases repI ru
      obtain ⟨a, vs, rfl, ha, ra⟩ := repL rv
      refine .inl (.inr ⟨a, _, vs, rfl, rfl, O.sb _ _ ha, hz.1, hz.2.1, by rw [ra.length]; exact hz.2.2, fun p hp => ?_⟩)
      obtain ⟨B', s', O'⟩ := O.layLst hp (ra.rep _)
      exact k B' _ _ s' O'
    · cases hg
  · split at hg
    · rename_i hz
      cases hg; cases repI ru
      obtain ⟨a, vs, rfl, ha, ra⟩ := repT rv
      refine .inr ⟨a, _, vs, rfl, rfl, sameT O.sb ha, fun e => ?_, hz.2.1, hz.2.2.1, by rw [ra.length]; exact hz.2.2.2, fun p hp => ?_⟩
      · subst e; cases ra; exact hz.1 rfl
      · obtain ⟨B', s', O'⟩ := O.layTup hp (ra.rep _)
        exact k B' _ _ s' O'
    · cases hg
  · cases hg
/-- list * int, the new list is own -/
def gRep : D → D → Option D
  | .lst xs, .int k => if -(2 ^ 63) ≤ k ∧ k < 2 ^ 63 ∧ xs.length * k.toNat ≤ sizeLine then some (.lst (List.replicate k.toNat xs).flatten) else none
  | _, _ => none
theorem r2_rep : R2Ok K rRep .ls gRep := by
  intro Γ B R H σ ρ v u d e o Q O rv ru hg k
  unfold gRep at hg
  split at hg
  · split at hg
    · rename_i hz
      cases hg; cases repI ru
      obtain ⟨a, vs, rfl, ha, ra⟩ := repL rv
      exact ⟨a, _, vs, rfl, rfl, O.sb _ _ ha, hz.1, hz.2.1, by rw [ra.length]; exact hz.2.2, fun p hp => k B _ _ (Same.refl _) (O.pushN hp (ra.rep _))⟩
    · cases hg
  · cases hg

/-! ## == and != -/
mutual
def toP : D → PyData
  | .non => .none | .bl b => .bool b | .int i => .int i | .str s => .str s | .tup ds => .tuple (toPs ds) | .lst ds => .list (toPs ds) | .dct _ => .none | .scr ns => .list (ns.map PyData.int)
def toPs : List D → List PyData
  | [] => []
  | d :: ds => toP d :: toPs ds
end
mutual
def noDct : D → Bool
  | .tup ds => noDcts ds | .lst ds => noDcts ds | .dct _ => false | _ => true
def noDcts : List D → Bool
  | [] => true
  | d :: ds => noDct d && noDcts ds
end
def shD (d : D) : Bool := noDct d && SeqAt.shaped (toP d)
mutual
theorem Rep.dp {B H : Hp} (sb : Same B H) : ∀ {v : V} {d : D}, Rep K B v d → noDct d = true → Dp K H v (toP d)
  | _, _, .non, _ => .non
  | _, _, .bl b, _ => .bl b
  | _, _, .int i, _ => .int i
  | _, _, .str s, _ => .str s
  | _, _, .tup h r, e => .tup (sameT sb h) (Reps.dp sb r e)
  | _, _, .lst h r, e => .lst (SqL.of (sb _ _ h)) (Reps.dp sb r e)
  | _, _, .scr (ns := ns) h, _ => .lst (sb.seq h) (dp_ints ns)
  | _, _, .dct h r, e => by cases e
theorem Reps.dp {B H : Hp} (sb : Same B H) : ∀ {vs : List V} {ds : List D}, Reps K B vs ds → noDcts ds = true → DpAll K H vs (toPs ds)
  | _, _, .nil, _ => .nil
  | _, _, .cons h r, e => by
    unfold noDcts at e
    rw [Bool.and_eq_true] at e
    exact .cons (Rep.dp sb h e.1) (Reps.dp sb r e.2)
theorem dp_ints {H : Hp} : ∀ ns : List Int, DpAll K H (ns.map V.int) (ns.map PyData.int)
  | [] => .nil
  | n :: ns => .cons (.int n) (dp_ints ns)
end
/-- == of what is no sequence -/
def scEq : D → D → Option Bool
  | .int i, .int j => some (decide (i = j))
  | .str i, .str j => some (decide (i = j))
  | .bl i, .bl j => some (decide (i = j))
  | .non, .non => some true
  | .non, .int _ => some false | .non, .bl _ => some false | .non, .str _ => some false
  | .int _, .non => some false | .bl _, .non => some false | .str _, .non => some false
  | .int _, .str _ => some false | .str _, .int _ => some false | .bl _, .str _ => some false | .str _, .bl _ => some false
  | _, _ => none
def eqD (d e : D) : Option Bool := match scEq d e with
  | some b => some b
  | none => if shD d = true ∧ shD e = true then some (PyData.eqv (toP d) (toP e)) else none
def gEq (d e : D) : Option D := (eqD d e).map .bl
def gNe (d e : D) : Option D := (eqD d e).map fun b => .bl (!b)
theorem scEq_ok {B : Hp} {v u : V} {d e : D} {b : Bool} (rv : Rep K B v d) (ru : Rep K B u e) (h : scEq d e = some b) : scal v u = true ∧ decide (v = u) = b := by
  unfold scEq at h
  split at h <;> first | (cases h; done) | skip
  all_goals (injection h with h; subst h; cases rv; cases ru; exact ⟨rfl, by simp⟩)
def rEq2 (K : PySem.W.Frag) : R2 := fun x y H Q => rEq x y H Q ∨ rEqD K x y H Q
def rNe2 (K : PySem.W.Frag) : R2 := fun x y H Q => rNe x y H Q ∨ rNeD K x y H Q
theorem opEq (hu : X.A.units + 64 < cLine) : OpR X (compareOp .Eq) (rEq2 X.K) := op_eq.or (op_eqD hu)
theorem opNe (hu : X.A.units + 64 < cLine) : OpR X (compareOp .NotEq) (rNe2 X.K) := op_ne.or (op_neD hu)
theorem r2_eq : R2Ok K (rEq2 K) .pu gEq := r2_scal fun B H v u d e o Q sb rv ru hg => by
  unfold gEq eqD at hg
  cases h : scEq d e with
  | some b =>
    rw [h] at hg
    cases hg
    obtain ⟨h1, h2⟩ := scEq_ok rv ru h
    exact ⟨_, fun _ => .bl _, fun q => .inl ⟨h1, by rw [h2]; exact q⟩⟩
  | none =>
    rw [h] at hg
    by_cases hs : shD d = true ∧ shD e = true
    · rw [if_pos hs] at hg
      cases hg
      obtain ⟨h1, h2⟩ := hs
      unfold shD at h1 h2
      rw [Bool.and_eq_true] at h1 h2
      exact ⟨_, fun _ => .bl _, fun q => .inr ⟨_, _, rv.dp sb h1.1, ru.dp sb h2.1, h1.2, h2.2, q⟩⟩
    · rw [if_neg hs] at hg; cases hg
theorem r2_ne : R2Ok K (rNe2 K) .pu gNe := r2_scal fun B H v u d e o Q sb rv ru hg => by
  unfold gNe eqD at hg
  cases h : scEq d e with
  | some b =>
    rw [h] at hg
    cases hg
    obtain ⟨h1, h2⟩ := scEq_ok rv ru h
    exact ⟨_, fun _ => .bl _, fun q => .inl ⟨h1, by rw [h2]; exact q⟩⟩
  | none =>
    rw [h] at hg
    by_cases hs : shD d = true ∧ shD e = true
    · rw [if_pos hs] at hg
      cases hg
      obtain ⟨h1, h2⟩ := hs
      unfold shD at h1 h2
      rw [Bool.and_eq_true] at h1 h2
      exact ⟨_, fun _ => .bl _, fun q => .inr ⟨_, _, rv.dp sb h1.1, ru.dp sb h2.1, h1.2, h2.2, q⟩⟩
    · rw [if_neg hs] at hg; cases hg
/-! is None, is not None -/
def isNon : D → Bool
  | .non => true
  | _ => false
def gIsN (d e : D) : Option D := match e with
  | .non => some (.bl (isNon d))
  | _ => none
def gNotN (d e : D) : Option D := match e with
  | .non => some (.bl (!isNon d))
  | _ => none
def rIsN : R2 := fun x y H Q => y = .non ∧ Q (.bl (decide (x = .non))) H
def rNotN : R2 := fun x y H Q => y = .non ∧ Q (.bl (!decide (x = .non))) H
theorem opIsN : OpR X (compareOp .Is) rIsN := op_isN
theorem opNotN : OpR X (compareOp .IsNot) rNotN := op_notN
theorem isNon_ok {B : Hp} {v : V} {d : D} (r : Rep K B v d) : decide (v = .non) = isNon d := by cases r <;> simp [isNon]
theorem r2_isN : R2Ok K rIsN .pu gIsN := r2_scal fun B H v u d e o Q sb rv ru hg => by
  unfold gIsN at hg
  split at hg
  · cases hg
    exact ⟨_, fun _ => .bl _, fun q => ⟨repN ru, by rw [isNon_ok rv]; exact q⟩⟩
  · cases hg
theorem r2_notN : R2Ok K rNotN .pu gNotN := r2_scal fun B H v u d e o Q sb rv ru hg => by
  unfold gNotN at hg
  split at hg
  · cases hg
    exact ⟨_, fun _ => .bl _, fun q => ⟨repN ru, by rw [isNon_ok rv]; exact q⟩⟩
  · cases hg
/-! in -/
def flatD : D → Bool
  | .non => true | .bl _ => true | .int _ => true | .str _ => true | _ => false
def flEq : D → D → Bool
  | .non, .non => true
  | .bl a, .bl b => a == b
  | .bl a, .int b => (if a then 1 else 0) == b
  | .int a, .bl b => a == (if b then 1 else 0)
  | .int a, .int b => a == b
  | .str a, .str b => a == b
  | _, _ => false
theorem flat_ok {B : Hp} {v : V} {d : D} (r : Rep K B v d) (h : flatD d = true) : flatV v = true := by cases r <;> first | rfl | cases h
theorem flEq_ok {B : Hp} {v u : V} {d e : D} (rv : Rep K B v d) (ru : Rep K B u e) (h : flatD d = true) (h2 : flatD e = true) : eqV v u = flEq d e := by
  cases rv <;> first | (cases h; done) | (cases ru <;> first | (cases h2; done) | rfl)
theorem flats_ok {B : Hp} : ∀ {vs : List V} {ds : List D}, Reps K B vs ds → ds.all flatD = true → vs.all flatV = true
  | _, _, .nil, _ => rfl
  | _, _, .cons r t, h => by
    rw [List.all_cons, Bool.and_eq_true] at h
    rw [List.all_cons, flat_ok r h.1, flats_ok t h.2]
    rfl
theorem inV_ok {B : Hp} {v : V} {d : D} (rv : Rep K B v d) (h : flatD d = true) : ∀ {vs : List V} {ds : List D}, Reps K B vs ds → ds.all flatD = true → inV v vs = ds.any fun y => flEq y d
  | _, _, .nil, _ => rfl
  | _, _, .cons r t, hh => by
    rw [List.all_cons, Bool.and_eq_true] at hh
    have ih := inV_ok rv h t hh.2
    unfold inV at ih ⊢
    rw [List.any_cons, List.any_cons, flEq_ok r rv hh.1 h, ih]
def inS (i j : Str) : Bool := match i.cps.toList with
  | [c] => decide (c ∈ j.cps.toList)
  | _ => !(Builtin.Str.occurrences j i 0 j.length 1).isEmpty
def inD : D → D → Option Bool
  | .str i, .str j => some (inS i j)
  | d, .tup xs => if flatD d = true ∧ xs.all flatD = true then some (xs.any fun y => flEq y d) else if shD d = true ∧ shD (.tup xs) = true then none else none
  | d, .lst xs => if flatD d = true ∧ xs.all flatD = true then some (xs.any fun y => flEq y d) else if shD d = true ∧ shD (.lst xs) = true then some ((toPs xs).any fun z => PyData.eqv z (toP d)) else none
  | .int i, .scr ns => some (ns.any fun n => n == i)
  | _, _ => none
def gIn (d e : D) : Option D := (inD d e).map .bl
def gNi (d e : D) : Option D := (inD d e).map fun b => .bl (!b)
def rInSg : R2 := fun x y H Q => ∃ (c : Nat) (z : Str), x = .str ⟨#[c]⟩ ∧ y = .str z ∧ Q (.bl (decide (c ∈ z.cps.toList))) H
def rNiSg : R2 := fun x y H Q => ∃ (c : Nat) (z : Str), x = .str ⟨#[c]⟩ ∧ y = .str z ∧ Q (.bl (!decide (c ∈ z.cps.toList))) H
def rInSt : R2 := fun x y H Q => ∃ i j, x = .str i ∧ y = .str j ∧ Q (.bl (!(Builtin.Str.occurrences j i 0 j.length 1).isEmpty)) H
def rNiSt : R2 := fun x y H Q => ∃ i j, x = .str i ∧ y = .str j ∧ Q (.bl (!(!(Builtin.Str.occurrences j i 0 j.length 1).isEmpty))) H
def rIn2 (K : PySem.W.Frag) : R2 := fun x y H Q => ((rInSg x y H Q ∨ rInSt x y H Q) ∨ rIn K false x y H Q) ∨ rInD K x y H Q
def rNi2 (K : PySem.W.Frag) : R2 := fun x y H Q => ((rNiSg x y H Q ∨ rNiSt x y H Q) ∨ rIn K true x y H Q) ∨ rNotInD K x y H Q
theorem opIn (hu : X.A.units + 65 < cLine) : OpR X (compareOp .In) (rIn2 X.K) := ((op_in_sign.or op_in_str).or op_in_seq).or (op_inD hu)
theorem opNi (hu : X.A.units + 65 < cLine) : OpR X (compareOp .NotIn) (rNi2 X.K) := ((op_notIn_sign.or op_notIn_str).or op_notIn_seq).or (op_notInD hu)
theorem any_scr {i : Int} : ∀ ns : List Int, inV (.int i) (ns.map V.int) = ns.any fun n => n == i
  | [] => rfl
  | n :: ns => by
    have := any_scr (i := i) ns
    unfold inV at this ⊢
    rw [List.map_cons, List.any_cons, List.any_cons, this]
    rfl
theorem all_scr : ∀ ns : List Int, (ns.map V.int).all flatV = true
  | [] => rfl
  | n :: ns => by rw [List.map_cons, List.all_cons, all_scr ns]; rfl
theorem one_sign {i : Str} {c : Nat} (h : i.cps.toList = [c]) : i = ⟨#[c]⟩ := by
  cases i with
  | mk cps =>
    simp only [Str.mk.injEq]
    apply Array.toList_inj.mp
    simpa using h
theorem inD_ok {B H : Hp} {v u : V} {d e : D} {b : Bool} (neg : Bool) {Q : VK} (sb : Same B H) (rv : Rep K B v d) (ru : Rep K B u e) (h : inD d e = some b) (q : Q (.bl (if neg then !b else b)) H) :
    if neg then rNi2 K v u H Q else rIn2 K v u H Q := by
  unfold inD at h
  split at h
  · rename_i i j
    cases h; cases repS rv; cases repS ru
    unfold inS at q
    generalize e0 : i.cps.toList = l at q
    rcases l with _ | ⟨c, _ | ⟨c2, l⟩⟩
    · cases neg
      · exact .inl (.inl (.inr ⟨i, j, rfl, rfl, q⟩))
      · exact .inl (.inl (.inr ⟨i, j, rfl, rfl, q⟩))
    · cases one_sign e0
      cases neg
      · exact .inl (.inl (.inl ⟨c, j, rfl, rfl, q⟩))
      · exact .inl (.inl (.inl ⟨c, j, rfl, rfl, q⟩))
    · cases neg
      · exact .inl (.inl (.inr ⟨i, j, rfl, rfl, q⟩))
      · exact .inl (.inl (.inr ⟨i, j, rfl, rfl, q⟩))
  · rename_i xs
    split at h
    · rename_i hf
      cases h
      obtain ⟨a, vs, rfl, ha, ra⟩ := repT ru
      have e := inV_ok rv hf.1 ra hf.2
      cases neg
      · exact .inl (.inr ⟨a, vs, rfl, .inr (sameT sb ha), flat_ok rv hf.1, flats_ok ra hf.2, by simp only [Bool.false_eq_true, if_false] at q ⊢; rw [e]; exact q⟩)
      · exact .inl (.inr ⟨a, vs, rfl, .inr (sameT sb ha), flat_ok rv hf.1, flats_ok ra hf.2, by simp only [if_true] at q ⊢; rw [e]; exact q⟩)
    · split at h <;> cases h
  · rename_i xs
    split at h
    · rename_i hf
      cases h
      obtain ⟨a, vs, rfl, ha, ra⟩ := repL ru
      have e := inV_ok rv hf.1 ra hf.2
      cases neg
      · exact .inl (.inr ⟨a, vs, rfl, .inl (SqL.of (sb _ _ ha)), flat_ok rv hf.1, flats_ok ra hf.2, by simp only [Bool.false_eq_true, if_false] at q ⊢; rw [e]; exact q⟩)
      · exact .inl (.inr ⟨a, vs, rfl, .inl (SqL.of (sb _ _ ha)), flat_ok rv hf.1, flats_ok ra hf.2, by simp only [if_true] at q ⊢; rw [e]; exact q⟩)
    · split at h
      · rename_i hs
        cases h
        obtain ⟨h1, h2⟩ := hs
        unfold shD at h1 h2
        rw [Bool.and_eq_true] at h1 h2
        have p2 := ru.dp sb h2.1
        cases neg
        · exact .inr ⟨_, _, rv.dp sb h1.1, p2, h1.2, h2.2, q⟩
        · exact .inr ⟨_, _, rv.dp sb h1.1, p2, h1.2, h2.2, q⟩
      · cases h
  · rename_i i ns
    cases h
    cases repI rv
    obtain ⟨a, rfl, ha⟩ := repX ru
    cases neg
    · exact .inl (.inr ⟨a, _, rfl, .inl (sb.seq ha), rfl, all_scr ns, by simp only [Bool.false_eq_true, if_false] at q ⊢; rw [any_scr]; exact q⟩)
    · exact .inl (.inr ⟨a, _, rfl, .inl (sb.seq ha), rfl, all_scr ns, by simp only [if_true] at q ⊢; rw [any_scr]; exact q⟩)
  · cases h
theorem r2_in : R2Ok K (rIn2 K) .pu gIn := r2_scal fun B H v u d e o Q sb rv ru hg => by
  unfold gIn at hg
  cases h : inD d e with
  | none => rw [h] at hg; cases hg
  | some b => rw [h] at hg; cases hg; exact ⟨_, fun _ => .bl _, fun q => inD_ok false sb rv ru h q⟩
theorem r2_ni : R2Ok K (rNi2 K) .pu gNi := r2_scal fun B H v u d e o Q sb rv ru hg => by
  unfold gNi at hg
  cases h : inD d e with
  | none => rw [h] at hg; cases hg
  | some b => rw [h] at hg; cases hg; exact ⟨_, fun _ => .bl _, fun q => inD_ok true sb rv ru h q⟩
/-! unary - -/
def gNeg : D → Option D
  | .int i => some (.int (-i))
  | _ => none
theorem u1_neg : U1Ok K (rU fun i => .int (-i)) .pu gNeg := u1_scal fun B H v d o Q sb rv hg => by
  unfold gNeg at hg
  split at hg
  · cases hg; cases repI rv; exact ⟨_, fun _ => .int _, fun q => ⟨_, rfl, q⟩⟩
  · cases hg
/-! subscripts -/
def gIx (x y : D) : Option D := match x with
  | .tup ds => (match y with
    | .int i => atI ds i
    | _ => none)
  | .lst ds => (match y with
    | .int i => atI ds i
    | _ => none)
  | .scr ns => (match y with
    | .int i => (atI ns i).map .int
    | _ => none)
  | .str z => (match y with
    | .int i => if z.length ≤ sizeLine then (atI z.cps.toList i).map fun c => .str ⟨#[c]⟩ else none
    | _ => none)
  | .dct kds => (keyD y).bind fun k => getK kds k
  | _ => none
theorem atI_map {α β : Type} {f : α → β} {xs : List α} {i : Int} {x : α} (h : atI xs i = some x) : atI (xs.map f) i = some (f x) := by
  unfold atI at h ⊢
  rw [List.length_map]
  cases e : ixN xs.length i with
  | none => rw [e] at h; cases h
  | some j => rw [e] at h; simp only [Option.bind_some] at h ⊢; rw [List.getElem?_map, h]; rfl
theorem r2_ix : R2Ok K (rIxA K) .pu gIx := by
  intro Γ B R H σ ρ v u d e o Q O rv ru hg k
  unfold gIx at hg
  split at hg
  · split at hg
    · cases repI ru
      obtain ⟨a, vs, rfl, ha, ra⟩ := repT rv
      obtain ⟨w, h1, h2⟩ := ra.atI hg
      exact .inl (.inr (.inl ⟨a, vs, _, w, rfl, rfl, sameT O.sb ha, h1, k B H w (Same.refl _) (O.pushP h2)⟩))
    · cases hg
  · split at hg
    · cases repI ru
      obtain ⟨a, vs, rfl, ha, ra⟩ := repL rv
      obtain ⟨w, h1, h2⟩ := ra.atI hg
      exact .inl (.inl ⟨a, vs, _, w, rfl, rfl, SqL.of (O.sb _ _ ha), h1, k B H w (Same.refl _) (O.pushP h2)⟩)
    · cases hg
  · rename_i ns
    split at hg
    · rename_i i
      cases repI ru
      obtain ⟨a, rfl, ha⟩ := repX rv
      cases e : atI ns i with
      | none => rw [e] at hg; cases hg
      | some x =>
        rw [e] at hg; cases hg
        exact .inl (.inl ⟨a, _, _, _, rfl, rfl, O.sb.seq ha, atI_map e, k B H _ (Same.refl _) (O.pushP (.int x))⟩)
    · cases hg
  · rename_i z
    split at hg
    · rename_i i
      split at hg
      · rename_i hz
        cases repI ru; cases repS rv
        cases e : atI z.cps.toList i with
        | none => rw [e] at hg; cases hg
        | some x =>
          rw [e] at hg; cases hg
          exact .inl (.inr (.inr ⟨z, _, _, rfl, rfl, hz, e, k B H _ (Same.refl _) (O.pushP (.str _))⟩))
      · cases hg
    · cases hg
  · obtain ⟨a, kvs, rfl, ha, ra⟩ := repD rv
    cases ek : keyD e with
    | none => rw [ek] at hg; cases hg
    | some y =>
      rw [ek] at hg
      obtain ⟨w, h1, h2⟩ := ra.get hg
      cases keyD_ok ru ek
      exact .inr ⟨a, w, rfl, by rw [← h1]; exact DGet.k (O.sb _ _ ha), k B H w (Same.refl _) (O.pushP h2)⟩
  · cases hg
end
end DL
namespace DL
open PySem L2
section
variable {K : PySem.W.Frag} {X : Cx} {mg : Mg} {W : Wc} {Γ : List Sh} {s : Sh} {te ta tb : TE} {fa fe : ER D}
/-! ## slices -/
def ELandO (K : PySem.W.Frag) (mg : Mg) (W : Wc) (Γ : List Sh) (B R : Hp) (σ : L2.St) (Q : Option Int → Hp → Prop) : Res (Option Int) → Prop
  | .ok o ρ => ∀ B' H', Same B B' → Ok K Γ B' R H' σ ρ → Q o H'
  | .exc e ρ => XLand K mg W Γ B R σ e ρ
  | .stuck => False
def POk (K : PySem.W.Frag) (mg : Mg) (W : Wc) (Γ : List Sh) (t : TO) (f : ER (Option Int)) : Prop := ∀ B R H σ ρ Q, W.P R σ → Ok K Γ B R H σ ρ → ELandO K mg W Γ B R σ Q (f ρ) → t σ H Q
def pNo : ER (Option Int) := fun ρ => .ok none ρ
def pSo (f : ER D) : ER (Option Int) := fun ρ => (f ρ).bind fun d ρ => match d with
  | .int i => .ok (some i) ρ
  | _ => .stuck
theorem pok_no : POk K mg W Γ tNoPart pNo := fun B R H σ ρ Q pw O h => h B H (Same.refl _) O
theorem pok_so (h : EOk K mg W Γ te .pu fe) : POk K mg W Γ (tPart te) (pSo fe) := by
  intro B R H σ ρ Q pw O hl
  unfold pSo at hl
  refine h B R H σ ρ _ pw O ?_
  cases e : fe ρ with
  | stuck => rw [e] at hl; exact hl
  | exc x ρ1 => rw [e] at hl; exact hl
  | ok d ρ1 =>
    rw [e] at hl
    intro B1 H1 v s1 O1
    simp only [Res.bind] at hl
    split at hl
    · cases repI O1.top
      exact ⟨_, rfl, hl B1 H1 s1 O1.pop⟩
    · exact hl.elim
def SlOk (K : PySem.W.Frag) (r : V → Option Int → Option Int → Hp → VK → Prop) (s : Sh) (g : D → Option Int → Option Int → Option D) : Prop :=
  ∀ (Γ : List Sh) (B R H : Hp) (σ : L2.St) (ρ : Env) (v : V) (d o : D) (lo hi : Option Int) (Q : VK), Ok K Γ B R H σ ρ → Rep K B v d → g d lo hi = some o →
    (∀ B' H' w, Same B B' → Ok K (s :: Γ) B' R H' (some w :: σ) (some o :: ρ) → Q w H') → r v lo hi H Q
def eSl (g : D → Option Int → Option Int → Option D) (f : ER D) (fl fh : ER (Option Int)) : ER D := fun ρ => (f ρ).bind fun d ρ => (fl ρ).bind fun lo ρ => (fh ρ).bind fun hi ρ => ofOpt (g d lo hi) ρ
theorem eok_sl {r : V → Option Int → Option Int → Hp → VK → Prop} {g : D → Option Int → Option Int → Option D} {tl th : TO} {fl fh : ER (Option Int)} (hr : SlOk K r s g) (h : EOk K mg W Γ te .pu fe) (hl : POk K mg W Γ tl fl) (hh : POk K mg W Γ th fh) :
    EOk K mg W Γ (tSl r te tl th) s (eSl g fe fl fh) := by
  intro B R H σ ρ Q pw O hd
  unfold eSl at hd
  refine h B R H σ ρ _ pw O ?_
  cases e : fe ρ with
  | stuck => rw [e] at hd; exact hd
  | exc x ρ1 => rw [e] at hd; exact hd
  | ok d ρ1 =>
    rw [e] at hd
    intro B1 H1 v s1 O1
    have rv := O1.top
    refine hl B1 R H1 σ ρ1 _ pw O1.pop ?_
    simp only [Res.bind] at hd
    cases e1 : fl ρ1 with
    | stuck => rw [e1] at hd; exact hd
    | exc x ρ2 => rw [e1] at hd; exact XLand.mono hd s1
    | ok lo ρ2 =>
      rw [e1] at hd
      intro B2 H2 s2 O2
      refine hh B2 R H2 σ ρ2 _ pw O2 ?_
      simp only at hd
      cases e2 : fh ρ2 with
      | stuck => rw [e2] at hd; exact hd
      | exc x ρ3 => rw [e2] at hd; exact XLand.mono hd (s1.trans s2)
      | ok hi ρ3 =>
        rw [e2] at hd
        intro B3 H3 s3 O3
        simp only [ofOpt] at hd
        cases e3 : g d lo hi with
        | none => rw [e3] at hd; exact hd.elim
        | some o =>
          rw [e3] at hd
          exact hr Γ B3 R H3 σ ρ3 v d o lo hi Q O3 (rv.mono (s2.trans s3)) e3 fun B4 H4 w s4 O4 => hd B4 H4 w (((s1.trans s2).trans s3).trans s4) O4
/-- the items of xs[lo:hi] -/
def cutD {α : Type} (xs : List α) (lo hi : Option Int) : List α := (xs.drop (HT.sIx xs.length 0 lo)).take (HT.sIx xs.length xs.length hi - HT.sIx xs.length 0 lo)
theorem Reps.cut {B : Hp} {vs : List V} {ds : List D} (r : Reps K B vs ds) (lo hi : Option Int) : Reps K B (cutV vs lo hi) (cutD ds lo hi) := by
  unfold cutV cutD
  rw [r.length]
  exact (r.drop _).take _
theorem cutV_map {α : Type} {f : α → V} (ns : List α) (lo hi : Option Int) : cutV (ns.map f) lo hi = (cutD ns lo hi).map f := by
  unfold cutV cutD
  rw [List.length_map, List.map_take, List.map_drop]
theorem cut_whole {α : Type} {xs : List α} {lo hi : Option Int} (h : HT.sIx xs.length 0 lo = 0 ∧ HT.sIx xs.length xs.length hi = xs.length) : cutD xs lo hi = xs := by
  unfold cutD
  rw [h.1, h.2]
  simp
def gSl (d : D) (lo hi : Option Int) : Option D := match d with
  | .tup ds => some (.tup (cutD ds lo hi))
  | .lst ds => some (.lst (cutD ds lo hi))
  | .scr ns => some (.lst ((cutD ns lo hi).map .int))
  | .str z => if z.length ≤ sizeLine then some (.str (cutS z lo hi)) else none
  | _ => none
def rSl (K : PySem.W.Frag) : V → Option Int → Option Int → Hp → VK → Prop := fun x lo hi H Q => (rSlL K x lo hi H Q ∨ rSlA K x lo hi H Q) ∨ rSlS x lo hi H Q
theorem slAny : SlR X (rSl X.K) := (sl_list.or sl_tupA).or sl_str
theorem slok_any : SlOk K (rSl K) .pu gSl := by
  intro Γ B R H σ ρ v d o lo hi Q O rv hg k
  unfold gSl at hg
  split at hg
  · rename_i ds
    cases hg
    obtain ⟨a, vs, rfl, ha, ra⟩ := repT rv
    refine .inl (.inr ⟨a, vs, rfl, sameT O.sb ha, fun hw => ?_, fun hw p hp => ?_⟩)
    · rw [ra.length] at hw
      exact k B H _ (Same.refl _) (O.pushP (by rw [cut_whole hw]; exact rv))
    · obtain ⟨B', s', O'⟩ := O.layTup hp (ra.cut lo hi)
      exact k B' _ _ s' O'
  · cases hg
    obtain ⟨a, vs, rfl, ha, ra⟩ := repL rv
    refine .inl (.inl ⟨a, vs, rfl, SqL.of (O.sb _ _ ha), fun p hp => ?_⟩)
    obtain ⟨B', s', O'⟩ := O.layLst hp (ra.cut lo hi)
    exact k B' _ _ s' O'
  · cases hg
    obtain ⟨a, rfl, ha⟩ := repX rv
    refine .inl (.inl ⟨a, _, rfl, O.sb.seq ha, fun p hp => ?_⟩)
    rw [cutV_map]
    obtain ⟨B', s', O'⟩ := O.layLst hp (reps_int (K := K) (B := B) _)
    exact k B' _ _ s' O'
  · split at hg
    · rename_i z hz
      cases hg; cases repS rv
      exact .inr ⟨z, rfl, hz, k B H _ (Same.refl _) (O.pushP (.str _))⟩
    · cases hg
  · cases hg
/-- a list's slice, own -/
def gSlO (d : D) (lo hi : Option Int) : Option D := match d with
  | .lst ds => some (.lst (cutD ds lo hi))
  | .scr ns => some (.lst ((cutD ns lo hi).map .int))
  | _ => none
theorem slok_own : SlOk K (rSlL K) .ls gSlO := by
  intro Γ B R H σ ρ v d o lo hi Q O rv hg k
  unfold gSlO at hg
  split at hg
  · cases hg
    obtain ⟨a, vs, rfl, ha, ra⟩ := repL rv
    exact ⟨a, vs, rfl, SqL.of (O.sb _ _ ha), fun p hp => k B _ _ (Same.refl _) (O.pushN hp (ra.cut lo hi))⟩
  · cases hg
    obtain ⟨a, rfl, ha⟩ := repX rv
    refine ⟨a, _, rfl, O.sb.seq ha, fun p hp => ?_⟩
    rw [cutV_map]
    exact k B _ _ (Same.refl _) (O.pushN hp (reps_int (K := K) (B := B) _))
  · cases hg
/-! ## built-ins -/
def gLen : List D → Option D
  | [.tup ds] => some (.int ds.length)
  | [.lst ds] => some (.int ds.length)
  | [.scr ns] => some (.int ns.length)
  | [.dct kds] => some (.int kds.length)
  | [.str z] => if z.length ≤ sizeLine then some (.int z.length) else none
  | _ => none
def rLen (K : PySem.W.Frag) : List V → Hp → VK → Prop := fun xs H Q => (∃ x n, xs = [x] ∧ LenV K x H n ∧ Q (.int n) H) ∨ ∃ a kvs, xs = [V.ref a] ∧ H a = some (.dK kvs) ∧ Q (.int kvs.length) H
theorem callLen : CallR X (.builtin "len") (rLen X.K) := call_len.or call_lenD
theorem reps1 {B : Hp} {vs : List V} {d : D} (r : Reps K B vs [d]) : ∃ v, vs = [v] ∧ Rep K B v d := by
  cases r with
  | cons h r => cases r; exact ⟨_, rfl, h⟩
theorem reps2 {B : Hp} {vs : List V} {d e : D} (r : Reps K B vs [d, e]) : ∃ v u, vs = [v, u] ∧ Rep K B v d ∧ Rep K B u e := by
  cases r with
  | cons h r => obtain ⟨u, rfl, h2⟩ := reps1 r; exact ⟨_, u, rfl, h, h2⟩
theorem c1_len : C1Ok K (rLen K) .pu gLen := c1_scal fun B H vs ds o Q sb rs hg => by
  unfold gLen at hg
  split at hg
  · cases hg
    obtain ⟨v, rfl, rv⟩ := reps1 rs
    obtain ⟨a, ws, rfl, ha, ra⟩ := repT rv
    exact ⟨_, fun _ => .int _, fun q => .inl ⟨_, ws.length, rfl, .inr ⟨ws, sameT sb ha, rfl⟩, by rw [ra.length]; exact q⟩⟩
  · cases hg
    obtain ⟨v, rfl, rv⟩ := reps1 rs
    obtain ⟨a, ws, rfl, ha, ra⟩ := repL rv
    exact ⟨_, fun _ => .int _, fun q => .inl ⟨_, ws.length, rfl, .inl ⟨ws, SqL.of (sb _ _ ha), rfl⟩, by rw [ra.length]; exact q⟩⟩
  · rename_i ns
    cases hg
    obtain ⟨v, rfl, rv⟩ := reps1 rs
    obtain ⟨a, rfl, ha⟩ := repX rv
    exact ⟨_, fun _ => .int _, fun q => .inl ⟨_, ns.length, rfl, .inl ⟨_, sb.seq ha, by simp⟩, q⟩⟩
  · cases hg
    obtain ⟨v, rfl, rv⟩ := reps1 rs
    obtain ⟨a, kvs, rfl, ha, ra⟩ := repD rv
    exact ⟨_, fun _ => .int _, fun q => .inr ⟨a, kvs, rfl, sb _ _ ha, by rw [ra.length]; exact q⟩⟩
  · split at hg
    · rename_i z hz
      cases hg
      obtain ⟨v, rfl, rv⟩ := reps1 rs
      cases repS rv
      exact ⟨_, fun _ => .int _, fun q => .inl ⟨_, z.length, rfl, ⟨hz, rfl⟩, q⟩⟩
    · cases hg
  · cases hg
def gAbs : List D → Option D
  | [.int i] => some (.int (if i < 0 then -i else i))
  | _ => none
def rAbs : List V → Hp → VK → Prop := fun xs H Q => ∃ i, xs = [.int i] ∧ Q (.int (if i < 0 then -i else i)) H
theorem callAbs : CallR X (.builtin "abs") rAbs := call_abs
theorem c1_abs : C1Ok K rAbs .pu gAbs := c1_scal fun B H vs ds o Q sb rs hg => by
  unfold gAbs at hg
  split at hg
  · cases hg
    obtain ⟨v, rfl, rv⟩ := reps1 rs
    cases repI rv
    exact ⟨_, fun _ => .int _, fun q => ⟨_, rfl, q⟩⟩
  · cases hg
def gInt : List D → Option D
  | [.int i] => some (.int i)
  | [.bl k] => some (.int (if k then 1 else 0))
  | [.str a] => if a.length ≤ 640 then (PySem.intText? a).map .int else none
  | _ => none
def rInt1 : List V → Hp → VK → Prop := fun xs H Q => ((∃ i, xs = [.int i] ∧ Q (.int i) H) ∨ ∃ k, xs = [.bl k] ∧ Q (.int (if k then 1 else 0)) H) ∨ ∃ a n, xs = [.str a] ∧ PySem.intText? a = some n ∧ a.length ≤ 640 ∧ Q (.int n) H
theorem callInt : CallR X (.type "int") rInt1 := call_int1.or call_int_str
theorem c1_int : C1Ok K rInt1 .pu gInt := c1_scal fun B H vs ds o Q sb rs hg => by
  unfold gInt at hg
  split at hg
  · cases hg
    obtain ⟨v, rfl, rv⟩ := reps1 rs
    cases repI rv
    exact ⟨_, fun _ => .int _, fun q => .inl (.inl ⟨_, rfl, q⟩)⟩
  · cases hg
    obtain ⟨v, rfl, rv⟩ := reps1 rs
    cases repB rv
    exact ⟨_, fun _ => .int _, fun q => .inl (.inr ⟨_, rfl, q⟩)⟩
  · rename_i a
    split at hg
    · rename_i hz
      cases e : PySem.intText? a with
      | none => rw [e] at hg; cases hg
      | some n =>
        rw [e] at hg; cases hg
        obtain ⟨v, rfl, rv⟩ := reps1 rs
        cases repS rv
        exact ⟨_, fun _ => .int _, fun q => .inr ⟨_, _, rfl, e, hz, q⟩⟩
    · cases hg
  · cases hg
def gStr : List D → Option D
  | [.int i] => if i.natAbs.log2 < 1920 then some (.str (toString i)) else none
  | [.str s] => some (.str s)
  | _ => none
def rStrI : List V → Hp → VK → Prop := fun xs H Q => (∃ i, xs = [.int i] ∧ i.natAbs.log2 < 1920 ∧ Q (.str (toString i)) H) ∨ ∃ a, xs = [.str a] ∧ Q (.str a) H
theorem callStr : CallR X (.type "str") rStrI := call_str_int.or SkE.call_str_str
theorem c1_str : C1Ok K rStrI .pu gStr := c1_scal fun B H vs ds o Q sb rs hg => by
  unfold gStr at hg
  split at hg
  · split at hg
    · rename_i hz
      cases hg
      obtain ⟨v, rfl, rv⟩ := reps1 rs
      cases repI rv
      exact ⟨_, fun _ => .str _, fun q => .inl ⟨_, rfl, hz, q⟩⟩
    · cases hg
  · cases hg
    obtain ⟨v, rfl, rv⟩ := reps1 rs
    cases repS rv
    exact ⟨_, fun _ => .str _, fun q => .inr ⟨_, rfl, q⟩⟩
  · cases hg
/-! max, min -/
def intsD : List D → Option (List Int)
  | [] => some []
  | .int i :: ds => (intsD ds).map (i :: ·)
  | _ => none
theorem intsD_eq : ∀ {ds : List D} {ns : List Int}, intsD ds = some ns → ds = ns.map D.int
  | [], ns, h => by cases h; rfl
  | .int i :: ds, ns, h => by
    unfold intsD at h
    cases e : intsD ds with
    | none => rw [e] at h; cases h
    | some ms => rw [e] at h; cases h; rw [intsD_eq e]; rfl
theorem reps_ints {B : Hp} : ∀ {vs : List V} {ns : List Int}, Reps K B vs (ns.map D.int) → vs = ns.map V.int
  | _, [], r => by cases r; rfl
  | _, n :: ns, r => by
    cases r with
    | cons h r => cases repI h; rw [reps_ints r]; rfl
/-- a list of ints -/
def listD : D → Option (List Int)
  | .lst ds => intsD ds
  | .scr ns => some ns
  | _ => none
theorem listD_ok {B : Hp} {v : V} {d : D} {ns : List Int} (r : Rep K B v d) (h : listD d = some ns) : ∃ a, v = .ref a ∧ SqL K B a (ns.map V.int) := by
  unfold listD at h
  split at h
  · obtain ⟨a, vs, rfl, ha, ra⟩ := repL r
    rw [intsD_eq h] at ra
    cases reps_ints ra
    exact ⟨a, rfl, SqL.of ha⟩
  · cases h
    exact repX r
  · cases h
def maxI : Int → List Int → Int
  | m, [] => m
  | m, n :: ns => maxI (if n > m then n else m) ns
def minI : Int → List Int → Int
  | m, [] => m
  | m, n :: ns => minI (if n < m then n else m) ns
theorem maxI_ok : ∀ (ns : List Int) (m : Int), m ≤ maxI m ns ∧ (∀ y ∈ ns, y ≤ maxI m ns) ∧ (maxI m ns = m ∨ maxI m ns ∈ ns)
  | [], m => ⟨Int.le_refl _, by simp, .inl rfl⟩
  | n :: ns, m => by
    obtain ⟨h1, h2, h3⟩ := maxI_ok ns (if n > m then n else m)
    have hm : m ≤ (if n > m then n else m) := by split <;> omega
    have hn : n ≤ (if n > m then n else m) := by split <;> omega
    show m ≤ maxI (if n > m then n else m) ns ∧ (∀ y ∈ n :: ns, y ≤ maxI (if n > m then n else m) ns) ∧ (maxI (if n > m then n else m) ns = m ∨ maxI (if n > m then n else m) ns ∈ n :: ns)
    refine ⟨Int.le_trans hm h1, fun y hy => ?_, ?_⟩
    · rcases List.mem_cons.mp hy with rfl | hy
      · exact Int.le_trans hn h1
      · exact h2 y hy
    · rcases h3 with h3 | h3
      · rw [h3]; split
        · exact .inr List.mem_cons_self
        · exact .inl rfl
      · exact .inr (List.mem_cons_of_mem _ h3)
theorem minI_ok : ∀ (ns : List Int) (m : Int), minI m ns ≤ m ∧ (∀ y ∈ ns, minI m ns ≤ y) ∧ (minI m ns = m ∨ minI m ns ∈ ns)
  | [], m => ⟨Int.le_refl _, by simp, .inl rfl⟩
  | n :: ns, m => by
    obtain ⟨h1, h2, h3⟩ := minI_ok ns (if n < m then n else m)
    have hm : (if n < m then n else m) ≤ m := by split <;> omega
    have hn : (if n < m then n else m) ≤ n := by split <;> omega
    show minI (if n < m then n else m) ns ≤ m ∧ (∀ y ∈ n :: ns, minI (if n < m then n else m) ns ≤ y) ∧ (minI (if n < m then n else m) ns = m ∨ minI (if n < m then n else m) ns ∈ n :: ns)
    refine ⟨Int.le_trans h1 hm, fun y hy => ?_, ?_⟩
    · rcases List.mem_cons.mp hy with rfl | hy
      · exact Int.le_trans h1 hn
      · exact h2 y hy
    · rcases h3 with h3 | h3
      · rw [h3]; split
        · exact .inr List.mem_cons_self
        · exact .inl rfl
      · exact .inr (List.mem_cons_of_mem _ h3)
def gMax : List D → Option D
  | [.int i, .int j] => some (.int (if j > i then j else i))
  | [d] => match listD d with
    | some (n :: ns) => some (.int (maxI n ns))
    | _ => none
  | _ => none
def gMin : List D → Option D
  | [.int i, .int j] => some (.int (if j < i then j else i))
  | [d] => match listD d with
    | some (n :: ns) => some (.int (minI n ns))
    | _ => none
  | _ => none
def rMax22 : List V → Hp → VK → Prop := fun xs H Q => ∃ i j, xs = [.int i, .int j] ∧ Q (.int (if j > i then j else i)) H
def rMin22 : List V → Hp → VK → Prop := fun xs H Q => ∃ i j, xs = [.int i, .int j] ∧ Q (.int (if j < i then j else i)) H
def rMaxA (K : PySem.W.Frag) : List V → Hp → VK → Prop := fun xs H Q => rMax22 xs H Q ∨ rMax K xs H Q
def rMinA (K : PySem.W.Frag) : List V → Hp → VK → Prop := fun xs H Q => rMin22 xs H Q ∨ rMin K xs H Q
theorem callMax (hc : X.calm = true) : CallR X (.builtin "max") (rMaxA X.K) := (call_max2 hc).or (cr_max hc)
theorem callMin (hc : X.calm = true) : CallR X (.builtin "min") (rMinA X.K) := (call_min2 hc).or (cr_min hc)
theorem c1_max : C1Ok K (rMaxA K) .pu gMax := c1_scal fun B H vs ds o Q sb rs hg => by
  unfold gMax at hg
  split at hg
  · cases hg
    obtain ⟨v, u, rfl, rv, ru⟩ := reps2 rs
    cases repI rv; cases repI ru
    exact ⟨_, fun _ => .int _, fun q => .inl ⟨_, _, rfl, q⟩⟩
  · split at hg
    · rename_i n ns e
      cases hg
      obtain ⟨v, rfl, rv⟩ := reps1 rs
      obtain ⟨a, rfl, ha⟩ := listD_ok rv e
      obtain ⟨h1, h2, h3⟩ := maxI_ok ns n
      refine ⟨_, fun _ => .int _, fun q => .inr ⟨a, n :: ns, rfl, sb.seq ha, by simp, fun m hm hy => ?_⟩⟩
      have e1 : maxI n ns ≤ m := hy _ (by rcases h3 with h3 | h3; · rw [h3]; exact List.mem_cons_self
                                          · exact List.mem_cons_of_mem _ h3)
      have e2 : m ≤ maxI n ns := by
        rcases List.mem_cons.mp hm with rfl | hm
        · exact h1
        · exact h2 m hm
      have : m = maxI n ns := by omega
      rw [this]; exact q
    · cases hg
  · cases hg
theorem c1_min : C1Ok K (rMinA K) .pu gMin := c1_scal fun B H vs ds o Q sb rs hg => by
  unfold gMin at hg
  split at hg
  · cases hg
    obtain ⟨v, u, rfl, rv, ru⟩ := reps2 rs
    cases repI rv; cases repI ru
    exact ⟨_, fun _ => .int _, fun q => .inl ⟨_, _, rfl, q⟩⟩
  · split at hg
    · rename_i n ns e
      cases hg
      obtain ⟨v, rfl, rv⟩ := reps1 rs
      obtain ⟨a, rfl, ha⟩ := listD_ok rv e
      obtain ⟨h1, h2, h3⟩ := minI_ok ns n
      refine ⟨_, fun _ => .int _, fun q => .inr ⟨a, n :: ns, rfl, sb.seq ha, by simp, fun m hm hy => ?_⟩⟩
      have e1 : m ≤ minI n ns := hy _ (by rcases h3 with h3 | h3; · rw [h3]; exact List.mem_cons_self
                                          · exact List.mem_cons_of_mem _ h3)
      have e2 : minI n ns ≤ m := by
        rcases List.mem_cons.mp hm with rfl | hm
        · exact h1
        · exact h2 m hm
      have : m = minI n ns := by omega
      rw [this]; exact q
    · cases hg
  · cases hg
def gSum : List D → Option D
  | [d] => (listD d).map fun ns => .int ns.sum
  | _ => none
theorem callSum (hc : X.calm = true) : CallR X (.builtin "sum") (rSum X.K) := cr_sum hc
theorem c1_sum : C1Ok K (rSum K) .pu gSum := c1_scal fun B H vs ds o Q sb rs hg => by
  unfold gSum at hg
  split at hg
  · rename_i d
    cases e : listD d with
    | none => rw [e] at hg; cases hg
    | some ns =>
      rw [e] at hg
      cases hg
      obtain ⟨v, rfl, rv⟩ := reps1 rs
      obtain ⟨a, rfl, ha⟩ := listD_ok rv e
      exact ⟨_, fun _ => .int _, fun q => ⟨a, ns, rfl, sb.seq ha, q⟩⟩
  · cases hg
/-! list(x), tuple(x) -/
def gList : List D → Option D
  | [.lst ds] => some (.lst ds)
  | [.tup ds] => some (.lst ds)
  | [.scr ns] => some (.lst (ns.map .int))
  | _ => none
def rList (K : PySem.W.Frag) : List V → Hp → VK → Prop := fun xs H Q => ∃ p ys, xs = [.ref p] ∧ (SqL K H p ys ∨ SqT K H p ys) ∧ ∀ l, H l = none → Q (.ref l) (upd H l (.lst ys))
theorem callList : CallR X (.type "list") (rList X.K) := call_list_of
theorem c1_list : C1Ok K (rList K) .ls gList := by
  intro Γ B R H σ ρ vs ds o Q O rs hg k
  unfold gList at hg
  split at hg
  · cases hg
    obtain ⟨v, rfl, rv⟩ := reps1 rs
    obtain ⟨a, ws, rfl, ha, ra⟩ := repL rv
    exact ⟨a, ws, rfl, .inl (SqL.of (O.sb _ _ ha)), fun l hl => k B _ _ (Same.refl _) (O.pushN hl ra)⟩
  · cases hg
    obtain ⟨v, rfl, rv⟩ := reps1 rs
    obtain ⟨a, ws, rfl, ha, ra⟩ := repT rv
    exact ⟨a, ws, rfl, .inr (sameT O.sb ha), fun l hl => k B _ _ (Same.refl _) (O.pushN hl ra)⟩
  · cases hg
    obtain ⟨v, rfl, rv⟩ := reps1 rs
    obtain ⟨a, rfl, ha⟩ := repX rv
    exact ⟨a, _, rfl, .inl (O.sb.seq ha), fun l hl => k B _ _ (Same.refl _) (O.pushN hl (reps_int _))⟩
  · cases hg
def gTuple : List D → Option D
  | [.lst ds] => some (.tup ds)
  | [.tup ds] => some (.tup ds)
  | [.scr ns] => some (.tup (ns.map .int))
  | _ => none
def rTuple (K : PySem.W.Frag) : List V → Hp → VK → Prop := fun xs H Q => ∃ p ys, xs = [.ref p] ∧ ((SqL K H p ys ∧ ∀ l, H l = none → Q (.ref l) (upd H l (.tup ys))) ∨ (SqT K H p ys ∧ Q (.ref p) H))
theorem callTuple : CallR X (.type "tuple") (rTuple X.K) := call_tuple_of
theorem c1_tuple : C1Ok K (rTuple K) .pu gTuple := by
  intro Γ B R H σ ρ vs ds o Q O rs hg k
  unfold gTuple at hg
  split at hg
  · cases hg
    obtain ⟨v, rfl, rv⟩ := reps1 rs
    obtain ⟨a, ws, rfl, ha, ra⟩ := repL rv
    refine ⟨a, ws, rfl, .inl ⟨SqL.of (O.sb _ _ ha), fun l hl => ?_⟩⟩
    obtain ⟨B', s', O'⟩ := O.layTup hl ra
    exact k B' _ _ s' O'
  · cases hg
    obtain ⟨v, rfl, rv⟩ := reps1 rs
    obtain ⟨a, ws, rfl, ha, ra⟩ := repT rv
    exact ⟨a, ws, rfl, .inr ⟨sameT O.sb ha, k B H _ (Same.refl _) (O.pushP rv)⟩⟩
  · cases hg
    obtain ⟨v, rfl, rv⟩ := reps1 rs
    obtain ⟨a, rfl, ha⟩ := repX rv
    refine ⟨a, _, rfl, .inl ⟨O.sb.seq ha, fun l hl => ?_⟩⟩
    obtain ⟨B', s', O'⟩ := O.layTup hl (reps_int (K := K) (B := B) _)
    exact k B' _ _ s' O'
  · cases hg
/-! isinstance(x, T), T a built-in type -/
def tyN : D → String
  | .non => "NoneType" | .bl _ => "bool" | .int _ => "int" | .str _ => "str" | .tup _ => "tuple" | .lst _ => "list" | .scr _ => "list" | .dct _ => "dict"
def isTup : D → Bool
  | .tup _ => true
  | _ => false
def isLst : D → Bool
  | .lst _ => true | .scr _ => true
  | _ => false
def isStr : D → Bool
  | .str _ => true
  | _ => false
def isBl : D → Bool
  | .bl _ => true
  | _ => false
def isInt : D → Bool
  | .int _ => true | .bl _ => true
  | _ => false
def isDct : D → Bool
  | .dct _ => true
  | _ => false
theorem ty_tup (d : D) : kitB (tyN d) "tuple" = some (isTup d) := by cases d <;> (dsimp only [tyN, isTup]; decide +kernel)
theorem ty_lst (d : D) : kitB (tyN d) "list" = some (isLst d) := by cases d <;> (dsimp only [tyN, isLst]; decide +kernel)
theorem ty_str (d : D) : kitB (tyN d) "str" = some (isStr d) := by cases d <;> (dsimp only [tyN, isStr]; decide +kernel)
theorem ty_bl (d : D) : kitB (tyN d) "bool" = some (isBl d) := by cases d <;> (dsimp only [tyN, isBl]; decide +kernel)
theorem ty_int (d : D) : kitB (tyN d) "int" = some (isInt d) := by cases d <;> (dsimp only [tyN, isInt]; decide +kernel)
theorem ty_dct (d : D) : kitB (tyN d) "dict" = some (isDct d) := by cases d <;> (dsimp only [tyN, isDct]; decide +kernel)
theorem sqt_ty {H : Hp} {a : Addr} {vs : List V} (h : SqT K H a vs) : TyX K H (.ref a) (.type "tuple") := by
  rcases h with (h | ⟨o, h⟩) | ⟨o, its, n, h1, h2, _⟩
  · exact .base (.tup h)
  · exact .fTuple h
  · exact .kTuple h1 h2
theorem sql_ty {H : Hp} {a : Addr} {vs : List V} (h : SqL K H a vs) : TyX K H (.ref a) (.type "list") := by
  rcases h with (h | ⟨o, h⟩) | ⟨o, its, n, h1, h2, _⟩
  · exact .base (.lst h)
  · exact .base (.frz h)
  · exact .kList h1 h2
theorem rep_ty {B H : Hp} {v : V} {d : D} (sb : Same B H) (r : Rep K B v d) : TyX K H v (.type (tyN d)) := by
  cases r with
  | non => exact .base .non
  | bl b => exact .base (.bl b)
  | int i => exact .base (.int i)
  | str s => exact .base (.str s)
  | tup h r => exact sqt_ty (sameT sb h)
  | lst h r => exact .base (.lst (sb _ _ h))
  | scr h => exact sql_ty (sb.seq h)
  | dct h r => exact .base (.dK (sb _ _ h))
def eIsi (p : D → Bool) (f : ER D) : ER D := fun ρ => (f ρ).bind fun d ρ => .ok (.bl (p d)) ρ
theorem eok_isi {n : String} {p : D → Bool} (hp : ∀ d, kitB (tyN d) n = some (p d)) (h : EOk K mg W Γ te .pu fe) : EOk K mg W Γ (tCB (rIsi K) (tCons te (tCons (tC (.ty n)) tNil))) .pu (eIsi p fe) := by
  intro B R H σ ρ Q pw O hd
  unfold eIsi at hd
  refine h B R H σ ρ _ pw O ?_
  cases e : fe ρ with
  | stuck => rw [e] at hd; exact hd
  | exc x ρ1 => rw [e] at hd; exact hd
  | ok d ρ1 =>
    rw [e] at hd
    intro B1 H1 v s1 O1
    exact ⟨v, .ty n, .type (tyN d), .type n, p d, rfl, .ty n, rep_ty O1.sb O1.top, kit_ty (hp d), hd B1 H1 _ s1 (O1.pop.pushP (.bl _))⟩
/-! conditional chains of comparisons and the like are made of the above -/
end
end DL
namespace DLZ
open PySem
open PySem.Sem (wp)
section
variable {prog : Program} {w : World} {A : Around} {E : Value → Shared → Prop} {s : Shared}
/-! 'next' of a zip of two tuples, the tuple given out before still there (as KE.KDictZip has it for lists) -/
theorem item_held {z TI TO T i1 i2 l1 l2 : Addr} {f : Bool} {obT : Obj} {k1 k2 : Nat} {xs ys : Array Value} {x y : Value} {Q : Value → Shared → Prop} (ap : ZipApart z TI TO i1 i2 l1 l2)
    (gz : IsZipHeld s.heap z TI TO T f) (gT : s.heap.get? T = some obT) (gI : IsPair s.heap TI (.ref i1) (.ref i2))
    (h1 : s.heap.IsTupleIter i1 l1 k1) (h2 : s.heap.IsTupleIter i2 l2 k2) (gl1 : s.heap.IsTuple l1 xs) (gl2 : s.heap.IsTuple l2 ys) (gx : xs[k1]? = some x) (gy : ys[k2]? = some y)
    (gQ : ∀ h', IsZipHeld h' z TI TO T true → h'.IsTupleIter i1 l1 (k1 + 1) → h'.IsTupleIter i2 l2 (k2 + 1) → IsPair h' s.heap.objs.size x y → h'.objs.size = s.heap.objs.size + 1 →
      (∀ c o, c ≠ z → c ≠ i1 → c ≠ i2 → s.heap.get? c = some o → h'.get? c = some o) → Q (.ref s.heap.objs.size) { s with heap := h' }) :
    wpAny (model prog w) A (Builtin.«zip.__next__» ⟨[.ref z], []⟩) (fun fin s' => ∃ v, fin = .done (.ret v) ∧ Q v s') E s := by
  show wpAny _ _ (field (.ref z) 2 >>= _) _ _ _
  refine wpAny_bind (wpAny_field gz rfl (x := .bool false) rfl ?_)
  show wpAny _ _ (field (.ref z) 3 >>= _) _ _ _
  refine wpAny_bind (wpAny_field gz rfl (x := .ref TI) rfl ?_)
  refine wpAny_bind (wpAny_seqItems gI rfl ?_)
  show wpAny _ _ (Builtin.SmallTypes.ownedTupleIsFree (.ref z) >>= _) _ _ _
  refine wpAny_bind (wpAny_tupleHeld_zip gz gT fun m1 z1 b1 => ?_)
  simp only [Bool.false_eq_true, if_false]
  refine wpAny_bind ?_
  rw [← Array.forIn_toList]
  simp only [List.forIn_cons, List.forIn_nil]
  refine wpAny_bind (wpAny_bind (wpAny_holding ?_))
  show wpAny _ _ (Builtin.SmallTypes.nextOf (.ref i1) >>= _) _ _ _
  refine wpAny_bind (RZ.nextOf_tuple_item (s := { s with heap := m1 }) (h1.extBut b1.extBut ap.i1z) (gl1.extBut b1.extBut ap.l1z) gx fun m2 i1k b2 => wpAny_pure ?_)
  refine wpAny_pure ?_
  refine wpAny_bind (wpAny_bind (wpAny_holding ?_))
  show wpAny _ _ (Builtin.SmallTypes.nextOf (.ref i2) >>= _) _ _ _
  refine wpAny_bind (RZ.nextOf_tuple_item (s := { s with heap := m2 }) ((h2.extBut b1.extBut ap.i2z).extBut b2.extBut ap.i12.symm) ((gl2.extBut b1.extBut ap.l2z).extBut b2.extBut ap.l2i1) gy fun m3 i2k b3 => wpAny_pure ?_)
  refine wpAny_pure (wpAny_pure ?_)
  show wpAny _ _ (newTuple [x, y] >>= _) _ _ _
  refine wpAny_bind (wpAny_newTuple ?_)
  have esz : m3.objs.size = s.heap.objs.size := by rw [b3.1, b2.1, b1.1]
  have z3 : IsZipHeld m3 z TI TO T true := b3.extBut _ _ ap.i2z.symm (b2.extBut _ _ ap.i1z.symm z1)
  have gk : ∀ c o, c ≠ z → c ≠ i1 → c ≠ i2 → s.heap.get? c = some o → m3.get? c = some o := fun c o c1 c2 c3 e => b3.extBut _ _ c3 (b2.extBut _ _ c2 (b1.extBut _ _ c1 e))
  have i13 : m3.IsTupleIter i1 l1 (k1 + 1) := i1k.extBut b3.extBut ap.i12
  refine wpAny_pure ⟨_, rfl, ?_⟩
  show Q (.ref m3.objs.size) _
  have gp : IsPair (m3.push { cls := .type "tuple", data := .seq #[x, y] }) m3.objs.size x y := Heap.get?_push_size _ rfl
  have hz4 : (m3.push { cls := .type "tuple", data := .seq #[x, y] }).objs.size = m3.objs.size + 1 := Heap.size_push ..
  rw [esz] at gp hz4 ⊢
  exact gQ _ (Heap.get?_push_of_some _ z3) (i13.at fun o e => Heap.get?_push_of_some _ e) (i2k.at fun o e => Heap.get?_push_of_some _ e) gp hz4 fun c o c1 c2 c3 e => Heap.get?_push_of_some _ (gk c o c1 c2 c3 e)
theorem end_held {z TI TO T i1 i2 l1 l2 : Addr} {f : Bool} {obT : Obj} {k1 k2 : Nat} {xs ys : Array Value} {Q : Fin → Shared → Prop} (gh : A.handled = none) (ap : ZipApart z TI TO i1 i2 l1 l2)
    (gz : IsZipHeld s.heap z TI TO T f) (gT : s.heap.get? T = some obT) (gI : IsPair s.heap TI (.ref i1) (.ref i2))
    (h1 : s.heap.IsTupleIter i1 l1 k1) (h2 : s.heap.IsTupleIter i2 l2 k2) (gl1 : s.heap.IsTuple l1 xs) (gl2 : s.heap.IsTuple l2 ys) (gend : xs[k1]? = none ∨ ys[k2]? = none)
    (gE : ∀ h' e, (∀ c o, c ≠ z → c ≠ i1 → c ≠ i2 → s.heap.get? c = some o → h'.get? c = some o) → (∃ o, h'.get? e = some o ∧ o.cls = .type "StopIteration") → E (.ref e) { s with heap := h' }) :
    wpAny (model prog w) A (Builtin.«zip.__next__» ⟨[.ref z], []⟩) Q E s := by
  show wpAny _ _ (field (.ref z) 2 >>= _) _ _ _
  refine wpAny_bind (wpAny_field gz rfl (x := .bool false) rfl ?_)
  show wpAny _ _ (field (.ref z) 3 >>= _) _ _ _
  refine wpAny_bind (wpAny_field gz rfl (x := .ref TI) rfl ?_)
  refine wpAny_bind (wpAny_seqItems gI rfl ?_)
  show wpAny _ _ (Builtin.SmallTypes.ownedTupleIsFree (.ref z) >>= _) _ _ _
  refine wpAny_bind (wpAny_tupleHeld_zip gz gT fun m1 z1 b1 => ?_)
  simp only [Bool.false_eq_true, if_false]
  refine wpAny_bind ?_
  rw [← Array.forIn_toList]
  simp only [List.forIn_cons, List.forIn_nil]
  refine wpAny_bind (wpAny_bind (wpAny_holding ?_))
  show wpAny _ _ (Builtin.SmallTypes.nextOf (.ref i1) >>= _) _ _ _
  cases gx : xs[k1]? with
  | none =>
    refine wpAny_bind (RZ.nextOf_tuple_end (s := { s with heap := m1 }) gh (h1.extBut b1.extBut ap.i1z) (gl1.extBut b1.extBut ap.l1z) gx fun m2 e b2 he => ?_)
    exact gE m2 e (fun c o c1 c2 _ x => b2 _ _ c2 (b1.extBut _ _ c1 x)) he
  | some x =>
    have gy : ys[k2]? = none := by rcases gend with h | h; rw [gx] at h; cases h; exact h
    refine wpAny_bind (RZ.nextOf_tuple_item (s := { s with heap := m1 }) (h1.extBut b1.extBut ap.i1z) (gl1.extBut b1.extBut ap.l1z) gx fun m2 i1k b2 => wpAny_pure ?_)
    refine wpAny_pure ?_
    refine wpAny_bind (wpAny_bind (wpAny_holding ?_))
    show wpAny _ _ (Builtin.SmallTypes.nextOf (.ref i2) >>= _) _ _ _
    refine wpAny_bind (RZ.nextOf_tuple_end (s := { s with heap := m2 }) gh ((h2.extBut b1.extBut ap.i2z).extBut b2.extBut ap.i12.symm) ((gl2.extBut b1.extBut ap.l2z).extBut b2.extBut ap.l2i1) gy fun m3 e b3 he => ?_)
    exact gE m3 e (fun c o c1 c2 c3 x => b3 _ _ c3 (b2.extBut _ _ c2 (b1.extBut _ _ c1 x))) he
theorem next_item_held {z TI TO T i1 i2 l1 l2 : Addr} {f : Bool} {obT : Obj} {k1 k2 : Nat} {xs ys : Array Value} {x y : Value} {Q : Option Value → Shared → Prop} (ap : ZipApart z TI TO i1 i2 l1 l2)
    (gz : IsZipHeld s.heap z TI TO T f) (gT : s.heap.get? T = some obT) (gI : IsPair s.heap TI (.ref i1) (.ref i2))
    (h1 : s.heap.IsTupleIter i1 l1 k1) (h2 : s.heap.IsTupleIter i2 l2 k2) (gl1 : s.heap.IsTuple l1 xs) (gl2 : s.heap.IsTuple l2 ys) (gx : xs[k1]? = some x) (gy : ys[k2]? = some y)
    (gQ : ∀ h', IsZipHeld h' z TI TO T true → h'.IsTupleIter i1 l1 (k1 + 1) → h'.IsTupleIter i2 l2 (k2 + 1) → IsPair h' s.heap.objs.size x y → h'.objs.size = s.heap.objs.size + 1 →
      (∀ c o, c ≠ z → c ≠ i1 → c ≠ i2 → s.heap.get? c = some o → h'.get? c = some o) → Q (some (.ref s.heap.objs.size)) { s with heap := h' }) :
    wpAny (model prog w) A (pyNext (.ref z)) Q E s := by
  have hTy : s.TypeIs (.ref z) "zip" := ⟨_, gz, rfl⟩
  unfold pyNext
  exact wpAny_bind (wpAny_attempt (wpAny_callSpecial?_slot (name := Str.ofString "__next__") hTy F.slot_zip_next
    (wpAny_call_entry F.slot_zip_next hTy F.entry_zip_next
      (item_held ap gz gT gI h1 h2 gl1 gl2 gx gy fun h' a1 a3 a4 a5 a6 a7 => wpAny_pure (gQ h' a1 a3 a4 a5 a6 a7)) (F.args_zip_next_1 _))))
theorem next_end_held {z TI TO T i1 i2 l1 l2 : Addr} {f : Bool} {obT : Obj} {k1 k2 : Nat} {xs ys : Array Value} {Q : Option Value → Shared → Prop} (gh : A.handled = none) (ap : ZipApart z TI TO i1 i2 l1 l2)
    (gz : IsZipHeld s.heap z TI TO T f) (gT : s.heap.get? T = some obT) (gI : IsPair s.heap TI (.ref i1) (.ref i2))
    (h1 : s.heap.IsTupleIter i1 l1 k1) (h2 : s.heap.IsTupleIter i2 l2 k2) (gl1 : s.heap.IsTuple l1 xs) (gl2 : s.heap.IsTuple l2 ys) (gend : xs[k1]? = none ∨ ys[k2]? = none)
    (gQ : ∀ h', (∀ c o, c ≠ z → c ≠ i1 → c ≠ i2 → s.heap.get? c = some o → h'.get? c = some o) → Q none { s with heap := h' }) : wpAny (model prog w) A (pyNext (.ref z)) Q E s := by
  have hTy : s.TypeIs (.ref z) "zip" := ⟨_, gz, rfl⟩
  unfold pyNext
  refine wpAny_bind (wpAny_attempt (wpAny_callSpecial?_slot (name := Str.ofString "__next__") hTy F.slot_zip_next
    (wpAny_call_entry F.slot_zip_next hTy F.entry_zip_next (end_held gh ap gz gT gI h1 h2 gl1 gl2 gend fun h' e gk he => ?_) (F.args_zip_next_1 _))))
  obtain ⟨o, ho, hc⟩ := he
  refine wpAny_bind (wpAny_isInstance (T := "StopIteration") (b := true) ⟨o, ho, hc⟩ isSubtype_stop ?_)
  exact wpAny_pure (gQ _ gk)
theorem zip_no_len : typeLookup (.type "zip") "__len__" = pure none := am_miss_of_fast (by decide +kernel)
theorem zip_no_hint : typeLookup (.type "zip") "__length_hint__" = pure none := am_miss_of_fast (by decide +kernel)
theorem zip_hint {a : Addr} {Q : Bool → Shared → Prop} (hT : s.TypeIs (.ref a) "zip") (h : Q true s) : wpAny (model prog w) A (Builtin.List.listLengthHint (.ref a)) Q E s := by
  unfold Builtin.List.listLengthHint
  refine wpAny_bind (wpAny_specialOf hT zip_no_len ?_)
  show wpAny _ _ (specialOf (Value.ref a) (Str.ofString "__length_hint__") >>= _) _ _ _
  refine wpAny_bind (wpAny_specialOf hT zip_no_hint ?_)
  exact wpAny_pure h
end
end DLZ
namespace L2
open PySem PySem.Spec PyProof.Rows
/-- the pairs of two tuples laid one after another, then the list -/
def zipW : List V → List V → List V → Hp → VK → Prop
  | u :: us, v :: vs, acc, H, Q => ∀ T, H T = none → zipW us vs (acc ++ [.ref T]) (upd H T (.tup [u, v])) Q
  | _, _, acc, H, Q => ∀ p, H p = none → Q (.ref p) (upd H p (.lst acc))
theorem upd_comm {H : Hp} {a b : Addr} {o u : HO} (h : a ≠ b) : upd (upd H a o) b u = upd (upd H b u) a o := by
  funext c
  by_cases h1 : c = a
  · subst h1; rw [upd_ne h, upd_same, upd_same]
  · by_cases h2 : c = b
    · subst h2; rw [upd_same, upd_ne h1, upd_same]
    · rw [upd_ne h2, upd_ne h1, upd_ne h1, upd_ne h2]
section
variable {X : Cx} {pins : List (Addr × Obj)} {σ : St} {A1 : Around} {z TI TO i1 i2 a b S : Addr}
/-- where a zip of two tuples stands -/
def ZSt (z TI TO i1 i2 a b : Addr) (i : Nat) (h : Heap) : Prop := IsPair h TI (.ref i1) (.ref i2) ∧ h.IsTupleIter i1 a i ∧ h.IsTupleIter i2 b i ∧
  (∃ x y, IsPair h TO x y) ∧ (IsZip h z TI TO .none ∨ ∃ T f oT, IsZipHeld h z TI TO T f ∧ h.get? T = some oT ∧ T ≠ z ∧ T ≠ i1 ∧ T ≠ i2)
theorem zip_loop {us vs : List V} {Q : VK} {Rs : Result → Shared → Prop} (hh : A1.handled = none) (D : ZipApart z TI TO i1 i2 a b) (hS : S ∉ [z, TI, TO, i1, i2])
    (hdone : ∀ acc H s, Inv X pins σ (upd H S (.lst acc)) s → Q (.ref S) (upd H S (.lst acc)) → Rs (.ok (.ret .none)) s) :
    ∀ (m i : Nat) (acc : List V) (H : Hp) (s : Shared), m = us.length - i → acc.length = i → i ≤ us.length → Inv X pins σ (upd H S (.lst acc)) s → H S = none → SqT X.K H a us → SqT X.K H b vs → (∀ c ∈ [z, TI, TO, i1, i2], FpOk X pins (upd H S (.lst acc)) c) → ZSt z TI TO i1 i2 a b i s.heap →
      zipW (us.drop i) (vs.drop i) acc H Q → codeAny (model X.prog X.w) A1 (.builtin "list.extend.loop" ⟨[.ref S, .ref z, .none], []⟩) Rs s := by
  intro m
  induction m with
  | zero =>
    intro i acc H s hm hacc hle I hn ha hb hf st hw
    refine codeAny_builtin PySem.F.entry_extend_loop ?_
    rw [Around.under_plainId PySem.F.plain_extend_loop _]
    show wpAny _ A1.in1 (pyNext (.ref z) >>= _) _ _ s
    have sS : Same H (upd H S (.lst acc)) := fun c o e => by rw [upd_ne (ne_of_none e hn)]; exact e
    have sT : ∀ {l : Addr} {xs : List V}, SqT X.K H l xs → SqT X.K (upd H S (.lst acc)) l xs := fun {l xs} h => by
      rcases h with (h | ⟨o, h⟩) | h
      · exact .inl (.inl (sS _ _ h))
      · exact .inl (.inr ⟨o, sS _ _ h⟩)
      · exact .inr h
    obtain ⟨its, rv, p1, _⟩ := I.tuple (sT ha)
    obtain ⟨its2, rv2, p2, _⟩ := I.tuple (sT hb)
    have hend : its.toArray[i]? = none ∨ its2.toArray[i]? = none := .inl (by have := rv.length; simp; omega)
    have hd : us.drop i = [] := List.drop_eq_nil_of_le (by omega)
    rw [hd] at hw
    have fin : ∀ h', (∀ c o, c ∉ [z, TI, TO, i1, i2] → s.heap.get? c = some o → h'.get? c = some o) → Rs (.ok (.ret .none)) { s with heap := h' } := fun h' k =>
      hdone acc H _ (I.turnedL (t' := s.toks) k hf) (by unfold zipW at hw; exact hw S hn)
    obtain ⟨hTI, h1, h2, ⟨x, y, hTO⟩, hz | ⟨T, f, oT, hz, hT, t1, t2, t3⟩⟩ := st
    · exact wpAny_bind (RZ.pyNext_zipT_end (A := A1.in1) hh D hz hTI hTO h1 h2 p1 p2 hend fun h' hk => wpAny_pure (fin h' fun c o hc e => hk c o (fun q => hc (by simp [q])) (fun q => hc (by simp [q])) (fun q => hc (by simp [q])) (fun q => hc (by simp [q])) e))
    · exact wpAny_bind (DLZ.next_end_held (A := A1.in1) hh D hz hT hTI h1 h2 p1 p2 hend fun h' hk => wpAny_pure (fin h' fun c o hc e => hk c o (fun q => hc (by simp [q])) (fun q => hc (by simp [q])) (fun q => hc (by simp [q])) e))
  | succ m ih =>
    intro i acc H s hm hacc hle I hn ha hb hf st hw
    refine codeAny_builtin PySem.F.entry_extend_loop ?_
    rw [Around.under_plainId PySem.F.plain_extend_loop _]
    show wpAny _ A1.in1 (pyNext (.ref z) >>= _) _ _ s
    have sS : Same H (upd H S (.lst acc)) := fun c o e => by rw [upd_ne (ne_of_none e hn)]; exact e
    have sT : ∀ {H H' : Hp} {l : Addr} {xs : List V}, Same H H' → SqT X.K H l xs → SqT X.K H' l xs := fun {H H' l xs} sS h => by
      rcases h with (h | ⟨o, h⟩) | h
      · exact .inl (.inl (sS _ _ h))
      · exact .inl (.inr ⟨o, sS _ _ h⟩)
      · exact .inr h
    obtain ⟨its, rv, p1, hl1⟩ := I.tuple (sT sS ha)
    obtain ⟨its2, rv2, p2, _⟩ := I.tuple (sT sS hb)
    have hi : i < us.length := by omega
    obtain ⟨u, hu, ru⟩ := rv.get (List.getElem?_eq_getElem hi)
    by_cases hj : i < vs.length
    · obtain ⟨v, hv, rv'⟩ := rv2.get (List.getElem?_eq_getElem hj)
      rw [List.drop_eq_getElem_cons hi, List.drop_eq_getElem_cons hj] at hw
      unfold zipW at hw
      have nf : H s.heap.objs.size = none := by
        have h1 := I.hok.fresh (Nat.le_refl s.heap.objs.size)
        by_cases e : s.heap.objs.size = S
        · rw [e]; exact hn
        · rw [upd_ne e] at h1; exact h1
      have hSlt : S < s.heap.objs.size := by
        obtain ⟨_, _, _, _, _, e⟩ := I.lstM (upd_same (H := H) (a := S) (o := .lst acc))
        exact Heap.lt_size e
      have hTS : s.heap.objs.size ≠ S := Nat.ne_of_gt hSlt
      have lt5 : ∀ c ∈ [z, TI, TO, i1, i2], c < s.heap.objs.size := by
        obtain ⟨hTI, h1, h2, ⟨x, y, hTO⟩, hzz⟩ := st
        obtain ⟨_, e1, _⟩ := h1
        obtain ⟨_, e2, _⟩ := h2
        intro c hc
        have e' : c = z ∨ c = TI ∨ c = TO ∨ c = i1 ∨ c = i2 := by simpa using hc
        rcases e' with q | q | q | q | q
        · rcases hzz with hz | ⟨T, f, oT, hz, _⟩
          · rw [q]; exact Heap.lt_size hz
          · rw [q]; exact Heap.lt_size hz
        · rw [q]; exact Heap.lt_size hTI
        · rw [q]; exact Heap.lt_size hTO
        · rw [q]; exact Heap.lt_size e1
        · rw [q]; exact Heap.lt_size e2
      -- what comes behind the pair
      have go : ∀ h', (∀ c o, c ∉ [z, TI, TO, i1, i2] → s.heap.get? c = some o → h'.get? c = some o) → IsPair h' s.heap.objs.size u v → ZSt z TI TO i1 i2 a b (i + 1) h' →
          wpAny (model X.prog X.w) A1.in1 (updateSeq S (·.push (Value.ref s.heap.objs.size)) >>= fun _ => again (.builtin "list.extend.loop" ⟨[.ref S, .ref z, .none], []⟩))
            (fun fin s' => match fin with | .done f => Rs (.ok f) s' | .again c' => c'.quiet = true ∧ codeAny (model X.prog X.w) A1 c' Rs s') (fun e s' => Rs (.error e) s') { s with heap := h' } := by
        intro h' hk hp st'
        have new : ObjOk X.prog X.w (upd (upd H S (.lst acc)) s.heap.objs.size (.tup [us[i], vs[i]])) h' s.heap.objs.size (.tup [us[i], vs[i]]) :=
          ⟨by show 2 ≤ sizeLine; decide, [u, v], .cons ru (.cons rv' .nil), ⟨_, hp, rfl, _, rfl⟩⟩
        have I1 := I.turnedNew (t' := s.toks) hk hf (Nat.le_refl _) new
        rw [upd_comm (Ne.symm hTS)] at I1
        obtain ⟨zz, jts, n, r, hl, e⟩ := I1.lstM upd_same
        have hacc' : acc.length < sizeLine := by omega
        refine wpAny_bind (wpAny_updateSeq e rfl (wpAny_pure ⟨plainId_quiet PySem.F.plain_extend_loop _, ?_⟩) (by rw [List.size_toArray]; omega) (by show (jts.toArray.push _).size ≤ sizeLine + 1; rw [Array.size_push, List.size_toArray]; omega))
        have I2 := I1.lset (f := (·.push (Value.ref s.heap.objs.size))) (its' := jts ++ [Value.ref s.heap.objs.size]) (ys := acc ++ [.ref s.heap.objs.size]) (t' := s.toks) upd_same e (by simp) (r.append (show Vals [V.ref s.heap.objs.size] [Value.ref s.heap.objs.size] from .cons rfl .nil)) (by rw [List.length_append, List.length_singleton]; omega)
        rw [upd_upd] at I2
        have sH : Same H (upd H s.heap.objs.size (.tup [us[i], vs[i]])) := fun c o e => by rw [upd_ne (ne_of_none e nf)]; exact e
        refine ih (i + 1) _ _ _ (by omega) (by simp [hacc]) (by omega) I2 (by rw [upd_ne (Ne.symm hTS)]; exact hn) (sT sH ha) (sT sH hb) (fun c hc => ?_) ?_ (hw _ nf)
        · obtain ⟨f1, f2⟩ := hf c hc
          refine ⟨?_, f2⟩
          have cS : c ≠ S := fun q => hS (by rw [← q]; exact hc)
          rw [upd_ne cS] at f1 ⊢
          rw [upd_ne (Nat.ne_of_lt (lt5 c hc))]; exact f1
        · have keep : ∀ c o, c ≠ S → h'.get? c = some o → (h'.update S (Obj.mapSeq (·.push (Value.ref s.heap.objs.size)))).get? c = some o := fun c o hc e => (Heap.get?_update_other _ _ (Ne.symm hc)).trans e
          have nS : ∀ c ∈ [z, TI, TO, i1, i2], c ≠ S := fun c hc q => hS (by rw [← q]; exact hc)
          obtain ⟨hTI, h1, h2, ⟨x, y, hTO⟩, hzz⟩ := st'
          refine ⟨keep _ _ (nS _ (by simp)) hTI, h1.at fun o e => keep _ o (nS _ (by simp)) e, h2.at fun o e => keep _ o (nS _ (by simp)) e, ⟨x, y, keep _ _ (nS _ (by simp)) hTO⟩, ?_⟩
          rcases hzz with hz | ⟨T, f, oT, hz, hT, t1, t2, t3⟩
          · exact .inl (keep _ _ (nS _ (by simp)) hz)
          · by_cases hTs : T = S
            · subst hTs
              exact .inr ⟨T, f, _, keep _ _ (nS _ (by simp)) hz, Heap.get?_update_self _ e (by rfl), t1, t2, t3⟩
            · exact .inr ⟨T, f, oT, keep _ _ (nS _ (by simp)) hz, keep _ _ hTs hT, t1, t2, t3⟩
      obtain ⟨hTI, h1, h2, ⟨x, y, hTO⟩, hz | ⟨T, f, oT, hz, hT, t1, t2, t3⟩⟩ := st
      · refine wpAny_bind (RZ.pyNext_zipT_item (A := A1.in1) D hz hTI hTO h1 h2 p1 p2 (x := u) (y := v) (by simpa using hu) (by simpa using hv) fun h' z' TO' h1' h2' hT hsz hk => ?_)
        have hk' : ∀ c o, c ∉ [z, TI, TO, i1, i2] → s.heap.get? c = some o → h'.get? c = some o := fun c o hc e => hk c o (fun q => hc (by simp [q])) (fun q => hc (by simp [q])) (fun q => hc (by simp [q])) (fun q => hc (by simp [q])) e
        exact go h' hk' hT ⟨hk _ _ D.TIz D.TITO D.TIi1 D.TIi2 hTI, h1', h2', ⟨_, _, TO'⟩, .inr ⟨_, false, _, z', hT, Nat.ne_of_gt (lt5 z (by simp)), Nat.ne_of_gt (lt5 i1 (by simp)), Nat.ne_of_gt (lt5 i2 (by simp))⟩⟩
      · refine wpAny_bind (DLZ.next_item_held (A := A1.in1) D hz hT hTI h1 h2 p1 p2 (x := u) (y := v) (by simpa using hu) (by simpa using hv) fun h' z' h1' h2' hP hsz hk => ?_)
        have hk' : ∀ c o, c ∉ [z, TI, TO, i1, i2] → s.heap.get? c = some o → h'.get? c = some o := fun c o hc e => hk c o (fun q => hc (by simp [q])) (fun q => hc (by simp [q])) (fun q => hc (by simp [q])) e
        exact go h' hk' hP ⟨hk _ _ D.TIz D.TIi1 D.TIi2 hTI, h1', h2', ⟨x, y, hk _ _ D.TOz D.TOi1 D.TOi2 hTO⟩, .inr ⟨T, true, _, z', hk _ _ t1 t2 t3 hT, t1, t2, t3⟩⟩
    · have hend : its.toArray[i]? = none ∨ its2.toArray[i]? = none := .inr (by have := rv2.length; simp; omega)
      have hd : vs.drop i = [] := List.drop_eq_nil_of_le (by omega)
      rw [hd] at hw
      have fin : ∀ h', (∀ c o, c ∉ [z, TI, TO, i1, i2] → s.heap.get? c = some o → h'.get? c = some o) → Rs (.ok (.ret .none)) { s with heap := h' } := fun h' k =>
        hdone acc H _ (I.turnedL (t' := s.toks) k hf) (by
          cases e : us.drop i with
          | nil => rw [e] at hw; unfold zipW at hw; exact hw S hn
          | cons _ _ => rw [e] at hw; unfold zipW at hw; exact hw S hn)
      obtain ⟨hTI, h1, h2, ⟨x, y, hTO⟩, hz | ⟨T, f, oT, hz, hT, t1, t2, t3⟩⟩ := st
      · exact wpAny_bind (RZ.pyNext_zipT_end (A := A1.in1) hh D hz hTI hTO h1 h2 p1 p2 hend fun h' hk => wpAny_pure (fin h' fun c o hc e => hk c o (fun q => hc (by simp [q])) (fun q => hc (by simp [q])) (fun q => hc (by simp [q])) (fun q => hc (by simp [q])) e))
      · exact wpAny_bind (DLZ.next_end_held (A := A1.in1) hh D hz hT hTI h1 h2 p1 p2 hend fun h' hk => wpAny_pure (fin h' fun c o hc e => hk c o (fun q => hc (by simp [q])) (fun q => hc (by simp [q])) (fun q => hc (by simp [q])) e))

/-- list(zip(..)) of two tuples -/
def tListZ (K : PySem.W.Frag) (ta : TA) : TE := fun σ H Q => ta σ H fun vs H1 => ∃ a b us ws, vs = [.ref a, .ref b] ∧ SqT K H1 a us ∧ SqT K H1 b ws ∧ zipW us ws [] H1 Q
theorem pe_listZ {e e2 : Expr} {ta : TA} {p pos p2 pos2 : Pos} (hc : X.calm = true) (hg : Gl X "zip") (hm : X.mg "zip" = none) (hg2 : Gl X "list") (hm2 : X.mg "list" = none) (ha : PA X [e, e2] ta)
    (hs : starEach [e, e2] X.env = (false, eval e X.env) :: starEach [e2] X.env := by rfl) (hpl : (backTo pos (starEach [e2] X.env)).any (·.1) = false := by rfl)
    (he : starEach [Expr.Call (.Name "zip" p) [e, e2] [] pos] X.env = (false, eval (.Call (.Name "zip" p) [e, e2] [] pos) X.env) :: starEach [] X.env := by rfl) :
    PE X (.Call (.Name "list" p2) [.Call (.Name "zip" p) [e, e2] [] pos] [] pos2) (tListZ X.K ta) := by
  refine ⟨fun pins s σ H Q I h => ?_⟩
  refine wpAny_Call_Name_kw (ld_blt I hg2 hm2 PyProof.Rows.boot_list ?_)
  refine PyProof.Rows.callWith_type1 ?_ he rfl
  rw [he]
  show wpAny _ _ (spliced ((false, eval (.Call (.Name "zip" p) [e, e2] [] pos) X.env) :: backTo pos2 (starEach [] X.env))) _ _ s
  refine Calls.spliced_cons ?_
  refine Call_ (ld_blt I hg hm PyProof.Rows.boot_zip (PyProof.Rows.callWith_type1 (thn (ha.run pos pins s σ H _ I h) fun vs0 s1 ⟨vs, H1, I1, r1, q1⟩ => ?_) hs hpl))
  obtain ⟨a, b, us, ws, ex, hqx, hqy, q⟩ := q1
  subst ex
  cases r1 with
  | cons r rr =>
    cases rr with
    | cons r' rr =>
      cases rr
      cases r
      cases r'
      obtain ⟨its, rv, p1, _⟩ := I1.tuple hqx
      obtain ⟨its2, rv2, p2, _⟩ := I1.tuple hqy
      obtain ⟨o1, ho1, _⟩ := id p1
      obtain ⟨o2, ho2, _⟩ := id p2
      refine RZ.call_zipT (show s1.heap.IsTuple a its.toArray from p1) (show s1.heap.IsTuple b its2.toArray from p2) fun h' hz hTI hTO h1 h2 hsz hk => ?_
      refine Calls.spliced_nil ?_
      have I2 : Inv X pins σ H1 { s1 with heap := h' } := I1.kept (t' := s1.toks) hk
      have fr2 : ∀ c, s1.heap.objs.size ≤ c → H1 c = none := fun c hle => I1.hok.fresh hle
      have inL : ∀ c ∈ [s1.heap.objs.size + 4, s1.heap.objs.size + 2, s1.heap.objs.size + 3, s1.heap.objs.size, s1.heap.objs.size + 1], s1.heap.objs.size ≤ c ∧ c < h'.objs.size := fun c hc => by
        have e' : c = s1.heap.objs.size + 4 ∨ c = s1.heap.objs.size + 2 ∨ c = s1.heap.objs.size + 3 ∨ c = s1.heap.objs.size ∨ c = s1.heap.objs.size + 1 := by simpa using hc
        have hsz : h'.objs.size = s1.heap.objs.size + 5 := hsz
        rcases e' with q | q | q | q | q <;> (rw [q]; omega)
      refine callType_codes (Q₁ := fun obj s₁ => obj = .ref h'.objs.size ∧ s₁ = { s1 with heap := h'.push { cls := .type "list", data := .seq #[] } }) PySem.F.called_list (PySem.F.typeCall_list_1 _) PySem.F.entry_list_init
        (code_list_new _ ⟨rfl, rfl⟩) fun obj s₁ h₁ => ?_
      obtain ⟨rfl, rfl⟩ := h₁
      have hS : (h'.push { cls := .type "list", data := .seq #[] }).get? h'.objs.size = some { cls := .type "list", data := .seq #[] } := Heap.get?_push_size _ rfl
      refine ⟨⟨_, hS, rfl⟩, PySem.F.args_list_init_2 _ _, ?_⟩
      have fr : H1 h'.objs.size = none := I2.hok.fresh (Nat.le_refl _)
      have I3 : Inv X pins σ (upd H1 h'.objs.size (.lst [])) { s1 with heap := h'.push { cls := .type "list", data := .seq #[] } } := I2.lnew (its := []) (t' := s1.toks) .nil (Nat.zero_le _)
      show wpAny _ _ (do let old ← Builtin.List.listItems (.ref h'.objs.size); Builtin.List.listUpdate (.ref h'.objs.size) (fun _ => #[]); letGo old.toList.reverse; Builtin.List.listExtendWith (.ref h'.objs.size) (.ref (s1.heap.objs.size + 4)) .none) _ _ _
      refine wpAny_bind ?_
      unfold Builtin.List.listItems
      refine wpAny_bind (wpAny_seqItems hS rfl (wpAny_pure ?_))
      show wpAny _ _ (updateSeq h'.objs.size (fun _ => #[]) >>= fun _ => letGo (#[] : Array Value).toList.reverse >>= fun _ => Builtin.List.listExtendWith (.ref h'.objs.size) (.ref (s1.heap.objs.size + 4)) .none) _ _ _
      refine wpAny_bind (wpAny_updateSeq hS rfl ?_)
      have I4 := I3.lset (f := fun _ => #[]) (its := []) (its' := []) (ys := []) (t' := s1.toks) upd_same hS rfl .nil (Nat.zero_le _)
      rw [upd_upd] at I4
      refine wpAny_bind (wpAny_letGo ?_)
      have keep : ∀ c o, c < h'.objs.size → h'.get? c = some o → ((h'.push { cls := .type "list", data := .seq #[] }).update h'.objs.size (Obj.mapSeq fun _ => #[])).get? c = some o := fun c o hc e =>
        (Heap.get?_update_other _ _ (Ne.symm (Nat.ne_of_lt hc))).trans (Heap.get?_push_of_some _ e)
      have D := PySem.W.ktu_apart s1.heap.objs.size a b (Heap.lt_size ho1) (Heap.lt_size ho2)
      have hz4 := keep _ _ (Heap.lt_size hz) hz
      have hTy : Shared.TypeIs { s1 with heap := (h'.push { cls := .type "list", data := .seq #[] }).update h'.objs.size (Obj.mapSeq fun _ => #[]) } (.ref (s1.heap.objs.size + 4)) "zip" := ⟨_, hz4, rfl⟩
      unfold Builtin.List.listExtendWith
      refine wpAny_bind (wpAny_typeOf hTy ?_)
      have g1 : Builtin.List.listSameRef (.ref h'.objs.size) (.ref (s1.heap.objs.size + 4)) = false := by
        have hne := Nat.ne_of_gt (inL (s1.heap.objs.size + 4) (by simp)).2
        show (h'.objs.size == s1.heap.objs.size + 4) = false
        exact beq_eq_false_iff_ne.mpr hne
      have g2 : (Value.type "zip" == Value.type "list") = false := by decide
      have g3 : (Value.type "zip" == Value.type "tuple") = false := by decide
      simp only [g1, g2, g3, Bool.or_false, Bool.false_eq_true, if_false]
      refine wpAny_bind (wpAny_pyIter_zip hz4 ?_)
      refine wpAny_bind (wpAny_holding (DLZ.zip_hint hTy ?_))
      show wpAny _ _ (rule "list.extend.makes-room" >>= fun _ => Builtin.List.listTouch (.ref h'.objs.size) >>= fun _ => again (.builtin "list.extend.loop" ⟨[.ref h'.objs.size, .ref (s1.heap.objs.size + 4), .none], []⟩)) _ _ _
      refine wpAny_bind (wpAny_rule ?_)
      refine wpAny_bind ?_
      obtain ⟨z5, its5, k5, r5, hl5, e5⟩ := I4.lstM upd_same
      cases r5
      show wpAny _ _ (updateSeq h'.objs.size (·.push .none) >>= fun _ => updateSeq h'.objs.size (·.pop)) _ _ _
      refine wpAny_bind (wpAny_updateSeq e5 rfl ?_)
      have I6 := I4.lset (f := (·.push Value.none)) (its' := [Value.none]) (ys := [.non]) (t' := s1.toks) upd_same e5 (by simp) (.cons rfl .nil) (by rw [List.length_singleton, sizeLine_eq]; decide)
      obtain ⟨z6, its6, k6, r6, hl6, e6⟩ := I6.lstM upd_same
      obtain ⟨u6, rfl, ru6⟩ := r6.one
      refine wpAny_updateSeq e6 rfl ?_ (by show 1 ≤ sizeLine; rw [sizeLine_eq]; decide) (by show 0 ≤ sizeLine + 1; exact Nat.zero_le _)
      have I7 := I6.lset (f := (·.pop)) (its := [u6]) (its' := []) (ys := []) (t' := s1.toks) upd_same e6 (by rfl) .nil (Nat.zero_le _)
      rw [upd_upd, upd_upd] at I7
      have nS : ∀ c ∈ [s1.heap.objs.size + 4, s1.heap.objs.size + 2, s1.heap.objs.size + 3, s1.heap.objs.size, s1.heap.objs.size + 1], c ≠ h'.objs.size := fun c hc => Nat.ne_of_lt (inL c hc).2
      have up : ∀ c ∈ [s1.heap.objs.size + 4, s1.heap.objs.size + 2, s1.heap.objs.size + 3, s1.heap.objs.size, s1.heap.objs.size + 1], ∀ o, h'.get? c = some o →
          ((((h'.push { cls := .type "list", data := .seq #[] }).update h'.objs.size (Obj.mapSeq fun _ => #[])).update h'.objs.size (Obj.mapSeq (·.push Value.none))).update h'.objs.size (Obj.mapSeq (·.pop))).get? c = some o := fun c hc o e =>
        (Heap.get?_update_other _ _ (Ne.symm (nS c hc))).trans ((Heap.get?_update_other _ _ (Ne.symm (nS c hc))).trans (keep c o (inL c hc).2 e))
      refine wpAny_pure ⟨plainId_quiet PySem.F.plain_extend_loop _, ?_⟩
      refine zip_loop (A1 := X.A.in1) (pins := pins) (σ := σ) (Q := Q) (us := us) (vs := ws) (I.ok.hd hc) D (fun hm => nS _ hm rfl)
        (fun acc H' s' I' hq => ⟨rfl, .ref h'.objs.size, _, I', rfl, hq⟩) us.length 0 [] H1 _ (by omega) rfl (Nat.zero_le _) I7 fr hqx hqy (fun c hc => ?_) ?_ (by simpa using q)
      · have := I1.fpOk (H' := upd H1 h'.objs.size (.lst [])) (inL c hc).1 (by rw [upd_ne (nS c hc)]; exact fr2 c (inL c hc).1)
        exact this
      · exact ⟨up _ (by simp) _ hTI, h1.at fun o e => up _ (by simp) o e, h2.at fun o e => up _ (by simp) o e, ⟨_, _, up _ (by simp) _ hTO⟩, .inl (up _ (by simp) _ hz)⟩
end
end L2
/-! a def that stands at the top, and its calls -/
namespace L2
open PySem PySem.Spec PyProof.Rows
/-- what a def is to those that call it -/
def Df (P : Program) (w : World) (K : PySem.W.Frag) (mg : Str → Option Value) (base : Heap) (x : Str) (st : Stmt) (ps : List Str) (k : Nat) (sp : Sp) : Prop :=
  ∃ (f : Addr) (fd : FuncData), FnOk P w K mg base (L2.CX P w) k f fd ps sp ∧ mg x = some (.ref f) ∧ PySem.W.keepIn K (.ref f) = true ∧ Binds K fd ps [] ∧ Fun K x x st f fd
section
variable {X : Cx} {W : WX} {x : Str} {st : Stmt} {ps : List Str} {k : Nat} {sp : Sp} {e : Expr} {es : List Expr} {t tk : TA} {p pos : Pos} {kws : List Keyword}
theorem pe_df (D : Df X.prog X.w X.K X.mg X.base x st ps k sp) (hr : Room k X.A) (hg : Gl X x) (tk : Takes X W) (ha : PA X (e :: es) t) (hdb : (x == ("__debug__" : Str)) = false := by decide)
    (he : starEach (e :: es) X.env = (false, eval e X.env) :: starEach es X.env := by rfl) (hpl : (backTo pos (starEach es X.env)).any (·.1) = false := by rfl) :
    PE X (.Call (.Name x p) (e :: es) [] pos) (tCallS sp (WE W) t) := by
  obtain ⟨f, fd, F, hm, hk, hb, _⟩ := D
  exact pe_callS F hr hg hm hk hb (fun σ => passAt tk σ) ha hdb he hpl
theorem pe_df0 (D : Df X.prog X.w X.K X.mg X.base x st ps k sp) (hr : Room k X.A) (hg : Gl X x) (tk : Takes X W) (hdb : (x == ("__debug__" : Str)) = false := by decide) :
    PE X (.Call (.Name x p) [] [] pos) (tCallS sp (WE W) tNil) := by
  obtain ⟨f, fd, F, hm, hk, hb, _⟩ := D
  refine ⟨fun pins s σ H Q I h => ?_⟩
  refine wpAny_Call_Name_kw (ld_glob I hg hm ?_ hdb)
  exact PySem.W.callWith_K0 I.kIn hk (run_fnS (us := []) (E := WE W) F hr hb (passAt tk σ) I .nil h)
/-- the arguments in the parameters' order -/
def pm {α : Type} (p : List Nat) (xs : List α) : List α := p.filterMap (xs[·]?)
theorem Vals.pm {vs : List V} {us : List Value} (r : Vals vs us) : ∀ p : List Nat, Vals (L2.pm p vs) (L2.pm p us)
  | [] => .nil
  | i :: p => by
    have ih := Vals.pm r p
    unfold L2.pm at ih ⊢
    rw [List.filterMap_cons, List.filterMap_cons]
    cases e : vs[i]? with
    | none =>
      have h1 : us[i]? = none := by
        have := List.getElem?_eq_none_iff.mp e
        exact List.getElem?_eq_none (by rw [← r.length]; exact this)
      rw [h1]; exact ih
    | some v =>
      obtain ⟨u, h1, h2⟩ := r.get e
      rw [h1]
      exact .cons h2 ih
def tCallKS (sp : Sp) (q : List Nat) (n m : Nat) (E : St → XK) (t tk : TA) : TE := fun σ H Q => t σ H fun vs H1 => tk σ H1 fun zs H2 => vs.length = n ∧ zs.length = m ∧ sp (pm q (vs ++ zs)) H2 Q (E σ)
def KwB (x : Str) (st : Stmt) (ps ks : List Str) (n : Nat) (q : List Nat) : Prop := ∀ (kV doc pm : Value) (an : Option Addr) (cdv ct : Value) (us ws : List Value), us.length = n → ws.length = ks.length →
  bindArgs (PySem.W.fnOf x x (defArgs st) (defBody st) (defScope st) .none kV doc pm an cdv ct) ⟨us, ks.zip ws⟩ = pure (ps.zip (L2.pm q (us ++ ws)))
theorem run_kw {ks : List Str} {q : List Nat} {n : Nat} {f : Addr} {fd : FuncData} {pins : List (Addr × Obj)} {σ : St} {H : Hp} {s : Shared} {Q : VK} {us ws : List Value} {vs zs : List V} (F : FnOk X.prog X.w X.K X.mg X.base (L2.CX X.prog X.w) k f fd ps sp) (FF : Fun X.K x x st f fd) (hb : KwB x st ps ks n q) (hr : Room k X.A) (tk : Takes X W)
    (hn : us.length = n) (hk : ws.length = ks.length) (I : Inv X pins σ H s) (r : Vals vs us) (rz : Vals zs ws) (h : sp (pm q (vs ++ zs)) H Q (WE W σ)) : wpAny (model X.prog X.w) X.A (call (.ref f) us (ks.zip ws)) (EP X pins σ Q) X.xe s := by
  obtain ⟨oc, od, kV, doc, pm0, an, cdv, ct, osl, rfl, lk, hcd⟩ := FF.ex
  have r2 := (r.append rz).pm q
  refine wpAny_call (codeAny_mono (F.run X.A X.stack s H ⟨us, ks.zip ws⟩ (pm q (us ++ ws)) (pm q (vs ++ zs)) Q (WE W σ) hr I.env0 (.of_eq (hb kV doc pm0 an cdv ct us ws hn hk)) r2 h) fun r s' hq => ?_)
  cases r with
  | error e => exact passAt tk σ pins H s e s' I hq
  | ok fl =>
    cases fl with
    | ret u => exact I.after hq
    | next => exact False.elim hq
    | brk => exact False.elim hq
    | cont => exact False.elim hq
theorem pe_kw {ks : List Str} {q : List Nat} {n : Nat} (D : Df X.prog X.w X.K X.mg X.base x st ps k sp) (hb : KwB x st ps ks n q) (hr : Room k X.A) (hg : Gl X x) (tk : Takes X W) (ha : PA X (e :: es) t) (hkw : PK X kws tk')
    (hall : (backToKw pos (keywordEach kws X.env)).all (·.1.isSome) = true := by rfl) (hks : (backToKw pos (keywordEach kws X.env)).filterMap (·.1) = ks := by rfl) (hdb : (x == ("__debug__" : Str)) = false := by decide)
    (he : starEach (e :: es) X.env = (false, eval e X.env) :: starEach es X.env := by rfl) (hpl : ((backTo pos (starEach (e :: es) X.env)).any (·.1) || (backToKw pos (keywordEach kws X.env)).any (·.1.isNone)) = false := by rfl) :
    PE X (.Call (.Name x p) (e :: es) kws pos) (tCallKS sp q n ks.length (WE W) t tk') := by
  obtain ⟨f, fd, F, hm, hk, _, FF⟩ := D
  refine ⟨fun pins s σ H Q I h => ?_⟩
  refine wpAny_Call_Name_kw (ld_glob I hg hm ?_ hdb)
  refine PySem.W.callWith_KW (h₀ := X.base) I.ok.mod.kin hk hall (thn (ha.run pos pins s σ H _ I h) fun us s1 ⟨vs, H1, I1, r, q1⟩ => ?_) hpl he
  refine thn (hkw.run pos pins s1 σ H1 _ I1 q1) fun ws s2 ⟨zs, H2, I2, rz, l1, l2, q2⟩ => ⟨I2.kIn, ?_⟩
  rw [hks]
  exact run_kw (us := us) (vs := vs) F FF hb hr tk (by rw [← r.length]; exact l1) (by rw [← rz.length]; exact l2) I2 r rz q2
theorem pe_kw0 {ks : List Str} {q : List Nat} (D : Df X.prog X.w X.K X.mg X.base x st ps k sp) (hb : KwB x st ps ks 0 q) (hr : Room k X.A) (hg : Gl X x) (tk : Takes X W) (hkw : PK X kws tk')
    (hall : (backToKw pos (keywordEach kws X.env)).all (·.1.isSome) = true := by rfl) (hks : (backToKw pos (keywordEach kws X.env)).filterMap (·.1) = ks := by rfl) (hdb : (x == ("__debug__" : Str)) = false := by decide)
    (hpl : ((backTo pos (starEach [] X.env)).any (·.1) || (backToKw pos (keywordEach kws X.env)).any (·.1.isNone)) = false := by rfl) :
    PE X (.Call (.Name x p) [] kws pos) (tCallKS sp q 0 ks.length (WE W) tNil tk') := by
  obtain ⟨f, fd, F, hm, hk, _, FF⟩ := D
  refine ⟨fun pins s σ H Q I h => ?_⟩
  refine wpAny_Call_Name_kw (ld_glob I hg hm ?_ hdb)
  refine PySem.W.callWith_KW0 (h₀ := X.base) I.ok.mod.kin hk hall ?_ hpl
  refine thn (hkw.run pos pins s σ H _ I h) fun ws s2 ⟨zs, H2, I2, rz, l1, l2, q2⟩ => ⟨I2.kIn, ?_⟩
  rw [hks]
  exact run_kw (us := []) (vs := []) F FF hb hr tk rfl (by rw [← rz.length]; exact l2) I2 .nil rz q2
end
theorem Room.u65 {k : Nat} {A : Around} (r : Room k A) : A.units + 65 < cLine := by have := r.un; omega
theorem Room.u64 {k : Nat} {A : Around} (r : Room k A) : A.units + 64 < cLine := by have := r.un; omega
theorem Room.u1 {k : Nat} {A : Around} (r : Room k A) : A.units + 1 < cLine := by have := r.un; omega
section
variable {X : Cx} {tg : Expr}
/-- for x in a list or a tuple -/
def iAny (K : PySem.W.Frag) (tl : TE) : TI := fun σ H R => tl σ H fun x H1 => (∃ a, x = .ref a ∧ (∃ xs, SqL K H1 a xs) ∧ R (Itl K a) H1) ∨ (∃ a, x = .ref a ∧ (∃ xs, SqT K H1 a xs) ∧ R (Itt K a) H1)
theorem pi_any {l : Expr} {tl : TE} (hl : PE X l tl) : PI X tg l (iAny X.K tl) := by
  refine ⟨fun pins s σ H R I h => ?_⟩
  refine thn (hl.run pins s σ H _ I h) fun v s1 ⟨x, H1, I1, r1, q1⟩ => ?_
  rcases q1 with ⟨a, e, ⟨xs, hq⟩, q⟩ | ⟨a, e, ⟨xs, hq⟩, q⟩
  · subst e
    cases r1
    obtain ⟨its, rv, p, hz⟩ := I1.list hq
    refine wpAny_pyIter_list p.isList ?_
    refine ⟨s1.heap.objs.size, [s1.heap.objs.size], _, _, H1, rfl, I1.kept (t' := s1.toks) fun b o e => Heap.get?_push_of_some _ e, turn_list a _, ⟨_, Heap.get?_push_size _ rfl, rfl, rfl⟩, fun b hb => ?_, q⟩
    have e : b = s1.heap.objs.size := by simpa using hb
    subst e
    exact I1.fpOk (Nat.le_refl _) (I1.hok.fresh (Nat.le_refl _))
  · subst e
    cases r1
    obtain ⟨its, rv, p, hz⟩ := I1.tuple hq
    refine wpAny_pyIter_tuple (show s1.heap.IsTuple a its.toArray from p) ?_
    refine ⟨s1.heap.objs.size, [s1.heap.objs.size], _, _, H1, rfl, I1.kept (t' := s1.toks) fun b o e => Heap.get?_push_of_some _ e, turn_tuple a _, ⟨_, Heap.get?_push_size _ rfl, rfl, rfl⟩, fun b hb => ?_, q⟩
    have e : b = s1.heap.objs.size := by simpa using hb
    subst e
    exact I1.fpOk (Nat.le_refl _) (I1.hok.fresh (Nat.le_refl _))
end
end L2
namespace DL
open PySem L2
section
variable {K : PySem.W.Frag} {mg : Mg} {W : Wc} {C : Cf} {Γ Γ' : List Sh} {s sr : Sh} {te ta tb : TE} {tt : TT} {fa fe : ER D} {ft : ER Bool}
/-! ### own things move -/
def eMove (i : Nat) : ER D := fun ρ => match ρ[i]? with
  | some (some d) => .ok d (ρ.set i none)
  | _ => .stuck
theorem eok_move {i : Nat} {l : Sh} (hs : Γ[i]? = some l) : EOk K mg W Γ (tVar i) l (eMove i) := by
  intro B R H σ ρ Q pw O hl
  unfold eMove at hl
  cases e0 : ρ[i]? with
  | none => rw [e0] at hl; exact hl.elim
  | some o =>
    cases o with
    | none => rw [e0] at hl; exact hl.elim
    | some d =>
      rw [e0] at hl
      obtain ⟨F, Wf⟩ := O.own
      obtain ⟨v, h1, h2⟩ := Wf.at_ i d l e0 hs
      refine ⟨v, h1, hl B H v (Same.refl _) ?_⟩
      refine ⟨O.sb, O.sr, by simp [O.lσ], by simp [O.lρ], O.br, fun j => match j with | 0 => F i | j + 1 => if j = i then [] else F j, ⟨fun j e s' h hs' => ?_, fun j p hp => ?_, fun j => ?_, fun j k p h3 h4 => ?_⟩⟩
      · cases j with
        | zero => simp at h hs'; subst h hs'; exact ⟨v, rfl, h2⟩
        | succ j =>
          have h : (ρ.set i none)[j]? = some (some e) := by simpa using h
          by_cases hj : j = i
          · subst hj
            by_cases hlt : j < ρ.length
            · rw [List.getElem?_set_self hlt] at h; cases h
            · rw [List.getElem?_eq_none (by simpa using hlt)] at h; cases h
          · rw [List.getElem?_set_ne (Ne.symm hj)] at h
            simp only [hj, if_false]
            exact Wf.at_ j e s' h (by simpa using hs')
      · cases j with
        | zero => exact Wf.no i p hp
        | succ j =>
          by_cases hj : j = i
          · simp [hj] at hp
          · simp only [hj, if_false] at hp; exact Wf.no j p hp
      · cases j with
        | zero => exact Wf.nd i
        | succ j =>
          by_cases hj : j = i
          · simp [hj]
          · simp only [hj, if_false]; exact Wf.nd j
      · cases j with
        | zero =>
          cases k with
          | zero => rfl
          | succ k =>
            by_cases hk : k = i
            · simp [hk] at h4
            · simp only [hk, if_false] at h4; exact absurd (Wf.dj _ _ p h4 h3) hk
        | succ j =>
          by_cases hj : j = i
          · simp [hj] at h3
          · simp only [hj, if_false] at h3
            cases k with
            | zero => exact absurd (Wf.dj _ _ p h3 h4) hj
            | succ k =>
              by_cases hk : k = i
              · simp [hk] at h4
              · simp only [hk, if_false] at h4
                rw [Wf.dj _ _ p h3 h4]
/-! ### assignments that keep the shapes -/
theorem set_same {i : Nat} (hs : Γ[i]? = some s) : Γ.set i s = Γ := by
  refine List.ext_getElem? fun j => ?_
  by_cases h : i = j
  · subst h
    rw [List.getElem?_set_self (List.getElem?_eq_some_iff.mp hs).1, hs]
  · rw [List.getElem?_set_ne h]
theorem sok_setK {i : Nat} (ag : C.ag Γ) (hp : i ∉ C.pn) (hs : Γ[i]? = some s) (h : EOk K mg C.W Γ te s fe) : SOk K mg C Γ Γ (tAsg te (gName i)) (sSet i fe) := by
  have := sok_set ag hp h
  rwa [set_same hs] at this
theorem gok_nameK {i : Nat} (hs : Γ[i]? = some .pu) : GOk (K := K) Γ Γ [i] (gName i) (gN i) := by
  have := gok_name (K := K) (Γ := Γ) (i := i)
  rwa [set_same hs] at this
theorem sok_parK {i j : Nat} {ta : TA} {fa : ER (List D)} (ag : C.ag Γ) (hi : i ∉ C.pn) (hj : j ∉ C.pn) (hs : Γ[i]? = some .pu) (hs2 : Γ[j]? = some .pu) (h : AOk K mg C.W Γ ta fa) : SOk K mg C Γ Γ (tPar i j ta) (sPar i j fa) := by
  have := sok_par ag hi hj h
  rwa [set_same hs, set_same hs2] at this
theorem sok_augK {i : Nat} {r : R2} {g : D → D → Option D} (ag : C.ag Γ) (hi : i ∉ C.pn) (hs : Γ[i]? = some .pu) (hr : R2Ok K r .pu g) (h : EOk K mg C.W Γ te .pu fe) : SOk K mg C Γ Γ (tAug i te r) (sAug g i fe) := by
  have := sok_aug ag hi hs hr h
  rwa [set_same hs] at this
end
end DL
namespace DL
open PySem L2
section
variable {K : PySem.W.Frag} {mg : Mg} {W : Wc} {C : Cf} {Γ Γ' : List Sh} {s sr : Sh} {te ta tb : TE} {tt : TT} {fa fe : ER D} {ft : ER Bool}
/-! ### for over a list or a tuple -/
def iA (f : ER D) : ER (List D) := fun ρ => (f ρ).bind fun d ρ => match d with
  | .lst ds => .ok ds ρ
  | .tup ds => .ok ds ρ
  | .scr ns => .ok (ns.map .int) ρ
  | _ => .stuck
theorem iok_any {te : TE} {f : ER D} (h : EOk K mg W Γ te .pu f) : IOk K mg W Γ (iAny K te) (iA f) := by
  intro B R H σ ρ Q pw O hl
  unfold iA at hl
  refine h B R H σ ρ _ pw O ?_
  cases e : f ρ with
  | stuck => rw [e] at hl; exact hl
  | exc x ρ1 => rw [e] at hl; exact hl
  | ok d ρ1 =>
    rw [e] at hl
    intro B1 H1 v s1 O1
    have rv := O1.top
    simp only [Res.bind] at hl
    split at hl
    · obtain ⟨a, vs, rfl, ha, ra⟩ := repL rv
      exact .inl ⟨a, rfl, ⟨vs, SqL.of (O1.sb _ _ ha)⟩, hl B1 H1 _ s1 O1.pop (walk_list (SqL.of ha) ra)⟩
    · obtain ⟨a, vs, rfl, ha, ra⟩ := repT rv
      exact .inr ⟨a, rfl, ⟨vs, sameT O1.sb ha⟩, hl B1 H1 _ s1 O1.pop (walk_tup ha ra)⟩
    · obtain ⟨a, rfl, ha⟩ := repX rv
      exact .inl ⟨a, rfl, ⟨_, O1.sb.seq ha⟩, hl B1 H1 _ s1 O1.pop (walk_list ha (reps_int _))⟩
    · exact hl.elim
/-! ### list(zip(..)) -/
def zipD : List D → List D → List D
  | a :: as, b :: bs => .tup [a, b] :: zipD as bs
  | _, _ => []
theorem zipW_ok {R : Hp} {σ : L2.St} {ρ : Env} {Q : VK} : ∀ {us ws acc : List V} {xs ys as : List D} {B H : Hp}, Reps K B us xs → Reps K B ws ys → Reps K B acc as → Ok K Γ B R H σ ρ →
    (∀ B' H' w, Same B B' → Ok K (.ls :: Γ) B' R H' (some w :: σ) (some (.lst (as ++ zipD xs ys)) :: ρ) → Q w H') → zipW us ws acc H Q
  | [], _, acc, xs, ys, as, B, H, ru, rw, ra, O, k => by
    cases ru
    unfold zipW
    refine fun p hp => k B _ _ (Same.refl _) ?_
    have e : zipD [] ys = [] := by unfold zipD; rfl
    rw [e, List.append_nil]
    exact O.pushN hp ra
  | u :: us, [], acc, xs, ys, as, B, H, ru, rw, ra, O, k => by
    cases rw
    unfold zipW
    refine fun p hp => k B _ _ (Same.refl _) ?_
    have e : zipD xs [] = [] := by cases xs <;> (unfold zipD; rfl)
    rw [e, List.append_nil]
    exact O.pushN hp ra
  | u :: us, w :: ws, acc, xs, ys, as, B, H, ru, rw', ra, O, k => by
    cases ru with
    | cons u1 u2 =>
      cases rw' with
      | cons w1 w2 =>
        rename_i x xs y ys
        unfold zipW
        intro T hT
        obtain ⟨B', s', O'⟩ := O.layTup hT (.cons u1 (.cons w1 .nil))
        have rt : Rep K B' (.ref T) (.tup [x, y]) := O'.top
        refine zipW_ok (as := as ++ [.tup [x, y]]) (u2.mono s') (w2.mono s') ((ra.mono s').snoc rt) O'.pop fun B2 H2 v s2 O2 => k B2 H2 v (s'.trans s2) ?_
        have e : zipD (x :: xs) (y :: ys) = .tup [x, y] :: zipD xs ys := by rfl
        rw [e]
        rw [List.append_assoc] at O2
        exact O2
def eListZ (f : ER (List D)) : ER D := fun ρ => (f ρ).bind fun ds ρ => match ds with
  | [.tup xs, .tup ys] => .ok (.lst (zipD xs ys)) ρ
  | _ => .stuck
theorem eok_listZ {ta : TA} {f : ER (List D)} (ha : AOk K mg W Γ ta f) : EOk K mg W Γ (tListZ K ta) .ls (eListZ f) := by
  intro B R H σ ρ Q pw O hl
  unfold eListZ at hl
  refine ha B R H σ ρ _ pw O ?_
  cases e : f ρ with
  | stuck => rw [e] at hl; exact hl
  | exc x ρ1 => rw [e] at hl; exact hl
  | ok ds ρ1 =>
    rw [e] at hl
    intro B1 H1 vs s1 O1 r1
    simp only [Res.bind] at hl
    split at hl
    · obtain ⟨v, u, rfl, rv, ru⟩ := reps2 r1
      obtain ⟨a, us, rfl, h1, h2⟩ := repT rv
      obtain ⟨b, ws, rfl, h3, h4⟩ := repT ru
      exact ⟨a, b, us, ws, rfl, sameT O1.sb h1, sameT O1.sb h3, zipW_ok h2 h4 .nil O1 fun B' H' w s' O' => hl B' H' w (s1.trans s') O'⟩
    · exact hl.elim
/-! ### calls with keywords -/
def aKw (q : List Nat) (n m : Nat) (fa fk : ER (List D)) : ER (List D) := fun ρ => (fa ρ).bind fun ds ρ => (fk ρ).bind fun es ρ => if ds.length = n ∧ es.length = m then .ok (pm q (ds ++ es)) ρ else .stuck
theorem Reps.pm {B : Hp} {vs : List V} {ds : List D} (r : Reps K B vs ds) : ∀ q : List Nat, Reps K B (L2.pm q vs) (L2.pm q ds)
  | [] => .nil
  | i :: q => by
    have ih := Reps.pm r q
    unfold L2.pm at ih ⊢
    rw [List.filterMap_cons, List.filterMap_cons]
    cases e : ds[i]? with
    | none =>
      have h1 : vs[i]? = none := by
        have := List.getElem?_eq_none_iff.mp e
        exact List.getElem?_eq_none (by rw [r.length]; exact this)
      rw [h1]; exact ih
    | some d =>
      obtain ⟨v, h1, h2⟩ := r.get e
      rw [h1]
      exact .cons h2 ih
theorem aok_kw {q : List Nat} {n m : Nat} {t tk : TA} {fa fk : ER (List D)} (ha : AOk K mg W Γ t fa) (hk : AOk K mg W Γ tk fk) : AOk K mg W Γ (fun σ H Q => t σ H fun vs H1 => tk σ H1 fun zs H2 => vs.length = n ∧ zs.length = m ∧ Q (L2.pm q (vs ++ zs)) H2) (aKw q n m fa fk) := by
  intro B R H σ ρ Q pw O hl
  unfold aKw at hl
  refine ha B R H σ ρ _ pw O ?_
  cases e : fa ρ with
  | stuck => rw [e] at hl; exact hl
  | exc x ρ1 => rw [e] at hl; exact hl
  | ok ds ρ1 =>
    rw [e] at hl
    simp only [Res.bind] at hl
    intro B1 H1 vs s1 O1 r1
    refine hk B1 R H1 σ ρ1 _ pw O1 ?_
    cases e2 : fk ρ1 with
    | stuck => rw [e2] at hl; exact hl
    | exc x ρ2 => rw [e2] at hl; exact XLand.mono hl s1
    | ok es ρ2 =>
      rw [e2] at hl
      simp only at hl
      intro B2 H2 zs s2 O2 r2
      by_cases hc : ds.length = n ∧ es.length = m
      · rw [if_pos hc] at hl
        refine ⟨by rw [r1.length]; exact hc.1, by rw [r2.length]; exact hc.2, hl B2 H2 _ (s1.trans s2) O2 ?_⟩
        exact ((r1.mono s2).append r2).pm q
      · rw [if_neg hc] at hl; exact hl.elim
theorem eok_callK {f : Den} {n m N : Nat} {q : List Nat} {t tk : TA} {fa fk : ER (List D)} (ha : AOk K mg W Γ t fa) (hk : AOk K mg W Γ tk fk) :
    EOk K mg W Γ (tCallKS (spD K mg (List.replicate N .pu) sr f) q n m (WE W.W) t tk) sr (eCall N f (aKw q n m fa fk)) :=
  eok_call (W := W) (n := N) (f := f) (aok_kw (q := q) (n := n) (m := m) ha hk)
/-! ### own lists: slices, list(x), tuple(x) -/
def eSlO (i : Nat) (fl fh : ER (Option Int)) : ER D := fun ρ => match ρ[i]? with
  | some (some _) => (fl ρ).bind fun lo ρ => (fh ρ).bind fun hi ρ => match ρ[i]? with
    | some (some (.lst ds)) => .ok (.lst (cutD ds lo hi)) ρ
    | _ => .stuck
  | _ => .stuck
theorem eok_slO {i : Nat} {tl th : TO} {fl fh : ER (Option Int)} (hs : Γ[i]? = some .ls) (hl : POk K mg W Γ tl fl) (hh : POk K mg W Γ th fh) : EOk K mg W Γ (tSl (rSlL K) (tVar i) tl th) .ls (eSlO i fl fh) := by
  intro B R H σ ρ Q pw O hd
  unfold eSlO at hd
  cases e0 : ρ[i]? with
  | none => rw [e0] at hd; exact hd.elim
  | some o =>
    cases o with
    | none => rw [e0] at hd; exact hd.elim
    | some d0 =>
      rw [e0] at hd
      simp only at hd
      obtain ⟨v0, hv0⟩ := some_get O e0 hs
      refine ⟨v0, hv0, hl B R H σ ρ _ pw O ?_⟩
      cases e1 : fl ρ with
      | stuck => rw [e1] at hd; exact hd
      | exc x ρ2 => rw [e1] at hd; exact hd
      | ok lo ρ1 =>
        rw [e1] at hd
        simp only [Res.bind] at hd
        intro B1 H1 s1 O1
        refine hh B1 R H1 σ ρ1 _ pw O1 ?_
        cases e2 : fh ρ1 with
        | stuck => rw [e2] at hd; exact hd
        | exc x ρ2 => rw [e2] at hd; exact XLand.mono hd s1
        | ok hi ρ2 =>
          rw [e2] at hd
          simp only at hd
          intro B2 H2 s2 O2
          split at hd
          · rename_i ds he
            obtain ⟨p, vs, q2, q3, q4⟩ := O2.getLs he hs
            rw [hv0] at q2; cases q2
            exact ⟨p, vs, rfl, SqL.of q3, fun a ha => hd B2 _ _ (s1.trans s2) (O2.pushN ha (q4.cut lo hi))⟩
          · exact hd.elim
def eCpO (i : Nat) : ER D := fun ρ => match ρ[i]? with
  | some (some (.lst ds)) => .ok (.lst ds) ρ
  | _ => .stuck
def eTpO (i : Nat) : ER D := fun ρ => match ρ[i]? with
  | some (some (.lst ds)) => .ok (.tup ds) ρ
  | _ => .stuck
theorem eok_listO {i : Nat} (hs : Γ[i]? = some .ls) : EOk K mg W Γ (tCB (rList K) (tCons (tVar i) tNil)) .ls (eCpO i) := by
  intro B R H σ ρ Q pw O hd
  unfold eCpO at hd
  split at hd
  · rename_i ds he
    obtain ⟨p, vs, q2, q3, q4⟩ := O.getLs he hs
    exact ⟨_, q2, p, vs, rfl, .inl (SqL.of q3), fun l hl => hd B _ _ (Same.refl _) (O.pushN hl q4)⟩
  · exact hd.elim
theorem eok_tupleO {i : Nat} (hs : Γ[i]? = some .ls) : EOk K mg W Γ (tCB (rTuple K) (tCons (tVar i) tNil)) .pu (eTpO i) := by
  intro B R H σ ρ Q pw O hd
  unfold eTpO at hd
  split at hd
  · rename_i ds he
    obtain ⟨p, vs, q2, q3, q4⟩ := O.getLs he hs
    refine ⟨_, q2, p, vs, rfl, .inl ⟨SqL.of q3, fun l hl => ?_⟩⟩
    obtain ⟨B', s', O'⟩ := O.layTup hl q4
    exact hd B' _ _ s' O'
  · exact hd.elim
/-! ### the head: a law's own promise -/
theorem law_ok {f : Den} {H : Hp} {a : Addr} {ns : List Int} (hS : SqL K H a (ns.map V.int)) (hO : Only H) (h : ∃ outs, f [.scr ns] = .ret (.bl true) outs) : spD K mg [.pu] .pu f [.ref a] H (fun v _ => v = .bl true) fun _ _ _ => False := by
  obtain ⟨outs, h⟩ := h
  refine ⟨H, fun _ => none, [.scr ns], ?_, ?_⟩
  · exact ⟨Same.refl _, fun a o e => (by cases e), rfl, rfl, fun p o e => (by cases e), fun _ => [], ⟨fun i d s h hs => by
      cases i with
      | zero => simp at h hs; subst h hs; exact ⟨.ref a, rfl, .scr hS, rfl⟩
      | succ i => simp at h, fun i p hp => absurd hp (by simp), fun _ => List.nodup_nil, fun i j p hp => absurd hp (by simp)⟩⟩
  · rw [h]
    intro B' H' v sb O
    exact repB O.top
end
end DL
namespace L2
open PySem PySem.Spec PyProof.Rows
def tTryAs (K : PySem.W.Frag) (c : Value) (i : Nat) (tb : WX → TS) (ts : Addr → Value → Option Addr → TS) (W : WX) : TS := fun D σ H => tb (wAs K c i ts W D) D σ H
def tTryO (K : PySem.W.Frag) (c : Value) (tb : WX → TS) (ts : Addr → Value → Option Addr → TS) (W : WX) : TS := fun D σ H => tb (wOnly K c ts W D) D σ H
section
variable {X : Cx} {x n : Str} {c : Value} {i : Nat} {np pos pos' : Pos} {body suite : List Stmt} {b₀ : Stmt} {tb : WX → TS} {ts : Addr → Value → Option Addr → TS} {Wout : WX}
theorem ps_tryA (hs : X.stack = X.env :: X.outer) (hf : X.env.frame = some X.env.locals) (hN : X.N.Nodup) (hi : X.N[i]? = some n) (hln : X.env.kindOf n = some .local) (hc : Names X x c) (tk : Takes X Wout)
    (hb : ∀ (W : WX) (pn : List (Addr × Obj)) (xe : Value → Shared → Prop), Takes (X.tr pn xe) W → PassesOwn (model X.prog X.w) X.A X.env xe → PSs (X.tr pn xe) body (tb W))
    (hsu : ∀ (a : Addr) (oe : Obj) (cls : Value) (d : Option Addr) (pn : List (Addr × Obj)), Zc cls d oe → (∃ vs, oe.data = .fields vs) → PSs (X.suite a ((a, oe) :: pn)) (b₀ :: suite) (ts a cls d)) :
    PS X (.Try body [.ExceptHandler (some (.Name x np)) (some n) (b₀ :: suite) pos'] [] [] pos) (tTryAs X.K c i tb ts Wout) := ps_try_as hs hf hN hi hln hc tk hb hsu
end
end L2
namespace DL
open PySem L2
theorem np {i : Nat} {l : List Nat} (h : l.elem i = false) : i ∉ l := fun q => by
  rw [List.elem_eq_contains] at h
  have := List.contains_iff_mem.mpr q
  rw [h] at this; cases this
theorem np2 {tv l : List Nat} (h : tv.all (fun i => !l.elem i) = true) : ∀ i ∈ tv, i ∉ l := fun i hi => np (by
  have := List.all_eq_true.mp h i hi
  simpa using this)
section
variable {K : PySem.W.Frag} {mg : Mg}
/-- what a clause says of errors, by their classes -/
def CsOk (K : PySem.W.Frag) (mg : Mg) (c : Value) : List (Nat × Bool) → Prop
  | [] => True
  | p :: r => (∃ C, mg (clsN p.1) = some (.ref C) ∧ PySem.W.exmOne K (.ref C) c = some p.2) ∧ CsOk K mg c r
theorem cs_of {c : Value} : ∀ {cs : List (Nat × Bool)}, CsOk K mg c cs → ∀ k b, cs.lookup k = some b → ∀ C0, mg (clsN k) = some (.ref C0) → PySem.W.exmOne K (.ref C0) c = some b
  | [], _, k, b, h, _, _ => by cases h
  | (k0, b0) :: cs, ⟨⟨C, g, m⟩, r⟩, k, b, h, C0, g0 => by
    rw [List.lookup_cons] at h
    by_cases e : k = k0
    · subst e
      have e2 : (k == k) = true := by simp
      rw [e2] at h
      cases h
      rw [g] at g0; cases g0
      exact m
    · have e2 : (k == k0) = false := by simpa using e
      rw [e2] at h
      exact cs_of r k b h C0 g0
def IsOk (K : PySem.W.Frag) (mg : Mg) (Cx : Addr) : List (Nat × Bool) → Prop
  | [] => True
  | p :: r => (∃ C, mg (clsN p.1) = some (.ref C) ∧ ExcC K C ∧ PySem.W.kitOne K (.ref C) (.ref Cx) = some p.2) ∧ IsOk K mg Cx r
theorem is_of {Cx : Addr} : ∀ {cs : List (Nat × Bool)}, IsOk K mg Cx cs → ∀ k b, cs.lookup k = some b → ∀ C0, mg (clsN k) = some (.ref C0) → ExcC K C0 ∧ PySem.W.kitOne K (.ref C0) (.ref Cx) = some b
  | [], _, k, b, h, _, _ => by cases h
  | (k0, b0) :: cs, ⟨⟨C, g, m⟩, r⟩, k, b, h, C0, g0 => by
    rw [List.lookup_cons] at h
    by_cases e : k = k0
    · subst e
      have e2 : (k == k) = true := by simp
      rw [e2] at h
      cases h
      rw [g] at g0; cases g0
      exact m
    · have e2 : (k == k0) = false := by simpa using e
      rw [e2] at h
      exact is_of r k b h C0 g0
/-- an error of the class at S, a clause that names T -/
theorem exm_of {S T : Addr} {b : Bool} (h1 : PySem.W.subIn K (.ref S) (.type "BaseException") = some true) (h0 : PySem.W.subIn K (.ref T) (.type "BaseException") = some true) (h2 : PySem.W.isClsIn K T = true) (h3 : PySem.W.typeIn K (.ref T) = some (.type "type")) (h4 : PySem.W.subIn K (.ref S) (.ref T) = some b) :
    PySem.W.exmOne K (.ref S) (.ref T) = some b := by
  have e1 : (PySem.W.subIn K (.ref T) (.type "BaseException") == some true) = true := by rw [h0] <;> rfl
  have e2 : ((PySem.W.clsIn K T).isSome && PySem.W.typeIn K (.ref T) == some (.type "type")) = true := by
    have h2' : (PySem.W.clsIn K T).isSome = true := h2
    rw [h2', h3] <;> rfl
  show (if (PySem.W.subIn K (.ref T) (.type "BaseException") == some true) = true then (if ((PySem.W.clsIn K T).isSome && PySem.W.typeIn K (.ref T) == some (.type "type")) = true then PySem.W.subIn K (.ref S) (.ref T) else none) else none) = some b
  rw [if_pos e1, if_pos e2]
  exact h4
theorem sok_tryA {C : Cf} {Γ Γ' : List Sh} {c : Value} {i : Nat} {cs : List (Nat × Bool)} {tb : WX → TS} {ts : Addr → Value → Option Addr → TS} {fb : DL.Env → Out} {fsu : Ex → DL.Env → Out} (ag : C.ag Γ) (hi : i ∉ C.pn) (hΓ : Γ[i]? = some .pu)
    (hcs : CsOk K mg c cs)
    (hb : ∀ W', SOk K mg (cfTry C Γ W') Γ Γ' (tb W') fb)
    (hsu : ∀ a e cls p l, ExV K mg e cls l → SOk K mg (cfSu C i a p l) Γ Γ' (ts a cls (some p)) (fsu e)) :
    SOk K mg C Γ Γ' (tTryAs K c i tb ts C.W.W) (sTryAs i cs fb fsu) := sok_try_as ag (.inr trivial) hi hΓ (cs_of hcs) hb hsu
theorem nn_ret {f : ER D} : ∀ ρ ρ', sRet f ρ ≠ .nx ρ' := fun ρ ρ' h => by
  unfold sRet at h
  cases e : f ρ <;> (rw [e] at h; cases h)
theorem nn_raise {c : Nat} {fs : List Str} {f : ER (List D)} : ∀ ρ ρ', sRaise c fs f ρ ≠ .nx ρ' := fun ρ ρ' h => by
  unfold sRaise at h
  cases e : f ρ with
  | ok ds ρ1 =>
    rw [e] at h
    simp only [Res.out] at h
    split at h <;> cases h
  | exc _ _ => rw [e] at h; cases h
  | stuck => rw [e] at h; cases h
theorem nn_seq {f g : DL.Env → Out} (hg : ∀ ρ ρ', g ρ ≠ .nx ρ') : ∀ ρ ρ', sSeq f g ρ ≠ .nx ρ' := fun ρ ρ' h => by
  unfold sSeq at h
  cases e : f ρ with
  | nx ρ1 => rw [e] at h; exact hg _ _ h
  | _ => rw [e] at h; cases h
theorem nn_if {t : ER Bool} {f g : DL.Env → Out} (hf : ∀ ρ ρ', f ρ ≠ .nx ρ') (hg : ∀ ρ ρ', g ρ ≠ .nx ρ') : ∀ ρ ρ', sIf t f g ρ ≠ .nx ρ' := fun ρ ρ' h => by
  unfold sIf at h
  cases e : t ρ with
  | ok b ρ1 =>
    rw [e] at h
    cases b with
    | true => exact hf _ _ h
    | false => exact hg _ _ h
  | exc _ _ => rw [e] at h; cases h
  | stuck => rw [e] at h; cases h
theorem cx_no {P : Program} {w : World} {outer : List PySem.Env} {H : Hp} {s : Shared} {e : Value} {s' : Shared} (h : L2.CX P w outer H s (fun _ _ _ => False) e s') : False := by
  obtain ⟨_, _, _, _, _, _, _, _, _, _, _, _, z⟩ := h
  exact z
/-- the law's promise for every table of globals -/
def spLaw (f : Den) (K : PySem.W.Frag) : Sp := fun vs H Q E => ∀ mg : Mg, spD K mg (List.replicate 1 .pu) .pu f vs H Q E
end
end DL
/-! own things in a parallel assignment, dicts written out, a chain of comparisons -/
namespace DL
open PySem L2
section
variable {K : PySem.W.Frag} {mg : Mg} {W : Wc} {C : Cf} {Γ Γ' : List Sh} {s : Sh} {ss : List Sh} {te ta tb tc : TE} {fe fa fb fc : ER D}

/-! ### arguments of which some are own -/
def ALandS (K : PySem.W.Frag) (mg : Mg) (W : Wc) (Γ ss : List Sh) (B R : Hp) (σ : L2.St) (Q : List V → Hp → Prop) : Res (List D) → Prop
  | .ok ds ρ => ∀ B' H' vs, Same B B' → vs.length = ss.length → ds.length = ss.length → Ok K (ss ++ Γ) B' R H' (vs.map some ++ σ) (ds.map some ++ ρ) → Q vs H'
  | .exc e ρ => XLand K mg W Γ B R σ e ρ
  | .stuck => False
def AOkS (K : PySem.W.Frag) (mg : Mg) (W : Wc) (Γ ss : List Sh) (ta : TA) (f : ER (List D)) : Prop := ∀ B R H σ ρ Q, W.P R σ → Ok K Γ B R H σ ρ → ALandS K mg W Γ ss B R σ Q (f ρ) → ta σ H Q
theorem aoks_nil : AOkS K mg W Γ [] tNil aNil := fun B R H σ ρ Q pw O h => h B H [] (Same.refl _) rfl rfl O
theorem aoks_pu {t : TA} {f : ER (List D)} (h : EOk K mg W Γ te .pu fe) (ha : AOkS K mg W Γ ss t f) : AOkS K mg W Γ (.pu :: ss) (tCons te t) (aCons fe f) := by
  intro B R H σ ρ Q pw O hl
  unfold aCons at hl
  refine h B R H σ ρ _ pw O ?_
  cases e1 : fe ρ with
  | stuck => rw [e1] at hl; exact hl
  | exc x ρ1 => rw [e1] at hl; exact hl
  | ok d ρ1 =>
    rw [e1] at hl
    intro B1 H1 v s1 O1
    refine ha B1 R H1 σ ρ1 _ pw O1.pop ?_
    simp only [Res.bind] at hl
    cases e2 : f ρ1 with
    | stuck => rw [e2] at hl; exact hl
    | exc x ρ2 => rw [e2] at hl; exact XLand.mono hl s1
    | ok ds ρ2 =>
      rw [e2] at hl
      intro B2 H2 vs s2 l1 l2 O2
      exact hl B2 H2 (v :: vs) (s1.trans s2) (by simp [l1]) (by simp [l2]) (O2.pushP (O1.top.mono s2))
theorem aoks_ls {t : TA} {f : ER (List D)} (h : EOk K mg W Γ te .ls fe) (ha : AOkS K mg W Γ ss t f) : AOkS K mg W Γ (.ls :: ss) (tCons te t) (aCons fe f) := by
  intro B R H σ ρ Q pw O hl
  unfold aCons at hl
  refine h B R H σ ρ _ pw O ?_
  cases e1 : fe ρ with
  | stuck => rw [e1] at hl; exact hl
  | exc x ρ1 => rw [e1] at hl; exact hl
  | ok d ρ1 =>
    rw [e1] at hl
    intro B1 H1 v s1 O1
    obtain ⟨p, o, -, -, n3, Oh, back⟩ := O1.hold
    have sR : Same R (upd R p o) := same_upd n3
    refine ha B1 (upd R p o) H1 σ ρ1 _ (W.mono _ _ _ sR pw) Oh ?_
    simp only [Res.bind] at hl
    cases e2 : f ρ1 with
    | stuck => rw [e2] at hl; exact hl
    | exc x ρ2 =>
      rw [e2] at hl
      intro B' H' cls p' l sb n O' x'
      have hne : p' ≠ p := fun z => by rw [z, upd_same] at n; cases n
      rw [upd_ne hne] at n
      refine hl B' H' cls p' l (s1.trans sb) n (O'.weakR fun a u e => ?_) x'
      by_cases z : a = p'
      · subst z; rw [upd_same] at e ⊢; exact e
      · rw [upd_ne z] at e ⊢
        exact sR a u e
    | ok ds ρ2 =>
      rw [e2] at hl
      intro B2 H2 vs s2 l1 l2 O2
      exact hl B2 H2 (v :: vs) (s1.trans s2) (by simp [l1]) (by simp [l2]) (back _ _ _ _ _ s2 O2)
theorem len2 {α : Type} {xs : List α} (h : xs.length = 2) : ∃ a b, xs = [a, b] := by
  match xs, h with
  | [a, b], _ => exact ⟨a, b, rfl⟩
theorem len3 {α : Type} {xs : List α} (h : xs.length = 3) : ∃ a b c, xs = [a, b, c] := by
  match xs, h with
  | [a, b, c], _ => exact ⟨a, b, c, rfl⟩
theorem sok_parS {i j : Nat} {s1 s2 : Sh} {t : TA} {fa : ER (List D)} (ag : C.ag Γ) (hi : i ∉ C.pn) (hj : j ∉ C.pn) (h : AOkS K mg C.W Γ [s1, s2] t fa) : SOk K mg C Γ ((Γ.set i s1).set j s2) (tPar i j t) (sPar i j fa) := by
  intro B R H σ ρ D pw O hl
  unfold sPar at hl
  refine h B R H σ ρ _ pw O ?_
  cases e : fa ρ with
  | stuck => rw [e] at hl; exact hl
  | exc x ρ1 => rw [e] at hl; exact SLand.exc hl ag
  | ok ds ρ1 =>
    rw [e] at hl
    intro B' H' vs sb l1 l2 O'
    obtain ⟨v, w, rfl⟩ := len2 l1
    obtain ⟨d, u, rfl⟩ := len2 l2
    simp only [Res.out] at hl
    refine ⟨v, w, rfl, hl B' H' _ sb ?_ fun k hk => ?_⟩
    · have O1 := O'.store (i + 1)
      simp only [List.cons_append, List.nil_append, List.map_cons, List.map_nil, List.set_cons_succ] at O1
      exact O1.store j
    · rw [List.getElem?_set_ne (by rintro rfl; exact hj hk), List.getElem?_set_ne (by rintro rfl; exact hi hk)]
def sPar3 (i j l : Nat) (f : ER (List D)) : Env → Out := fun ρ => (f ρ).out fun ds ρ => match ds with
  | [d, e, o] => .nx (((ρ.set i (some d)).set j (some e)).set l (some o))
  | _ => .stuck
theorem sok_parS3 {i j l : Nat} {s1 s2 s3 : Sh} {t : TA} {fa : ER (List D)} (ag : C.ag Γ) (hi : i ∉ C.pn) (hj : j ∉ C.pn) (hk : l ∉ C.pn) (h : AOkS K mg C.W Γ [s1, s2, s3] t fa) : SOk K mg C Γ (((Γ.set i s1).set j s2).set l s3) (tPar3 i j l t) (sPar3 i j l fa) := by
  intro B R H σ ρ D pw O hl
  unfold sPar3 at hl
  refine h B R H σ ρ _ pw O ?_
  cases e : fa ρ with
  | stuck => rw [e] at hl; exact hl
  | exc x ρ1 => rw [e] at hl; exact SLand.exc hl ag
  | ok ds ρ1 =>
    rw [e] at hl
    intro B' H' vs sb l1 l2 O'
    obtain ⟨v, w, y, rfl⟩ := len3 l1
    obtain ⟨d, u, z, rfl⟩ := len3 l2
    simp only [Res.out] at hl
    refine ⟨v, w, y, rfl, hl B' H' _ sb ?_ fun k hk2 => ?_⟩
    · have O1 := O'.store (i + 1 + 1)
      simp only [List.cons_append, List.nil_append, List.map_cons, List.map_nil, List.set_cons_succ] at O1
      have O2 := O1.store (j + 1)
      exact O2.store l
    · rw [List.getElem?_set_ne (by rintro rfl; exact hk hk2), List.getElem?_set_ne (by rintro rfl; exact hj hk2), List.getElem?_set_ne (by rintro rfl; exact hi hk2)]

/-! ### a dict written out -/
def PLand (K : PySem.W.Frag) (mg : Mg) (W : Wc) (Γ : List Sh) (ks : List Key) (B R : Hp) (σ : L2.St) (Q : List (V × V) → Hp → Prop) : Res (List D) → Prop
  | .ok ds ρ => ∀ B' H' kvs, Same B B' → Ok K Γ B' R H' σ ρ → ds.length = ks.length → RepsK K B' kvs (ks.zip ds) → Q (kvs.map fun kv => (kV kv.1, kv.2)) H'
  | .exc e ρ => XLand K mg W Γ B R σ e ρ
  | .stuck => False
def PsOk (K : PySem.W.Frag) (mg : Mg) (W : Wc) (Γ : List Sh) (trs : List (TE × TE)) (ks : List Key) (f : ER (List D)) : Prop := ∀ B R H σ ρ Q, W.P R σ → Ok K Γ B R H σ ρ → PLand K mg W Γ ks B R σ Q (f ρ) → tPairs trs σ H Q
theorem psok_nil : PsOk K mg W Γ [] [] aNil := fun B R H σ ρ Q pw O h => h B H [] (Same.refl _) O rfl .nil
theorem psok_cons {trs : List (TE × TE)} {k : Key} {ks : List Key} {f : ER (List D)} (h : EOk K mg W Γ te .pu fe) (ha : PsOk K mg W Γ trs ks f) : PsOk K mg W Γ ((tC (kV k), te) :: trs) (k :: ks) (aCons fe f) := by
  intro B R H σ ρ Q pw O hl
  unfold aCons at hl
  show te σ H _
  refine h B R H σ ρ _ pw O ?_
  cases e1 : fe ρ with
  | stuck => rw [e1] at hl; exact hl
  | exc x ρ1 => rw [e1] at hl; exact hl
  | ok d ρ1 =>
    rw [e1] at hl
    intro B1 H1 v s1 O1
    refine ha B1 R H1 σ ρ1 _ pw O1.pop ?_
    simp only [Res.bind] at hl
    cases e2 : f ρ1 with
    | stuck => rw [e2] at hl; exact hl
    | exc x ρ2 => rw [e2] at hl; exact XLand.mono hl s1
    | ok ds ρ2 =>
      rw [e2] at hl
      intro B2 H2 kvs s2 O2 l2 r2
      exact hl B2 H2 ((k, v) :: kvs) (s1.trans s2) O2 (by simp [l2]) (.cons (O1.top.mono s2) r2)
def mergeD (kds more : List (Key × D)) : List (Key × D) := more.foldl (fun acc kv => putD acc kv.1 kv.2) kds
theorem RepsK.merge {B : Hp} : ∀ {kvs2 : List (Key × V)} {kds2 : List (Key × D)} {kvs : List (Key × V)} {kds : List (Key × D)}, RepsK K B kvs2 kds2 → RepsK K B kvs kds → RepsK K B (mergeK kvs kvs2) (mergeD kds kds2)
  | [], [], _, _, _, r => r
  | (k, v) :: kvs2, (k', d) :: kds2, kvs, kds, r2, r => by
    cases r2 with
    | cons h r2 => exact RepsK.merge (kvs2 := kvs2) (kds2 := kds2) r2 (r.put h)
theorem RepsK.len {B : Hp} : ∀ {kvs : List (Key × V)} {kds : List (Key × D)}, RepsK K B kvs kds → kvs.length = kds.length
  | [], _, r => by cases r; rfl
  | _ :: _, _, r => by
    cases r with
    | cons h r => simp [RepsK.len r]
def eDisp (ks : List Key) (f : ER (List D)) : ER D := fun ρ => (f ρ).bind fun ds ρ => .ok (.dct (mergeD [] (ks.zip ds))) ρ
theorem eok_disp {trs : List (TE × TE)} {ks : List Key} {f : ER (List D)} (h15 : ks.length ≤ 15) (h : PsOk K mg W Γ trs ks f) : EOk K mg W Γ (tDisp trs) .ls (eDisp ks f) := by
  intro B R H σ ρ Q pw O hl p hp
  unfold eDisp at hl
  have O0 := O.pushD hp (.nil (K := K) (B := B))
  obtain ⟨p', o', ep, eo, n3, Oh, back⟩ := O0.hold
  cases ep
  rw [upd_same] at eo
  cases eo
  have sR : Same R (upd R p (.dK [])) := same_upd n3
  refine h B _ _ σ ρ _ (W.mono _ _ _ sR pw) Oh ?_
  cases e1 : f ρ with
  | stuck => rw [e1] at hl; exact hl
  | exc x ρ1 =>
    rw [e1] at hl
    intro B' H' cls p' l sb n O' x'
    have hne : p' ≠ p := fun z => by rw [z, upd_same] at n; cases n
    rw [upd_ne hne] at n
    refine hl B' H' cls p' l sb n (O'.weakR fun a u e => ?_) x'
    by_cases z : a = p'
    · subst z; rw [upd_same] at e ⊢; exact e
    · rw [upd_ne z] at e ⊢
      exact sR a u e
  | ok ds ρ1 =>
    rw [e1] at hl
    intro B1 H1 kvs s1 O1 l1 r1
    have O2 := back _ _ _ _ _ s1 O1
    refine ⟨O1.sr _ _ upd_same, kvs, rfl, ?_, ?_⟩
    · rw [r1.len, List.length_zip, l1]; omega
    · have O3 := O2.writeO (i := 0) (o' := .dK (mergeK [] kvs)) (d' := .dct (mergeD [] (ks.zip ds))) rfl rfl rfl (.dct upd_same (r1.merge .nil))
      exact hl B1 _ _ s1 O3
/-! ### a op b op c -/
def eChain (g g' : D → D → Option D) (fa fb fc : ER D) : ER D := fun ρ => (fa ρ).bind fun d ρ => (fb ρ).bind fun e ρ => match g d e with
  | some (.bl true) => (fc ρ).bind fun o ρ => ofOpt (g' e o) ρ
  | some (.bl false) => .ok (.bl false) ρ
  | _ => .stuck
theorem eok_chain {r r' : R2} {g g' : D → D → Option D} (hr : R2Ok K r .pu g) (hr' : R2Ok K r' .pu g') (ha : EOk K mg W Γ ta .pu fa) (hb : EOk K mg W Γ tb .pu fb) (hc : EOk K mg W Γ tc .pu fc) :
    EOk K mg W Γ (tChain r r' ta tb tc) .pu (eChain g g' fa fb fc) := by
  intro B R H σ ρ Q pw O hl
  unfold eChain at hl
  refine ha B R H σ ρ _ pw O ?_
  cases e1 : fa ρ with
  | stuck => rw [e1] at hl; exact hl
  | exc x ρ1 => rw [e1] at hl; exact hl
  | ok d ρ1 =>
    rw [e1] at hl
    intro B1 H1 v s1 O1
    have rv := O1.top
    refine hb B1 R H1 σ ρ1 _ pw O1.pop ?_
    simp only [Res.bind] at hl
    cases e2 : fb ρ1 with
    | stuck => rw [e2] at hl; exact hl
    | exc x ρ2 => rw [e2] at hl; exact XLand.mono hl s1
    | ok e ρ2 =>
      rw [e2] at hl
      intro B2 H2 u s2 O2
      have ru := O2.top
      simp only at hl
      cases e3 : g d e with
      | none => rw [e3] at hl; exact hl.elim
      | some z =>
        rw [e3] at hl
        refine hr Γ B2 R H2 σ ρ2 v u d e z _ O2.pop (rv.mono s2) ru e3 fun B3 H3 w s3 O3 => ?_
        have rw3 := O3.top
        cases z with
        | bl k =>
          cases rw3
          refine ⟨k, rfl, ?_⟩
          cases k with
          | false =>
            rw [if_neg Bool.false_ne_true]
            exact hl B3 H3 _ ((s1.trans s2).trans s3) O3
          | true =>
            rw [if_pos rfl]
            simp only at hl
            refine hc B3 R H3 σ ρ2 _ pw O3.pop ?_
            cases e4 : fc ρ2 with
            | stuck => rw [e4] at hl; exact hl
            | exc x ρ3 => rw [e4] at hl; exact XLand.mono hl ((s1.trans s2).trans s3)
            | ok o ρ3 =>
              rw [e4] at hl
              intro B4 H4 w4 s4 O4
              simp only [ofOpt] at hl
              cases e5 : g' e o with
              | none => rw [e5] at hl; exact hl.elim
              | some z' =>
                rw [e5] at hl
                exact hr' Γ B4 R H4 σ ρ3 u w4 e o z' _ O4.pop ((ru.mono s3).mono s4) O4.top e5 fun B5 H5 w5 s5 O5 => hl B5 H5 w5 ((((s1.trans s2).trans s3).trans s4).trans s5) O5
        | _ => exact hl.elim
end
end DL
namespace L2
open PySem PySem.Spec PyProof.Rows
set_option maxHeartbeats 1000000 in
theorem meets_enumerate_newB1 {v : Value} {o : Obj} {H : Heap → Prop} (B : Begins v o H) :
    Meets (Builtin.«enumerate.__new__» ⟨[.type "enumerate", v], []⟩) (fun _ R s => H s.heap ∧
      R (.ok (.ret (.ref (s.heap.push o).objs.size))) { s with heap := (s.heap.push o).push { cls := .type "enumerate", data := .fields #[.none, .bool false, .ref s.heap.objs.size, rawInt 0, .none, .none] } }) :=
  .of_wp fun prog w A R s h => by
    obtain ⟨hp, g, d, tk, os⟩ := s; obtain ⟨h1, h⟩ := h
    have hsub := sub_enumerate
    have q1 : ∀ {A' : Around} {E : Value → Shared → Prop} {Q : Value → Shared → Prop}, Q (.ref hp.objs.size) ⟨hp.push o, g, d, tk, os⟩ → wpAny (model prog w) A' (pyIter v) Q E ⟨hp, g, d, tk, os⟩ :=
      fun q => B.iter prog w _ _ ⟨hp, g, d, tk, os⟩ _ h1 q
    wp_walk using q1
    refine wpAny_stack_any fun st => wpAny_pure ?_
    split
    · rename_i c _ _ _ _ _
      cases (c == Value.type "enumerate")
      · wp_walk using q1
        exact ⟨_, rfl, h⟩
      · wp_walk using q1
        exact ⟨_, rfl, h⟩
    · wp_walk using q1
      exact ⟨_, rfl, h⟩
section
variable {prog : Program} {w : World} {A : Around} {E : Value → Shared → Prop} {s : Shared}
theorem enum_begins1 {v : Value} {o : Obj} {H : Heap → Prop} {Q : Value → Shared → Prop} (B : Begins v o H) (h1 : H s.heap)
    (h : ∀ h', IsEnum h' (s.heap.objs.size + 1) s.heap.objs.size 0 .none → h'.get? s.heap.objs.size = some o → h'.objs.size = s.heap.objs.size + 2 →
      (∀ b o, s.heap.get? b = some o → h'.get? b = some o) → Q (.ref (s.heap.objs.size + 1)) { s with heap := h' }) :
    wpAny (model prog w) A (call (.type "enumerate") [v]) Q E s := by
  refine callType_new F.called_enumerate (by decide) (F.typeCall_enumerate_1 _) (F.newCall_enumerate_1 _) (fun obj => F.args_object_init_2 obj _) F.entry_enumerate_new
    (meets_enumerate_newB1 B) ⟨h1, ?_⟩
  have hz : (s.heap.push o).objs.size = s.heap.objs.size + 1 := Heap.size_push ..
  show _ ∧ _
  rw [hz]
  have he : IsEnum ((s.heap.push o).push { cls := .type "enumerate", data := .fields #[.none, .bool false, .ref s.heap.objs.size, rawInt 0, .none, .none] }) (s.heap.objs.size + 1) s.heap.objs.size 0 .none := by
    have := Heap.get?_push_size (s.heap.push o) (o := { cls := .type "enumerate", data := .fields #[.none, .bool false, .ref s.heap.objs.size, rawInt 0, .none, .none] }) rfl
    rw [hz] at this; exact this
  refine ⟨⟨_, he, rfl⟩, h _ he (Heap.get?_push_of_some _ (Heap.get?_push_size _ B.free)) (by rw [Heap.size_push, hz]) fun b o x => Heap.get?_push_of_some _ (Heap.get?_push_of_some _ x)⟩
end
/-- the tuple at a, each item in a new pair -/
def IteT (K : PySem.W.Frag) (a : Addr) : It :=
  ⟨fun i H => ∃ (xs : List V) (x : V), SqT K H a xs ∧ xs[i]? = some x, fun i H v H' => ∃ T x, v = .ref T ∧ H T = none ∧ H' = upd H T (.tup [.int (i : Nat), x]) ∧ ∀ xs, SqT K H a xs → xs[i]? = some x, fun i H => ∃ xs : List V, SqT K H a xs ∧ xs.length ≤ i⟩
theorem draws_end {prog : Program} {w : World} {A : Around} (hh : A.handled = none) (it t : Addr) (items : Array Value) (i : Nat) (hi : items.size ≤ i) :
    Draws prog w A it [it, t] i (fun _ _ => True) (fun j h => j = i ∧ h.IsTupleIter it t i ∧ h.IsTuple t items) where
  live := fun _ _ st => let ⟨o, ho, _⟩ := st.2.1; ⟨o, ho⟩
  frame := fun _ _ _ st hk => ⟨st.1, st.2.1.at fun o e => hk it (by simp) o e, st.2.2.at fun o e => hk t (by simp) o e⟩
  item := fun j s Q E hj st hQ => by have := st.1; omega
  done := fun s Q E st hE => wpAny_nextOf_tuple_end hh st.2.1 st.2.2 (by simp; omega) hE
theorem tuple_not_enum {h : Heap} {a e it : Addr} {i : Int} {old : Value} {its : Array Value} (p : h.IsTuple a its) (he : IsEnum h e it i old) : e ≠ a := by
  rintro rfl
  obtain ⟨o, ho, hc, _⟩ := p
  rw [he] at ho; cases ho; exact absurd (Value.type.inj hc) (by decide)
theorem tuple_not_iter {h : Heap} {a it : Addr} {i : Nat} {its : Array Value} (p : h.IsTuple a its) (hit : h.IsTupleIter it a i) : a ≠ it := by
  rintro rfl
  obtain ⟨o, ho, hc, _⟩ := p
  obtain ⟨o', ho', hc', _⟩ := hit
  rw [ho] at ho'; cases ho'; rw [hc] at hc'; exact absurd (Value.type.inj hc') (by decide)
theorem turn_enumT {P : Program} {w : World} {K : PySem.W.Frag} {elts : List Expr} {kk : Nat} {tpos : Pos} (a e it : Addr) :
    Turn P w K (.Tuple elts kk tpos) (IteT K a) [e, it] e (fun i h => (∃ old, IsEnum h e it ((i : Nat) : Int) old) ∧ h.IsTupleIter it a i ∧ e ≠ it) where
  mem := by simp
  obj := fun i h st b hb => by
    obtain ⟨⟨old, he⟩, ⟨o, ho, hc, hd⟩, _⟩ := st
    have e' : b = e ∨ b = it := by simpa using hb
    rcases e' with z | z
    · rw [z]; exact ⟨_, he, fun v q => nomatch q⟩
    · rw [z]; exact ⟨o, ho, fun v q => by rw [hd] at q; cases q⟩
  keep := fun i h h' st k => let ⟨⟨old, he⟩, hi, hne⟩ := st; ⟨⟨old, k e (by simp) _ he⟩, hi.at fun o q => k it (by simp) o q, hne⟩
  item := by
    intro X hP hw hK hc i pins s σ H E I hf st hg
    subst hP hw hK
    obtain ⟨⟨old, he⟩, hit, hne⟩ := st
    obtain ⟨xs, x, hq, hx⟩ := hg
    obtain ⟨its, rv, p, hz⟩ := I.tuple hq
    have p' : s.heap.IsTuple a its.toArray := p
    obtain ⟨u, hu, ru⟩ := rv.get hx
    have hel : e < s.heap.objs.size := Heap.lt_size he
    have hil : it < s.heap.objs.size := by obtain ⟨_, q, _⟩ := hit; exact Heap.lt_size q
    have hea := tuple_not_enum p' he
    have hai := tuple_not_iter p' hit
    have hlt : i < its.toArray.size := by
      have := List.getElem?_eq_some_iff.mp hu
      obtain ⟨h1, _⟩ := this
      simpa using h1
    refine wpAny_pyNext_enum_itemD (Draws.tuple (show X.A.in1.handled = none from I.ok.hd hc) it a hai its.toArray) he ⟨hit, p'⟩ hlt hne (by simp [hne, hea]) fun x' h' tk hP ho hit' hT hsz hk => ?_
    have ex : x' = u := by
      have h1 : its.toArray[i]? = some x' := hP
      have h2 : its.toArray[i]? = some u := by simpa using hu
      rw [h1] at h2; cases h2; rfl
    subst ex
    refine ⟨_, rfl, wpAny_letOwnedTupleGo_enum (s := { s with heap := h', toks := tk + 1 }) ho fun h'' he' sb => ?_⟩
    have hT2 : h''.get? s.heap.objs.size = some { cls := .type "tuple", data := .seq #[.int i tk, x'] } := (sb.2 _ (Nat.ne_of_gt hel)).trans hT
    have new : ObjOk X.prog X.w (upd H s.heap.objs.size (.tup [.int (i : Nat), x])) h'' s.heap.objs.size (.tup [.int (i : Nat), x]) :=
      ⟨by show 2 ≤ sizeLine; decide, [.int i tk, x'], .cons ⟨_, rfl⟩ (.cons ru .nil), ⟨_, hT2, rfl, _, rfl⟩⟩
    have I1 : Inv X pins σ (upd H s.heap.objs.size (.tup [.int (i : Nat), x])) { s with heap := h'', toks := tk + 1 } :=
      I.turnedNew (ch := [e, it]) (fun b ob hb q => (sb.2 b (fun z => hb (by simp [z]))).trans (hk b ob (fun z => hb (by simp [z])) (fun z => hb (by simp [z])) q)) hf (Nat.le_refl _) new
    refine ⟨.ref s.heap.objs.size, _, I1, rfl, ⟨_, x, rfl, I.hok.fresh (Nat.le_refl _), rfl, fun ys hy => ?_⟩, ⟨⟨x', ?_⟩, hit'.1.at fun o q => (sb.2 it (Ne.symm hne)).trans q, hne⟩, fun b hb => ?_⟩
    · have ey : ys = xs := I.tuple_inj hy hq
      rw [ey]; exact hx
    · have e1 : ((i + 1 : Nat) : Int) = (i : Int) + 1 := by omega
      rw [e1]; exact he'
    · have hb' : b < s.heap.objs.size := by
        have e' : b = e ∨ b = it := by simpa using hb
        rcases e' with z | z
        · rw [z]; exact hel
        · rw [z]; exact hil
      rw [upd_ne (Nat.ne_of_lt hb')]
      exact (hf b hb).1
  done := by
    intro X hP hw hK hc i pins s σ H E I hf st hg
    subst hP hw hK
    obtain ⟨⟨old, he⟩, hit, hne⟩ := st
    obtain ⟨xs, hq, hx⟩ := hg
    obtain ⟨its, rv, p, hz⟩ := I.tuple hq
    obtain ⟨f0, f1, f2, f3, f4, f5⟩ := hf it (by simp)
    have hl := rv.length
    exact wpAny_pyNext_enum_endD (draws_end (show X.A.in1.handled = none from I.ok.hd hc) it a its.toArray i (by simp; omega)) he ⟨rfl, hit, p⟩ fun h' eb => ⟨rfl, I.turned (t' := s.toks) (fun b o hb q => eb b o hb q) f0 f1 f3 f4 f5⟩
  self := fun A i s Q E st h => let ⟨⟨_, he⟩, _⟩ := st; wpAny_pyIter_enum he h
def iEnumA (K : PySem.W.Frag) (ta : TA) : TI := fun σ H R => ta σ H fun vs H1 => (∃ a xs, vs = [.ref a] ∧ SqL K H1 a xs ∧ R (Ite K a) H1) ∨ (∃ a xs, vs = [.ref a] ∧ SqT K H1 a xs ∧ R (IteT K a) H1)
theorem pi_enumA {X : Cx} {e : Expr} {ta : TA} {p pos tpos : Pos} {elts : List Expr} {kk : Nat} (hg : Gl X "enumerate") (hm : X.mg "enumerate" = none) (ha : PA X [e] ta) (hs : starEach [e] X.env = [(false, eval e X.env)] := by rfl) :
    PI X (.Tuple elts kk tpos) (.Call (.Name "enumerate" p) [e] [] pos) (iEnumA X.K ta) := by
  refine ⟨fun pins s σ H R I h => ?_⟩
  refine Call_ (ld_blt I hg hm boot_enumerate (PyProof.Rows.callWith_type1 (thn (ha.run pos pins s σ H _ I h) fun us s1 ⟨vs, H1, I1, r1, q1⟩ => ?_) hs rfl))
  rcases q1 with ⟨a, xs, ex, hq, q⟩ | ⟨a, xs, ex, hq, q⟩
  · subst ex
    cases r1 with
    | cons r rr =>
      cases rr
      cases r
      obtain ⟨its, rv, p', hz⟩ := I1.list hq
      refine call_enumerate_list p'.isList fun h' he hit hsz hk => wpAny_pyIter_enum he ?_
      have I2 : Inv X pins σ H1 { s1 with heap := h' } := I1.kept (t' := s1.toks) hk
      refine ⟨s1.heap.objs.size + 1, [s1.heap.objs.size + 1, s1.heap.objs.size], _, _, H1, rfl, I2, turn_enum a (s1.heap.objs.size + 1) s1.heap.objs.size, ⟨⟨.none, he⟩, hit, Nat.succ_ne_self _⟩, fun b hb => ?_, q⟩
      have e' : b = s1.heap.objs.size + 1 ∨ b = s1.heap.objs.size := by simpa using hb
      have hle : s1.heap.objs.size ≤ b := by
        rcases e' with z | z
        · rw [z]; exact Nat.le_add_right _ _
        · rw [z]; exact Nat.le_refl _
      exact I1.fpOk hle (I1.hok.fresh hle)
  · subst ex
    cases r1 with
    | cons r rr =>
      cases rr
      cases r
      obtain ⟨its, rv, p', hz⟩ := I1.tuple hq
      refine enum_begins1 (begins_tuple a its.toArray) p' fun h' he hit hsz hk => wpAny_pyIter_enum he ?_
      have I2 : Inv X pins σ H1 { s1 with heap := h' } := I1.kept (t' := s1.toks) hk
      refine ⟨s1.heap.objs.size + 1, [s1.heap.objs.size + 1, s1.heap.objs.size], _, _, H1, rfl, I2, turn_enumT a (s1.heap.objs.size + 1) s1.heap.objs.size, ⟨⟨.none, he⟩, ⟨_, hit, rfl, rfl⟩, Nat.succ_ne_self _⟩, fun b hb => ?_, q⟩
      have e' : b = s1.heap.objs.size + 1 ∨ b = s1.heap.objs.size := by simpa using hb
      have hle : s1.heap.objs.size ≤ b := by
        rcases e' with z | z
        · rw [z]; exact Nat.le_add_right _ _
        · rw [z]; exact Nat.le_refl _
      exact I1.fpOk hle (I1.hok.fresh hle)
end L2
namespace DL
open PySem L2
section
variable {K : PySem.W.Frag} {mg : Mg} {W : Wc} {Γ : List Sh} {te : TE} {fe : ER D} {ta : TA}
def enumD (n : Nat) : List D → List D
  | [] => []
  | d :: ds => .tup [.int n, d] :: enumD (n + 1) ds
theorem enumD_len : ∀ (ds : List D) (n : Nat), (enumD n ds).length = ds.length
  | [], _ => rfl
  | d :: ds, n => by unfold enumD; simp [enumD_len ds]
theorem enumD_get : ∀ (ds : List D) (n i : Nat) (e : D), (enumD n ds)[i]? = some e → ∃ d, ds[i]? = some d ∧ e = .tup [.int ((n + i : Nat) : Int), d]
  | [], _, i, e, h => by simp [enumD] at h
  | d :: ds, n, i, e, h => by
    unfold enumD at h
    cases i with
    | zero => simp at h; exact ⟨d, rfl, by rw [← h]; simp⟩
    | succ i =>
      obtain ⟨x, h1, h2⟩ := enumD_get ds (n + 1) i e (by simpa using h)
      exact ⟨x, by simpa using h1, by rw [h2]; congr 3; congr 1; omega⟩
theorem Reps.at' {B : Hp} : ∀ {vs : List V} {ds : List D}, Reps K B vs ds → ∀ {i : Nat} {d : D}, ds[i]? = some d → ∃ v, vs[i]? = some v ∧ Rep K B v d
  | [], [], _, i, d, h => by simp at h
  | v :: vs, e :: ds, r, i, d, h => by
    cases r with
    | cons q r =>
      cases i with
      | zero => simp at h; subst h; exact ⟨v, rfl, q⟩
      | succ i =>
        obtain ⟨u, h1, h2⟩ := Reps.at' r (i := i) (d := d) (by simpa using h)
        exact ⟨u, by simpa using h1, h2⟩
theorem walk_enum_core {B : Hp} {J : It} {vs : List V} {ds : List D} (r : Reps K B vs ds)
    (go : ∀ B2 H2, Same B B2 → Same B2 H2 → ∀ i x, vs[i]? = some x → J.go i H2)
    (yld : ∀ B2 H2, Same B B2 → Same B2 H2 → ∀ i v H', J.yld i H2 v H' → ∃ T x, v = .ref T ∧ H2 T = none ∧ H' = upd H2 T (.tup [.int (i : Nat), x]) ∧ vs[i]? = some x)
    (stop : ∀ B2 H2, Same B B2 → Same B2 H2 → ∀ i, vs.length ≤ i → J.stop i H2) : Walks K B J (enumD 0 ds) where
  go := fun B2 H2 a b i hi => by
    rw [enumD_len, ← r.length] at hi
    exact go B2 H2 a b i vs[i] (by simp [hi])
  yld := fun B2 H2 a b i d x H3 hd y => by
    obtain ⟨T, x', rfl, hT, rfl, hx⟩ := yld B2 H2 a b i x H3 y
    obtain ⟨e, h1, rfl⟩ := enumD_get ds 0 i d hd
    obtain ⟨v, h2, rv⟩ := Reps.at' r h1
    rw [hx] at h2; cases h2
    have hb : B2 T = none := b.free hT
    refine ⟨upd B2 T (.tup [.int (i : Nat), x']), same_upd hb, same_upd hT, fun q o e => ?_, fun q o e => ?_, .tup (SqT.of upd_same) (.cons ?_ (.cons (rv.mono (a.trans (same_upd hb))) .nil))⟩
    · by_cases z : q = T
      · subst z; rw [upd_same] at e ⊢; exact e
      · rw [upd_ne z] at e ⊢; exact b _ _ e
    · by_cases z : q = T
      · subst z; exact .inr hT
      · rw [upd_ne z] at e; exact .inl e
    · rw [Nat.zero_add]; exact .int _
  stop := fun B2 H2 a b i hi => by
    rw [enumD_len, ← r.length] at hi
    exact stop B2 H2 a b i hi
def iEn (f : ER (List D)) : ER (List D) := fun ρ => (f ρ).bind fun ds ρ => match ds with
  | [.lst ds] => .ok (enumD 0 ds) ρ
  | [.tup ds] => .ok (enumD 0 ds) ρ
  | _ => .stuck
theorem iok_enum {f : ER (List D)} (h : AOk K mg W Γ ta f) : IOk K mg W Γ (iEnumA K ta) (iEn f) := by
  intro B R H σ ρ Q pw O hl
  unfold iEn at hl
  refine h B R H σ ρ _ pw O ?_
  cases e : f ρ with
  | stuck => rw [e] at hl; exact hl
  | exc x ρ1 => rw [e] at hl; exact hl
  | ok ds ρ1 =>
    rw [e] at hl
    intro B1 H1 vs s1 O1 rr
    simp only [Res.bind] at hl
    split at hl
    · obtain ⟨v, rfl, rv⟩ := reps1 rr
      obtain ⟨a, vs, rfl, ha, ra⟩ := repL rv
      refine .inl ⟨a, vs, rfl, SqL.of (O1.sb _ _ ha), hl B1 H1 _ s1 O1 (walk_enum_core ra (fun B2 H2 p q i x hx => ⟨vs, x, SqL.of (q _ _ (p _ _ ha)), hx⟩) (fun B2 H2 p q i v H' y => ?_) fun B2 H2 p q i hi => ⟨vs, SqL.of (q _ _ (p _ _ ha)), hi⟩)⟩
      obtain ⟨T, x, h1, h2, h3, h4⟩ := y
      exact ⟨T, x, h1, h2, h3, h4 _ (SqL.of (q _ _ (p _ _ ha)))⟩
    · obtain ⟨v, rfl, rv⟩ := reps1 rr
      obtain ⟨a, vs, rfl, ha, ra⟩ := repT rv
      refine .inr ⟨a, vs, rfl, sameT O1.sb ha, hl B1 H1 _ s1 O1 (walk_enum_core ra (fun B2 H2 p q i x hx => ⟨vs, x, sameT q (sameT p ha), hx⟩) (fun B2 H2 p q i v H' y => ?_) fun B2 H2 p q i hi => ⟨vs, sameT q (sameT p ha), hi⟩)⟩
      obtain ⟨T, x, h1, h2, h3, h4⟩ := y
      exact ⟨T, x, h1, h2, h3, h4 _ (sameT q (sameT p ha))⟩
    · exact hl.elim
end
end DL
namespace L2
open PySem PySem.Spec PyProof.Rows PySem.W
def rMaxT (K : PySem.W.Frag) : List V → Hp → VK → Prop := fun vs H Q => ∃ (a : Addr) (n : Int) (ns : List Int), vs = [V.ref a] ∧ SqT K H a ((n :: ns).map V.int) ∧ Q (.int (ns.foldl max n)) H
def rMinT (K : PySem.W.Frag) : List V → Hp → VK → Prop := fun vs H Q => ∃ (a : Addr) (n : Int) (ns : List Int), vs = [V.ref a] ∧ SqT K H a ((n :: ns).map V.int) ∧ Q (.int (ns.foldl min n)) H
theorem maxOf_int (n : Int) (ns : List Int) : maxOf n ns = ns.foldl max n := by
  have h1 := maxD_map n ns
  have h2 := maxD_ints n ns
  have h3 : PyData.int (ns.foldl max n) = PyData.int (maxOf n ns) := h2.symm.trans h1
  exact (PyData.int.inj h3).symm
theorem minOf_int (n : Int) (ns : List Int) : minOf n ns = ns.foldl min n := by
  have h1 := minD_map n ns
  have h2 := minD_ints n ns
  have h3 : PyData.int (ns.foldl min n) = PyData.int (minOf n ns) := h2.symm.trans h1
  exact (PyData.int.inj h3).symm
theorem holds_toInt {h : Heap} {v : Value} {n : Int} (H : Holds h v n) : ∃ t, v = .int n t := by
  obtain ⟨as, r⟩ := H
  cases r
  exact ⟨_, rfl⟩
variable {X : Cx}
theorem cr_maxT (hc : X.calm = true) (hu : X.A.units + 1 < cLine) : CallR X (.builtin "max") (rMaxT X.K) := by
  intro pins s σ H vs us Q I r h
  obtain ⟨a, n, ns, rfl, hs, q⟩ := h
  obtain ⟨its, rv, p, _⟩ := I.tuple hs
  rw [Vals.ref1 r]
  refine max_tuple_datum (α := Int) (vs := its.toArray) (x := n) (xs := ns) (I.ok.hd hc) p (by simpa using HoldAll.of_ints rv.ints) hu fun i v h' tk hv hh hk => ?_
  obtain ⟨t, rfl⟩ := holds_toInt hh
  rw [maxOf_int]
  exact ⟨.int _, H, I.kept hk, ⟨_, rfl⟩, q⟩
theorem cr_minT (hc : X.calm = true) (hu : X.A.units + 1 < cLine) : CallR X (.builtin "min") (rMinT X.K) := by
  intro pins s σ H vs us Q I r h
  obtain ⟨a, n, ns, rfl, hs, q⟩ := h
  obtain ⟨its, rv, p, _⟩ := I.tuple hs
  rw [Vals.ref1 r]
  refine min_tuple_datum (α := Int) (vs := its.toArray) (x := n) (xs := ns) (I.ok.hd hc) p (by simpa using HoldAll.of_ints rv.ints) hu fun i v h' tk hv hh hk => ?_
  obtain ⟨t, rfl⟩ := holds_toInt hh
  rw [minOf_int]
  exact ⟨.int _, H, I.kept hk, ⟨_, rfl⟩, q⟩
end L2
namespace DL
open PySem L2
variable {K : PySem.W.Frag} {X : Cx} {mg : Mg} {W : Wc} {Γ : List Sh}
def gMaxA : List D → Option D
  | [.tup ds] => match intsD ds with
    | some (n :: ns) => some (.int (ns.foldl max n))
    | _ => none
  | ds => gMax ds
def gMinA : List D → Option D
  | [.tup ds] => match intsD ds with
    | some (n :: ns) => some (.int (ns.foldl min n))
    | _ => none
  | ds => gMin ds
def rMaxB (K : PySem.W.Frag) : List V → Hp → VK → Prop := fun xs H Q => rMaxA K xs H Q ∨ rMaxT K xs H Q
def rMinB (K : PySem.W.Frag) : List V → Hp → VK → Prop := fun xs H Q => rMinA K xs H Q ∨ rMinT K xs H Q
theorem callMaxA (hu : X.A.units + 1 < cLine) (hc : X.calm = true) : CallR X (.builtin "max") (rMaxB X.K) := (callMax hc).or (cr_maxT hc hu)
theorem callMinA (hu : X.A.units + 1 < cLine) (hc : X.calm = true) : CallR X (.builtin "min") (rMinB X.K) := (callMin hc).or (cr_minT hc hu)
theorem c1_maxA : C1Ok K (rMaxB K) .pu gMaxA := by
  intro Γ B R H σ ρ vs ds o Q O rs hg k
  unfold gMaxA at hg
  split at hg
  · split at hg
    · rename_i n ns e
      cases hg
      obtain ⟨v, rfl, rv⟩ := reps1 rs
      obtain ⟨a, us, rfl, ha, ra⟩ := repT rv
      rw [intsD_eq e] at ra
      cases reps_ints ra
      exact .inr ⟨a, n, ns, rfl, sameT O.sb ha, k B H _ (Same.refl _) (O.pushP (.int _))⟩
    · cases hg
  · exact .inl (c1_max Γ B R H σ ρ vs ds o Q O rs hg k)
theorem c1_minA : C1Ok K (rMinB K) .pu gMinA := by
  intro Γ B R H σ ρ vs ds o Q O rs hg k
  unfold gMinA at hg
  split at hg
  · split at hg
    · rename_i n ns e
      cases hg
      obtain ⟨v, rfl, rv⟩ := reps1 rs
      obtain ⟨a, us, rfl, ha, ra⟩ := repT rv
      rw [intsD_eq e] at ra
      cases reps_ints ra
      exact .inr ⟨a, n, ns, rfl, sameT O.sb ha, k B H _ (Same.refl _) (O.pushP (.int _))⟩
    · cases hg
  · exact .inl (c1_min Γ B R H σ ρ vs ds o Q O rs hg k)
end DL
/-! methods of texts; what stands in the module -/
namespace DL
open PySem L2
section
variable {K : PySem.W.Frag} {mg : Mg} {W : Wc} {Γ : List Sh} {s : Sh} {ta tb te to : TE} {fa fb fo fe : ER D}
/-- a text's method with one argument -/
def eM1 (g : D → D → Option D) (fo fe : ER D) : ER D := fun ρ => (fo ρ).bind fun d ρ => match d with
  | .str _ => (fe ρ).bind fun e ρ => ofOpt (g d e) ρ
  | _ => .stuck
def M1Ok (K : PySem.W.Frag) (r : V → List V → Hp → VK → Prop) (s : Sh) (g : D → D → Option D) : Prop :=
  ∀ (Γ : List Sh) (B R H : Hp) (σ : L2.St) (ρ : Env) (v u : V) (d e o : D) (Q : VK), Ok K Γ B R H σ ρ → Rep K B v d → Rep K B u e → g d e = some o →
    (∀ B' H' w, Same B B' → Ok K (s :: Γ) B' R H' (some w :: σ) (some o :: ρ) → Q w H') → r v [u] H Q
theorem eok_m1 {r : V → List V → Hp → VK → Prop} {g : D → D → Option D} (hr : M1Ok K r s g) (ho : EOk K mg W Γ to .pu fo) (he : EOk K mg W Γ te .pu fe) : EOk K mg W Γ (tM1 r to te) s (eM1 g fo fe) := by
  intro B R H σ ρ Q pw O hl
  unfold eM1 at hl
  refine ho B R H σ ρ _ pw O ?_
  cases e1 : fo ρ with
  | stuck => rw [e1] at hl; exact hl
  | exc x ρ1 => rw [e1] at hl; exact hl
  | ok d ρ1 =>
    rw [e1] at hl
    intro B1 H1 v s1 O1
    have rv := O1.top
    simp only [Res.bind] at hl
    cases d with
    | str a =>
      refine ⟨⟨a, repS rv⟩, he B1 R H1 σ ρ1 _ pw O1.pop ?_⟩
      simp only at hl
      cases e2 : fe ρ1 with
      | stuck => rw [e2] at hl; exact hl
      | exc x ρ2 => rw [e2] at hl; exact XLand.mono hl s1
      | ok e ρ2 =>
        rw [e2] at hl
        intro B2 H2 u s2 O2
        simp only [ofOpt] at hl
        cases e3 : g (.str a) e with
        | none => rw [e3] at hl; exact hl.elim
        | some o =>
          rw [e3] at hl
          exact hr Γ B2 R H2 σ ρ2 v u (.str a) e o Q O2.pop (rv.mono s2) O2.top e3 fun B3 H3 w s3 O3 => hl B3 H3 w ((s1.trans s2).trans s3) O3
    | _ => exact hl.elim
theorem reps_strs {B : Hp} : ∀ ys : List Str, Reps K B (ys.map V.str) (ys.map D.str)
  | [] => .nil
  | y :: ys => by rw [List.map_cons, List.map_cons]; exact .cons (.str y) (reps_strs ys)
def gSplit : D → D → Option D
  | .str a, .str b => if (b.length == 0) = false ∧ a.length + 2 ≤ sizeLine then some (.lst ((Txt.split a b).map .str)) else none
  | _, _ => none
theorem m1_split : M1Ok K (fun x xs H Q => ∃ a b, x = .str a ∧ xs = [.str b] ∧ (b.length == 0) = false ∧ a.length + 2 ≤ sizeLine ∧ rNewStrs (Txt.split a b) H Q) .ls gSplit := by
  intro Γ B R H σ ρ v u d e o Q O rv ru hg k
  unfold gSplit at hg
  split at hg
  · rename_i a b
    split at hg
    · rename_i h
      cases hg
      cases repS rv
      cases repS ru
      exact ⟨a, b, rfl, rfl, h.1, h.2, fun p hp => k B _ _ (Same.refl _) (O.pushN hp (reps_strs _))⟩
    · cases hg
  · cases hg
def strsL : List D → Option (List Str)
  | [] => some []
  | .str i :: ds => (strsL ds).map (i :: ·)
  | _ => none
theorem strsL_eq : ∀ {ds : List D} {ns : List Str}, strsL ds = some ns → ds = ns.map D.str
  | [], ns, h => by cases h; rfl
  | .str i :: ds, ns, h => by
    unfold strsL at h
    cases e : strsL ds with
    | none => rw [e] at h; cases h
    | some ms => rw [e] at h; cases h; rw [strsL_eq e]; rfl
theorem strsL_map : ∀ ns : List Str, strsL (ns.map D.str) = some ns
  | [] => rfl
  | n :: ns => by rw [List.map_cons]; unfold strsL; rw [strsL_map ns]; rfl
theorem reps_strs_eq {B : Hp} : ∀ {vs : List V} {ns : List Str}, Reps K B vs (ns.map D.str) → vs = ns.map V.str
  | _, [], r => by cases r; rfl
  | _, n :: ns, r => by
    cases r with
    | cons h r => rw [repS h, reps_strs_eq r]; rfl
def strsD : D → Option (List Str)
  | .lst ds => strsL ds
  | .tup ds => strsL ds
  | _ => none
def gJoin : D → D → Option D
  | .str a, e => match strsD e with
    | some ys => if (ys.map (·.length)).sum + ys.length * a.length ≤ 16777216 then some (.str (Txt.join a ys)) else none
    | none => none
  | _, _ => none
theorem m1_join : M1Ok K (fun x xs H Q => ∃ a p, ∃ ys : List Str, x = .str a ∧ xs = [.ref p] ∧ (SqL K H p (ys.map V.str) ∨ SqT K H p (ys.map V.str)) ∧
    (ys.map (·.length)).sum + ys.length * a.length ≤ 16777216 ∧ Q (.str (Txt.join a ys)) H) .pu gJoin := by
  intro Γ B R H σ ρ v u d e o Q O rv ru hg k
  cases d with
  | str a =>
    unfold gJoin at hg
    simp only at hg
    cases e1 : strsD e with
    | none => rw [e1] at hg; cases hg
    | some ys =>
      rw [e1] at hg
      simp only at hg
      split at hg
      · rename_i hz
        cases hg
        cases repS rv
        cases e with
        | lst ds =>
          obtain ⟨p, ws, rfl, ha, ra⟩ := repL ru
          rw [strsL_eq e1] at ra
          cases reps_strs_eq ra
          exact ⟨a, p, ys, rfl, rfl, .inl (SqL.of (O.sb _ _ ha)), hz, k B _ _ (Same.refl _) (O.pushP (.str _))⟩
        | tup ds =>
          obtain ⟨p, ws, rfl, ha, ra⟩ := repT ru
          rw [strsL_eq e1] at ra
          cases reps_strs_eq ra
          exact ⟨a, p, ys, rfl, rfl, .inr (sameT O.sb ha), hz, k B _ _ (Same.refl _) (O.pushP (.str _))⟩
        | _ => cases e1
      · cases hg
  | _ => cases hg
def gStarts : D → D → Option D
  | .str a, .str b => some (.bl (Txt.startswith a b))
  | _, _ => none
theorem m1_starts : M1Ok K (fun x xs H Q => ∃ a b, x = .str a ∧ xs = [.str b] ∧ Q (.bl (Txt.startswith a b)) H) .pu gStarts := by
  intro Γ B R H σ ρ v u d e o Q O rv ru hg k
  unfold gStarts at hg
  split at hg
  · cases hg
    cases repS rv
    cases repS ru
    exact ⟨_, _, rfl, rfl, k B _ _ (Same.refl _) (O.pushP (.bl _))⟩
  · cases hg
/-! ### names of the module -/
theorem pe_globS {X : Cx} {x s : Str} {pos : Pos} (hg : Gl X x) (h : ∃ t, X.mg x = some (.str s t)) (hd : (x == ("__debug__" : Str)) = false) : PE X (.Name x pos) (tC (.str s)) :=
  let ⟨t, h⟩ := h; pe_glob hg h ⟨t, rfl⟩ hd
theorem pe_globI {X : Cx} {x : Str} {i : Int} {pos : Pos} (hg : Gl X x) (h : ∃ t, X.mg x = some (.int i t)) (hd : (x == ("__debug__" : Str)) = false) : PE X (.Name x pos) (tC (.int i)) :=
  let ⟨t, h⟩ := h; pe_glob hg h ⟨t, rfl⟩ hd
/-! ### list.insert, list(range(..)) -/
def gInsert : List D → List D → Option (D × List D) := fun ds es => match es with
  | [.int i, y] => if ds.length < sizeLine ∧ 0 ≤ i ∧ i < 2 ^ 63 then some (.non, ds.take i.toNat ++ [y] ++ ds.drop i.toNat) else none
  | _ => none
theorem mok_insert : MOk K (fun x vs H Q => ∃ (l : Addr) (xs : List V) (i : Int) (y : V), x = .ref l ∧ vs = [.int i, y] ∧ H l = some (.lst xs) ∧ xs.length < sizeLine ∧ 0 ≤ i ∧ i < 2 ^ 63 ∧
    Q .non (upd H l (.lst (xs.take i.toNat ++ [y] ++ xs.drop i.toNat)))) gInsert := by
  intro p vs ds xs es B H Q d ds' hp sb r rx h
  unfold gInsert at h
  split at h
  · rename_i i y
    split at h
    · rename_i hz
      cases h
      obtain ⟨v1, v2, rfl, r1, r2⟩ := reps2 rx
      cases repI r1
      exact ⟨vs.take i.toNat ++ [v2] ++ vs.drop i.toNat, .non, ((r.take _).append (.cons r2 .nil)).append (r.drop _), .non, fun q => ⟨p, vs, i, v2, rfl, rfl, hp, by rw [r.length]; exact hz.1, hz.2.1, hz.2.2, q⟩⟩
    · cases h
  · cases h
instance rgOkD (a b : Int) : Decidable (RgOk a b) := by unfold RgOk; infer_instance
theorem reps_rg (B : Hp) (lo : Int) : ∀ n : Nat, Reps K B ((List.range n).map fun (i : Nat) => V.int (lo + (i : Int))) (rangeD lo n) := by
  intro n
  unfold rangeD
  induction List.range n with
  | nil => exact .nil
  | cons i is ih => rw [List.map_cons, List.map_cons]; exact .cons (.int _) ih
def gLr1 : D → Option D
  | .int n => if RgOk 0 n then some (.lst (rangeD 0 n.toNat)) else none
  | _ => none
def gLr2 : D → D → Option D
  | .int m, .int n => if RgOk m n then some (.lst (rangeD m (n - m).toNat)) else none
  | _, _ => none
theorem eok_lr1 (ha : EOk K mg W Γ ta .pu fa) : EOk K mg W Γ (tLstRg (tRg1 ta)) .ls (eUn gLr1 fa) := by
  refine eok_un (r := fun x H Q => ∃ n, x = .int n ∧ RgOk 0 n ∧ ∀ q, H q = none → Q (.ref q) (upd H q (.lst (rgV 0 n)))) (fun Γ B R H σ ρ v d o Q O rv hg k => ?_) ha
  cases d with
  | int n =>
    unfold gLr1 at hg
    simp only at hg
    split at hg
    · rename_i h
      cases hg
      cases repI rv
      refine ⟨n, rfl, h, fun q hq => k B _ _ (Same.refl _) (O.pushN hq ?_)⟩
      unfold rgV
      rw [Int.sub_zero]
      exact reps_rg B 0 n.toNat
    · cases hg
  | _ => cases hg
theorem eok_lr2 (ha : EOk K mg W Γ ta .pu fa) (hb : EOk K mg W Γ tb .pu fb) : EOk K mg W Γ (tLstRg (tRg2 ta tb)) .ls (eOp gLr2 fa fb) := by
  refine eok_op (r := fun x y H Q => ∃ i j, x = .int i ∧ y = .int j ∧ RgOk i j ∧ ∀ q, H q = none → Q (.ref q) (upd H q (.lst (rgV i j)))) (fun Γ B R H σ ρ v u d e o Q O rv ru hg k => ?_) ha hb
  cases d with
  | int m =>
    cases e with
    | int n =>
      unfold gLr2 at hg
      simp only at hg
      split at hg
      · rename_i h
        cases hg
        cases repI rv
        cases repI ru
        refine ⟨m, n, rfl, rfl, h, fun q hq => k B _ _ (Same.refl _) (O.pushN hq ?_)⟩
        unfold rgV
        exact reps_rg B m _
      · cases hg
    | _ => cases hg
  | _ => cases hg
/-- xs[::-1] of a list -/
def gRevL : D → Option D
  | .lst ds => some (.lst ds.reverse)
  | _ => none
theorem eok_revL (ha : EOk K mg W Γ ta .pu fa) : EOk K mg W Γ (tRevL K ta) .ls (eUn gRevL fa) := by
  refine eok_un (r := fun x H Q => ∃ a xs, x = .ref a ∧ SqL K H a xs ∧ ∀ p, H p = none → Q (.ref p) (upd H p (.lst xs.reverse))) (fun Γ B R H σ ρ v d o Q O rv hg k => ?_) ha
  cases d with
  | lst ds =>
    cases hg
    obtain ⟨a, vs, rfl, ha, ra⟩ := repL rv
    exact ⟨a, vs, rfl, SqL.of (O.sb _ _ ha), fun p hp => k B _ _ (Same.refl _) (O.pushN hp ra.reverse)⟩
  | _ => cases hg
end
end DL
/-! dicts: .get; dicts of the module -/
namespace DL
open PySem L2
section
variable {K : PySem.W.Frag} {mg : Mg} {W : Wc} {Γ : List Sh} {s : Sh} {ta tb te to tz : TE} {fa fb fo fe fz : ER D}
theorem repDc {B : Hp} {v : V} {kds : List (Key × D)} (r : Rep K B v (.dct kds)) : ∃ a kvs, v = .ref a ∧ B a = some (.dK kvs) ∧ RepsK K B kvs kds := by cases r with | dct h r => exact ⟨_, _, rfl, h, r⟩
/-- o.get(k, z) -/
def eDGet (fo fe fz : ER D) : ER D := fun ρ => (fo ρ).bind fun d ρ => match d with
  | .dct kds => (fe ρ).bind fun y ρ => (fz ρ).bind fun z ρ => ofOpt ((keyD y).map fun k => (getK kds k).getD z) ρ
  | _ => .stuck
theorem eok_dget (ho : EOk K mg W Γ to .pu fo) (he : EOk K mg W Γ te .pu fe) (hz : EOk K mg W Γ tz .pu fz) : EOk K mg W Γ (tDGet2 to te tz) .pu (eDGet fo fe fz) := by
  intro B R H σ ρ Q pw O hl
  unfold eDGet at hl
  refine ho B R H σ ρ _ pw O ?_
  cases e1 : fo ρ with
  | stuck => rw [e1] at hl; exact hl
  | exc x ρ1 => rw [e1] at hl; exact hl
  | ok d ρ1 =>
    rw [e1] at hl
    intro B1 H1 v s1 O1
    have rv := O1.top
    simp only [Res.bind] at hl
    cases d with
    | dct kds =>
      obtain ⟨a, kvs, rfl, ha, ra⟩ := repDc rv
      refine ⟨a, rfl, .inl ⟨kvs, .inl (O1.sb _ _ ha)⟩, he B1 R H1 σ ρ1 _ pw O1.pop ?_⟩
      simp only at hl
      cases e2 : fe ρ1 with
      | stuck => rw [e2] at hl; exact hl
      | exc x ρ2 => rw [e2] at hl; exact XLand.mono hl s1
      | ok y ρ2 =>
        rw [e2] at hl
        intro B2 H2 u s2 O2
        have ru := O2.top
        refine hz B2 R H2 σ ρ2 _ pw O2.pop ?_
        simp only at hl
        cases e3 : fz ρ2 with
        | stuck => rw [e3] at hl; exact hl
        | exc x ρ3 => rw [e3] at hl; exact XLand.mono hl (s1.trans s2)
        | ok z ρ3 =>
          rw [e3] at hl
          intro B3 H3 w s3 O3
          have rz := O3.top
          simp only [ofOpt] at hl
          cases e4 : keyD y with
          | none => rw [e4] at hl; exact hl.elim
          | some k =>
            rw [e4] at hl
            simp only [Option.map_some] at hl
            have hk := keyD_ok ru e4
            subst hk
            have ha3 : H3 a = some (.dK kvs) := O3.sb _ _ (s3 _ _ (s2 _ _ ha))
            cases e5 : getK kds k with
            | none =>
              rw [e5] at hl
              exact ⟨none, .inl ⟨kvs, k, .inl ha3, rfl, (RepsK.none ra e5).symm⟩, hl B3 H3 w ((s1.trans s2).trans s3) O3⟩
            | some o =>
              rw [e5] at hl
              obtain ⟨x, h1, h2⟩ := RepsK.get ra e5
              exact ⟨some x, .inl ⟨kvs, k, .inl ha3, rfl, h1.symm⟩, hl B3 H3 x ((s1.trans s2).trans s3) (O3.pop.pushP ((h2.mono s2).mono s3))⟩
    | _ => exact hl.elim
/-- the entries of a dict of the module -/
def Ents (K : PySem.W.Frag) : List DictEntry → List (Str × D) → Prop
  | [], [] => True
  | e :: es, (x, d) :: kds => ((∃ t, e.key = .str x t) ∧ ∃ v, RelV v e.val ∧ ∀ B, Rep K B v d) ∧ Ents K es kds
  | _, _ => False
theorem ents_find {z : Str} : ∀ {es : List DictEntry} {kds : List (Str × D)}, Ents K es kds →
    (kds.lookup z = none → es.find? (·.key.isStr z) = none) ∧ (∀ d, kds.lookup z = some d → ∃ e v, es.find? (·.key.isStr z) = some e ∧ RelV v e.val ∧ ∀ B, Rep K B v d)
  | [], [], _ => ⟨fun _ => rfl, fun d h => absurd h (by simp)⟩
  | e :: es, (x, d) :: kds, ⟨⟨⟨t, hk⟩, v, hv, hr⟩, h⟩ => by
    obtain ⟨h1, h2⟩ := ents_find (z := z) h
    have e1 : e.key.isStr z = (x == z) := by rw [hk]; rfl
    by_cases q : x = z
    · subst q
      have e2 : ((x, d) :: kds).lookup x = some d := by rw [List.lookup_cons]; simp
      have e3 : (e :: es).find? (·.key.isStr x) = some e := by rw [List.find?_cons, e1]; simp
      refine ⟨fun z => (by rw [e2] at z; cases z), fun d' z => ?_⟩
      rw [e2] at z; cases z
      exact ⟨e, v, e3, hv, hr⟩
    · have e2 : ((x, d) :: kds).lookup z = kds.lookup z := by
        rw [List.lookup_cons]
        have : (z == x) = false := by simp; exact fun h => q h.symm
        rw [this]
      have e3 : (e :: es).find? (·.key.isStr z) = es.find? (·.key.isStr z) := by
        rw [List.find?_cons, e1]
        have : (x == z) = false := by simp [q]
        rw [this]
      rw [e2, e3]
      exact ⟨h1, h2⟩
theorem ents_noref : ∀ {es : List DictEntry} {kds : List (Str × D)}, Ents K es kds → es.any (·.refKey) = false
  | [], [], _ => rfl
  | e :: es, (x, d) :: kds, ⟨⟨⟨t, hk⟩, _⟩, h⟩ => by
    rw [List.any_cons, ents_noref h]
    have : e.refKey = false := by unfold DictEntry.refKey; rw [hk]
    rw [this]; rfl
/-- a dict of the module: what is known of it -/
structure KDc (K : PySem.W.Frag) (w : World) (a : Addr) (kds : List (Str × D)) : Prop where
  ex : ∃ es n, K.lookup a = some ⟨.type "dict", none, .dict es n, #[]⟩ ∧ PySem.W.KeysLit w.params es.toList ∧ Ents K es.toList kds
  low : (a == sysModules) = false
theorem KDc.ns {w : World} {a : Addr} {kds : List (Str × D)} (h : KDc K w a kds) (z : Str) : (kds.lookup z = none → PySem.W.nsIn K a z = some none) ∧ (∀ d, kds.lookup z = some d → ∃ v u, PySem.W.nsIn K a z = some (some u) ∧ RelV v u ∧ ∀ B, Rep K B v d) := by
  obtain ⟨⟨es, n, h1, h2, h3⟩, _⟩ := h
  obtain ⟨f1, f2⟩ := ents_find (z := z) h3
  refine ⟨fun q => ?_, fun d q => ?_⟩
  · unfold PySem.W.nsIn
    rw [h1]
    simp only [f1 q, ents_noref h3]
    rfl
  · obtain ⟨e, v, g1, g2, g3⟩ := f2 d q
    refine ⟨v, e.val, ?_, g2, g3⟩
    unfold PySem.W.nsIn
    rw [h1]
    simp only [g1]
def rInK (K : PySem.W.Frag) (a : Addr) (neg : Bool) : R2 := fun x y H Q => ∃ (z : Str) (r : Option Value), x = .str z ∧ y = .ref a ∧ PySem.W.nsIn K a z = some r ∧ Q (.bl (if neg then !r.isSome else r.isSome)) H
theorem opInK {X : Cx} {a : Addr} {kds : List (Str × D)} (h : KDc X.K X.w a kds) : OpR X (compareOp .In) (rInK X.K a false) := by
  obtain ⟨⟨es, n, h1, h2, h3⟩, low⟩ := h
  exact op_in_kd ⟨h1, h2, low⟩
theorem opNiK {X : Cx} {a : Addr} {kds : List (Str × D)} (h : KDc X.K X.w a kds) : OpR X (compareOp .NotIn) (rInK X.K a true) := by
  obtain ⟨⟨es, n, h1, h2, h3⟩, low⟩ := h
  exact op_notIn_kd ⟨h1, h2, low⟩
def gKIn (neg : Bool) (kds : List (Str × D)) : D → Option D
  | .str z => some (.bl (if neg then !(kds.lookup z).isSome else (kds.lookup z).isSome))
  | _ => none
theorem eok_kin {w : World} {a : Addr} {neg : Bool} {kds : List (Str × D)} (h : KDc K w a kds) (ha : EOk K mg W Γ ta .pu fa) : EOk K mg W Γ (tOp (rInK K a neg) ta (tC (.ref a))) .pu (eUn (gKIn neg kds) fa) := by
  refine eok_un (r := fun x H Q => rInK K a neg x (.ref a) H Q) (fun Γ B R H σ ρ v d o Q O rv hg k => ?_) ha
  cases d with
  | str z =>
    cases hg
    cases repS rv
    obtain ⟨f1, f2⟩ := h.ns z
    cases e : kds.lookup z with
    | none => exact ⟨z, none, rfl, rfl, f1 e, k B H _ (Same.refl _) (O.pushP (by rw [e]; exact .bl _))⟩
    | some d =>
      obtain ⟨v, u, g1, g2, g3⟩ := f2 d e
      exact ⟨z, some u, rfl, rfl, g1, k B H _ (Same.refl _) (O.pushP (by rw [e]; exact .bl _))⟩
  | _ => cases hg
def gKGet (kds : List (Str × D)) : D → Option D
  | .str z => kds.lookup z
  | _ => none
theorem eok_kget {w : World} {a : Addr} {kds : List (Str × D)} (h : KDc K w a kds) (hb : EOk K mg W Γ tb .pu fb) : EOk K mg W Γ (tOp (rIxD K w) (tC (.ref a)) tb) .pu (eUn (gKGet kds) fb) := by
  refine eok_un (r := fun y H Q => rIxD K w (.ref a) y H Q) (fun Γ B R H σ ρ v d o Q O rv hg k => ?_) hb
  cases d with
  | str z =>
    cases repS rv
    obtain ⟨f1, f2⟩ := h.ns z
    obtain ⟨v, u, g1, g2, g3⟩ := f2 o hg
    obtain ⟨⟨es, n, h1, h2, h3⟩, low⟩ := h
    exact ⟨a, z, v, rfl, rfl, ⟨es, n, u, h1, h2, g1, g2⟩, k B H v (Same.refl _) (O.pushP (g3 B))⟩
  | _ => cases hg
/-- xs[::-1] of an own list -/
def eRvO (i : Nat) : ER D := fun ρ => match ρ[i]? with
  | some (some (.lst ds)) => .ok (.lst ds.reverse) ρ
  | _ => .stuck
theorem eok_revO {i : Nat} (hs : Γ[i]? = some .ls) : EOk K mg W Γ (tRevL K (tVar i)) .ls (eRvO i) := by
  intro B R H σ ρ Q pw O hd
  unfold eRvO at hd
  split at hd
  · rename_i ds he
    obtain ⟨p, vs, q2, q3, q4⟩ := O.getLs he hs
    exact ⟨_, q2, p, vs, rfl, SqL.of q3, fun l hl => hd B _ _ (Same.refl _) (O.pushN hl q4.reverse)⟩
  · exact hd.elim
end
end DL
/-! a comprehension whose element may raise -/
namespace L2
open PySem PySem.Spec PyProof.Rows
section
variable {M : Model} {A : Around} {E : Value → Shared → Prop} {s : Shared} {Z : Obj → Prop} {base : Heap} {env : Env} {outer l : List Env} {L e : Addr}
/-- noted, whatever its flight was -/
theorem note_anyZ {fl : Value} {Q : Unit → Shared → Prop} (hZ : HandSPX.Steady Z) (hfr : A.frames = some (env :: outer)) (hf : env.frame = some L) (hkb : base.StaysIn s.heap) (hen : base.get? e = none) (hl : s.heap.FunFrames base (env :: outer)) (ht : HandSPX.TracedZ s.heap base e Z fl)
    (hQ : ∀ h', HandSPX.HeldZ base (env :: outer) e Z L h' → s.heap.UpToSlots h' → Q () { s with heap := h' }) : wpAny M A (noteFrame (.ref e) env) Q E s := by
  have ht0 := ht
  obtain ⟨oe, vs, T, oT, ts, he, hz, hd, h1, hnT, hTe, hT, hdT, h3⟩ := ht
  cases hfl : (fl == rawInt L) with
  | true =>
    have hfl := eq_of_beq hfl
    subst hfl
    refine HandSPX.againZ hf ht0 ?_
    exact hQ s.heap ⟨hkb, hen, hl, ht0⟩ (fun b o hb _ => ⟨o.slots, hb⟩)
  | false =>
    unfold noteFrame
    simp only [hf]
    refine wpAny_bind (wpAny_field he hd h1 ?_)
    rw [if_pos (show (Value.ref T != Value.none) = true from by simp)]
    refine wpAny_bind (wpAny_field hT hdT h3 ?_)
    rw [if_neg (by rw [hfl]; exact Bool.false_ne_true)]
    refine wpAny_bind (wpAny_setField hT hdT (Array.getElem?_eq_some_iff.mp h3).1 ?_)
    have other : ∀ b, b ≠ T → (s.heap.update T (Obj.mapFields (·.setIfInBounds 3 Value.none))).get? b = s.heap.get? b := fun b hb => Heap.get?_update_other _ _ (Ne.symm hb)
    have noRecord : ∀ b o, s.heap.get? b = some o → (∀ vs, o.data ≠ .fields vs) → b ≠ T := fun b o hb hnf q => by
      rw [q, hT] at hb; injection hb with hb; subst hb; exact hnf ts hdT
    refine HandSPX.wpAny_entryZ hZ hfr (hl.of_keeps fun b o hb hnf => ⟨o, (other b (noRecord b o hb hnf)).trans hb, rfl⟩) hf ((other e (Ne.symm hTe)).trans he)
      (fun b o hbo => (other b fun q => by rw [q, hnT] at hbo; cases hbo).trans (hkb b o hbo)) hen hd (Array.getElem?_eq_some_iff.mp h1).1 hz fun h' hN => ?_
    obtain ⟨x1, x2, x3, x4⟩ := hN
    exact hQ h' ⟨x1, hen, x2, x3⟩ fun b o hb hnf => x4 b o ((other b (noRecord b o hb hnf)).trans hb) hnf
/-- noted, in whatever state of the air -/
theorem note_sky {Q : Unit → Shared → Prop} {B : Heap} {C : Addr} (hZ : HandSPX.Steady Z) (hfr : A.frames = some (env :: outer)) (hf : env.frame = some L) (sky : Sky B (env :: outer) e Z C s.heap)
    (hQ : ∀ h', HandSPX.HeldZ B (env :: outer) e Z L h' → s.heap.UpToSlots h' → Q () { s with heap := h' }) : wpAny M A (noteFrame (.ref e) env) Q E s := by
  rcases sky with ⟨hB, hn, hl, oe, vs, he, hz, hd, h1⟩ | ⟨k1, k2, k3, k4⟩ | ⟨k1, k2, k3, k4⟩
  · exact HandSPX.look_newZ hZ hfr hl hf he hB hn hd h1 hz hQ
  · exact note_anyZ hZ hfr hf k1 k2 k3 k4 hQ
  · exact note_anyZ hZ hfr hf k1 k2 k3 k4 hQ
/-- off the names of a block that goes -/
theorem TracedZ.off {h h' B B' : Heap} {C : Addr} {m : Str → Option Value} {fl : Value} (hn : h.Ns C m) (sb : Heap.SameBut C h h') (hb : ∀ b, B.get? b = none → B'.get? b = none) (t : HandSPX.TracedZ h B e Z fl) : HandSPX.TracedZ h' B' e Z fl := by
  obtain ⟨oe, vs, T, oT, ts, he, hz, hd, h1, hnT, hTe, hT, hdT, h3⟩ := t
  obtain ⟨oL, es, ep, hoL, hdL, r⟩ := hn
  have n1 : e ≠ C := fun q => by rw [q, hoL] at he; cases he; rw [hdL] at hd; cases hd
  have n2 : T ≠ C := fun q => by rw [q, hoL] at hT; cases hT; rw [hdL] at hdT; cases hdT
  exact ⟨oe, vs, T, oT, ts, (sb.2 e n1).trans he, hz, hd, h1, hb T hnT, hTe, (sb.2 T n2).trans hT, hdT, h3⟩
end
/-- a comprehension's block that lets exceptions out -/
abbrev Cx.blkX (X : Cx) (s : Shared) (H : Hp) (scope : Scope) (cenv : Env) (fp : List Addr) (xe : Value → Shared → Prop) : Cx := { X.blk s H scope cenv fp with xe := xe }
theorem blk_air {X : Cx} {W : WX} {pins : List (Addr × Obj)} {σ : St} {H3 : Hp} {s3 : Shared} {scope : Scope} {ce : Env} {fp : List Addr} {xe : Value → Shared → Prop} (hs : X.stack = X.env :: X.outer) (hf : X.env.frame = some X.env.locals) (tk : Takes X W) (I3 : Inv X pins σ H3 s3)
    (hcf : ce.frame = X.env.frame) (cL : ce.locals = s3.heap.objs.size) (f3 : ∀ b ∈ fp, FpOk X pins H3 b ∧ b < s3.heap.objs.size) {u : Value} {s' : Shared} (x : XE (X.blkX s3 H3 scope ce fp xe) (fun c d _ H => W c d σ H) u s') :
    notedBy (model X.prog X.w) X.A ce (CompFails (model X.prog X.w) X.A X.xe ce) u s' := by
  obtain ⟨a, B, sI, pb, σb, H, cls, d, rfl, I, nb, up, sky, na, os, ag, w⟩ := x
  have hfr : X.A.frames = some (X.env :: X.outer) := by rw [I3.ok.frames, hs]
  have sky : Sky B (X.env :: X.outer) a (Zc cls d) ce.locals s'.heap := by rw [← hs]; exact sky
  show wpAny _ _ (noteFrame (.ref a) ce) _ _ s'
  rw [noteFrame_env _ hcf]
  refine note_sky Zc.steady hfr hf sky fun h1 hh up1 => ?_
  obtain ⟨m, hn, _⟩ := I.loc
  have hn : sI.heap.Ns ce.locals m := hn
  have hn1 : h1.Ns ce.locals m := (hn.upToSlots up).upToSlots up1
  refine ⟨m, hn1, fun h2 m2 hn2 sb => ?_⟩
  have sb : Heap.SameBut ce.locals h1 h2 := sb
  obtain ⟨k1, k2, k3, k4⟩ := hh
  have sub : ∀ b o, (PySem.W.hideAll B [ce.locals]).get? b = some o → B.get? b = some o ∧ b ≠ ce.locals := fun b o e =>
    ⟨PySem.W.of_hideAll _ e, fun q => by rw [q, PySem.W.hideAll_none _ (List.mem_singleton.mpr rfl)] at e; cases e⟩
  have subn : ∀ b, B.get? b = none → (PySem.W.hideAll B [ce.locals]).get? b = none := fun b e => by
    cases q : (PySem.W.hideAll B [ce.locals]).get? b with
    | none => rfl
    | some o => have := (sub b o q).1; rw [e] at this; cases this
  have st2 : (PySem.W.hideAll B [ce.locals]).StaysIn h2 := fun b o e => (sb.2 b (sub b o e).2).trans (k1 b o (sub b o e).1)
  have fr2 : h2.FunFrames (PySem.W.hideAll B [ce.locals]) (X.env :: X.outer) := by
    have k5 : h2.FunFrames B (X.env :: X.outer) := Heap.FunFrames.sameBut sb hn2 k3
    exact funFrames_none k5 fun b hb => subn b (k5.mem hb).1
  have tr2 : HandSPX.TracedZ h2 (PySem.W.hideAll B [ce.locals]) a (Zc cls d) (rawInt X.env.locals) := TracedZ.off hn1 sb subn k4
  have tr2' := tr2
  obtain ⟨oe, vs, T, oT, ts, he, hz, hd, hv1, _⟩ := tr2'
  unfold PySem.passOn
  refine wpAny_bind (wpAny_field he hd hv1 ?_)
  rw [if_neg (show ¬ ((Value.ref T == Value.none) = true) from by simp), hcf, hf]
  refine wpAny_bind (HandSPX.setFlight_onZ (l := X.env :: X.outer) ⟨st2, subn a k2, fr2, tr2⟩ fun h3 hh3 up3 => wpAny_throw ?_)
  refine tk _ _ ⟨a, PySem.W.hideAll B [ce.locals], { sI with heap := PySem.W.hideAll sI.heap [ce.locals] }, pins, σ, H, cls, d, rfl, ?_, fun b o e hb => ?_, fun b o e hnf => ?_, .inr (.inr (by rw [hs]; exact hh3)), na, os, ag, w⟩
  · have lt : ∀ b o, s3.heap.get? b = some o → b ∉ [ce.locals] := fun b o e q => by
      rw [List.mem_singleton] at q
      have := Heap.lt_size e
      rw [q, cL] at this
      exact Nat.lt_irrefl _ this
    have bs : Un (frs X.stack) fp H3 H s3.heap sI.heap := I.base
    have fr : H ce.locals = none := I.free
    refine I3.call' (ch := fp) I.os ⟨fun b o e n hb hx => PySem.W.hideAll_get _ (bs.keep b o e n hb hx) (lt b o e), fun b o e n hb hx => ?_, bs.free, fun b o e hx => ?_, bs.tups, bs.frzs, bs.tbls⟩ ?_ I.bare fun b hb => ⟨(f3 b hb).1.2.2.2.1, (f3 b hb).1.2.1, (f3 b hb).1.2.2.2.2.1, (f3 b hb).1.2.2.2.2.2⟩
    · obtain ⟨sl, q⟩ := bs.slot b o e n hb hx
      exact ⟨sl, PySem.W.hideAll_get _ q (lt b o e)⟩
    · obtain ⟨o', q⟩ := bs.there b o e hx
      exact ⟨o', PySem.W.hideAll_get _ q (lt b o e)⟩
    · exact fun b o q => (I.hok b o q).stay (fun c u hc r => PySem.W.hideAll_get _ r fun z => by
        rw [List.mem_singleton] at z
        rw [z] at hc
        rcases hc with hc | hc
        · rw [hc, q] at fr; cases fr
        · rw [hc] at fr; cases fr) (fun _ r => r) fun _ _ r => r
  · refine PySem.W.hideAll_get _ (nb b o (PySem.W.of_hideAll _ e) hb) fun z => ?_
    rw [List.mem_singleton] at z
    have e : (PySem.W.hideAll sI.heap [ce.locals]).get? b = some o := e
    rw [z, PySem.W.hideAll_none _ (List.mem_singleton.mpr rfl)] at e; cases e
  · have e : (PySem.W.hideAll sI.heap [ce.locals]).get? b = some o := e
    have ne : b ≠ ce.locals := fun z => by rw [z, PySem.W.hideAll_none _ (List.mem_singleton.mpr rfl)] at e; cases e
    obtain ⟨sl, q⟩ := (up.trans up1) b o (PySem.W.of_hideAll _ e) hnf
    obtain ⟨sl2, q2⟩ := up3 b _ ((sb.2 b ne).trans q) hnf
    exact ⟨sl2, q2⟩
theorem Cx.Ok.xed {X : Cx} (o : X.Ok) {e : Value → Shared → Prop} : ({ X with xe := e } : Cx).Ok := ⟨o.mod, o.kind, o.glob, o.blt, o.above, o.inj, o.has, o.cab, o.hd, o.frames, o.stk, o.exf, o.bs, o.bsz, o.noex, o.exfs, o.funs, o.frf⟩
theorem Inv.xed {X : Cx} {pins : List (Addr × Obj)} {σ : St} {H : Hp} {s : Shared} (I : Inv X pins σ H s) {e : Value → Shared → Prop} : Inv { X with xe := e } pins σ H s := ⟨I.ok.xed, I.os, I.bare, I.base, I.loc, I.cell, I.free, I.freeC, I.pin, I.hok, I.len⟩
section
variable {X : Cx}
/-- [elt for target in iter if ..] of steps that may raise W -/
def tLcX (W : WX) (wi : TI) (g : TG) (tt : WX → TT) (te : WX → TE) (vs : List Nat) : TE := fun σ H Q => tLc wi g (tt fun c d _ H => W c d σ H) (te fun c d _ H => W c d σ H) vs σ H Q
theorem lc_coreX {pins : List (Addr × Obj)} {s : Shared} {σ : St} {H : Hp} {Q : VK} {WW : WX} {elt tg iter : Expr} {ifs : List Expr} {scope : Scope} {own : List (Str × Nat)} {pos pos' : Pos} {wi : TI} {g : TG} {tt : WX → TT} {te : WX → TE} {use : Option (Value → Sem Unit)} {Qf : Value → Shared → Prop}
    (hst : X.stack = X.env :: X.outer) (hfm : X.env.frame = some X.env.locals) (tk : Takes X WW) (hc : X.calm = true) (hN : X.N.Nodup) (I : Inv X pins σ H s) (hi : PI X tg iter wi) (ok : BlkOk X.N X.env.scope scope own)
    (hg : ∀ (s : Shared) (H : Hp) (C : Addr) (cl : List (Str × Addr)) (fp : List Addr) (xe : Value → Shared → Prop), PG (X.blkX s H scope (compEnvC scope cl C X.env) fp xe) tg g)
    (ht : ∀ (s : Shared) (H : Hp) (C : Addr) (cl : List (Str × Addr)) (fp : List Addr) (xe : Value → Shared → Prop) (W' : WX), Takes (X.blkX s H scope (compEnvC scope cl C X.env) fp xe) W' → PTs (X.blkX s H scope (compEnvC scope cl C X.env) fp xe) ifs (tt W'))
    (he : ∀ (s : Shared) (H : Hp) (C : Addr) (cl : List (Str × Addr)) (fp : List Addr) (xe : Value → Shared → Prop) (W' : WX), Takes (X.blkX s H scope (compEnvC scope cl C X.env) fp xe) W' → PE (X.blkX s H scope (compEnvC scope cl C X.env) fp xe) elt (te W')) (hs : ∀ x, foldedSetIterable iter X.env x = pure x)
    (h : tLcX WW wi g tt te (own.map (·.2)) σ H Q)
    (hRR : ∀ D C s' m H', Inv X pins σ H' s' → Q (.ref D) H' → s'.heap.Ns C m → FpOk X pins H' C → compPost (model X.prog X.w) X.A X.xe use Qf (.ref D) C (.ok .next) s') :
    wpAny (model X.prog X.w) X.A (comprehension (.ListComp elt [⟨tg, iter, ifs, 0⟩] scope pos) scope X.env pos' (newList []) false (eval iter X.env) use) Qf X.xe s := by
  have hfree : ∀ y ∈ scope.names, y.2 = .free → ∃ c, X.env.cells.lookup y.1 = some c := fun y hy e => by
    rcases ok.free y hy e with k | k
    · exact I.ok.has _ (.inl k)
    · exact I.ok.has _ (.inr k)
  refine comprehension_at (use := use) rfl hs (closure_ok hfree) ok.kind (fun y hy e => by rw [ok.uniq y hy, e])
    (thn (hi.run pins s σ H _ I h) fun xv s1 hx => thn hx fun itv s2 h2 => ?_)
  obtain ⟨it, fp, tn, J, H2, e, I2, T, st2, f2, q⟩ := h2
  subst e
  refine wpAny_newObj_type (newEnv_comp ?_) (by show 0 ≤ sizeLine; decide)
  generalize hD : s2.heap.objs.size = D
  have hDn : H2 D = none := I2.hok.fresh (Nat.le_of_eq hD)
  obtain ⟨W, ⟨m0, w0⟩, turn⟩ := q D hDn
  -- the new list
  generalize hs3 : ({ s2 with heap := s2.heap.push { cls := .type "list", data := .seq ([] : List Value).toArray } } : Shared) = s3
  have I3 : Inv X pins σ (upd H2 D (.lst [])) s3 := by
    rw [← hs3]
    refine I2.laid (t' := s2.toks) (fun b o e => Heap.get?_push_of_some _ e) (Nat.le_of_eq hD) ⟨Nat.zero_le _, [], 0, .nil, ?_⟩
    rw [← hD]
    exact Heap.get?_push_size _ rfl
  have h3 : s3.heap = s2.heap.push { cls := .type "list", data := .seq ([] : List Value).toArray } := by rw [← hs3]
  have sz : ∀ b ∈ fp, b < s2.heap.objs.size := fun b hb => by
    obtain ⟨o, e, _⟩ := T.obj _ _ st2 b hb
    exact Heap.lt_size e
  have f3 : ∀ b ∈ fp, FpOk X pins (upd H2 D (.lst [])) b ∧ b < s3.heap.objs.size := fun b hb => by
    have hlt := sz b hb
    refine ⟨⟨?_, (f2 b hb).2⟩, by rw [h3, Heap.size_push]; exact Nat.lt_succ_of_lt hlt⟩
    rw [upd_ne (by rw [← hD]; exact Nat.ne_of_lt hlt)]
    exact (f2 b hb).1
  have st3 : tn 0 s3.heap := T.keep _ _ _ st2 fun b _ o e => by rw [h3]; exact Heap.get?_push_of_some _ e
  have I4 := (block_start I3 ok hN f3).xed (e := (notedBy (model X.prog X.w) X.A (compEnvC scope (cellsFrom (s3.heap.objs.size + 1) scope.names (cloFrom X.env.cells scope.names [])) s3.heap.objs.size X.env) (CompFails (model X.prog X.w) X.A X.xe (compEnvC scope (cellsFrom (s3.heap.objs.size + 1) scope.names (cloFrom X.env.cells scope.names [])) s3.heap.objs.size X.env))))
  have tkB : Takes (X.blkX s3 (upd H2 D (.lst [])) scope (compEnvC scope (cellsFrom (s3.heap.objs.size + 1) scope.names (cloFrom X.env.cells scope.names [])) s3.heap.objs.size X.env) fp (notedBy (model X.prog X.w) X.A (compEnvC scope (cellsFrom (s3.heap.objs.size + 1) scope.names (cloFrom X.env.cells scope.names [])) s3.heap.objs.size X.env) (CompFails (model X.prog X.w) X.A X.xe (compEnvC scope (cellsFrom (s3.heap.objs.size + 1) scope.names (cloFrom X.env.cells scope.names [])) s3.heap.objs.size X.env)))) (fun c d _ H => WW c d σ H) := fun u s' x => blk_air (ce := (compEnvC scope (cellsFrom (s3.heap.objs.size + 1) scope.names (cloFrom X.env.cells scope.names [])) s3.heap.objs.size X.env)) hst hfm tk I3 rfl rfl f3 x
  have pg := hg s3 (upd H2 D (.lst [])) s3.heap.objs.size (cellsFrom (s3.heap.objs.size + 1) scope.names (cloFrom X.env.cells scope.names [])) fp (notedBy (model X.prog X.w) X.A (compEnvC scope (cellsFrom (s3.heap.objs.size + 1) scope.names (cloFrom X.env.cells scope.names [])) s3.heap.objs.size X.env) (CompFails (model X.prog X.w) X.A X.xe (compEnvC scope (cellsFrom (s3.heap.objs.size + 1) scope.names (cloFrom X.env.cells scope.names [])) s3.heap.objs.size X.env)))
  have pt := ht s3 (upd H2 D (.lst [])) s3.heap.objs.size (cellsFrom (s3.heap.objs.size + 1) scope.names (cloFrom X.env.cells scope.names [])) fp (notedBy (model X.prog X.w) X.A (compEnvC scope (cellsFrom (s3.heap.objs.size + 1) scope.names (cloFrom X.env.cells scope.names [])) s3.heap.objs.size X.env) (CompFails (model X.prog X.w) X.A X.xe (compEnvC scope (cellsFrom (s3.heap.objs.size + 1) scope.names (cloFrom X.env.cells scope.names [])) s3.heap.objs.size X.env))) _ tkB
  have pe := he s3 (upd H2 D (.lst [])) s3.heap.objs.size (cellsFrom (s3.heap.objs.size + 1) scope.names (cloFrom X.env.cells scope.names [])) fp (notedBy (model X.prog X.w) X.A (compEnvC scope (cellsFrom (s3.heap.objs.size + 1) scope.names (cloFrom X.env.cells scope.names [])) s3.heap.objs.size X.env) (CompFails (model X.prog X.w) X.A X.xe (compEnvC scope (cellsFrom (s3.heap.objs.size + 1) scope.names (cloFrom X.env.cells scope.names [])) s3.heap.objs.size X.env))) _ tkB
  show codeAny _ _ (.compStart (.ListComp elt [⟨tg, iter, ifs, 0⟩] scope pos) 0 (.ref it) (.ref D) (compEnvC scope (cellsFrom (s3.heap.objs.size + 1) scope.names (cloFrom X.env.cells scope.names [])) s3.heap.objs.size X.env)) (compEnds (model X.prog X.w) X.A X.xe use Qf (.ref D) (compEnvC scope (cellsFrom (s3.heap.objs.size + 1) scope.names (cloFrom X.env.cells scope.names [])) s3.heap.objs.size X.env)) { s3 with heap := pushCells (s3.heap.push { cls := .type "dict", data := .dict #[] }) scope.names }
  have nfp : ∀ b ∈ fp, (upd H2 D (.lst [])) b = none := fun b hb => (f3 b hb).1.1
  clear tkB
  generalize hce : compEnvC scope (cellsFrom (s3.heap.objs.size + 1) scope.names (cloFrom X.env.cells scope.names [])) s3.heap.objs.size X.env = ce at I4 pg pt pe ⊢
  have cL : ce.locals = s3.heap.objs.size := by subst hce; rfl
  have hE : (fun e s' => compEnds (model X.prog X.w) X.A X.xe use Qf (.ref D) ce (.error e) s') = CompFails (model X.prog X.w) X.A X.xe ce := by
    funext e s'; cases use <;> rfl
  generalize hH3 : upd H2 D (.lst []) = H3 at I3 I4 pg pt pe w0 nfp f3
  generalize hs4 : ({ s3 with heap := pushCells (s3.heap.push { cls := .type "dict", data := .dict #[] }) scope.names } : Shared) = s4 at I4 ⊢
  have st4 : tn 0 s4.heap := T.keep _ _ _ st3 fun b _ o e => by rw [← hs4]; exact pushCells_keeps _ _ _ _ (Heap.get?_push_of_some _ e)
  have stat : ∀ {σ' : St} {H' : Hp} {s' : Shared}, Inv (X.blkX s3 H3 scope ce fp (notedBy (model X.prog X.w) X.A ce (CompFails (model X.prog X.w) X.A X.xe ce))) [] σ' H' s' → (∀ b ∈ fp, H' b = none) → ∀ b ∈ fp, FpOk (X.blkX s3 H3 scope ce fp (notedBy (model X.prog X.w) X.A ce (CompFails (model X.prog X.w) X.A X.xe ce))) [] H' b := fun {σ' H' s'} I' hn b hb =>
    ⟨hn b hb, (I'.ok.exf b hb).1, I'.ok.exfs b hb, .inl hb, fun x c e => (I'.ok.exf b hb).2 x c e, fun p hp => absurd (show p ∈ ([] : List (Addr × Obj)) ++ [] from hp) (by simp)⟩
  have loop : codeAny (model X.prog X.w) X.A (.compLoop (.ListComp elt [⟨tg, iter, ifs, 0⟩] scope pos) 0 (.ref it) (.ref D) ce) (compEnds (model X.prog X.w) X.A X.xe use Qf (.ref D) ce) s4 := by
    refine compLoop_any (fun n s' => ∃ i H', Inv (X.blkX s3 H3 scope ce fp (notedBy (model X.prog X.w) X.A ce (CompFails (model X.prog X.w) X.A X.xe ce))) [] (wipe σ (own.map (·.2))) H' s' ∧ tn i s'.heap ∧ (∀ b ∈ fp, H' b = none) ∧ W i n H') ?_ m0 ⟨0, H3, I4, st4, nfp, w0⟩
    rw [hE]
    rintro n s5 ⟨i, H5, I5, st5, n5, w5⟩
    rcases turn i n H5 w5 with ⟨stop, qq⟩ | ⟨go, Nx, hNx, step⟩
    · have td := T.done (X.blkX s3 H3 scope ce fp (notedBy (model X.prog X.w) X.A ce (CompFails (model X.prog X.w) X.A X.xe ce))) rfl rfl rfl hc i [] s5 _ H5 (fun _ _ => False) I5 (stat I5 n5) st5 stop
      refine thnF td fun r s6 ⟨hr, I6⟩ => ?_
      subst hr
      -- back in the def's context
      have I7 : Inv X pins σ H5 s6 := I3.call' (ch := fp) I6.os I6.base I6.hok I6.bare fun b hb => ⟨(f3 b hb).1.2.2.2.1, (f3 b hb).1.2.1, (f3 b hb).1.2.2.2.2.1, (f3 b hb).1.2.2.2.2.2⟩
      have nC : H5 s3.heap.objs.size = none := by
        have z : H5 ce.locals = none := I6.free
        rw [cL] at z
        exact z
      obtain ⟨m, hn, _⟩ := I6.loc
      have hn : s6.heap.Ns ce.locals m := hn
      rw [cL] at hn
      have r := hRR D s3.heap.objs.size s6 m H5 I7 qq hn (I3.fpOk (Nat.le_refl _) nC)
      rw [← cL] at r
      cases use <;> exact r
    · have ti := T.item (X.blkX s3 H3 scope ce fp (notedBy (model X.prog X.w) X.A ce (CompFails (model X.prog X.w) X.A X.xe ce))) rfl rfl rfl hc i [] s5 _ H5 (fun _ _ => False) I5 (stat I5 n5) st5 go
      refine thnF ti fun r s6 ⟨u, hr, h6⟩ => ?_
      subst hr
      refine thnF h6 fun _ s7 ⟨x, H7, I7, r7, y7, st7, n7⟩ => ?_
      have I7' := I7.pinned (stat I7 n7) (T.obj _ _ st7)
      refine thn (pg.run _ s7 _ H7 x u _ I7' r7 (step x H7 y7)) fun _ s8 ⟨σ8, H8, I8, hw8, q8⟩ => ?_
      refine thn (pt.run _ s8 σ8 H8 _ I8 q8) fun b s9 ⟨H9, I9, q9⟩ => ?_
      -- the turn's end
      have fin : ∀ {s' : Shared} {H' : Hp}, Inv (X.blkX s3 H3 scope ce fp (notedBy (model X.prog X.w) X.A ce (CompFails (model X.prog X.w) X.A X.xe ce))) ([] ++ pinsAt fp s7.heap) σ8 H' s' → Nx H' → ∃ m, m < n ∧ ∃ i H', Inv (X.blkX s3 H3 scope ce fp (notedBy (model X.prog X.w) X.A ce (CompFails (model X.prog X.w) X.A X.xe ce))) [] (wipe σ (own.map (·.2))) H' s' ∧ tn i s'.heap ∧ (∀ b ∈ fp, H' b = none) ∧ W i m H' := fun {s' H'} I' nx => by
        obtain ⟨m', hm, w'⟩ := hNx H' nx
        have pin' : ∀ b ∈ fp, ∀ o, s7.heap.get? b = some o → s'.heap.get? b = some o ∧ H' b = none := fun b hb o e =>
          let z := I'.pin (b, o) (List.mem_append_right _ (List.mem_append_right _ (mem_pinsAt hb e)))
          ⟨z.1, z.2.1⟩
        have hl : (wipe σ (own.map (·.2))).length = σ8.length := by rw [← hw8, wipe_length]
        refine ⟨m', hm, i + 1, H', (I'.unpinned (pins := [])).weak hl (fun j v e => ?_), T.keep _ _ _ st7 fun b hb o e => (pin' b hb o e).1, fun b hb => ?_, w'⟩
        · rw [← hw8] at e
          exact (wipe_some e).1
        · obtain ⟨o, e, _⟩ := T.obj _ _ st7 b hb
          exact (pin' b hb o e).2
      cases b with
      | false =>
        simp only [Bool.false_eq_true, if_false] at q9 ⊢
        exact fin I9 q9
      | true =>
        simp only [if_true] at q9 ⊢
        refine thn (pe.run _ s9 σ8 H9 _ I9 q9) fun z s10 ⟨yv, H10, I10, r10, acc, hD10, hz10, nx⟩ => ?_
        exact app_ok (X := X.blkX s3 H3 scope ce fp (notedBy (model X.prog X.w) X.A ce (CompFails (model X.prog X.w) X.A X.xe ce))) I10 hD10 hz10 r10 fun s11 I11 => fin I11 nx
  exact codeAny_compStart_list loop (T.self X.A 0 _ _ _ st4 loop)
/-- as a value -/
theorem pe_lcX {W : WX} {elt tg iter : Expr} {ifs : List Expr} {scope : Scope} {own : List (Str × Nat)} {pos : Pos} {wi : TI} {g : TG} {tt : WX → TT} {te : WX → TE} (hst : X.stack = X.env :: X.outer) (hfm : X.env.frame = some X.env.locals) (tk : Takes X W) (hc : X.calm = true) (hN : X.N.Nodup) (hi : PI X tg iter wi) (ok : BlkOk X.N X.env.scope scope own)
    (hg : ∀ (s : Shared) (H : Hp) (C : Addr) (cl : List (Str × Addr)) (fp : List Addr) (xe : Value → Shared → Prop), PG (X.blkX s H scope (compEnvC scope cl C X.env) fp xe) tg g)
    (ht : ∀ (s : Shared) (H : Hp) (C : Addr) (cl : List (Str × Addr)) (fp : List Addr) (xe : Value → Shared → Prop) (W' : WX), Takes (X.blkX s H scope (compEnvC scope cl C X.env) fp xe) W' → PTs (X.blkX s H scope (compEnvC scope cl C X.env) fp xe) ifs (tt W'))
    (he : ∀ (s : Shared) (H : Hp) (C : Addr) (cl : List (Str × Addr)) (fp : List Addr) (xe : Value → Shared → Prop) (W' : WX), Takes (X.blkX s H scope (compEnvC scope cl C X.env) fp xe) W' → PE (X.blkX s H scope (compEnvC scope cl C X.env) fp xe) elt (te W')) (hs : ∀ x, foldedSetIterable iter X.env x = pure x := by intro _; rfl) :
    PE X (.ListComp elt [⟨tg, iter, ifs, 0⟩] scope pos) (tLcX W wi g tt te (own.map (·.2))) := by
  refine ⟨fun pins s σ H Q I h => ?_⟩
  rw [eval_ListComp]
  refine lc_coreX hst hfm tk hc hN I hi ok hg ht he hs h fun D C s' m H' I' q hn f => ⟨m, hn, fun h'' sb => ?_⟩
  obtain ⟨f0, f1, f2, f3, f4, f5⟩ := f
  exact ⟨.ref D, H', I'.turned (t' := s'.toks) (fun b o hb e => (sb.2 b hb).trans e) f0 f1 f3 f4 f5, rfl, q⟩
/-- name = [..] on one line, the name a local -/
theorem ps_setLcX {W : WX} {i : Nat} {y : Str} {py : Pos} {elt tg iter : Expr} {ifs : List Expr} {scope : Scope} {own : List (Str × Nat)} {pos spos : Pos} {wi : TI} {g : TG} {tt : WX → TT} {te : WX → TE} (hst : X.stack = X.env :: X.outer) (hfm : X.env.frame = some X.env.locals) (tk : Takes X W) (hc : X.calm = true) (hN : X.N.Nodup) (hy : X.N[i]? = some y) (hyl : X.env.scope.names.lookup y = some .local)
    (hsw : swapsWith (.ListComp elt [⟨tg, iter, ifs, 0⟩] scope pos) (some (.Name y py)) spos.line X.env = pure true) (hi : PI X tg iter wi) (ok : BlkOk X.N X.env.scope scope own)
    (hg : ∀ (s : Shared) (H : Hp) (C : Addr) (cl : List (Str × Addr)) (fp : List Addr) (xe : Value → Shared → Prop), PG (X.blkX s H scope (compEnvC scope cl C X.env) fp xe) tg g)
    (ht : ∀ (s : Shared) (H : Hp) (C : Addr) (cl : List (Str × Addr)) (fp : List Addr) (xe : Value → Shared → Prop) (W' : WX), Takes (X.blkX s H scope (compEnvC scope cl C X.env) fp xe) W' → PTs (X.blkX s H scope (compEnvC scope cl C X.env) fp xe) ifs (tt W'))
    (he : ∀ (s : Shared) (H : Hp) (C : Addr) (cl : List (Str × Addr)) (fp : List Addr) (xe : Value → Shared → Prop) (W' : WX), Takes (X.blkX s H scope (compEnvC scope cl C X.env) fp xe) W' → PE (X.blkX s H scope (compEnvC scope cl C X.env) fp xe) elt (te W')) (hs : ∀ x, foldedSetIterable iter X.env x = pure x := by intro _; rfl) :
    PS X (.Assign [.Name y py] (.ListComp elt [⟨tg, iter, ifs, 0⟩] scope pos) spos) (tAsg (tLcX W wi g tt te (own.map (·.2))) (gName i)) := by
  refine ⟨fun pins s σ H D I h => ?_⟩
  rw [exec_Assign_Name_used _ _ _ _ hsw]
  refine wpAny_bind (wpAny_standAt (wpAny_bind ?_))
  show wpAny _ X.A (do let _ ← comprehension (.ListComp elt [⟨tg, iter, ifs, 0⟩] scope pos) scope X.env (firstIterPos [⟨tg, iter, ifs, 0⟩] pos) (newList []) false (eval iter X.env) (some (assign (.Name y py) X.env))) _ _ s
  have h : tLcX W wi g tt te (own.map (·.2)) σ H (fun x H1 => gName i x σ H1 D.nx) := h
  refine wpAny_bind (thn (lc_coreX (Qf := fun _ s' => SP X pins D .next s') hst hfm tk hc hN I hi ok hg ht he hs h fun L C s' m H' I' q hn f => ?_) fun _ s' hq => wpAny_pure (wpAny_pure hq))
  show wpAny _ _ (assign (.Name y py) X.env (.ref L)) _ _ _
  refine wpAny_assign_Name (store_ok2 (v := V.ref L) I' hN hy (.inl hyl) rfl (fun s2 I2 ⟨a, sb, ha⟩ => ?_) (.inr hyl))
  obtain ⟨f0, f1, f2, f3, f4, f5⟩ := f
  have haC : C ≠ a := by
    rcases ha with z | z
    · rw [z]; exact f1
    · exact fun e => f4 y a z e.symm
  refine ⟨m, hn.sameBut sb haC, fun h3 sb3 => ?_⟩
  exact ⟨_, H', I2.turned (t' := s2.toks) (fun b o hb e => (sb3.2 b hb).trans e) f0 f1 f3 f4 f5, q⟩
end
end L2
namespace DL
open PySem L2
section
variable {K : PySem.W.Frag} {mg : Mg} {W : Wc} {Γ : List Sh}
def eLcX (fi : ER (List D)) (gf : D → Env → Option Env) (ft : ER Bool) (fe : ER D) (vs : List Nat) : ER D := fun ρ => (fi ρ).bind fun es ρ => if es.length ≤ sizeLine then (match compF gf ft fe vs es (wipeD ρ vs) with
  | .ok ys ρ' => .ok (.lst ys) ρ'
  | .exc e ρ' => .exc e (wipeD ρ' vs)
  | .stuck => .stuck) else .stuck
def crR (acc : List D) : Res (List D) → Res (List D)
  | .ok r ρ => .ok (acc ++ r) ρ
  | .exc e ρ => .exc e ρ
  | .stuck => .stuck
theorem crR_crR (a b : List D) (r : Res (List D)) : crR a (crR b r) = crR (a ++ b) r := by
  cases r <;> simp [crR]
theorem air_off {B R H' : Hp} {σ σ4 : L2.St} {ρ6 : Env} {vs : List Nat} {D p : Addr} {o x : HO} (O : Ok K Γ B (upd (upd R D o) p x) H' σ4 ρ6) (hRD : R D = none) (hl : σ.length = σ4.length) (h : ∀ j, j ∉ vs → σ[j]? = σ4[j]?) : Ok K Γ B (upd R p x) H' σ (wipeD ρ6 vs) := by
  refine Ok.wiped (O.weakR fun a q e => ?_) hl h
  unfold upd at e ⊢
  by_cases ha : a = p
  · rw [if_pos ha] at e ⊢; exact e
  · rw [if_neg ha] at e ⊢
    have : a ≠ D := fun z => by rw [z, hRD] at e; cases e
    rw [if_neg this]; exact e
theorem eok_lcX {wi : TI} {g : TG} {tt : WX → TT} {te : WX → TE} {vs tv : List Nat} {fi : ER (List D)} {gf : D → Env → Option Env} {ft : ER Bool} {fe : ER D} (hv : ∀ i ∈ tv, i ∈ vs)
    (hi : IOk K mg W Γ wi fi) (hg : GOk (K := K) Γ Γ tv g gf) (ht : ∀ W' : Wc, TOk K mg W' Γ (tt W'.W) ft) (he : ∀ W' : Wc, EOk K mg W' Γ (te W'.W) .pu fe) : EOk K mg W Γ (tLcX W.W wi g tt te vs) .ls (eLcX fi gf ft fe vs) := by
  intro B R H σ ρ Q pw O hl
  unfold eLcX at hl
  have ht := ht ⟨fun c d _ H => W.W c d σ H, fun _ _ => True, fun _ _ _ _ _ => trivial⟩
  have he := he ⟨fun c d _ H => W.W c d σ H, fun _ _ => True, fun _ _ _ _ _ => trivial⟩
  refine hi B R H σ ρ _ pw O ?_
  cases e : fi ρ with
  | stuck => rw [e] at hl; exact hl
  | exc x ρ1 => rw [e] at hl; exact hl
  | ok es ρ1 =>
    rw [e] at hl
    simp only [Res.bind] at hl
    intro B1 H1 J s1 O1 wk D hD
    have hRD : R D = none := O1.sr.free hD
    by_cases hz : es.length ≤ sizeLine
    case neg => rw [if_neg hz] at hl; exact hl.elim
    rw [if_pos hz] at hl
    generalize htot : compF gf ft fe vs es (wipeD ρ1 vs) = tot at hl
    refine ⟨fun i m H' => m = es.length - i ∧ i ≤ es.length ∧ ∃ B' ρ' acc accv, Same B1 B' ∧ Ok K Γ B' (upd R D (.lst accv)) H' (wipe σ vs) ρ' ∧ Reps K B' accv acc ∧ acc.length ≤ i ∧ crR acc (compF gf ft fe vs (es.drop i) ρ') = tot,
      ⟨es.length, by simp, Nat.zero_le _, B1, wipeD ρ1 vs, [], [], Same.refl _, (O1.guard hD).wiped (wipe_length _ _) (fun j hj => wipe_get hj), .nil, Nat.le_refl _, by rw [List.drop_zero, htot]; cases tot <;> rfl⟩, ?_⟩
    rintro i m H2 ⟨rfl, hle, B2, ρ2, acc, accv, s2, O2, r2, la, c2⟩
    by_cases hlt : i < es.length
    · refine .inr ⟨wk.go B2 H2 s2 O2.sb i hlt, fun H' => i < es.length ∧ ∃ B' ρ' acc accv, Same B1 B' ∧ Ok K Γ B' (upd R D (.lst accv)) H' (wipe σ vs) ρ' ∧ Reps K B' accv acc ∧ acc.length ≤ i + 1 ∧ crR acc (compF gf ft fe vs (es.drop (i + 1)) ρ') = tot,
        fun H' n => ⟨es.length - (i + 1), by omega, rfl, by omega, n.2⟩, fun x H3 y => ?_⟩
      obtain ⟨B3, sb3, sh3, sbh3, nw3, rx⟩ := wk.yld B2 H2 s2 O2.sb i es[i] x H3 (by simp [hlt]) y
      have O3 := O2.grow sb3 sh3 sbh3 nw3
      rw [List.drop_eq_getElem_cons hlt] at c2
      unfold compF at c2
      cases e3 : gf es[i] ρ2 with
      | none => rw [e3] at c2; rw [← c2] at hl; exact hl.elim
      | some ρ3 =>
        rw [e3] at c2
        simp only at c2
        refine hg B3 _ H3 _ ρ2 x _ ρ3 _ O3 rx e3 fun σ4 O4 k4 => ?_
        have hl4 : σ4.length = (wipe σ vs).length := O4.lσ.trans O3.lσ.symm
        have k4' : ∀ j, j ∉ vs → σ4[j]? = (wipe σ vs)[j]? := fun j hj => k4 j fun z => hj (hv j z)
        have hlσ : σ.length = σ4.length := by rw [hl4, wipe_length]
        have kσ : ∀ j, j ∉ vs → σ[j]? = σ4[j]? := fun j hj => by rw [k4' j hj, wipe_get hj]
        refine ⟨?_, ?_⟩
        · rw [wipe_same hl4 k4']
          exact wipe_same (wipe_length _ _) fun j hj => wipe_get hj
        · refine ht B3 _ H3 σ4 ρ3 _ trivial O4 ?_
          cases e4 : ft ρ3 with
          | stuck => rw [e4] at c2; rw [← c2] at hl; exact hl.elim
          | exc x ρ5 =>
            rw [e4] at c2
            have c2 : Res.exc x ρ5 = tot := c2
            rw [← c2] at hl
            intro B' H' cls p l q n O5 ex
            have np : R p = none := by
              unfold upd at n
              by_cases hp : p = D
              · rw [hp]; exact hRD
              · rw [if_neg hp] at n; exact n
            exact hl B' H' cls p l ((s1.trans (s2.trans sb3)).trans q) np (air_off O5 hRD hlσ kσ) ex
          | ok b ρ5 =>
            rw [e4] at c2
            simp only [Res.bind] at c2
            intro B5 H5 s5 O5
            cases b with
            | false =>
              rw [if_neg Bool.false_ne_true]
              simp only at c2
              exact ⟨hlt, B5, wipeD ρ5 vs, acc, accv, (s2.trans sb3).trans s5, O5.wiped hl4.symm (fun j hj => (k4' j hj).symm), r2.mono (sb3.trans s5), by omega, c2⟩
            | true =>
              rw [if_pos rfl]
              refine he B5 _ H5 σ4 ρ5 _ trivial O5 ?_
              cases e6 : fe ρ5 with
              | stuck => rw [e6] at c2; rw [← c2] at hl; exact hl.elim
              | exc x ρ6 =>
                rw [e6] at c2
                have c2 : Res.exc x ρ6 = tot := c2
                rw [← c2] at hl
                intro B' H' cls p l q n O6 ex
                have np : R p = none := by
                  unfold upd at n
                  by_cases hp : p = D
                  · rw [hp]; exact hRD
                  · rw [if_neg hp] at n; exact n
                exact hl B' H' cls p l ((s1.trans ((s2.trans sb3).trans s5)).trans q) np (air_off O6 hRD hlσ kσ) ex
              | ok yd ρ6 =>
                rw [e6] at c2
                simp only at c2
                intro B6 H6 yv s6 O6
                have c3 : crR (acc ++ [yd]) (compF gf ft fe vs (es.drop (i + 1)) (wipeD ρ6 vs)) = tot := by
                  rw [← c2, ← crR_crR]
                  congr 1
                  cases compF gf ft fe vs (es.drop (i + 1)) (wipeD ρ6 vs) <;> rfl
                have hacc : accv.length < sizeLine := by
                  have h1 := r2.length
                  omega
                refine ⟨accv, O6.sr D _ upd_same, hacc, hlt, B6, wipeD ρ6 vs, acc ++ [yd], accv ++ [yv], ((s2.trans sb3).trans s5).trans s6, ?_, ?_, by rw [List.length_append]; simp; omega, c3⟩
                · exact (O6.pop.reguard (o' := .lst (accv ++ [yv]))).wiped hl4.symm fun j hj => (k4' j hj).symm
                · exact (r2.mono ((sb3.trans s5).trans s6)).snoc O6.top
    · have ei : i = es.length := by omega
      refine .inl ⟨wk.stop B2 H2 s2 O2.sb i (by omega), ?_⟩
      rw [ei, List.drop_length] at c2
      have c2 : Res.ok (acc ++ []) ρ2 = tot := c2
      rw [List.append_nil] at c2
      rw [← c2] at hl
      have O3 := O2.unguard hRD r2
      refine hl B2 H2 _ (s1.trans s2) (O3.drop (by simp [wipe_length]) (by simp) fun j d hj => ?_)
      cases j with
      | zero => exact ⟨hj, rfl⟩
      | succ j =>
        refine ⟨hj, ?_⟩
        have hj : ρ2[j]? = some (some d) := by simpa using hj
        by_cases hv : j ∈ vs
        · obtain ⟨F, W⟩ := O2.own
          exfalso
          have hjl : j < Γ.length := by have := (List.getElem?_eq_some_iff.mp hj).1; rw [O2.lρ] at this; exact this
          obtain ⟨v, h1, _⟩ := W.at_ j d Γ[j] hj (by simp [hjl])
          rw [wipe_in hv (by rw [O.lσ]; exact hjl)] at h1
          cases h1
        · simp [wipe_get hv]
end
end DL
namespace K08
open PySem L2 DL
def top (i : Nat) : Stmt := PySem.Challenge.pw_whatevertext_k08_code_texts.main.body.getD i (.Pass ⟨0, 0, 0, 0⟩)

structure Zs (mg : Mg) : Prop where
  z_abs : mg "abs" = none
  z_bool : mg "bool" = none
  z_enumerate : mg "enumerate" = none
  z_int : mg "int" = none
  z_isinstance : mg "isinstance" = none
  z_len : mg "len" = none
  z_list : mg "list" = none
  z_range : mg "range" = none
  z_str : mg "str" = none
  z_tuple : mg "tuple" = none
structure Xs (P : Program) (w : World) (K : PySem.W.Frag) (mg : Mg) (C_BadText C_MoveError C_TextError G_AMOUNTS G_SIZES : Addr) : Prop where
  t_BadText : PySem.DLX.ExTxt P K mg "BadText" C_BadText ["line", "word"]
  g_BadText : mg "BadText" = some (.ref C_BadText)
  g_MoveError : mg "MoveError" = some (.ref C_MoveError)
  g_TextError : mg "TextError" = some (.ref C_TextError)
  m_BadText_BadText : PySem.W.exmOne K (.ref C_BadText) (.ref C_BadText) = some true
  i_BadText_MoveError : ∀ k b, ([(5, true)] : List (Nat × Bool)).lookup k = some b → ∀ C0, mg (clsN k) = some (.ref C0) → ExcC K C0 ∧ PySem.W.kitOne K (.ref C0) (.ref C_MoveError) = some b
  i_BadText_TextError : ∀ k b, ([(5, true)] : List (Nat × Bool)).lookup k = some b → ∀ C0, mg (clsN k) = some (.ref C0) → ExcC K C0 ∧ PySem.W.kitOne K (.ref C0) (.ref C_TextError) = some b
  gg_AMOUNTS : mg "AMOUNTS" = some (.ref G_AMOUNTS)
  gt_AMOUNTS : ∀ B, Rep K B (.ref G_AMOUNTS) (.tup [(.str "-1"), (.str "-2")])
  gs_FIGURES : ∃ t, mg "FIGURES" = some (.str "0123456789" t)
  gs_NEWLINE : ∃ t, mg "NEWLINE" = some (.str "\n" t)
  gg_SIZES : mg "SIZES" = some (.ref G_SIZES)
  kd_SIZES : KDc K w G_SIZES [("turn", (.int 1)), ("cut", (.int 4)), ("put", (.int 3)), ("copy", (.int 3)), ("keep", (.int 2)), ("empty", (.int 2)), ("swap", (.int 2)), ("set", (.int 3)), ("less", (.int 3))]
abbrev s_lines_of : Stmt := top 8
abbrev N_lines_of : List Str := ["text", "lines"]
theorem sc_lines_of : FnScope N_lines_of ["text"] (defScope s_lines_of) := ⟨rfl, rfl, rfl, by decide +kernel, rfl, by decide +kernel, by decide +kernel⟩
def b_lines_of : DL.Env → Out := (sSeq (sSet 1 (eM1 gSplit (eVar 0) (eC (.str "\n")))) (sSeq (sIf (tVal (eOp gEq (eIxO 1 (eOp (gI0 fun i j => i - j) (eView (eCB gLen (aCons (eVar 1) aNil))) (eC (.int 1)))) (eC (.str "")))) (sDrop (eMtO 1 gPop aNil)) Out.nx) (sRet (eVar 1))))
def d_lines_of : Den := mkF 2 0 b_lines_of
abbrev p_lines_of (K : PySem.W.Frag) (mg : Mg) : Sp := spD K mg (List.replicate 1 .pu) .pu d_lines_of
theorem ok_lines_of {P : Program} {w : World} {K : PySem.W.Frag} {mg : Mg} {base : Heap} {C_BadText C_MoveError C_TextError G_AMOUNTS G_SIZES : Addr} (z : Zs mg) (x : Xs P w K mg C_BadText C_MoveError C_TextError G_AMOUNTS G_SIZES) {f : Addr} {fd : FuncData} (F : Fun K "lines_of" "lines_of" s_lines_of f fd) : FnOk P w K mg base (L2.CX P w) 2 f fd ["text"] (p_lines_of K mg) := by
  refine F.okX sc_lines_of (fun vs H Q E h => spD_len h) (fun cdv A outer s H vs Q E hr h => ?_)
  exact ⟨_, (pss_cons (ps_set (i := 1) sc_lines_of.nd rfl (by first | exact Or.inl rfl | exact Or.inr rfl) (pe_split (pv 0) (pe_globS rfl x.gs_NEWLINE rfl))) (pss_cons (ps_if (pt_cmpR (opEq (Room.u64 hr)) (pe_ix (ix_any (Room.u1 hr)) (pv 1) (pe_op op_sub (pe_callB callLen rfl z.z_len rfl (pa_cons (pv 1) pa_nil)) pe_int) (fun _ _ => rfl)) pe_str (nomark _)) (pss_one (ps_expr (pe_bm0 PySem.F.plainAttrs_list PySem.F.slot_list_pop PySem.F.type_list_pop mt_pop (pv 1)))) pss_nil) (pss_one (ps_ret (pv 1))))),
    fn_body (N := N_lines_of) (k := 0) (Γp := (List.replicate 1 .pu)) (sr := .pu) (fb := b_lines_of) (Γi := [.ls]) (Γ' := [.pu, .pu]) (by decide) rfl (.inl rfl) ⟨rfl, rfl⟩ (sok_seq (sok_setK ⟨rfl, rfl⟩ (np rfl) rfl (eok_m1 m1_split (eok_var rfl) eok_str)) (sok_seq (sok_if ⟨rfl, rfl⟩ (tok_test (eok_op r2_eq (eok_ixO rfl (eok_op r2_i0 (eok_view (eok_cb c1_len (aok_cons (eok_var rfl) aok_nil))) eok_int)) eok_str)) (sok_drop ⟨rfl, rfl⟩ (eok_mt0 mok_pop rfl)) sok_next) (sok_frz (i := 1) rfl (sok_ret ⟨rfl, rfl⟩ (eok_var rfl))))) h⟩
abbrev s_line_words : Stmt := top 9
abbrev N_line_words : List Str := ["line", "word"]
theorem sc_line_words : FnScope N_line_words ["line"] (defScope s_line_words) := ⟨rfl, rfl, rfl, by decide +kernel, rfl, by decide +kernel, by decide +kernel⟩
def b_line_words : DL.Env → Out := (sRet (eLc (iA (eM1 gSplit (eVar 0) (eC (.str " ")))) (gN 1) (tVal (eOp gNe (eVar 1) (eC (.str "")))) (eVar 1) [1]))
def d_line_words : Den := mkF 2 0 b_line_words
abbrev p_line_words (K : PySem.W.Frag) (mg : Mg) : Sp := spD K mg (List.replicate 1 .pu) .pu d_line_words
theorem ok_line_words {P : Program} {w : World} {K : PySem.W.Frag} {mg : Mg} {base : Heap} {C_BadText C_MoveError C_TextError G_AMOUNTS G_SIZES : Addr} (z : Zs mg) (x : Xs P w K mg C_BadText C_MoveError C_TextError G_AMOUNTS G_SIZES) {f : Addr} {fd : FuncData} (F : Fun K "line_words" "line_words" s_line_words f fd) : FnOk P w K mg base (L2.CX P w) 2 f fd ["line"] (p_line_words K mg) := by
  refine F.okX sc_line_words (fun vs H Q E h => spD_len h) (fun cdv A outer s H vs Q E hr h => ?_)
  exact ⟨_, (pss_one (ps_ret (pe_lc (own := [("word", 1)]) rfl sc_line_words.nd (pi_any (pe_split (pv 0) pe_str)) (blkOk_by (own := [("word", 1)]) (N := N_line_words) (sc := defScope s_line_words) (by decide +kernel)) (fun _ _ _ _ _ => (pg_name (i := 1) sc_line_words.nd rfl (by first | exact Or.inl rfl | exact Or.inr rfl))) (fun _ _ _ _ _ => (pts_one (pt_cmpR (opNe (Room.u64 hr)) (pv 1) pe_str (nomark _)))) (fun _ _ _ _ _ => (pv 1))))),
    fn_body (N := N_line_words) (k := 0) (Γp := (List.replicate 1 .pu)) (sr := .pu) (fb := b_line_words) (Γi := [.pu]) (Γ' := [.pu, .pu]) (by decide) rfl (.inl rfl) ⟨rfl, rfl⟩ (sok_ret ⟨rfl, rfl⟩ (eok_frz (eok_lc (vs := [1]) (by decide) (iok_any (eok_frz (eok_m1 m1_split (eok_var rfl) eok_str))) (gok_nameK (i := 1) rfl) (tok_test (eok_op r2_ne (eok_var rfl) eok_str)) (eok_var rfl)))) h⟩
abbrev s_is_passed_over : Stmt := top 10
abbrev N_is_passed_over : List Str := ["words"]
theorem sc_is_passed_over : FnScope N_is_passed_over ["words"] (defScope s_is_passed_over) := ⟨rfl, rfl, rfl, by decide +kernel, rfl, by decide +kernel, by decide +kernel⟩
def b_is_passed_over : DL.Env → Out := (sRet (eOrV (eOp gEq (eCB gLen (aCons (eVar 0) aNil)) (eC (.int 0))) (eM1 gStarts (eOp gIx (eVar 0) (eC (.int 0))) (eC (.str "#")))))
def d_is_passed_over : Den := mkF 1 0 b_is_passed_over
abbrev p_is_passed_over (K : PySem.W.Frag) (mg : Mg) : Sp := spD K mg (List.replicate 1 .pu) .pu d_is_passed_over
theorem ok_is_passed_over {P : Program} {w : World} {K : PySem.W.Frag} {mg : Mg} {base : Heap} {C_BadText C_MoveError C_TextError G_AMOUNTS G_SIZES : Addr} (z : Zs mg) (x : Xs P w K mg C_BadText C_MoveError C_TextError G_AMOUNTS G_SIZES) {f : Addr} {fd : FuncData} (F : Fun K "is_passed_over" "is_passed_over" s_is_passed_over f fd) : FnOk P w K mg base (L2.CX P w) 2 f fd ["words"] (p_is_passed_over K mg) := by
  refine F.okX sc_is_passed_over (fun vs H Q E h => spD_len h) (fun cdv A outer s H vs Q E hr h => ?_)
  exact ⟨_, (pss_one (ps_ret (pe_or (pe_cmpR (opEq (Room.u64 hr)) (pe_callB callLen rfl z.z_len rfl (pa_cons (pv 0) pa_nil)) pe_int (nomark _)) (pe_one (pe_m1 PySem.F.slot_str_startswith PySem.F.type_str_startswith mt_startswith (pe_ix (ix_any (Room.u1 hr)) (pv 0) pe_int (fun _ _ => rfl)) pe_str))))),
    fn_body (N := N_is_passed_over) (k := 0) (Γp := (List.replicate 1 .pu)) (sr := .pu) (fb := b_is_passed_over) (Γi := []) (Γ' := [.pu]) (by decide) rfl (.inl rfl) ⟨rfl, rfl⟩ (sok_ret ⟨rfl, rfl⟩ (eok_or (eok_op r2_eq (eok_cb c1_len (aok_cons (eok_var rfl) aok_nil)) eok_int) (eok_m1 m1_starts (eok_op r2_ix (eok_var rfl) eok_int) eok_str))) h⟩
abbrev s_read_lines : Stmt := top 11
abbrev N_read_lines : List Str := ["text", "found", "at", "line", "words"]
theorem sc_read_lines : FnScope N_read_lines ["text"] (defScope s_read_lines) := ⟨rfl, rfl, rfl, by decide +kernel, rfl, by decide +kernel, by decide +kernel⟩
def b_read_lines : DL.Env → Out := (sSeq (sSet 1 (eLst aNil)) (sSeq (sFor (iEn (aCons (eCall 1 d_lines_of (aCons (eVar 0) aNil)) aNil)) (gT 2 (gsCons (gN 2) (gsCons (gN 3) gsNil))) (sSeq (sSet 4 (eCall 1 d_line_words (aCons (eVar 3) aNil))) (sIf (bNot (tVal (eCall 1 d_is_passed_over (aCons (eVar 4) aNil)))) (sDrop (eMtO 1 gAppend (aCons (eTup (aCons (eOp gAdd (eVar 2) (eC (.int 1))) (aCons (eVar 4) aNil))) aNil))) Out.nx))) (sRet (eVar 1))))
def d_read_lines : Den := mkF 5 0 b_read_lines
abbrev p_read_lines (K : PySem.W.Frag) (mg : Mg) : Sp := spD K mg (List.replicate 1 .pu) .pu d_read_lines
theorem ok_read_lines {P : Program} {w : World} {K : PySem.W.Frag} {mg : Mg} {base : Heap} {C_BadText C_MoveError C_TextError G_AMOUNTS G_SIZES : Addr} (z : Zs mg) (x : Xs P w K mg C_BadText C_MoveError C_TextError G_AMOUNTS G_SIZES) (g_lines_of : Df P w K mg base "lines_of" s_lines_of ["text"] 2 (p_lines_of K mg)) (g_line_words : Df P w K mg base "line_words" s_line_words ["line"] 2 (p_line_words K mg)) (g_is_passed_over : Df P w K mg base "is_passed_over" s_is_passed_over ["words"] 2 (p_is_passed_over K mg)) {f : Addr} {fd : FuncData} (F : Fun K "read_lines" "read_lines" s_read_lines f fd) : FnOk P w K mg base (L2.CX P w) 4 f fd ["text"] (p_read_lines K mg) := by
  refine F.okX sc_read_lines (fun vs H Q E h => spD_len h) (fun cdv A outer s H vs Q E hr h => ?_)
  exact ⟨_, (pss_cons (ps_set (i := 1) sc_read_lines.nd rfl (by first | exact Or.inl rfl | exact Or.inr rfl) (pe_lst pa_nil)) (pss_cons (ps_for (passes_of rfl) rfl (pi_enumA rfl z.z_enumerate (pa_cons (pe_df g_lines_of (hr.mono (by decide)) rfl (takes_of rfl rfl rfl rfl) (pa_cons (pv 0) pa_nil)) pa_nil)) (pg_tup rfl (pgs_cons (pg_name (i := 2) sc_read_lines.nd rfl (by first | exact Or.inl rfl | exact Or.inr rfl)) (pgs_cons (pg_name (i := 3) sc_read_lines.nd rfl (by first | exact Or.inl rfl | exact Or.inr rfl)) pgs_nil))) (pss_cons (ps_set (i := 4) sc_read_lines.nd rfl (by first | exact Or.inl rfl | exact Or.inr rfl) (pe_df g_line_words (hr.mono (by decide)) rfl (takes_of rfl rfl rfl rfl) (pa_cons (pv 3) pa_nil))) (pss_one (ps_if (pt_not (pt_val (pe_df g_is_passed_over (hr.mono (by decide)) rfl (takes_of rfl rfl rfl rfl) (pa_cons (pv 4) pa_nil)))) (pss_one (ps_expr (pe_bm PySem.F.plainAttrs_list PySem.F.slot_list_append PySem.F.type_list_append mt_append (pv 1) (pa_cons (pe_tup (pa_cons (pe_op opAdd (pv 2) pe_int) (pa_cons (pv 4) pa_nil))) pa_nil)))) pss_nil)))) (pss_one (ps_ret (pv 1))))),
    fn_body (N := N_read_lines) (k := 0) (Γp := (List.replicate 1 .pu)) (sr := .pu) (fb := b_read_lines) (Γi := [.ls, .pu, .pu, .pu]) (Γ' := [.pu, .pu, .pu, .pu, .pu]) (by decide) rfl (.inl rfl) ⟨rfl, rfl⟩ (sok_seq (sok_setK ⟨rfl, rfl⟩ (np rfl) rfl (eok_lst aok_nil)) (sok_seq (sok_for ⟨rfl, rfl⟩ (np2 rfl) (iok_enum (aok_cons (eok_call (aok_cons (eok_var rfl) aok_nil)) aok_nil)) (gok_tup (n := 2) (gsok_cons (gok_nameK (i := 2) rfl) (gsok_cons (gok_nameK (i := 3) rfl) gsok_nil))) (sok_seq (sok_setK ⟨rfl, rfl⟩ (np rfl) rfl (eok_call (aok_cons (eok_var rfl) aok_nil))) (sok_if ⟨rfl, rfl⟩ (tok_not (tok_b (eok_call (aok_cons (eok_var rfl) aok_nil)))) (sok_drop ⟨rfl, rfl⟩ (eok_mt mok_append rfl (aok_cons (eok_tup (aok_cons (eok_op r2_add (eok_var rfl) eok_int) (aok_cons (eok_var rfl) aok_nil))) aok_nil))) sok_next))) (sok_frz (i := 1) rfl (sok_ret ⟨rfl, rfl⟩ (eok_var rfl))))) h⟩
abbrev s_last_line : Stmt := top 12
abbrev N_last_line : List Str := ["text"]
theorem sc_last_line : FnScope N_last_line ["text"] (defScope s_last_line) := ⟨rfl, rfl, rfl, by decide +kernel, rfl, by decide +kernel, by decide +kernel⟩
def b_last_line : DL.Env → Out := (sRet (eOp gAdd (eCB gLen (aCons (eCall 1 d_lines_of (aCons (eVar 0) aNil)) aNil)) (eC (.int 1))))
def d_last_line : Den := mkF 1 0 b_last_line
abbrev p_last_line (K : PySem.W.Frag) (mg : Mg) : Sp := spD K mg (List.replicate 1 .pu) .pu d_last_line
theorem ok_last_line {P : Program} {w : World} {K : PySem.W.Frag} {mg : Mg} {base : Heap} {C_BadText C_MoveError C_TextError G_AMOUNTS G_SIZES : Addr} (z : Zs mg) (x : Xs P w K mg C_BadText C_MoveError C_TextError G_AMOUNTS G_SIZES) (g_lines_of : Df P w K mg base "lines_of" s_lines_of ["text"] 2 (p_lines_of K mg)) {f : Addr} {fd : FuncData} (F : Fun K "last_line" "last_line" s_last_line f fd) : FnOk P w K mg base (L2.CX P w) 4 f fd ["text"] (p_last_line K mg) := by
  refine F.okX sc_last_line (fun vs H Q E h => spD_len h) (fun cdv A outer s H vs Q E hr h => ?_)
  exact ⟨_, (pss_one (ps_ret (pe_op opAdd (pe_callB callLen rfl z.z_len rfl (pa_cons (pe_df g_lines_of (hr.mono (by decide)) rfl (takes_of rfl rfl rfl rfl) (pa_cons (pv 0) pa_nil)) pa_nil)) pe_int))),
    fn_body (N := N_last_line) (k := 0) (Γp := (List.replicate 1 .pu)) (sr := .pu) (fb := b_last_line) (Γi := []) (Γ' := [.pu]) (by decide) rfl (.inl rfl) ⟨rfl, rfl⟩ (sok_ret ⟨rfl, rfl⟩ (eok_op r2_add (eok_cb c1_len (aok_cons (eok_call (aok_cons (eok_var rfl) aok_nil)) aok_nil)) eok_int)) h⟩
abbrev s_text_of_lines : Stmt := top 13
abbrev N_text_of_lines : List Str := ["lines", "line"]
theorem sc_text_of_lines : FnScope N_text_of_lines ["lines"] (defScope s_text_of_lines) := ⟨rfl, rfl, rfl, by decide +kernel, rfl, by decide +kernel, by decide +kernel⟩
def b_text_of_lines : DL.Env → Out := (sRet (eM1 gJoin (eC (.str "")) (eLc (iA (eVar 0)) (gN 1) bYes (eOp gAdd (eVar 1) (eC (.str "\n"))) [1])))
def d_text_of_lines : Den := mkF 2 0 b_text_of_lines
abbrev p_text_of_lines (K : PySem.W.Frag) (mg : Mg) : Sp := spD K mg (List.replicate 1 .pu) .pu d_text_of_lines
theorem ok_text_of_lines {P : Program} {w : World} {K : PySem.W.Frag} {mg : Mg} {base : Heap} {C_BadText C_MoveError C_TextError G_AMOUNTS G_SIZES : Addr} (z : Zs mg) (x : Xs P w K mg C_BadText C_MoveError C_TextError G_AMOUNTS G_SIZES) {f : Addr} {fd : FuncData} (F : Fun K "text_of_lines" "text_of_lines" s_text_of_lines f fd) : FnOk P w K mg base (L2.CX P w) 2 f fd ["lines"] (p_text_of_lines K mg) := by
  refine F.okX sc_text_of_lines (fun vs H Q E h => spD_len h) (fun cdv A outer s H vs Q E hr h => ?_)
  exact ⟨_, (pss_one (ps_ret (pe_join pe_str (pe_lc (own := [("line", 1)]) rfl sc_text_of_lines.nd (pi_any (pv 0)) (blkOk_by (own := [("line", 1)]) (N := N_text_of_lines) (sc := defScope s_text_of_lines) (by decide +kernel)) (fun _ _ _ _ _ => (pg_name (i := 1) sc_text_of_lines.nd rfl (by first | exact Or.inl rfl | exact Or.inr rfl))) (fun _ _ _ _ _ => pts_nil) (fun _ _ _ _ _ => (pe_op opAdd (pv 1) (pe_globS rfl x.gs_NEWLINE rfl))))))),
    fn_body (N := N_text_of_lines) (k := 0) (Γp := (List.replicate 1 .pu)) (sr := .pu) (fb := b_text_of_lines) (Γi := [.pu]) (Γ' := [.pu, .pu]) (by decide) rfl (.inl rfl) ⟨rfl, rfl⟩ (sok_ret ⟨rfl, rfl⟩ (eok_m1 m1_join eok_str (eok_frz (eok_lc (vs := [1]) (by decide) (iok_any (eok_var rfl)) (gok_nameK (i := 1) rfl) tok_yes (eok_op r2_add (eok_var rfl) eok_str))))) h⟩
abbrev s_is_written : Stmt := top 14
abbrev N_is_written : List Str := ["word", "sign"]
theorem sc_is_written : FnScope N_is_written ["word"] (defScope s_is_written) := ⟨rfl, rfl, rfl, by decide +kernel, rfl, by decide +kernel, by decide +kernel⟩
def b_is_written : DL.Env → Out := (sSeq (sIf (bOr (tVal (eOp gEq (eVar 0) (eC (.str "")))) (bOr (tVal (eOp (gB0 fun i j => decide (j < i)) (eCB gLen (aCons (eVar 0) aNil)) (eC (.int 9)))) (tVal (eOp (gB0 fun i j => decide (j < i)) (eCB gLen (aCons (eLc (iS (eVar 0)) (gN 1) (tVal (eOp gNi (eVar 1) (eC (.str "0123456789")))) (eVar 1) [1]) aNil)) (eC (.int 0)))))) (sRet (eC (.bl false))) Out.nx) (sRet (eOrV (eOp gEq (eVar 0) (eC (.str "0"))) (eOp gNe (eOp gIx (eVar 0) (eC (.int 0))) (eC (.str "0"))))))
def d_is_written : Den := mkF 2 0 b_is_written
abbrev p_is_written (K : PySem.W.Frag) (mg : Mg) : Sp := spD K mg (List.replicate 1 .pu) .pu d_is_written
theorem ok_is_written {P : Program} {w : World} {K : PySem.W.Frag} {mg : Mg} {base : Heap} {C_BadText C_MoveError C_TextError G_AMOUNTS G_SIZES : Addr} (z : Zs mg) (x : Xs P w K mg C_BadText C_MoveError C_TextError G_AMOUNTS G_SIZES) {f : Addr} {fd : FuncData} (F : Fun K "is_written" "is_written" s_is_written f fd) : FnOk P w K mg base (L2.CX P w) 2 f fd ["word"] (p_is_written K mg) := by
  refine F.okX sc_is_written (fun vs H Q E h => spD_len h) (fun cdv A outer s H vs Q E hr h => ?_)
  exact ⟨_, (pss_cons (ps_if (PW.pt (pw_or (pt_cmpR (opEq (Room.u64 hr)) (pv 0) pe_str (nomark _)) (pw_or (pt_cmpR op_gt (pe_callB callLen rfl z.z_len rfl (pa_cons (pv 0) pa_nil)) pe_int (nomark _)) (pw_or1 (pt_cmpR op_gt (pe_callB callLen rfl z.z_len rfl (pa_cons (pe_lc (own := [("sign", 1)]) rfl sc_is_written.nd (pi_str (pv 0)) (blkOk_by (own := [("sign", 1)]) (N := N_is_written) (sc := defScope s_is_written) (by decide +kernel)) (fun _ _ _ _ _ => (pg_name (i := 1) sc_is_written.nd rfl (by first | exact Or.inl rfl | exact Or.inr rfl))) (fun _ _ _ _ _ => (pts_one (pt_cmpR (opNi (Room.u65 hr)) (pv 1) (pe_globS rfl x.gs_FIGURES rfl) (by with_unfolding_all rfl)))) (fun _ _ _ _ _ => (pv 1))) pa_nil)) pe_int (nomark _)))))) (pss_one (ps_ret pe_bl)) pss_nil) (pss_one (ps_ret (pe_or (pe_cmpR (opEq (Room.u64 hr)) (pv 0) pe_str (nomark _)) (pe_one (pe_cmpR (opNe (Room.u64 hr)) (pe_ix (ix_any (Room.u1 hr)) (pv 0) pe_int (fun _ _ => rfl)) pe_str (nomark _))))))),
    fn_body (N := N_is_written) (k := 0) (Γp := (List.replicate 1 .pu)) (sr := .pu) (fb := b_is_written) (Γi := [.pu]) (Γ' := [.pu, .pu]) (by decide) rfl (.inl rfl) ⟨rfl, rfl⟩ (sok_seq (sok_if ⟨rfl, rfl⟩ (tok_or (tok_test (eok_op r2_eq (eok_var rfl) eok_str)) (tok_or (tok_test (eok_op r2_b0 (eok_cb c1_len (aok_cons (eok_var rfl) aok_nil)) eok_int)) (tok_test (eok_op r2_b0 (eok_cb c1_len (aok_cons (eok_frz (eok_lc (vs := [1]) (by decide) (iok_str (eok_var rfl)) (gok_nameK (i := 1) rfl) (tok_test (eok_op r2_ni (eok_var rfl) eok_str)) (eok_var rfl))) aok_nil)) eok_int)))) (sok_ret ⟨rfl, rfl⟩ eok_bl) sok_next) (sok_ret ⟨rfl, rfl⟩ (eok_or (eok_op r2_eq (eok_var rfl) eok_str) (eok_op r2_ne (eok_op r2_ix (eok_var rfl) eok_int) eok_str)))) h⟩
abbrev s_row_line : Stmt := top 17
abbrev N_row_line : List Str := ["row", "one"]
theorem sc_row_line : FnScope N_row_line ["row"] (defScope s_row_line) := ⟨rfl, rfl, rfl, by decide +kernel, rfl, by decide +kernel, by decide +kernel⟩
def b_row_line : DL.Env → Out := (sRet (eM1 gJoin (eC (.str " ")) (eLc (iA (eVar 0)) (gN 1) bYes (eCB gStr (aCons (eVar 1) aNil)) [1])))
def d_row_line : Den := mkF 2 0 b_row_line
abbrev p_row_line (K : PySem.W.Frag) (mg : Mg) : Sp := spD K mg (List.replicate 1 .pu) .pu d_row_line
theorem ok_row_line {P : Program} {w : World} {K : PySem.W.Frag} {mg : Mg} {base : Heap} {C_BadText C_MoveError C_TextError G_AMOUNTS G_SIZES : Addr} (z : Zs mg) (x : Xs P w K mg C_BadText C_MoveError C_TextError G_AMOUNTS G_SIZES) {f : Addr} {fd : FuncData} (F : Fun K "row_line" "row_line" s_row_line f fd) : FnOk P w K mg base (L2.CX P w) 2 f fd ["row"] (p_row_line K mg) := by
  refine F.okX sc_row_line (fun vs H Q E h => spD_len h) (fun cdv A outer s H vs Q E hr h => ?_)
  exact ⟨_, (pss_one (ps_ret (pe_join pe_str (pe_lc (own := [("one", 1)]) rfl sc_row_line.nd (pi_any (pv 0)) (blkOk_by (own := [("one", 1)]) (N := N_row_line) (sc := defScope s_row_line) (by decide +kernel)) (fun _ _ _ _ _ => (pg_name (i := 1) sc_row_line.nd rfl (by first | exact Or.inl rfl | exact Or.inr rfl))) (fun _ _ _ _ _ => pts_nil) (fun _ _ _ _ _ => (pe_callTy callStr rfl z.z_str rfl (pa_cons (pv 1) pa_nil))))))),
    fn_body (N := N_row_line) (k := 0) (Γp := (List.replicate 1 .pu)) (sr := .pu) (fb := b_row_line) (Γi := [.pu]) (Γ' := [.pu, .pu]) (by decide) rfl (.inl rfl) ⟨rfl, rfl⟩ (sok_ret ⟨rfl, rfl⟩ (eok_m1 m1_join eok_str (eok_frz (eok_lc (vs := [1]) (by decide) (iok_any (eok_var rfl)) (gok_nameK (i := 1) rfl) tok_yes (eok_cb c1_str (aok_cons (eok_var rfl) aok_nil)))))) h⟩
abbrev s_code_lines : Stmt := top 18
abbrev N_code_lines : List Str := ["code", "row"]
theorem sc_code_lines : FnScope N_code_lines ["code"] (defScope s_code_lines) := ⟨rfl, rfl, rfl, by decide +kernel, rfl, by decide +kernel, by decide +kernel⟩
def b_code_lines : DL.Env → Out := (sRet (eOp gAdd (eLst (aCons (eOp gAdd (eC (.str "code ")) (eCB gStr (aCons (eOp gIx (eVar 0) (eC (.int 0))) aNil))) aNil)) (eLc (iA (eOp gIx (eVar 0) (eC (.int 1)))) (gN 1) bYes (eCall 1 d_row_line (aCons (eVar 1) aNil)) [1])))
def d_code_lines : Den := mkF 2 0 b_code_lines
abbrev p_code_lines (K : PySem.W.Frag) (mg : Mg) : Sp := spD K mg (List.replicate 1 .pu) .pu d_code_lines
theorem ok_code_lines {P : Program} {w : World} {K : PySem.W.Frag} {mg : Mg} {base : Heap} {C_BadText C_MoveError C_TextError G_AMOUNTS G_SIZES : Addr} (z : Zs mg) (x : Xs P w K mg C_BadText C_MoveError C_TextError G_AMOUNTS G_SIZES) (g_row_line : Df P w K mg base "row_line" s_row_line ["row"] 2 (p_row_line K mg)) {f : Addr} {fd : FuncData} (F : Fun K "code_lines" "code_lines" s_code_lines f fd) : FnOk P w K mg base (L2.CX P w) 4 f fd ["code"] (p_code_lines K mg) := by
  refine F.okX sc_code_lines (fun vs H Q E h => spD_len h) (fun cdv A outer s H vs Q E hr h => ?_)
  exact ⟨_, (pss_one (ps_ret (pe_op opAdd (pe_lst (pa_cons (pe_op opAdd pe_str (pe_callTy callStr rfl z.z_str rfl (pa_cons (pe_ix (ix_any (Room.u1 hr)) (pv 0) pe_int (fun _ _ => rfl)) pa_nil))) pa_nil)) (pe_lc (own := [("row", 1)]) rfl sc_code_lines.nd (pi_any (pe_ix (ix_any (Room.u1 hr)) (pv 0) pe_int (fun _ _ => rfl))) (blkOk_by (own := [("row", 1)]) (N := N_code_lines) (sc := defScope s_code_lines) (by decide +kernel)) (fun _ _ _ _ _ => (pg_name (i := 1) sc_code_lines.nd rfl (by first | exact Or.inl rfl | exact Or.inr rfl))) (fun _ _ _ _ _ => pts_nil) (fun _ _ _ _ _ => (pe_df g_row_line (hr.mono (by decide)) rfl takes0 (pa_cons (pv 1) pa_nil))))))),
    fn_body (N := N_code_lines) (k := 0) (Γp := (List.replicate 1 .pu)) (sr := .pu) (fb := b_code_lines) (Γi := [.pu]) (Γ' := [.pu, .pu]) (by decide) rfl (.inl rfl) ⟨rfl, rfl⟩ (sok_ret ⟨rfl, rfl⟩ (eok_op r2_add (eok_frz (eok_lst (aok_cons (eok_op r2_add eok_str (eok_cb c1_str (aok_cons (eok_op r2_ix (eok_var rfl) eok_int) aok_nil))) aok_nil))) (eok_frz (eok_lc (vs := [1]) (by decide) (iok_any (eok_op r2_ix (eok_var rfl) eok_int)) (gok_nameK (i := 1) rfl) tok_yes (eok_call (aok_cons (eok_var rfl) aok_nil)))))) h⟩
abbrev s_code_text : Stmt := top 19
abbrev N_code_text : List Str := ["code"]
theorem sc_code_text : FnScope N_code_text ["code"] (defScope s_code_text) := ⟨rfl, rfl, rfl, by decide +kernel, rfl, by decide +kernel, by decide +kernel⟩
def b_code_text : DL.Env → Out := (sRet (eCall 1 d_text_of_lines (aCons (eCall 1 d_code_lines (aCons (eVar 0) aNil)) aNil)))
def d_code_text : Den := mkF 1 0 b_code_text
abbrev p_code_text (K : PySem.W.Frag) (mg : Mg) : Sp := spD K mg (List.replicate 1 .pu) .pu d_code_text
theorem ok_code_text {P : Program} {w : World} {K : PySem.W.Frag} {mg : Mg} {base : Heap} {C_BadText C_MoveError C_TextError G_AMOUNTS G_SIZES : Addr} (z : Zs mg) (x : Xs P w K mg C_BadText C_MoveError C_TextError G_AMOUNTS G_SIZES) (g_text_of_lines : Df P w K mg base "text_of_lines" s_text_of_lines ["lines"] 2 (p_text_of_lines K mg)) (g_code_lines : Df P w K mg base "code_lines" s_code_lines ["code"] 4 (p_code_lines K mg)) {f : Addr} {fd : FuncData} (F : Fun K "code_text" "code_text" s_code_text f fd) : FnOk P w K mg base (L2.CX P w) 6 f fd ["code"] (p_code_text K mg) := by
  refine F.okX sc_code_text (fun vs H Q E h => spD_len h) (fun cdv A outer s H vs Q E hr h => ?_)
  exact ⟨_, (pss_one (ps_ret (pe_df g_text_of_lines (hr.mono (by decide)) rfl (takes_of rfl rfl rfl rfl) (pa_cons (pe_df g_code_lines (hr.mono (by decide)) rfl (takes_of rfl rfl rfl rfl) (pa_cons (pv 0) pa_nil)) pa_nil)))),
    fn_body (N := N_code_text) (k := 0) (Γp := (List.replicate 1 .pu)) (sr := .pu) (fb := b_code_text) (Γi := []) (Γ' := [.pu]) (by decide) rfl (.inl rfl) ⟨rfl, rfl⟩ (sok_ret ⟨rfl, rfl⟩ (eok_call (aok_cons (eok_call (aok_cons (eok_var rfl) aok_nil)) aok_nil))) h⟩
abbrev s_is_number : Stmt := top 20
abbrev N_is_number : List Str := ["words", "at"]
theorem sc_is_number : FnScope N_is_number ["words", "at"] (defScope s_is_number) := ⟨rfl, rfl, rfl, by decide +kernel, rfl, by decide +kernel, by decide +kernel⟩
def b_is_number : DL.Env → Out := (sRet (eOrV (eCall 1 d_is_written (aCons (eOp gIx (eVar 0) (eVar 1)) aNil)) (eAndV (eOp gEq (eOp gIx (eVar 0) (eC (.int 0))) (eC (.str "cut"))) (eAndV (eOp gEq (eVar 1) (eC (.int 2))) (eOp gIn (eOp gIx (eVar 0) (eVar 1)) (eC (.tup [(.str "-1"), (.str "-2")])))))))
def d_is_number : Den := mkF 2 0 b_is_number
abbrev p_is_number (K : PySem.W.Frag) (mg : Mg) : Sp := spD K mg (List.replicate 2 .pu) .pu d_is_number
theorem ok_is_number {P : Program} {w : World} {K : PySem.W.Frag} {mg : Mg} {base : Heap} {C_BadText C_MoveError C_TextError G_AMOUNTS G_SIZES : Addr} (z : Zs mg) (x : Xs P w K mg C_BadText C_MoveError C_TextError G_AMOUNTS G_SIZES) (g_is_written : Df P w K mg base "is_written" s_is_written ["word"] 2 (p_is_written K mg)) {f : Addr} {fd : FuncData} (F : Fun K "is_number" "is_number" s_is_number f fd) : FnOk P w K mg base (L2.CX P w) 4 f fd ["words", "at"] (p_is_number K mg) := by
  refine F.okX sc_is_number (fun vs H Q E h => spD_len h) (fun cdv A outer s H vs Q E hr h => ?_)
  exact ⟨_, (pss_one (ps_ret (pe_or (pe_df g_is_written (hr.mono (by decide)) rfl (takes_of rfl rfl rfl rfl) (pa_cons (pe_ix (ix_any (Room.u1 hr)) (pv 0) (pv 1) (fun _ _ => rfl)) pa_nil)) (pe_one (pe_and (pe_cmpR (opEq (Room.u64 hr)) (pe_ix (ix_any (Room.u1 hr)) (pv 0) pe_int (fun _ _ => rfl)) pe_str (nomark _)) (pe_and (pe_cmpR (opEq (Room.u64 hr)) (pv 1) pe_int (nomark _)) (pe_one (pe_cmpR (opIn (Room.u65 hr)) (pe_ix (ix_any (Room.u1 hr)) (pv 0) (pv 1) (fun _ _ => rfl)) (pe_glob (v := .ref G_AMOUNTS) rfl x.gg_AMOUNTS rfl rfl) (by with_unfolding_all rfl))))))))),
    fn_body (N := N_is_number) (k := 0) (Γp := (List.replicate 2 .pu)) (sr := .pu) (fb := b_is_number) (Γi := []) (Γ' := [.pu, .pu]) (by decide) rfl (.inl rfl) ⟨rfl, rfl⟩ (sok_ret ⟨rfl, rfl⟩ (eok_or (eok_call (aok_cons (eok_op r2_ix (eok_var rfl) (eok_var rfl)) aok_nil)) (eok_and (eok_op r2_eq (eok_op r2_ix (eok_var rfl) eok_int) eok_str) (eok_and (eok_op r2_eq (eok_var rfl) eok_int) (eok_op r2_in (eok_op r2_ix (eok_var rfl) (eok_var rfl)) (eok_c x.gt_AMOUNTS)))))) h⟩
abbrev s_read_row : Stmt := top 21
abbrev N_read_row : List Str := ["line", "words", "at", "word"]
theorem sc_read_row : FnScope N_read_row ["line", "words"] (defScope s_read_row) := ⟨rfl, rfl, rfl, by decide +kernel, rfl, by decide +kernel, by decide +kernel⟩
def b_read_row : DL.Env → Out := (sSeq (sIf (tVal (eUn (gKIn true [("turn", (.int 1)), ("cut", (.int 4)), ("put", (.int 3)), ("copy", (.int 3)), ("keep", (.int 2)), ("empty", (.int 2)), ("swap", (.int 2)), ("set", (.int 3)), ("less", (.int 3))]) (eOp gIx (eVar 1) (eC (.int 0))))) (sRaise 5 ["line", "word"] (aCons (eVar 0) (aCons (eC (.str "kind")) aNil))) Out.nx) (sSeq (sIf (tVal (eOp gNe (eCB gLen (aCons (eVar 1) aNil)) (eUn (gKGet [("turn", (.int 1)), ("cut", (.int 4)), ("put", (.int 3)), ("copy", (.int 3)), ("keep", (.int 2)), ("empty", (.int 2)), ("swap", (.int 2)), ("set", (.int 3)), ("less", (.int 3))]) (eOp gIx (eVar 1) (eC (.int 0)))))) (sRaise 5 ["line", "word"] (aCons (eVar 0) (aCons (eC (.str "words")) aNil))) Out.nx) (sSeq (sIf (tVal (eOp (gB0 fun i j => decide (j < i)) (eCB gLen (aCons (eLc (iR2 (aCons (eC (.int 1)) (aCons (eCB gLen (aCons (eVar 1) aNil)) aNil))) (gN 2) (bNot (tVal (eCall 2 d_is_number (aCons (eVar 1) (aCons (eVar 2) aNil))))) (eVar 2) [2]) aNil)) (eC (.int 0)))) (sRaise 5 ["line", "word"] (aCons (eVar 0) (aCons (eC (.str "number")) aNil))) Out.nx) (sRet (eOp gAdd (eTup (aCons (eOp gIx (eVar 1) (eC (.int 0))) aNil)) (eCB gTuple (aCons (eLc (iA (eSl gSl (eVar 1) (pSo (eC (.int 1))) pNo)) (gN 3) bYes (eCB gInt (aCons (eVar 3) aNil)) [3]) aNil)))))))
def d_read_row : Den := mkF 4 0 b_read_row
abbrev p_read_row (K : PySem.W.Frag) (mg : Mg) : Sp := spD K mg (List.replicate 2 .pu) .pu d_read_row
theorem ok_read_row {P : Program} {w : World} {K : PySem.W.Frag} {mg : Mg} {base : Heap} {C_BadText C_MoveError C_TextError G_AMOUNTS G_SIZES : Addr} (z : Zs mg) (x : Xs P w K mg C_BadText C_MoveError C_TextError G_AMOUNTS G_SIZES) (g_is_number : Df P w K mg base "is_number" s_is_number ["words", "at"] 4 (p_is_number K mg)) {f : Addr} {fd : FuncData} (F : Fun K "read_row" "read_row" s_read_row f fd) : FnOk P w K mg base (L2.CX P w) 6 f fd ["line", "words"] (p_read_row K mg) := by
  refine F.okX sc_read_row (fun vs H Q E h => spD_len h) (fun cdv A outer s H vs Q E hr h => ?_)
  exact ⟨_, (pss_cons (ps_if (pt_cmpR (opNiK x.kd_SIZES) (pe_ix (ix_any (Room.u1 hr)) (pv 1) pe_int (fun _ _ => rfl)) (pe_glob (v := .ref G_SIZES) rfl x.gg_SIZES rfl rfl) (by with_unfolding_all rfl)) (pss_one (ps_raise rfl (takes_of rfl rfl rfl rfl) (pmk_ex x.t_BadText (by decide) hr (pa_cons (pv 0) (pa_cons pe_str pa_nil)) rfl))) pss_nil) (pss_cons (ps_if (pt_cmpR (opNe (Room.u64 hr)) (pe_callB callLen rfl z.z_len rfl (pa_cons (pv 1) pa_nil)) (pe_ix ix_kdict (pe_glob (v := .ref G_SIZES) rfl x.gg_SIZES rfl rfl) (pe_ix (ix_any (Room.u1 hr)) (pv 1) pe_int (fun _ _ => rfl)) (fun _ _ => rfl)) (nomark _)) (pss_one (ps_raise rfl (takes_of rfl rfl rfl rfl) (pmk_ex x.t_BadText (by decide) hr (pa_cons (pv 0) (pa_cons pe_str pa_nil)) rfl))) pss_nil) (pss_cons (ps_if (pt_cmpR op_gt (pe_callB callLen rfl z.z_len rfl (pa_cons (pe_lc (own := [("at", 2)]) rfl sc_read_row.nd (pi_range2 rfl z.z_range (pa_cons pe_int (pa_cons (pe_callB callLen rfl z.z_len rfl (pa_cons (pv 1) pa_nil)) pa_nil))) (blkOk_by (own := [("at", 2)]) (N := N_read_row) (sc := defScope s_read_row) (by decide +kernel)) (fun _ _ _ _ _ => (pg_name (i := 2) sc_read_row.nd rfl (by first | exact Or.inl rfl | exact Or.inr rfl))) (fun _ _ _ _ _ => (pts_one (pt_not (pt_val (pe_df g_is_number (hr.mono (by decide)) rfl takes0 (pa_cons (pv 1) (pa_cons (pv 2) pa_nil))))))) (fun _ _ _ _ _ => (pv 2))) pa_nil)) pe_int (nomark _)) (pss_one (ps_raise rfl (takes_of rfl rfl rfl rfl) (pmk_ex x.t_BadText (by decide) hr (pa_cons (pv 0) (pa_cons pe_str pa_nil)) rfl))) pss_nil) (pss_one (ps_ret (pe_op opAdd (pe_tup (pa_cons (pe_ix (ix_any (Room.u1 hr)) (pv 1) pe_int (fun _ _ => rfl)) pa_nil)) (pe_callTy callTuple rfl z.z_tuple rfl (pa_cons (pe_lc (own := [("word", 3)]) rfl sc_read_row.nd (pi_any (pe_slice slAny (pv 1) (po_some pe_int) po_none)) (blkOk_by (own := [("word", 3)]) (N := N_read_row) (sc := defScope s_read_row) (by decide +kernel)) (fun _ _ _ _ _ => (pg_name (i := 3) sc_read_row.nd rfl (by first | exact Or.inl rfl | exact Or.inr rfl))) (fun _ _ _ _ _ => pts_nil) (fun _ _ _ _ _ => (pe_callTy callInt rfl z.z_int rfl (pa_cons (pv 3) pa_nil)))) pa_nil)))))))),
    fn_body (N := N_read_row) (k := 0) (Γp := (List.replicate 2 .pu)) (sr := .pu) (fb := b_read_row) (Γi := [.pu, .pu]) (Γ' := [.pu, .pu, .pu, .pu]) (by decide) rfl (.inl rfl) ⟨rfl, rfl⟩ (sok_seq (sok_if ⟨rfl, rfl⟩ (tok_test (eok_kin (neg := true) x.kd_SIZES (eok_op r2_ix (eok_var rfl) eok_int))) (sok_raise (c := 5) x.t_BadText.gC ⟨rfl, rfl⟩ (aok_cons (eok_var rfl) (aok_cons eok_str aok_nil))) sok_next) (sok_seq (sok_if ⟨rfl, rfl⟩ (tok_test (eok_op r2_ne (eok_cb c1_len (aok_cons (eok_var rfl) aok_nil)) (eok_kget x.kd_SIZES (eok_op r2_ix (eok_var rfl) eok_int)))) (sok_raise (c := 5) x.t_BadText.gC ⟨rfl, rfl⟩ (aok_cons (eok_var rfl) (aok_cons eok_str aok_nil))) sok_next) (sok_seq (sok_if ⟨rfl, rfl⟩ (tok_test (eok_op r2_b0 (eok_cb c1_len (aok_cons (eok_frz (eok_lc (vs := [2]) (by decide) (iok_range2 (aok_cons eok_int (aok_cons (eok_cb c1_len (aok_cons (eok_var rfl) aok_nil)) aok_nil))) (gok_nameK (i := 2) rfl) (tok_not (tok_b (eok_call (aok_cons (eok_var rfl) (aok_cons (eok_var rfl) aok_nil))))) (eok_var rfl))) aok_nil)) eok_int)) (sok_raise (c := 5) x.t_BadText.gC ⟨rfl, rfl⟩ (aok_cons (eok_var rfl) (aok_cons eok_str aok_nil))) sok_next) (sok_ret ⟨rfl, rfl⟩ (eok_op r2_add (eok_tup (aok_cons (eok_op r2_ix (eok_var rfl) eok_int) aok_nil)) (eok_cb c1_tuple (aok_cons (eok_frz (eok_lc (vs := [3]) (by decide) (iok_any (eok_sl slok_any (eok_var rfl) (pok_so eok_int) pok_no)) (gok_nameK (i := 3) rfl) tok_yes (eok_cb c1_int (aok_cons (eok_var rfl) aok_nil)))) aok_nil))))))) h⟩
abbrev s_read_code : Stmt := top 22
abbrev N_read_code : List Str := ["text", "rows", "line", "words", "at", "row"]
theorem sc_read_code : FnScope N_read_code ["text"] (defScope s_read_code) := ⟨rfl, rfl, rfl, by decide +kernel, rfl, by decide +kernel, by decide +kernel⟩
def b_read_code : DL.Env → Out := (sSeq (sSet 1 (eCall 1 d_read_lines (aCons (eVar 0) aNil))) (sSeq (sIf (tVal (eOp gEq (eCB gLen (aCons (eVar 1) aNil)) (eC (.int 0)))) (sRaise 5 ["line", "word"] (aCons (eCall 1 d_last_line (aCons (eVar 0) aNil)) (aCons (eC (.str "code")) aNil))) Out.nx) (sSeq (sAsg (eOp gIx (eVar 1) (eC (.int 0))) (gT 2 (gsCons (gN 2) (gsCons (gN 3) gsNil)))) (sSeq (sIf (bOr (tVal (eOp gNe (eOp gIx (eVar 3) (eC (.int 0))) (eC (.str "code")))) (bOr (tVal (eOp gNe (eCB gLen (aCons (eVar 3) aNil)) (eC (.int 2)))) (bNot (tVal (eCall 1 d_is_written (aCons (eOp gIx (eVar 3) (eC (.int 1))) aNil)))))) (sRaise 5 ["line", "word"] (aCons (eVar 2) (aCons (eC (.str "code")) aNil))) Out.nx) (sRet (eTup (aCons (eCB gInt (aCons (eOp gIx (eVar 3) (eC (.int 1))) aNil)) (aCons (eCB gTuple (aCons (eLcX (iA (eSl gSl (eVar 1) (pSo (eC (.int 1))) pNo)) (gT 2 (gsCons (gN 4) (gsCons (gN 5) gsNil))) bYes (eCall 2 d_read_row (aCons (eVar 4) (aCons (eVar 5) aNil))) [4, 5]) aNil)) aNil))))))))
def d_read_code : Den := mkF 6 0 b_read_code
abbrev p_read_code (K : PySem.W.Frag) (mg : Mg) : Sp := spD K mg (List.replicate 1 .pu) .pu d_read_code
theorem ok_read_code {P : Program} {w : World} {K : PySem.W.Frag} {mg : Mg} {base : Heap} {C_BadText C_MoveError C_TextError G_AMOUNTS G_SIZES : Addr} (z : Zs mg) (x : Xs P w K mg C_BadText C_MoveError C_TextError G_AMOUNTS G_SIZES) (g_read_lines : Df P w K mg base "read_lines" s_read_lines ["text"] 4 (p_read_lines K mg)) (g_last_line : Df P w K mg base "last_line" s_last_line ["text"] 4 (p_last_line K mg)) (g_is_written : Df P w K mg base "is_written" s_is_written ["word"] 2 (p_is_written K mg)) (g_read_row : Df P w K mg base "read_row" s_read_row ["line", "words"] 6 (p_read_row K mg)) {f : Addr} {fd : FuncData} (F : Fun K "read_code" "read_code" s_read_code f fd) : FnOk P w K mg base (L2.CX P w) 8 f fd ["text"] (p_read_code K mg) := by
  refine F.okX sc_read_code (fun vs H Q E h => spD_len h) (fun cdv A outer s H vs Q E hr h => ?_)
  exact ⟨_, (pss_cons (ps_set (i := 1) sc_read_code.nd rfl (by first | exact Or.inl rfl | exact Or.inr rfl) (pe_df g_read_lines (hr.mono (by decide)) rfl (takes_of rfl rfl rfl rfl) (pa_cons (pv 0) pa_nil))) (pss_cons (ps_if (pt_cmpR (opEq (Room.u64 hr)) (pe_callB callLen rfl z.z_len rfl (pa_cons (pv 1) pa_nil)) pe_int (nomark _)) (pss_one (ps_raise rfl (takes_of rfl rfl rfl rfl) (pmk_ex x.t_BadText (by decide) hr (pa_cons (pe_df g_last_line (hr.mono (by decide)) rfl (takes_of rfl rfl rfl rfl) (pa_cons (pv 0) pa_nil)) (pa_cons pe_str pa_nil)) rfl))) pss_nil) (pss_cons (ps_asg (pe_ix (ix_any (Room.u1 hr)) (pv 1) pe_int (fun _ _ => rfl)) (pg_tup rfl (pgs_cons (pg_name (i := 2) sc_read_code.nd rfl (by first | exact Or.inl rfl | exact Or.inr rfl)) (pgs_cons (pg_name (i := 3) sc_read_code.nd rfl (by first | exact Or.inl rfl | exact Or.inr rfl)) pgs_nil)))) (pss_cons (ps_if (PW.pt (pw_or (pt_cmpR (opNe (Room.u64 hr)) (pe_ix (ix_any (Room.u1 hr)) (pv 3) pe_int (fun _ _ => rfl)) pe_str (nomark _)) (pw_or (pt_cmpR (opNe (Room.u64 hr)) (pe_callB callLen rfl z.z_len rfl (pa_cons (pv 3) pa_nil)) pe_int (nomark _)) (pw_or1 (pt_not (pt_val (pe_df g_is_written (hr.mono (by decide)) rfl (takes_of rfl rfl rfl rfl) (pa_cons (pe_ix (ix_any (Room.u1 hr)) (pv 3) pe_int (fun _ _ => rfl)) pa_nil)))))))) (pss_one (ps_raise rfl (takes_of rfl rfl rfl rfl) (pmk_ex x.t_BadText (by decide) hr (pa_cons (pv 2) (pa_cons pe_str pa_nil)) rfl))) pss_nil) (pss_one (ps_ret (pe_tup (pa_cons (pe_callTy callInt rfl z.z_int rfl (pa_cons (pe_ix (ix_any (Room.u1 hr)) (pv 3) pe_int (fun _ _ => rfl)) pa_nil)) (pa_cons (pe_callTy callTuple rfl z.z_tuple rfl (pa_cons (pe_lcX (own := [("at", 4), ("row", 5)]) rfl rfl (takes_of rfl rfl rfl rfl) rfl sc_read_code.nd (pi_any (pe_slice slAny (pv 1) (po_some pe_int) po_none)) (blkOk_by (own := [("at", 4), ("row", 5)]) (N := N_read_code) (sc := defScope s_read_code) (by decide +kernel)) (fun _ _ _ _ _ _ => (pg_tup rfl (pgs_cons (pg_name (i := 4) sc_read_code.nd rfl (by first | exact Or.inl rfl | exact Or.inr rfl)) (pgs_cons (pg_name (i := 5) sc_read_code.nd rfl (by first | exact Or.inl rfl | exact Or.inr rfl)) pgs_nil)))) (fun _ _ _ _ _ _ _ tkw => pts_nil) (fun _ _ _ _ _ _ _ tkw => (pe_df g_read_row (hr.mono (by decide)) rfl tkw (pa_cons (pv 4) (pa_cons (pv 5) pa_nil))))) pa_nil)) pa_nil))))))))),
    fn_body (N := N_read_code) (k := 0) (Γp := (List.replicate 1 .pu)) (sr := .pu) (fb := b_read_code) (Γi := [.pu, .pu, .pu, .pu, .pu]) (Γ' := [.pu, .pu, .pu, .pu, .pu, .pu]) (by decide) rfl (.inl rfl) ⟨rfl, rfl⟩ (sok_seq (sok_setK ⟨rfl, rfl⟩ (np rfl) rfl (eok_call (aok_cons (eok_var rfl) aok_nil))) (sok_seq (sok_if ⟨rfl, rfl⟩ (tok_test (eok_op r2_eq (eok_cb c1_len (aok_cons (eok_var rfl) aok_nil)) eok_int)) (sok_raise (c := 5) x.t_BadText.gC ⟨rfl, rfl⟩ (aok_cons (eok_call (aok_cons (eok_var rfl) aok_nil)) (aok_cons eok_str aok_nil))) sok_next) (sok_seq (sok_asg ⟨rfl, rfl⟩ (np2 rfl) (eok_op r2_ix (eok_var rfl) eok_int) (gok_tup (n := 2) (gsok_cons (gok_nameK (i := 2) rfl) (gsok_cons (gok_nameK (i := 3) rfl) gsok_nil)))) (sok_seq (sok_if ⟨rfl, rfl⟩ (tok_or (tok_test (eok_op r2_ne (eok_op r2_ix (eok_var rfl) eok_int) eok_str)) (tok_or (tok_test (eok_op r2_ne (eok_cb c1_len (aok_cons (eok_var rfl) aok_nil)) eok_int)) (tok_not (tok_b (eok_call (aok_cons (eok_op r2_ix (eok_var rfl) eok_int) aok_nil)))))) (sok_raise (c := 5) x.t_BadText.gC ⟨rfl, rfl⟩ (aok_cons (eok_var rfl) (aok_cons eok_str aok_nil))) sok_next) (sok_ret ⟨rfl, rfl⟩ (eok_tup (aok_cons (eok_cb c1_int (aok_cons (eok_op r2_ix (eok_var rfl) eok_int) aok_nil)) (aok_cons (eok_cb c1_tuple (aok_cons (eok_frz (eok_lcX (vs := [4, 5]) (by decide) (iok_any (eok_sl slok_any (eok_var rfl) (pok_so eok_int) pok_no)) (gok_tup (n := 2) (gsok_cons (gok_nameK (i := 4) rfl) (gsok_cons (gok_nameK (i := 5) rfl) gsok_nil))) (fun _ => tok_yes) (fun _ => (eok_call (aok_cons (eok_var rfl) (aok_cons (eok_var rfl) aok_nil)))))) aok_nil)) aok_nil)))))))) h⟩
abbrev s__law_reel : Stmt := top 24
abbrev N__law_reel : List Str := ["script", "reel", "cell"]
theorem sc__law_reel : FnScope N__law_reel ["script"] (defScope s__law_reel) := ⟨rfl, rfl, rfl, by decide +kernel, rfl, by decide +kernel, by decide +kernel⟩
def b__law_reel : DL.Env → Out := (sSeq (sSet 1 (eLst (aCons (eC (.int 6011)) aNil))) (sSeq (sFor (iA (eSl gSl (eVar 0) pNo (pSo (eC (.int 40))))) (gN 2) (sDrop (eMtO 1 gAppend (aCons (eOp (gIC CMod fun i j => i % j) (eOp gAdd (eOp gAdd (eOp gMul (eIxO 1 (eUn gNeg (eC (.int 1)))) (eC (.int 229))) (eOp (gIC CMod fun i j => i % j) (eOp (gIC CMod fun i j => i % j) (eCB gAbs (aCons (eCB gInt (aCons (eVar 2) aNil)) aNil)) (eOp (gIC CPow fun i j => i * 2 ^ j.toNat) (eC (.int 1)) (eC (.int 2000)))) (eC (.int 1000393)))) (eView (eCB gLen (aCons (eVar 1) aNil)))) (eC (.int 1999271))) aNil)))) (sRet (eLst (aCons (eOp gAdd (eVar 1) (eLst (aCons (eOp gAdd (eOp (gIC CDiv fun i j => i / j) (eOp gIx (eVar 1) (eUn gNeg (eC (.int 1)))) (eC (.int 9))) (eC (.int 2))) aNil))) (aCons (eC (.int 0)) (aCons (eOp gAdd (eOp gIx (eVar 1) (eUn gNeg (eC (.int 1)))) (eC (.int 6011))) aNil)))))))
def d__law_reel : Den := mkF 3 0 b__law_reel
abbrev p__law_reel (K : PySem.W.Frag) (mg : Mg) : Sp := spD K mg (List.replicate 1 .pu) .ls d__law_reel
theorem ok__law_reel {P : Program} {w : World} {K : PySem.W.Frag} {mg : Mg} {base : Heap} {C_BadText C_MoveError C_TextError G_AMOUNTS G_SIZES : Addr} (z : Zs mg) (x : Xs P w K mg C_BadText C_MoveError C_TextError G_AMOUNTS G_SIZES) {f : Addr} {fd : FuncData} (F : Fun K "_law_reel" "_law_reel" s__law_reel f fd) : FnOk P w K mg base (L2.CX P w) 2 f fd ["script"] (p__law_reel K mg) := by
  refine F.okX sc__law_reel (fun vs H Q E h => spD_len h) (fun cdv A outer s H vs Q E hr h => ?_)
  exact ⟨_, (pss_cons (ps_set (i := 1) sc__law_reel.nd rfl (by first | exact Or.inl rfl | exact Or.inr rfl) (pe_lst (pa_cons pe_int pa_nil))) (pss_cons (ps_for (passes_of rfl) rfl (pi_any (pe_slice slAny (pv 0) po_none (po_some pe_int))) (pg_name (i := 2) sc__law_reel.nd rfl (by first | exact Or.inl rfl | exact Or.inr rfl)) (pss_one (ps_expr (pe_bm PySem.F.plainAttrs_list PySem.F.slot_list_append PySem.F.type_list_append mt_append (pv 1) (pa_cons (pe_op op_mod (pe_op opAdd (pe_op opAdd (pe_op opMul (pe_ix (ix_any (Room.u1 hr)) (pv 1) (pe_un un_neg pe_int) (fun _ _ => rfl)) pe_int) (pe_op op_mod (pe_op op_mod (pe_callB callAbs rfl z.z_abs rfl (pa_cons (pe_callTy callInt rfl z.z_int rfl (pa_cons (pv 2) pa_nil)) pa_nil)) (pe_op op_shl pe_int pe_int)) pe_int)) (pe_callB callLen rfl z.z_len rfl (pa_cons (pv 1) pa_nil))) pe_int) pa_nil))))) (pss_one (ps_ret (pe_lst (pa_cons (pe_op opAdd (pv 1) (pe_lst (pa_cons (pe_op opAdd (pe_op op_fdiv (pe_ix (ix_any (Room.u1 hr)) (pv 1) (pe_un un_neg pe_int) (fun _ _ => rfl)) pe_int) pe_int) pa_nil))) (pa_cons pe_int (pa_cons (pe_op opAdd (pe_ix (ix_any (Room.u1 hr)) (pv 1) (pe_un un_neg pe_int) (fun _ _ => rfl)) pe_int) pa_nil)))))))),
    fn_body (N := N__law_reel) (k := 0) (Γp := (List.replicate 1 .pu)) (sr := .ls) (fb := b__law_reel) (Γi := [.ls, .pu]) (Γ' := [.pu, .pu, .pu]) (by decide) rfl (.inr (nn_seq (nn_seq nn_ret))) ⟨rfl, rfl⟩ (sok_seq (sok_setK ⟨rfl, rfl⟩ (np rfl) rfl (eok_lst (aok_cons eok_int aok_nil))) (sok_seq (sok_for ⟨rfl, rfl⟩ (np2 rfl) (iok_any (eok_sl slok_any (eok_var rfl) pok_no (pok_so eok_int))) (gok_nameK (i := 2) rfl) (sok_drop ⟨rfl, rfl⟩ (eok_mt mok_append rfl (aok_cons (eok_op (r2_ic (c := CMod)) (eok_op r2_add (eok_op r2_add (eok_op r2_mul (eok_ixO rfl (eok_un u1_neg eok_int)) eok_int) (eok_op (r2_ic (c := CMod)) (eok_op (r2_ic (c := CMod)) (eok_cb c1_abs (aok_cons (eok_cb c1_int (aok_cons (eok_var rfl) aok_nil)) aok_nil)) (eok_op (r2_ic (c := CPow)) eok_int eok_int)) eok_int)) (eok_view (eok_cb c1_len (aok_cons (eok_var rfl) aok_nil)))) eok_int) aok_nil)))) (sok_frz (i := 1) rfl (sok_ret ⟨rfl, rfl⟩ (eok_lst (aok_cons (eok_op r2_add (eok_var rfl) (eok_frz (eok_lst (aok_cons (eok_op r2_add (eok_op (r2_ic (c := CDiv)) (eok_op r2_ix (eok_var rfl) (eok_un u1_neg eok_int)) eok_int) eok_int) aok_nil)))) (aok_cons eok_int (aok_cons (eok_op r2_add (eok_op r2_ix (eok_var rfl) (eok_un u1_neg eok_int)) eok_int) aok_nil)))))))) h⟩
abbrev s__law_spin : Stmt := top 25
abbrev N__law_spin : List Str := ["reel", "many"]
theorem sc__law_spin : FnScope N__law_spin ["reel", "many"] (defScope s__law_spin) := ⟨rfl, rfl, rfl, by decide +kernel, rfl, by decide +kernel, by decide +kernel⟩
def b__law_spin : DL.Env → Out := (sSeq (sSetI 0 (eOp gAdd (eIxO 0 (eC (.int 1))) (eC (.int 1))) (eC (.int 1))) (sSeq (sSetI 0 (eOp (gIC CMod fun i j => i % j) (eCB gInt (aCons (eOp gAdd (eOp gAdd (eOp gMul (eIxO 0 (eC (.int 2))) (eC (.int 835))) (eOp gMul (eOp gIx (eIxO 0 (eC (.int 0))) (eOp (gIC CMod fun i j => i % j) (eIxO 0 (eC (.int 1))) (eCB gLen (aCons (eIxO 0 (eC (.int 0))) aNil)))) (eOp gAdd (eIxO 0 (eC (.int 1))) (eC (.int 7))))) (eC (.int 6011))) aNil)) (eC (.int 1999271))) (eC (.int 2))) (sRet (eOp (gIC CMod fun i j => i % j) (eOp (gIC CDiv fun i j => i / j) (eCB gInt (aCons (eIxO 0 (eC (.int 2))) aNil)) (eC (.int 23))) (eVar 1)))))
def d__law_spin : Den := mkF 2 1 b__law_spin
abbrev p__law_spin (K : PySem.W.Frag) (mg : Mg) : Sp := spD K mg (.ls :: List.replicate 1 .pu) .pu d__law_spin
theorem ok__law_spin {P : Program} {w : World} {K : PySem.W.Frag} {mg : Mg} {base : Heap} {C_BadText C_MoveError C_TextError G_AMOUNTS G_SIZES : Addr} (z : Zs mg) (x : Xs P w K mg C_BadText C_MoveError C_TextError G_AMOUNTS G_SIZES) {f : Addr} {fd : FuncData} (F : Fun K "_law_spin" "_law_spin" s__law_spin f fd) : FnOk P w K mg base (L2.CX P w) 2 f fd ["reel", "many"] (p__law_spin K mg) := by
  refine F.okX sc__law_spin (fun vs H Q E h => spD_len h) (fun cdv A outer s H vs Q E hr h => ?_)
  exact ⟨_, (pss_cons (ps_asg (pe_op opAdd (pe_ix (ix_any (Room.u1 hr)) (pv 0) pe_int (fun _ _ => rfl)) pe_int) (pg_sub (pv 0) pe_int (setAny (Room.u1 hr)))) (pss_cons (ps_asg (pe_op op_mod (pe_callTy callInt rfl z.z_int rfl (pa_cons (pe_op opAdd (pe_op opAdd (pe_op opMul (pe_ix (ix_any (Room.u1 hr)) (pv 0) pe_int (fun _ _ => rfl)) pe_int) (pe_op opMul (pe_ix (ix_any (Room.u1 hr)) (pe_ix (ix_any (Room.u1 hr)) (pv 0) pe_int (fun _ _ => rfl)) (pe_op op_mod (pe_ix (ix_any (Room.u1 hr)) (pv 0) pe_int (fun _ _ => rfl)) (pe_callB callLen rfl z.z_len rfl (pa_cons (pe_ix (ix_any (Room.u1 hr)) (pv 0) pe_int (fun _ _ => rfl)) pa_nil))) (fun _ _ => rfl)) (pe_op opAdd (pe_ix (ix_any (Room.u1 hr)) (pv 0) pe_int (fun _ _ => rfl)) pe_int))) pe_int) pa_nil)) pe_int) (pg_sub (pv 0) pe_int (setAny (Room.u1 hr)))) (pss_one (ps_ret (pe_op op_mod (pe_op op_fdiv (pe_callTy callInt rfl z.z_int rfl (pa_cons (pe_ix (ix_any (Room.u1 hr)) (pv 0) pe_int (fun _ _ => rfl)) pa_nil)) pe_int) (pv 1)))))),
    fn_body (N := N__law_spin) (k := 1) (Γp := (.ls :: List.replicate 1 .pu)) (sr := .pu) (fb := b__law_spin) (Γi := []) (Γ' := [.ls, .pu]) (by decide) rfl (.inl rfl) ⟨rfl, rfl⟩ (sok_seq (sok_seti ⟨rfl, rfl⟩ rfl (eok_op r2_add (eok_ixO rfl eok_int) eok_int) eok_int) (sok_seq (sok_seti ⟨rfl, rfl⟩ rfl (eok_op (r2_ic (c := CMod)) (eok_cb c1_int (aok_cons (eok_op r2_add (eok_op r2_add (eok_op r2_mul (eok_ixO rfl eok_int) eok_int) (eok_op r2_mul (eok_op r2_ix (eok_ixO rfl eok_int) (eok_op (r2_ic (c := CMod)) (eok_ixO rfl eok_int) (eok_cb c1_len (aok_cons (eok_ixO rfl eok_int) aok_nil)))) (eok_op r2_add (eok_ixO rfl eok_int) eok_int))) eok_int) aok_nil)) eok_int) eok_int) (sok_ret ⟨rfl, rfl⟩ (eok_op (r2_ic (c := CMod)) (eok_op (r2_ic (c := CDiv)) (eok_cb c1_int (aok_cons (eok_ixO rfl eok_int) aok_nil)) eok_int) (eok_var rfl))))) h⟩
abbrev s__law_alike : Stmt := top 26
abbrev N__law_alike : List Str := ["told", "due", "waits", "at", "lap", "want", "have", "k"]
theorem sc__law_alike : FnScope N__law_alike ["told", "due"] (defScope s__law_alike) := ⟨rfl, rfl, rfl, by decide +kernel, rfl, by decide +kernel, by decide +kernel⟩
def b__law_alike : DL.Env → Out := (sSeq (sPar 2 3 (aCons (eLst (aCons (eTup (aCons (eVar 1) (aCons (eVar 0) aNil))) aNil)) (aCons (eC (.int 0)) aNil))) (sSeq (sFor (iR1 (aCons (eC (.int 300000)) aNil)) (gN 4) (sSeq (sIf (tVal (eOp gEq (eVar 3) (eView (eCB gLen (aCons (eVar 2) aNil))))) (sRet (eC (.bl true))) Out.nx) (sSeq (sAsg (eIxO 2 (eVar 3)) (gT 2 (gsCons (gN 5) (gsCons (gN 6) gsNil)))) (sSeq (sSet 3 (eOp gAdd (eVar 3) (eC (.int 1)))) (sIf (tVal (eOp gIsN (eVar 5) (eC .non))) (sIf (tVal (eOp gNotN (eVar 6) (eC .non))) (sRet (eC (.bl false))) Out.nx) (sIf (tVal (eIsi isBl (eVar 5))) (sIf (bOr (bNot (tVal (eIsi isBl (eVar 6)))) (tVal (eOp gNe (eVar 6) (eVar 5)))) (sRet (eC (.bl false))) Out.nx) (sIf (tVal (eIsi isInt (eVar 5))) (sIf (bOr (bNot (tVal (eIsi isInt (eVar 6)))) (bOr (tVal (eIsi isBl (eVar 6))) (tVal (eOp gNe (eVar 6) (eVar 5))))) (sRet (eC (.bl false))) Out.nx) (sIf (tVal (eIsi isStr (eVar 5))) (sIf (bOr (bNot (tVal (eIsi isStr (eVar 6)))) (tVal (eOp gNe (eVar 6) (eVar 5)))) (sRet (eC (.bl false))) Out.nx) (sIf (bOr (bNot (tVal (eIsi isTup (eVar 6)))) (tVal (eOp gNe (eCB gLen (aCons (eVar 6) aNil)) (eCB gLen (aCons (eVar 5) aNil))))) (sRet (eC (.bl false))) (sDrop (eMtO 2 gExtend (aCons (eLc (iR1 (aCons (eCB gLen (aCons (eVar 5) aNil)) aNil)) (gN 7) bYes (eTup (aCons (eOp gIx (eVar 5) (eVar 7)) (aCons (eOp gIx (eVar 6) (eVar 7)) aNil))) [7]) aNil)))))))))))) (sRet (eC (.bl false)))))
def d__law_alike : Den := mkF 8 0 b__law_alike
abbrev p__law_alike (K : PySem.W.Frag) (mg : Mg) : Sp := spD K mg (List.replicate 2 .pu) .pu d__law_alike
theorem ok__law_alike {P : Program} {w : World} {K : PySem.W.Frag} {mg : Mg} {base : Heap} {C_BadText C_MoveError C_TextError G_AMOUNTS G_SIZES : Addr} (z : Zs mg) (x : Xs P w K mg C_BadText C_MoveError C_TextError G_AMOUNTS G_SIZES) {f : Addr} {fd : FuncData} (F : Fun K "_law_alike" "_law_alike" s__law_alike f fd) : FnOk P w K mg base (L2.CX P w) 2 f fd ["told", "due"] (p__law_alike K mg) := by
  refine F.okX sc__law_alike (fun vs H Q E h => spD_len h) (fun cdv A outer s H vs Q E hr h => ?_)
  exact ⟨_, (pss_cons (ps_par (i := 2) (j := 3) rfl sc__law_alike.nd rfl rfl (by decide) rfl rfl (pa_cons (pe_lst (pa_cons (pe_tup (pa_cons (pv 1) (pa_cons (pv 0) pa_nil))) pa_nil)) (pa_cons pe_int pa_nil)) (by first | rfl | with_unfolding_all rfl)) (pss_cons (ps_for (passes_of rfl) rfl (pi_range1 rfl z.z_range (pa_cons pe_int pa_nil)) (pg_name (i := 4) sc__law_alike.nd rfl (by first | exact Or.inl rfl | exact Or.inr rfl)) (pss_cons (ps_if (pt_cmpR (opEq (Room.u64 hr)) (pv 3) (pe_callB callLen rfl z.z_len rfl (pa_cons (pv 2) pa_nil)) (nomark _)) (pss_one (ps_ret pe_bl)) pss_nil) (pss_cons (ps_asg (pe_ix (ix_any (Room.u1 hr)) (pv 2) (pv 3) (fun _ _ => rfl)) (pg_tup rfl (pgs_cons (pg_name (i := 5) sc__law_alike.nd rfl (by first | exact Or.inl rfl | exact Or.inr rfl)) (pgs_cons (pg_name (i := 6) sc__law_alike.nd rfl (by first | exact Or.inl rfl | exact Or.inr rfl)) pgs_nil)))) (pss_cons (ps_set (i := 3) sc__law_alike.nd rfl (by first | exact Or.inl rfl | exact Or.inr rfl) (pe_op opAdd (pv 3) pe_int)) (pss_one (ps_if (pt_cmpR opIsN (pv 5) pe_non (nomark _)) (pss_one (ps_if (pt_cmpR opNotN (pv 6) pe_non (nomark _)) (pss_one (ps_ret pe_bl)) pss_nil)) (pss_one (ps_if (pt_val (pe_callB call_isi rfl z.z_isinstance rfl (pa_cons (pv 5) (pa_cons (pe_bltn (v := .ty "bool") rfl z.z_bool (by decide +kernel) rfl) pa_nil)))) (pss_one (ps_if (PW.pt (pw_or (pt_not (pt_val (pe_callB call_isi rfl z.z_isinstance rfl (pa_cons (pv 6) (pa_cons (pe_bltn (v := .ty "bool") rfl z.z_bool (by decide +kernel) rfl) pa_nil))))) (pw_or1 (pt_cmpR (opNe (Room.u64 hr)) (pv 6) (pv 5) (nomark _))))) (pss_one (ps_ret pe_bl)) pss_nil)) (pss_one (ps_if (pt_val (pe_callB call_isi rfl z.z_isinstance rfl (pa_cons (pv 5) (pa_cons (pe_bltn (v := .ty "int") rfl z.z_int (by decide +kernel) rfl) pa_nil)))) (pss_one (ps_if (PW.pt (pw_or (pt_not (pt_val (pe_callB call_isi rfl z.z_isinstance rfl (pa_cons (pv 6) (pa_cons (pe_bltn (v := .ty "int") rfl z.z_int (by decide +kernel) rfl) pa_nil))))) (pw_or (pt_val (pe_callB call_isi rfl z.z_isinstance rfl (pa_cons (pv 6) (pa_cons (pe_bltn (v := .ty "bool") rfl z.z_bool (by decide +kernel) rfl) pa_nil)))) (pw_or1 (pt_cmpR (opNe (Room.u64 hr)) (pv 6) (pv 5) (nomark _)))))) (pss_one (ps_ret pe_bl)) pss_nil)) (pss_one (ps_if (pt_val (pe_callB call_isi rfl z.z_isinstance rfl (pa_cons (pv 5) (pa_cons (pe_bltn (v := .ty "str") rfl z.z_str (by decide +kernel) rfl) pa_nil)))) (pss_one (ps_if (PW.pt (pw_or (pt_not (pt_val (pe_callB call_isi rfl z.z_isinstance rfl (pa_cons (pv 6) (pa_cons (pe_bltn (v := .ty "str") rfl z.z_str (by decide +kernel) rfl) pa_nil))))) (pw_or1 (pt_cmpR (opNe (Room.u64 hr)) (pv 6) (pv 5) (nomark _))))) (pss_one (ps_ret pe_bl)) pss_nil)) (pss_one (ps_if (PW.pt (pw_or (pt_not (pt_val (pe_callB call_isi rfl z.z_isinstance rfl (pa_cons (pv 6) (pa_cons (pe_bltn (v := .ty "tuple") rfl z.z_tuple (by decide +kernel) rfl) pa_nil))))) (pw_or1 (pt_cmpR (opNe (Room.u64 hr)) (pe_callB callLen rfl z.z_len rfl (pa_cons (pv 6) pa_nil)) (pe_callB callLen rfl z.z_len rfl (pa_cons (pv 5) pa_nil)) (nomark _))))) (pss_one (ps_ret pe_bl)) (pss_one (ps_expr (pe_bm PySem.F.plainAttrs_list PySem.F.slot_list_extend PySem.F.type_list_extend mt_extend (pv 2) (pa_cons (pe_lc (own := [("k", 7)]) rfl sc__law_alike.nd (pi_range1 rfl z.z_range (pa_cons (pe_callB callLen rfl z.z_len rfl (pa_cons (pv 5) pa_nil)) pa_nil)) (blkOk_by (own := [("k", 7)]) (N := N__law_alike) (sc := defScope s__law_alike) (by decide +kernel)) (fun _ _ _ _ _ => (pg_name (i := 7) sc__law_alike.nd rfl (by first | exact Or.inl rfl | exact Or.inr rfl))) (fun _ _ _ _ _ => pts_nil) (fun _ _ _ _ _ => (pe_tup (pa_cons (pe_ix (ix_any (Room.u1 hr)) (pv 5) (pv 7) (fun _ _ => rfl)) (pa_cons (pe_ix (ix_any (Room.u1 hr)) (pv 6) (pv 7) (fun _ _ => rfl)) pa_nil))))) pa_nil)))))))))))))))))) (pss_one (ps_ret pe_bl)))),
    fn_body (N := N__law_alike) (k := 0) (Γp := (List.replicate 2 .pu)) (sr := .pu) (fb := b__law_alike) (Γi := [.ls, .pu, .pu, .pu, .pu, .pu]) (Γ' := [.pu, .pu, .ls, .pu, .pu, .pu, .pu, .pu]) (by decide) rfl (.inl rfl) ⟨rfl, rfl⟩ (sok_seq (sok_parS ⟨rfl, rfl⟩ (np rfl) (np rfl) (aoks_ls (eok_lst (aok_cons (eok_tup (aok_cons (eok_var rfl) (aok_cons (eok_var rfl) aok_nil))) aok_nil)) (aoks_pu eok_int aoks_nil))) (sok_seq (sok_for ⟨rfl, rfl⟩ (np2 rfl) (iok_range1 (aok_cons eok_int aok_nil)) (gok_nameK (i := 4) rfl) (sok_seq (sok_if ⟨rfl, rfl⟩ (tok_test (eok_op r2_eq (eok_var rfl) (eok_view (eok_cb c1_len (aok_cons (eok_var rfl) aok_nil))))) (sok_ret ⟨rfl, rfl⟩ eok_bl) sok_next) (sok_seq (sok_asg ⟨rfl, rfl⟩ (np2 rfl) (eok_ixO rfl (eok_var rfl)) (gok_tup (n := 2) (gsok_cons (gok_nameK (i := 5) rfl) (gsok_cons (gok_nameK (i := 6) rfl) gsok_nil)))) (sok_seq (sok_setK ⟨rfl, rfl⟩ (np rfl) rfl (eok_op r2_add (eok_var rfl) eok_int)) (sok_if ⟨rfl, rfl⟩ (tok_test (eok_op r2_isN (eok_var rfl) eok_non)) (sok_if ⟨rfl, rfl⟩ (tok_test (eok_op r2_notN (eok_var rfl) eok_non)) (sok_ret ⟨rfl, rfl⟩ eok_bl) sok_next) (sok_if ⟨rfl, rfl⟩ (tok_b (eok_isi ty_bl (eok_var rfl))) (sok_if ⟨rfl, rfl⟩ (tok_or (tok_not (tok_b (eok_isi ty_bl (eok_var rfl)))) (tok_test (eok_op r2_ne (eok_var rfl) (eok_var rfl)))) (sok_ret ⟨rfl, rfl⟩ eok_bl) sok_next) (sok_if ⟨rfl, rfl⟩ (tok_b (eok_isi ty_int (eok_var rfl))) (sok_if ⟨rfl, rfl⟩ (tok_or (tok_not (tok_b (eok_isi ty_int (eok_var rfl)))) (tok_or (tok_b (eok_isi ty_bl (eok_var rfl))) (tok_test (eok_op r2_ne (eok_var rfl) (eok_var rfl))))) (sok_ret ⟨rfl, rfl⟩ eok_bl) sok_next) (sok_if ⟨rfl, rfl⟩ (tok_b (eok_isi ty_str (eok_var rfl))) (sok_if ⟨rfl, rfl⟩ (tok_or (tok_not (tok_b (eok_isi ty_str (eok_var rfl)))) (tok_test (eok_op r2_ne (eok_var rfl) (eok_var rfl)))) (sok_ret ⟨rfl, rfl⟩ eok_bl) sok_next) (sok_if ⟨rfl, rfl⟩ (tok_or (tok_not (tok_b (eok_isi ty_tup (eok_var rfl)))) (tok_test (eok_op r2_ne (eok_cb c1_len (aok_cons (eok_var rfl) aok_nil)) (eok_cb c1_len (aok_cons (eok_var rfl) aok_nil))))) (sok_ret ⟨rfl, rfl⟩ eok_bl) (sok_drop ⟨rfl, rfl⟩ (eok_mt mok_extend rfl (aok_cons (eok_frz (eok_lc (vs := [7]) (by decide) (iok_range1 (aok_cons (eok_cb c1_len (aok_cons (eok_var rfl) aok_nil)) aok_nil)) (gok_nameK (i := 7) rfl) tok_yes (eok_tup (aok_cons (eok_op r2_ix (eok_var rfl) (eok_var rfl)) (aok_cons (eok_op r2_ix (eok_var rfl) (eok_var rfl)) aok_nil))))) aok_nil)))))))))))) (sok_ret ⟨rfl, rfl⟩ eok_bl))) h⟩
abbrev s__law_long : Stmt := top 27
abbrev N__law_long : List Str := ["word"]
theorem sc__law_long : FnScope N__law_long ["word"] (defScope s__law_long) := ⟨rfl, rfl, rfl, by decide +kernel, rfl, by decide +kernel, by decide +kernel⟩
def b__law_long : DL.Env → Out := (sRet (eDGet (eDisp [.inr "turn", .inr "cut", .inr "put", .inr "copy", .inr "keep", .inr "empty", .inr "swap", .inr "set", .inr "less"] (aCons (eC (.int 1)) (aCons (eC (.int 4)) (aCons (eC (.int 3)) (aCons (eC (.int 3)) (aCons (eC (.int 2)) (aCons (eC (.int 2)) (aCons (eC (.int 2)) (aCons (eC (.int 3)) (aCons (eC (.int 3)) aNil)))))))))) (eVar 0) (eC (.int 0))))
def d__law_long : Den := mkF 1 0 b__law_long
abbrev p__law_long (K : PySem.W.Frag) (mg : Mg) : Sp := spD K mg (List.replicate 1 .pu) .pu d__law_long
theorem ok__law_long {P : Program} {w : World} {K : PySem.W.Frag} {mg : Mg} {base : Heap} {C_BadText C_MoveError C_TextError G_AMOUNTS G_SIZES : Addr} (z : Zs mg) (x : Xs P w K mg C_BadText C_MoveError C_TextError G_AMOUNTS G_SIZES) {f : Addr} {fd : FuncData} (F : Fun K "_law_long" "_law_long" s__law_long f fd) : FnOk P w K mg base (L2.CX P w) 2 f fd ["word"] (p__law_long K mg) := by
  refine F.okX sc__law_long (fun vs H Q E h => spD_len h) (fun cdv A outer s H vs Q E hr h => ?_)
  exact ⟨_, (pss_one (ps_ret (pe_dget2 (Room.u1 hr) (pe_disp (pps_cons pe_str pe_int (pps_cons pe_str pe_int (pps_cons pe_str pe_int (pps_cons pe_str pe_int (pps_cons pe_str pe_int (pps_cons pe_str pe_int (pps_cons pe_str pe_int (pps_cons pe_str pe_int (pps_cons pe_str pe_int pps_nil))))))))) rfl rfl (List.cons_ne_nil _ _) (by decide)) (pv 0) pe_int ⟨rfl, rfl, rfl, rfl⟩))),
    fn_body (N := N__law_long) (k := 0) (Γp := (List.replicate 1 .pu)) (sr := .pu) (fb := b__law_long) (Γi := []) (Γ' := [.pu]) (by decide) rfl (.inl rfl) ⟨rfl, rfl⟩ (sok_ret ⟨rfl, rfl⟩ (eok_dget (eok_frz (eok_disp (ks := [.inr "turn", .inr "cut", .inr "put", .inr "copy", .inr "keep", .inr "empty", .inr "swap", .inr "set", .inr "less"]) (by decide) (psok_cons eok_int (psok_cons eok_int (psok_cons eok_int (psok_cons eok_int (psok_cons eok_int (psok_cons eok_int (psok_cons eok_int (psok_cons eok_int (psok_cons eok_int psok_nil))))))))))) (eok_var rfl) eok_int)) h⟩
abbrev s__law_number : Stmt := top 28
abbrev N__law_number : List Str := ["word", "sign"]
theorem sc__law_number : FnScope N__law_number ["word"] (defScope s__law_number) := ⟨rfl, rfl, rfl, by decide +kernel, rfl, by decide +kernel, by decide +kernel⟩
def b__law_number : DL.Env → Out := (sSeq (sIf (bOr (tVal (eOp (gB0 fun i j => decide (j < i)) (eCB gLen (aCons (eVar 0) aNil)) (eC (.int 9)))) (bOr (tVal (eOp (gB0 fun i j => decide (j < i)) (eCB gLen (aCons (eLc (iS (eVar 0)) (gN 1) (tVal (eOp gNi (eVar 1) (eC (.str "0123456789")))) (eVar 1) [1]) aNil)) (eC (.int 0)))) (bOr (tVal (eOp gEq (eVar 0) (eC (.str "")))) (bAnd (tVal (eOp gEq (eOp gIx (eVar 0) (eC (.int 0))) (eC (.str "0")))) (tVal (eOp gNe (eVar 0) (eC (.str "0")))))))) (sRet (eC .non)) Out.nx) (sRet (eCB gInt (aCons (eVar 0) aNil))))
def d__law_number : Den := mkF 2 0 b__law_number
abbrev p__law_number (K : PySem.W.Frag) (mg : Mg) : Sp := spD K mg (List.replicate 1 .pu) .pu d__law_number
theorem ok__law_number {P : Program} {w : World} {K : PySem.W.Frag} {mg : Mg} {base : Heap} {C_BadText C_MoveError C_TextError G_AMOUNTS G_SIZES : Addr} (z : Zs mg) (x : Xs P w K mg C_BadText C_MoveError C_TextError G_AMOUNTS G_SIZES) {f : Addr} {fd : FuncData} (F : Fun K "_law_number" "_law_number" s__law_number f fd) : FnOk P w K mg base (L2.CX P w) 2 f fd ["word"] (p__law_number K mg) := by
  refine F.okX sc__law_number (fun vs H Q E h => spD_len h) (fun cdv A outer s H vs Q E hr h => ?_)
  exact ⟨_, (pss_cons (ps_if (PW.pt (pw_or (pt_cmpR op_gt (pe_callB callLen rfl z.z_len rfl (pa_cons (pv 0) pa_nil)) pe_int (nomark _)) (pw_or (pt_cmpR op_gt (pe_callB callLen rfl z.z_len rfl (pa_cons (pe_lc (own := [("sign", 1)]) rfl sc__law_number.nd (pi_str (pv 0)) (blkOk_by (own := [("sign", 1)]) (N := N__law_number) (sc := defScope s__law_number) (by decide +kernel)) (fun _ _ _ _ _ => (pg_name (i := 1) sc__law_number.nd rfl (by first | exact Or.inl rfl | exact Or.inr rfl))) (fun _ _ _ _ _ => (pts_one (pt_cmpR (opNi (Room.u65 hr)) (pv 1) pe_str (by with_unfolding_all rfl)))) (fun _ _ _ _ _ => (pv 1))) pa_nil)) pe_int (nomark _)) (pw_or (pt_cmpR (opEq (Room.u64 hr)) (pv 0) pe_str (nomark _)) (pw_or1 (PW.pt (pw_and (pt_cmpR (opEq (Room.u64 hr)) (pe_ix (ix_any (Room.u1 hr)) (pv 0) pe_int (fun _ _ => rfl)) pe_str (nomark _)) (pw_and1 (pt_cmpR (opNe (Room.u64 hr)) (pv 0) pe_str (nomark _)))))))))) (pss_one (ps_ret pe_non)) pss_nil) (pss_one (ps_ret (pe_callTy callInt rfl z.z_int rfl (pa_cons (pv 0) pa_nil))))),
    fn_body (N := N__law_number) (k := 0) (Γp := (List.replicate 1 .pu)) (sr := .pu) (fb := b__law_number) (Γi := [.pu]) (Γ' := [.pu, .pu]) (by decide) rfl (.inl rfl) ⟨rfl, rfl⟩ (sok_seq (sok_if ⟨rfl, rfl⟩ (tok_or (tok_test (eok_op r2_b0 (eok_cb c1_len (aok_cons (eok_var rfl) aok_nil)) eok_int)) (tok_or (tok_test (eok_op r2_b0 (eok_cb c1_len (aok_cons (eok_frz (eok_lc (vs := [1]) (by decide) (iok_str (eok_var rfl)) (gok_nameK (i := 1) rfl) (tok_test (eok_op r2_ni (eok_var rfl) eok_str)) (eok_var rfl))) aok_nil)) eok_int)) (tok_or (tok_test (eok_op r2_eq (eok_var rfl) eok_str)) (tok_and (tok_test (eok_op r2_eq (eok_op r2_ix (eok_var rfl) eok_int) eok_str)) (tok_test (eok_op r2_ne (eok_var rfl) eok_str)))))) (sok_ret ⟨rfl, rfl⟩ eok_non) sok_next) (sok_ret ⟨rfl, rfl⟩ (eok_cb c1_int (aok_cons (eok_var rfl) aok_nil)))) h⟩
abbrev s__law_read : Stmt := top 29
abbrev N__law_read : List Str := ["text", "lines", "pockets", "rows", "at", "words", "long", "numbers", "word"]
theorem sc__law_read : FnScope N__law_read ["text"] (defScope s__law_read) := ⟨rfl, rfl, rfl, by decide +kernel, rfl, by decide +kernel, by decide +kernel⟩
def b__law_read : DL.Env → Out := (sSeq (sSet 1 (eM1 gSplit (eVar 0) (eC (.str "\n")))) (sSeq (sIf (tVal (eOp gEq (eIxO 1 (eUn gNeg (eC (.int 1)))) (eC (.str "")))) (sDrop (eMtO 1 gPop aNil)) Out.nx) (sSeq (sPar 2 3 (aCons (eC .non) (aCons (eLst aNil) aNil))) (sSeq (sFor (iR1 (aCons (eCB gLen (aCons (eVar 1) aNil)) aNil)) (gN 4) (sSeq (sSet 5 (eLc (iA (eM1 gSplit (eOp gIx (eVar 1) (eVar 4)) (eC (.str " ")))) (gN 8) (tVal (eOp gNe (eVar 8) (eC (.str "")))) (eVar 8) [8])) (sSeq (sIf (bOr (tVal (eOp gEq (eCB gLen (aCons (eVar 5) aNil)) (eC (.int 0)))) (tVal (eOp gEq (eOp gIx (eOp gIx (eVar 5) (eC (.int 0))) (eC (.int 0))) (eC (.str "#"))))) Out.ct Out.nx) (sSeq (sIf (tVal (eOp gIsN (eVar 2) (eC .non))) (sSeq (sIf (bOr (tVal (eOp gNe (eCB gLen (aCons (eVar 5) aNil)) (eC (.int 2)))) (bOr (tVal (eOp gNe (eOp gIx (eVar 5) (eC (.int 0))) (eC (.str "code")))) (tVal (eOp gIsN (eCall 1 d__law_number (aCons (eOp gIx (eVar 5) (eC (.int 1))) aNil)) (eC .non))))) (sRet (eTup (aCons (eC (.str "bad")) (aCons (eOp gAdd (eVar 4) (eC (.int 1))) (aCons (eC (.str "code")) aNil))))) Out.nx) (sSeq (sSet 2 (eCall 1 d__law_number (aCons (eOp gIx (eVar 5) (eC (.int 1))) aNil))) Out.ct)) Out.nx) (sSeq (sSet 6 (eCall 1 d__law_long (aCons (eOp gIx (eVar 5) (eC (.int 0))) aNil))) (sSeq (sIf (tVal (eOp gEq (eVar 6) (eC (.int 0)))) (sRet (eTup (aCons (eC (.str "bad")) (aCons (eOp gAdd (eVar 4) (eC (.int 1))) (aCons (eC (.str "kind")) aNil))))) Out.nx) (sSeq (sIf (tVal (eOp gNe (eCB gLen (aCons (eVar 5) aNil)) (eVar 6))) (sRet (eTup (aCons (eC (.str "bad")) (aCons (eOp gAdd (eVar 4) (eC (.int 1))) (aCons (eC (.str "words")) aNil))))) Out.nx) (sSeq (sSet 7 (eLc (iA (eSl gSl (eVar 5) (pSo (eC (.int 1))) pNo)) (gN 8) bYes (eCall 1 d__law_number (aCons (eVar 8) aNil)) [8])) (sSeq (sIf (bAnd (tVal (eOp gEq (eOp gIx (eVar 5) (eC (.int 0))) (eC (.str "cut")))) (tVal (eOp gIn (eOp gIx (eVar 5) (eC (.int 2))) (eTup (aCons (eC (.str "-1")) (aCons (eC (.str "-2")) aNil)))))) (sSetI 7 (eCB gInt (aCons (eOp gIx (eVar 5) (eC (.int 2))) aNil)) (eC (.int 1))) Out.nx) (sSeq (sIf (tView (tVal (eOp gIn (eC .non) (eVar 7)))) (sRet (eTup (aCons (eC (.str "bad")) (aCons (eOp gAdd (eVar 4) (eC (.int 1))) (aCons (eC (.str "number")) aNil))))) Out.nx) (sDrop (eMtO 3 gAppend (aCons (eOp gAdd (eTup (aCons (eOp gIx (eVar 5) (eC (.int 0))) aNil)) (eTpO 7)) aNil))))))))))))) (sRet (eIf (tVal (eOp gNotN (eVar 2) (eC .non))) (eTup (aCons (eC (.str "told")) (aCons (eTup (aCons (eVar 2) (aCons (eCB gTuple (aCons (eVar 3) aNil)) aNil))) aNil))) (eTup (aCons (eC (.str "bad")) (aCons (eOp gAdd (eCB gLen (aCons (eVar 1) aNil)) (eC (.int 1))) (aCons (eC (.str "code")) aNil))))))))))
def d__law_read : Den := mkF 9 0 b__law_read
abbrev p__law_read (K : PySem.W.Frag) (mg : Mg) : Sp := spD K mg (List.replicate 1 .pu) .pu d__law_read
theorem ok__law_read {P : Program} {w : World} {K : PySem.W.Frag} {mg : Mg} {base : Heap} {C_BadText C_MoveError C_TextError G_AMOUNTS G_SIZES : Addr} (z : Zs mg) (x : Xs P w K mg C_BadText C_MoveError C_TextError G_AMOUNTS G_SIZES) (g__law_long : Df P w K mg base "_law_long" s__law_long ["word"] 2 (p__law_long K mg)) (g__law_number : Df P w K mg base "_law_number" s__law_number ["word"] 2 (p__law_number K mg)) {f : Addr} {fd : FuncData} (F : Fun K "_law_read" "_law_read" s__law_read f fd) : FnOk P w K mg base (L2.CX P w) 4 f fd ["text"] (p__law_read K mg) := by
  refine F.okX sc__law_read (fun vs H Q E h => spD_len h) (fun cdv A outer s H vs Q E hr h => ?_)
  exact ⟨_, (pss_cons (ps_set (i := 1) sc__law_read.nd rfl (by first | exact Or.inl rfl | exact Or.inr rfl) (pe_split (pv 0) pe_str)) (pss_cons (ps_if (pt_cmpR (opEq (Room.u64 hr)) (pe_ix (ix_any (Room.u1 hr)) (pv 1) (pe_un un_neg pe_int) (fun _ _ => rfl)) pe_str (nomark _)) (pss_one (ps_expr (pe_bm0 PySem.F.plainAttrs_list PySem.F.slot_list_pop PySem.F.type_list_pop mt_pop (pv 1)))) pss_nil) (pss_cons (ps_par (i := 2) (j := 3) rfl sc__law_read.nd rfl rfl (by decide) rfl rfl (pa_cons pe_non (pa_cons (pe_lst pa_nil) pa_nil)) (by first | rfl | with_unfolding_all rfl)) (pss_cons (ps_for (passes_of rfl) rfl (pi_range1 rfl z.z_range (pa_cons (pe_callB callLen rfl z.z_len rfl (pa_cons (pv 1) pa_nil)) pa_nil)) (pg_name (i := 4) sc__law_read.nd rfl (by first | exact Or.inl rfl | exact Or.inr rfl)) (pss_cons (ps_setLc (i := 5) (own := [("word", 8)]) rfl sc__law_read.nd rfl rfl (sw_true rfl rfl rfl (by decide +kernel)) (pi_any (pe_split (pe_ix (ix_any (Room.u1 hr)) (pv 1) (pv 4) (fun _ _ => rfl)) pe_str)) (blkOk_by (own := [("word", 8)]) (N := N__law_read) (sc := defScope s__law_read) (by decide +kernel)) (fun _ _ _ _ _ => (pg_name (i := 8) sc__law_read.nd rfl (by first | exact Or.inl rfl | exact Or.inr rfl))) (fun _ _ _ _ _ => (pts_one (pt_cmpR (opNe (Room.u64 hr)) (pv 8) pe_str (nomark _)))) (fun _ _ _ _ _ => (pv 8))) (pss_cons (ps_if (PW.pt (pw_or (pt_cmpR (opEq (Room.u64 hr)) (pe_callB callLen rfl z.z_len rfl (pa_cons (pv 5) pa_nil)) pe_int (nomark _)) (pw_or1 (pt_cmpR (opEq (Room.u64 hr)) (pe_ix (ix_any (Room.u1 hr)) (pe_ix (ix_any (Room.u1 hr)) (pv 5) pe_int (fun _ _ => rfl)) pe_int (fun _ _ => rfl)) pe_str (nomark _))))) (pss_one ps_continue) pss_nil) (pss_cons (ps_if (pt_cmpR opIsN (pv 2) pe_non (nomark _)) (pss_cons (ps_if (PW.pt (pw_or (pt_cmpR (opNe (Room.u64 hr)) (pe_callB callLen rfl z.z_len rfl (pa_cons (pv 5) pa_nil)) pe_int (nomark _)) (pw_or (pt_cmpR (opNe (Room.u64 hr)) (pe_ix (ix_any (Room.u1 hr)) (pv 5) pe_int (fun _ _ => rfl)) pe_str (nomark _)) (pw_or1 (pt_cmpR opIsN (pe_df g__law_number (hr.mono (by decide)) rfl (takes_of rfl rfl rfl rfl) (pa_cons (pe_ix (ix_any (Room.u1 hr)) (pv 5) pe_int (fun _ _ => rfl)) pa_nil)) pe_non (nomark _)))))) (pss_one (ps_ret (pe_tup (pa_cons pe_str (pa_cons (pe_op opAdd (pv 4) pe_int) (pa_cons pe_str pa_nil)))))) pss_nil) (pss_cons (ps_set (i := 2) sc__law_read.nd rfl (by first | exact Or.inl rfl | exact Or.inr rfl) (pe_df g__law_number (hr.mono (by decide)) rfl (takes_of rfl rfl rfl rfl) (pa_cons (pe_ix (ix_any (Room.u1 hr)) (pv 5) pe_int (fun _ _ => rfl)) pa_nil))) (pss_one ps_continue))) pss_nil) (pss_cons (ps_set (i := 6) sc__law_read.nd rfl (by first | exact Or.inl rfl | exact Or.inr rfl) (pe_df g__law_long (hr.mono (by decide)) rfl (takes_of rfl rfl rfl rfl) (pa_cons (pe_ix (ix_any (Room.u1 hr)) (pv 5) pe_int (fun _ _ => rfl)) pa_nil))) (pss_cons (ps_if (pt_cmpR (opEq (Room.u64 hr)) (pv 6) pe_int (nomark _)) (pss_one (ps_ret (pe_tup (pa_cons pe_str (pa_cons (pe_op opAdd (pv 4) pe_int) (pa_cons pe_str pa_nil)))))) pss_nil) (pss_cons (ps_if (pt_cmpR (opNe (Room.u64 hr)) (pe_callB callLen rfl z.z_len rfl (pa_cons (pv 5) pa_nil)) (pv 6) (nomark _)) (pss_one (ps_ret (pe_tup (pa_cons pe_str (pa_cons (pe_op opAdd (pv 4) pe_int) (pa_cons pe_str pa_nil)))))) pss_nil) (pss_cons (ps_setLc (i := 7) (own := [("word", 8)]) rfl sc__law_read.nd rfl rfl (sw_true rfl rfl rfl (by decide +kernel)) (pi_any (pe_slice slAny (pv 5) (po_some pe_int) po_none)) (blkOk_by (own := [("word", 8)]) (N := N__law_read) (sc := defScope s__law_read) (by decide +kernel)) (fun _ _ _ _ _ => (pg_name (i := 8) sc__law_read.nd rfl (by first | exact Or.inl rfl | exact Or.inr rfl))) (fun _ _ _ _ _ => pts_nil) (fun _ _ _ _ _ => (pe_df g__law_number (hr.mono (by decide)) rfl takes0 (pa_cons (pv 8) pa_nil)))) (pss_cons (ps_if (PW.pt (pw_and (pt_cmpR (opEq (Room.u64 hr)) (pe_ix (ix_any (Room.u1 hr)) (pv 5) pe_int (fun _ _ => rfl)) pe_str (nomark _)) (pw_and1 (pt_cmpR (opIn (Room.u65 hr)) (pe_ix (ix_any (Room.u1 hr)) (pv 5) pe_int (fun _ _ => rfl)) (pe_tup (pa_cons pe_str (pa_cons pe_str pa_nil))) (by with_unfolding_all rfl))))) (pss_one (ps_asg (pe_callTy callInt rfl z.z_int rfl (pa_cons (pe_ix (ix_any (Room.u1 hr)) (pv 5) pe_int (fun _ _ => rfl)) pa_nil)) (pg_sub (pv 7) pe_int (setAny (Room.u1 hr))))) pss_nil) (pss_cons (ps_if (pt_cmpR (opIn (Room.u65 hr)) pe_non (pv 7) (by with_unfolding_all rfl)) (pss_one (ps_ret (pe_tup (pa_cons pe_str (pa_cons (pe_op opAdd (pv 4) pe_int) (pa_cons pe_str pa_nil)))))) pss_nil) (pss_one (ps_expr (pe_bm PySem.F.plainAttrs_list PySem.F.slot_list_append PySem.F.type_list_append mt_append (pv 3) (pa_cons (pe_op opAdd (pe_tup (pa_cons (pe_ix (ix_any (Room.u1 hr)) (pv 5) pe_int (fun _ _ => rfl)) pa_nil)) (pe_callTy callTuple rfl z.z_tuple rfl (pa_cons (pv 7) pa_nil))) pa_nil)))))))))))))) (pss_one (ps_ret (pe_ifExp (pt_cmpR opNotN (pv 2) pe_non (nomark _)) (pe_tup (pa_cons pe_str (pa_cons (pe_tup (pa_cons (pv 2) (pa_cons (pe_callTy callTuple rfl z.z_tuple rfl (pa_cons (pv 3) pa_nil)) pa_nil))) pa_nil))) (pe_tup (pa_cons pe_str (pa_cons (pe_op opAdd (pe_callB callLen rfl z.z_len rfl (pa_cons (pv 1) pa_nil)) pe_int) (pa_cons pe_str pa_nil))))))))))),
    fn_body (N := N__law_read) (k := 0) (Γp := (List.replicate 1 .pu)) (sr := .pu) (fb := b__law_read) (Γi := [.ls, .pu, .ls, .pu, .pu, .pu, .ls, .pu]) (Γ' := [.pu, .pu, .pu, .pu, .pu, .pu, .pu, .ls, .pu]) (by decide) rfl (.inl rfl) ⟨rfl, rfl⟩ (sok_seq (sok_setK ⟨rfl, rfl⟩ (np rfl) rfl (eok_m1 m1_split (eok_var rfl) eok_str)) (sok_seq (sok_if ⟨rfl, rfl⟩ (tok_test (eok_op r2_eq (eok_ixO rfl (eok_un u1_neg eok_int)) eok_str)) (sok_drop ⟨rfl, rfl⟩ (eok_mt0 mok_pop rfl)) sok_next) (sok_seq (sok_parS ⟨rfl, rfl⟩ (np rfl) (np rfl) (aoks_pu eok_non (aoks_ls (eok_lst aok_nil) aoks_nil))) (sok_frz (i := 1) rfl (sok_seq (sok_for ⟨rfl, rfl⟩ (np2 rfl) (iok_range1 (aok_cons (eok_cb c1_len (aok_cons (eok_var rfl) aok_nil)) aok_nil)) (gok_nameK (i := 4) rfl) (sok_seq (sok_setK ⟨rfl, rfl⟩ (np rfl) rfl (eok_frz (eok_lc (vs := [8]) (by decide) (iok_any (eok_frz (eok_m1 m1_split (eok_op r2_ix (eok_var rfl) (eok_var rfl)) eok_str))) (gok_nameK (i := 8) rfl) (tok_test (eok_op r2_ne (eok_var rfl) eok_str)) (eok_var rfl)))) (sok_seq (sok_if ⟨rfl, rfl⟩ (tok_or (tok_test (eok_op r2_eq (eok_cb c1_len (aok_cons (eok_var rfl) aok_nil)) eok_int)) (tok_test (eok_op r2_eq (eok_op r2_ix (eok_op r2_ix (eok_var rfl) eok_int) eok_int) eok_str))) (sok_cont rfl) sok_next) (sok_seq (sok_if ⟨rfl, rfl⟩ (tok_test (eok_op r2_isN (eok_var rfl) eok_non)) (sok_seq (sok_if ⟨rfl, rfl⟩ (tok_or (tok_test (eok_op r2_ne (eok_cb c1_len (aok_cons (eok_var rfl) aok_nil)) eok_int)) (tok_or (tok_test (eok_op r2_ne (eok_op r2_ix (eok_var rfl) eok_int) eok_str)) (tok_test (eok_op r2_isN (eok_call (aok_cons (eok_op r2_ix (eok_var rfl) eok_int) aok_nil)) eok_non)))) (sok_ret ⟨rfl, rfl⟩ (eok_tup (aok_cons eok_str (aok_cons (eok_op r2_add (eok_var rfl) eok_int) (aok_cons eok_str aok_nil))))) sok_next) (sok_seq (sok_setK ⟨rfl, rfl⟩ (np rfl) rfl (eok_call (aok_cons (eok_op r2_ix (eok_var rfl) eok_int) aok_nil))) (sok_cont rfl))) sok_next) (sok_seq (sok_setK ⟨rfl, rfl⟩ (np rfl) rfl (eok_call (aok_cons (eok_op r2_ix (eok_var rfl) eok_int) aok_nil))) (sok_seq (sok_if ⟨rfl, rfl⟩ (tok_test (eok_op r2_eq (eok_var rfl) eok_int)) (sok_ret ⟨rfl, rfl⟩ (eok_tup (aok_cons eok_str (aok_cons (eok_op r2_add (eok_var rfl) eok_int) (aok_cons eok_str aok_nil))))) sok_next) (sok_seq (sok_if ⟨rfl, rfl⟩ (tok_test (eok_op r2_ne (eok_cb c1_len (aok_cons (eok_var rfl) aok_nil)) (eok_var rfl))) (sok_ret ⟨rfl, rfl⟩ (eok_tup (aok_cons eok_str (aok_cons (eok_op r2_add (eok_var rfl) eok_int) (aok_cons eok_str aok_nil))))) sok_next) (sok_seq (sok_setK ⟨rfl, rfl⟩ (np rfl) rfl (eok_lc (vs := [8]) (by decide) (iok_any (eok_sl slok_any (eok_var rfl) (pok_so eok_int) pok_no)) (gok_nameK (i := 8) rfl) tok_yes (eok_call (aok_cons (eok_var rfl) aok_nil)))) (sok_seq (sok_if ⟨rfl, rfl⟩ (tok_and (tok_test (eok_op r2_eq (eok_op r2_ix (eok_var rfl) eok_int) eok_str)) (tok_test (eok_op r2_in (eok_op r2_ix (eok_var rfl) eok_int) (eok_tup (aok_cons eok_str (aok_cons eok_str aok_nil)))))) (sok_seti ⟨rfl, rfl⟩ rfl (eok_cb c1_int (aok_cons (eok_op r2_ix (eok_var rfl) eok_int) aok_nil)) eok_int) sok_next) (sok_seq (sok_if ⟨rfl, rfl⟩ (tok_view (tok_test (eok_op r2_in eok_non (eok_var rfl)))) (sok_ret ⟨rfl, rfl⟩ (eok_tup (aok_cons eok_str (aok_cons (eok_op r2_add (eok_var rfl) eok_int) (aok_cons eok_str aok_nil))))) sok_next) (sok_drop ⟨rfl, rfl⟩ (eok_mt mok_append rfl (aok_cons (eok_op r2_add (eok_tup (aok_cons (eok_op r2_ix (eok_var rfl) eok_int) aok_nil)) (eok_tupleO rfl)) aok_nil))))))))))))) (sok_frz (i := 3) rfl (sok_ret ⟨rfl, rfl⟩ (eok_if (tok_test (eok_op r2_notN (eok_var rfl) eok_non)) (eok_tup (aok_cons eok_str (aok_cons (eok_tup (aok_cons (eok_var rfl) (aok_cons (eok_cb c1_tuple (aok_cons (eok_var rfl) aok_nil)) aok_nil))) aok_nil))) (eok_tup (aok_cons eok_str (aok_cons (eok_op r2_add (eok_cb c1_len (aok_cons (eok_var rfl) aok_nil)) eok_int) (aok_cons eok_str aok_nil)))))))))))) h⟩
abbrev s__law_heard : Stmt := top 30
abbrev N__law_heard : List Str := ["text", "why"]
theorem sc__law_heard : FnScope N__law_heard ["text"] (defScope s__law_heard) := ⟨rfl, rfl, rfl, by decide +kernel, rfl, by decide +kernel, by decide +kernel⟩
def b__law_heard : DL.Env → Out := (sTryAs 1 [(5, true)] (sRet (eTup (aCons (eC (.str "told")) (aCons (eCall 1 d_read_code (aCons (eVar 0) aNil)) aNil)))) (fun e => (sRet (eIf (bAnd (tVal (eIsX e [(5, true)])) (tVal (eIsX e [(5, true)]))) (eTup (aCons (eC (.str "bad")) (aCons (eWhy e 5 "line") (aCons (eWhy e 5 "word") aNil)))) (eTup (aCons (eC (.str "other")) aNil))))))
def d__law_heard : Den := mkF 2 0 b__law_heard
abbrev p__law_heard (K : PySem.W.Frag) (mg : Mg) : Sp := spD K mg (List.replicate 1 .pu) .pu d__law_heard
theorem ok__law_heard {P : Program} {w : World} {K : PySem.W.Frag} {mg : Mg} {base : Heap} {C_BadText C_MoveError C_TextError G_AMOUNTS G_SIZES : Addr} (z : Zs mg) (x : Xs P w K mg C_BadText C_MoveError C_TextError G_AMOUNTS G_SIZES) (g_read_code : Df P w K mg base "read_code" s_read_code ["text"] 8 (p_read_code K mg)) {f : Addr} {fd : FuncData} (F : Fun K "_law_heard" "_law_heard" s__law_heard f fd) : FnOk P w K mg base (L2.CX P w) 10 f fd ["text"] (p__law_heard K mg) := by
  refine F.okX sc__law_heard (fun vs H Q E h => spD_len h) (fun cdv A outer s H vs Q E hr h => ?_)
  exact ⟨_, (pss_one (ps_tryA (i := 1) rfl rfl sc__law_heard.nd rfl rfl ⟨rfl, by decide, Or.inl x.g_BadText⟩ (takes_of rfl rfl rfl rfl) (fun W pn xe tk hp => (pss_one (ps_ret (pe_tup (pa_cons pe_str (pa_cons (pe_df g_read_code (hr.mono (by decide)) rfl tk (pa_cons (pv 0) pa_nil)) pa_nil)))))) (fun a oe cls d pn hz hf => (pss_one (ps_ret (pe_ifExp (PW.pt (pw_and (pt_val (pe_callB (call_isX hz hf) rfl z.z_isinstance rfl (pa_cons (pv 1) (pa_cons (pe_glob (v := .ref C_TextError) rfl x.g_TextError rfl) pa_nil)))) (pw_and1 (pt_val (pe_callB (call_isX hz hf) rfl z.z_isinstance rfl (pa_cons (pv 1) (pa_cons (pe_glob (v := .ref C_MoveError) rfl x.g_MoveError rfl) pa_nil))))))) (pe_tup (pa_cons pe_str (pa_cons (pe_byEx x.t_BadText (by decide) hz hf (pv 1)) (pa_cons (pe_byEx x.t_BadText (by decide) hz hf (pv 1)) pa_nil)))) (pe_tup (pa_cons pe_str pa_nil)))))))),
    fn_body (N := N__law_heard) (k := 0) (Γp := (List.replicate 1 .pu)) (sr := .pu) (fb := b__law_heard) (Γi := [.pu]) (Γ' := [.pu, .pu]) (by decide) rfl (.inl rfl) ⟨rfl, rfl⟩ (sok_tryA (C := (cfF E (List.replicate 1 .pu) .pu 2 0)) (i := 1) (cs := [(5, true)]) (by exact ⟨rfl, rfl⟩) (np rfl) rfl ⟨⟨_, x.t_BadText.gC, x.m_BadText_BadText⟩, trivial⟩ (fun W' => (sok_ret rfl (eok_tup (aok_cons eok_str (aok_cons (eok_call (aok_cons (eok_var rfl) aok_nil)) aok_nil))))) (fun a e cls p l hx => (sok_ret (by exact ⟨rfl, rfl⟩) (eok_if (tok_and (tok_b (eok_isx x.i_BadText_TextError hx)) (tok_b (eok_isx x.i_BadText_MoveError hx))) (eok_tup (aok_cons eok_str (aok_cons (eok_why x.t_BadText.gC hx) (aok_cons (eok_why x.t_BadText.gC hx) aok_nil)))) (eok_tup (aok_cons eok_str aok_nil)))))) h⟩
abbrev s__law_code : Stmt := top 31
abbrev N__law_code : List Str := ["reel", "rows", "lap", "word", "numbers", "more"]
theorem sc__law_code : FnScope N__law_code ["reel"] (defScope s__law_code) := ⟨rfl, rfl, rfl, by decide +kernel, rfl, by decide +kernel, by decide +kernel⟩
def b__law_code : DL.Env → Out := (sSeq (sSet 1 (eLst aNil)) (sSeq (sFor (iR1 (aCons (eCallO 0 1 d__law_spin (aCons (eC (.int 7)) aNil)) aNil)) (gN 2) (sSeq (sSet 3 (eOp gIx (eTup (aCons (eC (.str "turn")) (aCons (eC (.str "cut")) (aCons (eC (.str "put")) (aCons (eC (.str "copy")) (aCons (eC (.str "keep")) (aCons (eC (.str "empty")) (aCons (eC (.str "swap")) (aCons (eC (.str "set")) (aCons (eC (.str "less")) aNil)))))))))) (eCallO 0 1 d__law_spin (aCons (eC (.int 9)) aNil)))) (sSeq (sSet 4 (eLc (iR1 (aCons (eOp (gI0 fun i j => i - j) (eCall 1 d__law_long (aCons (eVar 3) aNil)) (eC (.int 1))) aNil)) (gN 5) bYes (eOp gIx (eTup (aCons (eC (.int 0)) (aCons (eC (.int 1)) (aCons (eC (.int 2)) (aCons (eC (.int 9)) (aCons (eC (.int 99)) (aCons (eC (.int 400)) (aCons (eC (.int 999999999)) aNil)))))))) (eCallO 0 1 d__law_spin (aCons (eC (.int 7)) aNil))) [5])) (sSeq (sIf (tVal (eOp gEq (eVar 3) (eC (.str "cut")))) (sSetI 4 (eOp gIx (eTup (aCons (eUn gNeg (eC (.int 1))) (aCons (eUn gNeg (eC (.int 2))) (aCons (eC (.int 0)) (aCons (eC (.int 9)) (aCons (eC (.int 12)) aNil)))))) (eCallO 0 1 d__law_spin (aCons (eC (.int 5)) aNil))) (eC (.int 1))) Out.nx) (sDrop (eMtO 1 gAppend (aCons (eOp gAdd (eTup (aCons (eVar 3) aNil)) (eTpO 4)) aNil))))))) (sRet (eTup (aCons (eOp gIx (eTup (aCons (eC (.int 1)) (aCons (eC (.int 4)) (aCons (eC (.int 0)) (aCons (eC (.int 7)) (aCons (eC (.int 123456789)) aNil)))))) (eCallO 0 1 d__law_spin (aCons (eC (.int 5)) aNil))) (aCons (eCB gTuple (aCons (eVar 1) aNil)) aNil))))))
def d__law_code : Den := mkF 6 1 b__law_code
abbrev p__law_code (K : PySem.W.Frag) (mg : Mg) : Sp := spD K mg (.ls :: List.replicate 0 .pu) .pu d__law_code
theorem ok__law_code {P : Program} {w : World} {K : PySem.W.Frag} {mg : Mg} {base : Heap} {C_BadText C_MoveError C_TextError G_AMOUNTS G_SIZES : Addr} (z : Zs mg) (x : Xs P w K mg C_BadText C_MoveError C_TextError G_AMOUNTS G_SIZES) (g__law_spin : Df P w K mg base "_law_spin" s__law_spin ["reel", "many"] 2 (p__law_spin K mg)) (g__law_long : Df P w K mg base "_law_long" s__law_long ["word"] 2 (p__law_long K mg)) {f : Addr} {fd : FuncData} (F : Fun K "_law_code" "_law_code" s__law_code f fd) : FnOk P w K mg base (L2.CX P w) 4 f fd ["reel"] (p__law_code K mg) := by
  refine F.okX sc__law_code (fun vs H Q E h => spD_len h) (fun cdv A outer s H vs Q E hr h => ?_)
  exact ⟨_, (pss_cons (ps_set (i := 1) sc__law_code.nd rfl (by first | exact Or.inl rfl | exact Or.inr rfl) (pe_lst pa_nil)) (pss_cons (ps_for (passes_of rfl) rfl (pi_range1 rfl z.z_range (pa_cons (pe_df g__law_spin (hr.mono (by decide)) rfl (takes_of rfl rfl rfl rfl) (pa_cons (pv 0) (pa_cons pe_int pa_nil))) pa_nil)) (pg_name (i := 2) sc__law_code.nd rfl (by first | exact Or.inl rfl | exact Or.inr rfl)) (pss_cons (ps_set (i := 3) sc__law_code.nd rfl (by first | exact Or.inl rfl | exact Or.inr rfl) (pe_ix (ix_any (Room.u1 hr)) (pe_tup (pa_cons pe_str (pa_cons pe_str (pa_cons pe_str (pa_cons pe_str (pa_cons pe_str (pa_cons pe_str (pa_cons pe_str (pa_cons pe_str (pa_cons pe_str pa_nil)))))))))) (pe_df g__law_spin (hr.mono (by decide)) rfl (takes_of rfl rfl rfl rfl) (pa_cons (pv 0) (pa_cons pe_int pa_nil))) (fun _ _ => rfl))) (pss_cons (ps_setLc (i := 4) (own := [("more", 5)]) rfl sc__law_code.nd rfl rfl (sw_true rfl rfl rfl (by decide +kernel)) (pi_range1 rfl z.z_range (pa_cons (pe_op op_sub (pe_df g__law_long (hr.mono (by decide)) rfl (takes_of rfl rfl rfl rfl) (pa_cons (pv 3) pa_nil)) pe_int) pa_nil)) (blkOk_by (own := [("more", 5)]) (N := N__law_code) (sc := defScope s__law_code) (by decide +kernel)) (fun _ _ _ _ _ => (pg_name (i := 5) sc__law_code.nd rfl (by first | exact Or.inl rfl | exact Or.inr rfl))) (fun _ _ _ _ _ => pts_nil) (fun _ _ _ _ _ => (pe_ix (ix_any (Room.u1 hr)) (pe_tup (pa_cons pe_int (pa_cons pe_int (pa_cons pe_int (pa_cons pe_int (pa_cons pe_int (pa_cons pe_int (pa_cons pe_int pa_nil)))))))) (pe_df g__law_spin (hr.mono (by decide)) rfl takes0 (pa_cons (pv 0) (pa_cons pe_int pa_nil))) (fun _ _ => rfl)))) (pss_cons (ps_if (pt_cmpR (opEq (Room.u64 hr)) (pv 3) pe_str (nomark _)) (pss_one (ps_asg (pe_ix (ix_any (Room.u1 hr)) (pe_tup (pa_cons (pe_un un_neg pe_int) (pa_cons (pe_un un_neg pe_int) (pa_cons pe_int (pa_cons pe_int (pa_cons pe_int pa_nil)))))) (pe_df g__law_spin (hr.mono (by decide)) rfl (takes_of rfl rfl rfl rfl) (pa_cons (pv 0) (pa_cons pe_int pa_nil))) (fun _ _ => rfl)) (pg_sub (pv 4) pe_int (setAny (Room.u1 hr))))) pss_nil) (pss_one (ps_expr (pe_bm PySem.F.plainAttrs_list PySem.F.slot_list_append PySem.F.type_list_append mt_append (pv 1) (pa_cons (pe_op opAdd (pe_tup (pa_cons (pv 3) pa_nil)) (pe_callTy callTuple rfl z.z_tuple rfl (pa_cons (pv 4) pa_nil))) pa_nil)))))))) (pss_one (ps_ret (pe_tup (pa_cons (pe_ix (ix_any (Room.u1 hr)) (pe_tup (pa_cons pe_int (pa_cons pe_int (pa_cons pe_int (pa_cons pe_int (pa_cons pe_int pa_nil)))))) (pe_df g__law_spin (hr.mono (by decide)) rfl (takes_of rfl rfl rfl rfl) (pa_cons (pv 0) (pa_cons pe_int pa_nil))) (fun _ _ => rfl)) (pa_cons (pe_callTy callTuple rfl z.z_tuple rfl (pa_cons (pv 1) pa_nil)) pa_nil))))))),
    fn_body (N := N__law_code) (k := 1) (Γp := (.ls :: List.replicate 0 .pu)) (sr := .pu) (fb := b__law_code) (Γi := [.ls, .pu, .pu, .ls, .pu]) (Γ' := [.ls, .pu, .pu, .pu, .ls, .pu]) (by decide) rfl (.inl rfl) ⟨rfl, rfl⟩ (sok_seq (sok_setK ⟨rfl, rfl⟩ (np rfl) rfl (eok_lst aok_nil)) (sok_seq (sok_for ⟨rfl, rfl⟩ (np2 rfl) (iok_range1 (aok_cons (eok_callO rfl (aok_cons eok_int aok_nil)) aok_nil)) (gok_nameK (i := 2) rfl) (sok_seq (sok_setK ⟨rfl, rfl⟩ (np rfl) rfl (eok_op r2_ix (eok_tup (aok_cons eok_str (aok_cons eok_str (aok_cons eok_str (aok_cons eok_str (aok_cons eok_str (aok_cons eok_str (aok_cons eok_str (aok_cons eok_str (aok_cons eok_str aok_nil)))))))))) (eok_callO rfl (aok_cons eok_int aok_nil)))) (sok_seq (sok_setK ⟨rfl, rfl⟩ (np rfl) rfl (eok_lc (vs := [5]) (by decide) (iok_range1 (aok_cons (eok_op r2_i0 (eok_call (aok_cons (eok_var rfl) aok_nil)) eok_int) aok_nil)) (gok_nameK (i := 5) rfl) tok_yes (eok_op r2_ix (eok_tup (aok_cons eok_int (aok_cons eok_int (aok_cons eok_int (aok_cons eok_int (aok_cons eok_int (aok_cons eok_int (aok_cons eok_int aok_nil)))))))) (eok_callO rfl (aok_cons eok_int aok_nil))))) (sok_seq (sok_if ⟨rfl, rfl⟩ (tok_test (eok_op r2_eq (eok_var rfl) eok_str)) (sok_seti ⟨rfl, rfl⟩ rfl (eok_op r2_ix (eok_tup (aok_cons (eok_un u1_neg eok_int) (aok_cons (eok_un u1_neg eok_int) (aok_cons eok_int (aok_cons eok_int (aok_cons eok_int aok_nil)))))) (eok_callO rfl (aok_cons eok_int aok_nil))) eok_int) sok_next) (sok_drop ⟨rfl, rfl⟩ (eok_mt mok_append rfl (aok_cons (eok_op r2_add (eok_tup (aok_cons (eok_var rfl) aok_nil)) (eok_tupleO rfl)) aok_nil))))))) (sok_frz (i := 1) rfl (sok_ret ⟨rfl, rfl⟩ (eok_tup (aok_cons (eok_op r2_ix (eok_tup (aok_cons eok_int (aok_cons eok_int (aok_cons eok_int (aok_cons eok_int (aok_cons eok_int aok_nil)))))) (eok_callO rfl (aok_cons eok_int aok_nil))) (aok_cons (eok_cb c1_tuple (aok_cons (eok_var rfl) aok_nil)) aok_nil))))))) h⟩
abbrev s__law_lines : Stmt := top 32
abbrev N__law_lines : List Str := ["code", "row", "number"]
theorem sc__law_lines : FnScope N__law_lines ["code"] (defScope s__law_lines) := ⟨rfl, rfl, rfl, by decide +kernel, rfl, by decide +kernel, by decide +kernel⟩
def b__law_lines : DL.Env → Out := (sRet (eOp gAdd (eLst (aCons (eLst (aCons (eC (.str "code")) (aCons (eCB gStr (aCons (eOp gIx (eVar 0) (eC (.int 0))) aNil)) aNil))) aNil)) (eLc (iA (eOp gIx (eVar 0) (eC (.int 1)))) (gN 1) bYes (eOp gAdd (eLst (aCons (eOp gIx (eVar 1) (eC (.int 0))) aNil)) (eLc (iA (eSl gSl (eVar 1) (pSo (eC (.int 1))) pNo)) (gN 2) bYes (eCB gStr (aCons (eVar 2) aNil)) [2])) [1])))
def d__law_lines : Den := mkF 3 0 b__law_lines
abbrev p__law_lines (K : PySem.W.Frag) (mg : Mg) : Sp := spD K mg (List.replicate 1 .pu) .pu d__law_lines
theorem ok__law_lines {P : Program} {w : World} {K : PySem.W.Frag} {mg : Mg} {base : Heap} {C_BadText C_MoveError C_TextError G_AMOUNTS G_SIZES : Addr} (z : Zs mg) (x : Xs P w K mg C_BadText C_MoveError C_TextError G_AMOUNTS G_SIZES) {f : Addr} {fd : FuncData} (F : Fun K "_law_lines" "_law_lines" s__law_lines f fd) : FnOk P w K mg base (L2.CX P w) 2 f fd ["code"] (p__law_lines K mg) := by
  refine F.okX sc__law_lines (fun vs H Q E h => spD_len h) (fun cdv A outer s H vs Q E hr h => ?_)
  exact ⟨_, (pss_one (ps_ret (pe_op opAdd (pe_lst (pa_cons (pe_lst (pa_cons pe_str (pa_cons (pe_callTy callStr rfl z.z_str rfl (pa_cons (pe_ix (ix_any (Room.u1 hr)) (pv 0) pe_int (fun _ _ => rfl)) pa_nil)) pa_nil))) pa_nil)) (pe_lc (own := [("row", 1)]) rfl sc__law_lines.nd (pi_any (pe_ix (ix_any (Room.u1 hr)) (pv 0) pe_int (fun _ _ => rfl))) (blkOk_by (own := [("row", 1)]) (N := N__law_lines) (sc := defScope s__law_lines) (by decide +kernel)) (fun _ _ _ _ _ => (pg_name (i := 1) sc__law_lines.nd rfl (by first | exact Or.inl rfl | exact Or.inr rfl))) (fun _ _ _ _ _ => pts_nil) (fun _ _ _ _ _ => (pe_op opAdd (pe_lst (pa_cons (pe_ix (ix_any (Room.u1 hr)) (pv 1) pe_int (fun _ _ => rfl)) pa_nil)) (pe_lc (own := [("number", 2)]) rfl sc__law_lines.nd (pi_any (pe_slice slAny (pv 1) (po_some pe_int) po_none)) (blkOk_by (own := [("number", 2)]) rfl) (fun _ _ _ _ _ => (pg_name (i := 2) sc__law_lines.nd rfl (by first | exact Or.inl rfl | exact Or.inr rfl))) (fun _ _ _ _ _ => pts_nil) (fun _ _ _ _ _ => (pe_callTy callStr rfl z.z_str rfl (pa_cons (pv 2) pa_nil)))))))))),
    fn_body (N := N__law_lines) (k := 0) (Γp := (List.replicate 1 .pu)) (sr := .pu) (fb := b__law_lines) (Γi := [.pu, .pu]) (Γ' := [.pu, .pu, .pu]) (by decide) rfl (.inl rfl) ⟨rfl, rfl⟩ (sok_ret ⟨rfl, rfl⟩ (eok_op r2_add (eok_frz (eok_lst (aok_cons (eok_frz (eok_lst (aok_cons eok_str (aok_cons (eok_cb c1_str (aok_cons (eok_op r2_ix (eok_var rfl) eok_int) aok_nil)) aok_nil)))) aok_nil))) (eok_frz (eok_lc (vs := [1]) (by decide) (iok_any (eok_op r2_ix (eok_var rfl) eok_int)) (gok_nameK (i := 1) rfl) tok_yes (eok_op r2_add (eok_frz (eok_lst (aok_cons (eok_op r2_ix (eok_var rfl) eok_int) aok_nil))) (eok_frz (eok_lc (vs := [2]) (by decide) (iok_any (eok_sl slok_any (eok_var rfl) (pok_so eok_int) pok_no)) (gok_nameK (i := 2) rfl) tok_yes (eok_cb c1_str (aok_cons (eok_var rfl) aok_nil))))))))) h⟩
abbrev s__law_loose : Stmt := top 33
abbrev N__law_loose : List Str := ["reel", "lines", "text", "words"]
theorem sc__law_loose : FnScope N__law_loose ["reel", "lines"] (defScope s__law_loose) := ⟨rfl, rfl, rfl, by decide +kernel, rfl, by decide +kernel, by decide +kernel⟩
def b__law_loose : DL.Env → Out := (sSeq (sSet 2 (eC (.str ""))) (sSeq (sFor (iA (eVar 1)) (gN 3) (sSeq (sIf (tVal (eOp gEq (eCallO 0 1 d__law_spin (aCons (eC (.int 4)) aNil)) (eC (.int 0)))) (sSet 2 (eOp gAdd (eVar 2) (eOp gIx (eTup (aCons (eC (.str "\n")) (aCons (eC (.str "   \n")) (aCons (eC (.str "# code 2\n")) (aCons (eC (.str "#turn\n")) (aCons (eC (.str "  #\n")) aNil)))))) (eCallO 0 1 d__law_spin (aCons (eC (.int 5)) aNil))))) Out.nx) (sSet 2 (eOp gAdd (eOp gAdd (eOp gAdd (eOp gAdd (eVar 2) (eOp gMul (eC (.str " ")) (eCallO 0 1 d__law_spin (aCons (eC (.int 2)) aNil)))) (eM1 gJoin (eOp gIx (eTup (aCons (eC (.str " ")) (aCons (eC (.str "  ")) aNil))) (eCallO 0 1 d__law_spin (aCons (eC (.int 2)) aNil))) (eVar 3))) (eOp gMul (eC (.str " ")) (eCallO 0 1 d__law_spin (aCons (eC (.int 2)) aNil)))) (eC (.str "\n")))))) (sRet (eOp gIx (eTup (aCons (eVar 2) (aCons (eSl gSl (eVar 2) pNo (pSo (eUn gNeg (eC (.int 1))))) (aCons (eOp gAdd (eVar 2) (eC (.str "\n"))) (aCons (eOp gAdd (eVar 2) (eC (.str "#"))) aNil))))) (eCallO 0 1 d__law_spin (aCons (eC (.int 4)) aNil))))))
def d__law_loose : Den := mkF 4 1 b__law_loose
abbrev p__law_loose (K : PySem.W.Frag) (mg : Mg) : Sp := spD K mg (.ls :: List.replicate 1 .pu) .pu d__law_loose
theorem ok__law_loose {P : Program} {w : World} {K : PySem.W.Frag} {mg : Mg} {base : Heap} {C_BadText C_MoveError C_TextError G_AMOUNTS G_SIZES : Addr} (z : Zs mg) (x : Xs P w K mg C_BadText C_MoveError C_TextError G_AMOUNTS G_SIZES) (g__law_spin : Df P w K mg base "_law_spin" s__law_spin ["reel", "many"] 2 (p__law_spin K mg)) {f : Addr} {fd : FuncData} (F : Fun K "_law_loose" "_law_loose" s__law_loose f fd) : FnOk P w K mg base (L2.CX P w) 4 f fd ["reel", "lines"] (p__law_loose K mg) := by
  refine F.okX sc__law_loose (fun vs H Q E h => spD_len h) (fun cdv A outer s H vs Q E hr h => ?_)
  exact ⟨_, (pss_cons (ps_set (i := 2) sc__law_loose.nd rfl (by first | exact Or.inl rfl | exact Or.inr rfl) pe_str) (pss_cons (ps_for (passes_of rfl) rfl (pi_any (pv 1)) (pg_name (i := 3) sc__law_loose.nd rfl (by first | exact Or.inl rfl | exact Or.inr rfl)) (pss_cons (ps_if (pt_cmpR (opEq (Room.u64 hr)) (pe_df g__law_spin (hr.mono (by decide)) rfl (takes_of rfl rfl rfl rfl) (pa_cons (pv 0) (pa_cons pe_int pa_nil))) pe_int (nomark _)) (pss_one (ps_set (i := 2) sc__law_loose.nd rfl (by first | exact Or.inl rfl | exact Or.inr rfl) (pe_op opAdd (pv 2) (pe_ix (ix_any (Room.u1 hr)) (pe_tup (pa_cons pe_str (pa_cons pe_str (pa_cons pe_str (pa_cons pe_str (pa_cons pe_str pa_nil)))))) (pe_df g__law_spin (hr.mono (by decide)) rfl (takes_of rfl rfl rfl rfl) (pa_cons (pv 0) (pa_cons pe_int pa_nil))) (fun _ _ => rfl))))) pss_nil) (pss_one (ps_set (i := 2) sc__law_loose.nd rfl (by first | exact Or.inl rfl | exact Or.inr rfl) (pe_op opAdd (pe_op opAdd (pe_op opAdd (pe_op opAdd (pv 2) (pe_op opMul pe_str (pe_df g__law_spin (hr.mono (by decide)) rfl (takes_of rfl rfl rfl rfl) (pa_cons (pv 0) (pa_cons pe_int pa_nil))))) (pe_join (pe_ix (ix_any (Room.u1 hr)) (pe_tup (pa_cons pe_str (pa_cons pe_str pa_nil))) (pe_df g__law_spin (hr.mono (by decide)) rfl (takes_of rfl rfl rfl rfl) (pa_cons (pv 0) (pa_cons pe_int pa_nil))) (fun _ _ => rfl)) (pv 3))) (pe_op opMul pe_str (pe_df g__law_spin (hr.mono (by decide)) rfl (takes_of rfl rfl rfl rfl) (pa_cons (pv 0) (pa_cons pe_int pa_nil))))) pe_str))))) (pss_one (ps_ret (pe_ix (ix_any (Room.u1 hr)) (pe_tup (pa_cons (pv 2) (pa_cons (pe_slice slAny (pv 2) po_none (po_some (pe_un un_neg pe_int))) (pa_cons (pe_op opAdd (pv 2) pe_str) (pa_cons (pe_op opAdd (pv 2) pe_str) pa_nil))))) (pe_df g__law_spin (hr.mono (by decide)) rfl (takes_of rfl rfl rfl rfl) (pa_cons (pv 0) (pa_cons pe_int pa_nil))) (fun _ _ => rfl)))))),
    fn_body (N := N__law_loose) (k := 1) (Γp := (.ls :: List.replicate 1 .pu)) (sr := .pu) (fb := b__law_loose) (Γi := [.pu, .pu]) (Γ' := [.ls, .pu, .pu, .pu]) (by decide) rfl (.inl rfl) ⟨rfl, rfl⟩ (sok_seq (sok_setK ⟨rfl, rfl⟩ (np rfl) rfl eok_str) (sok_seq (sok_for ⟨rfl, rfl⟩ (np2 rfl) (iok_any (eok_var rfl)) (gok_nameK (i := 3) rfl) (sok_seq (sok_if ⟨rfl, rfl⟩ (tok_test (eok_op r2_eq (eok_callO rfl (aok_cons eok_int aok_nil)) eok_int)) (sok_setK ⟨rfl, rfl⟩ (np rfl) rfl (eok_op r2_add (eok_var rfl) (eok_op r2_ix (eok_tup (aok_cons eok_str (aok_cons eok_str (aok_cons eok_str (aok_cons eok_str (aok_cons eok_str aok_nil)))))) (eok_callO rfl (aok_cons eok_int aok_nil))))) sok_next) (sok_setK ⟨rfl, rfl⟩ (np rfl) rfl (eok_op r2_add (eok_op r2_add (eok_op r2_add (eok_op r2_add (eok_var rfl) (eok_op r2_mul eok_str (eok_callO rfl (aok_cons eok_int aok_nil)))) (eok_m1 m1_join (eok_op r2_ix (eok_tup (aok_cons eok_str (aok_cons eok_str aok_nil))) (eok_callO rfl (aok_cons eok_int aok_nil))) (eok_var rfl))) (eok_op r2_mul eok_str (eok_callO rfl (aok_cons eok_int aok_nil)))) eok_str)))) (sok_ret ⟨rfl, rfl⟩ (eok_op r2_ix (eok_tup (aok_cons (eok_var rfl) (aok_cons (eok_sl slok_any (eok_var rfl) pok_no (pok_so (eok_un u1_neg eok_int))) (aok_cons (eok_op r2_add (eok_var rfl) eok_str) (aok_cons (eok_op r2_add (eok_var rfl) eok_str) aok_nil))))) (eok_callO rfl (aok_cons eok_int aok_nil)))))) h⟩
abbrev s__law_bent : Stmt := top 34
abbrev N__law_bent : List Str := ["reel", "lines", "at", "kind", "words", "odd", "k", "other", "rest"]
theorem sc__law_bent : FnScope N__law_bent ["reel", "lines"] (defScope s__law_bent) := ⟨rfl, rfl, rfl, by decide +kernel, rfl, by decide +kernel, by decide +kernel⟩
def b__law_bent : DL.Env → Out := (sSeq (sIf (tVal (eOp gEq (eCB gLen (aCons (eVar 1) aNil)) (eC (.int 0)))) (sRet (eLst (aCons (eLst (aCons (eC (.str "turn")) aNil)) aNil))) Out.nx) (sSeq (sPar 2 3 (aCons (eCallO 0 1 d__law_spin (aCons (eCB gLen (aCons (eVar 1) aNil)) aNil)) (aCons (eCallO 0 1 d__law_spin (aCons (eC (.int 8)) aNil)) aNil))) (sSeq (sSet 4 (eCB gList (aCons (eOp gIx (eVar 1) (eVar 2)) aNil))) (sSeq (sSet 5 (eOp gIx (eTup (aCons (eC (.str "00")) (aCons (eC (.str "01")) (aCons (eC (.str "-1")) (aCons (eC (.str "-2")) (aCons (eC (.str "-3")) (aCons (eC (.str "+1")) (aCons (eC (.str "1234567890")) (aCons (eC (.str "half")) (aCons (eC (.str "first")) (aCons (eC (.str "turn")) (aCons (eC (.str "code")) (aCons (eC (.str "#")) (aCons (eC (.str "less")) (aCons (eC (.str "-0")) (aCons (eC (.str "x")) (aCons (eC (.str "0")) aNil))))))))))))))))) (eCallO 0 1 d__law_spin (aCons (eC (.int 16)) aNil)))) (sSeq (sSet 6 (eCallO 0 1 d__law_spin (aCons (eView (eCB gLen (aCons (eVar 4) aNil))) aNil))) (sSeq (sIf (tVal (eOp (gB0 fun i j => decide (i < j)) (eVar 3) (eC (.int 3)))) (sSeq (sSetI 4 (eVar 5) (eVar 6)) Out.nx) (sIf (tVal (eOp gEq (eVar 3) (eC (.int 3)))) (sSeq (sDrop (eMtO 4 gInsert (aCons (eOp gAdd (eVar 6) (eC (.int 1))) (aCons (eVar 5) aNil)))) Out.nx) (sIf (bAnd (tVal (eOp gEq (eVar 3) (eC (.int 4)))) (tVal (eOp (gB0 fun i j => decide (j < i)) (eView (eCB gLen (aCons (eVar 4) aNil))) (eC (.int 1))))) (sSeq (sDrop (eMtO 4 gPopAt (aCons (eVar 6) aNil))) Out.nx) (sIf (tVal (eOp gEq (eVar 3) (eC (.int 5)))) (sRet (eOp gAdd (eSl gSl (eVar 1) pNo (pSo (eVar 2))) (eSl gSl (eVar 1) (pSo (eOp gAdd (eVar 2) (eC (.int 1)))) pNo))) (sIf (tVal (eOp gEq (eVar 3) (eC (.int 6)))) (sSeq (sSet 7 (eCallO 0 1 d__law_spin (aCons (eCB gLen (aCons (eVar 1) aNil)) aNil))) (sSeq (sPar 4 8 (aCons (eCB gList (aCons (eOp gIx (eVar 1) (eVar 7)) aNil)) (aCons (eCB gList (aCons (eVar 1) aNil)) aNil))) (sSeq (sSetI 8 (eOp gIx (eVar 1) (eVar 2)) (eVar 7)) (sSet 1 (eVar 8))))) (sRet (eOp gAdd (eOp gAdd (eSl gSl (eVar 1) pNo (pSo (eVar 2))) (eLst (aCons (eLst (aCons (eC (.str "set")) (aCons (eVar 5) (aCons (eC (.str "1")) aNil)))) aNil))) (eSl gSl (eVar 1) (pSo (eVar 2)) pNo)))))))) (sRet (eOp gAdd (eOp gAdd (eSl gSl (eVar 1) pNo (pSo (eVar 2))) (eLst (aCons (eVar 4) aNil))) (eSl gSl (eVar 1) (pSo (eOp gAdd (eVar 2) (eC (.int 1)))) pNo)))))))))
def d__law_bent : Den := mkF 9 1 b__law_bent
abbrev p__law_bent (K : PySem.W.Frag) (mg : Mg) : Sp := spD K mg (.ls :: List.replicate 1 .pu) .pu d__law_bent
theorem ok__law_bent {P : Program} {w : World} {K : PySem.W.Frag} {mg : Mg} {base : Heap} {C_BadText C_MoveError C_TextError G_AMOUNTS G_SIZES : Addr} (z : Zs mg) (x : Xs P w K mg C_BadText C_MoveError C_TextError G_AMOUNTS G_SIZES) (g__law_spin : Df P w K mg base "_law_spin" s__law_spin ["reel", "many"] 2 (p__law_spin K mg)) {f : Addr} {fd : FuncData} (F : Fun K "_law_bent" "_law_bent" s__law_bent f fd) : FnOk P w K mg base (L2.CX P w) 4 f fd ["reel", "lines"] (p__law_bent K mg) := by
  refine F.okX sc__law_bent (fun vs H Q E h => spD_len h) (fun cdv A outer s H vs Q E hr h => ?_)
  exact ⟨_, (pss_cons (ps_if (pt_cmpR (opEq (Room.u64 hr)) (pe_callB callLen rfl z.z_len rfl (pa_cons (pv 1) pa_nil)) pe_int (nomark _)) (pss_one (ps_ret (pe_lst (pa_cons (pe_lst (pa_cons pe_str pa_nil)) pa_nil)))) pss_nil) (pss_cons (ps_par (i := 2) (j := 3) rfl sc__law_bent.nd rfl rfl (by decide) rfl rfl (pa_cons (pe_df g__law_spin (hr.mono (by decide)) rfl (takes_of rfl rfl rfl rfl) (pa_cons (pv 0) (pa_cons (pe_callB callLen rfl z.z_len rfl (pa_cons (pv 1) pa_nil)) pa_nil))) (pa_cons (pe_df g__law_spin (hr.mono (by decide)) rfl (takes_of rfl rfl rfl rfl) (pa_cons (pv 0) (pa_cons pe_int pa_nil))) pa_nil)) (by first | rfl | with_unfolding_all rfl)) (pss_cons (ps_set (i := 4) sc__law_bent.nd rfl (by first | exact Or.inl rfl | exact Or.inr rfl) (pe_callTy callList rfl z.z_list rfl (pa_cons (pe_ix (ix_any (Room.u1 hr)) (pv 1) (pv 2) (fun _ _ => rfl)) pa_nil))) (pss_cons (ps_set (i := 5) sc__law_bent.nd rfl (by first | exact Or.inl rfl | exact Or.inr rfl) (pe_ix (ix_any (Room.u1 hr)) (pe_tup (pa_cons pe_str (pa_cons pe_str (pa_cons pe_str (pa_cons pe_str (pa_cons pe_str (pa_cons pe_str (pa_cons pe_str (pa_cons pe_str (pa_cons pe_str (pa_cons pe_str (pa_cons pe_str (pa_cons pe_str (pa_cons pe_str (pa_cons pe_str (pa_cons pe_str (pa_cons pe_str pa_nil))))))))))))))))) (pe_df g__law_spin (hr.mono (by decide)) rfl (takes_of rfl rfl rfl rfl) (pa_cons (pv 0) (pa_cons pe_int pa_nil))) (fun _ _ => rfl))) (pss_cons (ps_set (i := 6) sc__law_bent.nd rfl (by first | exact Or.inl rfl | exact Or.inr rfl) (pe_df g__law_spin (hr.mono (by decide)) rfl (takes_of rfl rfl rfl rfl) (pa_cons (pv 0) (pa_cons (pe_callB callLen rfl z.z_len rfl (pa_cons (pv 4) pa_nil)) pa_nil)))) (pss_cons (ps_if (pt_cmpR op_lt (pv 3) pe_int (nomark _)) (pss_cons (ps_asg (pv 5) (pg_sub (pv 4) (pv 6) (setAny (Room.u1 hr)))) pss_nil) (pss_one (ps_if (pt_cmpR (opEq (Room.u64 hr)) (pv 3) pe_int (nomark _)) (pss_cons (ps_expr (pe_bm PySem.F.plainAttrs_list PySem.F.slot_list_insert PySem.F.type_list_insert mt_insert (pv 4) (pa_cons (pe_op opAdd (pv 6) pe_int) (pa_cons (pv 5) pa_nil)))) pss_nil) (pss_one (ps_if (PW.pt (pw_and (pt_cmpR (opEq (Room.u64 hr)) (pv 3) pe_int (nomark _)) (pw_and1 (pt_cmpR op_gt (pe_callB callLen rfl z.z_len rfl (pa_cons (pv 4) pa_nil)) pe_int (nomark _))))) (pss_cons (ps_expr (pe_bm PySem.F.plainAttrs_list PySem.F.slot_list_pop PySem.F.type_list_pop mt_popAt (pv 4) (pa_cons (pv 6) pa_nil))) pss_nil) (pss_one (ps_if (pt_cmpR (opEq (Room.u64 hr)) (pv 3) pe_int (nomark _)) (pss_one (ps_ret (pe_op opAdd (pe_slice slAny (pv 1) po_none (po_some (pv 2))) (pe_slice slAny (pv 1) (po_some (pe_op opAdd (pv 2) pe_int)) po_none)))) (pss_one (ps_if (pt_cmpR (opEq (Room.u64 hr)) (pv 3) pe_int (nomark _)) (pss_cons (ps_set (i := 7) sc__law_bent.nd rfl (by first | exact Or.inl rfl | exact Or.inr rfl) (pe_df g__law_spin (hr.mono (by decide)) rfl (takes_of rfl rfl rfl rfl) (pa_cons (pv 0) (pa_cons (pe_callB callLen rfl z.z_len rfl (pa_cons (pv 1) pa_nil)) pa_nil)))) (pss_cons (ps_par (i := 4) (j := 8) rfl sc__law_bent.nd rfl rfl (by decide) rfl rfl (pa_cons (pe_callTy callList rfl z.z_list rfl (pa_cons (pe_ix (ix_any (Room.u1 hr)) (pv 1) (pv 7) (fun _ _ => rfl)) pa_nil)) (pa_cons (pe_callTy callList rfl z.z_list rfl (pa_cons (pv 1) pa_nil)) pa_nil)) (by first | rfl | with_unfolding_all rfl)) (pss_cons (ps_asg (pe_ix (ix_any (Room.u1 hr)) (pv 1) (pv 2) (fun _ _ => rfl)) (pg_sub (pv 8) (pv 7) (setAny (Room.u1 hr)))) (pss_one (ps_set (i := 1) sc__law_bent.nd rfl (by first | exact Or.inl rfl | exact Or.inr rfl) (pv 8)))))) (pss_one (ps_ret (pe_op opAdd (pe_op opAdd (pe_slice slAny (pv 1) po_none (po_some (pv 2))) (pe_lst (pa_cons (pe_lst (pa_cons pe_str (pa_cons (pv 5) (pa_cons pe_str pa_nil)))) pa_nil))) (pe_slice slAny (pv 1) (po_some (pv 2)) po_none))))))))))))) (pss_one (ps_ret (pe_op opAdd (pe_op opAdd (pe_slice slAny (pv 1) po_none (po_some (pv 2))) (pe_lst (pa_cons (pv 4) pa_nil))) (pe_slice slAny (pv 1) (po_some (pe_op opAdd (pv 2) pe_int)) po_none)))))))))),
    fn_body (N := N__law_bent) (k := 1) (Γp := (.ls :: List.replicate 1 .pu)) (sr := .pu) (fb := b__law_bent) (Γi := [.pu, .pu, .ls, .pu, .pu, .pu, .ls]) (Γ' := [.ls, .pu, .pu, .pu, .pu, .pu, .pu, .pu, .pu]) (by decide) rfl (.inl rfl) ⟨rfl, rfl⟩ (sok_seq (sok_if ⟨rfl, rfl⟩ (tok_test (eok_op r2_eq (eok_cb c1_len (aok_cons (eok_var rfl) aok_nil)) eok_int)) (sok_ret ⟨rfl, rfl⟩ (eok_frz (eok_lst (aok_cons (eok_frz (eok_lst (aok_cons eok_str aok_nil))) aok_nil)))) sok_next) (sok_seq (sok_parK ⟨rfl, rfl⟩ (np rfl) (np rfl) rfl rfl (aok_cons (eok_callO rfl (aok_cons (eok_cb c1_len (aok_cons (eok_var rfl) aok_nil)) aok_nil)) (aok_cons (eok_callO rfl (aok_cons eok_int aok_nil)) aok_nil))) (sok_seq (sok_setK ⟨rfl, rfl⟩ (np rfl) rfl (eok_cb c1_list (aok_cons (eok_op r2_ix (eok_var rfl) (eok_var rfl)) aok_nil))) (sok_seq (sok_setK ⟨rfl, rfl⟩ (np rfl) rfl (eok_op r2_ix (eok_tup (aok_cons eok_str (aok_cons eok_str (aok_cons eok_str (aok_cons eok_str (aok_cons eok_str (aok_cons eok_str (aok_cons eok_str (aok_cons eok_str (aok_cons eok_str (aok_cons eok_str (aok_cons eok_str (aok_cons eok_str (aok_cons eok_str (aok_cons eok_str (aok_cons eok_str (aok_cons eok_str aok_nil))))))))))))))))) (eok_callO rfl (aok_cons eok_int aok_nil)))) (sok_seq (sok_setK ⟨rfl, rfl⟩ (np rfl) rfl (eok_callO rfl (aok_cons (eok_view (eok_cb c1_len (aok_cons (eok_var rfl) aok_nil))) aok_nil))) (sok_seq (sok_if ⟨rfl, rfl⟩ (tok_test (eok_op r2_b0 (eok_var rfl) eok_int)) (sok_seq (sok_seti ⟨rfl, rfl⟩ rfl (eok_var rfl) (eok_var rfl)) (sok_frz (i := 8) rfl sok_next)) (sok_if ⟨rfl, rfl⟩ (tok_test (eok_op r2_eq (eok_var rfl) eok_int)) (sok_seq (sok_drop ⟨rfl, rfl⟩ (eok_mt mok_insert rfl (aok_cons (eok_op r2_add (eok_var rfl) eok_int) (aok_cons (eok_var rfl) aok_nil)))) (sok_frz (i := 8) rfl sok_next)) (sok_if ⟨rfl, rfl⟩ (tok_and (tok_test (eok_op r2_eq (eok_var rfl) eok_int)) (tok_test (eok_op r2_b0 (eok_view (eok_cb c1_len (aok_cons (eok_var rfl) aok_nil))) eok_int))) (sok_seq (sok_drop ⟨rfl, rfl⟩ (eok_mt mok_popAt rfl (aok_cons (eok_var rfl) aok_nil))) (sok_frz (i := 8) rfl sok_next)) (sok_if ⟨rfl, rfl⟩ (tok_test (eok_op r2_eq (eok_var rfl) eok_int)) (sok_ret ⟨rfl, rfl⟩ (eok_op r2_add (eok_sl slok_any (eok_var rfl) pok_no (pok_so (eok_var rfl))) (eok_sl slok_any (eok_var rfl) (pok_so (eok_op r2_add (eok_var rfl) eok_int)) pok_no))) (sok_if ⟨rfl, rfl⟩ (tok_test (eok_op r2_eq (eok_var rfl) eok_int)) (sok_seq (sok_setK ⟨rfl, rfl⟩ (np rfl) rfl (eok_callO rfl (aok_cons (eok_cb c1_len (aok_cons (eok_var rfl) aok_nil)) aok_nil))) (sok_seq (sok_parS ⟨rfl, rfl⟩ (np rfl) (np rfl) (aoks_ls (eok_cb c1_list (aok_cons (eok_op r2_ix (eok_var rfl) (eok_var rfl)) aok_nil)) (aoks_ls (eok_cb c1_list (aok_cons (eok_var rfl) aok_nil)) aoks_nil))) (sok_seq (sok_seti ⟨rfl, rfl⟩ rfl (eok_op r2_ix (eok_var rfl) (eok_var rfl)) (eok_var rfl)) (sok_frz (i := 8) rfl (sok_setK ⟨rfl, rfl⟩ (np rfl) rfl (eok_var rfl)))))) (sok_ret ⟨rfl, rfl⟩ (eok_op r2_add (eok_op r2_add (eok_sl slok_any (eok_var rfl) pok_no (pok_so (eok_var rfl))) (eok_frz (eok_lst (aok_cons (eok_frz (eok_lst (aok_cons eok_str (aok_cons (eok_var rfl) (aok_cons eok_str aok_nil))))) aok_nil)))) (eok_sl slok_any (eok_var rfl) (pok_so (eok_var rfl)) pok_no)))))))) (sok_frz (i := 4) rfl (sok_ret ⟨rfl, rfl⟩ (eok_op r2_add (eok_op r2_add (eok_sl slok_any (eok_var rfl) pok_no (pok_so (eok_var rfl))) (eok_frz (eok_lst (aok_cons (eok_var rfl) aok_nil)))) (eok_sl slok_any (eok_var rfl) (pok_so (eok_op r2_add (eok_var rfl) eok_int)) pok_no)))))))))) h⟩
abbrev s__law_asked : Stmt := top 35
abbrev N__law_asked : List Str := ["reel", "code", "lines", "plain", "turn", "bent", "text", "words"]
theorem sc__law_asked : FnScope N__law_asked ["reel"] (defScope s__law_asked) := ⟨rfl, rfl, rfl, by decide +kernel, rfl, by decide +kernel, by decide +kernel⟩
def b__law_asked : DL.Env → Out := (sSeq (sSet 1 (eCallO 0 0 d__law_code aNil)) (sSeq (sSet 2 (eCall 1 d__law_lines (aCons (eVar 1) aNil))) (sSeq (sSet 3 (eM1 gJoin (eC (.str "")) (eLc (iA (eVar 2)) (gN 7) bYes (eOp gAdd (eM1 gJoin (eC (.str " ")) (eVar 7)) (eC (.str "\n"))) [7]))) (sSeq (sIf (bNot (tVal (eCall 2 d__law_alike (aCons (eTup (aCons (eCall 1 d_code_text (aCons (eVar 1) aNil)) (aCons (eCall 1 d__law_heard (aCons (eVar 3) aNil)) (aCons (eCall 1 d__law_heard (aCons (eCallO 0 1 d__law_loose (aCons (eVar 2) aNil)) aNil)) aNil)))) (aCons (eTup (aCons (eVar 3) (aCons (eTup (aCons (eC (.str "told")) (aCons (eVar 1) aNil))) (aCons (eTup (aCons (eC (.str "told")) (aCons (eVar 1) aNil))) aNil)))) aNil))))) (sRet (eC (.bl false))) Out.nx) (sSeq (sFor (iR1 (aCons (eC (.int 9)) aNil)) (gN 4) (sSeq (sSet 5 (eCallO 0 1 d__law_bent (aCons (eVar 2) aNil))) (sSeq (sSet 5 (eIf (tVal (eOp (gB0 fun i j => decide (j < i)) (eVar 4) (eC (.int 5)))) (eCallO 0 1 d__law_bent (aCons (eVar 5) aNil)) (eVar 5))) (sSeq (sSet 6 (eCallO 0 1 d__law_loose (aCons (eVar 5) aNil))) (sIf (bNot (tVal (eCall 2 d__law_alike (aCons (eCall 1 d__law_heard (aCons (eVar 6) aNil)) (aCons (eCall 1 d__law_read (aCons (eVar 6) aNil)) aNil))))) (sRet (eC (.bl false))) Out.nx))))) (sRet (eC (.bl true))))))))
def d__law_asked : Den := mkF 8 1 b__law_asked
abbrev p__law_asked (K : PySem.W.Frag) (mg : Mg) : Sp := spD K mg (.ls :: List.replicate 0 .pu) .pu d__law_asked
theorem ok__law_asked {P : Program} {w : World} {K : PySem.W.Frag} {mg : Mg} {base : Heap} {C_BadText C_MoveError C_TextError G_AMOUNTS G_SIZES : Addr} (z : Zs mg) (x : Xs P w K mg C_BadText C_MoveError C_TextError G_AMOUNTS G_SIZES) (g__law_code : Df P w K mg base "_law_code" s__law_code ["reel"] 4 (p__law_code K mg)) (g__law_lines : Df P w K mg base "_law_lines" s__law_lines ["code"] 2 (p__law_lines K mg)) (g__law_alike : Df P w K mg base "_law_alike" s__law_alike ["told", "due"] 2 (p__law_alike K mg)) (g__law_bent : Df P w K mg base "_law_bent" s__law_bent ["reel", "lines"] 4 (p__law_bent K mg)) (g__law_loose : Df P w K mg base "_law_loose" s__law_loose ["reel", "lines"] 4 (p__law_loose K mg)) (g_code_text : Df P w K mg base "code_text" s_code_text ["code"] 6 (p_code_text K mg)) (g__law_heard : Df P w K mg base "_law_heard" s__law_heard ["text"] 10 (p__law_heard K mg)) (g__law_read : Df P w K mg base "_law_read" s__law_read ["text"] 4 (p__law_read K mg)) {f : Addr} {fd : FuncData} (F : Fun K "_law_asked" "_law_asked" s__law_asked f fd) : FnOk P w K mg base (L2.CX P w) 12 f fd ["reel"] (p__law_asked K mg) := by
  refine F.okX sc__law_asked (fun vs H Q E h => spD_len h) (fun cdv A outer s H vs Q E hr h => ?_)
  exact ⟨_, (pss_cons (ps_set (i := 1) sc__law_asked.nd rfl (by first | exact Or.inl rfl | exact Or.inr rfl) (pe_df g__law_code (hr.mono (by decide)) rfl (takes_of rfl rfl rfl rfl) (pa_cons (pv 0) pa_nil))) (pss_cons (ps_set (i := 2) sc__law_asked.nd rfl (by first | exact Or.inl rfl | exact Or.inr rfl) (pe_df g__law_lines (hr.mono (by decide)) rfl (takes_of rfl rfl rfl rfl) (pa_cons (pv 1) pa_nil))) (pss_cons (ps_set (i := 3) sc__law_asked.nd rfl (by first | exact Or.inl rfl | exact Or.inr rfl) (pe_join pe_str (pe_lc (own := [("words", 7)]) rfl sc__law_asked.nd (pi_any (pv 2)) (blkOk_by (own := [("words", 7)]) (N := N__law_asked) (sc := defScope s__law_asked) (by decide +kernel)) (fun _ _ _ _ _ => (pg_name (i := 7) sc__law_asked.nd rfl (by first | exact Or.inl rfl | exact Or.inr rfl))) (fun _ _ _ _ _ => pts_nil) (fun _ _ _ _ _ => (pe_op opAdd (pe_join pe_str (pv 7)) pe_str))))) (pss_cons (ps_if (pt_not (pt_val (pe_df g__law_alike (hr.mono (by decide)) rfl (takes_of rfl rfl rfl rfl) (pa_cons (pe_tup (pa_cons (pe_df g_code_text (hr.mono (by decide)) rfl (takes_of rfl rfl rfl rfl) (pa_cons (pv 1) pa_nil)) (pa_cons (pe_df g__law_heard (hr.mono (by decide)) rfl (takes_of rfl rfl rfl rfl) (pa_cons (pv 3) pa_nil)) (pa_cons (pe_df g__law_heard (hr.mono (by decide)) rfl (takes_of rfl rfl rfl rfl) (pa_cons (pe_df g__law_loose (hr.mono (by decide)) rfl (takes_of rfl rfl rfl rfl) (pa_cons (pv 0) (pa_cons (pv 2) pa_nil))) pa_nil)) pa_nil)))) (pa_cons (pe_tup (pa_cons (pv 3) (pa_cons (pe_tup (pa_cons pe_str (pa_cons (pv 1) pa_nil))) (pa_cons (pe_tup (pa_cons pe_str (pa_cons (pv 1) pa_nil))) pa_nil)))) pa_nil))))) (pss_one (ps_ret pe_bl)) pss_nil) (pss_cons (ps_for (passes_of rfl) rfl (pi_range1 rfl z.z_range (pa_cons pe_int pa_nil)) (pg_name (i := 4) sc__law_asked.nd rfl (by first | exact Or.inl rfl | exact Or.inr rfl)) (pss_cons (ps_set (i := 5) sc__law_asked.nd rfl (by first | exact Or.inl rfl | exact Or.inr rfl) (pe_df g__law_bent (hr.mono (by decide)) rfl (takes_of rfl rfl rfl rfl) (pa_cons (pv 0) (pa_cons (pv 2) pa_nil)))) (pss_cons (ps_set (i := 5) sc__law_asked.nd rfl (by first | exact Or.inl rfl | exact Or.inr rfl) (pe_ifExp (pt_cmpR op_gt (pv 4) pe_int (nomark _)) (pe_df g__law_bent (hr.mono (by decide)) rfl (takes_of rfl rfl rfl rfl) (pa_cons (pv 0) (pa_cons (pv 5) pa_nil))) (pv 5))) (pss_cons (ps_set (i := 6) sc__law_asked.nd rfl (by first | exact Or.inl rfl | exact Or.inr rfl) (pe_df g__law_loose (hr.mono (by decide)) rfl (takes_of rfl rfl rfl rfl) (pa_cons (pv 0) (pa_cons (pv 5) pa_nil)))) (pss_one (ps_if (pt_not (pt_val (pe_df g__law_alike (hr.mono (by decide)) rfl (takes_of rfl rfl rfl rfl) (pa_cons (pe_df g__law_heard (hr.mono (by decide)) rfl (takes_of rfl rfl rfl rfl) (pa_cons (pv 6) pa_nil)) (pa_cons (pe_df g__law_read (hr.mono (by decide)) rfl (takes_of rfl rfl rfl rfl) (pa_cons (pv 6) pa_nil)) pa_nil))))) (pss_one (ps_ret pe_bl)) pss_nil)))))) (pss_one (ps_ret pe_bl))))))),
    fn_body (N := N__law_asked) (k := 1) (Γp := (.ls :: List.replicate 0 .pu)) (sr := .pu) (fb := b__law_asked) (Γi := [.pu, .pu, .pu, .pu, .pu, .pu, .pu]) (Γ' := [.ls, .pu, .pu, .pu, .pu, .pu, .pu, .pu]) (by decide) rfl (.inl rfl) ⟨rfl, rfl⟩ (sok_seq (sok_setK ⟨rfl, rfl⟩ (np rfl) rfl (eok_callO rfl aok_nil)) (sok_seq (sok_setK ⟨rfl, rfl⟩ (np rfl) rfl (eok_call (aok_cons (eok_var rfl) aok_nil))) (sok_seq (sok_setK ⟨rfl, rfl⟩ (np rfl) rfl (eok_m1 m1_join eok_str (eok_frz (eok_lc (vs := [7]) (by decide) (iok_any (eok_var rfl)) (gok_nameK (i := 7) rfl) tok_yes (eok_op r2_add (eok_m1 m1_join eok_str (eok_var rfl)) eok_str))))) (sok_seq (sok_if ⟨rfl, rfl⟩ (tok_not (tok_b (eok_call (aok_cons (eok_tup (aok_cons (eok_call (aok_cons (eok_var rfl) aok_nil)) (aok_cons (eok_call (aok_cons (eok_var rfl) aok_nil)) (aok_cons (eok_call (aok_cons (eok_callO rfl (aok_cons (eok_var rfl) aok_nil)) aok_nil)) aok_nil)))) (aok_cons (eok_tup (aok_cons (eok_var rfl) (aok_cons (eok_tup (aok_cons eok_str (aok_cons (eok_var rfl) aok_nil))) (aok_cons (eok_tup (aok_cons eok_str (aok_cons (eok_var rfl) aok_nil))) aok_nil)))) aok_nil))))) (sok_ret ⟨rfl, rfl⟩ eok_bl) sok_next) (sok_seq (sok_for ⟨rfl, rfl⟩ (np2 rfl) (iok_range1 (aok_cons eok_int aok_nil)) (gok_nameK (i := 4) rfl) (sok_seq (sok_setK ⟨rfl, rfl⟩ (np rfl) rfl (eok_callO rfl (aok_cons (eok_var rfl) aok_nil))) (sok_seq (sok_setK ⟨rfl, rfl⟩ (np rfl) rfl (eok_if (tok_test (eok_op r2_b0 (eok_var rfl) eok_int)) (eok_callO rfl (aok_cons (eok_var rfl) aok_nil)) (eok_var rfl))) (sok_seq (sok_setK ⟨rfl, rfl⟩ (np rfl) rfl (eok_callO rfl (aok_cons (eok_var rfl) aok_nil))) (sok_if ⟨rfl, rfl⟩ (tok_not (tok_b (eok_call (aok_cons (eok_call (aok_cons (eok_var rfl) aok_nil)) (aok_cons (eok_call (aok_cons (eok_var rfl) aok_nil)) aok_nil))))) (sok_ret ⟨rfl, rfl⟩ eok_bl) sok_next))))) (sok_ret ⟨rfl, rfl⟩ eok_bl)))))) h⟩
abbrev s_law : Stmt := top 36
abbrev N_law : List Str := ["script", "reel", "lap", "texts", "dues", "at", "told"]
theorem sc_law : FnScope N_law ["script"] (defScope s_law) := ⟨rfl, rfl, rfl, by decide +kernel, rfl, by decide +kernel, by decide +kernel⟩
def b_law : DL.Env → Out := (sSeq (sSet 1 (eCall 1 d__law_reel (aCons (eVar 0) aNil))) (sSeq (sFor (iR1 (aCons (eC (.int 4)) aNil)) (gN 2) (sIf (bNot (tVal (eCallO 1 0 d__law_asked aNil))) (sRet (eC (.bl false))) Out.nx)) (sSeq (sSet 3 (eTup (aCons (eC (.str "")) (aCons (eC (.str "\n")) (aCons (eC (.str "# code 1")) (aCons (eC (.str "turn")) (aCons (eC (.str "code")) (aCons (eC (.str "code 01")) (aCons (eC (.str "code -1")) (aCons (eC (.str "code 1 2")) (aCons (eC (.str "code 2\nturn\nkeep 1")) (aCons (eC (.str "code 0")) (aCons (eC (.str "code 1\nturns")) (aCons (eC (.str "code 1\nturn 1")) (aCons (eC (.str "code 1\ncut 0 -1 0")) (aCons (eC (.str "code 1\ncut 0 -2 0\n")) (aCons (eC (.str "code 1\ncut 0 -3 0")) (aCons (eC (.str "code 1\ncut -1 0 0")) (aCons (eC (.str "code 1\nset 0 -1")) aNil))))))))))))))))))) (sSeq (sSet 3 (eOp gAdd (eVar 3) (eTup (aCons (eC (.str "code 1\n\n#x\nput first 0")) (aCons (eC (.str "code 1\ncode 1")) (aCons (eC (.str "code 1\nless 1")) (aCons (eC (.str "code 1\nless x")) (aCons (eC (.str "code 1\nset 0 999999999\nset 0 1000000000")) (aCons (eC (.str "code 1\nhalf\nturn 3")) (aCons (eC (.str "code 1\n  swap   3  \n ")) (aCons (eC (.str "code 1\ncut 0 -0 0")) (aCons (eC (.str "code 1\ncut 0 half 0")) (aCons (eC (.str "Code 1")) aNil))))))))))))) (sSeq (sSet 4 (eTup (aCons (eTup (aCons (eC (.str "bad")) (aCons (eC (.int 1)) (aCons (eC (.str "code")) aNil)))) (aCons (eTup (aCons (eC (.str "bad")) (aCons (eC (.int 2)) (aCons (eC (.str "code")) aNil)))) (aCons (eTup (aCons (eC (.str "bad")) (aCons (eC (.int 2)) (aCons (eC (.str "code")) aNil)))) (aCons (eTup (aCons (eC (.str "bad")) (aCons (eC (.int 1)) (aCons (eC (.str "code")) aNil)))) (aCons (eTup (aCons (eC (.str "bad")) (aCons (eC (.int 1)) (aCons (eC (.str "code")) aNil)))) (aCons (eTup (aCons (eC (.str "bad")) (aCons (eC (.int 1)) (aCons (eC (.str "code")) aNil)))) (aCons (eTup (aCons (eC (.str "bad")) (aCons (eC (.int 1)) (aCons (eC (.str "code")) aNil)))) (aCons (eTup (aCons (eC (.str "bad")) (aCons (eC (.int 1)) (aCons (eC (.str "code")) aNil)))) (aCons (eTup (aCons (eC (.str "told")) (aCons (eTup (aCons (eC (.int 2)) (aCons (eTup (aCons (eTup (aCons (eC (.str "turn")) aNil)) (aCons (eTup (aCons (eC (.str "keep")) (aCons (eC (.int 1)) aNil))) aNil))) aNil))) aNil))) (aCons (eTup (aCons (eC (.str "told")) (aCons (eTup (aCons (eC (.int 0)) (aCons (eTup aNil) aNil))) aNil))) (aCons (eTup (aCons (eC (.str "bad")) (aCons (eC (.int 2)) (aCons (eC (.str "kind")) aNil)))) (aCons (eTup (aCons (eC (.str "bad")) (aCons (eC (.int 2)) (aCons (eC (.str "words")) aNil)))) aNil)))))))))))))) (sSeq (sSet 4 (eOp gAdd (eVar 4) (eTup (aCons (eTup (aCons (eC (.str "told")) (aCons (eTup (aCons (eC (.int 1)) (aCons (eTup (aCons (eTup (aCons (eC (.str "cut")) (aCons (eC (.int 0)) (aCons (eUn gNeg (eC (.int 1))) (aCons (eC (.int 0)) aNil))))) aNil)) aNil))) aNil))) (aCons (eTup (aCons (eC (.str "told")) (aCons (eTup (aCons (eC (.int 1)) (aCons (eTup (aCons (eTup (aCons (eC (.str "cut")) (aCons (eC (.int 0)) (aCons (eUn gNeg (eC (.int 2))) (aCons (eC (.int 0)) aNil))))) aNil)) aNil))) aNil))) (aCons (eTup (aCons (eC (.str "bad")) (aCons (eC (.int 2)) (aCons (eC (.str "number")) aNil)))) (aCons (eTup (aCons (eC (.str "bad")) (aCons (eC (.int 2)) (aCons (eC (.str "number")) aNil)))) (aCons (eTup (aCons (eC (.str "bad")) (aCons (eC (.int 2)) (aCons (eC (.str "number")) aNil)))) (aCons (eTup (aCons (eC (.str "bad")) (aCons (eC (.int 4)) (aCons (eC (.str "number")) aNil)))) (aCons (eTup (aCons (eC (.str "bad")) (aCons (eC (.int 2)) (aCons (eC (.str "kind")) aNil)))) (aCons (eTup (aCons (eC (.str "bad")) (aCons (eC (.int 2)) (aCons (eC (.str "words")) aNil)))) (aCons (eIf (tVal (eOp gEq (eCall 1 d__law_long (aCons (eC (.str "less")) aNil)) (eC (.int 2)))) (eTup (aCons (eC (.str "bad")) (aCons (eC (.int 2)) (aCons (eC (.str "number")) aNil)))) (eTup (aCons (eC (.str "bad")) (aCons (eC (.int 2)) (aCons (eC (.str "words")) aNil))))) aNil)))))))))))) (sSeq (sSet 4 (eOp gAdd (eVar 4) (eTup (aCons (eTup (aCons (eC (.str "bad")) (aCons (eC (.int 3)) (aCons (eC (.str "number")) aNil)))) (aCons (eTup (aCons (eC (.str "bad")) (aCons (eC (.int 2)) (aCons (eC (.str "kind")) aNil)))) (aCons (eTup (aCons (eC (.str "told")) (aCons (eTup (aCons (eC (.int 1)) (aCons (eTup (aCons (eTup (aCons (eC (.str "swap")) (aCons (eC (.int 3)) aNil))) aNil)) aNil))) aNil))) (aCons (eTup (aCons (eC (.str "bad")) (aCons (eC (.int 2)) (aCons (eC (.str "number")) aNil)))) (aCons (eTup (aCons (eC (.str "bad")) (aCons (eC (.int 2)) (aCons (eC (.str "number")) aNil)))) (aCons (eTup (aCons (eC (.str "bad")) (aCons (eC (.int 1)) (aCons (eC (.str "code")) aNil)))) aNil))))))))) (sSeq (sFor (iR1 (aCons (eCB gLen (aCons (eVar 3) aNil)) aNil)) (gN 5) (sIf (bNot (tVal (eCall 2 d__law_alike (aCons (eTup (aCons (eCall 1 d__law_heard (aCons (eOp gIx (eVar 3) (eVar 5)) aNil)) (aCons (eCall 1 d__law_read (aCons (eOp gIx (eVar 3) (eVar 5)) aNil)) aNil))) (aCons (eOp gMul (eTup (aCons (eOp gIx (eVar 4) (eVar 5)) aNil)) (eC (.int 2))) aNil))))) (sRet (eC (.bl false))) Out.nx)) (sSeq (sSet 6 (eTup (aCons (eCall 1 d_code_text (aKw [0] 0 1 aNil (aCons (eTup (aCons (eC (.int 1)) (aCons (eTup (aCons (eTup (aCons (eC (.str "cut")) (aCons (eC (.int 0)) (aCons (eUn gNeg (eC (.int 1))) (aCons (eC (.int 0)) aNil))))) (aCons (eTup (aCons (eC (.str "put")) (aCons (eC (.int 1)) (aCons (eC (.int 0)) aNil)))) aNil))) aNil))) aNil))) (aCons (eCall 1 d_code_text (aCons (eTup (aCons (eC (.int 3)) (aCons (eTup aNil) aNil))) aNil)) (aCons (eCall 1 d_read_code (aKw [0] 0 1 aNil (aCons (eC (.str "code 3")) aNil))) aNil))))) (sRet (eCall 2 d__law_alike (aCons (eVar 6) (aCons (eTup (aCons (eC (.str "code 1\ncut 0 -1 0\nput 1 0\n")) (aCons (eC (.str "code 3\n")) (aCons (eTup (aCons (eC (.int 3)) (aCons (eTup aNil) aNil))) aNil)))) aNil)))))))))))))
def d_law : Den := mkF 7 0 b_law
abbrev p_law (K : PySem.W.Frag) (mg : Mg) : Sp := spD K mg (List.replicate 1 .pu) .pu d_law
theorem ok_law {P : Program} {w : World} {K : PySem.W.Frag} {mg : Mg} {base : Heap} {C_BadText C_MoveError C_TextError G_AMOUNTS G_SIZES : Addr} (z : Zs mg) (x : Xs P w K mg C_BadText C_MoveError C_TextError G_AMOUNTS G_SIZES) (g__law_reel : Df P w K mg base "_law_reel" s__law_reel ["script"] 2 (p__law_reel K mg)) (g__law_alike : Df P w K mg base "_law_alike" s__law_alike ["told", "due"] 2 (p__law_alike K mg)) (g_code_text : Df P w K mg base "code_text" s_code_text ["code"] 6 (p_code_text K mg)) (g_read_code : Df P w K mg base "read_code" s_read_code ["text"] 8 (p_read_code K mg)) (g__law_asked : Df P w K mg base "_law_asked" s__law_asked ["reel"] 12 (p__law_asked K mg)) (g__law_long : Df P w K mg base "_law_long" s__law_long ["word"] 2 (p__law_long K mg)) (g__law_heard : Df P w K mg base "_law_heard" s__law_heard ["text"] 10 (p__law_heard K mg)) (g__law_read : Df P w K mg base "_law_read" s__law_read ["text"] 4 (p__law_read K mg)) {f : Addr} {fd : FuncData} (F : Fun K "law" "law" s_law f fd) : FnOk P w K mg base (L2.CX P w) 14 f fd ["script"] (p_law K mg) := by
  refine F.okX sc_law (fun vs H Q E h => spD_len h) (fun cdv A outer s H vs Q E hr h => ?_)
  exact ⟨_, (pss_cons (ps_set (i := 1) sc_law.nd rfl (by first | exact Or.inl rfl | exact Or.inr rfl) (pe_df g__law_reel (hr.mono (by decide)) rfl (takes_of rfl rfl rfl rfl) (pa_cons (pv 0) pa_nil))) (pss_cons (ps_for (passes_of rfl) rfl (pi_range1 rfl z.z_range (pa_cons pe_int pa_nil)) (pg_name (i := 2) sc_law.nd rfl (by first | exact Or.inl rfl | exact Or.inr rfl)) (pss_one (ps_if (pt_not (pt_val (pe_df g__law_asked (hr.mono (by decide)) rfl (takes_of rfl rfl rfl rfl) (pa_cons (pv 1) pa_nil)))) (pss_one (ps_ret pe_bl)) pss_nil))) (pss_cons (ps_set (i := 3) sc_law.nd rfl (by first | exact Or.inl rfl | exact Or.inr rfl) (pe_tup (pa_cons pe_str (pa_cons pe_str (pa_cons pe_str (pa_cons pe_str (pa_cons pe_str (pa_cons pe_str (pa_cons pe_str (pa_cons pe_str (pa_cons pe_str (pa_cons pe_str (pa_cons pe_str (pa_cons pe_str (pa_cons pe_str (pa_cons pe_str (pa_cons pe_str (pa_cons pe_str (pa_cons pe_str pa_nil))))))))))))))))))) (pss_cons (ps_set (i := 3) sc_law.nd rfl (by first | exact Or.inl rfl | exact Or.inr rfl) (pe_op opAdd (pv 3) (pe_tup (pa_cons pe_str (pa_cons pe_str (pa_cons pe_str (pa_cons pe_str (pa_cons pe_str (pa_cons pe_str (pa_cons pe_str (pa_cons pe_str (pa_cons pe_str (pa_cons pe_str pa_nil))))))))))))) (pss_cons (ps_set (i := 4) sc_law.nd rfl (by first | exact Or.inl rfl | exact Or.inr rfl) (pe_tup (pa_cons (pe_tup (pa_cons pe_str (pa_cons pe_int (pa_cons pe_str pa_nil)))) (pa_cons (pe_tup (pa_cons pe_str (pa_cons pe_int (pa_cons pe_str pa_nil)))) (pa_cons (pe_tup (pa_cons pe_str (pa_cons pe_int (pa_cons pe_str pa_nil)))) (pa_cons (pe_tup (pa_cons pe_str (pa_cons pe_int (pa_cons pe_str pa_nil)))) (pa_cons (pe_tup (pa_cons pe_str (pa_cons pe_int (pa_cons pe_str pa_nil)))) (pa_cons (pe_tup (pa_cons pe_str (pa_cons pe_int (pa_cons pe_str pa_nil)))) (pa_cons (pe_tup (pa_cons pe_str (pa_cons pe_int (pa_cons pe_str pa_nil)))) (pa_cons (pe_tup (pa_cons pe_str (pa_cons pe_int (pa_cons pe_str pa_nil)))) (pa_cons (pe_tup (pa_cons pe_str (pa_cons (pe_tup (pa_cons pe_int (pa_cons (pe_tup (pa_cons (pe_tup (pa_cons pe_str pa_nil)) (pa_cons (pe_tup (pa_cons pe_str (pa_cons pe_int pa_nil))) pa_nil))) pa_nil))) pa_nil))) (pa_cons (pe_tup (pa_cons pe_str (pa_cons (pe_tup (pa_cons pe_int (pa_cons (pe_tup pa_nil) pa_nil))) pa_nil))) (pa_cons (pe_tup (pa_cons pe_str (pa_cons pe_int (pa_cons pe_str pa_nil)))) (pa_cons (pe_tup (pa_cons pe_str (pa_cons pe_int (pa_cons pe_str pa_nil)))) pa_nil)))))))))))))) (pss_cons (ps_set (i := 4) sc_law.nd rfl (by first | exact Or.inl rfl | exact Or.inr rfl) (pe_op opAdd (pv 4) (pe_tup (pa_cons (pe_tup (pa_cons pe_str (pa_cons (pe_tup (pa_cons pe_int (pa_cons (pe_tup (pa_cons (pe_tup (pa_cons pe_str (pa_cons pe_int (pa_cons (pe_un un_neg pe_int) (pa_cons pe_int pa_nil))))) pa_nil)) pa_nil))) pa_nil))) (pa_cons (pe_tup (pa_cons pe_str (pa_cons (pe_tup (pa_cons pe_int (pa_cons (pe_tup (pa_cons (pe_tup (pa_cons pe_str (pa_cons pe_int (pa_cons (pe_un un_neg pe_int) (pa_cons pe_int pa_nil))))) pa_nil)) pa_nil))) pa_nil))) (pa_cons (pe_tup (pa_cons pe_str (pa_cons pe_int (pa_cons pe_str pa_nil)))) (pa_cons (pe_tup (pa_cons pe_str (pa_cons pe_int (pa_cons pe_str pa_nil)))) (pa_cons (pe_tup (pa_cons pe_str (pa_cons pe_int (pa_cons pe_str pa_nil)))) (pa_cons (pe_tup (pa_cons pe_str (pa_cons pe_int (pa_cons pe_str pa_nil)))) (pa_cons (pe_tup (pa_cons pe_str (pa_cons pe_int (pa_cons pe_str pa_nil)))) (pa_cons (pe_tup (pa_cons pe_str (pa_cons pe_int (pa_cons pe_str pa_nil)))) (pa_cons (pe_ifExp (pt_cmpR (opEq (Room.u64 hr)) (pe_df g__law_long (hr.mono (by decide)) rfl (takes_of rfl rfl rfl rfl) (pa_cons pe_str pa_nil)) pe_int (nomark _)) (pe_tup (pa_cons pe_str (pa_cons pe_int (pa_cons pe_str pa_nil)))) (pe_tup (pa_cons pe_str (pa_cons pe_int (pa_cons pe_str pa_nil))))) pa_nil)))))))))))) (pss_cons (ps_set (i := 4) sc_law.nd rfl (by first | exact Or.inl rfl | exact Or.inr rfl) (pe_op opAdd (pv 4) (pe_tup (pa_cons (pe_tup (pa_cons pe_str (pa_cons pe_int (pa_cons pe_str pa_nil)))) (pa_cons (pe_tup (pa_cons pe_str (pa_cons pe_int (pa_cons pe_str pa_nil)))) (pa_cons (pe_tup (pa_cons pe_str (pa_cons (pe_tup (pa_cons pe_int (pa_cons (pe_tup (pa_cons (pe_tup (pa_cons pe_str (pa_cons pe_int pa_nil))) pa_nil)) pa_nil))) pa_nil))) (pa_cons (pe_tup (pa_cons pe_str (pa_cons pe_int (pa_cons pe_str pa_nil)))) (pa_cons (pe_tup (pa_cons pe_str (pa_cons pe_int (pa_cons pe_str pa_nil)))) (pa_cons (pe_tup (pa_cons pe_str (pa_cons pe_int (pa_cons pe_str pa_nil)))) pa_nil))))))))) (pss_cons (ps_for (passes_of rfl) rfl (pi_range1 rfl z.z_range (pa_cons (pe_callB callLen rfl z.z_len rfl (pa_cons (pv 3) pa_nil)) pa_nil)) (pg_name (i := 5) sc_law.nd rfl (by first | exact Or.inl rfl | exact Or.inr rfl)) (pss_one (ps_if (pt_not (pt_val (pe_df g__law_alike (hr.mono (by decide)) rfl (takes_of rfl rfl rfl rfl) (pa_cons (pe_tup (pa_cons (pe_df g__law_heard (hr.mono (by decide)) rfl (takes_of rfl rfl rfl rfl) (pa_cons (pe_ix (ix_any (Room.u1 hr)) (pv 3) (pv 5) (fun _ _ => rfl)) pa_nil)) (pa_cons (pe_df g__law_read (hr.mono (by decide)) rfl (takes_of rfl rfl rfl rfl) (pa_cons (pe_ix (ix_any (Room.u1 hr)) (pv 3) (pv 5) (fun _ _ => rfl)) pa_nil)) pa_nil))) (pa_cons (pe_op opMul (pe_tup (pa_cons (pe_ix (ix_any (Room.u1 hr)) (pv 4) (pv 5) (fun _ _ => rfl)) pa_nil)) pe_int) pa_nil))))) (pss_one (ps_ret pe_bl)) pss_nil))) (pss_cons (ps_set (i := 6) sc_law.nd rfl (by first | exact Or.inl rfl | exact Or.inr rfl) (pe_tup (pa_cons (pe_kw0 (ks := ["code"]) (q := [0]) g_code_text (fun _ _ _ _ _ _ us ws h1 h2 => match us, ws, h1, h2 with | [], [_], _, _ => rfl) (hr.mono (by decide)) rfl (takes_of rfl rfl rfl rfl) (pk_cons (pe_tup (pa_cons pe_int (pa_cons (pe_tup (pa_cons (pe_tup (pa_cons pe_str (pa_cons pe_int (pa_cons (pe_un un_neg pe_int) (pa_cons pe_int pa_nil))))) (pa_cons (pe_tup (pa_cons pe_str (pa_cons pe_int (pa_cons pe_int pa_nil)))) pa_nil))) pa_nil))) pk_nil)) (pa_cons (pe_df g_code_text (hr.mono (by decide)) rfl (takes_of rfl rfl rfl rfl) (pa_cons (pe_tup (pa_cons pe_int (pa_cons (pe_tup pa_nil) pa_nil))) pa_nil)) (pa_cons (pe_kw0 (ks := ["text"]) (q := [0]) g_read_code (fun _ _ _ _ _ _ us ws h1 h2 => match us, ws, h1, h2 with | [], [_], _, _ => rfl) (hr.mono (by decide)) rfl (takes_of rfl rfl rfl rfl) (pk_cons pe_str pk_nil)) pa_nil))))) (pss_one (ps_ret (pe_df g__law_alike (hr.mono (by decide)) rfl (takes_of rfl rfl rfl rfl) (pa_cons (pv 6) (pa_cons (pe_tup (pa_cons pe_str (pa_cons pe_str (pa_cons (pe_tup (pa_cons pe_int (pa_cons (pe_tup pa_nil) pa_nil))) pa_nil)))) pa_nil)))))))))))))),
    fn_body (N := N_law) (k := 0) (Γp := (List.replicate 1 .pu)) (sr := .pu) (fb := b_law) (Γi := [.ls, .pu, .pu, .pu, .pu, .pu]) (Γ' := [.pu, .ls, .pu, .pu, .pu, .pu, .pu]) (by decide) rfl (.inl rfl) ⟨rfl, rfl⟩ (sok_seq (sok_setK ⟨rfl, rfl⟩ (np rfl) rfl (eok_call (aok_cons (eok_var rfl) aok_nil))) (sok_seq (sok_for ⟨rfl, rfl⟩ (np2 rfl) (iok_range1 (aok_cons eok_int aok_nil)) (gok_nameK (i := 2) rfl) (sok_if ⟨rfl, rfl⟩ (tok_not (tok_b (eok_callO rfl aok_nil))) (sok_ret ⟨rfl, rfl⟩ eok_bl) sok_next)) (sok_seq (sok_setK ⟨rfl, rfl⟩ (np rfl) rfl (eok_tup (aok_cons eok_str (aok_cons eok_str (aok_cons eok_str (aok_cons eok_str (aok_cons eok_str (aok_cons eok_str (aok_cons eok_str (aok_cons eok_str (aok_cons eok_str (aok_cons eok_str (aok_cons eok_str (aok_cons eok_str (aok_cons eok_str (aok_cons eok_str (aok_cons eok_str (aok_cons eok_str (aok_cons eok_str aok_nil))))))))))))))))))) (sok_seq (sok_setK ⟨rfl, rfl⟩ (np rfl) rfl (eok_op r2_add (eok_var rfl) (eok_tup (aok_cons eok_str (aok_cons eok_str (aok_cons eok_str (aok_cons eok_str (aok_cons eok_str (aok_cons eok_str (aok_cons eok_str (aok_cons eok_str (aok_cons eok_str (aok_cons eok_str aok_nil))))))))))))) (sok_seq (sok_setK ⟨rfl, rfl⟩ (np rfl) rfl (eok_tup (aok_cons (eok_tup (aok_cons eok_str (aok_cons eok_int (aok_cons eok_str aok_nil)))) (aok_cons (eok_tup (aok_cons eok_str (aok_cons eok_int (aok_cons eok_str aok_nil)))) (aok_cons (eok_tup (aok_cons eok_str (aok_cons eok_int (aok_cons eok_str aok_nil)))) (aok_cons (eok_tup (aok_cons eok_str (aok_cons eok_int (aok_cons eok_str aok_nil)))) (aok_cons (eok_tup (aok_cons eok_str (aok_cons eok_int (aok_cons eok_str aok_nil)))) (aok_cons (eok_tup (aok_cons eok_str (aok_cons eok_int (aok_cons eok_str aok_nil)))) (aok_cons (eok_tup (aok_cons eok_str (aok_cons eok_int (aok_cons eok_str aok_nil)))) (aok_cons (eok_tup (aok_cons eok_str (aok_cons eok_int (aok_cons eok_str aok_nil)))) (aok_cons (eok_tup (aok_cons eok_str (aok_cons (eok_tup (aok_cons eok_int (aok_cons (eok_tup (aok_cons (eok_tup (aok_cons eok_str aok_nil)) (aok_cons (eok_tup (aok_cons eok_str (aok_cons eok_int aok_nil))) aok_nil))) aok_nil))) aok_nil))) (aok_cons (eok_tup (aok_cons eok_str (aok_cons (eok_tup (aok_cons eok_int (aok_cons (eok_tup aok_nil) aok_nil))) aok_nil))) (aok_cons (eok_tup (aok_cons eok_str (aok_cons eok_int (aok_cons eok_str aok_nil)))) (aok_cons (eok_tup (aok_cons eok_str (aok_cons eok_int (aok_cons eok_str aok_nil)))) aok_nil)))))))))))))) (sok_seq (sok_setK ⟨rfl, rfl⟩ (np rfl) rfl (eok_op r2_add (eok_var rfl) (eok_tup (aok_cons (eok_tup (aok_cons eok_str (aok_cons (eok_tup (aok_cons eok_int (aok_cons (eok_tup (aok_cons (eok_tup (aok_cons eok_str (aok_cons eok_int (aok_cons (eok_un u1_neg eok_int) (aok_cons eok_int aok_nil))))) aok_nil)) aok_nil))) aok_nil))) (aok_cons (eok_tup (aok_cons eok_str (aok_cons (eok_tup (aok_cons eok_int (aok_cons (eok_tup (aok_cons (eok_tup (aok_cons eok_str (aok_cons eok_int (aok_cons (eok_un u1_neg eok_int) (aok_cons eok_int aok_nil))))) aok_nil)) aok_nil))) aok_nil))) (aok_cons (eok_tup (aok_cons eok_str (aok_cons eok_int (aok_cons eok_str aok_nil)))) (aok_cons (eok_tup (aok_cons eok_str (aok_cons eok_int (aok_cons eok_str aok_nil)))) (aok_cons (eok_tup (aok_cons eok_str (aok_cons eok_int (aok_cons eok_str aok_nil)))) (aok_cons (eok_tup (aok_cons eok_str (aok_cons eok_int (aok_cons eok_str aok_nil)))) (aok_cons (eok_tup (aok_cons eok_str (aok_cons eok_int (aok_cons eok_str aok_nil)))) (aok_cons (eok_tup (aok_cons eok_str (aok_cons eok_int (aok_cons eok_str aok_nil)))) (aok_cons (eok_if (tok_test (eok_op r2_eq (eok_call (aok_cons eok_str aok_nil)) eok_int)) (eok_tup (aok_cons eok_str (aok_cons eok_int (aok_cons eok_str aok_nil)))) (eok_tup (aok_cons eok_str (aok_cons eok_int (aok_cons eok_str aok_nil))))) aok_nil)))))))))))) (sok_seq (sok_setK ⟨rfl, rfl⟩ (np rfl) rfl (eok_op r2_add (eok_var rfl) (eok_tup (aok_cons (eok_tup (aok_cons eok_str (aok_cons eok_int (aok_cons eok_str aok_nil)))) (aok_cons (eok_tup (aok_cons eok_str (aok_cons eok_int (aok_cons eok_str aok_nil)))) (aok_cons (eok_tup (aok_cons eok_str (aok_cons (eok_tup (aok_cons eok_int (aok_cons (eok_tup (aok_cons (eok_tup (aok_cons eok_str (aok_cons eok_int aok_nil))) aok_nil)) aok_nil))) aok_nil))) (aok_cons (eok_tup (aok_cons eok_str (aok_cons eok_int (aok_cons eok_str aok_nil)))) (aok_cons (eok_tup (aok_cons eok_str (aok_cons eok_int (aok_cons eok_str aok_nil)))) (aok_cons (eok_tup (aok_cons eok_str (aok_cons eok_int (aok_cons eok_str aok_nil)))) aok_nil))))))))) (sok_seq (sok_for ⟨rfl, rfl⟩ (np2 rfl) (iok_range1 (aok_cons (eok_cb c1_len (aok_cons (eok_var rfl) aok_nil)) aok_nil)) (gok_nameK (i := 5) rfl) (sok_if ⟨rfl, rfl⟩ (tok_not (tok_b (eok_call (aok_cons (eok_tup (aok_cons (eok_call (aok_cons (eok_op r2_ix (eok_var rfl) (eok_var rfl)) aok_nil)) (aok_cons (eok_call (aok_cons (eok_op r2_ix (eok_var rfl) (eok_var rfl)) aok_nil)) aok_nil))) (aok_cons (eok_op r2_mul (eok_tup (aok_cons (eok_op r2_ix (eok_var rfl) (eok_var rfl)) aok_nil)) eok_int) aok_nil))))) (sok_ret ⟨rfl, rfl⟩ eok_bl) sok_next)) (sok_seq (sok_setK ⟨rfl, rfl⟩ (np rfl) rfl (eok_tup (aok_cons (eok_callK aok_nil (aok_cons (eok_tup (aok_cons eok_int (aok_cons (eok_tup (aok_cons (eok_tup (aok_cons eok_str (aok_cons eok_int (aok_cons (eok_un u1_neg eok_int) (aok_cons eok_int aok_nil))))) (aok_cons (eok_tup (aok_cons eok_str (aok_cons eok_int (aok_cons eok_int aok_nil)))) aok_nil))) aok_nil))) aok_nil)) (aok_cons (eok_call (aok_cons (eok_tup (aok_cons eok_int (aok_cons (eok_tup aok_nil) aok_nil))) aok_nil)) (aok_cons (eok_callK aok_nil (aok_cons eok_str aok_nil)) aok_nil))))) (sok_ret ⟨rfl, rfl⟩ (eok_call (aok_cons (eok_var rfl) (aok_cons (eok_tup (aok_cons eok_str (aok_cons eok_str (aok_cons (eok_tup (aok_cons eok_int (aok_cons (eok_tup aok_nil) aok_nil))) aok_nil)))) aok_nil))))))))))))) h⟩
def clsStmt (st : Stmt) (j : Nat) : Stmt := match st with
  | .ClassDef _ _ _ body _ _ _ _ _ _ _ => body.getD j (.Pass ⟨0, 0, 0, 0⟩)
  | _ => .Pass ⟨0, 0, 0, 0⟩
def init_BadText : Stmt := clsStmt (top 3) 0
def bdy_BadText : List (Str × PySem.DLX.Pl) := [("line", ⟨9, 25, 9, 29⟩, ⟨10, 8, 10, 12⟩, ⟨10, 8, 10, 17⟩, ⟨10, 20, 10, 24⟩, ⟨10, 8, 10, 24⟩), ("word", ⟨9, 31, 9, 35⟩, ⟨11, 8, 11, 12⟩, ⟨11, 8, 11, 17⟩, ⟨11, 20, 11, 24⟩, ⟨11, 8, 11, 24⟩)]
theorem all_mk {P : Program} {w : World} {K : PySem.W.Frag} {h : Heap} {mg : Mg} {fa : Addr} (X : K.In h) (G : h.Ns mainGlobals mg) (hfa : mg "law" = some (.ref fa))
    {C_BadText C_MoveError C_TextError : Addr}
    {nm_BadText qn_BadText : Str} {NN_BadText : Addr} {bs_BadText sub_BadText : List Value} {sn_BadText : List Str} {ab_BadText : Bool} {col_BadText : Option Bool} {dd_BadText : Option Addr} {m0_BadText m1_BadText m2_BadText m3_BadText m5_BadText : Option Value}
    {fI_BadText cda_BadText cc_BadText : Addr} {odI_BadText anI_BadText cddI_BadText : Option Addr} {slI_BadText : Array (Option Value)} {ocI_BadText docI_BadText pmI_BadText ctI_BadText : Value}
    {ccl_BadText ccv_BadText : Value} {cldI_BadText : Option Addr} {ccs_BadText csl_BadText : Array (Option Value)} {vsI_BadText : Array Value} {file_BadText : Str} {tf_BadText : Tok}
    {G_AMOUNTS : Addr} {god_AMOUNTS : Option Addr} {gi_AMOUNTS : Array Value} {gn_AMOUNTS : Nat} {gsl_AMOUNTS : Array (Option Value)}
    {tk_FIGURES : Tok}
    {tk_NEWLINE : Tok}
    {G_SIZES : Addr} {ge_SIZES : Array DictEntry} {gn_SIZES : Nat}
    {f_lines_of f_line_words f_is_passed_over f_read_lines f_last_line f_text_of_lines f_is_written f_row_line f_code_lines f_code_text f_is_number f_read_row f_read_code f__law_reel f__law_spin f__law_alike f__law_long f__law_number f__law_read f__law_heard f__law_code f__law_lines f__law_loose f__law_bent f__law_asked f_law : Addr}
    {od_lines_of an_lines_of : Option Addr} {sl_lines_of : Array (Option Value)} {oc_lines_of kV_lines_of dc_lines_of pm_lines_of cd_lines_of ct_lines_of : Value}
    {od_line_words an_line_words : Option Addr} {sl_line_words : Array (Option Value)} {oc_line_words kV_line_words dc_line_words pm_line_words cd_line_words ct_line_words : Value}
    {od_is_passed_over an_is_passed_over : Option Addr} {sl_is_passed_over : Array (Option Value)} {oc_is_passed_over kV_is_passed_over dc_is_passed_over pm_is_passed_over cd_is_passed_over ct_is_passed_over : Value}
    {od_read_lines an_read_lines : Option Addr} {sl_read_lines : Array (Option Value)} {oc_read_lines kV_read_lines dc_read_lines pm_read_lines cd_read_lines ct_read_lines : Value}
    {od_last_line an_last_line : Option Addr} {sl_last_line : Array (Option Value)} {oc_last_line kV_last_line dc_last_line pm_last_line cd_last_line ct_last_line : Value}
    {od_text_of_lines an_text_of_lines : Option Addr} {sl_text_of_lines : Array (Option Value)} {oc_text_of_lines kV_text_of_lines dc_text_of_lines pm_text_of_lines cd_text_of_lines ct_text_of_lines : Value}
    {od_is_written an_is_written : Option Addr} {sl_is_written : Array (Option Value)} {oc_is_written kV_is_written dc_is_written pm_is_written cd_is_written ct_is_written : Value}
    {od_row_line an_row_line : Option Addr} {sl_row_line : Array (Option Value)} {oc_row_line kV_row_line dc_row_line pm_row_line cd_row_line ct_row_line : Value}
    {od_code_lines an_code_lines : Option Addr} {sl_code_lines : Array (Option Value)} {oc_code_lines kV_code_lines dc_code_lines pm_code_lines cd_code_lines ct_code_lines : Value}
    {od_code_text an_code_text : Option Addr} {sl_code_text : Array (Option Value)} {oc_code_text kV_code_text dc_code_text pm_code_text cd_code_text ct_code_text : Value}
    {od_is_number an_is_number : Option Addr} {sl_is_number : Array (Option Value)} {oc_is_number kV_is_number dc_is_number pm_is_number cd_is_number ct_is_number : Value}
    {od_read_row an_read_row : Option Addr} {sl_read_row : Array (Option Value)} {oc_read_row kV_read_row dc_read_row pm_read_row cd_read_row ct_read_row : Value}
    {od_read_code an_read_code : Option Addr} {sl_read_code : Array (Option Value)} {oc_read_code kV_read_code dc_read_code pm_read_code cd_read_code ct_read_code : Value}
    {od__law_reel an__law_reel : Option Addr} {sl__law_reel : Array (Option Value)} {oc__law_reel kV__law_reel dc__law_reel pm__law_reel cd__law_reel ct__law_reel : Value}
    {od__law_spin an__law_spin : Option Addr} {sl__law_spin : Array (Option Value)} {oc__law_spin kV__law_spin dc__law_spin pm__law_spin cd__law_spin ct__law_spin : Value}
    {od__law_alike an__law_alike : Option Addr} {sl__law_alike : Array (Option Value)} {oc__law_alike kV__law_alike dc__law_alike pm__law_alike cd__law_alike ct__law_alike : Value}
    {od__law_long an__law_long : Option Addr} {sl__law_long : Array (Option Value)} {oc__law_long kV__law_long dc__law_long pm__law_long cd__law_long ct__law_long : Value}
    {od__law_number an__law_number : Option Addr} {sl__law_number : Array (Option Value)} {oc__law_number kV__law_number dc__law_number pm__law_number cd__law_number ct__law_number : Value}
    {od__law_read an__law_read : Option Addr} {sl__law_read : Array (Option Value)} {oc__law_read kV__law_read dc__law_read pm__law_read cd__law_read ct__law_read : Value}
    {od__law_heard an__law_heard : Option Addr} {sl__law_heard : Array (Option Value)} {oc__law_heard kV__law_heard dc__law_heard pm__law_heard cd__law_heard ct__law_heard : Value}
    {od__law_code an__law_code : Option Addr} {sl__law_code : Array (Option Value)} {oc__law_code kV__law_code dc__law_code pm__law_code cd__law_code ct__law_code : Value}
    {od__law_lines an__law_lines : Option Addr} {sl__law_lines : Array (Option Value)} {oc__law_lines kV__law_lines dc__law_lines pm__law_lines cd__law_lines ct__law_lines : Value}
    {od__law_loose an__law_loose : Option Addr} {sl__law_loose : Array (Option Value)} {oc__law_loose kV__law_loose dc__law_loose pm__law_loose cd__law_loose ct__law_loose : Value}
    {od__law_bent an__law_bent : Option Addr} {sl__law_bent : Array (Option Value)} {oc__law_bent kV__law_bent dc__law_bent pm__law_bent cd__law_bent ct__law_bent : Value}
    {od__law_asked an__law_asked : Option Addr} {sl__law_asked : Array (Option Value)} {oc__law_asked kV__law_asked dc__law_asked pm__law_asked cd__law_asked ct__law_asked : Value}
    {od_law an_law : Option Addr} {sl_law : Array (Option Value)} {oc_law kV_law dc_law pm_law cd_law ct_law : Value}
    (aC_BadText : PySem.W.nsIn K mainGlobals "BadText" = some (some (.ref C_BadText)))
    (aC_MoveError : PySem.W.nsIn K mainGlobals "MoveError" = some (some (.ref C_MoveError)))
    (aC_TextError : PySem.W.nsIn K mainGlobals "TextError" = some (some (.ref C_TextError)))
    (eC_BadText : PySem.W.subIn K (.ref C_BadText) (.type "BaseException") = some true)
    (tC_BadText : PySem.W.typeIn K (.ref C_BadText) = some (.type "type"))
    (iC_BadText : PySem.W.isClsIn K C_BadText = true)
    (eC_MoveError : PySem.W.subIn K (.ref C_MoveError) (.type "BaseException") = some true)
    (tC_MoveError : PySem.W.typeIn K (.ref C_MoveError) = some (.type "type"))
    (iC_MoveError : PySem.W.isClsIn K C_MoveError = true)
    (eC_TextError : PySem.W.subIn K (.ref C_TextError) (.type "BaseException") = some true)
    (tC_TextError : PySem.W.typeIn K (.ref C_TextError) = some (.type "type"))
    (iC_TextError : PySem.W.isClsIn K C_TextError = true)
    (s_BadText_BadText : PySem.W.subIn K (.ref C_BadText) (.ref C_BadText) = some true)
    (q_BadText_MoveError : PySem.W.kitOne K (.ref C_BadText) (.ref C_MoveError) = some true)
    (q_BadText_TextError : PySem.W.kitOne K (.ref C_BadText) (.ref C_TextError) = some true)
    (xC_BadText : K.lookup C_BadText = some (excClassObj nm_BadText qn_BadText C_BadText NN_BadText bs_BadText [.ref C_TextError, .ref C_MoveError, .type "ValueError", .type "Exception", .type "BaseException", .type "object"] true sn_BadText sub_BadText ab_BadText col_BadText dd_BadText m0_BadText m1_BadText m2_BadText m3_BadText m5_BadText "ValueError.__new__"))
    (al_BadText : PySem.W.alongIn K "__init__" [.ref C_TextError, .ref C_MoveError, .type "ValueError", .type "Exception", .type "BaseException", .type "object"] = some (some (.builtin "ValueError.__init__")))
    (sa_BadText : PySem.W.findIn K (.ref C_BadText) "__setattr__" = some (some (.builtin "object.__setattr__")))
    (ga_BadText : PySem.W.findIn K (.ref C_BadText) "__getattribute__" = some (some (.builtin "BaseException.__getattribute__")))
    (gg_BadText : PySem.W.findIn K (.ref C_BadText) "__getattr__" = some none)
    (nf_line_BadText : PySem.W.findIn K (.ref C_BadText) "line" = some none)
    (nf_word_BadText : PySem.W.findIn K (.ref C_BadText) "word" = some none)
    (hd_BadText : PySem.W.hasDictIn K C_BadText = true)
    (kC_BadText : PySem.W.keepIn K (.ref C_BadText) = true)
    (fi_BadText : PySem.W.findIn K (.ref C_BadText) "__init__" = some (some (.ref fI_BadText)))
    (ti_BadText : PySem.W.typeIn K (.ref fI_BadText) = some (.type "function"))
    (li_BadText : K.lookup fI_BadText = some ⟨ocI_BadText, odI_BadText, .func (PySem.W.fnX "__init__" "BadText.__init__" (defArgs init_BadText) (PySem.DLX.bdy bdy_BadText ⟨9, 8, 9, 13⟩ ⟨9, 8, 9, 15⟩ ⟨9, 8, 9, 24⟩ ⟨9, 8, 9, 36⟩ ⟨9, 8, 9, 36⟩) (defScope init_BadText) [("__class__", cc_BadText)] .none .none docI_BadText pmI_BadText anI_BadText (.ref cda_BadText) ctI_BadText), slI_BadText⟩)
    (cd_BadText : PySem.W.codeIn K (.ref cda_BadText) "BadText.__init__" = true)
    (la_BadText : K.lookup cda_BadText = some ⟨ccl_BadText, cddI_BadText, .fields vsI_BadText, ccs_BadText⟩)
    (v2_BadText : vsI_BadText[2]? = some (.str file_BadText tf_BadText))
    (fl_BadText : ((P.main.file : Str) == file_BadText) = true)
    (lc_BadText : K.lookup cc_BadText = some ⟨ccv_BadText, cldI_BadText, .cell (some (.ref C_BadText)), csl_BadText⟩)
    (op_any : PySem.W.nsIn K cStatics "thirdparty.any" = some none)
    (z_super : PySem.W.nsIn K mainGlobals "super" = some none)
    (sup_none : (P.main.scope.names.lookup ("super" : Str)).isSome = false)
    (z_abs : PySem.W.nsIn K mainGlobals "abs" = some none)
    (z_bool : PySem.W.nsIn K mainGlobals "bool" = some none)
    (z_enumerate : PySem.W.nsIn K mainGlobals "enumerate" = some none)
    (z_int : PySem.W.nsIn K mainGlobals "int" = some none)
    (z_isinstance : PySem.W.nsIn K mainGlobals "isinstance" = some none)
    (z_len : PySem.W.nsIn K mainGlobals "len" = some none)
    (z_list : PySem.W.nsIn K mainGlobals "list" = some none)
    (z_range : PySem.W.nsIn K mainGlobals "range" = some none)
    (z_str : PySem.W.nsIn K mainGlobals "str" = some none)
    (z_tuple : PySem.W.nsIn K mainGlobals "tuple" = some none)
    (xa_BadText : PySem.W.findIn K (.ref C_BadText) "__class__" = some (some (.builtin "object.__class__")))
    (xm_BadText : PySem.W.mroIn K C_BadText (.type "object") = some true)
    (x_sp : PySem.W.specialIn K (.builtin "object.__class__") "__get__" = some (some (.builtin "getset_descriptor.__get__")))
    (x_tk : PySem.W.takesIn K (.builtin "object.__class__") = some true)
    (a_gAMOUNTS : PySem.W.nsIn K mainGlobals "AMOUNTS" = some (some (.ref G_AMOUNTS)))
    (gl_AMOUNTS : K.lookup G_AMOUNTS = some ⟨.type "tuple", god_AMOUNTS, .seq gi_AMOUNTS gn_AMOUNTS, gsl_AMOUNTS⟩)
    (gz_AMOUNTS : gi_AMOUNTS.size ≤ sizeLine)
    (gv_AMOUNTS : L2.Vals [.str "-1", .str "-2"] gi_AMOUNTS.toList)
    (a_gFIGURES : PySem.W.nsIn K mainGlobals "FIGURES" = some (some (.str "0123456789" tk_FIGURES)))
    (a_gNEWLINE : PySem.W.nsIn K mainGlobals "NEWLINE" = some (some (.str "\n" tk_NEWLINE)))
    (a_gSIZES : PySem.W.nsIn K mainGlobals "SIZES" = some (some (.ref G_SIZES)))
    (gl_SIZES : K.lookup G_SIZES = some ⟨.type "dict", none, .dict ge_SIZES gn_SIZES, #[]⟩)
    (gk_SIZES : PySem.W.KeysLit w.params ge_SIZES.toList)
    (gd_SIZES : Ents K ge_SIZES.toList [("turn", (.int 1)), ("cut", (.int 4)), ("put", (.int 3)), ("copy", (.int 3)), ("keep", (.int 2)), ("empty", (.int 2)), ("swap", (.int 2)), ("set", (.int 3)), ("less", (.int 3))])
    (gw_SIZES : (G_SIZES == sysModules) = false)
    (a_lines_of : PySem.W.nsIn K mainGlobals "lines_of" = some (some (.ref f_lines_of)))
    (l_lines_of : K.lookup f_lines_of = some ⟨oc_lines_of, od_lines_of, .func (PySem.W.fnOf "lines_of" "lines_of" (defArgs s_lines_of) (defBody s_lines_of) (defScope s_lines_of) .none kV_lines_of dc_lines_of pm_lines_of an_lines_of cd_lines_of ct_lines_of), sl_lines_of⟩)
    (c_lines_of : PySem.W.codeIn K cd_lines_of "lines_of" = true)
    (k_lines_of : PySem.W.keepIn K (.ref f_lines_of) = true)
    (a_line_words : PySem.W.nsIn K mainGlobals "line_words" = some (some (.ref f_line_words)))
    (l_line_words : K.lookup f_line_words = some ⟨oc_line_words, od_line_words, .func (PySem.W.fnOf "line_words" "line_words" (defArgs s_line_words) (defBody s_line_words) (defScope s_line_words) .none kV_line_words dc_line_words pm_line_words an_line_words cd_line_words ct_line_words), sl_line_words⟩)
    (c_line_words : PySem.W.codeIn K cd_line_words "line_words" = true)
    (k_line_words : PySem.W.keepIn K (.ref f_line_words) = true)
    (a_is_passed_over : PySem.W.nsIn K mainGlobals "is_passed_over" = some (some (.ref f_is_passed_over)))
    (l_is_passed_over : K.lookup f_is_passed_over = some ⟨oc_is_passed_over, od_is_passed_over, .func (PySem.W.fnOf "is_passed_over" "is_passed_over" (defArgs s_is_passed_over) (defBody s_is_passed_over) (defScope s_is_passed_over) .none kV_is_passed_over dc_is_passed_over pm_is_passed_over an_is_passed_over cd_is_passed_over ct_is_passed_over), sl_is_passed_over⟩)
    (c_is_passed_over : PySem.W.codeIn K cd_is_passed_over "is_passed_over" = true)
    (k_is_passed_over : PySem.W.keepIn K (.ref f_is_passed_over) = true)
    (a_read_lines : PySem.W.nsIn K mainGlobals "read_lines" = some (some (.ref f_read_lines)))
    (l_read_lines : K.lookup f_read_lines = some ⟨oc_read_lines, od_read_lines, .func (PySem.W.fnOf "read_lines" "read_lines" (defArgs s_read_lines) (defBody s_read_lines) (defScope s_read_lines) .none kV_read_lines dc_read_lines pm_read_lines an_read_lines cd_read_lines ct_read_lines), sl_read_lines⟩)
    (c_read_lines : PySem.W.codeIn K cd_read_lines "read_lines" = true)
    (k_read_lines : PySem.W.keepIn K (.ref f_read_lines) = true)
    (a_last_line : PySem.W.nsIn K mainGlobals "last_line" = some (some (.ref f_last_line)))
    (l_last_line : K.lookup f_last_line = some ⟨oc_last_line, od_last_line, .func (PySem.W.fnOf "last_line" "last_line" (defArgs s_last_line) (defBody s_last_line) (defScope s_last_line) .none kV_last_line dc_last_line pm_last_line an_last_line cd_last_line ct_last_line), sl_last_line⟩)
    (c_last_line : PySem.W.codeIn K cd_last_line "last_line" = true)
    (k_last_line : PySem.W.keepIn K (.ref f_last_line) = true)
    (a_text_of_lines : PySem.W.nsIn K mainGlobals "text_of_lines" = some (some (.ref f_text_of_lines)))
    (l_text_of_lines : K.lookup f_text_of_lines = some ⟨oc_text_of_lines, od_text_of_lines, .func (PySem.W.fnOf "text_of_lines" "text_of_lines" (defArgs s_text_of_lines) (defBody s_text_of_lines) (defScope s_text_of_lines) .none kV_text_of_lines dc_text_of_lines pm_text_of_lines an_text_of_lines cd_text_of_lines ct_text_of_lines), sl_text_of_lines⟩)
    (c_text_of_lines : PySem.W.codeIn K cd_text_of_lines "text_of_lines" = true)
    (k_text_of_lines : PySem.W.keepIn K (.ref f_text_of_lines) = true)
    (a_is_written : PySem.W.nsIn K mainGlobals "is_written" = some (some (.ref f_is_written)))
    (l_is_written : K.lookup f_is_written = some ⟨oc_is_written, od_is_written, .func (PySem.W.fnOf "is_written" "is_written" (defArgs s_is_written) (defBody s_is_written) (defScope s_is_written) .none kV_is_written dc_is_written pm_is_written an_is_written cd_is_written ct_is_written), sl_is_written⟩)
    (c_is_written : PySem.W.codeIn K cd_is_written "is_written" = true)
    (k_is_written : PySem.W.keepIn K (.ref f_is_written) = true)
    (a_row_line : PySem.W.nsIn K mainGlobals "row_line" = some (some (.ref f_row_line)))
    (l_row_line : K.lookup f_row_line = some ⟨oc_row_line, od_row_line, .func (PySem.W.fnOf "row_line" "row_line" (defArgs s_row_line) (defBody s_row_line) (defScope s_row_line) .none kV_row_line dc_row_line pm_row_line an_row_line cd_row_line ct_row_line), sl_row_line⟩)
    (c_row_line : PySem.W.codeIn K cd_row_line "row_line" = true)
    (k_row_line : PySem.W.keepIn K (.ref f_row_line) = true)
    (a_code_lines : PySem.W.nsIn K mainGlobals "code_lines" = some (some (.ref f_code_lines)))
    (l_code_lines : K.lookup f_code_lines = some ⟨oc_code_lines, od_code_lines, .func (PySem.W.fnOf "code_lines" "code_lines" (defArgs s_code_lines) (defBody s_code_lines) (defScope s_code_lines) .none kV_code_lines dc_code_lines pm_code_lines an_code_lines cd_code_lines ct_code_lines), sl_code_lines⟩)
    (c_code_lines : PySem.W.codeIn K cd_code_lines "code_lines" = true)
    (k_code_lines : PySem.W.keepIn K (.ref f_code_lines) = true)
    (a_code_text : PySem.W.nsIn K mainGlobals "code_text" = some (some (.ref f_code_text)))
    (l_code_text : K.lookup f_code_text = some ⟨oc_code_text, od_code_text, .func (PySem.W.fnOf "code_text" "code_text" (defArgs s_code_text) (defBody s_code_text) (defScope s_code_text) .none kV_code_text dc_code_text pm_code_text an_code_text cd_code_text ct_code_text), sl_code_text⟩)
    (c_code_text : PySem.W.codeIn K cd_code_text "code_text" = true)
    (k_code_text : PySem.W.keepIn K (.ref f_code_text) = true)
    (a_is_number : PySem.W.nsIn K mainGlobals "is_number" = some (some (.ref f_is_number)))
    (l_is_number : K.lookup f_is_number = some ⟨oc_is_number, od_is_number, .func (PySem.W.fnOf "is_number" "is_number" (defArgs s_is_number) (defBody s_is_number) (defScope s_is_number) .none kV_is_number dc_is_number pm_is_number an_is_number cd_is_number ct_is_number), sl_is_number⟩)
    (c_is_number : PySem.W.codeIn K cd_is_number "is_number" = true)
    (k_is_number : PySem.W.keepIn K (.ref f_is_number) = true)
    (a_read_row : PySem.W.nsIn K mainGlobals "read_row" = some (some (.ref f_read_row)))
    (l_read_row : K.lookup f_read_row = some ⟨oc_read_row, od_read_row, .func (PySem.W.fnOf "read_row" "read_row" (defArgs s_read_row) (defBody s_read_row) (defScope s_read_row) .none kV_read_row dc_read_row pm_read_row an_read_row cd_read_row ct_read_row), sl_read_row⟩)
    (c_read_row : PySem.W.codeIn K cd_read_row "read_row" = true)
    (k_read_row : PySem.W.keepIn K (.ref f_read_row) = true)
    (a_read_code : PySem.W.nsIn K mainGlobals "read_code" = some (some (.ref f_read_code)))
    (l_read_code : K.lookup f_read_code = some ⟨oc_read_code, od_read_code, .func (PySem.W.fnOf "read_code" "read_code" (defArgs s_read_code) (defBody s_read_code) (defScope s_read_code) .none kV_read_code dc_read_code pm_read_code an_read_code cd_read_code ct_read_code), sl_read_code⟩)
    (c_read_code : PySem.W.codeIn K cd_read_code "read_code" = true)
    (k_read_code : PySem.W.keepIn K (.ref f_read_code) = true)
    (a__law_reel : PySem.W.nsIn K mainGlobals "_law_reel" = some (some (.ref f__law_reel)))
    (l__law_reel : K.lookup f__law_reel = some ⟨oc__law_reel, od__law_reel, .func (PySem.W.fnOf "_law_reel" "_law_reel" (defArgs s__law_reel) (defBody s__law_reel) (defScope s__law_reel) .none kV__law_reel dc__law_reel pm__law_reel an__law_reel cd__law_reel ct__law_reel), sl__law_reel⟩)
    (c__law_reel : PySem.W.codeIn K cd__law_reel "_law_reel" = true)
    (k__law_reel : PySem.W.keepIn K (.ref f__law_reel) = true)
    (a__law_spin : PySem.W.nsIn K mainGlobals "_law_spin" = some (some (.ref f__law_spin)))
    (l__law_spin : K.lookup f__law_spin = some ⟨oc__law_spin, od__law_spin, .func (PySem.W.fnOf "_law_spin" "_law_spin" (defArgs s__law_spin) (defBody s__law_spin) (defScope s__law_spin) .none kV__law_spin dc__law_spin pm__law_spin an__law_spin cd__law_spin ct__law_spin), sl__law_spin⟩)
    (c__law_spin : PySem.W.codeIn K cd__law_spin "_law_spin" = true)
    (k__law_spin : PySem.W.keepIn K (.ref f__law_spin) = true)
    (a__law_alike : PySem.W.nsIn K mainGlobals "_law_alike" = some (some (.ref f__law_alike)))
    (l__law_alike : K.lookup f__law_alike = some ⟨oc__law_alike, od__law_alike, .func (PySem.W.fnOf "_law_alike" "_law_alike" (defArgs s__law_alike) (defBody s__law_alike) (defScope s__law_alike) .none kV__law_alike dc__law_alike pm__law_alike an__law_alike cd__law_alike ct__law_alike), sl__law_alike⟩)
    (c__law_alike : PySem.W.codeIn K cd__law_alike "_law_alike" = true)
    (k__law_alike : PySem.W.keepIn K (.ref f__law_alike) = true)
    (a__law_long : PySem.W.nsIn K mainGlobals "_law_long" = some (some (.ref f__law_long)))
    (l__law_long : K.lookup f__law_long = some ⟨oc__law_long, od__law_long, .func (PySem.W.fnOf "_law_long" "_law_long" (defArgs s__law_long) (defBody s__law_long) (defScope s__law_long) .none kV__law_long dc__law_long pm__law_long an__law_long cd__law_long ct__law_long), sl__law_long⟩)
    (c__law_long : PySem.W.codeIn K cd__law_long "_law_long" = true)
    (k__law_long : PySem.W.keepIn K (.ref f__law_long) = true)
    (a__law_number : PySem.W.nsIn K mainGlobals "_law_number" = some (some (.ref f__law_number)))
    (l__law_number : K.lookup f__law_number = some ⟨oc__law_number, od__law_number, .func (PySem.W.fnOf "_law_number" "_law_number" (defArgs s__law_number) (defBody s__law_number) (defScope s__law_number) .none kV__law_number dc__law_number pm__law_number an__law_number cd__law_number ct__law_number), sl__law_number⟩)
    (c__law_number : PySem.W.codeIn K cd__law_number "_law_number" = true)
    (k__law_number : PySem.W.keepIn K (.ref f__law_number) = true)
    (a__law_read : PySem.W.nsIn K mainGlobals "_law_read" = some (some (.ref f__law_read)))
    (l__law_read : K.lookup f__law_read = some ⟨oc__law_read, od__law_read, .func (PySem.W.fnOf "_law_read" "_law_read" (defArgs s__law_read) (defBody s__law_read) (defScope s__law_read) .none kV__law_read dc__law_read pm__law_read an__law_read cd__law_read ct__law_read), sl__law_read⟩)
    (c__law_read : PySem.W.codeIn K cd__law_read "_law_read" = true)
    (k__law_read : PySem.W.keepIn K (.ref f__law_read) = true)
    (a__law_heard : PySem.W.nsIn K mainGlobals "_law_heard" = some (some (.ref f__law_heard)))
    (l__law_heard : K.lookup f__law_heard = some ⟨oc__law_heard, od__law_heard, .func (PySem.W.fnOf "_law_heard" "_law_heard" (defArgs s__law_heard) (defBody s__law_heard) (defScope s__law_heard) .none kV__law_heard dc__law_heard pm__law_heard an__law_heard cd__law_heard ct__law_heard), sl__law_heard⟩)
    (c__law_heard : PySem.W.codeIn K cd__law_heard "_law_heard" = true)
    (k__law_heard : PySem.W.keepIn K (.ref f__law_heard) = true)
    (a__law_code : PySem.W.nsIn K mainGlobals "_law_code" = some (some (.ref f__law_code)))
    (l__law_code : K.lookup f__law_code = some ⟨oc__law_code, od__law_code, .func (PySem.W.fnOf "_law_code" "_law_code" (defArgs s__law_code) (defBody s__law_code) (defScope s__law_code) .none kV__law_code dc__law_code pm__law_code an__law_code cd__law_code ct__law_code), sl__law_code⟩)
    (c__law_code : PySem.W.codeIn K cd__law_code "_law_code" = true)
    (k__law_code : PySem.W.keepIn K (.ref f__law_code) = true)
    (a__law_lines : PySem.W.nsIn K mainGlobals "_law_lines" = some (some (.ref f__law_lines)))
    (l__law_lines : K.lookup f__law_lines = some ⟨oc__law_lines, od__law_lines, .func (PySem.W.fnOf "_law_lines" "_law_lines" (defArgs s__law_lines) (defBody s__law_lines) (defScope s__law_lines) .none kV__law_lines dc__law_lines pm__law_lines an__law_lines cd__law_lines ct__law_lines), sl__law_lines⟩)
    (c__law_lines : PySem.W.codeIn K cd__law_lines "_law_lines" = true)
    (k__law_lines : PySem.W.keepIn K (.ref f__law_lines) = true)
    (a__law_loose : PySem.W.nsIn K mainGlobals "_law_loose" = some (some (.ref f__law_loose)))
    (l__law_loose : K.lookup f__law_loose = some ⟨oc__law_loose, od__law_loose, .func (PySem.W.fnOf "_law_loose" "_law_loose" (defArgs s__law_loose) (defBody s__law_loose) (defScope s__law_loose) .none kV__law_loose dc__law_loose pm__law_loose an__law_loose cd__law_loose ct__law_loose), sl__law_loose⟩)
    (c__law_loose : PySem.W.codeIn K cd__law_loose "_law_loose" = true)
    (k__law_loose : PySem.W.keepIn K (.ref f__law_loose) = true)
    (a__law_bent : PySem.W.nsIn K mainGlobals "_law_bent" = some (some (.ref f__law_bent)))
    (l__law_bent : K.lookup f__law_bent = some ⟨oc__law_bent, od__law_bent, .func (PySem.W.fnOf "_law_bent" "_law_bent" (defArgs s__law_bent) (defBody s__law_bent) (defScope s__law_bent) .none kV__law_bent dc__law_bent pm__law_bent an__law_bent cd__law_bent ct__law_bent), sl__law_bent⟩)
    (c__law_bent : PySem.W.codeIn K cd__law_bent "_law_bent" = true)
    (k__law_bent : PySem.W.keepIn K (.ref f__law_bent) = true)
    (a__law_asked : PySem.W.nsIn K mainGlobals "_law_asked" = some (some (.ref f__law_asked)))
    (l__law_asked : K.lookup f__law_asked = some ⟨oc__law_asked, od__law_asked, .func (PySem.W.fnOf "_law_asked" "_law_asked" (defArgs s__law_asked) (defBody s__law_asked) (defScope s__law_asked) .none kV__law_asked dc__law_asked pm__law_asked an__law_asked cd__law_asked ct__law_asked), sl__law_asked⟩)
    (c__law_asked : PySem.W.codeIn K cd__law_asked "_law_asked" = true)
    (k__law_asked : PySem.W.keepIn K (.ref f__law_asked) = true)
    (a_law : PySem.W.nsIn K mainGlobals "law" = some (some (.ref f_law)))
    (l_law : K.lookup f_law = some ⟨oc_law, od_law, .func (PySem.W.fnOf "law" "law" (defArgs s_law) (defBody s_law) (defScope s_law) .none kV_law dc_law pm_law an_law cd_law ct_law), sl_law⟩)
    (c_law : PySem.W.codeIn K cd_law "law" = true)
    (k_law : PySem.W.keepIn K (.ref f_law) = true)
    : ∃ fd : FuncData, (∀ (s : Shared) (v : Value), BindsTo s fd ⟨[v], []⟩ [("script", v)]) ∧ ∀ base : Heap, K.In base → base.Ns mainGlobals mg → FnOk P w K mg base (L2.CX P w) 14 fa fd ["script"] (spLaw d_law K) := by
  have e := hfa.symm.trans (PySem.W.mg_of X G a_law)
  cases e
  have t_BadText : PySem.DLX.ExTxt P K mg "BadText" C_BadText ["line", "word"] := { gC := PySem.W.mg_of X G aC_BadText, kC := kC_BadText, cls := ⟨_, _, _, _, _, _, _, _, _, _, _, _, _, _, _, xC_BadText, by first | rfl | decide +kernel, al_BadText⟩, sa := sa_BadText, ga := ga_BadText, gg := gg_BadText, noF := fun f hf => by simp only [List.mem_cons, List.not_mem_nil, or_false] at hf; rcases hf with rfl | rfl <;> assumption, exC := eC_BadText, tyC := tC_BadText, hdC := hd_BadText, op := op_any, sup := PySem.W.mg_none_of X G z_super, nd := by decide, few := by decide, fn := ⟨_, fi_BadText, ti_BadText, _, _, _, _, bdy_BadText, _, _, _, _, _, _, _, _, _, _, _, _, _, _, _, _, _, _, _, _, _, _, li_BadText, cd_BadText, rfl, rfl, la_BadText, v2_BadText, fl_BadText, lc_BadText, sup_none, rfl, rfl, rfl, by decide +kernel, rfl, by decide +kernel, rfl, rfl, rfl, fun us hl => match us, hl with | [_, _, _], _ => rfl⟩ }
  have z : Zs mg := ⟨PySem.W.mg_none_of X G z_abs, PySem.W.mg_none_of X G z_bool, PySem.W.mg_none_of X G z_enumerate, PySem.W.mg_none_of X G z_int, PySem.W.mg_none_of X G z_isinstance, PySem.W.mg_none_of X G z_len, PySem.W.mg_none_of X G z_list, PySem.W.mg_none_of X G z_range, PySem.W.mg_none_of X G z_str, PySem.W.mg_none_of X G z_tuple⟩
  have x : Xs P w K mg C_BadText C_MoveError C_TextError G_AMOUNTS G_SIZES := ⟨t_BadText, PySem.W.mg_of X G aC_BadText, PySem.W.mg_of X G aC_MoveError, PySem.W.mg_of X G aC_TextError, exm_of eC_BadText eC_BadText iC_BadText tC_BadText s_BadText_BadText, is_of ⟨⟨C_BadText, PySem.W.mg_of X G aC_BadText, ⟨ga_BadText, gg_BadText, eC_BadText, hd_BadText, xa_BadText, x_sp, x_tk, xm_BadText⟩, q_BadText_MoveError⟩, trivial⟩, is_of ⟨⟨C_BadText, PySem.W.mg_of X G aC_BadText, ⟨ga_BadText, gg_BadText, eC_BadText, hd_BadText, xa_BadText, x_sp, x_tk, xm_BadText⟩, q_BadText_TextError⟩, trivial⟩, PySem.W.mg_of X G a_gAMOUNTS, (fun B => Rep.tup (.inr ⟨_, gi_AMOUNTS, gn_AMOUNTS, gl_AMOUNTS, rfl, rfl, gz_AMOUNTS, gv_AMOUNTS⟩) (.cons (.str "-1") (.cons (.str "-2") .nil))), ⟨_, PySem.W.mg_of X G a_gFIGURES⟩, ⟨_, PySem.W.mg_of X G a_gNEWLINE⟩, PySem.W.mg_of X G a_gSIZES, ⟨⟨ge_SIZES, gn_SIZES, gl_SIZES, gk_SIZES, gd_SIZES⟩, gw_SIZES⟩⟩
  have F_lines_of := fun_mk (st := s_lines_of) l_lines_of c_lines_of k_lines_of
  have D_lines_of : ∀ base : Heap, Df P w K mg base "lines_of" s_lines_of ["text"] 2 (p_lines_of K mg) := fun base => ⟨_, _, ok_lines_of z x  F_lines_of, PySem.W.mg_of X G a_lines_of, k_lines_of, F_lines_of.binds (ps := ["text"]) (fun _ _ _ _ _ _ us hl => match us, hl with | [_], _ => rfl), F_lines_of⟩
  have F_line_words := fun_mk (st := s_line_words) l_line_words c_line_words k_line_words
  have D_line_words : ∀ base : Heap, Df P w K mg base "line_words" s_line_words ["line"] 2 (p_line_words K mg) := fun base => ⟨_, _, ok_line_words z x  F_line_words, PySem.W.mg_of X G a_line_words, k_line_words, F_line_words.binds (ps := ["line"]) (fun _ _ _ _ _ _ us hl => match us, hl with | [_], _ => rfl), F_line_words⟩
  have F_is_passed_over := fun_mk (st := s_is_passed_over) l_is_passed_over c_is_passed_over k_is_passed_over
  have D_is_passed_over : ∀ base : Heap, Df P w K mg base "is_passed_over" s_is_passed_over ["words"] 2 (p_is_passed_over K mg) := fun base => ⟨_, _, ok_is_passed_over z x  F_is_passed_over, PySem.W.mg_of X G a_is_passed_over, k_is_passed_over, F_is_passed_over.binds (ps := ["words"]) (fun _ _ _ _ _ _ us hl => match us, hl with | [_], _ => rfl), F_is_passed_over⟩
  have F_text_of_lines := fun_mk (st := s_text_of_lines) l_text_of_lines c_text_of_lines k_text_of_lines
  have D_text_of_lines : ∀ base : Heap, Df P w K mg base "text_of_lines" s_text_of_lines ["lines"] 2 (p_text_of_lines K mg) := fun base => ⟨_, _, ok_text_of_lines z x  F_text_of_lines, PySem.W.mg_of X G a_text_of_lines, k_text_of_lines, F_text_of_lines.binds (ps := ["lines"]) (fun _ _ _ _ _ _ us hl => match us, hl with | [_], _ => rfl), F_text_of_lines⟩
  have F_is_written := fun_mk (st := s_is_written) l_is_written c_is_written k_is_written
  have D_is_written : ∀ base : Heap, Df P w K mg base "is_written" s_is_written ["word"] 2 (p_is_written K mg) := fun base => ⟨_, _, ok_is_written z x  F_is_written, PySem.W.mg_of X G a_is_written, k_is_written, F_is_written.binds (ps := ["word"]) (fun _ _ _ _ _ _ us hl => match us, hl with | [_], _ => rfl), F_is_written⟩
  have F_row_line := fun_mk (st := s_row_line) l_row_line c_row_line k_row_line
  have D_row_line : ∀ base : Heap, Df P w K mg base "row_line" s_row_line ["row"] 2 (p_row_line K mg) := fun base => ⟨_, _, ok_row_line z x  F_row_line, PySem.W.mg_of X G a_row_line, k_row_line, F_row_line.binds (ps := ["row"]) (fun _ _ _ _ _ _ us hl => match us, hl with | [_], _ => rfl), F_row_line⟩
  have F__law_reel := fun_mk (st := s__law_reel) l__law_reel c__law_reel k__law_reel
  have D__law_reel : ∀ base : Heap, Df P w K mg base "_law_reel" s__law_reel ["script"] 2 (p__law_reel K mg) := fun base => ⟨_, _, ok__law_reel z x  F__law_reel, PySem.W.mg_of X G a__law_reel, k__law_reel, F__law_reel.binds (ps := ["script"]) (fun _ _ _ _ _ _ us hl => match us, hl with | [_], _ => rfl), F__law_reel⟩
  have F__law_spin := fun_mk (st := s__law_spin) l__law_spin c__law_spin k__law_spin
  have D__law_spin : ∀ base : Heap, Df P w K mg base "_law_spin" s__law_spin ["reel", "many"] 2 (p__law_spin K mg) := fun base => ⟨_, _, ok__law_spin z x  F__law_spin, PySem.W.mg_of X G a__law_spin, k__law_spin, F__law_spin.binds (ps := ["reel", "many"]) (fun _ _ _ _ _ _ us hl => match us, hl with | [_, _], _ => rfl), F__law_spin⟩
  have F__law_alike := fun_mk (st := s__law_alike) l__law_alike c__law_alike k__law_alike
  have D__law_alike : ∀ base : Heap, Df P w K mg base "_law_alike" s__law_alike ["told", "due"] 2 (p__law_alike K mg) := fun base => ⟨_, _, ok__law_alike z x  F__law_alike, PySem.W.mg_of X G a__law_alike, k__law_alike, F__law_alike.binds (ps := ["told", "due"]) (fun _ _ _ _ _ _ us hl => match us, hl with | [_, _], _ => rfl), F__law_alike⟩
  have F__law_long := fun_mk (st := s__law_long) l__law_long c__law_long k__law_long
  have D__law_long : ∀ base : Heap, Df P w K mg base "_law_long" s__law_long ["word"] 2 (p__law_long K mg) := fun base => ⟨_, _, ok__law_long z x  F__law_long, PySem.W.mg_of X G a__law_long, k__law_long, F__law_long.binds (ps := ["word"]) (fun _ _ _ _ _ _ us hl => match us, hl with | [_], _ => rfl), F__law_long⟩
  have F__law_number := fun_mk (st := s__law_number) l__law_number c__law_number k__law_number
  have D__law_number : ∀ base : Heap, Df P w K mg base "_law_number" s__law_number ["word"] 2 (p__law_number K mg) := fun base => ⟨_, _, ok__law_number z x  F__law_number, PySem.W.mg_of X G a__law_number, k__law_number, F__law_number.binds (ps := ["word"]) (fun _ _ _ _ _ _ us hl => match us, hl with | [_], _ => rfl), F__law_number⟩
  have F__law_lines := fun_mk (st := s__law_lines) l__law_lines c__law_lines k__law_lines
  have D__law_lines : ∀ base : Heap, Df P w K mg base "_law_lines" s__law_lines ["code"] 2 (p__law_lines K mg) := fun base => ⟨_, _, ok__law_lines z x  F__law_lines, PySem.W.mg_of X G a__law_lines, k__law_lines, F__law_lines.binds (ps := ["code"]) (fun _ _ _ _ _ _ us hl => match us, hl with | [_], _ => rfl), F__law_lines⟩
  have F_read_lines := fun_mk (st := s_read_lines) l_read_lines c_read_lines k_read_lines
  have D_read_lines : ∀ base : Heap, Df P w K mg base "read_lines" s_read_lines ["text"] 4 (p_read_lines K mg) := fun base => ⟨_, _, ok_read_lines z x (D_lines_of base) (D_line_words base) (D_is_passed_over base) F_read_lines, PySem.W.mg_of X G a_read_lines, k_read_lines, F_read_lines.binds (ps := ["text"]) (fun _ _ _ _ _ _ us hl => match us, hl with | [_], _ => rfl), F_read_lines⟩
  have F_last_line := fun_mk (st := s_last_line) l_last_line c_last_line k_last_line
  have D_last_line : ∀ base : Heap, Df P w K mg base "last_line" s_last_line ["text"] 4 (p_last_line K mg) := fun base => ⟨_, _, ok_last_line z x (D_lines_of base) F_last_line, PySem.W.mg_of X G a_last_line, k_last_line, F_last_line.binds (ps := ["text"]) (fun _ _ _ _ _ _ us hl => match us, hl with | [_], _ => rfl), F_last_line⟩
  have F_code_lines := fun_mk (st := s_code_lines) l_code_lines c_code_lines k_code_lines
  have D_code_lines : ∀ base : Heap, Df P w K mg base "code_lines" s_code_lines ["code"] 4 (p_code_lines K mg) := fun base => ⟨_, _, ok_code_lines z x (D_row_line base) F_code_lines, PySem.W.mg_of X G a_code_lines, k_code_lines, F_code_lines.binds (ps := ["code"]) (fun _ _ _ _ _ _ us hl => match us, hl with | [_], _ => rfl), F_code_lines⟩
  have F_is_number := fun_mk (st := s_is_number) l_is_number c_is_number k_is_number
  have D_is_number : ∀ base : Heap, Df P w K mg base "is_number" s_is_number ["words", "at"] 4 (p_is_number K mg) := fun base => ⟨_, _, ok_is_number z x (D_is_written base) F_is_number, PySem.W.mg_of X G a_is_number, k_is_number, F_is_number.binds (ps := ["words", "at"]) (fun _ _ _ _ _ _ us hl => match us, hl with | [_, _], _ => rfl), F_is_number⟩
  have F__law_read := fun_mk (st := s__law_read) l__law_read c__law_read k__law_read
  have D__law_read : ∀ base : Heap, Df P w K mg base "_law_read" s__law_read ["text"] 4 (p__law_read K mg) := fun base => ⟨_, _, ok__law_read z x (D__law_long base) (D__law_number base) F__law_read, PySem.W.mg_of X G a__law_read, k__law_read, F__law_read.binds (ps := ["text"]) (fun _ _ _ _ _ _ us hl => match us, hl with | [_], _ => rfl), F__law_read⟩
  have F__law_code := fun_mk (st := s__law_code) l__law_code c__law_code k__law_code
  have D__law_code : ∀ base : Heap, Df P w K mg base "_law_code" s__law_code ["reel"] 4 (p__law_code K mg) := fun base => ⟨_, _, ok__law_code z x (D__law_spin base) (D__law_long base) F__law_code, PySem.W.mg_of X G a__law_code, k__law_code, F__law_code.binds (ps := ["reel"]) (fun _ _ _ _ _ _ us hl => match us, hl with | [_], _ => rfl), F__law_code⟩
  have F__law_loose := fun_mk (st := s__law_loose) l__law_loose c__law_loose k__law_loose
  have D__law_loose : ∀ base : Heap, Df P w K mg base "_law_loose" s__law_loose ["reel", "lines"] 4 (p__law_loose K mg) := fun base => ⟨_, _, ok__law_loose z x (D__law_spin base) F__law_loose, PySem.W.mg_of X G a__law_loose, k__law_loose, F__law_loose.binds (ps := ["reel", "lines"]) (fun _ _ _ _ _ _ us hl => match us, hl with | [_, _], _ => rfl), F__law_loose⟩
  have F__law_bent := fun_mk (st := s__law_bent) l__law_bent c__law_bent k__law_bent
  have D__law_bent : ∀ base : Heap, Df P w K mg base "_law_bent" s__law_bent ["reel", "lines"] 4 (p__law_bent K mg) := fun base => ⟨_, _, ok__law_bent z x (D__law_spin base) F__law_bent, PySem.W.mg_of X G a__law_bent, k__law_bent, F__law_bent.binds (ps := ["reel", "lines"]) (fun _ _ _ _ _ _ us hl => match us, hl with | [_, _], _ => rfl), F__law_bent⟩
  have F_code_text := fun_mk (st := s_code_text) l_code_text c_code_text k_code_text
  have D_code_text : ∀ base : Heap, Df P w K mg base "code_text" s_code_text ["code"] 6 (p_code_text K mg) := fun base => ⟨_, _, ok_code_text z x (D_text_of_lines base) (D_code_lines base) F_code_text, PySem.W.mg_of X G a_code_text, k_code_text, F_code_text.binds (ps := ["code"]) (fun _ _ _ _ _ _ us hl => match us, hl with | [_], _ => rfl), F_code_text⟩
  have F_read_row := fun_mk (st := s_read_row) l_read_row c_read_row k_read_row
  have D_read_row : ∀ base : Heap, Df P w K mg base "read_row" s_read_row ["line", "words"] 6 (p_read_row K mg) := fun base => ⟨_, _, ok_read_row z x (D_is_number base) F_read_row, PySem.W.mg_of X G a_read_row, k_read_row, F_read_row.binds (ps := ["line", "words"]) (fun _ _ _ _ _ _ us hl => match us, hl with | [_, _], _ => rfl), F_read_row⟩
  have F_read_code := fun_mk (st := s_read_code) l_read_code c_read_code k_read_code
  have D_read_code : ∀ base : Heap, Df P w K mg base "read_code" s_read_code ["text"] 8 (p_read_code K mg) := fun base => ⟨_, _, ok_read_code z x (D_read_lines base) (D_last_line base) (D_is_written base) (D_read_row base) F_read_code, PySem.W.mg_of X G a_read_code, k_read_code, F_read_code.binds (ps := ["text"]) (fun _ _ _ _ _ _ us hl => match us, hl with | [_], _ => rfl), F_read_code⟩
  have F__law_heard := fun_mk (st := s__law_heard) l__law_heard c__law_heard k__law_heard
  have D__law_heard : ∀ base : Heap, Df P w K mg base "_law_heard" s__law_heard ["text"] 10 (p__law_heard K mg) := fun base => ⟨_, _, ok__law_heard z x (D_read_code base) F__law_heard, PySem.W.mg_of X G a__law_heard, k__law_heard, F__law_heard.binds (ps := ["text"]) (fun _ _ _ _ _ _ us hl => match us, hl with | [_], _ => rfl), F__law_heard⟩
  have F__law_asked := fun_mk (st := s__law_asked) l__law_asked c__law_asked k__law_asked
  have D__law_asked : ∀ base : Heap, Df P w K mg base "_law_asked" s__law_asked ["reel"] 12 (p__law_asked K mg) := fun base => ⟨_, _, ok__law_asked z x (D__law_code base) (D__law_lines base) (D__law_alike base) (D__law_bent base) (D__law_loose base) (D_code_text base) (D__law_heard base) (D__law_read base) F__law_asked, PySem.W.mg_of X G a__law_asked, k__law_asked, F__law_asked.binds (ps := ["reel"]) (fun _ _ _ _ _ _ us hl => match us, hl with | [_], _ => rfl), F__law_asked⟩
  have F_law := fun_mk (st := s_law) l_law c_law k_law
  exact ⟨PySem.W.fnOf "law" "law" (defArgs s_law) (defBody s_law) (defScope s_law) .none kV_law dc_law pm_law an_law cd_law ct_law, fun s v => .of_eq rfl, fun base _ _ => (ok_law z x (D__law_reel base) (D__law_alike base) (D_code_text base) (D_read_code base) (D__law_asked base) (D__law_long base) (D__law_heard base) (D__law_read base) F_law).imp fun vs H Q E h => h mg⟩
end K08
/-! the denotations, reckoned: simp's lemmas -/
namespace DL
open PySem L2
section
variable {ρ : DL.Env} {f g : DL.Env → Out} {fe fl fh : ER D} {ft fu : ER Bool} {fa fb : ER (List D)}
@[simp] theorem bind_ok {α β : Type} {a : α} {k : α → DL.Env → Res β} : (Res.ok a ρ).bind k = k a ρ := rfl
@[simp] theorem bind_exc {α β : Type} {e : Ex} {k : α → DL.Env → Res β} : (Res.exc e ρ : Res α).bind k = .exc e ρ := rfl
@[simp] theorem out_ok {α : Type} {a : α} {k : α → DL.Env → Out} : (Res.ok a ρ).out k = k a ρ := rfl
@[simp] theorem out_exc {α : Type} {e : Ex} {k : α → DL.Env → Out} : (Res.exc e ρ : Res α).out k = .exc e ρ := rfl
@[simp] theorem seq_nx {k : DL.Env → Out} : (Out.nx ρ).seq k = k ρ := rfl
@[simp] theorem seq_rt {d : D} {k : DL.Env → Out} : (Out.rt d ρ).seq k = .rt d ρ := rfl
@[simp] theorem seq_bk {k : DL.Env → Out} : (Out.bk ρ).seq k = .bk ρ := rfl
@[simp] theorem seq_ct {k : DL.Env → Out} : (Out.ct ρ).seq k = .ct ρ := rfl
@[simp] theorem seq_exc {e : Ex} {k : DL.Env → Out} : (Out.exc e ρ).seq k = .exc e ρ := rfl
@[simp] theorem sSeq_ap : sSeq f g ρ = (f ρ).seq g := rfl
@[simp] theorem sSet_ap {i : Nat} : sSet i fe ρ = (fe ρ).out fun d ρ => .nx (ρ.set i (some d)) := rfl
@[simp] theorem sDrop_ap : sDrop fe ρ = (fe ρ).out fun _ ρ => .nx ρ := rfl
@[simp] theorem sRet_ap : sRet fe ρ = (fe ρ).out fun d ρ => .rt d ρ := rfl
@[simp] theorem sIf_ap : sIf ft f g ρ = (ft ρ).out fun b ρ => if b = true then f ρ else g ρ := by
  unfold sIf; congr 1; funext b ρ; cases b <;> rfl
@[simp] theorem sPar_ap {i j : Nat} : sPar i j fa ρ = (fa ρ).out fun ds ρ => match ds with | [d, e] => .nx ((ρ.set i (some d)).set j (some e)) | _ => .stuck := rfl
@[simp] theorem sAsg_ap {gf : D → DL.Env → Option DL.Env} : sAsg fe gf ρ = (fe ρ).out fun d ρ => match gf d ρ with | some ρ => .nx ρ | none => .stuck := rfl
@[simp] theorem sAug_ap {i : Nat} {gg : D → D → Option D} : sAug gg i fe ρ = (eVar i ρ).out fun d ρ => (fe ρ).out fun e ρ => match gg d e with | some o => .nx (ρ.set i (some o)) | none => .stuck := rfl
@[simp] theorem sRaise_ap {c : Nat} {fs : List Str} : sRaise c fs fa ρ = (fa ρ).out fun ds ρ => if ds.length = fs.length then .exc ⟨c, fs.zip ds⟩ ρ else .stuck := rfl
@[simp] theorem sFor_ap {gf : D → DL.Env → Option DL.Env} : sFor fa gf f ρ = (fa ρ).out fun es ρ => forL gf f es ρ := rfl
@[simp] theorem gN_ap {i : Nat} {d : D} : gN i d ρ = some (ρ.set i (some d)) := rfl
@[simp] theorem gT_ap {n : Nat} {h : List D → DL.Env → Option DL.Env} {ds : List D} : gT n h (.tup ds) ρ = if ds.length = n then h ds ρ else none := rfl
@[simp] theorem gsNil_ap : gsNil [] ρ = some ρ := rfl
@[simp] theorem gsCons_ap {g : D → DL.Env → Option DL.Env} {h : List D → DL.Env → Option DL.Env} {d : D} {r : List D} : gsCons g h (d :: r) ρ = (g d ρ).bind fun ρ => h r ρ := rfl
@[simp] theorem eC_ap {d : D} : eC d ρ = .ok d ρ := rfl
theorem eVar_ap {i : Nat} : eVar i ρ = match ρ[i]? with | some (some d) => .ok d ρ | _ => .stuck := rfl
@[simp] theorem eVar_0 {d : D} {r : DL.Env} : eVar 0 (some d :: r) = .ok d (some d :: r) := rfl
@[simp] theorem eVar_1 {a : Option D} {d : D} {r : DL.Env} : eVar 1 (a :: some d :: r) = .ok d (a :: some d :: r) := rfl
@[simp] theorem eVar_2 {a b : Option D} {d : D} {r : DL.Env} : eVar 2 (a :: b :: some d :: r) = .ok d (a :: b :: some d :: r) := rfl
@[simp] theorem eVar_3 {a b c : Option D} {d : D} {r : DL.Env} : eVar 3 (a :: b :: c :: some d :: r) = .ok d (a :: b :: c :: some d :: r) := rfl
@[simp] theorem eVar_4 {a b c e : Option D} {d : D} {r : DL.Env} : eVar 4 (a :: b :: c :: e :: some d :: r) = .ok d (a :: b :: c :: e :: some d :: r) := rfl
@[simp] theorem eVar_5 {a b c e p : Option D} {d : D} {r : DL.Env} : eVar 5 (a :: b :: c :: e :: p :: some d :: r) = .ok d (a :: b :: c :: e :: p :: some d :: r) := rfl
@[simp] theorem eVar_6 {a b c e p q : Option D} {d : D} {r : DL.Env} : eVar 6 (a :: b :: c :: e :: p :: q :: some d :: r) = .ok d (a :: b :: c :: e :: p :: q :: some d :: r) := rfl
@[simp] theorem eVar_7 {a b c e p q s : Option D} {d : D} {r : DL.Env} : eVar 7 (a :: b :: c :: e :: p :: q :: s :: some d :: r) = .ok d (a :: b :: c :: e :: p :: q :: s :: some d :: r) := rfl
@[simp] theorem eVar_8 {a b c e p q s t : Option D} {d : D} {r : DL.Env} : eVar 8 (a :: b :: c :: e :: p :: q :: s :: t :: some d :: r) = .ok d (a :: b :: c :: e :: p :: q :: s :: t :: some d :: r) := rfl
@[simp] theorem eOp_ap {gg : D → D → Option D} : eOp gg fe fl ρ = (fe ρ).bind fun d ρ => (fl ρ).bind fun e ρ => ofOpt (gg d e) ρ := rfl
@[simp] theorem eUn_ap {gg : D → Option D} : eUn gg fe ρ = (fe ρ).bind fun d ρ => ofOpt (gg d) ρ := rfl
@[simp] theorem eCB_ap {gg : List D → Option D} : eCB gg fa ρ = (fa ρ).bind fun ds ρ => ofOpt (gg ds) ρ := rfl
@[simp] theorem ofOpt_some {α : Type} {a : α} : ofOpt (some a) ρ = .ok a ρ := rfl
@[simp] theorem aNil_ap : aNil ρ = .ok [] ρ := rfl
@[simp] theorem aCons_ap : aCons fe fa ρ = (fe ρ).bind fun d ρ => (fa ρ).bind fun ds ρ => .ok (d :: ds) ρ := rfl
@[simp] theorem eTup_ap : eTup fa ρ = (fa ρ).bind fun ds ρ => if ds.length ≤ sizeLine then .ok (.tup ds) ρ else .stuck := rfl
@[simp] theorem eLst_ap : eLst fa ρ = (fa ρ).bind fun ds ρ => if ds.length ≤ sizeLine then .ok (.lst ds) ρ else .stuck := rfl
@[simp] theorem tVal_ap : tVal fe ρ = (fe ρ).bind fun d ρ => match d with | .bl b => .ok b ρ | _ => .stuck := rfl
@[simp] theorem bAnd_ap : bAnd ft fu ρ = (ft ρ).bind fun b ρ => if b = true then fu ρ else .ok false ρ := by
  unfold bAnd; congr 1; funext b ρ; cases b <;> rfl
@[simp] theorem bOr_ap : bOr ft fu ρ = (ft ρ).bind fun b ρ => if b = true then .ok true ρ else fu ρ := by
  unfold bOr; congr 1; funext b ρ; cases b <;> rfl
@[simp] theorem bNot_ap : bNot ft ρ = (ft ρ).bind fun b ρ => .ok (!b) ρ := rfl
@[simp] theorem eIf_ap : eIf ft fe fl ρ = (ft ρ).bind fun b ρ => if b = true then fe ρ else fl ρ := by
  unfold eIf; congr 1; funext b ρ; cases b <;> rfl
@[simp] theorem eAndV_ap : eAndV fe fl ρ = (tVal fe ρ).bind fun b ρ => if b = true then fl ρ else .ok (.bl false) ρ := by
  unfold eAndV; congr 1; funext b ρ; cases b <;> rfl
@[simp] theorem eOrV_ap : eOrV fe fl ρ = (tVal fe ρ).bind fun b ρ => if b = true then .ok (.bl true) ρ else fl ρ := by
  unfold eOrV; congr 1; funext b ρ; cases b <;> rfl
@[simp] theorem eNotV_ap : eNotV fe ρ = (tVal fe ρ).bind fun b ρ => .ok (.bl (!b)) ρ := rfl
@[simp] theorem eCall_ap {n : Nat} {h : Den} : eCall n h fa ρ = (fa ρ).bind fun ds ρ => if ds.length = n then (match h ds with | .ret d _ => .ok d ρ | .exc e _ => .exc e ρ | .stuck => .stuck) else .stuck := rfl
@[simp] theorem eIsi_ap {p : D → Bool} : eIsi p fe ρ = (fe ρ).bind fun d ρ => .ok (.bl (p d)) ρ := rfl
@[simp] theorem eSl_ap {gg : D → Option Int → Option Int → Option D} {pl ph : ER (Option Int)} : eSl gg fe pl ph ρ = (fe ρ).bind fun d ρ => (pl ρ).bind fun lo ρ => (ph ρ).bind fun hi ρ => ofOpt (gg d lo hi) ρ := rfl
@[simp] theorem pNo_ap : pNo ρ = .ok none ρ := rfl
@[simp] theorem pSo_ap : pSo fe ρ = (fe ρ).bind fun d ρ => match d with | .int i => .ok (some i) ρ | _ => .stuck := rfl
@[simp] theorem iA_ap : iA fe ρ = (fe ρ).bind fun d ρ => match d with | .lst ds => .ok ds ρ | .tup ds => .ok ds ρ | .scr ns => .ok (ns.map .int) ρ | _ => .stuck := rfl
@[simp] theorem iR1_ap : iR1 fa ρ = (fa ρ).bind fun ds ρ => match ds with | [.int j] => if inRg j = true then .ok (rangeD 0 j.toNat) ρ else .stuck | _ => .stuck := rfl
@[simp] theorem iR2_ap : iR2 fa ρ = (fa ρ).bind fun ds ρ => match ds with | [.int i, .int j] => if inRg i = true ∧ inRg j = true then .ok (rangeD i (j - i).toNat) ρ else .stuck | _ => .stuck := rfl
@[simp] theorem eListZ_ap : eListZ fa ρ = (fa ρ).bind fun ds ρ => match ds with | [.tup xs, .tup ys] => .ok (.lst (zipD xs ys)) ρ | _ => .stuck := rfl
@[simp] theorem aKw_ap {q : List Nat} {n m : Nat} : aKw q n m fa fb ρ = (fa ρ).bind fun ds ρ => (fb ρ).bind fun es ρ => if ds.length = n ∧ es.length = m then .ok (pm q (ds ++ es)) ρ else .stuck := rfl
@[simp] theorem eView_ap : eView fe ρ = match fe ρ with | .ok d _ => if scalD d = true then .ok d ρ else .stuck | .exc e _ => if (e.fs.map (·.2)).all scalD = true then .exc e ρ else .stuck | .stuck => .stuck := rfl
@[simp] theorem tView_ap : tView ft ρ = match ft ρ with | .ok d _ => .ok d ρ | .exc e _ => if (e.fs.map (·.2)).all scalD = true then .exc e ρ else .stuck | .stuck => .stuck := rfl
@[simp] theorem gI0_ap {h : Int → Int → Int} {i j : Int} : gI0 h (.int i) (.int j) = some (.int (h i j)) := rfl
@[simp] theorem gB0_ap {h : Int → Int → Bool} {i j : Int} : gB0 h (.int i) (.int j) = some (.bl (h i j)) := rfl
@[simp] theorem gIC_ap {c : Int → Int → Prop} [∀ i j, Decidable (c i j)] {h : Int → Int → Int} {i j : Int} : gIC c h (.int i) (.int j) = if c i j then some (.int (h i j)) else none := rfl
@[simp] theorem gAdd_i {i j : Int} : gAdd (.int i) (.int j) = some (.int (i + j)) := rfl
@[simp] theorem gAdd_s {i j : Str} : gAdd (.str i) (.str j) = if i.length + j.length ≤ sizeLine then some (.str (i ++ j)) else none := rfl
@[simp] theorem gAdd_t {i j : List D} : gAdd (.tup i) (.tup j) = if i.length + j.length ≤ sizeLine then some (.tup (i ++ j)) else none := rfl
@[simp] theorem gAdd_l {i j : List D} : gAdd (.lst i) (.lst j) = if i.length + j.length ≤ sizeLine then some (.lst (i ++ j)) else none := rfl
@[simp] theorem gCat_l {i j : List D} : gCat (.lst i) (.lst j) = if i.length + j.length ≤ sizeLine then some (.lst (i ++ j)) else none := rfl
@[simp] theorem gIAdd_i {i j : Int} : gIAdd (.int i) (.int j) = some (.int (i + j)) := rfl
@[simp] theorem gIAdd_s {i j : Str} : gIAdd (.str i) (.str j) = if i.length + j.length ≤ sizeLine then some (.str (i ++ j)) else none := rfl
@[simp] theorem gMul_i {i j : Int} : gMul (.int i) (.int j) = if CMul i j then some (.int (i * j)) else none := rfl
@[simp] theorem gMul_s {i : Str} {j : Int} : gMul (.str i) (.int j) = if CRepS i j then some (.str (repS' i j)) else none := rfl
@[simp] theorem gNeg_i {i : Int} : gNeg (.int i) = some (.int (-i)) := rfl
@[simp] theorem gEq_i {i j : Int} : gEq (.int i) (.int j) = some (.bl (decide (i = j))) := rfl
@[simp] theorem gEq_s {i j : Str} : gEq (.str i) (.str j) = some (.bl (decide (i = j))) := rfl
@[simp] theorem gEq_b {i j : Bool} : gEq (.bl i) (.bl j) = some (.bl (decide (i = j))) := rfl
@[simp] theorem gNe_i {i j : Int} : gNe (.int i) (.int j) = some (.bl (!decide (i = j))) := rfl
@[simp] theorem gNe_s {i j : Str} : gNe (.str i) (.str j) = some (.bl (!decide (i = j))) := rfl
@[simp] theorem gNe_b {i j : Bool} : gNe (.bl i) (.bl j) = some (.bl (!decide (i = j))) := rfl
@[simp] theorem gIsN_ap {d : D} : gIsN d .non = some (.bl (isNon d)) := rfl
@[simp] theorem gNotN_ap {d : D} : gNotN d .non = some (.bl (!isNon d)) := rfl
@[simp] theorem isNon_n : isNon .non = true := rfl
@[simp] theorem isNon_i {i : Int} : isNon (.int i) = false := rfl
@[simp] theorem isNon_s {i : Str} : isNon (.str i) = false := rfl
@[simp] theorem isNon_b {i : Bool} : isNon (.bl i) = false := rfl
@[simp] theorem isNon_t {i : List D} : isNon (.tup i) = false := rfl
@[simp] theorem isNon_l {i : List D} : isNon (.lst i) = false := rfl
@[simp] theorem gIx_t {ds : List D} {i : Int} : gIx (.tup ds) (.int i) = atI ds i := rfl
@[simp] theorem gIx_l {ds : List D} {i : Int} : gIx (.lst ds) (.int i) = atI ds i := rfl
@[simp] theorem gIx_x {ns : List Int} {i : Int} : gIx (.scr ns) (.int i) = (atI ns i).map .int := rfl
@[simp] theorem gLen_t {ds : List D} : gLen [.tup ds] = some (.int ds.length) := rfl
@[simp] theorem gLen_l {ds : List D} : gLen [.lst ds] = some (.int ds.length) := rfl
@[simp] theorem gLen_x {ds : List Int} : gLen [.scr ds] = some (.int ds.length) := rfl
@[simp] theorem gLen_s {z : Str} : gLen [.str z] = if z.length ≤ sizeLine then some (.int z.length) else none := rfl
@[simp] theorem gAbs_i {i : Int} : gAbs [.int i] = some (.int (if i < 0 then -i else i)) := rfl
@[simp] theorem gInt_i {i : Int} : gInt [.int i] = some (.int i) := rfl
/-- the text of an int -/
def tI (i : Int) : Str := Str.ofString (toString i)
@[simp] theorem gStr_i {i : Int} : gStr [.int i] = if i.natAbs.log2 < 1920 then some (.str (tI i)) else none := rfl
@[simp] theorem gSl_t {ds : List D} {lo hi : Option Int} : gSl (.tup ds) lo hi = some (.tup (cutD ds lo hi)) := rfl
@[simp] theorem gSl_l {ds : List D} {lo hi : Option Int} : gSl (.lst ds) lo hi = some (.lst (cutD ds lo hi)) := rfl
@[simp] theorem gSl_x {ns : List Int} {lo hi : Option Int} : gSl (.scr ns) lo hi = some (.lst ((cutD ns lo hi).map .int)) := rfl
@[simp] theorem gAppend_ap {ds : List D} {e : D} : gAppend ds [e] = if ds.length < sizeLine then some (.non, ds ++ [e]) else none := rfl
@[simp] theorem gExtend_ap {ds zs : List D} : gExtend ds [.lst zs] = if ds.length + zs.length ≤ sizeLine then some (.non, ds ++ zs) else none := rfl
@[simp] theorem scal_i {i : Int} : scalD (.int i) = true := rfl
@[simp] theorem scal_b {i : Bool} : scalD (.bl i) = true := rfl
@[simp] theorem scal_s {i : Str} : scalD (.str i) = true := rfl
@[simp] theorem scal_n : scalD .non = true := rfl
/-- an item by its place -/
theorem at_nat {α : Type} {xs : List α} {i : Int} (h0 : 0 ≤ i) (h1 : i < xs.length) : atI xs i = xs[i.toNat]? := by
  unfold atI ixN
  rw [if_pos h0, if_pos h1]
  rfl
@[simp] theorem at0 {α : Type} {x : α} {xs : List α} : atI (x :: xs) 0 = some x := by
  rw [at_nat (by decide) (by simp only [List.length_cons]; omega)]; rfl
@[simp] theorem at1 {α : Type} {x y : α} {xs : List α} : atI (x :: y :: xs) 1 = some y := by
  rw [at_nat (by decide) (by simp only [List.length_cons]; omega)]; rfl
@[simp] theorem at2 {α : Type} {x y z : α} {xs : List α} : atI (x :: y :: z :: xs) 2 = some z := by
  rw [at_nat (by decide) (by simp only [List.length_cons]; omega)]; rfl
theorem sz : sizeLine = 16777216 := sizeLine_eq
@[simp] theorem toF_rt {k : Nat} {d : D} : toF k (.rt d ρ) = .ret d (ρ.take k) := rfl
@[simp] theorem toF_nx {k : Nat} : toF k (.nx ρ) = .ret .non (ρ.take k) := rfl
@[simp] theorem toF_exc {k : Nat} {e : Ex} : toF k (.exc e ρ) = .exc e (ρ.take k) := rfl
theorem mkF_ap {N k : Nat} {fb : DL.Env → Out} {ds : List D} : mkF N k fb ds = toF k (fb (ds.map some ++ List.replicate (N - ds.length) none)) := rfl
end
end DL
/-! more of simp's lemmas; the comparing of a value with itself; own dicts -/
namespace DL
open PySem L2
section
variable {ρ : DL.Env} {fe fl fi fv fb fc : ER D} {fa : ER (List D)}
@[simp] theorem eIxO_ap {i : Nat} : eIxO i fe ρ = match ρ[i]? with | some (some _) => (fe ρ).bind fun y ρ' => (match ρ'[i]? with | some (some d) => ofOpt (itemO d y) ρ' | _ => .stuck) | _ => .stuck := rfl
@[simp] theorem itemO_l {ds : List D} {k : Int} : itemO (.lst ds) (.int k) = atI ds k := rfl
@[simp] theorem itemO_d {kds : List (Key × D)} {y : D} : itemO (.dct kds) y = (keyD y).bind fun k => getK kds k := rfl
@[simp] theorem keyD_i {i : Int} : keyD (.int i) = some (.inl i) := rfl
@[simp] theorem keyD_s {s : Str} : keyD (.str s) = some (.inr s) := rfl
@[simp] theorem sSetI_ap {i : Nat} : sSetI i fv fi ρ = (fv ρ).out fun d ρ => match ρ[i]? with | some (some _) => (fi ρ).out fun k ρ => (match ρ[i]? with | some (some x) => (match storeO x k d with | some x' => .nx (ρ.set i (some x')) | none => .stuck) | _ => .stuck) | _ => .stuck := rfl
@[simp] theorem storeO_l {ds : List D} {k : Int} {d : D} : storeO (.lst ds) (.int k) d = (ixN ds.length k).map fun j => .lst (ds.set j d) := rfl
@[simp] theorem storeO_d {kds : List (Key × D)} {y d : D} : storeO (.dct kds) y d = if kds.length < sizeLine then (keyD y).map fun k => .dct (putD kds k d) else none := rfl
theorem getK_cons {kds : List (Key × D)} {k k0 : Key} {d : D} : getK ((k0, d) :: kds) k = if k0 = k then some d else getK kds k := by
  unfold getK
  rw [List.find?_cons]
  by_cases e : k0 = k
  · simp [e]
  · simp [e]
@[simp] theorem getK_nil {k : Key} : getK [] k = none := rfl
@[simp] theorem eMtO_ap {i : Nat} {g : List D → List D → Option (D × List D)} : eMtO i g fa ρ = match ρ[i]? with | some (some (.lst _)) => (fa ρ).bind fun es ρ' => (match ρ'[i]? with | some (some (.lst ds)) => (match g ds es with | some (d, ds') => .ok d (ρ'.set i (some (.lst ds'))) | none => .stuck) | _ => .stuck) | _ => .stuck := rfl
@[simp] theorem eCallO_ap {i n : Nat} {f : Den} : eCallO i n f fa ρ = match ρ[i]? with | some (some _) => (fa ρ).bind fun ds ρ => (match ρ[i]? with | some (some d0) => if ds.length = n then (match f (d0 :: ds) with | .ret d outs => .ok d (ρ.set i outs.head?.join) | .exc e outs => .exc e (ρ.set i outs.head?.join) | .stuck => .stuck) else .stuck | _ => .stuck) | _ => .stuck := rfl
@[simp] theorem ix30 : ixN 3 0 = some 0 := rfl
@[simp] theorem ix31 : ixN 3 1 = some 1 := rfl
@[simp] theorem ix32 : ixN 3 2 = some 2 := rfl
@[simp] theorem sTryAs_ap {i : Nat} {cs : List (Nat × Bool)} {fb : DL.Env → Out} {fsu : Ex → DL.Env → Out} {ρ : DL.Env} : sTryAs i cs fb fsu ρ = match fb ρ with
  | .exc e ρ' => (match cs.lookup e.c with
    | some true => if (e.fs.map (·.2)).all scalD = true then (fsu e (ρ'.set i none)).wipe i else .stuck
    | some false => .exc e ρ'
    | none => .stuck)
  | o => o := rfl
@[simp] theorem wipe_rt {i : Nat} {d : D} {ρ : DL.Env} : (Out.rt d ρ).wipe i = .rt d ρ := rfl
@[simp] theorem eWhy_ap {e : Ex} {c : Nat} {f : Str} {ρ : DL.Env} : eWhy e c f ρ = if e.c = c then (match e.fs.lookup f with | some d => .ok d ρ | none => .stuck) else .stuck := rfl
@[simp] theorem eIsX_ap {e : Ex} {cs : List (Nat × Bool)} {ρ : DL.Env} : eIsX e cs ρ = match cs.lookup e.c with | some b => .ok (.bl b) ρ | none => .stuck := rfl
@[simp] theorem eDisp_ap {ks : List Key} : eDisp ks fa ρ = (fa ρ).bind fun ds ρ => .ok (.dct (mergeD [] (ks.zip ds))) ρ := rfl
@[simp] theorem eChain_ap {g g' : D → D → Option D} : eChain g g' fb fc fe ρ = (fb ρ).bind fun d ρ => (fc ρ).bind fun e ρ => match g d e with
  | some (.bl true) => (fe ρ).bind fun o ρ => ofOpt (g' e o) ρ
  | some (.bl false) => .ok (.bl false) ρ
  | _ => .stuck := rfl
@[simp] theorem iEn_ap : iEn fa ρ = (fa ρ).bind fun ds ρ => match ds with | [.lst ds] => .ok (enumD 0 ds) ρ | [.tup ds] => .ok (enumD 0 ds) ρ | _ => .stuck := rfl
@[simp] theorem sPar3_ap {i j l : Nat} : sPar3 i j l fa ρ = (fa ρ).out fun ds ρ => match ds with | [d, e, o] => .nx (((ρ.set i (some d)).set j (some e)).set l (some o)) | _ => .stuck := rfl
@[simp] theorem eLc_ap {gf : D → DL.Env → Option DL.Env} {ft : ER Bool} {vs : List Nat} : eLc fa gf ft fe vs ρ = (fa ρ).bind fun es ρ => match compF gf ft fe vs es (wipeD ρ vs) with
  | .ok ys ρ' => if ys.length ≤ sizeLine then .ok (.lst ys) ρ' else .stuck
  | _ => .stuck := rfl
@[simp] theorem bYes_ap : bYes ρ = .ok true ρ := rfl
@[simp] theorem gTuple_l {ds : List D} : gTuple [.lst ds] = some (.tup ds) := rfl
@[simp] theorem gTuple_t {ds : List D} : gTuple [.tup ds] = some (.tup ds) := rfl
@[simp] theorem gList_l {ds : List D} : gList [.lst ds] = some (.lst ds) := rfl
@[simp] theorem gList_t {ds : List D} : gList [.tup ds] = some (.lst ds) := rfl
@[simp] theorem gMaxA_2 {i j : Int} : gMaxA [.int i, .int j] = some (.int (if j > i then j else i)) := rfl
@[simp] theorem gMinA_2 {i j : Int} : gMinA [.int i, .int j] = some (.int (if j < i then j else i)) := rfl
@[simp] theorem gMax_2 {i j : Int} : gMax [.int i, .int j] = some (.int (if j > i then j else i)) := rfl
@[simp] theorem gMin_2 {i j : Int} : gMin [.int i, .int j] = some (.int (if j < i then j else i)) := rfl
end

/-! ### a value and itself, by a stack of pairs (the laws' own comparing) -/
mutual
def sz1 : D → Nat
  | .tup ds => 1 + szs ds
  | _ => 1
def szs : List D → Nat
  | [] => 0
  | d :: ds => sz1 d + szs ds
end
mutual
def okL : D → Bool
  | .tup ds => okLs ds
  | .int _ => true | .str _ => true | .bl _ => true | .non => true
  | _ => false
def okLs : List D → Bool
  | [] => true
  | d :: ds => okL d && okLs ds
end
theorem szs_append : ∀ (a b : List D), szs (a ++ b) = szs a + szs b
  | [], b => by simp [szs]
  | d :: a, b => by simp [szs, szs_append a b]; omega
theorem okLs_append : ∀ (a b : List D), okLs (a ++ b) = (okLs a && okLs b)
  | [], b => by simp [okLs]
  | d :: a, b => by simp [okLs, okLs_append a b, Bool.and_assoc]
theorem len_szs : ∀ (a : List D), a.length ≤ szs a
  | [] => by simp
  | d :: a => by
    have := len_szs a
    have : 1 ≤ sz1 d := by cases d <;> simp [sz1]
    simp [szs]; omega
theorem zip_self : ∀ (xs : List D), zipD xs xs = xs.map fun d => .tup [d, d]
  | [] => rfl
  | d :: xs => by simp [zipD, zip_self xs]
def likeB : DL.Env → Out := (sSeq (sIf (tVal (eOp gEq (eView (eCB gLen (aCons (eVar 2) aNil))) (eC (.int 0)))) (sRet (eC (.bl true))) Out.nx) (sSeq (sAsg (eMtO 2 gPop aNil) (gT 2 (gsCons (gN 4) (gsCons (gN 5) gsNil)))) (sIf (tVal (eIsi isTup (eVar 5))) (sSeq (sIf (bOr (bNot (tVal (eIsi isTup (eVar 4)))) (tVal (eOp gNe (eCB gLen (aCons (eVar 4) aNil)) (eCB gLen (aCons (eVar 5) aNil))))) (sRet (eC (.bl false))) Out.nx) (sDrop (eMtO 2 gExtend (aCons (eListZ (aCons (eVar 4) (aCons (eVar 5) aNil))) aNil)))) (sIf (bOr (tVal (eOp gIsN (eVar 5) (eC .non))) (tVal (eOp gIsN (eVar 4) (eC .non)))) (sIf (bOr (tVal (eOp gNotN (eVar 4) (eC .non))) (tVal (eOp gNotN (eVar 5) (eC .non)))) (sRet (eC (.bl false))) Out.nx) (sIf (bOr (tVal (eIsi isStr (eVar 5))) (tVal (eIsi isStr (eVar 4)))) (sIf (bOr (bNot (tVal (eIsi isStr (eVar 5)))) (bOr (bNot (tVal (eIsi isStr (eVar 4)))) (tVal (eOp gNe (eVar 4) (eVar 5))))) (sRet (eC (.bl false))) Out.nx) (sIf (bOr (tVal (eOp gNe (eIsi isBl (eVar 5)) (eIsi isBl (eVar 4)))) (bOr (bNot (tVal (eIsi isInt (eVar 4)))) (tVal (eOp gNe (eVar 4) (eVar 5))))) (sRet (eC (.bl false))) Out.nx))))))
def sameB : DL.Env → Out := (sSeq (sSet 2 (eLst (aCons (eTup (aCons (eVar 0) (aCons (eVar 1) aNil))) aNil))) (sSeq (sFor (iR1 (aCons (eC (.int 300000)) aNil)) (gN 3) likeB) (sRet (eC (.bl false)))))
theorem like_loop : ∀ (es ds : List D) (a b x3 x4 x5 : Option D), okLs ds = true → szs ds < es.length → szs ds ≤ 16777216 → ∃ ρ', forL (gN 3) likeB es [a, b, some (.lst (ds.map fun d => .tup [d, d])), x3, x4, x5] = .rt (.bl true) ρ'
  | [], ds, a, b, x3, x4, x5, ok, h, _ => by simp at h
  | e :: es, ds, a, b, x3, x4, x5, ok, h, hb => by
    unfold forL
    rcases List.eq_nil_or_concat ds with rfl | ⟨ds, d, rfl⟩
    · refine ⟨[a, b, some (.lst []), some e, x4, x5], ?_⟩
      simp [likeB]
    · simp only [List.concat_eq_append, szs_append, okLs_append, List.length_cons, Bool.and_eq_true] at ok h hb
      have h1 : szs [d] = sz1 d := by simp [szs]
      rw [h1] at h hb
      have hd : 1 ≤ sz1 d := by cases d <;> simp [sz1]
      have ih := fun x4 x5 => like_loop es ds a b (some e) x4 x5 ok.1 (by omega) (by omega)
      have e1 : gPop (ds.map (fun d => D.tup [d, d]) ++ [D.tup [d, d]]) [] = some (D.tup [d, d], ds.map fun d => D.tup [d, d]) := by simp [gPop]
      have ne : ¬ ((((ds.length : Nat) : Int) + 1) = 0) := by omega
      have okd : okL d = true := by have := ok.2; simpa [okLs] using this
      cases d with
      | tup xs =>
        have e2 := zip_self xs
        have hl := len_szs xs
        have hl2 := len_szs ds
        have hs : sz1 (.tup xs) = 1 + szs xs := by simp [sz1]
        rw [hs] at h hb
        have ih2 := fun x4 x5 => like_loop es (ds ++ xs) a b (some e) x4 x5 (by rw [okLs_append, ok.1]; simpa [okL] using okd) (by rw [szs_append]; omega) (by rw [szs_append]; omega)
        have hz : ds.length + xs.length ≤ 16777216 := by omega
        simpa [likeB, e1, ne, isTup, isStr, isBl, isInt, sz, e2, hz] using ih2 _ _
      | int i => simpa [likeB, e1, ne, isTup, isStr, isBl, isInt] using ih _ _
      | str i => simpa [likeB, e1, ne, isTup, isStr, isBl, isInt] using ih _ _
      | bl i => simpa [likeB, e1, ne, isTup, isStr, isBl, isInt] using ih _ _
      | non => simpa [likeB, e1, ne, isTup, isStr, isBl, isInt] using ih _ _
      | _ => simp [okL] at okd
theorem same_self (d : D) (ok : okL d = true) (h : sz1 d < 300000) : mkF 6 0 sameB [d, d] = .ret (.bl true) [] := by
  rw [mkF_ap]
  unfold sameB
  obtain ⟨ρ', h2⟩ := like_loop (rangeD 0 300000) [d] (some d) (some d) none none none (by simpa [okLs] using ok) (by simpa [szs, rangeD] using h) (by simp [szs]; omega)
  simp only [List.map_cons, List.map_nil] at h2
  simp [sz, inRg, h2]
end DL
/-! plain programs: what a def reckons without slots, and that the denotation goes with it -/
namespace DL
open PySem L2
inductive O (σ L β : Type) where
  | nx (s : σ) | bk (s : L) | ct (s : L) | rt (b : β) | exc (e : Ex) | stuck
abbrev Fr (β : Type) := O Empty Empty β
section
variable {α β γ σ τ L L' : Type}
def O.bnd (x : Fr α) (k : α → O σ L β) : O σ L β := match x with
  | .rt a => k a
  | .exc e => .exc e
  | .stuck => .stuck
  | .nx s => s.elim
  | .bk s => s.elim
  | .ct s => s.elim
def O.seq (o : O σ L β) (k : σ → O τ L β) : O τ L β := match o with
  | .nx s => k s
  | .bk s => .bk s
  | .ct s => .ct s
  | .rt b => .rt b
  | .exc e => .exc e
  | .stuck => .stuck
def ofO (o : Option α) : Fr α := match o with
  | some a => .rt a
  | none => .stuck
def nFor (f : α → σ → O σ σ β) : List α → σ → O σ L β
  | [], s => .nx s
  | x :: xs, s => match f x s with
    | .nx s => nFor f xs s
    | .ct s => nFor f xs s
    | .bk s => .nx s
    | .rt b => .rt b
    | .exc e => .exc e
    | .stuck => .stuck
/-- a def that may come to its end -/
def fin (z : β) (o : O Unit Empty β) : Fr β := match o with
  | .nx _ => .rt z
  | .rt b => .rt b
  | .exc e => .exc e
  | .stuck => .stuck
  | .bk s => s.elim
  | .ct s => s.elim
/-- a comprehension: f tells the item or passes by -/
def nLc (f : α → σ → O σ Empty (β × σ)) : List α → σ → Fr (List β × σ)
  | [], s => .rt ([], s)
  | x :: xs, s => match f x s with
    | .nx s => nLc f xs s
    | .rt (b, s) => (nLc f xs s).bnd fun r => .rt (b :: r.1, r.2)
    | .exc e => .stuck
    | .stuck => .stuck
    | .bk s => s.elim
    | .ct s => s.elim
def tryN (m : O σ L β) (cs : List (Nat × Bool)) (h : Ex → O σ L β) : O σ L β := match m with
  | .exc e => match cs.lookup e.c with
    | some true => if (e.fs.map (·.2)).all scalD = true then h e else .stuck
    | some false => .exc e
    | none => .stuck
  | o => o
def noX (x : Fr α) : Fr α := match x with
  | .exc e => if (e.fs.map (·.2)).all scalD = true then .exc e else .stuck
  | o => o
def noXO (x : O σ L β) : O σ L β := match x with
  | .exc _ => .stuck
  | o => o
@[simp] theorem bnd_rt {a : α} {k : α → O σ L β} : O.bnd (.rt a) k = k a := rfl
@[simp] theorem bnd_exc {e : Ex} {k : α → O σ L β} : O.bnd (.exc e) k = .exc e := rfl
@[simp] theorem bnd_stuck {k : α → O σ L β} : O.bnd .stuck k = .stuck := rfl
@[simp] theorem oseq_nx {s : σ} {k : σ → O τ L β} : O.seq (.nx s) k = k s := rfl
@[simp] theorem oseq_rt {s : β} {k : σ → O τ L β} : O.seq (.rt s) k = .rt s := rfl
@[simp] theorem oseq_bk {s : L} {k : σ → O τ L β} : O.seq (.bk s) k = .bk s := rfl
@[simp] theorem oseq_ct {s : L} {k : σ → O τ L β} : O.seq (.ct s) k = .ct s := rfl
@[simp] theorem oseq_exc {s : Ex} {k : σ → O τ L β} : O.seq (.exc s) k = .exc s := rfl
@[simp] theorem oseq_stuck {k : σ → O τ L β} : O.seq .stuck k = .stuck := rfl
@[simp] theorem ofO_some {a : α} : ofO (some a) = .rt a := rfl
@[simp] theorem ofO_none : (ofO none : Fr α) = .stuck := rfl
@[simp] theorem nFor_nil {f : α → σ → O σ σ β} {s : σ} : (nFor f [] s : O σ L β) = .nx s := rfl
@[simp] theorem fin_nx {z : β} {s : Unit} : fin z (.nx s) = .rt z := rfl
@[simp] theorem fin_rt {z b : β} : fin z (.rt b) = .rt b := rfl
@[simp] theorem fin_exc {z : β} {e : Ex} : fin z (.exc e) = .exc e := rfl
@[simp] theorem nLc_nil {f : α → σ → O σ Empty (β × σ)} {s : σ} : nLc f [] s = .rt ([], s) := rfl
@[simp] theorem tryN_rt {b : β} {cs : List (Nat × Bool)} {h : Ex → O σ L β} : tryN (.rt b) cs h = .rt b := rfl
@[simp] theorem tryN_nx {b : σ} {cs : List (Nat × Bool)} {h : Ex → O σ L β} : tryN (.nx b) cs h = .nx b := rfl
@[simp] theorem tryN_exc {e : Ex} {cs : List (Nat × Bool)} {h : Ex → O σ L β} : tryN (.exc e) cs h = match cs.lookup e.c with
    | some true => if (e.fs.map (·.2)).all scalD = true then h e else .stuck
    | some false => .exc e
    | none => .stuck := rfl
@[simp] theorem noX_rt {b : α} : noX (.rt b) = .rt b := rfl
@[simp] theorem noXO_rt {b : β} : (noXO (.rt b) : O σ L β) = .rt b := rfl
@[simp] theorem noXO_nx {b : σ} : (noXO (.nx b) : O σ L β) = .nx b := rfl
end
/-! ## going together -/
section
variable {α β γ σ τ υ L L' : Type}
def SimM (E : σ → DL.Env → Prop) (EL : L → DL.Env → Prop) (RB : β → D → DL.Env → Prop) (EX : DL.Env → Prop) (o : Out) (n : O σ L β) : Prop := match n with
  | .nx s => ∃ ρ, o = .nx ρ ∧ E s ρ
  | .bk s => ∃ ρ, o = .bk ρ ∧ EL s ρ
  | .ct s => ∃ ρ, o = .ct ρ ∧ EL s ρ
  | .rt b => ∃ d ρ, o = .rt d ρ ∧ RB b d ρ
  | .exc e => ∃ ρ, o = .exc e ρ ∧ EX ρ
  | .stuck => True
structure Sim (E : σ → DL.Env → Prop) (EL : L → DL.Env → Prop) (RB : β → D → DL.Env → Prop) (EX : DL.Env → Prop) (o : Out) (n : O σ L β) : Prop where
  h : SimM E EL RB EX o n
variable {E : σ → DL.Env → Prop} {E1 : τ → DL.Env → Prop} {EL : L → DL.Env → Prop} {RB : β → D → DL.Env → Prop} {EX EX1 : DL.Env → Prop}
variable {ρ ρ' : DL.Env} {fe fa fb fc : ER D} {ft fu : ER Bool} {fl : ER (List D)} {f g : DL.Env → Out} {n : O σ L β} {d e o : D} {b : Bool}
/-- no error to be told of beyond -/
theorem c_ok {ξ : Type} {r : Res ξ} {x : ξ} {K : ξ → DL.Env → Out} (h : r = .ok x ρ') (hk : Sim E EL RB EX (K x ρ') n) : Sim E EL RB EX (r.out K) n := by rw [h]; exact hk
/-- expressions that stand alone -/
abbrev SimE (v : α → D) (w : α → DL.Env) (EX : DL.Env → Prop) (r : Res D) (x : Fr α) : Prop := Sim (σ := Empty) (L := Empty) (fun s _ => s.elim) (fun s _ => s.elim) (fun a d ρ => d = v a ∧ ρ = w a) EX (r.out fun d ρ => .rt d ρ) x
abbrev SimT (w : Bool → DL.Env) (EX : DL.Env → Prop) (r : Res Bool) (x : Fr Bool) : Prop := Sim (σ := Empty) (L := Empty) (fun s _ => s.elim) (fun s _ => s.elim) (fun a d ρ => d = .bl a ∧ ρ = w a) EX (r.out fun d ρ => .rt (.bl d) ρ) x
theorem c_blk {x : Fr α} {k : α → O σ L β} {v : α → D} {w : α → DL.Env} {r : Res D} {K : D → DL.Env → Out} (h : SimE v w EX r x) (hk : ∀ a, Sim E EL RB EX (K (v a) (w a)) (k a)) : Sim E EL RB EX (r.out K) (x.bnd k) := by
  cases x with
  | nx s => exact s.elim
  | bk s => exact s.elim
  | ct s => exact s.elim
  | stuck => exact ⟨trivial⟩
  | exc e =>
    obtain ⟨ρ, h1, h2⟩ := h.h
    cases r with
    | ok a ρ1 => cases h1
    | stuck => cases h1
    | exc e' ρ1 => cases h1; exact ⟨⟨_, rfl, h2⟩⟩
  | rt a =>
    obtain ⟨d, ρ, h1, h2, h3⟩ := h.h
    cases r with
    | stuck => cases h1
    | exc e' ρ1 => cases h1
    | ok a' ρ1 => cases h1; subst h2; subst h3; exact hk a
theorem c_blkT {x : Fr Bool} {k : Bool → O σ L β} {w : Bool → DL.Env} {r : Res Bool} {K : Bool → DL.Env → Out} (h : SimT w EX r x) (hk : ∀ a, Sim E EL RB EX (K a (w a)) (k a)) : Sim E EL RB EX (r.out K) (x.bnd k) := by
  cases x with
  | nx s => exact s.elim
  | bk s => exact s.elim
  | ct s => exact s.elim
  | stuck => exact ⟨trivial⟩
  | exc e =>
    obtain ⟨ρ, h1, h2⟩ := h.h
    cases r with
    | ok a ρ1 => cases h1
    | stuck => cases h1
    | exc e' ρ1 => cases h1; exact ⟨⟨_, rfl, h2⟩⟩
  | rt a =>
    obtain ⟨d, ρ, h1, h2, h3⟩ := h.h
    cases r with
    | stuck => cases h1
    | exc e' ρ1 => cases h1
    | ok a' ρ1 => cases h1; cases h2; subst h3; exact hk a
theorem c_rt {v : α → D} {w : α → DL.Env} {a : α} (h : d = v a) (hw : ρ = w a) : Sim (σ := Empty) (L := Empty) (fun s _ => s.elim) (fun s _ => s.elim) (fun a d ρ => d = v a ∧ ρ = w a) EX (.rt d ρ) (.rt a) := ⟨_, _, rfl, h, hw⟩
theorem bind_out {ξ ζ : Type} {r : Res ξ} {h : ξ → DL.Env → Res ζ} {K : ζ → DL.Env → Out} : (r.bind h).out K = r.out fun a ρ => (h a ρ).out K := by cases r <;> rfl
/-! ### partial steps -/
theorem c_opt {ξ : Type} {o : Option ξ} {x : Option α} {v : α → ξ} {k : α → O σ L β} {K : ξ → DL.Env → Out} (hg : o = x.map v) (h : ∀ a, Sim E EL RB EX (K (v a) ρ) (k a)) : Sim E EL RB EX ((ofOpt o ρ).out K) ((ofO x).bnd k) := by
  subst hg
  cases x with
  | none => exact ⟨trivial⟩
  | some a => exact h a
theorem c_get {x : Option α} {v : α → D} {v0 : Option α → D} {k : α → O σ L β} {K : D → Out} (hv : ∀ a, v0 (some a) = v a) (h : ∀ a, Sim E EL RB EX (K (v a)) (k a)) : Sim E EL RB EX (K (v0 x)) ((ofO x).bnd k) := by
  cases x with
  | none => exact ⟨trivial⟩
  | some a => rw [hv]; exact h a
/-- a result known up to an equality of operators -/
theorem c_eq {ξ : Type} {r r' : Res ξ} {K : ξ → DL.Env → Out} (h : r = r') (hk : Sim E EL RB EX (r'.out K) n) : Sim E EL RB EX (r.out K) n := by rw [h]; exact hk
theorem c_op {gg : D → D → Option D} {K : D → DL.Env → Out} (h : Sim E EL RB EX ((fa ρ).out fun d ρ => (fb ρ).out fun e ρ => (ofOpt (gg d e) ρ).out K) n) : Sim E EL RB EX ((eOp gg fa fb ρ).out K) n := by
  have : (eOp gg fa fb ρ).out K = (fa ρ).out fun d ρ => (fb ρ).out fun e ρ => (ofOpt (gg d e) ρ).out K := by
    unfold eOp; rw [bind_out]; congr 1; funext d ρ; rw [bind_out]
  rw [this]; exact h
theorem c_un {gg : D → Option D} {K : D → DL.Env → Out} (h : Sim E EL RB EX ((fa ρ).out fun d ρ => (ofOpt (gg d) ρ).out K) n) : Sim E EL RB EX ((eUn gg fa ρ).out K) n := by
  have : (eUn gg fa ρ).out K = (fa ρ).out fun d ρ => (ofOpt (gg d) ρ).out K := by
    unfold eUn; rw [bind_out]
  rw [this]; exact h
theorem c_cb {gg : List D → Option D} {K : D → DL.Env → Out} (h : Sim E EL RB EX ((fl ρ).out fun d ρ => (ofOpt (gg d) ρ).out K) n) : Sim E EL RB EX ((eCB gg fl ρ).out K) n := by
  have : (eCB gg fl ρ).out K = (fl ρ).out fun d ρ => (ofOpt (gg d) ρ).out K := by
    unfold eCB; rw [bind_out]
  rw [this]; exact h
theorem c_nil {K : List D → DL.Env → Out} (h : Sim E EL RB EX (K [] ρ) n) : Sim E EL RB EX ((aNil ρ).out K) n := h
theorem c_cons {K : List D → DL.Env → Out} (h : Sim E EL RB EX ((fa ρ).out fun d ρ => (fl ρ).out fun ds ρ => K (d :: ds) ρ) n) : Sim E EL RB EX ((aCons fa fl ρ).out K) n := by
  have : (aCons fa fl ρ).out K = (fa ρ).out fun d ρ => (fl ρ).out fun ds ρ => K (d :: ds) ρ := by
    unfold aCons; rw [bind_out]; congr 1; funext d ρ; rw [bind_out]; rfl
  rw [this]; exact h
theorem c_tup {K : D → DL.Env → Out} (h : Sim E EL RB EX ((fl ρ).out fun ds ρ => (if ds.length ≤ sizeLine then Res.ok (.tup ds) ρ else .stuck).out K) n) : Sim E EL RB EX ((eTup fl ρ).out K) n := by
  have : (eTup fl ρ).out K = (fl ρ).out fun ds ρ => (if ds.length ≤ sizeLine then Res.ok (.tup ds) ρ else .stuck).out K := by
    unfold eTup; rw [bind_out]
  rw [this]; exact h
theorem c_lst {K : D → DL.Env → Out} (h : Sim E EL RB EX ((fl ρ).out fun ds ρ => (if ds.length ≤ sizeLine then Res.ok (.lst ds) ρ else .stuck).out K) n) : Sim E EL RB EX ((eLst fl ρ).out K) n := by
  have : (eLst fl ρ).out K = (fl ρ).out fun ds ρ => (if ds.length ≤ sizeLine then Res.ok (.lst ds) ρ else .stuck).out K := by
    unfold eLst; rw [bind_out]
  rw [this]; exact h
theorem le_size {k : Nat} (h : k ≤ 16777216) : k ≤ sizeLine := by rw [sz]; exact h
theorem c_size {ds : List D} {v : D} {K : D → DL.Env → Out} (hs : ds.length ≤ 16777216) (h : Sim E EL RB EX (K v ρ) n) : Sim E EL RB EX ((if ds.length ≤ sizeLine then Res.ok v ρ else .stuck).out K) n := by
  rw [if_pos (le_size hs)]; exact h
theorem c_view {x : Fr α} {k : α → O σ L β} {v : α → D} {K : D → DL.Env → Out} (h : Sim (σ := Empty) (L := Empty) (fun s _ => s.elim) (fun s _ => s.elim) (fun a d _ => d = v a) (fun _ => True) ((fe ρ).out fun d ρ => .rt d ρ) x) (hs : ∀ a, scalD (v a) = true) (hx : EX ρ) (hk : ∀ a, Sim E EL RB EX (K (v a) ρ) (k a)) : Sim E EL RB EX ((eView fe ρ).out K) ((noX x).bnd k) := by
  unfold eView
  cases x with
  | nx s => exact s.elim
  | bk s => exact s.elim
  | ct s => exact s.elim
  | stuck => exact ⟨trivial⟩
  | exc e =>
    obtain ⟨ρ1, h1, h2⟩ := h.h
    unfold noX
    by_cases hq : (e.fs.map (·.2)).all scalD = true
    · simp only [hq, if_true]
      cases e1 : fe ρ with
      | ok a ρ1 => rw [e1] at h1; cases h1
      | stuck => rw [e1] at h1; cases h1
      | exc e' ρ1 => rw [e1] at h1; cases h1; simp only [hq, if_true]; exact ⟨⟨_, rfl, hx⟩⟩
    · simp only [hq]; exact ⟨trivial⟩
  | rt a =>
    obtain ⟨d, ρ1, h1, h2⟩ := h.h
    cases e1 : fe ρ with
    | stuck => rw [e1] at h1; cases h1
    | exc e' ρ1 => rw [e1] at h1; cases h1
    | ok a' ρ1 => rw [e1] at h1; cases h1; subst h2; simp only [hs, if_true]; exact hk a
theorem c_viewT {x : Fr Bool} {k : Bool → O σ L β} {K : Bool → DL.Env → Out} (h : Sim (σ := Empty) (L := Empty) (fun s _ => s.elim) (fun s _ => s.elim) (fun a d _ => d = D.bl a) (fun _ => True) ((ft ρ).out fun d ρ => .rt (.bl d) ρ) x) (hx : EX ρ) (hk : ∀ a, Sim E EL RB EX (K a ρ) (k a)) : Sim E EL RB EX ((tView ft ρ).out K) ((noX x).bnd k) := by
  unfold tView
  cases x with
  | nx s => exact s.elim
  | bk s => exact s.elim
  | ct s => exact s.elim
  | stuck => exact ⟨trivial⟩
  | exc e =>
    obtain ⟨ρ1, h1, h2⟩ := h.h
    unfold noX
    by_cases hq : (e.fs.map (·.2)).all scalD = true
    · simp only [hq, if_true]
      cases e1 : ft ρ with
      | ok a ρ1 => rw [e1] at h1; cases h1
      | stuck => rw [e1] at h1; cases h1
      | exc e' ρ1 => rw [e1] at h1; cases h1; simp only [hq, if_true]; exact ⟨⟨_, rfl, hx⟩⟩
    · simp only [hq]; exact ⟨trivial⟩
  | rt a =>
    obtain ⟨d, ρ1, h1, h2⟩ := h.h
    cases e1 : ft ρ with
    | stuck => rw [e1] at h1; cases h1
    | exc e' ρ1 => rw [e1] at h1; cases h1
    | ok a' ρ1 => rw [e1] at h1; cases h1; cases h2; exact hk a
/-- how an expression ends that stands alone -/
theorem c_rtv {v : α → D} {a : α} (h : d = v a) : Sim (σ := Empty) (L := Empty) (fun s _ => s.elim) (fun s _ => s.elim) (fun a d _ => d = v a) EX (.rt d ρ) (.rt a) := ⟨_, _, rfl, h⟩
/-! ### tests -/
def bOf (d : D) (ρ : DL.Env) : Res Bool := match d with
  | .bl b => .ok b ρ
  | _ => .stuck
def iOf (d : D) (ρ : DL.Env) : Res (Option Int) := match d with
  | .int i => .ok (some i) ρ
  | _ => .stuck
theorem c_tval {K : Bool → DL.Env → Out} (h : Sim E EL RB EX ((fe ρ).out fun d ρ => (bOf d ρ).out K) n) : Sim E EL RB EX ((tVal fe ρ).out K) n := by
  have : (tVal fe ρ).out K = (fe ρ).out fun d ρ => (bOf d ρ).out K := by
    unfold tVal; rw [bind_out]; congr 1
  rw [this]; exact h
def asB : D → Option Bool
  | .bl b => some b
  | _ => none
def asI : D → Option Int
  | .int b => some b
  | _ => none
def asS : D → Option Str
  | .str b => some b
  | _ => none
def asLs : D → Option (List D)
  | .lst ds => some ds | .tup ds => some ds | .scr ns => some (ns.map .int) | _ => none
@[simp] theorem asB_b {b : Bool} : asB (.bl b) = some b := rfl
@[simp] theorem asI_i {b : Int} : asI (.int b) = some b := rfl
@[simp] theorem asS_s {b : Str} : asS (.str b) = some b := rfl
@[simp] theorem asLs_l {ds : List D} : asLs (.lst ds) = some ds := rfl
@[simp] theorem asLs_t {ds : List D} : asLs (.tup ds) = some ds := rfl
@[simp] theorem asLs_x {ds : List Int} : asLs (.scr ds) = some (ds.map .int) := rfl
theorem c_asB {K : Bool → DL.Env → Out} {k : Bool → O σ L β} (h : ∀ b, Sim E EL RB EX (K b ρ) (k b)) : Sim E EL RB EX ((bOf d ρ).out K) ((ofO (asB d)).bnd k) := by
  cases d <;> first | exact h _ | exact ⟨trivial⟩
theorem c_bnot {K : Bool → DL.Env → Out} (h : Sim E EL RB EX ((ft ρ).out fun b ρ => K (!b) ρ) n) : Sim E EL RB EX ((bNot ft ρ).out K) n := by
  have : (bNot ft ρ).out K = (ft ρ).out fun b ρ => K (!b) ρ := by
    unfold bNot; rw [bind_out]; rfl
  rw [this]; exact h
/-- a wait within a case: only where K is the end of a block -/
theorem c_band {K : Bool → DL.Env → Out} (h : Sim E EL RB EX ((ft ρ).out fun b ρ => if b = true then (fu ρ).out K else K false ρ) n) : Sim E EL RB EX ((bAnd ft fu ρ).out K) n := by
  have : (bAnd ft fu ρ).out K = (ft ρ).out fun b ρ => if b = true then (fu ρ).out K else K false ρ := by
    unfold bAnd; rw [bind_out]; congr 1; funext b ρ; cases b <;> rfl
  rw [this]; exact h
theorem c_bor {K : Bool → DL.Env → Out} (h : Sim E EL RB EX ((ft ρ).out fun b ρ => if b = true then K true ρ else (fu ρ).out K) n) : Sim E EL RB EX ((bOr ft fu ρ).out K) n := by
  have : (bOr ft fu ρ).out K = (ft ρ).out fun b ρ => if b = true then K true ρ else (fu ρ).out K := by
    unfold bOr; rw [bind_out]; congr 1; funext b ρ; cases b <;> rfl
  rw [this]; exact h
theorem c_and {K : D → DL.Env → Out} (h : Sim E EL RB EX ((tVal fa ρ).out fun b ρ => if b = true then (fb ρ).out K else K (.bl false) ρ) n) : Sim E EL RB EX ((eAndV fa fb ρ).out K) n := by
  have : (eAndV fa fb ρ).out K = (tVal fa ρ).out fun b ρ => if b = true then (fb ρ).out K else K (.bl false) ρ := by
    unfold eAndV; rw [bind_out]; congr 1; funext b ρ; cases b <;> rfl
  rw [this]; exact h
theorem c_or {K : D → DL.Env → Out} (h : Sim E EL RB EX ((tVal fa ρ).out fun b ρ => if b = true then K (.bl true) ρ else (fb ρ).out K) n) : Sim E EL RB EX ((eOrV fa fb ρ).out K) n := by
  have : (eOrV fa fb ρ).out K = (tVal fa ρ).out fun b ρ => if b = true then K (.bl true) ρ else (fb ρ).out K := by
    unfold eOrV; rw [bind_out]; congr 1; funext b ρ; cases b <;> rfl
  rw [this]; exact h
theorem c_not {K : D → DL.Env → Out} (h : Sim E EL RB EX ((tVal fa ρ).out fun b ρ => K (.bl (!b)) ρ) n) : Sim E EL RB EX ((eNotV fa ρ).out K) n := by
  have : (eNotV fa ρ).out K = (tVal fa ρ).out fun b ρ => K (.bl (!b)) ρ := by
    unfold eNotV; rw [bind_out]; rfl
  rw [this]; exact h
theorem c_if {K : D → DL.Env → Out} (h : Sim E EL RB EX ((ft ρ).out fun b ρ => if b = true then (fa ρ).out K else (fb ρ).out K) n) : Sim E EL RB EX ((eIf ft fa fb ρ).out K) n := by
  have : (eIf ft fa fb ρ).out K = (ft ρ).out fun b ρ => if b = true then (fa ρ).out K else (fb ρ).out K := by
    unfold eIf; rw [bind_out]; congr 1; funext b ρ; cases b <;> rfl
  rw [this]; exact h
theorem c_ite {b : Bool} {x y : Out} {n m : O σ L β} (h1 : Sim E EL RB EX x n) (h2 : Sim E EL RB EX y m) : Sim E EL RB EX (if b = true then x else y) (if b = true then n else m) := by
  cases b with
  | true => exact h1
  | false => exact h2
theorem c_isi {p : D → Bool} {K : D → DL.Env → Out} (h : Sim E EL RB EX ((fa ρ).out fun d ρ => K (.bl (p d)) ρ) n) : Sim E EL RB EX ((eIsi p fa ρ).out K) n := by
  have : (eIsi p fa ρ).out K = (fa ρ).out fun d ρ => K (.bl (p d)) ρ := by
    unfold eIsi; rw [bind_out]; rfl
  rw [this]; exact h
theorem c_sl {gg : D → Option Int → Option Int → Option D} {pl ph : ER (Option Int)} {K : D → DL.Env → Out} (h : Sim E EL RB EX ((fa ρ).out fun d ρ => (pl ρ).out fun lo ρ => (ph ρ).out fun hi ρ => (ofOpt (gg d lo hi) ρ).out K) n) : Sim E EL RB EX ((eSl gg fa pl ph ρ).out K) n := by
  have : (eSl gg fa pl ph ρ).out K = (fa ρ).out fun d ρ => (pl ρ).out fun lo ρ => (ph ρ).out fun hi ρ => (ofOpt (gg d lo hi) ρ).out K := by
    unfold eSl; rw [bind_out]; congr 1; funext d ρ; rw [bind_out]; congr 1; funext d ρ; rw [bind_out]
  rw [this]; exact h
theorem c_pso {K : Option Int → DL.Env → Out} (h : Sim E EL RB EX ((fa ρ).out fun d ρ => (iOf d ρ).out K) n) : Sim E EL RB EX ((pSo fa ρ).out K) n := by
  have : (pSo fa ρ).out K = (fa ρ).out fun d ρ => (iOf d ρ).out K := by
    unfold pSo; rw [bind_out]; congr 1
  rw [this]; exact h
theorem c_asI {K : Option Int → DL.Env → Out} {k : Int → O σ L β} (h : ∀ b, Sim E EL RB EX (K (some b) ρ) (k b)) : Sim E EL RB EX ((iOf d ρ).out K) ((ofO (asI d)).bnd k) := by
  cases d <;> first | exact h _ | exact ⟨trivial⟩
def chK (o1 : Option D) (y : DL.Env → Res D) (ρ : DL.Env) : Res D := match o1 with
  | some (.bl true) => y ρ
  | some (.bl false) => .ok (.bl false) ρ
  | _ => .stuck
theorem c_chain {gg gh : D → D → Option D} {K : D → DL.Env → Out} (h : Sim E EL RB EX ((fa ρ).out fun d ρ => (fb ρ).out fun e ρ => (chK (gg d e) (fun ρ => (fc ρ).bind fun o ρ => ofOpt (gh e o) ρ) ρ).out K) n) : Sim E EL RB EX ((eChain gg gh fa fb fc ρ).out K) n := by
  have : (eChain gg gh fa fb fc ρ).out K = (fa ρ).out fun d ρ => (fb ρ).out fun e ρ => (chK (gg d e) (fun ρ => (fc ρ).bind fun o ρ => ofOpt (gh e o) ρ) ρ).out K := by
    unfold eChain; rw [bind_out]; congr 1; funext d ρ; rw [bind_out]; congr 1
  rw [this]; exact h
theorem c_chain2 {b : Bool} {o1 : Option D} {y : DL.Env → Res D} {K : D → DL.Env → Out} (h0 : o1 = some (.bl b)) (h : Sim E EL RB EX (if b = true then (y ρ).out K else K (.bl false) ρ) n) : Sim E EL RB EX ((chK o1 y ρ).out K) n := by
  subst h0
  cases b <;> exact h
theorem c_chain3 {o1 : Option D} {x : Option Bool} {y : DL.Env → Res D} {K : D → DL.Env → Out} {k : Bool → O σ L β} (h0 : o1 = x.map D.bl) (h : ∀ b, Sim E EL RB EX (if b = true then (y ρ).out K else K (.bl false) ρ) (k b)) : Sim E EL RB EX ((chK o1 y ρ).out K) (O.bnd (ofO x) k) := by
  subst h0
  cases x with
  | none => exact ⟨True.intro⟩
  | some b => have := h b; cases b <;> exact this
theorem c_bind {ξ ζ : Type} {r : Res ξ} {h : ξ → DL.Env → Res ζ} {K : ζ → DL.Env → Out} (q : Sim E EL RB EX (r.out fun a ρ => (h a ρ).out K) n) : Sim E EL RB EX ((r.bind h).out K) n := by rw [bind_out]; exact q
/-! ### calls -/
def SimP (v : α → D) (w : α → DL.Env) (r : FRes) (x : Fr α) : Prop := match x with
  | .rt a => r = .ret (v a) (w a)
  | .exc e => ∃ outs, r = .exc e outs
  | .stuck => True
  | .nx s => s.elim
  | .bk s => s.elim
  | .ct s => s.elim
structure SimF (v : α → D) (w : α → DL.Env) (r : FRes) (x : Fr α) : Prop where
  h : SimP v w r x
theorem c_call {N : Nat} {h : Den} {ds : List D} {x : Fr α} {k : α → O σ L β} {v : α → D} {w : α → DL.Env} {K : D → DL.Env → Out} (ha : fl ρ = .ok ds ρ') (hl : ds.length = N) (hf : SimF v w (h ds) x) (hx : EX ρ') (hk : ∀ a, Sim E EL RB EX (K (v a) ρ') (k a)) : Sim E EL RB EX ((eCall N h fl ρ).out K) (x.bnd k) := by
  unfold eCall
  rw [ha]
  show Sim E EL RB EX ((if ds.length = N then _ else Res.stuck).out K) _
  rw [if_pos hl]
  cases x with
  | nx s => exact s.elim
  | bk s => exact s.elim
  | ct s => exact s.elim
  | stuck => exact ⟨trivial⟩
  | exc e => obtain ⟨outs, h1⟩ := hf.h; rw [h1]; exact ⟨⟨_, rfl, hx⟩⟩
  | rt a => have h1 : h ds = .ret (v a) (w a) := hf.h; rw [h1]; exact hk a
def callR (N : Nat) (h : Den) (ds : List D) (ρ : DL.Env) : Res D := if ds.length = N then (match h ds with | .ret d _ => Res.ok d ρ | .exc e _ => .exc e ρ | .stuck => .stuck) else .stuck
theorem c_callM {N : Nat} {h : Den} {K : D → DL.Env → Out} (q : Sim E EL RB EX ((fl ρ).out fun ds ρ => (callR N h ds ρ).out K) n) : Sim E EL RB EX ((eCall N h fl ρ).out K) n := by
  have : eCall N h fl ρ = (fl ρ).bind fun ds ρ => callR N h ds ρ := rfl
  rw [this, bind_out]; exact q
theorem c_fret {N : Nat} {h : Den} {ds : List D} {x : Fr α} {k : α → O σ L β} {v : α → D} {w : α → DL.Env} {K : D → DL.Env → Out} (hl : ds.length = N) (hf : SimF v w (h ds) x) (hx : EX ρ) (hk : ∀ a, Sim E EL RB EX (K (v a) ρ) (k a)) : Sim E EL RB EX ((callR N h ds ρ).out K) (x.bnd k) := by
  unfold callR
  rw [if_pos hl]
  cases x with
  | nx s => exact s.elim
  | bk s => exact s.elim
  | ct s => exact s.elim
  | stuck => exact ⟨trivial⟩
  | exc e => obtain ⟨outs, h1⟩ := hf.h; rw [h1]; exact ⟨⟨_, rfl, hx⟩⟩
  | rt a => have h1 : h ds = .ret (v a) (w a) := hf.h; rw [h1]; exact hk a
def callOK (i N : Nat) (h : Den) (ds : List D) (ρ : DL.Env) : Res D := match ρ[i]? with
    | some (some d0) => if ds.length = N then (match h (d0 :: ds) with
      | .ret d outs => .ok d (ρ.set i outs.head?.join)
      | .exc e outs => .exc e (ρ.set i outs.head?.join)
      | .stuck => .stuck) else .stuck
    | _ => .stuck
theorem c_callO {i N : Nat} {h : Den} {d1 : D} {K : D → DL.Env → Out} (h0 : ρ[i]? = some (some d1)) (q : Sim E EL RB EX ((fl ρ).out fun ds ρ => (callOK i N h ds ρ).out K) n) : Sim E EL RB EX ((eCallO i N h fl ρ).out K) n := by
  unfold eCallO
  rw [h0]
  show Sim E EL RB EX (((fl ρ).bind fun ds ρ => callOK i N h ds ρ).out K) n
  rw [bind_out]; exact q
theorem c_fretO {i N : Nat} {h : Den} {d0 : D} {ds : List D} {x : Fr α} {k : α → O σ L β} {v u : α → D} {K : D → DL.Env → Out} (h0 : ρ[i]? = some (some d0)) (hl : ds.length = N) (hf : SimF v (fun a => [some (u a)]) (h (d0 :: ds)) x) (hx : ∀ y, EX (ρ.set i y)) (hk : ∀ a, Sim E EL RB EX (K (v a) (ρ.set i (some (u a)))) (k a)) : Sim E EL RB EX ((callOK i N h ds ρ).out K) (x.bnd k) := by
  unfold callOK
  rw [h0]
  simp only [if_pos hl]
  cases x with
  | nx s => exact s.elim
  | bk s => exact s.elim
  | ct s => exact s.elim
  | stuck => exact ⟨trivial⟩
  | exc e => obtain ⟨outs, h1⟩ := hf.h; rw [h1]; exact ⟨⟨_, rfl, hx _⟩⟩
  | rt a => have h1 : h (d0 :: ds) = .ret (v a) [some (u a)] := hf.h; rw [h1]; exact hk a
def frOf (r : FRes) : Fr D := match r with
  | .ret d _ => .rt d
  | .exc e _ => .exc e
  | .stuck => .stuck
def frOf1 (r : FRes) : Fr (D × D) := match r with
  | .ret d [some o] => .rt (d, o)
  | .exc e _ => .exc e
  | _ => .stuck
theorem simF_of {N : Nat} {fb : DL.Env → Out} {ds : List D} : SimF (fun d => d) (fun _ => []) (mkF N 0 fb ds) (frOf (mkF N 0 fb ds)) := by
  constructor
  unfold mkF
  cases fb (ds.map some ++ List.replicate (N - ds.length) none) <;> first | rfl | exact ⟨_, rfl⟩ | trivial
theorem simF_of1 {r : FRes} : SimF (fun d : D × D => d.1) (fun d => [some d.2]) r (frOf1 r) := by
  constructor
  unfold frOf1
  split
  · rfl
  · exact ⟨_, rfl⟩
  · trivial
theorem simF_mk {N k : Nat} {fb : DL.Env → Out} {ds : List D} {x : Fr α} {v : α → D} {w : α → DL.Env} (h : Sim (σ := Empty) (L := Empty) (fun s _ => s.elim) (fun s _ => s.elim) (fun a d ρ => d = v a ∧ ρ.take k = w a) (fun _ => True) (fb (ds.map some ++ List.replicate (N - ds.length) none)) x) : SimF v w (mkF N k fb ds) x := by
  constructor
  unfold mkF
  cases x with
  | nx s => exact s.elim
  | bk s => exact s.elim
  | ct s => exact s.elim
  | stuck => trivial
  | exc e => obtain ⟨ρ, h1, _⟩ := h.h; rw [h1]; exact ⟨_, rfl⟩
  | rt a => obtain ⟨d, ρ, h1, h2, h3⟩ := h.h; rw [h1]; subst h2; show FRes.ret _ _ = _; rw [h3]
theorem simF_mkN {N k : Nat} {fb : DL.Env → Out} {ds : List D} {x : O Unit Empty α} {z : α} {v : α → D} {w : α → DL.Env} (hz : v z = .non) (h : Sim (σ := Unit) (L := Empty) (fun _ ρ => ρ.take k = w z) (fun s _ => s.elim) (fun a d ρ => d = v a ∧ ρ.take k = w a) (fun _ => True) (fb (ds.map some ++ List.replicate (N - ds.length) none)) x) : SimF v w (mkF N k fb ds) (fin z x) := by
  constructor
  unfold mkF
  cases x with
  | nx s => obtain ⟨ρ, h1, h2⟩ := h.h; rw [h1]; show FRes.ret _ _ = _; rw [h2, hz]
  | bk s => exact s.elim
  | ct s => exact s.elim
  | stuck => trivial
  | exc e => obtain ⟨ρ, h1, _⟩ := h.h; rw [h1]; exact ⟨_, rfl⟩
  | rt a => obtain ⟨d, ρ, h1, h2, h3⟩ := h.h; rw [h1]; subst h2; show FRes.ret _ _ = _; rw [h3]
theorem SimF.rt {v : α → D} {w : α → DL.Env} {r : FRes} {x : Fr α} {a : α} (h : SimF v w r x) (e : x = .rt a) : r = .ret (v a) (w a) := by subst e; exact h.h
end
end DL
namespace DL
open PySem L2
section
variable {α β γ σ τ υ L L' : Type}
variable {E : σ → DL.Env → Prop} {E1 : τ → DL.Env → Prop} {EL : L → DL.Env → Prop} {RB : β → D → DL.Env → Prop} {EX EX1 : DL.Env → Prop}
variable {ρ ρ' : DL.Env} {fe fa fb fc : ER D} {ft fu : ER Bool} {fl : ER (List D)} {f g : DL.Env → Out} {n : O σ L β} {d e o : D} {b : Bool} {K : DL.Env → Out} {i j l : Nat}
/-! ### statements -/
theorem seq_seq {o : Out} {h : DL.Env → Out} {K : DL.Env → Out} : (o.seq h).seq K = o.seq fun ρ => (h ρ).seq K := by cases o <;> rfl
theorem out_seq {ξ : Type} {r : Res ξ} {h : ξ → DL.Env → Out} {K : DL.Env → Out} : (r.out h).seq K = r.out fun a ρ => (h a ρ).seq K := by cases r <;> rfl
theorem t_end (h : Sim E EL RB EX ((f ρ).seq Out.nx) n) : Sim E EL RB EX (f ρ) n := by
  have : (f ρ).seq Out.nx = f ρ := by cases f ρ <;> rfl
  rw [this] at h; exact h
theorem t_nx {s : σ} (h : E s ρ) : Sim E EL RB EX (Out.nx ρ) (.nx s : O σ L β) := ⟨⟨_, rfl, h⟩⟩
theorem t_rt {a : β} (h : RB a d ρ) : Sim E EL RB EX (Out.rt d ρ) (.rt a : O σ L β) := ⟨⟨_, _, rfl, h⟩⟩
theorem t_pass (h : Sim E EL RB EX (K ρ) n) : Sim E EL RB EX ((Out.nx ρ).seq K) n := h
theorem t_bk {s : L} (h : EL s ρ) : Sim E EL RB EX ((Out.bk ρ).seq K) (.bk s : O σ L β) := ⟨⟨_, rfl, h⟩⟩
theorem t_ct {s : L} (h : EL s ρ) : Sim E EL RB EX ((Out.ct ρ).seq K) (.ct s : O σ L β) := ⟨⟨_, rfl, h⟩⟩
theorem t_seq (h : Sim E EL RB EX ((f ρ).seq fun ρ => (g ρ).seq K) n) : Sim E EL RB EX ((sSeq f g ρ).seq K) n := by
  unfold sSeq; rw [seq_seq]; exact h
theorem t_set (h : Sim E EL RB EX ((fe ρ).out fun d ρ => K (ρ.set i (some d))) n) : Sim E EL RB EX ((sSet i fe ρ).seq K) n := by
  unfold sSet; rw [out_seq]; exact h
theorem t_drop (h : Sim E EL RB EX ((fe ρ).out fun _ ρ => K ρ) n) : Sim E EL RB EX ((sDrop fe ρ).seq K) n := by
  unfold sDrop; rw [out_seq]; exact h
theorem t_ret (h : Sim E EL RB EX ((fe ρ).out fun d ρ => .rt d ρ) n) : Sim E EL RB EX ((sRet fe ρ).seq K) n := by
  unfold sRet; rw [out_seq]; exact h
theorem t_retN {a : β} (h : RB a .non ρ) : Sim E EL RB EX ((Out.rt .non ρ).seq K) (.rt a : O σ L β) := ⟨⟨_, _, rfl, h⟩⟩
theorem t_if (h : Sim E EL RB EX ((ft ρ).out fun b ρ => if b = true then (f ρ).seq K else (g ρ).seq K) n) : Sim E EL RB EX ((sIf ft f g ρ).seq K) n := by
  have : (sIf ft f g ρ).seq K = (ft ρ).out fun b ρ => if b = true then (f ρ).seq K else (g ρ).seq K := by
    unfold sIf; rw [out_seq]; congr 1; funext b ρ; cases b <;> rfl
  rw [this]; exact h
def parK (i j : Nat) (K : DL.Env → Out) (ds : List D) (ρ : DL.Env) : Out := match ds with
  | [d, e] => K ((ρ.set i (some d)).set j (some e))
  | _ => .stuck
theorem t_par (h : Sim E EL RB EX ((fl ρ).out (parK i j K)) n) : Sim E EL RB EX ((sPar i j fl ρ).seq K) n := by
  have : (sPar i j fl ρ).seq K = (fl ρ).out (parK i j K) := by
    unfold sPar; rw [out_seq]; congr 1; funext ds ρ; unfold parK; split <;> first | rfl | (split <;> first | rfl | simp_all)
  rw [this]; exact h
theorem t_parK (h : Sim E EL RB EX (K ((ρ.set i (some d)).set j (some e))) n) : Sim E EL RB EX (parK i j K [d, e] ρ) n := h
def parK3 (i j l : Nat) (K : DL.Env → Out) (ds : List D) (ρ : DL.Env) : Out := match ds with
  | [d, e, o] => K (((ρ.set i (some d)).set j (some e)).set l (some o))
  | _ => .stuck
theorem t_par3 (h : Sim E EL RB EX ((fl ρ).out (parK3 i j l K)) n) : Sim E EL RB EX ((sPar3 i j l fl ρ).seq K) n := by
  have : (sPar3 i j l fl ρ).seq K = (fl ρ).out (parK3 i j l K) := by
    unfold sPar3; rw [out_seq]; congr 1; funext ds ρ; unfold parK3; split <;> first | rfl | (split <;> first | rfl | simp_all)
  rw [this]; exact h
theorem t_parK3 (h : Sim E EL RB EX (K (((ρ.set i (some d)).set j (some e)).set l (some o))) n) : Sim E EL RB EX (parK3 i j l K [d, e, o] ρ) n := h
def asgK (gf : D → DL.Env → Option DL.Env) (K : DL.Env → Out) (d : D) (ρ : DL.Env) : Out := match gf d ρ with
  | some ρ => K ρ
  | none => .stuck
theorem t_asg {gf : D → DL.Env → Option DL.Env} (h : Sim E EL RB EX ((fe ρ).out (asgK gf K)) n) : Sim E EL RB EX ((sAsg fe gf ρ).seq K) n := by
  have : (sAsg fe gf ρ).seq K = (fe ρ).out (asgK gf K) := by
    unfold sAsg; rw [out_seq]; congr 1; funext ds ρ; unfold asgK; cases gf ds ρ <;> rfl
  rw [this]; exact h
theorem t_asgK {gf : D → DL.Env → Option DL.Env} (e : gf d ρ = some ρ') (h : Sim E EL RB EX (K ρ') n) : Sim E EL RB EX (asgK gf K d ρ) n := by
  unfold asgK; rw [e]; exact h
/-- a value of unknown shape, taken apart -/
def un2 : D → Option (D × D)
  | .tup [a, b] => some (a, b)
  | _ => none
def un3 : D → Option (D × D × D)
  | .tup [a, b, c] => some (a, b, c)
  | _ => none
def l2 {α : Type} : List α → Option (α × α)
  | [a, b] => some (a, b)
  | _ => none
def l3 {α : Type} : List α → Option (α × α × α)
  | [a, b, c] => some (a, b, c)
  | _ => none
theorem t_un2 {a b : Nat} {k : D × D → O σ L β} (h : ∀ p, Sim E EL RB EX (K ((ρ.set a (some p.1)).set b (some p.2))) (k p)) : Sim E EL RB EX (asgK (gT 2 (gsCons (gN a) (gsCons (gN b) gsNil))) K d ρ) ((ofO (un2 d)).bnd k) := by
  unfold un2
  split
  · exact h (_, _)
  · exact ⟨trivial⟩
theorem t_un3 {a b c : Nat} {k : D × D × D → O σ L β} (h : ∀ p, Sim E EL RB EX (K (((ρ.set a (some p.1)).set b (some p.2.1)).set c (some p.2.2))) (k p)) : Sim E EL RB EX (asgK (gT 3 (gsCons (gN a) (gsCons (gN b) (gsCons (gN c) gsNil)))) K d ρ) ((ofO (un3 d)).bnd k) := by
  unfold un3
  split
  · exact h (_, _, _)
  · exact ⟨trivial⟩
theorem t_l2 {a b : Nat} {v : α → D} {xs : List α} {k : α × α → O σ L β} (h : ∀ p, Sim E EL RB EX (K ((ρ.set a (some (v p.1))).set b (some (v p.2)))) (k p)) : Sim E EL RB EX (asgK (gT 2 (gsCons (gN a) (gsCons (gN b) gsNil))) K (.tup (xs.map v)) ρ) ((ofO (l2 xs)).bnd k) := by
  unfold l2
  split
  · exact h (_, _)
  · exact ⟨trivial⟩
theorem t_l3 {a b c : Nat} {v : α → D} {xs : List α} {k : α × α × α → O σ L β} (h : ∀ p, Sim E EL RB EX (K (((ρ.set a (some (v p.1))).set b (some (v p.2.1))).set c (some (v p.2.2)))) (k p)) : Sim E EL RB EX (asgK (gT 3 (gsCons (gN a) (gsCons (gN b) (gsCons (gN c) gsNil)))) K (.tup (xs.map v)) ρ) ((ofO (l3 xs)).bnd k) := by
  unfold l3
  split
  · exact h (_, _, _)
  · exact ⟨trivial⟩
theorem t_aug {gg : D → D → Option D} {d0 : D} (h0 : ρ[i]? = some (some d0)) (h : Sim E EL RB EX ((fe ρ).out fun e ρ => (ofOpt (gg d0 e) ρ).out fun o ρ => K (ρ.set i (some o))) n) : Sim E EL RB EX ((sAug gg i fe ρ).seq K) n := by
  have : (sAug gg i fe ρ).seq K = (fe ρ).out fun e ρ => (ofOpt (gg d0 e) ρ).out fun o ρ => K (ρ.set i (some o)) := by
    have e0 : eVar i ρ = .ok d0 ρ := by unfold eVar; rw [h0]
    unfold sAug; rw [e0, out_seq, out_ok, out_seq]; congr 1; funext e ρ; cases gg d0 e <;> rfl
  rw [this]; exact h
def setiK (i : Nat) (K : DL.Env → Out) (d k : D) (ρ : DL.Env) : Out := match ρ[i]? with
  | some (some x) => (ofOpt (storeO x k d) ρ).out fun x' ρ => K (ρ.set i (some x'))
  | _ => .stuck
def setiW (i : Nat) (K : DL.Env → Out) (fi : ER D) (d : D) (ρ : DL.Env) : Out := match ρ[i]? with
  | some (some _) => (fi ρ).out (setiK i K d)
  | _ => .stuck
theorem t_seti {fv fi : ER D} {d0 : D} (h : Sim E EL RB EX ((fv ρ).out (setiW i K fi)) n) : Sim E EL RB EX ((sSetI i fv fi ρ).seq K) n := by
  have : (sSetI i fv fi ρ).seq K = (fv ρ).out (setiW i K fi) := by
    unfold sSetI; rw [out_seq]; congr 1; funext d ρ; unfold setiW; cases ρ[i]? with
    | none => rfl
    | some o => cases o with
      | none => rfl
      | some x => rw [out_seq]; congr 1; funext k ρ; unfold setiK; cases ρ[i]? with
        | none => rfl
        | some o => cases o with
          | none => rfl
          | some x => show Out.seq (match storeO x k d with | some x' => _ | none => _) K = (ofOpt (storeO x k d) ρ).out _; cases storeO x k d <;> rfl
  rw [this]; exact h
theorem t_seti2 {fi : ER D} {d0 : D} (h0 : ρ[i]? = some (some d0)) (h : Sim E EL RB EX ((fi ρ).out (setiK i K d)) n) : Sim E EL RB EX (setiW i K fi d ρ) n := by
  unfold setiW; rw [h0]; exact h
theorem t_setiK {k d0 : D} (h0 : ρ[i]? = some (some d0)) (h : Sim E EL RB EX ((ofOpt (storeO d0 k d) ρ).out fun x' ρ => K (ρ.set i (some x'))) n) : Sim E EL RB EX (setiK i K d k ρ) n := by
  unfold setiK; rw [h0]; exact h
theorem t_raise {c : Nat} {fs : List Str} (h : Sim E EL RB EX ((fl ρ).out fun ds ρ => if ds.length = fs.length then .exc ⟨c, fs.zip ds⟩ ρ else .stuck) n) : Sim E EL RB EX ((sRaise c fs fl ρ).seq K) n := by
  have : (sRaise c fs fl ρ).seq K = (fl ρ).out fun ds ρ => if ds.length = fs.length then .exc ⟨c, fs.zip ds⟩ ρ else .stuck := by
    unfold sRaise; rw [out_seq]; congr 1; funext ds ρ; split <;> rfl
  rw [this]; exact h
theorem t_exc {c : Nat} {fs : List Str} {ds : List D} (hl : ds.length = fs.length) (hx : EX ρ) : Sim E EL RB EX (if ds.length = fs.length then .exc ⟨c, fs.zip ds⟩ ρ else .stuck) (.exc ⟨c, fs.zip ds⟩ : O σ L β) := by
  rw [if_pos hl]; exact ⟨⟨_, rfl, hx⟩⟩
/-- two ways meet -/
theorem t_cut {m : O τ L β} {k : τ → O σ L β} (h1 : Sim E1 EL RB EX (f ρ) m) (h2 : ∀ s ρ', E1 s ρ' → Sim E EL RB EX (K ρ') (k s)) : Sim E EL RB EX ((f ρ).seq K) (m.seq k) := by
  cases m with
  | nx s => obtain ⟨ρ1, e1, h⟩ := h1.h; rw [e1]; exact h2 s ρ1 h
  | bk s => obtain ⟨ρ1, e1, h⟩ := h1.h; rw [e1]; exact ⟨⟨_, rfl, h⟩⟩
  | ct s => obtain ⟨ρ1, e1, h⟩ := h1.h; rw [e1]; exact ⟨⟨_, rfl, h⟩⟩
  | rt s => obtain ⟨d, ρ1, e1, h⟩ := h1.h; rw [e1]; exact ⟨⟨_, _, rfl, h⟩⟩
  | exc s => obtain ⟨ρ1, e1, h⟩ := h1.h; rw [e1]; exact ⟨⟨_, rfl, h⟩⟩
  | stuck => exact ⟨trivial⟩
theorem forL_sim {v : α → D} {gf : D → DL.Env → Option DL.Env} {F : α → τ → O τ τ β} (hb : ∀ x s ρ, E1 s ρ → Sim E1 E1 RB EX (asgK gf f (v x) ρ) (F x s)) : ∀ (xs : List α) (s : τ) (ρ : DL.Env), E1 s ρ → Sim E1 EL RB EX (forL gf f (xs.map v) ρ) (nFor F xs s : O τ L β)
  | [], s, ρ, h => ⟨_, rfl, h⟩
  | x :: xs, s, ρ, h => by
    have h2 := hb x s ρ h
    rw [List.map_cons]
    unfold forL nFor
    unfold asgK at h2
    cases h1 : gf (v x) ρ with
    | none =>
      rw [h1] at h2
      cases e : F x s with
      | stuck => exact ⟨trivial⟩
      | nx s' => rw [e] at h2; obtain ⟨ρ2, e2, h3⟩ := h2.h; cases e2
      | ct s' => rw [e] at h2; obtain ⟨ρ2, e2, h3⟩ := h2.h; cases e2
      | bk s' => rw [e] at h2; obtain ⟨ρ2, e2, h3⟩ := h2.h; cases e2
      | rt b => rw [e] at h2; obtain ⟨d, ρ2, e2, h3⟩ := h2.h; cases e2
      | exc b => rw [e] at h2; obtain ⟨ρ2, e2, h3⟩ := h2.h; cases e2
    | some ρ1 =>
      rw [h1] at h2
      simp only at h2 ⊢
      cases e : F x s with
      | nx s' => rw [e] at h2; obtain ⟨ρ2, e2, h3⟩ := h2.h; rw [e2]; exact forL_sim hb xs s' ρ2 h3
      | ct s' => rw [e] at h2; obtain ⟨ρ2, e2, h3⟩ := h2.h; rw [e2]; exact forL_sim hb xs s' ρ2 h3
      | bk s' => rw [e] at h2; obtain ⟨ρ2, e2, h3⟩ := h2.h; rw [e2]; exact ⟨⟨_, rfl, h3⟩⟩
      | rt b => rw [e] at h2; obtain ⟨d, ρ2, e2, h3⟩ := h2.h; rw [e2]; exact ⟨⟨_, _, rfl, h3⟩⟩
      | exc b => rw [e] at h2; obtain ⟨ρ2, e2, h3⟩ := h2.h; rw [e2]; exact ⟨⟨_, rfl, h3⟩⟩
      | stuck => exact ⟨trivial⟩
theorem t_forK {fi : ER (List D)} {gf : D → DL.Env → Option DL.Env} (h : Sim E EL RB EX ((fi ρ).out fun es ρ => (forL gf f es ρ).seq K) n) : Sim E EL RB EX ((sFor fi gf f ρ).seq K) n := by
  unfold sFor; rw [out_seq]; exact h
/-- the last statement of a block -/
theorem t_loop {v : α → D} {gf : D → DL.Env → Option DL.Env} {F : α → τ → O τ τ β} {xs : List α} {s : τ} {k : τ → O σ L β} (h0 : E1 s ρ) (hb : ∀ x s ρ, E1 s ρ → Sim E1 E1 RB EX (asgK gf f (v x) ρ) (F x s)) (h2 : ∀ s ρ', E1 s ρ' → Sim E EL RB EX (K ρ') (k s)) :
    Sim E EL RB EX ((forL gf f (xs.map v) ρ).seq K) ((nFor F xs s : O τ L β).seq k) :=
  t_cut (f := fun ρ => forL gf f (xs.map v) ρ) (forL_sim hb xs s ρ h0) h2
/-! ### iterables -/
theorem c_iA {K : List D → DL.Env → Out} (h : Sim E EL RB EX ((fa ρ).out fun d ρ => (ofOpt (asLs d) ρ).out K) n) : Sim E EL RB EX ((iA fa ρ).out K) n := by
  have : (iA fa ρ).out K = (fa ρ).out fun d ρ => (ofOpt (asLs d) ρ).out K := by
    unfold iA; rw [bind_out]; congr 1; funext d ρ; cases d <;> rfl
  rw [this]; exact h
theorem c_iS {K : List D → DL.Env → Out} (h : Sim E EL RB EX ((fa ρ).out fun d ρ => (ofOpt ((asS d).map signsD) ρ).out K) n) : Sim E EL RB EX ((iS fa ρ).out K) n := by
  have : (iS fa ρ).out K = (fa ρ).out fun d ρ => (ofOpt ((asS d).map signsD) ρ).out K := by
    unfold iS; rw [bind_out]; congr 1; funext d ρ; cases d <;> rfl
  rw [this]; exact h
def gR1 : List D → Option (List D)
  | [.int j] => if inRg j = true then some (rangeD 0 j.toNat) else none
  | _ => none
def gR2 : List D → Option (List D)
  | [.int i, .int j] => if inRg i = true ∧ inRg j = true then some (rangeD i (j - i).toNat) else none
  | _ => none
def gEn : List D → Option (List D)
  | [.lst ds] => some (enumD 0 ds)
  | [.tup ds] => some (enumD 0 ds)
  | _ => none
theorem c_iR1 {K : List D → DL.Env → Out} (h : Sim E EL RB EX ((fl ρ).out fun d ρ => (ofOpt (gR1 d) ρ).out K) n) : Sim E EL RB EX ((iR1 fl ρ).out K) n := by
  have : (iR1 fl ρ).out K = (fl ρ).out fun d ρ => (ofOpt (gR1 d) ρ).out K := by
    unfold iR1; rw [bind_out]; congr 1; funext ds ρ; unfold gR1; split
    · rename_i j; by_cases q : inRg j = true <;> simp [q]; rfl
    · first | rfl | (split <;> first | rfl | simp_all)
  rw [this]; exact h
theorem c_iR2 {K : List D → DL.Env → Out} (h : Sim E EL RB EX ((fl ρ).out fun d ρ => (ofOpt (gR2 d) ρ).out K) n) : Sim E EL RB EX ((iR2 fl ρ).out K) n := by
  have : (iR2 fl ρ).out K = (fl ρ).out fun d ρ => (ofOpt (gR2 d) ρ).out K := by
    unfold iR2; rw [bind_out]; congr 1; funext ds ρ; unfold gR2; split
    · rename_i i j; by_cases q : inRg i = true ∧ inRg j = true <;> simp [q]; rfl
    · first | rfl | (split <;> first | rfl | simp_all)
  rw [this]; exact h
theorem c_iEn {K : List D → DL.Env → Out} (h : Sim E EL RB EX ((fl ρ).out fun d ρ => (ofOpt (gEn d) ρ).out K) n) : Sim E EL RB EX ((iEn fl ρ).out K) n := by
  have : (iEn fl ρ).out K = (fl ρ).out fun d ρ => (ofOpt (gEn d) ρ).out K := by
    unfold iEn; rw [bind_out]; congr 1; funext ds ρ; unfold gEn; split <;> first | rfl | (split <;> first | rfl | simp_all)
  rw [this]; exact h
def rgI (lo : Int) (n : Nat) : List Int := (List.range n).map fun (i : Nat) => lo + (i : Int)
def enI (n : Nat) : List α → List (Int × α)
  | [] => []
  | x :: xs => ((n : Int), x) :: enI (n + 1) xs
def sgS (x : Str) : List Str := x.cps.toList.map fun c => ⟨#[c]⟩
theorem rg_map (lo : Int) (n : Nat) : rangeD lo n = (rgI lo n).map D.int := by unfold rangeD rgI; rw [List.map_map]; rfl
theorem en_map {v : α → D} : ∀ (xs : List α) (n : Nat), enumD n (xs.map v) = (enI n xs).map fun p => .tup [.int p.1, v p.2]
  | [], _ => rfl
  | x :: xs, n => by rw [List.map_cons]; unfold enumD enI; rw [en_map xs, List.map_cons]
@[irreducible] def rg1 (j : Int) : Option (List Int) := if inRg j = true then some (rgI 0 j.toNat) else none
@[irreducible] def rg2 (i j : Int) : Option (List Int) := if inRg i = true ∧ inRg j = true then some (rgI i (j - i).toNat) else none
theorem h_r1 {j : Int} : gR1 [.int j] = (rg1 j).map fun xs => xs.map D.int := by
  unfold gR1 rg1; simp only; split
  · rw [rg_map]; rfl
  · rfl
theorem h_r1l {j : Int} (h : inRg j = true) : gR1 [.int j] = some ((rgI 0 j.toNat).map D.int) := by
  unfold gR1; simp only [h]; rw [rg_map]; rfl
theorem h_r2 {i j : Int} : gR2 [.int i, .int j] = (rg2 i j).map fun xs => xs.map D.int := by
  unfold gR2 rg2; simp only; split
  · rw [rg_map]; rfl
  · rfl
theorem h_enT {v : α → D} {xs : List α} : gEn [.tup (xs.map v)] = some ((enI 0 xs).map fun p => .tup [.int p.1, v p.2]) := by unfold gEn; simp only; rw [en_map]
theorem h_enL {v : α → D} {xs : List α} : gEn [.lst (xs.map v)] = some ((enI 0 xs).map fun p => .tup [.int p.1, v p.2]) := by unfold gEn; simp only; rw [en_map]
theorem h_sg {x : Str} : (some x).map signsD = some ((sgS x).map D.str) := by show some (signsD x) = _; unfold signsD sgS; rw [List.map_map]; rfl
/-! ### own lists -/
def mtR (i : Nat) (gg : List D → List D → Option (D × List D)) (es : List D) (ρ : DL.Env) : Res D := match ρ[i]? with
    | some (some (.lst ds)) => (match gg ds es with | some (d, ds') => Res.ok d (ρ.set i (some (.lst ds'))) | none => .stuck)
    | _ => .stuck
theorem c_mtO {i : Nat} {gg : List D → List D → Option (D × List D)} {d0 : List D} {K : D → DL.Env → Out} (h0 : ρ[i]? = some (some (.lst d0))) (h : Sim E EL RB EX ((fl ρ).out fun es ρ => (mtR i gg es ρ).out K) n) : Sim E EL RB EX ((eMtO i gg fl ρ).out K) n := by
  have : eMtO i gg fl ρ = (fl ρ).bind fun es ρ => mtR i gg es ρ := by
    unfold eMtO; rw [h0]; rfl
  rw [this, bind_out]
  exact h
theorem c_mt2 {i : Nat} {gg : List D → List D → Option (D × List D)} {d0 es : List D} {x : Option α} {v : α → D} {u : α → List D} {k : α → O σ L β} {K : D → DL.Env → Out} (h0 : ρ[i]? = some (some (.lst d0))) (hg : gg d0 es = x.map fun a => (v a, u a)) (h : ∀ a, Sim E EL RB EX (K (v a) (ρ.set i (some (.lst (u a))))) (k a)) : Sim E EL RB EX ((mtR i gg es ρ).out K) ((ofO x).bnd k) := by
  unfold mtR
  rw [h0]
  simp only
  rw [hg]
  cases x with
  | none => exact ⟨trivial⟩
  | some a => exact h a
def ixR (i : Nat) (y : D) (ρ : DL.Env) : Res D := match ρ[i]? with
  | some (some d) => ofOpt (itemO d y) ρ
  | _ => .stuck
theorem c_ixO {i : Nat} {d0 : D} {K : D → DL.Env → Out} (h0 : ρ[i]? = some (some d0)) (h : Sim E EL RB EX ((fe ρ).out fun y ρ => (ixR i y ρ).out K) n) : Sim E EL RB EX ((eIxO i fe ρ).out K) n := by
  have : eIxO i fe ρ = (fe ρ).bind fun y ρ => ixR i y ρ := by
    unfold eIxO; rw [h0]; rfl
  rw [this, bind_out]
  exact h
theorem c_ix2 {i : Nat} {d0 y : D} {K : D → DL.Env → Out} (h0 : ρ[i]? = some (some d0)) (h : Sim E EL RB EX ((ofOpt (itemO d0 y) ρ).out K) n) : Sim E EL RB EX ((ixR i y ρ).out K) n := by
  unfold ixR; rw [h0]; exact h
theorem c_slO {i : Nat} {ds : List D} {lo hi : Option Int} {pl ph : ER (Option Int)} {K : D → DL.Env → Out} (h0 : ρ[i]? = some (some (.lst ds))) (hl : pl ρ = .ok lo ρ) (hh : ph ρ = .ok hi ρ) (h : Sim E EL RB EX (K (.lst (cutD ds lo hi)) ρ) n) : Sim E EL RB EX ((eSlO i pl ph ρ).out K) n := by
  unfold eSlO
  rw [h0]
  simp only
  rw [hl]
  simp only [bind_ok]
  rw [hh]
  simp only [bind_ok]
  rw [h0]
  exact h
theorem c_cpO {i : Nat} {ds : List D} {K : D → DL.Env → Out} (h0 : ρ[i]? = some (some (.lst ds))) (h : Sim E EL RB EX (K (.lst ds) ρ) n) : Sim E EL RB EX ((eCpO i ρ).out K) n := by
  unfold eCpO; rw [h0]; exact h
theorem c_tpO {i : Nat} {ds : List D} {K : D → DL.Env → Out} (h0 : ρ[i]? = some (some (.lst ds))) (h : Sim E EL RB EX (K (.tup ds) ρ) n) : Sim E EL RB EX ((eTpO i ρ).out K) n := by
  unfold eTpO; rw [h0]; exact h
theorem c_move {i : Nat} {d0 : D} {K : D → DL.Env → Out} (h0 : ρ[i]? = some (some d0)) (h : Sim E EL RB EX (K d0 (ρ.set i none)) n) : Sim E EL RB EX ((eMove i ρ).out K) n := by
  unfold eMove; rw [h0]; exact h
def gListZ : List D → Option D
  | [.tup xs, .tup ys] => some (.lst (zipD xs ys))
  | _ => none
theorem c_listZ {K : D → DL.Env → Out} (h : Sim E EL RB EX ((fl ρ).out fun ds ρ => (ofOpt (gListZ ds) ρ).out K) n) : Sim E EL RB EX ((eListZ fl ρ).out K) n := by
  have : (eListZ fl ρ).out K = (fl ρ).out fun ds ρ => (ofOpt (gListZ ds) ρ).out K := by
    unfold eListZ; rw [bind_out]; congr 1; funext ds ρ; unfold gListZ; split <;> first | rfl | (split <;> first | rfl | simp_all)
  rw [this]; exact h
theorem c_disp {ks : List Key} {K : D → DL.Env → Out} (h : Sim E EL RB EX ((fl ρ).out fun ds ρ => K (.dct (mergeD [] (ks.zip ds))) ρ) n) : Sim E EL RB EX ((eDisp ks fl ρ).out K) n := by
  have : (eDisp ks fl ρ).out K = (fl ρ).out fun ds ρ => K (.dct (mergeD [] (ks.zip ds))) ρ := by
    unfold eDisp; rw [bind_out]; rfl
  rw [this]; exact h
theorem c_kw {q : List Nat} {nn m : Nat} {fk : ER (List D)} {K : List D → DL.Env → Out} (h : Sim E EL RB EX ((fl ρ).out fun ds ρ => (fk ρ).out fun es ρ => (if ds.length = nn ∧ es.length = m then Res.ok (pm q (ds ++ es)) ρ else .stuck).out K) n) : Sim E EL RB EX ((aKw q nn m fl fk ρ).out K) n := by
  have : (aKw q nn m fl fk ρ).out K = (fl ρ).out fun ds ρ => (fk ρ).out fun es ρ => (if ds.length = nn ∧ es.length = m then Res.ok (pm q (ds ++ es)) ρ else .stuck).out K := by
    unfold aKw; rw [bind_out]; congr 1; funext ds ρ; rw [bind_out]
  rw [this]; exact h
theorem c_kw2 {q : List Nat} {nn m : Nat} {ds es ws : List D} {K : List D → DL.Env → Out} (hl : ds.length = nn ∧ es.length = m) (hw : pm q (ds ++ es) = ws) (h : Sim E EL RB EX (K ws ρ) n) : Sim E EL RB EX ((if ds.length = nn ∧ es.length = m then Res.ok (pm q (ds ++ es)) ρ else .stuck : Res (List D)).out K) n := by
  rw [if_pos hl, hw]; exact h
/-! ### errors -/
theorem t_tryAs {i : Nat} {cs : List (Nat × Bool)} {fb : DL.Env → Out} {fsu : Ex → DL.Env → Out} {m : O σ L β} {h : Ex → O σ L β} (h1 : Sim E EL RB EX1 (fb ρ) m) (hx : ∀ ρ', EX1 ρ' → EX ρ') (h2 : ∀ e ρ', EX1 ρ' → Sim E EL RB EX ((fsu e (ρ'.set i none)).wipe i) (h e)) : Sim E EL RB EX (sTryAs i cs fb fsu ρ) (tryN m cs h) := by
  unfold sTryAs
  cases m with
  | nx s => obtain ⟨ρ1, e1, q⟩ := h1.h; rw [e1]; exact ⟨⟨_, rfl, q⟩⟩
  | bk s => obtain ⟨ρ1, e1, q⟩ := h1.h; rw [e1]; exact ⟨⟨_, rfl, q⟩⟩
  | ct s => obtain ⟨ρ1, e1, q⟩ := h1.h; rw [e1]; exact ⟨⟨_, rfl, q⟩⟩
  | rt s => obtain ⟨d, ρ1, e1, q⟩ := h1.h; rw [e1]; exact ⟨⟨_, _, rfl, q⟩⟩
  | stuck => exact ⟨trivial⟩
  | exc e =>
    obtain ⟨ρ1, e1, q⟩ := h1.h
    rw [e1]
    simp only [tryN_exc]
    cases cs.lookup e.c with
    | none => exact ⟨trivial⟩
    | some b =>
      cases b with
      | false => exact ⟨⟨_, rfl, hx _ q⟩⟩
      | true =>
        simp only
        by_cases hq : (e.fs.map (·.2)).all scalD = true
        · simp only [hq, if_true]; exact h2 e ρ1 q
        · simp only [hq]; exact ⟨trivial⟩
theorem t_try {cs : List (Nat × Bool)} {fb fsu : DL.Env → Out} {m : O σ L β} {h : Ex → O σ L β} (h1 : Sim E EL RB EX1 (fb ρ) m) (hx : ∀ ρ', EX1 ρ' → EX ρ') (h2 : ∀ e ρ', EX1 ρ' → Sim E EL RB EX ((fsu ρ').nox) (h e)) : Sim E EL RB EX (sTry cs fb fsu ρ) (tryN m cs h) := by
  unfold sTry
  cases m with
  | nx s => obtain ⟨ρ1, e1, q⟩ := h1.h; rw [e1]; exact ⟨⟨_, rfl, q⟩⟩
  | bk s => obtain ⟨ρ1, e1, q⟩ := h1.h; rw [e1]; exact ⟨⟨_, rfl, q⟩⟩
  | ct s => obtain ⟨ρ1, e1, q⟩ := h1.h; rw [e1]; exact ⟨⟨_, rfl, q⟩⟩
  | rt s => obtain ⟨d, ρ1, e1, q⟩ := h1.h; rw [e1]; exact ⟨⟨_, _, rfl, q⟩⟩
  | stuck => exact ⟨trivial⟩
  | exc e =>
    obtain ⟨ρ1, e1, q⟩ := h1.h
    rw [e1]
    simp only [tryN_exc]
    cases cs.lookup e.c with
    | none => exact ⟨trivial⟩
    | some b =>
      cases b with
      | false => exact ⟨⟨_, rfl, hx _ q⟩⟩
      | true =>
        simp only
        by_cases hq : (e.fs.map (·.2)).all scalD = true
        · simp only [hq, if_true]; exact h2 e ρ1 q
        · simp only [hq]; exact ⟨trivial⟩
theorem t_wipe {i : Nat} {r : Out} {m : O σ L β} {EX0 : DL.Env → Prop} (h : Sim (fun s ρ => E s (ρ.set i none)) (fun s ρ => EL s (ρ.set i none)) RB EX0 r m) : Sim E EL RB EX (r.wipe i) (noXO m) := by
  cases m with
  | nx s => obtain ⟨ρ1, e1, q⟩ := h.h; rw [e1]; exact ⟨⟨_, rfl, q⟩⟩
  | bk s => obtain ⟨ρ1, e1, q⟩ := h.h; rw [e1]; exact ⟨⟨_, rfl, q⟩⟩
  | ct s => obtain ⟨ρ1, e1, q⟩ := h.h; rw [e1]; exact ⟨⟨_, rfl, q⟩⟩
  | rt s => obtain ⟨d, ρ1, e1, q⟩ := h.h; rw [e1]; exact ⟨⟨_, _, rfl, q⟩⟩
  | stuck => exact ⟨trivial⟩
  | exc e => exact ⟨trivial⟩
theorem t_nox {r : Out} {m : O σ L β} {EX0 : DL.Env → Prop} (h : Sim E EL RB EX0 r m) : Sim E EL RB EX (r.nox) (noXO m) := by
  cases m with
  | nx s => obtain ⟨ρ1, e1, q⟩ := h.h; rw [e1]; exact ⟨⟨_, rfl, q⟩⟩
  | bk s => obtain ⟨ρ1, e1, q⟩ := h.h; rw [e1]; exact ⟨⟨_, rfl, q⟩⟩
  | ct s => obtain ⟨ρ1, e1, q⟩ := h.h; rw [e1]; exact ⟨⟨_, rfl, q⟩⟩
  | rt s => obtain ⟨d, ρ1, e1, q⟩ := h.h; rw [e1]; exact ⟨⟨_, _, rfl, q⟩⟩
  | stuck => exact ⟨trivial⟩
  | exc e => exact ⟨trivial⟩
def whyN (e : Ex) (c : Nat) (f : Str) : Option D := if e.c = c then e.fs.lookup f else none
theorem c_why {ex : Ex} {c : Nat} {fd : Str} {k : D → O σ L β} {K : D → DL.Env → Out} (h : ∀ d, Sim E EL RB EX (K d ρ) (k d)) : Sim E EL RB EX ((eWhy ex c fd ρ).out K) ((ofO (whyN ex c fd)).bnd k) := by
  unfold eWhy whyN
  by_cases hc : ex.c = c
  · simp only [hc, if_true]
    cases ex.fs.lookup fd with
    | none => exact ⟨trivial⟩
    | some d => exact h d
  · simp only [hc]; exact ⟨trivial⟩
theorem c_isx {ex : Ex} {cs : List (Nat × Bool)} {k : Bool → O σ L β} {K : D → DL.Env → Out} (h : ∀ b, Sim E EL RB EX (K (.bl b) ρ) (k b)) : Sim E EL RB EX ((eIsX ex cs ρ).out K) ((ofO (cs.lookup ex.c)).bnd k) := by
  unfold eIsX
  cases cs.lookup ex.c with
  | none => exact ⟨trivial⟩
  | some d => exact h d
/-! ### comprehensions -/
def compK (ft : ER Bool) (fe : ER D) (ρ1 : DL.Env) : Out := (ft ρ1).out fun b ρ2 => if b = true then (fe ρ2).out fun y ρ3 => .rt y ρ3 else .nx ρ2
theorem comp_sim {v : α → D} {w : γ → D} {gf : D → DL.Env → Option DL.Env} {vs : List Nat} {F : α → τ → O τ Empty (γ × τ)} (hb : ∀ x s ρ, E1 s ρ → Sim (σ := τ) (L := Empty) (β := γ × τ) (fun s ρ => E1 s (wipeD ρ vs)) (fun s _ => s.elim) (fun p d ρ => d = w p.1 ∧ E1 p.2 (wipeD ρ vs)) (fun _ => True) (asgK gf (compK ft fe) (v x) ρ) (F x s)) :
    ∀ (xs : List α) (s : τ) (ρ : DL.Env), E1 s ρ → (match nLc F xs s with
      | .rt r => ∃ ρ', compF gf ft fe vs (xs.map v) ρ = .ok (r.1.map w) ρ' ∧ E1 r.2 ρ'
      | .stuck => True
      | .exc _ => False
      | .nx s => s.elim | .bk s => s.elim | .ct s => s.elim)
  | [], s, ρ, h => ⟨ρ, rfl, h⟩
  | x :: xs, s, ρ, h => by
    have h2 := hb x s ρ h
    unfold nLc
    unfold asgK at h2
    cases h1 : gf (v x) ρ with
    | none =>
      rw [h1] at h2
      cases e : F x s with
      | bk s => exact s.elim
      | ct s => exact s.elim
      | stuck => trivial
      | exc e => trivial
      | nx s' => rw [e] at h2; obtain ⟨ρ2, e2, h3⟩ := h2.h; cases e2
      | rt b => rw [e] at h2; obtain ⟨d, ρ2, e2, h3⟩ := h2.h; cases e2
    | some ρ1 =>
    rw [h1] at h2
    simp only at h2
    unfold compK at h2
    have e0 : compF gf ft fe vs ((x :: xs).map v) ρ = (ft ρ1).bind fun b ρ2 => match b with
        | true => (fe ρ2).bind fun y ρ3 => (compF gf ft fe vs (xs.map v) (wipeD ρ3 vs)).bind fun ys ρ4 => .ok (y :: ys) ρ4
        | false => compF gf ft fe vs (xs.map v) (wipeD ρ2 vs) := by
      rw [List.map_cons]; unfold compF; rw [h1]; simp only; cases xs <;> rfl
    rw [e0]
    cases e : F x s with
    | bk s => exact s.elim
    | ct s => exact s.elim
    | stuck => trivial
    | exc e => trivial
    | nx s' =>
      rw [e] at h2
      obtain ⟨ρ2, e2, h3⟩ := h2.h
      cases et : ft ρ1 with
      | stuck => rw [et] at e2; cases e2
      | exc x ρ => rw [et] at e2; cases e2
      | ok b ρ3 =>
        rw [et] at e2
        cases b with
        | true => simp only [out_ok, if_true] at e2; cases e4 : fe ρ3 <;> rw [e4] at e2 <;> cases e2
        | false => cases e2; exact comp_sim hb xs s' _ h3
    | rt p =>
      rw [e] at h2
      obtain ⟨d, ρ2, e2, h3, h4⟩ := h2.h
      cases et : ft ρ1 with
      | stuck => rw [et] at e2; cases e2
      | exc x ρ => rw [et] at e2; cases e2
      | ok b ρ3 =>
        rw [et] at e2
        cases b with
        | false => cases e2
        | true =>
          simp only [out_ok, if_true] at e2
          cases e4 : fe ρ3 with
          | stuck => rw [e4] at e2; cases e2
          | exc x ρ => rw [e4] at e2; cases e2
          | ok y ρ4 =>
            rw [e4] at e2
            cases e2
            have ih := comp_sim hb xs p.2 _ h4
            simp only [bind_ok]
            rw [e4]
            simp only [bind_ok]
            cases e5 : nLc F xs p.2 with
            | nx s => exact s.elim
            | bk s => exact s.elim
            | ct s => exact s.elim
            | stuck => trivial
            | exc e => rw [e5] at ih; exact ih.elim
            | rt r =>
              rw [e5] at ih
              obtain ⟨ρ5, h5, h6⟩ := ih
              exact ⟨ρ5, by rw [h5, h3]; rfl, h6⟩
@[irreducible] def sized (xs : List α) : Option (List α) := if xs.length ≤ sizeLine then some xs else none
def lcR (r : Res (List D)) : Res D := match r with
  | .ok ys ρ' => if ys.length ≤ sizeLine then Res.ok (.lst ys) ρ' else .stuck
  | _ => .stuck
theorem c_yes {w : γ → D} {vs : List Nat} {b : γ × τ} (h1 : d = w b.1) (h2 : E1 b.2 (wipeD ρ vs)) : Sim (σ := τ) (L := Empty) (β := γ × τ) (fun s ρ => E1 s (wipeD ρ vs)) (fun s _ => s.elim) (fun p d ρ => d = w p.1 ∧ E1 p.2 (wipeD ρ vs)) (fun _ => True) (.rt d ρ) (.rt b) := ⟨_, _, rfl, h1, h2⟩
theorem c_nay {w : γ → D} {vs : List Nat} {s : τ} (h2 : E1 s (wipeD ρ vs)) : Sim (σ := τ) (L := Empty) (β := γ × τ) (fun s ρ => E1 s (wipeD ρ vs)) (fun s _ => s.elim) (fun p d ρ => d = w p.1 ∧ E1 p.2 (wipeD ρ vs)) (fun _ => True) (.nx ρ) (.nx s) := ⟨_, rfl, h2⟩
theorem c_lcK {fi : ER (List D)} {gf : D → DL.Env → Option DL.Env} {vs : List Nat} {K : D → DL.Env → Out} (h : Sim E EL RB EX ((fi ρ).out fun es ρ => (lcR (compF gf ft fe vs es (wipeD ρ vs))).out K) n) : Sim E EL RB EX ((eLc fi gf ft fe vs ρ).out K) n := by
  unfold eLc; rw [bind_out]; exact h
def nLs (F : α → τ → O τ Empty (γ × τ)) (xs : List α) (s : τ) : Fr (List γ × τ) := (nLc F xs s).bnd fun r => (ofO (sized r.1)).bnd fun _ => .rt r
theorem c_lc {v : α → D} {w : γ → D} {gf : D → DL.Env → Option DL.Env} {vs : List Nat} {F : α → τ → O τ Empty (γ × τ)} {xs : List α} {s : τ} {k : List γ × τ → O σ L β} {K : D → DL.Env → Out} (h0 : E1 s (wipeD ρ vs)) (hb : ∀ x s ρ, E1 s ρ → Sim (σ := τ) (L := Empty) (β := γ × τ) (fun s ρ => E1 s (wipeD ρ vs)) (fun s _ => s.elim) (fun p d ρ => d = w p.1 ∧ E1 p.2 (wipeD ρ vs)) (fun _ => True) (asgK gf (compK ft fe) (v x) ρ) (F x s))
    (hk : ∀ r ρ', E1 r.2 ρ' → Sim E EL RB EX (K (.lst (r.1.map w)) ρ') (k r)) : Sim E EL RB EX ((lcR (compF gf ft fe vs (xs.map v) (wipeD ρ vs))).out K) ((nLs F xs s).bnd k) := by
  have h := comp_sim hb xs s _ h0
  unfold nLs
  cases e : nLc F xs s with
  | nx s => exact s.elim
  | bk s => exact s.elim
  | ct s => exact s.elim
  | stuck => exact ⟨trivial⟩
  | exc x => rw [e] at h; exact h.elim
  | rt r =>
    rw [e] at h
    obtain ⟨ρ', h1, h2⟩ := h
    rw [h1]
    unfold lcR
    simp only [bnd_rt]
    unfold sized
    rw [List.length_map]
    split
    · exact hk _ _ h2
    · exact ⟨trivial⟩
theorem c_lcP {v : α → D} {w : γ → D} {gf : D → DL.Env → Option DL.Env} {vs : List Nat} {t : α → Bool} {F : α → γ} {xs : List α} {k : List γ → O σ L β} {K : D → DL.Env → Out} (hb : ∀ x, ∃ ρ1, gf (v x) (wipeD ρ vs) = some ρ1 ∧ ft ρ1 = .ok (t x) ρ1 ∧ fe ρ1 = .ok (w (F x)) ρ1 ∧ wipeD ρ1 vs = wipeD ρ vs)
    (hk : ∀ ys, Sim E EL RB EX (K (.lst (ys.map w)) (wipeD ρ vs)) (k ys)) : Sim E EL RB EX ((lcR (compF gf ft fe vs (xs.map v) (wipeD ρ vs))).out K) ((ofO (sized ((xs.filter t).map F))).bnd k) := by
  have h : ∀ xs : List α, compF gf ft fe vs (xs.map v) (wipeD ρ vs) = .ok (((xs.filter t).map F).map w) (wipeD ρ vs) := by
    intro xs
    induction xs with
    | nil => rfl
    | cons x xs ih =>
      obtain ⟨ρ1, h1, h2, h3, h4⟩ := hb x
      rw [List.map_cons]
      unfold compF
      rw [h1]
      simp only [h2, bind_ok]
      cases e : t x with
      | false => rw [List.filter_cons_of_neg (by simp [e])]; simp only [h4]; exact ih
      | true => rw [List.filter_cons_of_pos e]; simp only [h3, bind_ok, h4, ih]; rfl
  rw [h xs]
  unfold sized lcR
  simp only [List.length_map]
  split
  · exact hk _
  · exact ⟨trivial⟩
theorem c_lcM {v : α → D} {w : γ → D} {gf : D → DL.Env → Option DL.Env} {vs : List Nat} {F : α → γ} {xs : List α} {k : List γ → O σ L β} {K : D → DL.Env → Out} (hb : ∀ x, ∃ ρ1, gf (v x) (wipeD ρ vs) = some ρ1 ∧ ft ρ1 = .ok true ρ1 ∧ fe ρ1 = .ok (w (F x)) ρ1 ∧ wipeD ρ1 vs = wipeD ρ vs)
    (hk : ∀ ys, Sim E EL RB EX (K (.lst (ys.map w)) (wipeD ρ vs)) (k ys)) : Sim E EL RB EX ((lcR (compF gf ft fe vs (xs.map v) (wipeD ρ vs))).out K) ((ofO (sized (xs.map F))).bnd k) := by
  have h := c_lcP (EX := EX) (t := fun _ => true) (xs := xs) hb hk
  rw [show (xs.filter fun _ => true) = xs from List.filter_eq_self.mpr (fun _ _ => rfl)] at h
  exact h
end
end DL
/-! operators by their operands' kinds -/
namespace DL
open PySem L2
section
variable {α β γ : Type} {v : α → D} {w : β → D} {ρ : DL.Env}
/-! ### what stands alone -/
theorem e_op {fa fb : ER D} {gg : D → D → Option D} {d e o : D} (ha : fa ρ = .ok d ρ) (hb : fb ρ = .ok e ρ) (hg : gg d e = some o) : eOp gg fa fb ρ = .ok o ρ := by unfold eOp; rw [ha, bind_ok, hb, bind_ok, hg]; rfl
theorem e_un {fa : ER D} {gg : D → Option D} {d o : D} (ha : fa ρ = .ok d ρ) (hg : gg d = some o) : eUn gg fa ρ = .ok o ρ := by unfold eUn; rw [ha, bind_ok, hg]; rfl
theorem e_cb {fa : ER (List D)} {gg : List D → Option D} {ds : List D} {o : D} (ha : fa ρ = .ok ds ρ) (hg : gg ds = some o) : eCB gg fa ρ = .ok o ρ := by unfold eCB; rw [ha, bind_ok, hg]; rfl
theorem e_nil : aNil ρ = .ok [] ρ := rfl
theorem e_cons {fa : ER D} {fl : ER (List D)} {d : D} {ds : List D} (ha : fa ρ = .ok d ρ) (hb : fl ρ = .ok ds ρ) : aCons fa fl ρ = .ok (d :: ds) ρ := by unfold aCons; rw [ha, bind_ok, hb]; rfl
theorem e_tup {fl : ER (List D)} {ds : List D} (ha : fl ρ = .ok ds ρ) (hs : ds.length ≤ 16777216) : eTup fl ρ = .ok (.tup ds) ρ := by unfold eTup; rw [ha, bind_ok, if_pos (le_size hs)]
theorem e_lst {fl : ER (List D)} {ds : List D} (ha : fl ρ = .ok ds ρ) (hs : ds.length ≤ 16777216) : eLst fl ρ = .ok (.lst ds) ρ := by unfold eLst; rw [ha, bind_ok, if_pos (le_size hs)]
theorem e_if {ft : ER Bool} {fa fb : ER D} {b : Bool} {x y : α} (h : ft ρ = .ok b ρ) (ha : fa ρ = .ok (v x) ρ) (hb : fb ρ = .ok (v y) ρ) : eIf ft fa fb ρ = .ok (v (if b = true then x else y)) ρ := by
  unfold eIf; rw [h, bind_ok]; cases b
  · exact hb
  · exact ha
theorem e_tval {fe : ER D} {b : Bool} (h : fe ρ = .ok (.bl b) ρ) : tVal fe ρ = .ok b ρ := by unfold tVal; rw [h]; rfl
theorem e_band {ft fu : ER Bool} {b c : Bool} (h : ft ρ = .ok b ρ) (h2 : fu ρ = .ok c ρ) : bAnd ft fu ρ = .ok (b && c) ρ := by
  unfold bAnd; rw [h, bind_ok]; cases b
  · rfl
  · exact h2
theorem e_bor {ft fu : ER Bool} {b c : Bool} (h : ft ρ = .ok b ρ) (h2 : fu ρ = .ok c ρ) : bOr ft fu ρ = .ok (b || c) ρ := by
  unfold bOr; rw [h, bind_ok]; cases b
  · exact h2
  · rfl
theorem e_bnot {ft : ER Bool} {b : Bool} (h : ft ρ = .ok b ρ) : bNot ft ρ = .ok (!b) ρ := by unfold bNot; rw [h]; rfl
theorem e_and {fa fb : ER D} {b c : Bool} (h : fa ρ = .ok (.bl b) ρ) (h2 : fb ρ = .ok (.bl c) ρ) : eAndV fa fb ρ = .ok (.bl (b && c)) ρ := by
  unfold eAndV; rw [e_tval h, bind_ok]; cases b
  · rfl
  · exact h2
theorem e_or {fa fb : ER D} {b c : Bool} (h : fa ρ = .ok (.bl b) ρ) (h2 : fb ρ = .ok (.bl c) ρ) : eOrV fa fb ρ = .ok (.bl (b || c)) ρ := by
  unfold eOrV; rw [e_tval h, bind_ok]; cases b
  · exact h2
  · rfl
theorem e_not {fa : ER D} {b : Bool} (h : fa ρ = .ok (.bl b) ρ) : eNotV fa ρ = .ok (.bl (!b)) ρ := by unfold eNotV; rw [e_tval h]; rfl
theorem e_isi {fa : ER D} {p : D → Bool} {d : D} (h : fa ρ = .ok d ρ) : eIsi p fa ρ = .ok (.bl (p d)) ρ := by unfold eIsi; rw [h]; rfl
theorem e_chain {gg gh : D → D → Option D} {fa fb fc : ER D} {d e o : D} {b c : Bool} (ha : fa ρ = .ok d ρ) (hb : fb ρ = .ok e ρ) (hc : fc ρ = .ok o ρ) (h1 : gg d e = some (.bl b)) (h2 : gh e o = some (.bl c)) : eChain gg gh fa fb fc ρ = .ok (.bl (b && c)) ρ := by
  unfold eChain; rw [ha, bind_ok, hb, bind_ok, h1]; cases b
  · rfl
  · simp only; rw [hc, bind_ok, h2]; rfl
theorem e_view {fe : ER D} {d : D} (h : fe ρ = .ok d ρ) (hs : scalD d = true) : eView fe ρ = .ok d ρ := by unfold eView; rw [h]; simp only [hs, if_true]
theorem e_viewT {ft : ER Bool} {d : Bool} (h : ft ρ = .ok d ρ) : tView ft ρ = .ok d ρ := by unfold tView; rw [h]
theorem e_sl {fa : ER D} {pl ph : ER (Option Int)} {gg : D → Option Int → Option Int → Option D} {d o : D} {lo hi : Option Int} (ha : fa ρ = .ok d ρ) (hl : pl ρ = .ok lo ρ) (hh : ph ρ = .ok hi ρ) (hg : gg d lo hi = some o) : eSl gg fa pl ph ρ = .ok o ρ := by
  unfold eSl; rw [ha, bind_ok, hl, bind_ok, hh, bind_ok, hg]; rfl
theorem e_pso {fa : ER D} {i : Int} (h : fa ρ = .ok (.int i) ρ) : pSo fa ρ = .ok (some i) ρ := by unfold pSo; rw [h]; rfl
theorem e_listZ {fl : ER (List D)} {ds : List D} {o : D} (ha : fl ρ = .ok ds ρ) (hg : gListZ ds = some o) : eListZ fl ρ = .ok o ρ := by
  unfold gListZ at hg
  split at hg
  · cases hg; unfold eListZ; rw [ha]; rfl
  · cases hg
theorem e_disp {fl : ER (List D)} {ds : List D} {ks : List Key} (ha : fl ρ = .ok ds ρ) : eDisp ks fl ρ = .ok (.dct (mergeD [] (ks.zip ds))) ρ := by unfold eDisp; rw [ha]; rfl
theorem e_kw {q : List Nat} {nn m : Nat} {fl fk : ER (List D)} {ds es ws : List D} (ha : fl ρ = .ok ds ρ) (hb : fk ρ = .ok es ρ) (hl : ds.length = nn ∧ es.length = m) (hw : pm q (ds ++ es) = ws) : aKw q nn m fl fk ρ = .ok ws ρ := by
  unfold aKw; rw [ha, bind_ok, hb, bind_ok, if_pos hl, hw]
theorem e_iA {fe : ER D} {d : D} {ds : List D} (h : fe ρ = .ok d ρ) (hg : asLs d = some ds) : iA fe ρ = .ok ds ρ := by
  unfold iA; rw [h]; cases d <;> first | (cases hg; rfl) | cases hg
/-! ### lists -/
theorem h_lenT {xs : List α} : gLen [.tup (xs.map v)] = some (.int (xs.length : Int)) := by simp
theorem h_lenL {xs : List α} : gLen [.lst (xs.map v)] = some (.int (xs.length : Int)) := by simp
@[irreducible] def cat (xs ys : List α) : Option (List α) := if xs.length + ys.length ≤ sizeLine then some (xs ++ ys) else none
theorem h_catT {xs ys : List α} : gAdd (.tup (xs.map v)) (.tup (ys.map v)) = (cat xs ys).map fun zs => .tup (zs.map v) := by
  unfold cat; simp only [gAdd_t, List.length_map]; split
  · simp
  · rfl
theorem h_catL {xs ys : List α} : gAdd (.lst (xs.map v)) (.lst (ys.map v)) = (cat xs ys).map fun zs => .lst (zs.map v) := by
  unfold cat; simp only [gAdd_l, List.length_map]; split
  · simp
  · rfl
theorem h_catL2 {xs ys : List α} : gCat (.lst (xs.map v)) (.lst (ys.map v)) = (cat xs ys).map fun zs => .lst (zs.map v) := by
  unfold cat; simp only [gCat_l, List.length_map]; split
  · simp
  · rfl
theorem at_map {xs : List α} {i : Int} : atI (xs.map v) i = (atI xs i).map v := by
  unfold atI
  rw [List.length_map]
  cases ixN xs.length i with
  | none => rfl
  | some k => simp
theorem h_ixT {xs : List α} {i : Int} : gIx (.tup (xs.map v)) (.int i) = (atI xs i).map v := at_map
theorem h_ixL {xs : List α} {i : Int} : gIx (.lst (xs.map v)) (.int i) = (atI xs i).map v := at_map
theorem h_ixX {xs : List Int} {i : Int} : gIx (.scr xs) (.int i) = (atI xs i).map .int := rfl
theorem h_itL {xs : List α} {i : Int} : itemO (.lst (xs.map v)) (.int i) = (atI xs i).map v := at_map
theorem cut_map {xs : List α} {lo hi : Option Int} : cutD (xs.map v) lo hi = (cutD xs lo hi).map v := by
  unfold cutD; simp [List.map_take, List.map_drop]
theorem h_slT {xs : List α} {lo hi : Option Int} : gSl (.tup (xs.map v)) lo hi = some (.tup ((cutD xs lo hi).map v)) := by show some (D.tup (cutD (xs.map v) lo hi)) = _; rw [cut_map]
theorem h_slL {xs : List α} {lo hi : Option Int} : gSl (.lst (xs.map v)) lo hi = some (.lst ((cutD xs lo hi).map v)) := by show some (D.lst (cutD (xs.map v) lo hi)) = _; rw [cut_map]
theorem h_slX {xs : List Int} {lo hi : Option Int} : gSl (.scr xs) lo hi = some (.lst ((cutD xs lo hi).map .int)) := rfl
@[irreducible] def setAt (xs : List α) (i : Int) (a : α) : Option (List α) := (ixN xs.length i).map fun j => xs.set j a
theorem h_stL {xs : List α} {i : Int} {a : α} : storeO (.lst (xs.map v)) (.int i) (v a) = (setAt xs i a).map fun ys => .lst (ys.map v) := by
  simp only [storeO_l, List.length_map]; unfold setAt
  cases ixN xs.length i with
  | none => rfl
  | some j => simp [List.map_set]
@[irreducible] def push (xs : List α) (a : α) : Option (List α) := if xs.length < sizeLine then some (xs ++ [a]) else none
theorem h_app {xs : List α} {a : α} : gAppend (xs.map v) [v a] = (push xs a).map fun ys => (.non, ys.map v) := by
  rw [gAppend_ap, List.length_map]; unfold push; split
  · simp
  · rfl
def popL (xs : List α) : Option (α × List α) := (xs[xs.length - 1]?).map fun a => (a, xs.dropLast)
theorem h_pop {xs : List α} : gPop (xs.map v) [] = (popL xs).map fun p => (v p.1, p.2.map v) := by
  unfold gPop popL; simp only [List.length_map, List.getElem?_map]
  cases xs[xs.length - 1]? with
  | none => rfl
  | some a => simp [List.map_dropLast]
@[irreducible] def popA (xs : List α) (i : Int) : Option (α × List α) := match ixN xs.length i with
  | some k => if xs.length ≤ sizeLine then (xs[k]?).map fun a => (a, xs.eraseIdx k) else none
  | none => none
theorem h_popA {xs : List α} {i : Int} : gPopAt (xs.map v) [.int i] = (popA xs i).map fun p => (v p.1, p.2.map v) := by
  unfold gPopAt popA; simp only [List.length_map, List.getElem?_map]
  cases ixN xs.length i with
  | none => rfl
  | some k =>
    simp only
    split
    · cases xs[k]? with
      | none => rfl
      | some a =>
        simp only [Option.map_some]
        congr 2
        rw [List.eraseIdx_eq_take_drop_succ, List.eraseIdx_eq_take_drop_succ]
        simp [List.map_take, List.map_drop]
    · rfl
theorem h_ext {xs ys : List α} : gExtend (xs.map v) [.lst (ys.map v)] = (cat xs ys).map fun zs => (.non, zs.map v) := by
  unfold cat; simp only [gExtend_ap, List.length_map]; split
  · simp
  · rfl
theorem ints_map : ∀ xs : List Int, intsD (xs.map D.int) = some xs
  | [] => rfl
  | x :: xs => by rw [List.map_cons]; unfold intsD; rw [ints_map xs]; rfl
theorem h_sumL {xs : List Int} : gSum [.lst (xs.map .int)] = some (.int xs.sum) := by unfold gSum listD; simp [ints_map]
theorem h_sumX {xs : List Int} : gSum [.scr xs] = some (.int xs.sum) := rfl
def maxO (xs : List Int) : Option Int := match xs with
  | [] => none
  | n :: ns => some (ns.foldl max n)
def minO (xs : List Int) : Option Int := match xs with
  | [] => none
  | n :: ns => some (ns.foldl min n)
theorem maxI_fold : ∀ (ns : List Int) (n : Int), maxI n ns = ns.foldl max n
  | [], _ => rfl
  | m :: ns, n => by
    unfold maxI; rw [List.foldl_cons, maxI_fold ns]
    congr 1; rw [Int.max_def]; split <;> split <;> omega
theorem minI_fold : ∀ (ns : List Int) (n : Int), minI n ns = ns.foldl min n
  | [], _ => rfl
  | m :: ns, n => by
    unfold minI; rw [List.foldl_cons, minI_fold ns]
    congr 1; rw [Int.min_def]; split <;> split <;> omega
theorem h_maxT {xs : List Int} : gMaxA [.tup (xs.map .int)] = (maxO xs).map .int := by
  unfold gMaxA maxO; simp only [ints_map]; cases xs <;> rfl
theorem h_minT {xs : List Int} : gMinA [.tup (xs.map .int)] = (minO xs).map .int := by
  unfold gMinA minO; simp only [ints_map]; cases xs <;> rfl
theorem h_maxL {xs : List Int} : gMaxA [.lst (xs.map .int)] = (maxO xs).map .int := by
  unfold gMaxA maxO gMax listD; simp only [ints_map]; cases xs
  · rfl
  · simp only [maxI_fold]; rfl
theorem h_minL {xs : List Int} : gMinA [.lst (xs.map .int)] = (minO xs).map .int := by
  unfold gMinA minO gMin listD; simp only [ints_map]; cases xs
  · rfl
  · simp only [minI_fold]; rfl
theorem flats_int : ∀ xs : List Int, (xs.map D.int).all flatD = true
  | [] => rfl
  | x :: xs => by rw [List.map_cons, List.all_cons, flats_int xs]; rfl
theorem flats_str : ∀ xs : List Str, (xs.map D.str).all flatD = true
  | [] => rfl
  | x :: xs => by rw [List.map_cons, List.all_cons, flats_str xs]; rfl
theorem fl_int (i : Int) : ∀ xs : List Int, ((xs.map D.int).any fun y => flEq y (.int i)) = decide (i ∈ xs)
  | [] => rfl
  | x :: xs => by
    rw [List.map_cons, List.any_cons, fl_int i xs]
    show ((x == i) || _) = _
    rw [Bool.eq_iff_iff]
    simp only [Bool.or_eq_true, beq_iff_eq, decide_eq_true_eq, List.mem_cons]
    constructor
    · rintro (h | h)
      · exact .inl h.symm
      · exact .inr h
    · rintro (h | h)
      · exact .inl h.symm
      · exact .inr h
theorem fl_str (i : Str) : ∀ xs : List Str, ((xs.map D.str).any fun y => flEq y (.str i)) = decide (i ∈ xs)
  | [] => rfl
  | x :: xs => by
    rw [List.map_cons, List.any_cons, fl_str i xs]
    show ((x == i) || _) = _
    rw [Bool.eq_iff_iff]
    simp only [Bool.or_eq_true, beq_iff_eq, decide_eq_true_eq, List.mem_cons]
    constructor
    · rintro (h | h)
      · exact .inl h.symm
      · exact .inr h
    · rintro (h | h)
      · exact .inl h.symm
      · exact .inr h
theorem h_inTI {i : Int} {xs : List Int} : gIn (.int i) (.tup (xs.map .int)) = some (.bl (decide (i ∈ xs))) := by
  unfold gIn inD; simp only; rw [if_pos ⟨rfl, flats_int xs⟩, fl_int]; rfl
theorem h_inLI {i : Int} {xs : List Int} : gIn (.int i) (.lst (xs.map .int)) = some (.bl (decide (i ∈ xs))) := by
  unfold gIn inD; simp only; rw [if_pos ⟨rfl, flats_int xs⟩, fl_int]; rfl
theorem h_niTI {i : Int} {xs : List Int} : gNi (.int i) (.tup (xs.map .int)) = some (.bl (!decide (i ∈ xs))) := by
  unfold gNi inD; simp only; rw [if_pos ⟨rfl, flats_int xs⟩, fl_int]; rfl
theorem h_niLI {i : Int} {xs : List Int} : gNi (.int i) (.lst (xs.map .int)) = some (.bl (!decide (i ∈ xs))) := by
  unfold gNi inD; simp only; rw [if_pos ⟨rfl, flats_int xs⟩, fl_int]; rfl
theorem h_inTS {i : Str} {xs : List Str} : gIn (.str i) (.tup (xs.map .str)) = some (.bl (decide (i ∈ xs))) := by
  unfold gIn inD; simp only; rw [if_pos ⟨rfl, flats_str xs⟩, fl_str]; rfl
theorem h_inLS {i : Str} {xs : List Str} : gIn (.str i) (.lst (xs.map .str)) = some (.bl (decide (i ∈ xs))) := by
  unfold gIn inD; simp only; rw [if_pos ⟨rfl, flats_str xs⟩, fl_str]; rfl
theorem h_niTS {i : Str} {xs : List Str} : gNi (.str i) (.tup (xs.map .str)) = some (.bl (!decide (i ∈ xs))) := by
  unfold gNi inD; simp only; rw [if_pos ⟨rfl, flats_str xs⟩, fl_str]; rfl
theorem h_niLS {i : Str} {xs : List Str} : gNi (.str i) (.lst (xs.map .str)) = some (.bl (!decide (i ∈ xs))) := by
  unfold gNi inD; simp only; rw [if_pos ⟨rfl, flats_str xs⟩, fl_str]; rfl
theorem zip_map : ∀ (xs : List α) (ys : List β), zipD (xs.map v) (ys.map w) = (xs.zip ys).map fun p => .tup [v p.1, w p.2]
  | [], ys => by cases ys <;> rfl
  | x :: xs, [] => rfl
  | x :: xs, y :: ys => by
    rw [List.map_cons, List.map_cons, List.zip_cons_cons, List.map_cons, ← zip_map xs ys]; rfl
theorem h_zip {xs : List α} {ys : List β} : gListZ [.tup (xs.map v), .tup (ys.map w)] = some (.lst ((xs.zip ys).map fun p => .tup [v p.1, w p.2])) := by
  unfold gListZ; simp only; rw [zip_map]
/-! ### numbers, texts -/
@[irreducible] def mulI (i j : Int) : Option Int := if CMul i j then some (i * j) else none
theorem h_mul {i j : Int} : gMul (.int i) (.int j) = (mulI i j).map .int := by
  unfold mulI; rw [gMul_i]; split <;> rfl
theorem h_mulR {i j : Int} (h : CMul i j) : gMul (.int i) (.int j) = some (.int (i * j)) := by rw [gMul_i, if_pos h]
@[irreducible] def icI (c : Int → Int → Prop) [∀ i j, Decidable (c i j)] (f : Int → Int → Int) (i j : Int) : Option Int := if c i j then some (f i j) else none
theorem h_ic {c : Int → Int → Prop} [∀ i j, Decidable (c i j)] {f : Int → Int → Int} {i j : Int} : gIC c f (.int i) (.int j) = (icI c f i j).map .int := by
  unfold icI; rw [gIC_ap]; split <;> rfl
theorem h_icR {c : Int → Int → Prop} [∀ i j, Decidable (c i j)] {f : Int → Int → Int} {i j : Int} (h : c i j) : gIC c f (.int i) (.int j) = some (.int (f i j)) := by rw [gIC_ap, if_pos h]
@[irreducible] def catS (x y : Str) : Option Str := if x.length + y.length ≤ sizeLine then some (x ++ y) else none
theorem h_catS {x y : Str} : gAdd (.str x) (.str y) = (catS x y).map .str := by
  unfold catS; rw [gAdd_s]; split <;> rfl
theorem h_icatS {x y : Str} : gIAdd (.str x) (.str y) = (catS x y).map .str := by
  unfold catS; rw [gIAdd_s]; split <;> rfl
@[irreducible] def lenS (x : Str) : Option Int := if x.length ≤ sizeLine then some (x.length : Int) else none
theorem h_lenS {x : Str} : gLen [.str x] = (lenS x).map .int := by
  unfold lenS; rw [gLen_s]; split <;> rfl
@[irreducible] def strI (i : Int) : Option Str := if i.natAbs.log2 < 1920 then some (tI i) else none
theorem h_strI {i : Int} : gStr [.int i] = (strI i).map .str := by
  unfold strI; rw [gStr_i]; split <;> rfl
@[irreducible] def repSt (x : Str) (n : Int) : Option Str := if CRepS x n then some (repS' x n) else none
theorem h_repS {x : Str} {n : Int} : gMul (.str x) (.int n) = (repSt x n).map .str := by
  unfold repSt; rw [gMul_s]; split <;> rfl
theorem h_isnO {x : Option α} {v0 : Option α → D} (h0 : v0 none = .non) (h1 : ∀ a, isNon (v0 (some a)) = false) : gIsN (v0 x) .non = some (.bl x.isNone) := by
  cases x with
  | none => rw [h0]; rfl
  | some a => rw [gIsN_ap, h1]; rfl
theorem h_notO {x : Option α} {v0 : Option α → D} (h0 : v0 none = .non) (h1 : ∀ a, isNon (v0 (some a)) = false) : gNotN (v0 x) .non = some (.bl x.isSome) := by
  cases x with
  | none => rw [h0]; rfl
  | some a => rw [gNotN_ap, h1]; rfl
/-! ### plain kinds: equal values are the same -/
structure Pl (v : α → D) (k : Nat) : Prop where
  nod : ∀ a, noDct (v a) = true
  lay : ∀ a, (toP (v a)).canLay0 = true
  dep : ∀ a, (toP (v a)).depth ≤ k
  eq : ∀ a b, PyData.eqv (toP (v a)) (toP (v b)) = true ↔ a = b
theorem toPs_map : ∀ ds : List D, toPs ds = ds.map toP
  | [] => rfl
  | d :: ds => by unfold toPs; rw [toPs_map ds]; rfl
theorem pl_int : Pl D.int 0 := ⟨fun _ => rfl, fun _ => rfl, fun _ => Nat.le_refl _, fun a b => by show (a == b) = true ↔ _; simp⟩
theorem pl_bl : Pl D.bl 0 := ⟨fun _ => rfl, fun _ => rfl, fun _ => Nat.le_refl _, fun a b => by show (a == b) = true ↔ _; simp⟩
theorem nods_map {k : Nat} (h : Pl v k) : ∀ xs : List α, noDcts (xs.map v) = true
  | [] => rfl
  | x :: xs => by rw [List.map_cons]; unfold noDcts; rw [h.nod, nods_map h xs]; rfl
theorem lays_map {k : Nat} (h : Pl v k) : ∀ xs : List α, PyData.canLayAll0 (toPs (xs.map v)) = true
  | [] => rfl
  | x :: xs => by rw [List.map_cons]; unfold toPs PyData.canLayAll0; rw [h.lay, lays_map h xs]; rfl
theorem deps_map {k : Nat} (h : Pl v k) : ∀ xs : List α, PyData.depthAll (toPs (xs.map v)) ≤ k
  | [] => Nat.zero_le _
  | x :: xs => by
    rw [List.map_cons]; unfold toPs PyData.depthAll
    exact Nat.max_le.mpr ⟨h.dep x, deps_map h xs⟩
theorem eqs_map {k : Nat} (h : Pl v k) : ∀ xs ys : List α, PyData.eqvAll (toPs (xs.map v)) (toPs (ys.map v)) = true ↔ xs = ys
  | [], [] => by simp [toPs, PyData.eqvAll]
  | [], y :: ys => by simp [toPs, PyData.eqvAll]
  | x :: xs, [] => by simp [toPs, PyData.eqvAll]
  | x :: xs, y :: ys => by
    simp only [List.map_cons, toPs, PyData.eqvAll, Bool.and_eq_true, h.eq, eqs_map h xs ys, List.cons.injEq]
theorem pl_tup {k : Nat} (h : Pl v k) : Pl (fun xs : List α => D.tup (xs.map v)) (k + 1) where
  nod xs := by unfold noDct; exact nods_map h xs
  lay xs := by unfold toP PyData.canLay0; exact lays_map h xs
  dep xs := by unfold toP PyData.depth; have := deps_map h xs; omega
  eq xs ys := by unfold toP PyData.eqv; exact eqs_map h xs ys
theorem pl_lst {k : Nat} (h : Pl v k) : Pl (fun xs : List α => D.lst (xs.map v)) (k + 1) where
  nod xs := by unfold noDct; exact nods_map h xs
  lay xs := by unfold toP PyData.canLay0; exact lays_map h xs
  dep xs := by unfold toP PyData.depth; have := deps_map h xs; omega
  eq xs ys := by unfold toP PyData.eqv; exact eqs_map h xs ys
theorem pl_p2 {u : γ → D} {k l m : Nat} (h : Pl v k) (h2 : Pl w l) (hk : k ≤ m) (hl : l ≤ m) : Pl (fun p : α × β => D.tup [v p.1, w p.2]) (m + 1) where
  nod p := by simp [noDct, noDcts, h.nod, h2.nod]
  lay p := by simp [toP, toPs, PyData.canLay0, PyData.canLayAll0, h.lay, h2.lay]
  dep p := by
    simp only [toP, toPs, PyData.depth, PyData.depthAll]
    have := h.dep p.1; have := h2.dep p.2; omega
  eq p q := by simp [toP, toPs, PyData.eqv, PyData.eqvAll, h.eq, h2.eq, Prod.ext_iff]
theorem pl_p3 {u : γ → D} {k l j m : Nat} (h : Pl v k) (h2 : Pl w l) (h3 : Pl u j) (hk : k ≤ m) (hl : l ≤ m) (hj : j ≤ m) : Pl (fun p : α × β × γ => D.tup [v p.1, w p.2.1, u p.2.2]) (m + 1) where
  nod p := by simp [noDct, noDcts, h.nod, h2.nod, h3.nod]
  lay p := by simp [toP, toPs, PyData.canLay0, PyData.canLayAll0, h.lay, h2.lay, h3.lay]
  dep p := by
    simp only [toP, toPs, PyData.depth, PyData.depthAll]
    have := h.dep p.1; have := h2.dep p.2.1; have := h3.dep p.2.2; omega
  eq p q := by simp [toP, toPs, PyData.eqv, PyData.eqvAll, h.eq, h2.eq, h3.eq, Prod.ext_iff]
theorem scEq_pl {k : Nat} (h : Pl v k) [DecidableEq α] (a b : α) (x : Bool) (e : scEq (v a) (v b) = some x) : x = decide (a = b) := by
  have q := h.eq a b
  revert q e
  cases v a <;> cases v b <;> intro e q <;> first | (cases e; done) | skip
  all_goals (cases e; first | exact decide_eq_decide.mpr (by simpa [toP, PyData.eqv] using q) | (simp [toP, PyData.eqv] at q; simp [q]))
theorem h_eqP {k : Nat} (h : Pl v k) (hk : k ≤ 64) [DecidableEq α] {a b : α} : gEq (v a) (v b) = some (.bl (decide (a = b))) := by
  unfold gEq eqD
  cases e : scEq (v a) (v b) with
  | some x => simp only; rw [scEq_pl h a b x e]; rfl
  | none =>
    simp only
    have s : ∀ a, shD (v a) = true := fun a => by
      unfold shD SeqAt.shaped
      rw [h.nod, h.lay]
      have := h.dep a
      simp; omega
    rw [if_pos ⟨s a, s b⟩]
    have := h.eq a b
    simp only [Option.map_some]
    congr 2
    rw [Bool.eq_iff_iff, decide_eq_true_iff]; exact this
theorem h_neP {k : Nat} (h : Pl v k) (hk : k ≤ 64) [DecidableEq α] {a b : α} : gNe (v a) (v b) = some (.bl (!decide (a = b))) := by
  have q := h_eqP h hk (a := a) (b := b)
  unfold gEq at q
  unfold gNe
  cases e : eqD (v a) (v b) with
  | none => rw [e] at q; cases q
  | some x => rw [e] at q; cases q; rfl
end
end DL
/-! how kinds stand among values; the last rules -/
namespace DL
open PySem L2
section
variable {α β γ δ ε ζ σ τ L : Type}
abbrev vN (_ : Unit) : D := .non
abbrev vD (d : D) : D := d
abbrev vT (v : α → D) (xs : List α) : D := .tup (xs.map v)
abbrev vL (v : α → D) (xs : List α) : D := .lst (xs.map v)
abbrev vP0 (_ : Unit) : D := .tup []
abbrev vP1 (v : α → D) (p : α) : D := .tup [v p]
abbrev vP2 (v : α → D) (w : β → D) (p : α × β) : D := .tup [v p.1, w p.2]
abbrev vP3 (v : α → D) (w : β → D) (u : γ → D) (p : α × β × γ) : D := .tup [v p.1, w p.2.1, u p.2.2]
abbrev vP4 (v : α → D) (w : β → D) (u : γ → D) (t : δ → D) (p : α × β × γ × δ) : D := .tup [v p.1, w p.2.1, u p.2.2.1, t p.2.2.2]
abbrev vP5 (v : α → D) (w : β → D) (u : γ → D) (t : δ → D) (s : ε → D) (p : α × β × γ × δ × ε) : D := .tup [v p.1, w p.2.1, u p.2.2.1, t p.2.2.2.1, s p.2.2.2.2]
abbrev vP6 (v : α → D) (w : β → D) (u : γ → D) (t : δ → D) (s : ε → D) (r : ζ → D) (p : α × β × γ × δ × ε × ζ) : D := .tup [v p.1, w p.2.1, u p.2.2.1, t p.2.2.2.1, s p.2.2.2.2.1, r p.2.2.2.2.2]
def oD (v : α → D) : Option α → D
  | some a => v a
  | none => .non
variable {v : α → D} {w : β → D} {u : γ → D} {ρ : DL.Env}
theorem pl_P2 {k l m : Nat} (h : Pl v k) (h2 : Pl w l) (hk : k ≤ m) (hl : l ≤ m) : Pl (vP2 v w) (m + 1) := pl_p2 (u := v) h h2 hk hl
theorem pl_P3 {k l j m : Nat} (h : Pl v k) (h2 : Pl w l) (h3 : Pl u j) (hk : k ≤ m) (hl : l ≤ m) (hj : j ≤ m) : Pl (vP3 v w u) (m + 1) := pl_p3 h h2 h3 hk hl hj
theorem pl_T {k : Nat} (h : Pl v k) : Pl (vT v) (k + 1) := pl_tup h
theorem pl_L {k : Nat} (h : Pl v k) : Pl (vL v) (k + 1) := pl_lst h
variable {E : σ → DL.Env → Prop} {EL : L → DL.Env → Prop} {RB : β → D → DL.Env → Prop} {EX : DL.Env → Prop} {n : O σ L β}
theorem c_tot {ξ : Type} {o : Option ξ} {x : ξ} {K : ξ → DL.Env → Out} (hg : o = some x) (h : Sim E EL RB EX (K x ρ) n) : Sim E EL RB EX ((ofOpt o ρ).out K) n := by subst hg; exact h
theorem c_bB {b : Bool} {K : Bool → DL.Env → Out} (h : Sim E EL RB EX (K b ρ) n) : Sim E EL RB EX ((bOf (.bl b) ρ).out K) n := h
theorem c_iI {b : Int} {K : Option Int → DL.Env → Out} (h : Sim E EL RB EX (K (some b) ρ) n) : Sim E EL RB EX ((iOf (.int b) ρ).out K) n := h
theorem c_pno {K : Option Int → DL.Env → Out} (h : Sim E EL RB EX (K none ρ) n) : Sim E EL RB EX ((pNo ρ).out K) n := h
/-- a value gets a name -/
theorem c_let {x : α} {k : α → O σ L β} {K : D → Out} (h : ∀ a, Sim E EL RB EX (K (v a)) (k a)) : Sim E EL RB EX (K (v x)) (O.bnd (.rt x) k) := h x
theorem h_addP {i j : List D} (h : i.length + j.length ≤ 16777216) : gAdd (.tup i) (.tup j) = some (.tup (i ++ j)) := by rw [gAdd_t, if_pos (le_size h)]
def neD (d e : D) : Option Bool := (eqD d e).map fun b => !b
theorem h_eqD {d e : D} : gEq d e = (eqD d e).map D.bl := rfl
theorem h_neD {d e : D} : gNe d e = (neD d e).map D.bl := by unfold gNe neD; rw [Option.map_map]; rfl
def niD (d e : D) : Option Bool := (inD d e).map fun b => !b
theorem h_inD {d e : D} : gIn d e = (inD d e).map D.bl := rfl
theorem h_niD {d e : D} : gNi d e = (niD d e).map D.bl := by unfold gNi niD; rw [Option.map_map]; rfl
theorem h_any {o : Option D} : o = o.map vD := by cases o <;> rfl
theorem h_anyL {o : Option (List D)} : o = o.map fun xs => xs.map vD := by
  cases o with
  | none => rfl
  | some xs => simp
theorem h_mtD {o : Option (D × List D)} : o = o.map fun p => (p.1, p.2.map vD) := by
  cases o with
  | none => rfl
  | some p => simp
theorem e_slO {i : Nat} {xs : List α} {lo hi : Option Int} {pl ph : ER (Option Int)} (h0 : ρ[i]? = some (some (.lst (xs.map v)))) (hl : pl ρ = .ok lo ρ) (hh : ph ρ = .ok hi ρ) : eSlO i pl ph ρ = .ok (.lst ((cutD xs lo hi).map v)) ρ := by
  unfold eSlO
  rw [h0]
  simp only
  rw [hl]
  simp only [bind_ok]
  rw [hh]
  simp only [bind_ok]
  rw [h0]
  show Res.ok (D.lst (cutD (xs.map v) lo hi)) ρ = _
  rw [cut_map]
end
end DL
namespace DL
section
variable {α β σ L : Type} {v : α → D} {E : σ → DL.Env → Prop} {EL : L → DL.Env → Prop} {RB : β → D → DL.Env → Prop} {EX : DL.Env → Prop} {n : O σ L β}
theorem c_stk {o : Out} : Sim E EL RB EX o (.stuck : O σ L β) := ⟨True.intro⟩
theorem c_red {o : Out} {a : α} {k : α → O σ L β} (h : Sim E EL RB EX o (k a)) : Sim E EL RB EX o (O.bnd (ofO (some a)) k) := h
theorem c_okE {r : Res D} {d : D} {ρ' : DL.Env} {x : α} {k : α → O σ L β} {K : D → DL.Env → Out} (h : r = .ok d ρ') (e : d = v x) (hk : ∀ a, Sim E EL RB EX (K (v a) ρ') (k a)) : Sim E EL RB EX (r.out K) (O.bnd (.rt x) k) := by rw [h, e]; exact hk x
theorem c_cvE {d : D} {ρ : DL.Env} {x : α} {k : α → O σ L β} {Z : D → DL.Env} {K : DL.Env → Out} (e : d = v x) (h : ∀ a, Sim E EL RB EX (K (Z (v a))) (k a)) : Sim E EL RB EX (K (Z d)) (O.bnd (.rt x) k) := by rw [e]; exact h x
theorem c_letE {x : α} {k : α → O σ L β} {Z : D → DL.Env} {ρ : DL.Env} {K : DL.Env → Out} (e : ρ = Z (v x)) (h : ∀ a, Sim E EL RB EX (K (Z (v a))) (k a)) : Sim E EL RB EX (K ρ) (O.bnd (.rt x) k) := by subst e; exact h x
end
end DL
namespace DL
open PySem L2
section
variable {α β γ σ τ L : Type} {v : α → D} {E : σ → DL.Env → Prop} {EL : L → DL.Env → Prop} {RB : β → D → DL.Env → Prop} {EX : DL.Env → Prop} {n : O σ L β} {ρ : DL.Env} {d e : D}
theorem cv_L {xs : List α} : D.lst (xs.map v) = vL vD (xs.map v) := by unfold vL; congr 1; rw [List.map_map]; rfl
theorem cv_T {xs : List α} : D.tup (xs.map v) = vT vD (xs.map v) := by unfold vT; congr 1; rw [List.map_map]; rfl
theorem asI_eq {a : Int} (h : asI d = some a) : d = .int a := by cases d <;> cases h; rfl
theorem asB_eq {a : Bool} (h : asB d = some a) : d = .bl a := by cases d <;> cases h; rfl
theorem asS_eq {a : Str} (h : asS d = some a) : d = .str a := by cases d <;> cases h; rfl
def i2 (d e : D) : Option (Int × Int) := match d, e with
  | .int i, .int j => some (i, j)
  | _, _ => none
@[simp] theorem i2_i {i j : Int} : i2 (.int i) (.int j) = some (i, j) := rfl
theorem h_i0D {f : Int → Int → Int} : gI0 f d e = ((i2 d e).map fun p => f p.1 p.2).map D.int := by cases d <;> cases e <;> rfl
theorem h_b0D {f : Int → Int → Bool} : gB0 f d e = ((i2 d e).map fun p => f p.1 p.2).map D.bl := by cases d <;> cases e <;> rfl
theorem h_icD {c : Int → Int → Prop} [∀ i j, Decidable (c i j)] {f : Int → Int → Int} : gIC c f d e = ((i2 d e).bind fun p => icI c f p.1 p.2).map D.int := by
  cases d <;> cases e <;> try rfl
  simp only [i2, Option.bind_some]; exact h_ic
theorem h_negD : gNeg d = ((asI d).map fun i => -i).map D.int := by cases d <;> rfl
def intD : D → Option Int
  | .int i => some i
  | .bl k => some (if k then 1 else 0)
  | .str a => if a.length ≤ 640 then PySem.intText? a else none
  | _ => none
@[simp] theorem intD_i {i : Int} : intD (.int i) = some i := rfl
theorem h_intD : gInt [d] = (intD d).map D.int := by
  cases d <;> try rfl
  rename_i a
  unfold gInt intD
  simp only
  split <;> rfl
def intS (a : Str) : Option Int := if a.length ≤ 640 then PySem.intText? a else none
theorem h_intS {a : Str} : gInt [.str a] = (intS a).map D.int := by
  unfold gInt intS
  simp only
  split <;> rfl
def strD : D → Option Str
  | .int i => strI i
  | .str s => some s
  | _ => none
@[simp] theorem strD_s {s : Str} : strD (.str s) = some s := rfl
theorem h_strD : gStr [d] = (strD d).map D.str := by
  cases d <;> try rfl
  exact h_strI
def absD : D → Option Int
  | .int i => some (if i < 0 then -i else i)
  | _ => none
@[simp] theorem absD_i {i : Int} : absD (.int i) = some (if i < 0 then -i else i) := rfl
theorem h_absD : gAbs [d] = (absD d).map D.int := by cases d <;> rfl
def lenD (d : D) : Option Int := (gLen [d]).bind asI
theorem h_lenD : gLen [d] = (lenD d).map D.int := by
  unfold lenD
  cases d <;> try rfl
  rename_i s; rw [gLen_s]; split <;> rfl
@[simp] theorem lenD_t {ds : List D} : lenD (.tup ds) = some (ds.length : Int) := rfl
@[simp] theorem lenD_l {ds : List D} : lenD (.lst ds) = some (ds.length : Int) := rfl
def sumD (d : D) : Option Int := listD d |>.map List.sum
theorem h_sumD : gSum [d] = (sumD d).map D.int := by unfold gSum sumD; simp only; cases listD d <;> rfl
def maxD (ds : List D) : Option Int := (gMaxA ds).bind asI
def minD (ds : List D) : Option Int := (gMinA ds).bind asI
theorem h_maxD {ds : List D} : gMaxA ds = (maxD ds).map D.int := by
  have h : ∀ d, gMaxA ds = some d → ∃ i, d = .int i := by
    intro d e
    unfold gMaxA gMax at e
    repeat' split at e
    all_goals first | (cases e; exact ⟨_, rfl⟩) | cases e
  unfold maxD
  cases q : gMaxA ds with
  | none => rfl
  | some d => obtain ⟨i, rfl⟩ := h d q; rfl
theorem h_minD {ds : List D} : gMinA ds = (minD ds).map D.int := by
  have h : ∀ d, gMinA ds = some d → ∃ i, d = .int i := by
    intro d e
    unfold gMinA gMin at e
    repeat' split at e
    all_goals first | (cases e; exact ⟨_, rfl⟩) | cases e
  unfold minD
  cases q : gMinA ds with
  | none => rfl
  | some d => obtain ⟨i, rfl⟩ := h d q; rfl
end
end DL
/-! reckoning with plain programs -/
namespace DL
open PySem L2
section
variable {α β γ σ τ L : Type}
theorem push_ok {xs : List α} {a : α} (h : xs.length < 16777216) : push xs a = some (xs ++ [a]) := by unfold push; rw [if_pos (by rw [sz]; exact h)]
theorem cat_ok {xs ys : List α} (h : xs.length + ys.length ≤ 16777216) : cat xs ys = some (xs ++ ys) := by unfold cat; rw [if_pos (by rw [sz]; exact h)]
theorem sized_ok {xs : List α} (h : xs.length ≤ 16777216) : sized xs = some xs := by unfold sized; rw [if_pos (by rw [sz]; exact h)]
theorem inRg_ok {j : Int} (h : -1000000000 < j ∧ j < 1000000000) : inRg j = true := by
  unfold inRg; simp; omega
theorem rg1_ok {j : Int} (h : -1000000000 < j ∧ j < 1000000000) : rg1 j = some (rgI 0 j.toNat) := by unfold rg1; rw [if_pos (inRg_ok h)]
theorem rg2_ok {i j : Int} (h : -1000000000 < i ∧ i < 1000000000) (h2 : -1000000000 < j ∧ j < 1000000000) : rg2 i j = some (rgI i (j - i).toNat) := by unfold rg2; rw [if_pos ⟨inRg_ok h, inRg_ok h2⟩]
theorem mulI_l {i j : Int} (h : -(2 ^ 64) < i ∧ i < 2 ^ 64) : mulI i j = some (i * j) := by unfold mulI; rw [if_pos (.inl h)]
theorem mulI_r {i j : Int} (h : -(2 ^ 64) < j ∧ j < 2 ^ 64) : mulI i j = some (i * j) := by unfold mulI; rw [if_pos (.inr h)]
theorem icI_ok {c : Int → Int → Prop} [∀ i j, Decidable (c i j)] {f : Int → Int → Int} {i j : Int} (h : c i j) : icI c f i j = some (f i j) := by unfold icI; rw [if_pos h]
theorem catS_ok {x y : Str} (h : x.length + y.length ≤ 16777216) : catS x y = some (x ++ y) := by unfold catS; rw [if_pos (by rw [sz]; exact h)]
theorem lenS_ok {x : Str} (h : x.length ≤ 16777216) : lenS x = some (x.length : Int) := by unfold lenS; rw [if_pos (by rw [sz]; exact h)]
theorem strI_ok {i : Int} (h : i.natAbs.log2 < 1920) : strI i = some (tI i) := by unfold strI; rw [if_pos h]
theorem rgI_zero {lo : Int} : rgI lo 0 = [] := rfl
theorem rgI_succ {lo : Int} {n : Nat} : rgI lo (n + 1) = lo :: rgI (lo + 1) n := by
  unfold rgI
  rw [List.range_succ_eq_map]
  simp [Function.comp_def]
  intro a _
  omega
theorem rgI_len {lo : Int} {n : Nat} : (rgI lo n).length = n := by unfold rgI; simp
theorem mem_rgI {lo x : Int} {n : Nat} : x ∈ rgI lo n ↔ lo ≤ x ∧ x < lo + n := by
  unfold rgI
  simp only [List.mem_map, List.mem_range]
  constructor
  · rintro ⟨a, h, rfl⟩; omega
  · rintro ⟨h1, h2⟩; exact ⟨(x - lo).toNat, by omega, by omega⟩
/-! items -/
theorem atI_nat {xs : List α} {i : Int} (h0 : 0 ≤ i) (h1 : i < xs.length) : atI xs i = xs[i.toNat]? := at_nat h0 h1
theorem atI_get {xs : List α} {n : Nat} {a : α} (h : xs[n]? = some a) : atI xs (n : Int) = some a := by
  obtain ⟨h1, _⟩ := List.getElem?_eq_some_iff.mp h
  rw [at_nat (by omega) (by omega)]; simpa using h
theorem ixN_neg {l : Nat} {i : Int} (h0 : i < 0) (h1 : 0 ≤ i + (l : Int)) : ixN l i = some (i + (l : Int)).toNat := by
  unfold ixN
  rw [if_neg (by omega), if_pos (by omega)]
theorem atI_last {xs : List α} {a : α} : atI (xs ++ [a]) (-1) = some a := by
  unfold atI
  rw [ixN_neg (by decide) (by simp; omega)]
  have : (-1 + ((xs ++ [a]).length : Int)).toNat = xs.length := by simp; omega
  rw [this]
  simp
theorem atI_len {xs : List α} {a : α} {n : Int} (h : n = xs.length) : atI (xs ++ [a]) n = some a := by
  subst h
  rw [at_nat (by omega) (by simp; omega)]
  simp
theorem ixN_nat {l : Nat} {i : Int} (h0 : 0 ≤ i) (h1 : i < l) : ixN l i = some i.toNat := by
  unfold ixN; rw [if_pos h0, if_pos h1]
theorem setAt_ok {xs : List α} {i : Int} {a : α} (h0 : 0 ≤ i) (h1 : i < xs.length) : setAt xs i a = some (xs.set i.toNat a) := by
  unfold setAt; rw [ixN_nat h0 h1]; rfl
theorem setAt_len {xs : List α} {x a : α} {n : Int} (h : n = xs.length) : setAt (xs ++ [x]) n a = some (xs ++ [a]) := by
  subst h
  rw [setAt_ok (by omega) (by simp; omega)]
  simp
theorem setAt_last {xs : List α} {x a : α} : setAt (xs ++ [x]) (-1) a = some (xs ++ [a]) := by
  unfold setAt
  rw [ixN_neg (by decide) (by simp; omega)]
  have : (-1 + ((xs ++ [x]).length : Int)).toNat = xs.length := by simp; omega
  rw [this]
  simp
theorem popL_snoc {xs : List α} {a : α} : popL (xs ++ [a]) = some (a, xs) := by unfold popL; simp
/-! slices -/
theorem cut_take {xs : List α} {i : Int} (h0 : 0 ≤ i) : cutD xs none (some i) = xs.take i.toNat := by
  unfold cutD HT.sIx
  have h : ¬ i < 0 := by omega
  simp [h]
theorem cut_drop {xs : List α} {i : Int} (h0 : 0 ≤ i) : cutD xs (some i) none = xs.drop i.toNat := by
  unfold cutD HT.sIx
  have h : ¬ i < 0 := by omega
  simp only [h, if_false]
  by_cases hl : i.toNat ≤ xs.length
  · rw [Nat.min_eq_left hl, List.take_of_length_le (by simp)]
  · rw [Nat.min_eq_right (by omega), List.drop_of_length_le (Nat.le_refl _), List.drop_of_length_le (by omega)]; simp
theorem sumD_l {xs : List Int} : sumD (.lst (xs.map .int)) = some xs.sum := by
  show (intsD (xs.map D.int)).map List.sum = _
  rw [ints_map]; rfl
/-! a step at a time -/
theorem bnd_eq {x : Fr α} {a : α} {k : α → O σ L β} (h : x = .rt a) : O.bnd x k = k a := by rw [h]; rfl
theorem seq_eq {x : O σ L β} {a : σ} {k : σ → O τ L β} (h : x = .nx a) : O.seq x k = k a := by rw [h]; rfl
theorem ofO_eq {o : Option α} {a : α} (h : o = some a) : ofO o = .rt a := by rw [h]; rfl
theorem ite_f {b : Bool} {x y : α} (h : b = false) : (if b = true then x else y) = y := by rw [h]; rfl
theorem ite_t {b : Bool} {x y : α} (h : b = true) : (if b = true then x else y) = x := by rw [h]; rfl
/-! loops -/
theorem nFor_cons {f : α → σ → O σ σ β} {x : α} {xs : List α} {s : σ} : (nFor f (x :: xs) s : O σ L β) = match f x s with
    | .nx s => nFor f xs s
    | .ct s => nFor f xs s
    | .bk s => .nx s
    | .rt b => .rt b
    | .exc e => .exc e
    | .stuck => .stuck := rfl
theorem nFor_nx {f : α → σ → O σ σ β} {x : α} {xs : List α} {s s' : σ} (h : f x s = .nx s') : (nFor f (x :: xs) s : O σ L β) = nFor f xs s' := by rw [nFor_cons, h]
theorem nFor_bk {f : α → σ → O σ σ β} {x : α} {xs : List α} {s s' : σ} (h : f x s = .bk s') : (nFor f (x :: xs) s : O σ L β) = .nx s' := by rw [nFor_cons, h]
theorem nFor_rt {f : α → σ → O σ σ β} {x : α} {xs : List α} {s : σ} {b : β} (h : f x s = .rt b) : (nFor f (x :: xs) s : O σ L β) = .rt b := by rw [nFor_cons, h]
theorem nFor_exc {f : α → σ → O σ σ β} {x : α} {xs : List α} {s : σ} {b : Ex} (h : f x s = .exc b) : (nFor f (x :: xs) s : O σ L β) = .exc b := by rw [nFor_cons, h]
/-- each lap leads on; P of the items to come -/
theorem nFor_ex {f : α → σ → O σ σ β} {P : List α → σ → Prop} (h : ∀ x r s, P (x :: r) s → ∃ s', f x s = .nx s' ∧ P r s') : ∀ (xs : List α) (s : σ), P xs s → ∃ s', (nFor f xs s : O σ L β) = .nx s' ∧ P [] s'
  | [], s, p => ⟨s, rfl, p⟩
  | x :: xs, s, p => by
    obtain ⟨s', h1, h2⟩ := h x xs s p
    obtain ⟨s2, h3, h4⟩ := nFor_ex h xs s' h2
    exact ⟨s2, by rw [nFor_nx h1]; exact h3, h4⟩
/-- some laps leave -/
theorem nFor_exB {f : α → σ → O σ σ β} {P : List α → σ → Prop} {Q : σ → Prop} (h : ∀ x r s, P (x :: r) s → (∃ s', f x s = .nx s' ∧ P r s') ∨ ∃ s', f x s = .bk s' ∧ Q s') (hq : ∀ s, P [] s → Q s) : ∀ (xs : List α) (s : σ), P xs s → ∃ s', (nFor f xs s : O σ L β) = .nx s' ∧ Q s'
  | [], s, p => ⟨s, rfl, hq s p⟩
  | x :: xs, s, p => by
    rcases h x xs s p with ⟨s', h1, h2⟩ | ⟨s', h1, h2⟩
    · obtain ⟨s2, h3, h4⟩ := nFor_exB h hq xs s' h2
      exact ⟨s2, by rw [nFor_nx h1]; exact h3, h4⟩
    · exact ⟨s', by rw [nFor_bk h1], h2⟩
/-- each lap is a step of g -/
theorem nFor_fold {f : α → σ → O σ σ β} {g : σ → α → σ} {P : List α → σ → Prop} (h : ∀ x r s, P (x :: r) s → f x s = .nx (g s x) ∧ P r (g s x)) : ∀ (xs : List α) (s : σ), P xs s → (nFor f xs s : O σ L β) = .nx (xs.foldl g s)
  | [], s, p => rfl
  | x :: xs, s, p => by
    obtain ⟨h1, h2⟩ := h x xs s p
    rw [nFor_nx h1, List.foldl_cons]
    exact nFor_fold h xs _ h2
/-- nothing is changed -/
theorem nFor_all {f : α → σ → O σ σ β} {s : σ} : ∀ (xs : List α), (∀ x ∈ xs, f x s = .nx s) → (nFor f xs s : O σ L β) = .nx s
  | [], _ => rfl
  | x :: xs, h => by
    rw [nFor_nx (h x List.mem_cons_self)]
    exact nFor_all xs fun y hy => h y (List.mem_cons_of_mem _ hy)
/-- a list grows by what each item gives -/
theorem nFor_grow {f : α → List γ → O (List γ) (List γ) β} {g : α → List γ} {B : Nat} (h : ∀ x, ∀ s : List γ, s.length + (g x).length ≤ B → f x s = .nx (s ++ g x)) : ∀ (xs : List α) (s : List γ), s.length + (xs.flatMap g).length ≤ B → (nFor f xs s : O (List γ) L β) = .nx (s ++ xs.flatMap g)
  | [], s, _ => by simp
  | x :: xs, s, hb => by
    rw [List.flatMap_cons, List.length_append] at hb
    rw [nFor_nx (h x s (by omega)), nFor_grow h xs _ (by rw [List.length_append]; omega), List.flatMap_cons, List.append_assoc]
theorem nFor_growM {f : α → List γ → O (List γ) (List γ) β} {g : α → List γ} {B : Nat} : ∀ (xs : List α) (s : List γ), (∀ x ∈ xs, ∀ s : List γ, s.length + (g x).length ≤ B → f x s = .nx (s ++ g x)) → s.length + (xs.flatMap g).length ≤ B → (nFor f xs s : O (List γ) L β) = .nx (s ++ xs.flatMap g)
  | [], s, _, _ => by simp
  | x :: xs, s, h, hb => by
    rw [List.flatMap_cons, List.length_append] at hb
    rw [nFor_nx (h x List.mem_cons_self s (by omega)), nFor_growM xs _ (fun y hy => h y (List.mem_cons_of_mem _ hy)) (by rw [List.length_append]; omega), List.flatMap_cons, List.append_assoc]
/-! comprehensions -/
theorem nLs_ok {F : α → Unit → O Unit Empty (β × Unit)} {t : α → Bool} {g : α → β} : ∀ (xs : List α), (∀ x ∈ xs, F x () = if t x = true then .rt (g x, ()) else .nx ()) → xs.length ≤ 16777216 → nLs F xs () = .rt ((xs.filter t).map g, ()) := by
  intro xs h hl
  have h2 : ∀ ys : List α, (∀ x ∈ ys, F x () = if t x = true then .rt (g x, ()) else .nx ()) → nLc F ys () = .rt ((ys.filter t).map g, ()) := by
    intro ys
    induction ys with
    | nil => intro _; rfl
    | cons y ys ih =>
      intro h
      have ih := ih fun x hx => h x (List.mem_cons_of_mem _ hx)
      have h1 := h y List.mem_cons_self
      unfold nLc
      rw [h1]
      cases e : t y with
      | false => rw [List.filter_cons_of_neg (by simp [e])]; exact ih
      | true => rw [List.filter_cons_of_pos e]; simp only [if_true, ih]; rfl
  unfold nLs
  rw [h2 xs h, bnd_rt, sized_ok]
  · rfl
  · rw [List.length_map]; exact Nat.le_trans (List.length_filter_le _ _) hl
theorem nLs_map {F : α → Unit → O Unit Empty (β × Unit)} {g : α → β} (xs : List α) (h : ∀ x ∈ xs, F x () = .rt (g x, ())) (hl : xs.length ≤ 16777216) : nLs F xs () = .rt (xs.map g, ()) := by
  have := nLs_ok (F := F) (t := fun _ => true) (g := g) xs (fun x hx => by rw [h x hx]; rfl) hl
  rwa [show (xs.filter fun _ => true) = xs from List.filter_eq_self.mpr (fun _ _ => rfl)] at this
/-! a value and itself -/
theorem okLs_map {v : α → D} : ∀ xs : List α, (∀ x ∈ xs, okL (v x) = true) → okLs (xs.map v) = true
  | [], _ => rfl
  | x :: xs, h => by
    rw [List.map_cons]; unfold okLs
    rw [h x List.mem_cons_self, okLs_map xs fun y hy => h y (List.mem_cons_of_mem _ hy)]; rfl
theorem szs_map {v : α → D} {k : Nat} : ∀ xs : List α, (∀ x ∈ xs, sz1 (v x) ≤ k) → szs (xs.map v) ≤ k * xs.length
  | [], _ => by simp [szs]
  | x :: xs, h => by
    rw [List.map_cons]; unfold szs
    have h1 := h x List.mem_cons_self
    have h2 := szs_map xs fun y hy => h y (List.mem_cons_of_mem _ hy)
    rw [List.length_cons, Nat.mul_succ]; omega
theorem ok_T {v : α → D} {xs : List α} (h : ∀ x ∈ xs, okL (v x) = true) : okL (vT v xs) = true := by unfold vT okL; exact okLs_map xs h
theorem sz_T {v : α → D} {k : Nat} {xs : List α} (h : ∀ x ∈ xs, sz1 (v x) ≤ k) : sz1 (vT v xs) ≤ 1 + k * xs.length := by unfold vT sz1; have := szs_map xs h; omega
end
end DL
/-! plain programs: texts, tables, more of lists -/
namespace DL
open PySem L2
section
variable {α β γ σ τ L : Type} {v : α → D} {w : β → D} {ρ : DL.Env}
variable {E : σ → DL.Env → Prop} {EL : L → DL.Env → Prop} {RB : β → D → DL.Env → Prop} {EX : DL.Env → Prop} {n : O σ L β} {fo fe fz fa : ER D} {d e : D}
def m1R (g : D → D → Option D) (fe : ER D) (d : D) (ρ : DL.Env) : Res D := match d with
  | .str _ => (fe ρ).bind fun e ρ => ofOpt (g d e) ρ
  | _ => .stuck
theorem c_m1 {g : D → D → Option D} {K : D → DL.Env → Out} (h : Sim E EL RB EX ((fo ρ).out fun d ρ => (m1R g fe d ρ).out K) n) : Sim E EL RB EX ((eM1 g fo fe ρ).out K) n := by
  have : eM1 g fo fe ρ = (fo ρ).bind fun d ρ => m1R g fe d ρ := by
    unfold eM1; congr 1
  rw [this, bind_out]; exact h
theorem c_m1S {g : D → D → Option D} {a : Str} {K : D → DL.Env → Out} (h : Sim E EL RB EX ((fe ρ).out fun e ρ => (ofOpt (g (.str a) e) ρ).out K) n) : Sim E EL RB EX ((m1R g fe (.str a) ρ).out K) n := by
  show Sim E EL RB EX (((fe ρ).bind fun e ρ => ofOpt (g (.str a) e) ρ).out K) n
  rw [bind_out]; exact h
theorem e_m1 {g : D → D → Option D} {a : Str} {e o : D} (ho : fo ρ = .ok (.str a) ρ) (he : fe ρ = .ok e ρ) (hg : g (.str a) e = some o) : eM1 g fo fe ρ = .ok o ρ := by
  unfold eM1; rw [ho, bind_ok]; simp only; rw [he, bind_ok, hg]; rfl
@[irreducible] def splitS (a b : Str) : Option (List Str) := if (b.length == 0) = false ∧ a.length + 2 ≤ sizeLine then some (Txt.split a b) else none
theorem h_split {a b : Str} : gSplit (.str a) (.str b) = (splitS a b).map fun ys => .lst (ys.map .str) := by
  unfold gSplit splitS; simp only; split <;> rfl
@[irreducible] def joinS (a : Str) (ys : List Str) : Option Str := if (ys.map (·.length)).sum + ys.length * a.length ≤ 16777216 then some (Txt.join a ys) else none
theorem h_joinT {a : Str} {ys : List Str} : gJoin (.str a) (.tup (ys.map .str)) = (joinS a ys).map .str := by
  unfold gJoin joinS strsD; simp only [strsL_map]; split <;> rfl
theorem h_joinL {a : Str} {ys : List Str} : gJoin (.str a) (.lst (ys.map .str)) = (joinS a ys).map .str := by
  unfold gJoin joinS strsD; simp only [strsL_map]; split <;> rfl
@[irreducible] def lr1 (j : Int) : Option (List Int) := if RgOk 0 j then some (rgI 0 j.toNat) else none
@[irreducible] def lr2 (i j : Int) : Option (List Int) := if RgOk i j then some (rgI i (j - i).toNat) else none
theorem h_lr1 {j : Int} : gLr1 (.int j) = (lr1 j).map fun xs => .lst (xs.map .int) := by
  unfold gLr1 lr1; simp only; split
  · rw [rg_map]; rfl
  · rfl
theorem h_lr2 {i j : Int} : gLr2 (.int i) (.int j) = (lr2 i j).map fun xs => .lst (xs.map .int) := by
  unfold gLr2 lr2; simp only; split
  · rw [rg_map]; rfl
  · rfl
theorem h_revL {xs : List α} : gRevL (.lst (xs.map v)) = some (.lst (xs.reverse.map v)) := by
  unfold gRevL; simp only; rw [List.map_reverse]
theorem e_rvO {i : Nat} {xs : List α} (h0 : ρ[i]? = some (some (.lst (xs.map v)))) : eRvO i ρ = .ok (.lst (xs.reverse.map v)) ρ := by
  unfold eRvO; rw [h0]; simp only; rw [List.map_reverse]
@[irreducible] def insA (xs : List α) (i : Int) (a : α) : Option (List α) := if xs.length < sizeLine ∧ 0 ≤ i ∧ i < 2 ^ 63 then some (xs.take i.toNat ++ [a] ++ xs.drop i.toNat) else none
theorem h_ins {xs : List α} {i : Int} {a : α} : gInsert (xs.map v) [.int i, v a] = (insA xs i a).map fun ys => (.non, ys.map v) := by
  unfold gInsert insA; simp only [List.length_map]; split
  · simp [List.map_take, List.map_drop]
  · rfl
@[irreducible] def slS (z : Str) (lo hi : Option Int) : Option Str := if z.length ≤ sizeLine then some (cutS z lo hi) else none
theorem h_slS {z : Str} {lo hi : Option Int} : gSl (.str z) lo hi = (slS z lo hi).map .str := by
  unfold gSl slS; simp only; split <;> rfl
theorem look_map {z : Str} : ∀ kis : List (Str × α), (kis.map fun p => (p.1, v p.2)).lookup z = (kis.lookup z).map v
  | [] => rfl
  | (k, i) :: kis => by
    rw [List.map_cons, List.lookup_cons, List.lookup_cons, look_map kis]
    cases z == k <;> rfl
theorem h_kget {kds : List (Str × D)} (tbl : List (Str × α)) {z : Str} (h : kds = tbl.map fun p => (p.1, v p.2)) : gKGet kds (.str z) = (tbl.lookup z).map v := by
  subst h; exact look_map tbl
theorem h_kin {neg : Bool} {kds : List (Str × D)} (tbl : List (Str × α)) {z : Str} (h : kds = tbl.map fun p => (p.1, v p.2)) : gKIn neg kds (.str z) = some (.bl (if neg then !(tbl.lookup z).isSome else (tbl.lookup z).isSome)) := by
  subst h; unfold gKIn; simp only; rw [look_map]; cases tbl.lookup z <;> rfl
theorem getK_map {z : Str} : ∀ kis : List (Str × α), getK (kis.map fun p => ((.inr p.1 : Key), v p.2)) (.inr z) = (kis.lookup z).map v
  | [] => rfl
  | (k, i) :: kis => by
    rw [List.map_cons, getK_cons, List.lookup_cons, getK_map kis]
    by_cases h : k = z
    · subst h; simp
    · have : (z == k) = false := by simp; exact fun q => h q.symm
      rw [this]; simp [h]
theorem e_dgetS {kds : List (Key × D)} (tbl : List (Str × α)) {w : Str} {z : α} (ho : fo ρ = .ok (.dct kds) ρ) (he : fe ρ = .ok (.str w) ρ) (hz : fz ρ = .ok (v z) ρ) (hk : kds = tbl.map fun p => ((.inr p.1 : Key), v p.2)) : eDGet fo fe fz ρ = .ok (v ((tbl.lookup w).getD z)) ρ := by
  subst hk
  unfold eDGet
  rw [ho, bind_ok]
  simp only
  rw [he, bind_ok, hz, bind_ok]
  simp only [keyD_s, Option.map_some, ofOpt_some, getK_map]
  cases tbl.lookup w <;> rfl
end
end DL
/-! plain programs: comprehensions whose element may raise -/
namespace DL
open PySem L2
def nLcX {α β σ : Type} (f : α → σ → O σ Empty (β × σ)) : List α → σ → Fr (List β × σ)
  | [], s => .rt ([], s)
  | x :: xs, s => match f x s with
    | .nx s => nLcX f xs s
    | .rt (b, s) => (nLcX f xs s).bnd fun r => .rt (b :: r.1, r.2)
    | .exc e => .exc e
    | .stuck => .stuck
    | .bk s => s.elim
    | .ct s => s.elim
def nLsX {α β σ : Type} (F : α → σ → O σ Empty (β × σ)) (xs : List α) (s : σ) : Fr (List β × σ) := (ofO (sized xs)).bnd fun _ => nLcX F xs s
section
variable {α β γ σ τ υ L L' : Type}
variable {E : σ → DL.Env → Prop} {E1 : τ → DL.Env → Prop} {EL : L → DL.Env → Prop} {RB : β → D → DL.Env → Prop} {EX EX1 : DL.Env → Prop}
variable {ρ ρ' : DL.Env} {fe fa fb fc : ER D} {ft fu : ER Bool} {fl : ER (List D)} {f g : DL.Env → Out} {n : O σ L β} {d e o : D} {b : Bool} {K : DL.Env → Out} {i j l : Nat}
theorem compX_sim {v : α → D} {w : γ → D} {gf : D → DL.Env → Option DL.Env} {vs : List Nat} {F : α → τ → O τ Empty (γ × τ)} (hb : ∀ x s ρ, E1 s ρ → Sim (σ := τ) (L := Empty) (β := γ × τ) (fun s ρ => E1 s (wipeD ρ vs)) (fun s _ => s.elim) (fun p d ρ => d = w p.1 ∧ E1 p.2 (wipeD ρ vs)) (fun _ => True) (asgK gf (compK ft fe) (v x) ρ) (F x s)) :
    ∀ (xs : List α) (s : τ) (ρ : DL.Env), E1 s ρ → (match nLcX F xs s with
      | .rt r => ∃ ρ', compF gf ft fe vs (xs.map v) ρ = .ok (r.1.map w) ρ' ∧ E1 r.2 ρ'
      | .stuck => True
      | .exc x => ∃ ρ', compF gf ft fe vs (xs.map v) ρ = .exc x ρ'
      | .nx s => s.elim | .bk s => s.elim | .ct s => s.elim)
  | [], s, ρ, h => ⟨ρ, rfl, h⟩
  | x :: xs, s, ρ, h => by
    have h2 := hb x s ρ h
    unfold nLcX
    unfold asgK at h2
    cases h1 : gf (v x) ρ with
    | none =>
      rw [h1] at h2
      cases e : F x s with
      | bk s => exact s.elim
      | ct s => exact s.elim
      | stuck => trivial
      | exc e => rw [e] at h2; obtain ⟨ρ2, e2, h3⟩ := h2.h; cases e2
      | nx s' => rw [e] at h2; obtain ⟨ρ2, e2, h3⟩ := h2.h; cases e2
      | rt b => rw [e] at h2; obtain ⟨d, ρ2, e2, h3⟩ := h2.h; cases e2
    | some ρ1 =>
    rw [h1] at h2
    simp only at h2
    unfold compK at h2
    have e0 : compF gf ft fe vs ((x :: xs).map v) ρ = (ft ρ1).bind fun b ρ2 => match b with
        | true => (fe ρ2).bind fun y ρ3 => (compF gf ft fe vs (xs.map v) (wipeD ρ3 vs)).bind fun ys ρ4 => .ok (y :: ys) ρ4
        | false => compF gf ft fe vs (xs.map v) (wipeD ρ2 vs) := by
      rw [List.map_cons]; unfold compF; rw [h1]; simp only; cases xs <;> rfl
    rw [e0]
    cases e : F x s with
    | bk s => exact s.elim
    | ct s => exact s.elim
    | stuck => trivial
    | exc x' =>
      rw [e] at h2
      obtain ⟨ρ2, e2, h3⟩ := h2.h
      cases et : ft ρ1 with
      | stuck => rw [et] at e2; cases e2
      | exc x ρ => rw [et] at e2; cases e2; exact ⟨_, rfl⟩
      | ok b ρ3 =>
        rw [et] at e2
        cases b with
        | false => cases e2
        | true =>
          simp only [out_ok, if_true] at e2
          cases e4 : fe ρ3 with
          | stuck => rw [e4] at e2; cases e2
          | exc x ρ => rw [e4] at e2; cases e2; exact ⟨_, by simp only [bind_ok]; rw [e4]; rfl⟩
          | ok y ρ4 => rw [e4] at e2; cases e2
    | nx s' =>
      rw [e] at h2
      obtain ⟨ρ2, e2, h3⟩ := h2.h
      cases et : ft ρ1 with
      | stuck => rw [et] at e2; cases e2
      | exc x ρ => rw [et] at e2; cases e2
      | ok b ρ3 =>
        rw [et] at e2
        cases b with
        | true => simp only [out_ok, if_true] at e2; cases e4 : fe ρ3 <;> rw [e4] at e2 <;> cases e2
        | false => cases e2; exact compX_sim hb xs s' _ h3
    | rt p =>
      rw [e] at h2
      obtain ⟨d, ρ2, e2, h3, h4⟩ := h2.h
      cases et : ft ρ1 with
      | stuck => rw [et] at e2; cases e2
      | exc x ρ => rw [et] at e2; cases e2
      | ok b ρ3 =>
        rw [et] at e2
        cases b with
        | false => cases e2
        | true =>
          simp only [out_ok, if_true] at e2
          cases e4 : fe ρ3 with
          | stuck => rw [e4] at e2; cases e2
          | exc x ρ => rw [e4] at e2; cases e2
          | ok y ρ4 =>
            rw [e4] at e2
            cases e2
            have ih := compX_sim hb xs p.2 _ h4
            simp only [bind_ok]
            rw [e4]
            simp only [bind_ok]
            cases e5 : nLcX F xs p.2 with
            | nx s => exact s.elim
            | bk s => exact s.elim
            | ct s => exact s.elim
            | stuck => trivial
            | exc e =>
              rw [e5] at ih
              obtain ⟨ρ5, h5⟩ := ih
              exact ⟨ρ5, by rw [h5]; rfl⟩
            | rt r =>
              rw [e5] at ih
              obtain ⟨ρ5, h5, h6⟩ := ih
              exact ⟨ρ5, by rw [h5, h3]; rfl, h6⟩

def lcRX (vs : List Nat) (n : Nat) (r : Res (List D)) : Res D := if n ≤ sizeLine then (match r with
  | .ok ys ρ' => .ok (.lst ys) ρ'
  | .exc e ρ' => .exc e (wipeD ρ' vs)
  | .stuck => .stuck) else .stuck
theorem c_lcXK {fi : ER (List D)} {gf : D → DL.Env → Option DL.Env} {vs : List Nat} {K : D → DL.Env → Out} (h : Sim E EL RB EX ((fi ρ).out fun es ρ => (lcRX vs es.length (compF gf ft fe vs es (wipeD ρ vs))).out K) n) : Sim E EL RB EX ((eLcX fi gf ft fe vs ρ).out K) n := by
  unfold eLcX; rw [bind_out]; exact h
theorem c_lcX {v : α → D} {w : γ → D} {gf : D → DL.Env → Option DL.Env} {vs : List Nat} {F : α → τ → O τ Empty (γ × τ)} {xs : List α} {s : τ} {k : List γ × τ → O σ L β} {K : D → DL.Env → Out} (hx : ∀ ρ, EX ρ) (h0 : E1 s (wipeD ρ vs)) (hb : ∀ x s ρ, E1 s ρ → Sim (σ := τ) (L := Empty) (β := γ × τ) (fun s ρ => E1 s (wipeD ρ vs)) (fun s _ => s.elim) (fun p d ρ => d = w p.1 ∧ E1 p.2 (wipeD ρ vs)) (fun _ => True) (asgK gf (compK ft fe) (v x) ρ) (F x s))
    (hk : ∀ r ρ', E1 r.2 ρ' → Sim E EL RB EX (K (.lst (r.1.map w)) ρ') (k r)) : Sim E EL RB EX ((lcRX vs (xs.map v).length (compF gf ft fe vs (xs.map v) (wipeD ρ vs))).out K) ((nLsX F xs s).bnd k) := by
  have h := compX_sim hb xs s _ h0
  unfold nLsX sized lcRX
  rw [List.length_map]
  split
  · rw [ofO_some, bnd_rt]
    cases e : nLcX F xs s with
    | nx s => exact s.elim
    | bk s => exact s.elim
    | ct s => exact s.elim
    | stuck => exact ⟨trivial⟩
    | exc x =>
      rw [e] at h
      obtain ⟨ρ', h1⟩ := h
      rw [h1]
      exact ⟨_, rfl, hx _⟩
    | rt r =>
      rw [e] at h
      obtain ⟨ρ', h1, h2⟩ := h
      rw [h1]
      exact hk _ _ h2
  · exact ⟨trivial⟩
end
end DL
namespace K08
open PySem L2 DL
def tb_1 : List (Str × Int) := [(("turn" : Str), 1), (("cut" : Str), 4), (("put" : Str), 3), (("copy" : Str), 3), (("keep" : Str), 2), (("empty" : Str), 2), (("swap" : Str), 2), (("set" : Str), 3), (("less" : Str), 3)]
def x__law_alike (ds : List D) : Fr D := frOf (d__law_alike ds)
theorem qx__law_alike (ds : List D) : SimF vD (fun _ => []) (d__law_alike ds) (x__law_alike ds) := simF_of
def n_lines_of (text0 : Str) : Fr (List Str) := (O.bnd ((O.bnd (ofO (splitS text0 ("\n" : Str))) fun x1 => (.rt x1)) : Fr (List Str)) fun x2 => (O.seq (O.bnd (ofO (atI x2 ((x2.length : Int) - 1))) fun x4 => (if (decide (x4 = ("" : Str))) then (O.bnd (ofO (popL x2)) fun lines5 => (.nx lines5.2)) else (.nx x2))) fun (s3 : (List Str)) => (.rt s3)))
theorem q_lines_of (text0 : Str) : SimF (vL D.str) (fun _ => []) (d_lines_of [(D.str text0)]) (n_lines_of text0) := simF_mk (by delta b_lines_of; exact t_end (t_seq (t_set (c_blk (v := (vL D.str)) (w := (fun _ => [some (D.str text0), none])) (c_m1 (c_ok rfl (c_m1S (c_ok rfl (c_opt h_split fun x1 => (c_rt rfl rfl)))))) fun x2 => (t_seq (t_cut (E1 := (fun (s3 : (List Str)) (ρ : DL.Env) => ρ = [some (D.str text0), some ((vL D.str) s3)])) (t_end (t_if (c_tval (c_op (c_ixO rfl (c_ok (e_op (e_view (e_cb rfl h_lenL) rfl) rfl rfl) (c_ix2 rfl (c_opt h_itL fun x4 => (c_ok rfl (c_tot rfl (c_bB (c_ite (t_drop (c_mtO rfl (c_ok rfl (c_mt2 rfl (h_pop (v := D.str) (xs := x2)) fun lines5 => (t_nx rfl))))) (t_pass (t_nx rfl)))))))))))))) (fun s3 ρ h => by subst h; exact (t_ret (c_ok rfl (t_rt ⟨rfl, rfl⟩))))))))))
def n_line_words (line0 : Str) : Fr (List Str) := (O.bnd (ofO (splitS line0 (" " : Str))) fun x1 => (O.bnd (ofO (sized (List.map (fun (y2 : Str) => y2) (List.filter (fun (y2 : Str) => (!decide (y2 = ("" : Str)))) x1)))) fun x3 => (.rt x3)))
theorem q_line_words (line0 : Str) : SimF (vL D.str) (fun _ => []) (d_line_words [(D.str line0)]) (n_line_words line0) := simF_mk (by delta b_line_words; exact t_end (t_ret (c_lcK (c_iA (c_m1 (c_ok rfl (c_m1S (c_ok rfl (c_opt h_split fun x1 => (c_tot (x := List.map D.str x1) rfl (c_lcP (v := D.str) (w := D.str) (t := fun (y2 : Str) => (!decide (y2 = ("" : Str)))) (F := fun (y2 : Str) => y2) (xs := x1) (fun y2 => ⟨_, rfl, (e_tval rfl), rfl, rfl⟩) fun x3 => (t_rt ⟨rfl, rfl⟩))))))))))))
def n_is_passed_over (words0 : (List Str)) : Fr Bool := (O.bnd ((if (decide ((words0.length : Int) = 0)) then (.rt true) else (O.bnd (ofO (atI words0 0)) fun x1 => (.rt (Txt.startswith x1 ("#" : Str))))) : Fr Bool) fun x2 => (.rt x2))
theorem q_is_passed_over (words0 : (List Str)) : SimF D.bl (fun _ => []) (d_is_passed_over [((vL D.str) words0)]) (n_is_passed_over words0) := simF_mk (by delta b_is_passed_over; exact t_end (t_ret (c_blk (v := D.bl) (w := (fun _ => [some ((vL D.str) words0)])) (c_or (c_ok (e_tval (e_op (e_cb rfl h_lenL) rfl rfl)) (c_ite (c_rt rfl rfl) (c_m1 (c_op (c_ok rfl (c_ok rfl (c_opt h_ixL fun x1 => (c_m1S (c_ok rfl (c_tot rfl (c_rt rfl rfl)))))))))))) fun x2 => (t_rt ⟨rfl, rfl⟩))))
def n_read_lines (text0 : Str) : Fr (List (Int × (List Str))) := (O.bnd (n_lines_of text0) fun x1 => (O.seq (nFor (fun (y3 : (Int × Str)) (s2 : (List (Int × (List Str)))) => (O.bnd (n_line_words y3.2) fun x4 => (O.bnd (n_is_passed_over x4) fun x5 => (if (!x5) then (O.bnd (ofO (push (α := (Int × (List Str))) s2 ((y3.1 + 1), x4))) fun found7 => (.nx found7)) else (.nx s2))))) (enI 0 x1) []) fun (s8 : (List (Int × (List Str)))) => (.rt s8)))
theorem q_read_lines (text0 : Str) : SimF (vL (vP2 D.int (vL D.str))) (fun _ => []) (d_read_lines [(D.str text0)]) (n_read_lines text0) := simF_mk (by delta b_read_lines; exact t_end (t_seq (t_set (c_ok (e_lst rfl (Nat.le_of_ble_eq_true rfl)) (t_seq (t_forK (c_iEn (c_cons (c_callM (c_ok rfl (c_fret rfl (q_lines_of text0) trivial fun x1 => (c_ok rfl (c_tot h_enL (t_loop (E1 := (fun (s2 : (List (Int × (List Str)))) (ρ : DL.Env) => ∃ u2 u3 u4 : Option D, ρ = [some (D.str text0), some ((vL (vP2 D.int (vL D.str))) s2), u2, u3, u4])) (v := (vP2 D.int D.str)) (xs := (enI 0 x1)) (s := []) ⟨_, _, _, rfl⟩ (fun y3 s2 ρ h => by obtain ⟨u2, u3, u4, rfl⟩ := h; exact (t_asgK rfl (t_end (t_seq (t_set (c_callM (c_ok rfl (c_fret rfl (q_line_words y3.2) trivial fun x4 => (t_if (c_bnot (c_tval (c_callM (c_ok rfl (c_fret rfl (q_is_passed_over x4) trivial fun x5 => (c_bB (c_ite (t_drop (c_mtO rfl (c_ok (e_cons (e_tup rfl (Nat.le_of_ble_eq_true rfl)) rfl) (c_mt2 rfl (h_app (v := (vP2 D.int (vL D.str))) (xs := s2) (a := ((y3.1 + 1), x4))) fun found7 => (t_nx ⟨_, _, _, rfl⟩))))) (t_pass (t_nx ⟨_, _, _, rfl⟩)))))))))))))))))) (fun s8 ρ h => by obtain ⟨u2, u3, u4, rfl⟩ := h; exact (t_ret (c_ok rfl (t_rt ⟨rfl, rfl⟩))))))))))))))))))
def n_last_line (text0 : Str) : Fr Int := (O.bnd (n_lines_of text0) fun x1 => (.rt ((x1.length : Int) + 1)))
theorem q_last_line (text0 : Str) : SimF D.int (fun _ => []) (d_last_line [(D.str text0)]) (n_last_line text0) := simF_mk (by delta b_last_line; exact t_end (t_ret (c_op (c_cb (c_cons (c_callM (c_ok rfl (c_fret rfl (q_lines_of text0) trivial fun x1 => (c_ok rfl (c_tot h_lenL (c_ok rfl (c_tot rfl (t_rt ⟨rfl, rfl⟩)))))))))))))
def n_text_of_lines (lines0 : (List Str)) : Fr Str := (O.bnd (nLs (fun (y1 : Str) (s2 : Unit) => ((O.bnd (ofO (catS y1 ("\n" : Str))) fun x3 => (.rt (x3, ()))) : O Unit Empty (Str × Unit))) lines0 ()) fun (r4 : List Str × Unit) => (O.bnd (ofO (joinS ("" : Str) r4.1)) fun x5 => (.rt x5)))
theorem q_text_of_lines (lines0 : (List Str)) : SimF D.str (fun _ => []) (d_text_of_lines [((vL D.str) lines0)]) (n_text_of_lines lines0) := simF_mk (by delta b_text_of_lines; exact t_end (t_ret (c_m1 (c_ok rfl (c_m1S (c_lcK (c_iA (c_ok rfl (c_tot (x := List.map D.str lines0) rfl (c_lc (E1 := (fun (s2 : Unit) (ρ : DL.Env) => ρ = [some ((vL D.str) lines0), none])) (v := D.str) (w := D.str) (xs := lines0) (s := ()) rfl (fun y1 s2 ρ h => by subst h; exact (t_asgK rfl (c_ok (x := true) rfl (c_op (c_ok rfl (c_ok rfl (c_opt h_catS fun x3 => (t_rt ⟨rfl, rfl⟩)))))))) fun r4 ρ h => by subst h; exact (c_opt h_joinL fun x5 => (t_rt ⟨rfl, rfl⟩))))))))))))
def n_is_written (word0 : Str) : Fr Bool := (O.bnd ((if (decide (word0 = ("" : Str))) then (.rt true) else (O.bnd ((O.bnd (ofO (lenS word0)) fun x1 => (if (decide (9 < x1)) then (.rt true) else (O.bnd (nLs (fun (y2 : Str) (s3 : Unit) => ((O.bnd (ofO (niD (D.str y2) (D.str ("0123456789" : Str)))) fun x4 => (if x4 then (.rt (y2, ())) else (.nx ()))) : O Unit Empty (Str × Unit))) (sgS word0) ()) fun (r5 : List Str × Unit) => (.rt (decide (0 < (r5.1.length : Int))))))) : Fr Bool) fun x6 => (.rt x6))) : Fr Bool) fun x7 => (if x7 then (.rt false) else (O.bnd ((if (decide (word0 = ("0" : Str))) then (.rt true) else (O.bnd (ofO (gIx (D.str word0) (D.int 0))) fun x8 => (O.bnd (ofO (neD x8 (D.str ("0" : Str)))) fun x9 => (.rt x9)))) : Fr Bool) fun x10 => (.rt x10))))
theorem q_is_written (word0 : Str) : SimF D.bl (fun _ => []) (d_is_written [(D.str word0)]) (n_is_written word0) := simF_mk (by delta b_is_written; exact t_end (t_seq (t_if (c_blkT (w := (fun _ => [some (D.str word0), none])) (c_bor (c_ok (e_tval rfl) (c_ite (c_rt rfl rfl) (c_blkT (w := (fun _ => [some (D.str word0), none])) (c_bor (c_tval (c_op (c_cb (c_ok rfl (c_opt h_lenS fun x1 => (c_ok rfl (c_tot rfl (c_bB (c_ite (c_rt rfl rfl) (c_tval (c_op (c_cb (c_cons (c_lcK (c_iS (c_ok rfl (c_tot h_sg (c_lc (E1 := (fun (s3 : Unit) (ρ : DL.Env) => ρ = [some (D.str word0), none])) (v := D.str) (w := D.str) (xs := (sgS word0)) (s := ()) rfl (fun y2 s3 ρ h => by subst h; exact (t_asgK rfl (c_tval (c_op (c_ok rfl (c_ok rfl (c_opt h_niD fun x4 => (c_bB (c_ite (c_ok rfl (t_rt ⟨rfl, rfl⟩)) (t_nx rfl)))))))))) fun r5 ρ h => by subst h; exact (c_ok rfl (c_tot h_lenL (c_ok rfl (c_tot rfl (c_bB (c_rt rfl rfl))))))))))))))))))))))))) fun x6 => (c_rt rfl rfl))))) fun x7 => (c_ite (t_ret (c_ok rfl (t_rt ⟨rfl, rfl⟩))) (t_pass (t_ret (c_blk (v := D.bl) (w := (fun _ => [some (D.str word0), none])) (c_or (c_ok (e_tval rfl) (c_ite (c_rt rfl rfl) (c_op (c_op (c_ok rfl (c_ok rfl (c_opt h_any fun x8 => (c_ok rfl (c_opt h_neD fun x9 => (c_rt rfl rfl))))))))))) fun x10 => (t_rt ⟨rfl, rfl⟩)))))))))
def n_row_line (row0 : D) : Fr Str := (O.bnd (ofO (asLs row0)) fun x1 => (O.bnd (nLs (fun (y2 : D) (s3 : Unit) => ((O.bnd (ofO (strD y2)) fun x4 => (.rt (x4, ()))) : O Unit Empty (Str × Unit))) x1 ()) fun (r5 : List Str × Unit) => (O.bnd (ofO (joinS (" " : Str) r5.1)) fun x6 => (.rt x6))))
theorem q_row_line (row0 : D) : SimF D.str (fun _ => []) (d_row_line [row0]) (n_row_line row0) := simF_mk (by delta b_row_line; exact t_end (t_ret (c_m1 (c_ok rfl (c_m1S (c_lcK (c_iA (c_ok rfl (c_opt h_anyL fun x1 => (c_lc (E1 := (fun (s3 : Unit) (ρ : DL.Env) => ρ = [some row0, none])) (v := vD) (w := D.str) (xs := x1) (s := ()) rfl (fun y2 s3 ρ h => by subst h; exact (t_asgK rfl (c_ok (x := true) rfl (c_cb (c_ok rfl (c_opt h_strD fun x4 => (t_rt ⟨rfl, rfl⟩))))))) fun r5 ρ h => by subst h; exact (c_opt h_joinL fun x6 => (t_rt ⟨rfl, rfl⟩))))))))))))
def n_code_lines (code0 : (Int × (List D))) : Fr (List Str) := (O.bnd (ofO (strI code0.1)) fun x1 => (O.bnd (ofO (catS ("code " : Str) x1)) fun x2 => (O.bnd (nLs (fun (y3 : D) (s4 : Unit) => ((O.bnd (n_row_line y3) fun x5 => (.rt (x5, ()))) : O Unit Empty (Str × Unit))) code0.2 ()) fun (r6 : List Str × Unit) => (O.bnd (ofO (cat (α := Str) [x2] r6.1)) fun x7 => (.rt x7)))))
theorem q_code_lines (code0 : (Int × (List D))) : SimF (vL D.str) (fun _ => []) (d_code_lines [((vP2 D.int (vT vD)) code0)]) (n_code_lines code0) := simF_mk (by delta b_code_lines; exact t_end (t_ret (c_op (c_lst (c_cons (c_op (c_ok rfl (c_cb (c_ok rfl (c_opt h_strI fun x1 => (c_opt h_catS fun x2 => (c_ok rfl (c_size (Nat.le_of_ble_eq_true rfl) (c_lcK (c_iA (c_ok rfl (c_tot (x := List.map vD code0.2) rfl (c_lc (E1 := (fun (s4 : Unit) (ρ : DL.Env) => ρ = [some ((vP2 D.int (vT vD)) code0), none])) (v := vD) (w := D.str) (xs := code0.2) (s := ()) rfl (fun y3 s4 ρ h => by subst h; exact (t_asgK rfl (c_ok (x := true) rfl (c_callM (c_ok rfl (c_fret rfl (q_row_line y3) trivial fun x5 => (t_rt ⟨rfl, rfl⟩))))))) fun r6 ρ h => by subst h; exact (c_opt (h_catL (v := D.str) (xs := [x2]) (ys := r6.1)) fun x7 => (t_rt ⟨rfl, rfl⟩))))))))))))))))))))
def n_code_text (code0 : (Int × (List D))) : Fr Str := (O.bnd (n_code_lines code0) fun x1 => (O.bnd (n_text_of_lines x1) fun x2 => (.rt x2)))
theorem q_code_text (code0 : (Int × (List D))) : SimF D.str (fun _ => []) (d_code_text [((vP2 D.int (vT vD)) code0)]) (n_code_text code0) := simF_mk (by delta b_code_text; exact t_end (t_ret (c_callM (c_cons (c_callM (c_ok rfl (c_fret rfl (q_code_lines code0) trivial fun x1 => (c_ok rfl (c_fret rfl (q_text_of_lines x1) trivial fun x2 => (t_rt ⟨rfl, rfl⟩))))))))))
def n_is_number (words0 : (List Str)) (at0 : Int) : Fr Bool := (O.bnd ((O.bnd (ofO (atI words0 at0)) fun x1 => (O.bnd (n_is_written x1) fun x2 => (if x2 then (.rt true) else (O.bnd ((O.bnd (ofO (atI words0 0)) fun x3 => (if (decide (x3 = ("cut" : Str))) then (O.bnd ((if (decide (at0 = 2)) then (O.bnd (ofO (atI words0 at0)) fun x4 => (.rt (decide (x4 ∈ [("-1" : Str), ("-2" : Str)])))) else (.rt false)) : Fr Bool) fun x5 => (.rt x5)) else (.rt false))) : Fr Bool) fun x6 => (.rt x6))))) : Fr Bool) fun x7 => (.rt x7))
theorem q_is_number (words0 : (List Str)) (at0 : Int) : SimF D.bl (fun _ => []) (d_is_number [((vL D.str) words0), (D.int at0)]) (n_is_number words0 at0) := simF_mk (by delta b_is_number; exact t_end (t_ret (c_blk (v := D.bl) (w := (fun _ => [some ((vL D.str) words0), some (D.int at0)])) (c_or (c_tval (c_callM (c_cons (c_op (c_ok rfl (c_ok rfl (c_opt h_ixL fun x1 => (c_ok rfl (c_fret rfl (q_is_written x1) trivial fun x2 => (c_bB (c_ite (c_rt rfl rfl) (c_blk (v := D.bl) (w := (fun _ => [some ((vL D.str) words0), some (D.int at0)])) (c_and (c_tval (c_op (c_op (c_ok rfl (c_ok rfl (c_opt h_ixL fun x3 => (c_ok rfl (c_tot rfl (c_bB (c_ite (c_blk (v := D.bl) (w := (fun _ => [some ((vL D.str) words0), some (D.int at0)])) (c_and (c_ok (e_tval rfl) (c_ite (c_op (c_op (c_ok rfl (c_ok rfl (c_opt h_ixL fun x4 => (c_ok rfl (c_tot (h_inTS (xs := [("-1" : Str), ("-2" : Str)])) (c_rt rfl rfl)))))))) (c_rt rfl rfl)))) fun x5 => (c_rt rfl rfl)) (c_rt rfl rfl)))))))))))) fun x6 => (c_rt rfl rfl)))))))))))))) fun x7 => (t_rt ⟨rfl, rfl⟩))))
def n_read_row (line0 : Int) (words0 : (List Str)) : Fr D := (O.bnd (ofO (atI words0 0)) fun x1 => (if (!(tb_1.lookup x1).isSome) then (.exc ⟨5, (["line", "word"] : List Str).zip [(D.int line0), (D.str ("kind" : Str))]⟩) else (O.bnd (ofO (atI words0 0)) fun x2 => (O.bnd (ofO (tb_1.lookup x2)) fun x3 => (if (!decide ((words0.length : Int) = x3)) then (.exc ⟨5, (["line", "word"] : List Str).zip [(D.int line0), (D.str ("words" : Str))]⟩) else (O.bnd (ofO (rg2 1 (words0.length : Int))) fun x4 => (O.bnd (nLs (fun (y5 : Int) (s6 : Unit) => ((O.bnd (n_is_number words0 y5) fun x7 => (if (!x7) then (.rt (y5, ())) else (.nx ()))) : O Unit Empty (Int × Unit))) x4 ()) fun (r8 : List Int × Unit) => (if (decide (0 < (r8.1.length : Int))) then (.exc ⟨5, (["line", "word"] : List Str).zip [(D.int line0), (D.str ("number" : Str))]⟩) else (O.bnd (ofO (atI words0 0)) fun x9 => (O.bnd (nLs (fun (y10 : Str) (s11 : Unit) => ((O.bnd (ofO (intS y10)) fun x12 => (.rt (x12, ()))) : O Unit Empty (Int × Unit))) (cutD words0 (some 1) none) ()) fun (r13 : List Int × Unit) => (O.bnd (ofO (gAdd (D.tup [(D.str x9)]) ((vT D.int) r13.1))) fun x14 => (.rt x14))))))))))))
theorem q_read_row (line0 : Int) (words0 : (List Str)) : SimF vD (fun _ => []) (d_read_row [(D.int line0), ((vL D.str) words0)]) (n_read_row line0 words0) := simF_mk (by delta b_read_row; exact t_end (t_seq (t_if (c_tval (c_un (c_op (c_ok rfl (c_ok rfl (c_opt h_ixL fun x1 => (c_tot (h_kin (v := D.int) tb_1 rfl) (c_bB (c_ite (t_raise (c_ok rfl (t_exc rfl trivial))) (t_pass (t_seq (t_if (c_tval (c_op (c_ok (e_cb rfl h_lenL) (c_un (c_op (c_ok rfl (c_ok rfl (c_opt h_ixL fun x2 => (c_opt (h_kget (v := D.int) tb_1 rfl) fun x3 => (c_tot rfl (c_bB (c_ite (t_raise (c_ok rfl (t_exc rfl trivial))) (t_pass (t_seq (t_if (c_tval (c_op (c_cb (c_cons (c_lcK (c_iR2 (c_ok (e_cons rfl (e_cons (e_cb rfl h_lenL) rfl)) (c_opt h_r2 fun x4 => (c_lc (E1 := (fun (s6 : Unit) (ρ : DL.Env) => ρ = [some (D.int line0), some ((vL D.str) words0), none, none])) (v := D.int) (w := D.int) (xs := x4) (s := ()) rfl (fun y5 s6 ρ h => by subst h; exact (t_asgK rfl (c_bnot (c_tval (c_callM (c_ok rfl (c_fret rfl (q_is_number words0 y5) trivial fun x7 => (c_bB (c_ite (c_ok rfl (t_rt ⟨rfl, rfl⟩)) (t_nx rfl)))))))))) fun r8 ρ h => by subst h; exact (c_ok rfl (c_tot h_lenL (c_ok rfl (c_tot rfl (c_bB (c_ite (t_raise (c_ok rfl (t_exc rfl trivial))) (t_pass (t_ret (c_op (c_tup (c_cons (c_op (c_ok rfl (c_ok rfl (c_opt h_ixL fun x9 => (c_ok rfl (c_size (Nat.le_of_ble_eq_true rfl) (c_cb (c_cons (c_lcK (c_iA (c_ok (e_sl rfl (e_pso rfl) rfl h_slL) (c_tot (x := List.map D.str (cutD words0 (some 1) none)) rfl (c_lc (E1 := (fun (s11 : Unit) (ρ : DL.Env) => ρ = [some (D.int line0), some ((vL D.str) words0), none, none])) (v := D.str) (w := D.int) (xs := (cutD words0 (some 1) none)) (s := ()) rfl (fun y10 s11 ρ h => by subst h; exact (t_asgK rfl (c_ok (x := true) rfl (c_cb (c_ok rfl (c_opt h_intS fun x12 => (t_rt ⟨rfl, rfl⟩))))))) fun r13 ρ h => by subst h; exact (c_ok rfl (c_tot rfl (c_opt h_any fun x14 => (t_rt ⟨rfl, rfl⟩)))))))))))))))))))))))))))))))))))))))))))))))))))))))))))))))))))
def n_read_code (text0 : Str) : Fr (Int × (List D)) := (O.bnd (n_read_lines text0) fun x1 => (if (decide ((x1.length : Int) = 0)) then (O.bnd (n_last_line text0) fun x2 => (.exc ⟨5, (["line", "word"] : List Str).zip [(D.int x2), (D.str ("code" : Str))]⟩)) else (O.bnd (ofO (atI x1 0)) fun x3 => (O.bnd ((O.bnd (ofO (atI x3.2 0)) fun x4 => (if (!decide (x4 = ("code" : Str))) then (.rt true) else (O.bnd ((if (!decide ((x3.2.length : Int) = 2)) then (.rt true) else (O.bnd (ofO (atI x3.2 1)) fun x5 => (O.bnd (n_is_written x5) fun x6 => (.rt (!x6))))) : Fr Bool) fun x7 => (.rt x7)))) : Fr Bool) fun x8 => (if x8 then (.exc ⟨5, (["line", "word"] : List Str).zip [(D.int x3.1), (D.str ("code" : Str))]⟩) else (O.bnd (ofO (atI x3.2 1)) fun x9 => (O.bnd (ofO (intS x9)) fun x10 => (O.bnd (nLsX (fun (y11 : (Int × (List Str))) (s12 : Unit) => ((O.bnd (n_read_row y11.1 y11.2) fun x13 => (.rt (x13, ()))) : O Unit Empty (D × Unit))) (cutD x1 (some 1) none) ()) fun (r14 : List D × Unit) => (.rt (x10, r14.1))))))))))
theorem q_read_code (text0 : Str) : SimF (vP2 D.int (vT vD)) (fun _ => []) (d_read_code [(D.str text0)]) (n_read_code text0) := simF_mk (by delta b_read_code; exact t_end (t_seq (t_set (c_callM (c_ok rfl (c_fret rfl (q_read_lines text0) trivial fun x1 => (t_seq (t_if (c_ok (e_tval (e_op (e_cb rfl h_lenL) rfl rfl)) (c_ite (t_raise (c_cons (c_callM (c_ok rfl (c_fret rfl (q_last_line text0) trivial fun x2 => (c_ok rfl (t_exc rfl trivial))))))) (t_pass (t_seq (t_asg (c_op (c_ok rfl (c_ok rfl (c_opt h_ixL fun x3 => (t_asgK rfl (t_seq (t_if (c_blkT (w := (fun _ => [some (D.str text0), some ((vL (vP2 D.int (vL D.str))) x1), some (D.int x3.1), some ((vL D.str) x3.2), none, none])) (c_bor (c_tval (c_op (c_op (c_ok rfl (c_ok rfl (c_opt h_ixL fun x4 => (c_ok rfl (c_tot rfl (c_bB (c_ite (c_rt rfl rfl) (c_blkT (w := (fun _ => [some (D.str text0), some ((vL (vP2 D.int (vL D.str))) x1), some (D.int x3.1), some ((vL D.str) x3.2), none, none])) (c_bor (c_ok (e_tval (e_op (e_cb rfl h_lenL) rfl rfl)) (c_ite (c_rt rfl rfl) (c_bnot (c_tval (c_callM (c_cons (c_op (c_ok rfl (c_ok rfl (c_opt h_ixL fun x5 => (c_ok rfl (c_fret rfl (q_is_written x5) trivial fun x6 => (c_bB (c_rt rfl rfl))))))))))))))) fun x7 => (c_rt rfl rfl))))))))))))) fun x8 => (c_ite (t_raise (c_ok rfl (t_exc rfl trivial))) (t_pass (t_ret (c_tup (c_cons (c_cb (c_cons (c_op (c_ok rfl (c_ok rfl (c_opt h_ixL fun x9 => (c_ok rfl (c_opt h_intS fun x10 => (c_cons (c_cb (c_cons (c_lcXK (c_iA (c_ok (e_sl rfl (e_pso rfl) rfl h_slL) (c_tot (x := List.map (vP2 D.int (vL D.str)) (cutD x1 (some 1) none)) rfl (c_lcX (E1 := (fun (s12 : Unit) (ρ : DL.Env) => ρ = [some (D.str text0), some ((vL (vP2 D.int (vL D.str))) x1), some (D.int x3.1), some ((vL D.str) x3.2), none, none])) (v := (vP2 D.int (vL D.str))) (w := vD) (xs := (cutD x1 (some 1) none)) (s := ()) (fun _ => trivial) rfl (fun y11 s12 ρ h => by subst h; exact (t_asgK rfl (c_ok (x := true) rfl (c_callM (c_ok rfl (c_fret rfl (q_read_row y11.1 y11.2) trivial fun x13 => (t_rt ⟨rfl, rfl⟩))))))) fun r14 ρ h => by subst h; exact (c_ok rfl (c_tot rfl (c_ok rfl (c_size (Nat.le_of_ble_eq_true rfl) (t_rt ⟨rfl, rfl⟩)))))))))))))))))))))))))))))))))))))))))))))))
def n__law_reel (script0 : (List Int)) : Fr (List D) := (O.bnd (.rt ([6011] : (List Int))) fun reel1 => (O.seq (nFor (fun (y3 : Int) (s2 : (List Int)) => (O.bnd (ofO (atI s2 (-1))) fun x4 => (O.bnd (ofO (icI CMod (fun i j => i % j) (if y3 < 0 then -y3 else y3) ((1 : Int) * 2 ^ (2000 : Int).toNat))) fun x5 => (O.bnd (ofO (push (α := Int) s2 ((((x4 * 229) + (x5 % 1000393)) + (s2.length : Int)) % 1999271))) fun reel7 => (.nx reel7))))) (cutD script0 none (some 40)) reel1) fun (s8 : (List Int)) => (O.bnd (ofO (atI s8 (-1))) fun x9 => (O.bnd (ofO (cat (α := Int) s8 [((x9 / 9) + 2)])) fun x10 => (O.bnd (ofO (atI s8 (-1))) fun x11 => (.rt [((vL D.int) x10), (D.int 0), (D.int (x11 + 6011))]))))))
theorem q__law_reel (script0 : (List Int)) : SimF (vL vD) (fun _ => []) (d__law_reel [(D.scr script0)]) (n__law_reel script0) := simF_mk (by delta b__law_reel; exact t_end (t_seq (t_set (c_okE (v := (vL D.int)) (x := [6011]) (e_lst rfl (Nat.le_of_ble_eq_true rfl)) rfl fun reel1 => (t_seq (t_forK (c_iA (c_ok (e_sl rfl rfl (e_pso rfl) h_slX) (c_tot (x := List.map D.int (cutD script0 none (some 40))) rfl (t_loop (E1 := (fun (s2 : (List Int)) (ρ : DL.Env) => ∃ u2 : Option D, ρ = [some (D.scr script0), some ((vL D.int) s2), u2])) (v := D.int) (xs := (cutD script0 none (some 40))) (s := reel1) ⟨_, rfl⟩ (fun y3 s2 ρ h => by obtain ⟨u2, rfl⟩ := h; exact (t_asgK rfl (t_end (t_drop (c_mtO rfl (c_cons (c_op (c_op (c_op (c_op (c_ixO rfl (c_ok rfl (c_ix2 rfl (c_opt h_itL fun x4 => (c_ok rfl (c_tot (h_mulR (.inr (by decide))) (c_op (c_op (c_ok rfl (c_ok (e_op rfl rfl (h_icR (c := CPow) (show CPow (1) (2000) from by decide))) (c_opt h_ic fun x5 => (c_ok rfl (c_tot (h_icR (show (0 : Int) < 1000393 from by decide)) (c_tot rfl (c_ok (e_view (e_cb rfl h_lenL) rfl) (c_tot rfl (c_ok rfl (c_tot (h_icR (show (0 : Int) < 1999271 from by decide)) (c_ok rfl (c_mt2 rfl (h_app (v := D.int) (xs := s2) (a := ((((x4 * 229) + (x5 % 1000393)) + (s2.length : Int)) % 1999271))) fun reel7 => (t_nx ⟨_, rfl⟩))))))))))))))))))))))))))))))) (fun s8 ρ h => by obtain ⟨u2, rfl⟩ := h; exact (t_ret (c_lst (c_cons (c_op (c_ok rfl (c_lst (c_cons (c_op (c_op (c_op (c_ok rfl (c_ok rfl (c_opt h_ixL fun x9 => (c_ok rfl (c_tot (h_icR (c := CDiv) ⟨(show (0 : Int) < 9 from by decide), (show (9 : Int) < 1073741824 from by decide)⟩) (c_ok rfl (c_tot rfl (c_ok rfl (c_size (Nat.le_of_ble_eq_true rfl) (c_opt (h_catL (v := D.int) (xs := s8) (ys := [((x9 / 9) + 2)])) fun x10 => (c_cons (c_ok rfl (c_cons (c_op (c_op (c_ok rfl (c_ok rfl (c_opt h_ixL fun x11 => (c_ok rfl (c_tot rfl (c_ok rfl (c_size (Nat.le_of_ble_eq_true rfl) (t_rt ⟨rfl, rfl⟩))))))))))))))))))))))))))))))))))))))))))))
def n__law_spin (reel0 : (List D)) (many0 : Int) : Fr (Int × (List D)) := (O.bnd (ofO (atI reel0 1)) fun x1 => (O.bnd (ofO (gAdd x1 (D.int 1))) fun x2 => (O.bnd (ofO (setAt reel0 1 x2)) fun reel4 => (O.bnd (ofO (atI reel4 2)) fun x5 => (O.bnd (ofO (gMul x5 (D.int 835))) fun x6 => (O.bnd (ofO (atI reel4 0)) fun x7 => (O.bnd (ofO (atI reel4 1)) fun x8 => (O.bnd (ofO (atI reel4 0)) fun x9 => (O.bnd (ofO (lenD x9)) fun x10 => (O.bnd (ofO (Option.bind (i2 x8 (D.int x10)) fun p => icI CMod (fun i j => i % j) p.1 p.2)) fun x11 => (O.bnd (ofO (gIx x7 (D.int x11))) fun x12 => (O.bnd (ofO (atI reel4 1)) fun x13 => (O.bnd (ofO (gAdd x13 (D.int 7))) fun x14 => (O.bnd (ofO (gMul x12 x14)) fun x15 => (O.bnd (ofO (gAdd x6 x15)) fun x16 => (O.bnd (ofO (gAdd x16 (D.int 6011))) fun x17 => (O.bnd (ofO (intD x17)) fun x18 => (O.bnd (ofO (setAt reel4 2 (D.int (x18 % 1999271)))) fun reel20 => (O.bnd (ofO (atI reel20 2)) fun x21 => (O.bnd (ofO (intD x21)) fun x22 => (O.bnd (ofO (icI CMod (fun i j => i % j) (x22 / 23) many0)) fun x23 => (.rt (x23, reel20)))))))))))))))))))))))
theorem q__law_spin (reel0 : (List D)) (many0 : Int) : SimF (fun p : (Int × (List D)) => D.int p.1) (fun p : (Int × (List D)) => [some ((vL vD) p.2)]) (d__law_spin [((vL vD) reel0), (D.int many0)]) (n__law_spin reel0 many0) := simF_mk (by delta b__law_spin; exact t_end (t_seq (t_seti (d0 := D.non) (c_op (c_ixO rfl (c_ok rfl (c_ix2 rfl (c_opt h_itL fun x1 => (c_ok rfl (c_opt h_any fun x2 => (t_seti2 rfl (c_ok rfl (t_setiK rfl (c_opt (h_stL (v := vD) (xs := reel0) (a := x2)) fun reel4 => (t_seq (t_seti (d0 := D.non) (c_op (c_cb (c_cons (c_op (c_op (c_op (c_ixO rfl (c_ok rfl (c_ix2 rfl (c_opt h_itL fun x5 => (c_ok rfl (c_opt h_any fun x6 => (c_op (c_op (c_ixO rfl (c_ok rfl (c_ix2 rfl (c_opt h_itL fun x7 => (c_op (c_ixO rfl (c_ok rfl (c_ix2 rfl (c_opt h_itL fun x8 => (c_cb (c_cons (c_ixO rfl (c_ok rfl (c_ix2 rfl (c_opt h_itL fun x9 => (c_ok rfl (c_opt h_lenD fun x10 => (c_opt h_icD fun x11 => (c_opt h_any fun x12 => (c_op (c_ixO rfl (c_ok rfl (c_ix2 rfl (c_opt h_itL fun x13 => (c_ok rfl (c_opt h_any fun x14 => (c_opt h_any fun x15 => (c_opt h_any fun x16 => (c_ok rfl (c_opt h_any fun x17 => (c_ok rfl (c_opt h_intD fun x18 => (c_ok rfl (c_tot (h_icR (show (0 : Int) < 1999271 from by decide)) (t_seti2 rfl (c_ok rfl (t_setiK rfl (c_opt (h_stL (v := vD) (xs := reel4) (a := (D.int (x18 % 1999271)))) fun reel20 => (t_ret (c_op (c_op (c_cb (c_cons (c_ixO rfl (c_ok rfl (c_ix2 rfl (c_opt h_itL fun x21 => (c_ok rfl (c_opt h_intD fun x22 => (c_ok rfl (c_tot (h_icR (c := CDiv) ⟨(show (0 : Int) < 23 from by decide), (show (23 : Int) < 1073741824 from by decide)⟩) (c_ok rfl (c_opt h_ic fun x23 => (t_rt ⟨rfl, rfl⟩))))))))))))))))))))))))))))))))))))))))))))))))))))))))))))))))))))))))))))))))))))
def n__law_long (word0 : Str) : Fr Int := (.rt ((tb_1.lookup word0).getD 0))
theorem q__law_long (word0 : Str) : SimF D.int (fun _ => []) (d__law_long [(D.str word0)]) (n__law_long word0) := simF_mk (by delta b__law_long; exact t_end (t_ret (c_ok (e_dgetS (v := D.int) tb_1 (e_disp rfl) rfl rfl rfl) (t_rt ⟨rfl, rfl⟩))))
def n__law_number (word0 : Str) : Fr (Option Int) := (O.bnd ((O.bnd (ofO (lenS word0)) fun x1 => (if (decide (9 < x1)) then (.rt true) else (O.bnd ((O.bnd (nLs (fun (y2 : Str) (s3 : Unit) => ((O.bnd (ofO (niD (D.str y2) (D.str ("0123456789" : Str)))) fun x4 => (if x4 then (.rt (y2, ())) else (.nx ()))) : O Unit Empty (Str × Unit))) (sgS word0) ()) fun (r5 : List Str × Unit) => (if (decide (0 < (r5.1.length : Int))) then (.rt true) else (O.bnd ((if (decide (word0 = ("" : Str))) then (.rt true) else (O.bnd ((O.bnd (ofO (gIx (D.str word0) (D.int 0))) fun x6 => (O.bnd (ofO (eqD x6 (D.str ("0" : Str)))) fun x7 => (if x7 then (.rt (!decide (word0 = ("0" : Str)))) else (.rt false)))) : Fr Bool) fun x8 => (.rt x8))) : Fr Bool) fun x9 => (.rt x9)))) : Fr Bool) fun x10 => (.rt x10)))) : Fr Bool) fun x11 => (if x11 then (.rt none) else (O.bnd (ofO (intS word0)) fun x12 => (.rt (some x12)))))
theorem q__law_number (word0 : Str) : SimF (oD D.int) (fun _ => []) (d__law_number [(D.str word0)]) (n__law_number word0) := simF_mk (by delta b__law_number; exact t_end (t_seq (t_if (c_blkT (w := (fun _ => [some (D.str word0), none])) (c_bor (c_tval (c_op (c_cb (c_ok rfl (c_opt h_lenS fun x1 => (c_ok rfl (c_tot rfl (c_bB (c_ite (c_rt rfl rfl) (c_blkT (w := (fun _ => [some (D.str word0), none])) (c_bor (c_tval (c_op (c_cb (c_cons (c_lcK (c_iS (c_ok rfl (c_tot h_sg (c_lc (E1 := (fun (s3 : Unit) (ρ : DL.Env) => ρ = [some (D.str word0), none])) (v := D.str) (w := D.str) (xs := (sgS word0)) (s := ()) rfl (fun y2 s3 ρ h => by subst h; exact (t_asgK rfl (c_tval (c_op (c_ok rfl (c_ok rfl (c_opt h_niD fun x4 => (c_bB (c_ite (c_ok rfl (t_rt ⟨rfl, rfl⟩)) (t_nx rfl)))))))))) fun r5 ρ h => by subst h; exact (c_ok rfl (c_tot h_lenL (c_ok rfl (c_tot rfl (c_bB (c_ite (c_rt rfl rfl) (c_blkT (w := (fun _ => [some (D.str word0), none])) (c_bor (c_ok (e_tval rfl) (c_ite (c_rt rfl rfl) (c_blkT (w := (fun _ => [some (D.str word0), none])) (c_band (c_tval (c_op (c_op (c_ok rfl (c_ok rfl (c_opt h_any fun x6 => (c_ok rfl (c_opt h_eqD fun x7 => (c_bB (c_ite (c_ok (e_tval rfl) (c_rt rfl rfl)) (c_rt rfl rfl)))))))))))) fun x8 => (c_rt rfl rfl))))) fun x9 => (c_rt rfl rfl)))))))))))))))))) fun x10 => (c_rt rfl rfl)))))))))))) fun x11 => (c_ite (t_ret (c_ok rfl (t_rt ⟨rfl, rfl⟩))) (t_pass (t_ret (c_cb (c_ok rfl (c_opt h_intS fun x12 => (t_rt ⟨rfl, rfl⟩)))))))))))
def n__law_read (text0 : Str) : Fr D := (O.bnd ((O.bnd (ofO (splitS text0 ("\n" : Str))) fun x1 => (.rt x1)) : Fr (List Str)) fun x2 => (O.seq (O.bnd (ofO (atI x2 (-1))) fun x4 => (if (decide (x4 = ("" : Str))) then (O.bnd (ofO (popL x2)) fun lines5 => (.nx lines5.2)) else (.nx x2))) fun (s3 : (List Str)) => (O.bnd (ofO (rg1 (s3.length : Int))) fun x6 => (O.seq (nFor (fun (y8 : Int) (s7 : ((Option Int) × (List D))) => (O.bnd (ofO (atI s3 y8)) fun x9 => (O.bnd (ofO (splitS x9 (" " : Str))) fun x10 => (O.bnd (ofO (sized (List.map (fun (y11 : Str) => y11) (List.filter (fun (y11 : Str) => (!decide (y11 = ("" : Str)))) x10)))) fun x12 => (O.bnd ((if (decide ((x12.length : Int) = 0)) then (.rt true) else (O.bnd (ofO (atI x12 0)) fun x13 => (O.bnd (ofO (gIx (D.str x13) (D.int 0))) fun x14 => (O.bnd (ofO (eqD x14 (D.str ("#" : Str)))) fun x15 => (.rt x15))))) : Fr Bool) fun x16 => (if x16 then (.ct (s7.1, s7.2)) else (if s7.1.isNone then (O.bnd ((if (!decide ((x12.length : Int) = 2)) then (.rt true) else (O.bnd ((O.bnd (ofO (atI x12 0)) fun x17 => (if (!decide (x17 = ("code" : Str))) then (.rt true) else (O.bnd (ofO (atI x12 1)) fun x18 => (O.bnd (n__law_number x18) fun x19 => (.rt x19.isNone))))) : Fr Bool) fun x20 => (.rt x20))) : Fr Bool) fun x21 => (if x21 then (.rt (D.tup [(D.str ("bad" : Str)), (D.int (y8 + 1)), (D.str ("code" : Str))])) else (O.bnd (ofO (atI x12 1)) fun x22 => (O.bnd (n__law_number x22) fun x23 => (.ct (x23, s7.2)))))) else (O.bnd (ofO (atI x12 0)) fun x24 => (O.bnd (n__law_long x24) fun x25 => (if (decide (x25 = 0)) then (.rt (D.tup [(D.str ("bad" : Str)), (D.int (y8 + 1)), (D.str ("kind" : Str))])) else (if (!decide ((x12.length : Int) = x25)) then (.rt (D.tup [(D.str ("bad" : Str)), (D.int (y8 + 1)), (D.str ("words" : Str))])) else (O.bnd (nLs (fun (y26 : Str) (s27 : Unit) => ((O.bnd (n__law_number y26) fun x28 => (.rt (x28, ()))) : O Unit Empty ((Option Int) × Unit))) (cutD x12 (some 1) none) ()) fun (r29 : List (Option Int) × Unit) => (O.seq (O.bnd ((O.bnd (ofO (atI x12 0)) fun x31 => (if (decide (x31 = ("cut" : Str))) then (O.bnd (ofO (atI x12 2)) fun x32 => (.rt (decide (x32 ∈ [("-1" : Str), ("-2" : Str)])))) else (.rt false))) : Fr Bool) fun x33 => (if x33 then (O.bnd (ofO (atI x12 2)) fun x34 => (O.bnd (ofO (intS x34)) fun x35 => (O.bnd (ofO (setAt r29.1 1 (some x35))) fun numbers37 => (.nx numbers37)))) else (.nx r29.1))) fun (s30 : (List (Option Int))) => (O.bnd (noX ((O.bnd (ofO (inD D.non ((vL (oD D.int)) s30))) fun x38 => (.rt x38)) : Fr Bool)) fun x39 => (if x39 then (.rt (D.tup [(D.str ("bad" : Str)), (D.int (y8 + 1)), (D.str ("number" : Str))])) else (O.bnd (ofO (atI x12 0)) fun x40 => (O.bnd (ofO (gAdd (D.tup [(D.str x40)]) ((vT (oD D.int)) s30))) fun x41 => (O.bnd (ofO (push (α := D) s7.2 x41)) fun rows43 => (.nx (s7.1, rows43)))))))))))))))))))) x6 (none, [])) fun (s44 : ((Option Int) × (List D))) => (.rt (if s44.1.isSome then (D.tup [(D.str ("told" : Str)), (D.tup [((oD D.int) s44.1), ((vT vD) s44.2)])]) else (D.tup [(D.str ("bad" : Str)), (D.int ((s3.length : Int) + 1)), (D.str ("code" : Str))])))))))
theorem q__law_read (text0 : Str) : SimF vD (fun _ => []) (d__law_read [(D.str text0)]) (n__law_read text0) := simF_mk (by delta b__law_read; exact t_end (t_seq (t_set (c_blk (v := (vL D.str)) (w := (fun _ => [some (D.str text0), none, none, none, none, none, none, none, none])) (c_m1 (c_ok rfl (c_m1S (c_ok rfl (c_opt h_split fun x1 => (c_rt rfl rfl)))))) fun x2 => (t_seq (t_cut (E1 := (fun (s3 : (List Str)) (ρ : DL.Env) => ρ = [some (D.str text0), some ((vL D.str) s3), none, none, none, none, none, none, none])) (t_end (t_if (c_tval (c_op (c_ixO rfl (c_ok rfl (c_ix2 rfl (c_opt h_itL fun x4 => (c_ok rfl (c_tot rfl (c_bB (c_ite (t_drop (c_mtO rfl (c_ok rfl (c_mt2 rfl (h_pop (v := D.str) (xs := x2)) fun lines5 => (t_nx rfl))))) (t_pass (t_nx rfl)))))))))))))) (fun s3 ρ h => by subst h; exact (t_seq (t_par (c_ok (e_cons rfl (e_cons (e_lst rfl (Nat.le_of_ble_eq_true rfl)) rfl)) (t_parK (t_seq (t_forK (c_iR1 (c_ok (e_cons (e_cb rfl h_lenL) rfl) (c_opt h_r1 fun x6 => (t_loop (E1 := (fun (s7 : ((Option Int) × (List D))) (ρ : DL.Env) => ∃ u4 u5 u6 u7 : Option D, ρ = [some (D.str text0), some ((vL D.str) s3), some ((oD D.int) s7.1), some ((vL vD) s7.2), u4, u5, u6, u7, none])) (v := D.int) (xs := x6) (s := (none, [])) ⟨_, _, _, _, rfl⟩ (fun y8 s7 ρ h => by obtain ⟨u4, u5, u6, u7, rfl⟩ := h; exact (t_asgK rfl (t_end (t_seq (t_set (c_lcK (c_iA (c_m1 (c_op (c_ok rfl (c_ok rfl (c_opt h_ixL fun x9 => (c_m1S (c_ok rfl (c_opt h_split fun x10 => (c_tot (x := List.map D.str x10) rfl (c_lcP (v := D.str) (w := D.str) (t := fun (y11 : Str) => (!decide (y11 = ("" : Str)))) (F := fun (y11 : Str) => y11) (xs := x10) (fun y11 => ⟨_, rfl, (e_tval rfl), rfl, rfl⟩) fun x12 => (t_seq (t_if (c_blkT (w := (fun _ => [some (D.str text0), some ((vL D.str) s3), some ((oD D.int) s7.1), some ((vL vD) s7.2), some (D.int y8), some ((vL D.str) x12), u6, u7, none])) (c_bor (c_ok (e_tval (e_op (e_cb rfl h_lenL) rfl rfl)) (c_ite (c_rt rfl rfl) (c_tval (c_op (c_op (c_op (c_ok rfl (c_ok rfl (c_opt h_ixL fun x13 => (c_ok rfl (c_opt h_any fun x14 => (c_ok rfl (c_opt h_eqD fun x15 => (c_bB (c_rt rfl rfl)))))))))))))))) fun x16 => (c_ite (t_ct ⟨_, _, _, _, rfl⟩) (t_pass (t_seq (t_if (c_ok (e_tval (e_op rfl rfl (h_isnO rfl (fun _ => rfl)))) (c_ite (t_seq (t_if (c_blkT (w := (fun _ => [some (D.str text0), some ((vL D.str) s3), some ((oD D.int) s7.1), some ((vL vD) s7.2), some (D.int y8), some ((vL D.str) x12), u6, u7, none])) (c_bor (c_ok (e_tval (e_op (e_cb rfl h_lenL) rfl rfl)) (c_ite (c_rt rfl rfl) (c_blkT (w := (fun _ => [some (D.str text0), some ((vL D.str) s3), some ((oD D.int) s7.1), some ((vL vD) s7.2), some (D.int y8), some ((vL D.str) x12), u6, u7, none])) (c_bor (c_tval (c_op (c_op (c_ok rfl (c_ok rfl (c_opt h_ixL fun x17 => (c_ok rfl (c_tot rfl (c_bB (c_ite (c_rt rfl rfl) (c_tval (c_op (c_callM (c_cons (c_op (c_ok rfl (c_ok rfl (c_opt h_ixL fun x18 => (c_ok rfl (c_fret rfl (q__law_number x18) trivial fun x19 => (c_ok rfl (c_tot (h_isnO rfl (fun _ => rfl)) (c_bB (c_rt rfl rfl))))))))))))))))))))))))) fun x20 => (c_rt rfl rfl))))) fun x21 => (c_ite (t_ret (c_ok (e_tup rfl (Nat.le_of_ble_eq_true rfl)) (t_rt ⟨rfl, rfl⟩))) (t_pass (t_seq (t_set (c_callM (c_cons (c_op (c_ok rfl (c_ok rfl (c_opt h_ixL fun x22 => (c_ok rfl (c_fret rfl (q__law_number x22) trivial fun x23 => (t_ct ⟨_, _, _, _, rfl⟩)))))))))))))))) (t_pass (t_seq (t_set (c_callM (c_cons (c_op (c_ok rfl (c_ok rfl (c_opt h_ixL fun x24 => (c_ok rfl (c_fret rfl (q__law_long x24) trivial fun x25 => (t_seq (t_if (c_ok (e_tval rfl) (c_ite (t_ret (c_ok (e_tup rfl (Nat.le_of_ble_eq_true rfl)) (t_rt ⟨rfl, rfl⟩))) (t_pass (t_seq (t_if (c_ok (e_tval (e_op (e_cb rfl h_lenL) rfl rfl)) (c_ite (t_ret (c_ok (e_tup rfl (Nat.le_of_ble_eq_true rfl)) (t_rt ⟨rfl, rfl⟩))) (t_pass (t_seq (t_set (c_lcK (c_iA (c_ok (e_sl rfl (e_pso rfl) rfl h_slL) (c_tot (x := List.map D.str (cutD x12 (some 1) none)) rfl (c_lc (E1 := (fun (s27 : Unit) (ρ : DL.Env) => ρ = [some (D.str text0), some ((vL D.str) s3), some ((oD D.int) s7.1), some ((vL vD) s7.2), some (D.int y8), some ((vL D.str) x12), some (D.int x25), u7, none])) (v := D.str) (w := (oD D.int)) (xs := (cutD x12 (some 1) none)) (s := ()) rfl (fun y26 s27 ρ h => by subst h; exact (t_asgK rfl (c_ok (x := true) rfl (c_callM (c_ok rfl (c_fret rfl (q__law_number y26) trivial fun x28 => (t_rt ⟨rfl, rfl⟩))))))) fun r29 ρ h => by subst h; exact (t_seq (t_cut (E1 := (fun (s30 : (List (Option Int))) (ρ : DL.Env) => ρ = [some (D.str text0), some ((vL D.str) s3), some ((oD D.int) s7.1), some ((vL vD) s7.2), some (D.int y8), some ((vL D.str) x12), some (D.int x25), some ((vL (oD D.int)) s30), none])) (t_end (t_if (c_blkT (w := (fun _ => [some (D.str text0), some ((vL D.str) s3), some ((oD D.int) s7.1), some ((vL vD) s7.2), some (D.int y8), some ((vL D.str) x12), some (D.int x25), some ((vL (oD D.int)) r29.1), none])) (c_band (c_tval (c_op (c_op (c_ok rfl (c_ok rfl (c_opt h_ixL fun x31 => (c_ok rfl (c_tot rfl (c_bB (c_ite (c_tval (c_op (c_op (c_ok rfl (c_ok rfl (c_opt h_ixL fun x32 => (c_ok (e_tup rfl (Nat.le_of_ble_eq_true rfl)) (c_tot (h_inTS (xs := [("-1" : Str), ("-2" : Str)])) (c_bB (c_rt rfl rfl)))))))))) (c_rt rfl rfl)))))))))))) fun x33 => (c_ite (t_seti (d0 := D.non) (c_cb (c_cons (c_op (c_ok rfl (c_ok rfl (c_opt h_ixL fun x34 => (c_ok rfl (c_opt h_intS fun x35 => (t_seti2 rfl (c_ok rfl (t_setiK rfl (c_opt (h_stL (v := (oD D.int)) (xs := r29.1) (a := (some x35))) fun numbers37 => (t_nx rfl)))))))))))))) (t_pass (t_nx rfl)))))) (fun s30 ρ h => by subst h; exact (t_seq (t_if (c_viewT (c_tval (c_op (c_ok rfl (c_ok rfl (c_opt h_inD fun x38 => (c_bB (c_rtv (v := D.bl) rfl))))))) trivial fun x39 => (c_ite (t_ret (c_ok (e_tup rfl (Nat.le_of_ble_eq_true rfl)) (t_rt ⟨rfl, rfl⟩))) (t_pass (t_drop (c_mtO rfl (c_cons (c_op (c_tup (c_cons (c_op (c_ok rfl (c_ok rfl (c_opt h_ixL fun x40 => (c_ok rfl (c_size (Nat.le_of_ble_eq_true rfl) (c_ok rfl (c_opt h_any fun x41 => (c_ok rfl (c_mt2 rfl (h_app (v := vD) (xs := s7.2) (a := x41)) fun rows43 => (t_nx ⟨_, _, _, _, rfl⟩))))))))))))))))))))))))))))))))))))))))))))))))))))))))))))))))))))))))))))))) (fun s44 ρ h => by obtain ⟨u4, u5, u6, u7, rfl⟩ := h; exact (t_ret (c_ok (e_if (v := vD) (x := (D.tup [(D.str ("told" : Str)), (D.tup [((oD D.int) s44.1), ((vT vD) s44.2)])])) (y := (D.tup [(D.str ("bad" : Str)), (D.int ((s3.length : Int) + 1)), (D.str ("code" : Str))])) (e_tval (e_op rfl rfl (h_notO rfl (fun _ => rfl)))) (e_tup (e_cons rfl (e_cons (e_tup rfl (Nat.le_of_ble_eq_true rfl)) rfl)) (Nat.le_of_ble_eq_true rfl)) (e_tup (e_cons rfl (e_cons (e_op (e_cb rfl h_lenL) rfl rfl) rfl)) (Nat.le_of_ble_eq_true rfl))) (t_rt ⟨rfl, rfl⟩)))))))))))))))))))))
def n__law_heard (text0 : Str) : Fr D := (O.seq (tryN (O.bnd (n_read_code text0) fun x2 => (.rt (D.tup [(D.str ("told" : Str)), ((vP2 D.int (vT vD)) x2)]))) [(5, true)] (fun e => noXO (O.bnd ((O.bnd ((O.bnd (ofO (([(5, true)] : List (Nat × Bool)).lookup e.c)) fun x3 => (if x3 then (O.bnd (ofO (([(5, true)] : List (Nat × Bool)).lookup e.c)) fun x4 => (.rt x4)) else (.rt false))) : Fr Bool) fun x5 => (if x5 then (O.bnd (ofO (whyN e 5 "line")) fun x6 => (O.bnd (ofO (whyN e 5 "word")) fun x7 => (.rt (D.tup [(D.str ("bad" : Str)), x6, x7])))) else (.rt (D.tup [(D.str ("other" : Str))])))) : Fr D) fun x8 => (.rt x8)))) fun (s : Empty) => s.elim)
theorem q__law_heard (text0 : Str) : SimF vD (fun _ => []) (d__law_heard [(D.str text0)]) (n__law_heard text0) := simF_mk (by delta b__law_heard; exact t_end (t_cut (τ := Empty) (E1 := (fun (s : Empty) _ => s.elim)) (t_tryAs (EX1 := (fun (ρ : DL.Env) => ρ = [some (D.str text0), none])) (t_end (t_ret (c_tup (c_cons (c_ok rfl (c_cons (c_callM (c_ok rfl (c_fret rfl (q_read_code text0) rfl fun x2 => (c_ok rfl (c_size (Nat.le_of_ble_eq_true rfl) (t_rt ⟨rfl, rfl⟩)))))))))))) (fun _ _ => trivial) (fun e ρ h => by subst h; exact t_wipe (EX0 := fun _ => True) (t_end (t_ret (c_blk (v := vD) (w := (fun _ => [some (D.str text0), none])) (c_if (c_blkT (w := (fun _ => [some (D.str text0), none])) (c_band (c_tval (c_isx fun x3 => (c_bB (c_ite (c_tval (c_isx fun x4 => (c_bB (c_rt rfl rfl)))) (c_rt rfl rfl)))))) fun x5 => (c_ite (c_tup (c_cons (c_ok rfl (c_cons (c_why fun x6 => (c_cons (c_why fun x7 => (c_ok rfl (c_size (Nat.le_of_ble_eq_true rfl) (c_rt rfl rfl)))))))))) (c_ok (e_tup rfl (Nat.le_of_ble_eq_true rfl)) (c_rt rfl rfl))))) fun x8 => (t_rt ⟨rfl, rfl⟩)))))) (fun s _ _ => s.elim)))
def n__law_code (reel0 : (List D)) : Fr ((Int × (List D)) × (List D)) := (O.bnd (n__law_spin reel0 7) fun x1 => (O.bnd (ofO (rg1 x1.1)) fun x2 => (O.seq (nFor (fun (y4 : Int) (s3 : ((List D) × (List D))) => (O.bnd ((O.bnd (n__law_spin s3.1 9) fun x5 => (O.bnd (ofO (atI [("turn" : Str), ("cut" : Str), ("put" : Str), ("copy" : Str), ("keep" : Str), ("empty" : Str), ("swap" : Str), ("set" : Str), ("less" : Str)] x5.1)) fun x6 => (.rt (x6, x5.2)))) : Fr (Str × (List D))) fun x7 => (O.bnd (n__law_long x7.1) fun x8 => (O.bnd (ofO (rg1 (x8 - 1))) fun x9 => (O.bnd (nLs (fun (y10 : Int) (s11 : ((List D))) => ((O.bnd (n__law_spin s11 7) fun x12 => (O.bnd (ofO (atI [0, 1, 2, 9, 99, 400, 999999999] x12.1)) fun x13 => (.rt (x13, x12.2)))) : O ((List D)) Empty (Int × ((List D))))) x9 x7.2) fun (r14 : List Int × ((List D))) => (O.seq (if (decide (x7.1 = ("cut" : Str))) then (O.bnd (n__law_spin r14.2 5) fun x16 => (O.bnd (ofO (atI ([(-1), (-2), 0, 9, 12] : List Int) x16.1)) fun x17 => (O.bnd (ofO (setAt r14.1 1 x17)) fun numbers19 => (.nx (x16.2, numbers19))))) else (.nx (r14.2, r14.1))) fun (s15 : ((List D) × (List Int))) => (O.bnd (ofO (gAdd (D.tup [(D.str x7.1)]) ((vT D.int) s15.2))) fun x20 => (O.bnd (ofO (push (α := D) s3.2 x20)) fun rows22 => (.nx (s15.1, rows22)))))))))) x2 (x1.2, [])) fun (s23 : ((List D) × (List D))) => (O.bnd (n__law_spin s23.1 5) fun x24 => (O.bnd (ofO (atI ([1, 4, 0, 7, 123456789] : List Int) x24.1)) fun x25 => (.rt ((x25, s23.2), x24.2)))))))
theorem q__law_code (reel0 : (List D)) : SimF (fun p : ((Int × (List D)) × (List D)) => (vP2 D.int (vT vD)) p.1) (fun p : ((Int × (List D)) × (List D)) => [some ((vL vD) p.2)]) (d__law_code [((vL vD) reel0)]) (n__law_code reel0) := simF_mk (by delta b__law_code; exact t_end (t_seq (t_set (c_ok (e_lst rfl (Nat.le_of_ble_eq_true rfl)) (t_seq (t_forK (c_iR1 (c_cons (c_callO rfl (c_ok rfl (c_fretO rfl rfl (q__law_spin reel0 7) (fun _ => trivial) fun x1 => (c_ok rfl (c_opt h_r1 fun x2 => (t_loop (E1 := (fun (s3 : ((List D) × (List D))) (ρ : DL.Env) => ∃ u2 u3 u4 : Option D, ρ = [some ((vL vD) s3.1), some ((vL vD) s3.2), u2, u3, u4, none])) (v := D.int) (xs := x2) (s := (x1.2, [])) ⟨_, _, _, rfl⟩ (fun y4 s3 ρ h => by obtain ⟨u2, u3, u4, rfl⟩ := h; exact (t_asgK rfl (t_end (t_seq (t_set (c_blk (v := (fun x : (Str × (List D)) => D.str x.1)) (w := (fun x : (Str × (List D)) => [some ((vL vD) x.2), some ((vL vD) s3.2), some (D.int y4), u3, u4, none])) (c_op (c_ok (e_tup rfl (Nat.le_of_ble_eq_true rfl)) (c_callO rfl (c_ok rfl (c_fretO rfl rfl (q__law_spin s3.1 9) (fun _ => trivial) fun x5 => (c_opt (h_ixT (v := D.str) (xs := [("turn" : Str), ("cut" : Str), ("put" : Str), ("copy" : Str), ("keep" : Str), ("empty" : Str), ("swap" : Str), ("set" : Str), ("less" : Str)])) fun x6 => (c_rt rfl rfl))))))) fun x7 => (t_seq (t_set (c_lcK (c_iR1 (c_cons (c_op (c_callM (c_ok rfl (c_fret rfl (q__law_long x7.1) trivial fun x8 => (c_ok rfl (c_tot rfl (c_ok rfl (c_opt h_r1 fun x9 => (c_lc (E1 := (fun (s11 : ((List D))) (ρ : DL.Env) => ρ = [some ((vL vD) s11), some ((vL vD) s3.2), some (D.int y4), some (D.str x7.1), u4, none])) (v := D.int) (w := D.int) (xs := x9) (s := x7.2) rfl (fun y10 s11 ρ h => by subst h; exact (t_asgK rfl (c_ok (x := true) rfl (c_op (c_ok (e_tup rfl (Nat.le_of_ble_eq_true rfl)) (c_callO rfl (c_ok rfl (c_fretO rfl rfl (q__law_spin s11 7) (fun _ => trivial) fun x12 => (c_opt (h_ixT (v := D.int) (xs := [0, 1, 2, 9, 99, 400, 999999999])) fun x13 => (t_rt ⟨rfl, rfl⟩)))))))))) fun r14 ρ h => by subst h; exact (t_seq (t_cut (E1 := (fun (s15 : ((List D) × (List Int))) (ρ : DL.Env) => ρ = [some ((vL vD) s15.1), some ((vL vD) s3.2), some (D.int y4), some (D.str x7.1), some ((vL D.int) s15.2), none])) (t_end (t_if (c_ok (e_tval rfl) (c_ite (t_seti (d0 := D.non) (c_op (c_ok (e_tup rfl (Nat.le_of_ble_eq_true rfl)) (c_callO rfl (c_ok rfl (c_fretO rfl rfl (q__law_spin r14.2 5) (fun _ => trivial) fun x16 => (c_opt (h_ixT (v := D.int) (xs := [(-1), (-2), 0, 9, 12])) fun x17 => (t_seti2 rfl (c_ok rfl (t_setiK rfl (c_opt (h_stL (v := D.int) (xs := r14.1) (a := x17)) fun numbers19 => (t_nx rfl)))))))))))) (t_pass (t_nx rfl)))))) (fun s15 ρ h => by subst h; exact (t_drop (c_mtO rfl (c_cons (c_op (c_ok (e_tup rfl (Nat.le_of_ble_eq_true rfl)) (c_ok rfl (c_opt h_any fun x20 => (c_ok rfl (c_mt2 rfl (h_app (v := vD) (xs := s3.2) (a := x20)) fun rows22 => (t_nx ⟨_, _, _, rfl⟩))))))))))))))))))))))))))))))))) (fun s23 ρ h => by obtain ⟨u2, u3, u4, rfl⟩ := h; exact (t_ret (c_tup (c_cons (c_op (c_ok (e_tup rfl (Nat.le_of_ble_eq_true rfl)) (c_callO rfl (c_ok rfl (c_fretO rfl rfl (q__law_spin s23.1 5) (fun _ => trivial) fun x24 => (c_opt (h_ixT (v := D.int) (xs := [1, 4, 0, 7, 123456789])) fun x25 => (c_ok rfl (c_size (Nat.le_of_ble_eq_true rfl) (t_rt ⟨rfl, rfl⟩)))))))))))))))))))))))))))
def n__law_lines (code0 : (Int × (List D))) : Fr (List (List Str)) := (O.bnd (ofO (strI code0.1)) fun x1 => (O.bnd (nLs (fun (y2 : D) (s3 : Unit) => ((O.bnd (ofO (gIx y2 (D.int 0))) fun x4 => (O.bnd (ofO (asS x4)) fun c5 => (O.bnd (ofO (gSl y2 (some 1) none)) fun x6 => (O.bnd (ofO (asLs x6)) fun x7 => (O.bnd (nLs (fun (y8 : D) (s9 : Unit) => ((O.bnd (ofO (strD y8)) fun x10 => (.rt (x10, ()))) : O Unit Empty (Str × Unit))) x7 ()) fun (r11 : List Str × Unit) => (O.bnd (ofO (cat (α := Str) [c5] r11.1)) fun x12 => (.rt (x12, ())))))))) : O Unit Empty ((List Str) × Unit))) code0.2 ()) fun (r13 : List (List Str) × Unit) => (O.bnd (ofO (cat (α := (List Str)) [[("code" : Str), x1]] r13.1)) fun x14 => (.rt x14))))
theorem q__law_lines (code0 : (Int × (List D))) : SimF (vL (vL D.str)) (fun _ => []) (d__law_lines [((vP2 D.int (vT vD)) code0)]) (n__law_lines code0) := simF_mk (by delta b__law_lines; exact t_end (t_ret (c_op (c_lst (c_cons (c_lst (c_cons (c_ok rfl (c_cons (c_cb (c_ok rfl (c_opt h_strI fun x1 => (c_ok rfl (c_size (Nat.le_of_ble_eq_true rfl) (c_ok rfl (c_size (Nat.le_of_ble_eq_true rfl) (c_lcK (c_iA (c_ok rfl (c_tot (x := List.map vD code0.2) rfl (c_lc (E1 := (fun (s3 : Unit) (ρ : DL.Env) => ρ = [some ((vP2 D.int (vT vD)) code0), none, none])) (v := vD) (w := (vL D.str)) (xs := code0.2) (s := ()) rfl (fun y2 s3 ρ h => by subst h; exact (t_asgK rfl (c_ok (x := true) rfl (c_op (c_lst (c_cons (c_op (c_ok rfl (c_ok rfl (c_opt h_any fun x4 => (by cases hc5 : asS x4 with | none => exact c_stk | some c5 => (rw [asS_eq hc5]; exact c_red (c_ok rfl (c_size (Nat.le_of_ble_eq_true rfl) (c_lcK (c_iA (c_sl (c_ok rfl (c_ok (e_pso rfl) (c_pno (c_opt h_any fun x6 => (c_opt h_anyL fun x7 => (c_lc (E1 := (fun (s9 : Unit) (ρ : DL.Env) => ρ = [some ((vP2 D.int (vT vD)) code0), some y2, none])) (v := vD) (w := D.str) (xs := x7) (s := ()) rfl (fun y8 s9 ρ h => by subst h; exact (t_asgK rfl (c_ok (x := true) rfl (c_cb (c_ok rfl (c_opt h_strD fun x10 => (t_rt ⟨rfl, rfl⟩))))))) fun r11 ρ h => by subst h; exact (c_opt (h_catL (v := D.str) (xs := [c5]) (ys := r11.1)) fun x12 => (t_rt ⟨rfl, rfl⟩))))))))))))))))))))))))) fun r13 ρ h => by subst h; exact (c_opt (h_catL (v := (vL D.str)) (xs := [[("code" : Str), x1]]) (ys := r13.1)) fun x14 => (t_rt ⟨rfl, rfl⟩)))))))))))))))))))))))
def n__law_loose (reel0 : (List D)) (lines0 : (List (List Str))) : Fr (Str × (List D)) := (O.seq (nFor (fun (y2 : (List Str)) (s1 : ((List D) × Str)) => (O.seq (O.bnd (n__law_spin s1.1 4) fun x4 => (if (decide (x4.1 = 0)) then (O.bnd ((O.bnd (n__law_spin x4.2 5) fun x5 => (O.bnd (ofO (atI ([("\n" : Str), ("   \n" : Str), ("# code 2\n" : Str), ("#turn\n" : Str), ("  #\n" : Str)] : List Str) x5.1)) fun x6 => (O.bnd (ofO (catS s1.2 x6)) fun x7 => (.rt (x7, x5.2))))) : Fr (Str × (List D))) fun x8 => (.nx (x8.2, x8.1))) else (.nx (x4.2, s1.2)))) fun (s3 : ((List D) × Str)) => (O.bnd ((O.bnd (n__law_spin s3.1 2) fun x9 => (O.bnd (ofO (repSt (" " : Str) x9.1)) fun x10 => (O.bnd (ofO (catS s3.2 x10)) fun x11 => (O.bnd (n__law_spin x9.2 2) fun x12 => (O.bnd (ofO (atI ([(" " : Str), ("  " : Str)] : List Str) x12.1)) fun x13 => (O.bnd (ofO (joinS x13 y2)) fun x14 => (O.bnd (ofO (catS x11 x14)) fun x15 => (O.bnd (n__law_spin x12.2 2) fun x16 => (O.bnd (ofO (repSt (" " : Str) x16.1)) fun x17 => (O.bnd (ofO (catS x15 x17)) fun x18 => (O.bnd (ofO (catS x18 ("\n" : Str))) fun x19 => (.rt (x19, x16.2))))))))))))) : Fr (Str × (List D))) fun x20 => (.nx (x20.2, x20.1))))) lines0 (reel0, ("" : Str))) fun (s21 : ((List D) × Str)) => (O.bnd (ofO (slS s21.2 none (some (-1)))) fun x22 => (O.bnd (ofO (catS s21.2 ("\n" : Str))) fun x23 => (O.bnd (ofO (catS s21.2 ("#" : Str))) fun x24 => (O.bnd (n__law_spin s21.1 4) fun x25 => (O.bnd (ofO (atI ([s21.2, x22, x23, x24] : List Str) x25.1)) fun x26 => (.rt (x26, x25.2))))))))
theorem q__law_loose (reel0 : (List D)) (lines0 : (List (List Str))) : SimF (fun p : (Str × (List D)) => D.str p.1) (fun p : (Str × (List D)) => [some ((vL vD) p.2)]) (d__law_loose [((vL vD) reel0), ((vL (vL D.str)) lines0)]) (n__law_loose reel0 lines0) := simF_mk (by delta b__law_loose; exact t_end (t_seq (t_set (c_ok rfl (t_seq (t_forK (c_iA (c_ok rfl (c_tot (x := List.map (vL D.str) lines0) rfl (t_loop (E1 := (fun (s1 : ((List D) × Str)) (ρ : DL.Env) => ∃ u3 : Option D, ρ = [some ((vL vD) s1.1), some ((vL (vL D.str)) lines0), some (D.str s1.2), u3])) (v := (vL D.str)) (xs := lines0) (s := (reel0, ("" : Str))) ⟨_, rfl⟩ (fun y2 s1 ρ h => by obtain ⟨u3, rfl⟩ := h; exact (t_asgK rfl (t_end (t_seq (t_cut (E1 := (fun (s3 : ((List D) × Str)) (ρ : DL.Env) => ρ = [some ((vL vD) s3.1), some ((vL (vL D.str)) lines0), some (D.str s3.2), some ((vL D.str) y2)])) (t_end (t_if (c_tval (c_op (c_callO rfl (c_ok rfl (c_fretO rfl rfl (q__law_spin s1.1 4) (fun _ => trivial) fun x4 => (c_ok rfl (c_tot rfl (c_bB (c_ite (t_set (c_blk (v := (fun x : (Str × (List D)) => D.str x.1)) (w := (fun x : (Str × (List D)) => [some ((vL vD) x.2), some ((vL (vL D.str)) lines0), some (D.str s1.2), some ((vL D.str) y2)])) (c_op (c_ok rfl (c_op (c_ok (e_tup rfl (Nat.le_of_ble_eq_true rfl)) (c_callO rfl (c_ok rfl (c_fretO rfl rfl (q__law_spin x4.2 5) (fun _ => trivial) fun x5 => (c_opt (h_ixT (v := D.str) (xs := [("\n" : Str), ("   \n" : Str), ("# code 2\n" : Str), ("#turn\n" : Str), ("  #\n" : Str)])) fun x6 => (c_opt h_catS fun x7 => (c_rt rfl rfl)))))))))) fun x8 => (t_nx rfl))) (t_pass (t_nx rfl))))))))))))) (fun s3 ρ h => by subst h; exact (t_set (c_blk (v := (fun x : (Str × (List D)) => D.str x.1)) (w := (fun x : (Str × (List D)) => [some ((vL vD) x.2), some ((vL (vL D.str)) lines0), some (D.str s3.2), some ((vL D.str) y2)])) (c_op (c_op (c_op (c_op (c_ok rfl (c_op (c_ok rfl (c_callO rfl (c_ok rfl (c_fretO rfl rfl (q__law_spin s3.1 2) (fun _ => trivial) fun x9 => (c_opt h_repS fun x10 => (c_opt h_catS fun x11 => (c_m1 (c_op (c_ok (e_tup rfl (Nat.le_of_ble_eq_true rfl)) (c_callO rfl (c_ok rfl (c_fretO rfl rfl (q__law_spin x9.2 2) (fun _ => trivial) fun x12 => (c_opt (h_ixT (v := D.str) (xs := [(" " : Str), ("  " : Str)])) fun x13 => (c_m1S (c_ok rfl (c_opt h_joinL fun x14 => (c_opt h_catS fun x15 => (c_op (c_ok rfl (c_callO rfl (c_ok rfl (c_fretO rfl rfl (q__law_spin x12.2 2) (fun _ => trivial) fun x16 => (c_opt h_repS fun x17 => (c_opt h_catS fun x18 => (c_ok rfl (c_opt h_catS fun x19 => (c_rt rfl rfl))))))))))))))))))))))))))))))))) fun x20 => (t_nx ⟨_, rfl⟩))))))))) (fun s21 ρ h => by obtain ⟨u3, rfl⟩ := h; exact (t_ret (c_op (c_tup (c_cons (c_ok rfl (c_cons (c_sl (c_ok rfl (c_pno (c_ok (e_pso rfl) (c_opt h_slS fun x22 => (c_cons (c_op (c_ok rfl (c_ok rfl (c_opt h_catS fun x23 => (c_cons (c_op (c_ok rfl (c_ok rfl (c_opt h_catS fun x24 => (c_ok rfl (c_size (Nat.le_of_ble_eq_true rfl) (c_callO rfl (c_ok rfl (c_fretO rfl rfl (q__law_spin s21.1 4) (fun _ => trivial) fun x25 => (c_opt (h_ixT (v := D.str) (xs := [s21.2, x22, x23, x24])) fun x26 => (t_rt ⟨rfl, rfl⟩)))))))))))))))))))))))))))))))))))))))
def n__law_bent (reel0 : (List D)) (lines0 : (List (List Str))) : Fr ((List (List Str)) × (List D)) := (if (decide ((lines0.length : Int) = 0)) then (.rt ([[("turn" : Str)]], reel0)) else (O.bnd (n__law_spin reel0 (lines0.length : Int)) fun x1 => (O.bnd (n__law_spin x1.2 8) fun x2 => (O.bnd ((O.bnd (ofO (atI lines0 x1.1)) fun x3 => (.rt x3)) : Fr (List Str)) fun x4 => (O.bnd ((O.bnd (n__law_spin x2.2 16) fun x5 => (O.bnd (ofO (atI [("00" : Str), ("01" : Str), ("-1" : Str), ("-2" : Str), ("-3" : Str), ("+1" : Str), ("1234567890" : Str), ("half" : Str), ("first" : Str), ("turn" : Str), ("code" : Str), ("#" : Str), ("less" : Str), ("-0" : Str), ("x" : Str), ("0" : Str)] x5.1)) fun x6 => (.rt (x6, x5.2)))) : Fr (Str × (List D))) fun x7 => (O.bnd (n__law_spin x7.2 (x4.length : Int)) fun x8 => (O.seq (if (decide (x2.1 < 3)) then (O.bnd (ofO (setAt x4 x8.1 x7.1)) fun words11 => (.nx (x8.2, lines0, words11))) else (if (decide (x2.1 = 3)) then (O.bnd (ofO (insA (α := Str) x4 (x8.1 + 1) x7.1)) fun words12 => (.nx (x8.2, lines0, words12))) else (if ((decide (x2.1 = 4)) && (decide (1 < (x4.length : Int)))) then (O.bnd (ofO (popA x4 x8.1)) fun words13 => (.nx (x8.2, lines0, words13.2))) else (if (decide (x2.1 = 5)) then (O.bnd (ofO (cat (α := (List Str)) (cutD lines0 none (some x1.1)) (cutD lines0 (some (x1.1 + 1)) none))) fun x14 => (.rt (x14, x8.2))) else (if (decide (x2.1 = 6)) then (O.bnd (n__law_spin x8.2 (lines0.length : Int)) fun x15 => (O.bnd (ofO (atI lines0 x15.1)) fun x16 => (O.bnd (ofO (atI lines0 x1.1)) fun x17 => (O.bnd (ofO (setAt lines0 x15.1 x17)) fun rest19 => (.nx (x15.2, rest19, x16)))))) else (O.bnd (ofO (cat (α := (List Str)) (cutD lines0 none (some x1.1)) [[("set" : Str), x7.1, ("1" : Str)]])) fun x20 => (O.bnd (ofO (cat (α := (List Str)) x20 (cutD lines0 (some x1.1) none))) fun x21 => (.rt (x21, x8.2))))))))) fun (s9 : ((List D) × (List (List Str)) × (List Str))) => (O.bnd (ofO (cat (α := (List Str)) (cutD s9.2.1 none (some x1.1)) [s9.2.2])) fun x22 => (O.bnd (ofO (cat (α := (List Str)) x22 (cutD s9.2.1 (some (x1.1 + 1)) none))) fun x23 => (.rt (x23, s9.1)))))))))))
theorem q__law_bent (reel0 : (List D)) (lines0 : (List (List Str))) : SimF (fun p : ((List (List Str)) × (List D)) => (vL (vL D.str)) p.1) (fun p : ((List (List Str)) × (List D)) => [some ((vL vD) p.2)]) (d__law_bent [((vL vD) reel0), ((vL (vL D.str)) lines0)]) (n__law_bent reel0 lines0) := simF_mk (by delta b__law_bent; exact t_end (t_seq (t_if (c_ok (e_tval (e_op (e_cb rfl h_lenL) rfl rfl)) (c_ite (t_ret (c_ok (e_lst (e_cons (e_lst rfl (Nat.le_of_ble_eq_true rfl)) rfl) (Nat.le_of_ble_eq_true rfl)) (t_rt ⟨rfl, rfl⟩))) (t_pass (t_seq (t_par (c_cons (c_callO rfl (c_ok (e_cons (e_cb rfl h_lenL) rfl) (c_fretO rfl rfl (q__law_spin reel0 (lines0.length : Int)) (fun _ => trivial) fun x1 => (c_cons (c_callO rfl (c_ok rfl (c_fretO rfl rfl (q__law_spin x1.2 8) (fun _ => trivial) fun x2 => (c_ok rfl (t_parK (t_seq (t_set (c_blk (v := (vL D.str)) (w := (fun _ => [some ((vL vD) x2.2), some ((vL (vL D.str)) lines0), some (D.int x1.1), some (D.int x2.1), none, none, none, none, none])) (c_cb (c_cons (c_op (c_ok rfl (c_ok rfl (c_opt h_ixL fun x3 => (c_ok rfl (c_tot rfl (c_rt rfl rfl))))))))) fun x4 => (t_seq (t_set (c_blk (v := (fun x : (Str × (List D)) => D.str x.1)) (w := (fun x : (Str × (List D)) => [some ((vL vD) x.2), some ((vL (vL D.str)) lines0), some (D.int x1.1), some (D.int x2.1), some ((vL D.str) x4), none, none, none, none])) (c_op (c_ok (e_tup rfl (Nat.le_of_ble_eq_true rfl)) (c_callO rfl (c_ok rfl (c_fretO rfl rfl (q__law_spin x2.2 16) (fun _ => trivial) fun x5 => (c_opt (h_ixT (v := D.str) (xs := [("00" : Str), ("01" : Str), ("-1" : Str), ("-2" : Str), ("-3" : Str), ("+1" : Str), ("1234567890" : Str), ("half" : Str), ("first" : Str), ("turn" : Str), ("code" : Str), ("#" : Str), ("less" : Str), ("-0" : Str), ("x" : Str), ("0" : Str)])) fun x6 => (c_rt rfl rfl))))))) fun x7 => (t_seq (t_set (c_callO rfl (c_ok (e_cons (e_view (e_cb rfl h_lenL) rfl) rfl) (c_fretO rfl rfl (q__law_spin x7.2 (x4.length : Int)) (fun _ => trivial) fun x8 => (t_seq (t_cut (E1 := (fun (s9 : ((List D) × (List (List Str)) × (List Str))) (ρ : DL.Env) => ∃ u7 u8 : Option D, ρ = [some ((vL vD) s9.1), some ((vL (vL D.str)) s9.2.1), some (D.int x1.1), some (D.int x2.1), some ((vL D.str) s9.2.2), some (D.str x7.1), some (D.int x8.1), u7, u8])) (t_end (t_if (c_ok (e_tval rfl) (c_ite (t_seq (t_seti (d0 := D.non) (c_ok rfl (t_seti2 rfl (c_ok rfl (t_setiK rfl (c_opt (h_stL (v := D.str) (xs := x4) (a := x7.1)) fun words11 => (t_pass (t_nx ⟨_, _, rfl⟩))))))))) (t_if (c_ok (e_tval rfl) (c_ite (t_seq (t_drop (c_mtO rfl (c_ok rfl (c_mt2 rfl (h_ins (v := D.str) (xs := x4) (a := x7.1)) fun words12 => (t_pass (t_nx ⟨_, _, rfl⟩))))))) (t_if (c_ok (e_band (e_tval rfl) (e_tval (e_op (e_view (e_cb rfl h_lenL) rfl) rfl rfl))) (c_ite (t_seq (t_drop (c_mtO rfl (c_ok rfl (c_mt2 rfl (h_popA (v := D.str) (xs := x4)) fun words13 => (t_pass (t_nx ⟨_, _, rfl⟩))))))) (t_if (c_ok (e_tval rfl) (c_ite (t_ret (c_op (c_ok (e_sl rfl rfl (e_pso rfl) h_slL) (c_ok (e_sl rfl (e_pso rfl) rfl h_slL) (c_opt (h_catL (v := (vL D.str)) (xs := (cutD lines0 none (some x1.1))) (ys := (cutD lines0 (some (x1.1 + 1)) none))) fun x14 => (t_rt ⟨rfl, rfl⟩)))))) (t_if (c_ok (e_tval rfl) (c_ite (t_seq (t_set (c_callO rfl (c_ok (e_cons (e_cb rfl h_lenL) rfl) (c_fretO rfl rfl (q__law_spin x8.2 (lines0.length : Int)) (fun _ => trivial) fun x15 => (t_seq (t_par (c_cons (c_cb (c_cons (c_op (c_ok rfl (c_ok rfl (c_opt h_ixL fun x16 => (c_ok rfl (c_tot rfl (c_ok rfl (t_parK (t_seq (t_seti (d0 := D.non) (c_op (c_ok rfl (c_ok rfl (c_opt h_ixL fun x17 => (t_seti2 rfl (c_ok rfl (t_setiK rfl (c_opt (h_stL (v := (vL D.str)) (xs := lines0) (a := x17)) fun rest19 => (t_set (c_ok rfl (t_nx ⟨_, _, rfl⟩))))))))))))))))))))))))))))))) (t_ret (c_op (c_op (c_ok (e_sl rfl rfl (e_pso rfl) h_slL) (c_ok (e_lst (e_cons (e_lst rfl (Nat.le_of_ble_eq_true rfl)) rfl) (Nat.le_of_ble_eq_true rfl)) (c_opt (h_catL (v := (vL D.str)) (xs := (cutD lines0 none (some x1.1))) (ys := [[("set" : Str), x7.1, ("1" : Str)]])) fun x20 => (c_ok (e_sl rfl (e_pso rfl) rfl h_slL) (c_opt (h_catL (v := (vL D.str)) (xs := x20) (ys := (cutD lines0 (some x1.1) none))) fun x21 => (t_rt ⟨rfl, rfl⟩))))))))))))))))))))))))) (fun s9 ρ h => by obtain ⟨u7, u8, rfl⟩ := h; exact (t_ret (c_op (c_op (c_ok (e_sl rfl rfl (e_pso rfl) h_slL) (c_ok (e_lst rfl (Nat.le_of_ble_eq_true rfl)) (c_opt (h_catL (v := (vL D.str)) (xs := (cutD s9.2.1 none (some x1.1))) (ys := [s9.2.2])) fun x22 => (c_ok (e_sl rfl (e_pso rfl) rfl h_slL) (c_opt (h_catL (v := (vL D.str)) (xs := x22) (ys := (cutD s9.2.1 (some (x1.1 + 1)) none))) fun x23 => (t_rt ⟨rfl, rfl⟩)))))))))))))))))))))))))))))))))))))))))
def n__law_asked (reel0 : (List D)) : Fr (Bool × (List D)) := (O.bnd (n__law_code reel0) fun x1 => (O.bnd (n__law_lines x1.1) fun x2 => (O.bnd ((O.bnd (nLs (fun (y3 : (List Str)) (s4 : Unit) => ((O.bnd (ofO (joinS (" " : Str) y3)) fun x5 => (O.bnd (ofO (catS x5 ("\n" : Str))) fun x6 => (.rt (x6, ())))) : O Unit Empty (Str × Unit))) x2 ()) fun (r7 : List Str × Unit) => (O.bnd (ofO (joinS ("" : Str) r7.1)) fun x8 => (.rt x8))) : Fr Str) fun x9 => (O.bnd (n_code_text x1.1) fun x10 => (O.bnd (n__law_heard x9) fun x11 => (O.bnd (n__law_loose x1.2 x2) fun x12 => (O.bnd (n__law_heard x12.1) fun x13 => (O.bnd (x__law_alike [(D.tup [(D.str x10), x11, x13]), (D.tup [(D.str x9), (D.tup [(D.str ("told" : Str)), ((vP2 D.int (vT vD)) x1.1)]), (D.tup [(D.str ("told" : Str)), ((vP2 D.int (vT vD)) x1.1)])])]) fun x14 => (O.bnd (ofO (asB x14)) fun c15 => (if (!c15) then (.rt (false, x12.2)) else (O.seq (nFor (fun (y17 : Int) (s16 : (List D)) => (O.bnd (n__law_bent s16 x2) fun x18 => (O.bnd ((if (decide (5 < y17)) then (O.bnd (n__law_bent x18.2 x18.1) fun x19 => (.rt (x19.1, x19.2))) else (.rt (x18.1, x18.2))) : Fr ((List (List Str)) × (List D))) fun x20 => (O.bnd (n__law_loose x20.2 x20.1) fun x21 => (O.bnd (n__law_heard x21.1) fun x22 => (O.bnd (n__law_read x21.1) fun x23 => (O.bnd (x__law_alike [x22, x23]) fun x24 => (O.bnd (ofO (asB x24)) fun c25 => (if (!c25) then (.rt (false, x21.2)) else (.nx x21.2)))))))))) (rgI 0 (Int.toNat 9)) x12.2) fun (s26 : (List D)) => (.rt (true, s26)))))))))))))
theorem q__law_asked (reel0 : (List D)) : SimF (fun p : (Bool × (List D)) => D.bl p.1) (fun p : (Bool × (List D)) => [some ((vL vD) p.2)]) (d__law_asked [((vL vD) reel0)]) (n__law_asked reel0) := simF_mk (by delta b__law_asked; exact t_end (t_seq (t_set (c_callO rfl (c_ok rfl (c_fretO rfl rfl (q__law_code reel0) (fun _ => trivial) fun x1 => (t_seq (t_set (c_callM (c_ok rfl (c_fret rfl (q__law_lines x1.1) trivial fun x2 => (t_seq (t_set (c_blk (v := D.str) (w := (fun _ => [some ((vL vD) x1.2), some ((vP2 D.int (vT vD)) x1.1), some ((vL (vL D.str)) x2), none, none, none, none, none])) (c_m1 (c_ok rfl (c_m1S (c_lcK (c_iA (c_ok rfl (c_tot (x := List.map (vL D.str) x2) rfl (c_lc (E1 := (fun (s4 : Unit) (ρ : DL.Env) => ρ = [some ((vL vD) x1.2), some ((vP2 D.int (vT vD)) x1.1), some ((vL (vL D.str)) x2), none, none, none, none, none])) (v := (vL D.str)) (w := D.str) (xs := x2) (s := ()) rfl (fun y3 s4 ρ h => by subst h; exact (t_asgK rfl (c_ok (x := true) rfl (c_op (c_m1 (c_ok rfl (c_m1S (c_ok rfl (c_opt h_joinL fun x5 => (c_ok rfl (c_opt h_catS fun x6 => (t_rt ⟨rfl, rfl⟩)))))))))))) fun r7 ρ h => by subst h; exact (c_opt h_joinL fun x8 => (c_rt rfl rfl)))))))))) fun x9 => (t_seq (t_if (c_bnot (c_tval (c_callM (c_cons (c_tup (c_cons (c_callM (c_ok rfl (c_fret rfl (q_code_text x1.1) trivial fun x10 => (c_cons (c_callM (c_ok rfl (c_fret rfl (q__law_heard x9) trivial fun x11 => (c_cons (c_callM (c_cons (c_callO rfl (c_ok rfl (c_fretO rfl rfl (q__law_loose x1.2 x2) (fun _ => trivial) fun x12 => (c_ok rfl (c_fret rfl (q__law_heard x12.1) trivial fun x13 => (c_ok rfl (c_size (Nat.le_of_ble_eq_true rfl) (c_ok (e_cons (e_tup (e_cons rfl (e_cons (e_tup rfl (Nat.le_of_ble_eq_true rfl)) (e_cons (e_tup rfl (Nat.le_of_ble_eq_true rfl)) rfl))) (Nat.le_of_ble_eq_true rfl)) rfl) (c_fret rfl (qx__law_alike [(D.tup [(D.str x10), x11, x13]), (D.tup [(D.str x9), (D.tup [(D.str ("told" : Str)), ((vP2 D.int (vT vD)) x1.1)]), (D.tup [(D.str ("told" : Str)), ((vP2 D.int (vT vD)) x1.1)])])]) trivial fun x14 => (by cases hc15 : asB x14 with | none => exact c_stk | some c15 => (rw [asB_eq hc15]; exact c_red (c_bB (c_ite (t_ret (c_ok rfl (t_rt ⟨rfl, rfl⟩))) (t_pass (t_seq (t_forK (c_iR1 (c_ok rfl (c_tot (h_r1l (by decide)) (t_loop (E1 := (fun (s16 : (List D)) (ρ : DL.Env) => ∃ u4 u5 u6 : Option D, ρ = [some ((vL vD) s16), some ((vP2 D.int (vT vD)) x1.1), some ((vL (vL D.str)) x2), some (D.str x9), u4, u5, u6, none])) (v := D.int) (xs := (rgI 0 (Int.toNat 9))) (s := x12.2) ⟨_, _, _, rfl⟩ (fun y17 s16 ρ h => by obtain ⟨u4, u5, u6, rfl⟩ := h; exact (t_asgK rfl (t_end (t_seq (t_set (c_callO rfl (c_ok rfl (c_fretO rfl rfl (q__law_bent s16 x2) (fun _ => trivial) fun x18 => (t_seq (t_set (c_blk (v := (fun x : ((List (List Str)) × (List D)) => (vL (vL D.str)) x.1)) (w := (fun x : ((List (List Str)) × (List D)) => [some ((vL vD) x.2), some ((vP2 D.int (vT vD)) x1.1), some ((vL (vL D.str)) x2), some (D.str x9), some (D.int y17), some ((vL (vL D.str)) x18.1), u6, none])) (c_if (c_ok (e_tval rfl) (c_ite (c_callO rfl (c_ok rfl (c_fretO rfl rfl (q__law_bent x18.2 x18.1) (fun _ => trivial) fun x19 => (c_rt rfl rfl)))) (c_ok rfl (c_rt rfl rfl))))) fun x20 => (t_seq (t_set (c_callO rfl (c_ok rfl (c_fretO rfl rfl (q__law_loose x20.2 x20.1) (fun _ => trivial) fun x21 => (t_if (c_bnot (c_tval (c_callM (c_cons (c_callM (c_ok rfl (c_fret rfl (q__law_heard x21.1) trivial fun x22 => (c_cons (c_callM (c_ok rfl (c_fret rfl (q__law_read x21.1) trivial fun x23 => (c_ok rfl (c_fret rfl (qx__law_alike [x22, x23]) trivial fun x24 => (by cases hc25 : asB x24 with | none => exact c_stk | some c25 => (rw [asB_eq hc25]; exact c_red (c_bB (c_ite (t_ret (c_ok rfl (t_rt ⟨rfl, rfl⟩))) (t_pass (t_nx ⟨_, _, _, rfl⟩)))))))))))))))))))))))))))))))))))) (fun s26 ρ h => by obtain ⟨u4, u5, u6, rfl⟩ := h; exact (t_ret (c_ok rfl (t_rt ⟨rfl, rfl⟩))))))))))))))))))))))))))))))))))))))))))))))))))))))))
def n_law (script0 : (List Int)) : Fr Bool := (O.bnd (n__law_reel script0) fun x1 => (O.seq (nFor (fun (y3 : Int) (s2 : (List D)) => (O.bnd (n__law_asked s2) fun x4 => (if (!x4.1) then (.rt false) else (.nx x4.2)))) (rgI 0 (Int.toNat 4)) x1) fun (s5 : (List D)) => (O.bnd (.rt ([("" : Str), ("\n" : Str), ("# code 1" : Str), ("turn" : Str), ("code" : Str), ("code 01" : Str), ("code -1" : Str), ("code 1 2" : Str), ("code 2\nturn\nkeep 1" : Str), ("code 0" : Str), ("code 1\nturns" : Str), ("code 1\nturn 1" : Str), ("code 1\ncut 0 -1 0" : Str), ("code 1\ncut 0 -2 0\n" : Str), ("code 1\ncut 0 -3 0" : Str), ("code 1\ncut -1 0 0" : Str), ("code 1\nset 0 -1" : Str)] : (List Str))) fun texts6 => (O.bnd ((O.bnd (ofO (cat (α := Str) texts6 [("code 1\n\n#x\nput first 0" : Str), ("code 1\ncode 1" : Str), ("code 1\nless 1" : Str), ("code 1\nless x" : Str), ("code 1\nset 0 999999999\nset 0 1000000000" : Str), ("code 1\nhalf\nturn 3" : Str), ("code 1\n  swap   3  \n " : Str), ("code 1\ncut 0 -0 0" : Str), ("code 1\ncut 0 half 0" : Str), ("Code 1" : Str)])) fun x7 => (.rt x7)) : Fr (List Str)) fun x8 => (O.bnd (.rt ([(D.tup [(D.str ("bad" : Str)), (D.int 1), (D.str ("code" : Str))]), (D.tup [(D.str ("bad" : Str)), (D.int 2), (D.str ("code" : Str))]), (D.tup [(D.str ("bad" : Str)), (D.int 2), (D.str ("code" : Str))]), (D.tup [(D.str ("bad" : Str)), (D.int 1), (D.str ("code" : Str))]), (D.tup [(D.str ("bad" : Str)), (D.int 1), (D.str ("code" : Str))]), (D.tup [(D.str ("bad" : Str)), (D.int 1), (D.str ("code" : Str))]), (D.tup [(D.str ("bad" : Str)), (D.int 1), (D.str ("code" : Str))]), (D.tup [(D.str ("bad" : Str)), (D.int 1), (D.str ("code" : Str))]), (D.tup [(D.str ("told" : Str)), (D.tup [(D.int 2), (D.tup [(D.tup [(D.str ("turn" : Str))]), (D.tup [(D.str ("keep" : Str)), (D.int 1)])])])]), (D.tup [(D.str ("told" : Str)), (D.tup [(D.int 0), (D.tup [])])]), (D.tup [(D.str ("bad" : Str)), (D.int 2), (D.str ("kind" : Str))]), (D.tup [(D.str ("bad" : Str)), (D.int 2), (D.str ("words" : Str))])] : (List D))) fun dues9 => (O.bnd ((O.bnd ((O.bnd (n__law_long ("less" : Str)) fun x10 => (if (decide (x10 = 2)) then (.rt (("bad" : Str), 2, ("number" : Str))) else (.rt (("bad" : Str), 2, ("words" : Str))))) : Fr (Str × Int × Str)) fun x11 => (O.bnd (ofO (cat (α := D) dues9 [(D.tup [(D.str ("told" : Str)), (D.tup [(D.int 1), (D.tup [(D.tup [(D.str ("cut" : Str)), (D.int 0), (D.int (-1)), (D.int 0)])])])]), (D.tup [(D.str ("told" : Str)), (D.tup [(D.int 1), (D.tup [(D.tup [(D.str ("cut" : Str)), (D.int 0), (D.int (-2)), (D.int 0)])])])]), (D.tup [(D.str ("bad" : Str)), (D.int 2), (D.str ("number" : Str))]), (D.tup [(D.str ("bad" : Str)), (D.int 2), (D.str ("number" : Str))]), (D.tup [(D.str ("bad" : Str)), (D.int 2), (D.str ("number" : Str))]), (D.tup [(D.str ("bad" : Str)), (D.int 4), (D.str ("number" : Str))]), (D.tup [(D.str ("bad" : Str)), (D.int 2), (D.str ("kind" : Str))]), (D.tup [(D.str ("bad" : Str)), (D.int 2), (D.str ("words" : Str))]), ((vP3 D.str D.int D.str) x11)])) fun x12 => (.rt x12))) : Fr (List D)) fun x13 => (O.bnd ((O.bnd (ofO (cat (α := D) x13 [(D.tup [(D.str ("bad" : Str)), (D.int 3), (D.str ("number" : Str))]), (D.tup [(D.str ("bad" : Str)), (D.int 2), (D.str ("kind" : Str))]), (D.tup [(D.str ("told" : Str)), (D.tup [(D.int 1), (D.tup [(D.tup [(D.str ("swap" : Str)), (D.int 3)])])])]), (D.tup [(D.str ("bad" : Str)), (D.int 2), (D.str ("number" : Str))]), (D.tup [(D.str ("bad" : Str)), (D.int 2), (D.str ("number" : Str))]), (D.tup [(D.str ("bad" : Str)), (D.int 1), (D.str ("code" : Str))])])) fun x14 => (.rt x14)) : Fr (List D)) fun x15 => (O.bnd (ofO (rg1 (x8.length : Int))) fun x16 => (O.seq (nFor (fun (y18 : Int) (s17 : Unit) => (O.bnd (ofO (atI x8 y18)) fun x19 => (O.bnd (n__law_heard x19) fun x20 => (O.bnd (ofO (atI x8 y18)) fun x21 => (O.bnd (n__law_read x21) fun x22 => (O.bnd (ofO (atI x15 y18)) fun x23 => (O.bnd (ofO (gMul (D.tup [x23]) (D.int 2))) fun x24 => (O.bnd (x__law_alike [(D.tup [x20, x22]), x24]) fun x25 => (O.bnd (ofO (asB x25)) fun c26 => (if (!c26) then (.rt false) else (.nx ()))))))))))) x16 ()) fun (s27 : Unit) => (O.bnd ((O.bnd (n_code_text (1, [(D.tup [(D.str ("cut" : Str)), (D.int 0), (D.int (-1)), (D.int 0)]), (D.tup [(D.str ("put" : Str)), (D.int 1), (D.int 0)])])) fun x28 => (O.bnd (n_code_text (3, [])) fun x29 => (O.bnd (n_read_code ("code 3" : Str)) fun x30 => (.rt (x28, x29, x30))))) : Fr (Str × Str × (Int × (List D)))) fun x31 => (O.bnd (x__law_alike [((vP3 D.str D.str (vP2 D.int (vT vD))) x31), (D.tup [(D.str ("code 1\ncut 0 -1 0\nput 1 0\n" : Str)), (D.str ("code 3\n" : Str)), (D.tup [(D.int 3), (D.tup [])])])]) fun x32 => (O.bnd (ofO (asB x32)) fun c33 => (.rt c33)))))))))))))
theorem q_law (script0 : (List Int)) : SimF D.bl (fun _ => []) (d_law [(D.scr script0)]) (n_law script0) := simF_mk (by delta b_law; exact t_end (t_seq (t_set (c_callM (c_ok rfl (c_fret rfl (q__law_reel script0) trivial fun x1 => (t_seq (t_forK (c_iR1 (c_ok rfl (c_tot (h_r1l (by decide)) (t_loop (E1 := (fun (s2 : (List D)) (ρ : DL.Env) => ∃ u2 : Option D, ρ = [some (D.scr script0), some ((vL vD) s2), u2, none, none, none, none])) (v := D.int) (xs := (rgI 0 (Int.toNat 4))) (s := x1) ⟨_, rfl⟩ (fun y3 s2 ρ h => by obtain ⟨u2, rfl⟩ := h; exact (t_asgK rfl (t_end (t_if (c_bnot (c_tval (c_callO rfl (c_ok rfl (c_fretO rfl rfl (q__law_asked s2) (fun _ => trivial) fun x4 => (c_bB (c_ite (t_ret (c_ok rfl (t_rt ⟨rfl, rfl⟩))) (t_pass (t_nx ⟨_, rfl⟩))))))))))))) (fun s5 ρ h => by obtain ⟨u2, rfl⟩ := h; exact (t_seq (t_set (c_okE (v := (vT D.str)) (x := [("" : Str), ("\n" : Str), ("# code 1" : Str), ("turn" : Str), ("code" : Str), ("code 01" : Str), ("code -1" : Str), ("code 1 2" : Str), ("code 2\nturn\nkeep 1" : Str), ("code 0" : Str), ("code 1\nturns" : Str), ("code 1\nturn 1" : Str), ("code 1\ncut 0 -1 0" : Str), ("code 1\ncut 0 -2 0\n" : Str), ("code 1\ncut 0 -3 0" : Str), ("code 1\ncut -1 0 0" : Str), ("code 1\nset 0 -1" : Str)]) (e_tup rfl (Nat.le_of_ble_eq_true rfl)) rfl fun texts6 => (t_seq (t_set (c_blk (v := (vT D.str)) (w := (fun _ => [some (D.scr script0), some ((vL vD) s5), u2, some ((vT D.str) texts6), none, none, none])) (c_op (c_ok rfl (c_ok (e_tup rfl (Nat.le_of_ble_eq_true rfl)) (c_opt (h_catT (v := D.str) (xs := texts6) (ys := [("code 1\n\n#x\nput first 0" : Str), ("code 1\ncode 1" : Str), ("code 1\nless 1" : Str), ("code 1\nless x" : Str), ("code 1\nset 0 999999999\nset 0 1000000000" : Str), ("code 1\nhalf\nturn 3" : Str), ("code 1\n  swap   3  \n " : Str), ("code 1\ncut 0 -0 0" : Str), ("code 1\ncut 0 half 0" : Str), ("Code 1" : Str)])) fun x7 => (c_rt rfl rfl))))) fun x8 => (t_seq (t_set (c_okE (v := (vT vD)) (x := [(D.tup [(D.str ("bad" : Str)), (D.int 1), (D.str ("code" : Str))]), (D.tup [(D.str ("bad" : Str)), (D.int 2), (D.str ("code" : Str))]), (D.tup [(D.str ("bad" : Str)), (D.int 2), (D.str ("code" : Str))]), (D.tup [(D.str ("bad" : Str)), (D.int 1), (D.str ("code" : Str))]), (D.tup [(D.str ("bad" : Str)), (D.int 1), (D.str ("code" : Str))]), (D.tup [(D.str ("bad" : Str)), (D.int 1), (D.str ("code" : Str))]), (D.tup [(D.str ("bad" : Str)), (D.int 1), (D.str ("code" : Str))]), (D.tup [(D.str ("bad" : Str)), (D.int 1), (D.str ("code" : Str))]), (D.tup [(D.str ("told" : Str)), (D.tup [(D.int 2), (D.tup [(D.tup [(D.str ("turn" : Str))]), (D.tup [(D.str ("keep" : Str)), (D.int 1)])])])]), (D.tup [(D.str ("told" : Str)), (D.tup [(D.int 0), (D.tup [])])]), (D.tup [(D.str ("bad" : Str)), (D.int 2), (D.str ("kind" : Str))]), (D.tup [(D.str ("bad" : Str)), (D.int 2), (D.str ("words" : Str))])]) (e_tup (e_cons (e_tup rfl (Nat.le_of_ble_eq_true rfl)) (e_cons (e_tup rfl (Nat.le_of_ble_eq_true rfl)) (e_cons (e_tup rfl (Nat.le_of_ble_eq_true rfl)) (e_cons (e_tup rfl (Nat.le_of_ble_eq_true rfl)) (e_cons (e_tup rfl (Nat.le_of_ble_eq_true rfl)) (e_cons (e_tup rfl (Nat.le_of_ble_eq_true rfl)) (e_cons (e_tup rfl (Nat.le_of_ble_eq_true rfl)) (e_cons (e_tup rfl (Nat.le_of_ble_eq_true rfl)) (e_cons (e_tup (e_cons rfl (e_cons (e_tup (e_cons rfl (e_cons (e_tup (e_cons (e_tup rfl (Nat.le_of_ble_eq_true rfl)) (e_cons (e_tup rfl (Nat.le_of_ble_eq_true rfl)) rfl)) (Nat.le_of_ble_eq_true rfl)) rfl)) (Nat.le_of_ble_eq_true rfl)) rfl)) (Nat.le_of_ble_eq_true rfl)) (e_cons (e_tup (e_cons rfl (e_cons (e_tup (e_cons rfl (e_cons (e_tup rfl (Nat.le_of_ble_eq_true rfl)) rfl)) (Nat.le_of_ble_eq_true rfl)) rfl)) (Nat.le_of_ble_eq_true rfl)) (e_cons (e_tup rfl (Nat.le_of_ble_eq_true rfl)) (e_cons (e_tup rfl (Nat.le_of_ble_eq_true rfl)) rfl)))))))))))) (Nat.le_of_ble_eq_true rfl)) rfl fun dues9 => (t_seq (t_set (c_blk (v := (vT vD)) (w := (fun _ => [some (D.scr script0), some ((vL vD) s5), u2, some ((vT D.str) x8), some ((vT vD) dues9), none, none])) (c_op (c_ok rfl (c_tup (c_cons (c_ok (e_tup (e_cons rfl (e_cons (e_tup (e_cons rfl (e_cons (e_tup (e_cons (e_tup rfl (Nat.le_of_ble_eq_true rfl)) rfl) (Nat.le_of_ble_eq_true rfl)) rfl)) (Nat.le_of_ble_eq_true rfl)) rfl)) (Nat.le_of_ble_eq_true rfl)) (c_cons (c_ok (e_tup (e_cons rfl (e_cons (e_tup (e_cons rfl (e_cons (e_tup (e_cons (e_tup rfl (Nat.le_of_ble_eq_true rfl)) rfl) (Nat.le_of_ble_eq_true rfl)) rfl)) (Nat.le_of_ble_eq_true rfl)) rfl)) (Nat.le_of_ble_eq_true rfl)) (c_cons (c_ok (e_tup rfl (Nat.le_of_ble_eq_true rfl)) (c_cons (c_ok (e_tup rfl (Nat.le_of_ble_eq_true rfl)) (c_cons (c_ok (e_tup rfl (Nat.le_of_ble_eq_true rfl)) (c_cons (c_ok (e_tup rfl (Nat.le_of_ble_eq_true rfl)) (c_cons (c_ok (e_tup rfl (Nat.le_of_ble_eq_true rfl)) (c_cons (c_ok (e_tup rfl (Nat.le_of_ble_eq_true rfl)) (c_cons (c_blk (v := (vP3 D.str D.int D.str)) (w := (fun _ => [some (D.scr script0), some ((vL vD) s5), u2, some ((vT D.str) x8), some ((vT vD) dues9), none, none])) (c_if (c_tval (c_op (c_callM (c_ok rfl (c_fret rfl (q__law_long ("less" : Str)) trivial fun x10 => (c_ok rfl (c_tot rfl (c_bB (c_ite (c_ok (e_tup rfl (Nat.le_of_ble_eq_true rfl)) (c_rt rfl rfl)) (c_ok (e_tup rfl (Nat.le_of_ble_eq_true rfl)) (c_rt rfl rfl)))))))))))) fun x11 => (c_ok rfl (c_size (Nat.le_of_ble_eq_true rfl) (c_opt (h_catT (v := vD) (xs := dues9) (ys := [(D.tup [(D.str ("told" : Str)), (D.tup [(D.int 1), (D.tup [(D.tup [(D.str ("cut" : Str)), (D.int 0), (D.int (-1)), (D.int 0)])])])]), (D.tup [(D.str ("told" : Str)), (D.tup [(D.int 1), (D.tup [(D.tup [(D.str ("cut" : Str)), (D.int 0), (D.int (-2)), (D.int 0)])])])]), (D.tup [(D.str ("bad" : Str)), (D.int 2), (D.str ("number" : Str))]), (D.tup [(D.str ("bad" : Str)), (D.int 2), (D.str ("number" : Str))]), (D.tup [(D.str ("bad" : Str)), (D.int 2), (D.str ("number" : Str))]), (D.tup [(D.str ("bad" : Str)), (D.int 4), (D.str ("number" : Str))]), (D.tup [(D.str ("bad" : Str)), (D.int 2), (D.str ("kind" : Str))]), (D.tup [(D.str ("bad" : Str)), (D.int 2), (D.str ("words" : Str))]), ((vP3 D.str D.int D.str) x11)])) fun x12 => (c_rt rfl rfl))))))))))))))))))))))))) fun x13 => (t_seq (t_set (c_blk (v := (vT vD)) (w := (fun _ => [some (D.scr script0), some ((vL vD) s5), u2, some ((vT D.str) x8), some ((vT vD) x13), none, none])) (c_op (c_ok rfl (c_ok (e_tup (e_cons (e_tup rfl (Nat.le_of_ble_eq_true rfl)) (e_cons (e_tup rfl (Nat.le_of_ble_eq_true rfl)) (e_cons (e_tup (e_cons rfl (e_cons (e_tup (e_cons rfl (e_cons (e_tup (e_cons (e_tup rfl (Nat.le_of_ble_eq_true rfl)) rfl) (Nat.le_of_ble_eq_true rfl)) rfl)) (Nat.le_of_ble_eq_true rfl)) rfl)) (Nat.le_of_ble_eq_true rfl)) (e_cons (e_tup rfl (Nat.le_of_ble_eq_true rfl)) (e_cons (e_tup rfl (Nat.le_of_ble_eq_true rfl)) (e_cons (e_tup rfl (Nat.le_of_ble_eq_true rfl)) rfl)))))) (Nat.le_of_ble_eq_true rfl)) (c_opt (h_catT (v := vD) (xs := x13) (ys := [(D.tup [(D.str ("bad" : Str)), (D.int 3), (D.str ("number" : Str))]), (D.tup [(D.str ("bad" : Str)), (D.int 2), (D.str ("kind" : Str))]), (D.tup [(D.str ("told" : Str)), (D.tup [(D.int 1), (D.tup [(D.tup [(D.str ("swap" : Str)), (D.int 3)])])])]), (D.tup [(D.str ("bad" : Str)), (D.int 2), (D.str ("number" : Str))]), (D.tup [(D.str ("bad" : Str)), (D.int 2), (D.str ("number" : Str))]), (D.tup [(D.str ("bad" : Str)), (D.int 1), (D.str ("code" : Str))])])) fun x14 => (c_rt rfl rfl))))) fun x15 => (t_seq (t_forK (c_iR1 (c_ok (e_cons (e_cb rfl h_lenT) rfl) (c_opt h_r1 fun x16 => (t_loop (E1 := (fun (s17 : Unit) (ρ : DL.Env) => ∃ u5 : Option D, ρ = [some (D.scr script0), some ((vL vD) s5), u2, some ((vT D.str) x8), some ((vT vD) x15), u5, none])) (v := D.int) (xs := x16) (s := ()) ⟨_, rfl⟩ (fun y18 s17 ρ h => by obtain ⟨u5, rfl⟩ := h; exact (t_asgK rfl (t_end (t_if (c_bnot (c_tval (c_callM (c_cons (c_tup (c_cons (c_callM (c_cons (c_op (c_ok rfl (c_ok rfl (c_opt h_ixT fun x19 => (c_ok rfl (c_fret rfl (q__law_heard x19) trivial fun x20 => (c_cons (c_callM (c_cons (c_op (c_ok rfl (c_ok rfl (c_opt h_ixT fun x21 => (c_ok rfl (c_fret rfl (q__law_read x21) trivial fun x22 => (c_ok rfl (c_size (Nat.le_of_ble_eq_true rfl) (c_cons (c_op (c_tup (c_cons (c_op (c_ok rfl (c_ok rfl (c_opt h_ixT fun x23 => (c_ok rfl (c_size (Nat.le_of_ble_eq_true rfl) (c_ok rfl (c_opt h_any fun x24 => (c_ok rfl (c_fret rfl (qx__law_alike [(D.tup [x20, x22]), x24]) trivial fun x25 => (by cases hc26 : asB x25 with | none => exact c_stk | some c26 => (rw [asB_eq hc26]; exact c_red (c_bB (c_ite (t_ret (c_ok rfl (t_rt ⟨rfl, rfl⟩))) (t_pass (t_nx ⟨_, rfl⟩))))))))))))))))))))))))))))))))))))))))))))))))) (fun s27 ρ h => by obtain ⟨u5, rfl⟩ := h; exact (t_seq (t_set (c_blk (v := (vP3 D.str D.str (vP2 D.int (vT vD)))) (w := (fun _ => [some (D.scr script0), some ((vL vD) s5), u2, some ((vT D.str) x8), some ((vT vD) x15), u5, none])) (c_tup (c_cons (c_callM (c_kw (c_ok rfl (c_ok (e_cons (e_tup (e_cons rfl (e_cons (e_tup (e_cons (e_tup rfl (Nat.le_of_ble_eq_true rfl)) (e_cons (e_tup rfl (Nat.le_of_ble_eq_true rfl)) rfl)) (Nat.le_of_ble_eq_true rfl)) rfl)) (Nat.le_of_ble_eq_true rfl)) rfl) (c_kw2 ⟨rfl, rfl⟩ rfl (c_fret rfl (q_code_text (1, [(D.tup [(D.str ("cut" : Str)), (D.int 0), (D.int (-1)), (D.int 0)]), (D.tup [(D.str ("put" : Str)), (D.int 1), (D.int 0)])])) trivial fun x28 => (c_cons (c_callM (c_ok (e_cons (e_tup (e_cons rfl (e_cons (e_tup rfl (Nat.le_of_ble_eq_true rfl)) rfl)) (Nat.le_of_ble_eq_true rfl)) rfl) (c_fret rfl (q_code_text (3, [])) trivial fun x29 => (c_cons (c_callM (c_kw (c_ok rfl (c_ok rfl (c_kw2 ⟨rfl, rfl⟩ rfl (c_fret rfl (q_read_code ("code 3" : Str)) trivial fun x30 => (c_ok rfl (c_size (Nat.le_of_ble_eq_true rfl) (c_rt rfl rfl)))))))))))))))))))))) fun x31 => (t_ret (c_callM (c_ok (e_cons rfl (e_cons (e_tup (e_cons rfl (e_cons rfl (e_cons (e_tup (e_cons rfl (e_cons (e_tup rfl (Nat.le_of_ble_eq_true rfl)) rfl)) (Nat.le_of_ble_eq_true rfl)) rfl))) (Nat.le_of_ble_eq_true rfl)) rfl)) (c_fret rfl (qx__law_alike [((vP3 D.str D.str (vP2 D.int (vT vD))) x31), (D.tup [(D.str ("code 1\ncut 0 -1 0\nput 1 0\n" : Str)), (D.str ("code 3\n" : Str)), (D.tup [(D.int 3), (D.tup [])])])]) trivial fun x32 => (by cases hc33 : asB x32 with | none => exact c_stk | some c33 => (rw [asB_eq hc33]; exact c_red (t_rt ⟨rfl, rfl⟩)))))))))))))))))))))))))))))))))))))))))))))
end K08
/-! texts cut at a sign -/
namespace DL
open PySem L2 TL
section
/-- cut at the sign s -/
def cutC (s : Nat) : List Nat → List (List Nat)
  | [] => [[]]
  | c :: r => if c = s then [] :: cutC s r else match cutC s r with
    | [] => [[c]]
    | p :: ps => (c :: p) :: ps
theorem cutC_ne (s : Nat) (l : List Nat) : cutC s l ≠ [] := by
  cases l with
  | nil => simp [cutC]
  | cons c r =>
    unfold cutC
    split
    · simp
    · split <;> simp
theorem pre1 {s c : Nat} {r : List Nat} : pre [s] (c :: r) = decide (c = s) := by
  unfold pre
  rw [Bool.eq_iff_iff]
  simp
theorem spl_cutC (s : Nat) : ∀ (l acc : List Nat), spl [s] 0 acc l = match cutC s l with
    | [] => [acc]
    | p :: ps => (acc ++ p) :: ps
  | [], acc => by rw [spl_nil]; simp [cutC]
  | c :: r, acc => by
    by_cases h : c = s
    · subst h
      rw [spl_hit (by rw [pre1]; simp)]
      have e := spl_cutC c r []
      simp only [List.length_singleton]
      rw [show (1 - 1) = 0 from rfl, e]
      have e2 : cutC c (c :: r) = [] :: cutC c r := by conv => lhs; unfold cutC; rw [if_pos rfl]
      rw [e2]
      cases q : cutC c r with
      | nil => exact absurd q (cutC_ne _ _)
      | cons p ps => simp
    · rw [spl_miss (by rw [pre1]; simp [h]), spl_cutC s r (acc ++ [c])]
      have e2 : cutC s (c :: r) = match cutC s r with
        | [] => [[c]]
        | p :: ps => (c :: p) :: ps := by conv => lhs; unfold cutC; rw [if_neg h]
      rw [e2]
      cases q : cutC s r with
      | nil => exact absurd q (cutC_ne _ _)
      | cons p ps => simp
theorem spl_cut (s : Nat) (l : List Nat) : spl [s] 0 [] l = cutC s l := by
  rw [spl_cutC]
  cases q : cutC s l with
  | nil => exact absurd q (cutC_ne _ _)
  | cons p ps => simp
theorem cutC_hit (s : Nat) (r : List Nat) : cutC s (s :: r) = [] :: cutC s r := by conv => lhs; unfold cutC; rw [if_pos rfl]
theorem cutC_miss {s c : Nat} (h : ¬ c = s) (r : List Nat) : cutC s (c :: r) = match cutC s r with
    | [] => [[c]]
    | p :: ps => (c :: p) :: ps := by conv => lhs; unfold cutC; rw [if_neg h]
theorem cutC_app (s : Nat) : ∀ (a b : List Nat), cutC s (a ++ s :: b) = cutC s a ++ cutC s b
  | [], b => by
    show cutC s (s :: b) = _
    rw [cutC_hit]; rfl
  | c :: a, b => by
    rw [List.cons_append]
    by_cases h : c = s
    · subst h
      rw [cutC_hit, cutC_hit, cutC_app c a b]; rfl
    · rw [cutC_miss h, cutC_miss h, cutC_app s a b]
      cases q : cutC s a with
      | nil => exact absurd q (cutC_ne _ _)
      | cons p ps => rfl
theorem cutC_free {s : Nat} : ∀ {l : List Nat}, s ∉ l → cutC s l = [l]
  | [], _ => rfl
  | c :: r, h => by
    have h1 : ¬ c = s := fun e => h (by rw [e]; exact List.mem_cons_self)
    have h2 : s ∉ r := fun e => h (List.mem_cons_of_mem _ e)
    unfold cutC
    rw [if_neg h1, cutC_free h2]
theorem cutC_len (s : Nat) : ∀ (l : List Nat), (cutC s l).length ≤ l.length + 1
  | [] => by simp [cutC]
  | c :: r => by
    have := cutC_len s r
    unfold cutC
    split
    · simp; omega
    · cases q : cutC s r with
      | nil => simp
      | cons p ps => rw [q] at this; simp at this ⊢; omega
theorem cutC_mem {s : Nat} : ∀ {l p : List Nat}, p ∈ cutC s l → p.length ≤ l.length ∧ ∀ c ∈ p, c ∈ l ∧ c ≠ s
  | [], p, h => by
    simp [cutC] at h; subst h; simp
  | c :: r, p, h => by
    unfold cutC at h
    split at h
    · rename_i hc
      rcases List.mem_cons.mp h with rfl | h
      · simp
      · obtain ⟨h1, h2⟩ := cutC_mem h
        exact ⟨by simp; omega, fun d hd => ⟨List.mem_cons_of_mem _ (h2 d hd).1, (h2 d hd).2⟩⟩
    · rename_i hc
      cases q : cutC s r with
      | nil => exact absurd q (cutC_ne _ _)
      | cons x xs =>
        rw [q] at h
        have ih : ∀ p ∈ x :: xs, p.length ≤ r.length ∧ ∀ c ∈ p, c ∈ r ∧ c ≠ s := fun p hp => cutC_mem (by rw [q]; exact hp)
        rcases List.mem_cons.mp h with rfl | h
        · obtain ⟨h1, h2⟩ := ih x List.mem_cons_self
          refine ⟨by simp; omega, fun d hd => ?_⟩
          rcases List.mem_cons.mp hd with rfl | hd
          · exact ⟨List.mem_cons_self, hc⟩
          · exact ⟨List.mem_cons_of_mem _ (h2 d hd).1, (h2 d hd).2⟩
        · obtain ⟨h1, h2⟩ := ih p (List.mem_cons_of_mem _ h)
          exact ⟨by simp; omega, fun d hd => ⟨List.mem_cons_of_mem _ (h2 d hd).1, (h2 d hd).2⟩⟩
/-- str.split at one sign -/
theorem split_tl {x y : Str} {s : Nat} (ey : tl y = [s]) (hk : s < 256) : (Txt.split x y).map tl = cutC s (tl x) := by
  rw [split_spl x y (by rw [ey]; simp) (kind_ok (by
    have : y.cps = #[s] := by
      have := ey; unfold tl at this
      rw [← Array.toList_inj]; simpa using this
    rw [this]; simp [hk]))]
  rw [ey, spl_cut]
theorem splitS_ok {x y : Str} {s : Nat} (ey : tl y = [s]) (h : x.length + 2 ≤ 16777216) : splitS x y = some (Txt.split x y) := by
  unfold splitS
  have : (y.length == 0) = false := by rw [len_tl, ey]; rfl
  rw [if_pos ⟨this, by rw [sz]; exact h⟩]
theorem joinS_ok {x : Str} {ys : List Str} (h : (ys.map (·.length)).sum + ys.length * x.length ≤ 16777216) : joinS x ys = some (Txt.join x ys) := by
  unfold joinS; rw [if_pos h]
/-- the words of a line -/
def toks (l : List Nat) : List (List Nat) := (cutC 32 l).filter (· ≠ [])
theorem toks_app (a b : List Nat) : toks (a ++ 32 :: b) = toks a ++ toks b := by unfold toks; rw [cutC_app, List.filter_append]
theorem toks_nil : toks [] = [] := rfl
theorem toks_sp (b : List Nat) : toks (32 :: b) = toks b := toks_app [] b
theorem toks_spe (a : List Nat) : toks (a ++ [32]) = toks a := by rw [toks_app]; simp [toks_nil]
theorem toks_word {w : List Nat} (h : w ≠ []) (h2 : 32 ∉ w) : toks w = [w] := by
  unfold toks; rw [cutC_free h2]; simp [h]
/-- is a line passed over -/
def passed : List (List Nat) → Bool
  | [] => true
  | w :: _ => w.head? == some 35
/-- the lines that are not -/
def rowsT (l : List Nat) : List (List (List Nat)) := ((cutC 10 l).map toks).filter fun ws => !passed ws
theorem rowsT_app (a b : List Nat) : rowsT (a ++ 10 :: b) = rowsT a ++ rowsT b := by unfold rowsT; rw [cutC_app, List.map_append, List.filter_append]
theorem rowsT_nil : rowsT [] = [] := rfl
theorem rowsT_nl (a : List Nat) : rowsT (a ++ [10]) = rowsT a := by rw [rowsT_app]; simp [rowsT_nil]
theorem rowsT_line {l : List Nat} (h : 10 ∉ l) : rowsT l = if passed (toks l) = true then [] else [toks l] := by
  unfold rowsT; rw [cutC_free h, List.map_cons, List.map_nil]
  cases e : passed (toks l)
  · rw [List.filter_cons_of_pos (by simp [e])]; rfl
  · rw [List.filter_cons_of_neg (by simp [e])]; rfl
theorem toks_mem {l w : List Nat} (h : w ∈ toks l) : w ≠ [] ∧ w.length ≤ l.length ∧ ∀ c ∈ w, c ∈ l ∧ c ≠ 32 := by
  unfold toks at h
  rw [List.mem_filter] at h
  obtain ⟨h1, h2⟩ := h
  have := cutC_mem h1
  exact ⟨by simpa using h2, this.1, this.2⟩
theorem toks_len (l : List Nat) : (toks l).length ≤ l.length + 1 := by
  unfold toks; exact Nat.le_trans (List.length_filter_le _ _) (cutC_len 32 l)
end
end DL
/-! the comparing of a value with itself, by a queue of pairs -/
namespace DL
open PySem L2
def queB : DL.Env → Out := (sSeq (sIf (tVal (eOp gEq (eVar 3) (eView (eCB gLen (aCons (eVar 2) aNil))))) (sRet (eC (.bl true))) Out.nx) (sSeq (sAsg (eIxO 2 (eVar 3)) (gT 2 (gsCons (gN 5) (gsCons (gN 6) gsNil)))) (sSeq (sSet 3 (eOp gAdd (eVar 3) (eC (.int 1)))) (sIf (tVal (eOp gIsN (eVar 5) (eC .non))) (sIf (tVal (eOp gNotN (eVar 6) (eC .non))) (sRet (eC (.bl false))) Out.nx) (sIf (tVal (eIsi isBl (eVar 5))) (sIf (bOr (bNot (tVal (eIsi isBl (eVar 6)))) (tVal (eOp gNe (eVar 6) (eVar 5)))) (sRet (eC (.bl false))) Out.nx) (sIf (tVal (eIsi isInt (eVar 5))) (sIf (bOr (bNot (tVal (eIsi isInt (eVar 6)))) (bOr (tVal (eIsi isBl (eVar 6))) (tVal (eOp gNe (eVar 6) (eVar 5))))) (sRet (eC (.bl false))) Out.nx) (sIf (tVal (eIsi isStr (eVar 5))) (sIf (bOr (bNot (tVal (eIsi isStr (eVar 6)))) (tVal (eOp gNe (eVar 6) (eVar 5)))) (sRet (eC (.bl false))) Out.nx) (sIf (bOr (bNot (tVal (eIsi isTup (eVar 6)))) (tVal (eOp gNe (eCB gLen (aCons (eVar 6) aNil)) (eCB gLen (aCons (eVar 5) aNil))))) (sRet (eC (.bl false))) (sDrop (eMtO 2 gExtend (aCons (eLc (iR1 (aCons (eCB gLen (aCons (eVar 5) aNil)) aNil)) (gN 7) bYes (eTup (aCons (eOp gIx (eVar 5) (eVar 7)) (aCons (eOp gIx (eVar 6) (eVar 7)) aNil))) [7]) aNil)))))))))))
def queM (MM : ER D) : DL.Env → Out := (sSeq (sIf (tVal (eOp gEq (eVar 3) (eView (eCB gLen (aCons (eVar 2) aNil))))) (sRet (eC (.bl true))) Out.nx) (sSeq (sAsg (eIxO 2 (eVar 3)) (gT 2 (gsCons (gN 5) (gsCons (gN 6) gsNil)))) (sSeq (sSet 3 (eOp gAdd (eVar 3) (eC (.int 1)))) (sIf (tVal (eOp gIsN (eVar 5) (eC .non))) (sIf (tVal (eOp gNotN (eVar 6) (eC .non))) (sRet (eC (.bl false))) Out.nx) (sIf (tVal (eIsi isBl (eVar 5))) (sIf (bOr (bNot (tVal (eIsi isBl (eVar 6)))) (tVal (eOp gNe (eVar 6) (eVar 5)))) (sRet (eC (.bl false))) Out.nx) (sIf (tVal (eIsi isInt (eVar 5))) (sIf (bOr (bNot (tVal (eIsi isInt (eVar 6)))) (bOr (tVal (eIsi isBl (eVar 6))) (tVal (eOp gNe (eVar 6) (eVar 5))))) (sRet (eC (.bl false))) Out.nx) (sIf (tVal (eIsi isStr (eVar 5))) (sIf (bOr (bNot (tVal (eIsi isStr (eVar 6)))) (tVal (eOp gNe (eVar 6) (eVar 5)))) (sRet (eC (.bl false))) Out.nx) (sIf (bOr (bNot (tVal (eIsi isTup (eVar 6)))) (tVal (eOp gNe (eCB gLen (aCons (eVar 6) aNil)) (eCB gLen (aCons (eVar 5) aNil))))) (sRet (eC (.bl false))) (sDrop MM)))))))))
theorem queB_eq : queB = queM (eMtO 2 gExtend (aCons (eLc (iR1 (aCons (eCB gLen (aCons (eVar 5) aNil)) aNil)) (gN 7) bYes (eTup (aCons (eOp gIx (eVar 5) (eVar 7)) (aCons (eOp gIx (eVar 6) (eVar 7)) aNil))) [7]) aNil)) := rfl
def queF : DL.Env → Out := (sSeq (sPar 2 3 (aCons (eLst (aCons (eTup (aCons (eVar 1) (aCons (eVar 0) aNil))) aNil)) (aCons (eC (.int 0)) aNil))) (sSeq (sFor (iR1 (aCons (eC (.int 300000)) aNil)) (gN 4) queB) (sRet (eC (.bl false)))))
theorem que_comp {a b c x3 x4 : Option D} {xs : List D} : ∀ (n k : Nat), k + n = xs.length → compF (gN 7) bYes (eTup (aCons (eOp gIx (eVar 5) (eVar 7)) (aCons (eOp gIx (eVar 6) (eVar 7)) aNil))) [7] ((List.range' k n).map fun (i : Nat) => D.int (i : Int)) [a, b, c, x3, x4, some (.tup xs), some (.tup xs), none] = .ok ((xs.drop k).map fun d => D.tup [d, d]) [a, b, c, x3, x4, some (.tup xs), some (.tup xs), none]
  | 0, k, h => by
    have : xs.drop k = [] := by rw [List.drop_eq_nil_iff]; omega
    simp [compF, this]
  | n+1, k, h => by
    have ih := que_comp (a := a) (b := b) (c := c) (x3 := x3) (x4 := x4) (xs := xs) n (k+1) (by omega)
    have hk : k < xs.length := by omega
    have e1 : atI xs (k : Int) = some xs[k] := by rw [at_nat (by omega) (by omega)]; simp [hk]
    rw [List.drop_eq_getElem_cons hk]
    rw [List.range'_succ, List.map_cons, List.map_cons]
    unfold compF
    simp [e1, wipeD, ih, sz, -List.map_drop]
theorem range_D (n : Nat) : rangeD 0 n = (List.range' 0 n).map fun (i : Nat) => D.int (i : Int) := by
  unfold rangeD; rw [List.range_eq_range']; simp
theorem inRg_nat {n : Nat} (h : n ≤ 16777216) : inRg (n : Int) = true := by
  unfold inRg
  rw [decide_eq_true (by omega), decide_eq_true (by omega)]; rfl
def quePs (ds : List D) : Option D := some (.lst (ds.map fun d => .tup [d, d]))
theorem que_at {ds : List D} {k : Nat} {d : D} (h : ds[k]? = some d) : atI (ds.map (fun d => D.tup [d, d])) (k : Int) = some (D.tup [d, d]) ∧ ¬ ((k : Int) = (ds.length : Int)) := by
  have hk : k < ds.length := by
    rcases Nat.lt_or_ge k ds.length with h1 | h1
    · exact h1
    · rw [List.getElem?_eq_none h1] at h; cases h
  refine ⟨?_, by omega⟩
  rw [at_nat (by omega) (by rw [List.length_map]; omega), Int.toNat_natCast, List.getElem?_map, h]; rfl
theorem que_s {ds : List D} {k : Nat} {d : D} {a b x4 x5 x6 : Option D} (h : ds[k]? = some d) (ok : okL d = true) (nt : ∀ xs, d ≠ .tup xs) : queB [a, b, quePs ds, some (.int k), x4, x5, x6, none] = .nx [a, b, quePs ds, some (.int (k + 1)), x4, some d, some d, none] := by
  obtain ⟨e1, ne⟩ := que_at h
  unfold quePs
  cases d with
  | tup xs => exact absurd rfl (nt xs)
  | int i => simp [queB, e1, ne, isTup, isStr, isBl, isInt]
  | str i => simp [queB, e1, ne, isTup, isStr, isBl, isInt]
  | bl i => simp [queB, e1, ne, isTup, isStr, isBl, isInt]
  | non => simp [queB, e1, ne, isTup, isStr, isBl, isInt]
  | _ => simp [okL] at ok
theorem iR1_of {fa : ER (List D)} {ρ ρ' : DL.Env} {j : Int} {n : Nat} (h : fa ρ = .ok [.int j] ρ') (hr : inRg j = true) (hn : j.toNat = n) : iR1 fa ρ = .ok (rangeD 0 n) ρ' := by
  subst hn
  rw [iR1_ap, h]
  exact if_pos hr
theorem que_l {a b c x3 x4 : Option D} {xs : List D} (hx : xs.length ≤ sizeLine) (hr : inRg (xs.length : Int) = true) : eLc (iR1 (aCons (eCB gLen (aCons (eVar 5) aNil)) aNil)) (gN 7) bYes (eTup (aCons (eOp gIx (eVar 5) (eVar 7)) (aCons (eOp gIx (eVar 6) (eVar 7)) aNil))) [7] [a, b, c, x3, x4, some (.tup xs), some (.tup xs), none] = .ok (.lst (xs.map fun d => .tup [d, d])) [a, b, c, x3, x4, some (.tup xs), some (.tup xs), none] := by
  have cm := que_comp (a := a) (b := b) (c := c) (x3 := x3) (x4 := x4) (xs := xs) xs.length 0 (by omega)
  rw [← range_D, List.drop_zero] at cm
  have h1 : (aCons (eCB gLen (aCons (eVar 5) aNil)) aNil) [a, b, c, x3, x4, some (.tup xs), some (.tup xs), none] = .ok [.int (xs.length : Int)] [a, b, c, x3, x4, some (.tup xs), some (.tup xs), none] := by simp
  have h2 := iR1_of (n := xs.length) h1 hr (Int.toNat_natCast _)
  rw [eLc_ap, h2, bind_ok]
  rw [show wipeD [a, b, c, x3, x4, some (D.tup xs), some (D.tup xs), none] [7] = [a, b, c, x3, x4, some (D.tup xs), some (D.tup xs), none] from rfl, cm]
  exact if_pos (by rw [List.length_map]; exact hx)
theorem que_e {ds : List D} {a b x3 x4 : Option D} {xs : List D} (hq : ds.length + xs.length ≤ sizeLine) (hr : inRg (xs.length : Int) = true) : eMtO 2 gExtend (aCons (eLc (iR1 (aCons (eCB gLen (aCons (eVar 5) aNil)) aNil)) (gN 7) bYes (eTup (aCons (eOp gIx (eVar 5) (eVar 7)) (aCons (eOp gIx (eVar 6) (eVar 7)) aNil))) [7]) aNil) [a, b, quePs ds, x3, x4, some (.tup xs), some (.tup xs), none] = .ok .non [a, b, quePs (ds ++ xs), x3, x4, some (.tup xs), some (.tup xs), none] := by
  have := que_l (a := a) (b := b) (c := quePs ds) (x3 := x3) (x4 := x4) (xs := xs) (Nat.le_trans (Nat.le_add_left _ _) hq) hr
  unfold quePs at this ⊢
  rw [eMtO_ap]
  generalize eLc _ _ _ _ _ = LL at this ⊢
  have e1 : gExtend (ds.map fun d => D.tup [d, d]) [.lst (xs.map fun d => D.tup [d, d])] = some (.non, (ds ++ xs).map fun d => D.tup [d, d]) := by
    unfold gExtend
    rw [List.map_append]
    exact if_pos (by rw [List.length_map, List.length_map]; exact hq)
  simp [this, e1]
theorem que_m {MM : ER D} {xs : List D} {k l : Int} {WW WW' : List D} {a b x4 x5 x6 : Option D} (hl : (WW.length : Int) = l) (e1 : atI WW k = some (.tup [.tup xs, .tup xs])) (ne : ¬ k = l) (cm : MM [a, b, some (.lst WW), some (.int (k + 1)), x4, some (.tup xs), some (.tup xs), none] = .ok .non [a, b, some (.lst WW'), some (.int (k + 1)), x4, some (.tup xs), some (.tup xs), none]) : queM MM [a, b, some (.lst WW), some (.int k), x4, x5, x6, none] = .nx [a, b, some (.lst WW'), some (.int (k + 1)), x4, some (.tup xs), some (.tup xs), none] := by
  unfold queM
  simp [e1, ne, isTup, isStr, isBl, isInt, cm, hl]
theorem que_t {ds xs : List D} {k : Nat} {a b x4 x5 x6 : Option D} (h : ds[k]? = some (.tup xs)) (hq : ds.length + xs.length ≤ sizeLine) (hrg : inRg (xs.length : Int) = true) : queB [a, b, quePs ds, some (.int k), x4, x5, x6, none] = .nx [a, b, quePs (ds ++ xs), some (.int (k + 1)), x4, some (.tup xs), some (.tup xs), none] := by
  obtain ⟨e1, ne⟩ := que_at h
  rw [queB_eq]
  exact que_m (by rw [List.length_map]) e1 ne (que_e (ds := ds) (a := a) (b := b) (x3 := some (.int (k+1))) (x4 := x4) (xs := xs) hq hrg)
theorem que_loop : ∀ (n : Nat) (es : List D), es.length = n → ∀ (ds : List D) (k : Nat) (a b x4 x5 x6 : Option D), k ≤ ds.length → okLs (ds.drop k) = true → szs (ds.drop k) < n → k + szs (ds.drop k) ≤ 16777216 → ∃ ρ', forL (gN 4) queB es [a, b, quePs ds, some (.int k), x4, x5, x6, none] = .rt (.bl true) ρ' := by
  intro n
  induction n with
  | zero => intro es _ ds k a b x4 x5 x6 hk ok h; omega
  | succ n ih =>
    intro es he ds k a b x4 x5 x6 hk ok h hb
    obtain ⟨e, es, rfl⟩ : ∃ e es', es = e :: es' := by
      cases es with
      | nil => cases he
      | cons e es => exact ⟨e, es, rfl⟩
    simp only [List.length_cons, Nat.add_right_cancel_iff] at he
    unfold forL
    by_cases hl : k = ds.length
    · refine ⟨[a, b, quePs ds, some (.int k), some e, x5, x6, none], ?_⟩
      unfold quePs
      simp [queB, hl]
    · have hk' : k < ds.length := by omega
      have ed := List.drop_eq_getElem_cons hk'
      have eg : ds[k]? = some ds[k] := List.getElem?_eq_getElem hk'
      generalize ds[k] = d at ed eg
      rw [ed] at ok h hb
      have hz : szs (d :: ds.drop (k+1)) = sz1 d + szs (ds.drop (k+1)) := by simp [szs]
      rw [hz] at h hb
      have ok1 : okL d = true ∧ okLs (ds.drop (k+1)) = true := by simpa [okLs] using ok
      have hd : 1 ≤ sz1 d := by cases d <;> simp [sz1]
      have ec : ((k + 1 : Nat) : Int) = (k : Int) + 1 := by omega
      have ih1 := fun x5 x6 => ih es he ds (k+1) a b (some e) x5 x6 (by omega) ok1.2 (by omega) (by omega)
      rw [ec] at ih1
      have st := fun (nt : ∀ xs, d ≠ .tup xs) => que_s (a := a) (b := b) (x4 := some e) (x5 := x5) (x6 := x6) eg ok1.1 nt
      have eg2 : gN 4 e [a, b, quePs ds, some (.int k), x4, x5, x6, none] = some [a, b, quePs ds, some (.int k), some e, x5, x6, none] := rfl
      rw [eg2]
      by_cases ht : ∃ xs, d = .tup xs
      · obtain ⟨xs, rfl⟩ := ht
        have hl := len_szs xs
        have hl2 := len_szs (ds.drop (k+1))
        rw [List.length_drop] at hl2
        have hs : sz1 (.tup xs) = 1 + szs xs := by simp [sz1]
        rw [hs] at h hb
        have ea : (ds ++ xs).drop (k+1) = ds.drop (k+1) ++ xs := by rw [List.drop_append_of_le_length (by omega)]
        have ih2 := fun x5 x6 => ih es he (ds ++ xs) (k+1) a b (some e) x5 x6 (by simp; omega) (by rw [ea, okLs_append, ok1.2]; simpa [okL] using ok1.1) (by rw [ea, szs_append]; omega) (by rw [ea, szs_append]; omega)
        rw [ec] at ih2
        have hq : ds.length + xs.length ≤ sizeLine := by unfold sizeLine; omega
        simp only [que_t (a := a) (b := b) (x4 := some e) (x5 := x5) (x6 := x6) eg hq (inRg_nat (by omega))]
        exact ih2 _ _
      · simp only [st (fun xs h => ht ⟨xs, h⟩)]
        exact ih1 _ _
theorem que_self (d : D) (ok : okL d = true) (h : sz1 d < 300000) : mkF 8 0 queF [d, d] = .ret (.bl true) [] := by
  rw [mkF_ap]
  unfold queF
  obtain ⟨ρ', h2⟩ := que_loop 300000 (rangeD 0 300000) (by unfold rangeD; rw [List.length_map, List.length_range]) [d] 0 (some d) (some d) none none none (Nat.zero_le _) (by simpa [okLs] using ok) (by simpa [szs] using h) (by simp [szs]; omega)
  unfold quePs at h2
  simp only [List.map_cons, List.map_nil] at h2
  rw [show ((0 : Nat) : Int) = 0 from rfl] at h2
  simp [sz, inRg, h2]
end DL
namespace K08
open PySem L2 DL TL
/-! draws -/
def Rl (ds : List Int) (a w : Int) : List D := [.lst (ds.map .int), .int a, .int w]
def RlOk (p : List D) : Prop := ∃ (ds : List Int) (a w : Int), 0 < ds.length ∧ (∀ d ∈ ds, 0 ≤ d ∧ d < 2000000) ∧ p = Rl ds a w
theorem s31 {α : Type} {x y z a : α} : setAt [x, y, z] 1 a = some [x, a, z] := setAt_ok (xs := [x, y, z]) (by decide) (by simp)
theorem s32 {α : Type} {x y z a : α} : setAt [x, y, z] 2 a = some [x, y, a] := setAt_ok (xs := [x, y, z]) (by decide) (by simp)
theorem spin_n {p : List D} (h : RlOk p) {n : Int} (hn : 0 < n) : ∃ r p', n__law_spin p n = .rt (r, p') ∧ 0 ≤ r ∧ r < n ∧ RlOk p' := by
  obtain ⟨ds, a, w, h, hd, rfl⟩ := h
  have hl : (0 : Int) < ds.length := by omega
  have h1 : 0 ≤ (a + 1) % (ds.length : Int) := Int.emod_nonneg _ (by omega)
  have h2 : (a + 1) % (ds.length : Int) < ds.length := Int.emod_lt_of_pos _ hl
  obtain ⟨k, hk⟩ : ∃ k, ((a + 1) % (ds.length : Int)).toNat = k := ⟨_, rfl⟩
  have hkl : k < ds.length := by omega
  have e1 : atI (ds.map D.int) ((a + 1) % (ds.length : Int)) = some (.int ds[k]) := by
    rw [at_nat h1 (by simpa using h2), hk, List.getElem?_map, List.getElem?_eq_getElem hkl]
    rfl
  have m1 : CMul w 835 := .inr (by decide)
  have i1 : icI CMod (fun i j => i % j) (a + 1) (ds.length : Int) = some ((a + 1) % ds.length) := icI_ok hl
  have i2' : ∀ x, icI CMod (fun i j => i % j) x n = some (x % n) := fun x => icI_ok hn
  have m2 : CMul ds[k] (a + 1 + 7) := .inl (by have := hd ds[k] (List.getElem_mem hkl); omega)
  refine ⟨(w * 835 + ds[k] * (a + 1 + 7) + 6011) % 1999271 / 23 % n, Rl ds (a + 1) ((w * 835 + ds[k] * (a + 1 + 7) + 6011) % 1999271), ?_, Int.emod_nonneg _ (by omega), Int.emod_lt_of_pos _ hn, ds, _, _, h, hd, rfl⟩
  unfold n__law_spin Rl
  simp [s31, s32, e1, m1, m2, h, sz, i1, i2']
theorem last_of {α : Type} {xs : List α} (h : xs ≠ []) : ∃ ys a, xs = ys ++ [a] := ⟨xs.dropLast, xs.getLast h, (List.dropLast_concat_getLast h).symm⟩
theorem p2000 : (0 : Int) < (1 : Int) * 2 ^ (2000 : Int).toNat := by
  rw [Int.one_mul]; exact Int.pow_pos (by decide)
theorem reel_n (ns : List Int) : ∃ p, n__law_reel ns = .rt p ∧ RlOk p := by
  unfold n__law_reel
  rw [bnd_rt]
  generalize hF : (fun (y3 : Int) (s2 : List Int) => _) = F
  have hl : (cutD ns none (some 40)).length ≤ 40 := by rw [cut_take (by decide)]; simp; omega
  obtain ⟨s, h1, h2, h3, h4⟩ := nFor_ex (L := Empty) (f := F) (P := fun r s => s ≠ [] ∧ s.length + r.length ≤ 41 ∧ ∀ d ∈ s, 0 ≤ d ∧ d < 1999271) (fun x r s ⟨h0, hb, hs⟩ => by
    obtain ⟨ini, z, rfl⟩ := last_of h0
    simp only [List.length_cons] at hb
    subst hF
    have m : icI CMod (fun i j => i % j) (if x < 0 then -x else x) ((1 : Int) * 2 ^ (2000 : Int).toNat) = some ((if x < 0 then -x else x) % ((1 : Int) * 2 ^ (2000 : Int).toNat)) := icI_ok p2000
    generalize (if x < 0 then -x else x) % ((1 : Int) * 2 ^ (2000 : Int).toNat) = y at m
    refine ⟨(ini ++ [z]) ++ [(((z * 229) + (y % 1000393)) + ((ini ++ [z]).length : Int)) % 1999271], ?_, by simp, by simp at hb ⊢; omega, fun d hd => ?_⟩
    · refine (bnd_eq (ofO_eq DL.atI_last)).trans ?_
      refine (bnd_eq (ofO_eq m)).trans ?_
      exact bnd_eq (ofO_eq (push_ok (by omega)))
    · rcases List.mem_append.mp hd with h | h
      · exact hs d h
      · rw [List.mem_singleton] at h; subst h
        exact ⟨Int.emod_nonneg _ (by decide), Int.emod_lt_of_pos _ (by decide)⟩) (cutD ns none (some 40)) [6011] ⟨by simp, by simp; omega, by simp⟩
  rw [h1, oseq_nx]
  obtain ⟨ini, z, rfl⟩ := last_of h2
  have hz := h4 z (by simp)
  simp only [List.length_nil] at h3
  refine ⟨_, (bnd_eq (ofO_eq DL.atI_last)).trans ((bnd_eq (ofO_eq (cat_ok (by simp at h3 ⊢; omega)))).trans (bnd_eq (ofO_eq DL.atI_last))), (ini ++ [z]) ++ [z / 9 + 2], 0, z + 6011, by simp, fun d hd => ?_, rfl⟩
  rcases List.mem_append.mp hd with h | h
  · have := h4 d h; omega
  · rw [List.mem_singleton] at h; subst h; omega
theorem alike_n {d e : D} (h : d = e) (ok : okL d = true) (hs : sz1 d < 300000) : x__law_alike [d, e] = .rt (.bl true) := by
  subst h
  unfold x__law_alike
  have e : d__law_alike [d, d] = .ret (.bl true) [] := que_self d ok hs
  rw [e]; rfl
end K08
namespace K08
open PySem L2 DL TL
/-! numbers of words -/
theorem t_digits : tl ("0123456789" : Str) = [48, 49, 50, 51, 52, 53, 54, 55, 56, 57] := by decide +kernel
theorem t_zero : tl ("0" : Str) = [48] := by decide +kernel
theorem t_empty : tl ("" : Str) = [] := by decide +kernel
def dig (c : Nat) : Bool := decide (48 ≤ c ∧ c ≤ 57)
theorem ni_dig (c : Nat) : niD (D.str ⟨#[c]⟩) (D.str ("0123456789" : Str)) = some (!dig c) := by
  unfold niD inD inS dig
  show some (!decide (c ∈ tl ("0123456789" : Str))) = _
  rw [t_digits]
  congr 2
  rw [Bool.eq_iff_iff]
  simp
  omega
def bads (w : Str) : List Str := (sgS w).filter fun y => !((tl y).all dig)
theorem bads_loop (w : Str) (h : w.length ≤ 16777216) : (nLs (fun (y2 : Str) (s3 : Unit) => ((O.bnd (ofO (niD (D.str y2) (D.str ("0123456789" : Str)))) fun x4 => (if x4 then (.rt (y2, ())) else (.nx ()))) : O Unit Empty (Str × Unit))) (sgS w) ()) = .rt (bads w, ()) := by
  refine (nLs_ok (t := fun y => !((tl y).all dig)) (g := fun y => y) (sgS w) (fun x hx => ?_) ?_).trans ?_
  · unfold sgS at hx
    rw [List.mem_map] at hx
    obtain ⟨c, _, rfl⟩ := hx
    rw [ni_dig]
    show (if (!dig c) = true then _ else _) = _
    have : (tl ⟨#[c]⟩).all dig = dig c := by show [c].all dig = _; simp
    rw [this]
  · unfold sgS; rw [List.length_map]; exact (len_tl w) ▸ h
  · rw [List.map_id']; rfl
theorem bads_len (w : Str) : decide (0 < ((bads w).length : Int)) = !((tl w).all dig) := by
  unfold bads sgS
  have : ∀ l : List Nat, decide (0 < ((((l.map fun c => (⟨#[c]⟩ : Str)).filter fun y => !((tl y).all dig)).length : Nat) : Int)) = !(l.all dig) := by
    intro l
    induction l with
    | nil => rfl
    | cons c l ih =>
      have h1 : (tl ⟨#[c]⟩).all dig = dig c := by show [c].all dig = _; simp
      rw [List.map_cons, List.all_cons]
      cases hd : dig c with
      | true => rw [List.filter_cons_of_neg (by rw [h1, hd]; simp), ih]; rfl
      | false =>
        rw [List.filter_cons_of_pos (by rw [h1, hd]; rfl), List.length_cons]
        simp
  exact this _
/-- a written number -/
def wOk (w : Str) : Bool := decide (w ≠ "") && decide (w.length ≤ 9) && (tl w).all dig && (decide (w = "0") || decide ((tl w).head? ≠ some 48))
theorem emp_tl {w : Str} : w = "" ↔ tl w = [] := ⟨fun h => by rw [h, t_empty], fun h => ext_tl (by rw [h, t_empty])⟩
theorem ix0 {w : Str} (h : w ≠ "") (hl : w.length ≤ 16777216) : ∃ c r, tl w = c :: r ∧ gIx (D.str w) (D.int 0) = some (.str ⟨#[c]⟩) := by
  cases e : tl w with
  | nil => exact absurd (emp_tl.mpr e) h
  | cons c r =>
    refine ⟨c, r, rfl, ?_⟩
    unfold gIx
    show (if w.length ≤ sizeLine then (atI (tl w) 0).map _ else none) = _
    rw [if_pos (by rw [sz]; exact hl), e, at_nat (by decide) (by simp only [List.length_cons]; omega)]
    rfl
theorem str1 {c d : Nat} : ((⟨#[c]⟩ : Str) = ⟨#[d]⟩) ↔ c = d := by
  constructor
  · intro h; have := congrArg tl h; simpa using this
  · rintro rfl; rfl
theorem zero_mk : ("0" : Str) = ⟨#[48]⟩ := ext_tl (by rw [t_zero])
theorem ne_0 {c : Nat} : neD (D.str ⟨#[c]⟩) (D.str ("0" : Str)) = some (!decide (c = 48)) := by
  rw [zero_mk]
  unfold neD eqD scEq
  show some (!decide ((⟨#[c]⟩ : Str) = ⟨#[48]⟩)) = _
  simp [str1]
theorem eq_0 {c : Nat} : eqD (D.str ⟨#[c]⟩) (D.str ("0" : Str)) = some (decide (c = 48)) := by
  rw [zero_mk]
  unfold eqD scEq
  show some (decide ((⟨#[c]⟩ : Str) = ⟨#[48]⟩)) = _
  simp [str1]
theorem written_n (w : Str) (h : w.length ≤ 16777216) : n_is_written w = .rt (wOk w) := by
  unfold n_is_written wOk
  by_cases h1 : w = ""
  · simp [h1]
  by_cases h2 : w.length ≤ 9
  · rw [if_neg (by simp [h1]), lenS_ok h]
    have h2' : ¬ (9 < (w.length : Int)) := by omega
    obtain ⟨c, r, e1, e2⟩ := ix0 h1 h
    have b := bads_loop w h
    have bl := bads_len w
    simp only [ofO_some, bnd_rt]
    rw [if_neg (by simp [h2']), b]
    simp only [bnd_rt]
    rw [bl]
    cases hd : (tl w).all dig with
    | false => simp [hd]
    | true =>
      simp only [Bool.not_true, Bool.false_eq_true, if_false]
      by_cases h3 : w = "0"
      · simp [h3, t_zero, hd]
        decide +kernel
      · rw [if_neg (by simp [h3]), e2]
        simp only [ofO_some, bnd_rt]
        rw [ne_0]
        simp [h1, h2, h3, e1]
  · rw [if_neg (by simp [h1]), lenS_ok h]
    have h2' : (9 < (w.length : Int)) := by omega
    simp [h1, h2, h2']
theorem wOk_p {w : Str} (h : wOk w = true) : w ≠ "" ∧ w.length ≤ 9 ∧ (tl w).all dig = true := by
  unfold wOk at h
  simp only [Bool.and_eq_true, decide_eq_true_eq] at h
  exact ⟨h.1.1.1, h.1.1.2, h.1.2⟩
theorem intS_of {w : Str} (h : wOk w = true) : ∃ n : Int, intS w = some n := by
  obtain ⟨h1, h2, h3⟩ := wOk_p h
  refine ⟨((NumText.digitsVal (tl w) : Nat) : Int), ?_⟩
  unfold intS
  rw [if_pos (by omega)]
  refine intText_digits (fun c hc => ?_) (fun e => h1 (emp_tl.mpr e)) (by omega)
  have := List.all_eq_true.mp h3 c hc
  unfold dig at this
  simpa using this
/-- the number of a word -/
def numO (w : Str) : Option Int := if wOk w = true then intS w else none
theorem numO_none {w : Str} : numO w = none ↔ wOk w = false := by
  unfold numO
  cases h : wOk w with
  | false => simp
  | true => obtain ⟨n, e⟩ := intS_of h; simp [e]
theorem number_n (w : Str) (h : w.length ≤ 16777216) : n__law_number w = .rt (numO w) := by
  unfold n__law_number numO
  have key : ∀ {b : Bool} (k : Bool → Fr (Option Int)), b = !(wOk w) → k b = k (!(wOk w)) := fun k e => by rw [e]
  rw [lenS_ok h]
  simp only [ofO_some, bnd_rt]
  by_cases h2 : w.length ≤ 9
  · rw [if_neg (by simp; omega), bads_loop w h]
    simp only [bnd_rt]
    rw [bads_len]
    cases hd : (tl w).all dig with
    | false =>
      have : wOk w = false := by unfold wOk; simp [hd]
      simp [this]
    | true =>
      simp only [Bool.not_true, Bool.false_eq_true, if_false]
      by_cases h1 : w = ""
      · have : wOk w = false := by unfold wOk; simp [h1]
        rw [if_pos (by simp [h1])]
        simp [this]
      · obtain ⟨c, r, e1, e2⟩ := ix0 h1 h
        rw [if_neg (by simp [h1]), e2]
        simp only [ofO_some, bnd_rt]
        rw [eq_0]
        have hw : wOk w = (decide (w = "0") || decide (c ≠ 48)) := by
          unfold wOk; rw [e1] at hd ⊢; simp [h1, h2, hd]
        simp only [ofO_some, bnd_rt]
        by_cases hc : c = 48
        · by_cases h0 : w = "0"
          · have hw' : wOk w = true := by rw [hw]; simp [h0]
            obtain ⟨n, en⟩ := intS_of hw'
            simp [hc, hw', en, ← h0]
          · have hw' : wOk w = false := by rw [hw]; simp [h0, hc]
            simp [hc, h0, hw']
        · have hw' : wOk w = true := by rw [hw]; simp [hc]
          obtain ⟨n, en⟩ := intS_of hw'
          simp [hc, hw', en]
  · have : wOk w = false := by unfold wOk; simp [h2]
    rw [if_pos (by simp; omega)]
    simp [this]
end K08
namespace K08
open PySem L2 DL TL
/-! lines and words -/
theorem t_nl : tl ("\n" : Str) = [10] := by decide +kernel
theorem t_sp : tl (" " : Str) = [32] := by decide +kernel
theorem t_hash : tl ("#" : Str) = [35] := by decide +kernel
def wordsOf (l : Str) : List Str := (Txt.split l (" " : Str)).filter fun y => !decide (y = ("" : Str))
theorem words_tl (l : Str) : (wordsOf l).map tl = toks (tl l) := by
  unfold wordsOf toks
  rw [← split_tl (x := l) t_sp (by decide), List.filter_map]
  congr 1
  refine List.filter_congr fun y _ => ?_
  simp [emp_tl]
theorem split_len {x y : Str} {s : Nat} (ey : tl y = [s]) (hk : s < 256) : (Txt.split x y).length ≤ x.length + 1 := by
  have := congrArg List.length (split_tl (x := x) ey hk)
  rw [List.length_map] at this
  rw [this, len_tl]
  exact cutC_len _ _
theorem words_len (l : Str) : (wordsOf l).length ≤ l.length + 1 := by
  unfold wordsOf; exact Nat.le_trans (List.length_filter_le _ _) (split_len t_sp (by decide))
theorem words_mem {l w : Str} (h : w ∈ wordsOf l) : w ≠ "" ∧ w.length ≤ l.length := by
  have h1 : tl w ∈ toks (tl l) := by rw [← words_tl]; exact List.mem_map_of_mem h
  obtain ⟨h2, h3, _⟩ := toks_mem h1
  exact ⟨fun e => h2 (emp_tl.mp e), by rw [len_tl, len_tl]; exact h3⟩
theorem line_words_n {l : Str} (h : l.length ≤ 1000000) : n_line_words l = .rt (wordsOf l) := by
  unfold n_line_words
  refine (bnd_eq (ofO_eq (splitS_ok t_sp (by omega)))).trans ?_
  have e : (List.map (fun (y2 : Str) => y2) (List.filter (fun (y2 : Str) => (!decide (y2 = ("" : Str)))) (Txt.split l (" " : Str)))) = wordsOf l := by
    rw [List.map_id']; rfl
  rw [e]
  have := words_len l
  exact bnd_eq (ofO_eq (sized_ok (by omega)))
def linesOf (t : Str) : List Str := if (Txt.split t ("\n" : Str)).getLast? = some ("" : Str) then (Txt.split t ("\n" : Str)).dropLast else Txt.split t ("\n" : Str)
theorem split_ne {x y : Str} {s : Nat} (ey : tl y = [s]) (hk : s < 256) : Txt.split x y ≠ [] := by
  intro h
  have := congrArg List.length (split_tl (x := x) ey hk)
  rw [h] at this
  have h2 := cutC_ne s (tl x)
  cases q : cutC s (tl x) with
  | nil => exact h2 q
  | cons a b => rw [q] at this; simp at this
theorem lines_len (t : Str) : (linesOf t).length ≤ t.length + 1 := by
  have := split_len (x := t) t_nl (by decide)
  unfold linesOf; split
  · rw [List.length_dropLast]; omega
  · exact this
theorem lines_mem {t l : Str} (h : l ∈ linesOf t) : l.length ≤ t.length := by
  have h1 : l ∈ Txt.split t ("\n" : Str) := by
    unfold linesOf at h; split at h
    · exact (List.dropLast_sublist _).subset h
    · exact h
  have h2 : tl l ∈ cutC 10 (tl t) := by rw [← split_tl (x := t) t_nl (by decide)]; exact List.mem_map_of_mem h1
  rw [len_tl, len_tl]; exact (cutC_mem h2).1
theorem lines_of_n {t : Str} (h : t.length ≤ 1000000) : n_lines_of t = .rt (linesOf t) := by
  unfold n_lines_of linesOf
  rw [bnd_eq (a := Txt.split t ("\n" : Str)) (bnd_eq (ofO_eq (splitS_ok t_nl (by omega))))]
  obtain ⟨ini, z, e⟩ := last_of (split_ne (x := t) t_nl (by decide))
  rw [e]
  have e1 : atI (ini ++ [z]) (((ini ++ [z]).length : Int) - 1) = some z := atI_len (by simp)
  rw [seq_eq (a := if (ini ++ [z]).getLast? = some ("" : Str) then (ini ++ [z]).dropLast else ini ++ [z])]
  refine (bnd_eq (ofO_eq e1)).trans ?_
  by_cases hz : z = ("" : Str)
  · rw [if_pos (by simp [hz]), if_pos (by simp [hz])]
    refine (bnd_eq (ofO_eq popL_snoc)).trans ?_
    simp
  · rw [if_neg (by simp [hz]), if_neg (by simp [hz])]
/-- is a line passed over -/
def pasd (ws : List Str) : Bool := match ws with
  | [] => true
  | w :: _ => (tl w).head? == some 35
theorem starts_hash {w : Str} : Txt.startswith w ("#" : Str) = ((tl w).head? == some 35) := by
  have e : ("#" : Str) = ⟨#[35]⟩ := ext_tl (by rw [t_hash])
  rw [e]
  unfold Txt.startswith PySem.Builtin.Str.subAt
  show (decide (0 + 1 ≤ w.length) && (w.cps.extract 0 (0 + 1) == #[35])) = _
  have h1 : (w.cps.extract 0 (0 + 1) == #[35]) = decide ((tl w).take 1 = [35]) := by
    rw [Bool.eq_iff_iff]
    simp only [beq_iff_eq, decide_eq_true_eq, ← Array.toList_inj, Array.toList_extract]
    simp [List.extract]
  rw [h1, len_tl]
  cases tl w with
  | nil => simp
  | cons c r => rw [Bool.eq_iff_iff]; simp
theorem passed_n {ws : List Str} : n_is_passed_over ws = .rt (pasd ws) := by
  unfold n_is_passed_over pasd
  cases ws with
  | nil => rfl
  | cons w ws =>
    have e1 : atI (w :: ws) 0 = some w := by rw [at_nat (by decide) (by simp only [List.length_cons]; omega)]; rfl
    have : ¬ (((w :: ws).length : Int) = 0) := by simp only [List.length_cons]; omega
    rw [if_neg (by simpa using this), e1, ofO_some]
    show O.rt (Txt.startswith w ("#" : Str)) = _
    rw [starts_hash]
/-- the lines not passed over, with their numbers -/
def rowsFrom : Nat → List Str → List (Int × List Str)
  | _, [] => []
  | i, l :: ls => if pasd (wordsOf l) = true then rowsFrom (i + 1) ls else (((i : Int) + 1, wordsOf l) :: rowsFrom (i + 1) ls)
def rowG (p : Int × Str) : List (Int × List Str) := if pasd (wordsOf p.2) = true then [] else [(p.1 + 1, wordsOf p.2)]
theorem rows_flat : ∀ (i : Nat) (ls : List Str), (enI i ls).flatMap rowG = rowsFrom i ls
  | _, [] => rfl
  | i, l :: ls => by
    unfold enI rowsFrom
    rw [List.flatMap_cons, rows_flat (i+1) ls]
    unfold rowG
    cases pasd (wordsOf l) <;> rfl
theorem rows_len : ∀ (i : Nat) (ls : List Str), (rowsFrom i ls).length ≤ ls.length
  | _, [] => Nat.le_refl _
  | i, l :: ls => by
    have := rows_len (i+1) ls
    unfold rowsFrom; split
    · simp; omega
    · simp; omega
theorem en_mem : ∀ {i : Nat} {ls : List Str} {p : Int × Str}, p ∈ enI i ls → p.2 ∈ ls
  | _, [], p, h => by simp [enI] at h
  | i, l :: ls, p, h => by
    unfold enI at h
    rcases List.mem_cons.mp h with rfl | h
    · exact List.mem_cons_self
    · exact List.mem_cons_of_mem _ (en_mem h)
theorem read_lines_n {t : Str} (h : t.length ≤ 1000000) : n_read_lines t = .rt (rowsFrom 0 (linesOf t)) := by
  unfold n_read_lines
  refine (bnd_eq (lines_of_n h)).trans ?_
  have hl := lines_len t
  have hr := rows_len 0 (linesOf t)
  have := nFor_growM (L := Empty) (β := List (Int × List Str)) (f := fun (y3 : (Int × Str)) (s2 : (List (Int × (List Str)))) => (O.bnd (n_line_words y3.2) fun x4 => (O.bnd (n_is_passed_over x4) fun x5 => (if (!x5) then (O.bnd (ofO (push (α := (Int × (List Str))) s2 ((y3.1 + 1), x4))) fun found7 => (.nx found7)) else (.nx s2))))) (g := rowG) (B := 16777216) (enI 0 (linesOf t)) [] (fun x hx s hs => by
    have hm := lines_mem (en_mem hx)
    refine (bnd_eq (line_words_n (by omega))).trans ?_
    refine (bnd_eq passed_n).trans ?_
    unfold rowG at hs ⊢
    cases hp : pasd (wordsOf x.2) with
    | true => rw [hp] at hs; simp
    | false =>
      rw [hp] at hs
      simp only [Bool.false_eq_true, if_false, List.length_singleton] at hs
      exact bnd_eq (ofO_eq (push_ok (by omega)))) (by rw [rows_flat]; simp; omega)
  rw [this, rows_flat]
  rfl
end K08
namespace K08
open PySem L2 DL TL
/-! a row -/
def cutx (w : Str) (ns : List Str) : Bool := decide (w = "cut") && (match ns with | _ :: b :: _ => decide (b ∈ [("-1" : Str), ("-2" : Str)]) | _ => false)
def mval (b : Str) : Int := if b = "-1" then -1 else -2
theorem mval_ok {b : Str} (h : b ∈ [("-1" : Str), ("-2" : Str)]) : intS b = some (mval b) ∧ wOk b = false := by
  have ne : ("-2" : Str) ≠ "-1" := by decide +kernel
  simp only [List.mem_cons, List.not_mem_nil, or_false] at h
  rcases h with rfl | rfl
  · refine ⟨?_, by decide +kernel⟩
    unfold mval; rw [if_pos rfl]; decide +kernel
  · refine ⟨?_, by decide +kernel⟩
    unfold mval; rw [if_neg ne]; decide +kernel
/-- the numbers of a row -/
def nums (w : Str) (ns : List Str) : List (Option Int) := if cutx w ns = true then (ns.map numO).set 1 (some (mval (ns.getD 1 ""))) else ns.map numO
theorem nums_len (w : Str) (ns : List Str) : (nums w ns).length = ns.length := by
  unfold nums; split <;> simp
/-- the first wrong thing of a row -/
def rowE : List Str → Option Str
  | [] => some "kind"
  | w :: ns => match tb_1.lookup w with
    | none => some "kind"
    | some k => if ((ns.length : Int) + 1 = k) then (if none ∈ nums w ns then some "number" else none) else some "words"
def rowD : List Str → D
  | [] => .non
  | w :: ns => .tup (.str w :: (nums w ns).map (oD D.int))
def badD (i : Int) (e : Str) : D := D.tup [.str "bad", .int i, .str e]
theorem atC {α : Type} {x : α} {xs : List α} {k : Nat} (h : k < xs.length) : atI (x :: xs) ((k : Int) + 1) = some xs[k] := by
  rw [at_nat (by omega) (by simp only [List.length_cons]; omega)]
  have : ((k : Int) + 1).toNat = k + 1 := by omega
  rw [this, List.getElem?_cons_succ, List.getElem?_eq_getElem h]
theorem at0 {α : Type} {x : α} {xs : List α} : atI (x :: xs) 0 = some x := by
  rw [at_nat (by decide) (by simp only [List.length_cons]; omega)]; rfl
theorem is_number_n {w : Str} {ns : List Str} {k : Nat} (hk : k < ns.length) (hl : ns[k].length ≤ 16777216) : n_is_number (w :: ns) ((k : Int) + 1) = .rt ((nums w ns)[k]'(by rw [nums_len]; exact hk)).isSome := by
  unfold n_is_number
  rw [atC hk, at0]
  simp only [ofO_some, bnd_rt]
  rw [written_n _ hl]
  simp only [bnd_rt]
  cases hw : wOk ns[k] with
  | true =>
    obtain ⟨n, en⟩ := intS_of hw
    have hn : numO ns[k] = some n := by unfold numO; rw [hw, en]; rfl
    have : ((nums w ns)[k]'(by rw [nums_len]; exact hk)) = some n := by
      unfold nums
      split
      · rename_i hc
        by_cases h1 : k = 1
        · subst h1
          exfalso
          unfold cutx at hc
          rw [Bool.and_eq_true] at hc
          obtain ⟨_, hc⟩ := hc
          match ns, hk, hw, hc with
          | _ :: b :: _, hk, hw, hc =>
            have := (mval_ok (of_decide_eq_true hc)).2
            rw [List.getElem_cons_succ, List.getElem_cons_zero] at hw
            rw [hw] at this; cases this
        · rw [List.getElem_set_ne (by omega), List.getElem_map, hn]
      · rw [List.getElem_map, hn]
    rw [this]; rfl
  | false =>
    simp only [Bool.false_eq_true, if_false]
    have hn : numO ns[k] = none := numO_none.mpr hw
    by_cases hc : w = "cut"
    · rw [if_pos (by simp [hc])]
      by_cases h1 : k = 1
      · subst h1
        match ns, hk, hn, hl with
        | a :: b :: r, hk, hn, hl =>
          rw [List.getElem_cons_succ, List.getElem_cons_zero] at hn
          unfold nums cutx
          by_cases hb : b ∈ [("-1" : Str), ("-2" : Str)]
          · simp [hc] at hb ⊢
            simp [hb]
          · simp [hc] at hb ⊢
            simp [hb, hn]
      · have : ¬ ((k : Int) + 1 = 2) := by omega
        have : ((nums w ns)[k]'(by rw [nums_len]; exact hk)) = none := by
          unfold nums
          split
          · rw [List.getElem_set_ne (by omega), List.getElem_map, hn]
          · rw [List.getElem_map, hn]
        rw [this, if_neg (by simp; omega)]; rfl
    · rw [if_neg (by simp [hc])]
      have : ((nums w ns)[k]'(by rw [nums_len]; exact hk)) = none := by
        unfold nums
        split
        · rename_i h; unfold cutx at h; simp [hc] at h
        · rw [List.getElem_map, hn]
      rw [this]; rfl
theorem bad_any {w : Str} {ns : List Str} : decide (0 < (((rgI 1 ns.length).filter fun y => !((nums w ns).getD (y - 1).toNat none).isSome).length : Int)) = decide (none ∈ nums w ns) := by
  rw [Bool.eq_iff_iff, decide_eq_true_eq, decide_eq_true_eq]
  have hl := nums_len w ns
  constructor
  · intro h
    have h2 : ((rgI 1 ns.length).filter fun y => !((nums w ns).getD (y - 1).toNat none).isSome) ≠ [] := by
      intro e; rw [e] at h; simp at h
    obtain ⟨y, hy⟩ := List.exists_mem_of_ne_nil _ h2
    rw [List.mem_filter, mem_rgI] at hy
    obtain ⟨⟨h3, h4⟩, h5⟩ := hy
    have hk : (y - 1).toNat < (nums w ns).length := by omega
    rw [List.getD_eq_getElem?_getD, List.getElem?_eq_getElem hk] at h5
    simp only [Option.getD_some, Bool.not_eq_true', Option.isSome_eq_false_iff, Option.isNone_iff_eq_none] at h5
    rw [← h5]; exact List.getElem_mem hk
  · intro h
    obtain ⟨k, hk, e⟩ := List.getElem_of_mem h
    have : ((k : Int) + 1) ∈ ((rgI 1 ns.length).filter fun y => !((nums w ns).getD (y - 1).toNat none).isSome) := by
      rw [List.mem_filter, mem_rgI]
      refine ⟨⟨by omega, by omega⟩, ?_⟩
      have : ((k : Int) + 1 - 1).toNat = k := by omega
      rw [this, List.getD_eq_getElem?_getD, List.getElem?_eq_getElem hk, e]; rfl
    have := List.length_pos_of_mem this
    omega
def wdsOk (ws : List Str) : Prop := ws.length ≤ 2000000 ∧ ∀ w ∈ ws, w.length ≤ 1000000
theorem nums_int {w : Str} {ns : List Str} (h : none ∉ nums w ns) : ∃ is : List Int, ns.map intS = is.map some ∧ nums w ns = is.map some := by
  have h1 : ns.map intS = nums w ns := by
    refine List.ext_getElem (by rw [nums_len, List.length_map]) fun k hk hk2 => ?_
    rw [List.length_map] at hk
    have h2 : (nums w ns)[k] ≠ none := fun e => h (by rw [← e]; exact List.getElem_mem hk2)
    rw [List.getElem_map]
    have h3 : numO ns[k] ≠ none → numO ns[k] = intS ns[k] := by
      intro h; unfold numO at h ⊢
      cases hw : wOk ns[k] with
      | true => rw [if_pos rfl]
      | false => rw [hw] at h; simp at h
    revert h2
    unfold nums
    split
    · rename_i hc
      by_cases h1 : k = 1
      · subst h1
        unfold cutx at hc
        rw [Bool.and_eq_true] at hc
        obtain ⟨_, hc⟩ := hc
        match ns, hk, hc with
        | _ :: b :: _, hk, hc =>
          intro _
          have := (mval_ok (of_decide_eq_true hc)).1
          simp [this]
      · rw [List.getElem_set_ne (by omega), List.getElem_map]
        intro h; exact (h3 h).symm
    · rw [List.getElem_map]
      intro h; exact (h3 h).symm
  have h2 : ∀ l : List (Option Int), none ∉ l → ∃ is : List Int, l = is.map some := by
    intro l
    induction l with
    | nil => intro _; exact ⟨[], rfl⟩
    | cons a l ih =>
      intro h
      obtain ⟨is, e⟩ := ih fun q => h (List.mem_cons_of_mem _ q)
      cases a with
      | none => exact absurd List.mem_cons_self h
      | some i => exact ⟨i :: is, by rw [e]; rfl⟩
  obtain ⟨is, e⟩ := h2 _ h
  exact ⟨is, h1.trans e, e⟩
theorem ints_loop {ns : List Str} {is : List Int} (h : ns.map intS = is.map some) (hl : ns.length ≤ 16777216) : (nLs (fun (y10 : Str) (s11 : Unit) => ((O.bnd (ofO (intS y10)) fun x12 => (.rt (x12, ()))) : O Unit Empty (Int × Unit))) ns ()) = .rt (is, ()) := by
  refine (nLs_map (g := fun y => (intS y).getD 0) ns (fun x hx => ?_) hl).trans ?_
  · have : intS x ∈ is.map some := by rw [← h]; exact List.mem_map_of_mem hx
    rw [List.mem_map] at this
    obtain ⟨i, _, e⟩ := this
    rw [← e]; rfl
  · have : ns.map (fun y => (intS y).getD 0) = (ns.map intS).map fun o => o.getD 0 := by rw [List.map_map]; rfl
    rw [this, h, List.map_map]
    congr 2
    exact List.map_id' _
theorem read_row_n {i : Int} {w : Str} {ns : List Str} (h : wdsOk (w :: ns)) : n_read_row i (w :: ns) = match rowE (w :: ns) with
    | some e => .exc ⟨5, (["line", "word"] : List Str).zip [(D.int i), (D.str e)]⟩
    | none => .rt (rowD (w :: ns)) := by
  obtain ⟨hl, hw⟩ := h
  simp only [List.length_cons] at hl
  unfold n_read_row rowE
  rw [at0]
  simp only [ofO_some, bnd_rt]
  cases hk : tb_1.lookup w with
  | none => simp
  | some k =>
    simp only [ofO_some, bnd_rt, Option.isSome_some, Bool.not_true, Bool.false_eq_true, if_false]
    have e0 : (((w :: ns).length : Nat) : Int) = (ns.length : Int) + 1 := by simp
    rw [e0]
    by_cases hlen : (ns.length : Int) + 1 = k
    · rw [if_neg (by simp [hlen]), if_pos hlen]
      refine (bnd_eq (ofO_eq (rg2_ok (by omega) (by omega)))).trans ?_
      have e1 : ((ns.length : Int) + 1 - 1).toNat = ns.length := by omega
      rw [e1]
      refine (bnd_eq (nLs_ok (t := fun y => !((nums w ns).getD (y - 1).toNat none).isSome) (g := fun y => y) (rgI 1 ns.length) (fun y hy => ?_) (by rw [rgI_len]; omega))).trans ?_
      · rw [mem_rgI] at hy
        obtain ⟨j, hj⟩ : ∃ j : Nat, y = (j : Int) + 1 := ⟨(y - 1).toNat, by omega⟩
        subst hj
        have hj : j < ns.length := by omega
        rw [is_number_n hj (by have := hw ns[j] (List.mem_cons_of_mem _ (List.getElem_mem hj)); omega)]
        have : ((j : Int) + 1 - 1).toNat = j := by omega
        rw [this, List.getD_eq_getElem?_getD, List.getElem?_eq_getElem (by rw [nums_len]; exact hj)]
        rfl
      · rw [List.map_id']
        simp only
        rw [bad_any]
        by_cases hn : none ∈ nums w ns
        · simp [hn]
        · obtain ⟨is, h1, h2⟩ := nums_int hn
          rw [if_neg (by simp [hn]), if_neg hn]
          have e2 : cutD (w :: ns) (some 1) none = ns := by rw [cut_drop (by decide)]; rfl
          rw [e2]
          refine (bnd_eq (ints_loop h1 (by omega))).trans ?_
          have hL : is.length = ns.length := by have := congrArg List.length h1; simpa using this.symm
          have e3 : gAdd (D.tup [(D.str w)]) ((vT D.int) is) = some (rowD (w :: ns)) := by
            show _ = some (D.tup (D.str w :: (nums w ns).map (oD D.int)))
            rw [h2, List.map_map]
            show (if 1 + (is.map D.int).length ≤ sizeLine then _ else _) = _
            rw [if_pos (by rw [List.length_map, sz]; omega)]
            rfl
          exact bnd_eq (ofO_eq e3)
    · rw [if_pos (by simp [hlen]), if_neg hlen]
end K08
namespace K08
open PySem L2 DL TL
/-! the code of a text -/
def rowsR : List (Int × List Str) → Except (Int × Str) (List D)
  | [] => .ok []
  | (i, ws) :: r => match rowE ws with
    | some e => .error (i, e)
    | none => match rowsR r with
      | .ok ds => .ok (rowD ws :: ds)
      | .error e => .error e
/-- the header's number -/
def hdN : List Str → Option Int
  | [w, a] => if w = "code" then numO a else none
  | _ => none
def toldR (n : Int) : List (Int × List Str) → D
  | [] => badD (n + 1) "code"
  | (i, ws) :: r => match hdN ws with
    | none => badD i "code"
    | some p => match rowsR r with
      | .ok ds => .tup [.str "told", .tup [.int p, .tup ds]]
      | .error (j, e) => badD j e
def told (t : Str) : D := toldR ((linesOf t).length : Int) (rowsFrom 0 (linesOf t))
theorem rows_words {L : Nat} (hL : L ≤ 1000000) : ∀ (ls : List Str), (∀ l ∈ ls, l.length ≤ L) → ∀ (i : Nat) p, p ∈ rowsFrom i ls → wdsOk p.2 ∧ p.2 ≠ [] ∧ pasd p.2 = false
  | [], _, i, p, h => by simp [rowsFrom] at h
  | l :: ls, hs, i, p, h => by
    have ih := rows_words hL ls (fun x hx => hs x (List.mem_cons_of_mem _ hx)) (i+1) p
    have h0 := hs l List.mem_cons_self
    unfold rowsFrom at h
    split at h
    · exact ih h
    · rename_i hp
      rcases List.mem_cons.mp h with rfl | h
      · have := words_len l
        refine ⟨⟨by show (wordsOf l).length ≤ _; omega, fun w hw => by have := (words_mem hw).2; omega⟩, fun e => ?_, by simpa using hp⟩
        have e : wordsOf l = [] := e
        rw [e] at hp; simp [pasd] at hp
      · exact ih h
def exE (i : Int) (e : Str) : Ex := ⟨5, (["line", "word"] : List Str).zip [(D.int i), (D.str e)]⟩
def rowsF : (Int × List Str) → Unit → O Unit Empty (D × Unit) := fun (y11 : (Int × (List Str))) (s12 : Unit) => ((O.bnd (n_read_row y11.1 y11.2) fun x13 => (.rt (x13, ()))) : O Unit Empty (D × Unit))
theorem rowsF_ok {p : Int × List Str} (h : wdsOk p.2) (hn : p.2 ≠ []) : rowsF p () = match rowE p.2 with
    | some e => .exc (exE p.1 e)
    | none => .rt (rowD p.2, ()) := by
  obtain ⟨i, ws⟩ := p
  cases ws with
  | nil => exact absurd rfl hn
  | cons w ns =>
    unfold rowsF
    simp only
    rw [read_row_n h]
    cases rowE (w :: ns) <;> rfl
theorem rows_nLc : ∀ (ps : List (Int × List Str)), (∀ p ∈ ps, wdsOk p.2 ∧ p.2 ≠ []) → nLcX rowsF ps () = match rowsR ps with
    | .ok ds => .rt (ds, ())
    | .error (i, e) => .exc (exE i e)
  | [], _ => rfl
  | p :: ps, h => by
    have h1 := h p List.mem_cons_self
    have ih := rows_nLc ps fun q hq => h q (List.mem_cons_of_mem _ hq)
    unfold nLcX rowsR
    rw [rowsF_ok h1.1 h1.2]
    obtain ⟨i, ws⟩ := p
    simp only
    cases rowE ws with
    | some e => rfl
    | none =>
      simp only [ih]
      cases rowsR ps with
      | ok ds => rfl
      | error e => rfl
theorem rowsR_len : ∀ {ps : List (Int × List Str)} {ds : List D}, rowsR ps = .ok ds → ds.length = ps.length
  | [], ds, h => by unfold rowsR at h; cases h; rfl
  | p :: ps, ds, h => by
    unfold rowsR at h
    split at h
    · cases h
    · split at h
      · rename_i _ _ _ h2
        cases h
        rw [List.length_cons, List.length_cons, rowsR_len h2]
      · cases h
theorem rows_nLs {ps : List (Int × List Str)} (h : ∀ p ∈ ps, wdsOk p.2 ∧ p.2 ≠ []) (hl : ps.length ≤ 16777216) : nLsX rowsF ps () = match rowsR ps with
    | .ok ds => .rt (ds, ())
    | .error (i, e) => .exc (exE i e) := by
  unfold nLsX
  rw [sized_ok hl, ofO_some, bnd_rt]
  exact rows_nLc ps h
theorem hd_n {w : Str} {ws : List Str} (h : wdsOk (w :: ws)) : ((O.bnd (ofO (atI (w :: ws) 0)) fun x4 => (if (!decide (x4 = ("code" : Str))) then (.rt true) else (O.bnd ((if (!decide (((w :: ws).length : Int) = 2)) then (.rt true) else (O.bnd (ofO (atI (w :: ws) 1)) fun x5 => (O.bnd (n_is_written x5) fun x6 => (.rt (!x6))))) : Fr Bool) fun x7 => (.rt x7)))) : Fr Bool) = .rt (hdN (w :: ws)).isNone := by
  rw [at0]
  simp only [ofO_some, bnd_rt]
  by_cases hc : w = "code"
  · rw [if_neg (by simp [hc])]
    match ws, h with
    | [], h => simp [hdN]
    | [a], h =>
      have ha : a.length ≤ 16777216 := by have := h.2 a (by simp); omega
      rw [if_neg (by simp)]
      have e1 : atI [w, a] 1 = some a := atC (x := w) (xs := [a]) (k := 0) (by simp)
      rw [e1]
      simp only [ofO_some, bnd_rt]
      rw [written_n a ha]
      simp only [bnd_rt, hdN, hc, if_true]
      cases hw : wOk a with
      | true => obtain ⟨n, en⟩ := intS_of hw; simp [numO, hw, en]
      | false => simp [numO, hw]
    | a :: b :: r, h =>
      rw [if_pos (by simp; omega)]
      simp [hdN]
  · rw [if_pos (by simp [hc])]
    match ws with
    | [] => simp [hdN]
    | [a] => simp [hdN, hc]
    | a :: b :: r => simp [hdN]
end K08
namespace K08
open PySem L2 DL TL
/-! heard -/
def codeR (n : Int) : List (Int × List Str) → Fr (Int × List D)
  | [] => .exc (exE (n + 1) "code")
  | (i, ws) :: r => match hdN ws with
    | none => .exc (exE i "code")
    | some p => match rowsR r with
      | .ok ds => .rt (p, ds)
      | .error (j, e) => .exc (exE j e)
theorem last_line_n {t : Str} (h : t.length ≤ 1000000) : n_last_line t = .rt (((linesOf t).length : Int) + 1) := by
  unfold n_last_line
  exact bnd_eq (lines_of_n h)
theorem hdN_p {ws : List Str} {p : Int} (h : hdN ws = some p) : ∃ a : Str, ws = [("code" : Str), a] ∧ intS a = some p := by
  unfold hdN at h
  split at h
  · rename_i w a
    split at h
    · rename_i hw
      subst hw
      refine ⟨a, rfl, ?_⟩
      unfold numO at h
      split at h
      · exact h
      · cases h
    · cases h
  · cases h
theorem read_code_n {t : Str} (h : t.length ≤ 1000000) : n_read_code t = codeR ((linesOf t).length : Int) (rowsFrom 0 (linesOf t)) := by
  unfold n_read_code
  refine (bnd_eq (read_lines_n h)).trans ?_
  have hw := rows_words (L := t.length) h (linesOf t) (fun l hl => lines_mem hl) 0
  have hl := lines_len t
  have hr := rows_len 0 (linesOf t)
  cases hrow : rowsFrom 0 (linesOf t) with
  | nil =>
    rw [if_pos (by simp)]
    refine (bnd_eq (last_line_n h)).trans ?_
    rfl
  | cons q r =>
    obtain ⟨i, ws⟩ := q
    rw [hrow] at hw hr
    simp only [List.length_cons] at hr
    rw [if_neg (by simp; omega)]
    refine (bnd_eq (ofO_eq at0)).trans ?_
    have h1 := hw (i, ws) List.mem_cons_self
    obtain ⟨w, ns, rfl⟩ : ∃ w ns, ws = w :: ns := by
      cases ws with
      | nil => exact absurd rfl h1.2.1
      | cons w ns => exact ⟨w, ns, rfl⟩
    refine (bnd_eq (hd_n h1.1)).trans ?_
    unfold codeR
    simp only
    cases hh : hdN (w :: ns) with
    | none => rfl
    | some p =>
      simp only
      obtain ⟨a, e, ea⟩ := hdN_p hh
      rw [if_neg (by simp)]
      have e1 : atI (w :: ns) 1 = some a := by rw [e]; exact atC (x := ("code" : Str)) (xs := [a]) (k := 0) (by simp)
      refine (bnd_eq (ofO_eq e1)).trans ?_
      refine (bnd_eq (ofO_eq ea)).trans ?_
      have e2 : cutD ((i, w :: ns) :: r) (some 1) none = r := by rw [cut_drop (by decide)]; rfl
      rw [e2]
      have e3 := rows_nLs (ps := r) (fun p hp => ⟨(hw p (List.mem_cons_of_mem _ hp)).1, (hw p (List.mem_cons_of_mem _ hp)).2.1⟩) (by omega)
      show O.bnd (nLsX rowsF r ()) _ = _
      rw [e3]
      cases rowsR r with
      | ok ds => rfl
      | error x => rfl
theorem heard_n {t : Str} (h : t.length ≤ 1000000) : n__law_heard t = .rt (told t) := by
  unfold n__law_heard told
  rw [read_code_n h]
  have hx : ∀ (i : Int) (e : Str), (O.seq (tryN (O.bnd (O.exc (exE i e) : Fr (Int × List D)) fun x2 => (.rt (D.tup [(D.str ("told" : Str)), ((vP2 D.int (vT vD)) x2)]))) [(5, true)] (fun e => noXO (O.bnd ((O.bnd ((O.bnd (ofO (([(5, true)] : List (Nat × Bool)).lookup e.c)) fun x3 => (if x3 then (O.bnd (ofO (([(5, true)] : List (Nat × Bool)).lookup e.c)) fun x4 => (.rt x4)) else (.rt false))) : Fr Bool) fun x5 => (if x5 then (O.bnd (ofO (whyN e 5 "line")) fun x6 => (O.bnd (ofO (whyN e 5 "word")) fun x7 => (.rt (D.tup [(D.str ("bad" : Str)), x6, x7])))) else (.rt (D.tup [(D.str ("other" : Str))])))) : Fr D) fun x8 => (.rt x8)))) fun (s : Empty) => s.elim) = (.rt (badD i e) : Fr D) := fun i e => rfl
  cases hrow : rowsFrom 0 (linesOf t) with
  | nil => exact hx _ _
  | cons q r =>
    obtain ⟨i, ws⟩ := q
    unfold codeR toldR
    simp only
    cases hdN ws with
    | none => exact hx _ _
    | some p =>
      simp only
      cases rowsR r with
      | ok ds =>
        simp only [bnd_rt]
        have e : vT vD ds = D.tup ds := by unfold vT; rw [show ds.map vD = ds from List.map_id' ds]
        show (O.rt (D.tup [D.str "told", D.tup [D.int p, vT vD ds]]) : Fr D) = _
        rw [e]
      | error x => obtain ⟨j, e⟩ := x; exact hx _ _
end K08
namespace K08
open PySem L2 DL TL
/-! the law's own reader -/
theorem t_hash1 : ("#" : Str) = ⟨#[35]⟩ := ext_tl (by rw [t_hash])
theorem eq_h {c : Nat} : eqD (D.str ⟨#[c]⟩) (D.str ("#" : Str)) = some (decide (c = 35)) := by
  rw [t_hash1]
  unfold eqD scEq
  show some (decide ((⟨#[c]⟩ : Str) = ⟨#[35]⟩)) = _
  simp [str1]
theorem in_none {xs : List (Option Int)} : inD D.non ((vL (oD D.int)) xs) = some (decide (none ∈ xs)) := by
  have h1 : (xs.map (oD D.int)).all flatD = true := by
    rw [List.all_eq_true]
    intro d hd
    rw [List.mem_map] at hd
    obtain ⟨o, _, rfl⟩ := hd
    cases o <;> rfl
  show (if flatD D.non = true ∧ (xs.map (oD D.int)).all flatD = true then some ((xs.map (oD D.int)).any fun y => flEq y D.non) else _) = _
  rw [if_pos ⟨rfl, h1⟩]
  congr 1
  rw [Bool.eq_iff_iff, List.any_eq_true, decide_eq_true_eq]
  constructor
  · rintro ⟨d, hd, h⟩
    rw [List.mem_map] at hd
    obtain ⟨o, ho, rfl⟩ := hd
    cases o with
    | none => exact ho
    | some i => cases h
  · intro h
    exact ⟨D.non, List.mem_map.mpr ⟨none, h, rfl⟩, rfl⟩
theorem lookup_ge {w : Str} {k : Int} (h : tb_1.lookup w = some k) : 1 ≤ k ∧ k ≤ 4 := by
  have : ∀ p ∈ tb_1, 1 ≤ p.2 ∧ p.2 ≤ 4 := by unfold tb_1; decide
  have h2 : (w, k) ∈ tb_1 := by
    revert h
    generalize tb_1 = l
    induction l with
    | nil => intro h; cases h
    | cons p l ih =>
      obtain ⟨a, b⟩ := p
      intro h
      rw [List.lookup_cons] at h
      cases e : w == a with
      | true => rw [e] at h; cases h; rw [eq_of_beq e]; exact List.mem_cons_self
      | false => rw [e] at h; exact List.mem_cons_of_mem _ (ih h)
  exact this _ h2
theorem pas_n {ws : List Str} (h : wdsOk ws) (hn : ∀ w ∈ ws, w ≠ "") : ((if (decide ((ws.length : Int) = 0)) then (.rt true) else (O.bnd (ofO (atI ws 0)) fun x13 => (O.bnd (ofO (gIx (D.str x13) (D.int 0))) fun x14 => (O.bnd (ofO (eqD x14 (D.str ("#" : Str)))) fun x15 => (.rt x15))))) : Fr Bool) = .rt (pasd ws) := by
  cases ws with
  | nil => rfl
  | cons w ns =>
    rw [if_neg (by simp; omega), at0]
    obtain ⟨c, r, e1, e2⟩ := ix0 (hn w List.mem_cons_self) (by have := h.2 w List.mem_cons_self; omega)
    simp only [ofO_some, bnd_rt]
    rw [e2]
    simp only [ofO_some, bnd_rt]
    rw [eq_h]
    unfold pasd
    simp [e1]
    rw [Bool.eq_iff_iff]; simp
theorem row_n {w : Str} {ns : List Str} {y8 : Int} {s7 : (Option Int) × (List D)} (h : wdsOk (w :: ns)) (hs : s7.2.length < 16777216) : ((O.bnd (ofO (atI (w :: ns) 0)) fun x24 => (O.bnd (n__law_long x24) fun x25 => (if (decide (x25 = 0)) then (.rt (D.tup [(D.str ("bad" : Str)), (D.int (y8 + 1)), (D.str ("kind" : Str))])) else (if (!decide (((w :: ns).length : Int) = x25)) then (.rt (D.tup [(D.str ("bad" : Str)), (D.int (y8 + 1)), (D.str ("words" : Str))])) else (O.bnd (nLs (fun (y26 : Str) (s27 : Unit) => ((O.bnd (n__law_number y26) fun x28 => (.rt (x28, ()))) : O Unit Empty ((Option Int) × Unit))) (cutD (w :: ns) (some 1) none) ()) fun (r29 : List (Option Int) × Unit) => (O.seq (O.bnd ((O.bnd (ofO (atI (w :: ns) 0)) fun x31 => (if (decide (x31 = ("cut" : Str))) then (O.bnd (ofO (atI (w :: ns) 2)) fun x32 => (.rt (decide (x32 ∈ [("-1" : Str), ("-2" : Str)])))) else (.rt false))) : Fr Bool) fun x33 => (if x33 then (O.bnd (ofO (atI (w :: ns) 2)) fun x34 => (O.bnd (ofO (intS x34)) fun x35 => (O.bnd (ofO (setAt r29.1 1 (some x35))) fun numbers37 => (.nx numbers37)))) else (.nx r29.1))) fun (s30 : (List (Option Int))) => (O.bnd (noX ((O.bnd (ofO (inD D.non ((vL (oD D.int)) s30))) fun x38 => (.rt x38)) : Fr Bool)) fun x39 => (if x39 then (.rt (D.tup [(D.str ("bad" : Str)), (D.int (y8 + 1)), (D.str ("number" : Str))])) else (O.bnd (ofO (atI (w :: ns) 0)) fun x40 => (O.bnd (ofO (gAdd (D.tup [(D.str x40)]) ((vT (oD D.int)) s30))) fun x41 => (O.bnd (ofO (push (α := D) s7.2 x41)) fun rows43 => (.nx (s7.1, rows43))))))))))))) : O ((Option Int) × (List D)) ((Option Int) × (List D)) D) = match rowE (w :: ns) with
    | some e => .rt (badD (y8 + 1) e)
    | none => .nx (s7.1, s7.2 ++ [rowD (w :: ns)]) := by
  rw [at0]
  simp only [ofO_some, bnd_rt]
  unfold n__law_long rowE
  simp only [bnd_rt]
  cases hk : tb_1.lookup w with
  | none => rfl
  | some k =>
    have hk2 := lookup_ge hk
    have hl := h.1
    simp only [List.length_cons] at hl
    simp only [Option.getD_some]
    rw [if_neg (by simp; omega)]
    have e0 : (((w :: ns).length : Nat) : Int) = (ns.length : Int) + 1 := by simp
    rw [e0]
    by_cases hlen : (ns.length : Int) + 1 = k
    · rw [if_neg (by simp [hlen]), if_pos hlen]
      have e2 : cutD (w :: ns) (some 1) none = ns := by rw [cut_drop (by decide)]; rfl
      rw [e2]
      refine (bnd_eq (nLs_map (g := numO) ns (fun x hx => bnd_eq (number_n x (by have := h.2 x (List.mem_cons_of_mem _ hx); omega))) (by omega))).trans ?_
      rw [seq_eq (a := nums w ns)]
      · rw [in_none]
        show (O.bnd (noX (O.bnd (O.rt (decide (none ∈ nums w ns))) fun x38 => .rt x38 : Fr Bool)) _) = _
        rw [bnd_rt]
        show (O.bnd (O.rt (decide (none ∈ nums w ns)) : Fr Bool) _) = _
        rw [bnd_rt]
        by_cases hn : none ∈ nums w ns
        · rw [if_pos (by simp [hn]), if_pos hn]; rfl
        · rw [if_neg (by simp [hn]), if_neg hn]
          have e3 : gAdd (D.tup [(D.str w)]) ((vT (oD D.int)) (nums w ns)) = some (rowD (w :: ns)) := by
            show (if 1 + ((nums w ns).map (oD D.int)).length ≤ sizeLine then _ else _) = _
            rw [if_pos (by rw [List.length_map, nums_len, sz]; omega)]
            rfl
          refine (bnd_eq (ofO_eq e3)).trans ?_
          exact bnd_eq (ofO_eq (push_ok hs))
      · by_cases hc : w = "cut"
        · have hk4 : k = 4 := by
            have : tb_1.lookup ("cut" : Str) = some 4 := by decide +kernel
            rw [hc, this] at hk; injection hk with hk; exact hk.symm
          match ns, hlen, h with
          | [a, b, c], hlen, h =>
            have e1 : atI [w, a, b, c] 2 = some b := atC (x := w) (xs := [a, b, c]) (k := 1) (by simp)
            rw [e1, if_pos (by simp [hc])]
            simp only [ofO_some, bnd_rt]
            unfold nums cutx
            by_cases hb : b ∈ [("-1" : Str), ("-2" : Str)]
            · rw [if_pos (by simpa using hb)]
              rw [(mval_ok hb).1]
              have e5 : setAt (List.map numO [a, b, c]) 1 (some (mval b)) = some ((List.map numO [a, b, c]).set 1 (some (mval b))) := setAt_ok (by decide) (by simp)
              refine (bnd_eq (by rfl)).trans ?_
              refine (bnd_eq (ofO_eq e5)).trans ?_
              rw [if_pos (by simp only [hc, decide_true, Bool.true_and, decide_eq_true_eq]; exact hb)]
              rfl
            · rw [if_neg (by simpa using hb)]
              rw [if_neg (by simp only [hc, decide_true, Bool.true_and, decide_eq_true_eq]; exact hb)]
          | [], hlen, h => simp at hlen; omega
          | [_], hlen, h => simp at hlen; omega
          | [_, _], hlen, h => simp at hlen; omega
          | _ :: _ :: _ :: _ :: _, hlen, h => simp at hlen; omega
        · rw [if_neg (by simp [hc])]
          unfold nums cutx
          simp [hc]
    · rw [if_pos (by simp [hlen]), if_neg hlen]
      rfl
end K08
namespace K08
open PySem L2 DL TL
/-! the law's own reader: the loop -/
def rdF (s3 : List Str) : Int → ((Option Int) × (List D)) → O ((Option Int) × (List D)) ((Option Int) × (List D)) D := (fun (y8 : Int) (s7 : ((Option Int) × (List D))) => (O.bnd (ofO (atI s3 y8)) fun x9 => (O.bnd (ofO (splitS x9 (" " : Str))) fun x10 => (O.bnd (ofO (sized (List.map (fun (y11 : Str) => y11) (List.filter (fun (y11 : Str) => (!decide (y11 = ("" : Str)))) x10)))) fun x12 => (O.bnd ((if (decide ((x12.length : Int) = 0)) then (.rt true) else (O.bnd (ofO (atI x12 0)) fun x13 => (O.bnd (ofO (gIx (D.str x13) (D.int 0))) fun x14 => (O.bnd (ofO (eqD x14 (D.str ("#" : Str)))) fun x15 => (.rt x15))))) : Fr Bool) fun x16 => (if x16 then (.ct (s7.1, s7.2)) else (if s7.1.isNone then (O.bnd ((if (!decide ((x12.length : Int) = 2)) then (.rt true) else (O.bnd ((O.bnd (ofO (atI x12 0)) fun x17 => (if (!decide (x17 = ("code" : Str))) then (.rt true) else (O.bnd (ofO (atI x12 1)) fun x18 => (O.bnd (n__law_number x18) fun x19 => (.rt x19.isNone))))) : Fr Bool) fun x20 => (.rt x20))) : Fr Bool) fun x21 => (if x21 then (.rt (D.tup [(D.str ("bad" : Str)), (D.int (y8 + 1)), (D.str ("code" : Str))])) else (O.bnd (ofO (atI x12 1)) fun x22 => (O.bnd (n__law_number x22) fun x23 => (.ct (x23, s7.2)))))) else (O.bnd (ofO (atI x12 0)) fun x24 => (O.bnd (n__law_long x24) fun x25 => (if (decide (x25 = 0)) then (.rt (D.tup [(D.str ("bad" : Str)), (D.int (y8 + 1)), (D.str ("kind" : Str))])) else (if (!decide ((x12.length : Int) = x25)) then (.rt (D.tup [(D.str ("bad" : Str)), (D.int (y8 + 1)), (D.str ("words" : Str))])) else (O.bnd (nLs (fun (y26 : Str) (s27 : Unit) => ((O.bnd (n__law_number y26) fun x28 => (.rt (x28, ()))) : O Unit Empty ((Option Int) × Unit))) (cutD x12 (some 1) none) ()) fun (r29 : List (Option Int) × Unit) => (O.seq (O.bnd ((O.bnd (ofO (atI x12 0)) fun x31 => (if (decide (x31 = ("cut" : Str))) then (O.bnd (ofO (atI x12 2)) fun x32 => (.rt (decide (x32 ∈ [("-1" : Str), ("-2" : Str)])))) else (.rt false))) : Fr Bool) fun x33 => (if x33 then (O.bnd (ofO (atI x12 2)) fun x34 => (O.bnd (ofO (intS x34)) fun x35 => (O.bnd (ofO (setAt r29.1 1 (some x35))) fun numbers37 => (.nx numbers37)))) else (.nx r29.1))) fun (s30 : (List (Option Int))) => (O.bnd (noX ((O.bnd (ofO (inD D.non ((vL (oD D.int)) s30))) fun x38 => (.rt x38)) : Fr Bool)) fun x39 => (if x39 then (.rt (D.tup [(D.str ("bad" : Str)), (D.int (y8 + 1)), (D.str ("number" : Str))])) else (O.bnd (ofO (atI x12 0)) fun x40 => (O.bnd (ofO (gAdd (D.tup [(D.str x40)]) ((vT (oD D.int)) s30))) fun x41 => (O.bnd (ofO (push (α := D) s7.2 x41)) fun rows43 => (.nx (s7.1, rows43))))))))))))))))))))
theorem hd2_n {ws : List Str} (h : wdsOk ws) : ((if (!decide ((ws.length : Int) = 2)) then (.rt true) else (O.bnd ((O.bnd (ofO (atI ws 0)) fun x17 => (if (!decide (x17 = ("code" : Str))) then (.rt true) else (O.bnd (ofO (atI ws 1)) fun x18 => (O.bnd (n__law_number x18) fun x19 => (.rt x19.isNone))))) : Fr Bool) fun x20 => (.rt x20))) : Fr Bool) = .rt (hdN ws).isNone := by
  match ws, h with
  | [], h => rfl
  | [a], h => rfl
  | a :: b :: c :: r, h => rw [if_pos (by simp; omega)]; rfl
  | [w, a], h =>
    rw [if_neg (by simp), at0]
    have e1 : atI [w, a] 1 = some a := atC (x := w) (xs := [a]) (k := 0) (by simp)
    rw [e1]
    simp only [ofO_some, bnd_rt]
    rw [number_n a (by have := h.2 a (by simp); omega)]
    by_cases hc : w = "code"
    · rw [if_neg (by simp [hc])]; simp [hdN, hc]
    · rw [if_pos (by simp [hc])]; simp [hdN, hc]
theorem rd_turn {ls : List Str} {k : Nat} (hk : k < ls.length) (hl : ls[k].length ≤ 1000000) {s : (Option Int) × (List D)} (hs : s.2.length < 16777216) : rdF ls (k : Int) s = if pasd (wordsOf ls[k]) = true then .ct (s.1, s.2) else match s.1 with
    | none => (match hdN (wordsOf ls[k]) with
      | none => .rt (badD ((k : Int) + 1) "code")
      | some p => .ct (some p, s.2))
    | some p => match rowE (wordsOf ls[k]) with
      | some e => .rt (badD ((k : Int) + 1) e)
      | none => .nx (s.1, s.2 ++ [rowD (wordsOf ls[k])]) := by
  unfold rdF
  have e1 : atI ls (k : Int) = some ls[k] := atI_get (List.getElem?_eq_getElem hk)
  refine (bnd_eq (ofO_eq e1)).trans ?_
  refine (bnd_eq (ofO_eq (splitS_ok t_sp (by omega)))).trans ?_
  have e : (List.map (fun (y2 : Str) => y2) (List.filter (fun (y2 : Str) => (!decide (y2 = ("" : Str)))) (Txt.split ls[k] (" " : Str)))) = wordsOf ls[k] := by
    rw [List.map_id']; rfl
  rw [e]
  have hwl := words_len ls[k]
  refine (bnd_eq (ofO_eq (sized_ok (by omega)))).trans ?_
  have hwd : wdsOk (wordsOf ls[k]) := ⟨by omega, fun w hw => by have := (words_mem hw).2; omega⟩
  refine (bnd_eq (pas_n hwd fun w hw => (words_mem hw).1)).trans ?_
  generalize wordsOf ls[k] = ws at *
  cases hp : pasd ws with
  | true => rfl
  | false =>
    obtain ⟨w, ns, rfl⟩ : ∃ w ns, ws = w :: ns := by
      cases ws with
      | nil => cases hp
      | cons w ns => exact ⟨w, ns, rfl⟩
    simp only [Bool.false_eq_true, if_false]
    obtain ⟨o, acc⟩ := s
    cases o with
    | some p =>
      rw [if_neg (by simp)]
      exact row_n hwd hs
    | none =>
      rw [if_pos (by simp)]
      refine (bnd_eq (hd2_n hwd)).trans ?_
      simp only
      cases hh : hdN (w :: ns) with
      | none => rfl
      | some p =>
        obtain ⟨a, e, ea⟩ := hdN_p hh
        rw [if_neg (by simp)]
        have e1 : atI (w :: ns) 1 = some a := by rw [e]; exact atC (x := ("code" : Str)) (xs := [a]) (k := 0) (by simp)
        refine (bnd_eq (ofO_eq e1)).trans ?_
        have ha : a ∈ w :: ns := by rw [e]; simp
        refine (bnd_eq (number_n a (by have := hwd.2 a ha; omega))).trans ?_
        have : numO a = some p := by rw [e] at hh; simpa [hdN] using hh
        rw [this]
end K08
namespace K08
open PySem L2 DL TL
theorem nFor_ct {α σ L β : Type} {f : α → σ → O σ σ β} {x : α} {xs : List α} {s s' : σ} (h : f x s = .ct s') : (nFor f (x :: xs) s : O σ L β) = nFor f xs s' := by rw [nFor_cons, h]
theorem drop_rows {ls : List Str} {k : Nat} (hk : k < ls.length) : rowsFrom k (ls.drop k) = if pasd (wordsOf ls[k]) = true then rowsFrom (k + 1) (ls.drop (k + 1)) else (((k : Int) + 1, wordsOf ls[k]) :: rowsFrom (k + 1) (ls.drop (k + 1))) := by
  rw [List.drop_eq_getElem_cons hk]; conv => lhs; unfold rowsFrom
theorem rd_rows {L : Type} {ls : List Str} (h : ∀ l ∈ ls, l.length ≤ 1000000) (hl : ls.length ≤ 1000001) (p : Int) : ∀ (n k : Nat) (acc : List D), k + n = ls.length → acc.length ≤ k → (nFor (rdF ls) (rgI (k : Int) n) (some p, acc) : O _ L D) = match rowsR (rowsFrom k (ls.drop k)) with
    | .ok ds => .nx (some p, acc ++ ds)
    | .error (i, e) => .rt (badD i e)
  | 0, k, acc, hk, ha => by
    have : ls.drop k = [] := by rw [List.drop_eq_nil_iff]; omega
    rw [this, rgI_zero]; simp [rowsFrom, rowsR, nFor]
  | n+1, k, acc, hk, ha => by
    have hk' : k < ls.length := by omega
    have t := rd_turn hk' (h _ (List.getElem_mem hk')) (s := (some p, acc)) (by show acc.length < _; omega)
    rw [rgI_succ, show (k : Int) + 1 = ((k + 1 : Nat) : Int) by omega, drop_rows hk']
    cases hp : pasd (wordsOf ls[k]) with
    | true =>
      rw [hp, if_pos rfl] at t
      rw [nFor_ct t, if_pos rfl]
      exact rd_rows h hl p n (k+1) acc (by omega) (by omega)
    | false =>
      rw [hp, if_neg (by simp)] at t
      simp only at t
      rw [if_neg (by simp)]
      unfold rowsR
      cases hr : rowE (wordsOf ls[k]) with
      | some e =>
        rw [hr] at t
        rw [nFor_rt t]
      | none =>
        rw [hr] at t
        rw [nFor_nx t, rd_rows h hl p n (k+1) _ (by omega) (by simp; omega)]
        simp only
        cases rowsR (rowsFrom (k + 1) (ls.drop (k + 1))) with
        | ok ds => simp
        | error e => rfl
theorem rd_none {L : Type} {ls : List Str} (h : ∀ l ∈ ls, l.length ≤ 1000000) (hl : ls.length ≤ 1000001) : ∀ (n k : Nat), k + n = ls.length → (nFor (rdF ls) (rgI (k : Int) n) (none, []) : O _ L D) = match rowsFrom k (ls.drop k) with
    | [] => .nx (none, [])
    | (i, ws) :: r => match hdN ws with
      | none => .rt (badD i "code")
      | some p => match rowsR r with
        | .ok ds => .nx (some p, ds)
        | .error (j, e) => .rt (badD j e)
  | 0, k, hk => by
    have : ls.drop k = [] := by rw [List.drop_eq_nil_iff]; omega
    rw [this, rgI_zero]; simp [rowsFrom, nFor]
  | n+1, k, hk => by
    have hk' : k < ls.length := by omega
    have t := rd_turn hk' (h _ (List.getElem_mem hk')) (s := (none, [])) (by simp)
    rw [rgI_succ, show (k : Int) + 1 = ((k + 1 : Nat) : Int) by omega, drop_rows hk']
    cases hp : pasd (wordsOf ls[k]) with
    | true =>
      rw [hp, if_pos rfl] at t
      rw [nFor_ct t, if_pos rfl]
      exact rd_none h hl n (k+1) (by omega)
    | false =>
      rw [hp, if_neg (by simp)] at t
      simp only at t
      rw [if_neg (by simp)]
      simp only
      cases hr : hdN (wordsOf ls[k]) with
      | none =>
        rw [hr] at t
        rw [nFor_rt t]
      | some p =>
        rw [hr] at t
        rw [nFor_ct t, rd_rows h hl p n (k+1) _ (by omega) (by simp)]
        simp only
        cases rowsR (rowsFrom (k + 1) (ls.drop (k + 1))) with
        | ok ds => simp
        | error e => rfl
theorem read_n {t : Str} (h : t.length ≤ 1000000) : n__law_read t = .rt (told t) := by
  unfold n__law_read told
  rw [bnd_eq (a := Txt.split t ("\n" : Str)) (bnd_eq (ofO_eq (splitS_ok t_nl (by omega))))]
  have hln := lines_len t
  have hmem : ∀ l ∈ linesOf t, l.length ≤ 1000000 := fun l hl => by have := lines_mem hl; omega
  rw [seq_eq (a := linesOf t)]
  · refine (bnd_eq (ofO_eq (rg1_ok (by omega)))).trans ?_
    rw [show ((linesOf t).length : Int).toNat = (linesOf t).length from Int.toNat_natCast _]
    have e := rd_none (L := Empty) hmem (by omega) (linesOf t).length 0 (by omega)
    rw [List.drop_zero] at e
    show O.seq (nFor (rdF (linesOf t)) (rgI ((0 : Nat) : Int) (linesOf t).length) (none, [])) _ = _
    rw [e]
    cases rowsFrom 0 (linesOf t) with
    | nil => rfl
    | cons q r =>
      obtain ⟨i, ws⟩ := q
      unfold toldR
      simp only
      cases hdN ws with
      | none => rfl
      | some p =>
        simp only
        cases rowsR r with
        | ok ds =>
          have e : vT vD ds = D.tup ds := by unfold vT; rw [show ds.map vD = ds from List.map_id' ds]
          show (O.rt (D.tup [D.str "told", D.tup [D.int p, vT vD ds]]) : Fr D) = _
          rw [e]
        | error x => rfl
  · obtain ⟨ini, z, e⟩ := last_of (split_ne (x := t) t_nl (by decide))
    unfold linesOf
    rw [e]
    refine (bnd_eq (ofO_eq atI_last)).trans ?_
    by_cases hz : z = ("" : Str)
    · rw [if_pos (by simp [hz]), if_pos (by simp [hz])]
      refine (bnd_eq (ofO_eq popL_snoc)).trans ?_
      simp
    · rw [if_neg (by simp [hz]), if_neg (by simp [hz])]
end K08
namespace K08
open PySem L2 DL TL
theorem told_of {t : Str} {n : Nat} {rows : List (Int × List Str)} (h : (rowsFrom 0 (linesOf t), (linesOf t).length) = (rows, n)) : told t = toldR (n : Int) rows := by
  unfold told
  injection h with h1 h2
  rw [h1, h2]
theorem hand0 : told ("" : Str) = toldR 0 [] := told_of (n := 0) (by decide +kernel)
theorem hand1 : told ("\n" : Str) = toldR 1 [] := told_of (n := 1) (by decide +kernel)
theorem hand2 : told ("# code 1" : Str) = toldR 1 [] := told_of (n := 1) (by decide +kernel)
theorem hand3 : told ("turn" : Str) = toldR 1 [(1, [("turn" : Str)])] := told_of (n := 1) (by decide +kernel)
theorem hand4 : told ("code" : Str) = toldR 1 [(1, [("code" : Str)])] := told_of (n := 1) (by decide +kernel)
theorem hand5 : told ("code 01" : Str) = toldR 1 [(1, [("code" : Str), ("01" : Str)])] := told_of (n := 1) (by decide +kernel)
theorem hand6 : told ("code -1" : Str) = toldR 1 [(1, [("code" : Str), ("-1" : Str)])] := told_of (n := 1) (by decide +kernel)
theorem hand7 : told ("code 1 2" : Str) = toldR 1 [(1, [("code" : Str), ("1" : Str), ("2" : Str)])] := told_of (n := 1) (by decide +kernel)
theorem hand8 : told ("code 2\nturn\nkeep 1" : Str) = toldR 3 [(1, [("code" : Str), ("2" : Str)]), (2, [("turn" : Str)]), (3, [("keep" : Str), ("1" : Str)])] := told_of (n := 3) (by decide +kernel)
theorem hand9 : told ("code 0" : Str) = toldR 1 [(1, [("code" : Str), ("0" : Str)])] := told_of (n := 1) (by decide +kernel)
theorem hand10 : told ("code 1\nturns" : Str) = toldR 2 [(1, [("code" : Str), ("1" : Str)]), (2, [("turns" : Str)])] := told_of (n := 2) (by decide +kernel)
theorem hand11 : told ("code 1\nturn 1" : Str) = toldR 2 [(1, [("code" : Str), ("1" : Str)]), (2, [("turn" : Str), ("1" : Str)])] := told_of (n := 2) (by decide +kernel)
theorem hand12 : told ("code 1\ncut 0 -1 0" : Str) = toldR 2 [(1, [("code" : Str), ("1" : Str)]), (2, [("cut" : Str), ("0" : Str), ("-1" : Str), ("0" : Str)])] := told_of (n := 2) (by decide +kernel)
theorem hand13 : told ("code 1\ncut 0 -2 0\n" : Str) = toldR 2 [(1, [("code" : Str), ("1" : Str)]), (2, [("cut" : Str), ("0" : Str), ("-2" : Str), ("0" : Str)])] := told_of (n := 2) (by decide +kernel)
theorem hand14 : told ("code 1\ncut 0 -3 0" : Str) = toldR 2 [(1, [("code" : Str), ("1" : Str)]), (2, [("cut" : Str), ("0" : Str), ("-3" : Str), ("0" : Str)])] := told_of (n := 2) (by decide +kernel)
theorem hand15 : told ("code 1\ncut -1 0 0" : Str) = toldR 2 [(1, [("code" : Str), ("1" : Str)]), (2, [("cut" : Str), ("-1" : Str), ("0" : Str), ("0" : Str)])] := told_of (n := 2) (by decide +kernel)
theorem hand16 : told ("code 1\nset 0 -1" : Str) = toldR 2 [(1, [("code" : Str), ("1" : Str)]), (2, [("set" : Str), ("0" : Str), ("-1" : Str)])] := told_of (n := 2) (by decide +kernel)
theorem hand17 : told ("code 1\n\n#x\nput first 0" : Str) = toldR 4 [(1, [("code" : Str), ("1" : Str)]), (4, [("put" : Str), ("first" : Str), ("0" : Str)])] := told_of (n := 4) (by decide +kernel)
theorem hand18 : told ("code 1\ncode 1" : Str) = toldR 2 [(1, [("code" : Str), ("1" : Str)]), (2, [("code" : Str), ("1" : Str)])] := told_of (n := 2) (by decide +kernel)
theorem hand19 : told ("code 1\nless 1" : Str) = toldR 2 [(1, [("code" : Str), ("1" : Str)]), (2, [("less" : Str), ("1" : Str)])] := told_of (n := 2) (by decide +kernel)
theorem hand20 : told ("code 1\nless x" : Str) = toldR 2 [(1, [("code" : Str), ("1" : Str)]), (2, [("less" : Str), ("x" : Str)])] := told_of (n := 2) (by decide +kernel)
theorem hand21 : told ("code 1\nset 0 999999999\nset 0 1000000000" : Str) = toldR 3 [(1, [("code" : Str), ("1" : Str)]), (2, [("set" : Str), ("0" : Str), ("999999999" : Str)]), (3, [("set" : Str), ("0" : Str), ("1000000000" : Str)])] := told_of (n := 3) (by decide +kernel)
theorem hand22 : told ("code 1\nhalf\nturn 3" : Str) = toldR 3 [(1, [("code" : Str), ("1" : Str)]), (2, [("half" : Str)]), (3, [("turn" : Str), ("3" : Str)])] := told_of (n := 3) (by decide +kernel)
theorem hand23 : told ("code 1\n  swap   3  \n " : Str) = toldR 3 [(1, [("code" : Str), ("1" : Str)]), (2, [("swap" : Str), ("3" : Str)])] := told_of (n := 3) (by decide +kernel)
theorem hand24 : told ("code 1\ncut 0 -0 0" : Str) = toldR 2 [(1, [("code" : Str), ("1" : Str)]), (2, [("cut" : Str), ("0" : Str), ("-0" : Str), ("0" : Str)])] := told_of (n := 2) (by decide +kernel)
theorem hand25 : told ("code 1\ncut 0 half 0" : Str) = toldR 2 [(1, [("code" : Str), ("1" : Str)]), (2, [("cut" : Str), ("0" : Str), ("half" : Str), ("0" : Str)])] := told_of (n := 2) (by decide +kernel)
theorem hand26 : told ("Code 1" : Str) = toldR 1 [(1, [("Code" : Str), ("1" : Str)])] := told_of (n := 1) (by decide +kernel)
end K08
namespace K08
open PySem L2 DL TL
theorem hd0 : hdN [("turn" : Str)] = none := by decide +kernel
theorem hd1 : hdN [("code" : Str)] = none := by decide +kernel
theorem hd2 : hdN [("code" : Str), ("01" : Str)] = none := by decide +kernel
theorem hd3 : hdN [("code" : Str), ("-1" : Str)] = none := by decide +kernel
theorem hd4 : hdN [("code" : Str), ("1" : Str), ("2" : Str)] = none := by decide +kernel
theorem hd5 : hdN [("code" : Str), ("2" : Str)] = some 2 := by decide +kernel
theorem re0 : rowE [("turn" : Str)] = none := by decide +kernel
theorem rn0 : nums ("turn" : Str) [] = [] := by decide +kernel
theorem rd0 : rowD [("turn" : Str)] = D.tup [D.str ("turn" : Str)] := by show D.tup (D.str _ :: (nums _ _).map (oD D.int)) = _; rw [rn0]; rfl
theorem re1 : rowE [("keep" : Str), ("1" : Str)] = none := by decide +kernel
theorem rn1 : nums ("keep" : Str) [("1" : Str)] = [some (1)] := by decide +kernel
theorem rd1 : rowD [("keep" : Str), ("1" : Str)] = D.tup [D.str ("keep" : Str), D.int (1)] := by show D.tup (D.str _ :: (nums _ _).map (oD D.int)) = _; rw [rn1]; rfl
theorem hd6 : hdN [("code" : Str), ("0" : Str)] = some 0 := by decide +kernel
theorem hd7 : hdN [("code" : Str), ("1" : Str)] = some 1 := by decide +kernel
theorem re2 : rowE [("turns" : Str)] = some ("kind" : Str) := by decide +kernel
theorem re3 : rowE [("turn" : Str), ("1" : Str)] = some ("words" : Str) := by decide +kernel
theorem re4 : rowE [("cut" : Str), ("0" : Str), ("-1" : Str), ("0" : Str)] = none := by decide +kernel
theorem rn4 : nums ("cut" : Str) [("0" : Str), ("-1" : Str), ("0" : Str)] = [some (0), some (-1), some (0)] := by decide +kernel
theorem rd4 : rowD [("cut" : Str), ("0" : Str), ("-1" : Str), ("0" : Str)] = D.tup [D.str ("cut" : Str), D.int (0), D.int (-1), D.int (0)] := by show D.tup (D.str _ :: (nums _ _).map (oD D.int)) = _; rw [rn4]; rfl
theorem re5 : rowE [("cut" : Str), ("0" : Str), ("-2" : Str), ("0" : Str)] = none := by decide +kernel
theorem rn5 : nums ("cut" : Str) [("0" : Str), ("-2" : Str), ("0" : Str)] = [some (0), some (-2), some (0)] := by decide +kernel
theorem rd5 : rowD [("cut" : Str), ("0" : Str), ("-2" : Str), ("0" : Str)] = D.tup [D.str ("cut" : Str), D.int (0), D.int (-2), D.int (0)] := by show D.tup (D.str _ :: (nums _ _).map (oD D.int)) = _; rw [rn5]; rfl
theorem re6 : rowE [("cut" : Str), ("0" : Str), ("-3" : Str), ("0" : Str)] = some ("number" : Str) := by decide +kernel
theorem re7 : rowE [("cut" : Str), ("-1" : Str), ("0" : Str), ("0" : Str)] = some ("number" : Str) := by decide +kernel
theorem re8 : rowE [("set" : Str), ("0" : Str), ("-1" : Str)] = some ("number" : Str) := by decide +kernel
theorem re9 : rowE [("put" : Str), ("first" : Str), ("0" : Str)] = some ("number" : Str) := by decide +kernel
theorem re10 : rowE [("code" : Str), ("1" : Str)] = some ("kind" : Str) := by decide +kernel
theorem re11 : rowE [("less" : Str), ("1" : Str)] = some ("words" : Str) := by decide +kernel
theorem re12 : rowE [("less" : Str), ("x" : Str)] = some ("words" : Str) := by decide +kernel
theorem re13 : rowE [("set" : Str), ("0" : Str), ("999999999" : Str)] = none := by decide +kernel
theorem rn13 : nums ("set" : Str) [("0" : Str), ("999999999" : Str)] = [some (0), some (999999999)] := by decide +kernel
theorem rd13 : rowD [("set" : Str), ("0" : Str), ("999999999" : Str)] = D.tup [D.str ("set" : Str), D.int (0), D.int (999999999)] := by show D.tup (D.str _ :: (nums _ _).map (oD D.int)) = _; rw [rn13]; rfl
theorem re14 : rowE [("set" : Str), ("0" : Str), ("1000000000" : Str)] = some ("number" : Str) := by decide +kernel
theorem re15 : rowE [("half" : Str)] = some ("kind" : Str) := by decide +kernel
theorem re16 : rowE [("swap" : Str), ("3" : Str)] = none := by decide +kernel
theorem rn16 : nums ("swap" : Str) [("3" : Str)] = [some (3)] := by decide +kernel
theorem rd16 : rowD [("swap" : Str), ("3" : Str)] = D.tup [D.str ("swap" : Str), D.int (3)] := by show D.tup (D.str _ :: (nums _ _).map (oD D.int)) = _; rw [rn16]; rfl
theorem re17 : rowE [("cut" : Str), ("0" : Str), ("-0" : Str), ("0" : Str)] = some ("number" : Str) := by decide +kernel
theorem re18 : rowE [("cut" : Str), ("0" : Str), ("half" : Str), ("0" : Str)] = some ("number" : Str) := by decide +kernel
theorem hd8 : hdN [("Code" : Str), ("1" : Str)] = none := by decide +kernel
theorem hk0 : told ("" : Str) = badD 1 "code" := by rw [hand0]; rfl
theorem hk1 : told ("\n" : Str) = badD 2 "code" := by rw [hand1]; rfl
theorem hk2 : told ("# code 1" : Str) = badD 2 "code" := by rw [hand2]; rfl
theorem hk3 : told ("turn" : Str) = badD 1 "code" := by rw [hand3]; simp only [toldR, rowsR, hd0]
theorem hk4 : told ("code" : Str) = badD 1 "code" := by rw [hand4]; simp only [toldR, rowsR, hd1]
theorem hk5 : told ("code 01" : Str) = badD 1 "code" := by rw [hand5]; simp only [toldR, rowsR, hd2]
theorem hk6 : told ("code -1" : Str) = badD 1 "code" := by rw [hand6]; simp only [toldR, rowsR, hd3]
theorem hk7 : told ("code 1 2" : Str) = badD 1 "code" := by rw [hand7]; simp only [toldR, rowsR, hd4]
theorem hk8 : told ("code 2\nturn\nkeep 1" : Str) = D.tup [D.str "told", D.tup [D.int 2, D.tup [D.tup [D.str ("turn" : Str)], D.tup [D.str ("keep" : Str), D.int (1)]]]] := by rw [hand8]; simp only [toldR, rowsR, hd5, re0, rd0, re1, rd1]
theorem hk9 : told ("code 0" : Str) = D.tup [D.str "told", D.tup [D.int 0, D.tup []]] := by rw [hand9]; simp only [toldR, rowsR, hd6]
theorem hk10 : told ("code 1\nturns" : Str) = badD 2 ("kind" : Str) := by rw [hand10]; simp only [toldR, rowsR, hd7, re2]
theorem hk11 : told ("code 1\nturn 1" : Str) = badD 2 ("words" : Str) := by rw [hand11]; simp only [toldR, rowsR, hd7, re3]
theorem hk12 : told ("code 1\ncut 0 -1 0" : Str) = D.tup [D.str "told", D.tup [D.int 1, D.tup [D.tup [D.str ("cut" : Str), D.int (0), D.int (-1), D.int (0)]]]] := by rw [hand12]; simp only [toldR, rowsR, hd7, re4, rd4]
theorem hk13 : told ("code 1\ncut 0 -2 0\n" : Str) = D.tup [D.str "told", D.tup [D.int 1, D.tup [D.tup [D.str ("cut" : Str), D.int (0), D.int (-2), D.int (0)]]]] := by rw [hand13]; simp only [toldR, rowsR, hd7, re5, rd5]
theorem hk14 : told ("code 1\ncut 0 -3 0" : Str) = badD 2 ("number" : Str) := by rw [hand14]; simp only [toldR, rowsR, hd7, re6]
theorem hk15 : told ("code 1\ncut -1 0 0" : Str) = badD 2 ("number" : Str) := by rw [hand15]; simp only [toldR, rowsR, hd7, re7]
theorem hk16 : told ("code 1\nset 0 -1" : Str) = badD 2 ("number" : Str) := by rw [hand16]; simp only [toldR, rowsR, hd7, re8]
theorem hk17 : told ("code 1\n\n#x\nput first 0" : Str) = badD 4 ("number" : Str) := by rw [hand17]; simp only [toldR, rowsR, hd7, re9]
theorem hk18 : told ("code 1\ncode 1" : Str) = badD 2 ("kind" : Str) := by rw [hand18]; simp only [toldR, rowsR, hd7, re10]
theorem hk19 : told ("code 1\nless 1" : Str) = badD 2 ("words" : Str) := by rw [hand19]; simp only [toldR, rowsR, hd7, re11]
theorem hk20 : told ("code 1\nless x" : Str) = badD 2 ("words" : Str) := by rw [hand20]; simp only [toldR, rowsR, hd7, re12]
theorem hk21 : told ("code 1\nset 0 999999999\nset 0 1000000000" : Str) = badD 3 ("number" : Str) := by rw [hand21]; simp only [toldR, rowsR, hd7, re13, rd13, re14]
theorem hk22 : told ("code 1\nhalf\nturn 3" : Str) = badD 2 ("kind" : Str) := by rw [hand22]; simp only [toldR, rowsR, hd7, re15]
theorem hk23 : told ("code 1\n  swap   3  \n " : Str) = D.tup [D.str "told", D.tup [D.int 1, D.tup [D.tup [D.str ("swap" : Str), D.int (3)]]]] := by rw [hand23]; simp only [toldR, rowsR, hd7, re16, rd16]
theorem hk24 : told ("code 1\ncut 0 -0 0" : Str) = badD 2 ("number" : Str) := by rw [hand24]; simp only [toldR, rowsR, hd7, re17]
theorem hk25 : told ("code 1\ncut 0 half 0" : Str) = badD 2 ("number" : Str) := by rw [hand25]; simp only [toldR, rowsR, hd7, re18]
theorem hk26 : told ("Code 1" : Str) = badD 1 "code" := by rw [hand26]; simp only [toldR, rowsR, hd8]
end K08
namespace K08
open PySem L2 DL TL
/-! codes of the law's own -/
def nine : List Str := [("turn" : Str), ("cut" : Str), ("put" : Str), ("copy" : Str), ("keep" : Str), ("empty" : Str), ("swap" : Str), ("set" : Str), ("less" : Str)]
def numsF : List Int := [0, 1, 2, 9, 99, 400, 999999999]
def cutF : List Int := [-1, -2, 0, 9, 12]
theorem numF_ok : ∀ i ∈ numsF ++ [12, 4, 7, 123456789], numO (tI i) = some i ∧ (tI i).length ≤ 9 := by decide +kernel
/-- a row as the law draws it -/
def GRow (r : Str × List Int) : Prop := r.1 ∈ nine ∧ tb_1.lookup r.1 = some ((r.2.length : Int) + 1) ∧ ∀ j (h : j < r.2.length), r.2[j] ∈ numsF ∨ (r.1 = "cut" ∧ j = 1 ∧ r.2[j] ∈ cutF)
def wdR (r : Str × List Int) : List Str := r.1 :: r.2.map tI
def dR (r : Str × List Int) : D := .tup (.str r.1 :: r.2.map .int)
theorem cutF_ok : ∀ i ∈ cutF, (i ∈ numsF ++ [12, 4, 7, 123456789]) ∨ ((tI i) ∈ [("-1" : Str), ("-2" : Str)] ∧ mval (tI i) = i) := by decide +kernel
theorem nineL : ∀ w ∈ nine, w = "cut" → tb_1.lookup w = some 4 := by decide +kernel
theorem nums_good {r : Str × List Int} (h : GRow r) : nums r.1 (r.2.map tI) = r.2.map some := by
  obtain ⟨w, is⟩ := r
  obtain ⟨h1, h2, h3⟩ := h
  simp only at h1 h2 h3
  have base : ∀ i, i ∈ numsF → numO (tI i) = some i := fun i hi => (numF_ok i (List.mem_append_left _ hi)).1
  have base2 : ∀ i, i ∈ numsF ++ [12, 4, 7, 123456789] → numO (tI i) = some i := fun i hi => (numF_ok i hi).1
  by_cases hc : w = "cut"
  · have h4 := nineL w h1 hc
    rw [h4] at h2
    have h5 : is.length = 3 := by injection h2 with h2; omega
    match is, h5 with
    | [a, b, c], h5 =>
      have ha : numO (tI a) = some a := by
        rcases h3 0 (by simp) with q | ⟨_, q, _⟩
        · exact base _ q
        · cases q
      have hcc : numO (tI c) = some c := by
        rcases h3 2 (by simp) with q | ⟨_, q, _⟩
        · exact base _ q
        · cases q
      have hb : (numO (tI b) = some b ∧ ¬ (tI b) ∈ [("-1" : Str), ("-2" : Str)]) ∨ ((tI b) ∈ [("-1" : Str), ("-2" : Str)] ∧ mval (tI b) = b) := by
        have hb0 : b ∈ numsF ++ [12, 4, 7, 123456789] ∨ ((tI b) ∈ [("-1" : Str), ("-2" : Str)] ∧ mval (tI b) = b) := by
          rcases h3 1 (by simp) with q | ⟨_, _, q⟩
          · exact .inl (List.mem_append_left _ q)
          · exact cutF_ok _ q
        rcases hb0 with q | q
        · refine .inl ⟨base2 _ q, fun z => ?_⟩
          have := (mval_ok z).2
          have e := base2 _ q
          unfold numO at e; rw [this] at e; simp at e
        · exact .inr q
      unfold nums cutx
      rcases hb with ⟨q1, q2⟩ | ⟨q1, q2⟩
      · simp only [List.map_cons, List.map_nil, hc, decide_true, Bool.true_and, q2, decide_false, Bool.false_eq_true, if_false, ha, q1, hcc]
      · simp only [List.map_cons, List.map_nil, hc, decide_true, Bool.true_and, q1, if_true, ha, hcc]
        simp [q2]
  · have : cutx w (is.map tI) = false := by unfold cutx; simp [hc]
    unfold nums
    rw [this]
    simp only [Bool.false_eq_true, if_false, List.map_map]
    refine List.map_congr_left fun i hi => ?_
    obtain ⟨j, hj, rfl⟩ := List.getElem_of_mem hi
    rcases h3 j hj with q | ⟨q, _⟩
    · exact base _ q
    · exact absurd q hc
theorem row_good {r : Str × List Int} (h : GRow r) : rowE (wdR r) = none ∧ rowD (wdR r) = dR r := by
  have e := nums_good h
  obtain ⟨h1, h2, h3⟩ := h
  unfold rowE rowD wdR dR
  simp only [h2, e]
  refine ⟨?_, ?_⟩
  · rw [if_pos (by simp)]
    rw [if_neg (by simp)]
  · rw [List.map_map]; rfl
end K08
namespace K08
open PySem L2 DL TL
theorem get_fix {α : Type} {xs : List α} {i : Int} (h0 : 0 ≤ i) (h1 : i < xs.length) : ∃ a, atI xs i = some a ∧ a ∈ xs := by
  have hk : i.toNat < xs.length := by omega
  exact ⟨xs[i.toNat], by rw [at_nat h0 h1, List.getElem?_eq_getElem hk], List.getElem_mem hk⟩
theorem nLc_ex {α β σ : Type} {F : α → σ → O σ Empty (β × σ)} {P : σ → Prop} {Q : β → Prop} : ∀ (xs : List α) (s : σ), P s → (∀ x ∈ xs, ∀ s, P s → ∃ b s', F x s = .rt (b, s') ∧ P s' ∧ Q b) → ∃ bs s', nLc F xs s = .rt (bs, s') ∧ P s' ∧ bs.length = xs.length ∧ ∀ b ∈ bs, Q b
  | [], s, hp, _ => ⟨[], s, rfl, hp, rfl, by simp⟩
  | x :: xs, s, hp, h => by
    obtain ⟨b, s1, e1, p1, q1⟩ := h x List.mem_cons_self s hp
    obtain ⟨bs, s2, e2, p2, l2, q2⟩ := nLc_ex xs s1 p1 fun y hy => h y (List.mem_cons_of_mem _ hy)
    refine ⟨b :: bs, s2, ?_, p2, by simp [l2], fun c hc => ?_⟩
    · unfold nLc; rw [e1]; simp only [e2]; rfl
    · rcases List.mem_cons.mp hc with rfl | hc
      · exact q1
      · exact q2 c hc
theorem nLs_ex {α β σ : Type} {F : α → σ → O σ Empty (β × σ)} {P : σ → Prop} {Q : β → Prop} (xs : List α) (s : σ) (hp : P s) (hl : xs.length ≤ 16777216) (h : ∀ x ∈ xs, ∀ s, P s → ∃ b s', F x s = .rt (b, s') ∧ P s' ∧ Q b) : ∃ bs s', nLs F xs s = .rt (bs, s') ∧ P s' ∧ bs.length = xs.length ∧ ∀ b ∈ bs, Q b := by
  obtain ⟨bs, s', e, p, l, q⟩ := nLc_ex xs s hp h
  refine ⟨bs, s', ?_, p, l, q⟩
  unfold nLs
  rw [e, bnd_rt, sized_ok (show bs.length ≤ _ by omega)]; rfl
theorem nine_lk : ∀ w ∈ nine, ∃ k, tb_1.lookup w = some k := by
  intro w hw
  have : ∀ w ∈ nine, (tb_1.lookup w).isSome = true := by decide +kernel
  exact Option.isSome_iff_exists.mp (this w hw)
theorem code_n {p : List D} (hp : RlOk p) : ∃ (n : Int) (rs : List (Str × List Int)) (p' : List D), n__law_code p = .rt ((n, rs.map dR), p') ∧ RlOk p' ∧ n ∈ numsF ++ [12, 4, 7, 123456789] ∧ rs.length ≤ 7 ∧ ∀ r ∈ rs, GRow r := by
  unfold n__law_code
  obtain ⟨m, p1, e1, m0, m1, hp1⟩ := spin_n hp (n := 7) (by decide)
  rw [bnd_eq e1, bnd_eq (ofO_eq (rg1_ok (by omega)))]
  generalize hF : (fun (y4 : Int) (s3 : ((List D) × (List D))) => _) = F
  obtain ⟨s, h1, h2, rs, h3, h4, h5⟩ := nFor_ex (L := Empty) (f := F) (P := fun r s => RlOk s.1 ∧ ∃ rs : List (Str × List Int), s.2 = rs.map dR ∧ rs.length + r.length ≤ 7 ∧ ∀ r ∈ rs, GRow r) (fun x r s ⟨hs, rs, q1, q2, q3⟩ => by
    simp only [List.length_cons] at q2
    subst hF
    obtain ⟨a, p2, e2, a0, a1, hp2⟩ := spin_n hs (n := 9) (by decide)
    obtain ⟨w, ew, hw⟩ := get_fix (xs := nine) a0 (by exact a1)
    obtain ⟨k, hk⟩ := nine_lk w hw
    have hk2 := lookup_ge hk
    obtain ⟨is, p3, e3, hp3, l3, q4⟩ := nLs_ex (F := fun (y10 : Int) (s11 : ((List D))) => ((O.bnd (n__law_spin s11 7) fun x12 => (O.bnd (ofO (atI [0, 1, 2, 9, 99, 400, 999999999] x12.1)) fun x13 => (.rt (x13, x12.2)))) : O ((List D)) Empty (Int × ((List D))))) (P := RlOk) (Q := fun i => i ∈ numsF) (rgI 0 (k - 1).toNat) p2 hp2 (by rw [rgI_len]; omega) (fun x _ s hs => by
      obtain ⟨b, p4, e4, b0, b1, hp4⟩ := spin_n hs (n := 7) (by decide)
      obtain ⟨i, ei, hi⟩ := get_fix (xs := numsF) b0 (by exact b1)
      exact ⟨i, p4, by rw [bnd_eq e4]; exact bnd_eq (ofO_eq ei), hp4, hi⟩)
    rw [rgI_len] at l3
    have hl3 : (is.length : Int) + 1 = k := by omega
    have fin : ∀ (is' : List Int) (p4 : List D), RlOk p4 → GRow (w, is') → ∃ s', (O.bnd (ofO (gAdd (D.tup [(D.str w)]) ((vT D.int) is'))) fun x20 => (O.bnd (ofO (push (α := D) s.2 x20)) fun rows22 => (.nx (p4, rows22))) : O ((List D) × (List D)) ((List D) × (List D)) ((Int × List D) × List D)) = .nx s' ∧ RlOk s'.1 ∧ ∃ rs : List (Str × List Int), s'.2 = rs.map dR ∧ rs.length + r.length ≤ 7 ∧ ∀ r ∈ rs, GRow r := fun is' p4 hp4 hg => by
      have hlk := hg.2.1
      have hl4 := lookup_ge hlk
      simp only at hl4
      have e5 : gAdd (D.tup [(D.str w)]) ((vT D.int) is') = some (dR (w, is')) := by
        show (if 1 + (is'.map D.int).length ≤ sizeLine then _ else _) = _
        rw [if_pos (by rw [List.length_map, sz]; omega)]
        rfl
      refine ⟨(p4, s.2 ++ [dR (w, is')]), ?_, hp4, rs ++ [(w, is')], by simp [q1], by simp; omega, fun r hr => ?_⟩
      · refine (bnd_eq (ofO_eq e5)).trans ?_
        exact bnd_eq (ofO_eq (push_ok (by rw [q1, List.length_map]; omega)))
      · rcases List.mem_append.mp hr with hr | hr
        · exact q3 r hr
        · rw [List.mem_singleton] at hr; subst hr; exact hg
    have hE : n__law_long w = .rt k := by unfold n__law_long; rw [hk]; rfl
    by_cases hc : w = "cut"
    · have hk4 : k = 4 := by
        have := nineL w hw hc
        rw [hk] at this; injection this
      obtain ⟨b, p4, e4, b0, b1, hp4⟩ := spin_n hp3 (n := 5) (by decide)
      obtain ⟨i, ei, hi⟩ := get_fix (xs := cutF) b0 (by exact b1)
      have e6 : setAt is 1 i = some (is.set 1 i) := setAt_ok (by decide) (by omega)
      obtain ⟨s', f1, f2⟩ := fin (is.set 1 i) p4 hp4 ⟨hw, by simp only [List.length_set]; rw [hk, hl3], fun j hj => by
        simp only [List.length_set] at hj
        by_cases h1 : j = 1
        · subst h1; refine .inr ⟨hc, rfl, ?_⟩; simpa using hi
        · simp only [List.getElem_set_ne (Ne.symm h1)]; exact .inl (q4 _ (List.getElem_mem hj))⟩
      refine ⟨s', ?_, f2⟩
      show O.bnd (O.bnd (n__law_spin s.1 9) _) _ = _
      rw [bnd_eq (a := (w, p2)) ((bnd_eq e2).trans (bnd_eq (ofO_eq ew)))]
      rw [bnd_eq hE, bnd_eq (ofO_eq (rg1_ok (by omega)))]
      rw [bnd_eq e3, if_pos (by simp [hc])]
      rw [seq_eq (a := (p4, is.set 1 i)) ((bnd_eq e4).trans ((bnd_eq (ofO_eq ei)).trans (bnd_eq (ofO_eq e6))))]
      exact f1
    · obtain ⟨s', f1, f2⟩ := fin is p3 hp3 ⟨hw, by rw [hk, hl3], fun j hj => .inl (q4 _ (List.getElem_mem hj))⟩
      refine ⟨s', ?_, f2⟩
      show O.bnd (O.bnd (n__law_spin s.1 9) _) _ = _
      rw [bnd_eq (a := (w, p2)) ((bnd_eq e2).trans (bnd_eq (ofO_eq ew)))]
      rw [bnd_eq hE, bnd_eq (ofO_eq (rg1_ok (by omega)))]
      rw [bnd_eq e3, if_neg (by simp [hc])]
      exact f1) (rgI 0 m.toNat) (p1, []) ⟨hp1, [], rfl, by rw [rgI_len]; simp; omega, by simp⟩
  rw [seq_eq h1]
  obtain ⟨b, p4, e4, b0, b1, hp4⟩ := spin_n h2 (n := 5) (by decide)
  obtain ⟨i, ei, hi⟩ := get_fix (xs := ([1, 4, 0, 7, 123456789] : List Int)) b0 (by exact b1)
  refine ⟨i, rs, p4, ?_, hp4, ?_, by simpa using h4, h5⟩
  · rw [bnd_eq e4, bnd_eq (ofO_eq ei), h3]
  · revert hi
    have : ∀ i ∈ ([1, 4, 0, 7, 123456789] : List Int), i ∈ numsF ++ [12, 4, 7, 123456789] := by decide
    exact this i
end K08
namespace K08
open PySem L2 DL TL
/-! the lines of a code, joined and read back -/
def numsA : List Int := numsF ++ [12, 4, 7, 123456789] ++ (3 :: cutF)
def gwB (w : Str) : Bool := decide (w.length ≤ 10) && decide (tl w ≠ []) && (tl w).all (fun c => decide (c ≠ 32) && decide (c ≠ 10)) && decide ((tl w).head? ≠ some 35)
theorem gw_num : ∀ i ∈ numsA, gwB (tI i) = true ∧ i.natAbs.log2 < 1920 := by decide +kernel
theorem gw_nine : ∀ w ∈ ("code" : Str) :: nine, gwB w = true := by decide +kernel
theorem long4 : ∀ w ∈ nine, (tb_1.lookup w).getD 0 ≤ 4 := by decide +kernel
theorem strI_any {i : Int} (h : i ∈ numsA) : strI i = some (tI i) := strI_ok (gw_num i h).2
theorem grow_num {r : Str × List Int} (h : GRow r) : ∀ i ∈ r.2, i ∈ numsA := by
  intro i hi
  obtain ⟨j, hj, rfl⟩ := List.getElem_of_mem hi
  rcases h.2.2 j hj with q | ⟨_, _, q⟩
  · exact List.mem_append_left _ (List.mem_append_left _ q)
  · exact List.mem_append_right _ (List.mem_cons_of_mem _ q)
theorem grow_len {r : Str × List Int} (h : GRow r) : r.2.length ≤ 3 := by
  have := long4 r.1 h.1
  rw [h.2.1] at this
  simp only [Option.getD_some] at this
  omega
def lns (n : Int) (rs : List (Str × List Int)) : List (List Str) := [("code" : Str), tI n] :: rs.map wdR
theorem nLs_mp {α β γ : Type} {F : α → Unit → O Unit Empty (β × Unit)} {f : γ → α} {g : γ → β} (xs : List γ) (h : ∀ x ∈ xs, F (f x) () = .rt (g x, ())) (hl : xs.length ≤ 16777216) : nLs F (xs.map f) () = .rt (xs.map g, ()) := by
  have e : ∀ xs : List γ, (∀ x ∈ xs, F (f x) () = .rt (g x, ())) → nLc F (xs.map f) () = .rt (xs.map g, ()) := by
    intro xs
    induction xs with
    | nil => intro _; rfl
    | cons x xs ih =>
      intro h
      rw [List.map_cons]
      unfold nLc
      rw [h x List.mem_cons_self]
      simp only [ih fun y hy => h y (List.mem_cons_of_mem _ hy)]
      rfl
  unfold nLs
  rw [e xs h, bnd_rt, sized_ok (by rw [List.length_map]; exact hl)]; rfl
theorem lines_n {n : Int} {rs : List (Str × List Int)} (hn : n ∈ numsA) (hl : rs.length ≤ 7) (h : ∀ r ∈ rs, GRow r) : n__law_lines (n, rs.map dR) = .rt (lns n rs) := by
  unfold n__law_lines
  refine (bnd_eq (ofO_eq (strI_any hn))).trans ?_
  refine (bnd_eq (nLs_mp (g := wdR) rs (fun r hr => ?_) (by omega))).trans ?_
  · have hg := h r hr
    have h3 := grow_len hg
    have e1 : gIx (dR r) (D.int 0) = some (.str r.1) := at0
    have e2 : gSl (dR r) (some 1) none = some (.tup (r.2.map .int)) := by
      show some (D.tup (cutD _ (some 1) none)) = _
      rw [cut_drop (by decide)]; rfl
    refine (bnd_eq (ofO_eq e1)).trans ?_
    refine (bnd_eq (ofO_eq asS_s)).trans ?_
    refine (bnd_eq (ofO_eq e2)).trans ?_
    refine (bnd_eq (ofO_eq asLs_t)).trans ?_
    refine (bnd_eq (nLs_mp (g := tI) r.2 (fun i hi => ?_) (by omega))).trans ?_
    · exact bnd_eq (ofO_eq (strI_any (grow_num hg i hi)))
    · exact bnd_eq (ofO_eq (cat_ok (by simp; omega)))
  · exact bnd_eq (ofO_eq (cat_ok (by simp; omega)))
/-- sizes -/
theorem sum_le {k : Nat} : ∀ {ws : List Str}, (∀ w ∈ ws, w.length ≤ k) → (ws.map (·.length)).sum ≤ k * ws.length
  | [], _ => Nat.zero_le _
  | w :: ws, h => by
    have h1 := h w List.mem_cons_self
    have h2 := sum_le fun x hx => h x (List.mem_cons_of_mem w hx)
    rw [List.map_cons, List.sum_cons, List.length_cons, Nat.mul_succ]; omega
theorem joinL_len {S : List Nat} : ∀ ws : List (List Nat), (joinL S ws).length ≤ (ws.map (·.length)).sum + ws.length * S.length
  | [] => Nat.zero_le _
  | [w] => by simp [joinL]
  | w :: v :: r => by
    have := joinL_len (S := S) (v :: r)
    simp only [joinL, List.length_append, List.map_cons, List.sum_cons, List.length_cons] at this ⊢
    rw [Nat.succ_mul]; omega
theorem join_len (y : Str) (ws : List Str) : (Txt.join y ws).length ≤ (ws.map (·.length)).sum + ws.length * y.length := by
  rw [join_eq, len_tl, tl_join]
  have := joinL_len (S := tl y) (ws.map tl)
  rw [List.map_map, List.length_map, ← len_tl] at this
  have e : ws.map ((fun l : List Nat => l.length) ∘ tl) = ws.map (·.length) := List.map_congr_left fun w _ => (len_tl w).symm
  rw [e] at this
  exact this
theorem joinL_nil : ∀ ws : List (List Nat), joinL [] ws = ws.flatten
  | [] => rfl
  | [w] => by simp [joinL]
  | w :: v :: r => by
    have := joinL_nil (v :: r)
    simp only [joinL, this, List.nil_append, List.flatten_cons]
def lineOf (ws : List Str) : Str := Txt.join (" " : Str) ws
def plainOf (ls : List (List Str)) : Str := Txt.join ("" : Str) (ls.map fun ws => lineOf ws ++ ("\n" : Str))
/-- small lines -/
def Sm (k m : Nat) (ls : List (List Str)) : Prop := ls.length ≤ m ∧ ∀ ws ∈ ls, ws ≠ [] ∧ ws.length ≤ k ∧ ∀ w ∈ ws, w.length ≤ 10
theorem lineOf_len {ws : List Str} {k : Nat} (h : ws.length ≤ k) (h2 : ∀ w ∈ ws, w.length ≤ 10) : (lineOf ws).length ≤ 11 * k := by
  have := join_len (" " : Str) ws
  have h3 := sum_le h2
  have e : (" " : Str).length = 1 := by rw [len_tl, t_sp]; rfl
  rw [e] at this
  unfold lineOf
  omega
theorem nl_len : ("\n" : Str).length = 1 := by rw [len_tl, t_nl]; rfl
theorem app_len (x y : Str) : (x ++ y).length = x.length + y.length := by rw [len_tl, tl_append, List.length_append, ← len_tl, ← len_tl]
theorem sp_len : (" " : Str).length = 1 := by rw [len_tl, t_sp]; rfl
theorem em_len : ("" : Str).length = 0 := by rw [len_tl, t_empty]; rfl
theorem lns_sm {n : Int} {rs : List (Str × List Int)} (hn : n ∈ numsA) (hl : rs.length ≤ 7) (h : ∀ r ∈ rs, GRow r) : Sm 4 8 (lns n rs) ∧ ∀ ws ∈ lns n rs, ∀ w ∈ ws, gwB w = true := by
  have g1 : ∀ ws ∈ lns n rs, ∀ w ∈ ws, gwB w = true := by
    intro ws hws w hw
    rcases List.mem_cons.mp hws with rfl | hws
    · simp only [List.mem_cons, List.not_mem_nil, or_false] at hw
      rcases hw with rfl | rfl
      · exact gw_nine _ List.mem_cons_self
      · exact (gw_num n hn).1
    · obtain ⟨r, hr, rfl⟩ := List.mem_map.mp hws
      have hg := h r hr
      rcases List.mem_cons.mp hw with rfl | hw
      · exact gw_nine _ (List.mem_cons_of_mem _ hg.1)
      · obtain ⟨i, hi, rfl⟩ := List.mem_map.mp hw
        exact (gw_num i (grow_num hg i hi)).1
  refine ⟨⟨by simp [lns]; omega, fun ws hws => ?_⟩, g1⟩
  refine ⟨?_, ?_, fun w hw => ?_⟩
  · rcases List.mem_cons.mp hws with rfl | hws
    · simp
    · obtain ⟨r, hr, rfl⟩ := List.mem_map.mp hws; simp [wdR]
  · rcases List.mem_cons.mp hws with rfl | hws
    · simp
    · obtain ⟨r, hr, rfl⟩ := List.mem_map.mp hws
      have := grow_len (h r hr)
      simp [wdR]; omega
  · have := g1 ws hws w hw
    unfold gwB at this
    simp only [Bool.and_eq_true, decide_eq_true_eq] at this
    exact this.1.1.1
/-- the text of lines, by the law and by the program -/
theorem plain_n {ls : List (List Str)} {k m : Nat} (hk : k ≤ 40) (hm : m ≤ 40) (h : Sm k m ls) : ((O.bnd (nLs (fun (y3 : (List Str)) (s4 : Unit) => ((O.bnd (ofO (joinS (" " : Str) y3)) fun x5 => (O.bnd (ofO (catS x5 ("\n" : Str))) fun x6 => (.rt (x6, ())))) : O Unit Empty (Str × Unit))) ls ()) fun (r7 : List Str × Unit) => (O.bnd (ofO (joinS ("" : Str) r7.1)) fun x8 => (.rt x8))) : Fr Str) = .rt (plainOf ls) := by
  obtain ⟨h1, h2⟩ := h
  refine (bnd_eq (nLs_map (g := fun ws => lineOf ws ++ ("\n" : Str)) ls (fun ws hws => ?_) (by omega))).trans ?_
  · obtain ⟨_, h3, h4⟩ := h2 ws hws
    have h5 := sum_le h4
    refine (bnd_eq (ofO_eq (joinS_ok (by rw [sp_len]; omega)))).trans ?_
    have := lineOf_len h3 h4
    exact bnd_eq (ofO_eq (catS_ok (by rw [nl_len]; show (lineOf ws).length + 1 ≤ _; omega)))
  · refine bnd_eq (ofO_eq (joinS_ok ?_))
    rw [em_len]
    have := sum_le (k := 441) (ws := ls.map fun ws => lineOf ws ++ ("\n" : Str)) (fun w hw => by
      obtain ⟨ws, hws, rfl⟩ := List.mem_map.mp hw
      obtain ⟨_, h3, h4⟩ := h2 ws hws
      have := lineOf_len h3 h4
      rw [app_len, nl_len]; omega)
    rw [List.length_map] at this
    simp only [List.length_map]
    omega
theorem plain_len {ls : List (List Str)} {k m : Nat} (hk : k ≤ 40) (hm : m ≤ 40) (h : Sm k m ls) : (plainOf ls).length ≤ 20000 := by
  obtain ⟨h1, h2⟩ := h
  have := join_len ("" : Str) (ls.map fun ws => lineOf ws ++ ("\n" : Str))
  rw [em_len] at this
  have h3 := sum_le (k := 441) (ws := ls.map fun ws => lineOf ws ++ ("\n" : Str)) (fun w hw => by
      obtain ⟨ws, hws, rfl⟩ := List.mem_map.mp hw
      obtain ⟨_, h3, h4⟩ := h2 ws hws
      have := lineOf_len h3 h4
      rw [app_len, nl_len]; omega)
  rw [List.length_map] at h3
  unfold plainOf
  omega
theorem t_code : tl ("code " : Str) = tl ("code" : Str) ++ [32] := by decide +kernel
theorem code_line (a : Str) : ("code " : Str) ++ a = lineOf [("code" : Str), a] := by
  refine ext_tl ?_
  unfold lineOf
  rw [join_eq, tl_join, tl_append, t_code, t_sp]
  simp [joinL]
theorem row_line_n {r : Str × List Int} (h : GRow r) : n_row_line (dR r) = .rt (lineOf (wdR r)) := by
  unfold n_row_line
  have h3 := grow_len h
  refine (bnd_eq (ofO_eq asLs_t)).trans ?_
  have e : (D.str r.1 :: r.2.map D.int) = ((.inl r.1 :: r.2.map .inr : List (Str ⊕ Int))).map (fun s => match s with | .inl a => D.str a | .inr i => D.int i) := by
    simp [List.map_map, Function.comp_def]
  rw [e]
  refine (bnd_eq (nLs_mp (g := fun s => match s with | .inl a => a | .inr i => tI i) _ (fun s hs => ?_) (by simp; omega))).trans ?_
  · rcases List.mem_cons.mp hs with rfl | hs
    · rfl
    · obtain ⟨i, hi, rfl⟩ := List.mem_map.mp hs
      exact bnd_eq (ofO_eq (strI_any (grow_num h i hi)))
  · have e2 : ((.inl r.1 :: r.2.map .inr : List (Str ⊕ Int))).map (fun s => match s with | .inl a => a | .inr i => tI i) = wdR r := by
      simp [wdR, List.map_map, Function.comp_def]
    simp only
    rw [e2]
    have g := (lns_sm (n := 0) (rs := [r]) (by decide) (by simp) (by simpa using h)).1.2 (wdR r) (by simp [lns])
    have := sum_le g.2.2
    exact bnd_eq (ofO_eq (joinS_ok (by rw [sp_len]; omega)))
theorem code_len : ("code " : Str).length = 5 := by decide +kernel
theorem code_text_n {n : Int} {rs : List (Str × List Int)} (hn : n ∈ numsA) (hl : rs.length ≤ 7) (h : ∀ r ∈ rs, GRow r) : n_code_text (n, rs.map dR) = .rt (plainOf (lns n rs)) := by
  have hs := lns_sm hn hl h
  unfold n_code_text
  have e1 : n_code_lines (n, rs.map dR) = .rt ((lns n rs).map lineOf) := by
    unfold n_code_lines
    refine (bnd_eq (ofO_eq (strI_any hn))).trans ?_
    have hw := hs.1.2 _ (List.mem_cons_self) 
    have hb : (tI n).length ≤ 10 := hw.2.2 _ (by simp)
    refine (bnd_eq (ofO_eq (catS_ok (by rw [code_len]; omega)))).trans ?_
    refine (bnd_eq (nLs_mp (g := fun r => lineOf (wdR r)) rs (fun r hr => ?_) (by omega))).trans ?_
    · exact bnd_eq (row_line_n (h r hr))
    · refine (bnd_eq (ofO_eq (cat_ok (by simp; omega)))).trans ?_
      unfold lns
      rw [List.map_cons, List.map_map, ← code_line]
      rfl
  refine (bnd_eq e1).trans ?_
  have e2 : n_text_of_lines ((lns n rs).map lineOf) = .rt (plainOf (lns n rs)) := by
    unfold n_text_of_lines
    refine (bnd_eq (nLs_mp (g := fun ws => lineOf ws ++ ("\n" : Str)) (lns n rs) (fun ws hws => ?_) (by have := hs.1.1; omega))).trans ?_
    · obtain ⟨_, h3, h4⟩ := hs.1.2 ws hws
      have := lineOf_len h3 h4
      exact bnd_eq (ofO_eq (catS_ok (by rw [nl_len]; omega)))
    · refine bnd_eq (ofO_eq (joinS_ok ?_))
      rw [em_len]
      have := sum_le (k := 441) (ws := (lns n rs).map fun ws => lineOf ws ++ ("\n" : Str)) (fun w hw => by
        obtain ⟨ws, hws, rfl⟩ := List.mem_map.mp hw
        obtain ⟨_, h3, h4⟩ := hs.1.2 ws hws
        have := lineOf_len h3 h4
        rw [app_len, nl_len]; omega)
      have h2 := hs.1.1
      rw [List.length_map] at this
      simp only [List.length_map]
      omega
  exact bnd_eq e2
end K08
namespace K08
open PySem L2 DL TL
/-! reading back -/
theorem gwB_p {w : Str} (h : gwB w = true) : tl w ≠ [] ∧ 32 ∉ tl w ∧ 10 ∉ tl w ∧ (tl w).head? ≠ some 35 := by
  unfold gwB at h
  simp only [Bool.and_eq_true, decide_eq_true_eq, List.all_eq_true] at h
  exact ⟨h.1.1.2, fun q => (h.1.2 _ q).1 rfl, fun q => (h.1.2 _ q).2 rfl, h.2⟩
theorem toks_join {S : List Nat} (hS : S = [32] ∨ S = [32, 32]) : ∀ ws : List (List Nat), (∀ w ∈ ws, w ≠ [] ∧ 32 ∉ w) → toks (joinL S ws) = ws
  | [], _ => rfl
  | [w], h => by
    have := h w (by simp)
    simp only [joinL]; exact toks_word this.1 this.2
  | w :: v :: r, h => by
    have h1 := h w (by simp)
    have ih := toks_join hS (v :: r) fun x hx => h x (List.mem_cons_of_mem _ hx)
    simp only [joinL]
    rcases hS with rfl | rfl
    · show toks (w ++ 32 :: joinL [32] (v :: r)) = _
      rw [toks_app, toks_word h1.1 h1.2, ih]; rfl
    · show toks (w ++ 32 :: (32 :: joinL [32, 32] (v :: r))) = _
      rw [toks_app, toks_word h1.1 h1.2, toks_sp, ih]; rfl
theorem join_no10 {S : List Nat} (hS : 10 ∉ S) : ∀ ws : List (List Nat), (∀ w ∈ ws, 10 ∉ w) → 10 ∉ joinL S ws
  | [], _ => by simp [joinL]
  | [w], h => by simpa [joinL] using h
  | w :: v :: r, h => by
    have h1 := h w (by simp)
    have ih := join_no10 hS (v :: r) fun x hx => h x (List.mem_cons_of_mem _ hx)
    simp only [joinL, List.mem_append, not_or]
    exact ⟨h1, hS, ih⟩
def Ends (l : List Nat) : Prop := l = [] ∨ ∃ u, l = u ++ [10]
theorem rowsT_add {l m : List Nat} (h : Ends l) (hm : 10 ∉ m) : rowsT (l ++ (m ++ [10])) = rowsT l ++ (if passed (toks m) = true then [] else [toks m]) ∧ Ends (l ++ (m ++ [10])) := by
  refine ⟨?_, .inr ⟨l ++ m, by simp⟩⟩
  rcases h with rfl | ⟨u, rfl⟩
  · rw [List.nil_append, rowsT_nl, rowsT_nil, List.nil_append, rowsT_line hm]
  · have e : u ++ [10] ++ (m ++ [10]) = u ++ 10 :: (m ++ [10]) := by simp
    rw [e, rowsT_app, rowsT_nl, rowsT_nl, rowsT_line hm]
def GoodW (ls : List (List Str)) : Prop := ∀ ws ∈ ls, ws ≠ [] ∧ ∀ w ∈ ws, gwB w = true
theorem good_line {ws : List Str} {S : List Nat} (hS : S = [32] ∨ S = [32, 32]) (h0 : ws ≠ []) (h : ∀ w ∈ ws, gwB w = true) : toks (joinL S (ws.map tl)) = ws.map tl ∧ 10 ∉ joinL S (ws.map tl) ∧ passed (ws.map tl) = false := by
  refine ⟨toks_join hS _ fun x hx => ?_, join_no10 (by rcases hS with rfl | rfl <;> decide) _ fun x hx => ?_, ?_⟩
  · obtain ⟨w, hw, rfl⟩ := List.mem_map.mp hx
    have := gwB_p (h w hw); exact ⟨this.1, this.2.1⟩
  · obtain ⟨w, hw, rfl⟩ := List.mem_map.mp hx
    exact (gwB_p (h w hw)).2.2.1
  · cases ws with
    | nil => exact absurd rfl h0
    | cons w r =>
      have := (gwB_p (h w List.mem_cons_self)).2.2.2
      simp [passed, this]
theorem plain_rows : ∀ {ls : List (List Str)}, GoodW ls → rowsT (tl (plainOf ls)) = ls.map (·.map tl) := by
  intro ls h
  unfold plainOf
  rw [join_eq, tl_join, t_empty, joinL_nil, List.map_map]
  induction ls with
  | nil => rfl
  | cons ws r ih =>
    have ih := ih fun x hx => h x (List.mem_cons_of_mem _ hx)
    obtain ⟨h0, h1⟩ := h ws List.mem_cons_self
    have g := good_line (.inl rfl) h0 h1
    have e : (tl ∘ fun ws => lineOf ws ++ ("\n" : Str)) ws = joinL [32] (ws.map tl) ++ [10] := by
      show tl (lineOf ws ++ _) = _
      rw [tl_append, t_nl]; unfold lineOf; rw [join_eq, tl_join, t_sp]
    rw [List.map_cons, List.flatten_cons, e, List.append_assoc, List.singleton_append, rowsT_app, ih, rowsT_line g.2.1, g.1, g.2.2]
    rfl
theorem pasd_tl (ws : List Str) : pasd ws = passed (ws.map tl) := by
  cases ws <;> rfl
theorem rowsFrom_map : ∀ (i : Nat) (ls : List Str), (rowsFrom i ls).map (fun p => p.2.map tl) = ((ls.map tl).map toks).filter fun ws => !passed ws
  | _, [] => rfl
  | i, l :: ls => by
    have ih := rowsFrom_map (i + 1) ls
    have e := words_tl l
    unfold rowsFrom
    rw [pasd_tl, e, List.map_cons, List.map_cons]
    cases hp : passed (toks (tl l)) with
    | true => rw [if_pos rfl, List.filter_cons_of_neg (by simp [hp]), ih]
    | false => rw [if_neg (by simp), List.filter_cons_of_pos (by simp [hp]), List.map_cons, ih, e]
theorem rows_rowsT (t : Str) : (rowsFrom 0 (linesOf t)).map (fun p => p.2.map tl) = rowsT (tl t) := by
  rw [rowsFrom_map]
  unfold rowsT
  rw [← split_tl (x := t) t_nl (by decide)]
  unfold linesOf
  obtain ⟨ini, z, e⟩ := last_of (split_ne (x := t) t_nl (by decide))
  rw [e]
  split
  · rename_i hz
    have hz : z = ("" : Str) := by simpa using hz
    subst hz
    simp [t_empty, toks_nil, passed]
  · rfl
theorem mm_inj : ∀ {a b : List (List Str)}, a.map (·.map tl) = b.map (·.map tl) → a = b
  | [], [], _ => rfl
  | [], _ :: _, h => by simp at h
  | _ :: _, [], h => by simp at h
  | x :: a, y :: b, h => by
    rw [List.map_cons, List.map_cons] at h
    injection h with h1 h2
    rw [map_tl_inj h1, mm_inj h2]
theorem rowsR_good : ∀ {ps : List (Int × List Str)} {rs : List (Str × List Int)}, (∀ r ∈ rs, GRow r) → ps.map (·.2) = rs.map wdR → rowsR ps = .ok (rs.map dR)
  | [], [], _, _ => rfl
  | [], _ :: _, _, h => by simp at h
  | _ :: _, [], _, h => by simp at h
  | (i, ws) :: ps, r :: rs, hg, h => by
    rw [List.map_cons, List.map_cons] at h
    injection h with h1 h2
    simp only at h1
    have ih := rowsR_good (fun x hx => hg x (List.mem_cons_of_mem _ hx)) h2
    have g := row_good (hg r List.mem_cons_self)
    unfold rowsR
    rw [h1, g.1, ih, g.2]; rfl
def toldC (n : Int) (rs : List (Str × List Int)) : D := .tup [.str "told", .tup [.int n, .tup (rs.map dR)]]
theorem told_rows {t : Str} {n : Int} {rs : List (Str × List Int)} (hn : n ∈ numsF ++ [12, 4, 7, 123456789]) (hg : ∀ r ∈ rs, GRow r) (h : rowsT (tl t) = (lns n rs).map (·.map tl)) : told t = toldC n rs := by
  have h1 : ((rowsFrom 0 (linesOf t)).map (·.2)).map (·.map tl) = (lns n rs).map (·.map tl) := by
    rw [List.map_map, ← h, ← rows_rowsT]; rfl
  have h2 := mm_inj h1
  unfold told
  cases hr : rowsFrom 0 (linesOf t) with
  | nil => rw [hr] at h2; simp [lns] at h2
  | cons q r =>
    obtain ⟨i, ws⟩ := q
    rw [hr] at h2
    unfold lns at h2
    rw [List.map_cons] at h2
    injection h2 with h3 h4
    simp only at h3
    unfold toldR
    have e : hdN ws = some n := by
      rw [h3]; show (if ("code" : Str) = "code" then numO (tI n) else none) = _; rw [if_pos rfl]; exact (numF_ok n hn).1
    simp only [e, rowsR_good hg h4]
    rfl
end K08
namespace K08
open PySem L2 DL TL
/-! told: small -/
theorem tb_le : ∀ (w : Str) (k : Int), tb_1.lookup w = some k → k ≤ 4 := by
  have g : ∀ (l : List (Str × Int)), (∀ p ∈ l, p.2 ≤ 4) → ∀ (w : Str) (k : Int), l.lookup w = some k → k ≤ 4 := by
    intro l
    induction l with
    | nil => intro _ w k h; cases h
    | cons p l ih =>
      intro hp w k h
      obtain ⟨a, b⟩ := p
      rw [List.lookup_cons] at h
      split at h
      · injection h with h; have := hp (a, b) List.mem_cons_self; simp only at this; omega
      · exact ih (fun q hq => hp q (List.mem_cons_of_mem _ hq)) w k h
  exact g tb_1 (by decide)
theorem oD_ok (o : Option Int) : okL (oD D.int o) = true ∧ sz1 (oD D.int o) ≤ 1 := by
  cases o <;> exact ⟨rfl, Nat.le_refl _⟩
theorem rowD_ok {ws : List Str} (h : rowE ws = none) : okL (rowD ws) = true ∧ sz1 (rowD ws) ≤ 5 := by
  cases ws with
  | nil => simp [rowE] at h
  | cons w ns =>
    unfold rowE at h
    simp only at h
    cases hk : tb_1.lookup w with
    | none => rw [hk] at h; simp at h
    | some k =>
      rw [hk] at h
      simp only at h
      split at h
      · rename_i hl
        have := tb_le w k hk
        unfold rowD
        have h1 := okLs_map (v := oD D.int) (nums w ns) (fun x _ => (oD_ok x).1)
        have h2 := szs_map (v := oD D.int) (k := 1) (nums w ns) (fun x _ => (oD_ok x).2)
        rw [nums_len] at h2
        refine ⟨?_, ?_⟩
        · unfold okL okLs; rw [h1]; rfl
        · unfold sz1 szs sz1; omega
      · cases h
theorem rowsR_ok : ∀ {ps : List (Int × List Str)} {ds : List D}, rowsR ps = .ok ds → okLs ds = true ∧ szs ds ≤ 5 * ps.length
  | [], ds, h => by unfold rowsR at h; cases h; exact ⟨rfl, by simp [szs]⟩
  | (i, ws) :: ps, ds, h => by
    unfold rowsR at h
    cases he : rowE ws with
    | some e => rw [he] at h; cases h
    | none =>
      rw [he] at h
      simp only at h
      cases hr : rowsR ps with
      | error e => rw [hr] at h; cases h
      | ok ds' =>
        rw [hr] at h
        simp only at h
        cases h
        obtain ⟨h1, h2⟩ := rowsR_ok hr
        obtain ⟨h3, h4⟩ := rowD_ok he
        refine ⟨?_, ?_⟩
        · unfold okLs; rw [h1, h3]; rfl
        · unfold szs; rw [List.length_cons]; omega
theorem badD_ok (i : Int) (e : Str) : okL (badD i e) = true ∧ sz1 (badD i e) ≤ 10 := ⟨rfl, by simp [badD, sz1, szs]⟩
theorem toldR_ok (n : Int) (ps : List (Int × List Str)) : okL (toldR n ps) = true ∧ sz1 (toldR n ps) ≤ 10 + 5 * ps.length := by
  have hb : ∀ i e, okL (badD i e) = true ∧ sz1 (badD i e) ≤ 10 + 5 * ps.length := fun i e => ⟨rfl, by have := (badD_ok i e).2; omega⟩
  cases ps with
  | nil => exact hb _ _
  | cons q r =>
    obtain ⟨i, ws⟩ := q
    unfold toldR
    simp only
    cases hdN ws with
    | none => exact hb _ _
    | some p =>
      simp only
      cases hr : rowsR r with
      | error e => exact hb _ _
      | ok ds =>
        obtain ⟨h1, h2⟩ := rowsR_ok hr
        simp only [List.length_cons]
        refine ⟨?_, ?_⟩
        · simp [okL, okLs, h1]
        · simp [sz1, szs]; omega
theorem told_ok {t : Str} (h : t.length ≤ 10000) : okL (told t) = true ∧ sz1 (told t) ≤ 60000 := by
  have h1 := lines_len t
  have h2 := rows_len 0 (linesOf t)
  have h3 := toldR_ok ((linesOf t).length : Int) (rowsFrom 0 (linesOf t))
  exact ⟨h3.1, by unfold told; omega⟩
/-! loose texts -/
theorem rep01 {r : Int} (h0 : 0 ≤ r) (h1 : r < 2) : ∃ z : Str, repSt (" " : Str) r = some z ∧ (tl z = [] ∨ tl z = [32]) := by
  have : r = 0 ∨ r = 1 := by omega
  rcases this with rfl | rfl
  · refine ⟨repS' (" " : Str) 0, ?_, .inl (by decide +kernel)⟩
    unfold repSt; rw [if_pos (by decide +kernel)]
  · refine ⟨repS' (" " : Str) 1, ?_, .inr (by decide +kernel)⟩
    unfold repSt; rw [if_pos (by decide +kernel)]
def filS : List Str := [("\n" : Str), ("   \n" : Str), ("# code 2\n" : Str), ("#turn\n" : Str), ("  #\n" : Str)]
def filB (f : Str) : Bool := decide (f.length ≤ 9) && decide (tl f = (tl f).dropLast ++ [10]) && decide (10 ∉ (tl f).dropLast) && passed (toks (tl f).dropLast)
theorem fil_ok : ∀ f ∈ filS, filB f = true := by decide +kernel
def sepS : List Str := [(" " : Str), ("  " : Str)]
theorem sep_ok : ∀ f ∈ sepS, f.length ≤ 2 ∧ (tl f = [32] ∨ tl f = [32, 32]) := by decide +kernel
theorem toks_side {a b l : List Nat} (ha : a = [] ∨ a = [32]) (hb : b = [] ∨ b = [32]) : toks (a ++ (l ++ b)) = toks l := by
  have h1 : toks (l ++ b) = toks l := by
    rcases hb with rfl | rfl
    · rw [List.append_nil]
    · exact toks_spe l
  rcases ha with rfl | rfl
  · exact h1
  · exact (toks_sp _).trans h1
theorem loose1 {p : List D} {x : Str} (hp : RlOk p) (hx : x.length ≤ 10000) : ∃ q : List D × Str, ((O.bnd (n__law_spin p 4) fun x4 => (if (decide (x4.1 = 0)) then (O.bnd ((O.bnd (n__law_spin x4.2 5) fun x5 => (O.bnd (ofO (atI ([("\n" : Str), ("   \n" : Str), ("# code 2\n" : Str), ("#turn\n" : Str), ("  #\n" : Str)] : List Str) x5.1)) fun x6 => (O.bnd (ofO (catS x x6)) fun x7 => (.rt (x7, x5.2))))) : Fr (Str × (List D))) fun x8 => (.nx (x8.2, x8.1))) else (.nx (x4.2, x)))) : O (List D × Str) (List D × Str) (Str × List D)) = .nx q ∧ RlOk q.1 ∧ q.2.length ≤ x.length + 9 ∧ (Ends (tl x) → Ends (tl q.2) ∧ rowsT (tl q.2) = rowsT (tl x)) := by
  obtain ⟨a, p1, e1, a0, a1, hp1⟩ := spin_n hp (n := 4) (by decide)
  by_cases ha : a = 0
  · obtain ⟨b, p2, e2, b0, b1, hp2⟩ := spin_n hp1 (n := 5) (by decide)
    obtain ⟨f, ef, hf⟩ := get_fix (xs := filS) b0 (by exact b1)
    have g := fil_ok f hf
    unfold filB at g
    simp only [Bool.and_eq_true, decide_eq_true_eq] at g
    obtain ⟨⟨⟨g1, g2⟩, g3⟩, g4⟩ := g
    refine ⟨(p2, x ++ f), ?_, hp2, by rw [app_len]; omega, fun he => ?_⟩
    · rw [bnd_eq e1, if_pos (by simp [ha])]
      have e3 : O.bnd (n__law_spin p1 5) (fun x5 => (O.bnd (ofO (atI ([("\n" : Str), ("   \n" : Str), ("# code 2\n" : Str), ("#turn\n" : Str), ("  #\n" : Str)] : List Str) x5.1)) fun x6 => (O.bnd (ofO (catS x x6)) fun x7 => (.rt (x7, x5.2) : Fr (Str × List D))))) = .rt (x ++ f, p2) := by
        refine (bnd_eq e2).trans ?_
        refine (bnd_eq (ofO_eq ef)).trans ?_
        exact bnd_eq (ofO_eq (catS_ok (by omega)))
      rw [bnd_eq e3]
    · have h := rowsT_add he g3
      rw [g4, if_pos rfl, List.append_nil, ← g2] at h
      simp only
      rw [tl_append]
      exact ⟨h.2, h.1⟩
  · refine ⟨(p1, x), ?_, hp1, Nat.le_add_right _ _, fun he => ⟨he, rfl⟩⟩
    rw [bnd_eq e1, if_neg (by simp [ha])]
theorem loose2 {p : List D} {x : Str} {ws : List Str} (hp : RlOk p) (hx : x.length ≤ 10000) (h1 : ws.length ≤ 10) (h2 : ∀ w ∈ ws, w.length ≤ 10) : ∃ q : Str × List D, ((O.bnd (n__law_spin p 2) fun x9 => (O.bnd (ofO (repSt (" " : Str) x9.1)) fun x10 => (O.bnd (ofO (catS x x10)) fun x11 => (O.bnd (n__law_spin x9.2 2) fun x12 => (O.bnd (ofO (atI ([(" " : Str), ("  " : Str)] : List Str) x12.1)) fun x13 => (O.bnd (ofO (joinS x13 ws)) fun x14 => (O.bnd (ofO (catS x11 x14)) fun x15 => (O.bnd (n__law_spin x12.2 2) fun x16 => (O.bnd (ofO (repSt (" " : Str) x16.1)) fun x17 => (O.bnd (ofO (catS x15 x17)) fun x18 => (O.bnd (ofO (catS x18 ("\n" : Str))) fun x19 => (.rt (x19, x16.2))))))))))))) : Fr (Str × (List D))) = .rt q ∧ RlOk q.2 ∧ q.1.length ≤ x.length + 123 ∧ (Ends (tl x) → ws ≠ [] → (∀ w ∈ ws, gwB w = true) → Ends (tl q.1) ∧ rowsT (tl q.1) = rowsT (tl x) ++ [ws.map tl]) := by
  obtain ⟨a, p1, e1, a0, a1, hp1⟩ := spin_n hp (n := 2) (by decide)
  obtain ⟨za, ea, ha⟩ := rep01 a0 a1
  obtain ⟨b, p2, e2, b0, b1, hp2⟩ := spin_n hp1 (n := 2) (by decide)
  obtain ⟨S, eS, hS⟩ := get_fix (xs := sepS) b0 (by exact b1)
  obtain ⟨s1, s2⟩ := sep_ok S hS
  obtain ⟨c, p3, e3, c0, c1, hp3⟩ := spin_n hp2 (n := 2) (by decide)
  obtain ⟨zb, eb, hb⟩ := rep01 c0 c1
  have la : za.length ≤ 1 := by rw [len_tl]; rcases ha with h | h <;> rw [h] <;> simp
  have lb : zb.length ≤ 1 := by rw [len_tl]; rcases hb with h | h <;> rw [h] <;> simp
  have h3 := sum_le h2
  have h4 := join_len S ws
  have h5 : ws.length * S.length ≤ 10 * 2 := Nat.mul_le_mul h1 s1
  have lj : (Txt.join S ws).length ≤ 120 := by omega
  refine ⟨(x ++ za ++ Txt.join S ws ++ zb ++ ("\n" : Str), p3), ?_, hp3, ?_, fun he h0 hg => ?_⟩
  · refine (bnd_eq e1).trans ?_
    refine (bnd_eq (ofO_eq ea)).trans ?_
    refine (bnd_eq (ofO_eq (catS_ok (by omega)))).trans ?_
    refine (bnd_eq e2).trans ?_
    refine (bnd_eq (ofO_eq eS)).trans ?_
    refine (bnd_eq (ofO_eq (joinS_ok (by omega)))).trans ?_
    refine (bnd_eq (ofO_eq (catS_ok (by rw [app_len]; omega)))).trans ?_
    refine (bnd_eq e3).trans ?_
    refine (bnd_eq (ofO_eq eb)).trans ?_
    refine (bnd_eq (ofO_eq (catS_ok (by rw [app_len, app_len]; omega)))).trans ?_
    exact bnd_eq (ofO_eq (catS_ok (by rw [app_len, app_len, app_len, nl_len]; omega)))
  · simp only [app_len, nl_len]; omega
  · have g := good_line s2 h0 hg
    have n10 : 10 ∉ tl za ++ (joinL (tl S) (ws.map tl) ++ tl zb) := by
      simp only [List.mem_append, not_or]
      refine ⟨?_, g.2.1, ?_⟩
      · rcases ha with h | h <;> rw [h] <;> simp
      · rcases hb with h | h <;> rw [h] <;> simp
    have h := rowsT_add he n10
    have e : tl (x ++ za ++ Txt.join S ws ++ zb ++ ("\n" : Str)) = tl x ++ (tl za ++ (joinL (tl S) (ws.map tl) ++ tl zb) ++ [10]) := by
      rw [tl_append, tl_append, tl_append, tl_append, join_eq, tl_join, t_nl]
      simp
    simp only
    rw [e]
    rw [toks_side ha hb, g.1, g.2.2, if_neg (by simp)] at h
    exact ⟨h.2, h.1⟩
theorem drop_last_tl (z : Str) : tl (cutS z none (some (-1))) = (tl z).dropLast := by
  unfold cutS
  show ((tl z).drop 0).take _ = _
  rw [List.drop_zero, List.dropLast_eq_take, len_tl]
  congr 1
  unfold HT.sIx
  simp only
  split <;> omega
theorem loose_n {p : List D} {ls : List (List Str)} (hp : RlOk p) (h : Sm 10 20 ls) : ∃ t p', n__law_loose p ls = .rt (t, p') ∧ RlOk p' ∧ t.length ≤ 5000 ∧ (GoodW ls → rowsT (tl t) = ls.map (·.map tl)) := by
  obtain ⟨hl, hw⟩ := h
  unfold n__law_loose
  generalize hF : (fun (y2 : (List Str)) (s1 : ((List D) × Str)) => _) = F
  obtain ⟨s, h1, h2, dn, h3, h4, h5⟩ := nFor_ex (L := Empty) (f := F) (P := fun r s => RlOk s.1 ∧ ∃ dn : List (List Str), dn ++ r = ls ∧ s.2.length ≤ 132 * dn.length ∧ (GoodW ls → Ends (tl s.2) ∧ rowsT (tl s.2) = dn.map (·.map tl))) (fun x r s ⟨hs, dn, q1, q2, q3⟩ => by
    subst hF
    have hm : x ∈ ls := by rw [← q1]; simp
    have hdl : dn.length + (r.length + 1) ≤ 20 := by have := congrArg List.length q1; rw [List.length_append, List.length_cons] at this; omega
    obtain ⟨_, w1, w2⟩ := hw x hm
    obtain ⟨q, e1, hq, lq, gq⟩ := loose1 (p := s.1) (x := s.2) hs (by omega)
    obtain ⟨u, e2, hu, lu, gu⟩ := loose2 (p := q.1) (x := q.2) (ws := x) hq (by omega) w1 w2
    refine ⟨(u.2, u.1), ?_, hu, dn ++ [x], by simp [q1], by rw [List.length_append, List.length_singleton]; show u.1.length ≤ _; omega, fun hg => ?_⟩
    · refine (seq_eq e1).trans ?_
      exact bnd_eq e2
    · obtain ⟨g1, g2⟩ := q3 hg
      obtain ⟨g3, g4⟩ := gq g1
      obtain ⟨g5, g6⟩ := gu g3 (hg x hm).1 (hg x hm).2
      refine ⟨g5, ?_⟩
      show rowsT (tl u.1) = _
      rw [g6, g4, g2, List.map_append]; rfl) ls (p, "") ⟨hp, [], rfl, by simp [em_len], fun _ => ⟨.inl t_empty, by rw [t_empty]; rfl⟩⟩
  rw [seq_eq h1]
  rw [List.append_nil] at h3
  subst h3
  have hb : s.2.length ≤ 2640 := by omega
  obtain ⟨a, p1, e1, a0, a1, hp1⟩ := spin_n h2 (n := 4) (by decide)
  have ec : slS s.2 none (some (-1)) = some (cutS s.2 none (some (-1))) := by unfold slS; rw [if_pos (by rw [sz]; omega)]
  have lc : (cutS s.2 none (some (-1))).length ≤ s.2.length := by
    rw [len_tl, drop_last_tl, List.length_dropLast, ← len_tl]; omega
  have l1 : ("#" : Str).length = 1 := by rw [len_tl, t_hash]; rfl
  obtain ⟨f, ef, hf⟩ := get_fix (xs := [s.2, cutS s.2 none (some (-1)), s.2 ++ ("\n" : Str), s.2 ++ ("#" : Str)]) a0 (by exact a1)
  refine ⟨f, p1, ?_, hp1, ?_, fun hg => ?_⟩
  · refine (bnd_eq (ofO_eq ec)).trans ?_
    refine (bnd_eq (ofO_eq (catS_ok (by rw [nl_len]; omega)))).trans ?_
    refine (bnd_eq (ofO_eq (catS_ok (by rw [l1]; omega)))).trans ?_
    refine (bnd_eq e1).trans ?_
    exact bnd_eq (ofO_eq ef)
  · simp only [List.mem_cons, List.not_mem_nil, or_false] at hf
    rcases hf with rfl | rfl | rfl | rfl
    · omega
    · omega
    · rw [app_len, nl_len]; omega
    · rw [app_len, l1]; omega
  · obtain ⟨g1, g2⟩ := h5 hg
    simp only [List.mem_cons, List.not_mem_nil, or_false] at hf
    rcases hf with rfl | rfl | rfl | rfl
    · exact g2
    · rw [drop_last_tl, ← g2]
      rcases g1 with e | ⟨u, e⟩
      · rw [e]; rfl
      · rw [e, List.dropLast_concat, rowsT_nl]
    · rw [tl_append, t_nl, rowsT_nl]; exact g2
    · rw [tl_append, t_hash, ← g2]
      rcases g1 with e | ⟨u, e⟩
      · rw [e]; decide +kernel
      · rw [e]
        have : u ++ [10] ++ [35] = u ++ 10 :: [35] := by simp
        rw [this, rowsT_app, rowsT_nl]
        have : rowsT [35] = [] := by decide +kernel
        rw [this, List.append_nil]
end K08
namespace K08
open PySem L2 DL TL
/-! bent lines -/
def oddS : List Str := [("00" : Str), ("01" : Str), ("-1" : Str), ("-2" : Str), ("-3" : Str), ("+1" : Str), ("1234567890" : Str), ("half" : Str), ("first" : Str), ("turn" : Str), ("code" : Str), ("#" : Str), ("less" : Str), ("-0" : Str), ("x" : Str), ("0" : Str)]
theorem odd_ok : ∀ w ∈ oddS, w.length ≤ 10 := by decide +kernel
def LnOk (k : Nat) (ws : List Str) : Prop := ws ≠ [] ∧ ws.length ≤ k ∧ ∀ w ∈ ws, w.length ≤ 10
theorem sm_take {k m i : Nat} {ls : List (List Str)} (h : Sm k m ls) : ∀ ws ∈ ls.take i, LnOk k ws := fun ws hw => h.2 ws (List.mem_of_mem_take hw)
theorem sm_drop {k m i : Nat} {ls : List (List Str)} (h : Sm k m ls) : ∀ ws ∈ ls.drop i, LnOk k ws := fun ws hw => h.2 ws (List.mem_of_mem_drop hw)
theorem lnOk_mono {k l : Nat} {ws : List Str} (hk : k ≤ l) (h : LnOk k ws) : LnOk l ws := ⟨h.1, Nat.le_trans h.2.1 hk, h.2.2⟩
theorem set_last {k : Nat} {ws : List Str} {i : Nat} {w : Str} (h : LnOk k ws) (hw : w.length ≤ 10) : LnOk (k + 1) (ws.set i w) := by
  obtain ⟨h1, h2, h3⟩ := h
  refine ⟨fun e => h1 (by simpa using e), by rw [List.length_set]; omega, fun x hx => ?_⟩
  rcases List.mem_or_eq_of_mem_set hx with h | h
  · exact h3 x h
  · rw [h]; exact hw
theorem bentEnd {α : Type} {xs : List (List Str)} {a b : Nat} {k m : Nat} {w : List Str} (h : Sm k m xs) (ha : a < xs.length) (hw : LnOk (k + 1) w) : Sm (k + 1) (m + 1) (xs.take a ++ [w] ++ xs.drop (a + 1)) := by
  refine ⟨?_, fun ws hws => ?_⟩
  · have := h.1
    rw [List.length_append, List.length_append, List.length_take, List.length_drop, List.length_singleton]; omega
  · rw [List.mem_append, List.mem_append] at hws
    rcases hws with (q | q) | q
    · exact lnOk_mono (Nat.le_succ _) (sm_take h ws q)
    · rw [List.mem_singleton] at q; rw [q]; exact hw
    · exact lnOk_mono (Nat.le_succ _) (sm_drop h ws q)
theorem bent_n {p : List D} {ls : List (List Str)} {k m : Nat} (hp : RlOk p) (hk : k ≤ 100) (hk1 : 3 ≤ k + 1) (hm : m ≤ 100) (h : Sm k m ls) : ∃ ls' p', n__law_bent p ls = .rt (ls', p') ∧ RlOk p' ∧ Sm (k + 1) (m + 1) ls' := by
  unfold n__law_bent
  by_cases h0 : (ls.length : Int) = 0
  · refine ⟨_, p, if_pos (by simp [h0]), hp, by simp, fun ws hws => ?_⟩
    rw [List.mem_singleton] at hws; subst hws
    exact ⟨by simp, by simp, by decide +kernel⟩
  rw [if_neg (by simp; intro e; rw [e] at h0; exact h0 rfl)]
  have hml := h.1
  obtain ⟨a, p1, e1, a0, a1, hp1⟩ := spin_n hp (n := (ls.length : Int)) (by omega)
  obtain ⟨b, p2, e2, b0, b1, hp2⟩ := spin_n hp1 (n := 8) (by decide)
  obtain ⟨w, ew, hw⟩ := get_fix a0 a1
  obtain ⟨c, p3, e3, c0, c1, hp3⟩ := spin_n hp2 (n := 16) (by decide)
  obtain ⟨o, eo, ho⟩ := get_fix (xs := oddS) c0 (by exact c1)
  have hW := h.2 w hw
  have lo := odd_ok o ho
  have hwp : 0 < w.length := List.length_pos_iff.mpr hW.1
  obtain ⟨j, p4, e4, j0, j1, hp4⟩ := spin_n hp3 (n := (w.length : Int)) (by omega)
  rw [bnd_eq e1]
  simp only
  rw [bnd_eq e2]
  simp only
  rw [bnd_eq (a := w) (bnd_eq (ofO_eq ew))]
  rw [bnd_eq (a := (o, p3)) ((bnd_eq e3).trans (bnd_eq (ofO_eq eo)))]
  simp only
  rw [bnd_eq e4]
  simp only
  have ha : a.toNat < ls.length := by omega
  have ha1 : (a + 1).toNat = a.toNat + 1 := by omega
  have fin : ∀ (xs : List (List Str)) (w' : List Str) (q : List D), RlOk q → Sm k m xs → xs.length = ls.length → LnOk (k + 1) w' → ∃ ls' p', (O.bnd (ofO (cat (α := (List Str)) (cutD xs none (some a)) [w'])) fun x22 => (O.bnd (ofO (cat (α := (List Str)) x22 (cutD xs (some (a + 1)) none))) fun x23 => (.rt (x23, q)) : Fr (List (List Str) × List D))) = .rt (ls', p') ∧ RlOk p' ∧ Sm (k + 1) (m + 1) ls' := fun xs w' q hq hx hxl hw' => by
    refine ⟨xs.take a.toNat ++ [w'] ++ xs.drop (a.toNat + 1), q, ?_, hq, bentEnd (α := Nat) (b := 0) hx (by omega) hw'⟩
    rw [cut_take a0, cut_drop (by omega), ha1]
    have := hx.1
    refine (bnd_eq (ofO_eq (cat_ok (by rw [List.length_take, List.length_singleton]; omega)))).trans ?_
    exact bnd_eq (ofO_eq (cat_ok (by rw [List.length_append, List.length_take, List.length_drop, List.length_singleton]; omega)))
  by_cases hb1 : b < 3
  · rw [if_pos (by simp [hb1])]
    have e : (O.bnd (ofO (setAt w j o)) fun z => (.nx (p4, ls, z)) : O (List D × List (List Str) × List Str) Empty (List (List Str) × List D)) = .nx (p4, ls, w.set j.toNat o) := bnd_eq (ofO_eq (setAt_ok j0 j1))
    rw [e]
    exact fin ls _ p4 hp4 h rfl (set_last hW lo)
  rw [if_neg (by simp [hb1])]
  by_cases hb2 : b = 3
  · rw [if_pos (by simp [hb2])]
    have ei : insA (α := Str) w (j + 1) o = some (w.take (j + 1).toNat ++ [o] ++ w.drop (j + 1).toNat) := by
      have := hW.2.1
      unfold insA; rw [if_pos ⟨by rw [sz]; omega, by omega, by omega⟩]
    have e : (O.bnd (ofO (insA (α := Str) w (j + 1) o)) fun z => (.nx (p4, ls, z)) : O (List D × List (List Str) × List Str) Empty (List (List Str) × List D)) = .nx (p4, ls, w.take (j + 1).toNat ++ [o] ++ w.drop (j + 1).toNat) := bnd_eq (ofO_eq ei)
    rw [e]
    refine fin ls _ p4 hp4 h rfl ⟨by simp, ?_, fun x hx => ?_⟩
    · have := hW.2.1
      rw [List.length_append, List.length_append, List.length_take, List.length_drop, List.length_singleton]; omega
    · rw [List.mem_append, List.mem_append] at hx
      rcases hx with (q | q) | q
      · exact hW.2.2 x (List.mem_of_mem_take q)
      · rw [List.mem_singleton] at q; rw [q]; exact lo
      · exact hW.2.2 x (List.mem_of_mem_drop q)
  rw [if_neg (by simp [hb2])]
  by_cases hb3 : b = 4 ∧ 1 < (w.length : Int)
  · rw [if_pos (by simp; omega)]
    have ep : popA w j = some (w[j.toNat]'(by omega), w.eraseIdx j.toNat) := by
      have := hW.2.1
      unfold popA
      rw [ixN_nat j0 j1]
      simp only
      rw [if_pos (by rw [sz]; omega), List.getElem?_eq_getElem (by omega)]; rfl
    have e : (O.bnd (ofO (popA w j)) fun z => (.nx (p4, ls, z.2)) : O (List D × List (List Str) × List Str) Empty (List (List Str) × List D)) = .nx (p4, ls, w.eraseIdx j.toNat) := bnd_eq (ofO_eq ep)
    rw [e]
    refine fin ls _ p4 hp4 h rfl ⟨fun e => ?_, ?_, fun x hx => hW.2.2 x (List.mem_of_mem_eraseIdx hx)⟩
    · have := congrArg List.length e
      rw [List.length_eraseIdx_of_lt (by omega), List.length_nil] at this; omega
    · have := hW.2.1
      rw [List.length_eraseIdx_of_lt (by omega)]; omega
  rw [if_neg (by simp; omega)]
  by_cases hb4 : b = 5
  · rw [if_pos (by simp [hb4])]
    refine ⟨ls.take a.toNat ++ ls.drop (a.toNat + 1), p4, ?_, hp4, ?_, fun x hx => ?_⟩
    · rw [cut_take a0, cut_drop (by omega), ha1]
      have : O.bnd (ofO (cat (α := List Str) (ls.take a.toNat) (ls.drop (a.toNat + 1)))) (fun x14 => (O.rt (x14, p4) : O (List D × List (List Str) × List Str) Empty (List (List Str) × List D))) = .rt (ls.take a.toNat ++ ls.drop (a.toNat + 1), p4) := bnd_eq (ofO_eq (cat_ok (by rw [List.length_take, List.length_drop]; omega)))
      rw [this]; rfl
    · rw [List.length_append, List.length_take, List.length_drop]; omega
    · rw [List.mem_append] at hx
      rcases hx with q | q
      · exact lnOk_mono (Nat.le_succ _) (sm_take h x q)
      · exact lnOk_mono (Nat.le_succ _) (sm_drop h x q)
  rw [if_neg (by simp [hb4])]
  by_cases hb5 : b = 6
  · rw [if_pos (by simp [hb5])]
    obtain ⟨d, p5, e5, d0, d1, hp5⟩ := spin_n hp4 (n := (ls.length : Int)) (by omega)
    obtain ⟨v, ev, hv⟩ := get_fix d0 d1
    have e : (O.bnd (n__law_spin p4 (ls.length : Int)) fun x15 => (O.bnd (ofO (atI ls x15.1)) fun x16 => (O.bnd (ofO (atI ls a)) fun x17 => (O.bnd (ofO (setAt ls x15.1 x17)) fun rest19 => (.nx (x15.2, rest19, x16))))) : O (List D × List (List Str) × List Str) Empty (List (List Str) × List D)) = .nx (p5, ls.set d.toNat w, v) := ((bnd_eq e5).trans ((bnd_eq (ofO_eq ev)).trans ((bnd_eq (ofO_eq ew)).trans (bnd_eq (ofO_eq (setAt_ok d0 d1))))))
    rw [e]
    refine fin (ls.set d.toNat w) v p5 hp5 ⟨by rw [List.length_set]; exact h.1, fun x hx => ?_⟩ (List.length_set ..) (lnOk_mono (Nat.le_succ _) (h.2 v hv))
    rcases List.mem_or_eq_of_mem_set hx with q | q
    · exact h.2 x q
    · rw [q]; exact hW
  · rw [if_neg (by simp [hb5])]
    refine ⟨ls.take a.toNat ++ [[("set" : Str), o, ("1" : Str)]] ++ ls.drop a.toNat, p4, ?_, hp4, ?_, fun x hx => ?_⟩
    · rw [cut_take a0, cut_drop a0]
      have : O.bnd (ofO (cat (α := List Str) (ls.take a.toNat) [[("set" : Str), o, ("1" : Str)]])) (fun x20 => (O.bnd (ofO (cat (α := (List Str)) x20 (ls.drop a.toNat))) fun x21 => (O.rt (x21, p4) : O (List D × List (List Str) × List Str) Empty (List (List Str) × List D)))) = .rt (ls.take a.toNat ++ [[("set" : Str), o, ("1" : Str)]] ++ ls.drop a.toNat, p4) := by
        refine (bnd_eq (ofO_eq (cat_ok (by rw [List.length_take, List.length_singleton]; omega)))).trans ?_
        exact bnd_eq (ofO_eq (cat_ok (by rw [List.length_append, List.length_take, List.length_drop, List.length_singleton]; omega)))
      rw [this]; rfl
    · rw [List.length_append, List.length_append, List.length_take, List.length_drop, List.length_singleton]; omega
    · rw [List.mem_append, List.mem_append] at hx
      rcases hx with (q | q) | q
      · exact lnOk_mono (Nat.le_succ _) (sm_take h x q)
      · rw [List.mem_singleton] at q; subst q
        refine ⟨by simp, by simp; omega, fun y hy => ?_⟩
        simp only [List.mem_cons, List.not_mem_nil, or_false] at hy
        rcases hy with rfl | rfl | rfl
        · decide +kernel
        · exact lo
        · decide +kernel
      · exact lnOk_mono (Nat.le_succ _) (sm_drop h x q)
end K08
namespace K08
open PySem L2 DL TL
/-! one asking -/
theorem vT_vD (ds : List D) : vT vD ds = D.tup ds := by unfold vT; rw [show ds.map vD = ds from List.map_id' ds]
theorem pair_ok {d : D} (h : okL d = true ∧ sz1 d ≤ 60000) : okL (D.tup [d, d]) = true ∧ sz1 (D.tup [d, d]) < 300000 := ⟨by simp [okL, okLs, h.1], by simp [sz1, szs]; omega⟩
theorem asked_n {p : List D} (hp : RlOk p) : ∃ p', n__law_asked p = .rt (true, p') ∧ RlOk p' := by
  unfold n__law_asked
  obtain ⟨n, rs, p1, e1, hp1, hn, hl, hg⟩ := code_n hp
  have hnA : n ∈ numsA := List.mem_append_left _ hn
  obtain ⟨sm, gw⟩ := lns_sm hnA hl hg
  have good : GoodW (lns n rs) := fun ws hws => ⟨(sm.2 ws hws).1, gw ws hws⟩
  have lp := plain_len (by decide) (by decide) sm
  have tp : told (plainOf (lns n rs)) = toldC n rs := told_rows hn hg (plain_rows good)
  have sm10 : Sm 10 20 (lns n rs) := ⟨by have := sm.1; omega, fun ws hws => lnOk_mono (by decide) (sm.2 ws hws)⟩
  obtain ⟨t, p2, e2, hp2, lt, gt⟩ := loose_n hp1 sm10
  have tt : told t = toldC n rs := told_rows hn hg (gt good)
  rw [bnd_eq e1]
  simp only
  rw [bnd_eq (lines_n hnA hl hg), bnd_eq (plain_n (by decide) (by decide) sm), bnd_eq (code_text_n hnA hl hg), bnd_eq (heard_n (by omega)), bnd_eq e2]
  simp only
  rw [bnd_eq (heard_n (by omega)), tp, tt]
  have e3 : D.tup [D.str ("told" : Str), (vP2 D.int (vT vD)) (n, rs.map dR)] = toldC n rs := by
    show D.tup [_, D.tup [_, vT vD (rs.map dR)]] = _
    rw [vT_vD]; rfl
  rw [e3]
  have ok := told_ok (t := t) (by omega)
  rw [tt] at ok
  rw [bnd_eq (alike_n rfl (by simp [okL, okLs, ok.1]) (by have := ok.2; simp [sz1, szs]; omega)), bnd_eq (ofO_eq asB_b), if_neg (by simp)]
  obtain ⟨s, f1, f2⟩ := nFor_ex (L := Empty) (f := (fun (y17 : Int) (s16 : (List D)) => (O.bnd (n__law_bent s16 (lns n rs)) fun x18 => (O.bnd ((if (decide (5 < y17)) then (O.bnd (n__law_bent x18.2 x18.1) fun x19 => (.rt (x19.1, x19.2))) else (.rt (x18.1, x18.2))) : Fr ((List (List Str)) × (List D))) fun x20 => (O.bnd (n__law_loose x20.2 x20.1) fun x21 => (O.bnd (n__law_heard x21.1) fun x22 => (O.bnd (n__law_read x21.1) fun x23 => (O.bnd (x__law_alike [x22, x23]) fun x24 => (O.bnd (ofO (asB x24)) fun c25 => (if (!c25) then (.rt (false, x21.2)) else (.nx x21.2))))))))))) (P := fun _ s => RlOk s) (fun x r s hs => by
    obtain ⟨b1, q1, g1, hq1, s1⟩ := bent_n (k := 4) (m := 8) hs (by decide) (by decide) (by decide) sm
    have g2 : ∃ b2 q2, (if (decide (5 < x)) then (O.bnd (n__law_bent q1 b1) fun x19 => (.rt (x19.1, x19.2))) else (.rt (b1, q1)) : Fr ((List (List Str)) × (List D))) = .rt (b2, q2) ∧ RlOk q2 ∧ Sm 10 20 b2 := by
      by_cases hx : 5 < x
      · obtain ⟨b2, q2, g3, hq2, s2⟩ := bent_n (k := 5) (m := 9) hq1 (by decide) (by decide) (by decide) s1
        refine ⟨b2, q2, ?_, hq2, by have := s2.1; omega, fun ws hws => lnOk_mono (by decide) (s2.2 ws hws)⟩
        rw [if_pos (by simp [hx]), bnd_eq g3]
      · refine ⟨b1, q1, ?_, hq1, by have := s1.1; omega, fun ws hws => lnOk_mono (by decide) (s1.2 ws hws)⟩
        rw [if_neg (by simp [hx])]
    obtain ⟨b2, q2, g3, hq2, s2⟩ := g2
    obtain ⟨u, q3, g4, hq3, lu, _⟩ := loose_n hq2 s2
    have oku := told_ok (t := u) (by omega)
    refine ⟨q3, ?_, hq3⟩
    refine (bnd_eq g1).trans ?_
    refine (bnd_eq g3).trans ?_
    refine (bnd_eq g4).trans ?_
    refine (bnd_eq (heard_n (by show u.length ≤ _; omega))).trans ?_
    refine (bnd_eq (read_n (by show u.length ≤ _; omega))).trans ?_
    refine (bnd_eq (alike_n rfl oku.1 (by have := oku.2; omega))).trans ?_
    exact bnd_eq (ofO_eq asB_b)) (rgI 0 (Int.toNat 9)) p2 hp2
  exact ⟨s, seq_eq f1, f2⟩
/-! texts by hand -/
def TX : List Str := [("" : Str), ("\n" : Str), ("# code 1" : Str), ("turn" : Str), ("code" : Str), ("code 01" : Str), ("code -1" : Str), ("code 1 2" : Str), ("code 2\nturn\nkeep 1" : Str), ("code 0" : Str), ("code 1\nturns" : Str), ("code 1\nturn 1" : Str), ("code 1\ncut 0 -1 0" : Str), ("code 1\ncut 0 -2 0\n" : Str), ("code 1\ncut 0 -3 0" : Str), ("code 1\ncut -1 0 0" : Str), ("code 1\nset 0 -1" : Str)] ++ [("code 1\n\n#x\nput first 0" : Str), ("code 1\ncode 1" : Str), ("code 1\nless 1" : Str), ("code 1\nless x" : Str), ("code 1\nset 0 999999999\nset 0 1000000000" : Str), ("code 1\nhalf\nturn 3" : Str), ("code 1\n  swap   3  \n " : Str), ("code 1\ncut 0 -0 0" : Str), ("code 1\ncut 0 half 0" : Str), ("Code 1" : Str)]
def DX : List D := [(D.tup [(D.str ("bad" : Str)), (D.int 1), (D.str ("code" : Str))]), (D.tup [(D.str ("bad" : Str)), (D.int 2), (D.str ("code" : Str))]), (D.tup [(D.str ("bad" : Str)), (D.int 2), (D.str ("code" : Str))]), (D.tup [(D.str ("bad" : Str)), (D.int 1), (D.str ("code" : Str))]), (D.tup [(D.str ("bad" : Str)), (D.int 1), (D.str ("code" : Str))]), (D.tup [(D.str ("bad" : Str)), (D.int 1), (D.str ("code" : Str))]), (D.tup [(D.str ("bad" : Str)), (D.int 1), (D.str ("code" : Str))]), (D.tup [(D.str ("bad" : Str)), (D.int 1), (D.str ("code" : Str))]), (D.tup [(D.str ("told" : Str)), (D.tup [(D.int 2), (D.tup [(D.tup [(D.str ("turn" : Str))]), (D.tup [(D.str ("keep" : Str)), (D.int 1)])])])]), (D.tup [(D.str ("told" : Str)), (D.tup [(D.int 0), (D.tup [])])]), (D.tup [(D.str ("bad" : Str)), (D.int 2), (D.str ("kind" : Str))]), (D.tup [(D.str ("bad" : Str)), (D.int 2), (D.str ("words" : Str))])] ++ [(D.tup [(D.str ("told" : Str)), (D.tup [(D.int 1), (D.tup [(D.tup [(D.str ("cut" : Str)), (D.int 0), (D.int (-1)), (D.int 0)])])])]), (D.tup [(D.str ("told" : Str)), (D.tup [(D.int 1), (D.tup [(D.tup [(D.str ("cut" : Str)), (D.int 0), (D.int (-2)), (D.int 0)])])])]), (D.tup [(D.str ("bad" : Str)), (D.int 2), (D.str ("number" : Str))]), (D.tup [(D.str ("bad" : Str)), (D.int 2), (D.str ("number" : Str))]), (D.tup [(D.str ("bad" : Str)), (D.int 2), (D.str ("number" : Str))]), (D.tup [(D.str ("bad" : Str)), (D.int 4), (D.str ("number" : Str))]), (D.tup [(D.str ("bad" : Str)), (D.int 2), (D.str ("kind" : Str))]), (D.tup [(D.str ("bad" : Str)), (D.int 2), (D.str ("words" : Str))]), ((vP3 D.str D.int D.str) (("bad" : Str), 2, ("words" : Str)))] ++ [(D.tup [(D.str ("bad" : Str)), (D.int 3), (D.str ("number" : Str))]), (D.tup [(D.str ("bad" : Str)), (D.int 2), (D.str ("kind" : Str))]), (D.tup [(D.str ("told" : Str)), (D.tup [(D.int 1), (D.tup [(D.tup [(D.str ("swap" : Str)), (D.int 3)])])])]), (D.tup [(D.str ("bad" : Str)), (D.int 2), (D.str ("number" : Str))]), (D.tup [(D.str ("bad" : Str)), (D.int 2), (D.str ("number" : Str))]), (D.tup [(D.str ("bad" : Str)), (D.int 1), (D.str ("code" : Str))])]
theorem hand_ok {x : Int} (h0 : 0 ≤ x) (h1 : x < 27) : ∃ t, atI TX x = some t ∧ atI DX x = some (told t) ∧ t.length ≤ 100 := by
  rcases (by omega : x = 0 ∨ x = 1 ∨ x = 2 ∨ x = 3 ∨ x = 4 ∨ x = 5 ∨ x = 6 ∨ x = 7 ∨ x = 8 ∨ x = 9 ∨ x = 10 ∨ x = 11 ∨ x = 12 ∨ x = 13 ∨ x = 14 ∨ x = 15 ∨ x = 16 ∨ x = 17 ∨ x = 18 ∨ x = 19 ∨ x = 20 ∨ x = 21 ∨ x = 22 ∨ x = 23 ∨ x = 24 ∨ x = 25 ∨ x = 26) with rfl | rfl | rfl | rfl | rfl | rfl | rfl | rfl | rfl | rfl | rfl | rfl | rfl | rfl | rfl | rfl | rfl | rfl | rfl | rfl | rfl | rfl | rfl | rfl | rfl | rfl | rfl
  · exact ⟨_, rfl, by rw [hk0]; rfl, by decide +kernel⟩
  · exact ⟨_, rfl, by rw [hk1]; rfl, by decide +kernel⟩
  · exact ⟨_, rfl, by rw [hk2]; rfl, by decide +kernel⟩
  · exact ⟨_, rfl, by rw [hk3]; rfl, by decide +kernel⟩
  · exact ⟨_, rfl, by rw [hk4]; rfl, by decide +kernel⟩
  · exact ⟨_, rfl, by rw [hk5]; rfl, by decide +kernel⟩
  · exact ⟨_, rfl, by rw [hk6]; rfl, by decide +kernel⟩
  · exact ⟨_, rfl, by rw [hk7]; rfl, by decide +kernel⟩
  · exact ⟨_, rfl, by rw [hk8]; rfl, by decide +kernel⟩
  · exact ⟨_, rfl, by rw [hk9]; rfl, by decide +kernel⟩
  · exact ⟨_, rfl, by rw [hk10]; rfl, by decide +kernel⟩
  · exact ⟨_, rfl, by rw [hk11]; rfl, by decide +kernel⟩
  · exact ⟨_, rfl, by rw [hk12]; rfl, by decide +kernel⟩
  · exact ⟨_, rfl, by rw [hk13]; rfl, by decide +kernel⟩
  · exact ⟨_, rfl, by rw [hk14]; rfl, by decide +kernel⟩
  · exact ⟨_, rfl, by rw [hk15]; rfl, by decide +kernel⟩
  · exact ⟨_, rfl, by rw [hk16]; rfl, by decide +kernel⟩
  · exact ⟨_, rfl, by rw [hk17]; rfl, by decide +kernel⟩
  · exact ⟨_, rfl, by rw [hk18]; rfl, by decide +kernel⟩
  · exact ⟨_, rfl, by rw [hk19]; rfl, by decide +kernel⟩
  · exact ⟨_, rfl, by rw [hk20]; rfl, by decide +kernel⟩
  · exact ⟨_, rfl, by rw [hk21]; rfl, by decide +kernel⟩
  · exact ⟨_, rfl, by rw [hk22]; rfl, by decide +kernel⟩
  · exact ⟨_, rfl, by rw [hk23]; rfl, by decide +kernel⟩
  · exact ⟨_, rfl, by rw [hk24]; rfl, by decide +kernel⟩
  · exact ⟨_, rfl, by rw [hk25]; rfl, by decide +kernel⟩
  · exact ⟨_, rfl, by rw [hk26]; rfl, by decide +kernel⟩
theorem gmul2 (d : D) : gMul (D.tup [d]) (D.int 2) = some (D.tup [d, d]) := by rfl
theorem less_n : n__law_long ("less" : Str) = .rt 3 := by
  unfold n__law_long
  have e : tb_1.lookup ("less" : Str) = some 3 := by decide +kernel
  rw [e]; rfl
theorem txl : TX.length = 27 := rfl
theorem turn_n {x : Int} (h0 : 0 ≤ x) (h1 : x < 27) : ((O.bnd (ofO (atI TX x)) fun x19 => (O.bnd (n__law_heard x19) fun x20 => (O.bnd (ofO (atI TX x)) fun x21 => (O.bnd (n__law_read x21) fun x22 => (O.bnd (ofO (atI DX x)) fun x23 => (O.bnd (ofO (gMul (D.tup [x23]) (D.int 2))) fun x24 => (O.bnd (x__law_alike [(D.tup [x20, x22]), x24]) fun x25 => (O.bnd (ofO (asB x25)) fun c26 => (if (!c26) then (.rt false) else (.nx ())))))))))) : O Unit Unit Bool) = .nx () := by
  obtain ⟨t, e1, e2, lt⟩ := hand_ok h0 h1
  have ok := pair_ok (told_ok (t := t) (by omega))
  refine (bnd_eq (ofO_eq e1)).trans ?_
  refine (bnd_eq (heard_n (by omega))).trans ?_
  refine (bnd_eq (ofO_eq e1)).trans ?_
  refine (bnd_eq (read_n (by omega))).trans ?_
  refine (bnd_eq (ofO_eq e2)).trans ?_
  refine (bnd_eq (ofO_eq (gmul2 _))).trans ?_
  refine (bnd_eq (alike_n rfl ok.1 ok.2)).trans ?_
  exact bnd_eq (ofO_eq asB_b)
theorem grow_c : GRow (("cut" : Str), [0, -1, 0]) := ⟨by decide +kernel, by decide +kernel, fun j hj => by
  match j, hj with
  | 0, _ => exact .inl (show (0 : Int) ∈ numsF by decide)
  | 1, _ => exact .inr ⟨rfl, rfl, show (-1 : Int) ∈ cutF by decide⟩
  | 2, _ => exact .inl (show (0 : Int) ∈ numsF by decide)⟩
theorem grow_p : GRow (("put" : Str), [1, 0]) := ⟨by decide +kernel, by decide +kernel, fun j hj => by
  match j, hj with
  | 0, _ => exact .inl (show (1 : Int) ∈ numsF by decide)
  | 1, _ => exact .inl (show (0 : Int) ∈ numsF by decide)⟩
theorem last1 : plainOf (lns 1 [(("cut" : Str), [0, -1, 0]), (("put" : Str), [1, 0])]) = ("code 1\ncut 0 -1 0\nput 1 0\n" : Str) := by decide +kernel
theorem last2 : plainOf (lns 3 []) = ("code 3\n" : Str) := by decide +kernel
theorem last3 : (rowsFrom 0 (linesOf ("code 3" : Str)), (linesOf ("code 3" : Str)).length) = ([(1, [("code" : Str), ("3" : Str)])], 1) := by decide +kernel
theorem last4 : hdN [("code" : Str), ("3" : Str)] = some 3 := by decide +kernel
theorem last5 : n_read_code ("code 3" : Str) = .rt (3, []) := by
  rw [read_code_n (by decide +kernel)]
  have h := last3
  rw [Prod.mk.injEq] at h
  rw [h.1]
  show (match hdN [("code" : Str), ("3" : Str)] with
    | none => .exc (exE 1 "code")
    | some p => match rowsR [] with
      | .ok ds => .rt (p, ds)
      | .error (j, e) => .exc (exE j e) : Fr (Int × List D)) = _
  rw [last4]; rfl
theorem law_n (ns : List Int) : n_law ns = .rt true := by
  unfold n_law
  obtain ⟨p, e1, hp⟩ := reel_n ns
  rw [bnd_eq e1]
  obtain ⟨s, f1, f2⟩ := nFor_ex (L := Empty) (f := (fun (y3 : Int) (s2 : (List D)) => (O.bnd (n__law_asked s2) fun x4 => (if (!x4.1) then (.rt false) else (.nx x4.2)) : O (List D) (List D) Bool))) (P := fun _ s => RlOk s) (fun x r s hs => by
    obtain ⟨q, e, hq⟩ := asked_n hs
    exact ⟨q, bnd_eq e, hq⟩) (rgI 0 (Int.toNat 4)) p hp
  rw [seq_eq f1, bnd_rt]
  have eT : (O.bnd (ofO (cat (α := Str) [("" : Str), ("\n" : Str), ("# code 1" : Str), ("turn" : Str), ("code" : Str), ("code 01" : Str), ("code -1" : Str), ("code 1 2" : Str), ("code 2\nturn\nkeep 1" : Str), ("code 0" : Str), ("code 1\nturns" : Str), ("code 1\nturn 1" : Str), ("code 1\ncut 0 -1 0" : Str), ("code 1\ncut 0 -2 0\n" : Str), ("code 1\ncut 0 -3 0" : Str), ("code 1\ncut -1 0 0" : Str), ("code 1\nset 0 -1" : Str)] [("code 1\n\n#x\nput first 0" : Str), ("code 1\ncode 1" : Str), ("code 1\nless 1" : Str), ("code 1\nless x" : Str), ("code 1\nset 0 999999999\nset 0 1000000000" : Str), ("code 1\nhalf\nturn 3" : Str), ("code 1\n  swap   3  \n " : Str), ("code 1\ncut 0 -0 0" : Str), ("code 1\ncut 0 half 0" : Str), ("Code 1" : Str)])) fun x7 => (.rt x7) : Fr (List Str)) = .rt TX := bnd_eq (ofO_eq (cat_ok (by decide)))
  rw [bnd_eq eT, bnd_rt]
  have eL : (O.bnd (n__law_long ("less" : Str)) fun x10 => (if (decide (x10 = 2)) then (.rt (("bad" : Str), 2, ("number" : Str))) else (.rt (("bad" : Str), 2, ("words" : Str)))) : Fr (Str × Int × Str)) = .rt (("bad" : Str), 2, ("words" : Str)) := (bnd_eq less_n).trans (if_neg (by decide))
  have eD : (O.bnd (ofO (cat (α := D) [(D.tup [(D.str ("bad" : Str)), (D.int 1), (D.str ("code" : Str))]), (D.tup [(D.str ("bad" : Str)), (D.int 2), (D.str ("code" : Str))]), (D.tup [(D.str ("bad" : Str)), (D.int 2), (D.str ("code" : Str))]), (D.tup [(D.str ("bad" : Str)), (D.int 1), (D.str ("code" : Str))]), (D.tup [(D.str ("bad" : Str)), (D.int 1), (D.str ("code" : Str))]), (D.tup [(D.str ("bad" : Str)), (D.int 1), (D.str ("code" : Str))]), (D.tup [(D.str ("bad" : Str)), (D.int 1), (D.str ("code" : Str))]), (D.tup [(D.str ("bad" : Str)), (D.int 1), (D.str ("code" : Str))]), (D.tup [(D.str ("told" : Str)), (D.tup [(D.int 2), (D.tup [(D.tup [(D.str ("turn" : Str))]), (D.tup [(D.str ("keep" : Str)), (D.int 1)])])])]), (D.tup [(D.str ("told" : Str)), (D.tup [(D.int 0), (D.tup [])])]), (D.tup [(D.str ("bad" : Str)), (D.int 2), (D.str ("kind" : Str))]), (D.tup [(D.str ("bad" : Str)), (D.int 2), (D.str ("words" : Str))])] [(D.tup [(D.str ("told" : Str)), (D.tup [(D.int 1), (D.tup [(D.tup [(D.str ("cut" : Str)), (D.int 0), (D.int (-1)), (D.int 0)])])])]), (D.tup [(D.str ("told" : Str)), (D.tup [(D.int 1), (D.tup [(D.tup [(D.str ("cut" : Str)), (D.int 0), (D.int (-2)), (D.int 0)])])])]), (D.tup [(D.str ("bad" : Str)), (D.int 2), (D.str ("number" : Str))]), (D.tup [(D.str ("bad" : Str)), (D.int 2), (D.str ("number" : Str))]), (D.tup [(D.str ("bad" : Str)), (D.int 2), (D.str ("number" : Str))]), (D.tup [(D.str ("bad" : Str)), (D.int 4), (D.str ("number" : Str))]), (D.tup [(D.str ("bad" : Str)), (D.int 2), (D.str ("kind" : Str))]), (D.tup [(D.str ("bad" : Str)), (D.int 2), (D.str ("words" : Str))]), ((vP3 D.str D.int D.str) (("bad" : Str), 2, ("words" : Str)))])) fun x12 => (.rt x12) : Fr (List D)) = .rt ([(D.tup [(D.str ("bad" : Str)), (D.int 1), (D.str ("code" : Str))]), (D.tup [(D.str ("bad" : Str)), (D.int 2), (D.str ("code" : Str))]), (D.tup [(D.str ("bad" : Str)), (D.int 2), (D.str ("code" : Str))]), (D.tup [(D.str ("bad" : Str)), (D.int 1), (D.str ("code" : Str))]), (D.tup [(D.str ("bad" : Str)), (D.int 1), (D.str ("code" : Str))]), (D.tup [(D.str ("bad" : Str)), (D.int 1), (D.str ("code" : Str))]), (D.tup [(D.str ("bad" : Str)), (D.int 1), (D.str ("code" : Str))]), (D.tup [(D.str ("bad" : Str)), (D.int 1), (D.str ("code" : Str))]), (D.tup [(D.str ("told" : Str)), (D.tup [(D.int 2), (D.tup [(D.tup [(D.str ("turn" : Str))]), (D.tup [(D.str ("keep" : Str)), (D.int 1)])])])]), (D.tup [(D.str ("told" : Str)), (D.tup [(D.int 0), (D.tup [])])]), (D.tup [(D.str ("bad" : Str)), (D.int 2), (D.str ("kind" : Str))]), (D.tup [(D.str ("bad" : Str)), (D.int 2), (D.str ("words" : Str))])] ++ [(D.tup [(D.str ("told" : Str)), (D.tup [(D.int 1), (D.tup [(D.tup [(D.str ("cut" : Str)), (D.int 0), (D.int (-1)), (D.int 0)])])])]), (D.tup [(D.str ("told" : Str)), (D.tup [(D.int 1), (D.tup [(D.tup [(D.str ("cut" : Str)), (D.int 0), (D.int (-2)), (D.int 0)])])])]), (D.tup [(D.str ("bad" : Str)), (D.int 2), (D.str ("number" : Str))]), (D.tup [(D.str ("bad" : Str)), (D.int 2), (D.str ("number" : Str))]), (D.tup [(D.str ("bad" : Str)), (D.int 2), (D.str ("number" : Str))]), (D.tup [(D.str ("bad" : Str)), (D.int 4), (D.str ("number" : Str))]), (D.tup [(D.str ("bad" : Str)), (D.int 2), (D.str ("kind" : Str))]), (D.tup [(D.str ("bad" : Str)), (D.int 2), (D.str ("words" : Str))]), ((vP3 D.str D.int D.str) (("bad" : Str), 2, ("words" : Str)))]) := bnd_eq (ofO_eq (cat_ok (by simp)))
  rw [eL, bnd_rt, bnd_eq eD]
  rw [bnd_eq (a := DX) (bnd_eq (ofO_eq (cat_ok (by simp))))]
  rw [txl, bnd_eq (ofO_eq (rg1_ok (by decide)))]
  rw [seq_eq (a := ()) (nFor_all _ fun x hx => by
    rw [mem_rgI] at hx
    exact turn_n (by omega) (by have := hx.2; simp at this; omega))]
  have c1 : n_code_text (1, [(D.tup [(D.str ("cut" : Str)), (D.int 0), (D.int (-1)), (D.int 0)]), (D.tup [(D.str ("put" : Str)), (D.int 1), (D.int 0)])]) = .rt ("code 1\ncut 0 -1 0\nput 1 0\n" : Str) := by
    rw [← last1]
    exact code_text_n (rs := [(("cut" : Str), [0, -1, 0]), (("put" : Str), [1, 0])]) (by decide) (by decide) (by
      intro r hr
      simp only [List.mem_cons, List.not_mem_nil, or_false] at hr
      rcases hr with rfl | rfl
      · exact grow_c
      · exact grow_p)
  have c2 : n_code_text (3, []) = .rt ("code 3\n" : Str) := by
    rw [← last2]
    exact code_text_n (rs := []) (by decide) (by decide) (by simp)
  rw [bnd_eq (a := (("code 1\ncut 0 -1 0\nput 1 0\n" : Str), ("code 3\n" : Str), ((3 : Int), ([] : List D)))) ((bnd_eq c1).trans ((bnd_eq c2).trans (bnd_eq last5)))]
  refine (bnd_eq (a := .bl true) (alike_n ?_ ?_ ?_)).trans rfl
  · rfl
  · rfl
  · decide
theorem law_true (ns : List Int) (_ : ns.length ≤ 63) : ∃ outs, d_law [.scr ns] = .ret (.bl true) outs := ⟨_, (q_law ns).rt (law_n ns)⟩
end K08
open PySem PySem.W PyProof.Rows
set_option maxHeartbeats 0 in
theorem PySem.Challenge.cw_whatevertext_k08_code_texts_holds : PySem.Challenge.rw_whatevertext_k08_code_texts.Holds := by
  w_on; o_law; k_head; (case hw => w_witness2)
  k_fill
  refine L2.walk_of (l := PySem.Challenge.rw_whatevertext_k08_code_texts) (n := 63) (k := 14) (x := "script") (CX := fun w => L2.CX PySem.Challenge.rw_whatevertext_k08_code_texts.prog w) (sp := fun w => DL.spLaw K08.d_law _) rfl (by decide) rfl ⟨rfl, by decide, by decide⟩ (fun w h Y => PySem.W.kIn_of Y) ?F (fun _ H a ns hl hO hS mg => DL.law_ok hS hO (K08.law_true ns hl)) (fun _ _ _ _ _ h => DL.cx_no h)
  case F =>
    intro w mg fa h KX G hmg
    refine' K08.all_mk KX G hmg ?aC_BadText ?aC_MoveError ?aC_TextError ?eC_BadText ?tC_BadText ?iC_BadText ?eC_MoveError ?tC_MoveError ?iC_MoveError ?eC_TextError ?tC_TextError ?iC_TextError ?s_BadText_BadText ?q_BadText_MoveError ?q_BadText_TextError ?xC_BadText ?al_BadText ?sa_BadText ?ga_BadText ?gg_BadText ?nf_line_BadText ?nf_word_BadText ?hd_BadText ?kC_BadText ?fi_BadText ?ti_BadText ?li_BadText ?cd_BadText ?la_BadText ?v2_BadText ?fl_BadText ?lc_BadText ?op_any ?z_super ?sup_none ?z_abs ?z_bool ?z_enumerate ?z_int ?z_isinstance ?z_len ?z_list ?z_range ?z_str ?z_tuple ?xa_BadText ?xm_BadText ?x_sp ?x_tk ?a_gAMOUNTS ?gl_AMOUNTS ?gz_AMOUNTS ?gv_AMOUNTS ?a_gFIGURES ?a_gNEWLINE ?a_gSIZES ?gl_SIZES ?gk_SIZES ?gd_SIZES ?gw_SIZES ?a_lines_of ?l_lines_of ?c_lines_of ?k_lines_of ?a_line_words ?l_line_words ?c_line_words ?k_line_words ?a_is_passed_over ?l_is_passed_over ?c_is_passed_over ?k_is_passed_over ?a_read_lines ?l_read_lines ?c_read_lines ?k_read_lines ?a_last_line ?l_last_line ?c_last_line ?k_last_line ?a_text_of_lines ?l_text_of_lines ?c_text_of_lines ?k_text_of_lines ?a_is_written ?l_is_written ?c_is_written ?k_is_written ?a_row_line ?l_row_line ?c_row_line ?k_row_line ?a_code_lines ?l_code_lines ?c_code_lines ?k_code_lines ?a_code_text ?l_code_text ?c_code_text ?k_code_text ?a_is_number ?l_is_number ?c_is_number ?k_is_number ?a_read_row ?l_read_row ?c_read_row ?k_read_row ?a_read_code ?l_read_code ?c_read_code ?k_read_code ?a__law_reel ?l__law_reel ?c__law_reel ?k__law_reel ?a__law_spin ?l__law_spin ?c__law_spin ?k__law_spin ?a__law_alike ?l__law_alike ?c__law_alike ?k__law_alike ?a__law_long ?l__law_long ?c__law_long ?k__law_long ?a__law_number ?l__law_number ?c__law_number ?k__law_number ?a__law_read ?l__law_read ?c__law_read ?k__law_read ?a__law_heard ?l__law_heard ?c__law_heard ?k__law_heard ?a__law_code ?l__law_code ?c__law_code ?k__law_code ?a__law_lines ?l__law_lines ?c__law_lines ?k__law_lines ?a__law_loose ?l__law_loose ?c__law_loose ?k__law_loose ?a__law_bent ?l__law_bent ?c__law_bent ?k__law_bent ?a__law_asked ?l__law_asked ?c__law_asked ?k__law_asked ?a_law ?l_law ?c_law ?k_law
    (case aC_BadText => k_is)
    (case aC_MoveError => k_is)
    (case aC_TextError => k_is)
    (case eC_BadText => k_is)
    (case tC_BadText => k_is)
    (case iC_BadText => k_is)
    (case eC_MoveError => k_is)
    (case tC_MoveError => k_is)
    (case iC_MoveError => k_is)
    (case eC_TextError => k_is)
    (case tC_TextError => k_is)
    (case iC_TextError => k_is)
    (case s_BadText_BadText => first | k_is | rfl)
    (case q_BadText_MoveError => first | k_is | rfl)
    (case q_BadText_TextError => first | k_is | rfl)
    (case xC_BadText => k_is)
    (case al_BadText => first | k_is | rfl)
    (case sa_BadText => k_is)
    (case ga_BadText => k_is)
    (case gg_BadText => k_is)
    (case nf_line_BadText => k_is)
    (case nf_word_BadText => k_is)
    (case hd_BadText => k_is)
    (case kC_BadText => k_is)
    (case fi_BadText => k_is)
    (case ti_BadText => k_is)
    (case li_BadText => first | k_is | rfl)
    (case cd_BadText => k_is)
    (case la_BadText => k_is)
    (case v2_BadText => first | rfl | decide +kernel)
    (case fl_BadText => first | rfl | decide +kernel)
    (case lc_BadText => k_is)
    (case op_any => k_is)
    (case z_super => k_is)
    (case sup_none => first | rfl | decide +kernel)
    (case z_abs => k_is)
    (case z_bool => k_is)
    (case z_enumerate => k_is)
    (case z_int => k_is)
    (case z_isinstance => k_is)
    (case z_len => k_is)
    (case z_list => k_is)
    (case z_range => k_is)
    (case z_str => k_is)
    (case z_tuple => k_is)
    (case xa_BadText => k_is)
    (case xm_BadText => k_is)
    (case x_sp => k_is)
    (case x_tk => k_is)
    (case a_gAMOUNTS => k_is)
    (case gl_AMOUNTS => k_is)
    (case gz_AMOUNTS => rw [sizeLine_eq]; exact Nat.le_of_ble_eq_true rfl)
    (case gv_AMOUNTS => exact (.cons ⟨_, rfl⟩ (.cons ⟨_, rfl⟩ .nil)))
    (case a_gFIGURES => k_is)
    (case a_gNEWLINE => k_is)
    (case a_gSIZES => k_is)
    (case gl_SIZES => k_is)
    (case gk_SIZES => exact ⟨⟨_, _, rfl, rfl⟩, ⟨⟨_, _, rfl, rfl⟩, ⟨⟨_, _, rfl, rfl⟩, ⟨⟨_, _, rfl, rfl⟩, ⟨⟨_, _, rfl, rfl⟩, ⟨⟨_, _, rfl, rfl⟩, ⟨⟨_, _, rfl, rfl⟩, ⟨⟨_, _, rfl, rfl⟩, ⟨⟨_, _, rfl, rfl⟩, trivial⟩⟩⟩⟩⟩⟩⟩⟩⟩)
    (case gd_SIZES => exact ⟨⟨⟨_, rfl⟩, (.int 1), ⟨_, rfl⟩, fun _ => (.int 1)⟩, ⟨⟨⟨_, rfl⟩, (.int 4), ⟨_, rfl⟩, fun _ => (.int 4)⟩, ⟨⟨⟨_, rfl⟩, (.int 3), ⟨_, rfl⟩, fun _ => (.int 3)⟩, ⟨⟨⟨_, rfl⟩, (.int 3), ⟨_, rfl⟩, fun _ => (.int 3)⟩, ⟨⟨⟨_, rfl⟩, (.int 2), ⟨_, rfl⟩, fun _ => (.int 2)⟩, ⟨⟨⟨_, rfl⟩, (.int 2), ⟨_, rfl⟩, fun _ => (.int 2)⟩, ⟨⟨⟨_, rfl⟩, (.int 2), ⟨_, rfl⟩, fun _ => (.int 2)⟩, ⟨⟨⟨_, rfl⟩, (.int 3), ⟨_, rfl⟩, fun _ => (.int 3)⟩, ⟨⟨⟨_, rfl⟩, (.int 3), ⟨_, rfl⟩, fun _ => (.int 3)⟩, trivial⟩⟩⟩⟩⟩⟩⟩⟩⟩)
    (case gw_SIZES => first | rfl | decide)
    (case a_lines_of => k_is)
    (case l_lines_of => k_is)
    (case c_lines_of => k_is)
    (case k_lines_of => k_is)
    (case a_line_words => k_is)
    (case l_line_words => k_is)
    (case c_line_words => k_is)
    (case k_line_words => k_is)
    (case a_is_passed_over => k_is)
    (case l_is_passed_over => k_is)
    (case c_is_passed_over => k_is)
    (case k_is_passed_over => k_is)
    (case a_read_lines => k_is)
    (case l_read_lines => k_is)
    (case c_read_lines => k_is)
    (case k_read_lines => k_is)
    (case a_last_line => k_is)
    (case l_last_line => k_is)
    (case c_last_line => k_is)
    (case k_last_line => k_is)
    (case a_text_of_lines => k_is)
    (case l_text_of_lines => k_is)
    (case c_text_of_lines => k_is)
    (case k_text_of_lines => k_is)
    (case a_is_written => k_is)
    (case l_is_written => k_is)
    (case c_is_written => k_is)
    (case k_is_written => k_is)
    (case a_row_line => k_is)
    (case l_row_line => k_is)
    (case c_row_line => k_is)
    (case k_row_line => k_is)
    (case a_code_lines => k_is)
    (case l_code_lines => k_is)
    (case c_code_lines => k_is)
    (case k_code_lines => k_is)
    (case a_code_text => k_is)
    (case l_code_text => k_is)
    (case c_code_text => k_is)
    (case k_code_text => k_is)
    (case a_is_number => k_is)
    (case l_is_number => k_is)
    (case c_is_number => k_is)
    (case k_is_number => k_is)
    (case a_read_row => k_is)
    (case l_read_row => k_is)
    (case c_read_row => k_is)
    (case k_read_row => k_is)
    (case a_read_code => k_is)
    (case l_read_code => k_is)
    (case c_read_code => k_is)
    (case k_read_code => k_is)
    (case a__law_reel => k_is)
    (case l__law_reel => k_is)
    (case c__law_reel => k_is)
    (case k__law_reel => k_is)
    (case a__law_spin => k_is)
    (case l__law_spin => k_is)
    (case c__law_spin => k_is)
    (case k__law_spin => k_is)
    (case a__law_alike => k_is)
    (case l__law_alike => k_is)
    (case c__law_alike => k_is)
    (case k__law_alike => k_is)
    (case a__law_long => k_is)
    (case l__law_long => k_is)
    (case c__law_long => k_is)
    (case k__law_long => k_is)
    (case a__law_number => k_is)
    (case l__law_number => k_is)
    (case c__law_number => k_is)
    (case k__law_number => k_is)
    (case a__law_read => k_is)
    (case l__law_read => k_is)
    (case c__law_read => k_is)
    (case k__law_read => k_is)
    (case a__law_heard => k_is)
    (case l__law_heard => k_is)
    (case c__law_heard => k_is)
    (case k__law_heard => k_is)
    (case a__law_code => k_is)
    (case l__law_code => k_is)
    (case c__law_code => k_is)
    (case k__law_code => k_is)
    (case a__law_lines => k_is)
    (case l__law_lines => k_is)
    (case c__law_lines => k_is)
    (case k__law_lines => k_is)
    (case a__law_loose => k_is)
    (case l__law_loose => k_is)
    (case c__law_loose => k_is)
    (case k__law_loose => k_is)
    (case a__law_bent => k_is)
    (case l__law_bent => k_is)
    (case c__law_bent => k_is)
    (case k__law_bent => k_is)
    (case a__law_asked => k_is)
    (case l__law_asked => k_is)
    (case c__law_asked => k_is)
    (case k__law_asked => k_is)
    (case a_law => k_is)
    (case l_law => k_is)
    (case c_law => k_is)
    (case k_law => k_is)
