import PyProof.Rows.All
import Wide.All
import OpenK.AllK
import Wide.FinOn
import HandS.ForMost
import HandS.Exc
import HandS.Wide
import HandS.Conv
import HandS.Flow
import HandS.Style
import HandS.IsInst
import HandS.Property
import HandS.Defaults
import HandS.SortInts
import HandS.SortRule
import HandS.Zip
import KE.DataAny
import PyProof.ReprRoads
import HandS.Walk
import HandS.SortKw
import HandS.DictTup
import HandS.SortOrd
import KE.KRevIter
import KE.GoesMore
import KE.DataMinMax
import KE.KDictDisplayH
import KE.KDictWalk
import KE.GoesEnum
import HandS.More
import PySem.Challenge.RW_ringcalls_k69_whole_losses_of_long_sched
set_option Elab.async false
set_option linter.all false
set_option maxRecDepth 100000
set_option maxHeartbeats 4000000
set_option Elab.async false
set_option linter.all false
set_option maxRecDepth 100000
set_option maxHeartbeats 4000000
/-! Further rules over the hand layer: a list's cell op=, all over truth values, repr of data, defs that want no repr under way. -/
namespace Rc
open PySem PySem.Spec PyProof.Rows L2

section
variable {X : Cx}
/-- o[i] of a list, by values -/
theorem get_list : PGet X (rIxL X.K) := by
  intro pins s σ H o i ov iv Q I ro ri hh
  obtain ⟨p, xs, k, z, rfl, rfl, hq, he, q⟩ := hh
  cases ro
  obtain ⟨t, rfl⟩ := ri
  obtain ⟨its, r, pl, hz⟩ := I.list hq
  obtain ⟨j, h1, h2, h3, h4, h5⟩ := atI_get he
  obtain ⟨w, ew, rw'⟩ := r.get h2
  have hl := r.length
  have hn := line63
  have fin : EP X pins σ Q w s := ⟨z, H, I, rw', q⟩
  by_cases h0 : 0 ≤ k
  · have hj : k.toNat = j := by
      rw [seqIndex_of h0 h5] at h1
      exact Option.some.inj h1
    exact wpAny_getItem_list pl.isList h0 (by omega) (by rw [hj]; simpa using ew) fin
  · have e1 : seqIndex? k xs.length = some (k + xs.length).toNat := by
      unfold seqIndex?
      have hk : k < 0 := by omega
      simp only [if_pos hk]
      exact if_pos (by simp only [Bool.and_eq_true, decide_eq_true_eq]; omega)
    have hj : (k + (its.toArray.size : Int)).toNat = j := by
      rw [e1] at h1
      have e2 := Option.some.inj h1
      rw [List.size_toArray, ← hl]
      exact e2
    exact wpAny_getItem_list_neg pl.isList (by omega) (by rw [List.size_toArray]; omega) (by omega) (by rw [hj]; simpa using ew) fin

/-- all(l), l a list of truth values -/
def rAllB (K : PySem.W.Frag) : List V → Hp → VK → Prop := fun vs H Q => ∃ (a : Addr) (bs : List Bool), vs = [V.ref a] ∧ SqL K H a (bs.map V.bl) ∧ Q (.bl (bs.all id)) H
theorem vals_bls : ∀ {bs : List Bool} {us : List Value}, Vals (bs.map V.bl) us → us = bs.map Value.bool
  | [], _, .nil => rfl
  | b :: bs, _, .cons r t => by
    rw [vals_bls t]
    exact congrArg (· :: _) r
theorem reads_bls {h : Heap} : ∀ bs : List Bool, ∃ as, ReadsAll h (bs.map Value.bool) (bs.map PyData.bool) as
  | [] => ⟨_, .nil⟩
  | b :: bs => by
    obtain ⟨as, q⟩ := reads_bls (h := h) bs
    exact ⟨_, .cons (Reads.bool b) q⟩
theorem plain_bls : ∀ bs : List Bool, PyData.plainAll (bs.map PyData.bool) = true
  | [] => rfl
  | b :: bs => by
    show (PyData.plain (.bool b) && PyData.plainAll (bs.map PyData.bool)) = true
    rw [plain_bls bs]
    rfl
theorem call_allB (hd : X.A.handled = none) : CallR X (.builtin "all") (rAllB X.K) := by
  intro pins s σ H xs us Q I r hh
  obtain ⟨a, bs, rfl, hl, q⟩ := hh
  obtain ⟨u, rfl, ru⟩ := vals1 r
  cases ru
  obtain ⟨its, rv, pl, hz⟩ := I.list hl
  obtain rfl := vals_bls rv
  obtain ⟨as, hr⟩ := reads_bls (h := s.heap) bs
  refine PySem.W.all_list_data (xs := bs.map PyData.bool) hd pl.isList (by simpa using hr) (plain_bls bs) (fun x hx => ?_) fun h' tk hk => ?_
  · obtain ⟨b, _, rfl⟩ := List.mem_map.mp hx
    exact trivial
  · refine ⟨.bl (bs.all id), H, I.kept hk, ?_, q⟩
    show Value.bool _ = Value.bool _
    congr 1
    rw [List.all_map]
    rfl

/-- repr(x), x data without dicts, while no repr is under way -/
def rReprD (K : PySem.W.Frag) : List V → Hp → VK → Prop := fun vs H Q => ∃ (x : V) (d : PyData), vs = [x] ∧ Dp K H x d ∧ d.showable = true ∧ d.hasDict = false ∧ d.depth ≤ 40 ∧ d.shown.length ≤ sizeLine ∧ Q (.str d.shown) H
theorem call_reprD (hg : X.A.guards = some []) (hu : X.A.units + 64 < cLine) : CallR X (.builtin "repr") (rReprD X.K) := by
  intro pins s σ H xs us Q I r hh
  obtain ⟨x, d, rfl, hd, hs, hnd, hde, hsz, q⟩ := hh
  obtain ⟨u, rfl, ru⟩ := vals1 r
  cases hd with
  | non =>
    cases ru
    exact PySem.P.repr_of_none ⟨.str _, H, I.tok _, ⟨_, rfl⟩, q⟩
  | bl b =>
    cases ru
    exact PySem.P.repr_of_bool ⟨.str _, H, I.tok _, ⟨_, rfl⟩, by cases b <;> exact q⟩
  | int i =>
    obtain ⟨t, rfl⟩ := ru
    exact PySem.P.repr_of_int (of_decide_eq_true hs) ⟨.str _, H, I.tok _, ⟨_, rfl⟩, q⟩
  | str y =>
    obtain ⟨t, rfl⟩ := ru
    exact PySem.P.repr_of_str ⟨.str _, H, I.tok _, ⟨_, rfl⟩, q⟩ hsz
  | lst h1 h2 =>
    obtain ⟨as, rr⟩ := Dp.reads I _ _ _ (.lst h1 h2) ru
    cases ru
    refine PySem.repr_of_reads' rr hs (fun z => by rw [hnd] at z; cases z) hg (by omega) (fun _ _ e => e) (fun h' u tk hk => ?_) hsz
    exact ⟨.str _, H, I.kept hk, ⟨_, rfl⟩, q⟩
  | tup h1 h2 =>
    obtain ⟨as, rr⟩ := Dp.reads I _ _ _ (.tup h1 h2) ru
    cases ru
    refine PySem.repr_of_reads' rr hs (fun z => by rw [hnd] at z; cases z) hg (by omega) (fun _ _ e => e) (fun h' u tk hk => ?_) hsz
    exact ⟨.str _, H, I.kept hk, ⟨_, rfl⟩, q⟩
end

/-! ### defs that want that no repr is under way -/
structure FnOkG (P : Program) (w : World) (K : PySem.W.Frag) (mg : Str → Option Value) (base : Heap) (CX : CXT) (k : Nat) (f : Addr) (fd : FuncData) (ps : List Str) (sp : Sp) : Prop where
  len : ∀ vs H Q E, sp vs H Q E → vs.length = ps.length
  runG : ∀ (A : Around) (outer : List Env) (s : Shared) (H : Hp) (args : Args) (us : List Value) (vs : List V) (Q : VK) (E : XK), A.guards = some [] → Room k A → Env0 P w K mg base A outer s H →
    BindsTo s fd args (ps.zip us) → Vals vs us → sp vs H Q E → codeAny (model P w) A (.call (.ref f) args) (CR CX outer P w H s Q E) s
section
variable {P : Program} {w : World} {K : PySem.W.Frag} {mg : Str → Option Value} {base : Heap} {CX : CXT} {k : Nat} {f : Addr} {fd : FuncData} {ps : List Str} {sp : Sp}
theorem FnOkG.of (F : FnOk P w K mg base CX k f fd ps sp) : FnOkG P w K mg base CX k f fd ps sp := ⟨F.len, fun A outer s H args us vs Q E _ hr => F.run A outer s H args us vs Q E hr⟩
theorem FnOkG.mono {j : Nat} (F : FnOkG P w K mg base CX j f fd ps sp) (h : j ≤ k) : FnOkG P w K mg base CX k f fd ps sp := ⟨F.len, fun A outer s H args us vs Q E g hr => F.runG A outer s H args us vs Q E g (hr.mono h)⟩
end
section
variable {X : Cx} {CX : CXT} {k : Nat} {f C : Addr} {fd : FuncData} {ps : List Str} {sp : Sp} {dvs : List V} {ds : List Value} {E : XK} {x : Str} {p pos : Pos} {e : Expr} {es : List Expr} {t : TA}
theorem run_fnG {pins : List (Addr × Obj)} {σ : L2.St} {H : Hp} {s : Shared} {Q : VK} {us : List Value} {vs : List V} (F : FnOkG X.prog X.w X.K X.mg X.base CX k f fd ps sp) (g : X.A.guards = some []) (hr : Room k X.A) (hb : Binds X.K fd ps ds) (hd : Vals dvs ds)
    (hx : Passes CX X E) (I : Inv X pins σ H s) (r : Vals vs us) (h : sp (vs ++ dvs) H Q E) : wpAny (model X.prog X.w) X.A (call (.ref f) us) (EP X pins σ Q) X.xe s := by
  have r2 := r.append hd
  have hl : (us ++ ds).length = ps.length := r2.length.symm.trans (F.len _ _ _ _ h)
  refine wpAny_call (codeAny_mono (F.runG X.A X.stack s H ⟨us, []⟩ (us ++ ds) (vs ++ dvs) Q E g hr I.env0 (hb s us I.kIn hl) r2 h) fun rr s' hq => ?_)
  match rr, hq with
  | .error e, hq => exact hx pins σ H s e s' I hq
  | .ok (.ret u), hq => exact I.after hq
  | .ok .next, hq => exact hq.elim
  | .ok .brk, hq => exact hq.elim
  | .ok .cont, hq => exact hq.elim
theorem pe_callG (F : FnOkG X.prog X.w X.K X.mg X.base CX k f fd ps sp) (g : X.A.guards = some []) (hr : Room k X.A) (hgl : Gl X x) (hm : X.mg x = some (.ref f)) (hk : PySem.W.keepIn X.K (.ref f) = true) (hb : Binds X.K fd ps ds) (hd : Vals dvs ds)
    (hx : Passes CX X E) (ha : PA X (e :: es) t) (hdb : (x == ("__debug__" : Str)) = false := by decide) (he : starEach (e :: es) X.env = (false, eval e X.env) :: starEach es X.env := by rfl)
    (hpl : (backTo pos (starEach es X.env)).any (·.1) = false := by rfl) : PE X (.Call (.Name x p) (e :: es) [] pos) (tCall sp dvs E t) := by
  constructor
  intro pins s σ H Q I h
  refine wpAny_Call_Name_kw (ld_glob I hgl hm (PySem.W.callWith_K (h₀ := X.base) I.ok.mod.kin hk (thn (ha.run pos pins s σ H _ I h) fun us s1 hh => ?_) he hpl) hdb)
  obtain ⟨vs, H1, I1, r, q⟩ := hh
  exact ⟨I1.kIn, run_fnG F g hr hb hd hx I1 r q⟩
end
section
variable {P : Program} {w : World} {K : PySem.W.Frag} {mg : Str → Option Value} {base : Heap}
/-- the rule for such a def -/
theorem okG {x qual : Str} {st : Stmt} {f : Addr} {fd : FuncData} {N ps : List Str} {k : Nat} {sp : Sp} (F : Fun K x qual st f fd) (S : FnScope N ps (defScope st)) (len : ∀ vs H Q E, sp vs H Q E → vs.length = ps.length)
    (body : ∀ (cdv : Value) (A : Around) (outer : List Env) (s : Shared) (H : Hp) (vs : List V) (Q : VK) (E : XK), A.guards = some [] → Room k (A.deeper (envOfC qual (defScope st) s.heap.objs.size f cdv)) → sp vs H Q E →
      ∃ t, PSs (cxOf CX0 P w K mg base N qual (defScope st) f cdv A outer s H E).nox (defBody st) t ∧ t { nx := fun _ H' => Q .non H', rt := Q } (start N vs) H) : FnOkG P w K mg base CX0 (k + 1) f fd ps sp := by
  obtain ⟨oc, od, kV, doc, pm, an, cdv, ct, osl, rfl, lk, hcd⟩ := F.ex
  constructor
  · exact len
  intro A outer s H args us vs Q E g hr e0 hb r hsp
  have hl := len _ _ _ _ hsp
  have kb : ∀ b o, base.get? b = some o → s.heap.get? b = some o := fun b o e => (e0.bs b o e).1
  have KX : K.In s.heap := e0.mod.kin.keeps kb
  refine codeAny_call_function hr.depth (KX _ _ lk) rfl S.co S.gen rfl (PySem.W.codeRec_of KX hcd) (hb _ _ _ _ ?_)
  refine wpAny_newFunctionEnv_cells S.kind (fun y hy => ?_) fun env he s1 x => ?_
  · have q := S.par y.1 (List.of_mem_zip hy).1
    exact q.imp id fun q => ⟨q, PySem.W.cellsFrom_some _ _ _ (.inl q)⟩
  subst he
  refine ⟨(e0.mod.nolimit.keeps kb).keeps x.toInCall.keep, codeAny_func ?_⟩
  obtain ⟨t, ht, hq⟩ := body cdv A outer s H vs Q E g (hr.deeper _) hsp
  have I := inv_start (CX := CX0) (P := P) (w := w) (K := K) (mg := mg) (base := base) (E := E) S hr.hd e0 hl r x
  refine wpAny_mono (ht.nox.run [] s1 (start N vs) H _ I hq) (fun fl s' hs => ?_) fun e s' hs => hs
  match fl, hs with
  | .ret u, hs =>
    obtain ⟨v, σ', H', J, rv, q⟩ := hs
    exact ⟨v, H', J.os, J.bare, J.base, J.hok, rv, q⟩
  | .next, hs =>
    obtain ⟨σ', H', J, q⟩ := hs
    exact ⟨V.non, H', J.os, J.bare, J.base, J.hok, rfl, q⟩
  | .brk, hs => obtain ⟨_, _, _, q⟩ := hs; exact q.elim
  | .cont, hs => obtain ⟨_, _, _, q⟩ := hs; exact q.elim
theorem deep_guards {A : Around} {env : Env} (g : A.guards = some []) : (A.deeper env).guards = some [] := g
end

/-! ### the law's own head -/
theorem headG {P : Program} {w : World} {K : PySem.W.Frag} {mg mb : Str → Option Value} {k : Nat} {fa a : Addr} {fd : FuncData} {x : Str} {sp : Sp} {s1 : Shared} {vs : List Value} {ns : List Int}
    (KX : K.In s1.heap) (hns : s1.heap.Ns mainGlobals mg) (hb : s1.heap.Ns builtinsNs mb) (hbb : ∀ x : Str, x ≠ "__name__" → mb x = bootBuiltins x) (hlim : s1.heap.NoLimit) (hg : s1.gens = #[])
    (ha : s1.heap.get? a = some { cls := .type "list", data := .seq vs.toArray }) (hi : IntsAre vs ns) (hl : ns.length ≤ sizeLine) (hr : Room k callerA)
    (F : ∀ base : Heap, K.In base → base.Ns mainGlobals mg → FnOkG P w K mg base CX0 k fa fd [x] sp) (hbind : ∀ (s : Shared) (u : Value), BindsTo s fd ⟨[u], []⟩ [(x, u)])
    (hsp : ∀ H : Hp, Only H → SqL K H a (ns.map V.int) → sp [.ref a] H (fun v _ => v = .bl true) fun _ _ _ => False) :
    codeAny (model P w) callerA (.call (.ref fa) ⟨[.ref a], []⟩) (fun r s' => r = .ok (.ret (.bool true)) ∧ OldK s1.heap s'.heap ∧ s'.os = s1.os ∧ AllBare s'.gens) s1 := by
  have rv := vals_ints hi
  have lenV := hi.length
  have core : ∀ H : Hp, Only H → SqL K H a (ns.map V.int) → HOk P w H s1.heap → (∀ b, H b ≠ none → b = a) → (H a ≠ none → K.lookup a = none) →
      codeAny (model P w) callerA (.call (.ref fa) ⟨[.ref a], []⟩) (fun r s' => r = .ok (.ret (.bool true)) ∧ OldK s1.heap s'.heap ∧ s'.os = s1.os ∧ AllBare s'.gens) s1 := by
    intro H hO hS hok hA hK
    have get : ∀ {b : Addr} {o : Obj}, s1.heap.get? b = some o → H b = none → (hidT s1.heap H).get? b = some o := fun e n => hidT_get e n
    have isA : ∀ {b : Addr}, H b ≠ none → b = a := fun {b} z => hA b z
    have noD : ∀ {b : Addr} {o : Obj} {es : Array DictEntry} {ep : Nat}, s1.heap.get? b = some o → o.data = .dict es ep → H b = none := by
      intro b o es ep e d
      refine Classical.byContradiction fun z => ?_
      obtain rfl := isA z
      rw [ha] at e
      obtain rfl := Option.some.inj e
      exact nomatch (show Data.seq vs.toArray _ = Data.dict es ep from d)
    have nsK : ∀ {b : Addr} {m : Str → Option Value}, s1.heap.Ns b m → (hidT s1.heap H).Ns b m := fun {b m} ⟨o, es, ep, e, d, r⟩ => ⟨o, es, ep, get e (noD e d), d, r⟩
    have hKb : K.In (hidT s1.heap H) := fun b o e => get (KX b o e) (Classical.byContradiction fun z => by
      obtain rfl := isA z
      rw [hK z] at e
      cases e)
    have hM : Mod K mg (hidT s1.heap H) := by
      obtain ⟨mc, h1, h2⟩ := hlim
      exact ⟨hKb, nsK hns, ⟨mb, nsK hb, hbb⟩, mc, nsK h1, h2⟩
    have nil : ∀ {q : Prop} {b : Addr}, b ∈ ([] : List Addr) → q := fun z => absurd z List.not_mem_nil
    have e0 : Env0 P w K mg (hidT s1.heap H) callerA [] s1 H := ⟨rfl, hM, fun b o e => of_hidT e, Nat.le_of_eq (hidT_size _ _), trivial, fun b hb => nil hb, hok, .of_eq hg⟩
    refine codeAny_mono ((F _ hKb (nsK hns)).runG callerA [] s1 H ⟨[.ref a], []⟩ [.ref a] [.ref a] _ _ rfl hr e0 (hbind s1 (.ref a)) (.cons rfl .nil) (hsp H hO hS)) fun r s' h => ?_
    match r, h with
    | .error e, h => exact False.elim h
    | .ok .next, h => exact h.elim
    | .ok .brk, h => exact h.elim
    | .ok .cont, h => exact h.elim
    | .ok (.ret u), h =>
      obtain ⟨v, H', os, bare, un, hok', r', rfl⟩ := h
      obtain rfl : u = Value.bool true := r'
      refine ⟨rfl, OldK.of_keep fun b o e => ?_, os, bare⟩
      cases q : H b with
      | none => exact un.keep b o e q (fun z => nil z) (fun z => nil z)
      | some u =>
        rcases hO b with z | ⟨ob, xs, z⟩
        · rw [q] at z
          cases z
        · obtain ⟨e1, _⟩ := hok b _ z
          obtain ⟨e2, _⟩ := hok' b _ (un.frzs b ob _ z)
          rw [e] at e1
          rw [Option.some.inj e1]
          exact e2
  cases hk : K.lookup a with
  | some o =>
    have e := KX a o hk
    rw [ha] at e
    obtain rfl := Option.some.inj e
    have no : ∀ {b : Addr} {q : Prop}, (none : Option HO) ≠ none → q := fun z => absurd rfl z
    refine core (fun _ => none) (fun _ => .inl rfl) (.inr ⟨_, vs.toArray, _, hk, rfl, rfl, rfl, ?_, by simpa using rv⟩) (fun b u z => nomatch (show (none : Option HO) = some u from z)) (fun b z => absurd rfl z) fun z => absurd rfl z
    rw [List.size_toArray, lenV]
    exact hl
  | none =>
    let H0 : Hp := fun b => if b = a then some (.frz { cls := .type "list", data := .seq vs.toArray } (.lst (ns.map V.int))) else none
    have at0 : H0 a = some (.frz { cls := .type "list", data := .seq vs.toArray } (.lst (ns.map V.int))) := if_pos rfl
    have off : ∀ b, b ≠ a → H0 b = none := fun b hb => if_neg hb
    refine core H0 (fun b => ?_) (.inl (.inr ⟨_, at0⟩)) (fun b u z => ?_) (fun b z => Classical.byContradiction fun hb => z (off b hb)) fun _ => hk
    · by_cases hb : b = a
      · rw [hb]
        exact .inr ⟨_, _, at0⟩
      · exact .inl (off b hb)
    · by_cases hb : b = a
      · subst hb
        rw [at0] at z
        obtain rfl := Option.some.inj z
        refine ⟨ha, ?_, vs, _, rv, ha⟩
        rw [List.length_map]
        exact hl
      · rw [off b hb] at z
        cases z
/-- the goal that k_head leaves, from such a law's promise -/
theorem walkG {l : PySem.W.OpenLaw} {n k : Nat} {q : Program} {loose : List Str} {XP : (Str → Option Value) → Heap → Prop} {YP : World → Heap → Prop} {d : DefRec} {K : Params → PySem.W.Frag} {sp : PySem.W.Frag → Sp} {x : Str}
    (hn : l.most = some n) (hn2 : n ≤ sizeLine) (hdf : d.params.defaults = []) (hr : Room k callerA) (hY : ∀ (w : World) (h : Heap), YP w h → (K w.params).In h)
    (F : ∀ (w : World) (mg : Str → Option Value) (fa : Addr) (h : Heap), (K w.params).In h → h.Ns mainGlobals mg → mg d.name = some (.ref fa) →
      ∃ fd : FuncData, (∀ (s : Shared) (u : Value), BindsTo s fd ⟨[u], []⟩ [(x, u)]) ∧ ∀ base : Heap, (K w.params).In base → base.Ns mainGlobals mg → FnOkG l.prog w (K w.params) mg base CX0 k fa fd [x] (sp (K w.params)))
    (hsp : ∀ (K : PySem.W.Frag) (H : Hp) (a : Addr) (ns : List Int), ns.length ≤ n → Only H → SqL K H a (ns.map V.int) → sp K [.ref a] H (fun v _ => v = .bl true) fun _ _ _ => False) :
    PySem.W.WalkO q loose XP YP l.row.toRowW d [] (fun f vs => PySem.call f vs) := by
  refine Att.attach_call hn hdf fun w s0 s1 mg mb fa o pm cd doc a vs ns G Y ho hd hcd hmg hobj hints hlen hg => ?_
  have KX := hY w _ Y
  obtain ⟨fd, hb, hF⟩ := F w mg fa _ KX G.T.g hmg
  exact headG KX G.T.g G.T.b G.T.builtins G.T.nolimit hg hobj hints (Nat.le_trans hlen hn2) hr hF hb fun H hO hS => hsp _ H a ns hlen hO hS
end Rc

/-! ### within a comprehension's block: the written part is that of the frame around -/
namespace Rc
open PySem PySem.Spec PyProof.Rows L2
section
variable {X : Cx} {s : Shared} {H : Hp} {scope : Scope} {env : Env} {fp : List Addr}
theorem ix_listB : IxR (Cx.blk X s H scope env fp) (rIxL X.K) := ix_list
theorem ix_tupB : IxR (Cx.blk X s H scope env fp) (rIxT X.K) := ix_tup
theorem sl_listB : SlR (Cx.blk X s H scope env fp) (rSlL X.K) := sl_list
theorem pi_listB {tg l : Expr} {tl : TE} (h : PE (Cx.blk X s H scope env fp) l tl) : PI (Cx.blk X s H scope env fp) tg l (iList X.K tl) := pi_list h
theorem pi_tupB {tg l : Expr} {tl : TE} (h : PE (Cx.blk X s H scope env fp) l tl) : PI (Cx.blk X s H scope env fp) tg l (iTup X.K tl) := pi_tup h
theorem pg_tupB {es : List Expr} {k : Nat} {t : TGs} {pos : Pos} (hc : X.calm = true) (h : PGs (Cx.blk X s H scope env fp) es t)
    (hn : (assignEach es env).length = es.length := by rfl) (hst : (assignEach es env).findIdx? (·.1) = none := by rfl) : PG (Cx.blk X s H scope env fp) (.Tuple es k pos) (gTup X.K es.length t) := pg_tup hc h hn hst
theorem call_len_seqB : CallR (Cx.blk X s H scope env fp) (.builtin "len") (fun xs H Q => ∃ p ys, xs = [.ref p] ∧ (SqL X.K H p ys ∨ SqT X.K H p ys) ∧ Q (.int ys.length) H) := call_len_seq
theorem op_in_seqB : OpR (Cx.blk X s H scope env fp) (compareOp .In) (rIn X.K false) := op_in_seq
theorem op_notIn_seqB : OpR (Cx.blk X s H scope env fp) (compareOp .NotIn) (rIn X.K true) := op_notIn_seq
end
end Rc

set_option Elab.async false
set_option linter.all false
set_option maxRecDepth 100000
set_option maxHeartbeats 4000000
/-! Steps of readings: one lemma a construct, over heaps that are letters. -/
namespace Rc
open PySem PySem.Spec PyProof.Rows L2

/-- what H tracks outside S stands in H' -/
def Kp (S : List Addr) (H H' : Hp) : Prop := ∀ b o, b ∉ S → H b = some o → H' b = some o
theorem Kp.refl {S : List Addr} {H : Hp} : Kp S H H := fun _ _ _ h => h
theorem Kp.trans {S T : List Addr} {H H1 H2 : Hp} (a : Kp S H H1) (b : Kp T H1 H2) : Kp (S ++ T) H H2 := fun c o n h =>
  b c o (fun z => n (List.mem_append_right _ z)) (a c o (fun z => n (List.mem_append_left _ z)) h)
theorem Kp.sub {S T : List Addr} {H H1 : Hp} (a : Kp S H H1) (h : ∀ b ∈ S, b ∈ T) : Kp T H H1 := fun c o n e => a c o (fun z => n (h c z)) e
theorem Kp.tr0 {S : List Addr} {H H1 H2 : Hp} (a : Kp S H H1) (b : Kp [] H1 H2) : Kp S H H2 := fun c o n h => b c o (by simp) (a c o n h)
theorem Kp.tr {S : List Addr} {H H1 H2 : Hp} (a : Kp S H H1) (b : Kp S H1 H2) : Kp S H H2 := fun c o n h => b c o n (a c o n h)
/-- the changed one was made on the way -/
theorem Kp.trF {S : List Addr} {l : Addr} {H H1 H2 : Hp} (a : Kp S H H1) (b : Kp [l] H1 H2) (f : H l = none) : Kp S H H2 := fun c o n h =>
  b c o (fun z => by
    have e : c = l := by simpa using z
    rw [e, f] at h
    cases h) (a c o n h)
theorem Kp.any {S : List Addr} {H H1 : Hp} (a : Kp [] H H1) : Kp S H H1 := a.sub fun _ z => absurd z List.not_mem_nil
theorem Kp.new {H : Hp} {p : Addr} {o : HO} (h : H p = none) : Kp [] H (upd H p o) := fun b u _ e => by
  rw [upd_ne (ne_of_none e h)]
  exact e
theorem Kp.mut {H : Hp} {p : Addr} {o : HO} : Kp [p] H (upd H p o) := fun b u n e => by
  rw [upd_ne fun z => n (by rw [z]; simp)]
  exact e
theorem Kp.at {S : List Addr} {H H1 : Hp} {b : Addr} {o : HO} (a : Kp S H H1) (h : H b = some o) (n : b ∉ S) : H1 b = some o := a b o n h
theorem Kp.at0 {H H1 : Hp} {b : Addr} {o : HO} (a : Kp [] H H1) (h : H b = some o) : H1 b = some o := a b o (by simp) h
theorem Kp.at1 {H H1 : Hp} {b l : Addr} {o : HO} (a : Kp [l] H H1) (h : H b = some o) (n : b ≠ l) : H1 b = some o := a b o (by simpa using n) h
theorem Kp.free {S : List Addr} {H H1 : Hp} {b : Addr} (a : Kp S H H1) (n : b ∉ S) (h : H1 b = none) : H b = none := by
  cases e : H b with
  | none => rfl
  | some o => rw [a b o n e] at h; cases h
theorem Kp.free0 {H H1 : Hp} {b : Addr} (a : Kp [] H H1) (h : H1 b = none) : H b = none := a.free (by simp) h
theorem Kp.seq0 {K : PySem.W.Frag} {H H1 : Hp} {b : Addr} {xs : List V} (a : Kp [] H H1) (h : SqL K H b xs) : SqL K H1 b xs := by
  rcases h with (h | ⟨o, h⟩) | h
  · exact .inl (.inl (a.at0 h))
  · exact .inl (.inr ⟨o, a.at0 h⟩)
  · exact .inr h
theorem Kp.seq {K : PySem.W.Frag} {S : List Addr} {H H1 : Hp} {b : Addr} {xs : List V} (a : Kp S H H1) (n : b ∉ S) (h : SqL K H b xs) : SqL K H1 b xs := by
  rcases h with (h | ⟨o, h⟩) | h
  · exact .inl (.inl (a.at h n))
  · exact .inl (.inr ⟨o, a.at h n⟩)
  · exact .inr h
theorem Kp.seq1 {K : PySem.W.Frag} {l : Addr} {H H1 : Hp} {b : Addr} {xs : List V} (a : Kp [l] H H1) (n : b ≠ l) (h : SqL K H b xs) : SqL K H1 b xs := a.seq (by simpa using n) h
theorem Kp.sqt {K : PySem.W.Frag} {S : List Addr} {H H1 : Hp} {b : Addr} {xs : List V} (a : Kp S H H1) (n : b ∉ S) (h : SqT K H b xs) : SqT K H1 b xs := by
  rcases h with (h | ⟨o, h⟩) | h
  · exact .inl (.inl (a.at h n))
  · exact .inl (.inr ⟨o, a.at h n⟩)
  · exact .inr h
theorem Kp.sqt0 {K : PySem.W.Frag} {H H1 : Hp} {b : Addr} {xs : List V} (a : Kp [] H H1) (h : SqT K H b xs) : SqT K H1 b xs := a.sqt (by simp) h
theorem Kp.sqt1 {K : PySem.W.Frag} {l : Addr} {H H1 : Hp} {b : Addr} {xs : List V} (a : Kp [l] H H1) (n : b ≠ l) (h : SqT K H b xs) : SqT K H1 b xs := a.sqt (by simpa using n) h

abbrev Is (ns : List Int) : List V := ns.map V.int
theorem Is_app {xs zs : List Int} : Is (xs ++ zs) = Is xs ++ Is zs := List.map_append
def gi (ns : List Int) (i : Int) : Int := ns.getD i.toNat 0
theorem gi_get {ns : List Int} {i : Int} (h0 : 0 ≤ i) (h1 : i < ns.length) : ns[i.toNat]? = some (gi ns i) := by
  have h : i.toNat < ns.length := by omega
  unfold gi
  rw [List.getD_eq_getElem?_getD, List.getElem?_eq_getElem h]
  rfl
theorem at_gi {ns : List Int} {i : Int} (h0 : 0 ≤ i) (h1 : i < ns.length) : atI (Is ns) i = some (V.int (gi ns i)) := by
  have e : ((i.toNat : Nat) : Int) = i := by omega
  have h := atI_nat (xs := Is ns) (j := i.toNat) (v := V.int (gi ns i)) (by rw [List.getElem?_map, gi_get h0 h1]; rfl)
  rw [e] at h
  exact h
theorem ixN_ok {n : Nat} {i : Int} (h0 : 0 ≤ i) (h1 : i < n) : ixN n i = some i.toNat := by
  unfold ixN
  rw [if_pos h0, if_pos h1]
theorem ixN_neg {n : Nat} {i : Int} (h0 : i < 0) (h1 : -(n : Int) ≤ i) : ixN n i = some (i + n).toNat := by
  unfold ixN
  rw [if_neg (by omega), if_pos h1]
theorem sz {n : Nat} (h : n ≤ 100000) : n ≤ sizeLine := Nat.le_trans h (by decide)
theorem szl {n : Nat} (h : n < 100000) : n < sizeLine := Nat.lt_of_lt_of_le h (by decide)

/-! ### expressions -/
section
variable {σ : L2.St} {H : Hp} {Q : VK} {i : Nat} {v x y : V} {ta tb tc te : TE} {r r' : R2} {n m : Int} {K : PySem.W.Frag} {QB : Bool → Hp → Prop} {tt tu : TT} {QA : List V → Hp → Prop} {tA tR : TA} {D : Ends} {t u : TS}
theorem rd_var (h : σ[i]? = some (some v)) (q : Q v H) : tVar i σ H Q := ⟨v, h, q⟩
theorem rd_c (q : Q v H) : tC v σ H Q := q
theorem rd_op (h : ta σ H fun x H1 => tb σ H1 fun y H2 => r x y H2 Q) : tOp r ta tb σ H Q := h
theorem rd_un {f : V → Hp → VK → Prop} (h : ta σ H fun x H1 => f x H1 Q) : tUn f ta σ H Q := h
theorem rd_U {g : Int → V} (q : Q (g n) H) : rU g (.int n) H Q := ⟨n, rfl, q⟩
theorem rd_I0 {g : Int → Int → V} (q : Q (g n m) H) : rI0 g (.int n) (.int m) H Q := ⟨n, m, rfl, rfl, q⟩
theorem rd_I {C : Int → Int → Prop} {g : Int → Int → V} (hc : C n m) (q : Q (g n m) H) : rI C g (.int n) (.int m) H Q := ⟨n, m, rfl, rfl, hc, q⟩
theorem rd_mulL {g : Int → Int → V} (h0 : -18446744073709551616 < n) (h1 : n < 18446744073709551616) (q : Q (g n m) H) : rI CMul g (.int n) (.int m) H Q := rd_I (.inl ⟨h0, h1⟩) q
theorem rd_mulR {g : Int → Int → V} (h0 : -18446744073709551616 < m) (h1 : m < 18446744073709551616) (q : Q (g n m) H) : rI CMul g (.int n) (.int m) H Q := rd_I (.inr ⟨h0, h1⟩) q
theorem cdivw (h0 : 0 < m) (h : m < 18446744073709551616) : CDivW n m := wide_div (b := 64) h0 (by omega) (by decide) (by decide)
theorem rd_divW {g : Int → Int → V} (h0 : 0 < m) (h : m < 18446744073709551616) (q : Q (g n m) H) : rI CDivW g (.int n) (.int m) H Q := rd_I (cdivw h0 h) q
theorem rd_pow {g : Int → Int → V} (h0 : 0 ≤ m) (h1 : m ≤ 1000000) (h2 : n.natAbs < 18446744073709551616) (q : Q (g n m) H) : rI CPow g (.int n) (.int m) H Q := rd_I ⟨h0, h1, h2⟩ q
theorem rd_test (h : te σ H fun x H1 => ∃ k, x = .bl k ∧ QB k H1) : tTest te σ H QB := h
theorem rd_tB (h : te σ H fun x H1 => ∃ k, x = .bl k ∧ QB k H1) : tB te σ H QB := h
theorem rd_exb {b : Bool} (q : QB b H) : ∃ k, V.bl b = .bl k ∧ QB k H := ⟨b, rfl, q⟩
theorem rd_eqI (q : Q (.bl (decide (n = m))) H) : rEq (.int n) (.int m) H Q := by
  refine ⟨rfl, ?_⟩
  rw [show decide (V.int n = V.int m) = decide (n = m) by simp]
  exact q
theorem rd_neI (q : Q (.bl (!decide (n = m))) H) : rNe (.int n) (.int m) H Q := by
  refine ⟨rfl, ?_⟩
  rw [show decide (V.int n = V.int m) = decide (n = m) by simp]
  exact q
theorem rd_eqS {n m : Str} (q : Q (.bl (decide (n = m))) H) : rEq (.str n) (.str m) H Q := by
  refine ⟨rfl, ?_⟩
  rw [show decide (V.str n = V.str m) = decide (n = m) by simp]
  exact q
theorem rd_neS {n m : Str} (q : Q (.bl (!decide (n = m))) H) : rNe (.str n) (.str m) H Q := by
  refine ⟨rfl, ?_⟩
  rw [show decide (V.str n = V.str m) = decide (n = m) by simp]
  exact q
theorem rd_eqB {n m : Bool} (q : Q (.bl (decide (n = m))) H) : rEq (.bl n) (.bl m) H Q := by
  refine ⟨rfl, ?_⟩
  rw [show decide (V.bl n = V.bl m) = decide (n = m) by simp]
  exact q
theorem rd_and (h : tt σ H fun c H1 => if c = true then tu σ H1 QB else QB false H1) : tAnd tt tu σ H QB := h
theorem rd_or (h : tt σ H fun c H1 => if c = true then QB true H1 else tu σ H1 QB) : tOr tt tu σ H QB := h
theorem rd_not (h : tt σ H fun c H1 => QB (!c) H1) : tNot tt σ H QB := h
theorem rd_andV (h : ta σ H fun x H1 => ∃ c, x = .bl c ∧ if c = true then tb σ H1 Q else Q (.bl false) H1) : tAndV ta tb σ H Q := h
theorem rd_orV (h : ta σ H fun x H1 => ∃ c, x = .bl c ∧ if c = true then Q (.bl true) H1 else tb σ H1 Q) : tOrV ta tb σ H Q := h
theorem rd_notV (h : ta σ H fun x H1 => ∃ c, x = .bl c ∧ Q (.bl (!c)) H1) : tNotV ta σ H Q := h
theorem rd_exV {b : Bool} {R : Bool → Prop} (q : R b) : ∃ k, V.bl b = .bl k ∧ R k := ⟨b, rfl, q⟩
theorem rd_if (h : tt σ H fun c H1 => if c = true then ta σ H1 Q else tb σ H1 Q) : tIf tt ta tb σ H Q := h
theorem rd_ifS (h : tt σ H fun c H1 => if c = true then t D σ H1 else u D σ H1) : tIfS tt t u D σ H := h
theorem rd_T {A B : Prop} (h : A) : if true = true then A else B := by rw [if_pos rfl]; exact h
theorem rd_F {A B : Prop} (h : B) : if false = true then A else B := by rw [if_neg Bool.false_ne_true]; exact h
theorem rd_nT {A B : Prop} (h : B) : if (!true) = true then A else B := by rw [if_neg (by decide)]; exact h
theorem rd_nF {A B : Prop} (h : A) : if (!false) = true then A else B := by rw [if_pos (by decide)]; exact h
theorem rd_d {p A B : Prop} [Decidable p] (h1 : p → A) (h2 : ¬ p → B) : if decide p = true then A else B := by
  by_cases h : p
  · rw [if_pos (decide_eq_true h)]; exact h1 h
  · rw [if_neg (by simpa using h)]; exact h2 h
theorem rd_dT {p A B : Prop} [Decidable p] (hp : p) (h1 : A) : if decide p = true then A else B := by rw [if_pos (decide_eq_true hp)]; exact h1
theorem rd_dF {p A B : Prop} [Decidable p] (hp : ¬ p) (h1 : B) : if decide p = true then A else B := by rw [if_neg (by simpa using hp)]; exact h1
theorem rd_nd {p A B : Prop} [Decidable p] (h1 : ¬ p → A) (h2 : p → B) : if (!decide p) = true then A else B := by
  by_cases h : p
  · rw [if_neg (by simpa using h)]; exact h2 h
  · rw [if_pos (by simpa using h)]; exact h1 h
theorem rd_ndT {p A B : Prop} [Decidable p] (hp : ¬ p) (h1 : A) : if (!decide p) = true then A else B := by rw [if_pos (by simpa using hp)]; exact h1
theorem rd_ndF {p A B : Prop} [Decidable p] (hp : p) (h1 : B) : if (!decide p) = true then A else B := by rw [if_neg (by simpa using hp)]; exact h1
theorem rd_b {b : Bool} {A B : Prop} (h1 : b = true → A) (h2 : b = false → B) : if b = true then A else B := by
  cases b with
  | true => exact rd_T (h1 rfl)
  | false => exact rd_F (h2 rfl)
theorem rd_nb {b : Bool} {A B : Prop} (h1 : b = false → A) (h2 : b = true → B) : if (!b) = true then A else B := by
  cases b with
  | true => exact rd_nT (h2 rfl)
  | false => exact rd_nF (h1 rfl)
theorem rd_chain (h : ta σ H fun x H1 => tb σ H1 fun y H2 => r x y H2 fun z H3 => ∃ k, z = .bl k ∧ (if k = true then tc σ H3 fun w' H4 => r' y w' H4 Q else Q (.bl false) H3)) : tChain r r' ta tb tc σ H Q := h
theorem rd_nil (q : QA [] H) : tNil σ H QA := q
theorem rd_cons (h : ta σ H fun x H1 => tR σ H1 fun xs H2 => QA (x :: xs) H2) : tCons ta tR σ H QA := h
theorem rd_CB {f : List V → Hp → VK → Prop} (h : tA σ H fun vs H1 => f vs H1 Q) : tCB f tA σ H Q := h
theorem rd_call {sp : Sp} {dvs : List V} {E : XK} (h : tA σ H fun vs H1 => sp (vs ++ dvs) H1 Q E) : tCall sp dvs E tA σ H Q := h
theorem rd_tup (h : tA σ H fun xs H1 => xs.length ≤ sizeLine ∧ ∀ p, H1 p = none → Q (.ref p) (upd H1 p (.tup xs))) : tTup tA σ H Q := h
theorem rd_lst (h : tA σ H fun xs H1 => xs.length ≤ sizeLine ∧ ∀ p, H1 p = none → Q (.ref p) (upd H1 p (.lst xs))) : tLst tA σ H Q := h
/-- a new object, the heap behind it a letter -/
theorem rd_new {o : HO} {R : Addr → Hp → Prop} (q : ∀ p H1, H p = none → Kp [] H H1 → H1 p = some o → R p H1) : ∀ p, H p = none → R p (upd H p o) := fun p hp => q p _ hp (.new hp) upd_same
theorem rd_newL {xs : List V} {o : HO} {R : Addr → Hp → Prop} (hl : xs.length ≤ 100000) (q : ∀ p H1, H p = none → Kp [] H H1 → H1 p = some o → R p H1) : xs.length ≤ sizeLine ∧ ∀ p, H p = none → R p (upd H p o) := ⟨sz hl, rd_new q⟩
theorem rd_ixL {p : Addr} {xs : List V} (h : SqL K H p xs) (ha : atI xs n = some v) (q : Q v H) : rIxL K (.ref p) (.int n) H Q := ⟨p, xs, n, v, rfl, rfl, h, ha, q⟩
theorem rd_ixI {p : Addr} {ns : List Int} (h : SqL K H p (Is ns)) (h0 : 0 ≤ n) (h1 : n < ns.length) (q : Q (.int (gi ns n)) H) : rIxL K (.ref p) (.int n) H Q := rd_ixL h (at_gi h0 h1) q
theorem rd_ixT {p : Addr} {xs : List V} (h : SqT K H p xs) (ha : atI xs n = some v) (q : Q v H) : rIxT K (.ref p) (.int n) H Q := ⟨p, xs, n, v, rfl, rfl, h, ha, q⟩
theorem rd_ixTI {p : Addr} {ns : List Int} (h : SqT K H p (Is ns)) (h0 : 0 ≤ n) (h1 : n < ns.length) (q : Q (.int (gi ns n)) H) : rIxT K (.ref p) (.int n) H Q := rd_ixT h (at_gi h0 h1) q
theorem rd_ixLast {p : Addr} {xs : List V} (h : SqL K H p (xs ++ [v])) (q : Q v H) : rIxL K (.ref p) (.int (-1)) H Q := by
  refine rd_ixL h ?_ q
  unfold atI
  rw [ixN_neg (by decide) (by rw [List.length_append, List.length_singleton]; omega)]
  rw [List.length_append, List.length_singleton]
  show (xs ++ [v])[(-1 + ((xs.length + 1 : Nat) : Int)).toNat]? = some v
  rw [show (-1 + ((xs.length + 1 : Nat) : Int)).toNat = xs.length by omega]
  simp
/-- any of a list's values -/
theorem rd_ixM {p : Addr} {xs : List V} (h : SqL K H p xs) (h0 : 0 ≤ n) (h1 : n < xs.length) (q : ∀ v ∈ xs, Q v H) : rIxL K (.ref p) (.int n) H Q := by
  have e : n.toNat < xs.length := by omega
  refine rd_ixL h (v := xs[n.toNat]) ?_ (q _ (List.getElem_mem e))
  have := atI_nat (xs := xs) (j := n.toNat) (v := xs[n.toNat]) (List.getElem?_eq_getElem e)
  rw [show ((n.toNat : Nat) : Int) = n by omega] at this
  exact this
theorem rd_setL {p : Addr} {xs : List V} {QH : Hp → Prop} (h : H p = some (.lst xs)) (h0 : 0 ≤ n) (h1 : n < xs.length) (q : ∀ H1, Kp [p] H H1 → H1 p = some (.lst (xs.set n.toNat v)) → QH H1) : rSetL (.ref p) (.int n) v H QH :=
  ⟨p, xs, n, n.toNat, rfl, rfl, h, ixN_ok h0 h1, q _ .mut upd_same⟩
theorem rd_setI {p : Addr} {ns : List Int} {QH : Hp → Prop} (h : H p = some (.lst (Is ns))) (h0 : 0 ≤ n) (h1 : n < ns.length) (q : ∀ H1, Kp [p] H H1 → H1 p = some (.lst (Is (ns.set n.toNat m))) → QH H1) : rSetL (.ref p) (.int n) (.int m) H QH :=
  rd_setL h h0 (by simpa using h1) fun H1 k e => q H1 k (by rw [e]; simp [List.map_set])
theorem rd_cat {p b : Addr} {xs zs : List V} (hp : H p = some (.lst xs)) (hb : H b = some (.lst zs)) (hl : xs.length + zs.length ≤ 100000) (q : ∀ c H1, H c = none → Kp [] H H1 → H1 c = some (.lst (xs ++ zs)) → Q (.ref c) H1) :
    rCat (.ref p) (.ref b) H Q := ⟨p, b, xs, zs, rfl, rfl, hp, hb, sz hl, rd_new q⟩
theorem flat1 {α : Type} {x : α} : ∀ k : Nat, (List.replicate k [x]).flatten = List.replicate k x
  | 0 => rfl
  | k + 1 => by
    rw [List.replicate_succ, List.flatten_cons, flat1 k]
    rfl
theorem rd_rep1 {p : Addr} {x : V} (hp : H p = some (.lst [x])) (h0 : 0 ≤ n) (h1 : n ≤ 100000) (q : ∀ c H1, H c = none → Kp [] H H1 → H1 c = some (.lst (List.replicate n.toNat x)) → Q (.ref c) H1) : rRep (.ref p) (.int n) H Q := by
  refine ⟨p, n, [x], rfl, rfl, hp, by omega, by omega, ?_, rd_new fun c H1 a b e => q c H1 a b (by rw [e, flat1])⟩
  have := sz (n := n.toNat) (by omega)
  simpa using this
theorem rd_repI {p : Addr} {x : Int} (hp : H p = some (.lst [.int x])) (h0 : 0 ≤ n) (h1 : n ≤ 100000) (q : ∀ c H1, H c = none → Kp [] H H1 → H1 c = some (.lst (Is (List.replicate n.toNat x))) → Q (.ref c) H1) : rRep (.ref p) (.int n) H Q :=
  rd_rep1 hp h0 h1 fun c H1 a b e => q c H1 a b (by unfold Is; rw [e, List.map_replicate])
theorem rd_sl {f : V → Option Int → Option Int → Hp → VK → Prop} {tl th : TO} (h : te σ H fun x H1 => tl σ H1 fun l H2 => th σ H2 fun u H3 => f x l u H3 Q) : tSl f te tl th σ H Q := h
theorem rd_noPart {QO : Option Int → Hp → Prop} (q : QO none H) : tNoPart σ H QO := q
theorem rd_part {QO : Option Int → Hp → Prop} (h : te σ H fun x H1 => ∃ i, x = .int i ∧ QO (some i) H1) : tPart te σ H QO := h
theorem rd_exI {R : Int → Prop} (q : R n) : ∃ i, V.int n = .int i ∧ R i := ⟨n, rfl, q⟩
theorem rd_slL {p : Addr} {xs : List V} {lo hi : Option Int} (h : SqL K H p xs) (q : ∀ c H1, H c = none → Kp [] H H1 → H1 c = some (.lst (cutV xs lo hi)) → Q (.ref c) H1) : rSlL K (.ref p) lo hi H Q := ⟨p, xs, rfl, h, rd_new q⟩
theorem cutV_fromV {xs : List V} {v : Int} (h0 : 0 ≤ v) : cutV xs (some v) none = xs.drop v.toNat := by
  unfold cutV
  rw [HT.sIx_none, show v = ((v.toNat : Nat) : Int) by omega, HT.sIx_nat, Int.toNat_natCast]
  refine (List.take_of_length_le (by rw [List.length_drop]; omega)).trans ?_
  by_cases h : v.toNat ≤ xs.length
  · rw [Nat.min_eq_left h]
  · rw [Nat.min_eq_right (by omega), List.drop_length, List.drop_eq_nil_of_le (by omega)]
theorem cutV_from {ns : List Int} {v : Int} (h0 : 0 ≤ v) : cutV (Is ns) (some v) none = Is (ns.drop v.toNat) := by
  unfold cutV
  rw [HT.sIx_none, show v = ((v.toNat : Nat) : Int) by omega, HT.sIx_nat, Int.toNat_natCast, List.length_map, ← List.map_drop]
  refine (List.take_of_length_le (by rw [List.length_map, List.length_drop]; omega)).trans ?_
  congr 1
  by_cases h : v.toNat ≤ ns.length
  · rw [Nat.min_eq_left h]
  · rw [Nat.min_eq_right (by omega), List.drop_length, List.drop_eq_nil_of_le (by omega)]
theorem cutV_to {ns : List Int} {v : Int} (h0 : 0 ≤ v) : cutV (Is ns) none (some v) = Is (ns.take v.toNat) := by
  unfold cutV
  rw [HT.sIx_none, show v = ((v.toNat : Nat) : Int) by omega, HT.sIx_nat, Int.toNat_natCast, List.length_map, List.drop_zero, ← List.map_take, Nat.sub_zero]
  congr 1
  by_cases h : v.toNat ≤ ns.length
  · rw [Nat.min_eq_left h]
  · rw [Nat.min_eq_right (by omega), List.take_length, List.take_of_length_le (by omega)]
theorem rd_slFrom {p : Addr} {ns : List Int} (h : H p = some (.lst (Is ns))) (h0 : 0 ≤ n) (q : ∀ c H1, H c = none → Kp [] H H1 → H1 c = some (.lst (Is (ns.drop n.toNat))) → Q (.ref c) H1) : rSlL K (.ref p) (some n) none H Q := rd_slL (SqL.of h) fun c H1 a b e => q c H1 a b (by rw [e, cutV_from h0])
theorem rd_slTo {p : Addr} {ns : List Int} (h : H p = some (.lst (Is ns))) (h0 : 0 ≤ n) (q : ∀ c H1, H c = none → Kp [] H H1 → H1 c = some (.lst (Is (ns.take n.toNat))) → Q (.ref c) H1) : rSlL K (.ref p) none (some n) H Q := rd_slL (SqL.of h) fun c H1 a b e => q c H1 a b (by rw [e, cutV_to h0])
theorem rd_catI {p b : Addr} {xs zs : List Int} (hp : H p = some (.lst (Is xs))) (hb : H b = some (.lst (Is zs))) (hl : xs.length + zs.length ≤ 100000) (q : ∀ c H1, H c = none → Kp [] H H1 → H1 c = some (.lst (Is (xs ++ zs))) → Q (.ref c) H1) :
    rCat (.ref p) (.ref b) H Q := rd_cat hp hb (by simpa using hl) fun c H1 h k e => q c H1 h k (by rw [e, Is_app])
theorem rd_appI {p : Addr} {xs : List Int} (h : H p = some (.lst (Is xs))) (hl : xs.length < 100000) (q : ∀ H1, Kp [p] H H1 → H1 p = some (.lst (Is (xs ++ [n]))) → Q .non H1) : rAppend (.ref p) [.int n] H Q :=
  ⟨p, Is xs, .int n, rfl, rfl, h, szl (by simpa using hl), q _ .mut (by rw [upd_same, Is_app]; rfl)⟩
/-- a built-in's method -/
theorem rd_BM {T : String} {f : V → List V → Hp → VK → Prop} (h : te σ H fun x H1 => tyV K T x H1 ∧ tA σ H1 fun xs H2 => f x xs H2 Q) : tBM K T f te tA σ H Q := h
theorem rd_BM0 {T : String} {f : V → List V → Hp → VK → Prop} (h : te σ H fun x H1 => tyV K T x H1 ∧ f x [] H1 Q) : tBM0 K T f te σ H Q := h
theorem rd_tyL {p : Addr} {xs : List V} {B : Prop} (h : H p = some (.lst xs)) (q : B) : tyV K "list" (.ref p) H ∧ B := ⟨.inl ⟨rfl, xs, SqL.of h⟩, q⟩
theorem rd_app {p : Addr} {xs : List V} (h : H p = some (.lst xs)) (hl : xs.length < 100000) (q : ∀ H1, Kp [p] H H1 → H1 p = some (.lst (xs ++ [v])) → Q .non H1) : rAppend (.ref p) [v] H Q := ⟨p, xs, v, rfl, rfl, h, szl hl, q _ .mut upd_same⟩
theorem rd_fld {f : Str} {p C dx : Addr} {fs : List (Str × V)} (h : ta σ H fun x H1 => ∃ a C dx fs v, x = .ref a ∧ H1 a = some (.ins C dx fs) ∧ Cls K C ∧ NoAttr K C f ∧ fs.lookup f = some v ∧ Q v H1) : tFld K ta f σ H Q := h

/-! ### built-ins -/
def aNewL (xs : List V) (H : Hp) (Q : VK) : Prop := xs.length ≤ sizeLine ∧ ∀ p, H p = none → Q (.ref p) (upd H p (.lst xs))
theorem rd_lstN (h : tA σ H fun xs H1 => aNewL xs H1 Q) : tLst tA σ H Q := h
theorem rd_aNewL {xs : List V} (hl : xs.length ≤ 100000) (q : ∀ p H1, H p = none → Kp [] H H1 → H1 p = some (.lst xs) → Q (.ref p) H1) : aNewL xs H Q := ⟨sz hl, rd_new q⟩
def aNewT (xs : List V) (H : Hp) (Q : VK) : Prop := xs.length ≤ sizeLine ∧ ∀ p, H p = none → Q (.ref p) (upd H p (.tup xs))
theorem rd_tupN (h : tA σ H fun xs H1 => aNewT xs H1 Q) : tTup tA σ H Q := h
theorem rd_aNewT {xs : List V} (hl : xs.length ≤ 100000) (q : ∀ p H1, H p = none → Kp [] H H1 → H1 p = some (.tup xs) → Q (.ref p) H1) : aNewT xs H Q := ⟨sz hl, rd_new q⟩
def aLen (K : PySem.W.Frag) (xs : List V) (H : Hp) (Q : VK) : Prop := ∃ p ys, xs = [V.ref p] ∧ (SqL K H p ys ∨ SqT K H p ys) ∧ Q (.int ys.length) H
theorem rd_cLen (h : tA σ H fun vs H1 => aLen K vs H1 Q) : tCB (fun xs H Q => ∃ p ys, xs = [V.ref p] ∧ (SqL K H p ys ∨ SqT K H p ys) ∧ Q (.int ys.length) H) tA σ H Q := h
theorem rd_len {p : Addr} {ys : List V} (h : H p = some (.lst ys)) (q : Q (.int ys.length) H) : aLen K [.ref p] H Q := ⟨p, ys, rfl, .inl (SqL.of h), q⟩
theorem rd_lenI {p : Addr} {ns : List Int} (h : H p = some (.lst (Is ns))) (q : Q (.int ns.length) H) : aLen K [.ref p] H Q := ⟨p, _, rfl, .inl (SqL.of h), by simpa using q⟩
def aAbs (xs : List V) (H : Hp) (Q : VK) : Prop := ∃ i, xs = [V.int i] ∧ Q (.int (if i < 0 then -i else i)) H
theorem rd_cAbs (h : tA σ H fun vs H1 => aAbs vs H1 Q) : tCB (fun xs H Q => ∃ i, xs = [V.int i] ∧ Q (.int (if i < 0 then -i else i)) H) tA σ H Q := h
theorem rd_abs (q : Q (.int (if n < 0 then -n else n)) H) : aAbs [.int n] H Q := ⟨n, rfl, q⟩
def aMin2 (xs : List V) (H : Hp) (Q : VK) : Prop := ∃ i j, xs = [V.int i, V.int j] ∧ Q (.int (if j < i then j else i)) H
theorem rd_cMin2 (h : tA σ H fun vs H1 => aMin2 vs H1 Q) : tCB (fun xs H Q => ∃ i j, xs = [V.int i, V.int j] ∧ Q (.int (if j < i then j else i)) H) tA σ H Q := h
theorem rd_min2 (q : Q (.int (if m < n then m else n)) H) : aMin2 [.int n, .int m] H Q := ⟨n, m, rfl, q⟩
def aMax2 (xs : List V) (H : Hp) (Q : VK) : Prop := ∃ i j, xs = [V.int i, V.int j] ∧ Q (.int (if j > i then j else i)) H
theorem rd_cMax2 (h : tA σ H fun vs H1 => aMax2 vs H1 Q) : tCB (fun xs H Q => ∃ i j, xs = [V.int i, V.int j] ∧ Q (.int (if j > i then j else i)) H) tA σ H Q := h
theorem rd_max2 (q : Q (.int (if m > n then m else n)) H) : aMax2 [.int n, .int m] H Q := ⟨n, m, rfl, q⟩
def aInt1 (xs : List V) (H : Hp) (Q : VK) : Prop := (∃ i, xs = [V.int i] ∧ Q (.int i) H) ∨ ∃ k, xs = [V.bl k] ∧ Q (.int (if k then 1 else 0)) H
theorem rd_cInt1 (h : tA σ H fun vs H1 => aInt1 vs H1 Q) : tCB (fun xs H Q => (∃ i, xs = [V.int i] ∧ Q (.int i) H) ∨ ∃ k, xs = [V.bl k] ∧ Q (.int (if k then 1 else 0)) H) tA σ H Q := h
theorem rd_int1 (q : Q (.int n) H) : aInt1 [.int n] H Q := .inl ⟨n, rfl, q⟩
theorem rd_intB {b : Bool} (q : Q (.int (if b then 1 else 0)) H) : aInt1 [.bl b] H Q := .inr ⟨b, rfl, q⟩
def aLst1 (K : PySem.W.Frag) (xs : List V) (H : Hp) (Q : VK) : Prop := ∃ p ys, xs = [V.ref p] ∧ (SqL K H p ys ∨ SqT K H p ys) ∧ ∀ l, H l = none → Q (.ref l) (upd H l (.lst ys))
theorem rd_cLst1 (h : tA σ H fun vs H1 => aLst1 K vs H1 Q) : tCB (fun xs H Q => ∃ p ys, xs = [V.ref p] ∧ (SqL K H p ys ∨ SqT K H p ys) ∧ ∀ l, H l = none → Q (.ref l) (upd H l (.lst ys))) tA σ H Q := h
theorem rd_lst1 {p : Addr} {ys : List V} (h : H p = some (.lst ys)) (q : ∀ l H1, H l = none → Kp [] H H1 → H1 l = some (.lst ys) → Q (.ref l) H1) : aLst1 K [.ref p] H Q := ⟨p, ys, rfl, .inl (SqL.of h), rd_new q⟩
def aDm (xs : List V) (H : Hp) (Q : VK) : Prop := ∃ i j, xs = [V.int i, V.int j] ∧ CDiv i j ∧ ∀ p, H p = none → Q (.ref p) (upd H p (.tup [.int (i / j), .int (i % j)]))
theorem rd_cDm (h : tA σ H fun vs H1 => aDm vs H1 Q) : tCB (fun xs H Q => ∃ i j, xs = [V.int i, V.int j] ∧ CDiv i j ∧ ∀ p, H p = none → Q (.ref p) (upd H p (.tup [.int (i / j), .int (i % j)]))) tA σ H Q := h
theorem rd_dm (h0 : 0 < m) (hm : m < 1073741824) (q : ∀ p H1, H p = none → Kp [] H H1 → H1 p = some (.tup [.int (n / m), .int (n % m)]) → Q (.ref p) H1) : aDm [.int n, .int m] H Q := ⟨n, m, rfl, ⟨h0, hm⟩, rd_new q⟩
def aIns (x : V) (vs : List V) (H : Hp) (Q : VK) : Prop := ∃ (l : Addr) (xs : List V) (i : Int) (y : V), x = .ref l ∧ vs = [.int i, y] ∧ H l = some (.lst xs) ∧ xs.length < sizeLine ∧ 0 ≤ i ∧ i < 2 ^ 63 ∧
    Q .non (upd H l (.lst (xs.take i.toNat ++ [y] ++ xs.drop i.toNat)))
theorem rd_cIns {to : TE} (h : to σ H fun x H1 => tyV K "list" x H1 ∧ tA σ H1 fun vs H2 => aIns x vs H2 Q) : tBM K "list" (fun x vs H Q => ∃ (l : Addr) (xs : List V) (i : Int) (y : V), x = .ref l ∧ vs = [.int i, y] ∧ H l = some (.lst xs) ∧ xs.length < sizeLine ∧ 0 ≤ i ∧ i < 2 ^ 63 ∧
    Q .non (upd H l (.lst (xs.take i.toNat ++ [y] ++ xs.drop i.toNat)))) to tA σ H Q := h
theorem rd_ins {l : Addr} {xs : List V} (h : H l = some (.lst xs)) (hl : xs.length < 100000) (h0 : 0 ≤ n) (h1 : n < 100000) (q : ∀ H1, Kp [l] H H1 → H1 l = some (.lst (xs.take n.toNat ++ [y] ++ xs.drop n.toNat)) → Q .non H1) : aIns (.ref l) [.int n, y] H Q :=
  ⟨l, xs, n, y, rfl, rfl, h, szl hl, h0, by omega, q _ .mut upd_same⟩
theorem rd_minI {p : Addr} {ns : List Int} (h : H p = some (.lst (Is ns))) (hn : 0 < ns.length) (q : ∀ m ∈ ns, (∀ n ∈ ns, m ≤ n) → Q (.int m) H) : rMin K [.ref p] H Q := ⟨p, ns, rfl, SqL.of h, hn, q⟩
theorem rd_maxI {p : Addr} {ns : List Int} (h : H p = some (.lst (Is ns))) (hn : 0 < ns.length) (q : ∀ m ∈ ns, (∀ n ∈ ns, n ≤ m) → Q (.int m) H) : rMax K [.ref p] H Q := ⟨p, ns, rfl, SqL.of h, hn, q⟩

def rangeI (n : Int) : List Int := (List.range n.toNat).map fun i : Nat => (i : Int)
theorem rangeI_length (n : Int) : (rangeI n).length = n.toNat := by unfold rangeI; rw [List.length_map, List.length_range]
theorem rangeI_get {n : Int} {i : Nat} (h : i < n.toNat) : (rangeI n)[i]? = some (i : Int) := by unfold rangeI; rw [List.getElem?_map, List.getElem?_range h]; rfl
theorem rangeI_mem {n x : Int} : x ∈ rangeI n ↔ 0 ≤ x ∧ x < n := by
  unfold rangeI
  rw [List.mem_map]
  constructor
  · rintro ⟨a, ha, rfl⟩
    have := List.mem_range.mp ha
    omega
  · intro h
    exact ⟨x.toNat, List.mem_range.mpr (by omega), by omega⟩
theorem rangeI_nodup (n : Int) : (rangeI n).Nodup := by
  unfold rangeI
  exact List.nodup_range.map _ fun a b h e => h (by have e : (a : Int) = (b : Int) := e; omega)
def aRgL (x : V) (H : Hp) (Q : VK) : Prop := ∃ n, x = .int n ∧ RgOk 0 n ∧ ∀ q, H q = none → Q (.ref q) (upd H q (.lst (rgV 0 n)))
theorem rd_listRg (h : ta σ H fun x H1 => aRgL x H1 Q) : tLstRg (tRg1 ta) σ H Q := h
theorem rd_aRgL (h0 : 0 ≤ n) (h1 : n ≤ 100000) (q : ∀ p H1, H p = none → Kp [] H H1 → H1 p = some (.lst (Is (rangeI n))) → Q (.ref p) H1) : aRgL (.int n) H Q :=
  ⟨n, rfl, RgOk.of_le (Int.le_refl 0) (by omega) (by omega) h0, rd_new fun p H1 a b e => q p H1 a b (by
    rw [e]
    unfold rgV rangeI Is
    rw [List.map_map, Int.sub_zero]
    congr 2
    refine List.map_congr_left fun i _ => ?_
    show V.int (0 + (i : Nat)) = V.int (i : Nat)
    rw [Int.zero_add])⟩

theorem inV_I {n : Int} : ∀ ns : List Int, inV (.int n) (Is ns) = decide (n ∈ ns)
  | [] => rfl
  | m :: r => by
    have ih := inV_I (n := n) r
    unfold inV at ih ⊢
    show (eqV (V.int m) (V.int n) || (Is r).any fun y => eqV y (V.int n)) = _
    rw [ih]
    have e : eqV (V.int m) (V.int n) = decide (n = m) := by
      unfold eqV
      by_cases h : n = m
      · subst h; simp
      · have h' : ¬ m = n := fun z => h z.symm
        simp [h, h']
    rw [e]
    simp
theorem all_flat (ns : List Int) : (Is ns).all flatV = true := by
  induction ns with
  | nil => rfl
  | cons a r ih => exact ih
theorem rd_inI {p : Addr} {ns : List Int} (h : H p = some (.lst (Is ns))) (q : Q (.bl (decide (n ∈ ns))) H) : rIn K false (.int n) (.ref p) H Q :=
  ⟨p, _, rfl, .inl (SqL.of h), rfl, all_flat ns, by rw [inV_I]; exact q⟩
theorem rd_ninI {p : Addr} {ns : List Int} (h : H p = some (.lst (Is ns))) (q : Q (.bl (!decide (n ∈ ns))) H) : rIn K true (.int n) (.ref p) H Q :=
  ⟨p, _, rfl, .inl (SqL.of h), rfl, all_flat ns, by rw [inV_I]; exact q⟩
theorem rd_sortedI {p : Addr} {ns : List Int} (h : H p = some (.lst (Is ns))) (q : ∀ (ns' : List Int) c H1, ns'.Perm ns → ns'.Pairwise (· ≤ ·) → H c = none → Kp [] H H1 → H1 c = some (.lst (Is ns')) → Q (.ref c) H1) : rSortedI K [.ref p] H Q :=
  ⟨p, ns, rfl, SqL.of h, fun ns' c hp ho hc => q ns' c _ hp ho hc (.new hc) upd_same⟩
theorem rd_insI {l : Addr} {ns : List Int} (h : H l = some (.lst (Is ns))) (hl : ns.length < 100000) (h0 : 0 ≤ n) (h1 : n < 100000) (q : ∀ H1, Kp [l] H H1 → H1 l = some (.lst (Is (ns.take n.toNat ++ [m] ++ ns.drop n.toNat))) → Q .non H1) : aIns (.ref l) [.int n, .int m] H Q :=
  rd_ins h (by simpa using hl) h0 h1 fun H1 k e => q H1 k (by rw [e]; simp [List.map_take, List.map_drop])

theorem rd_isiI {T : String} {b : Bool} (h : kitB "int" T = some b) (q : Q (.bl b) H) : rIsi K [.int n, .ty T] H Q := ⟨_, _, _, _, b, rfl, .ty T, .base (.int n), kit_ty h, q⟩
theorem rd_isiL {p : Addr} {xs : List V} {T : String} {b : Bool} (hp : H p = some (.lst xs)) (h : kitB "list" T = some b) (q : Q (.bl b) H) : rIsi K [.ref p, .ty T] H Q := ⟨_, _, _, _, b, rfl, .ty T, .base (.lst hp), kit_ty h, q⟩

theorem range_fm {α : Type} (f : Nat → Option α) (n : Nat) : (List.range (n + 1)).filterMap f = (List.range n).filterMap f ++ (f n).toList := by
  rw [List.range_succ, List.filterMap_append]
  cases h : f n <;> simp [h]
theorem shaped_ints (ns : List Int) : SeqAt.shaped (.list (ns.map PyData.int)) = true := by
  have h1 : ∀ ns : List Int, PyData.canLayAll0 (ns.map PyData.int) = true := by
    intro ns
    induction ns with
    | nil => rfl
    | cons a r ih => rw [List.map_cons]; simp only [PyData.canLayAll0, PyData.canLay0, Bool.true_and]; exact ih
  have h2 : ∀ ns : List Int, PyData.depthAll (ns.map PyData.int) ≤ 1 := by
    intro ns
    induction ns with
    | nil => exact Nat.zero_le _
    | cons a r ih => rw [List.map_cons]; simp only [PyData.depthAll, PyData.depth]; omega
  unfold SeqAt.shaped
  rw [Bool.and_eq_true]
  refine ⟨?_, decide_eq_true ?_⟩
  · simp only [PyData.canLay0]; exact h1 ns
  · simp only [PyData.depth]; have := h2 ns; omega
theorem eqv_ints : ∀ xs ys : List Int, PyData.eqvAll (xs.map PyData.int) (ys.map PyData.int) = decide (xs = ys)
  | [], [] => by simp [PyData.eqvAll]
  | [], _ :: _ => by simp [PyData.eqvAll]
  | _ :: _, [] => by simp [PyData.eqvAll]
  | x :: xs, y :: ys => by
    rw [List.map_cons, List.map_cons]
    simp only [PyData.eqvAll, PyData.eqv]
    rw [eqv_ints xs ys]
    by_cases h : x = y
    · subst h; simp
    · have : (x == y) = false := by simpa using h
      rw [this]
      simp [h]
theorem dp_ints {p : Addr} {xs : List Int} (h : H p = some (.lst (Is xs))) : Dp K H (.ref p) (.list (xs.map PyData.int)) := by
  refine .lst (SqL.of h) ?_
  clear h
  induction xs with
  | nil => exact .nil
  | cons a r ih => exact .cons (.int a) ih
theorem rd_neDI {p b : Addr} {xs zs : List Int} (h1 : H p = some (.lst (Is xs))) (h2 : H b = some (.lst (Is zs))) (q : Q (.bl (!decide (xs = zs))) H) : rNeD K (.ref p) (.ref b) H Q := by
  refine ⟨_, _, dp_ints h1, dp_ints h2, shaped_ints _, shaped_ints _, ?_⟩
  have : PyData.eqv (.list (xs.map PyData.int)) (.list (zs.map PyData.int)) = decide (xs = zs) := by simp only [PyData.eqv]; exact eqv_ints xs zs
  rw [this]
  exact q
theorem rd_sortedRevI {p : Addr} {ns : List Int} (h : H p = some (.lst (Is ns))) (q : ∀ (ns' : List Int) c H1, ns'.Perm ns → OrdB true ns' → H c = none → Kp [] H H1 → H1 c = some (.lst (Is ns')) → Q (.ref c) H1) : rSortedKw K true [.bl true] [.ref p] [.bl true] H Q :=
  ⟨p, ns, rfl, rfl, SqL.of h, fun ns' c hp ho hc => q ns' c _ hp ho hc (.new hc) upd_same⟩
theorem rd_cKw {r : List V → List V → Hp → VK → Prop} {tk : TA} (h : tA σ H fun vs H1 => tk σ H1 fun zs H2 => r vs zs H2 Q) : tCKw r tA tk σ H Q := h
/-- the first of those that pass -/
theorem first_fm {α β : Type} {f : Nat → Option β} {J : Nat} {v : β} (h0 : ∀ j, j < J → f j = none) (h1 : f J = some v) : ∀ nn : Nat, J < nn → ∃ t, (List.range nn).filterMap f = v :: t
  | 0, h => absurd h (Nat.not_lt_zero _)
  | k + 1, h => by
    rw [range_fm]
    by_cases e : J < k
    · obtain ⟨t, ht⟩ := first_fm (α := α) h0 h1 k e
      exact ⟨t ++ (f k).toList, by rw [ht]; rfl⟩
    · have e' : J = k := by omega
      subst e'
      refine ⟨[], ?_⟩
      have : (List.range J).filterMap f = [] := by
        rw [List.filterMap_eq_nil_iff]
        intro j hj
        exact h0 j (List.mem_range.mp hj)
      rw [this, h1]
      rfl

/-! ### fields, methods, new instances -/
def aFld (K : PySem.W.Frag) (f : Str) (x : V) (H : Hp) (Q : VK) : Prop := ∃ a C dx fs v, x = .ref a ∧ H a = some (.ins C dx fs) ∧ Cls K C ∧ NoAttr K C f ∧ fs.lookup f = some v ∧ Q v H
theorem rd_tFld {f : Str} (h : ta σ H fun x H1 => aFld K f x H1 Q) : tFld K ta f σ H Q := h
theorem rd_aFld {f : Str} {a C dx : Addr} {fs : List (Str × V)} (h : H a = some (.ins C dx fs)) (c : Cls K C) (na : NoAttr K C f) (hl : fs.lookup f = some v) (q : Q v H) : aFld K f (.ref a) H Q := ⟨a, C, dx, fs, v, rfl, h, c, na, hl, q⟩
def aSFld (K : PySem.W.Frag) (f : Str) (y x : V) (H : Hp) (R : Hp → Prop) : Prop := ∃ a C dx fs, x = .ref a ∧ H a = some (.ins C dx fs) ∧ Cls K C ∧ NoAttr K C f ∧ fs.length < 1000 ∧ R (upd H a (.ins C dx (putF f y fs)))
theorem rd_sFld {f : Str} (h : tb σ H fun y H1 => ta σ H1 fun x H2 => aSFld K f y x H2 fun H3 => D.nx σ H3) : sFld K ta tb f D σ H := h
theorem rd_aSFld {f : Str} {a C dx : Addr} {fs : List (Str × V)} {R : Hp → Prop} (h : H a = some (.ins C dx fs)) (c : Cls K C) (na : NoAttr K C f) (hl : fs.length < 1000) (q : ∀ H1, Kp [a] H H1 → H1 a = some (.ins C dx (putF f y fs)) → R H1) : aSFld K f y (.ref a) H R :=
  ⟨a, C, dx, fs, rfl, h, c, na, hl, q _ .mut upd_same⟩
def aMake (C : Addr) (sp : Sp) (dvs : List V) (E : XK) (vs : List V) (H1 : Hp) (Q : VK) : Prop := ∀ x dx, H1 x = none → H1 dx = none → dx ≠ x → sp (.ref x :: (vs ++ dvs)) (upd (upd H1 dx (.own x)) x (.ins C dx [])) (fun v H2 => v = .non ∧ Q (.ref x) H2) E
theorem rd_make {C : Addr} {sp : Sp} {dvs : List V} {E : XK} (h : tA σ H fun vs H1 => aMake C sp dvs E vs H1 Q) : tMake C sp dvs E tA σ H Q := h
theorem rd_aMake {C : Addr} {sp : Sp} {dvs vs : List V} {E : XK} (q : ∀ x dx H1, H x = none → Kp [] H H1 → H1 x = some (.ins C dx []) → sp (.ref x :: (vs ++ dvs)) H1 (fun v H2 => v = .non ∧ Q (.ref x) H2) E) : aMake C sp dvs E vs H Q :=
  fun x dx hx hdx n => q x dx _ hx ((Kp.new hdx).trans (Kp.new (by rw [upd_ne (Ne.symm n)]; exact hx))) upd_same
theorem rd_nonQ {A : Prop} (q : A) : V.non = V.non ∧ A := ⟨rfl, q⟩
def aProp (C : Addr) (sp : Sp) (dvs : List V) (E : XK) (x : V) (H : Hp) (Q : VK) : Prop := ∃ a dx fs, x = .ref a ∧ H a = some (.ins C dx fs) ∧ sp (.ref a :: dvs) H Q E
theorem rd_prop {C : Addr} {sp : Sp} {dvs : List V} {E : XK} (h : ta σ H fun x H1 => aProp C sp dvs E x H1 Q) : tProp C sp dvs E ta σ H Q := h
theorem rd_aProp {C a dx : Addr} {sp : Sp} {dvs : List V} {E : XK} {fs : List (Str × V)} (h : H a = some (.ins C dx fs)) (q : sp (.ref a :: dvs) H Q E) : aProp C sp dvs E (.ref a) H Q := ⟨a, dx, fs, rfl, h, q⟩
def aMeth (C : Addr) (m : Str) (sp : Sp) (dvs : List V) (E : XK) (tA : TA) (σ : L2.St) (x : V) (H : Hp) (Q : VK) : Prop := ∃ a dx fs, x = .ref a ∧ H a = some (.ins C dx fs) ∧ fs.lookup m = none ∧ tA σ H fun vs H2 => sp (x :: (vs ++ dvs)) H2 Q E
theorem rd_meth {C : Addr} {m : Str} {sp : Sp} {dvs : List V} {E : XK} (h : ta σ H fun x H1 => aMeth C m sp dvs E tA σ x H1 Q) : tMeth C m sp dvs E ta tA σ H Q := h
theorem rd_aMeth {C a dx : Addr} {m : Str} {sp : Sp} {dvs : List V} {E : XK} {fs : List (Str × V)} (h : H a = some (.ins C dx fs)) (hl : fs.lookup m = none) (q : tA σ H fun vs H2 => sp (.ref a :: (vs ++ dvs)) H2 Q E) : aMeth C m sp dvs E tA σ (.ref a) H Q := ⟨a, dx, fs, rfl, h, hl, q⟩

/-! ### dicts -/
def aDGet (x y : V) (H : Hp) (Q : VK) : Prop := ∃ a v, x = V.ref a ∧ DGet H a y (some v) ∧ Q v H
theorem rd_dget (h : ta σ H fun x H1 => tb σ H1 fun y H2 => aDGet x y H2 Q) : tDGet ta tb σ H Q := h
def aDIn (x y : V) (H : Hp) (Q : VK) : Prop := ∃ a o, x = V.ref a ∧ DGet H a y o ∧ Q (.bl o.isSome) H
theorem rd_din (h : ta σ H fun y H1 => tb σ H1 fun x H2 => aDIn x y H2 Q) : tDIn ta tb σ H Q := h
def aDNotIn (x y : V) (H : Hp) (Q : VK) : Prop := ∃ a o, x = V.ref a ∧ DGet H a y o ∧ Q (.bl (!o.isSome)) H
theorem rd_dnotin (h : ta σ H fun y H1 => tb σ H1 fun x H2 => aDNotIn x y H2 Q) : tDNotIn ta tb σ H Q := h
theorem rd_dgetT {a b : Addr} {d : List (List Key × V)} {k : List Key} (h : H a = some (.dT d)) (e : H b = some (.tup (k.map kV))) (hv : valV d k = some v) (q : Q v H) : aDGet (.ref a) (.ref b) H Q := ⟨a, v, rfl, by rw [← hv]; exact DGet.t h e, q⟩
theorem rd_dgetK {a : Addr} {d : List (Key × V)} (h : H a = some (.dK d)) (hv : valV d (.inl n) = some v) (q : Q v H) : aDGet (.ref a) (.int n) H Q := ⟨a, v, rfl, by rw [← hv]; exact DGet.k (k := .inl n) h, q⟩
theorem rd_dninT {a b : Addr} {d : List (List Key × V)} {k : List Key} (h : H a = some (.dT d)) (e : H b = some (.tup (k.map kV))) (q : Q (.bl (!(valV d k).isSome)) H) : aDNotIn (.ref a) (.ref b) H Q := ⟨a, _, rfl, DGet.t h e, q⟩
theorem rd_dninK {a : Addr} {d : List (Key × V)} (h : H a = some (.dK d)) (q : Q (.bl (!(valV d (.inl n)).isSome)) H) : aDNotIn (.ref a) (.int n) H Q := ⟨a, _, rfl, DGet.k (k := .inl n) h, q⟩
theorem rd_dninT0 {a b : Addr} {d : List (List Key × V)} {k : List Key} (h : H a = some (.dT d)) (e : H b = some (.tup (k.map kV))) (g : valV d k = none) (q : Q (.bl true) H) : aDNotIn (.ref a) (.ref b) H Q := rd_dninT h e (by rw [g]; exact q)
theorem rd_dninT1 {a b : Addr} {d : List (List Key × V)} {k : List Key} (h : H a = some (.dT d)) (e : H b = some (.tup (k.map kV))) (g : valV d k = some v) (q : Q (.bl false) H) : aDNotIn (.ref a) (.ref b) H Q := rd_dninT h e (by rw [g]; exact q)
theorem rd_dninK0 {a : Addr} {d : List (Key × V)} (h : H a = some (.dK d)) (g : valV d (.inl n) = none) (q : Q (.bl true) H) : aDNotIn (.ref a) (.int n) H Q := rd_dninK h (by rw [g]; exact q)
theorem rd_dninK1 {a : Addr} {d : List (Key × V)} (h : H a = some (.dK d)) (g : valV d (.inl n) = some v) (q : Q (.bl false) H) : aDNotIn (.ref a) (.int n) H Q := rd_dninK h (by rw [g]; exact q)
def aDPut (x y v : V) (H : Hp) (R : Hp → Prop) : Prop := ∃ a H4, x = V.ref a ∧ DPut H a y v H4 ∧ R H4
theorem rd_dputT {a b : Addr} {d : List (List Key × V)} {k : List Key} {R : Hp → Prop} (h : H a = some (.dT d)) (e : H b = some (.tup (k.map kV))) (hl : d.length < 100000) (q : ∀ H1, Kp [a] H H1 → H1 a = some (.dT (putK d k v)) → R H1) : aDPut (.ref a) (.ref b) v H R :=
  ⟨a, _, rfl, DPut.t h e (szl hl), q _ .mut upd_same⟩
theorem rd_dputK {a : Addr} {d : List (Key × V)} {R : Hp → Prop} (h : H a = some (.dK d)) (hl : d.length < 100000) (q : ∀ H1, Kp [a] H H1 → H1 a = some (.dK (putK d (.inl n) v)) → R H1) : aDPut (.ref a) (.int n) v H R :=
  ⟨a, _, rfl, DPut.k (k := .inl n) h (szl hl), q _ .mut upd_same⟩
theorem rd_newK (q : ∀ p H1, H p = none → Kp [] H H1 → H1 p = some (.dK []) → Q (.ref p) H1) : tDNewK σ H Q := rd_new q
theorem rd_newT (q : ∀ p H1, H p = none → Kp [] H H1 → H1 p = some (.dT []) → Q (.ref p) H1) : tDNewT σ H Q := rd_new q
/-- a statement under a lock -/
theorem rd_lock {d : Addr} {o : HO} (h : H d = some o) (mu : Mut (some o)) (q : ∀ od H1, Kp [d] H H1 → H1 d = some (.frz od o) → t ⟨fun σ' H' => H' d = some (.frz od o) ∧ D.nx σ' (upd H' d o), fun v H' => H' d = some (.frz od o) ∧ D.rt v (upd H' d o), fun σ' H' => H' d = some (.frz od o) ∧ D.bk σ' (upd H' d o), fun σ' H' => H' d = some (.frz od o) ∧ D.ct σ' (upd H' d o)⟩ σ H1) : tLock t D σ H :=
  ⟨d, o, h, mu, fun od => q od _ .mut upd_same⟩
theorem rd_unlock {d : Addr} {o o2 : HO} {R : Hp → Prop} (h : H d = some o2) (q : ∀ H1, Kp [d] H H1 → H1 d = some o → R H1) : H d = some o2 ∧ R (upd H d o) := ⟨h, q _ .mut upd_same⟩
theorem Kp.back {S : List Addr} {d : Addr} {o : HO} {H H1 : Hp} (k : Kp (d :: S) H H1) (h : H d = some o) (h1 : H1 d = some o) : Kp S H H1 := fun b u n e => by
  by_cases z : b = d
  · subst z
    rw [h] at e
    rw [h1]
    exact e
  · exact k b u (by simp [z, n]) e
theorem rd_dput (h : te σ H fun v H1 => ta σ H1 fun x H2 => tb σ H2 fun y H3 => aDPut x y v H3 fun H4 => D.nx σ H4) : sDPut ta tb te D σ H := h

/-! ### statements -/
theorem rd_seq (h : t { D with nx := u D } σ H) : tSeq t u D σ H := h
/-- a statement with several ways to its end -/
theorem rd_join (J : L2.St → Hp → Prop) (hj : ∀ σ H, J σ H → u D σ H) (h : ∀ N : L2.St → Hp → Prop, (∀ σ H, J σ H → N σ H) → t { D with nx := N } σ H) : tSeq t u D σ H := h _ hj
theorem rd_next (h : D.nx σ H) : tNext D σ H := h
theorem rd_set (h : te σ H fun x H1 => D.nx (σ.set i (some x)) H1) : tAsg te (gName i) D σ H := h
theorem rd_asg {g : TG} (h : te σ H fun x H1 => g x σ H1 D.nx) : tAsg te g D σ H := h
theorem rd_ret (h : te σ H D.rt) : tRet te D σ H := h
theorem rd_retN (h : D.rt .non H) : tRetN D σ H := h
theorem rd_drop (h : te σ H fun _ H1 => D.nx σ H1) : tDrop te D σ H := h
theorem rd_par {j : Nat} (h : tA σ H fun vs H1 => ∃ v w, vs = [v, w] ∧ D.nx ((σ.set i (some v)).set j (some w)) H1) : tPar i j tA D σ H := h
theorem rd_par3 {j l : Nat} (h : tA σ H fun vs H1 => ∃ u v w, vs = [u, v, w] ∧ D.nx (((σ.set i (some u)).set j (some v)).set l (some w)) H1) : tPar3 i j l tA D σ H := h
theorem rd_ex2 {R : V → V → Prop} (q : R x y) : ∃ v w, [x, y] = [v, w] ∧ R v w := ⟨x, y, rfl, q⟩
theorem rd_ex3 {z : V} {R : V → V → V → Prop} (q : R x y z) : ∃ u v w, [x, y, z] = [u, v, w] ∧ R u v w := ⟨x, y, z, rfl, q⟩
theorem rd_aug {ti : TIp} (h : σ[i]? = some (some x)) (q : te σ H fun y H1 => ti x y H1 fun z H2 => D.nx (σ.set i (some z)) H2) : tAug i te ti D σ H := ⟨x, h, q⟩
theorem rd_ipI {f : Int → Int → Int} (q : Q (.int (f n m)) H) : ipI f (.int n) (.int m) H Q := ⟨n, m, rfl, rfl, q⟩
theorem rd_augS {to ti : TE} {tget : V → V → Hp → VK → Prop} {tip : TIp} {tset : TSet}
    (h : to σ H fun o H1 => ti σ H1 fun i H2 => tget o i H2 fun x H3 => te σ H3 fun y H4 => tip x y H4 fun z H5 => tset o i z H5 fun H6 => D.nx σ H6) : tAugS to ti te tget tip tset D σ H := h
theorem rd_gName {QG : L2.St → Hp → Prop} (h : QG (σ.set i (some v)) H) : gName i v σ H QG := h
theorem rd_gSub {to ti : TE} {s : TSet} {QG : L2.St → Hp → Prop} (h : to σ H fun o H1 => ti σ H1 fun i H2 => s o i v H2 fun H3 => QG σ H3) : gSub to ti s v σ H QG := h
theorem rd_gTup {p : Addr} {xs : List V} {k : Nat} {g : TGs} {QG : L2.St → Hp → Prop} (h : SqT K H p xs) (hl : xs.length = k) (q : g xs σ H QG) : gTup K k g (.ref p) σ H QG := ⟨p, xs, rfl, h, hl, q⟩
theorem rd_gCons {xs : List V} {g : TG} {gs : TGs} {QG : L2.St → Hp → Prop} (h : g v σ H fun σ1 H1 => gs xs σ1 H1 QG) : gCons g gs (v :: xs) σ H QG := ⟨v, xs, rfl, h⟩
theorem rd_gNil {QG : L2.St → Hp → Prop} (h : QG σ H) : gNil [] σ H QG := ⟨rfl, h⟩

/-! ### loops -/
variable {g : TG} {tb' : TS}
/-- what a for over a range asks, the arguments being known -/
def aR1 (g : TG) (tb : TS) (D : Ends) (σ : L2.St) (vs : List V) (H1 : Hp) : Prop := ∃ j : Int, vs = [.int j] ∧ -(2 ^ 62) ≤ j ∧ j < 2 ^ 62 ∧ ∃ W : Nat → Nat → L2.St → Hp → Prop, (∃ m, W 0 m σ H1) ∧ ∀ i m σ H, W i m σ H →
  ((Itr 0 j.toNat).stop i H ∧ D.nx σ H) ∨ ((Itr 0 j.toNat).go i H ∧ ∃ N : L2.St → Hp → Prop, (∀ σ' H', N σ' H' → ∃ m', m' < m ∧ W (i + 1) m' σ' H') ∧ ∀ x H', (Itr 0 j.toNat).yld i H x H' → g x σ H' fun σ2 H2 => tb { D with nx := N, ct := N, bk := D.nx } σ2 H2)
theorem rd_for1 (h : tA σ H fun vs H1 => aR1 g tb' D σ vs H1) : tFor (iRng1 tA) g tb' D σ H := h
theorem loop1 {j : Int} (hj : j < 4611686018427387904) (h0 : 0 ≤ j) (Pv : Nat → L2.St → Hp → Prop) (st : Pv 0 σ H)
    (hs : ∀ (i : Nat) σ H, (i : Int) < j → Pv i σ H → g (.int (i : Int)) σ H fun σ2 H2 => tb' { D with nx := Pv (i + 1), ct := Pv (i + 1), bk := D.nx } σ2 H2) (hd : ∀ σ H, Pv j.toNat σ H → D.nx σ H) : aR1 g tb' D σ [.int j] H := by
  refine ⟨j, rfl, by omega, by omega, for_range (lo := 0) (n := j.toNat) Pv st (fun i σ H hi p => ?_) hd⟩
  have := hs i σ H (by omega) p
  rw [show (0 : Int) + (i : Nat) = i by omega]
  exact this
def aR2 (g : TG) (tb : TS) (D : Ends) (σ : L2.St) (vs : List V) (H1 : Hp) : Prop := ∃ i0 j : Int, vs = [.int i0, .int j] ∧ (-(2 ^ 62) ≤ i0 ∧ i0 < 2 ^ 62 ∧ -(2 ^ 62) ≤ j ∧ j < 2 ^ 62) ∧ ∃ W : Nat → Nat → L2.St → Hp → Prop, (∃ m, W 0 m σ H1) ∧ ∀ i m σ H, W i m σ H →
  ((Itr i0 (j - i0).toNat).stop i H ∧ D.nx σ H) ∨ ((Itr i0 (j - i0).toNat).go i H ∧ ∃ N : L2.St → Hp → Prop, (∀ σ' H', N σ' H' → ∃ m', m' < m ∧ W (i + 1) m' σ' H') ∧ ∀ x H', (Itr i0 (j - i0).toNat).yld i H x H' → g x σ H' fun σ2 H2 => tb { D with nx := N, ct := N, bk := D.nx } σ2 H2)
theorem rd_for2 (h : tA σ H fun vs H1 => aR2 g tb' D σ vs H1) : tFor (iRng2 tA) g tb' D σ H := h
theorem loop2 {i0 j : Int} (hb : -4611686018427387904 ≤ i0 ∧ i0 < 4611686018427387904 ∧ -4611686018427387904 ≤ j ∧ j < 4611686018427387904) (Pv : Nat → L2.St → Hp → Prop) (st : Pv 0 σ H)
    (hs : ∀ (i : Nat) σ H, i0 + i < j → Pv i σ H → g (.int (i0 + (i : Int))) σ H fun σ2 H2 => tb' { D with nx := Pv (i + 1), ct := Pv (i + 1), bk := D.nx } σ2 H2) (hd : ∀ σ H, Pv (j - i0).toNat σ H → D.nx σ H) : aR2 g tb' D σ [.int i0, .int j] H :=
  ⟨i0, j, rfl, by omega, for_range (lo := i0) (n := (j - i0).toNat) Pv st (fun i σ H hi p => hs i σ H (by omega) p) hd⟩
/-- .. over a list -/
def aL (K : PySem.W.Frag) (g : TG) (tb : TS) (D : Ends) (σ : L2.St) (x : V) (H1 : Hp) : Prop := ∃ a, x = .ref a ∧ (∃ xs, SqL K H1 a xs) ∧ ∃ W : Nat → Nat → L2.St → Hp → Prop, (∃ m, W 0 m σ H1) ∧ ∀ i m σ H, W i m σ H →
  ((Itl K a).stop i H ∧ D.nx σ H) ∨ ((Itl K a).go i H ∧ ∃ N : L2.St → Hp → Prop, (∀ σ' H', N σ' H' → ∃ m', m' < m ∧ W (i + 1) m' σ' H') ∧ ∀ x H', (Itl K a).yld i H x H' → g x σ H' fun σ2 H2 => tb { D with nx := N, ct := N, bk := D.nx } σ2 H2)
theorem rd_forL {tl : TE} (h : tl σ H fun x H1 => aL K g tb' D σ x H1) : tFor (iList K tl) g tb' D σ H := h
theorem loopL {p : Addr} {xs : List V} (hl : SqL K H p xs) (Pv : Nat → L2.St → Hp → Prop) (st : Pv 0 σ H) (keep : ∀ i σ H, i ≤ xs.length → Pv i σ H → SqL K H p xs)
    (hs : ∀ i x σ H, xs[i]? = some x → Pv i σ H → g x σ H fun σ2 H2 => tb' { D with nx := Pv (i + 1), ct := Pv (i + 1), bk := D.nx } σ2 H2) (hd : ∀ σ H, Pv xs.length σ H → D.nx σ H) : aL K g tb' D σ (.ref p) H :=
  ⟨p, rfl, ⟨xs, hl⟩, for_list (xs := xs) Pv st keep hs hd⟩
/-- .. over a list of ints -/
theorem loopI {p : Addr} {ns : List Int} (hl : SqL K H p (Is ns)) (Pv : Nat → L2.St → Hp → Prop) (st : Pv 0 σ H) (keep : ∀ i σ H, i ≤ ns.length → Pv i σ H → SqL K H p (Is ns))
    (hs : ∀ i n σ H, ns[i]? = some n → Pv i σ H → g (.int n) σ H fun σ2 H2 => tb' { D with nx := Pv (i + 1), ct := Pv (i + 1), bk := D.nx } σ2 H2) (hd : ∀ σ H, Pv ns.length σ H → D.nx σ H) : aL K g tb' D σ (.ref p) H := by
  refine loopL hl Pv st (fun i σ H hi p => keep i σ H (by simpa using hi) p) (fun i x σ H hx p => ?_) (fun σ H p => hd σ H (by simpa using p))
  rw [List.getElem?_map] at hx
  cases e : ns[i]? with
  | none => rw [e] at hx; cases hx
  | some n =>
    rw [e] at hx
    obtain rfl := Option.some.inj hx
    exact hs i n σ H e p
/-- .. over a tuple -/
def aT (K : PySem.W.Frag) (g : TG) (tb : TS) (D : Ends) (σ : L2.St) (x : V) (H1 : Hp) : Prop := ∃ a, x = .ref a ∧ (∃ xs, SqT K H1 a xs) ∧ ∃ W : Nat → Nat → L2.St → Hp → Prop, (∃ m, W 0 m σ H1) ∧ ∀ i m σ H, W i m σ H →
  ((Itt K a).stop i H ∧ D.nx σ H) ∨ ((Itt K a).go i H ∧ ∃ N : L2.St → Hp → Prop, (∀ σ' H', N σ' H' → ∃ m', m' < m ∧ W (i + 1) m' σ' H') ∧ ∀ x H', (Itt K a).yld i H x H' → g x σ H' fun σ2 H2 => tb { D with nx := N, ct := N, bk := D.nx } σ2 H2)
theorem rd_forT {tl : TE} (h : tl σ H fun x H1 => aT K g tb' D σ x H1) : tFor (iTup K tl) g tb' D σ H := h
theorem loopT {p : Addr} {xs : List V} (hl : SqT K H p xs) (Pv : Nat → L2.St → Hp → Prop) (st : Pv 0 σ H) (keep : ∀ i σ H, i ≤ xs.length → Pv i σ H → SqT K H p xs)
    (hs : ∀ i x σ H, xs[i]? = some x → Pv i σ H → g x σ H fun σ2 H2 => tb' { D with nx := Pv (i + 1), ct := Pv (i + 1), bk := D.nx } σ2 H2) (hd : ∀ σ H, Pv xs.length σ H → D.nx σ H) : aT K g tb' D σ (.ref p) H :=
  ⟨p, rfl, ⟨xs, hl⟩, for_tup (xs := xs) Pv st keep hs hd⟩
/-- for a, b in enumerate(l) -/
def aE (K : PySem.W.Frag) (g : TG) (tb : TS) (D : Ends) (σ : L2.St) (vs : List V) (H1 : Hp) : Prop := ∃ a xs, vs = [.ref a] ∧ SqL K H1 a xs ∧ ∃ W : Nat → Nat → L2.St → Hp → Prop, (∃ m, W 0 m σ H1) ∧ ∀ i m σ H, W i m σ H →
  ((Ite K a).stop i H ∧ D.nx σ H) ∨ ((Ite K a).go i H ∧ ∃ N : L2.St → Hp → Prop, (∀ σ' H', N σ' H' → ∃ m', m' < m ∧ W (i + 1) m' σ' H') ∧ ∀ x H', (Ite K a).yld i H x H' → g x σ H' fun σ2 H2 => tb { D with nx := N, ct := N, bk := D.nx } σ2 H2)
theorem rd_forE (h : tA σ H fun vs H1 => aE K g tb' D σ vs H1) : tFor (iEnum K tA) g tb' D σ H := h
theorem loopE {p : Addr} {xs : List V} {ia ib : Nat} (hl : SqL K H p xs) (Pv : Nat → L2.St → Hp → Prop) (st : Pv 0 σ H) (keep : ∀ i σ H, i ≤ xs.length → Pv i σ H → SqL K H p xs)
    (hs : ∀ i x σ H H1, xs[i]? = some x → Pv i σ H → Kp [] H H1 → tb' { D with nx := Pv (i + 1), ct := Pv (i + 1), bk := D.nx } ((σ.set ia (some (.int (i : Nat)))).set ib (some x)) H1) (hd : ∀ σ H, Pv xs.length σ H → D.nx σ H) :
    aE K (gTup K 2 (gCons (gName ia) (gCons (gName ib) gNil))) tb' D σ [.ref p] H := by
  refine ⟨p, xs, rfl, hl, fun i m σ H => m = xs.length - i ∧ i ≤ xs.length ∧ Pv i σ H, ⟨xs.length, by simp, Nat.zero_le _, st⟩, ?_⟩
  rintro i m σ H ⟨rfl, hi, pv⟩
  have q := keep i σ H hi pv
  by_cases hlt : i < xs.length
  · refine .inr ⟨⟨xs, xs[i], q, by simp [hlt]⟩, Pv (i + 1), fun σ' H' p' => ⟨xs.length - (i + 1), by omega, rfl, hlt, p'⟩, fun v H' yy => ?_⟩
    obtain ⟨T, x, rfl, hT, rfl, hx⟩ := yy
    exact rd_gTup (SqT.of upd_same) rfl (rd_gCons (rd_gName (rd_gCons (rd_gName (rd_gNil (hs i x σ H _ (hx xs q) pv (.new hT)))))))
  · have e : i = xs.length := by omega
    subst e
    exact .inl ⟨⟨xs, q, Nat.le_refl _⟩, hd σ H pv⟩
/-- while -/
def aW (tb : TS) (D : Ends) (Pv : Nat → L2.St → Hp → Prop) (k : Nat) (σ : L2.St) (H1 : Hp) : Prop := ∃ N : L2.St → Hp → Prop, (∀ σ' H', N σ' H' → ∃ m', m' < k ∧ Pv m' σ' H') ∧ tb { D with nx := N, ct := N, bk := D.nx } σ H1
theorem rd_while {c : TT} (Pv : Nat → L2.St → Hp → Prop) (k : Nat) (st : Pv k σ H) (hs : ∀ k σ H, Pv k σ H → c σ H fun b H1 => if b = true then aW tb' D Pv k σ H1 else D.nx σ H1) : tWhile c tb' D σ H :=
  ⟨Pv, ⟨k, st⟩, hs⟩
theorem rd_aW {Pv : Nat → L2.St → Hp → Prop} {k : Nat} (h : tb' { D with nx := fun σ' H' => ∃ m', m' < k ∧ Pv m' σ' H', ct := fun σ' H' => ∃ m', m' < k ∧ Pv m' σ' H', bk := D.nx } σ H) : aW tb' D Pv k σ H := ⟨_, fun _ _ q => q, h⟩

/-! ### comprehensions -/
theorem rd_yes (q : QB true H) : tYes σ H QB := q
/-- [e for x in l], e's value f x, nothing else made -/
theorem wipe_set1 {i : Nat} {σ : L2.St} {x : Option V} : wipe ((wipe σ [i]).set i x) [i] = wipe σ [i] := by
  show ((σ.set i none).set i x).set i none = σ.set i none
  rw [List.set_set, List.set_set]
theorem lcMap {p : Addr} {xs : List V} {f : V → V} {tl : TE} (i : Nat) (hl : SqL K H p xs) (hz : xs.length ≤ 100000)
    (he : ∀ (j : Nat) (x : V) (H1 : Hp) (Q1 : VK), xs[j]? = some x → Kp [] H H1 → (∀ H2, Kp [] H1 H2 → Q1 (f x) H2) → te (((wipe σ [i])).set i (some x)) H1 Q1) (q : ∀ D H1, H D = none → Kp [] H H1 → H1 D = some (.lst (xs.map f)) → Q (.ref D) H1) :
    tLc (iList K fun _ H Q => Q (.ref p) H) (gName i) tYes te [i] σ H Q := by
  refine ⟨p, rfl, ⟨xs, hl⟩, fun D hD => ?_⟩
  refine lc_list (K := K) (a := p) (xs := xs) (fun j H1 => Kp [] H H1 ∧ H1 D = some (.lst ((xs.take j).map f))) ⟨.new hD, by rw [upd_same]; rfl⟩ (fun j H1 hj pv => pv.1.seq0 hl) (fun j x H1 hx pv => ?_) fun H1 pv => ?_
  · refine rd_gName ⟨wipe_set1, ?_⟩
    refine rd_yes (rd_T ?_)
    refine he j x H1 _ hx pv.1 fun H2 k2 => ?_
    refine ⟨_, k2.at0 pv.2, ?_, ?_, ?_⟩
    · refine szl ?_
      have : j < xs.length := (List.getElem?_eq_some_iff.mp hx).1
      rw [List.length_map, List.length_take]
      omega
    · exact (pv.1.trans k2).trF .mut hD
    · rw [upd_same, List.take_add_one, hx, List.map_append]
      rfl
  · have e := pv.2
    rw [List.take_length] at e
    exact q D H1 hD pv.1 e
theorem wipe_set2 {ia ib : Nat} (h : ia ≠ ib) (σ : L2.St) (x y : Option V) : wipe (((wipe σ [ia, ib]).set ia x).set ib y) [ia, ib] = wipe σ [ia, ib] := by
  show (((((σ.set ib none).set ia none).set ia x).set ib y).set ib none).set ia none = (σ.set ib none).set ia none
  rw [List.set_set, List.set_set, List.set_comm x none h, List.set_set, List.set_set]
/-- what a comprehension asks, its iterable being known -/
def aLc (J : It) (g : TG) (tt : TT) (te : TE) (vs : List Nat) (σ : L2.St) (Q : VK) (H1 : Hp) : Prop := ∀ D, H1 D = none → ∃ W : Nat → Nat → Hp → Prop, (∃ m, W 0 m (upd H1 D (.lst []))) ∧ ∀ i m H, W i m H →
  (J.stop i H ∧ Q (.ref D) H) ∨ (J.go i H ∧ ∃ Nx : Hp → Prop, (∀ H', Nx H' → ∃ m', m' < m ∧ W (i + 1) m' H') ∧ ∀ x H', J.yld i H x H' → g x (wipe σ vs) H' fun σ2 H2 => wipe σ2 vs = wipe σ vs ∧ tt σ2 H2 fun b H3 =>
    if b = true then te σ2 H3 fun y H4 => ∃ acc, H4 D = some (.lst acc) ∧ acc.length < sizeLine ∧ Nx (upd H4 D (.lst (acc ++ [y]))) else Nx H3)
theorem fm_len {α β : Type} (f : α → Option β) (xs : List α) : (xs.filterMap f).length ≤ xs.length := List.length_filterMap_le f xs
theorem lcIt {J : It} {nn : Nat} {G : Hp → Prop} {Y : Nat → Hp → V → Hp → Prop} {vs : List Nat} (w : Walk J nn G Y) (hG : ∀ H', Kp [] H H' → G H') (f : Nat → Option V) (hz : nn ≤ 100000)
    (he : ∀ j x H1 H2 (N : Option V → Hp → Prop), j < nn → Kp [] H H1 → Y j H1 x H2 → (∀ H3, Kp [] H1 H3 → N (f j) H3) → g x (wipe σ vs) H2 fun σ2 H3 => wipe σ2 vs = wipe σ vs ∧ tt σ2 H3 fun b H4 => if b = true then te σ2 H4 fun y H5 => N (some y) H5 else N none H4)
    (q : ∀ D H1, H D = none → Kp [] H H1 → H1 D = some (.lst ((List.range nn).filterMap f)) → Q (.ref D) H1) : aLc J g tt te vs σ Q H := by
  intro D hD
  refine lc_it w (fun j H1 => Kp [] H H1 ∧ H1 D = some (.lst ((List.range j).filterMap f))) ⟨.new hD, by rw [upd_same]; rfl⟩ (fun j H1 hj pv => hG _ pv.1) (fun j x H1 H2 hj pv hy => ?_) fun H1 pv => q D H1 hD pv.1 pv.2
  refine he j x H1 H2 (fun o H3 => match o with
    | some y => ∃ acc, H3 D = some (.lst acc) ∧ acc.length < sizeLine ∧ (Kp [] H (upd H3 D (.lst (acc ++ [y]))) ∧ (upd H3 D (.lst (acc ++ [y]))) D = some (.lst ((List.range (j + 1)).filterMap f)))
    | none => Kp [] H H3 ∧ H3 D = some (.lst ((List.range (j + 1)).filterMap f))) hj pv.1 hy fun H3 k3 => ?_
  cases e : f j with
  | none => exact ⟨pv.1.trans k3, by rw [range_fm, e, k3.at0 pv.2]; simp⟩
  | some y =>
    refine ⟨_, k3.at0 pv.2, ?_, ?_, ?_⟩
    · have := fm_len f (List.range j)
      rw [List.length_range] at this
      exact szl (by omega)
    · exact (pv.1.trans k3).trF .mut hD
    · rw [upd_same, range_fm, e]
      rfl
def aLcL (K : PySem.W.Frag) (g : TG) (tt : TT) (te : TE) (vs : List Nat) (σ : L2.St) (Q : VK) (x : V) (H1 : Hp) : Prop := ∃ a, x = .ref a ∧ (∃ xs, SqL K H1 a xs) ∧ aLc (Itl K a) g tt te vs σ Q H1
theorem rd_lcL {tl : TE} {vs : List Nat} (h : tl σ H fun x H1 => aLcL K g tt te vs σ Q x H1) : tLc (iList K tl) g tt te vs σ H Q := h
def aLcR (g : TG) (tt : TT) (te : TE) (vs : List Nat) (σ : L2.St) (Q : VK) (xs : List V) (H1 : Hp) : Prop := ∃ j : Int, xs = [.int j] ∧ -(2 ^ 62) ≤ j ∧ j < 2 ^ 62 ∧ aLc (Itr 0 j.toNat) g tt te vs σ Q H1
theorem rd_lcR {vs : List Nat} (h : tA σ H fun xs H1 => aLcR g tt te vs σ Q xs H1) : tLc (iRng1 tA) g tt te vs σ H Q := h
def aLcE (K : PySem.W.Frag) (g : TG) (tt : TT) (te : TE) (vs : List Nat) (σ : L2.St) (Q : VK) (xs : List V) (H1 : Hp) : Prop := ∃ a ys, xs = [.ref a] ∧ SqL K H1 a ys ∧ aLc (Ite K a) g tt te vs σ Q H1
theorem rd_lcE {vs : List Nat} (h : tA σ H fun xs H1 => aLcE K g tt te vs σ Q xs H1) : tLc (iEnum K tA) g tt te vs σ H Q := h
theorem fm_range_of {α β : Type} (xs : List α) (f : α → Option β) : (List.range xs.length).filterMap (fun j => xs[j]?.bind f) = xs.filterMap f := by
  induction xs with
  | nil => rfl
  | cons a r ih =>
    rw [List.length_cons, List.range_succ_eq_map, List.filterMap_cons, List.filterMap_map, List.filterMap_cons]
    have e : (fun j => (a :: r)[j]?.bind f) ∘ Nat.succ = fun j => r[j]?.bind f := by funext j; rfl
    rw [e, ih]
    rfl
theorem fm_range_map {α β : Type} (xs : List α) (f : α → β) : (List.range xs.length).filterMap (fun j => xs[j]?.map f) = xs.map f := by
  have := fm_range_of xs fun a => some (f a)
  rw [List.filterMap_eq_map'] at this
  rw [← this]
  congr 1
  funext j
  cases xs[j]? <;> rfl
/-- over a list of ints, ints made -/
theorem loopLcI {p : Addr} {ns : List Int} (i : Nat) (f : Int → Option Int) (hl : SqL K H p (Is ns)) (hz : ns.length ≤ 100000)
    (he : ∀ m H1 (N : Option V → Hp → Prop), m ∈ ns → Kp [] H H1 → (∀ H2, Kp [] H1 H2 → N ((f m).map V.int) H2) → tt ((wipe σ [i]).set i (some (.int m))) H1 fun b H3 => if b = true then te ((wipe σ [i]).set i (some (.int m))) H3 fun y H4 => N (some y) H4 else N none H3)
    (q : ∀ D H1, H D = none → Kp [] H H1 → H1 D = some (.lst (Is (ns.filterMap f))) → Q (.ref D) H1) : aLcL K (gName i) tt te [i] σ Q (.ref p) H := by
  refine ⟨p, rfl, ⟨_, hl⟩, lcIt walk_list (fun H' k => k.seq0 hl) (fun j => ns[j]?.bind fun m => (f m).map V.int) (by simpa using hz) (fun j x H1 H2 N hj k hy hN => ?_) fun D H1 hD k e => q D H1 hD k (by
    rw [e, List.length_map, fm_range_of ns (fun m => (f m).map V.int), ← List.map_filterMap])⟩
  obtain ⟨e, hx⟩ := hy
  subst e
  rw [List.getElem?_map] at hx
  cases hm : ns[j]? with
  | none => rw [hm] at hx; cases hx
  | some m =>
    rw [hm] at hx
    obtain rfl := Option.some.inj hx
    simp only [hm] at hN
    exact rd_gName ⟨wipe_set1, he m H2 N (List.mem_of_getElem? hm) k hN⟩
/-- over a list of ints, anything made -/
theorem loopLcV {p : Addr} {ns : List Int} (i : Nat) (f : Int → Option V) (hl : SqL K H p (Is ns)) (hz : ns.length ≤ 100000)
    (he : ∀ m H1 (N : Option V → Hp → Prop), m ∈ ns → Kp [] H H1 → (∀ H2, Kp [] H1 H2 → N (f m) H2) → tt ((wipe σ [i]).set i (some (.int m))) H1 fun b H3 => if b = true then te ((wipe σ [i]).set i (some (.int m))) H3 fun y H4 => N (some y) H4 else N none H3)
    (q : ∀ D H1, H D = none → Kp [] H H1 → H1 D = some (.lst (ns.filterMap f)) → Q (.ref D) H1) : aLcL K (gName i) tt te [i] σ Q (.ref p) H := by
  refine ⟨p, rfl, ⟨_, hl⟩, lcIt walk_list (fun H' k => k.seq0 hl) (fun j => ns[j]?.bind fun m => f m) (by simpa using hz) (fun j x H1 H2 N hj k hy hN => ?_) fun D H1 hD k e => q D H1 hD k (by
    rw [e, List.length_map, fm_range_of ns (fun m => f m)])⟩
  obtain ⟨e, hx⟩ := hy
  subst e
  rw [List.getElem?_map] at hx
  cases hm : ns[j]? with
  | none => rw [hm] at hx; cases hx
  | some m =>
    rw [hm] at hx
    obtain rfl := Option.some.inj hx
    simp only [hm] at hN
    exact rd_gName ⟨wipe_set1, he m H2 N (List.mem_of_getElem? hm) k hN⟩
/-- over a range, ints made -/
theorem loopLcR {j : Int} (i : Nat) (f : Nat → Option Int) (h0 : 0 ≤ j) (hz : j ≤ 100000)
    (he : ∀ (m : Nat) H1 (N : Option V → Hp → Prop), (m : Int) < j → Kp [] H H1 → (∀ H2, Kp [] H1 H2 → N ((f m).map V.int) H2) → tt ((wipe σ [i]).set i (some (.int m))) H1 fun b H3 => if b = true then te ((wipe σ [i]).set i (some (.int m))) H3 fun y H4 => N (some y) H4 else N none H3)
    (q : ∀ D H1, H D = none → Kp [] H H1 → H1 D = some (.lst (Is ((List.range j.toNat).filterMap f))) → Q (.ref D) H1) : aLcR (gName i) tt te [i] σ Q [.int j] H := by
  refine ⟨j, rfl, by omega, by omega, lcIt walk_range (fun _ _ => trivial) (fun m => (f m).map V.int) (by omega) (fun m x H1 H2 N hj k hy hN => ?_) fun D H1 hD k e => q D H1 hD k (by rw [e, ← List.map_filterMap])⟩
  obtain ⟨e, hx⟩ := hy
  subst e hx
  refine rd_gName ⟨wipe_set1, ?_⟩
  have e0 : (fun i : Nat => V.int (0 + (i : Nat))) m = V.int (m : Nat) := congrArg V.int (by omega)
  rw [e0]
  exact he m H2 N (by omega) k hN
/-- over enumerate of a list of ints, ints made -/
theorem loopLcE {p : Addr} {ns : List Int} (ia ib : Nat) (hab : ia ≠ ib) (f : Nat → Int → Option Int) (hl : SqL K H p (Is ns)) (hz : ns.length ≤ 100000)
    (he : ∀ (m : Nat) (r : Int) H1 (N : Option V → Hp → Prop), ns[m]? = some r → Kp [] H H1 → (∀ H2, Kp [] H1 H2 → N ((f m r).map V.int) H2) → tt (((wipe σ [ia, ib]).set ia (some (.int (m : Nat)))).set ib (some (.int r))) H1 fun b H3 => if b = true then te (((wipe σ [ia, ib]).set ia (some (.int (m : Nat)))).set ib (some (.int r))) H3 fun y H4 => N (some y) H4 else N none H3)
    (q : ∀ D H1, H D = none → Kp [] H H1 → H1 D = some (.lst (Is ((List.range ns.length).filterMap fun m => ns[m]?.bind (f m)))) → Q (.ref D) H1) : aLcE K (gTup K 2 (gCons (gName ia) (gCons (gName ib) gNil))) tt te [ia, ib] σ Q [.ref p] H := by
  refine ⟨p, _, rfl, hl, lcIt walk_enum (fun H' k => k.seq0 hl) (fun m => (ns[m]?.bind (f m)).map V.int) (by simpa using hz) (fun m x H1 H2 N hj k hy hN => ?_) fun D H1 hD k e => q D H1 hD k (by rw [e, List.length_map, ← List.map_filterMap])⟩
  obtain ⟨T, a, b, rfl, hT, rfl, ea, eb⟩ := hy
  obtain rfl := Option.some.inj ea
  replace eb : (Is ns)[m]? = some b := eb
  rw [List.getElem?_map] at eb
  cases hm : ns[m]? with
  | none => rw [hm] at eb; cases eb
  | some r =>
    rw [hm] at eb
    obtain rfl := Option.some.inj eb
    simp only [hm] at hN
    have kn : Kp [] H1 (upd H1 T (.tup [.int (m : Nat), .int r])) := .new hT
    exact rd_gTup (SqT.of upd_same) rfl (rd_gCons (rd_gName (rd_gCons (rd_gName (rd_gNil ⟨wipe_set2 hab σ _ _, he m r _ N hm (k.trans kn) fun H3 k3 => hN H3 (kn.trans k3)⟩)))))
end
/-! ### steps behind the automation -/
theorem ne_new {H : Hp} {p b : Addr} {o : HO} (h : H p = none) (e : H b = some o) : b ≠ p := fun z => by rw [z, h] at e; cases e
theorem new_ne {H : Hp} {p b : Addr} {o : HO} (h : H p = none) (e : H b = some o) : p ≠ b := fun z => by rw [← z, h] at e; cases e
theorem Kp.tr0b {S : List Addr} {H H1 H2 : Hp} (b : Kp [] H1 H2) (a : Kp S H H1) : Kp S H H2 := a.tr0 b
theorem Kp.trb {S : List Addr} {H H1 H2 : Hp} (b : Kp S H1 H2) (a : Kp S H H1) : Kp S H H2 := a.tr b
theorem Kp.trFb {S : List Addr} {l : Addr} {H H1 H2 : Hp} (b : Kp [l] H1 H2) (a : Kp S H H1) (f : H l = none) : Kp S H H2 := a.trF b f
theorem Kp.free0b {H H1 : Hp} {p : Addr} (h : H1 p = none) (a : Kp [] H H1) : H p = none := a.free0 h
theorem Kp.free1b {H H1 : Hp} {p l : Addr} (h : H1 p = none) (a : Kp [l] H H1) (n : p ≠ l) : H p = none := a.free (by simpa using n) h
structure Bag (H : Hp) (b l : Addr) : Prop where
  ex : ∃ (x y z : Int) (ns : List Int), H b = some (.lst [.int x, .int y, .int z, .ref l]) ∧ H l = some (.lst (Is ns)) ∧ l ≠ b ∧ 0 ≤ x ∧ 0 ≤ y ∧ y < 2147483647 ∧ 0 ≤ z ∧ ∀ n ∈ ns, 0 ≤ n
theorem Bag.k0 {H H1 : Hp} {b l : Addr} (k : Kp [] H H1) (h : Bag H b l) : Bag H1 b l := by
  obtain ⟨x, y, z, ns, hb, hl, r⟩ := h
  exact ⟨x, y, z, ns, k.at0 hb, k.at0 hl, r⟩
theorem Bag.k1 {H H1 : Hp} {b l p : Addr} (k : Kp [p] H H1) (h : Bag H b l) (n : p ≠ b ∧ p ≠ l) : Bag H1 b l := by
  obtain ⟨x, y, z, ns, hb, hl, r⟩ := h
  exact ⟨x, y, z, ns, k.at1 hb n.1.symm, k.at1 hl n.2.symm, r⟩
theorem Bag.nn {H : Hp} {b l p : Addr} (e : H p = none) (h : Bag H b l) : p ≠ b ∧ p ≠ l := by
  obtain ⟨x, y, z, ns, hb, hl, r⟩ := h
  exact ⟨new_ne e hb, new_ne e hl⟩
theorem gi_mem {ns : List Int} {i : Int} (h0 : 0 ≤ i) (h1 : i < ns.length) : gi ns i ∈ ns := List.mem_of_getElem? (gi_get h0 h1)
end Rc

set_option Elab.async false
set_option linter.all false
set_option maxRecDepth 100000
set_option maxHeartbeats 4000000
/-! Dicts whose keys are tuples: a display of one pair, their items walked and sorted, the least of the values; enumerate over a reversed list. -/
namespace Rc
open PySem PySem.Spec PyProof.Rows L2

/-! ### {(..): v} -/
/-- a display of one pair whose key is a tuple -/
def tDisp1T (tk tv : TE) : TE := fun σ H Q => ∀ p, H p = none → tk σ (upd H p (.dT [])) fun x H1 => tv σ H1 fun y H2 =>
  H2 p = some (.dT []) ∧ ∃ (b : Addr) (k : List Key), x = .ref b ∧ H2 b = some (.tup (k.map kV)) ∧ Q (.ref p) (upd H2 p (.dT [(k, y)]))
theorem pe_disp1T {X : Cx} {pos : Pos} {k v : Expr} {tk tv : TE} (hu : X.A.units < cLine) (hk : PE X k tk) (hv : PE X v tv) : PE X (.Dict [some k] [v] pos) (tDisp1T tk tv) := by
  constructor
  intro pins s σ H Q I q
  have hn := I.hok.fresh (Nat.le_refl s.heap.objs.size)
  have I1 := I.laid (a := s.heap.objs.size) (o := .dT []) (h' := s.heap.push { cls := .type "dict", data := .dict #[] }) (t' := s.toks) (fun _ _ q => Heap.get?_push_of_some _ q) (Nat.le_refl _) (dt_empty s.heap I.big)
  have sh := zip_pairTrees [some k] [v] X.env pos rfl rfl
  have e0 : pairTrees [some k] [v] X.env pos ≠ [] := fun z => nomatch (show _ :: _ = [] from z)
  rw [arm_eval_Dict, sh, dictDisplay_pairs _ e0 (by show 1 < 17; decide)]
  refine wpAny_bind (wpAny_standAt (wpAny_bind (wpAny_subDictH (knd := tupleKind (mixKind X.prog X.w)) (Q := fun d s' => wpAny (model X.prog X.w) X.A (pure (Value.ref d)) (EP X pins σ Q) X.xe s') hu (by show 1 ≤ 15; decide) ?_)))
  refine pairTrees_cons_walk (thn (hk.run pins _ σ _ _ I1 (q _ hn)) fun u s1 h1 => ?_)
  obtain ⟨x, H1, J1, rx, q1⟩ := h1
  refine thn (hv.run pins s1 σ H1 _ J1 q1) fun u2 s2 h2 => ?_
  obtain ⟨y, H2, J2, ry, e0, b, kk, rfl, eb, q2⟩ := h2
  obtain rfl : u = Value.ref b := rx
  refine pairTrees_nil_walk ?_
  obtain ⟨z, hd, xs, pr, dd⟩ := dt_of J2.hok e0
  cases pr
  have hib := key_of J2.hok eb
  refine ⟨[(kk, b, u2)], ⟨rfl, rfl, hib, trivial⟩, dd, fun h' tk' dk hs => wpAny_pure ?_⟩
  obtain ⟨o, es, ep, ho, hc, hdt, he, his, hnd⟩ := dk
  have en : b ≠ s.heap.objs.size := fun z => by rw [z, e0] at eb; cases eb
  have J3 : Inv X pins σ (upd H2 s.heap.objs.size (.dT [(kk, y)])) { s2 with heap := h', toks := tk' } :=
    d_write J2 (by rw [e0]; exact True.intro) hs ⟨o, ho⟩ ⟨by show 1 ≤ sizeLine; rw [sizeLine_eq]; omega, hd, [(kk, b, u2)], .cons ⟨rfl, by rw [upd_ne en]; exact eb, ry⟩ .nil, o, es, ep, ho, hc, hdt, he, hnd⟩
  exact ⟨.ref s.heap.objs.size, _, J3, rfl, q2⟩

/-! ### for k, v in d.items(), d locked -/
/-- the entries of a dict whose keys are tuples, with their values -/
theorem Inv.frzTv {X : Cx} {pins : List (Addr × Obj)} {σ : L2.St} {H : Hp} {s : Shared} {d : Addr} {o : Obj} {kvs : List (List Key × V)} (I : L2.Inv X pins σ H s) (h : H d = some (.frz o (.dT kvs))) :
    (d == sysModules) = false ∧ s.heap.get? d = some o ∧ o.ExactDict ∧ ∃ (es : Array DictEntry) (ep : Nat), o.data = .dict es ep ∧ es.size = kvs.length ∧
      ∀ (i : Nat) (k : List Key) (v : V), kvs[i]? = some (k, v) → ∃ (en : DictEntry) (q : Addr), es[i]? = some en ∧ en.key = .ref q ∧ H q = some (.tup (k.map kV)) ∧ RelV v en.val := by
  obtain ⟨hd, z, hs, xs, pr, o', es, ep, ho, hx, hdt, he, _⟩ := I.hok d _ h
  rw [hd] at ho
  obtain rfl := Option.some.inj ho
  refine ⟨hs, hd, hx, es, ep, hdt, ?_, fun i k v e => ?_⟩
  · have l1 : es.size = xs.length := size_of_entries he
    have l2 := Paired.length pr
    omega
  · obtain ⟨b, hb, e1, e2, e3⟩ := paired_get pr e
    have q := entry_at he i
    rw [hb] at q
    exact ⟨_, b.2.1, q, rfl, e2, e3⟩
/-- the pairs, each a new tuple of the key's own tuple and the value -/
def ItiT (d : Addr) (o : Obj) (kvs : List (List Key × V)) : It :=
  ⟨fun i H => H d = some (.frz o (.dT kvs)) ∧ i < kvs.length, fun i H x H' => ∃ (T q : Addr) (k : List Key) (v : V), kvs[i]? = some (k, v) ∧ x = .ref T ∧ H T = none ∧ H q = some (.tup (k.map kV)) ∧ H' = upd H T (.tup [.ref q, v]), fun i H => H d = some (.frz o (.dT kvs)) ∧ kvs.length ≤ i⟩
theorem turn_itemsT {P : Program} {w : World} {K : PySem.W.Frag} {d : Addr} {o : Obj} {kvs : List (List Key × V)} {es : Array DictEntry} {ep : Nat} {elts : List Expr} {kk : Nat} {tpos : Pos} (it : Addr) (hod : o.data = .dict es ep) :
    Turn P w K (.Tuple elts kk tpos) (ItiT d o kvs) [it] it (fun i h => ∃ ok ov, IsItemIter h it d i kvs.length ep ok ov) where
  mem := List.mem_singleton.mpr rfl
  obj := fun i h st b hb => by
    obtain rfl := List.mem_singleton.mp hb
    obtain ⟨ok, ov, e⟩ := st
    exact ⟨_, e, fun v z => nomatch z⟩
  keep := fun i h h' st k => let ⟨ok, ov, e⟩ := st; ⟨ok, ov, k it (List.mem_singleton.mpr rfl) _ e⟩
  item := by
    intro X hP hw hK hc i pins s σ H E I hf st hg
    subst hP hw hK
    obtain ⟨hd, hi⟩ := hg
    obtain ⟨hs, hgd, hx, es', ep', hdt, hsz, ent⟩ := Inv.frzTv I hd
    obtain ⟨rfl, rfl⟩ := dict_ep hod hdt
    obtain ⟨⟨k, v⟩, hkv⟩ : ∃ p, kvs[i]? = some p := ⟨kvs[i], List.getElem?_eq_getElem hi⟩
    obtain ⟨en, q, hen, hq, hkq, rv⟩ := ent i k v hkv
    obtain ⟨ok, ov, he⟩ := st
    rw [← hsz] at he hi
    have een : es'[i] = en := by
      rw [Array.getElem?_eq_getElem hi] at hen
      exact Option.some.inj hen
    have hlt : it < s.heap.objs.size := Heap.lt_size he
    refine wpAny_pyNext_items_item_raw he ⟨o, hgd, hx, hod⟩ hi fun h' ho hT hz hk => ?_
    rw [een] at ho hT
    refine ⟨_, rfl, wpAny_letOwnedTupleGo_items (s := { s with heap := h' }) ho fun h'' he' sb => ?_⟩
    have nT : s.heap.objs.size ≠ it := Nat.ne_of_gt hlt
    have hT2 := (sb.2 _ nT).trans hT
    have new : ObjOk X.prog X.w (upd H s.heap.objs.size (.tup [.ref q, v])) h'' s.heap.objs.size (.tup [.ref q, v]) :=
      ⟨by show 2 ≤ sizeLine; decide, [en.key, en.val], .cons hq (.cons rv .nil), ⟨_, hT2, rfl, _, rfl⟩⟩
    have hn := I.hok.fresh (Nat.le_refl s.heap.objs.size)
    have I1 : L2.Inv X pins σ (upd H s.heap.objs.size (.tup [.ref q, v])) { s with heap := h'' } :=
      I.turnedNew (t' := s.toks) (ch := [it]) (fun b ob hb e => (sb.2 b fun z => hb (List.mem_singleton.mpr z)).trans (hk b ob (fun z => hb (List.mem_singleton.mpr z)) e)) hf (Nat.le_refl _) new
    refine ⟨.ref s.heap.objs.size, _, I1, rfl, ⟨_, q, k, v, hkv, rfl, hn, hkq, rfl⟩, ⟨en.key, en.val, ?_⟩, fun b hb => ?_⟩
    · rw [← hsz]
      exact he'
    · obtain rfl := List.mem_singleton.mp hb
      rw [upd_ne (Ne.symm nT)]
      exact (hf b hb).1
  done := by
    intro X hP hw hK hc i pins s σ H E I hf st hg
    subst hP hw hK
    obtain ⟨hd, hi⟩ := hg
    obtain ⟨f0, f1, f2, f3, f4, f5⟩ := hf it (List.mem_singleton.mpr rfl)
    obtain ⟨hs, hgd, hx, es', ep', hdt, hsz, ent⟩ := Inv.frzTv I hd
    obtain ⟨rfl, rfl⟩ := dict_ep hod hdt
    obtain ⟨ok, ov, he⟩ := st
    rw [← hsz] at he hi
    exact wpAny_pyNext_items_end_raw (I.ok.hd hc) he ⟨o, hgd, hx, hod⟩ hi fun h' eb => ⟨rfl, I.turned (t' := s.toks) (fun b ob hb e => eb b ob hb e) f0 f1 f3 f4 f5⟩
  self := fun A i s Q E st h => let ⟨_, _, e⟩ := st; PySem.W.kcp_self e h
def iItemsT (td : TE) : TI := fun σ H R => td σ H fun x H1 => ∃ d o kvs, x = .ref d ∧ H1 d = some (.frz o (.dT kvs)) ∧ R (ItiT d o kvs) H1
theorem pi_itemsT {X : Cx} {e : Expr} {td : TE} {apos cpos : Pos} {elts : List Expr} {kk : Nat} {tpos : Pos} (he : PE X e td) (hbase : attributeBase e "items" X.env (eval e X.env) = eval e X.env := by rfl) (hline : (apos.endLine == cpos.line) = true := by rfl) :
    PI X (.Tuple elts kk tpos) (.Call (.Attribute e "items" apos) [] [] cpos) (iItemsT td) := by
  constructor
  intro pins s σ H R I h
  refine wpAny_Call_method (T := "dict") (id := "dict.items") hbase rfl hline F.plainAttrs_dict F.slot_dict_items F.type_dict_items (thn (he.run pins s σ H _ I h) fun u s1 hh => ?_)
  obtain ⟨x, H1, I1, rx, d, o, kvs, rfl, hd, q⟩ := hh
  obtain rfl : u = Value.ref d := rx
  obtain ⟨hs, hgd, hx, es, ep, hdt, hsz, ent⟩ := Inv.frzTv I1 hd
  have raw : s1.heap.DictRaw d es ep := ⟨o, hgd, hx, hdt⟩
  refine ⟨raw.typeIs, fun b e => ?_, ?_⟩
  · cases e
    exact ⟨o, hgd, hx.2.1⟩
  let s2 : Shared := { s1 with heap := s1.heap.push { cls := .type "dict_items", data := .fields #[.ref d] } }
  have I2 : L2.Inv X pins σ H1 s2 := I1.kept (t' := s1.toks) fun b ob q => Heap.get?_push_of_some _ q
  have fin : wpAny (model X.prog X.w) X.A (pyIter (.ref s1.heap.objs.size)) (PIE X pins σ (.Tuple elts kk tpos) R) X.xe s2 := by
    refine wpAny_pyIter_items_raw (s := s2) (es := es) (ep := ep) ⟨_, Heap.get?_push_size _ rfl, rfl, rfl⟩ (raw.at fun o e => Heap.get?_push_of_some _ e) (pi_one (tk := s1.toks) I2 _ (turn_itemsT _ hdt) ⟨.none, .none, ?_⟩ q)
    rw [← hsz]
    exact Heap.get?_push_size _ rfl
  show wpAny _ _ (callWith cpos (.builtin "dict.items") [.ref d] [] []) _ X.xe s1
  exact method_meetsIn F.slot_dict_items F.entry_dict_items rfl (PySem.evalArgs_none ⟨rfl, raw.typeIs, F.args_dict_items_1 _, _, meets_dict_items_raw d hs, ⟨es, ep, raw⟩, fin⟩)

/-! ### sorted(d.items()), the keys pairs of ints -/
def pairOf : List Key → Int × Int
  | [.inl a, .inl b] => (a, b)
  | _ => (0, 0)
abbrev pairK (p : Int × Int) : List Key := [.inl p.1, .inl p.2]
def keyAt (as : List Addr) (kvs : List ((Int × Int) × V)) (v : Value) : Int × Int := match v with
  | .ref a => match (as.zip kvs).find? (fun z => decide (z.1 = a)) with
    | some z => z.2.1
    | none => (0, 0)
  | _ => (0, 0)
theorem zip_find {β : Type} : ∀ (as : List Addr) (ks : List β) (j : Nat) (a : Addr) (k : β), as.Nodup → as[j]? = some a → ks[j]? = some k → (as.zip ks).find? (fun z => decide (z.1 = a)) = some (a, k)
  | [], _, _, _, _, _, h, _ => by simp at h
  | _ :: _, [], _, _, _, _, _, h => by simp at h
  | b :: as, q :: ks, 0, a, k, nd, h1, h2 => by
    obtain rfl := Option.some.inj h1
    obtain rfl := Option.some.inj h2
    simp
  | b :: as, q :: ks, j + 1, a, k, nd, h1, h2 => by
    have h1' : as[j]? = some a := h1
    have h2' : ks[j]? = some k := h2
    obtain ⟨nb, nd'⟩ := List.nodup_cons.mp nd
    have ne : b ≠ a := fun z => nb (by rw [z]; exact List.mem_of_getElem? h1')
    rw [List.zip_cons_cons, List.find?_cons_of_neg (by simpa using ne)]
    exact zip_find as ks j a k nd' h1' h2'
theorem keyAt_eq {as : List Addr} {kvs : List ((Int × Int) × V)} {j : Nat} {a : Addr} {kv : (Int × Int) × V} (nd : as.Nodup) (h1 : as[j]? = some a) (h2 : kvs[j]? = some kv) : keyAt as kvs (.ref a) = kv.1 := by
  unfold keyAt
  simp only [zip_find as kvs j a kv nd h1 h2]
/-- v is a pair of a pair of ints, k, and something -/
def ItemAt (P : Program) (w : World) (h : Heap) (v : Value) (k : Int × Int) : Prop := ∃ (a kq : Addr) (u : Value) (o : Obj) (n : Nat) (t1 t2 : Tok), v = .ref a ∧ h.get? a = some o ∧ o.cls = .type "tuple" ∧ o.data = .seq #[.ref kq, u] n ∧
  (tupleKind (mixKind P w)).is h (pairK k) kq ∧ IsTup h kq #[.int k.1 t1, .int k.2 t2]
section
variable {P : Program} {w : World} {A : Around} {s : Shared}
theorem keyed_cmp {vs : List Value} {ky : Value → Int × Int} (hu : A.units + 1 < cLine) (hp : ∀ v ∈ vs, ItemAt P w s.heap v (ky v)) (inj : ∀ v ∈ vs, ∀ u ∈ vs, ky v = ky u → v = u) :
    SrtO.Cmp P w A s (tuples' false) (fun p => p.1 ∈ vs) (SrtO.lt2 fun v u => SrtO.lexB (ky v) (ky u)) := by
  intro p q hm hm'
  obtain ⟨a, kq, u, o, n, t1, t2, e, ho, hc, hd, hk, ht⟩ := hp _ hm
  obtain ⟨a', kq', u', o', n', t1', t2', e', ho', hc', hd', hk', ht'⟩ := hp _ hm'
  show wpAny (model P w) A (keyLt' (tuples' false) p.1 q.1) (fun r s' => s' = s ∧ r = SrtO.lexB (ky p.1) (ky q.1)) (fun _ _ => False) s
  have hin := inj _ hm _ hm'
  generalize hx : ky p.1 = x at hk ht hin ⊢
  generalize hy : ky q.1 = y at hk' ht' hin ⊢
  rw [e, e'] at hin ⊢
  refine PySem.W.kat_lt ho hd ho' hd' ?_
  show PySem.W.KatLex P w A false (decide (2 < 2)) _ [(.ref kq, .ref kq'), (u, u')] 0 s
  refine PySem.W.kat_cons ((tupleKind (mixKind P w)).eqBool (x := pairK x) (y := pairK y) (by show A.units < cLine; omega) hk hk' ?_)
  by_cases c : x = y
  · have ev := hin c
    obtain rfl : a = a' := Value.ref.inj ev
    rw [ho] at ho'
    obtain rfl := Option.some.inj ho'
    rw [hd] at hd'
    have e3 : (#[Value.ref kq, u] : Array Value) = #[.ref kq', u'] := by injection hd'
    have e4 : u = u' := by simpa using (Array.mk.inj e3 |> List.cons.inj |>.2 |> List.cons.inj |>.1)
    subst e4
    rw [show decide (pairK x = pairK y) = true from decide_eq_true (by rw [c])]
    refine PySem.W.kat_yes (PySem.W.kat_cons (SeqAt.EqAt.same u _ _ _ _ (PySem.W.kat_yes (PySem.W.kat_nil ⟨rfl, ?_⟩))))
    rw [c]
    exact ((SrtO.swo_lex (fun _ => y)).refl (Value.none)).symm
  · have ne : ¬ pairK x = pairK y := fun z => c (by
      simp only [List.cons.injEq, Sum.inl.injEq, and_true] at z
      exact Prod.ext z.1 z.2)
    rw [show decide (pairK x = pairK y) = false from decide_eq_false ne]
    refine PySem.W.kat_no (PySem.W.kat_one _ _ (HT.lt_tupInts ht ht' (.cons _ _ (.cons _ _ .nil)) (.cons _ _ (.cons _ _ .nil)) (by omega) ?_))
    refine (show s = s ∧ HT.lexLt [x.1, x.2] [y.1, y.2] = SrtO.lexB x y from ⟨rfl, ?_⟩)
    show (if x.1 = y.1 then (if x.2 = y.2 then false else decide (x.2 < y.2)) else decide (x.1 < y.1)) = (if x.1 = y.1 then decide (x.2 < y.2) else decide (x.1 < y.1))
    by_cases c1 : x.1 = y.1
    · rw [if_pos c1, if_pos c1]
      by_cases c2 : x.2 = y.2
      · exact absurd (Prod.ext c1 c2) c
      · rw [if_neg c2]
    · rw [if_neg c1, if_neg c1]
theorem items_firsts {h : Heap} : ∀ {vs : List Value}, (∀ v ∈ vs, ∃ k, ItemAt P w h v k) → ∃ fs : List Value, PySem.W.KatTups h vs fs ∧ fs.length = vs.length ∧ ∀ f ∈ fs, ∃ kq o, f = .ref kq ∧ h.get? kq = some o ∧ o.cls = .type "tuple"
  | [], _ => ⟨[], trivial, rfl, fun _ z => nomatch z⟩
  | v :: vs, hv => by
    obtain ⟨fs, f1, f2, f3⟩ := items_firsts (vs := vs) fun u hu => hv u (List.mem_cons_of_mem _ hu)
    obtain ⟨k, a, kq, u, o, n, t1, t2, rfl, ho, hc, hd, hk, ok, hok, hck, _⟩ := hv v (List.mem_cons_self ..)
    refine ⟨.ref kq :: fs, .cons ho hc hd rfl f1, congrArg Nat.succ f2, fun f hf => ?_⟩
    rcases List.mem_cons.mp hf with rfl | hf
    · exact ⟨kq, ok, rfl, hok, hck⟩
    · exact f3 f hf
theorem ItemAt.keeps {h h' : Heap} {v : Value} {k : Int × Int} (x : ItemAt P w h v k) (kk : ∀ b o, o.cls = .type "tuple" → h.get? b = some o → h'.get? b = some o) : ItemAt P w h' v k := by
  obtain ⟨a, kq, u, o, n, t1, t2, e, ho, hc, hd, ⟨o2, i2, n2, g1, g2, g3⟩, ok, hok, hck, r⟩ := x
  exact ⟨a, kq, u, o, n, t1, t2, e, kk _ _ hc ho, hc, hd, ⟨o2, i2, n2, kk _ _ g2 g1, g2, g3⟩, ok, kk _ _ hck hok, hck, r⟩
theorem keyed_sortable {a : Addr} {vs : List Value} {ky : Value → Int × Int} (hu : A.units + 1 < cLine) (h0 : 0 < vs.length) (hp : ∀ v ∈ vs, ItemAt P w s.heap v (ky v)) (inj : ∀ v ∈ vs, ∀ u ∈ vs, ky v = ky u → v = u) (ha : ∀ o, s.heap.get? a = some o → o.cls ≠ .type "tuple") :
    SrtO.SortableO P w A s a vs fun v u => SrtO.lexB (ky v) (ky u) := by
  intro h' keep
  have hp' : ∀ v ∈ vs, ItemAt P w h' v (ky v) := fun v hm => (hp v hm).keeps fun b o c e => keep b o (fun z => by subst z; exact ha o e c) e
  obtain ⟨fs, h1, h2, h3⟩ := items_firsts fun v hm => ⟨_, hp' v hm⟩
  refine ⟨tuples' false, fun Q E hq => ?_, keyed_cmp hu hp' inj⟩
  refine PySem.W.kat_kind (T := .type "tuple") h1 (by omega) (fun f hm => ?_) (by rfl) ?_
  · obtain ⟨kq, o, rfl, ho, hc⟩ := h3 f hm
    exact fun A' Q' E' s' kk q' => wpAny_typeOf_ref (kk _ _ ho) (by rw [hc]; exact q')
  · have e : (Value.type "tuple" != Value.type "tuple") = false := by first | decide +kernel | rfl | decide
    rw [e]
    exact hq
end

/-- sorted(d.items()) of a dict whose keys are pairs of ints: the pairs in some order -/
def rSortItT : List V → Hp → VK → Prop := fun vs H Q => ∃ (p a : Addr) (kvs : List ((Int × Int) × V)), vs = [.ref p] ∧ H p = some (L2.DX.itemsO p a) ∧ H a = some (.dT (kvs.map fun e => (pairK e.1, e.2))) ∧
  ∀ (H' : Hp) (l : Addr) (ps : List (Addr × ((Int × Int) × V))), (∀ b o, H b = some o → H' b = some o) → H l = none → (ps.map (·.2)).Perm kvs → H' l = some (.lst (ps.map fun z => V.ref z.1)) →
    (∀ z ∈ ps, ∃ q, H' z.1 = some (.tup [.ref q, z.2.2]) ∧ H' q = some (.tup [.int z.2.1.1, .int z.2.1.2])) → Q (.ref l) H'
theorem pairKV (p : Int × Int) : (pairK p).map kV = [V.int p.1, V.int p.2] := rfl
theorem cr_sortedItT {X : Cx} (hc : X.calm = true) (hu : X.A.units + 64 < cLine) : CallR X (.builtin "sorted") rSortItT := by
  intro pins s σ H xs us Q I r h
  obtain ⟨p, a, kvs, rfl, hp, ha, q⟩ := h
  obtain ⟨uu, rfl, ru⟩ := vals1 r
  cases ru
  have view : s.heap.IsItemsView p a := (show ObjOk X.prog X.w H s.heap p (L2.DX.itemsO p a) from I.hok p _ hp).1
  obtain ⟨z, hd, xs', rel, o, es, ep, ho, hx, hdat, hes, his, hn⟩ := dt_of I.hok ha
  have l1 := Paired.length rel
  rw [List.length_map] at l1
  have l2 : es.size = xs'.length := size_of_entries hes
  have hh : X.A.handled = none := I.ok.hd hc
  have hz : kvs.length ≤ sizeLine := by
    rw [List.length_map] at z
    exact z
  -- the keys differ
  have keys : (kvs.map (·.1)).Nodup := by
    have e : xs'.map (·.1) = kvs.map fun e => pairK e.1 := by
      have e2 : ∀ (l : List (List Key × V)) (m : List (List Key × Addr × Value)), Paired (fun (p : List Key × V) (q : List Key × Addr × Value) => p.1 = q.1 ∧ H q.2.1 = some (.tup (p.1.map kV)) ∧ RelV p.2 q.2.2) l m → m.map (·.1) = l.map (·.1) := by
        intro l m pr
        induction pr with
        | nil => rfl
        | cons h _ ih => rw [List.map_cons, List.map_cons, ih, h.1]
      rw [e2 _ _ rel, List.map_map]
      rfl
    rw [e] at hn
    rw [show (kvs.map fun e => pairK e.1) = (kvs.map (·.1)).map pairK by rw [List.map_map]; rfl] at hn
    exact (List.pairwise_map.mp hn).imp fun h e => h (by rw [e])
  refine DT.sortedI (es := es) (ep := ep) hh view ⟨o, ho, hx, hdat⟩ (by omega) fun h' tk as hk hlt hl hG => ?_
  have lak : as.length = kvs.length := by omega
  have nd : as.Nodup := List.Pairwise.imp (fun h => Nat.ne_of_lt h) hG.rise
  have pr : ∀ (j : Nat) (b : Addr), as[j]? = some b → ∃ (e : (Int × Int) × V) (kq : Addr) (u : Value), kvs[j]? = some e ∧ H kq = some (.tup ((pairK e.1).map kV)) ∧ RelV e.2 u ∧ h'.get? b = some { cls := .type "tuple", data := .seq #[Value.ref kq, u] } := by
    intro j b hj
    obtain ⟨en, he, hg⟩ := hG.pairs j b hj
    rw [entry_at hes j] at he
    cases hxj : xs'[j]? with
    | none =>
      rw [hxj] at he
      exact nomatch (show (none : Option DictEntry) = some en from he)
    | some x =>
      rw [hxj] at he
      have een : entryOfKey (tupleKind (mixKind X.prog X.w)) x = en := Option.some.inj he
      have hlt2 : j < kvs.length := by
        have := (List.getElem?_eq_some_iff.mp hxj).1
        omega
      obtain ⟨e, hkj⟩ : ∃ e, kvs[j]? = some e := ⟨kvs[j], List.getElem?_eq_getElem hlt2⟩
      have hmj : (kvs.map fun e => (pairK e.1, e.2))[j]? = some (pairK e.1, e.2) := by rw [List.getElem?_map, hkj]; rfl
      obtain ⟨x2, hx2, r1, r2, r3⟩ := paired_get rel hmj
      rw [hxj] at hx2
      obtain rfl := Option.some.inj hx2
      exact ⟨e, x.2.1, x.2.2, hkj, r2, r3, by rw [hg, ← een]; rfl⟩
  have hob : (h'.push { cls := .type "list", data := .seq (as.map Value.ref).toArray }).get? h'.objs.size = some (seqObj "list" (as.map Value.ref).toArray 0) := Heap.get?_push_size _ rfl
  have kb : ∀ b o, s.heap.get? b = some o → (h'.push { cls := .type "list", data := .seq (as.map Value.ref).toArray }).get? b = some o := fun b o e => Heap.get?_push_of_some _ (hk b o e)
  have ne0 : ∀ b o, h'.get? b = some o → b ≠ h'.objs.size := fun b o e => Nat.ne_of_lt (Heap.lt_size e)
  generalize hh2 : h'.push { cls := .type "list", data := .seq (as.map Value.ref).toArray } = h2 at hob kb ⊢
  have ka : ∀ b o, h'.get? b = some o → h2.get? b = some o := fun b o e => by rw [← hh2]; exact Heap.get?_push_of_some _ e
  let ky := keyAt as kvs
  have at_ : ∀ v ∈ as.map Value.ref, ∃ (j : Nat) (b : Addr) (e : (Int × Int) × V), v = .ref b ∧ as[j]? = some b ∧ kvs[j]? = some e ∧ ky v = e.1 := by
    intro v hv'
    obtain ⟨b, hb, rfl⟩ := List.mem_map.mp hv'
    obtain ⟨j, hj⟩ := List.mem_iff_getElem?.mp hb
    obtain ⟨e, _, _, he, _⟩ := pr j b hj
    exact ⟨j, b, e, rfl, hj, he, keyAt_eq nd hj he⟩
  have item : ∀ v ∈ as.map Value.ref, ItemAt X.prog X.w h2 v (ky v) := by
    intro v hv'
    obtain ⟨j, b, e, rfl, hj, he, ek⟩ := at_ v hv'
    obtain ⟨e', kq, u, he', hkq, _, hg⟩ := pr j b hj
    rw [he] at he'
    obtain rfl := Option.some.inj he'
    rw [ek]
    obtain ⟨_, its, rv, ok, hok, hck, nk, hdk⟩ := (show ObjOk X.prog X.w H s.heap kq (.tup ((pairK e.1).map kV)) from I.hok kq _ hkq)
    obtain ⟨o2, i2, n2, g1, g2, g3, g4⟩ := (show IsTupleKey (mixKind X.prog X.w) s.heap (pairK e.1) kq from key_of I.hok hkq)
    obtain ⟨t1, t2, rfl⟩ : ∃ t1 t2, its = [Value.int e.1.1 t1, Value.int e.1.2 t2] := by
      cases rv with
      | cons r1 r2 =>
        cases r2 with
        | cons r3 r4 =>
          cases r4
          obtain ⟨t1, rfl⟩ := r1
          obtain ⟨t2, rfl⟩ := r3
          exact ⟨t1, t2, rfl⟩
    exact ⟨b, kq, u, _, _, t1, t2, rfl, ka _ _ hg, rfl, rfl, ⟨o2, i2, n2, kb _ _ g1, g2, g3, g4⟩, ok, kb _ _ hok, hck, nk, hdk⟩
  have inj : ∀ v ∈ as.map Value.ref, ∀ u ∈ as.map Value.ref, ky v = ky u → v = u := by
    intro v hv' u hu' e
    obtain ⟨j, b, e1, rfl, hj, he1, k1⟩ := at_ v hv'
    obtain ⟨j2, b2, e2, rfl, hj2, he2, k2⟩ := at_ u hu'
    rw [k1, k2] at e
    have m1 : (kvs.map (·.1))[j]? = some e1.1 := by rw [List.getElem?_map, he1]; rfl
    have m2 : (kvs.map (·.1))[j2]? = some e1.1 := by rw [List.getElem?_map, he2, e]; rfl
    have ej : j = j2 := (List.getElem?_inj (List.getElem?_eq_some_iff.mp m1).1 keys).mp (m1.trans m2.symm)
    rw [ej, hj2] at hj
    rw [Option.some.inj hj]
  have nl : (as.map Value.ref).length ≤ sizeLine := by
    rw [List.length_map]
    omega
  refine wpAny_call_entry PyProof.Rows.slot_list_sort ⟨_, hob, rfl⟩ PyProof.Rows.entry_list_sort (SrtO.list_sort_ord (SrtO.swo_lex ky) hob nl (fun h2' => ?_) fun out hs hb => ⟨.none, rfl, ?_⟩) (PyProof.Rows.args_list_sort _)
  · refine keyed_sortable (by show X.A.units + 1 + 1 + 1 < cLine; omega) (by omega) item inj fun o e => ?_
    have e' : some o = some (seqObj "list" (as.map Value.ref).toArray 0) := e.symm.trans hob
    obtain rfl := Option.some.inj e'
    intro c
    exact absurd (Value.type.inj c) (by decide)
  · show EP X pins σ Q (.ref h'.objs.size) { s with heap := sortedHeap h2 h'.objs.size (as.map Value.ref) out.toArray, toks := tk }
    obtain ⟨zs, pz, ez⟩ := perm_lift (fun z : Addr × ((Int × Int) × V) => Value.ref z.1) hb.perm (as.zip kvs) (by
      rw [show (fun z : Addr × ((Int × Int) × V) => Value.ref z.1) = Value.ref ∘ Prod.fst from rfl, ← List.map_map, List.map_fst_zip (by omega)])
    have idx : ∀ z ∈ zs, ∃ j : Nat, as[j]? = some z.1 ∧ kvs[j]? = some z.2 := by
      intro z' hz'
      obtain ⟨j, hj⟩ := List.mem_iff_getElem?.mp (pz.mem_iff.mp hz')
      exact ⟨j, List.getElem?_zip_eq_some.mp hj⟩
    have hperm : (zs.map (·.2)).Perm kvs := by
      have e := pz.map (·.2)
      rw [List.map_snd_zip (by omega)] at e
      exact e
    have kF : ∀ b o, b ≠ h'.objs.size → h2.get? b = some o → (sortedHeap h2 h'.objs.size (as.map Value.ref) out.toArray).get? b = some o := fun b o hb e => (PyProof.Rows.sortedHeap_old hb (Heap.lt_size e)).trans e
    have kS : ∀ b o, s.heap.get? b = some o → (sortedHeap h2 h'.objs.size (as.map Value.ref) out.toArray).get? b = some o := fun b o e => kF b o (ne0 _ _ (hk b o e)) (kb b o e)
    obtain ⟨eF, heF⟩ := PyProof.Rows.sortedHeap_at (vs := as.map Value.ref) (out := out.toArray) hob
    have I1 : L2.Inv X pins σ H { s with heap := sortedHeap h2 h'.objs.size (as.map Value.ref) out.toArray, toks := tk } := I.kept (t' := tk) kS
    have hn0 : H h'.objs.size = none := I.hok.fresh (Nat.le_of_lt hlt)
    have hlen : (zs.map fun z => V.ref z.1).length ≤ sizeLine := by
      have e := hperm.length_eq
      rw [List.length_map] at e
      rw [List.length_map]
      omega
    have rv : Vals (zs.map fun z => V.ref z.1) out := by
      rw [← ez]
      exact vals_maps (fun z : Addr × ((Int × Int) × V) => V.ref z.1) (fun z => Value.ref z.1) zs fun _ _ => rfl
    have I2 : L2.Inv X pins σ (upd H h'.objs.size (.lst (zs.map fun z => V.ref z.1))) { s with heap := sortedHeap h2 h'.objs.size (as.map Value.ref) out.toArray, toks := tk } :=
      I1.take (h' := sortedHeap h2 h'.objs.size (as.map Value.ref) out.toArray) (t' := tk) (fun b ob _ e => e) (I.fpOk (Nat.le_of_lt hlt) hn0) ⟨hlen, out, eF, rv, heF⟩
    obtain ⟨H2, I3, g, qt⟩ := L2.DX.takeT (P := fun b vs => ∃ (j : Nat) (e : (Int × Int) × V) (kq : Addr), as[j]? = some b ∧ kvs[j]? = some e ∧ vs = [.ref kq, e.2] ∧ H kq = some (.tup ((pairK e.1).map kV))) I as _ I2 nd fun b hb => by
      obtain ⟨j, hj⟩ := List.mem_iff_getElem?.mp hb
      obtain ⟨e, kq, u, he, hkq, ru, hg⟩ := pr j b hj
      have hbl : s.heap.objs.size ≤ b := Nat.le_of_lt (hG.above b hb)
      refine ⟨hbl, ?_, [.ref kq, e.2], ⟨j, e, kq, hj, he, rfl, hkq⟩, fun H3 => ⟨by show 2 ≤ sizeLine; rw [sizeLine_eq]; omega, [Value.ref kq, u], .cons rfl (.cons ru .nil), ⟨_, kF _ _ (ne0 _ _ hg) (ka _ _ hg), rfl, 0, rfl⟩⟩⟩
      rw [upd_ne (ne0 _ _ hg)]
      exact I.hok.fresh hbl
    have gr : ∀ b o, H b = some o → H2 b = some o := fun b o e => g b o (by rw [upd_ne (ne_of_none e hn0)]; exact e)
    refine ⟨.ref h'.objs.size, H2, I3, rfl, q H2 h'.objs.size zs gr hn0 hperm (g _ _ upd_same) fun z' hz' => ?_⟩
    obtain ⟨i, i1, i2⟩ := idx z' hz'
    obtain ⟨vs, ⟨j, e, kq, j1, j2, ev, hkq⟩, hH⟩ := qt z'.1 (List.mem_of_getElem? i1)
    have eij : i = j := (List.getElem?_inj (List.getElem?_eq_some_iff.mp i1).1 nd).mp (i1.trans j1.symm)
    subst eij
    have ee : e = z'.2 := Option.some.inj (j2.symm.trans i2)
    rw [ev, ee] at hH
    rw [ee] at hkq
    exact ⟨kq, hH, gr _ _ hkq⟩

/-! ### min(d.values()), the values pairs of an int and a pair of ints -/
/-- v is a pair of an int and a pair of ints -/
def TripAt (h : Heap) (v : Value) (k : Int × (Int × Int)) : Prop := ∃ (t p : Addr) (t0 t1 t2 : Tok), v = .ref t ∧ h.IsTuple t #[.int k.1 t0, .ref p] ∧ h.IsTuple p #[.int k.2.1 t1, .int k.2.2 t2]
theorem TripAt.keeps {h h' : Heap} {v : Value} {k : Int × (Int × Int)} (x : TripAt h v k) (kk : ∀ b o, h.get? b = some o → h'.get? b = some o) : TripAt h' v k := by
  obtain ⟨t, p, t0, t1, t2, e, h1, h2⟩ := x
  exact ⟨t, p, t0, t1, t2, e, h1.at fun o q => kk _ _ q, h2.at fun o q => kk _ _ q⟩
def ltTrip (x y : Int × (Int × Int)) : Bool := if x.1 = y.1 then (if x.2 = y.2 then false else HT.lexLt [x.2.1, x.2.2] [y.2.1, y.2.2]) else decide (x.1 < y.1)
theorem ltTrip_yes {x y : Int × (Int × Int)} (h : ltTrip x y = true) : x.1 ≤ y.1 := by
  unfold ltTrip at h
  split at h
  · omega
  · have := of_decide_eq_true h
    omega
theorem ltTrip_no {x y : Int × (Int × Int)} (h : ltTrip x y = false) : y.1 ≤ x.1 := by
  unfold ltTrip at h
  split at h
  · omega
  · have := of_decide_eq_false h
    omega
theorem best_le {f : Nat → Int} {bt : Nat → Nat → Bool} (h1 : ∀ i j, bt i j = true → f i ≤ f j) (h2 : ∀ i j, bt i j = false → f j ≤ f i) : ∀ k, argBest bt k ≤ k ∧ ∀ j, j ≤ k → f (argBest bt k) ≤ f j
  | 0 => ⟨Nat.le_refl _, fun j hj => by
    obtain rfl : j = 0 := by omega
    exact Int.le_refl _⟩
  | k + 1 => by
    obtain ⟨l, ih⟩ := best_le h1 h2 k
    show (if bt (k + 1) (argBest bt k) then k + 1 else argBest bt k) ≤ k + 1 ∧ ∀ j, j ≤ k + 1 → f (if bt (k + 1) (argBest bt k) then k + 1 else argBest bt k) ≤ f j
    cases c : bt (k + 1) (argBest bt k) with
    | true =>
      rw [if_pos rfl]
      refine ⟨Nat.le_refl _, fun j hj => ?_⟩
      have q := h1 _ _ c
      by_cases z : j = k + 1
      · rw [z]
        exact Int.le_refl _
      · exact Int.le_trans q (ih j (by omega))
    | false =>
      rw [if_neg (by decide)]
      refine ⟨by omega, fun j hj => ?_⟩
      by_cases z : j = k + 1
      · rw [z]
        exact h2 _ _ c
      · exact ih j (by omega)
theorem eq_pairs {A : Around} {s : Shared} {p p' : Addr} {x y : Int × Int} {t1 t2 t1' t2' : Tok} (hu : A.units < cLine) (h1 : s.heap.IsTuple p #[.int x.1 t1, .int x.2 t2]) (h2 : s.heap.IsTuple p' #[.int y.1 t1', .int y.2 t2']) :
    SeqAt.EqAt A s (.ref p) (.ref p') (decide (x = y)) := by
  intro prog w E Q q
  have is : ∀ {z : Int × Int} {c : Addr} {u1 u2 : Tok}, s.heap.IsTuple c #[.int z.1 u1, .int z.2 u2] → (tupleKind (mixKind prog w)).is s.heap (pairK z) c := by
    intro z c u1 u2 hc
    obtain ⟨o, ho, hcl, n, hd⟩ := hc
    exact ⟨o, _, n, ho, hcl, hd, items_are (ks := [Sum.inl z.1, Sum.inl z.2]) (.cons ⟨u1, rfl⟩ (.cons ⟨u2, rfl⟩ .nil))⟩
  refine (tupleKind (mixKind prog w)).eqBool (x := pairK x) (y := pairK y) hu (is h1) (is h2) ?_
  have e : decide (pairK x = pairK y) = decide (x = y) := by
    by_cases c : x = y
    · rw [c, decide_eq_true rfl, decide_eq_true rfl]
    · rw [decide_eq_false c, decide_eq_false fun z => c (by
        simp only [List.cons.injEq, Sum.inl.injEq, and_true] at z
        exact Prod.ext z.1 z.2)]
  rw [e]
  exact q
theorem rcLt_trip {A : Around} {s : Shared} {v u : Value} {x y : Int × (Int × Int)} (hu : A.units + 4 < cLine) (h1 : TripAt s.heap v x) (h2 : TripAt s.heap u y) : SeqAt.RcLt A s v u (ltTrip x y) := by
  obtain ⟨t, p, t0, t1, t2, rfl, a1, a2⟩ := h1
  obtain ⟨t', p', t0', t1', t2', rfl, b1, b2⟩ := h2
  have R := SeqAt.RcLt.tuples (A := A) (e := fun j => if j = 0 then decide (x.1 = y.1) else decide (x.2 = y.2)) (r := fun j => if j = 0 then decide (x.1 < y.1) else HT.lexLt [x.2.1, x.2.2] [y.2.1, y.2.2]) a1 b1 (by omega)
    (fun j h1 h2 => by
      match j, h1, h2 with
      | 0, _, _ => exact fun prog w E Q q => SeqAt.EqAt.int_int x.1 t0 y.1 t0' prog w _ _ (by rw [Bool.beq_eq_decide_eq]; exact q)
      | 1, _, _ => exact eq_pairs (by show A.units + 1 < cLine; omega) a2 b2)
    (fun j h1 h2 hne => by
      match j, h1, h2 with
      | 0, _, _ => exact fun prog w E Q q => PyProof.Rows.lt_int q
      | 1, _, _ => exact fun prog w E Q q => HT.lt_tupInts a2 b2 (.cons _ _ (.cons _ _ .nil)) (.cons _ _ (.cons _ _ .nil)) (by show A.units + 1 < cLine; omega) q)
  have e : SeqAt.firstLt (fun j => if j = 0 then decide (x.1 = y.1) else decide (x.2 = y.2)) (fun j => if j = 0 then decide (x.1 < y.1) else HT.lexLt [x.2.1, x.2.2] [y.2.1, y.2.2]) (decide (2 < 2)) (List.range (min 2 2)) = ltTrip x y := by
    show SeqAt.firstLt _ _ false [0, 1] = _
    unfold SeqAt.firstLt SeqAt.firstLt SeqAt.firstLt ltTrip
    by_cases c1 : x.1 = y.1
    · by_cases c2 : x.2 = y.2 <;> simp [c1, c2]
    · simp [c1]
  rw [← e]
  exact R
def tMinValsT (td : TE) : TE := fun σ H Q => td σ H fun x H1 => ∃ (a : Addr) (kvs : List (Key × V)) (ws : List (Addr × Addr × (Int × (Int × Int)))), x = V.ref a ∧ H1 a = some (.dK kvs) ∧ kvs.map (·.2) = ws.map (fun z => V.ref z.1) ∧ ws ≠ [] ∧
  (∀ z ∈ ws, H1 z.1 = some (.tup [.int z.2.2.1, .ref z.2.1]) ∧ H1 z.2.1 = some (.tup [.int z.2.2.2.1, .int z.2.2.2.2])) ∧ ∀ z, z ∈ ws → (∀ y ∈ ws, z.2.2.1 ≤ y.2.2.1) → Q (.ref z.1) H1
theorem trip_at {P : Program} {w : World} {H : Hp} {h : Heap} {t p : Addr} {k : Int × (Int × Int)} (ok : HOk P w H h) (h1 : H t = some (.tup [.int k.1, .ref p])) (h2 : H p = some (.tup [.int k.2.1, .int k.2.2])) : TripAt h (.ref t) k := by
  obtain ⟨_, its, r, it⟩ := (show ObjOk P w H h t (.tup [.int k.1, .ref p]) from ok t _ h1)
  obtain ⟨_, its2, r2, it2⟩ := (show ObjOk P w H h p (.tup [.int k.2.1, .int k.2.2]) from ok p _ h2)
  obtain ⟨u1, u2, rfl, ⟨t0, rfl⟩, q⟩ := vals2 r
  obtain rfl : u2 = Value.ref p := q
  obtain ⟨w1, w2, rfl, ⟨t1, rfl⟩, ⟨t2, rfl⟩⟩ := vals2 r2
  exact ⟨t, p, t0, t1, t2, rfl, it, it2⟩
theorem pe_minValsT {X : Cx} {o : Expr} {p pos apos mpos : Pos} {td : TE} (hc : X.calm = true) (hu : X.A.units + 64 < cLine) (hg : Gl X "min") (hm : X.mg "min" = none) (hd : PE X o td) (hbase : attributeBase o "values" X.env (eval o X.env) = eval o X.env := by rfl)
    (hline : (apos.endLine == mpos.line) = true := by rfl) (hse : starEach [Expr.Call (.Attribute o "values" apos) [] [] mpos] X.env = [(false, eval (Expr.Call (.Attribute o "values" apos) [] [] mpos) X.env)] := by rfl) :
    PE X (.Call (.Name "min" p) [.Call (.Attribute o "values" apos) [] [] mpos] [] pos) (tMinValsT td) := by
  constructor
  intro pins s σ H Q I h
  refine wpAny_Call_Name_kw (ld_blt I hg hm (u := .builtin "min") (by first | rfl | decide +kernel) ?_ (by first | decide +kernel | decide) (by first | decide +kernel | decide))
  rw [hse]
  refine PySem.callWith_builtin1 (wpAny_Call_method0_late hbase hline (thn (hd.run pins s σ H _ I h) fun v s1 hh => ?_))
  obtain ⟨x, H1, I1, r1, a, kvs, ws, rfl, ha, hv, hne, hw, q⟩ := hh
  obtain rfl : v = Value.ref a := r1
  obtain ⟨_, hsys, vs, rel, dof⟩ := dk_of I1.hok ha
  obtain ⟨ep, dat⟩ := dof.dictAt
  obtain ⟨ob, es, ho, ex, hdat, hko, hpr, hnd⟩ := id dat
  refine ⟨"dict", "dict.values", F.plainAttrs_dict, F.slot_dict_values, F.type_dict_values, ⟨ob, ho, ex.1⟩, fun b e => ?_, Calls.callWith_builtin rfl (PySem.evalArgs_none ?_)⟩
  · cases e
    exact ⟨ob, ho, ex.2.1⟩
  refine call_meetsIn F.slot_dict_values ⟨ob, ho, ex.1⟩ F.entry_dict_values (F.args_dict_values_1 _) (meets_dict_values (mixKind X.prog X.w) a hsys) ⟨⟨vs, dof⟩, ?_⟩
  generalize hh1 : s1.heap.push { cls := .type "dict_values", data := .fields #[.ref a] } = h1
  have k1 : ∀ b u, s1.heap.get? b = some u → h1.get? b = some u := fun b u e => by rw [← hh1]; exact Heap.get?_push_of_some _ e
  have hsz : h1.objs.size = s1.heap.objs.size + 1 := by rw [← hh1]; exact Heap.size_push _ _
  have view : h1.IsValuesView s1.heap.objs.size a := by rw [← hh1]; exact ⟨_, Heap.get?_push_size _ rfl, rfl, rfl⟩
  have dat1 : h1.DictAt (mixKind X.prog X.w) a vs ep := dat.keep k1
  have hlv : vs.length = ws.length := by
    have e1 := congrArg List.length hv
    rw [List.length_map, List.length_map] at e1
    rw [← e1]
    exact (KV.length rel).symm
  have hpos : 0 < ws.length := List.length_pos_iff.mpr hne
  have dflt : ∃ z0 : Addr × Addr × (Int × (Int × Int)), True := ⟨(0, 0, (0, (0, 0))), trivial⟩
  obtain ⟨z0, _⟩ := dflt
  have hval : ∀ (i : Nat) (v : Value), (∃ k, vs[i]? = some (k, v)) → v = .ref (ws.getD i z0).1 ∧ ws.getD i z0 ∈ ws := fun i v ⟨k, hk⟩ => by
    obtain ⟨x, h1, h2⟩ := KV.at' rel hk
    have e1 : (kvs.map (·.2))[i]? = some x := by rw [List.getElem?_map, h1] <;> rfl
    rw [hv, List.getElem?_map] at e1
    obtain ⟨z, hz, e2⟩ := Option.map_eq_some_iff.mp e1
    subst e2
    have e3 : ws.getD i z0 = z := by rw [List.getD_eq_getElem?_getD, hz] <;> rfl
    rw [e3]
    exact ⟨h2, List.mem_of_getElem? hz⟩
  have trip : ∀ z ∈ ws, TripAt s1.heap (.ref z.1) z.2.2 := fun z hz => trip_at I1.hok (hw z hz).1 (hw z hz).2
  refine call_min_walkH (s := { s1 with heap := h1 }) (wpAny_pyIter_values (v := s1.heap.objs.size) (d := a) view dat1 ?_)
  have hlt : a < s1.heap.objs.size := Heap.lt_size ho
  have hneI : a ≠ h1.objs.size := by rw [hsz]; exact Nat.ne_of_lt (Nat.lt_succ_of_lt hlt)
  refine ⟨_, _, _, _, _, _, _, s1.heap, fun i j => ltTrip (ws.getD i z0).2.2 (ws.getD j z0).2.2, rfl, (Walks.dictValues (knd := mixKind X.prog X.w) (A := X.A.in1) (I.ok.hd hc) h1.objs.size a hneI vs ep).toS,
    ⟨⟨_, Heap.get?_push_size _ rfl, rfl, rfl⟩, dat1.keep fun b u e => Heap.get?_push_of_some _ e⟩, fun b hb => ?_, by omega, fun b o e hb => ?_, fun b o e => Heap.get?_push_of_some _ (k1 _ _ e), fun i j vi vj s' Q' E' kk hi hj hq => ?_, fun v s' hP m => ?_⟩
  · show b < (h1.push _).objs.size
    rw [Heap.size_push]
    rcases List.mem_cons.mp hb with e | hb
    · rw [e]
      exact Nat.lt_succ_self _
    · rw [List.mem_singleton.mp hb, hsz]
      exact Nat.lt_succ_of_lt (Nat.lt_succ_of_lt hlt)
  · have e1 := List.mem_singleton.mp hb
    have e2 := Heap.lt_size e
    rw [e1, hsz] at e2
    exact absurd e2 (Nat.not_lt.mpr (Nat.le_succ _))
  · obtain ⟨rfl, m1⟩ := hval i vi hi
    obtain ⟨rfl, m2⟩ := hval j vj hj
    exact rcLt_trip (by show X.A.units + 1 + 4 < cLine; omega) ((trip _ m1).keeps kk) ((trip _ m2).keeps kk) _ _ E' Q' hq
  · obtain ⟨rfl, mz⟩ := hval _ v hP
    obtain ⟨b1, b2⟩ := best_le (f := fun i => (ws.getD i z0).2.2.1) (bt := fun i j => ltTrip (ws.getD i z0).2.2 (ws.getD j z0).2.2) (fun i j => ltTrip_yes) (fun i j => ltTrip_no) (vs.length - 1)
    obtain ⟨h', tk, rfl, kk⟩ := PySem.W.moved_old (s := { s1 with heap := h1 }) rfl rfl m
    refine ⟨.ref _, H1, I1.kept (t' := tk) fun b u e => kk b u (k1 b u e), rfl, q _ mz fun y hy => ?_⟩
    obtain ⟨j, hj⟩ := List.mem_iff_getElem?.mp hy
    have e3 : ws.getD j z0 = y := by rw [List.getD_eq_getElem?_getD, hj] <;> rfl
    have := b2 j (by have := (List.getElem?_eq_some_iff.mp hj).1; omega)
    rw [e3] at this
    exact this
/-! ### readings -/
def aIT (g : TG) (tb : TS) (D : Ends) (σ : L2.St) (x : V) (H1 : Hp) : Prop := ∃ d o kvs, x = .ref d ∧ H1 d = some (.frz o (.dT kvs)) ∧ ∃ W : Nat → Nat → L2.St → Hp → Prop, (∃ m, W 0 m σ H1) ∧ ∀ i m σ H, W i m σ H →
  ((ItiT d o kvs).stop i H ∧ D.nx σ H) ∨ ((ItiT d o kvs).go i H ∧ ∃ N : L2.St → Hp → Prop, (∀ σ' H', N σ' H' → ∃ m', m' < m ∧ W (i + 1) m' σ' H') ∧ ∀ x H', (ItiT d o kvs).yld i H x H' → g x σ H' fun σ2 H2 => tb { D with nx := N, ct := N, bk := D.nx } σ2 H2)
theorem rd_forIT {σ : L2.St} {H : Hp} {td : TE} {g : TG} {tb : TS} {D : Ends} (h : td σ H fun x H1 => aIT g tb D σ x H1) : tFor (iItemsT td) g tb D σ H := h
theorem loopIT {σ : L2.St} {H : Hp} {g : TG} {tb : TS} {D : Ends} {d : Addr} {o : Obj} {kvs : List (List Key × V)} (hd0 : H d = some (.frz o (.dT kvs))) (Pv : Nat → L2.St → Hp → Prop) (st : Pv 0 σ H) (keep : ∀ i σ H, i ≤ kvs.length → Pv i σ H → H d = some (.frz o (.dT kvs)))
    (hs : ∀ i k v T q σ H H1, kvs[i]? = some (k, v) → Pv i σ H → H T = none → Kp [] H H1 → H1 T = some (.tup [.ref q, v]) → H1 q = some (.tup (k.map kV)) → g (.ref T) σ H1 fun σ2 H2 => tb { D with nx := Pv (i + 1), ct := Pv (i + 1), bk := D.nx } σ2 H2)
    (hd : ∀ σ H, Pv kvs.length σ H → D.nx σ H) : aIT g tb D σ (.ref d) H := by
  refine ⟨d, o, kvs, rfl, hd0, for_it (J := ItiT d o kvs) (n := kvs.length) (G := fun H => H d = some (.frz o (.dT kvs))) (Y := (ItiT d o kvs).yld) ⟨fun i H hi h => ⟨h, hi⟩, fun H h => ⟨h, Nat.le_refl _⟩, fun _ _ _ _ _ _ y => y⟩ Pv st keep (fun i x σ H H' hi p y => ?_) hd⟩
  obtain ⟨T, q, k, v, hk, rfl, hT, hq, rfl⟩ := y
  exact hs i k v T q σ H _ hk p hT (.new hT) upd_same (by rw [upd_ne (ne_of_none hq hT)]; exact hq)
def aDisp (p : Addr) (x y : V) (H : Hp) (Q : VK) : Prop := H p = some (.dT []) ∧ ∃ (b : Addr) (k : List Key), x = .ref b ∧ H b = some (.tup (k.map kV)) ∧ Q (.ref p) (upd H p (.dT [(k, y)]))
theorem rd_disp1T {σ : L2.St} {H : Hp} {Q : VK} {tk tv : TE} (q : ∀ p H1, H p = none → Kp [] H H1 → H1 p = some (.dT []) → tk σ H1 fun x H2 => tv σ H2 fun y H3 => aDisp p x y H3 Q) : tDisp1T tk tv σ H Q := fun p hp => q p _ hp (.new hp) upd_same
theorem rd_aDisp {H : Hp} {Q : VK} {p b : Addr} {k : List Key} {y : V} (hp : H p = some (.dT [])) (hb : H b = some (.tup (k.map kV))) (q : ∀ H1, Kp [p] H H1 → H1 p = some (.dT [(k, y)]) → Q (.ref p) H1) : aDisp p (.ref b) y H Q := ⟨hp, b, k, rfl, hb, q _ .mut upd_same⟩
/-- reversed(list) -/
def aRev (K : PySem.W.Frag) (g : TG) (tb : TS) (D : Ends) (σ : L2.St) (vs : List V) (H1 : Hp) : Prop := ∃ (a : Addr) (xs : List V), vs = [.ref a] ∧ SqL K H1 a xs ∧ ∃ W : Nat → Nat → L2.St → Hp → Prop, (∃ m, W 0 m σ H1) ∧ ∀ i m σ H, W i m σ H →
  ((Itv K a xs.length).stop i H ∧ D.nx σ H) ∨ ((Itv K a xs.length).go i H ∧ ∃ N : L2.St → Hp → Prop, (∀ σ' H', N σ' H' → ∃ m', m' < m ∧ W (i + 1) m' σ' H') ∧ ∀ x H', (Itv K a xs.length).yld i H x H' → g x σ H' fun σ2 H2 => tb { D with nx := N, ct := N, bk := D.nx } σ2 H2)
theorem rd_forRev {K : PySem.W.Frag} {σ : L2.St} {H : Hp} {ta : TA} {g : TG} {tb : TS} {D : Ends} (h : ta σ H fun vs H1 => aRev K g tb D σ vs H1) : tFor (iRev K ta) g tb D σ H := h
theorem loopRev {K : PySem.W.Frag} {σ : L2.St} {H : Hp} {g : TG} {tb : TS} {D : Ends} {p : Addr} {xs : List V} (hl : SqL K H p xs) (Pv : Nat → L2.St → Hp → Prop) (st : Pv 0 σ H) (keep : ∀ i σ H, i ≤ xs.length → Pv i σ H → SqL K H p xs)
    (hs : ∀ i x σ H, i < xs.length → xs[xs.length - 1 - i]? = some x → Pv i σ H → g x σ H fun σ2 H2 => tb { D with nx := Pv (i + 1), ct := Pv (i + 1), bk := D.nx } σ2 H2) (hd : ∀ σ H, Pv xs.length σ H → D.nx σ H) : aRev K g tb D σ [.ref p] H :=
  ⟨p, xs, rfl, hl, for_it walk_rev Pv st keep (fun i x σ H H' hi pv y => by obtain ⟨e, hx⟩ := y; subst e; exact hs i x σ _ hi hx pv) hd⟩
/-- d.items() as a value -/
theorem rd_tyD {K : PySem.W.Frag} {H : Hp} {p : Addr} {kvs : List (List Key × V)} {B : Prop} (h : H p = some (.dT kvs)) (q : B) : tyV K "dict" (.ref p) H ∧ B := ⟨.inr (.inr (.inl ⟨rfl, .inr ⟨kvs, h⟩⟩)), q⟩
theorem rd_itemsT {H : Hp} {Q : VK} {a : Addr} {kvs : List (List Key × V)} (h : H a = some (.dT kvs)) (q : ∀ p H1, H p = none → Kp [] H H1 → H1 p = some (L2.DX.itemsO p a) → Q (.ref p) H1) : L2.DX.rItemsT (.ref a) [] H Q := ⟨a, kvs, rfl, rfl, h, fun p hp => q p _ hp (.new hp) upd_same⟩
def aMinVals (x : V) (H1 : Hp) (Q : VK) : Prop := ∃ (a : Addr) (kvs : List (Key × V)) (ws : List (Addr × Addr × (Int × (Int × Int)))), x = V.ref a ∧ H1 a = some (.dK kvs) ∧ kvs.map (·.2) = ws.map (fun z => V.ref z.1) ∧ ws ≠ [] ∧
  (∀ z ∈ ws, H1 z.1 = some (.tup [.int z.2.2.1, .ref z.2.1]) ∧ H1 z.2.1 = some (.tup [.int z.2.2.2.1, .int z.2.2.2.2])) ∧ ∀ z, z ∈ ws → (∀ y ∈ ws, z.2.2.1 ≤ y.2.2.1) → Q (.ref z.1) H1
theorem rd_minVals {σ : L2.St} {H : Hp} {Q : VK} {td : TE} (h : td σ H fun x H1 => aMinVals x H1 Q) : tMinValsT td σ H Q := h
end Rc

set_option Elab.async false
set_option linter.all false
set_option maxRecDepth 100000
set_option maxHeartbeats 4000000
/-! for i, x in enumerate(reversed(l)). -/
namespace Rc
open PySem PySem.Spec PyProof.Rows L2
section
variable {prog : Program} {w : World} {A : Around} {E : Value → Shared → Prop} {s : Shared}
theorem nextOf_rev_item {it l : Addr} {i : Nat} {items : Array Value} {x : Value} {Q : Value → Shared → Prop} (hit : s.heap.IsRevIter it l (i : Int)) (hl : s.heap.IsList l items) (hx : items[i]? = some x)
    (hQ : ∀ h', h'.IsRevIter it l ((i : Int) - 1) → Heap.SameBut it s.heap h' → Q x { s with heap := h' }) : wpAny (model prog w) A (Builtin.SmallTypes.nextOf (.ref it)) Q E s := by
  obtain ⟨o, ho, hc, hd⟩ := id hit
  obtain ⟨ol, hol, _, nl, hdl⟩ := hl
  unfold Builtin.SmallTypes.nextOf
  refine wpAny_bind (wpAny_callSpecial?_slot (name := Str.ofString "__next__") hit.typeIs F.slot_lri_next (wpAny_call_entry F.slot_lri_next hit.typeIs F.entry_lri_next ?_ (F.args_lri_next_1 _)))
  unfold Builtin.«list_reverseiterator.__next__»
  refine wpAny_bind (wpAny_of_eq (a := (Value.ref it, [])) rfl ?_)
  try dsimp only
  refine wpAny_bind (wpAny_field ho hd (x := rawInt (i : Int)) rfl ?_)
  show wpAny _ _ (if (i : Int) < 0 then _ else _) _ _ s
  rw [if_neg (by omega)]
  show wpAny _ _ (field (.ref it) 0 >>= _) _ _ s
  refine wpAny_bind (wpAny_field ho hd (x := .ref l) rfl ?_)
  show wpAny _ _ (seqItems? (.ref l) >>= _) _ _ s
  refine wpAny_bind (wpAny_seqItems hol hdl ?_)
  simp only [Int.toNat_natCast, hx]
  refine wpAny_bind (wpAny_setField ho hd (by simp) ?_)
  have fin : ∀ h', h' = s.heap.update it (Obj.mapFields fun vs => vs.setIfInBounds 1 (rawInt ((i : Int) - 1))) → Q x { s with heap := h' } := by
    intro h' e
    rw [e]
    refine hQ _ ⟨_, Heap.get?_update_self _ ho (Obj.isFreed_of_fields (Obj.data_mapFields hd _)), (Obj.cls_mapFields ..).trans hc, ?_⟩ (Heap.SameBut.update ..)
    rw [Obj.data_mapFields hd]
    simp
  first
  | refine wpAny_pure ⟨x, rfl, wpAny_pure (fin _ rfl)⟩
  | refine wpAny_bind (wpAny_pure (wpAny_pure ⟨x, rfl, wpAny_pure (fin _ rfl)⟩))
theorem nextOf_rev_end {it l : Addr} {Q : Value → Shared → Prop} (hh : A.handled = none) (hit : s.heap.IsRevIter it l (-1))
    (hE : ∀ h' e, Heap.ExtBut it s.heap h' → (∃ o, h'.get? e = some o ∧ o.cls = .type "StopIteration") → E (.ref e) { s with heap := h' }) : wpAny (model prog w) A (Builtin.SmallTypes.nextOf (.ref it)) Q E s := by
  obtain ⟨o, ho, hc, hd⟩ := id hit
  unfold Builtin.SmallTypes.nextOf
  refine wpAny_bind (wpAny_callSpecial?_slot (name := Str.ofString "__next__") hit.typeIs F.slot_lri_next (wpAny_call_entry F.slot_lri_next hit.typeIs F.entry_lri_next ?_ (F.args_lri_next_1 _)))
  unfold Builtin.«list_reverseiterator.__next__»
  refine wpAny_bind (wpAny_of_eq (a := (Value.ref it, [])) rfl ?_)
  try dsimp only
  refine wpAny_bind (wpAny_field ho hd (x := rawInt (-1)) rfl ?_)
  show wpAny _ _ (if (-1 : Int) < 0 then _ else _) _ _ s
  rw [if_pos (by decide)]
  refine wpAny_bind (wpAny_rule ?_)
  first
  | show wpAny _ _ (newExc (.type "StopIteration") [] >>= _) _ _ _
  | (refine wpAny_bind ?_; show wpAny _ _ (newExc (.type "StopIteration") [] >>= _) _ _ _)
  refine wpAny_bind ?_
  simp only [newExc, newTuple]
  refine wpAny_bind (wpAny_newObj_type ?_ (by size_fits))
  refine wpAny_bind (m := firstArgMember _ _) (wpAny_of_eq (a := Value.none) (by first | rfl | (simp only [firstArgMember]; rfl)) ?_)
  refine wpAny_newObj_type ?_ (by size_fits)
  simp only [raiseNew]
  refine wpAny_bind (wpAny_handled ?_)
  first | rw [show A.in1.handled = none from hh] | rw [hh]
  refine wpAny_bind (wpAny_pure (wpAny_throw ?_))
  exact hE _ _ (((Heap.ExtBut.refl _ _).push _).push _) ⟨_, Heap.get?_push_size _ rfl, rfl⟩
theorem draws_rev (hh : A.handled = none) (it l : Addr) (hne : l ≠ it) (items : Array Value) :
    Draws prog w A it [it, l] items.size (fun i v => items[items.size - 1 - i]? = some v) (fun i h => i ≤ items.size ∧ h.IsRevIter it l ((items.size : Int) - 1 - (i : Int)) ∧ h.IsList l items) where
  live := fun _ _ st => let ⟨o, ho, _⟩ := st.2.1; ⟨o, ho⟩
  frame := fun _ _ _ st hk => ⟨st.1, st.2.1.at fun o e => hk it (by simp) o e, st.2.2.at fun o e => hk l (by simp) o e⟩
  item := fun i s Q E hi st hQ => by
    have hx : items[items.size - 1 - i]? = some items[items.size - 1 - i] := Array.getElem?_eq_getElem _
    have e1 : ((items.size - 1 - i : Nat) : Int) = (items.size : Int) - 1 - (i : Int) := by omega
    refine nextOf_rev_item (i := items.size - 1 - i) (by rw [e1]; exact st.2.1) st.2.2 hx fun h' hit' hs' => ?_
    refine hQ _ h' s.toks hx ⟨hi, ?_, st.2.2.at fun o e => hs'.extBut l o hne e⟩ hs'
    have e2 : (items.size : Int) - 1 - ((i + 1 : Nat) : Int) = ((items.size - 1 - i : Nat) : Int) - 1 := by omega
    rw [e2]
    exact hit'
  done := fun s Q E st hE => by
    refine nextOf_rev_end hh (l := l) ?_ hE
    have e2 : (items.size : Int) - 1 - ((items.size : Nat) : Int) = -1 := by omega
    rw [← e2]
    exact st.2.1
theorem meets_enum_rev (it l : Addr) (i : Int) :
    Meets (Builtin.«enumerate.__new__» ⟨[.type "enumerate", .ref it], []⟩) (fun _ R s => s.heap.IsRevIter it l i ∧
      R (.ok (.ret (.ref s.heap.objs.size))) { s with heap := s.heap.push { cls := .type "enumerate", data := .fields #[.none, .bool false, .ref it, rawInt 0, .none, .none] } }) :=
  .of_wp fun prog w A R s h => by
    obtain ⟨hp, g, d, tk, os⟩ := s
    obtain ⟨h1, h⟩ := h
    have hsub := sub_enumerate
    have q1 : ∀ {A' : Around} {E : Value → Shared → Prop} {Q : Value → Shared → Prop}, Q (.ref it) ⟨hp, g, d, tk, os⟩ → wpAny (model prog w) A' (pyIter (.ref it)) Q E ⟨hp, g, d, tk, os⟩ := fun q => wpAny_pyIter_revIter h1 q
    obtain ⟨o, ho, hc, hd⟩ := id h1
    wp_walk using AutoSeq1.wpAny_loadPart' ho
    refine wpAny_stack_any fun st => wpAny_pure ?_
    split
    · rename_i c _ _ _ _ _
      cases (c == Value.type "enumerate")
      · wp_walk using q1
        exact ⟨_, rfl, h⟩
      · wp_walk using q1
        exact ⟨_, rfl, h⟩
    · wp_walk using q1
      exact ⟨_, rfl, h⟩
theorem call_enum_rev {it l : Addr} {i : Int} {Q : Value → Shared → Prop} (hr : s.heap.IsRevIter it l i)
    (h : ∀ h', IsEnum h' s.heap.objs.size it 0 .none → (∀ b o, s.heap.get? b = some o → h'.get? b = some o) → Q (.ref s.heap.objs.size) { s with heap := h' }) : wpAny (model prog w) A (call (.type "enumerate") [.ref it]) Q E s := by
  refine callType_new F.called_enumerate (by decide) (F.typeCall_enumerate_1 _) (F.newCall_enumerate_1 _) (fun obj => F.args_object_init_2 obj _) F.entry_enumerate_new (meets_enum_rev it l i) ⟨hr, ?_⟩
  have he : IsEnum (s.heap.push { cls := .type "enumerate", data := .fields #[.none, .bool false, .ref it, rawInt 0, .none, .none] }) s.heap.objs.size it 0 .none := Heap.get?_push_size _ rfl
  exact ⟨⟨_, he, rfl⟩, h _ he fun b o x => Heap.get?_push_of_some _ x⟩
end

/-- the list at a, of n items, from its end, in new pairs with the turn's number -/
def ItER (K : PySem.W.Frag) (a : Addr) (n : Nat) : It :=
  ⟨fun i H => ∃ xs : List V, SqL K H a xs ∧ xs.length = n ∧ i < n, fun i H v H' => ∃ (T : Addr) (x : V), v = .ref T ∧ H T = none ∧ H' = upd H T (.tup [.int (i : Nat), x]) ∧ ∀ xs : List V, SqL K H a xs → xs.length = n → xs[n - 1 - i]? = some x,
    fun i H => (∃ xs : List V, SqL K H a xs ∧ xs.length = n) ∧ n ≤ i⟩
theorem turn_enumRev {P : Program} {w : World} {K : PySem.W.Frag} {elts : List Expr} {kk : Nat} {tpos : Pos} (a e it : Addr) (n : Nat) :
    Turn P w K (.Tuple elts kk tpos) (ItER K a n) [e, it] e (fun i h => (∃ old, IsEnum h e it ((i : Nat) : Int) old) ∧ h.IsRevIter it a ((n : Int) - 1 - (i : Int)) ∧ e ≠ it ∧ i ≤ n) where
  mem := List.mem_cons_self ..
  obj := fun i h st b hb => by
    obtain ⟨⟨old, he⟩, ⟨o, ho, hc, hd⟩, _⟩ := st
    rcases List.mem_cons.mp hb with z | z
    · rw [z]
      exact ⟨_, he, fun v q => nomatch q⟩
    · rw [List.mem_singleton.mp z]
      exact ⟨o, ho, fun v q => by rw [hd] at q; cases q⟩
  keep := fun i h h' st k => by
    obtain ⟨⟨old, he⟩, hi, hne, hl⟩ := st
    exact ⟨⟨old, k e (List.mem_cons_self ..) _ he⟩, hi.at fun o q => k it (List.mem_cons_of_mem _ (List.mem_singleton.mpr rfl)) o q, hne, hl⟩
  item := by
    intro X hP hw hK hc i pins s σ H E I hf st hg
    subst hP hw hK
    obtain ⟨⟨old, he⟩, hit, hne, hle⟩ := st
    obtain ⟨xs, hq, hlen, hin⟩ := hg
    obtain ⟨its, rv, p, hz⟩ := I.list hq
    have hl : its.toArray.size = n := by
      rw [List.size_toArray, ← rv.length]
      exact hlen
    have hx : xs[n - 1 - i]? = some (xs[n - 1 - i]'(by omega)) := List.getElem?_eq_getElem (by omega)
    obtain ⟨u, hu, ru⟩ := rv.get hx
    generalize hxx : xs[n - 1 - i]'(by omega) = x at hx ru
    have hel : e < s.heap.objs.size := Heap.lt_size he
    have hil : it < s.heap.objs.size := by
      obtain ⟨_, q, _⟩ := hit
      exact Heap.lt_size q
    obtain ⟨oa, na, ha, hac, _, had⟩ := id p
    have nea : e ≠ a := fun z => by
      rw [z] at he
      have e2 := he.symm.trans ha
      obtain rfl := Option.some.inj e2
      exact absurd (Value.type.inj hac) (by decide)
    have nia : a ≠ it := fun z => by
      obtain ⟨o2, ho2, hc2, _⟩ := hit
      rw [← z, ha] at ho2
      obtain rfl := Option.some.inj ho2
      rw [hac] at hc2
      exact absurd (Value.type.inj hc2) (by decide)
    have D := draws_rev (prog := X.prog) (w := X.w) (A := X.A.in1) (I.ok.hd hc) it a nia its.toArray
    refine wpAny_pyNext_enum_itemD D he ⟨by omega, by rw [hl]; exact hit, p.isList⟩ (by omega) hne (fun z => ?_) fun y h' tk hy ho hst hT hsz hk => ?_
    · rcases List.mem_cons.mp z with z | z
      · exact hne z
      · exact nea (List.mem_singleton.mp z)
    have ey : y = u := by
      rw [hl] at hy
      have hu' : its.toArray[n - 1 - i]? = some u := by simpa using hu
      exact Option.some.inj (hy.symm.trans hu')
    subst ey
    refine ⟨_, rfl, wpAny_letOwnedTupleGo_enum (s := { s with heap := h', toks := tk + 1 }) ho fun h'' he' sb => ?_⟩
    have nT : s.heap.objs.size ≠ e := Nat.ne_of_gt hel
    have hT2 := (sb.2 _ nT).trans hT
    have new : ObjOk X.prog X.w (upd H s.heap.objs.size (.tup [.int (i : Nat), x])) h'' s.heap.objs.size (.tup [.int (i : Nat), x]) :=
      ⟨by show 2 ≤ sizeLine; decide, [.int i tk, y], .cons ⟨_, rfl⟩ (.cons ru .nil), ⟨_, hT2, rfl, _, rfl⟩⟩
    have nin : ∀ {b : Addr}, b ∉ [e, it] → b ≠ e ∧ b ≠ it := fun hb => ⟨fun z => hb (by rw [z]; exact List.mem_cons_self ..), fun z => hb (by rw [z]; exact List.mem_cons_of_mem _ (List.mem_singleton.mpr rfl))⟩
    have I1 : L2.Inv X pins σ (upd H s.heap.objs.size (.tup [.int (i : Nat), x])) { s with heap := h'', toks := tk + 1 } :=
      I.turnedNew (ch := [e, it]) (fun b ob hb q => (sb.2 b (nin hb).1).trans (hk b ob (nin hb).1 (nin hb).2 q)) hf (Nat.le_refl _) new
    refine ⟨.ref s.heap.objs.size, _, I1, rfl, ⟨_, x, rfl, I.hok.fresh (Nat.le_refl _), rfl, fun ys hy hyl => by rw [I.list_inj hy hq]; exact hx⟩, ⟨⟨y, ?_⟩, ?_, hne, hin⟩, fun b hb => ?_⟩
    · have e1 : ((i + 1 : Nat) : Int) = (i : Int) + 1 := by omega
      rw [e1]
      exact he'
    · have e1 : (n : Int) - 1 - ((i + 1 : Nat) : Int) = (its.toArray.size : Int) - 1 - ((i + 1 : Nat) : Int) := by rw [hl]
      rw [e1]
      exact hst.2.1.at fun o q => (sb.2 it (Ne.symm hne)).trans q
    · have hb' : b < s.heap.objs.size := by
        rcases List.mem_cons.mp hb with z | z
        · rw [z]
          exact hel
        · rw [List.mem_singleton.mp z]
          exact hil
      rw [upd_ne (Nat.ne_of_lt hb')]
      exact (hf b hb).1
  done := by
    intro X hP hw hK hc i pins s σ H E I hf st hg
    subst hP hw hK
    obtain ⟨⟨old, he⟩, hit, hne, hle⟩ := st
    obtain ⟨⟨xs, hq, hlen⟩, hge⟩ := hg
    obtain rfl : i = n := by omega
    obtain ⟨its, rv, p, hz⟩ := I.list hq
    obtain ⟨f0, f1, f2, f3, f4, f5⟩ := hf it (List.mem_cons_of_mem _ (List.mem_singleton.mpr rfl))
    have hl : its.toArray.size = i := by
      rw [List.size_toArray, ← rv.length]
      exact hlen
    obtain ⟨oa, na, ha, hac, _, had⟩ := id p
    have nia : a ≠ it := fun z => by
      obtain ⟨o2, ho2, hc2, _⟩ := hit
      rw [← z, ha] at ho2
      obtain rfl := Option.some.inj ho2
      rw [hac] at hc2
      exact absurd (Value.type.inj hc2) (by decide)
    have D := draws_rev (prog := X.prog) (w := X.w) (A := X.A.in1) (I.ok.hd hc) it a nia its.toArray
    exact wpAny_pyNext_enum_endD D he ⟨Nat.le_refl _, by rw [hl]; exact hit, p.isList⟩ fun h' eb => ⟨rfl, I.turned (t' := s.toks) (fun b o hb q => eb b o hb q) f0 f1 f3 f4 f5⟩
  self := fun A i s Q E st h => by
    obtain ⟨⟨old, he⟩, _⟩ := st
    exact wpAny_pyIter_enum he h
def iEnumRev (K : PySem.W.Frag) (ta : TA) : TI := fun σ H R => ta σ H fun vs H1 => ∃ (a : Addr) (xs : List V), vs = [.ref a] ∧ SqL K H1 a xs ∧ R (ItER K a xs.length) H1
theorem pi_enumRev {X : Cx} {e : Expr} {ta : TA} {p p2 pos pos2 tpos : Pos} {elts : List Expr} {kk : Nat} (hg : Gl X "enumerate") (hm : X.mg "enumerate" = none) (hg2 : Gl X "reversed") (hm2 : X.mg "reversed" = none) (ha : PA X [e] ta)
    (hs : starEach [Expr.Call (.Name "reversed" p2) [e] [] pos2] X.env = (false, eval (.Call (.Name "reversed" p2) [e] [] pos2) X.env) :: starEach [] X.env := by rfl) (hs2 : starEach [e] X.env = [(false, eval e X.env)] := by rfl) :
    PI X (.Tuple elts kk tpos) (.Call (.Name "enumerate" p) [.Call (.Name "reversed" p2) [e] [] pos2] [] pos) (iEnumRev X.K ta) := by
  constructor
  intro pins s σ H R I h
  refine Call_ (ld_blt I hg hm boot_enumerate (PyProof.Rows.callWith_type1 ?_ hs rfl))
  rw [hs]
  show wpAny _ _ (spliced ((false, eval (.Call (.Name "reversed" p2) [e] [] pos2) X.env) :: backTo pos (starEach [] X.env))) _ _ s
  refine Calls.spliced_cons ?_
  refine Call_ (ld_blt I hg2 hm2 boot_reversed (PyProof.Rows.callWith_type1 (thn (ha.run pos2 pins s σ H _ I h) fun us s1 hh => ?_) hs2 rfl))
  obtain ⟨vs, H1, I1, r1, a, xs, rfl, hq, q⟩ := hh
  obtain ⟨u, rfl, ru⟩ := vals1 r1
  cases ru
  obtain ⟨its, rv, p', hz⟩ := I1.list hq
  refine call_reversed_list p'.isList (Calls.spliced_nil ?_)
  generalize hh1 : s1.heap.push (revObj a ((its.toArray.size : Int) - 1)) = h1
  have k1 : ∀ b o, s1.heap.get? b = some o → h1.get? b = some o := fun b o e => by rw [← hh1]; exact Heap.get?_push_of_some _ e
  have hr : h1.IsRevIter s1.heap.objs.size a ((its.toArray.size : Int) - 1) := by
    rw [← hh1]
    exact ⟨_, Heap.get?_push_size _ rfl, rfl, rfl⟩
  have hsz : h1.objs.size = s1.heap.objs.size + 1 := by rw [← hh1]; exact Heap.size_push _ _
  refine call_enum_rev (s := { s1 with heap := h1 }) hr fun h2 he2 k2 => wpAny_pyIter_enum he2 ?_
  have I2 : L2.Inv X pins σ H1 { s1 with heap := h2 } := I1.kept (t' := s1.toks) fun b o e => k2 _ _ (k1 _ _ e)
  have hl : its.toArray.size = xs.length := by
    rw [List.size_toArray, ← rv.length]
  have f0 : s1.heap.objs.size ≤ h1.objs.size := by
    rw [hsz]
    exact Nat.le_succ _
  refine ⟨h1.objs.size, [h1.objs.size, s1.heap.objs.size], _, _, H1, rfl, I2, turn_enumRev a h1.objs.size s1.heap.objs.size xs.length, ⟨⟨.none, he2⟩, ?_, by rw [hsz]; exact Nat.succ_ne_self _, Nat.zero_le _⟩, fun b hb => ?_, q⟩
  · have e1 : (xs.length : Int) - 1 - ((0 : Nat) : Int) = (its.toArray.size : Int) - 1 := by
      rw [hl]
      omega
    rw [e1]
    exact hr.at fun o e => k2 _ _ e
  · have hle : s1.heap.objs.size ≤ b := by
      rcases List.mem_cons.mp hb with z | z
      · rw [z]
        exact f0
      · rw [List.mem_singleton.mp z]
        exact Nat.le_refl _
    exact I1.fpOk hle (I1.hok.fresh hle)
/-- enumerate(reversed(list)) -/
def aER (K : PySem.W.Frag) (g : TG) (tb : TS) (D : Ends) (σ : L2.St) (vs : List V) (H1 : Hp) : Prop := ∃ (a : Addr) (xs : List V), vs = [.ref a] ∧ SqL K H1 a xs ∧ ∃ W : Nat → Nat → L2.St → Hp → Prop, (∃ m, W 0 m σ H1) ∧ ∀ i m σ H, W i m σ H →
  ((ItER K a xs.length).stop i H ∧ D.nx σ H) ∨ ((ItER K a xs.length).go i H ∧ ∃ N : L2.St → Hp → Prop, (∀ σ' H', N σ' H' → ∃ m', m' < m ∧ W (i + 1) m' σ' H') ∧ ∀ x H', (ItER K a xs.length).yld i H x H' → g x σ H' fun σ2 H2 => tb { D with nx := N, ct := N, bk := D.nx } σ2 H2)
theorem rd_forER {K : PySem.W.Frag} {σ : L2.St} {H : Hp} {ta : TA} {g : TG} {tb : TS} {D : Ends} (h : ta σ H fun vs H1 => aER K g tb D σ vs H1) : tFor (iEnumRev K ta) g tb D σ H := h
theorem loopER {K : PySem.W.Frag} {σ : L2.St} {H : Hp} {g : TG} {tb : TS} {D : Ends} {p : Addr} {xs : List V} (hl : SqL K H p xs) (Pv : Nat → L2.St → Hp → Prop) (st : Pv 0 σ H) (keep : ∀ i σ H, i ≤ xs.length → Pv i σ H → SqL K H p xs)
    (hs : ∀ i x T σ H H1, i < xs.length → xs[xs.length - 1 - i]? = some x → Pv i σ H → Kp [] H H1 → H1 T = some (.tup [.int (i : Nat), x]) → g (.ref T) σ H1 fun σ2 H2 => tb { D with nx := Pv (i + 1), ct := Pv (i + 1), bk := D.nx } σ2 H2) (hd : ∀ σ H, Pv xs.length σ H → D.nx σ H) : aER K g tb D σ [.ref p] H := by
  refine ⟨p, xs, rfl, hl, for_it (J := ItER K p xs.length) (n := xs.length) (G := fun H => SqL K H p xs) (Y := (ItER K p xs.length).yld) ⟨fun i H hi h => ⟨xs, h, rfl, hi⟩, fun H h => ⟨⟨xs, h, rfl⟩, Nat.le_refl _⟩, fun _ _ _ _ _ _ y => y⟩ Pv st keep (fun i x σ H H' hi pv y => ?_) hd⟩
  obtain ⟨T, x, rfl, hT, rfl, hx⟩ := y
  exact hs i x T σ H _ hi (hx xs (keep i σ H (Nat.le_of_lt hi) pv) rfl) pv (.new hT) upd_same
end Rc

namespace K69
open PySem PySem.Spec PyProof.Rows L2 Rc
def topS (i : Nat) : Stmt := PySem.Challenge.pw_ringcalls_k69_whole_losses_of_long_sched.main.body.getD i (.Pass ⟨0, 0, 0, 0⟩)
abbrev s_SkippingThreads_init : Stmt := inClass (topS 2) 0
theorem sc_SkippingThreads_init : FnScope ["self", "size", "schedule", "end", "most", "gap"] ["self", "size", "schedule", "end", "most"] (defScope s_SkippingThreads_init) := ⟨rfl, rfl, rfl, by decide +kernel, rfl, by decide +kernel, by decide +kernel⟩

abbrev s_SkippingThreads_add_layer : Stmt := inClass (topS 2) 1
theorem sc_SkippingThreads_add_layer : FnScope ["self", "gap", "most", "layer", "pair", "price", "following", "skipped", "entry", "number"] ["self", "gap", "most"] (defScope s_SkippingThreads_add_layer) := ⟨rfl, rfl, rfl, by decide +kernel, rfl, by decide +kernel, by decide +kernel⟩

abbrev s_SkippingThreads_best : Stmt := inClass (topS 2) 2
theorem sc_SkippingThreads_best : FnScope ["self", "ring", "bound", "found", "entry", "number", "price", "following", "skipped", "worth"] ["self", "ring", "bound"] (defScope s_SkippingThreads_best) := ⟨rfl, rfl, rfl, by decide +kernel, rfl, by decide +kernel, by decide +kernel⟩

abbrev s_SkippingThreads_passed_over : Stmt := inClass (topS 2) 3
theorem sc_SkippingThreads_passed_over : FnScope ["self", "pair", "found", "at", "layer", "price", "following", "skipped"] ["self", "pair"] (defScope s_SkippingThreads_passed_over) := ⟨rfl, rfl, rfl, by decide +kernel, rfl, by decide +kernel, by decide +kernel⟩

abbrev s_offer : Stmt := topS 3
theorem sc_offer : FnScope ["layer", "pair", "price", "following", "skipped"] ["layer", "pair", "price", "following", "skipped"] (defScope s_offer) := ⟨rfl, rfl, rfl, by decide +kernel, rfl, by decide +kernel, by decide +kernel⟩

abbrev s_least : Stmt := topS 4
theorem sc_least : FnScope ["ring", "schedule", "bound", "gap", "lost", "threads", "worth", "pair"] ["ring", "schedule", "bound", "gap", "lost"] (defScope s_least) := ⟨rfl, rfl, rfl, by decide +kernel, rfl, by decide +kernel, by decide +kernel⟩

abbrev s_needed : Stmt := topS 5
theorem sc_needed : FnScope ["ring", "schedule", "bound", "gap", "most", "threads", "best", "number"] ["ring", "schedule", "bound", "gap", "most"] (defScope s_needed) := ⟨rfl, rfl, rfl, by decide +kernel, rfl, by decide +kernel, by decide +kernel⟩

abbrev s_is_integer : Stmt := topS 11
theorem sc_is_integer : FnScope ["thing"] ["thing"] (defScope s_is_integer) := ⟨rfl, rfl, rfl, by decide +kernel, rfl, by decide +kernel, by decide +kernel⟩

abbrev s_is_between : Stmt := topS 12
theorem sc_is_between : FnScope ["thing", "least", "most"] ["thing", "least", "most"] (defScope s_is_between) := ⟨rfl, rfl, rfl, by decide +kernel, rfl, by decide +kernel, by decide +kernel⟩

abbrev s_is_size : Stmt := topS 13
theorem sc_is_size : FnScope ["thing"] ["thing"] (defScope s_is_size) := ⟨rfl, rfl, rfl, by decide +kernel, rfl, by decide +kernel, by decide +kernel⟩

abbrev s_Ring_init : Stmt := inClass (topS 15) 0
theorem sc_Ring_init : FnScope ["self", "ranks", "rank"] ["self", "ranks"] (defScope s_Ring_init) := ⟨rfl, rfl, rfl, by decide +kernel, rfl, by decide +kernel, by decide +kernel⟩

abbrev s_Ring_size : Stmt := inClass (topS 15) 2
theorem sc_Ring_size : FnScope ["self"] ["self"] (defScope s_Ring_size) := ⟨rfl, rfl, rfl, by decide +kernel, rfl, by decide +kernel, by decide +kernel⟩

abbrev s_Ring_strong : Stmt := inClass (topS 15) 5
theorem sc_Ring_strong : FnScope ["self", "bound", "place", "rank"] ["self", "bound"] (defScope s_Ring_strong) := ⟨rfl, rfl, rfl, by decide +kernel, rfl, by decide +kernel, by decide +kernel⟩

abbrev s_Ring_up_to : Stmt := inClass (topS 15) 7
theorem sc_Ring_up_to : FnScope ["self", "bound", "gap", "laps", "place", "strong", "other"] ["self", "bound", "gap"] (defScope s_Ring_up_to) := ⟨rfl, rfl, rfl, by decide +kernel, rfl, by decide +kernel, by decide +kernel⟩

abbrev s_q_bag : Stmt := topS 17
theorem sc_q_bag : FnScope ["_law_script", "_law_cell"] ["_law_script"] (defScope s_q_bag) := ⟨rfl, rfl, rfl, by decide +kernel, rfl, by decide +kernel, by decide +kernel⟩

abbrev s_q_take : Stmt := topS 18
theorem sc_q_take : FnScope ["_law_bag_here", "_law_many", "_law_cell", "_law_value", "_law_first", "_law_second"] ["_law_bag_here", "_law_many"] (defScope s_q_take) := ⟨rfl, rfl, rfl, by decide +kernel, rfl, by decide +kernel, by decide +kernel⟩

abbrev s_q_some_size : Stmt := topS 19
theorem sc_q_some_size : FnScope ["_law_bag_here", "_law_most"] ["_law_bag_here", "_law_most"] (defScope s_q_some_size) := ⟨rfl, rfl, rfl, by decide +kernel, rfl, by decide +kernel, by decide +kernel⟩

abbrev s_q_ranks : Stmt := topS 20
theorem sc_q_ranks : FnScope ["_law_bag_here", "_law_size", "_law_way", "_law_found", "_law_place", "_law_few", "_law_great", "_law_rank", "_law_spot"] ["_law_bag_here", "_law_size"] (defScope s_q_ranks) := ⟨rfl, rfl, rfl, by decide +kernel, rfl, by decide +kernel, by decide +kernel⟩

abbrev s_q_schedule : Stmt := topS 21
theorem sc_q_schedule : FnScope ["_law_bag_here", "_law_size", "_law_most", "_law_many", "_law_way", "_law_begin", "_law_few", "_law_found", "_law_k", "_law_gap"] ["_law_bag_here", "_law_size", "_law_most"] (defScope s_q_schedule) := ⟨rfl, rfl, rfl, by decide +kernel, rfl, by decide +kernel, by decide +kernel⟩

abbrev s_q_standing : Stmt := topS 22
theorem sc_q_standing : FnScope ["_law_size"] ["_law_size"] (defScope s_q_standing) := ⟨rfl, rfl, rfl, by decide +kernel, rfl, by decide +kernel, by decide +kernel⟩

abbrev s_q_called : Stmt := topS 23
theorem sc_q_called : FnScope ["_law_ranks_here", "_law_there", "_law_gap", "_law_size", "_law_first", "_law_second"] ["_law_ranks_here", "_law_there", "_law_gap"] (defScope s_q_called) := ⟨rfl, rfl, rfl, by decide +kernel, rfl, by decide +kernel, by decide +kernel⟩

abbrev s_q_some_bound : Stmt := topS 24
theorem sc_q_some_bound : FnScope ["_law_bag_here", "_law_ranks_here", "_law_rank"] ["_law_bag_here", "_law_ranks_here"] (defScope s_q_some_bound) := ⟨rfl, rfl, rfl, by decide +kernel, rfl, by decide +kernel, by decide +kernel⟩

abbrev s_q_mixed : Stmt := topS 25
theorem sc_q_mixed : FnScope ["_law_bag_here", "_law_things", "_law_found", "_law_thing"] ["_law_bag_here", "_law_things"] (defScope s_q_mixed) := ⟨rfl, rfl, rfl, by decide +kernel, rfl, by decide +kernel, by decide +kernel⟩

abbrev s_q_crossings : Stmt := topS 26
theorem sc_q_crossings : FnScope ["_law_ranks_here", "_law_schedule_here", "_law_bound", "_law_size", "_law_there", "_law_found", "_law_gap", "_law_first", "_law_second"] ["_law_ranks_here", "_law_schedule_here", "_law_bound"] (defScope s_q_crossings) := ⟨rfl, rfl, rfl, by decide +kernel, rfl, by decide +kernel, by decide +kernel⟩

abbrev s_q_remaining : Stmt := topS 27
theorem sc_q_remaining : FnScope ["_law_schedule_here", "_law_lost", "_law_at"] ["_law_schedule_here", "_law_lost"] (defScope s_q_remaining) := ⟨rfl, rfl, rfl, by decide +kernel, rfl, by decide +kernel, by decide +kernel⟩

abbrev s_q_drawn_loss : Stmt := topS 28
theorem sc_q_drawn_loss : FnScope ["_law_bag_here", "_law_schedule_here", "_law_many"] ["_law_bag_here", "_law_schedule_here", "_law_many"] (defScope s_q_drawn_loss) := ⟨rfl, rfl, rfl, by decide +kernel, rfl, by decide +kernel, by decide +kernel⟩

abbrev s_q_in_order : Stmt := topS 29
theorem sc_q_in_order : FnScope ["_law_schedule_here", "_law_indexes", "_law_at"] ["_law_schedule_here", "_law_indexes"] (defScope s_q_in_order) := ⟨rfl, rfl, rfl, by decide +kernel, rfl, by decide +kernel, by decide +kernel⟩

abbrev s_q_needed_right : Stmt := topS 30
theorem sc_q_needed_right : FnScope ["_law_bag_here", "_law_ranks_here", "_law_schedule_here", "_law_case", "_law_numbers", "_law_bound", "_law_gap", "_law_most", "_law_many", "_law_found", "_law_lost", "_law_fewer", "_law_there"] ["_law_bag_here", "_law_ranks_here", "_law_schedule_here", "_law_case", "_law_numbers"] (defScope s_q_needed_right) := ⟨rfl, rfl, rfl, by decide +kernel, rfl, by decide +kernel, by decide +kernel⟩

abbrev s_law : Stmt := topS 31
theorem sc_law : FnScope ["_law_script", "_law_bag_here", "_law_great", "_law_size", "_law_ranks_here", "_law_schedule_here", "_law_ring", "_law_bound", "_law_gap", "_law_full", "_law_numbers", "_law_lost", "_law_k", "_law_number", "_law_found", "_law_indexes", "_law_there", "_law_reached", "_law_most"] ["_law_script"] (defScope s_law) := ⟨rfl, rfl, rfl, by decide +kernel, rfl, by decide +kernel, by decide +kernel⟩

structure Txt (K : PySem.W.Frag) (mg : Str → Option Value) where
  C_SkippingThreads : Addr
  gC_SkippingThreads : mg "SkippingThreads" = some (.ref C_SkippingThreads)
  cl_SkippingThreads : Cls K C_SkippingThreads
  C_Ring : Addr
  gC_Ring : mg "Ring" = some (.ref C_Ring)
  cl_Ring : Cls K C_Ring
  na_Ring_rank_list : NoAttr K C_Ring "rank_list"
  na_SkippingThreads_layers : NoAttr K C_SkippingThreads "layers"
  na_SkippingThreads_place_count : NoAttr K C_SkippingThreads "place_count"
  f_SkippingThreads_init : Addr
  d_SkippingThreads_init : FuncData
  F_SkippingThreads_init : Fun K "__init__" "SkippingThreads.__init__" s_SkippingThreads_init f_SkippingThreads_init d_SkippingThreads_init
  mk_SkippingThreads : Mk K C_SkippingThreads f_SkippingThreads_init
  b_SkippingThreads_init : Binds K d_SkippingThreads_init ["self", "size", "schedule", "end", "most"] []
  f_SkippingThreads_add_layer : Addr
  d_SkippingThreads_add_layer : FuncData
  F_SkippingThreads_add_layer : Fun K "add_layer" "SkippingThreads.add_layer" s_SkippingThreads_add_layer f_SkippingThreads_add_layer d_SkippingThreads_add_layer
  me_SkippingThreads_add_layer : Meth K C_SkippingThreads "add_layer" f_SkippingThreads_add_layer
  b_SkippingThreads_add_layer : Binds K d_SkippingThreads_add_layer ["self", "gap", "most"] []
  f_SkippingThreads_best : Addr
  d_SkippingThreads_best : FuncData
  F_SkippingThreads_best : Fun K "best" "SkippingThreads.best" s_SkippingThreads_best f_SkippingThreads_best d_SkippingThreads_best
  me_SkippingThreads_best : Meth K C_SkippingThreads "best" f_SkippingThreads_best
  b_SkippingThreads_best : Binds K d_SkippingThreads_best ["self", "ring", "bound"] []
  f_SkippingThreads_passed_over : Addr
  d_SkippingThreads_passed_over : FuncData
  F_SkippingThreads_passed_over : Fun K "passed_over" "SkippingThreads.passed_over" s_SkippingThreads_passed_over f_SkippingThreads_passed_over d_SkippingThreads_passed_over
  me_SkippingThreads_passed_over : Meth K C_SkippingThreads "passed_over" f_SkippingThreads_passed_over
  b_SkippingThreads_passed_over : Binds K d_SkippingThreads_passed_over ["self", "pair"] []
  f_offer : Addr
  d_offer : FuncData
  F_offer : Fun K "offer" "offer" s_offer f_offer d_offer
  g_offer : mg "offer" = some (.ref f_offer)
  b_offer : Binds K d_offer ["layer", "pair", "price", "following", "skipped"] []
  f_least : Addr
  d_least : FuncData
  F_least : Fun K "least" "least" s_least f_least d_least
  g_least : mg "least" = some (.ref f_least)
  b_least : Binds K d_least ["ring", "schedule", "bound", "gap", "lost"] []
  f_needed : Addr
  d_needed : FuncData
  F_needed : Fun K "needed" "needed" s_needed f_needed d_needed
  g_needed : mg "needed" = some (.ref f_needed)
  b_needed : Binds K d_needed ["ring", "schedule", "bound", "gap", "most"] []
  f_is_integer : Addr
  d_is_integer : FuncData
  F_is_integer : Fun K "is_integer" "is_integer" s_is_integer f_is_integer d_is_integer
  g_is_integer : mg "is_integer" = some (.ref f_is_integer)
  b_is_integer : Binds K d_is_integer ["thing"] []
  f_is_between : Addr
  d_is_between : FuncData
  F_is_between : Fun K "is_between" "is_between" s_is_between f_is_between d_is_between
  g_is_between : mg "is_between" = some (.ref f_is_between)
  b_is_between : Binds K d_is_between ["thing", "least", "most"] []
  f_is_size : Addr
  d_is_size : FuncData
  F_is_size : Fun K "is_size" "is_size" s_is_size f_is_size d_is_size
  g_is_size : mg "is_size" = some (.ref f_is_size)
  b_is_size : Binds K d_is_size ["thing"] []
  f_Ring_init : Addr
  d_Ring_init : FuncData
  F_Ring_init : Fun K "__init__" "Ring.__init__" s_Ring_init f_Ring_init d_Ring_init
  mk_Ring : Mk K C_Ring f_Ring_init
  b_Ring_init : Binds K d_Ring_init ["self", "ranks"] []
  f_Ring_size : Addr
  d_Ring_size : FuncData
  F_Ring_size : Fun K "size" "Ring.size" s_Ring_size f_Ring_size d_Ring_size
  p_Ring_size : Addr
  pr_Ring_size : PropOf K C_Ring "size" p_Ring_size f_Ring_size
  b_Ring_size : Binds K d_Ring_size ["self"] []
  f_Ring_strong : Addr
  d_Ring_strong : FuncData
  F_Ring_strong : Fun K "strong" "Ring.strong" s_Ring_strong f_Ring_strong d_Ring_strong
  me_Ring_strong : Meth K C_Ring "strong" f_Ring_strong
  b_Ring_strong : Binds K d_Ring_strong ["self", "bound"] []
  f_Ring_up_to : Addr
  d_Ring_up_to : FuncData
  F_Ring_up_to : Fun K "up_to" "Ring.up_to" s_Ring_up_to f_Ring_up_to d_Ring_up_to
  me_Ring_up_to : Meth K C_Ring "up_to" f_Ring_up_to
  b_Ring_up_to : Binds K d_Ring_up_to ["self", "bound", "gap"] []
  f_q_bag : Addr
  d_q_bag : FuncData
  F_q_bag : Fun K "_law_bag" "_law_bag" s_q_bag f_q_bag d_q_bag
  g_q_bag : mg "_law_bag" = some (.ref f_q_bag)
  b_q_bag : Binds K d_q_bag ["_law_script"] []
  f_q_take : Addr
  d_q_take : FuncData
  F_q_take : Fun K "_law_take" "_law_take" s_q_take f_q_take d_q_take
  g_q_take : mg "_law_take" = some (.ref f_q_take)
  b_q_take : Binds K d_q_take ["_law_bag_here", "_law_many"] []
  f_q_some_size : Addr
  d_q_some_size : FuncData
  F_q_some_size : Fun K "_law_some_size" "_law_some_size" s_q_some_size f_q_some_size d_q_some_size
  g_q_some_size : mg "_law_some_size" = some (.ref f_q_some_size)
  b_q_some_size : Binds K d_q_some_size ["_law_bag_here", "_law_most"] []
  f_q_ranks : Addr
  d_q_ranks : FuncData
  F_q_ranks : Fun K "_law_ranks" "_law_ranks" s_q_ranks f_q_ranks d_q_ranks
  g_q_ranks : mg "_law_ranks" = some (.ref f_q_ranks)
  b_q_ranks : Binds K d_q_ranks ["_law_bag_here", "_law_size"] []
  f_q_schedule : Addr
  d_q_schedule : FuncData
  F_q_schedule : Fun K "_law_schedule" "_law_schedule" s_q_schedule f_q_schedule d_q_schedule
  g_q_schedule : mg "_law_schedule" = some (.ref f_q_schedule)
  b_q_schedule : Binds K d_q_schedule ["_law_bag_here", "_law_size", "_law_most"] []
  f_q_standing : Addr
  d_q_standing : FuncData
  F_q_standing : Fun K "_law_standing" "_law_standing" s_q_standing f_q_standing d_q_standing
  g_q_standing : mg "_law_standing" = some (.ref f_q_standing)
  b_q_standing : Binds K d_q_standing ["_law_size"] []
  f_q_called : Addr
  d_q_called : FuncData
  F_q_called : Fun K "_law_called" "_law_called" s_q_called f_q_called d_q_called
  g_q_called : mg "_law_called" = some (.ref f_q_called)
  b_q_called : Binds K d_q_called ["_law_ranks_here", "_law_there", "_law_gap"] []
  f_q_some_bound : Addr
  d_q_some_bound : FuncData
  F_q_some_bound : Fun K "_law_some_bound" "_law_some_bound" s_q_some_bound f_q_some_bound d_q_some_bound
  g_q_some_bound : mg "_law_some_bound" = some (.ref f_q_some_bound)
  b_q_some_bound : Binds K d_q_some_bound ["_law_bag_here", "_law_ranks_here"] []
  f_q_mixed : Addr
  d_q_mixed : FuncData
  F_q_mixed : Fun K "_law_mixed" "_law_mixed" s_q_mixed f_q_mixed d_q_mixed
  g_q_mixed : mg "_law_mixed" = some (.ref f_q_mixed)
  b_q_mixed : Binds K d_q_mixed ["_law_bag_here", "_law_things"] []
  f_q_crossings : Addr
  d_q_crossings : FuncData
  F_q_crossings : Fun K "_law_crossings" "_law_crossings" s_q_crossings f_q_crossings d_q_crossings
  g_q_crossings : mg "_law_crossings" = some (.ref f_q_crossings)
  b_q_crossings : Binds K d_q_crossings ["_law_ranks_here", "_law_schedule_here", "_law_bound"] []
  f_q_remaining : Addr
  d_q_remaining : FuncData
  F_q_remaining : Fun K "_law_remaining" "_law_remaining" s_q_remaining f_q_remaining d_q_remaining
  g_q_remaining : mg "_law_remaining" = some (.ref f_q_remaining)
  b_q_remaining : Binds K d_q_remaining ["_law_schedule_here", "_law_lost"] []
  f_q_drawn_loss : Addr
  d_q_drawn_loss : FuncData
  F_q_drawn_loss : Fun K "_law_drawn_loss" "_law_drawn_loss" s_q_drawn_loss f_q_drawn_loss d_q_drawn_loss
  g_q_drawn_loss : mg "_law_drawn_loss" = some (.ref f_q_drawn_loss)
  b_q_drawn_loss : Binds K d_q_drawn_loss ["_law_bag_here", "_law_schedule_here", "_law_many"] []
  f_q_in_order : Addr
  d_q_in_order : FuncData
  F_q_in_order : Fun K "_law_in_order" "_law_in_order" s_q_in_order f_q_in_order d_q_in_order
  g_q_in_order : mg "_law_in_order" = some (.ref f_q_in_order)
  b_q_in_order : Binds K d_q_in_order ["_law_schedule_here", "_law_indexes"] []
  f_q_needed_right : Addr
  d_q_needed_right : FuncData
  F_q_needed_right : Fun K "_law_needed_right" "_law_needed_right" s_q_needed_right f_q_needed_right d_q_needed_right
  g_q_needed_right : mg "_law_needed_right" = some (.ref f_q_needed_right)
  b_q_needed_right : Binds K d_q_needed_right ["_law_bag_here", "_law_ranks_here", "_law_schedule_here", "_law_case", "_law_numbers"] []
  f_law : Addr
  d_law : FuncData
  F_law : Fun K "law" "law" s_law f_law d_law
  g_law : mg "law" = some (.ref f_law)
  b_law : Binds K d_law ["_law_script"] []
  t_MOST_PLACES : Tok
  c_MOST_PLACES : mg "MOST_PLACES" = some (.int 12 t_MOST_PLACES)
  m_abs : mg "abs" = none
  m_all : mg "all" = none
  m_bool : mg "bool" = none
  m_divmod : mg "divmod" = none
  m_enumerate : mg "enumerate" = none
  m_int : mg "int" = none
  m_isinstance : mg "isinstance" = none
  m_len : mg "len" = none
  m_list : mg "list" = none
  m_max : mg "max" = none
  m_min : mg "min" = none
  m_range : mg "range" = none
  m_reversed : mg "reversed" = none
  m_sorted : mg "sorted" = none
local macro_rules | `(tactic| walk_at "bag") => `(tactic| first | assumption | exact Bag.k0 (by assumption) (by walk_at "bag") | exact Bag.k1 (by assumption) (by walk_at "bag") (by first | exact ⟨by assumption, by assumption⟩ | exact Bag.nn (by assumption) (by walk_at "bag")))
local macro_rules | `(tactic| walk_at "ne") => `(tactic| first | assumption | exact Ne.symm (by assumption) | exact ne_new (by assumption) (by walk_at "at") | exact new_ne (by assumption) (by walk_at "at") | exact (Bag.nn (by assumption) (by walk_at "bag")).1)
local macro_rules | `(tactic| walk_at "at") => `(tactic| first | assumption | exact Kp.at0 (by assumption) (by walk_at "at") | exact Kp.at1 (by assumption) (by walk_at "at") (by walk_at "ne"))
local macro_rules | `(tactic| walk_at "kp") => `(tactic| first | assumption | exact Kp.refl | exact Kp.tr0b (by assumption) (by walk_at "kp") | exact Kp.trb (by assumption) (by walk_at "kp") | exact Kp.trFb (by assumption) (by walk_at "kp") (by walk_at "free"))
local macro_rules | `(tactic| walk_at "free") => `(tactic| first | assumption | exact Kp.free0b (by assumption) (by walk_at "kp") | exact Kp.free1b (by assumption) (by walk_at "kp") (by walk_at "ne"))
local macro_rules | `(tactic| walk_at "s1") => `(tactic| first
  | with_reducible refine rd_seq ?_
  | with_reducible refine rd_next ?_
  | ((with_reducible apply rd_var); rfl)
  | with_reducible refine rd_c ?_
  | with_reducible refine rd_op ?_
  | with_reducible refine rd_un ?_
  | with_reducible refine rd_U ?_
  | with_reducible refine rd_I0 ?_
  | with_reducible refine rd_eqI ?_
  | with_reducible refine rd_neI ?_
  | with_reducible refine rd_test ?_
  | with_reducible refine rd_tB ?_
  | with_reducible refine rd_exb ?_
  | with_reducible refine rd_exV ?_
  | with_reducible refine rd_exI ?_
  | with_reducible refine rd_ex2 ?_
  | with_reducible refine rd_ex3 ?_
  | with_reducible refine rd_and ?_
  | with_reducible refine rd_or ?_
  | with_reducible refine rd_not ?_
  | with_reducible refine rd_andV ?_
  | with_reducible refine rd_orV ?_
  | with_reducible refine rd_notV ?_
  | with_reducible refine rd_if ?_
  | with_reducible refine rd_ifS ?_
  | with_reducible refine rd_T ?_
  | with_reducible refine rd_F ?_
  | with_reducible refine rd_nT ?_
  | with_reducible refine rd_nF ?_
  | with_reducible refine rd_chain ?_
  | with_reducible refine rd_cons ?_
  | with_reducible refine rd_nil ?_
  | with_reducible refine rd_cLen ?_
  | with_reducible refine rd_cAbs ?_
  | with_reducible refine rd_cMin2 ?_
  | with_reducible refine rd_cMax2 ?_
  | with_reducible refine rd_cInt1 ?_
  | with_reducible refine rd_cLst1 ?_
  | with_reducible refine rd_cDm ?_
  | with_reducible refine rd_cIns ?_
  | with_reducible refine rd_listRg ?_
  | with_reducible refine rd_tFld ?_
  | with_reducible refine rd_sFld ?_
  | with_reducible refine rd_make ?_
  | with_reducible refine rd_prop ?_
  | with_reducible refine rd_meth ?_
  | with_reducible refine rd_nonQ ?_
  | with_reducible refine rd_minVals ?_
  | with_reducible refine rd_cKw ?_
  | with_reducible refine rd_dget ?_
  | with_reducible refine rd_din ?_
  | with_reducible refine rd_dnotin ?_
  | with_reducible refine rd_dput ?_
  | with_reducible refine rd_abs ?_
  | with_reducible refine rd_min2 ?_
  | with_reducible refine rd_max2 ?_
  | with_reducible refine rd_int1 ?_
  | with_reducible refine rd_intB ?_
  | with_reducible refine rd_CB ?_
  | with_reducible refine rd_tupN ?_
  | with_reducible refine rd_lstN ?_
  | with_reducible refine rd_set ?_
  | with_reducible refine rd_asg ?_
  | with_reducible refine rd_ret ?_
  | with_reducible refine rd_retN ?_
  | with_reducible refine rd_drop ?_
  | with_reducible refine rd_par ?_
  | with_reducible refine rd_par3 ?_
  | ((with_reducible apply rd_aug); rfl)
  | with_reducible refine rd_ipI ?_
  | with_reducible refine rd_augS ?_
  | with_reducible refine rd_gName ?_
  | with_reducible refine rd_gSub ?_
  | with_reducible refine rd_gCons ?_
  | with_reducible refine rd_gNil ?_
  | with_reducible refine rd_sl ?_
  | with_reducible refine rd_noPart ?_
  | with_reducible refine rd_part ?_
  | with_reducible refine rd_call ?_
  | with_reducible refine rd_BM ?_
  | with_reducible refine rd_BM0 ?_
  | with_reducible refine rd_forL ?_
  | with_reducible refine rd_for1 ?_
  | with_reducible refine rd_for2 ?_
  | with_reducible refine rd_forE ?_
  | with_reducible refine rd_forT ?_
  | with_reducible refine rd_forRev ?_
  | with_reducible refine rd_forER ?_
  | with_reducible refine rd_forIT ?_
  | with_reducible refine rd_lcL ?_
  | with_reducible refine rd_lcR ?_
  | with_reducible refine rd_lcE ?_
  | with_reducible refine rd_yes ?_)
local macro_rules | `(tactic| walk_at "s2") => `(tactic| first
  | walk_at "s1"
  | ((with_reducible show rIxL _ _ _ _ _); refine rd_ixL (SqL.of (by walk_at "at")) rfl ?_)
  | ((with_reducible show rIxL _ _ _ _ _); refine rd_ixI (SqL.of (by walk_at "at")) (by omega) (by omega) ?_)
  | ((with_reducible show aLen _ _ _ _); first | refine rd_lenI (by walk_at "at") ?_ | refine rd_len (by walk_at "at") ?_)
  | ((with_reducible show aRgL _ _ _); refine rd_aRgL (by omega) (by omega) ?_; intro _ _ _ _ _)
  | ((with_reducible show rIn _ false _ _ _ _); refine rd_inI (by walk_at "at") ?_)
  | ((with_reducible show rIn _ true _ _ _ _); refine rd_ninI (by walk_at "at") ?_)
  | ((with_reducible show rMin _ _ _ _); refine rd_minI (by walk_at "at") (by omega) ?_; intro _ _ _)
  | ((with_reducible show rMax _ _ _ _); refine rd_maxI (by walk_at "at") (by omega) ?_; intro _ _ _)
  | ((with_reducible show rSortedI _ _ _ _); refine rd_sortedI (by walk_at "at") ?_; intro _ _ _ _ _ _ _ _)
  | ((with_reducible show aLst1 _ _ _ _); refine rd_lst1 (by walk_at "at") ?_; intro _ _ _ _ _)
  | ((with_reducible show gTup _ _ _ _ _ _ _); refine rd_gTup (SqT.of (by walk_at "at")) rfl ?_)
  | ((with_reducible show rRep _ _ _ _); refine rd_repI (by walk_at "at") (by omega) (by omega) ?_; intro _ _ _ _ _)
  | ((with_reducible show aFld _ _ _ _ _); refine rd_aFld (by walk_at "at") (by assumption) (by assumption) rfl ?_)
  | ((with_reducible show aSFld _ _ _ _ _ _); refine rd_aSFld (by walk_at "at") (by assumption) (by assumption) (Nat.le_of_ble_eq_true rfl) ?_; intro _ _ _)
  | ((with_reducible show aProp _ _ _ _ _ _ _); refine rd_aProp (by walk_at "at") ?_)
  | ((with_reducible show aMeth _ _ _ _ _ _ _ _ _ _); refine rd_aMeth (by walk_at "at") rfl ?_)
  | ((with_reducible show aMake _ _ _ _ _ _ _); refine rd_aMake ?_; intro _ _ _ _ _ _)
  | ((with_reducible show aDm _ _ _); refine rd_dm (by omega) (by omega) ?_; intro _ _ _ _ _)
  | ((with_reducible show rIsi _ _ _ _); first | refine rd_isiI (b := true) (by decide +kernel) ?_ | refine rd_isiI (b := false) (by decide +kernel) ?_ | refine rd_isiL (b := true) (by walk_at "at") (by decide +kernel) ?_ | refine rd_isiL (b := false) (by walk_at "at") (by decide +kernel) ?_)
  | ((with_reducible show rNeD _ _ _ _ _); refine rd_neDI (by walk_at "at") (by walk_at "at") ?_)
  | ((with_reducible show rSortedKw _ _ _ _ _ _ _); refine rd_sortedRevI (by walk_at "at") ?_; intro _ _ _ _ _ _ _ _)
  | ((with_reducible show aNewL _ _ _); refine rd_aNewL (by simp) ?_; intro _ _ _ _ _)
  | ((with_reducible show aNewT _ _ _); refine rd_aNewT (by simp) ?_; intro _ _ _ _ _)
  | ((with_reducible show rSlL _ _ (some _) none _ _); refine rd_slFrom (by walk_at "at") (by omega) ?_; intro _ _ _ _ _)
  | ((with_reducible show rSlL _ _ none (some _) _ _); refine rd_slTo (by walk_at "at") (by omega) ?_; intro _ _ _ _ _)
  | ((with_reducible show rIxT _ _ _ _ _); refine rd_ixT (SqT.of (by walk_at "at")) rfl ?_)
  | ((with_reducible show rI CMul _ _ _ _ _); first | refine rd_mulL (by omega) (by omega) ?_ | refine rd_mulR (by omega) (by omega) ?_)
  | ((with_reducible show rI CDivW _ _ _ _ _); refine rd_divW (by omega) (by omega) ?_)
  | ((with_reducible show rI CPow _ _ _ _ _); refine rd_pow (by decide) (by decide) (by decide) ?_)
  | ((with_reducible show rI _ _ _ _ _ _); refine rd_I (show (0 : Int) < _ by omega) ?_)
  | ((with_reducible show tyV _ "list" _ _ ∧ _); refine rd_tyL (by walk_at "at") ?_)
  | ((with_reducible show rSetL _ _ _ _ _); refine rd_setI (by walk_at "at") (by omega) (by first | omega | (simp only [List.length_set]; omega)) ?_; intro _ _ _)
  | ((with_reducible show rSetL _ _ _ _ _); refine rd_setL (by walk_at "at") (by omega) (by first | omega | (simp <;> omega)) ?_; intro _ _ _)
  | ((with_reducible show if decide _ = true then _ else _); first | refine rd_dT (by omega) ?_ | refine rd_dF (by omega) ?_)
  | ((with_reducible show if (!decide _) = true then _ else _); first | refine rd_ndT (by omega) ?_ | refine rd_ndF (by omega) ?_))
local macro_rules | `(tactic| walk_at "rd") => `(tactic| repeat walk_at "s2")
local macro_rules | `(tactic| walk_at "rs") => `(tactic| repeat ((fail_if_success (with_reducible show tSeq _ _ _ _ _)); walk_at "s2"))

section
variable {P : Program} {w : World} {K : PySem.W.Frag} {mg : Str → Option Value} {base : Heap}
def sp_q_bag (K : PySem.W.Frag) : Sp := fun vs H Q E => ∃ (p : Addr) (ns : List Int), vs = [.ref p] ∧ SqL K H p (Is ns) ∧ ∀ b l H', Kp [] H H' → H b = none → H l = none → Bag H' b l → Q (.ref b) H'
def sp_q_take (K : PySem.W.Frag) : Sp := fun vs H Q E => ∃ (b l : Addr) (m : Int), vs = [.ref b, .int m] ∧ Bag H b l ∧ 0 < m ∧ m < 18446744073709551616 ∧ ∀ v H', Kp [b] H H' → Bag H' b l → 0 ≤ v → v < m → Q (.int v) H'
theorem cutV_mem {xs : List V} {lo hi : Option Int} {x : V} (h : x ∈ cutV xs lo hi) : x ∈ xs := by
  unfold cutV at h
  exact List.mem_of_mem_drop (List.mem_of_mem_take h)
theorem cutV_ints (ns : List Int) : ∃ ns1 : List Int, cutV (Is ns) none (some 63) = Is ns1 ∧ ns1.length ≤ 63 := by
  unfold cutV
  rw [← List.map_drop, ← List.map_take]
  refine ⟨_, rfl, ?_⟩
  rw [List.length_take]
  refine Nat.le_trans (Nat.min_le_left _ _) ?_
  refine Nat.le_trans (Nat.sub_le _ _) ?_
  show (HT.sIx _ _ (some 63)) ≤ 63
  rw [show (63 : Int) = ((63 : Nat) : Int) from rfl, HT.sIx_nat]
  exact Nat.min_le_left _ _
theorem ok_q_bag (T : Txt K mg) : FnOk P w K mg base CX0 1 T.f_q_bag T.d_q_bag ["_law_script"] (sp_q_bag K) := T.F_q_bag.ok sc_q_bag (by rintro vs H Q E ⟨b, m, rfl, -⟩; rfl)
  (fun cdv A outer s H vs Q E hr h => ⟨_, (pss_one (ps_ret (pe_lst (pa_cons pe_int (pa_cons pe_int (pa_cons pe_int (pa_cons (pe_lc (own := [("_law_cell", 1)]) (g := gName 1) rfl sc_q_bag.nd (pi_list (pe_slice sl_list (pv 0) po_none (po_some pe_int))) (blkOk_by (own := [("_law_cell", 1)]) (N := ["_law_script", "_law_cell"]) (sc := defScope s_q_bag) (by decide +kernel)) (fun _ _ _ _ _ => (pg_name (i := 1) sc_q_bag.nd rfl (Or.inl rfl))) (fun _ _ _ _ _ => pts_nil) (fun _ _ _ _ _ => (pe_callB call_abs (by rfl) T.m_abs (by decide +kernel) (pa_cons (pv 1) pa_nil)))) pa_nil))))))), by
    obtain ⟨p, ns, rfl, hp, q⟩ := h
    walk_at "rd"
    refine rd_slL hp fun c H1 hc k1 e1 => ?_
    obtain ⟨ns1, hn1, hl1⟩ : ∃ ns1 : List Int, cutV (Is ns) none (some 63) = Is ns1 ∧ ns1.length ≤ 63 := cutV_ints ns
    rw [hn1] at e1
    refine loopLcI 1 (fun n => some (if n < 0 then -n else n)) (SqL.of e1) (by omega) (fun m H2 N hm k2 hN => ?_) fun D H2 hD k2 e2 => ?_
    · walk_at "rd"
      exact hN _ .refl
    · walk_at "rd"
      rename_i b H3 hb k3 e3
      exact q _ D _ ((k1.trans k2).trans k3) (k1.free0 (k2.free0 hb)) (k1.free0 hD) ⟨_, _, _, _, e3, k3.at0 e2, ne_new hb e2, by decide, by decide, by decide, by decide, fun n hn => by
        obtain ⟨m, -, hm⟩ := List.mem_filterMap.mp hn
        have := Option.some.inj hm
        split at this <;> omega⟩⟩)
theorem ok_q_take (T : Txt K mg) : FnOk P w K mg base CX0 1 T.f_q_take T.d_q_take ["_law_bag_here", "_law_many"] (sp_q_take K) := T.F_q_take.ok sc_q_take (by rintro vs H Q E ⟨b, l, m, rfl, -⟩; rfl)
  (fun cdv A outer s H vs Q E hr h => ⟨_, (pss_cons (ps_if (pt_cmpR op_eq (pe_ix ix_list (pv 0) pe_int (fun _ _ => rfl)) pe_int (nomark _)) (pss_cons (ps_set (i := 2) sc_q_take.nd rfl (Or.inl rfl) pe_int)
    (pss_cons (ps_if (pt_cmpR op_lt (pe_ix ix_list (pv 0) pe_int (fun _ _ => rfl)) (pe_callB call_len_seq (by rfl) T.m_len (by decide +kernel) (pa_cons (pe_ix ix_list (pv 0) pe_int (fun _ _ => rfl)) pa_nil)) (nomark _)) (pss_one (ps_set (i := 2) sc_q_take.nd rfl (Or.inl rfl) (pe_ix ix_list (pe_ix ix_list (pv 0) pe_int (fun _ _ => rfl)) (pe_ix ix_list (pv 0) pe_int (fun _ _ => rfl)) (fun _ _ => rfl)))) pss_nil)
    (pss_cons (ps_augS (pv 0) pe_int get_list pe_int ip_add set_list)
    (pss_cons (ps_if (pt_cmpR op_ge (pv 2) pe_int (nomark _)) (pss_one (ps_asg (pv 2) (pg_sub (pv 0) pe_int set_list))) pss_nil)
    (pss_one (ps_asg (pe_op op_mod (pe_op op_add (pe_op op_add (pe_op op_mul (pe_ix ix_list (pv 0) pe_int (fun _ _ => rfl)) pe_int) (pe_op op_mod (pv 2) pe_int)) (pe_op op_mul pe_int (pe_ix ix_list (pv 0) pe_int (fun _ _ => rfl)))) pe_int) (pg_sub (pv 0) pe_int set_list))))))) pss_nil)
    (pss_cons (ps_if (pt_cmpR op_gt (pe_ix ix_list (pv 0) pe_int (fun _ _ => rfl)) pe_int (nomark _)) (pss_cons (ps_set (i := 3) sc_q_take.nd rfl (Or.inl rfl) (pe_op op_mod (pe_ix ix_list (pv 0) pe_int (fun _ _ => rfl)) (pv 1)))
    (pss_cons (ps_asg (pe_op op_fdivW (pe_ix ix_list (pv 0) pe_int (fun _ _ => rfl)) (pv 1)) (pg_sub (pv 0) pe_int set_list))
    (pss_one (ps_ret (pv 3))))) pss_nil)
    (pss_cons (ps_set (i := 4) sc_q_take.nd rfl (Or.inl rfl) (pe_op op_mod (pe_op op_mul (pe_op op_add (pe_ix ix_list (pv 0) pe_int (fun _ _ => rfl)) pe_int) pe_int) pe_int))
    (pss_cons (ps_set (i := 5) sc_q_take.nd rfl (Or.inl rfl) (pe_op op_mod (pe_op op_mul (pe_op op_mod (pe_op op_mul (pv 4) (pv 4)) pe_int) pe_int) pe_int))
    (pss_cons (ps_if (pt_cmpR op_gt (pv 1) pe_int (nomark _)) (pss_one (ps_ret (pe_op op_mod (pe_op op_add (pe_op op_mul (pv 5) pe_int) (pv 4)) (pv 1)))) pss_nil)
    (pss_one (ps_ret (pe_op op_mod (pe_op op_fdivW (pv 5) pe_int) (pv 1))))))))), by
    obtain ⟨b, l, m, rfl, ⟨x, y, z, ns, hb, hl, hlb, hx, hy, hy1, hz, hn⟩, hm, hm1, q⟩ := h
    refine rd_join (fun σ' H' => ∃ c, σ' = [some (.ref b), some (.int m), c, none, none, none] ∧ Kp [b] H H' ∧ Bag H' b l) ?_ ?_
    · rintro _ H' ⟨c, rfl, hk, ⟨x, y, z, ns, hb, hl, hlb, hx, hy, hy1, hz, hn⟩⟩
      walk_at "rd"
      refine rd_d (fun h => ?_) (fun h => ?_)
      · walk_at "rd"
        exact q _ _ (hk.tr (by assumption)) ⟨_, y, z, ns, by assumption, by walk_at "at", hlb, Int.ediv_nonneg hx (Int.le_of_lt hm), hy, hy1, hz, hn⟩ (Int.emod_nonneg _ (by omega)) (Int.emod_lt_of_pos _ hm)
      · walk_at "rd"
        refine rd_d (fun h => ?_) (fun h => ?_)
        all_goals
          walk_at "rd"
          exact q _ _ hk ⟨_, y, z, ns, hb, hl, hlb, hx, hy, hy1, hz, hn⟩ (Int.emod_nonneg _ (by omega)) (Int.emod_lt_of_pos _ hm)
    · intro N hN
      walk_at "rd"
      refine rd_d (fun h => ?_) (fun h => ?_)
      · refine rd_seq (rd_set (rd_c ?_))
        with_reducible refine rd_join (fun σ' H' => H' = H ∧ ∃ c : Int, 0 ≤ c ∧ σ' = [some (.ref b), some (.int m), some (.int c), none, none, none]) ?_ ?_
        · rintro _ H' ⟨e, c, hc, rfl⟩
          subst e
          walk_at "rd"
          refine rd_d (fun h => ?_) (fun h => ?_)
          all_goals
            walk_at "rd"
            exact hN _ _ ⟨_, rfl, by walk_at "kp", ⟨_, _, _, ns, by assumption, by walk_at "at", hlb, by omega, by omega, by omega, by omega, hn⟩⟩
        · intro N1 hN1
          walk_at "rd"
          refine rd_d (fun h => ?_) (fun h => ?_)
          · walk_at "rd"
            exact hN1 _ _ ⟨rfl, _, hn _ (gi_mem hz h), rfl⟩
          · walk_at "rd"
            exact hN1 _ _ ⟨rfl, _, Int.le_refl 0, rfl⟩
      · walk_at "rd"
        exact hN _ _ ⟨none, rfl, .refl, ⟨x, y, z, ns, hb, hl, hlb, hx, hy, hy1, hz, hn⟩⟩⟩)
theorem rd_take {H : Hp} {Q : VK} {EE : XK} {b l : Addr} {m : Int} (hB : Bag H b l) (h0 : 0 < m) (h1 : m < 18446744073709551616) (q : ∀ v H', Kp [b] H H' → Bag H' b l → 0 ≤ v → v < m → Q (.int v) H') : sp_q_take K ([.ref b, .int m] ++ []) H Q EE :=
  ⟨b, l, m, rfl, hB, h0, h1, q⟩

end
local macro_rules | `(tactic| walk_at "s2") => `(tactic| ((with_reducible show sp_q_take _ _ _ _ _); refine rd_take (by walk_at "bag") (by first | omega | decide) (by first | omega | decide) ?_; intro _ _ _ _ _ _))

section
variable {P : Program} {w : World} {K : PySem.W.Frag} {mg : Str → Option Value} {base : Heap}
def sp_q_some_size (K : PySem.W.Frag) : Sp := fun vs H Q E => ∃ (b l : Addr) (m : Int), vs = [.ref b, .int m] ∧ Bag H b l ∧ 2 ≤ m ∧ m ≤ 1000 ∧ ∀ v H', Kp [b] H H' → Bag H' b l → 2 ≤ v → v ≤ m → Q (.int v) H'
theorem ok_q_some_size (T : Txt K mg) : FnOk P w K mg base CX0 2 T.f_q_some_size T.d_q_some_size ["_law_bag_here", "_law_most"] (sp_q_some_size K) := T.F_q_some_size.ok sc_q_some_size (by rintro vs H Q E ⟨b, l, m, rfl, -⟩; rfl)
  (fun cdv A outer s H vs Q E hr h => ⟨_, (pss_one (ps_ret (pe_op op_add pe_int (pe_call (ok_q_take T) (hr.mono (by decide)) (by rfl) T.g_q_take T.F_q_take.kp T.b_q_take .nil pass0 (pa_cons (pv 0) (pa_cons (pe_ix ix_list (pe_lst (pa_cons (pe_op op_sub (pe_callB (call_min2 rfl) (by rfl) T.m_min (by decide +kernel) (pa_cons pe_int (pa_cons (pv 1) pa_nil))) pe_int) (pa_cons (pe_op op_sub (pv 1) pe_int) pa_nil))) (pe_call (ok_q_take T) (hr.mono (by decide)) (by rfl) T.g_q_take T.F_q_take.kp T.b_q_take .nil pass0 (pa_cons (pv 0) (pa_cons pe_int pa_nil))) (fun _ _ => rfl)) pa_nil)))))), by
    obtain ⟨b, l, m, rfl, hB, h2, hm, q⟩ := h
    walk_at "rd"
    rename_i v H1 k1 B1 v0 v1
    obtain rfl | rfl : v = 0 ∨ v = 1 := by omega
    all_goals
      walk_at "rd"
      exact q _ _ (by walk_at "kp") (by assumption) (by omega) (by omega)⟩)
def sp_q_ranks (K : PySem.W.Frag) : Sp := fun vs H Q E => ∃ (b l : Addr) (n : Int), vs = [.ref b, .int n] ∧ Bag H b l ∧ 1 ≤ n ∧ n ≤ 1000 ∧ ∀ r rs H', Kp [b] H H' → Bag H' b l → H r = none → H' r = some (.lst (Is rs)) → (rs.length : Int) = n → Q (.ref r) H'
theorem ok_q_ranks (T : Txt K mg) : FnOk P w K mg base CX0 2 T.f_q_ranks T.d_q_ranks ["_law_bag_here", "_law_size"] (sp_q_ranks K) := T.F_q_ranks.ok sc_q_ranks (by rintro vs H Q E ⟨b, l, m, rfl, -⟩; rfl)
  (fun cdv A outer s H vs Q E hr h => ⟨_, (pss_cons (ps_par (i := 2) (j := 3) rfl sc_q_ranks.nd rfl rfl (by decide) rfl rfl (pa_cons (pe_call (ok_q_take T) (hr.mono (by decide)) (by rfl) T.g_q_take T.F_q_take.kp T.b_q_take .nil pass0 (pa_cons (pv 0) (pa_cons pe_int pa_nil))) (pa_cons (pe_lst pa_nil) pa_nil)) (by rfl))
    (pss_cons (ps_for PassesOwn.never rfl (pi_range1 (by rfl) T.m_range (pa_cons (pv 1) pa_nil)) (pg_name (i := 4) sc_q_ranks.nd rfl (Or.inl rfl)) (pss_cons (ps_par (i := 5) (j := 6) rfl sc_q_ranks.nd rfl rfl (by decide) rfl rfl (pa_cons (pe_call (ok_q_take T) (hr.mono (by decide)) (by rfl) T.g_q_take T.F_q_take.kp T.b_q_take .nil pass0 (pa_cons (pv 0) (pa_cons pe_int pa_nil))) (pa_cons (pe_op op_sub (pe_call (ok_q_take T) (hr.mono (by decide)) (by rfl) T.g_q_take T.F_q_take.kp T.b_q_take .nil pass0 (pa_cons (pv 0) (pa_cons (pe_op op_pow pe_int pe_int) pa_nil))) (pe_op op_mul pe_int (pe_op op_pow pe_int pe_int))) pa_nil)) (by rfl))
    (pss_one (ps_expr (pe_bm PySem.F.plainAttrs_list PySem.F.slot_list_append PySem.F.type_list_append mt_append (pv 3) (pa_cons (pe_ix ix_list (pe_lst (pa_cons (pv 5) (pa_cons (pe_op op_sub (pe_op op_mul (pv 5) pe_int) pe_int) (pa_cons (pv 6) (pa_cons (pe_op op_sub pe_int (pv 4)) (pa_cons (pe_op op_add (pv 4) (pv 5)) (pa_cons (pe_op op_sub (pe_op op_pow pe_int pe_int) (pe_op op_mul (pv 4) (pv 5))) pa_nil))))))) (pv 2) (fun _ _ => rfl)) pa_nil))))))
    (pss_cons (ps_if (PW.pt (pw_and (pt_cmpR op_eq (pv 2) pe_int (nomark _)) (pw_and1 (pt_cmpR op_eq (pe_call (ok_q_take T) (hr.mono (by decide)) (by rfl) T.g_q_take T.F_q_take.kp T.b_q_take .nil pass0 (pa_cons (pv 0) (pa_cons pe_int pa_nil))) pe_int (nomark _))))) (pss_one (ps_setLc (i := 3) (own := [("_law_rank", 7)]) (g := gName 7) rfl sc_q_ranks.nd rfl rfl (sw_true rfl rfl rfl (by decide +kernel)) (pi_list (pv 3)) (blkOk_by (own := [("_law_rank", 7)]) (N := ["_law_bag_here", "_law_size", "_law_way", "_law_found", "_law_place", "_law_few", "_law_great", "_law_rank", "_law_spot"]) (sc := defScope s_q_ranks) (by decide +kernel)) (fun _ _ _ _ _ => (pg_name (i := 7) sc_q_ranks.nd rfl (Or.inl rfl))) (fun _ _ _ _ _ => pts_nil) (fun _ _ _ _ _ => (pe_callTy call_int1 (by rfl) T.m_int (by decide +kernel) (pa_cons (pe_cmpR op_gt (pv 7) pe_int (nomark _)) pa_nil))))) pss_nil)
    (pss_cons (ps_if (pt_cmpR op_gt (pv 2) pe_int (nomark _)) (pss_cons (ps_set (i := 8) sc_q_ranks.nd rfl (Or.inl rfl) (pe_call (ok_q_take T) (hr.mono (by decide)) (by rfl) T.g_q_take T.F_q_take.kp T.b_q_take .nil pass0 (pa_cons (pv 0) (pa_cons (pv 1) pa_nil))))
    (pss_one (ps_set (i := 3) sc_q_ranks.nd rfl (Or.inl rfl) (pe_op op_cat (pe_slice sl_list (pv 3) (po_some (pv 8)) po_none) (pe_slice sl_list (pv 3) po_none (po_some (pv 8))))))) pss_nil)
    (pss_one (ps_ret (pv 3))))))), by
    obtain ⟨b, l, n, rfl, hB, h2, hm, q⟩ := h
    walk_at "rd"
    rename_i w0 H1 k1 B1 w1 w2 f H2 hf k2 ef
    have hf0 : H f = none := by walk_at "free"
    have nf := Bag.nn hf B1
    refine loop1 (by omega) (by omega) (fun i σ' H' => ∃ x4 x5 x6 rs, σ' = [some (.ref b), some (.int n), some (.int w0), some (.ref f), x4, x5, x6, none, none] ∧ Kp [b] H H' ∧ Bag H' b l ∧ H' f = some (.lst (Is rs)) ∧ rs.length = i) ⟨none, none, none, [], rfl, by walk_at "kp", by walk_at "bag", ef, rfl⟩ ?_ ?_
    · rintro i _ H3 hi ⟨x4, x5, x6, rs, rfl, k3, B3, e3, hl⟩
      walk_at "rd"
      refine rd_ixM (SqL.of (by assumption)) (by omega) (by simpa using w2) fun v hv => ?_
      obtain ⟨m, rfl⟩ : ∃ m, v = .int m := by
        simp only [List.mem_cons, List.not_mem_nil, or_false] at hv
        rcases hv with rfl | rfl | rfl | rfl | rfl | rfl <;> exact ⟨_, rfl⟩
      walk_at "rd"
      refine rd_app (xs := Is rs) (by walk_at "at") (by simp; omega) fun H4 k4 e4 => ?_
      walk_at "rd"
      exact ⟨_, _, _, rs ++ [m], rfl, by walk_at "kp", by walk_at "bag", by rw [e4]; simp, by simp [hl]⟩
    · rintro _ H3 ⟨x4, x5, x6, rs, rfl, k3, B3, e3, hl⟩
      with_reducible refine rd_join (fun σ' H' => ∃ f rs x5 x6 x7 x8, σ' = [some (.ref b), some (.int n), some (.int w0), some (.ref f), x4, x5, x6, x7, x8] ∧ Kp [b] H H' ∧ Bag H' b l ∧ H f = none ∧ H' f = some (.lst (Is rs)) ∧ (rs.length : Int) = n) ?_ ?_
      · rintro _ H4 ⟨f, rs, x5, x6, x7, x8, rfl, k4, B4, hf, e4, hl⟩
        walk_at "rd"
        refine rd_d (fun h => ?_) (fun h => ?_)
        · walk_at "rd"
          rename_i v H5 k5 B5 v0 v1 c1 H6 n6 k6 e6 c2 H7 n7 k7 e7
          refine rd_catI (by walk_at "at") (by walk_at "at") (by rw [List.length_drop, List.length_take]; omega) fun c3 H8 n8 k8 e8 => ?_
          walk_at "rd"
          exact q _ _ _ (by walk_at "kp") (by walk_at "bag") (by walk_at "free") e8 (by rw [List.length_append, List.length_drop, List.length_take]; omega)
        · walk_at "rd"
          exact q _ _ _ k4 B4 hf e4 hl
      · intro N hN
        walk_at "rd"
        refine rd_d (fun h => ?_) (fun h => ?_)
        · walk_at "rd"
          rename_i v H4 k4 B4 v0 v1
          refine rd_d (fun h => ?_) (fun h => ?_)
          · walk_at "rd"
            refine loopLcI 7 (fun r => some (if decide (0 < r) then 1 else 0)) (SqL.of (by walk_at "at")) (by omega) (fun m H5 N hm k5 hN => ?_) fun D H5 n5 k5 e5 => ?_
            · walk_at "rd"
              exact hN _ .refl
            · walk_at "rd"
              exact hN _ _ ⟨_, _, _, _, _, _, rfl, by walk_at "kp", by walk_at "bag", by walk_at "free", e5, by simp; omega⟩
          · walk_at "rd"
            exact hN _ _ ⟨_, _, _, _, _, _, rfl, by walk_at "kp", by walk_at "bag", hf0, by walk_at "at", by omega⟩
        · walk_at "rd"
          exact hN _ _ ⟨_, _, _, _, _, _, rfl, k3, B3, hf0, e3, by omega⟩⟩)

end
section
variable {P : Program} {w : World} {K : PySem.W.Frag} {mg : Str → Option Value} {base : Heap}
def sp_q_schedule (K : PySem.W.Frag) : Sp := fun vs H Q E => ∃ (b l : Addr) (n m : Int), vs = [.ref b, .int n, .int m] ∧ Bag H b l ∧ 2 ≤ n ∧ n ≤ 1000 ∧ 0 ≤ m ∧ m ≤ 1000 ∧ ∀ r gs H', Kp [b] H H' → Bag H' b l → H r = none → H' r = some (.lst (Is gs)) → (gs.length : Int) ≤ m → (∀ g ∈ gs, 0 ≤ g ∧ g < n) → Q (.ref r) H'
theorem ok_q_schedule (T : Txt K mg) : FnOk P w K mg base CX0 2 T.f_q_schedule T.d_q_schedule ["_law_bag_here", "_law_size", "_law_most"] (sp_q_schedule K) := T.F_q_schedule.ok sc_q_schedule (by rintro vs H Q E ⟨b, l, n, m, rfl, -⟩; rfl)
  (fun cdv A outer s H vs Q E hr h => ⟨_, (pss_cons (ps_par3 (i := 3) (j := 4) (l := 5) rfl sc_q_schedule.nd rfl rfl rfl (by decide) (by decide) (by decide) rfl rfl rfl (pa_cons (pe_call (ok_q_take T) (hr.mono (by decide)) (by rfl) T.g_q_take T.F_q_take.kp T.b_q_take .nil pass0 (pa_cons (pv 0) (pa_cons (pe_op op_add (pv 2) pe_int) pa_nil))) (pa_cons (pe_call (ok_q_take T) (hr.mono (by decide)) (by rfl) T.g_q_take T.F_q_take.kp T.b_q_take .nil pass0 (pa_cons (pv 0) (pa_cons pe_int pa_nil))) (pa_cons (pe_call (ok_q_take T) (hr.mono (by decide)) (by rfl) T.g_q_take T.F_q_take.kp T.b_q_take .nil pass0 (pa_cons (pv 0) (pa_cons (pv 1) pa_nil))) pa_nil))) (by rfl))
    (pss_cons (ps_set (i := 6) sc_q_schedule.nd rfl (Or.inl rfl) (pe_lst (pa_cons (pe_call (ok_q_take T) (hr.mono (by decide)) (by rfl) T.g_q_take T.F_q_take.kp T.b_q_take .nil pass0 (pa_cons (pv 0) (pa_cons (pv 1) pa_nil))) (pa_cons (pe_call (ok_q_take T) (hr.mono (by decide)) (by rfl) T.g_q_take T.F_q_take.kp T.b_q_take .nil pass0 (pa_cons (pv 0) (pa_cons (pv 1) pa_nil))) pa_nil))))
    (pss_cons (ps_set (i := 7) sc_q_schedule.nd rfl (Or.inl rfl) (pe_lst pa_nil))
    (pss_cons (ps_for PassesOwn.never rfl (pi_range1 (by rfl) T.m_range (pa_cons (pv 3) pa_nil)) (pg_name (i := 8) sc_q_schedule.nd rfl (Or.inl rfl)) (pss_cons (ps_set (i := 9) sc_q_schedule.nd rfl (Or.inl rfl) (pe_ix ix_list (pe_lst (pa_cons (pe_call (ok_q_take T) (hr.mono (by decide)) (by rfl) T.g_q_take T.F_q_take.kp T.b_q_take .nil pass0 (pa_cons (pv 0) (pa_cons (pv 1) pa_nil))) (pa_cons (pe_ix ix_list (pv 6) (pe_op op_mod (pv 8) pe_int) (fun _ _ => rfl)) (pa_cons (pe_op op_mod (pe_op op_add (pv 5) (pv 8)) (pv 1)) (pa_cons (pe_op op_mod (pe_op op_sub (pv 5) (pv 8)) (pv 1)) pa_nil))))) (pe_callB (call_min2 rfl) (by rfl) T.m_min (by decide +kernel) (pa_cons (pv 4) (pa_cons pe_int pa_nil))) (fun _ _ => rfl)))
    (pss_cons (ps_if (pt_cmpR op_eq (pv 4) pe_int (nomark _)) (pss_one (ps_set (i := 9) sc_q_schedule.nd rfl (Or.inl rfl) (pe_op op_mod (pe_callB call_abs (by rfl) T.m_abs (by decide +kernel) (pa_cons (pe_op op_add (pe_op op_sub (pe_op op_mod (pe_op op_add (pv 5) (pv 8)) (pe_op op_sub (pe_op op_mul pe_int (pv 1)) pe_int)) (pv 1)) pe_int) pa_nil)) (pv 1)))) pss_nil)
    (pss_cons (ps_if (pt_cmpR op_eq (pv 4) pe_int (nomark _)) (pss_one (ps_set (i := 9) sc_q_schedule.nd rfl (Or.inl rfl) (pe_call (ok_q_take T) (hr.mono (by decide)) (by rfl) T.g_q_take T.F_q_take.kp T.b_q_take .nil pass0 (pa_cons (pv 0) (pa_cons (pe_callB (call_max2 rfl) (by rfl) T.m_max (by decide +kernel) (pa_cons pe_int (pa_cons (pe_op op_sub (pv 1) pe_int) pa_nil))) pa_nil))))) pss_nil)
    (pss_one (ps_expr (pe_bm PySem.F.plainAttrs_list PySem.F.slot_list_append PySem.F.type_list_append mt_append (pv 7) (pa_cons (pv 9) pa_nil))))))))
    (pss_one (ps_ret (pv 7))))))), by
    obtain ⟨b, l, n, m, rfl, hB, h2, hn, hm0, hm, q⟩ := h
    walk_at "rd"
    rename_i many H1 k1 B1 m1 m2 way H2 k2 B2 w1 w2 beg H3 k3 B3 b1 b2 u H4 k4 B4 u1 u2 v H5 k5 B5 v1 v2 few H6 n6 k6 e6 f H7 n7 k7 e7
    have hf0 : H f = none := by
      have := k6.free0 n7
      walk_at "free"
    have nf : f ≠ b ∧ f ≠ l := Bag.nn n7 (by walk_at "bag")
    have nw : few ≠ b ∧ few ≠ l := Bag.nn n6 (by walk_at "bag")
    have ff : few ≠ f := ne_new n7 e6
    refine loop1 (by omega) (by omega) (fun i σ' H' => ∃ x8 x9 gs, σ' = [some (.ref b), some (.int n), some (.int m), some (.int many), some (.int way), some (.int beg), some (.ref few), some (.ref f), x8, x9] ∧ Kp [b] H H' ∧ Bag H' b l ∧ H' few = some (.lst [.int u, .int v]) ∧ H' f = some (.lst (Is gs)) ∧ gs.length = i ∧ (∀ g ∈ gs, 0 ≤ g ∧ g < n)) ⟨none, none, [], rfl, by walk_at "kp", by walk_at "bag", by walk_at "at", e7, rfl, by simp⟩ ?_ ?_
    · rintro i _ H8 hi ⟨x8, x9, gs, rfl, k8, B8, e8, g8, hl, hg⟩
      walk_at "rd"
      rename_i t H9 k9 B9 t1 t2
      refine rd_ixM (SqL.of (by walk_at "at")) (Int.emod_nonneg _ (by decide)) (by simp; omega) fun w hw => ?_
      obtain ⟨w', rfl, w0, w1⟩ : ∃ w', w = .int w' ∧ 0 ≤ w' ∧ w' < n := by
        simp only [List.mem_cons, List.not_mem_nil, or_false] at hw
        rcases hw with rfl | rfl
        · exact ⟨_, rfl, by omega, by omega⟩
        · exact ⟨_, rfl, by omega, by omega⟩
      walk_at "rd"
      refine rd_ixM (SqL.of (by assumption)) (by omega) (by simp; omega) fun z hz => ?_
      obtain ⟨z', rfl, z0, z1⟩ : ∃ z', z = .int z' ∧ 0 ≤ z' ∧ z' < n := by
        simp only [List.mem_cons, List.not_mem_nil, or_false] at hz
        rcases hz with rfl | rfl | rfl | rfl
        · exact ⟨_, rfl, by omega, by omega⟩
        · exact ⟨_, rfl, by omega, by omega⟩
        · exact ⟨_, rfl, Int.emod_nonneg _ (by omega), Int.emod_lt_of_pos _ (by omega)⟩
        · exact ⟨_, rfl, Int.emod_nonneg _ (by omega), Int.emod_lt_of_pos _ (by omega)⟩
      by_cases h4 : way = 4
      · have hz4 : ∀ z : Int, 0 ≤ z % n ∧ z % n < n := fun z => ⟨Int.emod_nonneg _ (by omega), Int.emod_lt_of_pos _ (by omega)⟩
        walk_at "rd"
        refine rd_appI (xs := gs) (by walk_at "at") (by omega) fun H10 k10 e10 => ?_
        walk_at "rd"
        exact ⟨_, _, _, rfl, by walk_at "kp", by walk_at "bag", by walk_at "at", e10, by simp [hl], fun g hg' => by
          rcases List.mem_append.mp hg' with h | h
          · exact hg g h
          · obtain rfl := List.mem_singleton.mp h
            exact hz4 _⟩
      · by_cases h5 : way = 5
        · walk_at "rd"
          refine rd_appI (xs := gs) (by walk_at "at") (by omega) fun H10 k10 e10 => ?_
          walk_at "rd"
          exact ⟨_, _, _, rfl, by walk_at "kp", by walk_at "bag", by walk_at "at", e10, by simp [hl], fun g hg' => by
            rcases List.mem_append.mp hg' with h | h
            · exact hg g h
            · obtain rfl := List.mem_singleton.mp h
              omega⟩
        · walk_at "rd"
          refine rd_appI (xs := gs) (by walk_at "at") (by omega) fun H10 k10 e10 => ?_
          walk_at "rd"
          exact ⟨_, _, _, rfl, by walk_at "kp", by walk_at "bag", by walk_at "at", e10, by simp [hl], fun g hg' => by
            rcases List.mem_append.mp hg' with h | h
            · exact hg g h
            · obtain rfl := List.mem_singleton.mp h
              exact ⟨z0, z1⟩⟩
    · rintro _ H8 ⟨x8, x9, gs, rfl, k8, B8, e8, g8, hl, hg⟩
      walk_at "rd"
      exact q _ _ _ k8 B8 hf0 g8 (by omega) hg⟩)
def sp_q_standing (K : PySem.W.Frag) : Sp := fun vs H Q E => ∃ (n : Int), vs = [.int n] ∧ 0 ≤ n ∧ n ≤ 1000 ∧ ∀ r H', Kp [] H H' → H r = none → H' r = some (.lst (Is (rangeI n))) → Q (.ref r) H'
theorem ok_q_standing (T : Txt K mg) : FnOk P w K mg base CX0 1 T.f_q_standing T.d_q_standing ["_law_size"] (sp_q_standing K) := T.F_q_standing.ok sc_q_standing (by rintro vs H Q E ⟨m, rfl, -⟩; rfl)
  (fun cdv A outer s H vs Q E hr h => ⟨_, (pss_one (ps_ret (pe_listRg rfl (by rfl) T.m_list (prg_1 (by rfl) T.m_range (pv 0))))), by
    obtain ⟨n, rfl, h0, hn, q⟩ := h
    walk_at "rd"
    exact q _ _ (by assumption) (by assumption) (by assumption)⟩)

end
section
variable {P : Program} {w : World} {K : PySem.W.Frag} {mg : Str → Option Value} {base : Heap}
/-- the second of a call's two: beside, or the first place's of the next lap -/
def nextV (rs ts : List Int) (g : Int) : Int := if g < (rs.length : Int) - 1 then gi ts (g + 1) else gi ts 0 + rs.length
def calledB (rs ts : List Int) (g : Int) : Bool := decide (gi rs (nextV rs ts g % rs.length) < gi rs (gi ts g % rs.length))
def swapT (rs ts : List Int) (g : Int) : List Int :=
  if g < (rs.length : Int) - 1 then (ts.set g.toNat (gi ts (g + 1))).set (g + 1).toNat (gi ts g) else (ts.set ((rs.length : Int) - 1).toNat (gi ts 0 + rs.length)).set (0 : Int).toNat (gi ts g - rs.length)
def calledS (rs ts : List Int) (g : Int) : List Int := if calledB rs ts g = true then swapT rs ts g else ts
theorem calledS_length (rs ts : List Int) (g : Int) : (calledS rs ts g).length = ts.length := by
  unfold calledS swapT
  split
  · split <;> simp
  · rfl
def b2i (b : Bool) : Int := if b then 1 else 0
def stepC (rs : List Int) (bound : Int) (st : List Int × List Int) (g : Int) : List Int × List Int :=
  if calledB rs st.1 g = true then (swapT rs st.1 g, st.2.set g.toNat (gi st.2 g + (b2i (decide (bound ≤ gi rs (gi st.1 g % rs.length))) - b2i (decide (bound ≤ gi rs (gi (swapT rs st.1 g) g % rs.length)))))) else st
def crossL (rs gs : List Int) (bound : Int) : List Int := (gs.foldl (stepC rs bound) (rangeI rs.length, List.replicate rs.length 0)).2
def remL (gs ls : List Int) : List Int := (List.range gs.length).filterMap fun i : Nat => if (i : Int) ∈ ls then none else some (gi gs i)
def ordL (gs xs : List Int) : List Int := (List.range gs.length).filterMap fun i : Nat => if (i : Int) ∈ xs then some (i : Int) else none
def sp_q_called (K : PySem.W.Frag) : Sp := fun vs H Q E => ∃ (r t : Addr) (g : Int) (rs ts : List Int), vs = [.ref r, .ref t, .int g] ∧ H r = some (.lst (Is rs)) ∧ H t = some (.lst (Is ts)) ∧ r ≠ t ∧ ts.length = rs.length ∧ 2 ≤ rs.length ∧ rs.length ≤ 1000 ∧ 0 ≤ g ∧ g < rs.length ∧
  ∀ H', Kp [t] H H' → H' t = some (.lst (Is (calledS rs ts g))) → Q (.bl (calledB rs ts g)) H'
theorem ok_q_called (T : Txt K mg) : FnOk P w K mg base CX0 1 T.f_q_called T.d_q_called ["_law_ranks_here", "_law_there", "_law_gap"] (sp_q_called K) := T.F_q_called.ok sc_q_called (by rintro vs H Q E ⟨r, t, g, rs, ts, rfl, -⟩; rfl)
  (fun cdv A outer s H vs Q E hr h => ⟨_, (pss_cons (ps_set (i := 3) sc_q_called.nd rfl (Or.inl rfl) (pe_callB call_len_seq (by rfl) T.m_len (by decide +kernel) (pa_cons (pv 0) pa_nil)))
    (pss_cons (ps_if (pt_cmpR op_lt (pv 2) (pe_op op_sub (pv 3) pe_int) (nomark _)) (pss_cons (ps_par (i := 4) (j := 5) rfl sc_q_called.nd rfl rfl (by decide) rfl rfl (pa_cons (pe_ix ix_list (pv 1) (pv 2) (fun _ _ => rfl)) (pa_cons (pe_ix ix_list (pv 1) (pe_op op_add (pv 2) pe_int) (fun _ _ => rfl)) pa_nil)) (by rfl))
    (pss_cons (ps_if (pt_cmpR op_gt (pe_ix ix_list (pv 0) (pe_op op_mod (pv 4) (pv 3)) (fun _ _ => rfl)) (pe_ix ix_list (pv 0) (pe_op op_mod (pv 5) (pv 3)) (fun _ _ => rfl)) (nomark _)) (pss_cons (ps_asg (pe_tup (pa_cons (pv 5) (pa_cons (pv 4) pa_nil))) (pg_tup rfl (pgs_cons (pg_sub (pv 1) (pv 2) set_list) (pgs_cons (pg_sub (pv 1) (pe_op op_add (pv 2) pe_int) set_list) pgs_nil))))
    (pss_one (ps_ret pe_bl))) pss_nil)
    (pss_one (ps_ret pe_bl)))) pss_nil)
    (pss_cons (ps_par (i := 4) (j := 5) rfl sc_q_called.nd rfl rfl (by decide) rfl rfl (pa_cons (pe_ix ix_list (pv 1) (pe_op op_sub (pv 3) pe_int) (fun _ _ => rfl)) (pa_cons (pe_op op_add (pe_ix ix_list (pv 1) pe_int (fun _ _ => rfl)) (pv 3)) pa_nil)) (by rfl))
    (pss_cons (ps_if (pt_cmpR op_gt (pe_ix ix_list (pv 0) (pe_op op_mod (pv 4) (pv 3)) (fun _ _ => rfl)) (pe_ix ix_list (pv 0) (pe_op op_mod (pv 5) (pv 3)) (fun _ _ => rfl)) (nomark _)) (pss_cons (ps_asg (pe_tup (pa_cons (pv 5) (pa_cons (pe_op op_sub (pv 4) (pv 3)) pa_nil))) (pg_tup rfl (pgs_cons (pg_sub (pv 1) (pe_op op_sub (pv 3) pe_int) set_list) (pgs_cons (pg_sub (pv 1) pe_int set_list) pgs_nil))))
    (pss_one (ps_ret pe_bl))) pss_nil)
    (pss_one (ps_ret pe_bl)))))), by
    obtain ⟨r, t, g, rs, ts, rfl, hr', ht, hrt, hl, h2, hn, h0, hg, q⟩ := h
    have hm : ∀ z : Int, 0 ≤ z % (rs.length : Int) ∧ z % (rs.length : Int) < rs.length := fun z => ⟨Int.emod_nonneg _ (by omega), Int.emod_lt_of_pos _ (by omega)⟩
    have m1 := hm (gi ts g)
    by_cases hlast : g < (rs.length : Int) - 1
    · have m2 := hm (gi ts (g + 1))
      have en : nextV rs ts g = gi ts (g + 1) := if_pos hlast
      walk_at "rd"
      refine rd_d (fun h => ?_) (fun h => ?_)
      · have eb : calledB rs ts g = true := by unfold calledB; rw [en]; exact decide_eq_true h
        walk_at "rd"
        rw [eb] at q
        exact q _ (by walk_at "kp") (by unfold calledS swapT; rw [if_pos eb, if_pos hlast]; assumption)
      · have eb : calledB rs ts g = false := by unfold calledB; rw [en]; exact decide_eq_false h
        walk_at "rd"
        rw [eb] at q
        exact q _ (by walk_at "kp") (by unfold calledS; rw [eb]; assumption)
    · obtain rfl : g = (rs.length : Int) - 1 := by omega
      have m2 := hm (gi ts 0 + rs.length)
      have en : nextV rs ts ((rs.length : Int) - 1) = gi ts 0 + rs.length := if_neg hlast
      walk_at "rd"
      refine rd_d (fun h => ?_) (fun h => ?_)
      · have eb : calledB rs ts ((rs.length : Int) - 1) = true := by unfold calledB; rw [en]; exact decide_eq_true h
        walk_at "rd"
        rw [eb] at q
        exact q _ (by walk_at "kp") (by unfold calledS swapT; rw [if_pos eb, if_neg hlast]; assumption)
      · have eb : calledB rs ts ((rs.length : Int) - 1) = false := by unfold calledB; rw [en]; exact decide_eq_false h
        walk_at "rd"
        rw [eb] at q
        exact q _ (by walk_at "kp") (by unfold calledS; rw [eb]; assumption)⟩)
theorem rd_called {H : Hp} {Q : VK} {EE : XK} {r t : Addr} {g : Int} {rs ts : List Int} (hr : H r = some (.lst (Is rs))) (ht : H t = some (.lst (Is ts))) (hrt : r ≠ t) (hl : ts.length = rs.length) (h2 : 2 ≤ rs.length) (hn : rs.length ≤ 1000) (h0 : 0 ≤ g) (hg : g < rs.length)
    (q : ∀ H', Kp [t] H H' → H' t = some (.lst (Is (calledS rs ts g))) → Q (.bl (calledB rs ts g)) H') : sp_q_called K ([.ref r, .ref t, .int g] ++ []) H Q EE := ⟨r, t, g, rs, ts, rfl, hr, ht, hrt, hl, h2, hn, h0, hg, q⟩
theorem stepC_len {rs : List Int} {bound : Int} {st : List Int × List Int} {g : Int} {n : Nat} (h : st.1.length = n ∧ st.2.length = n) : (stepC rs bound st g).1.length = n ∧ (stepC rs bound st g).2.length = n := by
  unfold stepC
  split
  · unfold swapT
    constructor
    · split <;> simp [h.1]
    · simp [h.2]
  · exact h
theorem foldC_len {rs : List Int} {bound : Int} {n : Nat} : ∀ (gs : List Int) (st : List Int × List Int), st.1.length = n ∧ st.2.length = n → (gs.foldl (stepC rs bound) st).1.length = n ∧ (gs.foldl (stepC rs bound) st).2.length = n
  | [], _, h => h
  | _ :: r, _, h => foldC_len r _ (stepC_len h)
def initC (rs : List Int) : List Int × List Int := (rangeI rs.length, List.replicate rs.length 0)
theorem initC_len (rs : List Int) : (initC rs).1.length = rs.length ∧ (initC rs).2.length = rs.length := by
  unfold initC
  rw [rangeI_length, List.length_replicate, Int.toNat_natCast]
  exact ⟨rfl, rfl⟩
theorem crossL_length (rs gs : List Int) (bound : Int) : (crossL rs gs bound).length = rs.length := (foldC_len gs _ (initC_len rs)).2
def sp_q_crossings (K : PySem.W.Frag) : Sp := fun vs H Q E => ∃ (r p : Addr) (bound : Int) (rs gs : List Int), vs = [.ref r, .ref p, .int bound] ∧ H r = some (.lst (Is rs)) ∧ H p = some (.lst (Is gs)) ∧ 2 ≤ rs.length ∧ rs.length ≤ 1000 ∧ gs.length ≤ 1000 ∧ (∀ g ∈ gs, 0 ≤ g ∧ g < rs.length) ∧
  ∀ f H', Kp [] H H' → H f = none → H' f = some (.lst (Is (crossL rs gs bound))) → Q (.ref f) H'
theorem ok_q_crossings (T : Txt K mg) : FnOk P w K mg base CX0 2 T.f_q_crossings T.d_q_crossings ["_law_ranks_here", "_law_schedule_here", "_law_bound"] (sp_q_crossings K) := T.F_q_crossings.ok sc_q_crossings (by rintro vs H Q E ⟨r, t, g, rs, ts, rfl, -⟩; rfl)
  (fun cdv A outer s H vs Q E hr h => ⟨_, (pss_cons (ps_par (i := 3) (j := 4) rfl sc_q_crossings.nd rfl rfl (by decide) rfl rfl (pa_cons (pe_callB call_len_seq (by rfl) T.m_len (by decide +kernel) (pa_cons (pv 0) pa_nil)) (pa_cons (pe_call (ok_q_standing T) (hr.mono (by decide)) (by rfl) T.g_q_standing T.F_q_standing.kp T.b_q_standing .nil pass0 (pa_cons (pe_callB call_len_seq (by rfl) T.m_len (by decide +kernel) (pa_cons (pv 0) pa_nil)) pa_nil)) pa_nil)) (by rfl))
    (pss_cons (ps_set (i := 5) sc_q_crossings.nd rfl (Or.inl rfl) (pe_op op_rep (pe_lst (pa_cons pe_int pa_nil)) (pv 3)))
    (pss_cons (ps_for PassesOwn.never rfl (pi_list (pv 1)) (pg_name (i := 6) sc_q_crossings.nd rfl (Or.inl rfl)) (pss_cons (ps_set (i := 7) sc_q_crossings.nd rfl (Or.inl rfl) (pe_ix ix_list (pv 0) (pe_op op_mod (pe_ix ix_list (pv 4) (pv 6) (fun _ _ => rfl)) (pv 3)) (fun _ _ => rfl)))
    (pss_one (ps_if (pt_val (pe_call (ok_q_called T) (hr.mono (by decide)) (by rfl) T.g_q_called T.F_q_called.kp T.b_q_called .nil pass0 (pa_cons (pv 0) (pa_cons (pv 4) (pa_cons (pv 6) pa_nil))))) (pss_cons (ps_set (i := 8) sc_q_crossings.nd rfl (Or.inl rfl) (pe_ix ix_list (pv 0) (pe_op op_mod (pe_ix ix_list (pv 4) (pv 6) (fun _ _ => rfl)) (pv 3)) (fun _ _ => rfl)))
    (pss_one (ps_augS (pv 5) (pv 6) get_list (pe_op op_sub (pe_callTy call_int1 (by rfl) T.m_int (by decide +kernel) (pa_cons (pe_cmpR op_ge (pv 7) (pv 2) (nomark _)) pa_nil)) (pe_callTy call_int1 (by rfl) T.m_int (by decide +kernel) (pa_cons (pe_cmpR op_ge (pv 8) (pv 2) (nomark _)) pa_nil))) ip_add set_list))) pss_nil))))
    (pss_one (ps_ret (pv 5)))))), by
    obtain ⟨r, p, bound, rs, gs, rfl, er, ep, h2, hn, hg0, hg, q⟩ := h
    walk_at "rd"
    refine ⟨_, rfl, by omega, by omega, fun t H1 k1 n1 e1 => ?_⟩
    walk_at "rd"
    rename_i c H2 n2 k2 e2 f H3 n3 k3 e3
    have hrt : r ≠ t := ne_new n1 er
    have hft : t ≠ f := ne_new n3 (k2.at0 e1)
    have hrf : r ≠ f := by walk_at "ne"
    have hpf : p ≠ f := by walk_at "ne"
    have hpt : p ≠ t := by walk_at "ne"
    have hf0 : H f = none := by walk_at "free"
    refine loopI (SqL.of (by walk_at "at")) (fun i σ' H' => ∃ x6 x7 x8, σ' = [some (.ref r), some (.ref p), some (.int bound), some (.int rs.length), some (.ref t), some (.ref f), x6, x7, x8] ∧ Kp [] H H' ∧ H' t = some (.lst (Is ((gs.take i).foldl (stepC rs bound) (initC rs)).1)) ∧
      H' f = some (.lst (Is ((gs.take i).foldl (stepC rs bound) (initC rs)).2))) ⟨none, none, none, rfl, by walk_at "kp", by walk_at "at", e3⟩ ?_ ?_ ?_
    · rintro i _ H4 hi ⟨x6, x7, x8, rfl, k4, e4, f4⟩
      exact SqL.of (k4.at0 ep)
    · rintro i g _ H4 hi ⟨x6, x7, x8, rfl, k4, e4, f4⟩
      obtain ⟨g0, g1⟩ := hg g (List.mem_of_getElem? hi)
      have hln := foldC_len (rs := rs) (bound := bound) (gs.take i) _ (initC_len rs)
      have hst : (gs.take (i + 1)).foldl (stepC rs bound) (initC rs) = stepC rs bound ((gs.take i).foldl (stepC rs bound) (initC rs)) g := by
        rw [List.take_add_one, hi, List.foldl_append]
        rfl
      rw [hst]
      generalize hS : (gs.take i).foldl (stepC rs bound) (initC rs) = st at e4 f4 hln ⊢
      obtain ⟨ts, fs⟩ := st
      obtain ⟨l1, l2⟩ := hln
      simp only at e4 f4 l1 l2
      have hm : ∀ z : Int, 0 ≤ z % (rs.length : Int) ∧ z % (rs.length : Int) < rs.length := fun z => ⟨Int.emod_nonneg _ (by omega), Int.emod_lt_of_pos _ (by omega)⟩
      have m1 := hm (gi ts g)
      have m2 := hm (gi (swapT rs ts g) g)
      have l3 : (swapT rs ts g).length = rs.length := by unfold swapT; split <;> simp [l1]
      walk_at "rd"
      refine rd_called (by walk_at "at") e4 hrt l1 h2 hn g0 g1 fun H5 k5 e5 => ?_
      walk_at "rd"
      refine rd_b (fun hb => ?_) (fun hb => ?_)
      · rw [calledS, if_pos hb] at e5
        walk_at "rd"
        rw [stepC, if_pos hb]
        exact ⟨_, _, _, rfl, by walk_at "kp", by walk_at "at", by assumption⟩
      · rw [calledS, if_neg (by rw [hb]; decide)] at e5
        walk_at "rd"
        rw [stepC, if_neg (by rw [hb]; decide)]
        exact ⟨_, _, _, rfl, by walk_at "kp", e5, by walk_at "at"⟩
    · rintro _ H4 ⟨x6, x7, x8, rfl, k4, e4, f4⟩
      rw [List.take_length] at f4
      walk_at "rd"
      exact q _ _ k4 hf0 f4⟩)

end
section
variable {P : Program} {w : World} {K : PySem.W.Frag} {mg : Str → Option Value} {base : Heap}
def sp_q_remaining (K : PySem.W.Frag) : Sp := fun vs H Q E => ∃ (p r : Addr) (gs ls : List Int), vs = [.ref p, .ref r] ∧ H p = some (.lst (Is gs)) ∧ H r = some (.lst (Is ls)) ∧ gs.length ≤ 1000 ∧ ∀ f H', Kp [] H H' → H f = none → H' f = some (.lst (Is (remL gs ls))) → Q (.ref f) H'
theorem ok_q_remaining (T : Txt K mg) : FnOk P w K mg base CX0 1 T.f_q_remaining T.d_q_remaining ["_law_schedule_here", "_law_lost"] (sp_q_remaining K) := T.F_q_remaining.ok sc_q_remaining (by rintro vs H Q E ⟨r, t, g, rs, rfl, -⟩; rfl)
  (fun cdv A outer s H vs Q E hr h => ⟨_, (pss_one (ps_ret (pe_lc (own := [("_law_at", 2)]) (g := gName 2) rfl sc_q_remaining.nd (pi_range1 (by rfl) T.m_range (pa_cons (pe_callB call_len_seq (by rfl) T.m_len (by decide +kernel) (pa_cons (pv 0) pa_nil)) pa_nil)) (blkOk_by (own := [("_law_at", 2)]) (N := ["_law_schedule_here", "_law_lost", "_law_at"]) (sc := defScope s_q_remaining) (by decide +kernel)) (fun _ _ _ _ _ => (pg_name (i := 2) sc_q_remaining.nd rfl (Or.inl rfl))) (fun _ _ _ _ _ => (pts_one (pt_cmpR op_notIn_seqB (pv 2) (pv 1) rfl))) (fun _ _ _ _ _ => (pe_ix ix_listB (pv 0) (pv 2) (fun _ _ => rfl)))))), by
    obtain ⟨p, r, gs, ls, rfl, ep, er, hl, q⟩ := h
    walk_at "rd"
    refine loopLcR 2 (fun i => if (i : Int) ∈ ls then none else some (gi gs i)) (by omega) (by omega) (fun m H1 N hm k1 hN => ?_) fun D H1 n1 k1 e1 => ?_
    · walk_at "rd"
      refine rd_nd (fun h => ?_) (fun h => ?_)
      · walk_at "rd"
        have := hN _ .refl
        rw [if_neg h] at this
        exact this
      · have := hN _ .refl
        rw [if_pos h] at this
        exact this
    · exact q _ _ k1 n1 (by rw [e1]; rfl)⟩)
def sp_q_in_order (K : PySem.W.Frag) : Sp := fun vs H Q E => ∃ (p r : Addr) (gs ls : List Int), vs = [.ref p, .ref r] ∧ H p = some (.lst (Is gs)) ∧ H r = some (.lst (Is ls)) ∧ gs.length ≤ 1000 ∧ ∀ f H', Kp [] H H' → H f = none → H' f = some (.lst (Is (ordL gs ls))) → Q (.ref f) H'
theorem ok_q_in_order (T : Txt K mg) : FnOk P w K mg base CX0 1 T.f_q_in_order T.d_q_in_order ["_law_schedule_here", "_law_indexes"] (sp_q_in_order K) := T.F_q_in_order.ok sc_q_in_order (by rintro vs H Q E ⟨r, t, g, rs, rfl, -⟩; rfl)
  (fun cdv A outer s H vs Q E hr h => ⟨_, (pss_one (ps_ret (pe_lc (own := [("_law_at", 2)]) (g := gName 2) rfl sc_q_in_order.nd (pi_range1 (by rfl) T.m_range (pa_cons (pe_callB call_len_seq (by rfl) T.m_len (by decide +kernel) (pa_cons (pv 0) pa_nil)) pa_nil)) (blkOk_by (own := [("_law_at", 2)]) (N := ["_law_schedule_here", "_law_indexes", "_law_at"]) (sc := defScope s_q_in_order) (by decide +kernel)) (fun _ _ _ _ _ => (pg_name (i := 2) sc_q_in_order.nd rfl (Or.inl rfl))) (fun _ _ _ _ _ => (pts_one (pt_cmpR op_in_seqB (pv 2) (pv 1) rfl))) (fun _ _ _ _ _ => (pv 2))))), by
    obtain ⟨p, r, gs, ls, rfl, ep, er, hl, q⟩ := h
    walk_at "rd"
    refine loopLcR 2 (fun i => if (i : Int) ∈ ls then some (i : Int) else none) (by omega) (by omega) (fun m H1 N hm k1 hN => ?_) fun D H1 n1 k1 e1 => ?_
    · walk_at "rd"
      refine rd_d (fun h => ?_) (fun h => ?_)
      · walk_at "rd"
        have := hN _ .refl
        rw [if_pos h] at this
        exact this
      · have := hN _ .refl
        rw [if_neg h] at this
        exact this
    · exact q _ _ k1 n1 (by rw [e1]; rfl)⟩)
def sp_q_mixed (K : PySem.W.Frag) : Sp := fun vs H Q E => ∃ (b l p : Addr) (xs : List Int), vs = [.ref b, .ref p] ∧ Bag H b l ∧ H p = some (.lst (Is xs)) ∧ p ≠ b ∧ xs.length ≤ 1000 ∧ ∀ f zs H', Kp [b] H H' → Bag H' b l → H f = none → H' f = some (.lst (Is zs)) → zs.Perm xs → Q (.ref f) H'
theorem ok_q_mixed (T : Txt K mg) : FnOk P w K mg base CX0 2 T.f_q_mixed T.d_q_mixed ["_law_bag_here", "_law_things"] (sp_q_mixed K) := T.F_q_mixed.ok sc_q_mixed (by rintro vs H Q E ⟨r, t, g, rs, rfl, -⟩; rfl)
  (fun cdv A outer s H vs Q E hr h => ⟨_, (pss_cons (ps_set (i := 2) sc_q_mixed.nd rfl (Or.inl rfl) (pe_lst pa_nil))
    (pss_cons (ps_for PassesOwn.never rfl (pi_list (pv 1)) (pg_name (i := 3) sc_q_mixed.nd rfl (Or.inl rfl)) (pss_one (ps_expr (pe_bm PySem.F.plainAttrs_list PySem.F.slot_list_insert PySem.F.type_list_insert mt_insert (pv 2) (pa_cons (pe_call (ok_q_take T) (hr.mono (by decide)) (by rfl) T.g_q_take T.F_q_take.kp T.b_q_take .nil pass0 (pa_cons (pv 0) (pa_cons (pe_op op_add (pe_callB call_len_seq (by rfl) T.m_len (by decide +kernel) (pa_cons (pv 2) pa_nil)) pe_int) pa_nil))) (pa_cons (pv 3) pa_nil))))))
    (pss_one (ps_ret (pv 2))))), by
    obtain ⟨b, l, p, xs, rfl, hB, ep, hpb, hl, q⟩ := h
    walk_at "rd"
    rename_i f H1 n1 k1 e1
    have nf := Bag.nn n1 hB
    have hpf : p ≠ f := by walk_at "ne"
    refine loopI (SqL.of (by walk_at "at")) (fun i σ' H' => ∃ x3 zs, σ' = [some (.ref b), some (.ref p), some (.ref f), x3] ∧ Kp [b] H H' ∧ Bag H' b l ∧ H' f = some (.lst (Is zs)) ∧ zs.Perm (xs.take i)) ⟨none, [], rfl, by walk_at "kp", by walk_at "bag", e1, by simp⟩ ?_ ?_ ?_
    · rintro i _ H2 hi ⟨x3, zs, rfl, k2, B2, e2, hz⟩
      exact SqL.of (k2.at1 ep hpb)
    · rintro i g _ H2 hi ⟨x3, zs, rfl, k2, B2, e2, hz⟩
      have hlz : zs.length ≤ 1000 := by rw [hz.length_eq, List.length_take]; omega
      walk_at "rd"
      rename_i v H3 k3 B3 v0 v1
      refine rd_insI (ns := zs) (by walk_at "at") (by omega) v0 (by omega) fun H4 k4 e4 => ?_
      walk_at "rd"
      refine ⟨_, _, rfl, by walk_at "kp", by walk_at "bag", e4, ?_⟩
      rw [List.take_add_one, hi]
      have h1 : (zs.take v.toNat ++ [g] ++ zs.drop v.toNat).Perm (zs ++ [g]) := by
        have : (zs.take v.toNat ++ [g] ++ zs.drop v.toNat).Perm (zs.take v.toNat ++ zs.drop v.toNat ++ [g]) := by
          rw [List.append_assoc, List.append_assoc]
          exact List.Perm.append_left _ List.perm_append_comm
        rwa [List.take_append_drop] at this
      exact h1.trans (hz.append_right _)
    · rintro _ H2 ⟨x3, zs, rfl, k2, B2, e2, hz⟩
      rw [List.take_length] at hz
      walk_at "rd"
      exact q _ _ _ k2 B2 n1 e2 hz⟩)
def sp_q_drawn_loss (K : PySem.W.Frag) : Sp := fun vs H Q E => ∃ (b l p : Addr) (gs : List Int) (m : Int), vs = [.ref b, .ref p, .int m] ∧ Bag H b l ∧ H p = some (.lst (Is gs)) ∧ p ≠ b ∧ gs.length ≤ 1000 ∧ 0 ≤ m ∧
  ∀ f zs H', Kp [b] H H' → Bag H' b l → H f = none → H' f = some (.lst (Is zs)) → zs.Nodup → (∀ z ∈ zs, 0 ≤ z ∧ z < gs.length) → (zs.length : Int) ≤ m → Q (.ref f) H'
theorem ok_q_drawn_loss (T : Txt K mg) : FnOk P w K mg base CX0 3 T.f_q_drawn_loss T.d_q_drawn_loss ["_law_bag_here", "_law_schedule_here", "_law_many"] (sp_q_drawn_loss K) := T.F_q_drawn_loss.ok sc_q_drawn_loss (by rintro vs H Q E ⟨r, t, g, rs, m, rfl, -⟩; rfl)
  (fun cdv A outer s H vs Q E hr h => ⟨_, (pss_one (ps_ret (pe_callB cr_sortedI (by rfl) T.m_sorted (by decide +kernel) (pa_cons (pe_slice sl_list (pe_call (ok_q_mixed T) (hr.mono (by decide)) (by rfl) T.g_q_mixed T.F_q_mixed.kp T.b_q_mixed .nil pass0 (pa_cons (pv 0) (pa_cons (pe_listRg rfl (by rfl) T.m_list (prg_1 (by rfl) T.m_range (pe_callB call_len_seq (by rfl) T.m_len (by decide +kernel) (pa_cons (pv 1) pa_nil)))) pa_nil))) po_none (po_some (pv 2))) pa_nil)))), by
    obtain ⟨b, l, p, gs, m, rfl, hB, ep, hpb, hl, hm, q⟩ := h
    walk_at "rd"
    rename_i c H1 n1 k1 e1
    refine ⟨b, l, c, _, rfl, by walk_at "bag", e1, (Bag.nn n1 hB).1, by rw [rangeI_length]; omega, fun f zs H2 k2 B2 n2 e2 hz => ?_⟩
    walk_at "rd"
    rename_i c3 H3 n3 k3 e3 zs4 c4 H4 hz4 hs4 n4 k4 e4
    have hnd : zs.Nodup := hz.nodup_iff.mpr (rangeI_nodup _)
    refine q _ _ _ (by walk_at "kp") (by walk_at "bag") ?_ e4 (hz4.nodup_iff.mpr (hnd.sublist (List.take_sublist _ _))) (fun z h => rangeI_mem.mp (hz.mem_iff.mp (List.mem_of_mem_take (hz4.mem_iff.mp h)))) (by rw [hz4.length_eq, List.length_take]; omega)
    have := k3.free0 n4
    have nb : c4 ≠ b := (Bag.nn this B2).1
    exact k1.free0 (k2.free (by simpa using nb) this)⟩)
def sp_q_some_bound (K : PySem.W.Frag) : Sp := fun vs H Q E => ∃ (b l r : Addr) (rs : List Int), vs = [.ref b, .ref r] ∧ Bag H b l ∧ H r = some (.lst (Is rs)) ∧ r ≠ b ∧ 1 ≤ rs.length ∧ rs.length ≤ 1000 ∧ ∀ v H', Kp [b] H H' → Bag H' b l → Q (.int v) H'
theorem ok_q_some_bound (T : Txt K mg) : FnOk P w K mg base CX0 2 T.f_q_some_bound T.d_q_some_bound ["_law_bag_here", "_law_ranks_here"] (sp_q_some_bound K) := T.F_q_some_bound.ok sc_q_some_bound (by rintro vs H Q E ⟨r, t, g, rs, rfl, -⟩; rfl)
  (fun cdv A outer s H vs Q E hr h => ⟨_, (pss_cons (ps_set (i := 2) sc_q_some_bound.nd rfl (Or.inl rfl) (pe_ix ix_list (pv 1) (pe_call (ok_q_take T) (hr.mono (by decide)) (by rfl) T.g_q_take T.F_q_take.kp T.b_q_take .nil pass0 (pa_cons (pv 0) (pa_cons (pe_callB call_len_seq (by rfl) T.m_len (by decide +kernel) (pa_cons (pv 1) pa_nil)) pa_nil))) (fun _ _ => rfl)))
    (pss_one (ps_ret (pe_ix ix_list (pe_lst (pa_cons (pv 2) (pa_cons (pv 2) (pa_cons (pe_op op_add (pv 2) pe_int) (pa_cons (pe_callB (cr_min rfl) (by rfl) T.m_min (by decide +kernel) (pa_cons (pv 1) pa_nil)) (pa_cons (pe_op op_add (pe_callB (cr_max rfl) (by rfl) T.m_max (by decide +kernel) (pa_cons (pv 1) pa_nil)) pe_int) pa_nil)))))) (pe_call (ok_q_take T) (hr.mono (by decide)) (by rfl) T.g_q_take T.F_q_take.kp T.b_q_take .nil pass0 (pa_cons (pv 0) (pa_cons pe_int pa_nil))) (fun _ _ => rfl))))), by
    obtain ⟨b, l, r, rs, rfl, hB, er, hrb, h1, hl, q⟩ := h
    walk_at "rd"
    rename_i v H1 k1 B1 v0 v1
    refine rd_ixM (SqL.of (by walk_at "at")) v0 (by simpa using v1) fun z hz => ?_
    obtain ⟨z', rfl⟩ : ∃ z', z = .int z' := by
      simp only [List.mem_cons, List.not_mem_nil, or_false] at hz
      rcases hz with rfl | rfl | rfl | rfl | rfl <;> exact ⟨_, rfl⟩
    exact q _ _ (by walk_at "kp") B1⟩)

end
section
variable {P : Program} {w : World} {K : PySem.W.Frag} {mg : Str → Option Value} {base : Heap}
def sp_is_integer (K : PySem.W.Frag) : Sp := fun vs H Q E => ∃ n : Int, vs = [.int n] ∧ Q (.bl true) H
theorem ok_is_integer (T : Txt K mg) : FnOk P w K mg base CX0 1 T.f_is_integer T.d_is_integer ["thing"] (sp_is_integer K) := T.F_is_integer.ok sc_is_integer (by rintro vs H Q E ⟨n, rfl, -⟩; rfl)
  (fun cdv A outer s H vs Q E hr h => ⟨_, (pss_one (ps_ret (pe_and (pe_callB call_isi (by rfl) T.m_isinstance (by decide +kernel) (pa_cons (pv 0) (pa_cons (pe_bltn (v := .ty "int") (by rfl) T.m_int (by decide +kernel) rfl) pa_nil))) (pe_one (pe_not (pe_callB call_isi (by rfl) T.m_isinstance (by decide +kernel) (pa_cons (pv 0) (pa_cons (pe_bltn (v := .ty "bool") (by rfl) T.m_bool (by decide +kernel) rfl) pa_nil)))))))), by
    obtain ⟨n, rfl, q⟩ := h
    walk_at "rd"
    exact q⟩)
def sp_is_between (K : PySem.W.Frag) : Sp := fun vs H Q E => ∃ n a b : Int, vs = [.int n, .int a, .int b] ∧ a ≤ n ∧ n ≤ b ∧ Q (.bl true) H
theorem ok_is_between (T : Txt K mg) : FnOk P w K mg base CX0 2 T.f_is_between T.d_is_between ["thing", "least", "most"] (sp_is_between K) := T.F_is_between.ok sc_is_between (by rintro vs H Q E ⟨n, a, b, rfl, -⟩; rfl)
  (fun cdv A outer s H vs Q E hr h => ⟨_, (pss_one (ps_ret (pe_and (pe_call (ok_is_integer T) (hr.mono (by decide)) (by rfl) T.g_is_integer T.F_is_integer.kp T.b_is_integer .nil pass0 (pa_cons (pv 0) pa_nil)) (pe_one (pe_chain op_le op_le (pv 1) (pv 0) (pv 2)))))), by
    obtain ⟨n, a, b, rfl, h1, h2, q⟩ := h
    walk_at "rd"
    refine ⟨_, rfl, ?_⟩
    walk_at "rd"
    rw [decide_eq_true h2]
    exact q⟩)
def sp_is_size (K : PySem.W.Frag) : Sp := fun vs H Q E => ∃ n : Int, vs = [.int n] ∧ 2 ≤ n ∧ n ≤ 12 ∧ Q (.bl true) H
theorem ok_is_size (T : Txt K mg) : FnOk P w K mg base CX0 3 T.f_is_size T.d_is_size ["thing"] (sp_is_size K) := T.F_is_size.ok sc_is_size (by rintro vs H Q E ⟨n, rfl, -⟩; rfl)
  (fun cdv A outer s H vs Q E hr h => ⟨_, (pss_one (ps_ret (pe_call (ok_is_between T) (hr.mono (by decide)) (by rfl) T.g_is_between T.F_is_between.kp T.b_is_between .nil pass0 (pa_cons (pv 0) (pa_cons pe_int (pa_cons (pe_glob (v := .int 12) rfl T.c_MOST_PLACES ⟨_, rfl⟩) pa_nil)))))), by
    obtain ⟨n, rfl, h1, h2, q⟩ := h
    walk_at "rd"
    exact ⟨_, _, _, rfl, h1, h2, q⟩⟩)
def RingAt (H : Hp) (C o : Addr) (rs : List Int) : Prop := ∃ dx l, H o = some (.ins C dx [("rank_list", .ref l)]) ∧ H l = some (.lst (Is rs))
def sp_Ring_init (K : PySem.W.Frag) (C : Addr) : Sp := fun vs H Q E => ∃ (o dx p : Addr) (rs : List Int), vs = [.ref o, .ref p] ∧ H o = some (.ins C dx []) ∧ H p = some (.lst (Is rs)) ∧ 2 ≤ rs.length ∧ rs.length ≤ 12 ∧ ∀ H', Kp [o] H H' → RingAt H' C o rs → Q .non H'
theorem ok_Ring_init (T : Txt K mg) : FnOk P w K mg base CX0 4 T.f_Ring_init T.d_Ring_init ["self", "ranks"] (sp_Ring_init K T.C_Ring) := T.F_Ring_init.ok sc_Ring_init (by rintro vs H Q E ⟨n, b, c, d, rfl, -⟩; rfl)
  (fun cdv A outer s H vs Q E hr h => ⟨_, (pss_cons (ps_if (PW.pt (pw_or (pt_not (pt_val (pe_callB call_isi (by rfl) T.m_isinstance (by decide +kernel) (pa_cons (pv 1) (pa_cons (pe_bltn (v := .ty "list") (by rfl) T.m_list (by decide +kernel) rfl) pa_nil))))) (pw_or (pt_not (pt_val (pe_call (ok_is_size T) (hr.mono (by decide)) (by rfl) T.g_is_size T.F_is_size.kp T.b_is_size .nil pass0 (pa_cons (pe_callB call_len_seq (by rfl) T.m_len (by decide +kernel) (pa_cons (pv 1) pa_nil)) pa_nil)))) (pw_or1 (pt_not (pt_val (pe_callB (call_allB hr.hd) (by rfl) T.m_all (by decide +kernel) (pa_cons (pe_lc (own := [("rank", 2)]) (g := gName 2) rfl sc_Ring_init.nd (pi_list (pv 1)) (blkOk_by (own := [("rank", 2)]) (N := ["self", "ranks", "rank"]) (sc := defScope s_Ring_init) (by decide +kernel)) (fun _ _ _ _ _ => (pg_name (i := 2) sc_Ring_init.nd rfl (Or.inl rfl))) (fun _ _ _ _ _ => pts_nil) (fun _ _ _ _ _ => (pe_call (ok_is_integer T) (hr.mono (by decide)) (by rfl) T.g_is_integer T.F_is_integer.kp T.b_is_integer .nil pass0 (pa_cons (pv 2) pa_nil)))) pa_nil)))))))) (pss_one ps_never) pss_nil)
    (pss_one (ps_fld (pv 0) (pe_callTy call_list_of (by rfl) T.m_list (by decide +kernel) (pa_cons (pv 1) pa_nil)) rfl))), by
    obtain ⟨o, dx, p, rs, rfl, eo, ep, h1, h2, q⟩ := h
    have cl := T.cl_Ring
    have na := T.na_Ring_rank_list
    walk_at "rd"
    refine ⟨_, rfl, by omega, by omega, ?_⟩
    walk_at "rd"
    refine loopLcV 2 (fun _ => some (.bl true)) (SqL.of ep) (by omega) (fun m H1 N hm k1 hN => ?_) fun D H1 n1 k1 e1 => ?_
    · walk_at "rd"
      exact ⟨_, rfl, hN _ .refl⟩
    · walk_at "rd"
      refine ⟨D, List.replicate rs.length true, rfl, SqL.of ?_, ?_⟩
      · rw [e1, List.map_replicate]
        congr 2
        rw [List.filterMap_eq_map', List.map_const']
      · rw [show (List.replicate rs.length true).all id = true by simp]
        walk_at "rd"
        exact q _ (by walk_at "kp") ⟨_, _, by assumption, by walk_at "at"⟩⟩)
def sp_Ring_size (K : PySem.W.Frag) (C : Addr) : Sp := fun vs H Q E => ∃ (o : Addr) (rs : List Int), vs = [.ref o] ∧ RingAt H C o rs ∧ Q (.int rs.length) H
theorem ok_Ring_size (T : Txt K mg) : FnOk P w K mg base CX0 1 T.f_Ring_size T.d_Ring_size ["self"] (sp_Ring_size K T.C_Ring) := T.F_Ring_size.ok sc_Ring_size (by rintro vs H Q E ⟨n, b, rfl, -⟩; rfl)
  (fun cdv A outer s H vs Q E hr h => ⟨_, (pss_one (ps_ret (pe_callB call_len_seq (by rfl) T.m_len (by decide +kernel) (pa_cons (pe_fld (pv 0) rfl) pa_nil)))), by
    obtain ⟨o, rs, rfl, ⟨dx, l, eo, el⟩, q⟩ := h
    have cl := T.cl_Ring
    have na := T.na_Ring_rank_list
    walk_at "rd"
    exact q⟩)
def strongL (rs : List Int) (bound : Int) : List Int := (List.range rs.length).filterMap fun m : Nat => rs[m]?.bind fun r => if bound ≤ r then some (m : Int) else none
def sp_Ring_strong (K : PySem.W.Frag) (C : Addr) : Sp := fun vs H Q E => ∃ (o : Addr) (bound : Int) (rs : List Int), vs = [.ref o, .int bound] ∧ RingAt H C o rs ∧ rs.length ≤ 1000 ∧ ∀ p H', Kp [] H H' → H p = none → H' p = some (.lst (Is (strongL rs bound))) → Q (.ref p) H'
theorem ok_Ring_strong (T : Txt K mg) : FnOk P w K mg base CX0 1 T.f_Ring_strong T.d_Ring_strong ["self", "bound"] (sp_Ring_strong K T.C_Ring) := T.F_Ring_strong.ok sc_Ring_strong (by rintro vs H Q E ⟨n, b, c, rfl, -⟩; rfl)
  (fun cdv A outer s H vs Q E hr h => ⟨_, (pss_one (ps_ret (pe_lc (own := [("place", 2), ("rank", 3)]) rfl sc_Ring_strong.nd (pi_enum (by rfl) T.m_enumerate (pa_cons (pe_fld (pv 0) rfl) pa_nil)) (blkOk_by (own := [("place", 2), ("rank", 3)]) (N := ["self", "bound", "place", "rank"]) (sc := defScope s_Ring_strong) (by decide +kernel)) (fun _ _ _ _ _ => (pg_tupB rfl (pgs_cons (pg_name (i := 2) sc_Ring_strong.nd rfl (Or.inl rfl)) (pgs_cons (pg_name (i := 3) sc_Ring_strong.nd rfl (Or.inl rfl)) pgs_nil)))) (fun _ _ _ _ _ => (pts_one (pt_cmpR op_ge (pv 3) (pv 1) (nomark _)))) (fun _ _ _ _ _ => (pv 2))))), by
    obtain ⟨o, bound, rs, rfl, ⟨dx, l, eo, el⟩, hl, q⟩ := h
    have cl := T.cl_Ring
    have na := T.na_Ring_rank_list
    walk_at "rd"
    refine loopLcE 2 3 (by decide) (fun m r => if bound ≤ r then some (m : Int) else none) (SqL.of el) (by omega) (fun m r H1 N hm k1 hN => ?_) fun D H1 n1 k1 e1 => ?_
    · walk_at "rd"
      refine rd_d (fun h => ?_) (fun h => ?_)
      · walk_at "rd"
        have := hN _ .refl
        rw [if_pos h] at this
        exact this
      · have := hN _ .refl
        rw [if_neg h] at this
        exact this
    · exact q _ _ k1 n1 e1⟩)
def upToI (rs : List Int) (bound gap : Int) : Int := gap / rs.length * (strongL rs bound).length + ((strongL rs bound).filterMap fun x => if x ≤ gap % rs.length then some x else none).length
def sp_Ring_up_to (K : PySem.W.Frag) (C : Addr) : Sp := fun vs H Q E => ∃ (o : Addr) (bound gap : Int) (rs : List Int), vs = [.ref o, .int bound, .int gap] ∧ RingAt H C o rs ∧ 1 ≤ rs.length ∧ rs.length ≤ 1000 ∧ ∀ H', Kp [] H H' → Q (.int (upToI rs bound gap)) H'
theorem ok_Ring_up_to (T : Txt K mg) : FnOk P w K mg base CX0 3 T.f_Ring_up_to T.d_Ring_up_to ["self", "bound", "gap"] (sp_Ring_up_to K T.C_Ring) := T.F_Ring_up_to.ok sc_Ring_up_to (by rintro vs H Q E ⟨n, b, c, d, rfl, -⟩; rfl)
  (fun cdv A outer s H vs Q E hr h => ⟨_, (pss_cons (ps_asg (pe_callB call_divmod (by rfl) T.m_divmod (by decide +kernel) (pa_cons (pv 2) (pa_cons (pe_prop (pv 0) T.cl_Ring T.pr_Ring_size (ok_Ring_size T) (hr.mono (by decide)) T.b_Ring_size .nil pass0 rfl) pa_nil))) (pg_tup rfl (pgs_cons (pg_name (i := 3) sc_Ring_up_to.nd rfl (Or.inl rfl)) (pgs_cons (pg_name (i := 4) sc_Ring_up_to.nd rfl (Or.inr rfl)) pgs_nil))))
    (pss_cons (ps_set (i := 5) sc_Ring_up_to.nd rfl (Or.inl rfl) (pe_meth (pv 0) T.cl_Ring T.me_Ring_strong (ok_Ring_strong T) (hr.mono (by decide)) T.b_Ring_strong .nil pass0 (pa_cons (pv 1) pa_nil)))
    (pss_one (ps_ret (pe_op op_add (pe_op op_mul (pv 3) (pe_callB call_len_seq (by rfl) T.m_len (by decide +kernel) (pa_cons (pv 5) pa_nil))) (pe_callB call_len_seq (by rfl) T.m_len (by decide +kernel) (pa_cons (pe_lc (own := [("other", 6)]) (g := gName 6) rfl sc_Ring_up_to.nd (pi_list (pv 5)) (blkOk_by (own := [("other", 6)]) (N := ["self", "bound", "gap", "laps", "place", "strong", "other"]) (sc := defScope s_Ring_up_to) (by decide +kernel)) (fun _ _ _ _ _ => (pg_name (i := 6) sc_Ring_up_to.nd rfl (Or.inl rfl))) (fun _ _ _ _ _ => (pts_one (pt_cmpR op_le (pv 6) (pv 4) (nomark _)))) (fun _ _ _ _ _ => (pv 6))) pa_nil))))))), by
    obtain ⟨o, bound, gap, rs, rfl, ⟨dx, l, eo, el⟩, h1, hl, q⟩ := h
    have cl := T.cl_Ring
    have na := T.na_Ring_rank_list
    walk_at "rd"
    refine ⟨_, _, rfl, ⟨_, _, eo, el⟩, ?_⟩
    walk_at "rd"
    refine ⟨_, _, _, rfl, ⟨_, _, by walk_at "at", by walk_at "at"⟩, hl, fun p H2 k2 n2 e2 => ?_⟩
    have hs : (strongL rs bound).length ≤ 1000 := by
      have := fm_len (fun m : Nat => rs[m]?.bind fun r => if bound ≤ r then some (m : Int) else none) (List.range rs.length)
      rw [List.length_range] at this
      unfold strongL
      omega
    walk_at "rd"
    refine loopLcI 6 (fun x => if x ≤ gap % rs.length then some x else none) (SqL.of e2) (by omega) (fun m H1 N hm k1 hN => ?_) fun D H3 n3 k3 e3 => ?_
    · walk_at "rd"
      refine rd_d (fun h => ?_) (fun h => ?_)
      · walk_at "rd"
        have := hN _ .refl
        rw [if_pos h] at this
        exact this
      · have := hN _ .refl
        rw [if_neg h] at this
        exact this
    · walk_at "rd"
      exact q _ (by walk_at "kp")⟩)

end
section
variable {P : Program} {w : World} {K : PySem.W.Frag} {mg : Str → Option Value} {base : Heap}
/-! ### the layers -/
abbrev Pr := Int × Int
abbrev Ent := Int × Option Pr × Bool
abbrev Lay := List (Pr × Ent)
def getL (L : Lay) (k : Pr) : Option Ent := (L.find? fun e => decide (e.1 = k)).map (·.2)
def putL (L : Lay) (k : Pr) (x : Ent) : Lay := if (L.any fun e => decide (e.1 = k)) = true then L.map (fun e => if e.1 = k then (e.1, x) else e) else L ++ [(k, x)]
def offerL (L : Lay) (k : Pr) (price : Int) (fol : Pr) (sk : Bool) : Lay := match getL L k with
  | none => putL L k (price, some fol, sk)
  | some x => if price < x.1 then putL L k (price, some fol, sk) else L
def FolAt (H : Hp) (v : V) : Option Pr → Prop
  | none => v = .non
  | some f => ∃ q, v = .ref q ∧ H q = some (.tup [.int f.1, .int f.2])
def EntAt (H : Hp) (t : Addr) (x : Ent) : Prop := ∃ v, H t = some (.tup [.int x.1, v, .bl x.2.2]) ∧ FolAt H v x.2.1
/-- a dict's pair and a layer's -/
def PairAt (H : Hp) (e : List Key × V) (x : Pr × Ent) : Prop := e.1 = pairK x.1 ∧ ∃ t, e.2 = .ref t ∧ EntAt H t x.2
def LayAt (H : Hp) (d : List (List Key × V)) (L : Lay) : Prop := Paired (PairAt H) d L
/-- tuples stay -/
def Tk (H H' : Hp) : Prop := ∀ b xs, H b = some (.tup xs) → H' b = some (.tup xs)
theorem _root_.Rc.Kp.tk0 {H H' : Hp} (k : Kp [] H H') : Tk H H' := fun b xs e => k.at0 e
theorem _root_.Rc.Kp.tk1 {H H' : Hp} {a : Addr} {o : HO} (k : Kp [a] H H') (h : H a = some o) (n : ∀ xs, o ≠ .tup xs) : Tk H H' := fun b xs e => k.at1 e fun z => by
  rw [z, h] at e
  exact n xs (Option.some.inj e)
theorem Tk.trans {H H1 H2 : Hp} (a : Tk H H1) (b : Tk H1 H2) : Tk H H2 := fun c xs e => b c xs (a c xs e)
theorem FolAt.tk {H H' : Hp} {v : V} (k : Tk H H') : ∀ {f : Option Pr}, FolAt H v f → FolAt H' v f
  | none, h => h
  | some _, ⟨q, e, h⟩ => ⟨q, e, k _ _ h⟩
theorem EntAt.tk {H H' : Hp} {t : Addr} {x : Ent} (k : Tk H H') (h : EntAt H t x) : EntAt H' t x := by
  obtain ⟨v, e, f⟩ := h
  exact ⟨v, k _ _ e, f.tk k⟩
theorem LayAt.tk {H H' : Hp} (k : Tk H H') : ∀ {d : List (List Key × V)} {L : Lay}, LayAt H d L → LayAt H' d L
  | [], [], .nil => .nil
  | _ :: _, _ :: _, .cons ⟨h1, t, h2, h3⟩ r => .cons ⟨h1, t, h2, h3.tk k⟩ (LayAt.tk k r)
theorem pairK_inj {a b : Pr} : pairK a = pairK b ↔ a = b := by
  unfold pairK
  constructor
  · intro h
    simp only [List.cons.injEq, Sum.inl.injEq, and_true] at h
    exact Prod.ext h.1 h.2
  · rintro rfl; rfl
theorem LayAt.len {H : Hp} : ∀ {d : List (List Key × V)} {L : Lay}, LayAt H d L → d.length = L.length
  | [], [], .nil => rfl
  | _ :: _, _ :: _, .cons _ r => congrArg (· + 1) (LayAt.len r)
theorem LayAt.get {H : Hp} {k : Pr} : ∀ {d : List (List Key × V)} {L : Lay}, LayAt H d L → (valV d (pairK k) = none ∧ getL L k = none) ∨ ∃ t x, valV d (pairK k) = some (.ref t) ∧ getL L k = some x ∧ EntAt H t x
  | [], [], .nil => .inl ⟨rfl, rfl⟩
  | e :: d, x :: L, .cons ⟨h1, t, h2, h3⟩ r => by
    by_cases h : x.1 = k
    · refine .inr ⟨t, x.2, ?_, ?_, h3⟩
      · rw [valV_pos (by rw [h1, h]), h2]
      · unfold getL
        rw [List.find?_cons, decide_eq_true h]
        rfl
    · rw [valV_neg (by rw [h1, pairK_inj]; exact h)]
      have e2 : getL (x :: L) k = getL L k := by
        unfold getL
        rw [List.find?_cons, decide_eq_false h]
      rw [e2]
      exact LayAt.get r
theorem LayAt.any {H : Hp} {k : Pr} : ∀ {d : List (List Key × V)} {L : Lay}, LayAt H d L → (d.any fun e => decide (e.1 = pairK k)) = L.any fun e => decide (e.1 = k)
  | [], [], .nil => rfl
  | e :: d, x :: L, .cons ⟨h1, t, h2, h3⟩ r => by
    rw [List.any_cons, List.any_cons, LayAt.any r, h1]
    congr 1
    exact decide_eq_decide.mpr pairK_inj
theorem LayAt.map {H : Hp} {k : Pr} {t : Addr} {x : Ent} (ex : EntAt H t x) : ∀ {d : List (List Key × V)} {L : Lay}, LayAt H d L → LayAt H (d.map fun e => if e.1 = pairK k then (e.1, .ref t) else e) (L.map fun e => if e.1 = k then (e.1, x) else e)
  | [], [], .nil => .nil
  | e :: d, y :: L, .cons ⟨h1, t', h2, h3⟩ r => by
    refine .cons ?_ (LayAt.map ex r)
    show PairAt H (if e.1 = pairK k then (e.1, V.ref t) else e) (if y.1 = k then (y.1, x) else y)
    by_cases h : y.1 = k
    · rw [if_pos h, if_pos (by rw [h1, h])]
      exact ⟨h1, t, rfl, ex⟩
    · rw [if_neg h, if_neg (by rw [h1, pairK_inj]; exact h)]
      exact ⟨h1, t', h2, h3⟩
theorem Paired.snoc {α β : Type} {R : α → β → Prop} {a : α} {b : β} (h : R a b) : ∀ {xs : List α} {ys : List β}, Paired R xs ys → Paired R (xs ++ [a]) (ys ++ [b])
  | [], [], .nil => .cons h .nil
  | _ :: _, _ :: _, .cons c r => .cons c (Paired.snoc h r)
theorem LayAt.put {H : Hp} {d : List (List Key × V)} {L : Lay} {k : Pr} {t : Addr} {x : Ent} (h : LayAt H d L) (ex : EntAt H t x) : LayAt H (putK d (pairK k) (.ref t)) (putL L k x) := by
  unfold putK putL
  rw [h.any]
  split
  · exact h.map ex
  · exact Paired.snoc ⟨rfl, t, rfl, ex⟩ h
theorem putL_len (L : Lay) (k : Pr) (x : Ent) : (putL L k x).length ≤ L.length + 1 := by
  unfold putL
  split
  · rw [List.length_map]; omega
  · rw [List.length_append]; exact Nat.le_refl _
theorem offerL_len (L : Lay) (k : Pr) (p : Int) (f : Pr) (s : Bool) : (offerL L k p f s).length ≤ L.length + 1 := by
  unfold offerL
  split
  · exact putL_len _ _ _
  · split
    · exact putL_len _ _ _
    · omega
def sp_offer (K : PySem.W.Frag) : Sp := fun vs H Q E => ∃ (a kq fq : Addr) (price : Int) (sk : Bool) (d : List (List Key × V)) (L : Lay) (k f : Pr), vs = [.ref a, .ref kq, .int price, .ref fq, .bl sk] ∧ H a = some (.dT d) ∧ LayAt H d L ∧ L.length < 100000 ∧
  H kq = some (.tup [.int k.1, .int k.2]) ∧ H fq = some (.tup [.int f.1, .int f.2]) ∧ ∀ H' d', Kp [a] H H' → H' a = some (.dT d') → LayAt H' d' (offerL L k price f sk) → Q .non H'
theorem ok_offer (T : Txt K mg) : FnOk P w K mg base CX0 1 T.f_offer T.d_offer ["layer", "pair", "price", "following", "skipped"] (sp_offer K) := T.F_offer.ok sc_offer (by rintro vs H Q E ⟨a, b, c, d, e, f, g, h, i, rfl, -⟩; rfl)
  (fun cdv A outer s H vs Q E hr h => ⟨_, (pss_one (ps_if (PW.pt (pw_or (pt_cmp (pc_dnotin (hu_of hr) (pv 1) (pv 0))) (pw_or1 (pt_cmpR op_lt (pv 2) (pe_ix ix_tup (pe_dget (hu_of hr) (pv 0) (pv 1) (fun _ _ => rfl)) pe_int (fun _ _ => rfl)) (nomark _))))) (pss_one (ps_dput (hu_of hr) (pv 0) (pv 1) (pe_tup (pa_cons (pv 2) (pa_cons (pv 3) (pa_cons (pv 4) pa_nil)))) rfl)) pss_nil)), by
    obtain ⟨a, kq, fq, price, sk, d, L, k, f, rfl, ea, hL, hl, ek, ef, q⟩ := h
    have ek' : H kq = some (.tup ((pairK k).map kV)) := ek
    have hdl := hL.len
    rcases hL.get (k := k) with ⟨g1, g2⟩ | ⟨t, x, g1, g2, v, et, hf⟩
    · walk_at "rd"
      refine rd_dninT0 ea ek' g1 ?_
      walk_at "rd"
      rename_i t H1 n1 k1 e1
      refine rd_dputT (k1.at0 ea) (k1.at0 ek') (by omega) fun H2 k2 e2 => ?_
      have k2t : Tk H1 H2 := k2.tk1 (k1.at0 ea) fun xs z => nomatch z
      walk_at "rd"
      refine q _ _ (by walk_at "kp") e2 ?_
      unfold offerL
      rw [g2]
      exact LayAt.put (hL.tk (k1.tk0.trans k2t)) ⟨_, k2t _ _ e1, _, rfl, k2t _ _ (k1.at0 ef)⟩
    · walk_at "rd"
      refine rd_dninT1 ea ek' g1 ?_
      walk_at "rd"
      refine rd_dgetT ea ek' g1 ?_
      walk_at "rd"
      refine rd_d (fun h => ?_) (fun h => ?_)
      · walk_at "rd"
        rename_i t H1 n1 k1 e1
        refine rd_dputT (k1.at0 ea) (k1.at0 ek') (by omega) fun H2 k2 e2 => ?_
        have k2t : Tk H1 H2 := k2.tk1 (k1.at0 ea) fun xs z => nomatch z
        walk_at "rd"
        refine q _ _ (by walk_at "kp") e2 ?_
        unfold offerL
        rw [g2]
        simp only
        rw [if_pos h]
        exact LayAt.put (hL.tk (k1.tk0.trans k2t)) ⟨_, k2t _ _ e1, _, rfl, k2t _ _ (k1.at0 ef)⟩
      · walk_at "rd"
        refine q _ _ .refl ea ?_
        unfold offerL
        rw [g2]
        simp only
        rw [if_neg h]
        exact hL⟩)

end
section
variable {P : Program} {w : World} {K : PySem.W.Frag} {mg : Str → Option Value} {base : Heap}
theorem rd_offer {H : Hp} {Q : VK} {EE : XK} {a kq fq : Addr} {price : Int} {sk : Bool} {d : List (List Key × V)} {L : Lay} {k f : Pr} (ea : H a = some (.dT d)) (hL : LayAt H d L) (hl : L.length < 100000) (ek : H kq = some (.tup [.int k.1, .int k.2])) (ef : H fq = some (.tup [.int f.1, .int f.2]))
    (q : ∀ H' d', Kp [a] H H' → H' a = some (.dT d') → LayAt H' d' (offerL L k price f sk) → Q .non H') : sp_offer K ([.ref a, .ref kq, .int price, .ref fq, .bl sk] ++ []) H Q EE := ⟨a, kq, fq, price, sk, d, L, k, f, rfl, ea, hL, hl, ek, ef, q⟩
def stepL (n g most : Int) (acc : Lay) (e : Pr × Ent) : Lay :=
  if (e.1.1 - g) % n = 0 then
    if e.1.2 < most then offerL (offerL (offerL acc (e.1.1 - 1, e.1.2) e.2.1 e.1 false) (e.1.1 + 1, e.1.2) (e.2.1 + 1) e.1 false) (e.1.1, e.1.2 + 1) e.2.1 e.1 true
    else offerL (offerL acc (e.1.1 - 1, e.1.2) e.2.1 e.1 false) (e.1.1 + 1, e.1.2) (e.2.1 + 1) e.1 false
  else offerL acc e.1 e.2.1 e.1 false
def addL (n g most : Int) (L : Lay) : Lay := L.foldl (stepL n g most) []
/-- there is room for each layer's beginnings -/
def FitL (n g most : Int) (L : Lay) : Prop := ∀ i, ((L.take i).foldl (stepL n g most) []).length < 99000
def SkAt (H : Hp) (C o ly : Addr) (n : Int) (Ls : List Lay) : Prop := ∃ dx das, H o = some (.ins C dx [("place_count", .int n), ("layers", .ref ly)]) ∧ H ly = some (.lst (das.map V.ref).reverse) ∧ Paired (fun a L => ∃ d, H a = some (.dT d) ∧ LayAt H d L) das Ls
theorem Paired.mono {α β : Type} {R S : α → β → Prop} (h : ∀ a b, R a b → S a b) : ∀ {xs : List α} {ys : List β}, Paired R xs ys → Paired S xs ys
  | [], [], .nil => .nil
  | _ :: _, _ :: _, .cons c r => .cons (h _ _ c) (Paired.mono h r)
theorem Paired.at {α β : Type} {R : α → β → Prop} : ∀ {xs : List α} {ys : List β} {i : Nat} {a : α}, Paired R xs ys → xs[i]? = some a → ∃ b, ys[i]? = some b ∧ R a b
  | _ :: _, _ :: _, 0, _, .cons c _, h => ⟨_, rfl, by rw [List.getElem?_cons_zero] at h; rw [← Option.some.inj h]; exact c⟩
  | _ :: xs, _ :: ys, i + 1, a, .cons _ r, h => Paired.at (xs := xs) (ys := ys) (i := i) r h
def sp_add_layer (K : PySem.W.Frag) (C : Addr) : Sp := fun vs H Q E => ∃ (o ly : Addr) (gap most n : Int) (L : Lay) (Ls : List Lay), vs = [.ref o, .int gap, .int most] ∧ SkAt H C o ly n (L :: Ls) ∧ 0 < n ∧ FitL n gap most L ∧ Ls.length < 10000 ∧
  ∀ H', Kp [ly] H H' → SkAt H' C o ly n (addL n gap most L :: L :: Ls) → Q .non H'
theorem ok_SkippingThreads_add_layer (T : Txt K mg) : FnOk P w K mg base CX0 2 T.f_SkippingThreads_add_layer T.d_SkippingThreads_add_layer ["self", "gap", "most"] (sp_add_layer K T.C_SkippingThreads) := T.F_SkippingThreads_add_layer.ok sc_SkippingThreads_add_layer (by rintro vs H Q E ⟨a, b, c, d, e, f, g, rfl, -⟩; rfl)
  (fun cdv A outer s H vs Q E hr h => ⟨_, (pss_cons (ps_set (i := 3) sc_SkippingThreads_add_layer.nd rfl (Or.inl rfl) pe_dnewT)
    (pss_cons (ps_lock (ps_for PassesOwn.never rfl (pi_itemsT (pe_ix ix_list (pe_fld (pv 0) rfl) (pe_un un_neg pe_int) (fun _ _ => rfl))) (pg_tup rfl (pgs_cons (pg_name (i := 4) sc_SkippingThreads_add_layer.nd rfl (Or.inl rfl)) (pgs_cons (pg_tup rfl (pgs_cons (pg_name (i := 5) sc_SkippingThreads_add_layer.nd rfl (Or.inl rfl)) (pgs_cons (pg_name (i := 6) sc_SkippingThreads_add_layer.nd rfl (Or.inl rfl)) (pgs_cons (pg_name (i := 7) sc_SkippingThreads_add_layer.nd rfl (Or.inl rfl)) pgs_nil)))) pgs_nil))) (pss_cons (ps_asg (pv 4) (pg_tup rfl (pgs_cons (pg_name (i := 8) sc_SkippingThreads_add_layer.nd rfl (Or.inl rfl)) (pgs_cons (pg_name (i := 9) sc_SkippingThreads_add_layer.nd rfl (Or.inl rfl)) pgs_nil))))
    (pss_one (ps_if (pt_cmpR op_ne (pe_op op_mod (pe_op op_sub (pv 8) (pv 1)) (pe_fld (pv 0) rfl)) pe_int (nomark _)) (pss_one (ps_expr (pe_call (ok_offer T) (hr.mono (by decide)) (by rfl) T.g_offer T.F_offer.kp T.b_offer .nil pass0 (pa_cons (pv 3) (pa_cons (pv 4) (pa_cons (pv 5) (pa_cons (pv 4) (pa_cons pe_bl pa_nil)))))))) (pss_cons (ps_expr (pe_call (ok_offer T) (hr.mono (by decide)) (by rfl) T.g_offer T.F_offer.kp T.b_offer .nil pass0 (pa_cons (pv 3) (pa_cons (pe_tup (pa_cons (pe_op op_sub (pv 8) pe_int) (pa_cons (pv 9) pa_nil))) (pa_cons (pv 5) (pa_cons (pv 4) (pa_cons pe_bl pa_nil)))))))
    (pss_cons (ps_expr (pe_call (ok_offer T) (hr.mono (by decide)) (by rfl) T.g_offer T.F_offer.kp T.b_offer .nil pass0 (pa_cons (pv 3) (pa_cons (pe_tup (pa_cons (pe_op op_add (pv 8) pe_int) (pa_cons (pv 9) pa_nil))) (pa_cons (pe_op op_add (pv 5) pe_int) (pa_cons (pv 4) (pa_cons pe_bl pa_nil)))))))
    (pss_one (ps_if (pt_cmpR op_lt (pv 9) (pv 2) (nomark _)) (pss_one (ps_expr (pe_call (ok_offer T) (hr.mono (by decide)) (by rfl) T.g_offer T.F_offer.kp T.b_offer .nil pass0 (pa_cons (pv 3) (pa_cons (pe_tup (pa_cons (pv 8) (pa_cons (pe_op op_add (pv 9) pe_int) pa_nil))) (pa_cons (pv 5) (pa_cons (pv 4) (pa_cons pe_bl pa_nil)))))))) pss_nil)))))))))
    (pss_one (ps_expr (pe_bm PySem.F.plainAttrs_list PySem.F.slot_list_append PySem.F.type_list_append mt_append (pe_fld (pv 0) rfl) (pa_cons (pv 3) pa_nil)))))), by
    obtain ⟨o, ly, gap, most, n, L, Ls, rfl, ⟨dx, das, eo, ely, hp⟩, hn, fit, hls, q⟩ := h
    have cl := T.cl_SkippingThreads
    have na1 := T.na_SkippingThreads_place_count
    have na2 := T.na_SkippingThreads_layers
    obtain ⟨td, tds, rfl⟩ : ∃ td tds, das = td :: tds := by
      cases das with
      | nil => cases hp
      | cons a b => exact ⟨a, b, rfl⟩
    obtain ⟨hp1, hp2⟩ : (∃ d, H td = some (.dT d) ∧ LayAt H d L) ∧ Paired (fun a L => ∃ d, H a = some (.dT d) ∧ LayAt H d L) tds Ls := by
      cases hp with
      | cons a b => exact ⟨a, b⟩
    obtain ⟨dt, etd, hL⟩ := hp1
    walk_at "rd"
    refine rd_newT fun a H1 n1 k1 e1 => ?_
    walk_at "rd"
    have hot : o ≠ td := fun z => by rw [z, etd] at eo; cases eo
    have hlt : ly ≠ td := fun z => by rw [z, etd] at ely; cases ely
    have hat : a ≠ td := new_ne n1 etd
    refine rd_lock (k1.at0 etd) trivial fun od H2 k2 e2 => ?_
    refine rd_forIT ?_
    walk_at "rd"
    refine rd_ixLast (v := .ref td) (xs := (tds.map V.ref).reverse) (SqL.of ?_) ?_
    · have : H2 ly = some (.lst ((td :: tds).map V.ref).reverse) := by walk_at "at"
      rw [this, List.map_cons, List.reverse_cons]
    have t12 : Tk H H2 := k1.tk0.trans (k2.tk1 (k1.at0 etd) fun xs z => nomatch z)
    have k02 : Kp [td] H H2 := by walk_at "kp"
    refine loopIT e2 (fun i σ' H' => ∃ x4 x5 x6 x7 x8 x9 dn, σ' = [some (.ref o), some (.int gap), some (.int most), some (.ref a), x4, x5, x6, x7, x8, x9] ∧ Kp [td] H H' ∧ Tk H H' ∧ H' td = some (.frz od (.dT dt)) ∧ H' a = some (.dT dn) ∧ LayAt H' dn ((L.take i).foldl (stepL n gap most) []))
      ⟨none, none, none, none, none, none, [], rfl, k02, t12, e2, k2.at1 e1 hat, .nil⟩ ?_ ?_ ?_
    · rintro i _ H3 hi ⟨x4, x5, x6, x7, x8, x9, dn, rfl, k3, t3, e3, ea, hA⟩
      exact e3
    · rintro i k v T' q' _ H3 H4 hi ⟨x4, x5, x6, x7, x8, x9, dn, rfl, k3, t3, e3, ea, hA⟩ hT k4 eT eq
      obtain ⟨x, hx, hk, t, rfl, fv, et, hf⟩ := Paired.at hL hi
      obtain ⟨⟨en, nu⟩, price, fol, sk⟩ := x
      simp only at hk et hf
      subst hk
      have eq' : H4 q' = some (.tup [.int en, .int nu]) := eq
      have et4 := k4.tk0 _ _ (t3 _ _ et)
      have eo3 := k3.at1 eo hot
      have hacc : (L.take (i + 1)).foldl (stepL n gap most) [] = stepL n gap most ((L.take i).foldl (stepL n gap most) []) ((en, nu), price, fol, sk) := by
        rw [List.take_add_one, hx, List.foldl_append]
        rfl
      have hfit := fit i
      rw [hacc]
      generalize (L.take i).foldl (stepL n gap most) [] = acc at hA hfit ⊢
      have ea4 := k4.at0 ea
      have hA4 := hA.tk k4.tk0
      have ed4 := k4.at0 e3
      have kH4 : Kp [td] H H4 := k3.tr0 k4
      have tH4 : Tk H H4 := t3.trans k4.tk0
      walk_at "rd"
      refine rd_nd (fun h => ?_) (fun h => ?_)
      · walk_at "rd"
        refine rd_offer (k := (en, nu)) (f := (en, nu)) ea4 hA4 (by omega) eq' eq' fun H5 d5 k5 e5 h5 => ?_
        walk_at "rd"
        refine ⟨_, _, _, _, _, _, d5, rfl, kH4.trF k5 n1, tH4.trans (k5.tk1 ea4 fun xs z => nomatch z), k5.at1 ed4 hat.symm, e5, ?_⟩
        unfold stepL
        rw [if_neg h]
        exact h5
      · walk_at "rd"
        rename_i c1 H5 n5 k5 e5
        refine rd_offer (k := (en - 1, nu)) (f := (en, nu)) (k5.at0 ea4) (hA4.tk k5.tk0) (by omega) e5 (k5.at0 eq') fun H6 d6 k6 e6 h6 => ?_
        have l6 := offerL_len acc (en - 1, nu) price (en, nu) false
        have t6 : Tk H4 H6 := k5.tk0.trans (k6.tk1 (k5.at0 ea4) fun xs z => nomatch z)
        have kH6 : Kp [td] H H6 := (kH4.tr0 k5).trF k6 n1
        have ed6 := k6.at1 (k5.at0 ed4) hat.symm
        walk_at "rd"
        rename_i c2 H7 n7 k7 e7
        refine rd_offer (k := (en + 1, nu)) (f := (en, nu)) (k7.at0 e6) (h6.tk k7.tk0) (by omega) e7 (k7.at0 (t6 _ _ eq')) fun H8 d8 k8 e8 h8 => ?_
        have l8 := offerL_len (offerL acc (en - 1, nu) price (en, nu) false) (en + 1, nu) (price + 1) (en, nu) false
        have t8 : Tk H6 H8 := k7.tk0.trans (k8.tk1 (k7.at0 e6) fun xs z => nomatch z)
        have kH8 : Kp [td] H H8 := (kH6.tr0 k7).trF k8 n1
        have ed8 := k8.at1 (k7.at0 ed6) hat.symm
        walk_at "rd"
        refine rd_d (fun h' => ?_) (fun h' => ?_)
        · walk_at "rd"
          rename_i c3 H9 n9 k9 e9
          refine rd_offer (k := (en, nu + 1)) (f := (en, nu)) (k9.at0 e8) (h8.tk k9.tk0) (by omega) e9 (k9.at0 (t8 _ _ (t6 _ _ eq'))) fun H10 d10 k10 e10 h10 => ?_
          walk_at "rd"
          refine ⟨_, _, _, _, _, _, d10, rfl, (kH8.tr0 k9).trF k10 n1, (tH4.trans (t6.trans t8)).trans (k9.tk0.trans (k10.tk1 (k9.at0 e8) fun xs z => nomatch z)), k10.at1 (k9.at0 ed8) hat.symm, e10, ?_⟩
          unfold stepL
          rw [if_pos h, if_pos h']
          exact h10
        · walk_at "rd"
          refine ⟨_, _, _, _, _, _, d8, rfl, kH8, tH4.trans (t6.trans t8), ed8, e8, ?_⟩
          unfold stepL
          rw [if_pos h, if_neg h']
          exact h8
    · rintro _ H3 ⟨x4, x5, x6, x7, x8, x9, dn, rfl, k3, t3, e3, ea, hA⟩
      rw [show dt.length = L.length from hL.len, List.take_length] at hA
      refine rd_unlock e3 fun H4 k4 e4 => ?_
      have kk : Kp [] H H4 := (k3.tr k4).back etd e4
      have el4 := kk.at0 ely
      have eo4 := kk.at0 eo
      have ea4 : H4 a = some (.dT dn) := k4.at1 ea hat
      have hly : a ≠ ly := new_ne n1 ely
      have hlo : o ≠ ly := fun z => by rw [z, ely] at eo; cases eo
      walk_at "rd"
      refine rd_app el4 (by rw [List.length_reverse, List.length_map]; have := Paired.length hp; simp only [List.length_cons] at this ⊢; omega) fun H5 k5 e5 => ?_
      walk_at "rd"
      have t5 : Tk H4 H5 := k5.tk1 el4 fun xs z => nomatch z
      refine q _ (by walk_at "kp") ⟨dx, a :: td :: tds, k5.at1 eo4 hlo, by rw [e5]; simp, .cons ⟨dn, k5.at1 ea4 hly, hA.tk ((k4.tk1 e3 fun xs z => nomatch z).trans t5)⟩ ?_⟩
      refine Paired.mono (fun b M hb => ?_) hp
      obtain ⟨d, e, hM⟩ := hb
      exact ⟨d, k5.at1 (kk.at0 e) (fun z => by rw [z, ely] at e; cases e), hM.tk (kk.tk0.trans t5)⟩⟩)

end
section
variable {P : Program} {w : World} {K : PySem.W.Frag} {mg : Str → Option Value} {base : Heap}
def topL (n most e : Int) : List Int → Lay
  | [] => [((e, 0), (0, none, false))]
  | g :: gs => addL n g most (topL n most e gs)
def laysL (n most e : Int) : List Int → List Lay
  | [] => [topL n most e []]
  | g :: gs => topL n most e (g :: gs) :: laysL n most e gs
theorem laysL_head (n most e : Int) (gs : List Int) : ∃ r, laysL n most e gs = topL n most e gs :: r ∧ r.length = gs.length := by
  cases gs with
  | nil => exact ⟨[], rfl, rfl⟩
  | cons g t =>
    refine ⟨laysL n most e t, rfl, ?_⟩
    induction t generalizing g with
    | nil => rfl
    | cons h t ih => exact congrArg (· + 1) (ih h)
def FitAll (n most e : Int) (gs : List Int) : Prop := ∀ i g, gs[i]? = some g → FitL n g most (topL n most e (gs.drop (i + 1)))
def sp_Sk_init (K : PySem.W.Frag) (C : Addr) : Sp := fun vs H Q E => ∃ (o p dx : Addr) (n e most : Int) (gs : List Int), vs = [.ref o, .int n, .ref p, .int e, .int most] ∧ H o = some (.ins C dx []) ∧ H p = some (.lst (Is gs)) ∧ 0 < n ∧ gs.length ≤ 1000 ∧ FitAll n most e gs ∧
  ∀ ly H', Kp [o] H H' → SkAt H' C o ly n (laysL n most e gs) → Q .non H'
theorem ok_SkippingThreads_init (T : Txt K mg) : FnOk P w K mg base CX0 3 T.f_SkippingThreads_init T.d_SkippingThreads_init ["self", "size", "schedule", "end", "most"] (sp_Sk_init K T.C_SkippingThreads) := T.F_SkippingThreads_init.ok sc_SkippingThreads_init (by rintro vs H Q E ⟨a, b, c, d, e, f, g, rfl, -⟩; rfl)
  (fun cdv A outer s H vs Q E hr h => ⟨_, (pss_cons (ps_fld (pv 0) (pv 1) rfl)
    (pss_cons (ps_fld (pv 0) (pe_lst (pa_cons (pe_disp1T hr.units0 (pe_tup (pa_cons (pv 3) (pa_cons pe_int pa_nil))) (pe_tup (pa_cons pe_int (pa_cons pe_non (pa_cons pe_bl pa_nil))))) pa_nil)) rfl)
    (pss_one (ps_for PassesOwn.never rfl (pi_reversed (by rfl) T.m_reversed (pa_cons (pv 2) pa_nil)) (pg_name (i := 5) sc_SkippingThreads_init.nd rfl (Or.inl rfl)) (pss_one (ps_expr (pe_meth (pv 0) T.cl_SkippingThreads T.me_SkippingThreads_add_layer (ok_SkippingThreads_add_layer T) (hr.mono (by decide)) T.b_SkippingThreads_add_layer .nil pass0 (pa_cons (pv 5) (pa_cons (pv 4) pa_nil))))))))), by
    obtain ⟨o, p, dx, n, e, most, gs, rfl, eo, ep, hn, hgs, fit, q⟩ := h
    have cl := T.cl_SkippingThreads
    have na1 := T.na_SkippingThreads_place_count
    have na2 := T.na_SkippingThreads_layers
    have hpo : p ≠ o := fun z => by rw [z, eo] at ep; cases ep
    walk_at "rd"
    rename_i H1 k1 e1
    refine rd_disp1T fun d H2 n2 k2 e2 => ?_
    walk_at "rd"
    rename_i t1 H3 n3 k3 e3 t2 H4 n4 k4 e4
    have hdt1 : d ≠ t1 := ne_new n3 e2
    refine rd_aDisp (k := pairK (e, 0)) (by walk_at "at") (by walk_at "at") fun H5 k5 e5 => ?_
    have e5t1 : H5 t1 = some (.tup [.int e, .int 0]) := k5.at1 (k4.at0 e3) hdt1.symm
    have e5t2 : H5 t2 = some (.tup [.int 0, .non, .bl false]) := k5.at1 e4 (new_ne n4 (k3.at0 e2))
    have o5 : H5 o = some (.ins T.C_SkippingThreads dx (putF "place_count" (.int n) [])) := by
      have hod : o ≠ d := ne_new n2 e1
      exact k5.at1 (k4.at0 (k3.at0 (k2.at0 e1))) hod
    have p5 : H5 p = some (.lst (Is gs)) := by
      have hpd : p ≠ d := ne_new n2 (k1.at1 ep hpo)
      exact k5.at1 (k4.at0 (k3.at0 (k2.at0 (k1.at1 ep hpo)))) hpd
    have k15 : Kp [o] H H5 := (((k1.tr0 k2).tr0 k3).tr0 k4).trF k5 (k1.free (by simpa using (new_ne n2 e1)) n2)
    clear k1 k2 k3 k4 k5
    walk_at "rd"
    rename_i ly H6 n6 k6 e6 H7 k7 e7
    have hlo : ly ≠ o := new_ne n6 o5
    have p7 : H7 p = some (.lst (Is gs)) := k7.at1 (k6.at0 p5) hpo
    have hol : o ≠ ly := hlo.symm
    have hpl : p ≠ ly := fun z => by rw [z, n6] at p5; cases p5
    have k17 : Kp [o] H H7 := (k15.tr0 k6).tr k7
    have lf : H ly = none := k15.free (by simpa using hlo) n6
    refine loopRev (SqL.of p7) (fun i σ' H' => ∃ x5, σ' = [some (.ref o), some (.int n), some (.ref p), some (.int e), some (.int most), x5] ∧ Kp [o] H H' ∧ SkAt H' T.C_SkippingThreads o ly n (laysL n most e (gs.drop (gs.length - i)))) ⟨none, rfl, k17, ?_⟩ ?_ ?_ ?_
    · rw [Nat.sub_zero, List.drop_length]
      refine ⟨dx, [d], e7, k7.at1 e6 hlo, .cons ⟨_, k7.at1 (k6.at0 e5) (fun z => by rw [z, o5] at e5; cases e5), .cons ⟨rfl, t2, rfl, .non, k7.at1 (k6.at0 e5t2) (fun z => by rw [z, o5] at e5t2; cases e5t2), rfl⟩ .nil⟩ .nil⟩
    · rintro i _ H8 hi ⟨x5, rfl, k8, S8⟩
      exact SqL.of (k8.at1 ep hpo)
    · rintro i x _ H8 hi hx ⟨x5, rfl, k8, S8⟩
      rw [List.length_map] at hi hx
      obtain ⟨g, hg, rfl⟩ : ∃ g, gs[gs.length - 1 - i]? = some g ∧ x = .int g := by
        rw [List.getElem?_map] at hx
        cases e : gs[gs.length - 1 - i]? with
        | none => rw [e] at hx; cases hx
        | some g => rw [e] at hx; exact ⟨g, rfl, (Option.some.inj hx).symm⟩
      have hd : gs.drop (gs.length - (i + 1)) = g :: gs.drop (gs.length - i) := by
        have h1 : gs.length - (i + 1) = gs.length - 1 - i := by omega
        have h2 : gs.length - i = gs.length - 1 - i + 1 := by omega
        rw [h1, h2]
        obtain ⟨h3, h4⟩ := List.getElem?_eq_some_iff.mp hg
        rw [← h4]
        exact List.drop_eq_getElem_cons h3
      obtain ⟨r, er, hr'⟩ := laysL_head n most e (gs.drop (gs.length - i))
      have ed : gs.drop (gs.length - 1 - i + 1) = gs.drop (gs.length - i) := by congr 1; omega
      have hfit := fit _ g hg
      rw [ed] at hfit
      obtain ⟨dx8, das8, o8, l8⟩ := id S8
      walk_at "rd"
      refine ⟨o, ly, g, most, n, topL n most e (gs.drop (gs.length - i)), r, rfl, by rw [← er]; exact S8, hn, hfit, by rw [hr', List.length_drop]; omega, fun H9 k9 S9 => ?_⟩
      walk_at "rd"
      refine ⟨_, rfl, k8.trF k9 lf, ?_⟩
      rw [hd]
      show SkAt H9 _ o ly n (topL n most e (g :: gs.drop (gs.length - i)) :: laysL n most e (gs.drop (gs.length - i)))
      rw [er]
      exact S9
    · rintro _ H8 ⟨x5, rfl, k8, S8⟩
      rw [List.length_map, Nat.sub_self, List.drop_zero] at S8
      walk_at "rd"
      exact q _ _ k8 S8⟩)

end
section
variable {P : Program} {w : World} {K : PySem.W.Frag} {mg : Str → Option Value} {base : Heap}
def ChainOk : List Lay → Pr → Prop
  | [], _ => True
  | L :: r, k => ∃ p f s, getL L k = some (p, some f, s) ∧ ChainOk r f
def passL : List Lay → Int → Pr → List Int
  | [], _, _ => []
  | L :: r, i, k => match getL L k with
    | some (_, some f, s) => (if s = true then [i] else []) ++ passL r (i + 1) f
    | _ => []
theorem passL_len : ∀ (Ls : List Lay) (i : Int) (k : Pr), (passL Ls i k).length ≤ Ls.length
  | [], _, _ => Nat.le_refl _
  | L :: r, i, k => by
    unfold passL
    split
    · rename_i p f s e
      rw [List.length_append, List.length_cons]
      have := passL_len r (i + 1) f
      split
      · simp only [List.length_singleton]; omega
      · simp only [List.length_nil]; omega
    · exact Nat.zero_le _
theorem Paired.dropLast {α β : Type} {R : α → β → Prop} : ∀ {xs : List α} {ys : List β}, Paired R xs ys → Paired R xs.dropLast ys.dropLast
  | [], [], .nil => .nil
  | [_], [_], .cons _ .nil => .nil
  | _ :: a :: xs, _ :: b :: ys, .cons c r => .cons c (Paired.dropLast r)
def sp_passed_over (K : PySem.W.Frag) (C : Addr) : Sp := fun vs H Q E => ∃ (o pq ly : Addr) (n : Int) (Ls : List Lay) (k : Pr), vs = [.ref o, .ref pq] ∧ SkAt H C o ly n Ls ∧ Ls.length ≤ 10000 ∧ H pq = some (.tup [.int k.1, .int k.2]) ∧ ChainOk Ls.dropLast k ∧
  ∀ f H', Kp [] H H' → H f = none → H' f = some (.lst (Is (passL Ls.dropLast 0 k))) → Q (.ref f) H'
theorem ok_SkippingThreads_passed_over (T : Txt K mg) : FnOk P w K mg base CX0 1 T.f_SkippingThreads_passed_over T.d_SkippingThreads_passed_over ["self", "pair"] (sp_passed_over K T.C_SkippingThreads) := T.F_SkippingThreads_passed_over.ok sc_SkippingThreads_passed_over (by rintro vs H Q E ⟨a, b, c, d, e, f, rfl, -⟩; rfl)
  (fun cdv A outer s H vs Q E hr h => ⟨_, (pss_cons (ps_set (i := 2) sc_SkippingThreads_passed_over.nd rfl (Or.inl rfl) (pe_lst pa_nil))
    (pss_cons (ps_for PassesOwn.never rfl (pi_enumRev (by rfl) T.m_enumerate (by rfl) T.m_reversed (pa_cons (pe_slice sl_list (pe_fld (pv 0) rfl) (po_some pe_int) po_none) pa_nil)) (pg_tup rfl (pgs_cons (pg_name (i := 3) sc_SkippingThreads_passed_over.nd rfl (Or.inl rfl)) (pgs_cons (pg_name (i := 4) sc_SkippingThreads_passed_over.nd rfl (Or.inl rfl)) pgs_nil))) (pss_cons (ps_asg (pe_dget (hu_of hr) (pv 4) (pv 1) (fun _ _ => rfl)) (pg_tup rfl (pgs_cons (pg_name (i := 5) sc_SkippingThreads_passed_over.nd rfl (Or.inl rfl)) (pgs_cons (pg_name (i := 6) sc_SkippingThreads_passed_over.nd rfl (Or.inl rfl)) (pgs_cons (pg_name (i := 7) sc_SkippingThreads_passed_over.nd rfl (Or.inl rfl)) pgs_nil)))))
    (pss_cons (ps_if (pt_val (pv 7)) (pss_one (ps_expr (pe_bm PySem.F.plainAttrs_list PySem.F.slot_list_append PySem.F.type_list_append mt_append (pv 2) (pa_cons (pv 3) pa_nil)))) pss_nil)
    (pss_one (ps_set (i := 1) sc_SkippingThreads_passed_over.nd rfl (Or.inl rfl) (pv 6))))))
    (pss_one (ps_ret (pv 2))))), by
    obtain ⟨o, pq, ly, n, Ls, k, rfl, ⟨dx, das, eo, ely, hp⟩, hls, ek, hc, q⟩ := h
    have cl := T.cl_SkippingThreads
    have na1 := T.na_SkippingThreads_place_count
    have na2 := T.na_SkippingThreads_layers
    have hlen := Paired.length hp
    walk_at "rd"
    rename_i f H1 n1 k1 e1
    refine rd_slL (SqL.of (k1.at0 ely)) fun c H2 n2 k2 e2 => ?_
    have ecut : cutV (das.map V.ref).reverse (some 1) none = (das.dropLast.map V.ref).reverse := by
      rw [cutV_fromV (by decide)]
      show (das.map V.ref).reverse.drop 1 = _
      rw [List.drop_reverse, List.length_map, ← List.map_take, List.dropLast_eq_take]
    rw [ecut] at e2
    have hd := Paired.dropLast hp
    have hdl := Paired.length hd
    have hdd : das.dropLast.length ≤ das.length := by rw [List.length_dropLast]; omega
    walk_at "rd"
    have hfc : c ≠ f := ne_new n2 e1 |>.symm
    refine loopER (SqL.of e2) (fun i σ' H' => ∃ x3 x4 x5 x6 x7 pq' k' fs, σ' = [some (.ref o), some (.ref pq'), some (.ref f), x3, x4, x5, x6, x7] ∧ Kp [] H H' ∧ H' c = some (.lst (das.dropLast.map V.ref).reverse) ∧ H' pq' = some (.tup [.int k'.1, .int k'.2]) ∧ H' f = some (.lst (Is fs)) ∧ fs.length ≤ i ∧
      ChainOk (Ls.dropLast.drop i) k' ∧ fs ++ passL (Ls.dropLast.drop i) i k' = passL Ls.dropLast 0 k) ⟨none, none, none, none, none, pq, k, [], rfl, by walk_at "kp", e2, by walk_at "at", by walk_at "at", Nat.le_refl _, hc, rfl⟩ ?_ ?_ ?_
    · rintro i _ H3 hi ⟨x3, x4, x5, x6, x7, pq', k', fs, rfl, k3, e3, ep, ef, hl, hch, hpl⟩
      exact SqL.of e3
    · rintro i x T' _ H3 H4 hi hx ⟨x3, x4, x5, x6, x7, pq', k', fs, rfl, k3, e3, ep, ef, hl, hch, hpl⟩ k4 eT
      rw [List.length_reverse, List.length_map] at hi hx
      obtain ⟨a, ha, rfl⟩ : ∃ a, das.dropLast[i]? = some a ∧ x = .ref a := by
        rw [List.getElem?_reverse (by rw [List.length_map]; omega), List.length_map, show das.dropLast.length - 1 - (das.dropLast.length - 1 - i) = i by omega, List.getElem?_map] at hx
        cases e : das.dropLast[i]? with
        | none => rw [e] at hx; cases hx
        | some a => rw [e] at hx; exact ⟨a, rfl, (Option.some.inj hx).symm⟩
      obtain ⟨L, hL, d, ed, hA⟩ := Paired.at hd ha
      have hdr : Ls.dropLast.drop i = L :: Ls.dropLast.drop (i + 1) := by
        obtain ⟨h3, h4⟩ := List.getElem?_eq_some_iff.mp hL
        rw [← h4]
        exact List.drop_eq_getElem_cons h3
      rw [hdr] at hch hpl
      obtain ⟨p, f', sk, hg, hch'⟩ := hch
      have ed3 := k3.at0 ed
      have hA3 := hA.tk k3.tk0
      rcases hA3.get (k := k') with ⟨g1, g2⟩ | ⟨t, x, g1, g2, v, et, hf⟩
      · rw [hg] at g2; cases g2
      · rw [hg] at g2
        obtain rfl := Option.some.inj g2
        obtain ⟨qf, rfl, eqf⟩ := hf
        simp only at et eqf
        have et4 := k4.at0 et
        have ef4 := k4.at0 ef
        have eqf4 := k4.at0 eqf
        walk_at "rd"
        refine rd_dgetT (k := pairK k') (k4.at0 ed3) (k4.at0 ep) g1 ?_
        have hpl' : fs ++ ((if sk = true then [(i : Int)] else []) ++ passL (Ls.dropLast.drop (i + 1)) (i + 1) f') = passL Ls.dropLast 0 k := by
          rw [← hpl]
          congr 1
          rw [passL, hg]
        walk_at "rd"
        refine rd_b (fun hb => ?_) (fun hb => ?_)
        · rw [if_pos hb, ← List.append_assoc] at hpl'
          walk_at "rd"
          refine rd_appI ef4 (by omega) fun H5 k5 e5 => ?_
          walk_at "rd"
          refine ⟨_, _, _, _, _, qf, f', _, rfl, (k3.trans k4).trF k5 n1, k5.at1 (k4.at0 e3) hfc, k5.at1 (k4.at0 eqf) (fun z => by rw [z, ef4] at eqf4; cases eqf4), e5, by rw [List.length_append, List.length_singleton]; omega, hch', by rw [← hpl']; rfl⟩
        · rw [if_neg (by rw [hb]; decide), List.nil_append] at hpl'
          walk_at "rd"
          refine ⟨_, _, _, _, _, qf, f', fs, rfl, k3.trans k4, k4.at0 e3, k4.at0 eqf, ef4, by omega, hch', by rw [← hpl']; rfl⟩
    · rintro _ H3 ⟨x3, x4, x5, x6, x7, pq', k', fs, rfl, k3, e3, ep, ef, hl, hch, hpl⟩
      rw [List.length_reverse, List.length_map, hdl, List.drop_length] at hpl
      simp only [passL, List.append_nil] at hpl
      walk_at "rd"
      exact q _ _ k3 n1 (by rw [← hpl]; exact ef)⟩)

/-! ### best -/
abbrev BEnt := Int × Pr
def getB (B : List (Int × BEnt)) (k : Int) : Option BEnt := (B.find? fun e => decide (e.1 = k)).map (·.2)
def putB (B : List (Int × BEnt)) (k : Int) (x : BEnt) : List (Int × BEnt) := if (B.any fun e => decide (e.1 = k)) = true then B.map (fun e => if e.1 = k then (e.1, x) else e) else B ++ [(k, x)]
def BV (H : Hp) (t : Addr) (x : BEnt) : Prop := ∃ p, H t = some (.tup [.int x.1, .ref p]) ∧ H p = some (.tup [.int x.2.1, .int x.2.2])
def BPair (H : Hp) (e : Key × V) (x : Int × BEnt) : Prop := e.1 = .inl x.1 ∧ ∃ t, e.2 = .ref t ∧ BV H t x.2
def BAt (H : Hp) (d : List (Key × V)) (B : List (Int × BEnt)) : Prop := Paired (BPair H) d B
theorem BV.tk {H H' : Hp} {t : Addr} {x : BEnt} (k : Tk H H') (h : BV H t x) : BV H' t x := by
  obtain ⟨p, e, f⟩ := h
  exact ⟨p, k _ _ e, k _ _ f⟩
theorem BAt.tk {H H' : Hp} (k : Tk H H') {d : List (Key × V)} {B : List (Int × BEnt)} (h : BAt H d B) : BAt H' d B := Paired.mono (fun _ _ hh => ⟨hh.1, by obtain ⟨t, a, b⟩ := hh.2; exact ⟨t, a, b.tk k⟩⟩) h
theorem inl_inj {a b : Int} : (Sum.inl a : Key) = Sum.inl b ↔ a = b := ⟨fun h => Sum.inl.inj h, fun h => by rw [h]⟩
theorem BAt.get {H : Hp} {k : Int} : ∀ {d : List (Key × V)} {B : List (Int × BEnt)}, BAt H d B → (valV d (.inl k) = none ∧ getB B k = none) ∨ ∃ t x, valV d (.inl k) = some (.ref t) ∧ getB B k = some x ∧ BV H t x
  | [], [], .nil => .inl ⟨rfl, rfl⟩
  | e :: d, x :: B, .cons ⟨h1, t, h2, h3⟩ r => by
    by_cases h : x.1 = k
    · refine .inr ⟨t, x.2, ?_, ?_, h3⟩
      · rw [valV_pos (by rw [h1, h]), h2]
      · unfold getB
        rw [List.find?_cons, decide_eq_true h]
        rfl
    · rw [valV_neg (by rw [h1, inl_inj]; exact h)]
      have e2 : getB (x :: B) k = getB B k := by
        unfold getB
        rw [List.find?_cons, decide_eq_false h]
      rw [e2]
      exact BAt.get r
theorem BAt.any {H : Hp} {k : Int} : ∀ {d : List (Key × V)} {B : List (Int × BEnt)}, BAt H d B → (d.any fun e => decide (e.1 = .inl k)) = B.any fun e => decide (e.1 = k)
  | [], [], .nil => rfl
  | e :: d, x :: B, .cons ⟨h1, t, h2, h3⟩ r => by
    rw [List.any_cons, List.any_cons, BAt.any r, h1]
    congr 1
    exact decide_eq_decide.mpr inl_inj
theorem BAt.map {H : Hp} {k : Int} {t : Addr} {x : BEnt} (ex : BV H t x) : ∀ {d : List (Key × V)} {B : List (Int × BEnt)}, BAt H d B → BAt H (d.map fun e => if e.1 = .inl k then (e.1, .ref t) else e) (B.map fun e => if e.1 = k then (e.1, x) else e)
  | [], [], .nil => .nil
  | e :: d, y :: B, .cons ⟨h1, t', h2, h3⟩ r => by
    refine .cons ?_ (BAt.map ex r)
    show BPair H (if e.1 = .inl k then (e.1, V.ref t) else e) (if y.1 = k then (y.1, x) else y)
    by_cases h : y.1 = k
    · rw [if_pos h, if_pos (by rw [h1, h])]
      exact ⟨h1, t, rfl, ex⟩
    · rw [if_neg h, if_neg (by rw [h1, inl_inj]; exact h)]
      exact ⟨h1, t', h2, h3⟩
theorem BAt.put {H : Hp} {d : List (Key × V)} {B : List (Int × BEnt)} {k : Int} {t : Addr} {x : BEnt} (h : BAt H d B) (ex : BV H t x) : BAt H (putK d (.inl k) (.ref t)) (putB B k x) := by
  unfold putK putB
  rw [h.any]
  split
  · exact h.map ex
  · exact Paired.snoc ⟨rfl, t, rfl, ex⟩ h
theorem putB_len (B : List (Int × BEnt)) (k : Int) (x : BEnt) : (putB B k x).length ≤ B.length + 1 := by
  unfold putB
  split
  · rw [List.length_map]; omega
  · rw [List.length_append]; exact Nat.le_refl _
section
variable {κ β : Type} [DecidableEq κ]
def gA (L : List (κ × β)) (k : κ) : Option β := (L.find? fun e => decide (e.1 = k)).map (·.2)
def pA (L : List (κ × β)) (k : κ) (x : β) : List (κ × β) := if (L.any fun e => decide (e.1 = k)) = true then L.map (fun e => if e.1 = k then (e.1, x) else e) else L ++ [(k, x)]
theorem gA_pos {e : κ × β} {r : List (κ × β)} {k : κ} (h : e.1 = k) : gA (e :: r) k = some e.2 := by unfold gA; rw [List.find?_cons, decide_eq_true h]; rfl
theorem gA_neg {e : κ × β} {r : List (κ × β)} {k : κ} (h : ¬ e.1 = k) : gA (e :: r) k = gA r k := by unfold gA; rw [List.find?_cons, decide_eq_false h]
theorem gA_map_ne {k j : κ} {x : β} (h : j ≠ k) : ∀ L : List (κ × β), gA (L.map fun e => if e.1 = k then (e.1, x) else e) j = gA L j
  | [] => rfl
  | e :: r => by
    rw [List.map_cons]
    by_cases hj : e.1 = j
    · have hk : ¬ e.1 = k := fun z => h (hj.symm.trans z)
      rw [if_neg hk, gA_pos hj, gA_pos hj]
    · have : ¬ (if e.1 = k then (e.1, x) else e).1 = j := by split <;> exact hj
      rw [gA_neg this, gA_neg hj, gA_map_ne h r]
theorem gA_map_eq {k : κ} {x : β} : ∀ L : List (κ × β), (L.any fun e => decide (e.1 = k)) = true → gA (L.map fun e => if e.1 = k then (e.1, x) else e) k = some x
  | [], h => by cases h
  | e :: r, h => by
    rw [List.map_cons]
    by_cases hk : e.1 = k
    · rw [if_pos hk, gA_pos (e := (e.1, x)) hk]
    · rw [if_neg hk, gA_neg hk]
      refine gA_map_eq r ?_
      rw [List.any_cons, decide_eq_false hk] at h
      simpa using h
theorem gA_app {L : List (κ × β)} {k j : κ} {x : β} : gA (L ++ [(k, x)]) j = match gA L j with | some y => some y | none => if j = k then some x else none := by
  induction L with
  | nil =>
    by_cases h : k = j
    · subst h; rw [List.nil_append, gA_pos rfl]; simp [gA]
    · rw [List.nil_append, gA_neg h]
      have h' : ¬ j = k := fun z => h z.symm
      simp [gA, h']
  | cons e r ih =>
    rw [List.cons_append]
    by_cases h : e.1 = j
    · rw [gA_pos h, gA_pos h]
    · rw [gA_neg h, gA_neg h, ih]
theorem gA_none {k : κ} : ∀ {L : List (κ × β)}, ¬ (L.any fun e => decide (e.1 = k)) = true → gA L k = none
  | [], _ => rfl
  | e :: r, h => by
    rw [List.any_cons, Bool.or_eq_true, not_or] at h
    rw [gA_neg (by simpa using h.1)]
    exact gA_none h.2
theorem gA_pA (L : List (κ × β)) (k : κ) (x : β) (j : κ) : gA (pA L k x) j = if j = k then some x else gA L j := by
  unfold pA
  split
  · rename_i h
    by_cases hj : j = k
    · subst hj; rw [gA_map_eq L h, if_pos rfl]
    · rw [gA_map_ne hj, if_neg hj]
  · rename_i h
    rw [gA_app]
    by_cases hj : j = k
    · subst hj; rw [gA_none h, if_pos rfl]
    · rw [if_neg hj]
      cases gA L j with
      | none => simp [hj]
      | some y => simp [hj]
theorem gA_mem {k : κ} {y : β} : ∀ {L : List (κ × β)}, gA L k = some y → (k, y) ∈ L
  | [], h => by cases h
  | e :: r, h => by
    by_cases hk : e.1 = k
    · rw [gA_pos hk] at h
      rw [← Option.some.inj h, ← hk]
      exact List.mem_cons_self
    · rw [gA_neg hk] at h
      exact List.mem_cons_of_mem _ (gA_mem h)
theorem mem_pA {L : List (κ × β)} {k : κ} {x : β} {e : κ × β} (h : e ∈ pA L k x) : e ∈ L ∨ e = (k, x) := by
  unfold pA at h
  split at h
  · obtain ⟨a, ha, rfl⟩ := List.mem_map.mp h
    by_cases hk : a.1 = k
    · rw [if_pos hk, hk]; exact .inr rfl
    · rw [if_neg hk]; exact .inl ha
  · rcases List.mem_append.mp h with h | h
    · exact .inl h
    · exact .inr (List.mem_singleton.mp h)
end
def wv (rs : List Int) (bound : Int) (x : Pr × Ent) : Int := x.2.1 - upToI rs bound x.1.1
structure BestOk (L : Lay) (rs : List Int) (bound : Int) (B : List (Int × BEnt)) : Prop where
  at' : ∀ b ∈ B, ∃ x ∈ L, x.1 = b.2.2 ∧ x.1.2 = b.1 ∧ b.2.1 = wv rs bound x
  le : ∀ x ∈ L, ∃ w, getB B x.1.2 = some w ∧ w.1 ≤ wv rs bound x
def stepB (rs : List Int) (bound : Int) (B : List (Int × BEnt)) (x : Pr × Ent) : List (Int × BEnt) := match getB B x.1.2 with
  | none => putB B x.1.2 (wv rs bound x, x.1)
  | some w => if wv rs bound x < w.1 then putB B x.1.2 (wv rs bound x, x.1) else B
theorem stepB_len (rs : List Int) (bound : Int) (B : List (Int × BEnt)) (x : Pr × Ent) : (stepB rs bound B x).length ≤ B.length + 1 := by
  unfold stepB
  split
  · exact putB_len _ _ _
  · split
    · exact putB_len _ _ _
    · omega
theorem BestOk.put {L : Lay} {rs : List Int} {bound : Int} {B : List (Int × BEnt)} (h : BestOk L rs bound B) (x : Pr × Ent) (hx : ∀ w, getB B x.1.2 = some w → wv rs bound x < w.1) : BestOk (L ++ [x]) rs bound (putB B x.1.2 (wv rs bound x, x.1)) := by
  refine ⟨fun b hb => ?_, fun y hy => ?_⟩
  · rcases mem_pA hb with hb | rfl
    · obtain ⟨y, hy, r⟩ := h.at' b hb
      exact ⟨y, List.mem_append_left _ hy, r⟩
    · exact ⟨x, List.mem_append_right _ (List.mem_singleton.mpr rfl), rfl, rfl, rfl⟩
  · have e := gA_pA B x.1.2 (wv rs bound x, x.1) y.1.2
    by_cases hj : y.1.2 = x.1.2
    · rw [if_pos hj] at e
      refine ⟨_, e, ?_⟩
      rcases List.mem_append.mp hy with hy | hy
      · obtain ⟨w, e1, e2⟩ := h.le y hy
        rw [hj] at e1
        have := hx w e1
        show wv rs bound x ≤ _
        omega
      · rw [List.mem_singleton.mp hy]
        exact Int.le_refl _
    · rw [if_neg hj] at e
      rcases List.mem_append.mp hy with hy | hy
      · obtain ⟨w, e1, e2⟩ := h.le y hy
        exact ⟨w, e.trans e1, e2⟩
      · rw [List.mem_singleton.mp hy] at hj
        exact absurd rfl hj
theorem BestOk.step {L : Lay} {rs : List Int} {bound : Int} {B : List (Int × BEnt)} (h : BestOk L rs bound B) (x : Pr × Ent) : BestOk (L ++ [x]) rs bound (stepB rs bound B x) := by
  unfold stepB
  split
  · rename_i e
    exact h.put x fun w hw => by rw [e] at hw; cases hw
  · rename_i w e
    split
    · rename_i hlt
      exact h.put x fun w' hw => by rw [e] at hw; rw [← Option.some.inj hw]; exact hlt
    · rename_i hlt
      refine ⟨fun b hb => ?_, fun y hy => ?_⟩
      · obtain ⟨y, hy, r⟩ := h.at' b hb
        exact ⟨y, List.mem_append_left _ hy, r⟩
      · rcases List.mem_append.mp hy with hy | hy
        · exact h.le y hy
        · rw [List.mem_singleton.mp hy]
          exact ⟨w, e, by omega⟩
theorem BestOk.perm {L M : Lay} {rs : List Int} {bound : Int} {B : List (Int × BEnt)} (h : BestOk L rs bound B) (p : L.Perm M) : BestOk M rs bound B :=
  ⟨fun b hb => by obtain ⟨x, hx, r⟩ := h.at' b hb; exact ⟨x, p.mem_iff.mp hx, r⟩, fun x hx => h.le x (p.mem_iff.mpr hx)⟩
theorem Paired.perm {α β : Type} {R : α → β → Prop} {as bs : List α} (p : as.Perm bs) : ∀ {ys : List β}, Paired R as ys → ∃ zs, zs.Perm ys ∧ Paired R bs zs := by
  induction p with
  | nil => exact fun h => ⟨_, .refl _, h⟩
  | cons a _ ih =>
    intro ys h
    cases h with
    | cons c r =>
      obtain ⟨zs, hz, hr⟩ := ih r
      exact ⟨_, hz.cons _, .cons c hr⟩
  | swap a b l =>
    intro ys h
    cases h with
    | cons c r =>
      cases r with
      | cons c2 r2 => exact ⟨_, .swap _ _ _, .cons c2 (.cons c r2)⟩
  | trans _ _ ih1 ih2 =>
    intro ys h
    obtain ⟨zs, hz, hr⟩ := ih1 h
    obtain ⟨ws, hw, hr2⟩ := ih2 hr
    exact ⟨ws, hw.trans hz, hr2⟩
def LPair (H : Hp) (e : Pr × V) (x : Pr × Ent) : Prop := e.1 = x.1 ∧ ∃ t, e.2 = .ref t ∧ EntAt H t x.2
theorem LayAt.kvs {H : Hp} : ∀ {d : List (List Key × V)} {L : Lay}, LayAt H d L → ∃ kvs : List (Pr × V), d = kvs.map (fun e => (pairK e.1, e.2)) ∧ Paired (LPair H) kvs L
  | [], [], .nil => ⟨[], rfl, .nil⟩
  | e :: d, x :: L, .cons ⟨h1, h2⟩ r => by
    obtain ⟨kvs, rfl, hp⟩ := LayAt.kvs r
    exact ⟨(x.1, e.2) :: kvs, by rw [List.map_cons, ← h1], .cons ⟨rfl, h2⟩ hp⟩
theorem Paired.map_left {α α' β : Type} {R : α' → β → Prop} (f : α → α') : ∀ {xs : List α} {ys : List β}, Paired R (xs.map f) ys → Paired (fun a b => R (f a) b) xs ys
  | [], [], .nil => .nil
  | _ :: _, _ :: _, .cons c r => .cons c (Paired.map_left f r)

end
section
variable {P : Program} {w : World} {K : PySem.W.Frag} {mg : Str → Option Value} {base : Heap}
theorem RingAt.k0 {H H' : Hp} {C o : Addr} {rs : List Int} (k : Kp [] H H') (h : RingAt H C o rs) : RingAt H' C o rs := by
  obtain ⟨dx, l, a, b⟩ := h
  exact ⟨dx, l, k.at0 a, k.at0 b⟩
def sp_best (K : PySem.W.Frag) (C CR : Addr) : Sp := fun vs H Q E => ∃ (o ring ly : Addr) (n bound : Int) (L : Lay) (Ls : List Lay) (rs : List Int), vs = [.ref o, .ref ring, .int bound] ∧ SkAt H C o ly n (L :: Ls) ∧ RingAt H CR ring rs ∧ 1 ≤ rs.length ∧ rs.length ≤ 1000 ∧ L.length < 99000 ∧
  ∀ p d B H', Kp [] H H' → H p = none → H' p = some (.dK d) → BAt H' d B → BestOk L rs bound B → Q (.ref p) H'
theorem ok_SkippingThreads_best (T : Txt K mg) : FnOk P w K mg base CX0 4 T.f_SkippingThreads_best T.d_SkippingThreads_best ["self", "ring", "bound"] (sp_best K T.C_SkippingThreads T.C_Ring) := T.F_SkippingThreads_best.ok sc_SkippingThreads_best (by rintro vs H Q E ⟨a, b, c, d, e, f, g, h, rfl, -⟩; rfl)
  (fun cdv A outer s H vs Q E hr h => ⟨_, (pss_cons (ps_set (i := 3) sc_SkippingThreads_best.nd rfl (Or.inl rfl) pe_dnewK)
    (pss_cons (ps_for PassesOwn.never rfl (pi_list (pe_callB (cr_sortedItT rfl hr.units) (by rfl) T.m_sorted (by decide +kernel) (pa_cons (pe_bm0 PySem.F.plainAttrs_dict PySem.F.slot_dict_items PySem.F.type_dict_items L2.DX.mt_itemsT (pe_ix ix_list (pe_fld (pv 0) rfl) (pe_un un_neg pe_int) (fun _ _ => rfl))) pa_nil))) (pg_tup rfl (pgs_cons (pg_tup rfl (pgs_cons (pg_name (i := 4) sc_SkippingThreads_best.nd rfl (Or.inl rfl)) (pgs_cons (pg_name (i := 5) sc_SkippingThreads_best.nd rfl (Or.inl rfl)) pgs_nil))) (pgs_cons (pg_tup rfl (pgs_cons (pg_name (i := 6) sc_SkippingThreads_best.nd rfl (Or.inl rfl)) (pgs_cons (pg_name (i := 7) sc_SkippingThreads_best.nd rfl (Or.inl rfl)) (pgs_cons (pg_name (i := 8) sc_SkippingThreads_best.nd rfl (Or.inl rfl)) pgs_nil)))) pgs_nil))) (pss_cons (ps_set (i := 9) sc_SkippingThreads_best.nd rfl (Or.inl rfl) (pe_op op_sub (pv 6) (pe_meth (pv 1) T.cl_Ring T.me_Ring_up_to (ok_Ring_up_to T) (hr.mono (by decide)) T.b_Ring_up_to .nil pass0 (pa_cons (pv 2) (pa_cons (pv 4) pa_nil)))))
    (pss_one (ps_if (PW.pt (pw_or (pt_cmp (pc_dnotin (hu_of hr) (pv 5) (pv 3))) (pw_or1 (pt_cmpR op_lt (pv 9) (pe_ix ix_tup (pe_dget (hu_of hr) (pv 3) (pv 5) (fun _ _ => rfl)) pe_int (fun _ _ => rfl)) (nomark _))))) (pss_one (ps_dput (hu_of hr) (pv 3) (pv 5) (pe_tup (pa_cons (pv 9) (pa_cons (pe_tup (pa_cons (pv 4) (pa_cons (pv 5) pa_nil))) pa_nil))) rfl)) pss_nil))))
    (pss_one (ps_ret (pv 3))))), by
    obtain ⟨o, ring, ly, n, bound, L, Ls, rs, rfl, ⟨dx, das, eo, ely, hp⟩, hR, h1, hn, hLl, q⟩ := h
    have cl := T.cl_SkippingThreads
    have na1 := T.na_SkippingThreads_place_count
    have na2 := T.na_SkippingThreads_layers
    obtain ⟨td, tds, rfl⟩ : ∃ td tds, das = td :: tds := by
      cases das with
      | nil => cases hp
      | cons a b => exact ⟨a, b, rfl⟩
    obtain ⟨dt, etd, hL⟩ : ∃ d, H td = some (.dT d) ∧ LayAt H d L := by
      cases hp with
      | cons a b => exact a
    obtain ⟨kvs, rfl, hkv⟩ := hL.kvs
    walk_at "rd"
    refine rd_newK fun f H1 n1 k1 e1 => ?_
    walk_at "rd"
    refine rd_ixLast (v := .ref td) (xs := (tds.map V.ref).reverse) (SqL.of ?_) ?_
    · rw [k1.at0 ely, List.map_cons, List.reverse_cons]
    refine rd_tyD (k1.at0 etd) ?_
    refine rd_itemsT (k1.at0 etd) fun iv H2 n2 k2 e2 => ?_
    walk_at "rd"
    refine ⟨iv, td, kvs, rfl, e2, k2.at0 (k1.at0 etd), fun H3 l ps k3' n3 hperm e3 hps => ?_⟩
    have k3 : Kp [] H2 H3 := fun b o _ e => k3' b o e
    have k03 : Kp [] H H3 := (k1.trans k2).trans k3
    have f3 : H3 f = some (.dK []) := k3.at0 (k2.at0 e1)
    have hlf : l ≠ f := new_ne n3 (k2.at0 e1)
    obtain ⟨xs, hxs, hpx⟩ := Paired.perm hperm.symm hkv
    have hpx' := Paired.map_left (fun z : Addr × (Pr × V) => z.2) hpx
    have hxl : xs.length = L.length := hxs.length_eq
    walk_at "rd"
    refine loopL (SqL.of e3) (fun i σ' H' => ∃ x4 x5 x6 x7 x8 x9 d B, σ' = [some (.ref o), some (.ref ring), some (.int bound), some (.ref f), x4, x5, x6, x7, x8, x9] ∧ Kp [f] H3 H' ∧ H' f = some (.dK d) ∧ BAt H' d B ∧ BestOk (xs.take i) rs bound B ∧ B.length ≤ i) ⟨none, none, none, none, none, none, [], [], rfl, .refl, f3, .nil, ⟨(fun b hb => by cases hb), fun x hx => by cases hx⟩, Nat.le_refl _⟩ ?_ ?_ ?_
    · rintro i _ H4 hi ⟨x4, x5, x6, x7, x8, x9, d, B, rfl, k4, e4, hB, hok, hBl⟩
      exact SqL.of (k4.at1 e3 hlf)
    · rintro i z _ H4 hi ⟨x4, x5, x6, x7, x8, x9, d, B, rfl, k4, e4, hB, hok, hBl⟩
      obtain ⟨z', hz, rfl⟩ : ∃ z', ps[i]? = some z' ∧ z = .ref z'.1 := by
        rw [List.getElem?_map] at hi
        cases e : ps[i]? with
        | none => rw [e] at hi; cases hi
        | some a => rw [e] at hi; exact ⟨a, rfl, (Option.some.inj hi).symm⟩
      obtain ⟨x, hx, hxk, t, hzt, hent⟩ := Paired.at hpx' hz
      obtain ⟨kq, ez, ekq⟩ := hps z' (List.mem_of_getElem? hz)
      obtain ⟨⟨en, nu⟩, price, fol, sk⟩ := x
      obtain ⟨za, zk, zv⟩ := z'
      simp only at hxk hzt ez ekq
      subst hxk hzt
      have tk4 : Tk H3 H4 := k4.tk1 f3 fun xs z => nomatch z
      obtain ⟨v, et, hf⟩ := hent.tk (k03.tk0.trans tk4)
      have ez4 := tk4 _ _ ez
      have ekq4 := tk4 _ _ ekq
      have kH4 : Kp [] H H4 := k03.trF k4 n1
      have hR4 := hR.k0 kH4
      obtain ⟨rdx, rl, er, erl⟩ := id hR4
      have hil : i < ps.length := (List.getElem?_eq_some_iff.mp hz).1
      have hpl : ps.length = xs.length := Paired.length hpx'
      have hstep : xs.take (i + 1) = xs.take i ++ [((en, nu), price, fol, sk)] := by
        rw [List.take_add_one, hx]; rfl
      have hok' := hok.step ((en, nu), price, fol, sk)
      rw [← hstep] at hok'
      have hsl := stepB_len rs bound B ((en, nu), price, fol, sk)
      walk_at "rd"
      refine ⟨_, _, _, _, rfl, hR4, h1, hn, fun H5 k5 => ?_⟩
      have e5 := k5.at0 e4
      have hB5 := hB.tk k5.tk0
      walk_at "rd"
      rcases hB5.get (k := nu) with ⟨g1, g2⟩ | ⟨t', y, g1, g2, p', ey, eyp⟩
      · have hs : stepB rs bound B ((en, nu), price, fol, sk) = putB B nu (price - upToI rs bound en, (en, nu)) := by
          unfold stepB
          rw [show getB B ((en, nu), price, fol, sk).1.2 = none from g2]
          rfl
        refine rd_dninK0 e5 g1 ?_
        walk_at "rd"
        rename_i p1 H6 n6 k6 e6 p2 H7 n7 k7 e7
        have hdl := Paired.length hB5
        have ed7 := k7.at0 (k6.at0 e5)
        refine rd_dputK ed7 (by omega) fun H8 k8 e8 => ?_
        have t8 : Tk H7 H8 := k8.tk1 ed7 fun xs z => nomatch z
        walk_at "rd"
        rw [hs] at hok' hsl
        exact ⟨_, _, _, _, _, _, _, _, rfl, (((k4.tr0 k5).tr0 k6).tr0 k7).tr k8, e8, BAt.put (hB5.tk ((k6.tk0.trans k7.tk0).trans t8)) ⟨p1, t8 _ _ e7, t8 _ _ (k7.at0 e6)⟩, hok', Nat.le_trans hsl (by omega)⟩
      · refine rd_dninK1 e5 g1 ?_
        walk_at "rd"
        refine rd_dgetK e5 g1 ?_
        walk_at "rd"
        refine rd_d (fun h => ?_) (fun h => ?_)
        · have hs : stepB rs bound B ((en, nu), price, fol, sk) = putB B nu (price - upToI rs bound en, (en, nu)) := by
            unfold stepB
            rw [show getB B ((en, nu), price, fol, sk).1.2 = some y from g2]
            exact if_pos h
          walk_at "rd"
          rename_i p1 H6 n6 k6 e6 p2 H7 n7 k7 e7
          have hdl := Paired.length hB5
          have ed7 := k7.at0 (k6.at0 e5)
          refine rd_dputK ed7 (by omega) fun H8 k8 e8 => ?_
          have t8 : Tk H7 H8 := k8.tk1 ed7 fun xs z => nomatch z
          walk_at "rd"
          rw [hs] at hok' hsl
          exact ⟨_, _, _, _, _, _, _, _, rfl, (((k4.tr0 k5).tr0 k6).tr0 k7).tr k8, e8, BAt.put (hB5.tk ((k6.tk0.trans k7.tk0).trans t8)) ⟨p1, t8 _ _ e7, t8 _ _ (k7.at0 e6)⟩, hok', Nat.le_trans hsl (by omega)⟩
        · have hs : stepB rs bound B ((en, nu), price, fol, sk) = B := by
            unfold stepB
            rw [show getB B ((en, nu), price, fol, sk).1.2 = some y from g2]
            exact if_neg h
          rw [hs] at hok' hsl
          walk_at "rd"
          exact ⟨_, _, _, _, _, _, _, _, rfl, k4.tr0 k5, e5, hB5, hok', by omega⟩
    · rintro _ H4 ⟨x4, x5, x6, x7, x8, x9, d, B, rfl, k4, e4, hB, hok, hBl⟩
      have hpl : ps.length = xs.length := Paired.length hpx'
      rw [List.length_map, hpl, List.take_length] at hok
      walk_at "rd"
      exact q _ d B _ (k03.trF k4 n1) n1 e4 hB (hok.perm hxs)⟩)

end
section
variable {P : Program} {w : World} {K : PySem.W.Frag} {mg : Str → Option Value} {base : Heap}
theorem BAt.ws {H : Hp} : ∀ {d : List (Key × V)} {B : List (Int × BEnt)}, BAt H d B → ∃ ws : List (Addr × Addr × (Int × (Int × Int))), d.map (·.2) = ws.map (fun z => V.ref z.1) ∧ ws.map (·.2.2) = B.map (·.2) ∧ (∀ z ∈ ws, H z.1 = some (.tup [.int z.2.2.1, .ref z.2.1]) ∧ H z.2.1 = some (.tup [.int z.2.2.2.1, .int z.2.2.2.2]))
  | [], [], .nil => ⟨[], rfl, rfl, fun z h => by cases h⟩
  | e :: d, x :: B, .cons ⟨h1, t, h2, p, h3, h4⟩ r => by
    obtain ⟨ws, a, b, c⟩ := BAt.ws r
    refine ⟨(t, p, x.2) :: ws, ?_, ?_, ?_⟩
    · rw [List.map_cons, List.map_cons, a, h2]
    · rw [List.map_cons, List.map_cons, b]
    · intro z hz
      rcases List.mem_cons.mp hz with rfl | hz
      · exact ⟨h3, h4⟩
      · exact c z hz
theorem SkAt.k0 {H H' : Hp} {C o ly : Addr} {n : Int} {Ls : List Lay} (k : Kp [] H H') (h : SkAt H C o ly n Ls) : SkAt H' C o ly n Ls := by
  obtain ⟨dx, das, a, b, c⟩ := h
  exact ⟨dx, das, k.at0 a, k.at0 b, Paired.mono (fun x y ⟨d, e, f⟩ => ⟨d, k.at0 e, f.tk k.tk0⟩) c⟩
def mOf (lost : Int) (gs : List Int) : Int := if (gs.length : Int) < lost then gs.length else lost
def sp_least (K : PySem.W.Frag) (C CR : Addr) : Sp := fun vs H Q E => ∃ (ring p : Addr) (bound gap lost : Int) (rs gs : List Int), vs = [.ref ring, .ref p, .int bound, .int gap, .int lost] ∧ RingAt H CR ring rs ∧ H p = some (.lst (Is gs)) ∧ 1 ≤ rs.length ∧ rs.length ≤ 1000 ∧ gs.length ≤ 1000 ∧
  FitAll rs.length (mOf lost gs) gap gs ∧ (topL rs.length (mOf lost gs) gap gs).length < 99000 ∧ topL rs.length (mOf lost gs) gap gs ≠ [] ∧ (∀ x ∈ topL rs.length (mOf lost gs) gap gs, ChainOk (laysL rs.length (mOf lost gs) gap gs).dropLast x.1) ∧
  ∀ t f x H', Kp [] H H' → H t = none → H f = none → H' t = some (.tup [.int (upToI rs bound gap + wv rs bound x), .ref f]) → H' f = some (.lst (Is (passL (laysL rs.length (mOf lost gs) gap gs).dropLast 0 x.1))) →
    x ∈ topL rs.length (mOf lost gs) gap gs → (∀ y ∈ topL rs.length (mOf lost gs) gap gs, wv rs bound x ≤ wv rs bound y) → Q (.ref t) H'
theorem ok_least (T : Txt K mg) : FnOk P w K mg base CX0 5 T.f_least T.d_least ["ring", "schedule", "bound", "gap", "lost"] (sp_least K T.C_SkippingThreads T.C_Ring) := T.F_least.ok sc_least (by rintro vs H Q E ⟨a, b, c, d, e, f, g, rfl, -⟩; rfl)
  (fun cdv A outer s H vs Q E hr h => ⟨_, (pss_cons (ps_set (i := 5) sc_least.nd rfl (Or.inl rfl) (pe_make T.mk_SkippingThreads (ok_SkippingThreads_init T) (hr.mono (by decide)) (by rfl) T.gC_SkippingThreads T.b_SkippingThreads_init .nil pass0 (pa_cons (pe_prop (pv 0) T.cl_Ring T.pr_Ring_size (ok_Ring_size T) (hr.mono (by decide)) T.b_Ring_size .nil pass0 rfl) (pa_cons (pv 1) (pa_cons (pv 3) (pa_cons (pe_callB (call_min2 rfl) (by rfl) T.m_min (by decide +kernel) (pa_cons (pv 4) (pa_cons (pe_callB call_len_seq (by rfl) T.m_len (by decide +kernel) (pa_cons (pv 1) pa_nil)) pa_nil))) pa_nil))))))
    (pss_cons (ps_asg (pe_minValsT rfl hr.units (by rfl) T.m_min (pe_meth (pv 5) T.cl_SkippingThreads T.me_SkippingThreads_best (ok_SkippingThreads_best T) (hr.mono (by decide)) T.b_SkippingThreads_best .nil pass0 (pa_cons (pv 0) (pa_cons (pv 2) pa_nil)))) (pg_tup rfl (pgs_cons (pg_name (i := 6) sc_least.nd rfl (Or.inl rfl)) (pgs_cons (pg_name (i := 7) sc_least.nd rfl (Or.inl rfl)) pgs_nil))))
    (pss_one (ps_ret (pe_tup (pa_cons (pe_op op_add (pe_meth (pv 0) T.cl_Ring T.me_Ring_up_to (ok_Ring_up_to T) (hr.mono (by decide)) T.b_Ring_up_to .nil pass0 (pa_cons (pv 2) (pa_cons (pv 3) pa_nil))) (pv 6)) (pa_cons (pe_meth (pv 5) T.cl_SkippingThreads T.me_SkippingThreads_passed_over (ok_SkippingThreads_passed_over T) (hr.mono (by decide)) T.b_SkippingThreads_passed_over .nil pass0 (pa_cons (pv 7) pa_nil)) pa_nil))))))), by
    obtain ⟨ring, p, bound, gap, lost, rs, gs, rfl, hR, ep, h1, hn, hgs, fit, hlt, hne, hch, q⟩ := h
    have cl := T.cl_SkippingThreads
    have na1 := T.na_SkippingThreads_place_count
    have na2 := T.na_SkippingThreads_layers
    obtain ⟨rdx, rl, er, erl⟩ := id hR
    walk_at "rd"
    refine ⟨_, _, rfl, hR, ?_⟩
    walk_at "rd"
    rename_i o dx H1 n1 k1 e1
    refine ⟨o, p, dx, rs.length, gap, mOf lost gs, gs, rfl, e1, k1.at0 ep, by omega, hgs, fit, fun ly H2 k2 S2 => ?_⟩
    have k02 : Kp [] H H2 := k1.trF k2 n1
    obtain ⟨r, er2, hr'⟩ := laysL_head rs.length (mOf lost gs) gap gs
    have S2' := S2
    rw [er2] at S2'
    obtain ⟨sdx, sdas, es, esl, -⟩ := id S2
    walk_at "rd"
    refine ⟨o, ring, ly, _, bound, _, r, rs, rfl, S2', hR.k0 k02, h1, hn, hlt, fun bp d B H3 k3 n3 e3 hB hok => ?_⟩
    obtain ⟨ws, w1, w2, w3⟩ := hB.ws
    refine ⟨bp, d, ws, rfl, e3, w1, ?_, w3, fun z hz hmin => ?_⟩
    · rintro rfl
      obtain ⟨x, hx⟩ := List.exists_mem_of_ne_nil _ hne
      obtain ⟨w, hw, -⟩ := hok.le x hx
      have := gA_mem hw
      rw [List.map_nil] at w2
      rw [List.map_eq_nil_iff.mp w2.symm] at this
      cases this
    · obtain ⟨z1, z2, z3, z4⟩ := z
      have zB : (z3, z4) ∈ B.map (·.2) := by rw [← w2]; exact List.mem_map.mpr ⟨_, hz, rfl⟩
      obtain ⟨b, hb, hbe⟩ := List.mem_map.mp zB
      obtain ⟨x, hx, x1, x2, x3⟩ := hok.at' b hb
      have hxw : wv rs bound x = z3 := by rw [← x3, hbe]
      have hxk : x.1 = z4 := by rw [x1, hbe]
      obtain ⟨et, eq'⟩ := w3 _ hz
      have k03 := k02.trans k3
      have hR3 := hR.k0 k03
      have S3 := S2.k0 k3
      obtain ⟨rdx3, rl3, er3, erl3⟩ := id hR3
      obtain ⟨sdx3, sdas3, es3, esl3, -⟩ := id S3
      have hminx : ∀ y ∈ topL rs.length (mOf lost gs) gap gs, wv rs bound x ≤ wv rs bound y := by
        intro y hy
        obtain ⟨w, hw, hle⟩ := hok.le y hy
        have hm := gA_mem hw
        have : w ∈ ws.map (·.2.2) := by rw [w2]; exact List.mem_map.mpr ⟨_, hm, rfl⟩
        obtain ⟨v, hv, hve⟩ := List.mem_map.mp this
        have := hmin v hv
        simp only at this
        rw [hxw]
        refine Int.le_trans this ?_
        rw [hve]
        exact hle
      simp only at et eq'
      walk_at "rd"
      refine ⟨_, _, _, _, rfl, hR3, h1, hn, fun H4 k4 => ?_⟩
      have S4 := S3.k0 k4
      obtain ⟨sdx4, sdas4, es4, esl4, -⟩ := id S4
      walk_at "rd"
      refine ⟨o, z2, ly, _, _, z4, rfl, S4, by rw [er2, List.length_cons, hr']; omega, k4.at0 eq', by rw [← hxk]; exact hch x hx, fun f H5 k5 n5 e5 => ?_⟩
      walk_at "rd"
      rename_i t H6 n6 k6 e6
      have k04 := k03.trans k4
      refine q t f x H6 ((k04.trans k5).trans k6) ((k04.trans k5).free0 n6) (k04.free0 n5) (by rw [e6, hxw]) (by rw [hxk]; exact k6.at0 e5) hx hminx⟩)
def sp_needed (K : PySem.W.Frag) (C CR : Addr) : Sp := fun vs H Q E => ∃ (ring p : Addr) (bound gap most : Int) (rs gs : List Int), vs = [.ref ring, .ref p, .int bound, .int gap, .int most] ∧ RingAt H CR ring rs ∧ H p = some (.lst (Is gs)) ∧ 1 ≤ rs.length ∧ rs.length ≤ 1000 ∧ gs.length ≤ 1000 ∧
  FitAll rs.length gs.length gap gs ∧ (topL rs.length gs.length gap gs).length < 99000 ∧ (∃ x ∈ topL rs.length gs.length gap gs, 0 ≤ x.1.2 ∧ upToI rs bound gap + wv rs bound x ≤ most) ∧ (∀ x ∈ topL rs.length gs.length gap gs, ChainOk (laysL rs.length gs.length gap gs).dropLast x.1) ∧
  ∀ t f x H', Kp [] H H' → H t = none → H f = none → H' t = some (.tup [.int x.1.2, .ref f]) → H' f = some (.lst (Is (passL (laysL rs.length gs.length gap gs).dropLast 0 x.1))) →
    x ∈ topL rs.length gs.length gap gs → 0 ≤ x.1.2 → upToI rs bound gap + wv rs bound x ≤ most → (∀ y ∈ topL rs.length gs.length gap gs, 0 ≤ y.1.2 → y.1.2 < x.1.2 → most < upToI rs bound gap + wv rs bound y) → Q (.ref t) H'
theorem ok_needed (T : Txt K mg) : FnOk P w K mg base CX0 5 T.f_needed T.d_needed ["ring", "schedule", "bound", "gap", "most"] (sp_needed K T.C_SkippingThreads T.C_Ring) := T.F_needed.ok sc_needed (by rintro vs H Q E ⟨a, b, c, d, e, f, g, rfl, -⟩; rfl)
  (fun cdv A outer s H vs Q E hr h => ⟨_, (pss_cons (ps_set (i := 5) sc_needed.nd rfl (Or.inl rfl) (pe_make T.mk_SkippingThreads (ok_SkippingThreads_init T) (hr.mono (by decide)) (by rfl) T.gC_SkippingThreads T.b_SkippingThreads_init .nil pass0 (pa_cons (pe_prop (pv 0) T.cl_Ring T.pr_Ring_size (ok_Ring_size T) (hr.mono (by decide)) T.b_Ring_size .nil pass0 rfl) (pa_cons (pv 1) (pa_cons (pv 3) (pa_cons (pe_callB call_len_seq (by rfl) T.m_len (by decide +kernel) (pa_cons (pv 1) pa_nil)) pa_nil))))))
    (pss_cons (ps_set (i := 6) sc_needed.nd rfl (Or.inl rfl) (pe_meth (pv 5) T.cl_SkippingThreads T.me_SkippingThreads_best (ok_SkippingThreads_best T) (hr.mono (by decide)) T.b_SkippingThreads_best .nil pass0 (pa_cons (pv 0) (pa_cons (pv 2) pa_nil))))
    (pss_cons (ps_set (i := 7) sc_needed.nd rfl (Or.inl rfl) pe_int)
    (pss_cons (ps_while PassesOwn.never (PW.pt (pw_or (pt_cmp (pc_dnotin (hu_of hr) (pv 7) (pv 6))) (pw_or1 (pt_cmpR op_gt (pe_op op_add (pe_meth (pv 0) T.cl_Ring T.me_Ring_up_to (ok_Ring_up_to T) (hr.mono (by decide)) T.b_Ring_up_to .nil pass0 (pa_cons (pv 2) (pa_cons (pv 3) pa_nil))) (pe_ix ix_tup (pe_dget (hu_of hr) (pv 6) (pv 7) (fun _ _ => rfl)) pe_int (fun _ _ => rfl))) (pv 4) (nomark _))))) (pss_one (ps_aug (i := 7) sc_needed.nd rfl (Or.inl rfl) pe_int ip_add)))
    (pss_one (ps_ret (pe_tup (pa_cons (pv 7) (pa_cons (pe_meth (pv 5) T.cl_SkippingThreads T.me_SkippingThreads_passed_over (ok_SkippingThreads_passed_over T) (hr.mono (by decide)) T.b_SkippingThreads_passed_over .nil pass0 (pa_cons (pe_ix ix_tup (pe_dget (hu_of hr) (pv 6) (pv 7) (fun _ _ => rfl)) pe_int (fun _ _ => rfl)) pa_nil)) pa_nil))))))))), by
    obtain ⟨ring, p, bound, gap, most, rs, gs, rfl, hR, ep, h1, hn, hgs, fit, hlt, ⟨x0, hx0, h00, h01⟩, hch, q⟩ := h
    have cl := T.cl_SkippingThreads
    have na1 := T.na_SkippingThreads_place_count
    have na2 := T.na_SkippingThreads_layers
    obtain ⟨rdx, rl, er, erl⟩ := id hR
    walk_at "rd"
    refine ⟨_, _, rfl, hR, ?_⟩
    walk_at "rd"
    rename_i o dx H1 n1 k1 e1
    refine ⟨o, p, dx, rs.length, gap, gs.length, gs, rfl, e1, k1.at0 ep, by omega, hgs, fit, fun ly H2 k2 S2 => ?_⟩
    have k02 : Kp [] H H2 := k1.trF k2 n1
    obtain ⟨r, er2, hr'⟩ := laysL_head rs.length gs.length gap gs
    have S2' := S2
    rw [er2] at S2'
    obtain ⟨sdx, sdas, es, esl, -⟩ := id S2
    walk_at "rd"
    refine ⟨o, ring, ly, _, bound, _, r, rs, rfl, S2', hR.k0 k02, h1, hn, hlt, fun bp d B H3 k3 n3 e3 hB hok => ?_⟩
    have k03 := k02.trans k3
    have S3 := S2.k0 k3
    obtain ⟨w0, hw0, hw1⟩ := hok.le x0 hx0
    walk_at "rd"
    refine rd_while (fun m σ' H' => ∃ j : Int, σ' = [some (.ref ring), some (.ref p), some (.int bound), some (.int gap), some (.int most), some (.ref o), some (.ref bp), some (.int j)] ∧ Kp [] H3 H' ∧ 0 ≤ j ∧ j ≤ x0.1.2 ∧ m = (x0.1.2 - j).toNat ∧ ∀ y ∈ topL rs.length gs.length gap gs, 0 ≤ y.1.2 → y.1.2 < j → most < upToI rs bound gap + wv rs bound y) x0.1.2.toNat
      ⟨0, rfl, .refl, Int.le_refl 0, h00, by rw [Int.sub_zero], fun y _ h h' => by omega⟩ ?_
    rintro m _ H4 ⟨j, rfl, k4, j0, j1, rfl, hj⟩
    have e4 := k4.at0 e3
    have hB4 := hB.tk k4.tk0
    have hR4 := hR.k0 (k03.trans k4)
    have S4 := S3.k0 k4
    obtain ⟨rdx4, rl4, er4, erl4⟩ := id hR4
    walk_at "rd"
    rcases hB4.get (k := j) with ⟨g1, g2⟩ | ⟨t', y, g1, g2, p', ey, eyp⟩
    · refine rd_dninK0 e4 g1 ?_
      have hjne : j ≠ x0.1.2 := fun z => by rw [← z, g2] at hw0; cases hw0
      walk_at "rd"
      refine rd_aW ?_
      walk_at "rd"
      refine ⟨_, ?_, j + 1, rfl, k4, by omega, by omega, rfl, fun y hy y0 y1 => ?_⟩
      · omega
      · by_cases z : y.1.2 = j
        · obtain ⟨w, hw, -⟩ := hok.le y hy
          rw [z, g2] at hw
          cases hw
        · exact hj y hy y0 (by omega)
    · refine rd_dninK1 e4 g1 ?_
      obtain ⟨x, hx, x1, x2, x3⟩ := hok.at' _ (gA_mem g2)
      simp only at x1 x2 x3
      walk_at "rd"
      refine ⟨_, _, _, _, rfl, hR4, h1, hn, fun H5 k5 => ?_⟩
      have hB5 := hB4.tk k5.tk0
      walk_at "rd"
      refine rd_dgetK (k5.at0 e4) g1 ?_
      have ey5 := k5.at0 ey
      walk_at "rd"
      refine rd_d (fun h => ?_) (fun h => ?_)
      · have hjne : j ≠ x0.1.2 := fun z => by
          rw [← z, g2] at hw0
          have := Option.some.inj hw0
          rw [this] at h
          omega
        refine rd_aW ?_
        walk_at "rd"
        refine ⟨_, ?_, j + 1, rfl, k4.trans k5, by omega, by omega, rfl, fun y' hy y0 y1 => ?_⟩
        · omega
        · by_cases z : y'.1.2 = j
          · obtain ⟨w, hw, hle⟩ := hok.le y' hy
            rw [z, g2] at hw
            have := Option.some.inj hw
            rw [this] at h
            omega
          · exact hj y' hy y0 (by omega)
      · have S5 := S4.k0 k5
        obtain ⟨sdx5, sdas5, es5, esl5, -⟩ := id S5
        walk_at "rd"
        refine rd_dgetK (k5.at0 e4) g1 ?_
        walk_at "rd"
        refine ⟨o, p', ly, _, _, y.2, rfl, S5, by rw [er2, List.length_cons, hr']; omega, k5.at0 eyp, by rw [← x1]; exact hch x hx, fun f H6 k6 n6 e6 => ?_⟩
        walk_at "rd"
        rename_i t H7 n7 k7 e7
        have k05 := (k03.trans k4).trans k5
        refine q t f x H7 ((k05.trans k6).trans k7) ((k05.trans k6).free0 n7) (k05.free0 n6) (by rw [e7, x2]) (by rw [x1]; exact k7.at0 e6) hx (by omega) (by omega) (fun y' hy y0 y1 => hj y' hy y0 (by omega))⟩)

end
section
variable {P : Program} {w : World} {K : PySem.W.Frag} {mg : Str → Option Value} {base : Heap}
/-! ### the layers, plainly -/
def callH (n g : Int) (h : Int → Int) : Int → Int := fun p => if (p - g) % n = 0 then max (h (p - 1)) (h (p + 1) - 1) else h p
def runH (n : Int) (gs : List Int) (h : Int → Int) : Int → Int := gs.foldl (fun h g => callH n g h) h
theorem runH_cons {n g : Int} {gs : List Int} {h : Int → Int} : runH n (g :: gs) h = runH n gs (callH n g h) := rfl
theorem callH_mono {n g : Int} {h h' : Int → Int} (H : ∀ p, h p ≤ h' p) (p : Int) : callH n g h p ≤ callH n g h' p := by
  unfold callH
  have h1 := H (p - 1)
  have h2 := H (p + 1)
  have h3 := H p
  split <;> omega
theorem runH_mono {n : Int} : ∀ (gs : List Int) {h h' : Int → Int}, (∀ p, h p ≤ h' p) → ∀ p, runH n gs h p ≤ runH n gs h' p
  | [], _, _, H, p => H p
  | g :: gs, _, _, H, p => runH_mono gs (callH_mono H) p
theorem callH_sub {n g : Int} {h : Int → Int} (p : Int) : callH n g (fun p => h p - 1) p = callH n g h p - 1 := by
  show (if (p - g) % n = 0 then max (h (p - 1) - 1) (h (p + 1) - 1 - 1) else h p - 1) = (if (p - g) % n = 0 then max (h (p - 1)) (h (p + 1) - 1) else h p) - 1
  split <;> omega
theorem runH_sub {n : Int} : ∀ (gs : List Int) (h : Int → Int) (p : Int), runH n gs (fun p => h p - 1) p = runH n gs h p - 1
  | [], _, _ => rfl
  | g :: gs, h, p => by
    rw [runH_cons, runH_cons, ← runH_sub gs (callH n g h) p]
    congr 1
    funext q
    exact callH_sub q
/-- steps of 0 or 1 -/
def Wk (h : Int → Int) : Prop := ∀ p, h (p - 1) ≤ h p ∧ h p ≤ h (p - 1) + 1
theorem Wk.at (w : Wk h) (p : Int) : h p ≤ h (p + 1) ∧ h (p + 1) ≤ h p + 1 := by
  have := w (p + 1)
  rwa [show p + 1 - 1 = p by omega] at this
theorem callH_le {n g : Int} {h : Int → Int} (w : Wk h) (p : Int) : callH n g h p ≤ h p ∧ h p - 1 ≤ callH n g h p := by
  unfold callH
  have h1 := w p
  have h2 := w.at p
  split <;> omega
theorem callH_wk {n g : Int} {h : Int → Int} (w : Wk h) (hn : 2 ≤ n) : Wk (callH n g h) := by
  intro p
  have h1 := w p
  have h2 := w.at p
  have h3 := w (p - 1)
  unfold callH
  by_cases a : (p - g) % n = 0
  · have b : ¬ (p - 1 - g) % n = 0 := fun b => by
      have := Int.emod_emod_of_dvd (p - g) (Int.dvd_refl n)
      have e : (p - g) - (p - 1 - g) = 1 := by omega
      have d : n ∣ 1 := by rw [← e]; exact Int.dvd_sub (Int.dvd_of_emod_eq_zero a) (Int.dvd_of_emod_eq_zero b)
      have := Int.le_of_dvd (by decide) d
      omega
    rw [if_pos a, if_neg b]
    omega
  · rw [if_neg a]
    by_cases b : (p - 1 - g) % n = 0
    · rw [if_pos b]
      rw [show p - 1 + 1 = p by omega]
      omega
    · rw [if_neg b]
      exact h1
theorem runH_wk {n : Int} (hn : 2 ≤ n) : ∀ (gs : List Int) {h : Int → Int}, Wk h → Wk (runH n gs h)
  | [], _, w => w
  | g :: gs, _, w => runH_wk hn gs (callH_wk w hn)
/-- the calls that are kept, the first one's index being i -/
def remF (i : Int) (ls : List Int) : List Int → List Int
  | [] => []
  | g :: gs => if i ∈ ls then remF (i + 1) ls gs else g :: remF (i + 1) ls gs
theorem remF_cons {i g : Int} {ls gs : List Int} : remF i ls (g :: gs) = if i ∈ ls then remF (i + 1) ls gs else g :: remF (i + 1) ls gs := rfl
def cntF (i : Int) (ls : List Int) : List Int → Int
  | [] => 0
  | _ :: gs => (if i ∈ ls then 1 else 0) + cntF (i + 1) ls gs
/-- losing calls lowers nothing -/
theorem lose_le {n : Int} (hn : 2 ≤ n) (ls : List Int) : ∀ (gs : List Int) (i : Int) {h : Int → Int}, Wk h → ∀ p, runH n gs h p ≤ runH n (remF i ls gs) h p
  | [], _, _, _, p => Int.le_refl _
  | g :: gs, i, h, w, p => by
    rw [remF_cons]
    have ih := lose_le hn ls gs (i + 1) (callH_wk (g := g) w hn) p
    rw [runH_cons]
    split
    · exact Int.le_trans ih (runH_mono _ (fun q => (callH_le w q).1) p)
    · rw [runH_cons]
      exact ih
/-- one call less lost lowers by one at most -/
theorem lose_one {n : Int} (hn : 2 ≤ n) {ls ms : List Int} (r : Int) (hr : ∀ j, j ∈ ls → j = r ∨ j ∈ ms) (hm : ∀ j, j ∈ ms → j ∈ ls) : ∀ (gs : List Int) (i : Int) {h : Int → Int}, Wk h → ∀ p, runH n (remF i ls gs) h p - 1 ≤ runH n (remF i ms gs) h p := by
  have same : ∀ (gs : List Int) (i : Int), r < i → remF i ls gs = remF i ms gs := by
    intro gs
    induction gs with
    | nil => intro i _; rfl
    | cons g gs ih =>
      intro i hi
      unfold remF
      rw [ih (i + 1) (by omega)]
      by_cases h : i ∈ ls
      · rcases hr i h with h' | h'
        · omega
        · rw [if_pos h, if_pos h']
      · rw [if_neg h, if_neg fun z => h (hm i z)]
  intro gs
  induction gs with
  | nil => intro i h w p; show h p - 1 ≤ h p; omega
  | cons g gs ih =>
    intro i h w p
    unfold remF
    by_cases hl : i ∈ ls
    · by_cases hm' : i ∈ ms
      · rw [if_pos hl, if_pos hm']
        exact ih (i + 1) w p
      · rw [if_pos hl, if_neg hm', runH_cons]
        have hir : i = r := (hr i hl).resolve_right hm'
        rw [same gs (i + 1) (by omega), ← runH_sub]
        exact runH_mono _ (fun q => (callH_le w q).2) p
    · rw [if_neg hl, if_neg fun z => hl (hm i z), runH_cons, runH_cons]
      exact ih (i + 1) (callH_wk w hn) p
theorem remF_none {ls : List Int} : ∀ {gs : List Int} {i : Int}, (∀ j, i ≤ j → j ∉ ls) → remF i ls gs = gs
  | [], _, _ => rfl
  | g :: gs, i, h => by
    unfold remF
    rw [if_neg (h i (Int.le_refl i)), remF_none (gs := gs) (i := i + 1) fun j hj => h j (by omega)]
theorem remF_all {ls : List Int} : ∀ {gs : List Int} {i : Int}, (∀ j, i ≤ j → j < i + gs.length → j ∈ ls) → remF i ls gs = []
  | [], _, _ => rfl
  | g :: gs, i, h => by
    unfold remF
    rw [if_pos (h i (Int.le_refl i) (by simp only [List.length_cons]; omega))]
    exact remF_all fun j hj hj' => h j (by omega) (by simp only [List.length_cons]; omega)
theorem remL_remF (gs ls : List Int) : remL gs ls = remF 0 ls gs := by
  have key : ∀ (gs : List Int) (i : Nat), (List.range gs.length).filterMap (fun k : Nat => if ((k + i : Nat) : Int) ∈ ls then none else some (gi gs k)) = remF i ls gs := by
    intro gs
    induction gs with
    | nil => intro i; rfl
    | cons g gs ih =>
      intro i
      rw [List.length_cons, List.range_succ_eq_map, List.filterMap_cons, List.filterMap_map]
      have e : ((fun k : Nat => if ((k + i : Nat) : Int) ∈ ls then none else some (gi (g :: gs) k)) ∘ Nat.succ) = fun k : Nat => if ((k + (i + 1) : Nat) : Int) ∈ ls then none else some (gi gs k) := by
        funext k
        show (if ((k + 1 + i : Nat) : Int) ∈ ls then none else some (gi (g :: gs) ((k + 1 : Nat) : Int))) = _
        rw [show k + 1 + i = k + (i + 1) by omega]
        rfl
      have ih1 : _ = remF ((i : Int) + 1) ls gs := ih (i + 1)
      rw [e, ih1, remF_cons, Nat.zero_add]
      by_cases h : (i : Int) ∈ ls
      · rw [if_pos h, if_pos h]
      · rw [if_neg h, if_neg h]; rfl
  exact key gs 0
def ordF (i : Int) (ls : List Int) : List Int → List Int
  | [] => []
  | _ :: gs => if i ∈ ls then i :: ordF (i + 1) ls gs else ordF (i + 1) ls gs
theorem ordF_cons {i g : Int} {ls gs : List Int} : ordF i ls (g :: gs) = if i ∈ ls then i :: ordF (i + 1) ls gs else ordF (i + 1) ls gs := rfl
theorem ordL_ordF (gs ls : List Int) : ordL gs ls = ordF 0 ls gs := by
  have key : ∀ (gs : List Int) (i : Nat), (List.range gs.length).filterMap (fun k : Nat => if ((k + i : Nat) : Int) ∈ ls then some ((k + i : Nat) : Int) else none) = ordF i ls gs := by
    intro gs
    induction gs with
    | nil => intro i; rfl
    | cons g gs ih =>
      intro i
      rw [List.length_cons, List.range_succ_eq_map, List.filterMap_cons, List.filterMap_map]
      have e : ((fun k : Nat => if ((k + i : Nat) : Int) ∈ ls then some ((k + i : Nat) : Int) else none) ∘ Nat.succ) = fun k : Nat => if ((k + (i + 1) : Nat) : Int) ∈ ls then some ((k + (i + 1) : Nat) : Int) else none := by
        funext k
        show (if ((k + 1 + i : Nat) : Int) ∈ ls then some ((k + 1 + i : Nat) : Int) else none) = _
        rw [show k + 1 + i = k + (i + 1) by omega]
      have ih1 : _ = ordF ((i : Int) + 1) ls gs := ih (i + 1)
      rw [e, ih1, ordF_cons, Nat.zero_add]
      by_cases h : (i : Int) ∈ ls
      · rw [if_pos h, if_pos h]
      · rw [if_neg h, if_neg h]
  exact key gs 0

/-! ### the law's run and the levels -/
def resR (rs ts : List Int) (i : Int) : Int := gi rs (gi ts i % rs.length)
def cntS (rs : List Int) (bound : Int) : Nat → Int
  | 0 => 0
  | k + 1 => cntS rs bound k + (if bound ≤ gi rs k then 1 else 0)
theorem gi_nat {rs : List Int} {k : Nat} {r : Int} (h : rs[k]? = some r) : gi rs k = r := by
  unfold gi
  rw [Int.toNat_natCast, List.getD_eq_getElem?_getD, h]
  rfl
theorem strongL_pre (rs : List Int) (bound : Int) : ∀ k : Nat, k ≤ rs.length → (((List.range k).filterMap fun m : Nat => rs[m]?.bind fun r => if bound ≤ r then some (m : Int) else none).length : Int) = cntS rs bound k
  | 0, _ => rfl
  | k + 1, h => by
    rw [range_fm, List.length_append]
    have ih := strongL_pre rs bound k (by omega)
    have e : rs[k]? = some (rs[k]'(by omega)) := List.getElem?_eq_getElem (by omega)
    unfold cntS
    rw [gi_nat e, e]
    simp only [Option.bind_some]
    split <;> simp only [Option.toList, List.length_nil, List.length_singleton] <;> omega
theorem strongL_cut (rs : List Int) (bound x : Int) : ∀ k : Nat, k ≤ rs.length → ∀ j : Nat, j ≤ k → (j : Int) = (if x + 1 ≤ k then x + 1 else k) →
    ((((List.range k).filterMap fun m : Nat => rs[m]?.bind fun r => if bound ≤ r then some (m : Int) else none).filterMap fun y => if y ≤ x then some y else none).length : Int) = cntS rs bound j
  | 0, _, j, hj, _ => by
    obtain rfl : j = 0 := by omega
    rfl
  | k + 1, h, j, hj, e => by
    rw [range_fm, List.filterMap_append, List.length_append]
    have ek : rs[k]? = some (rs[k]'(by omega)) := List.getElem?_eq_getElem (by omega)
    by_cases hx : x + 1 ≤ k
    · have ih := strongL_cut rs bound x k (by omega) j (by omega) (by rw [if_pos hx]; rw [if_pos (by omega)] at e; exact e)
      have z : ((rs[k]?.bind fun r => if bound ≤ r then some (k : Int) else none).toList.filterMap fun y => if y ≤ x then some y else none) = [] := by
        rw [ek]
        simp only [Option.bind_some]
        split
        · simp only [Option.toList, List.filterMap_cons, List.filterMap_nil]
          rw [if_neg (by omega)]
        · rfl
      rw [z, List.length_nil]
      omega
    · have hj' : j = k + 1 := by
        split at e <;> omega
      subst hj'
      have ih := strongL_cut rs bound x k (by omega) k (Nat.le_refl _) (by rw [if_neg hx])
      have z : (((rs[k]?.bind fun r => if bound ≤ r then some (k : Int) else none).toList.filterMap fun y => if y ≤ x then some y else none).length : Int) = if bound ≤ gi rs k then 1 else 0 := by
        rw [gi_nat ek, ek]
        simp only [Option.bind_some]
        by_cases hb : bound ≤ rs[k]'(by omega)
        · rw [if_pos hb, if_pos hb]
          simp only [Option.toList, List.filterMap_cons, List.filterMap_nil]
          rw [if_pos (by omega)]
          rfl
        · rw [if_neg hb, if_neg hb]; rfl
      unfold cntS
      omega
theorem upToI_eq {rs : List Int} {bound p : Int} (hn : 1 ≤ rs.length) : upToI rs bound p = p / rs.length * cntS rs bound rs.length + cntS rs bound (p % rs.length + 1).toNat := by
  unfold upToI strongL
  have h0 := Int.emod_nonneg p (b := (rs.length : Int)) (by omega)
  have h1 := Int.emod_lt_of_pos p (b := (rs.length : Int)) (by omega)
  rw [strongL_pre rs bound rs.length (Nat.le_refl _), strongL_cut rs bound (p % rs.length) rs.length (Nat.le_refl _) (p % rs.length + 1).toNat (by omega) (by split <;> omega)]
/-- one place further -/
theorem upToI_step {rs : List Int} {bound p : Int} (hn : 1 ≤ rs.length) : upToI rs bound p - upToI rs bound (p - 1) = if bound ≤ gi rs (p % rs.length) then 1 else 0 := by
  rw [upToI_eq hn, upToI_eq hn]
  have hn0 : (rs.length : Int) ≠ 0 := by omega
  have h0 := Int.emod_nonneg p hn0
  have h1 := Int.emod_lt_of_pos p (b := (rs.length : Int)) (by omega)
  have hd := Int.mul_ediv_add_emod p rs.length
  generalize hq : p / (rs.length : Int) = q at *
  generalize hr : p % (rs.length : Int) = r at *
  by_cases z : r = 0
  · have e1 : (p - 1) / (rs.length : Int) = q - 1 := by
      rw [show p - 1 = ((rs.length : Int) - 1) + rs.length * (q - 1) by rw [Int.mul_sub, Int.mul_one]; omega, Int.add_mul_ediv_left _ _ hn0, Int.ediv_eq_zero_of_lt (by omega) (by omega)]
      omega
    have e2 : (p - 1) % (rs.length : Int) = rs.length - 1 := by
      rw [show p - 1 = ((rs.length : Int) - 1) + rs.length * (q - 1) by rw [Int.mul_sub, Int.mul_one]; omega, Int.add_mul_emod_self_left, Int.emod_eq_of_lt (by omega) (by omega)]
    rw [e1, e2, show ((rs.length : Int) - 1 + 1).toNat = rs.length by omega, z]
    show q * _ + cntS rs bound 1 - _ = _
    unfold cntS
    unfold cntS
    rw [Int.sub_mul, Int.one_mul]
    show _ = if bound ≤ gi rs ((0 : Nat) : Int) then (1 : Int) else 0
    omega
  · have e1 : (p - 1) / (rs.length : Int) = q := by
      rw [show p - 1 = (r - 1) + rs.length * q by omega, Int.add_mul_ediv_left _ _ hn0, Int.ediv_eq_zero_of_lt (by omega) (by omega)]
      omega
    have e2 : (p - 1) % (rs.length : Int) = r - 1 := by
      rw [show p - 1 = (r - 1) + rs.length * q by omega, Int.add_mul_emod_self_left, Int.emod_eq_of_lt (by omega) (by omega)]
    rw [e1, e2, show (r - 1 + 1).toNat = r.toNat by omega, show (r + 1).toNat = r.toNat + 1 by omega]
    have : cntS rs bound (r.toNat + 1) = cntS rs bound r.toNat + (if bound ≤ gi rs r then 1 else 0) := by
      show cntS rs bound r.toNat + (if bound ≤ gi rs ((r.toNat : Nat) : Int) then (1 : Int) else 0) = _
      rw [show ((r.toNat : Nat) : Int) = r by omega]
    rw [this]
    omega

end
section
variable {P : Program} {w : World} {K : PySem.W.Frag} {mg : Str → Option Value} {base : Heap}
theorem gi_set {l : List Int} {i j v : Int} (h0 : 0 ≤ i) (h1 : i < l.length) (hj : 0 ≤ j) : gi (l.set i.toNat v) j = if j = i then v else gi l j := by
  unfold gi
  rw [List.getD_eq_getElem?_getD, List.getD_eq_getElem?_getD, List.getElem?_set]
  by_cases h : j = i
  · subst h
    rw [if_pos rfl, if_pos rfl, if_pos (by omega)]
    rfl
  · rw [if_neg (by omega), if_neg h]
theorem em_add {a n : Int} : (a + n) % n = a % n := by
  have := Int.add_mul_emod_self_left a n 1
  rwa [Int.mul_one] at this
theorem em_sub {a n : Int} : (a - n) % n = a % n := by
  have := Int.add_mul_emod_self_left a n (-1)
  rwa [show a + n * (-1) = a - n by omega] at this
theorem em_iff {p g n : Int} (h0 : 0 ≤ g) (h1 : g < n) : (p - g) % n = 0 ↔ p % n = g := by
  rw [← Int.emod_eq_emod_iff_emod_sub_eq_zero, Int.emod_eq_of_lt h0 h1]
def nxt (n g : Int) : Int := if g < n - 1 then g + 1 else 0
theorem nxt_rng {n g : Int} (hn : 2 ≤ n) (h0 : 0 ≤ g) (h1 : g < n) : 0 ≤ nxt n g ∧ nxt n g < n ∧ nxt n g ≠ g := by
  unfold nxt
  split <;> omega
theorem em_next {n g p : Int} (hn : 2 ≤ n) (h1 : g < n) (h0 : 0 ≤ g) (hp : p % n = g) : (p + 1) % n = nxt n g := by
  rw [← Int.emod_add_emod, hp]
  unfold nxt
  split
  · exact Int.emod_eq_of_lt (by omega) (by omega)
  · rw [show g + 1 = n by omega]
    exact Int.emod_self
theorem em_prev {n g p : Int} (hn : 2 ≤ n) (h1 : g < n) (h0 : 0 ≤ g) : p % n = nxt n g ↔ (p - 1) % n = g := by
  constructor
  · intro h
    have e : (p - 1) % n = (p % n - 1) % n := by rw [Int.emod_sub_emod]
    rw [e, h]
    unfold nxt
    split
    · rw [show g + 1 - 1 = g by omega]
      exact Int.emod_eq_of_lt h0 h1
    · rw [← em_add]
      rw [show (0 : Int) - 1 + n = g by omega]
      exact Int.emod_eq_of_lt h0 h1
  · intro h
    have := em_next hn h1 h0 h
    rwa [show p - 1 + 1 = p by omega] at this
theorem calledB_res {rs ts : List Int} {g : Int} (hn : 2 ≤ rs.length) (h0 : 0 ≤ g) (h1 : g < rs.length) : calledB rs ts g = decide (resR rs ts (nxt rs.length g) < resR rs ts g) := by
  unfold calledB resR nextV nxt
  by_cases h : g < (rs.length : Int) - 1
  · rw [if_pos h, if_pos h]
  · rw [if_neg h, if_neg h, em_add]
theorem swapT_length (rs ts : List Int) (g : Int) : (swapT rs ts g).length = ts.length := by unfold swapT; split <;> simp
theorem swapT_res {rs ts : List Int} {g i : Int} (hn : 2 ≤ rs.length) (hl : ts.length = rs.length) (h0 : 0 ≤ g) (h1 : g < rs.length) (i0 : 0 ≤ i) : resR rs (swapT rs ts g) i = if i = g then resR rs ts (nxt rs.length g) else if i = nxt rs.length g then resR rs ts g else resR rs ts i := by
  unfold resR swapT nxt
  by_cases h : g < (rs.length : Int) - 1
  · rw [if_pos h, if_pos h, gi_set (by omega) (by rw [List.length_set]; omega) i0, gi_set h0 (by omega) i0]
    by_cases a : i = g
    · rw [if_neg (by omega), if_pos a, if_pos a]
    · rw [if_neg a, if_neg a]
      by_cases b : i = g + 1
      · rw [if_pos b, if_pos b]
      · rw [if_neg b, if_neg b]
  · rw [if_neg h, if_neg h, gi_set (by omega) (by rw [List.length_set]; omega) i0, gi_set (by omega) (by omega) i0]
    by_cases b : i = 0
    · rw [if_pos b, if_neg (by omega), if_pos b, em_sub]
    · rw [if_neg b]
      by_cases a : i = g
      · rw [if_pos (by omega), if_pos a, em_add]
      · rw [if_neg (by omega), if_neg a, if_neg b]
structure Lev (rs : List Int) (bound : Int) (st : List Int × List Int) (h : Int → Int) : Prop where
  l1 : st.1.length = rs.length
  l2 : st.2.length = rs.length
  eq : ∀ p, h p = upToI rs bound p - gi st.2 (p % rs.length)
  st : ∀ p, h p - h (p - 1) = b2i (decide (bound ≤ resR rs st.1 (p % rs.length)))
theorem b2i_01 (b : Bool) : 0 ≤ b2i b ∧ b2i b ≤ 1 := by cases b <;> decide
theorem b2i_mono {bound x y : Int} (h : x ≤ y) : b2i (decide (bound ≤ x)) ≤ b2i (decide (bound ≤ y)) := by
  by_cases a : bound ≤ x
  · rw [decide_eq_true a, decide_eq_true (Int.le_trans a h)]
    exact Int.le_refl _
  · rw [decide_eq_false a]
    exact (b2i_01 _).1
theorem Lev.step {rs : List Int} {bound : Int} {st : List Int × List Int} {h : Int → Int} {g : Int} (L : Lev rs bound st h) (hn : 2 ≤ rs.length) (h0 : 0 ≤ g) (h1 : g < rs.length) : Lev rs bound (stepC rs bound st g) (callH rs.length g h) := by
  obtain ⟨ts, fs⟩ := st
  obtain ⟨l1, l2, le, ls⟩ := L
  simp only at l1 l2 le ls
  have hn' : (2 : Int) ≤ rs.length := by omega
  have nx := nxt_rng hn' h0 h1
  have nr : ∀ p : Int, 0 ≤ p % (rs.length : Int) := fun p => Int.emod_nonneg _ (by omega)
  have cB := calledB_res (ts := ts) hn h0 h1
  generalize hj : nxt (rs.length : Int) g = j at nx cB
  have prevIff : ∀ p : Int, p % (rs.length : Int) = j ↔ (p - 1) % (rs.length : Int) = g := fun p => by rw [← hj]; exact em_prev hn' h1 h0
  have nextEq : ∀ p : Int, p % (rs.length : Int) = g → (p + 1) % (rs.length : Int) = j := fun p hp => by rw [← hj]; exact em_next hn' h1 h0 hp
  have hc : ∀ p, callH rs.length g h p = if p % (rs.length : Int) = g then max (h (p - 1)) (h (p + 1) - 1) else h p := by
    intro p
    unfold callH
    by_cases a : p % (rs.length : Int) = g
    · rw [if_pos ((em_iff h0 h1).mpr a), if_pos a]
    · rw [if_neg fun z => a ((em_iff h0 h1).mp z), if_neg a]
  unfold stepC
  simp only
  by_cases hb : calledB rs ts g = true
  · rw [if_pos hb]
    rw [cB] at hb
    have hlt := of_decide_eq_true hb
    have hm := b2i_mono (bound := bound) (Int.le_of_lt hlt)
    have b1 := b2i_01 (decide (bound ≤ resR rs ts g))
    have b2 := b2i_01 (decide (bound ≤ resR rs ts j))
    have eg : gi rs (gi ts g % rs.length) = resR rs ts g := rfl
    have eg' : gi rs (gi (swapT rs ts g) g % rs.length) = resR rs ts j := by
      have := swapT_res (ts := ts) (i := g) hn l1 h0 h1 h0
      rw [if_pos rfl, hj] at this
      exact this
    rw [eg, eg']
    have hv : ∀ p, p % (rs.length : Int) = g → callH rs.length g h p = h p - (b2i (decide (bound ≤ resR rs ts g)) - b2i (decide (bound ≤ resR rs ts j))) := by
      intro p hp
      rw [hc, if_pos hp]
      have s1 := ls p
      have s2 := ls (p + 1)
      rw [show p + 1 - 1 = p by omega, nextEq p hp] at s2
      rw [hp] at s1
      omega
    refine ⟨by rw [swapT_length]; exact l1, by rw [List.length_set]; exact l2, fun p => ?_, fun p => ?_⟩
    · show callH rs.length g h p = upToI rs bound p - gi (fs.set g.toNat _) (p % rs.length)
      rw [gi_set h0 (by omega) (nr p)]
      by_cases a : p % (rs.length : Int) = g
      · rw [if_pos a, hv p a, le p, a]
        omega
      · rw [if_neg a, hc, if_neg a]
        exact le p
    · show callH rs.length g h p - callH rs.length g h (p - 1) = b2i (decide (bound ≤ resR rs (swapT rs ts g) (p % rs.length)))
      rw [swapT_res hn l1 h0 h1 (nr p), hj]
      have s1 := ls p
      by_cases a : p % (rs.length : Int) = g
      · have np : ¬ (p - 1) % (rs.length : Int) = g := fun z => by
          have := (prevIff p).mpr z
          omega
        rw [if_pos a, hv p a, hc, if_neg np]
        rw [a] at s1
        omega
      · rw [if_neg a]
        by_cases b : p % (rs.length : Int) = j
        · rw [if_pos b, hv (p - 1) ((prevIff p).mp b), hc, if_neg a]
          rw [b] at s1
          omega
        · rw [if_neg b, hc, if_neg a, hc, if_neg fun z => b ((prevIff p).mpr z)]
          exact s1
  · rw [if_neg hb]
    rw [cB] at hb
    have hle : resR rs ts g ≤ resR rs ts j := Int.not_lt.mp fun z => hb (decide_eq_true z)
    have hm := b2i_mono (bound := bound) hle
    have b1 := b2i_01 (decide (bound ≤ resR rs ts g))
    have b2 := b2i_01 (decide (bound ≤ resR rs ts j))
    have hv : ∀ p, callH rs.length g h p = h p := by
      intro p
      rw [hc]
      by_cases hp : p % (rs.length : Int) = g
      · rw [if_pos hp]
        have s1 := ls p
        have s2 := ls (p + 1)
        rw [show p + 1 - 1 = p by omega, nextEq p hp] at s2
        rw [hp] at s1
        omega
      · rw [if_neg hp]
    exact ⟨l1, l2, fun p => by rw [hv]; exact le p, fun p => by rw [hv, hv]; exact ls p⟩
theorem Lev.run {rs : List Int} {bound : Int} (hn : 2 ≤ rs.length) : ∀ (gs : List Int) {st : List Int × List Int} {h : Int → Int}, Lev rs bound st h → (∀ g ∈ gs, 0 ≤ g ∧ g < rs.length) → Lev rs bound (gs.foldl (stepC rs bound) st) (runH rs.length gs h)
  | [], _, _, L, _ => L
  | g :: gs, _, _, L, hg => Lev.run hn gs (L.step hn (hg g List.mem_cons_self).1 (hg g List.mem_cons_self).2) fun x hx => hg x (List.mem_cons_of_mem _ hx)
theorem Lev.init {rs : List Int} {bound : Int} (hn : 2 ≤ rs.length) : Lev rs bound (initC rs) (upToI rs bound) := by
  have hl := initC_len rs
  refine ⟨hl.1, hl.2, fun p => ?_, fun p => ?_⟩
  · have h0 := Int.emod_nonneg p (b := (rs.length : Int)) (by omega)
    have h1 := Int.emod_lt_of_pos p (b := (rs.length : Int)) (by omega)
    have : gi (initC rs).2 (p % rs.length) = 0 := by
      show gi (List.replicate rs.length 0) _ = 0
      unfold gi
      rw [List.getD_eq_getElem?_getD, List.getElem?_replicate, if_pos (by omega)]
      rfl
    rw [this]
    omega
  · have h0 := Int.emod_nonneg p (b := (rs.length : Int)) (by omega)
    have h1 := Int.emod_lt_of_pos p (b := (rs.length : Int)) (by omega)
    have e : gi (initC rs).1 (p % rs.length) = p % rs.length := by
      have := rangeI_get (n := (rs.length : Int)) (i := (p % rs.length).toNat) (by omega)
      have h2 := gi_nat this
      rw [show (((p % (rs.length : Int)).toNat : Nat) : Int) = p % rs.length by omega] at h2
      exact h2
    rw [upToI_step (by omega)]
    unfold resR
    rw [e, Int.emod_emod]
    unfold b2i
    by_cases a : bound ≤ gi rs (p % rs.length)
    · rw [if_pos a, decide_eq_true a]; rfl
    · rw [if_neg a, decide_eq_false a]; rfl
/-- the crossings of a gap, by levels -/
theorem crossL_lev {rs gs : List Int} {bound e : Int} (hn : 2 ≤ rs.length) (hg : ∀ g ∈ gs, 0 ≤ g ∧ g < rs.length) (e0 : 0 ≤ e) (e1 : e < rs.length) : gi (crossL rs gs bound) e = upToI rs bound e - runH rs.length gs (upToI rs bound) e := by
  have := (Lev.run hn gs (Lev.init (bound := bound) hn) hg).eq e
  rw [Int.emod_eq_of_lt e0 e1] at this
  have h2 : gi (crossL rs gs bound) e = gi (gs.foldl (stepC rs bound) (initC rs)).2 e := rfl
  omega
theorem upToI_wk {rs : List Int} {bound : Int} (hn : 2 ≤ rs.length) : Wk (upToI rs bound) := fun p => by
  have := upToI_step (rs := rs) (bound := bound) (p := p) (by omega)
  split at this <;> omega

end
section
variable {P : Program} {w : World} {K : PySem.W.Frag} {mg : Str → Option Value} {base : Heap}
def keysOf (L : Lay) : List Pr := L.map (·.1)
theorem keys_put {L : Lay} {k : Pr} {x : Ent} (h : (keysOf L).Nodup) : (keysOf (putL L k x)).Nodup := by
  unfold putL keysOf at *
  split
  · rw [List.map_map]
    have e : ((fun x : Pr × Ent => x.1) ∘ fun e : Pr × Ent => if e.1 = k then (e.1, x) else e) = fun e => e.1 := by
      funext e
      show (if e.1 = k then (e.1, x) else e).1 = e.1
      split <;> rfl
    rw [e]
    exact h
  · rename_i hn
    rw [List.map_append, List.nodup_append]
    refine ⟨h, by simp, fun a ha b hb => ?_⟩
    rintro rfl
    obtain ⟨e, he, rfl⟩ := List.mem_map.mp ha
    have : e.1 = k := by simpa using hb
    exact hn (List.any_eq_true.mpr ⟨e, he, decide_eq_true this⟩)
theorem keys_offer {L : Lay} {k f : Pr} {p : Int} {s : Bool} (h : (keysOf L).Nodup) : (keysOf (offerL L k p f s)).Nodup := by
  unfold offerL
  split
  · exact keys_put h
  · split
    · exact keys_put h
    · exact h
theorem getL_mem {L : Lay} (h : (keysOf L).Nodup) {e : Pr × Ent} (he : e ∈ L) : getL L e.1 = some e.2 := by
  induction L with
  | nil => cases he
  | cons a r ih =>
    unfold keysOf at h
    rw [List.map_cons, List.nodup_cons] at h
    rcases List.mem_cons.mp he with rfl | he
    · exact gA_pos rfl
    · have : ¬ a.1 = e.1 := fun z => h.1 (by rw [z]; exact List.mem_map.mpr ⟨e, he, rfl⟩)
      exact (gA_neg this).trans (ih h.2 he)
theorem getL_put (L : Lay) (k : Pr) (x : Ent) (j : Pr) : getL (putL L k x) j = if j = k then some x else getL L j := gA_pA L k x j
/-- offering makes nothing dearer -/
theorem offer_le {L : Lay} {k f : Pr} {p : Int} {s : Bool} {j : Pr} {x : Ent} (h : getL L j = some x) : ∃ y, getL (offerL L k p f s) j = some y ∧ y.1 ≤ x.1 := by
  unfold offerL
  by_cases hj : j = k
  · subst hj
    rw [h]
    simp only
    split
    · exact ⟨_, by rw [getL_put, if_pos rfl], by omega⟩
    · exact ⟨x, h, Int.le_refl _⟩
  · split
    · exact ⟨x, by rw [getL_put, if_neg hj]; exact h, Int.le_refl _⟩
    · split
      · exact ⟨x, by rw [getL_put, if_neg hj]; exact h, Int.le_refl _⟩
      · exact ⟨x, h, Int.le_refl _⟩
theorem offer_new {L : Lay} {k f : Pr} {p : Int} {s : Bool} : ∃ y, getL (offerL L k p f s) k = some y ∧ y.1 ≤ p := by
  unfold offerL
  split
  · exact ⟨_, by rw [getL_put, if_pos rfl], Int.le_refl _⟩
  · rename_i x e
    split
    · exact ⟨_, by rw [getL_put, if_pos rfl], Int.le_refl _⟩
    · exact ⟨x, e, by omega⟩
theorem offer_mem {L : Lay} {k f : Pr} {p : Int} {s : Bool} {e : Pr × Ent} (h : e ∈ offerL L k p f s) : e ∈ L ∨ e = (k, (p, some f, s)) := by
  unfold offerL at h
  split at h
  · exact mem_pA h
  · split at h
    · exact mem_pA h
    · exact .inl h
/-- where a pair of the layer before a call comes from -/
def From (n g most : Int) (L : Lay) (e : Pr × Ent) : Prop := ∃ k p fol0 s0, (k, (p, fol0, s0)) ∈ L ∧ e.2.2.1 = some k ∧
  ((¬ (k.1 - g) % n = 0 ∧ e.1 = k ∧ e.2.1 = p ∧ e.2.2.2 = false) ∨ ((k.1 - g) % n = 0 ∧ e.1 = (k.1 - 1, k.2) ∧ e.2.1 = p ∧ e.2.2.2 = false) ∨
   ((k.1 - g) % n = 0 ∧ e.1 = (k.1 + 1, k.2) ∧ e.2.1 = p + 1 ∧ e.2.2.2 = false) ∨ ((k.1 - g) % n = 0 ∧ k.2 < most ∧ e.1 = (k.1, k.2 + 1) ∧ e.2.1 = p ∧ e.2.2.2 = true))
theorem step_from {n g most : Int} {L acc : Lay} {x : Pr × Ent} (hx : x ∈ L) (h : ∀ e ∈ acc, From n g most L e) : ∀ e ∈ stepL n g most acc x, From n g most L e := by
  obtain ⟨k, p, fol, s⟩ := x
  intro e he
  unfold stepL at he
  split at he
  · rename_i hk
    split at he
    · rename_i hm
      rcases offer_mem he with he | rfl
      · rcases offer_mem he with he | rfl
        · rcases offer_mem he with he | rfl
          · exact h e he
          · exact ⟨k, p, fol, s, hx, rfl, .inr (.inl ⟨hk, rfl, rfl, rfl⟩)⟩
        · exact ⟨k, p, fol, s, hx, rfl, .inr (.inr (.inl ⟨hk, rfl, rfl, rfl⟩))⟩
      · exact ⟨k, p, fol, s, hx, rfl, .inr (.inr (.inr ⟨hk, hm, rfl, rfl, rfl⟩))⟩
    · rcases offer_mem he with he | rfl
      · rcases offer_mem he with he | rfl
        · exact h e he
        · exact ⟨k, p, fol, s, hx, rfl, .inr (.inl ⟨hk, rfl, rfl, rfl⟩)⟩
      · exact ⟨k, p, fol, s, hx, rfl, .inr (.inr (.inl ⟨hk, rfl, rfl, rfl⟩))⟩
  · rename_i hk
    rcases offer_mem he with he | rfl
    · exact h e he
    · exact ⟨k, p, fol, s, hx, rfl, .inl ⟨hk, rfl, rfl, rfl⟩⟩
theorem fold_from {n g most : Int} {L : Lay} : ∀ (M : Lay) (acc : Lay), (∀ x ∈ M, x ∈ L) → (∀ e ∈ acc, From n g most L e) → ∀ e ∈ M.foldl (stepL n g most) acc, From n g most L e
  | [], _, _, h => h
  | x :: M, acc, hM, h => fold_from M _ (fun y hy => hM y (List.mem_cons_of_mem _ hy)) (step_from (hM x List.mem_cons_self) h)
theorem add_from {n g most : Int} {L : Lay} : ∀ e ∈ addL n g most L, From n g most L e := fold_from L [] (fun _ h => h) fun e h => by cases h
theorem step_keys {n g most : Int} {acc : Lay} {x : Pr × Ent} (h : (keysOf acc).Nodup) : (keysOf (stepL n g most acc x)).Nodup := by
  unfold stepL
  split
  · split
    · exact keys_offer (keys_offer (keys_offer h))
    · exact keys_offer (keys_offer h)
  · exact keys_offer h
theorem fold_keys {n g most : Int} : ∀ (M : Lay) (acc : Lay), (keysOf acc).Nodup → (keysOf (M.foldl (stepL n g most) acc)).Nodup
  | [], _, h => h
  | _ :: M, _, h => fold_keys M _ (step_keys h)
theorem top_keys (n most e : Int) : ∀ gs : List Int, (keysOf (topL n most e gs)).Nodup
  | [] => by simp [topL, keysOf]
  | g :: gs => fold_keys _ [] (by simp [keysOf])
theorem step_le {n g most : Int} {acc : Lay} {x : Pr × Ent} {j : Pr} {y : Ent} (h : getL acc j = some y) : ∃ z, getL (stepL n g most acc x) j = some z ∧ z.1 ≤ y.1 := by
  unfold stepL
  split
  · obtain ⟨a, ha, la⟩ := offer_le (k := (x.1.1 - 1, x.1.2)) (p := x.2.1) (f := x.1) (s := false) h
    obtain ⟨b, hb, lb⟩ := offer_le (k := (x.1.1 + 1, x.1.2)) (p := x.2.1 + 1) (f := x.1) (s := false) ha
    split
    · obtain ⟨c, hc, lc⟩ := offer_le (k := (x.1.1, x.1.2 + 1)) (p := x.2.1) (f := x.1) (s := true) hb
      exact ⟨c, hc, by omega⟩
    · exact ⟨b, hb, by omega⟩
  · exact offer_le h
theorem fold_le {n g most : Int} : ∀ (M : Lay) {acc : Lay} {j : Pr} {y : Ent}, getL acc j = some y → ∃ z, getL (M.foldl (stepL n g most) acc) j = some z ∧ z.1 ≤ y.1
  | [], _, _, y, h => ⟨y, h, Int.le_refl _⟩
  | x :: M, acc, _, _, h => by
    obtain ⟨z, hz, lz⟩ := step_le (n := n) (g := g) (most := most) (x := x) h
    obtain ⟨w, hw, lw⟩ := fold_le M hz
    exact ⟨w, hw, by omega⟩
/-- what is offered for a pair stands in the layer before, at most so dear -/
theorem fold_has {n g most : Int} {x : Pr × Ent} {j : Pr} {p : Int} (hs : ∀ acc, ∃ z, getL (stepL n g most acc x) j = some z ∧ z.1 ≤ p) : ∀ (M : Lay) (acc : Lay), x ∈ M → ∃ z, getL (M.foldl (stepL n g most) acc) j = some z ∧ z.1 ≤ p
  | y :: M, acc, h => by
    rcases List.mem_cons.mp h with rfl | h
    · obtain ⟨z, hz, lz⟩ := hs acc
      obtain ⟨w, hw, lw⟩ := fold_le M hz
      exact ⟨w, hw, by omega⟩
    · exact fold_has hs M _ h
theorem has_stay {n g most : Int} {L : Lay} {k : Pr} {x : Ent} (h : (k, x) ∈ L) (hk : ¬ (k.1 - g) % n = 0) : ∃ z, getL (addL n g most L) k = some z ∧ z.1 ≤ x.1 :=
  fold_has (x := (k, x)) (fun acc => by unfold stepL; rw [if_neg hk]; exact offer_new) L [] h
theorem has_down {n g most : Int} {L : Lay} {k : Pr} {x : Ent} (h : (k, x) ∈ L) (hk : (k.1 - g) % n = 0) : ∃ z, getL (addL n g most L) (k.1 - 1, k.2) = some z ∧ z.1 ≤ x.1 :=
  fold_has (x := (k, x)) (fun acc => by
    unfold stepL
    rw [if_pos hk]
    obtain ⟨a, ha, la⟩ := offer_new (L := acc) (k := (k.1 - 1, k.2)) (p := x.1) (f := k) (s := false)
    obtain ⟨b, hb, lb⟩ := offer_le (k := (k.1 + 1, k.2)) (p := x.1 + 1) (f := k) (s := false) ha
    split
    · obtain ⟨c, hc, lc⟩ := offer_le (k := (k.1, k.2 + 1)) (p := x.1) (f := k) (s := true) hb
      exact ⟨c, hc, by omega⟩
    · exact ⟨b, hb, by omega⟩) L [] h
theorem has_up {n g most : Int} {L : Lay} {k : Pr} {x : Ent} (h : (k, x) ∈ L) (hk : (k.1 - g) % n = 0) : ∃ z, getL (addL n g most L) (k.1 + 1, k.2) = some z ∧ z.1 ≤ x.1 + 1 :=
  fold_has (x := (k, x)) (fun acc => by
    unfold stepL
    rw [if_pos hk]
    obtain ⟨b, hb, lb⟩ := offer_new (L := offerL acc (k.1 - 1, k.2) x.1 k false) (k := (k.1 + 1, k.2)) (p := x.1 + 1) (f := k) (s := false)
    split
    · obtain ⟨c, hc, lc⟩ := offer_le (k := (k.1, k.2 + 1)) (p := x.1) (f := k) (s := true) hb
      exact ⟨c, hc, by omega⟩
    · exact ⟨b, hb, by omega⟩) L [] h
theorem has_skip {n g most : Int} {L : Lay} {k : Pr} {x : Ent} (h : (k, x) ∈ L) (hk : (k.1 - g) % n = 0) (hm : k.2 < most) : ∃ z, getL (addL n g most L) (k.1, k.2 + 1) = some z ∧ z.1 ≤ x.1 :=
  fold_has (x := (k, x)) (fun acc => by
    unfold stepL
    rw [if_pos hk, if_pos hm]
    exact offer_new) L [] h
theorem laysL_ne (n most e : Int) (gs : List Int) : laysL n most e gs ≠ [] := by cases gs <;> simp [laysL]
theorem lays_drop (n most e g : Int) (gs : List Int) : (laysL n most e (g :: gs)).dropLast = topL n most e (g :: gs) :: (laysL n most e gs).dropLast := by
  show (topL n most e (g :: gs) :: laysL n most e gs).dropLast = _
  exact List.dropLast_cons_of_ne_nil (laysL_ne n most e gs)
theorem passL_ge : ∀ (Ls : List Lay) (i : Int) (k : Pr), ∀ j ∈ passL Ls i k, i ≤ j
  | [], _, _, j, h => by cases h
  | L :: r, i, k, j, h => by
    unfold passL at h
    split at h
    · rcases List.mem_append.mp h with h | h
      · split at h
        · rw [List.mem_singleton.mp h]; exact Int.le_refl _
        · cases h
      · have := passL_ge r (i + 1) _ j h
        omega
    · cases h
theorem rem_skip {i : Int} {R : List Int} : ∀ {gs : List Int} {j : Int}, i < j → remF j ([i] ++ R) gs = remF j R gs
  | [], _, _ => rfl
  | g :: gs, j, h => by
    have ih := rem_skip (i := i) (R := R) (gs := gs) (j := j + 1) (by omega)
    rw [remF_cons, remF_cons, ih]
    have : j ∈ [i] ++ R ↔ j ∈ R := by
      rw [List.mem_append, List.mem_singleton]
      constructor
      · rintro (h' | h')
        · omega
        · exact h'
      · exact .inr
    by_cases hr : j ∈ R
    · rw [if_pos hr, if_pos (this.mpr hr)]
    · rw [if_neg hr, if_neg fun z => hr (this.mp z)]
theorem ord_skip {i : Int} {R : List Int} : ∀ {gs : List Int} {j : Int}, i < j → ordF j ([i] ++ R) gs = ordF j R gs
  | [], _, _ => rfl
  | g :: gs, j, h => by
    have ih := ord_skip (i := i) (R := R) (gs := gs) (j := j + 1) (by omega)
    rw [ordF_cons, ordF_cons, ih]
    have : j ∈ [i] ++ R ↔ j ∈ R := by
      rw [List.mem_append, List.mem_singleton]
      constructor
      · rintro (h' | h')
        · omega
        · exact h'
      · exact .inr
    by_cases hr : j ∈ R
    · rw [if_pos hr, if_pos (this.mpr hr)]
    · rw [if_neg hr, if_neg fun z => hr (this.mp z)]
/-- a thread that the layers hold is one of the run without the calls that it passes over -/
theorem sound {n most e : Int} (h0 : 0 ≤ most) : ∀ (gs : List Int) (i : Int) (x : Pr × Ent), x ∈ topL n most e gs →
    ChainOk (laysL n most e gs).dropLast x.1 ∧ ((passL (laysL n most e gs).dropLast i x.1).length : Int) = x.1.2 ∧ x.1.2 ≤ most ∧ ordF i (passL (laysL n most e gs).dropLast i x.1) gs = passL (laysL n most e gs).dropLast i x.1 ∧
    (∀ j ∈ passL (laysL n most e gs).dropLast i x.1, j < i + gs.length) ∧
    ∀ h : Int → Int, h x.1.1 - x.2.1 ≤ runH n (remF i (passL (laysL n most e gs).dropLast i x.1) gs) h e
  | [], i, x, hx => by
    have : x = ((e, 0), (0, none, false)) := List.mem_singleton.mp hx
    subst this
    exact ⟨trivial, rfl, h0, rfl, fun j hj => (by cases hj), fun h => Int.le_of_eq (Int.sub_zero _)⟩
  | g :: gs, i, x, hx => by
    obtain ⟨⟨en, nu⟩, pr, fo, sk⟩ := x
    obtain ⟨k, p, fol0, s0, hk, hf, hc⟩ := add_from _ hx
    simp only at hf hc
    subst hf
    obtain ⟨ih1, ih2, ih3, ih4, ih5, ih6⟩ := sound h0 gs (i + 1) _ hk
    simp only at ih1 ih2 ih3 ih4 ih5 ih6
    have hget := getL_mem (top_keys n most e (g :: gs)) hx
    rw [lays_drop]
    have hp : passL (topL n most e (g :: gs) :: (laysL n most e gs).dropLast) i (en, nu) = (if sk = true then [i] else []) ++ passL (laysL n most e gs).dropLast (i + 1) k := by
      rw [passL, hget]
    have hge := passL_ge (laysL n most e gs).dropLast (i + 1) k
    show ChainOk _ (en, nu) ∧ ((passL _ i (en, nu)).length : Int) = nu ∧ nu ≤ most ∧ ordF i (passL _ i (en, nu)) _ = passL _ i (en, nu) ∧ (∀ j ∈ passL _ i (en, nu), _) ∧ ∀ h : Int → Int, h en - pr ≤ runH n (remF i (passL _ i (en, nu)) (g :: gs)) h e
    rw [hp]
    generalize passL (laysL n most e gs).dropLast (i + 1) k = R at ih2 ih4 ih5 ih6 hge ⊢
    have hni : i ∉ R := fun z => by have := hge i z; omega
    refine ⟨⟨pr, k, sk, hget, ih1⟩, ?_⟩
    have kept : sk = false → ((([] : List Int) ++ R).length : Int) = k.2 ∧ ordF i ([] ++ R) (g :: gs) = [] ++ R ∧ (∀ j ∈ ([] : List Int) ++ R, j < i + (g :: gs).length) ∧ remF i ([] ++ R) (g :: gs) = g :: remF (i + 1) R gs := fun _ => by
      rw [List.nil_append]
      refine ⟨ih2, ?_, fun j hj => ?_, ?_⟩
      · rw [ordF_cons, if_neg hni, ih4]
      · have := ih5 j hj
        rw [List.length_cons]
        omega
      · rw [remF_cons, if_neg hni]
    have call : ∀ h : Int → Int, callH n g h k.1 - p ≤ runH n (g :: remF (i + 1) R gs) h e := fun h => ih6 (callH n g h)
    rcases hc with ⟨c0, c1, c2, c3⟩ | ⟨c0, c1, c2, c3⟩ | ⟨c0, c1, c2, c3⟩ | ⟨c0, c00, c1, c2, c3⟩
    · subst c3
      obtain ⟨a, b, c, d⟩ := kept rfl
      rw [if_neg (by decide)]
      subst c1
      refine ⟨a, ih3, b, c, fun h => ?_⟩
      rw [d]
      have := call h
      unfold callH at this
      rw [if_neg c0] at this
      rw [c2]
      exact this
    · subst c3
      obtain ⟨a, b, c, d⟩ := kept rfl
      rw [if_neg (by decide)]
      obtain ⟨rfl, rfl⟩ := Prod.mk.inj c1
      refine ⟨a, ih3, b, c, fun h => ?_⟩
      rw [d]
      have := call h
      unfold callH at this
      rw [if_pos c0] at this
      rw [c2]
      omega
    · subst c3
      obtain ⟨a, b, c, d⟩ := kept rfl
      rw [if_neg (by decide)]
      obtain ⟨rfl, rfl⟩ := Prod.mk.inj c1
      refine ⟨a, ih3, b, c, fun h => ?_⟩
      rw [d]
      have := call h
      unfold callH at this
      rw [if_pos c0] at this
      rw [c2]
      omega
    · subst c3
      rw [if_pos rfl]
      obtain ⟨rfl, rfl⟩ := Prod.mk.inj c1
      refine ⟨?_, by omega, ?_, fun j hj => ?_, fun h => ?_⟩
      · rw [List.length_append, List.length_singleton]
        omega
      · rw [ordF_cons, if_pos (List.mem_append_left _ (List.mem_singleton.mpr rfl)), ord_skip (by omega), ih4]
        rfl
      · rw [List.length_cons]
        rcases List.mem_append.mp hj with hj | hj
        · rw [List.mem_singleton.mp hj]
          omega
        · have := ih5 j hj
          omega
      · rw [remF_cons, if_pos (List.mem_append_left _ (List.mem_singleton.mpr rfl)), rem_skip (by omega), c2]
        exact ih6 h
theorem cntF_nonneg (ls : List Int) : ∀ (gs : List Int) (i : Int), 0 ≤ cntF i ls gs
  | [], _ => Int.le_refl _
  | g :: gs, i => by
    have := cntF_nonneg ls gs (i + 1)
    unfold cntF
    split <;> omega
/-- the layers hold a thread for each choice of lost calls -/
theorem complete {n most e : Int} (ls : List Int) : ∀ (gs : List Int) (i : Int) (h : Int → Int), cntF i ls gs ≤ most →
    ∃ x ∈ topL n most e gs, x.1.2 ≤ cntF i ls gs ∧ runH n (remF i ls gs) h e ≤ h x.1.1 - x.2.1
  | [], _, h, _ => ⟨_, List.mem_singleton.mpr rfl, Int.le_refl _, Int.le_of_eq (Int.sub_zero _).symm⟩
  | g :: gs, i, h, hm => by
    have cn := cntF_nonneg ls gs (i + 1)
    unfold cntF at hm ⊢
    rw [remF_cons]
    by_cases hi : i ∈ ls
    · rw [if_pos hi] at hm ⊢
      rw [if_pos hi]
      obtain ⟨⟨k, x⟩, hx, hc, hr⟩ := complete (n := n) (most := most) (e := e) ls gs (i + 1) h (by omega)
      by_cases hk : (k.1 - g) % n = 0
      · obtain ⟨z, hz, lz⟩ := has_skip (most := most) hx hk (by simp only at hc; omega)
        refine ⟨((k.1, k.2 + 1), z), gA_mem hz, ?_, ?_⟩
        · simp only at hc ⊢; omega
        · simp only at hr ⊢; omega
      · obtain ⟨z, hz, lz⟩ := has_stay (most := most) hx hk
        refine ⟨(k, z), gA_mem hz, ?_, ?_⟩
        · simp only at hc ⊢; omega
        · simp only at hr ⊢; omega
    · rw [if_neg hi] at hm ⊢
      rw [if_neg hi, runH_cons]
      obtain ⟨⟨k, x⟩, hx, hc, hr⟩ := complete (n := n) (most := most) (e := e) ls gs (i + 1) (callH n g h) (by omega)
      simp only at hc hr
      by_cases hk : (k.1 - g) % n = 0
      · have hca : callH n g h k.1 = max (h (k.1 - 1)) (h (k.1 + 1) - 1) := if_pos hk
        rw [hca] at hr
        by_cases hmax : h (k.1 + 1) - 1 ≤ h (k.1 - 1)
        · obtain ⟨z, hz, lz⟩ := has_down (most := most) hx hk
          refine ⟨((k.1 - 1, k.2), z), gA_mem hz, ?_, ?_⟩
          · simp only; omega
          · simp only; omega
        · obtain ⟨z, hz, lz⟩ := has_up (most := most) hx hk
          refine ⟨((k.1 + 1, k.2), z), gA_mem hz, ?_, ?_⟩
          · simp only; omega
          · simp only; omega
      · obtain ⟨z, hz, lz⟩ := has_stay (most := most) hx hk
        have hca : callH n g h k.1 = h k.1 := if_neg hk
        rw [hca] at hr
        refine ⟨(k, z), gA_mem hz, ?_, ?_⟩
        · simp only; omega
        · simp only; omega

end
section
variable {P : Program} {w : World} {K : PySem.W.Frag} {mg : Str → Option Value} {base : Heap}
theorem len_sub {α : Type} [DecidableEq α] : ∀ {l m : List α}, l.Nodup → (∀ x ∈ l, x ∈ m) → l.length ≤ m.length
  | [], _, _, _ => Nat.zero_le _
  | a :: r, m, hn, h => by
    rw [List.nodup_cons] at hn
    have ha := h a List.mem_cons_self
    have ih := len_sub (m := m.erase a) hn.2 fun x hx => (List.mem_erase_of_ne (fun z => hn.1 (by rw [← z]; exact hx))).mpr (h x (List.mem_cons_of_mem _ hx))
    rw [List.length_erase_of_mem ha] at ih
    have := List.length_pos_of_mem ha
    rw [List.length_cons]
    omega
theorem ordF_facts (ls : List Int) : ∀ (gs : List Int) (i : Int), (ordF i ls gs).Nodup ∧ (∀ j ∈ ordF i ls gs, i ≤ j ∧ j ∈ ls) ∧ ((ordF i ls gs).length : Int) = cntF i ls gs
  | [], _ => ⟨List.nodup_nil, (fun j h => by cases h), rfl⟩
  | g :: gs, i => by
    obtain ⟨a, b, c⟩ := ordF_facts ls gs (i + 1)
    rw [ordF_cons]
    unfold cntF
    split
    · rename_i hi
      refine ⟨List.nodup_cons.mpr ⟨fun z => ?_, a⟩, fun j hj => ?_, ?_⟩
      · have := (b i z).1
        omega
      · rcases List.mem_cons.mp hj with rfl | hj
        · exact ⟨Int.le_refl _, hi⟩
        · have := b j hj
          exact ⟨by omega, this.2⟩
      · rw [List.length_cons]; omega
    · refine ⟨a, fun j hj => ?_, by omega⟩
      have := b j hj
      exact ⟨by omega, this.2⟩
theorem cntF_le (ls gs : List Int) (i : Int) : cntF i ls gs ≤ ls.length := by
  obtain ⟨a, b, c⟩ := ordF_facts ls gs i
  have := len_sub a fun j hj => (b j hj).2
  omega
theorem cntF_gs (ls : List Int) : ∀ (gs : List Int) (i : Int), cntF i ls gs ≤ gs.length
  | [], _ => Int.le_refl _
  | g :: gs, i => by
    have := cntF_gs ls gs (i + 1)
    unfold cntF
    rw [List.length_cons]
    split <;> omega
/-! ### room -/
theorem from_rng {n g most e : Int} {gs : List Int} {L : Lay} {x : Pr × Ent} (h : ∀ x ∈ L, e - gs.length ≤ x.1.1 ∧ x.1.1 ≤ e + gs.length ∧ 0 ≤ x.1.2 ∧ x.1.2 ≤ most) (hf : From n g most L x) : e - (g :: gs).length ≤ x.1.1 ∧ x.1.1 ≤ e + (g :: gs).length ∧ 0 ≤ x.1.2 ∧ x.1.2 ≤ most := by
  obtain ⟨k, p, fol0, s0, hk, -, hc⟩ := hf
  have ih := h _ hk
  simp only at ih
  rw [List.length_cons]
  rcases hc with ⟨-, c, -⟩ | ⟨-, c, -⟩ | ⟨-, c, -⟩ | ⟨-, c0, c, -⟩
  all_goals
    rw [c]
    omega
theorem top_rng {n most e : Int} (h0 : 0 ≤ most) : ∀ (gs : List Int) (x : Pr × Ent), x ∈ topL n most e gs → e - gs.length ≤ x.1.1 ∧ x.1.1 ≤ e + gs.length ∧ 0 ≤ x.1.2 ∧ x.1.2 ≤ most
  | [], x, hx => by
    have : x = ((e, 0), (0, none, false)) := List.mem_singleton.mp hx
    subst this
    exact ⟨Int.le_of_eq (Int.sub_zero _), Int.le_of_eq (Int.add_zero _).symm, Int.le_refl _, h0⟩
  | g :: gs, x, hx => from_rng (top_rng h0 gs) (add_from _ hx)
theorem lay_len {L : Lay} {e : Int} (hk : (keysOf L).Nodup) (h : ∀ x ∈ L, e - 60 ≤ x.1.1 ∧ x.1.1 ≤ e + 60 ∧ 0 ≤ x.1.2 ∧ x.1.2 ≤ 60) : L.length < 99000 := by
  have key : ∀ l : List Pr, l.Nodup → (∀ k ∈ l, e - 60 ≤ k.1 ∧ k.1 ≤ e + 60 ∧ 0 ≤ k.2 ∧ k.2 ≤ 60) → (l.map fun k : Pr => ((k.1 - e + 60) * 61 + k.2).toNat).Nodup := by
    intro l hl
    induction l with
    | nil => intro _; exact List.nodup_nil
    | cons a r ih =>
      intro hb
      rw [List.nodup_cons] at hl
      rw [List.map_cons, List.nodup_cons]
      refine ⟨fun z => ?_, ih hl.2 fun k hk => hb k (List.mem_cons_of_mem _ hk)⟩
      obtain ⟨b, hbm, he⟩ := List.mem_map.mp z
      have h1 := hb a List.mem_cons_self
      have h2 := hb b (List.mem_cons_of_mem _ hbm)
      have : b = a := Prod.ext (by omega) (by omega)
      exact hl.1 (by rw [← this]; exact hbm)
  have hkr : ∀ k ∈ keysOf L, e - 60 ≤ k.1 ∧ k.1 ≤ e + 60 ∧ 0 ≤ k.2 ∧ k.2 ≤ 60 := fun k hk => by
    obtain ⟨x, hx, rfl⟩ := List.mem_map.mp hk
    exact h x hx
  have := len_sub (m := List.range 7381) (key _ hk hkr) fun c hc => by
    obtain ⟨k, hk, rfl⟩ := List.mem_map.mp hc
    have := hkr k hk
    exact List.mem_range.mpr (by omega)
  rw [List.length_map, List.length_range] at this
  unfold keysOf at this
  rw [List.length_map] at this
  omega
theorem top_len {n most e : Int} {gs : List Int} (h0 : 0 ≤ most) (hm : most ≤ 60) (hg : gs.length ≤ 60) : (topL n most e gs).length < 99000 :=
  lay_len (e := e) (top_keys n most e gs) fun x hx => by
    have := top_rng h0 gs x hx
    omega
theorem fit_all {n most e : Int} {gs : List Int} (h0 : 0 ≤ most) (hm : most ≤ 60) (hg : gs.length ≤ 60) : FitAll n most e gs := by
  intro i g hi j
  have hl : (gs.drop (i + 1)).length < 60 := by
    have := (List.getElem?_eq_some_iff.mp hi).1
    rw [List.length_drop]
    omega
  refine lay_len (e := e) (fold_keys _ [] (by simp [keysOf])) fun x hx => ?_
  have hf := fold_from (n := n) (g := g) (most := most) (L := topL n most e (gs.drop (i + 1))) ((topL n most e (gs.drop (i + 1))).take j) [] (fun y hy => List.mem_of_mem_take hy) (fun e h => by cases h) x hx
  have := from_rng (g := g) (top_rng h0 (gs.drop (i + 1))) hf
  rw [List.length_cons] at this
  omega
/-! ### what the law asks -/
def cOf (rs gs : List Int) (bound e : Int) (ls : List Int) : Int := gi (crossL rs (remL gs ls) bound) e
structure Case (rs gs : List Int) (e : Int) : Prop where
  n2 : 2 ≤ rs.length
  n12 : rs.length ≤ 12
  g60 : gs.length ≤ 60
  gr : ∀ g ∈ gs, 0 ≤ g ∧ g < rs.length
  e0 : 0 ≤ e
  e1 : e < rs.length
theorem remF_sub (ls : List Int) : ∀ (gs : List Int) (i : Int) (g : Int), g ∈ remF i ls gs → g ∈ gs
  | [], _, _, h => h
  | a :: gs, i, g, h => by
    rw [remF_cons] at h
    split at h
    · exact List.mem_cons_of_mem _ (remF_sub ls gs _ g h)
    · rcases List.mem_cons.mp h with rfl | h
      · exact List.mem_cons_self
      · exact List.mem_cons_of_mem _ (remF_sub ls gs _ g h)
section
variable {rs gs : List Int} {bound e : Int} (c : Case rs gs e)
include c
theorem cOf_eq (ls : List Int) : cOf rs gs bound e ls = upToI rs bound e - runH rs.length (remF 0 ls gs) (upToI rs bound) e := by
  unfold cOf
  rw [remL_remF]
  exact crossL_lev c.n2 (fun g hg => c.gr g (remF_sub ls gs 0 g hg)) c.e0 c.e1
theorem cOf_le (ls : List Int) : cOf rs gs bound e ls ≤ cOf rs gs bound e [] := by
  rw [cOf_eq c, cOf_eq c, remF_none (ls := []) fun j _ h => by cases h]
  have := lose_le (n := rs.length) (by have := c.n2; omega) ls gs 0 (upToI_wk (bound := bound) c.n2) e
  omega
theorem cOf_nonneg (ls : List Int) : 0 ≤ cOf rs gs bound e ls := by
  rw [cOf_eq c]
  have := lose_le (n := rs.length) (by have := c.n2; omega) (rangeI (remF 0 ls gs).length) (remF 0 ls gs) 0 (upToI_wk (bound := bound) c.n2) e
  rw [remF_all fun j h0 h1 => rangeI_mem.mpr ⟨h0, by omega⟩] at this
  have h2 : runH rs.length [] (upToI rs bound) e = upToI rs bound e := rfl
  omega
theorem cOf_all : cOf rs gs bound e (rangeI gs.length) = 0 := by
  rw [cOf_eq c, remF_all fun j h0 h1 => rangeI_mem.mpr ⟨h0, by omega⟩]
  exact Int.sub_self _
theorem cOf_one (r : Int) (t : List Int) : cOf rs gs bound e t ≤ cOf rs gs bound e (r :: t) + 1 := by
  rw [cOf_eq c, cOf_eq c]
  have := lose_one (n := rs.length) (by have := c.n2; omega) (ls := r :: t) (ms := t) r (fun j h => List.mem_cons.mp h) (fun j h => List.mem_cons_of_mem _ h) gs 0 (upToI_wk (bound := bound) c.n2) e
  omega
theorem top_sound {m : Int} (h0 : 0 ≤ m) {x : Pr × Ent} (hx : x ∈ topL rs.length m e gs) : ChainOk (laysL rs.length m e gs).dropLast x.1 ∧ ((passL (laysL rs.length m e gs).dropLast 0 x.1).length : Int) = x.1.2 ∧ x.1.2 ≤ m ∧
    ordL gs (passL (laysL rs.length m e gs).dropLast 0 x.1) = passL (laysL rs.length m e gs).dropLast 0 x.1 ∧ cOf rs gs bound e (passL (laysL rs.length m e gs).dropLast 0 x.1) ≤ upToI rs bound e + wv rs bound x := by
  obtain ⟨a, b, d, f, -, g⟩ := sound h0 gs 0 x hx
  refine ⟨a, b, d, by rw [ordL_ordF]; exact f, ?_⟩
  rw [cOf_eq c]
  have := g (upToI rs bound)
  unfold wv
  omega
theorem top_complete {m : Int} (ls : List Int) (h : cntF 0 ls gs ≤ m) : ∃ x ∈ topL rs.length m e gs, x.1.2 ≤ cntF 0 ls gs ∧ upToI rs bound e + wv rs bound x ≤ cOf rs gs bound e ls := by
  obtain ⟨x, hx, a, b⟩ := complete (n := rs.length) (e := e) ls gs 0 (upToI rs bound) h
  refine ⟨x, hx, a, ?_⟩
  rw [cOf_eq c]
  unfold wv
  omega
end
/-- the least crossings with at most k lost calls -/
def VV (rs gs : List Int) (bound e k v : Int) : Prop := (∃ R : List Int, (R.length : Int) ≤ k ∧ cOf rs gs bound e R = v) ∧ ∀ ls, cntF 0 ls gs ≤ k → v ≤ cOf rs gs bound e ls
section
variable {rs gs : List Int} {bound e : Int}
theorem VV.inj {k v v' : Int} (a : VV rs gs bound e k v) (b : VV rs gs bound e k v') : v = v' := by
  obtain ⟨⟨R, r1, r2⟩, a2⟩ := a
  obtain ⟨⟨S, s1, s2⟩, b2⟩ := b
  have h1 := a2 S (Int.le_trans (cntF_le S gs 0) s1)
  have h2 := b2 R (Int.le_trans (cntF_le R gs 0) r1)
  omega
theorem VV.mono {k k' v v' : Int} (a : VV rs gs bound e k v) (b : VV rs gs bound e k' v') (h : k ≤ k') : v' ≤ v := by
  obtain ⟨⟨R, r1, r2⟩, a2⟩ := a
  have := b.2 R (Int.le_trans (cntF_le R gs 0) (Int.le_trans r1 h))
  omega
theorem VV.drop (c : Case rs gs e) {k v v' : Int} (hk : 0 ≤ k) (a : VV rs gs bound e k v) (b : VV rs gs bound e (k + 1) v') : v ≤ v' + 1 := by
  obtain ⟨⟨R, r1, r2⟩, -⟩ := b
  by_cases h : (R.length : Int) ≤ k
  · have := a.2 R (Int.le_trans (cntF_le R gs 0) h)
    omega
  · cases R with
    | nil =>
      rw [List.length_nil] at h
      omega
    | cons r t =>
      rw [List.length_cons] at r1
      have h1 := a.2 t (Int.le_trans (cntF_le t gs 0) (by omega))
      have h2 := cOf_one (bound := bound) c r t
      omega
theorem VV.zero {v : Int} (a : VV rs gs bound e 0 v) : v = cOf rs gs bound e [] := by
  obtain ⟨⟨R, r1, r2⟩, -⟩ := a
  cases R with
  | nil => exact r2.symm
  | cons r t => rw [List.length_cons] at r1; omega
theorem VV.all (c : Case rs gs e) {v : Int} (a : VV rs gs bound e gs.length v) : v = 0 := by
  have h1 := a.2 (rangeI gs.length) (cntF_gs _ gs 0)
  rw [cOf_all c] at h1
  obtain ⟨⟨R, r1, r2⟩, -⟩ := a
  have := cOf_nonneg (bound := bound) c R
  omega
/-- what the least search answers -/
theorem VV.of (c : Case rs gs e) {lost : Int} (h0 : 0 ≤ lost) {x : Pr × Ent} (hx : x ∈ topL rs.length (mOf lost gs) e gs) (hmin : ∀ y ∈ topL rs.length (mOf lost gs) e gs, wv rs bound x ≤ wv rs bound y) :
    VV rs gs bound e lost (upToI rs bound e + wv rs bound x) ∧ cOf rs gs bound e (passL (laysL rs.length (mOf lost gs) e gs).dropLast 0 x.1) = upToI rs bound e + wv rs bound x ∧ ((passL (laysL rs.length (mOf lost gs) e gs).dropLast 0 x.1).length : Int) ≤ lost := by
  have hm0 : 0 ≤ mOf lost gs := by unfold mOf; split <;> omega
  have hml : mOf lost gs ≤ lost := by unfold mOf; split <;> omega
  obtain ⟨-, s1, s2, -, s3⟩ := top_sound (bound := bound) c hm0 hx
  have low : ∀ ls, cntF 0 ls gs ≤ lost → upToI rs bound e + wv rs bound x ≤ cOf rs gs bound e ls := fun ls hl => by
    have := cntF_gs ls gs 0
    obtain ⟨y, hy, -, h⟩ := top_complete (bound := bound) c (m := mOf lost gs) ls (by unfold mOf; split <;> omega)
    have := hmin y hy
    omega
  have eq := low _ (Int.le_trans (cntF_le (passL (laysL rs.length (mOf lost gs) e gs).dropLast 0 x.1) gs 0) (by omega))
  exact ⟨⟨⟨_, by omega, Int.le_antisymm s3 eq⟩, low⟩, Int.le_antisymm s3 eq, by omega⟩
theorem top_ne (n most e : Int) (gs : List Int) (h0 : 0 ≤ most) : topL n most e gs ≠ [] := by
  obtain ⟨x, hx, -⟩ := complete (n := n) (most := most) (e := e) [] gs 0 (fun _ => 0) (Int.le_trans (cntF_le [] gs 0) h0)
  exact List.ne_nil_of_mem hx
end

end
section
variable {P : Program} {w : World} {K : PySem.W.Frag} {mg : Str → Option Value} {base : Heap}
section
variable {rs gs : List Int} {bound gap : Int}
theorem rd_least {H : Hp} {Q : VK} {EE : XK} {C CR ring p : Addr} {lost : Int} (c : Case rs gs gap) (hR : RingAt H CR ring rs) (ep : H p = some (.lst (Is gs))) (h0 : 0 ≤ lost)
    (q : ∀ t f v R H', Kp [] H H' → H t = none → H f = none → H' t = some (.tup [.int v, .ref f]) → H' f = some (.lst (Is R)) → (R.length : Int) ≤ lost → ordL gs R = R → cOf rs gs bound gap R = v → VV rs gs bound gap lost v → Q (.ref t) H') :
    sp_least K C CR ([.ref ring, .ref p, .int bound, .int gap, .int lost] ++ []) H Q EE := by
  have hm0 : 0 ≤ mOf lost gs := by unfold mOf; split <;> omega
  have hm1 : mOf lost gs ≤ 60 := by have := c.g60; unfold mOf; split <;> omega
  have n2 := c.n2
  have n12 := c.n12
  have g60 := c.g60
  refine ⟨ring, p, bound, gap, lost, rs, gs, rfl, hR, ep, by omega, by omega, by omega, fit_all hm0 hm1 g60, top_len hm0 hm1 g60, top_ne _ _ _ _ hm0, fun x hx => (top_sound (bound := bound) c hm0 hx).1, fun t f x H' k n1 n2 et ef hx hmin => ?_⟩
  obtain ⟨a, b, d⟩ := VV.of c h0 hx hmin
  exact q t f _ _ H' k n1 n2 et ef d (top_sound (bound := bound) c hm0 hx).2.2.2.1 b a
theorem rd_needed {H : Hp} {Q : VK} {EE : XK} {C CR ring p : Addr} {most : Int} (c : Case rs gs gap) (hR : RingAt H CR ring rs) (ep : H p = some (.lst (Is gs))) (h0 : 0 ≤ most)
    (q : ∀ t f J R H', Kp [] H H' → H t = none → H f = none → H' t = some (.tup [.int J, .ref f]) → H' f = some (.lst (Is R)) → (R.length : Int) = J → ordL gs R = R → cOf rs gs bound gap R ≤ most → (∀ ls, cntF 0 ls gs < J → most < cOf rs gs bound gap ls) → Q (.ref t) H') :
    sp_needed K C CR ([.ref ring, .ref p, .int bound, .int gap, .int most] ++ []) H Q EE := by
  have hm0 : (0 : Int) ≤ gs.length := by omega
  have n2 := c.n2
  have n12 := c.n12
  have g60 := c.g60
  have hm1 : (gs.length : Int) ≤ 60 := by omega
  have nn : ∀ x ∈ topL rs.length gs.length gap gs, 0 ≤ x.1.2 := fun x hx => by
    have := (top_sound (bound := bound) c hm0 hx).2.1
    omega
  refine ⟨ring, p, bound, gap, most, rs, gs, rfl, hR, ep, by omega, by omega, by omega, fit_all hm0 hm1 g60, top_len hm0 hm1 g60, ?_, fun x hx => (top_sound (bound := bound) c hm0 hx).1, fun t f x H' k n1 n2 et ef hx x0 x1 hmin => ?_⟩
  · obtain ⟨x, hx, -, h⟩ := top_complete (bound := bound) c (m := gs.length) (rangeI gs.length) (cntF_gs _ gs 0)
    rw [cOf_all c] at h
    exact ⟨x, hx, nn x hx, by omega⟩
  · obtain ⟨-, b, -, d, e⟩ := top_sound (bound := bound) c hm0 hx
    refine q t f _ _ H' k n1 n2 et ef b d (by omega) fun ls hl => ?_
    obtain ⟨y, hy, h1, h2⟩ := top_complete (bound := bound) c (m := gs.length) ls (cntF_gs _ gs 0)
    have := hmin y hy (nn y hy) (by omega)
    omega
theorem rd_cross {H : Hp} {Q : VK} {EE : XK} {r p : Addr} {ls : List Int} (c : Case rs gs gap) (er : H r = some (.lst (Is rs))) (ep : H p = some (.lst (Is (remL gs ls)))) (q : ∀ f H', Kp [] H H' → H f = none → H' f = some (.lst (Is (crossL rs (remL gs ls) bound))) → Q (.ref f) H') :
    sp_q_crossings K ([.ref r, .ref p, .int bound] ++ []) H Q EE := by
  have n2 := c.n2
  have n12 := c.n12
  have g60 := c.g60
  have hl : (remL gs ls).length ≤ gs.length := by
    have := fm_len (fun i : Nat => if (i : Int) ∈ ls then none else some (gi gs i)) (List.range gs.length)
    rw [List.length_range] at this
    exact this
  exact ⟨r, p, bound, rs, _, rfl, er, ep, n2, by omega, by omega, fun g hg => c.gr g (by rw [remL_remF] at hg; exact remF_sub ls gs 0 g hg), q⟩
end
theorem rd_remaining {H : Hp} {Q : VK} {EE : XK} {p r : Addr} {gs ls : List Int} (ep : H p = some (.lst (Is gs))) (er : H r = some (.lst (Is ls))) (hl : gs.length ≤ 1000) (q : ∀ f H', Kp [] H H' → H f = none → H' f = some (.lst (Is (remL gs ls))) → Q (.ref f) H') : sp_q_remaining K ([.ref p, .ref r] ++ []) H Q EE :=
  ⟨p, r, gs, ls, rfl, ep, er, hl, q⟩
theorem rd_in_order {H : Hp} {Q : VK} {EE : XK} {p r : Addr} {gs ls : List Int} (ep : H p = some (.lst (Is gs))) (er : H r = some (.lst (Is ls))) (hl : gs.length ≤ 1000) (q : ∀ f H', Kp [] H H' → H f = none → H' f = some (.lst (Is (ordL gs ls))) → Q (.ref f) H') : sp_q_in_order K ([.ref p, .ref r] ++ []) H Q EE :=
  ⟨p, r, gs, ls, rfl, ep, er, hl, q⟩
def sp_q_needed_right (K : PySem.W.Frag) : Sp := fun vs H Q E => ∃ (b l r p tp np : Addr) (bound gap most : Int) (rs gs ns : List Int), vs = [.ref b, .ref r, .ref p, .ref tp, .ref np] ∧ Bag H b l ∧ H r = some (.lst (Is rs)) ∧ H p = some (.lst (Is gs)) ∧ H tp = some (.tup [.int bound, .int gap, .int most]) ∧
  H np = some (.lst (Is ns)) ∧ r ≠ b ∧ p ≠ b ∧ np ≠ b ∧ Case rs gs gap ∧ 0 ≤ most ∧ ns.length = 8 ∧ (∀ k : Nat, k < 8 → VV rs gs bound gap k (gi ns k)) ∧ ∀ H', Kp [b] H H' → Bag H' b l → Q (.bl true) H'
theorem ok_q_needed_right (T : Txt K mg) : FnOk P w K mg base CX0 6 T.f_q_needed_right T.d_q_needed_right ["_law_bag_here", "_law_ranks_here", "_law_schedule_here", "_law_case", "_law_numbers"] (sp_q_needed_right K) := T.F_q_needed_right.ok sc_q_needed_right (by rintro vs H Q E ⟨a, b, c, d, e, f, g, h, i, j, k, l, rfl, -⟩; rfl)
  (fun cdv A outer s H vs Q E hr h => ⟨_, (pss_cons (ps_asg (pv 3) (pg_tup rfl (pgs_cons (pg_name (i := 5) sc_q_needed_right.nd rfl (Or.inl rfl)) (pgs_cons (pg_name (i := 6) sc_q_needed_right.nd rfl (Or.inl rfl)) (pgs_cons (pg_name (i := 7) sc_q_needed_right.nd rfl (Or.inr rfl)) pgs_nil)))))
    (pss_cons (ps_asg (pe_call (ok_needed T) (hr.mono (by decide)) (by rfl) T.g_needed T.F_needed.kp T.b_needed .nil pass0 (pa_cons (pe_make T.mk_Ring (ok_Ring_init T) (hr.mono (by decide)) (by rfl) T.gC_Ring T.b_Ring_init .nil pass0 (pa_cons (pe_callTy call_list_of (by rfl) T.m_list (by decide +kernel) (pa_cons (pv 1) pa_nil)) pa_nil)) (pa_cons (pv 2) (pa_cons (pv 5) (pa_cons (pv 6) (pa_cons (pv 7) pa_nil)))))) (pg_tup rfl (pgs_cons (pg_name (i := 8) sc_q_needed_right.nd rfl (Or.inl rfl)) (pgs_cons (pg_name (i := 9) sc_q_needed_right.nd rfl (Or.inl rfl)) pgs_nil))))
    (pss_cons (ps_if (PW.pt (pw_and (pt_cmpR op_lt (pv 8) pe_int (nomark _)) (pw_and1 (pt_cmpR op_ne (pv 8) (pe_ix ix_list (pe_op op_cat (pe_lc (own := [("_law_lost", 10)]) (g := gName 10) rfl sc_q_needed_right.nd (pi_range1 (by rfl) T.m_range (pa_cons pe_int pa_nil)) (blkOk_by (own := [("_law_lost", 10)]) (N := ["_law_bag_here", "_law_ranks_here", "_law_schedule_here", "_law_case", "_law_numbers", "_law_bound", "_law_gap", "_law_most", "_law_many", "_law_found", "_law_lost", "_law_fewer", "_law_there"]) (sc := defScope s_q_needed_right) (by decide +kernel)) (fun _ _ _ _ _ => (pg_name (i := 10) sc_q_needed_right.nd rfl (Or.inl rfl))) (fun _ _ _ _ _ => (pts_one (pt_cmpR op_le (pe_ix ix_listB (pv 4) (pv 10) (fun _ _ => rfl)) (pv 7) (nomark _)))) (fun _ _ _ _ _ => (pv 10))) (pe_lst (pa_cons pe_int pa_nil))) pe_int (fun _ _ => rfl)) (nomark _))))) (pss_one (ps_ret pe_bl)) pss_nil)
    (pss_cons (ps_if (PW.pt (pw_or (PW.pt (pw_and (pt_cmpR op_ge (pv 8) pe_int (nomark _)) (pw_and1 (pt_cmpR op_le (pe_ix ix_list (pv 4) pe_int (fun _ _ => rfl)) (pv 7) (nomark _))))) (pw_or (pt_cmpR op_ne (pe_callB call_len_seq (by rfl) T.m_len (by decide +kernel) (pa_cons (pv 9) pa_nil)) (pv 8) (nomark _)) (pw_or1 (pt_cmpR (op_neD hr.units) (pv 9) (pe_call (ok_q_in_order T) (hr.mono (by decide)) (by rfl) T.g_q_in_order T.F_q_in_order.kp T.b_q_in_order .nil pass0 (pa_cons (pv 2) (pa_cons (pv 9) pa_nil))) (nomark _)))))) (pss_one (ps_ret pe_bl)) pss_nil)
    (pss_cons (ps_set (i := 11) sc_q_needed_right.nd rfl (Or.inl rfl) (pe_call (ok_q_drawn_loss T) (hr.mono (by decide)) (by rfl) T.g_q_drawn_loss T.F_q_drawn_loss.kp T.b_q_drawn_loss .nil pass0 (pa_cons (pv 0) (pa_cons (pv 2) (pa_cons (pe_callB (call_max2 rfl) (by rfl) T.m_max (by decide +kernel) (pa_cons pe_int (pa_cons (pe_op op_sub (pv 8) pe_int) pa_nil))) pa_nil)))))
    (pss_cons (ps_set (i := 12) sc_q_needed_right.nd rfl (Or.inl rfl) (pe_ix ix_list (pe_call (ok_q_crossings T) (hr.mono (by decide)) (by rfl) T.g_q_crossings T.F_q_crossings.kp T.b_q_crossings .nil pass0 (pa_cons (pv 1) (pa_cons (pe_call (ok_q_remaining T) (hr.mono (by decide)) (by rfl) T.g_q_remaining T.F_q_remaining.kp T.b_q_remaining .nil pass0 (pa_cons (pv 2) (pa_cons (pv 11) pa_nil))) (pa_cons (pv 5) pa_nil)))) (pv 6) (fun _ _ => rfl)))
    (pss_cons (ps_if (PW.pt (pw_and (pt_cmpR op_gt (pv 8) pe_int (nomark _)) (pw_and1 (pt_cmpR op_le (pv 12) (pv 7) (nomark _))))) (pss_one (ps_ret pe_bl)) pss_nil)
    (pss_one (ps_ret (pe_cmpR op_le (pe_ix ix_list (pe_call (ok_q_crossings T) (hr.mono (by decide)) (by rfl) T.g_q_crossings T.F_q_crossings.kp T.b_q_crossings .nil pass0 (pa_cons (pv 1) (pa_cons (pe_call (ok_q_remaining T) (hr.mono (by decide)) (by rfl) T.g_q_remaining T.F_q_remaining.kp T.b_q_remaining .nil pass0 (pa_cons (pv 2) (pa_cons (pv 9) pa_nil))) (pa_cons (pv 5) pa_nil)))) (pv 6) (fun _ _ => rfl)) (pv 7) (nomark _))))))))))), by
    obtain ⟨b, l, r, p, tp, np, bound, gap, most, rs, gs, ns, rfl, hB, er, ep, et, en, hrb, hpb, hnb, cs, h0, hnl, hV, q⟩ := h
    have n2 := cs.n2
    have n12 := cs.n12
    have g60 := cs.g60
    have e0 := cs.e0
    have e1 := cs.e1
    have kk : ∀ (J : Int) (k : Nat), k < 8 → (k : Int) < J → (∀ ls, cntF 0 ls gs < J → most < cOf rs gs bound gap ls) → most < gi ns k := fun J k hk hkJ hJ => by
      obtain ⟨⟨R, r1, r2⟩, -⟩ := hV k hk
      rw [← r2]
      exact hJ R (by have := cntF_le R gs 0; omega)
    walk_at "rd"
    rename_i rl H1 n1 k1 e1' o odx H2 no k2 eo
    refine ⟨o, odx, rl, rs, rfl, eo, k2.at0 e1', n2, n12, fun H3 k3 R3 => rd_nonQ ?_⟩
    have k03 : Kp [] H H3 := (k1.trans k2).trF k3 (k1.free0 no)
    walk_at "rd"
    refine rd_needed cs R3 (k03.at0 ep) h0 fun t f J R H4 k4 nt nf e4 f4 rl' ro rc rm => ?_
    have k04 := k03.trans k4
    have en4 := k04.at0 en
    have er4 := k04.at0 er
    have ep4 := k04.at0 ep
    have B4 := hB.k0 k04
    have hfb : f ≠ b := (Bag.nn (k03.free0 nf) hB).1
    clear k1 k2 k3 k4 e1' eo R3
    have J0 : 0 ≤ J := by omega
    have hJ7 : 7 < J → most < gi ns 7 := fun h => kk J 7 (by decide) h rm
    walk_at "rs"
    with_reducible refine rd_join (fun σ' H' => Kp [] H4 H' ∧ ∃ x10, σ' = [some (.ref b), some (.ref r), some (.ref p), some (.ref tp), some (.ref np), some (.int bound), some (.int gap), some (.int most), some (.int J), some (.ref f), x10, none, none]) ?_ ?_
    · rintro _ H5 ⟨k5, x10, rfl⟩
      have en5 := k5.at0 en4
      have er5 := k5.at0 er4
      have ep5 := k5.at0 ep4
      have f5 := k5.at0 f4
      have B5 := B4.k0 k5
      walk_at "rs"
      with_reducible refine rd_join (fun σ' H' => Kp [] H5 H' ∧ σ' = [some (.ref b), some (.ref r), some (.ref p), some (.ref tp), some (.ref np), some (.int bound), some (.int gap), some (.int most), some (.int J), some (.ref f), x10, none, none]) ?_ ?_
      · rintro _ H6 ⟨k6, rfl⟩
        have en6 := k6.at0 en5
        have er6 := k6.at0 er5
        have ep6 := k6.at0 ep5
        have f6 := k6.at0 f5
        have B6 := B5.k0 k6
        walk_at "rd"
        refine ⟨b, l, p, gs, _, rfl, B6, ep6, hpb, by omega, by split <;> omega, fun f7 zs H7 k7 B7 n7 e7 z1 z2 z3 => ?_⟩
        have er7 := k7.at1 er6 hrb
        have ep7 := k7.at1 ep6 hpb
        have g7 := k7.at1 f6 hfb
        walk_at "rd"
        refine rd_remaining ep7 e7 (by omega) fun f8 H8 k8 n8 e8 => ?_
        walk_at "rd"
        refine rd_cross cs (k8.at0 er7) e8 fun f9 H9 k9 n9 e9 => ?_
        have k79 := k8.trans k9
        walk_at "rd"
        refine rd_ixI (SqL.of e9) e0 (by rw [crossL_length]; exact e1) ?_
        walk_at "rs"
        have hthere : 0 < J → most < gi (crossL rs (remL gs zs) bound) gap := fun hj => rm zs (by
          have := cntF_le zs gs 0
          split at z3 <;> omega)
        with_reducible refine rd_join (fun σ' H' => H' = H9 ∧ ∃ x11 x12, σ' = [some (.ref b), some (.ref r), some (.ref p), some (.ref tp), some (.ref np), some (.int bound), some (.int gap), some (.int most), some (.int J), some (.ref f), x10, x11, x12]) ?_ ?_
        · rintro _ H10 ⟨e, x11, x12, rfl⟩
          subst e
          walk_at "rd"
          refine rd_remaining (k79.at0 ep7) (k79.at0 g7) (by omega) fun f8 H11 k11 n11 e11 => ?_
          walk_at "rd"
          refine rd_cross cs (k11.at0 (k79.at0 er7)) e11 fun f9 H12 k12 n12 e12 => ?_
          walk_at "rd"
          refine rd_ixI (SqL.of e12) e0 (by rw [crossL_length]; exact e1) ?_
          walk_at "rd"
          have hfin : gi (crossL rs (remL gs R) bound) gap ≤ most := rc
          rw [decide_eq_true hfin]
          have kk := k79.trans (k11.trans k12)
          have k06 := (k04.trans k5).trans k6
          exact q _ (k06.any.tr (k7.tr0 kk)) (B7.k0 kk)
        · intro N hN
          walk_at "rd"
          refine rd_d (fun hj => ?_) (fun hj => ?_)
          · have := hthere hj
            walk_at "rd"
            exact hN _ _ ⟨rfl, _, _, rfl⟩
          · walk_at "rd"
            exact hN _ _ ⟨rfl, _, _, rfl⟩
      · intro N hN
        walk_at "rd"
        by_cases h8 : 8 ≤ J
        · have h7 := hJ7 (by omega)
          walk_at "rd"
          refine rd_in_order ep5 f5 (by omega) fun f8 H8 k8 n8 e8 => ?_
          walk_at "rd"
          refine rd_ndF ro.symm ?_
          walk_at "rd"
          exact hN _ _ ⟨k8, rfl⟩
        · walk_at "rd"
          refine rd_in_order ep5 f5 (by omega) fun f8 H8 k8 n8 e8 => ?_
          walk_at "rd"
          refine rd_ndF ro.symm ?_
          walk_at "rd"
          exact hN _ _ ⟨k8, rfl⟩
    · intro N hN
      walk_at "rd"
      refine rd_d (fun h8 => ?_) (fun h8 => ?_)
      · walk_at "rd"
        refine loopLcR 10 (fun m => if gi ns m ≤ most then some (m : Int) else none) (by omega) (by omega) (fun m H5 N' hm k5 hN' => ?_) fun D H5 n5 k5 e5 => ?_
        · walk_at "rd"
          refine rd_d (fun h => ?_) (fun h => ?_)
          · walk_at "rd"
            have := hN' _ .refl
            rw [if_pos h] at this
            exact this
          · have := hN' _ .refl
            rw [if_neg h] at this
            exact this
        · obtain ⟨tl, htl⟩ := first_fm (α := Int) (f := fun m : Nat => if gi ns m ≤ most then some (m : Int) else none) (J := J.toNat) (v := J) (fun j hj => if_neg (by have := kk J j (by omega) (by omega) rm; omega)) (by
            have hj : ((J.toNat : Nat) : Int) = J := by omega
            have := (hV J.toNat (by omega)).2 R (by have := cntF_le R gs 0; omega)
            rw [hj] at this ⊢
            exact if_pos (by omega)) 8 (by omega)
          have e5' : H5 D = some (.lst (Is (J :: tl))) := by rw [e5]; exact congrArg (fun z => some (HO.lst (Is z))) htl
          walk_at "rd"
          rename_i c H6 n6 k6 e6
          have hlen : (J :: tl).length ≤ 8 := by
            rw [← htl]
            refine Nat.le_trans (fm_len _ _) ?_
            rw [List.length_range]
            exact Nat.le_refl _
          refine rd_catI (zs := [8]) (k6.at0 e5') e6 (by simp only [List.length_singleton]; omega) fun c7 H7 n7 k7 e7 => ?_
          walk_at "rd"
          refine rd_ixI (ns := (J :: tl) ++ [8]) (SqL.of e7) (Int.le_refl 0) (by rw [List.length_append, List.length_cons]; omega) ?_
          rw [show gi ((J :: tl) ++ [8]) 0 = J from rfl]
          walk_at "rd"
          exact hN _ _ ⟨(k5.trans k6).trans k7, _, rfl⟩
      · walk_at "rd"
        exact hN _ _ ⟨.refl, _, rfl⟩⟩)

end
section
variable {P : Program} {w : World} {K : PySem.W.Frag} {mg : Str → Option Value} {base : Heap}
theorem _root_.Rc.Bag.nI {H : Hp} {b l r : Addr} {rs : List Int} (B : Bag H b l) (e : H r = some (.lst (Is rs))) : r ≠ b := by
  obtain ⟨x, y, z, ns, hb, -⟩ := B
  rintro rfl
  rw [hb] at e
  have h := HO.lst.inj (Option.some.inj e)
  cases rs with
  | nil => cases h
  | cons a t => cases t with
    | nil => cases h
    | cons a t => cases t with
      | nil => cases h
      | cons a t => cases t with
        | nil => cases h
        | cons a t => cases h
theorem RingAt.kb {H H' : Hp} {C o b l : Addr} {rs : List Int} (k : Kp [b] H H') (B : Bag H b l) (h : RingAt H C o rs) : RingAt H' C o rs := by
  obtain ⟨dx, rl, eo, el⟩ := h
  refine ⟨dx, rl, k.at1 eo fun z => ?_, k.at1 el (B.nI el)⟩
  obtain ⟨x, y, z', ns, hb, -⟩ := B
  rw [z, hb] at eo
  cases eo
theorem remL_nil (gs : List Int) : remL gs [] = gs := by rw [remL_remF]; exact remF_none fun j _ h => by cases h
theorem ex_min (f : Pr × Ent → Int) : ∀ L : Lay, L ≠ [] → ∃ x ∈ L, ∀ y ∈ L, f x ≤ f y
  | [], h => absurd rfl h
  | [a], _ => ⟨a, List.mem_cons_self, fun y hy => by rw [List.mem_singleton.mp hy]; exact Int.le_refl _⟩
  | a :: b :: r, _ => by
    obtain ⟨x, hx, hm⟩ := ex_min f (b :: r) (by simp)
    by_cases h : f a ≤ f x
    · refine ⟨a, List.mem_cons_self, fun y hy => ?_⟩
      rcases List.mem_cons.mp hy with rfl | hy
      · exact Int.le_refl _
      · have := hm y hy
        omega
    · refine ⟨x, List.mem_cons_of_mem _ hx, fun y hy => ?_⟩
      rcases List.mem_cons.mp hy with rfl | hy
      · omega
      · exact hm y hy
theorem VV.ex {rs gs : List Int} {bound e : Int} (c : Case rs gs e) {k : Int} (h0 : 0 ≤ k) : ∃ v, VV rs gs bound e k v := by
  obtain ⟨x, hx, hm⟩ := ex_min (wv rs bound) _ (top_ne rs.length (mOf k gs) e gs (by unfold mOf; split <;> omega))
  exact ⟨_, (VV.of c h0 hx hm).1⟩
open Classical in
noncomputable def lv (rs gs : List Int) (bound e k : Int) : Int := if h : ∃ v, VV rs gs bound e k v then h.choose else 0
theorem lv_spec {rs gs : List Int} {bound e : Int} (c : Case rs gs e) {k : Int} (h0 : 0 ≤ k) : VV rs gs bound e k (lv rs gs bound e k) := by
  have h := VV.ex (bound := bound) c h0
  unfold lv
  rw [dif_pos h]
  exact h.choose_spec
theorem sorted_eq : ∀ {xs ys : List Int}, xs.Perm ys → xs.Pairwise (· ≥ ·) → ys.Pairwise (· ≥ ·) → xs = ys
  | [], ys, h, _, _ => (List.nil_perm.mp h).symm
  | x :: xs, [], h, _, _ => absurd h.length_eq (by simp)
  | x :: xs, y :: ys, h, hx, hy => by
    have h1 : x ∈ y :: ys := h.mem_iff.mp List.mem_cons_self
    have h2 : y ∈ x :: xs := h.mem_iff.mpr List.mem_cons_self
    rw [List.pairwise_cons] at hx hy
    have e : x = y := by
      rcases List.mem_cons.mp h1 with e | h1
      · exact e
      · rcases List.mem_cons.mp h2 with e | h2
        · exact e.symm
        · exact Int.le_antisymm (hy.1 x h1) (hx.1 y h2)
    subst e
    rw [sorted_eq ((List.perm_cons x).mp h) hx.2 hy.2]
theorem desc_map (f : Int → Int) (hf : ∀ a b : Int, 0 ≤ a → a ≤ b → f b ≤ f a) (n : Nat) : ((List.range n).map fun k : Nat => f k).Pairwise (· ≥ ·) := by
  rw [List.pairwise_map]
  exact List.Pairwise.imp (fun {a b : Nat} (h : a < b) => hf a b (by omega) (by omega)) List.pairwise_lt_range
def sp_law (K : PySem.W.Frag) : Sp := fun vs H Q E => ∃ (p : Addr) (ns : List Int), vs = [.ref p] ∧ SqL K H p (Is ns) ∧ ∀ H', Q (.bl true) H'
theorem law_start {H : Hp} {a : Addr} {ns : List Int} (hS : SqL K H a (ns.map V.int)) (hl : ns.length ≤ 63) : sp_law K [.ref a] H (fun v _ => v = .bl true) (fun _ _ _ => False) := ⟨a, ns, rfl, hS, fun _ => rfl⟩
theorem ok_law (T : Txt K mg) : FnOk P w K mg base CX0 7 T.f_law T.d_law ["_law_script"] (sp_law K) := T.F_law.ok sc_law (by rintro vs H Q E ⟨a, b, rfl, -⟩; rfl)
  (fun cdv A outer s H vs Q E hr h => ⟨_, (pss_cons (ps_set (i := 1) sc_law.nd rfl (Or.inl rfl) (pe_call (ok_q_bag T) (hr.mono (by decide)) (by rfl) T.g_q_bag T.F_q_bag.kp T.b_q_bag .nil pass0 (pa_cons (pv 0) pa_nil)))
    (pss_cons (ps_set (i := 2) sc_law.nd rfl (Or.inl rfl) (pe_callTy call_int1 (by rfl) T.m_int (by decide +kernel) (pa_cons (pe_cmpR op_eq (pe_call (ok_q_take T) (hr.mono (by decide)) (by rfl) T.g_q_take T.F_q_take.kp T.b_q_take .nil pass0 (pa_cons (pv 1) (pa_cons pe_int pa_nil))) pe_int (nomark _)) pa_nil)))
    (pss_cons (ps_set (i := 3) sc_law.nd rfl (Or.inl rfl) (pe_call (ok_q_some_size T) (hr.mono (by decide)) (by rfl) T.g_q_some_size T.F_q_some_size.kp T.b_q_some_size .nil pass0 (pa_cons (pv 1) (pa_cons (pe_ix ix_list (pe_lst (pa_cons pe_int (pa_cons pe_int pa_nil))) (pv 2) (fun _ _ => rfl)) pa_nil))))
    (pss_cons (ps_asg (pe_tup (pa_cons (pe_call (ok_q_ranks T) (hr.mono (by decide)) (by rfl) T.g_q_ranks T.F_q_ranks.kp T.b_q_ranks .nil pass0 (pa_cons (pv 1) (pa_cons (pv 3) pa_nil))) (pa_cons (pe_call (ok_q_schedule T) (hr.mono (by decide)) (by rfl) T.g_q_schedule T.F_q_schedule.kp T.b_q_schedule .nil pass0 (pa_cons (pv 1) (pa_cons (pv 3) (pa_cons (pe_ix ix_list (pe_lst (pa_cons pe_int (pa_cons pe_int pa_nil))) (pv 2) (fun _ _ => rfl)) pa_nil)))) pa_nil))) (pg_tup rfl (pgs_cons (pg_name (i := 4) sc_law.nd rfl (Or.inl rfl)) (pgs_cons (pg_name (i := 5) sc_law.nd rfl (Or.inr rfl)) pgs_nil))))
    (pss_cons (ps_asg (pe_tup (pa_cons (pe_make T.mk_Ring (ok_Ring_init T) (hr.mono (by decide)) (by rfl) T.gC_Ring T.b_Ring_init .nil pass0 (pa_cons (pe_callTy call_list_of (by rfl) T.m_list (by decide +kernel) (pa_cons (pv 4) pa_nil)) pa_nil)) (pa_cons (pe_call (ok_q_some_bound T) (hr.mono (by decide)) (by rfl) T.g_q_some_bound T.F_q_some_bound.kp T.b_q_some_bound .nil pass0 (pa_cons (pv 1) (pa_cons (pv 4) pa_nil))) (pa_cons (pe_call (ok_q_take T) (hr.mono (by decide)) (by rfl) T.g_q_take T.F_q_take.kp T.b_q_take .nil pass0 (pa_cons (pv 1) (pa_cons (pv 3) pa_nil))) pa_nil)))) (pg_tup rfl (pgs_cons (pg_name (i := 6) sc_law.nd rfl (Or.inr rfl)) (pgs_cons (pg_name (i := 7) sc_law.nd rfl (Or.inr rfl)) (pgs_cons (pg_name (i := 8) sc_law.nd rfl (Or.inr rfl)) pgs_nil)))))
    (pss_cons (ps_set (i := 9) sc_law.nd rfl (Or.inl rfl) (pe_ix ix_list (pe_call (ok_q_crossings T) (hr.mono (by decide)) (by rfl) T.g_q_crossings T.F_q_crossings.kp T.b_q_crossings .nil pass0 (pa_cons (pv 4) (pa_cons (pv 5) (pa_cons (pv 7) pa_nil)))) (pv 8) (fun _ _ => rfl)))
    (pss_cons (ps_set (i := 10) sc_law.nd rfl (Or.inr rfl) (pe_lc (own := [("_law_lost", 11)]) (g := gName 11) rfl sc_law.nd (pi_range1 (by rfl) T.m_range (pa_cons pe_int pa_nil)) (blkOk_by (own := [("_law_lost", 11)]) (N := ["_law_script", "_law_bag_here", "_law_great", "_law_size", "_law_ranks_here", "_law_schedule_here", "_law_ring", "_law_bound", "_law_gap", "_law_full", "_law_numbers", "_law_lost", "_law_k", "_law_number", "_law_found", "_law_indexes", "_law_there", "_law_reached", "_law_most"]) (sc := defScope s_law) (by decide +kernel)) (fun _ _ _ _ _ => (pg_name (i := 11) sc_law.nd rfl (Or.inl rfl))) (fun _ _ _ _ _ => pts_nil) (fun _ _ _ _ _ => (pe_ix ix_tupB (pe_call (ok_least T) (hr.mono (by decide)) (by rfl) T.g_least T.F_least.kp T.b_least .nil pass0 (pa_cons (pv 6) (pa_cons (pv 5) (pa_cons (pv 7) (pa_cons (pv 8) (pa_cons (pv 11) pa_nil)))))) pe_int (fun _ _ => rfl)))))
    (pss_cons (ps_if (PW.pt (pw_or (pt_cmpR op_ne (pe_ix ix_list (pv 10) pe_int (fun _ _ => rfl)) (pv 9) (nomark _)) (pw_or1 (pt_cmpR (op_neD hr.units) (pv 10) (pe_callBK (cr_sortedRev (b := true)) (by rfl) T.m_sorted (by decide +kernel) (pa_cons (pv 10) pa_nil) (pk_cons pe_bl pk_nil)) (nomark _))))) (pss_one (ps_ret pe_bl)) pss_nil)
    (pss_cons (ps_if (pt_cmpR (op_neD hr.units) (pe_lc (own := [("_law_lost", 11)]) (g := gName 11) rfl sc_law.nd (pi_range1 (by rfl) T.m_range (pa_cons pe_int pa_nil)) (blkOk_by (own := [("_law_lost", 11)]) (N := ["_law_script", "_law_bag_here", "_law_great", "_law_size", "_law_ranks_here", "_law_schedule_here", "_law_ring", "_law_bound", "_law_gap", "_law_full", "_law_numbers", "_law_lost", "_law_k", "_law_number", "_law_found", "_law_indexes", "_law_there", "_law_reached", "_law_most"]) (sc := defScope s_law) (by decide +kernel)) (fun _ _ _ _ _ => (pg_name (i := 11) sc_law.nd rfl (Or.inl rfl))) (fun _ _ _ _ _ => (pts_one (pt_cmpR op_gt (pe_op op_sub (pe_ix ix_listB (pv 10) (pv 11) (fun _ _ => rfl)) (pe_ix ix_listB (pv 10) (pe_op op_add (pv 11) pe_int) (fun _ _ => rfl))) pe_int (nomark _)))) (fun _ _ _ _ _ => (pv 11))) (pe_lst pa_nil) (nomark _)) (pss_one (ps_ret pe_bl)) pss_nil)
    (pss_cons (ps_for PassesOwn.never rfl (pi_range1 (by rfl) T.m_range (pa_cons pe_int pa_nil)) (pg_name (i := 12) sc_law.nd rfl (Or.inl rfl)) (pss_cons (ps_set (i := 11) sc_law.nd rfl (Or.inl rfl) (pe_ix ix_list (pe_lst (pa_cons (pe_call (ok_q_take T) (hr.mono (by decide)) (by rfl) T.g_q_take T.F_q_take.kp T.b_q_take .nil pass0 (pa_cons (pv 1) (pa_cons pe_int pa_nil))) (pa_cons (pe_call (ok_q_take T) (hr.mono (by decide)) (by rfl) T.g_q_take T.F_q_take.kp T.b_q_take .nil pass0 (pa_cons (pv 1) (pa_cons (pe_op op_add (pe_callB call_len_seq (by rfl) T.m_len (by decide +kernel) (pa_cons (pv 5) pa_nil)) pe_int) pa_nil))) pa_nil))) (pe_call (ok_q_take T) (hr.mono (by decide)) (by rfl) T.g_q_take T.F_q_take.kp T.b_q_take .nil pass0 (pa_cons (pv 1) (pa_cons pe_int pa_nil))) (fun _ _ => rfl)))
    (pss_cons (ps_asg (pe_call (ok_least T) (hr.mono (by decide)) (by rfl) T.g_least T.F_least.kp T.b_least .nil pass0 (pa_cons (pv 6) (pa_cons (pv 5) (pa_cons (pv 7) (pa_cons (pv 8) (pa_cons (pv 11) pa_nil)))))) (pg_tup rfl (pgs_cons (pg_name (i := 13) sc_law.nd rfl (Or.inl rfl)) (pgs_cons (pg_name (i := 14) sc_law.nd rfl (Or.inl rfl)) pgs_nil))))
    (pss_cons (ps_set (i := 15) sc_law.nd rfl (Or.inl rfl) (pe_call (ok_q_drawn_loss T) (hr.mono (by decide)) (by rfl) T.g_q_drawn_loss T.F_q_drawn_loss.kp T.b_q_drawn_loss .nil pass0 (pa_cons (pv 1) (pa_cons (pv 5) (pa_cons (pv 11) pa_nil)))))
    (pss_cons (ps_set (i := 16) sc_law.nd rfl (Or.inl rfl) (pe_ix ix_list (pe_call (ok_q_crossings T) (hr.mono (by decide)) (by rfl) T.g_q_crossings T.F_q_crossings.kp T.b_q_crossings .nil pass0 (pa_cons (pv 4) (pa_cons (pe_call (ok_q_remaining T) (hr.mono (by decide)) (by rfl) T.g_q_remaining T.F_q_remaining.kp T.b_q_remaining .nil pass0 (pa_cons (pv 5) (pa_cons (pv 15) pa_nil))) (pa_cons (pv 7) pa_nil)))) (pv 8) (fun _ _ => rfl)))
    (pss_cons (ps_if (PW.pt (pw_or (pt_not (pt_chain op_le op_le (pv 13) (pv 16) (pv 9))) (pw_or1 (PW.pt (pw_and (pt_cmpR op_lt (pv 11) pe_int (nomark _)) (pw_and1 (pt_cmpR op_ne (pv 13) (pe_ix ix_list (pv 10) (pv 11) (fun _ _ => rfl)) (nomark _)))))))) (pss_one (ps_ret pe_bl)) pss_nil)
    (pss_cons (ps_set (i := 17) sc_law.nd rfl (Or.inl rfl) (pe_call (ok_q_crossings T) (hr.mono (by decide)) (by rfl) T.g_q_crossings T.F_q_crossings.kp T.b_q_crossings .nil pass0 (pa_cons (pv 4) (pa_cons (pe_call (ok_q_remaining T) (hr.mono (by decide)) (by rfl) T.g_q_remaining T.F_q_remaining.kp T.b_q_remaining .nil pass0 (pa_cons (pv 5) (pa_cons (pv 14) pa_nil))) (pa_cons (pv 7) pa_nil)))))
    (pss_one (ps_if (PW.pt (pw_or (pt_cmpR op_gt (pe_callB call_len_seq (by rfl) T.m_len (by decide +kernel) (pa_cons (pv 14) pa_nil)) (pv 11) (nomark _)) (pw_or (pt_cmpR op_ne (pe_ix ix_list (pv 17) (pv 8) (fun _ _ => rfl)) (pv 13) (nomark _)) (pw_or1 (pt_cmpR (op_neD hr.units) (pv 14) (pe_call (ok_q_in_order T) (hr.mono (by decide)) (by rfl) T.g_q_in_order T.F_q_in_order.kp T.b_q_in_order .nil pass0 (pa_cons (pv 5) (pa_cons (pv 14) pa_nil))) (nomark _)))))) (pss_one (ps_ret pe_bl)) pss_nil)))))))))
    (pss_cons (ps_for PassesOwn.never rfl (pi_list (pe_lst (pa_cons (pv 9) (pa_cons (pe_callB (call_max2 rfl) (by rfl) T.m_max (by decide +kernel) (pa_cons pe_int (pa_cons (pe_op op_sub (pv 9) pe_int) pa_nil))) (pa_cons (pe_callB (call_max2 rfl) (by rfl) T.m_max (by decide +kernel) (pa_cons pe_int (pa_cons (pe_op op_sub (pv 9) pe_int) pa_nil))) (pa_cons pe_int pa_nil)))))) (pg_name (i := 18) sc_law.nd rfl (Or.inl rfl)) (pss_one (ps_if (pt_not (pt_val (pe_call (ok_q_needed_right T) (hr.mono (by decide)) (by rfl) T.g_q_needed_right T.F_q_needed_right.kp T.b_q_needed_right .nil pass0 (pa_cons (pv 1) (pa_cons (pv 4) (pa_cons (pv 5) (pa_cons (pe_tup (pa_cons (pv 7) (pa_cons (pv 8) (pa_cons (pv 18) pa_nil)))) (pa_cons (pv 10) pa_nil)))))))) (pss_one (ps_ret pe_bl)) pss_nil)))
    (pss_one (ps_ret (pe_cmpR op_eq (pe_ix ix_tup (pe_call (ok_least T) (hr.mono (by decide)) (by rfl) T.g_least T.F_least.kp T.b_least .nil pass0 (pa_cons (pv 6) (pa_cons (pv 5) (pa_cons (pv 7) (pa_cons (pv 8) (pa_cons (pe_callB call_len_seq (by rfl) T.m_len (by decide +kernel) (pa_cons (pv 5) pa_nil)) pa_nil)))))) pe_int (fun _ _ => rfl)) pe_int (nomark _))))))))))))))), by
    obtain ⟨p0, ns, rfl, hS, q⟩ := h
    walk_at "rd"
    refine ⟨p0, ns, rfl, hS, fun b l H1 k1 nb nl B1 => ?_⟩
    clear hS k1 nb nl
    walk_at "s2"
    walk_at "rs"
    rename_i v H2 k2 B2 v0 v1
    obtain ⟨gr, hgr, g0, g1⟩ : ∃ gr : Int, (if decide (v = 0) = true then (1 : Int) else 0) = gr ∧ 0 ≤ gr ∧ gr ≤ 1 := ⟨_, rfl, by split <;> decide, by split <;> decide⟩
    rw [hgr]
    clear hgr k2 B1 v0 v1
    walk_at "rd"
    rename_i c H3 n3 k3 e3
    refine rd_ixM (SqL.of e3) g0 (by simp; omega) fun z hz => ?_
    obtain ⟨m, rfl, m2, m12⟩ : ∃ m, z = .int m ∧ 2 ≤ m ∧ m ≤ 12 := by
      simp only [List.mem_cons, List.not_mem_nil, or_false] at hz
      rcases hz with rfl | rfl <;> exact ⟨_, rfl, by decide, by decide⟩
    walk_at "rd"
    refine ⟨b, l, m, rfl, B2.k0 k3, m2, by omega, fun size H4 k4 B4 s2 s12 => ?_⟩
    clear hz e3 n3 k3 k4 B2
    walk_at "rd"
    refine ⟨b, l, size, rfl, B4, by omega, by omega, fun r rs H5 k5 B5 n5 e5 hrs => ?_⟩
    have nr : r ≠ b ∧ r ≠ l := Bag.nn n5 B4
    walk_at "rd"
    rename_i c H6 n6 k6 e6
    refine rd_ixM (SqL.of e6) g0 (by simp; omega) fun z hz => ?_
    obtain ⟨m', rfl, m0, m60⟩ : ∃ m, z = .int m ∧ 0 ≤ m ∧ m ≤ 60 := by
      simp only [List.mem_cons, List.not_mem_nil, or_false] at hz
      rcases hz with rfl | rfl <;> exact ⟨_, rfl, by decide, by decide⟩
    walk_at "rd"
    refine ⟨b, l, size, m', rfl, B5.k0 k6, s2, by omega, m0, by omega, fun p gs H7 k7 B7 n7 e7 hg1 hg2 => ?_⟩
    have np : p ≠ b ∧ p ≠ l := Bag.nn n7 (B5.k0 k6)
    have er7 : H7 r = some (.lst (Is rs)) := k7.at1 (k6.at0 e5) nr.1
    clear hz e6 n6 k6 k7 n7 n5 k5 B5 B4 e5
    walk_at "s2"
    walk_at "rs"
    rename_i tq H8 n8 k8 e8
    have B8 := B7.k0 k8
    have er8 := k8.at0 er7
    have ep8 := k8.at0 e7
    clear n8 e8 k8 B7 er7 e7
    walk_at "rd"
    rename_i rl H9 n9 k9 e9 o odx H10 n10 k10 e10
    refine ⟨o, odx, rl, rs, rfl, e10, k10.at0 e9, by omega, by omega, fun H11 k11 R11 => rd_nonQ ?_⟩
    have k811 : Kp [] H8 H11 := (k9.trans k10).trF k11 (k9.free0 n10)
    have B11 := B8.k0 k811
    have er11 := k811.at0 er8
    have ep11 := k811.at0 ep8
    clear n9 k9 e9 n10 k10 e10 k11 k811 er8 ep8
    walk_at "rd"
    refine ⟨b, l, r, rs, rfl, B11, er11, nr.1, by omega, by omega, fun bound H12 k12 B12 => ?_⟩
    have R12 := R11.kb k12 B11
    have er12 := k12.at1 er11 nr.1
    have ep12 := k12.at1 ep11 np.1
    clear R11 er11 ep11 B11 k12
    walk_at "rs"
    rename_i gap H13 k13 B13 gap0 gap1 tq2 H14 n14 k14 e14
    have R14 := (R12.kb k13 B12).k0 k14
    have er14 := k14.at0 (k13.at1 er12 nr.1)
    have ep14 := k14.at0 (k13.at1 ep12 np.1)
    have B14 := B13.k0 k14
    clear R12 er12 ep12 B12 B13 k13 k14 e14 n14
    have cs : Case rs gs gap := ⟨by omega, by omega, by omega, fun g hg => by have := hg2 g hg; omega, gap0, by omega⟩
    have ho : o ≠ b := fun z => by
      obtain ⟨dx, rl, eo, el⟩ := R14
      obtain ⟨x, y, z', ns, hb, -⟩ := B14
      rw [z, hb] at eo
      cases eo
    have full0 := remL_nil gs
    walk_at "rd"
    refine ⟨r, p, bound, rs, gs, rfl, er14, ep14, by omega, by omega, by omega, cs.gr, fun f H15 k15 n15 e15 => ?_⟩
    walk_at "rd"
    refine rd_ixI (SqL.of e15) gap0 (by rw [crossL_length]; exact cs.e1) ?_
    obtain ⟨full, hfull⟩ : ∃ full, gi (crossL rs gs bound) gap = full := ⟨_, rfl⟩
    have hfull' : cOf rs gs bound gap [] = full := by unfold cOf; rw [full0]; exact hfull
    rw [hfull]
    have R15 := R14.k0 k15
    have er15 := k15.at0 er14
    have ep15 := k15.at0 ep14
    have B15 := B14.k0 k15
    clear R14 er14 ep14 B14 k15 e15 n15 hfull full0
    walk_at "rd"
    refine loopLcR 11 (fun k => some (lv rs gs bound gap k)) (by decide) (by decide) (fun m H16 N hm k16 hN => ?_) fun nq H16 n16 k16 e16 => ?_
    · walk_at "rd"
      refine rd_least cs (R15.k0 k16) (k16.at0 ep15) (by omega) fun t f v R H17 k17 n17 n17' e17 e17' hl ho' hc hv => ?_
      walk_at "rd"
      have := VV.inj hv (lv_spec cs (by omega))
      rw [this]
      exact hN _ k17
    have hns : (List.range (Int.toNat 8)).filterMap (fun k : Nat => some (lv rs gs bound gap k)) = (List.range 8).map fun k : Nat => lv rs gs bound gap k := by
      rw [List.filterMap_eq_map']; rfl
    obtain ⟨nv, hnv⟩ : ∃ nv, ((List.range 8).map fun k : Nat => lv rs gs bound gap k) = nv := ⟨_, rfl⟩
    rw [hns, hnv] at e16
    have hl8 : nv.length = 8 := by rw [← hnv]; simp
    have hgi : ∀ k : Nat, k < 8 → gi nv k = lv rs gs bound gap k := fun k hk => by
      rw [← hnv]
      exact gi_nat (by rw [List.getElem?_map, List.getElem?_range hk]; rfl)
    have hVV : ∀ k : Nat, k < 8 → VV rs gs bound gap k (gi nv k) := fun k hk => by
      rw [hgi k hk]
      exact lv_spec cs (by omega)
    have hdesc : nv.Pairwise (· ≥ ·) := by
      rw [← hnv]
      exact desc_map _ (fun a b ha hab => VV.mono (lv_spec cs ha) (lv_spec cs (by omega)) hab) 8
    have hdrop : ∀ k : Nat, k < 7 → gi nv k ≤ gi nv (k + 1 : Int) + 1 := fun k hk => by
      have h1 := hVV k (by omega)
      have h2 := hVV (k + 1) (by omega)
      exact VV.drop cs (by omega) h1 h2
    have h00 : gi nv 0 = full := by
      rw [← hfull']
      exact VV.zero (hVV 0 (by decide))
    have R16 := R15.k0 k16
    have er16 := k16.at0 er15
    have ep16 := k16.at0 ep15
    have B16 := B15.k0 k16
    clear hns hgi hnv R15 er15 ep15 B15 n16 k16
    walk_at "rd"
    rename_i ns' c17 H17 p17 o17 n17 k17 e17
    refine rd_ndF (sorted_eq p17 (by simpa [OrdB] using o17) hdesc).symm ?_
    have en17 := k17.at0 e16
    clear p17 o17 n17 e17 hdesc e16
    walk_at "rd"
    refine loopLcR 11 (fun _ => none) (by decide) (by decide) (fun m H18 N hm k18 hN => ?_) fun fq H18 n18 k18 e18 => ?_
    · have hd := hdrop m (by omega)
      have en18 := k18.at0 en17
      walk_at "rd"
      exact hN _ .refl
    have e18' : H18 fq = some (.lst (Is [])) := by
      rw [e18]
      congr 3
    walk_at "rd"
    rename_i c19 H19 n19 k19 e19
    refine rd_neDI (xs := []) (zs := []) (k19.at0 e18') e19 ?_
    walk_at "s2"
    refine rd_ndF rfl ?_
    have k1619 := (k17.trans k18).trans k19
    have R19 := R16.k0 k1619
    have er19 := k1619.at0 er16
    have ep19 := k1619.at0 ep16
    have B19 := B16.k0 k1619
    have en19 := (k18.trans k19).at0 en17
    have hnqb : nq ≠ b := B19.nI en19
    clear R16 er16 ep16 B16 n18 k18 e18 e18' n19 k19 e19 k17 en17 k1619
    walk_at "rs"
    with_reducible refine rd_seq ?_
    walk_at "rs"
    refine loop1 (by decide) (by decide) (fun i σ' H' => ∃ x11 x12 x13 x14 x15 x16 x17 x18, σ' = [some (.ref p0), some (.ref b), some (.int gr), some (.int size), some (.ref r), some (.ref p), some (.ref o), some (.int bound), some (.int gap), some (.int full), some (.ref nq), x11, x12, x13, x14, x15, x16, x17, x18] ∧ Kp [b] H19 H' ∧ Bag H' b l) ⟨_, _, _, _, _, _, _, _, rfl, .refl, B19⟩ ?_ ?_
    · rintro i _ H20 hi ⟨x11, x12, x13, x14, x15, x16, x17, x18, rfl, k20, B20⟩
      have R20 := R19.kb k20 B19
      have er20 := k20.at1 er19 nr.1
      have ep20 := k20.at1 ep19 np.1
      have en20 := k20.at1 en19 hnqb
      have npb := np.1
      have nrb := nr.1
      walk_at "rd"
      rename_i t1 H21 k21 B21 a1 a2 t2 H22 k22 B22 c1 c2 lq H23 n23 k23 e23 t3 H24 k24 B24 d1 d2
      have e24 := k24.at1 e23 (Bag.nn n23 B22).1
      refine rd_ixM (SqL.of e24) d1 (by simpa using d2) fun z hz => ?_
      obtain ⟨lost, rfl, l0⟩ : ∃ lost, z = .int lost ∧ 0 ≤ lost := by
        simp only [List.mem_cons, List.not_mem_nil, or_false] at hz
        rcases hz with rfl | rfl
        · exact ⟨_, rfl, a1⟩
        · exact ⟨_, rfl, c1⟩
      have k2024 : Kp [b] H20 H24 := ((k21.tr k22).tr0 k23).tr k24
      have R24 := R20.kb k2024 B20
      have er24 := k2024.at1 er20 nrb
      have ep24 := k2024.at1 ep20 npb
      have en24 := k2024.at1 en20 hnqb
      clear hz e24 k24 d1 d2 n23 k23 e23 k22 B22 k21 B21 R20 er20 ep20 en20
      walk_at "rd"
      refine rd_least cs R24 ep24 l0 fun t f v R H25 k25 nt nf et ef hlen hord hc hv => ?_
      have er25 := k25.at0 er24
      have ep25 := k25.at0 ep24
      have en25 := k25.at0 en24
      have B25 := B24.k0 k25
      have hfb : f ≠ b := (Bag.nn nf B24).1
      have htb : t ≠ b := (Bag.nn nt B24).1
      have k2025 : Kp [b] H20 H25 := k2024.tr0 k25
      clear R24 er24 ep24 en24 B24 k25 nt nf k2024
      walk_at "rd"
      refine ⟨b, l, p, gs, lost, rfl, B25, ep25, npb, by omega, l0, fun f2 zs H26 k26 B26 n26 e26 z1 z2 z3 => ?_⟩
      have er26 := k26.at1 er25 nrb
      have ep26 := k26.at1 ep25 npb
      have en26 := k26.at1 en25 hnqb
      have ef26 := k26.at1 ef hfb
      have k2026 : Kp [b] H20 H26 := k2025.tr k26
      clear er25 ep25 en25 ef B25 k26 et k2025
      walk_at "rd"
      refine rd_remaining ep26 e26 (by omega) fun f3 H27 k27 n27 e27 => ?_
      walk_at "rd"
      refine rd_cross cs (k27.at0 er26) e27 fun f4 H28 k28 n28 e28 => ?_
      have k2628 := k27.trans k28
      have er28 := k2628.at0 er26
      have ep28 := k2628.at0 ep26
      have en28 := k2628.at0 en26
      have ef28 := k2628.at0 ef26
      have B28 := B26.k0 k2628
      have k2028 : Kp [b] H20 H28 := k2026.tr0 k2628
      have h1 : v ≤ gi (crossL rs (remL gs zs) bound) gap := hv.2 zs (Int.le_trans (cntF_le zs gs 0) z3)
      have h2 : gi (crossL rs (remL gs zs) bound) gap ≤ full := by
        rw [← hfull']
        exact cOf_le cs zs
      have hvn : lost < 8 → v = gi nv lost := fun hl => by
        have := hVV lost.toNat (by omega)
        rw [show ((lost.toNat : Nat) : Int) = lost by omega] at this
        exact VV.inj hv this
      have hc' : gi (crossL rs (remL gs R) bound) gap = v := hc
      have hcl : (crossL rs (remL gs R) bound).length = rs.length := crossL_length _ _ _
      walk_at "rd"
      refine rd_ixI (SqL.of e28) gap0 (by rw [crossL_length]; exact cs.e1) ?_
      clear er26 ep26 en26 ef26 B26 k27 n27 e27 k28 n28 e28 k2628 k2026 n26 e26
      walk_at "rs"
      with_reducible refine rd_join (fun σ' H' => H' = H28 ∧ ∃ x12, σ' = [some (.ref p0), some (.ref b), some (.int gr), some (.int size), some (.ref r), some (.ref p), some (.ref o), some (.int bound), some (.int gap), some (.int full), some (.ref nq), some (.int lost), x12, some (.int v), some (.ref f), some (.ref f2), some (.int (gi (crossL rs (remL gs zs) bound) gap)), x17, x18]) ?_ ?_
      · rintro _ H29 ⟨e, x12, rfl⟩
        subst e
        walk_at "rd"
        refine rd_remaining ep28 ef28 (by omega) fun f5 H30 k30 n30 e30 => ?_
        walk_at "rd"
        refine rd_cross cs (k30.at0 er28) e30 fun f6 H31 k31 n31 e31 => ?_
        have k2931 := k30.trans k31
        have ef31 := k2931.at0 ef28
        have ep31 := k2931.at0 ep28
        walk_at "rd"
        refine rd_in_order ep31 ef31 (by omega) fun f8 H32 k32 n32 e32 => ?_
        have ef32 := k32.at0 ef31
        walk_at "rd"
        refine rd_ndF hord.symm ?_
        walk_at "rd"
        have kk := k2931.trans k32
        exact ⟨_, _, _, _, _, _, _, _, rfl, k20.tr (k2028.tr0 kk), B28.k0 kk⟩
      · intro N hN
        by_cases hl : lost < 8
        · have := hvn hl
          walk_at "rd"
          exact hN _ _ ⟨rfl, _, rfl⟩
        · walk_at "rd"
          exact hN _ _ ⟨rfl, _, rfl⟩
    · rintro _ H20 ⟨x11, x12, x13, x14, x15, x16, x17, x18, rfl, k20, B20⟩
      have R20 := R19.kb k20 B19
      have er20 := k20.at1 er19 nr.1
      have ep20 := k20.at1 ep19 np.1
      have en20 := k20.at1 en19 hnqb
      have npb := np.1
      have nrb := nr.1
      have f0 : 0 ≤ full := by
        rw [← hfull']
        exact cOf_nonneg cs []
      walk_at "rd"
      rename_i lq H21 n21 k21 e21
      have hlb := (Bag.nn n21 B20).1
      have R21 := R20.k0 k21
      have er21 := k21.at0 er20
      have ep21 := k21.at0 ep20
      have en21 := k21.at0 en20
      have B21 := B20.k0 k21
      clear R20 er20 ep20 en20 B20 n21 k21
      refine loopL (SqL.of e21) (fun i σ' H' => ∃ x18, σ' = [some (.ref p0), some (.ref b), some (.int gr), some (.int size), some (.ref r), some (.ref p), some (.ref o), some (.int bound), some (.int gap), some (.int full), some (.ref nq), x11, x12, x13, x14, x15, x16, x17, x18] ∧ Kp [b] H21 H' ∧ Bag H' b l) ⟨_, rfl, .refl, B21⟩ ?_ ?_ ?_
      · rintro i _ H22 hi ⟨x18, rfl, k22, B22⟩
        exact SqL.of (k22.at1 e21 hlb)
      · rintro i x _ H22 hi ⟨x18, rfl, k22, B22⟩
        obtain ⟨most, rfl, h0⟩ : ∃ most, x = .int most ∧ 0 ≤ most := by
          have hx := List.mem_of_getElem? hi
          simp only [List.mem_cons, List.not_mem_nil, or_false] at hx
          rcases hx with rfl | rfl | rfl | rfl
          · exact ⟨_, rfl, f0⟩
          · exact ⟨_, rfl, by split <;> omega⟩
          · exact ⟨_, rfl, by split <;> omega⟩
          · exact ⟨_, rfl, Int.le_refl 0⟩
        have er22 := k22.at1 er21 nrb
        have ep22 := k22.at1 ep21 npb
        have en22 := k22.at1 en21 hnqb
        walk_at "rd"
        rename_i tp H23 n23 k23 e23
        refine ⟨b, l, r, p, tp, nq, bound, gap, most, rs, gs, nv, rfl, B22.k0 k23, k23.at0 er22, k23.at0 ep22, e23, k23.at0 en22, nrb, npb, hnqb, cs, h0, hl8, hVV, fun H24 k24 B24 => ?_⟩
        walk_at "rd"
        exact ⟨_, rfl, (k22.tr0 k23).tr k24, B24⟩
      · rintro _ H22 ⟨x18, rfl, k22, B22⟩
        have R22 := R21.kb k22 B21
        have ep22 := k22.at1 ep21 npb
        walk_at "rd"
        refine rd_least cs R22 ep22 (by omega) fun t f v R H25 k25 nt nf et ef hlen hord hc hv => ?_
        have hv0 := VV.all cs hv
        walk_at "rd"
        rw [decide_eq_true hv0]
        exact q _⟩)

end
theorem all_mk {P : Program} {w : World} {K : PySem.W.Frag} {h : Heap} {mg : Str → Option Value} {fa : Addr} (X : K.In h) (G : h.Ns mainGlobals mg) (hfa : mg "law" = some (.ref fa))
    {C_SkippingThreads : Addr}
    {C_Ring : Addr}
    {f_SkippingThreads_init : Addr} {od_SkippingThreads_init an_SkippingThreads_init : Option Addr} {sl_SkippingThreads_init : Array (Option Value)} {oc_SkippingThreads_init kV_SkippingThreads_init dc_SkippingThreads_init pm_SkippingThreads_init cd_SkippingThreads_init ct_SkippingThreads_init : Value}
    {f_SkippingThreads_add_layer : Addr} {od_SkippingThreads_add_layer an_SkippingThreads_add_layer : Option Addr} {sl_SkippingThreads_add_layer : Array (Option Value)} {oc_SkippingThreads_add_layer kV_SkippingThreads_add_layer dc_SkippingThreads_add_layer pm_SkippingThreads_add_layer cd_SkippingThreads_add_layer ct_SkippingThreads_add_layer : Value}
    {f_SkippingThreads_best : Addr} {od_SkippingThreads_best an_SkippingThreads_best : Option Addr} {sl_SkippingThreads_best : Array (Option Value)} {oc_SkippingThreads_best kV_SkippingThreads_best dc_SkippingThreads_best pm_SkippingThreads_best cd_SkippingThreads_best ct_SkippingThreads_best : Value}
    {f_SkippingThreads_passed_over : Addr} {od_SkippingThreads_passed_over an_SkippingThreads_passed_over : Option Addr} {sl_SkippingThreads_passed_over : Array (Option Value)} {oc_SkippingThreads_passed_over kV_SkippingThreads_passed_over dc_SkippingThreads_passed_over pm_SkippingThreads_passed_over cd_SkippingThreads_passed_over ct_SkippingThreads_passed_over : Value}
    {f_offer : Addr} {od_offer an_offer : Option Addr} {sl_offer : Array (Option Value)} {oc_offer kV_offer dc_offer pm_offer cd_offer ct_offer : Value}
    {f_least : Addr} {od_least an_least : Option Addr} {sl_least : Array (Option Value)} {oc_least kV_least dc_least pm_least cd_least ct_least : Value}
    {f_needed : Addr} {od_needed an_needed : Option Addr} {sl_needed : Array (Option Value)} {oc_needed kV_needed dc_needed pm_needed cd_needed ct_needed : Value}
    {f_is_integer : Addr} {od_is_integer an_is_integer : Option Addr} {sl_is_integer : Array (Option Value)} {oc_is_integer kV_is_integer dc_is_integer pm_is_integer cd_is_integer ct_is_integer : Value}
    {f_is_between : Addr} {od_is_between an_is_between : Option Addr} {sl_is_between : Array (Option Value)} {oc_is_between kV_is_between dc_is_between pm_is_between cd_is_between ct_is_between : Value}
    {f_is_size : Addr} {od_is_size an_is_size : Option Addr} {sl_is_size : Array (Option Value)} {oc_is_size kV_is_size dc_is_size pm_is_size cd_is_size ct_is_size : Value}
    {f_Ring_init : Addr} {od_Ring_init an_Ring_init : Option Addr} {sl_Ring_init : Array (Option Value)} {oc_Ring_init kV_Ring_init dc_Ring_init pm_Ring_init cd_Ring_init ct_Ring_init : Value}
    {f_Ring_size : Addr} {od_Ring_size an_Ring_size : Option Addr} {sl_Ring_size : Array (Option Value)} {oc_Ring_size kV_Ring_size dc_Ring_size pm_Ring_size cd_Ring_size ct_Ring_size : Value}
    {p_Ring_size : Addr} {rs_Ring_size : List Value}
    {f_Ring_strong : Addr} {od_Ring_strong an_Ring_strong : Option Addr} {sl_Ring_strong : Array (Option Value)} {oc_Ring_strong kV_Ring_strong dc_Ring_strong pm_Ring_strong cd_Ring_strong ct_Ring_strong : Value}
    {f_Ring_up_to : Addr} {od_Ring_up_to an_Ring_up_to : Option Addr} {sl_Ring_up_to : Array (Option Value)} {oc_Ring_up_to kV_Ring_up_to dc_Ring_up_to pm_Ring_up_to cd_Ring_up_to ct_Ring_up_to : Value}
    {f_q_bag : Addr} {od_q_bag an_q_bag : Option Addr} {sl_q_bag : Array (Option Value)} {oc_q_bag kV_q_bag dc_q_bag pm_q_bag cd_q_bag ct_q_bag : Value}
    {f_q_take : Addr} {od_q_take an_q_take : Option Addr} {sl_q_take : Array (Option Value)} {oc_q_take kV_q_take dc_q_take pm_q_take cd_q_take ct_q_take : Value}
    {f_q_some_size : Addr} {od_q_some_size an_q_some_size : Option Addr} {sl_q_some_size : Array (Option Value)} {oc_q_some_size kV_q_some_size dc_q_some_size pm_q_some_size cd_q_some_size ct_q_some_size : Value}
    {f_q_ranks : Addr} {od_q_ranks an_q_ranks : Option Addr} {sl_q_ranks : Array (Option Value)} {oc_q_ranks kV_q_ranks dc_q_ranks pm_q_ranks cd_q_ranks ct_q_ranks : Value}
    {f_q_schedule : Addr} {od_q_schedule an_q_schedule : Option Addr} {sl_q_schedule : Array (Option Value)} {oc_q_schedule kV_q_schedule dc_q_schedule pm_q_schedule cd_q_schedule ct_q_schedule : Value}
    {f_q_standing : Addr} {od_q_standing an_q_standing : Option Addr} {sl_q_standing : Array (Option Value)} {oc_q_standing kV_q_standing dc_q_standing pm_q_standing cd_q_standing ct_q_standing : Value}
    {f_q_called : Addr} {od_q_called an_q_called : Option Addr} {sl_q_called : Array (Option Value)} {oc_q_called kV_q_called dc_q_called pm_q_called cd_q_called ct_q_called : Value}
    {f_q_some_bound : Addr} {od_q_some_bound an_q_some_bound : Option Addr} {sl_q_some_bound : Array (Option Value)} {oc_q_some_bound kV_q_some_bound dc_q_some_bound pm_q_some_bound cd_q_some_bound ct_q_some_bound : Value}
    {f_q_mixed : Addr} {od_q_mixed an_q_mixed : Option Addr} {sl_q_mixed : Array (Option Value)} {oc_q_mixed kV_q_mixed dc_q_mixed pm_q_mixed cd_q_mixed ct_q_mixed : Value}
    {f_q_crossings : Addr} {od_q_crossings an_q_crossings : Option Addr} {sl_q_crossings : Array (Option Value)} {oc_q_crossings kV_q_crossings dc_q_crossings pm_q_crossings cd_q_crossings ct_q_crossings : Value}
    {f_q_remaining : Addr} {od_q_remaining an_q_remaining : Option Addr} {sl_q_remaining : Array (Option Value)} {oc_q_remaining kV_q_remaining dc_q_remaining pm_q_remaining cd_q_remaining ct_q_remaining : Value}
    {f_q_drawn_loss : Addr} {od_q_drawn_loss an_q_drawn_loss : Option Addr} {sl_q_drawn_loss : Array (Option Value)} {oc_q_drawn_loss kV_q_drawn_loss dc_q_drawn_loss pm_q_drawn_loss cd_q_drawn_loss ct_q_drawn_loss : Value}
    {f_q_in_order : Addr} {od_q_in_order an_q_in_order : Option Addr} {sl_q_in_order : Array (Option Value)} {oc_q_in_order kV_q_in_order dc_q_in_order pm_q_in_order cd_q_in_order ct_q_in_order : Value}
    {f_q_needed_right : Addr} {od_q_needed_right an_q_needed_right : Option Addr} {sl_q_needed_right : Array (Option Value)} {oc_q_needed_right kV_q_needed_right dc_q_needed_right pm_q_needed_right cd_q_needed_right ct_q_needed_right : Value}
    {f_law : Addr} {od_law an_law : Option Addr} {sl_law : Array (Option Value)} {oc_law kV_law dc_law pm_law cd_law ct_law : Value}
    {t_MOST_PLACES : Tok}
    (a_CSkippingThreads : PySem.W.nsIn K mainGlobals "SkippingThreads" = some (some (.ref C_SkippingThreads)))
    (pg_SkippingThreads : PySem.W.plainGet K C_SkippingThreads Str.empty = true)
    (hd_SkippingThreads : PySem.W.hasDictIn K C_SkippingThreads = true)
    (po_SkippingThreads : PySem.W.plainOver K C_SkippingThreads = true)
    (sa_SkippingThreads : PySem.W.findIn K (.ref C_SkippingThreads) "__setattr__" = some (some (.builtin "object.__setattr__")))
    (kc_SkippingThreads : PySem.W.keepIn K (.ref C_SkippingThreads) = true)
    (a_CRing : PySem.W.nsIn K mainGlobals "Ring" = some (some (.ref C_Ring)))
    (pg_Ring : PySem.W.plainGet K C_Ring Str.empty = true)
    (hd_Ring : PySem.W.hasDictIn K C_Ring = true)
    (po_Ring : PySem.W.plainOver K C_Ring = true)
    (sa_Ring : PySem.W.findIn K (.ref C_Ring) "__setattr__" = some (some (.builtin "object.__setattr__")))
    (kc_Ring : PySem.W.keepIn K (.ref C_Ring) = true)
    (na_Ring_rank_list : PySem.W.findIn K (.ref C_Ring) "rank_list" = some none)
    (na_SkippingThreads_layers : PySem.W.findIn K (.ref C_SkippingThreads) "layers" = some none)
    (na_SkippingThreads_place_count : PySem.W.findIn K (.ref C_SkippingThreads) "place_count" = some none)
    (mk_SkippingThreads : PySem.W.makesIn K C_SkippingThreads = true)
    (a_SkippingThreads_init : PySem.W.findIn K (.ref C_SkippingThreads) "__init__" = some (some (.ref f_SkippingThreads_init)))
    (i_SkippingThreads_init : PySem.W.isFn K (.ref f_SkippingThreads_init) = true)
    (l_SkippingThreads_init : K.lookup f_SkippingThreads_init = some ⟨oc_SkippingThreads_init, od_SkippingThreads_init, .func (PySem.W.fnOf "__init__" "SkippingThreads.__init__" (defArgs s_SkippingThreads_init) (defBody s_SkippingThreads_init) (defScope s_SkippingThreads_init) .none kV_SkippingThreads_init dc_SkippingThreads_init pm_SkippingThreads_init an_SkippingThreads_init cd_SkippingThreads_init ct_SkippingThreads_init), sl_SkippingThreads_init⟩)
    (c_SkippingThreads_init : PySem.W.codeIn K cd_SkippingThreads_init "SkippingThreads.__init__" = true)
    (k_SkippingThreads_init : PySem.W.keepIn K (.ref f_SkippingThreads_init) = true)
    (a_SkippingThreads_add_layer : PySem.W.findIn K (.ref C_SkippingThreads) "add_layer" = some (some (.ref f_SkippingThreads_add_layer)))
    (i_SkippingThreads_add_layer : PySem.W.isFn K (.ref f_SkippingThreads_add_layer) = true)
    (l_SkippingThreads_add_layer : K.lookup f_SkippingThreads_add_layer = some ⟨oc_SkippingThreads_add_layer, od_SkippingThreads_add_layer, .func (PySem.W.fnOf "add_layer" "SkippingThreads.add_layer" (defArgs s_SkippingThreads_add_layer) (defBody s_SkippingThreads_add_layer) (defScope s_SkippingThreads_add_layer) .none kV_SkippingThreads_add_layer dc_SkippingThreads_add_layer pm_SkippingThreads_add_layer an_SkippingThreads_add_layer cd_SkippingThreads_add_layer ct_SkippingThreads_add_layer), sl_SkippingThreads_add_layer⟩)
    (c_SkippingThreads_add_layer : PySem.W.codeIn K cd_SkippingThreads_add_layer "SkippingThreads.add_layer" = true)
    (k_SkippingThreads_add_layer : PySem.W.keepIn K (.ref f_SkippingThreads_add_layer) = true)
    (a_SkippingThreads_best : PySem.W.findIn K (.ref C_SkippingThreads) "best" = some (some (.ref f_SkippingThreads_best)))
    (i_SkippingThreads_best : PySem.W.isFn K (.ref f_SkippingThreads_best) = true)
    (l_SkippingThreads_best : K.lookup f_SkippingThreads_best = some ⟨oc_SkippingThreads_best, od_SkippingThreads_best, .func (PySem.W.fnOf "best" "SkippingThreads.best" (defArgs s_SkippingThreads_best) (defBody s_SkippingThreads_best) (defScope s_SkippingThreads_best) .none kV_SkippingThreads_best dc_SkippingThreads_best pm_SkippingThreads_best an_SkippingThreads_best cd_SkippingThreads_best ct_SkippingThreads_best), sl_SkippingThreads_best⟩)
    (c_SkippingThreads_best : PySem.W.codeIn K cd_SkippingThreads_best "SkippingThreads.best" = true)
    (k_SkippingThreads_best : PySem.W.keepIn K (.ref f_SkippingThreads_best) = true)
    (a_SkippingThreads_passed_over : PySem.W.findIn K (.ref C_SkippingThreads) "passed_over" = some (some (.ref f_SkippingThreads_passed_over)))
    (i_SkippingThreads_passed_over : PySem.W.isFn K (.ref f_SkippingThreads_passed_over) = true)
    (l_SkippingThreads_passed_over : K.lookup f_SkippingThreads_passed_over = some ⟨oc_SkippingThreads_passed_over, od_SkippingThreads_passed_over, .func (PySem.W.fnOf "passed_over" "SkippingThreads.passed_over" (defArgs s_SkippingThreads_passed_over) (defBody s_SkippingThreads_passed_over) (defScope s_SkippingThreads_passed_over) .none kV_SkippingThreads_passed_over dc_SkippingThreads_passed_over pm_SkippingThreads_passed_over an_SkippingThreads_passed_over cd_SkippingThreads_passed_over ct_SkippingThreads_passed_over), sl_SkippingThreads_passed_over⟩)
    (c_SkippingThreads_passed_over : PySem.W.codeIn K cd_SkippingThreads_passed_over "SkippingThreads.passed_over" = true)
    (k_SkippingThreads_passed_over : PySem.W.keepIn K (.ref f_SkippingThreads_passed_over) = true)
    (a_offer : PySem.W.nsIn K mainGlobals "offer" = some (some (.ref f_offer)))
    (l_offer : K.lookup f_offer = some ⟨oc_offer, od_offer, .func (PySem.W.fnOf "offer" "offer" (defArgs s_offer) (defBody s_offer) (defScope s_offer) .none kV_offer dc_offer pm_offer an_offer cd_offer ct_offer), sl_offer⟩)
    (c_offer : PySem.W.codeIn K cd_offer "offer" = true)
    (k_offer : PySem.W.keepIn K (.ref f_offer) = true)
    (a_least : PySem.W.nsIn K mainGlobals "least" = some (some (.ref f_least)))
    (l_least : K.lookup f_least = some ⟨oc_least, od_least, .func (PySem.W.fnOf "least" "least" (defArgs s_least) (defBody s_least) (defScope s_least) .none kV_least dc_least pm_least an_least cd_least ct_least), sl_least⟩)
    (c_least : PySem.W.codeIn K cd_least "least" = true)
    (k_least : PySem.W.keepIn K (.ref f_least) = true)
    (a_needed : PySem.W.nsIn K mainGlobals "needed" = some (some (.ref f_needed)))
    (l_needed : K.lookup f_needed = some ⟨oc_needed, od_needed, .func (PySem.W.fnOf "needed" "needed" (defArgs s_needed) (defBody s_needed) (defScope s_needed) .none kV_needed dc_needed pm_needed an_needed cd_needed ct_needed), sl_needed⟩)
    (c_needed : PySem.W.codeIn K cd_needed "needed" = true)
    (k_needed : PySem.W.keepIn K (.ref f_needed) = true)
    (a_is_integer : PySem.W.nsIn K mainGlobals "is_integer" = some (some (.ref f_is_integer)))
    (l_is_integer : K.lookup f_is_integer = some ⟨oc_is_integer, od_is_integer, .func (PySem.W.fnOf "is_integer" "is_integer" (defArgs s_is_integer) (defBody s_is_integer) (defScope s_is_integer) .none kV_is_integer dc_is_integer pm_is_integer an_is_integer cd_is_integer ct_is_integer), sl_is_integer⟩)
    (c_is_integer : PySem.W.codeIn K cd_is_integer "is_integer" = true)
    (k_is_integer : PySem.W.keepIn K (.ref f_is_integer) = true)
    (a_is_between : PySem.W.nsIn K mainGlobals "is_between" = some (some (.ref f_is_between)))
    (l_is_between : K.lookup f_is_between = some ⟨oc_is_between, od_is_between, .func (PySem.W.fnOf "is_between" "is_between" (defArgs s_is_between) (defBody s_is_between) (defScope s_is_between) .none kV_is_between dc_is_between pm_is_between an_is_between cd_is_between ct_is_between), sl_is_between⟩)
    (c_is_between : PySem.W.codeIn K cd_is_between "is_between" = true)
    (k_is_between : PySem.W.keepIn K (.ref f_is_between) = true)
    (a_is_size : PySem.W.nsIn K mainGlobals "is_size" = some (some (.ref f_is_size)))
    (l_is_size : K.lookup f_is_size = some ⟨oc_is_size, od_is_size, .func (PySem.W.fnOf "is_size" "is_size" (defArgs s_is_size) (defBody s_is_size) (defScope s_is_size) .none kV_is_size dc_is_size pm_is_size an_is_size cd_is_size ct_is_size), sl_is_size⟩)
    (c_is_size : PySem.W.codeIn K cd_is_size "is_size" = true)
    (k_is_size : PySem.W.keepIn K (.ref f_is_size) = true)
    (mk_Ring : PySem.W.makesIn K C_Ring = true)
    (a_Ring_init : PySem.W.findIn K (.ref C_Ring) "__init__" = some (some (.ref f_Ring_init)))
    (i_Ring_init : PySem.W.isFn K (.ref f_Ring_init) = true)
    (l_Ring_init : K.lookup f_Ring_init = some ⟨oc_Ring_init, od_Ring_init, .func (PySem.W.fnOf "__init__" "Ring.__init__" (defArgs s_Ring_init) (defBody s_Ring_init) (defScope s_Ring_init) .none kV_Ring_init dc_Ring_init pm_Ring_init an_Ring_init cd_Ring_init ct_Ring_init), sl_Ring_init⟩)
    (c_Ring_init : PySem.W.codeIn K cd_Ring_init "Ring.__init__" = true)
    (k_Ring_init : PySem.W.keepIn K (.ref f_Ring_init) = true)
    (a_Ring_size : PySem.W.findIn K (.ref C_Ring) "size" = some (some (.ref p_Ring_size)))
    (x_Ring_size : PySem.W.specialIn K (.ref p_Ring_size) "__get__" = some (some (.builtin "property.__get__")))
    (y_Ring_size : PySem.W.takesIn K (.ref p_Ring_size) = some true)
    (z_Ring_size : PySem.W.recIn K p_Ring_size "property" = some (.ref f_Ring_size :: rs_Ring_size))
    (l_Ring_size : K.lookup f_Ring_size = some ⟨oc_Ring_size, od_Ring_size, .func (PySem.W.fnOf "size" "Ring.size" (defArgs s_Ring_size) (defBody s_Ring_size) (defScope s_Ring_size) .none kV_Ring_size dc_Ring_size pm_Ring_size an_Ring_size cd_Ring_size ct_Ring_size), sl_Ring_size⟩)
    (c_Ring_size : PySem.W.codeIn K cd_Ring_size "Ring.size" = true)
    (k_Ring_size : PySem.W.keepIn K (.ref f_Ring_size) = true)
    (a_Ring_strong : PySem.W.findIn K (.ref C_Ring) "strong" = some (some (.ref f_Ring_strong)))
    (i_Ring_strong : PySem.W.isFn K (.ref f_Ring_strong) = true)
    (l_Ring_strong : K.lookup f_Ring_strong = some ⟨oc_Ring_strong, od_Ring_strong, .func (PySem.W.fnOf "strong" "Ring.strong" (defArgs s_Ring_strong) (defBody s_Ring_strong) (defScope s_Ring_strong) .none kV_Ring_strong dc_Ring_strong pm_Ring_strong an_Ring_strong cd_Ring_strong ct_Ring_strong), sl_Ring_strong⟩)
    (c_Ring_strong : PySem.W.codeIn K cd_Ring_strong "Ring.strong" = true)
    (k_Ring_strong : PySem.W.keepIn K (.ref f_Ring_strong) = true)
    (a_Ring_up_to : PySem.W.findIn K (.ref C_Ring) "up_to" = some (some (.ref f_Ring_up_to)))
    (i_Ring_up_to : PySem.W.isFn K (.ref f_Ring_up_to) = true)
    (l_Ring_up_to : K.lookup f_Ring_up_to = some ⟨oc_Ring_up_to, od_Ring_up_to, .func (PySem.W.fnOf "up_to" "Ring.up_to" (defArgs s_Ring_up_to) (defBody s_Ring_up_to) (defScope s_Ring_up_to) .none kV_Ring_up_to dc_Ring_up_to pm_Ring_up_to an_Ring_up_to cd_Ring_up_to ct_Ring_up_to), sl_Ring_up_to⟩)
    (c_Ring_up_to : PySem.W.codeIn K cd_Ring_up_to "Ring.up_to" = true)
    (k_Ring_up_to : PySem.W.keepIn K (.ref f_Ring_up_to) = true)
    (a_q_bag : PySem.W.nsIn K mainGlobals "_law_bag" = some (some (.ref f_q_bag)))
    (l_q_bag : K.lookup f_q_bag = some ⟨oc_q_bag, od_q_bag, .func (PySem.W.fnOf "_law_bag" "_law_bag" (defArgs s_q_bag) (defBody s_q_bag) (defScope s_q_bag) .none kV_q_bag dc_q_bag pm_q_bag an_q_bag cd_q_bag ct_q_bag), sl_q_bag⟩)
    (c_q_bag : PySem.W.codeIn K cd_q_bag "_law_bag" = true)
    (k_q_bag : PySem.W.keepIn K (.ref f_q_bag) = true)
    (a_q_take : PySem.W.nsIn K mainGlobals "_law_take" = some (some (.ref f_q_take)))
    (l_q_take : K.lookup f_q_take = some ⟨oc_q_take, od_q_take, .func (PySem.W.fnOf "_law_take" "_law_take" (defArgs s_q_take) (defBody s_q_take) (defScope s_q_take) .none kV_q_take dc_q_take pm_q_take an_q_take cd_q_take ct_q_take), sl_q_take⟩)
    (c_q_take : PySem.W.codeIn K cd_q_take "_law_take" = true)
    (k_q_take : PySem.W.keepIn K (.ref f_q_take) = true)
    (a_q_some_size : PySem.W.nsIn K mainGlobals "_law_some_size" = some (some (.ref f_q_some_size)))
    (l_q_some_size : K.lookup f_q_some_size = some ⟨oc_q_some_size, od_q_some_size, .func (PySem.W.fnOf "_law_some_size" "_law_some_size" (defArgs s_q_some_size) (defBody s_q_some_size) (defScope s_q_some_size) .none kV_q_some_size dc_q_some_size pm_q_some_size an_q_some_size cd_q_some_size ct_q_some_size), sl_q_some_size⟩)
    (c_q_some_size : PySem.W.codeIn K cd_q_some_size "_law_some_size" = true)
    (k_q_some_size : PySem.W.keepIn K (.ref f_q_some_size) = true)
    (a_q_ranks : PySem.W.nsIn K mainGlobals "_law_ranks" = some (some (.ref f_q_ranks)))
    (l_q_ranks : K.lookup f_q_ranks = some ⟨oc_q_ranks, od_q_ranks, .func (PySem.W.fnOf "_law_ranks" "_law_ranks" (defArgs s_q_ranks) (defBody s_q_ranks) (defScope s_q_ranks) .none kV_q_ranks dc_q_ranks pm_q_ranks an_q_ranks cd_q_ranks ct_q_ranks), sl_q_ranks⟩)
    (c_q_ranks : PySem.W.codeIn K cd_q_ranks "_law_ranks" = true)
    (k_q_ranks : PySem.W.keepIn K (.ref f_q_ranks) = true)
    (a_q_schedule : PySem.W.nsIn K mainGlobals "_law_schedule" = some (some (.ref f_q_schedule)))
    (l_q_schedule : K.lookup f_q_schedule = some ⟨oc_q_schedule, od_q_schedule, .func (PySem.W.fnOf "_law_schedule" "_law_schedule" (defArgs s_q_schedule) (defBody s_q_schedule) (defScope s_q_schedule) .none kV_q_schedule dc_q_schedule pm_q_schedule an_q_schedule cd_q_schedule ct_q_schedule), sl_q_schedule⟩)
    (c_q_schedule : PySem.W.codeIn K cd_q_schedule "_law_schedule" = true)
    (k_q_schedule : PySem.W.keepIn K (.ref f_q_schedule) = true)
    (a_q_standing : PySem.W.nsIn K mainGlobals "_law_standing" = some (some (.ref f_q_standing)))
    (l_q_standing : K.lookup f_q_standing = some ⟨oc_q_standing, od_q_standing, .func (PySem.W.fnOf "_law_standing" "_law_standing" (defArgs s_q_standing) (defBody s_q_standing) (defScope s_q_standing) .none kV_q_standing dc_q_standing pm_q_standing an_q_standing cd_q_standing ct_q_standing), sl_q_standing⟩)
    (c_q_standing : PySem.W.codeIn K cd_q_standing "_law_standing" = true)
    (k_q_standing : PySem.W.keepIn K (.ref f_q_standing) = true)
    (a_q_called : PySem.W.nsIn K mainGlobals "_law_called" = some (some (.ref f_q_called)))
    (l_q_called : K.lookup f_q_called = some ⟨oc_q_called, od_q_called, .func (PySem.W.fnOf "_law_called" "_law_called" (defArgs s_q_called) (defBody s_q_called) (defScope s_q_called) .none kV_q_called dc_q_called pm_q_called an_q_called cd_q_called ct_q_called), sl_q_called⟩)
    (c_q_called : PySem.W.codeIn K cd_q_called "_law_called" = true)
    (k_q_called : PySem.W.keepIn K (.ref f_q_called) = true)
    (a_q_some_bound : PySem.W.nsIn K mainGlobals "_law_some_bound" = some (some (.ref f_q_some_bound)))
    (l_q_some_bound : K.lookup f_q_some_bound = some ⟨oc_q_some_bound, od_q_some_bound, .func (PySem.W.fnOf "_law_some_bound" "_law_some_bound" (defArgs s_q_some_bound) (defBody s_q_some_bound) (defScope s_q_some_bound) .none kV_q_some_bound dc_q_some_bound pm_q_some_bound an_q_some_bound cd_q_some_bound ct_q_some_bound), sl_q_some_bound⟩)
    (c_q_some_bound : PySem.W.codeIn K cd_q_some_bound "_law_some_bound" = true)
    (k_q_some_bound : PySem.W.keepIn K (.ref f_q_some_bound) = true)
    (a_q_mixed : PySem.W.nsIn K mainGlobals "_law_mixed" = some (some (.ref f_q_mixed)))
    (l_q_mixed : K.lookup f_q_mixed = some ⟨oc_q_mixed, od_q_mixed, .func (PySem.W.fnOf "_law_mixed" "_law_mixed" (defArgs s_q_mixed) (defBody s_q_mixed) (defScope s_q_mixed) .none kV_q_mixed dc_q_mixed pm_q_mixed an_q_mixed cd_q_mixed ct_q_mixed), sl_q_mixed⟩)
    (c_q_mixed : PySem.W.codeIn K cd_q_mixed "_law_mixed" = true)
    (k_q_mixed : PySem.W.keepIn K (.ref f_q_mixed) = true)
    (a_q_crossings : PySem.W.nsIn K mainGlobals "_law_crossings" = some (some (.ref f_q_crossings)))
    (l_q_crossings : K.lookup f_q_crossings = some ⟨oc_q_crossings, od_q_crossings, .func (PySem.W.fnOf "_law_crossings" "_law_crossings" (defArgs s_q_crossings) (defBody s_q_crossings) (defScope s_q_crossings) .none kV_q_crossings dc_q_crossings pm_q_crossings an_q_crossings cd_q_crossings ct_q_crossings), sl_q_crossings⟩)
    (c_q_crossings : PySem.W.codeIn K cd_q_crossings "_law_crossings" = true)
    (k_q_crossings : PySem.W.keepIn K (.ref f_q_crossings) = true)
    (a_q_remaining : PySem.W.nsIn K mainGlobals "_law_remaining" = some (some (.ref f_q_remaining)))
    (l_q_remaining : K.lookup f_q_remaining = some ⟨oc_q_remaining, od_q_remaining, .func (PySem.W.fnOf "_law_remaining" "_law_remaining" (defArgs s_q_remaining) (defBody s_q_remaining) (defScope s_q_remaining) .none kV_q_remaining dc_q_remaining pm_q_remaining an_q_remaining cd_q_remaining ct_q_remaining), sl_q_remaining⟩)
    (c_q_remaining : PySem.W.codeIn K cd_q_remaining "_law_remaining" = true)
    (k_q_remaining : PySem.W.keepIn K (.ref f_q_remaining) = true)
    (a_q_drawn_loss : PySem.W.nsIn K mainGlobals "_law_drawn_loss" = some (some (.ref f_q_drawn_loss)))
    (l_q_drawn_loss : K.lookup f_q_drawn_loss = some ⟨oc_q_drawn_loss, od_q_drawn_loss, .func (PySem.W.fnOf "_law_drawn_loss" "_law_drawn_loss" (defArgs s_q_drawn_loss) (defBody s_q_drawn_loss) (defScope s_q_drawn_loss) .none kV_q_drawn_loss dc_q_drawn_loss pm_q_drawn_loss an_q_drawn_loss cd_q_drawn_loss ct_q_drawn_loss), sl_q_drawn_loss⟩)
    (c_q_drawn_loss : PySem.W.codeIn K cd_q_drawn_loss "_law_drawn_loss" = true)
    (k_q_drawn_loss : PySem.W.keepIn K (.ref f_q_drawn_loss) = true)
    (a_q_in_order : PySem.W.nsIn K mainGlobals "_law_in_order" = some (some (.ref f_q_in_order)))
    (l_q_in_order : K.lookup f_q_in_order = some ⟨oc_q_in_order, od_q_in_order, .func (PySem.W.fnOf "_law_in_order" "_law_in_order" (defArgs s_q_in_order) (defBody s_q_in_order) (defScope s_q_in_order) .none kV_q_in_order dc_q_in_order pm_q_in_order an_q_in_order cd_q_in_order ct_q_in_order), sl_q_in_order⟩)
    (c_q_in_order : PySem.W.codeIn K cd_q_in_order "_law_in_order" = true)
    (k_q_in_order : PySem.W.keepIn K (.ref f_q_in_order) = true)
    (a_q_needed_right : PySem.W.nsIn K mainGlobals "_law_needed_right" = some (some (.ref f_q_needed_right)))
    (l_q_needed_right : K.lookup f_q_needed_right = some ⟨oc_q_needed_right, od_q_needed_right, .func (PySem.W.fnOf "_law_needed_right" "_law_needed_right" (defArgs s_q_needed_right) (defBody s_q_needed_right) (defScope s_q_needed_right) .none kV_q_needed_right dc_q_needed_right pm_q_needed_right an_q_needed_right cd_q_needed_right ct_q_needed_right), sl_q_needed_right⟩)
    (c_q_needed_right : PySem.W.codeIn K cd_q_needed_right "_law_needed_right" = true)
    (k_q_needed_right : PySem.W.keepIn K (.ref f_q_needed_right) = true)
    (a_law : PySem.W.nsIn K mainGlobals "law" = some (some (.ref f_law)))
    (l_law : K.lookup f_law = some ⟨oc_law, od_law, .func (PySem.W.fnOf "law" "law" (defArgs s_law) (defBody s_law) (defScope s_law) .none kV_law dc_law pm_law an_law cd_law ct_law), sl_law⟩)
    (c_law : PySem.W.codeIn K cd_law "law" = true)
    (k_law : PySem.W.keepIn K (.ref f_law) = true)
    (c_MOST_PLACES : PySem.W.nsIn K mainGlobals "MOST_PLACES" = some (some (.int 12 t_MOST_PLACES)))
    (m_abs : PySem.W.nsIn K mainGlobals "abs" = some none)
    (m_all : PySem.W.nsIn K mainGlobals "all" = some none)
    (m_bool : PySem.W.nsIn K mainGlobals "bool" = some none)
    (m_divmod : PySem.W.nsIn K mainGlobals "divmod" = some none)
    (m_enumerate : PySem.W.nsIn K mainGlobals "enumerate" = some none)
    (m_int : PySem.W.nsIn K mainGlobals "int" = some none)
    (m_isinstance : PySem.W.nsIn K mainGlobals "isinstance" = some none)
    (m_len : PySem.W.nsIn K mainGlobals "len" = some none)
    (m_list : PySem.W.nsIn K mainGlobals "list" = some none)
    (m_max : PySem.W.nsIn K mainGlobals "max" = some none)
    (m_min : PySem.W.nsIn K mainGlobals "min" = some none)
    (m_range : PySem.W.nsIn K mainGlobals "range" = some none)
    (m_reversed : PySem.W.nsIn K mainGlobals "reversed" = some none)
    (m_sorted : PySem.W.nsIn K mainGlobals "sorted" = some none) :
    ∃ fd : FuncData, (∀ (s : Shared) (v : Value), BindsTo s fd ⟨[v], []⟩ [("_law_script", v)]) ∧ ∀ base : Heap, K.In base → base.Ns mainGlobals mg → FnOkG P w K mg base CX0 7 fa fd ["_law_script"] (sp_law K) := by
  obtain rfl : f_law = fa := by
    have e := (PySem.W.mg_of X G a_law).symm.trans hfa
    cases e
    rfl
  have F_SkippingThreads_init := fun_mk (st := s_SkippingThreads_init) l_SkippingThreads_init c_SkippingThreads_init k_SkippingThreads_init
  have b_SkippingThreads_init := F_SkippingThreads_init.binds (ps := ["self", "size", "schedule", "end", "most"]) fun _ _ _ _ _ _ us hl => match us, hl with | [_, _, _, _, _], _ => rfl
  have F_SkippingThreads_add_layer := fun_mk (st := s_SkippingThreads_add_layer) l_SkippingThreads_add_layer c_SkippingThreads_add_layer k_SkippingThreads_add_layer
  have b_SkippingThreads_add_layer := F_SkippingThreads_add_layer.binds (ps := ["self", "gap", "most"]) fun _ _ _ _ _ _ us hl => match us, hl with | [_, _, _], _ => rfl
  have F_SkippingThreads_best := fun_mk (st := s_SkippingThreads_best) l_SkippingThreads_best c_SkippingThreads_best k_SkippingThreads_best
  have b_SkippingThreads_best := F_SkippingThreads_best.binds (ps := ["self", "ring", "bound"]) fun _ _ _ _ _ _ us hl => match us, hl with | [_, _, _], _ => rfl
  have F_SkippingThreads_passed_over := fun_mk (st := s_SkippingThreads_passed_over) l_SkippingThreads_passed_over c_SkippingThreads_passed_over k_SkippingThreads_passed_over
  have b_SkippingThreads_passed_over := F_SkippingThreads_passed_over.binds (ps := ["self", "pair"]) fun _ _ _ _ _ _ us hl => match us, hl with | [_, _], _ => rfl
  have F_offer := fun_mk (st := s_offer) l_offer c_offer k_offer
  have b_offer := F_offer.binds (ps := ["layer", "pair", "price", "following", "skipped"]) fun _ _ _ _ _ _ us hl => match us, hl with | [_, _, _, _, _], _ => rfl
  have F_least := fun_mk (st := s_least) l_least c_least k_least
  have b_least := F_least.binds (ps := ["ring", "schedule", "bound", "gap", "lost"]) fun _ _ _ _ _ _ us hl => match us, hl with | [_, _, _, _, _], _ => rfl
  have F_needed := fun_mk (st := s_needed) l_needed c_needed k_needed
  have b_needed := F_needed.binds (ps := ["ring", "schedule", "bound", "gap", "most"]) fun _ _ _ _ _ _ us hl => match us, hl with | [_, _, _, _, _], _ => rfl
  have F_is_integer := fun_mk (st := s_is_integer) l_is_integer c_is_integer k_is_integer
  have b_is_integer := F_is_integer.binds (ps := ["thing"]) fun _ _ _ _ _ _ us hl => match us, hl with | [_], _ => rfl
  have F_is_between := fun_mk (st := s_is_between) l_is_between c_is_between k_is_between
  have b_is_between := F_is_between.binds (ps := ["thing", "least", "most"]) fun _ _ _ _ _ _ us hl => match us, hl with | [_, _, _], _ => rfl
  have F_is_size := fun_mk (st := s_is_size) l_is_size c_is_size k_is_size
  have b_is_size := F_is_size.binds (ps := ["thing"]) fun _ _ _ _ _ _ us hl => match us, hl with | [_], _ => rfl
  have F_Ring_init := fun_mk (st := s_Ring_init) l_Ring_init c_Ring_init k_Ring_init
  have b_Ring_init := F_Ring_init.binds (ps := ["self", "ranks"]) fun _ _ _ _ _ _ us hl => match us, hl with | [_, _], _ => rfl
  have F_Ring_size := fun_mk (st := s_Ring_size) l_Ring_size c_Ring_size k_Ring_size
  have b_Ring_size := F_Ring_size.binds (ps := ["self"]) fun _ _ _ _ _ _ us hl => match us, hl with | [_], _ => rfl
  have F_Ring_strong := fun_mk (st := s_Ring_strong) l_Ring_strong c_Ring_strong k_Ring_strong
  have b_Ring_strong := F_Ring_strong.binds (ps := ["self", "bound"]) fun _ _ _ _ _ _ us hl => match us, hl with | [_, _], _ => rfl
  have F_Ring_up_to := fun_mk (st := s_Ring_up_to) l_Ring_up_to c_Ring_up_to k_Ring_up_to
  have b_Ring_up_to := F_Ring_up_to.binds (ps := ["self", "bound", "gap"]) fun _ _ _ _ _ _ us hl => match us, hl with | [_, _, _], _ => rfl
  have F_q_bag := fun_mk (st := s_q_bag) l_q_bag c_q_bag k_q_bag
  have b_q_bag := F_q_bag.binds (ps := ["_law_script"]) fun _ _ _ _ _ _ us hl => match us, hl with | [_], _ => rfl
  have F_q_take := fun_mk (st := s_q_take) l_q_take c_q_take k_q_take
  have b_q_take := F_q_take.binds (ps := ["_law_bag_here", "_law_many"]) fun _ _ _ _ _ _ us hl => match us, hl with | [_, _], _ => rfl
  have F_q_some_size := fun_mk (st := s_q_some_size) l_q_some_size c_q_some_size k_q_some_size
  have b_q_some_size := F_q_some_size.binds (ps := ["_law_bag_here", "_law_most"]) fun _ _ _ _ _ _ us hl => match us, hl with | [_, _], _ => rfl
  have F_q_ranks := fun_mk (st := s_q_ranks) l_q_ranks c_q_ranks k_q_ranks
  have b_q_ranks := F_q_ranks.binds (ps := ["_law_bag_here", "_law_size"]) fun _ _ _ _ _ _ us hl => match us, hl with | [_, _], _ => rfl
  have F_q_schedule := fun_mk (st := s_q_schedule) l_q_schedule c_q_schedule k_q_schedule
  have b_q_schedule := F_q_schedule.binds (ps := ["_law_bag_here", "_law_size", "_law_most"]) fun _ _ _ _ _ _ us hl => match us, hl with | [_, _, _], _ => rfl
  have F_q_standing := fun_mk (st := s_q_standing) l_q_standing c_q_standing k_q_standing
  have b_q_standing := F_q_standing.binds (ps := ["_law_size"]) fun _ _ _ _ _ _ us hl => match us, hl with | [_], _ => rfl
  have F_q_called := fun_mk (st := s_q_called) l_q_called c_q_called k_q_called
  have b_q_called := F_q_called.binds (ps := ["_law_ranks_here", "_law_there", "_law_gap"]) fun _ _ _ _ _ _ us hl => match us, hl with | [_, _, _], _ => rfl
  have F_q_some_bound := fun_mk (st := s_q_some_bound) l_q_some_bound c_q_some_bound k_q_some_bound
  have b_q_some_bound := F_q_some_bound.binds (ps := ["_law_bag_here", "_law_ranks_here"]) fun _ _ _ _ _ _ us hl => match us, hl with | [_, _], _ => rfl
  have F_q_mixed := fun_mk (st := s_q_mixed) l_q_mixed c_q_mixed k_q_mixed
  have b_q_mixed := F_q_mixed.binds (ps := ["_law_bag_here", "_law_things"]) fun _ _ _ _ _ _ us hl => match us, hl with | [_, _], _ => rfl
  have F_q_crossings := fun_mk (st := s_q_crossings) l_q_crossings c_q_crossings k_q_crossings
  have b_q_crossings := F_q_crossings.binds (ps := ["_law_ranks_here", "_law_schedule_here", "_law_bound"]) fun _ _ _ _ _ _ us hl => match us, hl with | [_, _, _], _ => rfl
  have F_q_remaining := fun_mk (st := s_q_remaining) l_q_remaining c_q_remaining k_q_remaining
  have b_q_remaining := F_q_remaining.binds (ps := ["_law_schedule_here", "_law_lost"]) fun _ _ _ _ _ _ us hl => match us, hl with | [_, _], _ => rfl
  have F_q_drawn_loss := fun_mk (st := s_q_drawn_loss) l_q_drawn_loss c_q_drawn_loss k_q_drawn_loss
  have b_q_drawn_loss := F_q_drawn_loss.binds (ps := ["_law_bag_here", "_law_schedule_here", "_law_many"]) fun _ _ _ _ _ _ us hl => match us, hl with | [_, _, _], _ => rfl
  have F_q_in_order := fun_mk (st := s_q_in_order) l_q_in_order c_q_in_order k_q_in_order
  have b_q_in_order := F_q_in_order.binds (ps := ["_law_schedule_here", "_law_indexes"]) fun _ _ _ _ _ _ us hl => match us, hl with | [_, _], _ => rfl
  have F_q_needed_right := fun_mk (st := s_q_needed_right) l_q_needed_right c_q_needed_right k_q_needed_right
  have b_q_needed_right := F_q_needed_right.binds (ps := ["_law_bag_here", "_law_ranks_here", "_law_schedule_here", "_law_case", "_law_numbers"]) fun _ _ _ _ _ _ us hl => match us, hl with | [_, _, _, _, _], _ => rfl
  have F_law := fun_mk (st := s_law) l_law c_law k_law
  have b_law := F_law.binds (ps := ["_law_script"]) fun _ _ _ _ _ _ us hl => match us, hl with | [_], _ => rfl
  let T : Txt K mg := {
    C_SkippingThreads := C_SkippingThreads,
    gC_SkippingThreads := PySem.W.mg_of X G a_CSkippingThreads,
    cl_SkippingThreads := ⟨pg_SkippingThreads, hd_SkippingThreads, po_SkippingThreads, sa_SkippingThreads⟩,
    C_Ring := C_Ring,
    gC_Ring := PySem.W.mg_of X G a_CRing,
    cl_Ring := ⟨pg_Ring, hd_Ring, po_Ring, sa_Ring⟩,
    na_Ring_rank_list := na_Ring_rank_list,
    na_SkippingThreads_layers := na_SkippingThreads_layers,
    na_SkippingThreads_place_count := na_SkippingThreads_place_count,
    f_SkippingThreads_init := f_SkippingThreads_init,
    mk_SkippingThreads := ⟨mk_SkippingThreads, a_SkippingThreads_init, i_SkippingThreads_init, kc_SkippingThreads⟩,
    d_SkippingThreads_init := _,
    F_SkippingThreads_init := F_SkippingThreads_init,
    b_SkippingThreads_init := b_SkippingThreads_init,
    f_SkippingThreads_add_layer := f_SkippingThreads_add_layer,
    me_SkippingThreads_add_layer := ⟨a_SkippingThreads_add_layer, i_SkippingThreads_add_layer, k_SkippingThreads_add_layer⟩,
    d_SkippingThreads_add_layer := _,
    F_SkippingThreads_add_layer := F_SkippingThreads_add_layer,
    b_SkippingThreads_add_layer := b_SkippingThreads_add_layer,
    f_SkippingThreads_best := f_SkippingThreads_best,
    me_SkippingThreads_best := ⟨a_SkippingThreads_best, i_SkippingThreads_best, k_SkippingThreads_best⟩,
    d_SkippingThreads_best := _,
    F_SkippingThreads_best := F_SkippingThreads_best,
    b_SkippingThreads_best := b_SkippingThreads_best,
    f_SkippingThreads_passed_over := f_SkippingThreads_passed_over,
    me_SkippingThreads_passed_over := ⟨a_SkippingThreads_passed_over, i_SkippingThreads_passed_over, k_SkippingThreads_passed_over⟩,
    d_SkippingThreads_passed_over := _,
    F_SkippingThreads_passed_over := F_SkippingThreads_passed_over,
    b_SkippingThreads_passed_over := b_SkippingThreads_passed_over,
    f_offer := f_offer,
    g_offer := PySem.W.mg_of X G a_offer,
    d_offer := _,
    F_offer := F_offer,
    b_offer := b_offer,
    f_least := f_least,
    g_least := PySem.W.mg_of X G a_least,
    d_least := _,
    F_least := F_least,
    b_least := b_least,
    f_needed := f_needed,
    g_needed := PySem.W.mg_of X G a_needed,
    d_needed := _,
    F_needed := F_needed,
    b_needed := b_needed,
    f_is_integer := f_is_integer,
    g_is_integer := PySem.W.mg_of X G a_is_integer,
    d_is_integer := _,
    F_is_integer := F_is_integer,
    b_is_integer := b_is_integer,
    f_is_between := f_is_between,
    g_is_between := PySem.W.mg_of X G a_is_between,
    d_is_between := _,
    F_is_between := F_is_between,
    b_is_between := b_is_between,
    f_is_size := f_is_size,
    g_is_size := PySem.W.mg_of X G a_is_size,
    d_is_size := _,
    F_is_size := F_is_size,
    b_is_size := b_is_size,
    f_Ring_init := f_Ring_init,
    mk_Ring := ⟨mk_Ring, a_Ring_init, i_Ring_init, kc_Ring⟩,
    d_Ring_init := _,
    F_Ring_init := F_Ring_init,
    b_Ring_init := b_Ring_init,
    f_Ring_size := f_Ring_size,
    p_Ring_size := p_Ring_size,
    pr_Ring_size := ⟨a_Ring_size, x_Ring_size, y_Ring_size, ⟨rs_Ring_size, z_Ring_size⟩⟩,
    d_Ring_size := _,
    F_Ring_size := F_Ring_size,
    b_Ring_size := b_Ring_size,
    f_Ring_strong := f_Ring_strong,
    me_Ring_strong := ⟨a_Ring_strong, i_Ring_strong, k_Ring_strong⟩,
    d_Ring_strong := _,
    F_Ring_strong := F_Ring_strong,
    b_Ring_strong := b_Ring_strong,
    f_Ring_up_to := f_Ring_up_to,
    me_Ring_up_to := ⟨a_Ring_up_to, i_Ring_up_to, k_Ring_up_to⟩,
    d_Ring_up_to := _,
    F_Ring_up_to := F_Ring_up_to,
    b_Ring_up_to := b_Ring_up_to,
    f_q_bag := f_q_bag,
    g_q_bag := PySem.W.mg_of X G a_q_bag,
    d_q_bag := _,
    F_q_bag := F_q_bag,
    b_q_bag := b_q_bag,
    f_q_take := f_q_take,
    g_q_take := PySem.W.mg_of X G a_q_take,
    d_q_take := _,
    F_q_take := F_q_take,
    b_q_take := b_q_take,
    f_q_some_size := f_q_some_size,
    g_q_some_size := PySem.W.mg_of X G a_q_some_size,
    d_q_some_size := _,
    F_q_some_size := F_q_some_size,
    b_q_some_size := b_q_some_size,
    f_q_ranks := f_q_ranks,
    g_q_ranks := PySem.W.mg_of X G a_q_ranks,
    d_q_ranks := _,
    F_q_ranks := F_q_ranks,
    b_q_ranks := b_q_ranks,
    f_q_schedule := f_q_schedule,
    g_q_schedule := PySem.W.mg_of X G a_q_schedule,
    d_q_schedule := _,
    F_q_schedule := F_q_schedule,
    b_q_schedule := b_q_schedule,
    f_q_standing := f_q_standing,
    g_q_standing := PySem.W.mg_of X G a_q_standing,
    d_q_standing := _,
    F_q_standing := F_q_standing,
    b_q_standing := b_q_standing,
    f_q_called := f_q_called,
    g_q_called := PySem.W.mg_of X G a_q_called,
    d_q_called := _,
    F_q_called := F_q_called,
    b_q_called := b_q_called,
    f_q_some_bound := f_q_some_bound,
    g_q_some_bound := PySem.W.mg_of X G a_q_some_bound,
    d_q_some_bound := _,
    F_q_some_bound := F_q_some_bound,
    b_q_some_bound := b_q_some_bound,
    f_q_mixed := f_q_mixed,
    g_q_mixed := PySem.W.mg_of X G a_q_mixed,
    d_q_mixed := _,
    F_q_mixed := F_q_mixed,
    b_q_mixed := b_q_mixed,
    f_q_crossings := f_q_crossings,
    g_q_crossings := PySem.W.mg_of X G a_q_crossings,
    d_q_crossings := _,
    F_q_crossings := F_q_crossings,
    b_q_crossings := b_q_crossings,
    f_q_remaining := f_q_remaining,
    g_q_remaining := PySem.W.mg_of X G a_q_remaining,
    d_q_remaining := _,
    F_q_remaining := F_q_remaining,
    b_q_remaining := b_q_remaining,
    f_q_drawn_loss := f_q_drawn_loss,
    g_q_drawn_loss := PySem.W.mg_of X G a_q_drawn_loss,
    d_q_drawn_loss := _,
    F_q_drawn_loss := F_q_drawn_loss,
    b_q_drawn_loss := b_q_drawn_loss,
    f_q_in_order := f_q_in_order,
    g_q_in_order := PySem.W.mg_of X G a_q_in_order,
    d_q_in_order := _,
    F_q_in_order := F_q_in_order,
    b_q_in_order := b_q_in_order,
    f_q_needed_right := f_q_needed_right,
    g_q_needed_right := PySem.W.mg_of X G a_q_needed_right,
    d_q_needed_right := _,
    F_q_needed_right := F_q_needed_right,
    b_q_needed_right := b_q_needed_right,
    f_law := f_law,
    g_law := PySem.W.mg_of X G a_law,
    d_law := _,
    F_law := F_law,
    b_law := b_law,
    t_MOST_PLACES := t_MOST_PLACES,
    c_MOST_PLACES := PySem.W.mg_of X G c_MOST_PLACES,
    m_abs := PySem.W.mg_none_of X G m_abs,
    m_all := PySem.W.mg_none_of X G m_all,
    m_bool := PySem.W.mg_none_of X G m_bool,
    m_divmod := PySem.W.mg_none_of X G m_divmod,
    m_enumerate := PySem.W.mg_none_of X G m_enumerate,
    m_int := PySem.W.mg_none_of X G m_int,
    m_isinstance := PySem.W.mg_none_of X G m_isinstance,
    m_len := PySem.W.mg_none_of X G m_len,
    m_list := PySem.W.mg_none_of X G m_list,
    m_max := PySem.W.mg_none_of X G m_max,
    m_min := PySem.W.mg_none_of X G m_min,
    m_range := PySem.W.mg_none_of X G m_range,
    m_reversed := PySem.W.mg_none_of X G m_reversed,
    m_sorted := PySem.W.mg_none_of X G m_sorted }
  exact ⟨T.d_law, fun s v => .of_eq rfl, fun base _ _ => FnOkG.of (ok_law T)⟩
end K69
open PySem PySem.W PyProof.Rows
set_option maxHeartbeats 0 in
theorem PySem.Challenge.cw_ringcalls_k69_whole_losses_of_long_sched_holds : PySem.Challenge.rw_ringcalls_k69_whole_losses_of_long_sched.Holds := by
  w_on; o_law; k_head; (case hw => w_witness2)
  k_fill
  refine Rc.walkG (l := PySem.Challenge.rw_ringcalls_k69_whole_losses_of_long_sched) (n := 63) (k := 7) (x := "_law_script") (sp := fun K => K69.sp_law K) rfl (by decide) rfl ⟨rfl, by decide, by decide⟩ (fun w h Y => PySem.W.kIn_of Y) ?F (fun K H a ns hl _ hS => K69.law_start hS hl)
  case F =>
    intro w mg fa h KX G hmg
    refine' K69.all_mk KX G hmg ?a_CSkippingThreads ?pg_SkippingThreads ?hd_SkippingThreads ?po_SkippingThreads ?sa_SkippingThreads ?kc_SkippingThreads ?a_CRing ?pg_Ring ?hd_Ring ?po_Ring ?sa_Ring ?kc_Ring ?na_Ring_rank_list ?na_SkippingThreads_layers ?na_SkippingThreads_place_count ?mk_SkippingThreads ?a_SkippingThreads_init ?i_SkippingThreads_init ?l_SkippingThreads_init ?c_SkippingThreads_init ?k_SkippingThreads_init ?a_SkippingThreads_add_layer ?i_SkippingThreads_add_layer ?l_SkippingThreads_add_layer ?c_SkippingThreads_add_layer ?k_SkippingThreads_add_layer ?a_SkippingThreads_best ?i_SkippingThreads_best ?l_SkippingThreads_best ?c_SkippingThreads_best ?k_SkippingThreads_best ?a_SkippingThreads_passed_over ?i_SkippingThreads_passed_over ?l_SkippingThreads_passed_over ?c_SkippingThreads_passed_over ?k_SkippingThreads_passed_over ?a_offer ?l_offer ?c_offer ?k_offer ?a_least ?l_least ?c_least ?k_least ?a_needed ?l_needed ?c_needed ?k_needed ?a_is_integer ?l_is_integer ?c_is_integer ?k_is_integer ?a_is_between ?l_is_between ?c_is_between ?k_is_between ?a_is_size ?l_is_size ?c_is_size ?k_is_size ?mk_Ring ?a_Ring_init ?i_Ring_init ?l_Ring_init ?c_Ring_init ?k_Ring_init ?a_Ring_size ?x_Ring_size ?y_Ring_size ?z_Ring_size ?l_Ring_size ?c_Ring_size ?k_Ring_size ?a_Ring_strong ?i_Ring_strong ?l_Ring_strong ?c_Ring_strong ?k_Ring_strong ?a_Ring_up_to ?i_Ring_up_to ?l_Ring_up_to ?c_Ring_up_to ?k_Ring_up_to ?a_q_bag ?l_q_bag ?c_q_bag ?k_q_bag ?a_q_take ?l_q_take ?c_q_take ?k_q_take ?a_q_some_size ?l_q_some_size ?c_q_some_size ?k_q_some_size ?a_q_ranks ?l_q_ranks ?c_q_ranks ?k_q_ranks ?a_q_schedule ?l_q_schedule ?c_q_schedule ?k_q_schedule ?a_q_standing ?l_q_standing ?c_q_standing ?k_q_standing ?a_q_called ?l_q_called ?c_q_called ?k_q_called ?a_q_some_bound ?l_q_some_bound ?c_q_some_bound ?k_q_some_bound ?a_q_mixed ?l_q_mixed ?c_q_mixed ?k_q_mixed ?a_q_crossings ?l_q_crossings ?c_q_crossings ?k_q_crossings ?a_q_remaining ?l_q_remaining ?c_q_remaining ?k_q_remaining ?a_q_drawn_loss ?l_q_drawn_loss ?c_q_drawn_loss ?k_q_drawn_loss ?a_q_in_order ?l_q_in_order ?c_q_in_order ?k_q_in_order ?a_q_needed_right ?l_q_needed_right ?c_q_needed_right ?k_q_needed_right ?a_law ?l_law ?c_law ?k_law ?c_MOST_PLACES ?m_abs ?m_all ?m_bool ?m_divmod ?m_enumerate ?m_int ?m_isinstance ?m_len ?m_list ?m_max ?m_min ?m_range ?m_reversed ?m_sorted
    (case a_CSkippingThreads => k_is)
    (case pg_SkippingThreads => k_is)
    (case hd_SkippingThreads => k_is)
    (case po_SkippingThreads => k_is)
    (case sa_SkippingThreads => k_is)
    (case kc_SkippingThreads => k_is)
    (case a_CRing => k_is)
    (case pg_Ring => k_is)
    (case hd_Ring => k_is)
    (case po_Ring => k_is)
    (case sa_Ring => k_is)
    (case kc_Ring => k_is)
    (case na_Ring_rank_list => k_is)
    (case na_SkippingThreads_layers => k_is)
    (case na_SkippingThreads_place_count => k_is)
    (case mk_SkippingThreads => k_is)
    (case a_SkippingThreads_init => k_is)
    (case i_SkippingThreads_init => k_is)
    (case l_SkippingThreads_init => k_is)
    (case c_SkippingThreads_init => k_is)
    (case k_SkippingThreads_init => k_is)
    (case a_SkippingThreads_add_layer => k_is)
    (case i_SkippingThreads_add_layer => k_is)
    (case l_SkippingThreads_add_layer => k_is)
    (case c_SkippingThreads_add_layer => k_is)
    (case k_SkippingThreads_add_layer => k_is)
    (case a_SkippingThreads_best => k_is)
    (case i_SkippingThreads_best => k_is)
    (case l_SkippingThreads_best => k_is)
    (case c_SkippingThreads_best => k_is)
    (case k_SkippingThreads_best => k_is)
    (case a_SkippingThreads_passed_over => k_is)
    (case i_SkippingThreads_passed_over => k_is)
    (case l_SkippingThreads_passed_over => k_is)
    (case c_SkippingThreads_passed_over => k_is)
    (case k_SkippingThreads_passed_over => k_is)
    (case a_offer => k_is)
    (case l_offer => k_is)
    (case c_offer => k_is)
    (case k_offer => k_is)
    (case a_least => k_is)
    (case l_least => k_is)
    (case c_least => k_is)
    (case k_least => k_is)
    (case a_needed => k_is)
    (case l_needed => k_is)
    (case c_needed => k_is)
    (case k_needed => k_is)
    (case a_is_integer => k_is)
    (case l_is_integer => k_is)
    (case c_is_integer => k_is)
    (case k_is_integer => k_is)
    (case a_is_between => k_is)
    (case l_is_between => k_is)
    (case c_is_between => k_is)
    (case k_is_between => k_is)
    (case a_is_size => k_is)
    (case l_is_size => k_is)
    (case c_is_size => k_is)
    (case k_is_size => k_is)
    (case mk_Ring => k_is)
    (case a_Ring_init => k_is)
    (case i_Ring_init => k_is)
    (case l_Ring_init => k_is)
    (case c_Ring_init => k_is)
    (case k_Ring_init => k_is)
    (case a_Ring_size => k_is)
    (case x_Ring_size => k_is)
    (case y_Ring_size => k_is)
    (case z_Ring_size => k_is)
    (case l_Ring_size => k_is)
    (case c_Ring_size => k_is)
    (case k_Ring_size => k_is)
    (case a_Ring_strong => k_is)
    (case i_Ring_strong => k_is)
    (case l_Ring_strong => k_is)
    (case c_Ring_strong => k_is)
    (case k_Ring_strong => k_is)
    (case a_Ring_up_to => k_is)
    (case i_Ring_up_to => k_is)
    (case l_Ring_up_to => k_is)
    (case c_Ring_up_to => k_is)
    (case k_Ring_up_to => k_is)
    (case a_q_bag => k_is)
    (case l_q_bag => k_is)
    (case c_q_bag => k_is)
    (case k_q_bag => k_is)
    (case a_q_take => k_is)
    (case l_q_take => k_is)
    (case c_q_take => k_is)
    (case k_q_take => k_is)
    (case a_q_some_size => k_is)
    (case l_q_some_size => k_is)
    (case c_q_some_size => k_is)
    (case k_q_some_size => k_is)
    (case a_q_ranks => k_is)
    (case l_q_ranks => k_is)
    (case c_q_ranks => k_is)
    (case k_q_ranks => k_is)
    (case a_q_schedule => k_is)
    (case l_q_schedule => k_is)
    (case c_q_schedule => k_is)
    (case k_q_schedule => k_is)
    (case a_q_standing => k_is)
    (case l_q_standing => k_is)
    (case c_q_standing => k_is)
    (case k_q_standing => k_is)
    (case a_q_called => k_is)
    (case l_q_called => k_is)
    (case c_q_called => k_is)
    (case k_q_called => k_is)
    (case a_q_some_bound => k_is)
    (case l_q_some_bound => k_is)
    (case c_q_some_bound => k_is)
    (case k_q_some_bound => k_is)
    (case a_q_mixed => k_is)
    (case l_q_mixed => k_is)
    (case c_q_mixed => k_is)
    (case k_q_mixed => k_is)
    (case a_q_crossings => k_is)
    (case l_q_crossings => k_is)
    (case c_q_crossings => k_is)
    (case k_q_crossings => k_is)
    (case a_q_remaining => k_is)
    (case l_q_remaining => k_is)
    (case c_q_remaining => k_is)
    (case k_q_remaining => k_is)
    (case a_q_drawn_loss => k_is)
    (case l_q_drawn_loss => k_is)
    (case c_q_drawn_loss => k_is)
    (case k_q_drawn_loss => k_is)
    (case a_q_in_order => k_is)
    (case l_q_in_order => k_is)
    (case c_q_in_order => k_is)
    (case k_q_in_order => k_is)
    (case a_q_needed_right => k_is)
    (case l_q_needed_right => k_is)
    (case c_q_needed_right => k_is)
    (case k_q_needed_right => k_is)
    (case a_law => k_is)
    (case l_law => k_is)
    (case c_law => k_is)
    (case k_law => k_is)
    (case c_MOST_PLACES => k_is)
    (case m_abs => k_is)
    (case m_all => k_is)
    (case m_bool => k_is)
    (case m_divmod => k_is)
    (case m_enumerate => k_is)
    (case m_int => k_is)
    (case m_isinstance => k_is)
    (case m_len => k_is)
    (case m_list => k_is)
    (case m_max => k_is)
    (case m_min => k_is)
    (case m_range => k_is)
    (case m_reversed => k_is)
    (case m_sorted => k_is)
