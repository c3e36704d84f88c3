import PyProof.Rows.All
import Wide.All
import OpenK.AllK
import Wide.FinOn
import HandS.Lambda
import HandS.ExcIs
import HandS.ExcValue
import HandS.IsInst
import HandS.DictComp
import HandS.Dict
import KE.KDictPairs
import HandS.ForExc
import HandS.ForMost
import HandS.Deep
import HandS.TupAny
import HandS.TupMul
import HandS.Walk
import HandS.Zip
import HandS.Flow
import HandS.Style
import PyProof.ListMulRoad
import PyProof.FactsAll.tuple_2
import HandS.Defaults
import KE.GoesMore
import KE.GoesEnum
import KE.KNestM
import HandS.EndTab
import KE.KDictDisplayH
import KE.SortData
import HandS.Conv
import KE.KDictWalk
import HandS.Sort
import HandS.CallLocal
import PySem.Challenge.RW_manycaches_k04_searching
set_option Elab.async false
set_option linter.all false
set_option maxRecDepth 100000
set_option maxHeartbeats 4000000
/-! Ra: a caught error that a name keeps behind the clause. -/
namespace RX
open PySem PySem.Spec PyProof.Rows L2
/-- an error of the class cls, caught, at a -/
def ExR (cls : Value) (a : Addr) : HO := .ext fun h => ∃ (oe : Obj) (vs : Array Value), h.get? a = some oe ∧ Zc cls none oe ∧ oe.data = .fields vs
theorem exR_ok {P : Program} {w : World} {H : Hp} {h : Heap} {a : Addr} {cls : Value} {oe : Obj} {vs : Array Value} (e : h.get? a = some oe) (z : Zc cls none oe) (d : oe.data = .fields vs) : ObjOk P w H h a (ExR cls a) :=
  ⟨⟨oe, vs, e, z, d⟩, ⟨oe, e⟩, fun _ _ ⟨o, v, q, r⟩ k => ⟨o, v, k o q, r⟩⟩
section
variable {X : Cx} {pins : List (Addr × Obj)} {σ : L2.St} {H : Hp} {s : Shared}
/-- an object that stands, new since the entry, is tracked from now on -/
theorem track {a : Addr} {φ : Heap → Prop} (I : Inv X pins σ H s) (n0 : X.s_0.heap.get? a = none) (na : H a = none) (nL : a ≠ X.env.locals) (nc : ∀ x c, X.env.cells.lookup x = some c → c ≠ a) (np : ∀ p ∈ X.pn ++ pins, p.1 ≠ a) (new : ∀ H', ObjOk X.prog X.w H' s.heap a (.ext φ)) :
    Inv X pins σ (upd H a (.ext φ)) s := by
  have ne0 : ∀ b o, X.s_0.heap.get? b = some o → b ≠ a := fun b o e z => by
    rw [z, n0] at e
    cases e
  have neH : ∀ {b u}, H b = some u → b ≠ a := fun {b u} e z => by
    rw [z, na] at e
    cases e
  refine ⟨I.ok, I.os, I.bare, ⟨I.base.keep, I.base.slot, fun b o e n hx => ?_, I.base.there, fun b xs e => ?_, fun b o u e => ?_, fun b ps e => ?_⟩, I.loc, I.cell, ?_, fun x c e => ?_, fun p hp => ?_, fun b u e => ?_, I.len⟩
  · rw [upd_ne (ne0 b o e)]
    exact I.base.free b o e n hx
  · have q := I.base.tups b xs e
    rw [upd_ne (neH q)]
    exact q
  · have q := I.base.frzs b o u e
    rw [upd_ne (neH q)]
    exact q
  · obtain ⟨m, q⟩ := I.base.tbls b ps e
    exact ⟨m, by rw [upd_ne (neH q)]; exact q⟩
  · rw [upd_ne (Ne.symm nL)]
    exact I.free
  · rw [upd_ne (nc x c e)]
    exact I.freeC x c e
  · obtain ⟨e, n, ne, nf, d⟩ := I.pin p hp
    exact ⟨e, by rw [upd_ne (np p hp)]; exact n, ne, nf, d⟩
  · by_cases hb : b = a
    · subst hb
      rw [upd_same] at e
      cases e
      exact new _
    · rw [upd_ne hb] at e
      exact (I.hok b u e).stay (fun c v _ q => q) (fun c q => by rw [upd_ne (neH q)]; exact q) fun c xs q => by rw [upd_ne (neH q)]; exact q
end
/-- what 'except x as n: y = n' wishes of an exception of the body: slots i, j -/
def wRes (K : PySem.W.Frag) (c : Value) (i j n : Nat) (Wout : WX) (D : Ends) : WX := fun cls d σ H =>
  ∃ b, PySem.W.exmOne K cls c = some b ∧ (b = true → σ.length = n → d = none ∧ ∀ a, H a = none → D.nx (((σ.set i (some (.ref a))).set j (some (.ref a))).set i none) (upd H a (ExR cls a))) ∧ (b = false → Wout cls d σ H)
section
variable {X : Cx} {x n y : Str} {c : Value} {i j : Nat} {body : List Stmt} {np pos pos' p1 p2 p3 : Pos} {tb : WX → TS} {Wout : WX}
theorem ps_try_res (hs : X.stack = X.env :: X.outer) (hf : X.env.frame = some X.env.locals) (hx : X.ex = []) (hN : X.N.Nodup) (hi : X.N[i]? = some n) (hj : X.N[j]? = some y) (hln : X.env.kindOf n = some .local) (hly : X.env.scope.names.lookup y = some .local) (hlen : ∀ {σ : L2.St} {a : Addr}, σ.length = X.N.length → (σ.set i (some (V.ref a)))[i]? = some (some (V.ref a)))
    (hc : Names X x c) (tk : Takes X Wout) (hd : (n == ("__debug__" : Str)) = false) (hcd : (n == ("__classdict__" : Str)) = false)
    (hsw : swapsWith (.Name n p1) (some (.Name y p2)) p3.line X.env = pure false)
    (hb : ∀ (W : WX) (pn : List (Addr × Obj)) (xe : Value → Shared → Prop), Takes (X.tr pn xe) W → PassesOwn (model X.prog X.w) X.A X.env xe → PSs (X.tr pn xe) body (tb W)) :
    PS X (.Try body [.ExceptHandler (some (.Name x np)) (some n) [.Assign [.Name y p2] (.Name n p1) p3] pos'] [] [] pos) (fun D σ H => tb (wRes X.K c i j X.N.length Wout D) D σ H) := by
  refine ⟨fun pins s σ H D I h => ?_⟩
  have ok := I.ok
  have hfr : X.A.frames = some (X.env :: X.outer) := by rw [ok.frames, hs]
  have hloc : Loc X.env.scope n := .inl hln
  have hlocy : Loc X.env.scope y := .inl hly
  refine wpAny_Try_except ?_
  refine wpAny_mono ((hb (wRes X.K c i j X.N.length Wout D) (X.pn ++ pins) (fun e s₁ => wpAny (model X.prog X.w) X.A (noteFrame e X.env) (fun _ s₂ => wpAny (model X.prog X.w) X.A (setFlight e none) (fun _ s₃ =>
    wpAny (model X.prog X.w) X.A (handleBy e X.env [.ExceptHandler (some (.Name x np)) (some n) [.Assign [.Name y p2] (.Name n p1) p3] pos']) (SP X pins D) X.xe s₃) X.xe s₂) X.xe s₁) (fun u s' xx => ?_) PassesOwn.looking).run [] s σ H D (I.toTry _) h) (fun f s1 hsp => ?_) (fun e s1 he => he)
  · -- the catch
    obtain ⟨a, B, sI, pins', σ', H', cls, d, rfl, J', nb, up, sky, na, os, ag, b, hb1, hyes, hno⟩ := xx
    have J : Inv X pins σ' H' sI := J'.ofTry ok
    have sky' : Sky B (X.env :: X.outer) a (Zc cls d) X.env.locals s'.heap := by rw [← hs]; exact sky
    show wpAny (model X.prog X.w) X.A (noteFrame (.ref a) X.env) _ _ _
    refine Sky.land Zc.steady hfr hf sky' fun h3 fl3 up3 => ?_
    have J3 : Inv X pins σ' H' { s' with heap := h3 } := J.landed nb fl3.1 (up.trans up3) os ag
    obtain ⟨oe3, vs3, he3, hz3, hd3⟩ := fl3.there
    have notFr : ∀ {h : Heap} {o : Obj} {vs : Array Value}, h.FunFrames B (X.env :: X.outer) → h.get? a = some o → o.data = .fields vs → a ∉ frs (X.env :: X.outer) := fun {h o vs} ff e dd hm => by
      obtain ⟨_, o', e', hnf⟩ := ff.mem hm
      rw [e] at e'; cases e'
      exact hnf _ dd
    have nfr := notFr fl3.2.2.1 he3 hd3
    have nL : a ≠ X.env.locals := fun z => nfr (List.mem_filterMap.mpr ⟨X.env, List.mem_cons_self, by rw [hf, z]⟩)
    have nF : a ∉ X.fs := fun hm => by
      obtain ⟨e, he, q⟩ := List.mem_filterMap.mp hm
      exact nfr (List.mem_filterMap.mpr ⟨e, List.mem_cons_of_mem _ he, q⟩)
    have nI : sI.heap.get? a = none := by
      cases q : sI.heap.get? a with
      | none => rfl
      | some o =>
        have z := nb a o q (by rw [hs]; exact nfr)
        rw [fl3.2.1] at z
        cases z
    have n0 : X.s_0.heap.get? a = none := by
      cases q : X.s_0.heap.get? a with
      | none => rfl
      | some o =>
        obtain ⟨o', z⟩ := J.base.there a o q (by rw [hx]; exact fun z => nomatch z)
        rw [nI] at z
        cases z
    have nc : ∀ x c, X.env.cells.lookup x = some c → c ≠ a := fun x c e z => by
      obtain ⟨v, o, ho, _⟩ := J.cell x c e
      rw [z, nI] at ho
      cases ho
    have npin : ∀ p ∈ X.pn ++ pins, p.1 ≠ a := fun p hp z => by
      obtain ⟨e, _⟩ := J.pin p hp
      rw [z, nI] at e
      cases e
    have S3 := J3.suite he3 hd3 na nL nF
    refine wpAny_handleBy_cons (codeAny_handlers_test ?_) (by intro q; cases q)
    have LT : PySem.W.Looks (model X.prog X.w) h3 (typeOf (.ref a)) cls := fun A Q E s k q => wpAny_typeOf_ref (k _ _ he3) (by rw [hz3.1]; exact q)
    have LM := PySem.W.exm_one (M := model X.prog X.w) (J3.kIn) LT hb1
    have test : ∀ {Q : Value → Shared → Prop} {E : Value → Shared → Prop}, Q c { s' with heap := h3 } → wpAny (model X.prog X.w) (X.A.mark (some (.ref a))) (eval (.Name x np) X.env) Q E { s' with heap := h3 } := fun {Q E} q => by
      obtain ⟨hg, hdbg, hm | ⟨hm, hv, hnn⟩⟩ := hc
      · exact ld_glob (X := X.suite a ((a, oe3) :: (X.pn ++ pins))) S3 hg hm q hdbg
      · exact ld_blt (X := X.suite a ((a, oe3) :: (X.pn ++ pins))) S3 hg hm hv q hnn hdbg
    refine test (LM.here ?_)
    cases b with
    | true =>
      refine codeAny_handlers_suite_as ?_
      refine HandSPX.lands_againZ fl3 fun h4 fl4 up4 => ?_
      have J4 : Inv X pins σ' H' { s' with heap := h4 } := J.landed nb fl4.1 ((up.trans up3).trans up4) os ag
      obtain ⟨oe4, vs4, he4, hz4, hd4⟩ := fl4.there
      have S4 := J4.suite he4 hd4 na nL nF
      obtain ⟨ed, hy⟩ := hyes rfl J4.len
      subst ed
      refine store_ok (X := X.suite a ((a, oe4) :: (X.pn ++ pins))) (v := .ref a) S4 hN hi hloc rfl (fun s5 S5 => ?_) (.inr hln)
      have hps : PSs (X.suite a ((a, oe4) :: (X.pn ++ pins))) [.Assign [.Name y p2] (.Name n p1) p3] _ := pss_one (ps_set (X := X.suite a ((a, oe4) :: (X.pn ++ pins))) (i := j) hN hj hlocy (pe_var (X := X.suite a ((a, oe4) :: (X.pn ++ pins))) (i := i) hi (.inl hln) hd hcd) hsw (.inr hly))
      have hD : gName j (V.ref a) (σ'.set i (some (.ref a))) H' (fun σ6 H6 => σ6 = (σ'.set i (some (.ref a))).set j (some (.ref a)) ∧ H6 = H') := ⟨rfl, rfl⟩
      refine wpAny_mono (hps.run [] s5 _ H' { nx := fun σ6 H6 => σ6 = (σ'.set i (some (.ref a))).set j (some (.ref a)) ∧ H6 = H', rt := fun _ _ => False } S5 ⟨.ref a, hlen J4.len, hD⟩) (fun f s6 hsp => ?_) (fun _ _ z => False.elim z)
      cases f with
      | next =>
        obtain ⟨σ6, H6, S6, e6, e7⟩ := hsp
        subst e6 e7
        have ha6 : s6.heap.get? a = some oe4 := (S6.pin (a, oe4) (List.mem_append_left _ List.mem_cons_self)).1
        have J6 : Inv X pins _ H6 s6 := S6.unsuite ok
        have J7 : Inv X pins _ (upd H6 a (ExR cls a)) s6 := track J6 n0 na nL nc npin fun H2 => exR_ok ha6 hz4 hd4
        exact gone_ok J7 hN hi hln fun s7 J8 => ⟨_, _, J8, hy a na⟩
      | brk =>
        obtain ⟨σ6, H6, S6, q6⟩ := hsp
        exact q6.elim
      | cont =>
        obtain ⟨σ6, H6, S6, q6⟩ := hsp
        exact q6.elim
      | ret u =>
        obtain ⟨v6, σ6, H6, S6, r6, q6⟩ := hsp
        exact q6.elim
    | false =>
      show wpAny _ X.A (handleBy (.ref a) X.env []) _ _ _
      refine wpAny_handleBy_nil ?_
      obtain ⟨k1, k2, k3, oe, vs, T, oT, ts', he, hz, hd, h1, hr⟩ := id fl3
      unfold PySem.passOn
      refine wpAny_bind (wpAny_field he hd h1 ?_)
      rw [if_neg (show ¬ ((Value.ref T == Value.none) = true) from by simp)]
      have fin : wpAny (model X.prog X.w) X.A (setFlight (.ref a) X.env.frame) (fun _ s4 => wpAny (model X.prog X.w) X.A (throw (.ref a) : Sem Flow) (SP X pins D) X.xe s4) X.xe { s' with heap := h3 } := by
        rw [hf]
        refine HandSPX.setFlight_upZ fl3 fun h4 hh4 up4 => wpAny_throw (tk _ _ ?_)
        exact ⟨a, B, sI, pins, σ', H', cls, d, rfl, J, nb, (up.trans up3).trans up4, .inr (.inr (by rw [hs]; exact hh4)), na, os, ag, hno rfl⟩
      first
        | exact wpAny_bind (wpAny_pure (wpAny_bind fin))
        | exact wpAny_bind fin
  · cases f with
    | next =>
      obtain ⟨σ', H', J', q⟩ := hsp
      exact wpAny_execs_nil ⟨σ', H', J'.ofTry ok, q⟩
    | brk =>
      obtain ⟨σ', H', J', q⟩ := hsp
      exact ⟨σ', H', J'.ofTry ok, q⟩
    | cont =>
      obtain ⟨σ', H', J', q⟩ := hsp
      exact ⟨σ', H', J'.ofTry ok, q⟩
    | ret u =>
      obtain ⟨v, σ', H', J', r, q⟩ := hsp
      exact ⟨v, σ', H', J'.ofTry ok, r, q⟩
/-- isinstance(e, c), e a caught error that is kept -/
def rIsR (K : PySem.W.Frag) : List V → Hp → VK → Prop := fun xs H Q => ∃ (a D : Addr) (c : V) (cv : Value) (b : Bool), xs = [.ref a, c] ∧ H a = some (ExR (.ref D) a) ∧ ExcC K D ∧ (∀ u, RelV c u → u = cv) ∧ PySem.W.kitOne K (.ref D) cv = some b ∧ Q (.bl b) H
theorem call_isR {X : Cx} : CallR X (.builtin "isinstance") (rIsR X.K) := by
  intro pins s σ H xs us Q I r h
  obtain ⟨a, D, c, cv, b, rfl, ha, C, hcv, e, q⟩ := h
  cases r with
  | cons rx rr =>
    cases rr with
    | cons rt rr =>
      cases rr
      cases rx
      have ec := hcv _ rt
      subst ec
      obtain ⟨⟨oe, vs, hget, hz, hv⟩, _, _⟩ := I.hok a _ ha
      have J : PySem.W.InstAt s.heap a oe D none := by
        obtain ⟨oc, od, oda, osl⟩ := oe
        obtain ⟨h1, h2⟩ := hz
        dsimp only at h1 h2 hv
        subst h1 h2 hv
        exact ⟨hget, rfl, rfl, trivial⟩
      exact PySem.W.kia_one (PySem.W.handS_kitx_exc C.hg C.hk C.hs C.hd C.ha C.hn C.ht C.hm) I.kIn J e (fun z => nomatch z) fun tk => ⟨.bl b, H, I.kept (t' := tk) fun _ _ z => z, rfl, q⟩
theorem mt_update : MtR X "dict.update" (fun x xs H Q => ∃ (a b : Addr) (kvs more : List (Key × V)), x = .ref a ∧ xs = [.ref b] ∧ a ≠ b ∧ H a = some (.dK kvs) ∧ H b = some (.dK more) ∧ kvs.length + more.length ≤ sizeLine ∧ Q .non (upd H a (.dK (mergeK kvs more)))) := by
  intro pins s σ H x xs v us Q I rx rxs h
  obtain ⟨a, b, kvs, more, rfl, rfl, hne, ha, hb, hz, q⟩ := h
  cases rx
  obtain ⟨u1, rfl, r1⟩ := vals1 rxs
  cases r1
  obtain ⟨z1, hd1, vs1, rel1, dd1⟩ := dk_of I.hok ha
  obtain ⟨z2, hd2, vs2, rel2, dd2⟩ := dk_of I.hok hb
  refine call_meetsIn PySem.F.slot_dict_update dd1.typeIs PySem.F.entry_dict_update (PySem.F.args_dict_update_2 _ _) (meets_dict_update (mixKind X.prog X.w) a b hne hd2) ⟨vs1, vs2, dd1, dd2, ?_, fun h' dd' _ hs => ?_⟩
  · rw [← rel1.length, ← rel2.length]
    exact hz
  · have hl : (mergeK kvs more).length ≤ sizeLine := Nat.le_trans (length_mergeK more kvs) hz
    have he : ∃ q, h'.get? a = some q := let ⟨q, _, _, hq, _⟩ := dd'; ⟨q, hq⟩
    show EP X pins σ Q .none _
    exact ⟨.non, _, d_write (t' := s.toks) I (by rw [ha]; exact True.intro) hs he (dk_new hl hd1 (KV.merge rel2 rel1) dd'), rfl, q⟩
end
end RX
/-! Rb: dict(xs) of a list of pairs whose keys are tuples. -/
namespace RX
open PySem PySem.Spec PyProof.Rows L2
def mergeT (kvs more : List (List Key × V)) : List (List Key × V) := more.foldl (fun acc kv => putK acc kv.1 kv.2) kvs
theorem length_mergeT : ∀ (more kvs : List (List Key × V)), (mergeT kvs more).length ≤ kvs.length + more.length
  | [], kvs => Nat.le_refl _
  | p :: r, kvs => by
    have h1 := length_mergeT r (putK kvs p.1 p.2)
    have h2 := length_putK kvs p.1 p.2
    show (mergeT (putK kvs p.1 p.2) r).length ≤ _
    rw [List.length_cons]
    omega
theorem KT_merge {H : Hp} : ∀ {more : List (List Key × V)} {ms : List (List Key × Addr × Value)} {kvs : List (List Key × V)} {xs : List (List Key × Addr × Value)}, KT H more ms → KT H kvs xs → KT H (mergeT kvs more) (PySem.storedAllH xs ms) := by
  intro more ms kvs xs r
  induction r generalizing kvs xs with
  | nil => intro q; exact q
  | @cons p q ps qs h t ih =>
    intro r0
    obtain ⟨h1, h2, h3⟩ := h
    have e : KT H (putK kvs p.1 p.2) (storedH xs q.1 q.2.1 q.2.2) := by
      have := r0.put p.1 h2 h3
      rw [← h1]
      exact this
    exact ih e
section
variable {X : Cx}
theorem pairsT_of {pins : List (Addr × Obj)} {σ : L2.St} {H : Hp} {s : Shared} (I : Inv X pins σ H s) : ∀ {ps : List Addr} {kvs : List (List Key × V)}, Paired (fun p kv => ∃ kb, SqT X.K H p [.ref kb, kv.2] ∧ H kb = some (.tup (kv.1.map kV))) ps kvs →
    ∃ prs : List (List Key × Addr × Value), KT H kvs prs ∧ prs.length = ps.length ∧ ∀ (j : Nat) (q : List Key × Addr × Value), prs[j]? = some q → ∃ b : Addr, ps[j]? = some b ∧ IsTup s.heap b #[.ref q.2.1, q.2.2]
  | _, _, .nil => ⟨[], .nil, rfl, fun j q e => by simp at e⟩
  | _, _, .cons (a := p) (b := kv) h t => by
    obtain ⟨prs, r, hl, hp⟩ := pairsT_of I t
    obtain ⟨kb, hs, hk⟩ := h
    obtain ⟨its, rv, ht, _⟩ := I.tuple hs
    obtain ⟨u, y, ei, ru, ry⟩ := vals2 rv
    subst ei
    have eu : u = Value.ref kb := ru
    subst eu
    refine ⟨(kv.1, kb, y) :: prs, .cons ⟨rfl, hk, ry⟩ r, by rw [List.length_cons, List.length_cons, hl], fun j q e => ?_⟩
    cases j with
    | zero =>
      have e' : (kv.1, kb, y) = q := Option.some.inj e
      subst e'
      exact ⟨p, rfl, ht⟩
    | succ j =>
      obtain ⟨b, e1, e2⟩ := hp j q (by simpa using e)
      exact ⟨b, by simpa using e1, e2⟩
/-- dict(xs) of a list of pairs, the keys tuples of ints and texts -/
theorem call_dictT (hcalm : X.calm = true) (hu : X.A.units + 65 < cLine) : CallR X (.type "dict") (fun xs H Q => ∃ (a : Addr) (ps : List Addr) (kvs : List (List Key × V)), xs = [.ref a] ∧ SqL X.K H a (ps.map V.ref) ∧ Paired (fun p kv => ∃ kb, SqT X.K H p [.ref kb, kv.2] ∧ H kb = some (.tup (kv.1.map kV))) ps kvs ∧
    ∀ p, H p = none → Q (.ref p) (upd H p (.dT (mergeT [] kvs)))) := by
  intro pins s σ H xs us Q I r q
  obtain ⟨a, ps, kvs, ex, hq, hp, q⟩ := q
  subst ex
  obtain ⟨u, eu, rx⟩ := vals1 r
  subst eu
  cases rx
  obtain ⟨its, rv, pl, hz⟩ := I.list hq
  have ei := refs_at rv
  subst ei
  rw [List.length_map] at hz
  obtain ⟨prs, rel, hl, hpr⟩ := pairsT_of I hp
  have P := PySem.PairArg.list (prog := X.prog) (w := X.w) a (ps.map Value.ref).toArray (fun j => ps.getD j 0) (prs.map fun q => (Value.ref q.2.1, q.2.2))
  have keyAt : ∀ h' : Heap, (∀ b o, b ≠ s.heap.objs.size → s.heap.get? b = some o → h'.get? b = some o) → ∀ x ∈ prs, (tupleKind (mixKind X.prog X.w)).is h' x.1 x.2.1 := by
    intro h' hk x hx
    have all : ∀ {l : List (List Key × V)} {m : List (List Key × Addr × Value)}, KT H l m → ∀ x ∈ m, H x.2.1 = some (.tup (x.1.map kV)) := by
      intro l m q
      induction q with
      | nil => intro x hx; exact nomatch hx
      | @cons p q ps qs hq t ih =>
        intro x hx
        rcases List.mem_cons.mp hx with e | hx
        · subst e
          rw [← hq.1]
          exact hq.2.1
        · exact ih x hx
    have e := all rel x hx
    have hlt : x.2.1 < s.heap.objs.size := (I.hok _ _ e).lt
    obtain ⟨o, its, n, h1, h2, h3, h4⟩ := key_of (P := X.prog) (w := X.w) I.hok e
    exact ⟨o, its, n, hk _ _ (Nat.ne_of_lt hlt) h1, h2, h3, h4⟩
  refine PySem.call_dict_pairsH (knd := tupleKind (mixKind X.prog X.w)) (ps := prs) P (I.ok.hd hcalm) (show X.A.units + 1 + 1 < cLine by omega) ⟨pl, ?_, fun j k v e => ?_⟩ ⟨by simp, fun i key v e => ?_⟩ (fun h' hk x hx => keyAt h' (fun b o hb e => hk b o hb (fun z => nomatch z) e) x hx) (by rw [List.length_map, hl]; exact hz) fun h' tk hd' k => ?_
  · simp [hl]
  · rw [List.getElem?_map] at e
    cases e0 : prs[j]? with
    | none => rw [e0] at e; cases e
    | some q0 =>
      rw [e0, Option.map_some, Option.some.injEq, Prod.mk.injEq] at e
      obtain ⟨b, e1, e2⟩ := hpr j q0 e0
      have e3 : ps.getD j 0 = b := by
        rw [List.getD_eq_getElem?_getD, e1]
        rfl
      show (List.map Value.ref ps).toArray[j]? = some (Value.ref (ps.getD j 0)) ∧ PairAt s.heap (ps.getD j 0) k v
      rw [e3, ← e.1, ← e.2]
      exact ⟨by simp [e1], .inl (show s.heap.IsTuple b #[.ref q0.2.1, q0.2.2] from e2)⟩
  · have e' : (prs.map fun q => (Value.ref q.2.1, q.2.2))[i]? = some (key, v) := e
    rw [List.getElem?_map] at e'
    cases e0 : prs[i]? with
    | none => rw [e0] at e'; cases e'
    | some q0 =>
      rw [e0, Option.map_some, Option.some.injEq, Prod.mk.injEq] at e'
      exact ⟨q0.1, q0.2.1, by rw [← e'.2], e'.1.symm⟩
  · have hm : (s.heap.objs.size == sysModules) = false := beq_eq_false_iff_ne.mpr (Nat.ne_of_gt I.big)
    have hlen : (mergeT [] kvs).length ≤ sizeLine := by
      refine Nat.le_trans (length_mergeT kvs []) ?_
      rw [List.length_nil, Nat.zero_add, Paired.length rel, hl]
      exact hz
    have nH : H s.heap.objs.size = none := I.hok.fresh (Nat.le_refl _)
    obtain ⟨o, es, ep, g1, g2, g3, g4, _, g5⟩ := hd'
    refine ⟨.ref s.heap.objs.size, upd H s.heap.objs.size (.dT (mergeT [] kvs)), I.laid (t' := tk) (fun b o' e => k b o' (fun z => nomatch z) e) (Nat.le_refl _) (show ObjOk X.prog X.w _ _ _ (.dT (mergeT [] kvs)) from ⟨hlen, hm, _, (KT_merge rel .nil).keeps fun b ys e => ?_, o, es, ep, g1, g2, g3, g4, g5⟩), rfl, q _ nH⟩
    rw [upd_ne (ne_of_none e nH)]
    exact e
end
end RX
/-! DL: readings over plain data. A value is data (PyData), frozen in a part G of the tracked heap; lists that a def changes are its own. -/
namespace DL
open PySem PySem.Spec PyProof.Rows L2
/-! ## 1. data frozen in G -/
mutual
inductive WD (G : Hp) : V → PyData → Prop
  | non : WD G .non .none
  | bl (b : Bool) : WD G (.bl b) (.bool b)
  | int (i : Int) : WD G (.int i) (.int i)
  | str (x : Str) : WD G (.str x) (.str x)
  | lst {a : Addr} {xs : List V} {ds : List PyData} : G a = some (.lst xs) → ds.length ≤ sizeLine → WDs G xs ds → WD G (.ref a) (.list ds)
  | tup {a : Addr} {xs : List V} {ds : List PyData} : G a = some (.tup xs) → ds.length ≤ sizeLine → WDs G xs ds → WD G (.ref a) (.tuple ds)
inductive WDs (G : Hp) : List V → List PyData → Prop
  | nil : WDs G [] []
  | cons {v : V} {d : PyData} {vs : List V} {ds : List PyData} : WD G v d → WDs G vs ds → WDs G (v :: vs) (d :: ds)
end
mutual
theorem WD.mono {G G' : Hp} (e : Same G G') : ∀ (d : PyData) (v : V), WD G v d → WD G' v d
  | .none, _, h => by cases h; exact .non
  | .bool b, _, h => by cases h; exact .bl b
  | .int i, _, h => by cases h; exact .int i
  | .str x, _, h => by cases h; exact .str x
  | .list ds, _, h => by
    cases h with
    | lst h1 h2 h3 => exact .lst (e _ _ h1) h2 (WDs.mono e ds _ h3)
  | .tuple ds, _, h => by
    cases h with
    | tup h1 h2 h3 => exact .tup (e _ _ h1) h2 (WDs.mono e ds _ h3)
  | .dict _, _, h => by cases h
theorem WDs.mono {G G' : Hp} (e : Same G G') : ∀ (ds : List PyData) (vs : List V), WDs G vs ds → WDs G' vs ds
  | [], _, h => by cases h; exact .nil
  | d :: ds, _, h => by
    cases h with
    | cons h1 h2 => exact .cons (WD.mono e d _ h1) (WDs.mono e ds _ h2)
end
mutual
theorem WD.dp {K : PySem.W.Frag} {G H : Hp} (e : Same G H) : ∀ (d : PyData) (v : V), WD G v d → Dp K H v d
  | .none, _, h => by cases h; exact .non
  | .bool b, _, h => by cases h; exact .bl b
  | .int i, _, h => by cases h; exact .int i
  | .str x, _, h => by cases h; exact .str x
  | .list ds, _, h => by
    cases h with
    | lst h1 h2 h3 => exact .lst (.of (e _ _ h1)) (WDs.dp e ds _ h3)
  | .tuple ds, _, h => by
    cases h with
    | tup h1 h2 h3 => exact .tup (.of (e _ _ h1)) (WDs.dp e ds _ h3)
  | .dict _, _, h => by cases h
theorem WDs.dp {K : PySem.W.Frag} {G H : Hp} (e : Same G H) : ∀ (ds : List PyData) (vs : List V), WDs G vs ds → DpAll K H vs ds
  | [], _, h => by cases h; exact .nil
  | d :: ds, _, h => by
    cases h with
    | cons h1 h2 => exact .cons (WD.dp e d _ h1) (WDs.dp e ds _ h2)
end
theorem WDs.length {G : Hp} : ∀ {ds : List PyData} {vs : List V}, WDs G vs ds → vs.length = ds.length
  | [], _, h => by cases h; rfl
  | d :: ds, _, h => by
    cases h with
    | cons h1 h2 => rw [List.length_cons, List.length_cons, WDs.length h2]
theorem WDs.append {G : Hp} : ∀ {ds es : List PyData} {vs us : List V}, WDs G vs ds → WDs G us es → WDs G (vs ++ us) (ds ++ es)
  | [], _, _, _, h, k => by cases h; exact k
  | d :: ds, _, _, _, h, k => by
    cases h with
    | cons h1 h2 => exact .cons h1 (WDs.append h2 k)
theorem WDs.get {G : Hp} : ∀ {ds : List PyData} {vs : List V} {i : Nat} {d : PyData}, WDs G vs ds → ds[i]? = some d → ∃ v, vs[i]? = some v ∧ WD G v d
  | [], _, _, _, h, e => by simp at e
  | d :: ds, _, 0, d', h, e => by
    cases h with
    | cons h1 h2 =>
      simp only [List.getElem?_cons_zero, Option.some.injEq] at e
      subst e
      exact ⟨_, rfl, h1⟩
  | d :: ds, _, i + 1, d', h, e => by
    cases h with
    | cons h1 h2 =>
      obtain ⟨v, e1, e2⟩ := WDs.get (i := i) h2 (by simpa using e)
      exact ⟨v, by simpa using e1, e2⟩
theorem WDs.getV {G : Hp} {ds : List PyData} {vs : List V} {i : Nat} {v : V} (h : WDs G vs ds) (e : vs[i]? = some v) : ∃ d, ds[i]? = some d ∧ WD G v d := by
  obtain ⟨hi, _⟩ := List.getElem?_eq_some_iff.mp e
  have hl := h.length
  have e2 : ds[i]? = some (ds[i]'(by omega)) := List.getElem?_eq_getElem (by omega)
  obtain ⟨v', e3, w⟩ := WDs.get h e2
  rw [e] at e3
  cases e3
  exact ⟨_, e2, w⟩
theorem WDs.set {G : Hp} {d : PyData} {v : V} (w : WD G v d) : ∀ {ds : List PyData} {vs : List V} (i : Nat), WDs G vs ds → WDs G (vs.set i v) (ds.set i d)
  | [], _, _, h => by cases h; exact .nil
  | _ :: _, _, 0, h => by
    cases h with
    | cons h1 h2 => exact .cons w h2
  | _ :: _, _, i + 1, h => by
    cases h with
    | cons h1 h2 => exact .cons h1 (WDs.set w i h2)
theorem WDs.drop {G : Hp} : ∀ {ds : List PyData} {vs : List V} (n : Nat), WDs G vs ds → WDs G (vs.drop n) (ds.drop n)
  | _, _, 0, h => h
  | [], _, n + 1, h => by cases h; exact .nil
  | _ :: _, _, n + 1, h => by
    cases h with
    | cons h1 h2 => exact WDs.drop n h2
theorem WDs.take {G : Hp} : ∀ {ds : List PyData} {vs : List V} (n : Nat), WDs G vs ds → WDs G (vs.take n) (ds.take n)
  | _, _, 0, _ => .nil
  | [], _, n + 1, h => by cases h; exact .nil
  | _ :: _, _, n + 1, h => by
    cases h with
    | cons h1 h2 => exact .cons h1 (WDs.take n h2)
theorem WDs.reverse {G : Hp} : ∀ {ds : List PyData} {vs : List V}, WDs G vs ds → WDs G vs.reverse ds.reverse
  | [], _, h => by cases h; exact .nil
  | _ :: _, _, h => by
    cases h with
    | cons h1 h2 =>
      rw [List.reverse_cons, List.reverse_cons]
      exact WDs.append (WDs.reverse h2) (.cons h1 .nil)
theorem WDs.flat {G : Hp} {ds : List PyData} {vs : List V} (h : WDs G vs ds) : ∀ n : Nat, WDs G (List.replicate n vs).flatten (List.replicate n ds).flatten
  | 0 => .nil
  | n + 1 => by
    rw [List.replicate_succ, List.replicate_succ, List.flatten_cons, List.flatten_cons]
    exact WDs.append h (WDs.flat h n)
theorem WDs.ints {G : Hp} : ∀ {ns : List Int} {vs : List V}, WDs G vs (ns.map .int) → vs = ns.map .int
  | [], _, h => by cases h; rfl
  | n :: ns, _, h => by
    cases h with
    | cons h1 h2 => cases h1; rw [WDs.ints h2]; rfl
theorem WDs.bools {G : Hp} : ∀ {ns : List Bool} {vs : List V}, WDs G vs (ns.map .bool) → vs = ns.map .bl
  | [], _, h => by cases h; rfl
  | n :: ns, _, h => by
    cases h with
    | cons h1 h2 => cases h1; rw [WDs.bools h2]; rfl
theorem WDs.of_ints {G : Hp} : ∀ ns : List Int, WDs G (ns.map .int) (ns.map .int)
  | [] => .nil
  | n :: ns => .cons (.int n) (WDs.of_ints ns)
/-! ## 2. what changes under everybody's hands (the drawing's state, the tables of code), extensions -/
structure Tw where
  town : Option (Addr × Addr) := none
  tabs : List (Addr × Str) := []
def Vol (tw : Tw) (b : Addr) : Prop := (∃ t r, tw.town = some (t, r) ∧ (b = t ∨ b = r)) ∨ ∃ p ∈ tw.tabs, b = p.1
def RestsOk (rs : List (Key × V)) : Prop := (rs.map (·.1)).Nodup ∧ ∀ p ∈ rs, ∃ (k : Nat) (i : Int), p = (.inl (k : Int), .int i) ∧ k < 63
def TownOk (H : Hp) (t r : Addr) : Prop := t ≠ r ∧ ∃ (n : Int) (rs : List (Key × V)), H t = some (.dK [(.inr "count", .int n), (.inr "rests", .ref r)]) ∧ H r = some (.dK rs) ∧ RestsOk rs
structure TwOk (tw : Tw) (H : Hp) : Prop where
  town : ∀ t r, tw.town = some (t, r) → TownOk H t r
  tabs : LamX.Tabs tw.tabs H
/-- no table of code -/
def NT (o : HO) : Prop := ∀ ps, o ≠ .tbl ps
/-- .. and no tuple -/
def NL : HO → Prop
  | .tbl _ => False
  | .tup _ => False
  | _ => True
theorem NL.nt {o : HO} (h : NL o) : NT o := fun ps z => by subst z; exact h
/-- free for us: nothing stands there but a table of code or a tuple, perhaps -/
def Fr (tw : Tw) (H : Hp) (a : Addr) : Prop := ¬ Vol tw a ∧ ∀ o, H a = some o → ¬ NL o
theorem TwOk.vol {tw : Tw} {H : Hp} (h : TwOk tw H) {b : Addr} (v : Vol tw b) : (∃ kvs, H b = some (.dK kvs)) ∨ ∃ ps, H b = some (.tbl ps) := by
  rcases v with ⟨t, r, e, z⟩ | ⟨p, hp, rfl⟩
  · obtain ⟨_, n, rs, h1, h2, _⟩ := h.town t r e
    rcases z with rfl | rfl
    · exact .inl ⟨_, h1⟩
    · exact .inl ⟨_, h2⟩
  · obtain ⟨ps, h1, _⟩ := h.tabs p hp
    exact .inr ⟨ps, h1⟩
theorem TwOk.is {tw : Tw} {H : Hp} (h : TwOk tw H) {b : Addr} (v : Vol tw b) : ∃ o, H b = some o := by
  rcases h.vol v with ⟨x, e⟩ | ⟨x, e⟩ <;> exact ⟨_, e⟩
/-- an object that is no part of it is laid, or written -/
theorem TwOk.upd {tw : Tw} {H : Hp} (h : TwOk tw H) {p : Addr} {o : HO} (nv : ¬ Vol tw p) (he : ∀ φ, H p ≠ some (.ext φ)) : TwOk tw (L2.upd H p o) := by
  refine ⟨fun t r e => ?_, fun q hq => ?_⟩
  · obtain ⟨h0, n, rs, h1, h2, h3⟩ := h.town t r e
    exact ⟨h0, n, rs, by rw [upd_ne (fun z => nv (.inl ⟨t, r, e, .inl z.symm⟩))]; exact h1, by rw [upd_ne (fun z => nv (.inl ⟨t, r, e, .inr z.symm⟩))]; exact h2, h3⟩
  · obtain ⟨ps, h1, h2, h3⟩ := h.tabs q hq
    refine ⟨ps, by rw [upd_ne (fun z => nv (.inr ⟨q, hq, z.symm⟩))]; exact h1, h2, fun pos cv hc => ?_⟩
    obtain ⟨c, e1, e2⟩ := h3 pos cv hc
    exact ⟨c, e1, by rw [upd_ne (fun z => by subst z; exact he _ e2)]; exact e2⟩
structure Ext (tw : Tw) (G H G' H' : Hp) : Prop where
  gg : Same G G'
  gh : Same G' H'
  hh : ∀ b o, H b = some o → ¬ Vol tw b → NT o → H' b = some o
  tk : TwOk tw H'
  nv : ∀ b, Vol tw b → G' b = none
  new : ∀ a o, G' a = some o → G a = some o ∨ Fr tw H a
  gt : ∀ b ps, G' b ≠ some (.tbl ps)
structure Ok (tw : Tw) (G H : Hp) : Prop where
  gh : Same G H
  tk : TwOk tw H
  nv : ∀ b, Vol tw b → G b = none
  gt : ∀ b ps, G b ≠ some (.tbl ps)
section
variable {tw : Tw} {G H G1 H1 G2 H2 : Hp}
theorem Ext.ok (e : Ext tw G H G1 H1) : Ok tw G1 H1 := ⟨e.gh, e.tk, e.nv, e.gt⟩
theorem Ok.refl (o : Ok tw G H) : Ext tw G H G H := ⟨fun _ _ h => h, o.gh, fun _ _ h _ _ => h, o.tk, o.nv, fun _ _ h => .inl h, o.gt⟩
theorem Ext.nonvol (o : TwOk tw H) {a : Addr} {vs : List V} (h : H a = some (.lst vs)) : ¬ Vol tw a := fun v => by
  rcases o.vol v with ⟨x, e⟩ | ⟨x, e⟩ <;> rw [h] at e <;> cases e
theorem novol (o : TwOk tw H) {a : Addr} (h : H a = none) : ¬ Vol tw a := fun v => by
  obtain ⟨x, e⟩ := o.is v
  rw [h] at e
  cases e
theorem nt_lst {vs : List V} : NT (.lst vs) := fun _ z => by cases z
theorem fr_none (o : TwOk tw H) {a : Addr} (h : H a = none) : Fr tw H a := ⟨novol o h, fun u z => by rw [h] at z; cases z⟩
theorem Fr.ne {a b : Addr} {o : HO} (f : Fr tw H a) (h : H b = some o) (nt : NL o) : b ≠ a := fun z => by
  subst z
  exact f.2 o h nt
theorem Ext.free (e : Ext tw G H G1 H1) {a : Addr} (h : Fr tw H1 a) : Fr tw H a := by
  refine ⟨h.1, fun o q => ?_⟩
  exact fun nl => h.2 o (e.hh a o q h.1 nl.nt) nl
theorem Ext.trans (e : Ext tw G H G1 H1) (f : Ext tw G1 H1 G2 H2) : Ext tw G H G2 H2 where
  gg := fun b o h => f.gg b o (e.gg b o h)
  gh := f.gh
  hh := fun b o h v nt => f.hh b o (e.hh b o h v nt) v nt
  tk := f.tk
  nv := f.nv
  new := fun a o h => by
    rcases f.new a o h with q | q
    · exact e.new a o q
    · exact .inr (e.free q)
  gt := f.gt
/-- a new object, frozen -/
theorem Ok.put (k : Ok tw G H) {p : Addr} {o : HO} (hp : H p = none) (ho : NT o := by intro _ z; cases z) : Ext tw G H (upd G p o) (upd H p o) := by
  have gp : G p = none := by
    cases q : G p with
    | none => rfl
    | some u =>
      rw [k.gh p u q] at hp
      cases hp
  refine ⟨fun b u h => ?_, fun b u h => ?_, fun b u h _ _ => ?_, ?_, fun b v => ?_, fun a u h => ?_, fun b ps z => ?_⟩
  · rw [upd_ne (ne_of_none h gp)]
    exact h
  · by_cases hb : b = p
    · subst hb
      rw [upd_same] at h ⊢
      exact h
    · rw [upd_ne hb] at h ⊢
      exact k.gh b u h
  · rw [upd_ne (ne_of_none h hp)]
    exact h
  · exact k.tk.upd (novol k.tk hp) (fun φ z => by rw [hp] at z; cases z)
  · obtain ⟨x, e⟩ := k.tk.is v
    rw [upd_ne (ne_of_none e hp)]
    exact k.nv b v
  · by_cases hb : a = p
    · subst hb
      exact .inr (fr_none k.tk hp)
    · rw [upd_ne hb] at h
      exact .inl h
  · by_cases hb : b = p
    · subst hb
      rw [upd_same] at z
      exact ho ps (Option.some.inj z)
    · rw [upd_ne hb] at z
      exact k.gt b ps z
/-- a new object, not frozen -/
theorem Ok.putH (k : Ok tw G H) {p : Addr} {o : HO} (hp : H p = none) : Ext tw G H G (upd H p o) := by
  refine ⟨fun b u h => h, fun b u h => ?_, fun b u h _ _ => ?_, ?_, k.nv, fun a u h => .inl h, k.gt⟩
  · rw [upd_ne (ne_of_none (k.gh b u h) hp)]
    exact k.gh b u h
  · rw [upd_ne (ne_of_none h hp)]
    exact h
  · exact k.tk.upd (novol k.tk hp) (fun φ z => by rw [hp] at z; cases z)
/-- an object of H is frozen -/
theorem Ext.freezeO (e : Ext tw G H G1 H1) {a : Addr} {o : HO} (h : H1 a = some o) (g : G1 a = none) (n : Fr tw H a) (ho : NT o) : Ext tw G H (upd G1 a o) H1 := by
  refine ⟨fun b u q => ?_, fun b u q => ?_, e.hh, e.tk, fun b v => ?_, fun b u q => ?_, fun b ps z => ?_⟩
  · have z := e.gg b u q
    rw [upd_ne (ne_of_none z g)]
    exact z
  · by_cases hb : b = a
    · subst hb
      rw [upd_same] at q
      rw [← q]
      exact h
    · rw [upd_ne hb] at q
      exact e.gh b u q
  · rw [upd_ne (fun z : b = a => n.1 (z ▸ v))]
    exact e.nv b v
  · by_cases hb : b = a
    · subst hb
      exact .inr n
    · rw [upd_ne hb] at q
      exact e.new b u q
  · by_cases hb : b = a
    · subst hb
      rw [upd_same] at z
      exact ho ps (Option.some.inj z)
    · rw [upd_ne hb] at z
      exact e.gt b ps z
theorem Ext.freeze (e : Ext tw G H G1 H1) {a : Addr} {vs : List V} (h : H1 a = some (.lst vs)) (g : G1 a = none) (n : Fr tw H a) : Ext tw G H (upd G1 a (.lst vs)) H1 := e.freezeO h g n nt_lst
theorem same_freeze {a : Addr} {u : HO} (g : G a = none) : Same G (upd G a u) := fun b o h => by
  rw [upd_ne (ne_of_none h g)]
  exact h
/-- an own object (not in G, not volatile) is written -/
theorem Ok.write (k : Ok tw G H) {a : Addr} {u : HO} (g : G a = none) (v : ¬ Vol tw a) (he : ∀ φ, H a ≠ some (.ext φ)) : Ok tw G (upd H a u) := by
  refine ⟨fun b o h => ?_, k.tk.upd v he, k.nv, k.gt⟩
  rw [upd_ne (ne_of_none h g)]
  exact k.gh b o h
end
/-! ## 3. slots, values -/
/-- an own object that is no list: a dict (keys tuples, keys plain), a caught error -/
inductive OC where
  | dT (kvs : List (List Key × PyData))
  | dK (kvs : List (Key × PyData))
  | exc (C : Addr)
  /-- .. while it is walked -/
  | dTl (kvs : List (List Key × PyData))
  | dKl (kvs : List (Key × PyData))
def WKv {κ : Type} (G : Hp) : List (κ × V) → List (κ × PyData) → Prop
  | [], [] => True
  | p :: ps, q :: qs => (p.1 = q.1 ∧ WD G p.2 q.2) ∧ WKv G ps qs
  | _, _ => False
theorem WKv.mono {κ : Type} {G G' : Hp} (e : Same G G') : ∀ {ps : List (κ × V)} {qs : List (κ × PyData)}, WKv G ps qs → WKv G' ps qs
  | [], [], _ => trivial
  | _ :: _, _ :: _, h => ⟨⟨h.1.1, WD.mono e _ _ h.1.2⟩, WKv.mono e h.2⟩
  | [], _ :: _, h => h.elim
  | _ :: _, [], h => h.elim
theorem WKv.length {κ : Type} {G : Hp} : ∀ {ps : List (κ × V)} {qs : List (κ × PyData)}, WKv G ps qs → ps.length = qs.length
  | [], [], _ => rfl
  | _ :: _, _ :: _, h => by rw [List.length_cons, List.length_cons, WKv.length h.2]
  | [], _ :: _, h => h.elim
  | _ :: _, [], h => h.elim
def OCr (G : Hp) (a : Addr) (o : HO) : OC → Prop
  | .dT ks => ∃ kvs, o = .dT kvs ∧ WKv G kvs ks
  | .dK ks => ∃ kvs, o = .dK kvs ∧ WKv G kvs ks
  | .exc C => o = RX.ExR (.ref C) a
  | .dTl ks => ∃ od kvs, o = .frz od (.dT kvs) ∧ WKv G kvs ks
  | .dKl ks => ∃ od kvs, o = .frz od (.dK kvs) ∧ WKv G kvs ks
theorem OCr.mono {G G' : Hp} {a : Addr} {o : HO} {c : OC} (h : OCr G a o c) (e : Same G G') : OCr G' a o c := by
  cases c with
  | dT ks => obtain ⟨k, h1, h2⟩ := h; exact ⟨k, h1, h2.mono e⟩
  | dK ks => obtain ⟨k, h1, h2⟩ := h; exact ⟨k, h1, h2.mono e⟩
  | exc C => exact h
  | dTl ks => obtain ⟨od, k, h1, h2⟩ := h; exact ⟨od, k, h1, h2.mono e⟩
  | dKl ks => obtain ⟨od, k, h1, h2⟩ := h; exact ⟨od, k, h1, h2.mono e⟩
inductive SV where
  /-- data, frozen -/
  | d (x : PyData)
  /-- a list of one's own (in a slot); a new list that nobody holds (a value) -/
  | own (l : List PyData)
  /-- a list that a slot holds (a value alone) -/
  | bor (l : List PyData)
  /-- an object of one's own that is no list; one that a slot holds (a value alone); a frozen one -/
  | ow (c : OC)
  | bo (c : OC)
  | fo (c : OC)
  /-- the drawing's state -/
  | town
  /-- a value itself: a class, a type -/
  | v (x : V)
  /-- anything else that stands -/
  | abs (φ : V → Hp → Prop) (m : ∀ v G G', Same G G' → φ v G → φ v G')
/-- a value behind an expression that began at H; H0: the def's entry -/
def VR (tw : Tw) (H0 H G' H' : Hp) (v : V) : SV → Prop
  | .d x => WD G' v x
  | .own l => ∃ a vs, v = .ref a ∧ H' a = some (.lst vs) ∧ G' a = none ∧ Fr tw H a ∧ WDs G' vs l ∧ l.length ≤ sizeLine
  | .bor l => ∃ a vs, v = .ref a ∧ H' a = some (.lst vs) ∧ G' a = none ∧ Fr tw H0 a ∧ WDs G' vs l ∧ l.length ≤ sizeLine
  | .ow c => ∃ a o, v = .ref a ∧ H' a = some o ∧ G' a = none ∧ Fr tw H a ∧ ¬ Vol tw a ∧ OCr G' a o c
  | .bo c => ∃ a o, v = .ref a ∧ H' a = some o ∧ G' a = none ∧ Fr tw H0 a ∧ ¬ Vol tw a ∧ OCr G' a o c
  | .fo c => ∃ a o, v = .ref a ∧ G' a = some o ∧ OCr G' a o c
  | .town => ∃ t r, tw.town = some (t, r) ∧ v = .ref t
  | .v x => v = x
  | .abs φ _ => φ v G'
/-- a slot's value -/
def SR (tw : Tw) (H0 G H : Hp) (v : V) : SV → Prop
  | .d x => WD G v x
  | .own l => ∃ a vs, v = .ref a ∧ H a = some (.lst vs) ∧ G a = none ∧ Fr tw H0 a ∧ WDs G vs l ∧ l.length ≤ sizeLine
  | .bor _ => False
  | .ow c => ∃ a o, v = .ref a ∧ H a = some o ∧ G a = none ∧ Fr tw H0 a ∧ ¬ Vol tw a ∧ OCr G a o c
  | .bo _ => False
  | .fo c => ∃ a o, v = .ref a ∧ G a = some o ∧ OCr G a o c
  | .town => ∃ t r, tw.town = some (t, r) ∧ v = .ref t
  | .v x => v = x
  | .abs φ _ => φ v G
/-- a value that is handed on: frozen -/
def FR (tw : Tw) (G : Hp) (v : V) : SV → Prop
  | .d x => WD G v x
  | .own _ => False
  | .bor _ => False
  | .ow _ => False
  | .bo _ => False
  | .fo c => ∃ a o, v = .ref a ∧ G a = some o ∧ OCr G a o c
  | .town => ∃ t r, tw.town = some (t, r) ∧ v = .ref t
  | .v x => v = x
  | .abs φ _ => φ v G
/-- a slot's own object -/
def Mine : SV → Prop
  | .own _ => True
  | .ow _ => True
  | _ => False
abbrev Env := List (Option SV)
structure Rep (tw : Tw) (G0 H0 G : Hp) (σ : L2.St) (H : Hp) (δ : Env) : Prop where
  ext : Ext tw G0 H0 G H
  len : σ.length = δ.length
  sl : ∀ (i : Nat) (s : SV), δ[i]? = some (some s) → ∃ v, σ[i]? = some (some v) ∧ SR tw H0 G H v s
  own : ∀ (i j : Nat) (s s' : SV) (a : Addr), δ[i]? = some (some s) → δ[j]? = some (some s') → Mine s → Mine s' → σ[i]? = some (some (.ref a)) → σ[j]? = some (some (.ref a)) → i = j
section
variable {tw : Tw} {G0 H0 G H G' H' : Hp} {σ : L2.St} {δ : Env}
theorem Rep.ok (r : Rep tw G0 H0 G σ H δ) : Ok tw G H := r.ext.ok
theorem OCr.nt {G : Hp} {a : Addr} {o : HO} {c : OC} (h : OCr G a o c) : NT o := by
  cases c with
  | dT ks => obtain ⟨k, rfl, _⟩ := h; intro _ z; cases z
  | dK ks => obtain ⟨k, rfl, _⟩ := h; intro _ z; cases z
  | exc C =>
    have e : o = RX.ExR (.ref C) a := h
    subst e
    intro _ z
    cases z
  | dTl ks => obtain ⟨od, k, rfl, _⟩ := h; intro _ z; cases z
  | dKl ks => obtain ⟨od, k, rfl, _⟩ := h; intro _ z; cases z
theorem OCr.nl {G : Hp} {a : Addr} {o : HO} {c : OC} (h : OCr G a o c) : NL o := by
  cases c with
  | dT ks => obtain ⟨k, rfl, _⟩ := h; trivial
  | dK ks => obtain ⟨k, rfl, _⟩ := h; trivial
  | exc C =>
    have e : o = RX.ExR (.ref C) a := h
    subst e
    trivial
  | dTl ks => obtain ⟨od, k, rfl, _⟩ := h; trivial
  | dKl ks => obtain ⟨od, k, rfl, _⟩ := h; trivial
theorem stays_none {a : Addr} {o : HO} (e : Ext tw G H G' H') (h : H a = some o) (g : G a = none) (nt : NL o) : G' a = none := by
  cases q : G' a with
  | none => rfl
  | some u =>
    rcases e.new a u q with z | z
    · rw [g] at z; cases z
    · exact absurd rfl (z.ne h nt)
theorem SR.go {v : V} {s : SV} (h : SR tw H0 G H v s) (o : TwOk tw H) (e : Ext tw G H G' H') : SR tw H0 G' H' v s := by
  cases s with
  | d x => exact WD.mono e.gg x v h
  | own l =>
    obtain ⟨a, vs, e1, e2, e3, e4, e5, e6⟩ := h
    refine ⟨a, vs, e1, e.hh a _ e2 (Ext.nonvol o e2) nt_lst, ?_, e4, WDs.mono e.gg _ _ e5, e6⟩
    exact stays_none e e2 e3 trivial
  | bor l => exact h
  | ow c =>
    obtain ⟨a, u, e1, e2, e3, e4, e5, e6⟩ := h
    exact ⟨a, u, e1, e.hh a _ e2 e5 e6.nt, stays_none e e2 e3 e6.nl, e4, e5, e6.mono e.gg⟩
  | bo c => exact h
  | fo c =>
    obtain ⟨a, u, e1, e2, e3⟩ := h
    exact ⟨a, u, e1, e.gg _ _ e2, e3.mono e.gg⟩
  | town => exact h
  | v x => exact h
  | abs φ m => exact m v G G' e.gg h
theorem Rep.go (r : Rep tw G0 H0 G σ H δ) (e : Ext tw G H G' H') : Rep tw G0 H0 G' σ H' δ :=
  ⟨r.ext.trans e, r.len, fun i s h => let ⟨v, e1, e2⟩ := r.sl i s h; ⟨v, e1, e2.go r.ext.tk e⟩, r.own⟩
theorem VR.go {H1 G1 : Hp} {v : V} {s : SV} (h : VR tw H0 H G1 H1 v s) (o : TwOk tw H1) (e : Ext tw G1 H1 G' H') : VR tw H0 H G' H' v s := by
  have key : ∀ {a vs}, H1 a = some (.lst vs) → G1 a = none → H' a = some (.lst vs) ∧ G' a = none := fun {a vs} e2 e3 => ⟨e.hh a _ e2 (Ext.nonvol o e2) nt_lst, stays_none e e2 e3 trivial⟩
  cases s with
  | d x => exact WD.mono e.gg x v h
  | own l =>
    obtain ⟨a, vs, e1, e2, e3, e4, e5, e6⟩ := h
    obtain ⟨k1, k2⟩ := key e2 e3
    exact ⟨a, vs, e1, k1, k2, e4, WDs.mono e.gg _ _ e5, e6⟩
  | bor l =>
    obtain ⟨a, vs, e1, e2, e3, e4, e5, e6⟩ := h
    obtain ⟨k1, k2⟩ := key e2 e3
    exact ⟨a, vs, e1, k1, k2, e4, WDs.mono e.gg _ _ e5, e6⟩
  | ow c =>
    obtain ⟨a, u, e1, e2, e3, e4, e5, e6⟩ := h
    exact ⟨a, u, e1, e.hh a _ e2 e5 e6.nt, stays_none e e2 e3 e6.nl, e4, e5, e6.mono e.gg⟩
  | bo c =>
    obtain ⟨a, u, e1, e2, e3, e4, e5, e6⟩ := h
    exact ⟨a, u, e1, e.hh a _ e2 e5 e6.nt, stays_none e e2 e3 e6.nl, e4, e5, e6.mono e.gg⟩
  | fo c =>
    obtain ⟨a, u, e1, e2, e3⟩ := h
    exact ⟨a, u, e1, e.gg _ _ e2, e3.mono e.gg⟩
  | town => exact h
  | v x => exact h
  | abs φ m => exact m v G1 G' e.gg h
theorem FR.go {v : V} {s : SV} (h : FR tw G v s) (e : Same G G') : FR tw G' v s := by
  cases s with
  | d x => exact WD.mono e x v h
  | own l => exact h
  | bor l => exact h
  | ow c => exact h
  | bo c => exact h
  | fo c =>
    obtain ⟨a, u, e1, e2, e3⟩ := h
    exact ⟨a, u, e1, e _ _ e2, e3.mono e⟩
  | town => exact h
  | v x => exact h
  | abs φ m => exact m v G G' e h
/-- an earlier beginning -/
theorem VR.from {H1 G1 G2 H2 : Hp} {v : V} {s : SV} (h : VR tw H0 H1 G2 H2 v s) (e : Ext tw G H G1 H1) : VR tw H0 H G2 H2 v s := by
  cases s with
  | own l =>
    obtain ⟨a, vs, e1, e2, e3, e4, e5, e6⟩ := h
    exact ⟨a, vs, e1, e2, e3, e.free e4, e5, e6⟩
  | d x => exact h
  | bor l => exact h
  | ow c =>
    obtain ⟨a, u, e1, e2, e3, e4, e5, e6⟩ := h
    exact ⟨a, u, e1, e2, e3, e.free e4, e5, e6⟩
  | bo c => exact h
  | fo c => exact h
  | town => exact h
  | v x => exact h
  | abs φ m => exact h
end
/-- a value as it is handed on: a new list is frozen -/
def asF : SV → Option SV
  | .d x => some (.d x)
  | .own l => some (.d (.list l))
  | .bor _ => none
  | .ow c => some (.fo c)
  | .bo _ => none
  | .fo c => some (.fo c)
  | .town => some .town
  | .v x => some (.v x)
  | .abs φ m => some (.abs φ m)
def asD : SV → Option PyData
  | .d x => some x
  | .own l => some (.list l)
  | _ => none
/-- items of a list or a tuple, held or not -/
def asL : SV → Option (List PyData)
  | .d (.list l) => some l
  | .own l => some l
  | .bor l => some l
  | _ => none
section
variable {tw : Tw} {G0 H0 G H G' H' : Hp}
theorem VR.froze {v : V} {s s' : SV} (h : VR tw H0 H G' H' v s) (e : Ext tw G H G' H') (a : asF s = some s') : ∃ G2, Ext tw G H G2 H' ∧ Same G' G2 ∧ FR tw G2 v s' := by
  cases s with
  | d x => cases a; exact ⟨G', e, fun _ _ h => h, h⟩
  | own l =>
    cases a
    obtain ⟨a, vs, e1, e2, e3, e4, e5, e6⟩ := h
    subst e1
    exact ⟨_, e.freeze e2 e3 e4, same_freeze e3, .lst upd_same e6 (WDs.mono (same_freeze e3) _ _ e5)⟩
  | bor l => cases a
  | ow c =>
    cases a
    obtain ⟨a, u, e1, e2, e3, e4, e5, e6⟩ := h
    exact ⟨_, e.freezeO e2 e3 e4 e6.nt, same_freeze e3, a, u, e1, upd_same, e6.mono (same_freeze e3)⟩
  | bo c => cases a
  | fo c => cases a; exact ⟨G', e, fun _ _ h => h, h⟩
  | town => cases a; exact ⟨G', e, fun _ _ h => h, h⟩
  | v x => cases a; exact ⟨G', e, fun _ _ h => h, h⟩
  | abs φ m => cases a; exact ⟨G', e, fun _ _ h => h, h⟩
theorem FR.vr {v : V} {s : SV} (h : FR tw G' v s) : VR tw H0 H G' H' v s := by
  cases s with
  | d x => exact h
  | own l => exact h.elim
  | bor l => exact h.elim
  | ow c => exact h.elim
  | bo c => exact h.elim
  | fo c => exact h
  | town => exact h
  | v x => exact h
  | abs φ m => exact h
theorem FR.notMine {v : V} {s : SV} (h : FR tw G' v s) : ¬ Mine s := fun m => by
  cases s with
  | own l => exact h
  | ow c => exact h
  | d x => exact m
  | bor l => exact m
  | bo c => exact m
  | fo c => exact m
  | town => exact m
  | v x => exact m
  | abs φ m2 => exact m
theorem FR.sr {v : V} {s : SV} (h : FR tw G' v s) : SR tw H0 G' H' v s := by
  cases s with
  | d x => exact h
  | own l => exact h.elim
  | bor l => exact h.elim
  | ow c => exact h.elim
  | bo c => exact h.elim
  | fo c => exact h
  | town => exact h
  | v x => exact h
  | abs φ m => exact h
theorem asF_asD {s : SV} {x : PyData} (h : asD s = some x) : asF s = some (.d x) := by
  cases s with
  | d y => cases h; rfl
  | own l => cases h; rfl
  | bor l => cases h
  | ow c => cases h
  | bo c => cases h
  | fo c => cases h
  | town => cases h
  | v x => cases h
  | abs φ m => cases h
/-- a list, held or not -/
theorem VR.list {v : V} {s : SV} {l : List PyData} (h : VR tw H0 H G' H' v s) (e : Same G' H') (a : asL s = some l) : ∃ a vs, v = .ref a ∧ H' a = some (.lst vs) ∧ WDs G' vs l ∧ l.length ≤ sizeLine := by
  cases s with
  | d x =>
    cases x with
    | list l' =>
      cases a
      cases h with
      | lst h1 h2 h3 => exact ⟨_, _, rfl, e _ _ h1, h3, h2⟩
    | none => cases a
    | bool _ => cases a
    | int _ => cases a
    | str _ => cases a
    | tuple _ => cases a
    | dict _ => cases a
  | own l' =>
    cases a
    obtain ⟨a, vs, e1, e2, _, _, e5, e6⟩ := h
    exact ⟨a, vs, e1, e2, e5, e6⟩
  | bor l' =>
    cases a
    obtain ⟨a, vs, e1, e2, _, _, e5, e6⟩ := h
    exact ⟨a, vs, e1, e2, e5, e6⟩
  | ow c => cases a
  | bo c => cases a
  | fo c => cases a
  | town => cases a
  | v x => cases a
  | abs φ m => cases a
end
end DL
/-! DL 2: readings of expressions over slots that hold data. -/
namespace DL
open PySem PySem.Spec PyProof.Rows L2
abbrev XP := Value → Prop
abbrev DT := Env → (SV → Prop) → XP → Prop
abbrev DB := Env → (Bool → Prop) → XP → Prop
abbrev DA := Env → (List SV → Prop) → XP → Prop
/-- where exceptions may go, and the tables of code -/
structure EK where
  x : XK
  tabs : List (Addr × Str)
def EK.no (E : EK) : EK := ⟨E0, E.tabs⟩
/-- where one stands -/
structure At (tw : Tw) (E : EK) (G0 H0 G : Hp) (σ : L2.St) (H : Hp) (δ : Env) (Ex : XP) : Prop where
  rep : Rep tw G0 H0 G σ H δ
  exc : ∀ c G' H', Ex c → Ext tw G0 H0 G' H' → E.x c none H'
  tb : tw.tabs = E.tabs
def lift (E : EK) (t : DT) : TE := fun σ H R => ∃ (tw : Tw) (G0 H0 G : Hp) (δ : Env) (Q : SV → Prop) (Ex : XP), At tw E G0 H0 G σ H δ Ex ∧ t δ Q Ex ∧
  ∀ s v G' H', Q s → VR tw H0 H G' H' v s → Ext tw G H G' H' → R v H'
def liftB (E : EK) (t : DB) : TT := fun σ H R => ∃ (tw : Tw) (G0 H0 G : Hp) (δ : Env) (Q : Bool → Prop) (Ex : XP), At tw E G0 H0 G σ H δ Ex ∧ t δ Q Ex ∧
  ∀ b G' H', Q b → Ext tw G H G' H' → R b H'
def FRs (tw : Tw) (G : Hp) : List V → List SV → Prop
  | [], [] => True
  | v :: vs, s :: ss => FR tw G v s ∧ FRs tw G vs ss
  | _, _ => False
theorem FRs.go {tw : Tw} {G G' : Hp} (e : Same G G') : ∀ {vs : List V} {ss : List SV}, FRs tw G vs ss → FRs tw G' vs ss
  | [], [], _ => trivial
  | _ :: _, _ :: _, h => ⟨h.1.go e, FRs.go e h.2⟩
  | [], _ :: _, h => h.elim
  | _ :: _, [], h => h.elim
theorem FRs.length {tw : Tw} {G : Hp} : ∀ {vs : List V} {ss : List SV}, FRs tw G vs ss → vs.length = ss.length
  | [], [], _ => rfl
  | _ :: _, _ :: _, h => by rw [List.length_cons, List.length_cons, FRs.length h.2]
  | [], _ :: _, h => h.elim
  | _ :: _, [], h => h.elim
/-- arguments, each frozen -/
def liftA (E : EK) (t : DA) : TA := fun σ H R => ∃ (tw : Tw) (G0 H0 G : Hp) (δ : Env) (Q : List SV → Prop) (Ex : XP), At tw E G0 H0 G σ H δ Ex ∧ t δ Q Ex ∧
  ∀ ss vs G' H', Q ss → FRs tw G' vs ss → Ext tw G H G' H' → R vs H'
section
variable {tw : Tw} {E : EK} {G0 H0 G H G' H' : Hp} {σ : L2.St} {δ : Env} {Ex : XP}
theorem At.go (a : At tw E G0 H0 G σ H δ Ex) (e : Ext tw G H G' H') : At tw E G0 H0 G' σ H' δ Ex := ⟨a.rep.go e, a.exc, a.tb⟩
theorem At.ok (a : At tw E G0 H0 G σ H δ Ex) : Ok tw G H := a.rep.ok
theorem At.self (a : At tw E G0 H0 G σ H δ Ex) : Ext tw G H G H := a.rep.ok.refl
end
/- weaker readings -/
section
variable {X : Cx} {e : Expr}
theorem peW {t t' : TE} (h : PE X e t) (w : ∀ σ H R, t' σ H R → t σ H R) : PE X e t' := ⟨fun p s σ H Q I q => h.run p s σ H Q I (w σ H Q q)⟩
theorem ptW {t t' : TT} (h : PT X e t) (w : ∀ σ H R, t' σ H R → t σ H R) : PT X e t' := ⟨fun p s σ H Q I q => h.run p s σ H Q I (w σ H Q q)⟩
theorem pwW {t t' : TT} (h : PW X e t) (w : ∀ σ H R, t' σ H R → t σ H R) : PW X e t' := ⟨fun b p s σ H Q I q => h.run b p s σ H Q I (w σ H Q q)⟩
theorem paW {es : List Expr} {t t' : TA} (h : PA X es t) (w : ∀ σ H R, t' σ H R → t σ H R) : PA X es t' := ⟨fun b p s σ H Q I q => h.run b p s σ H Q I (w σ H Q q)⟩
end
/-! ### names, constants -/
def vS (s : SV) (Q : SV → Prop) : Prop := match s with
  | .own l => Q (.bor l)
  | .ow c => Q (.bo c)
  | s => Q s
theorem vS_ow {c : OC} {Q : SV → Prop} : vS (.ow c) Q = Q (.bo c) := rfl
theorem vS_fo {c : OC} {Q : SV → Prop} : vS (.fo c) Q = Q (.fo c) := rfl
theorem vS_d {x : PyData} {Q : SV → Prop} : vS (.d x) Q = Q (.d x) := rfl
theorem vS_own {l : List PyData} {Q : SV → Prop} : vS (.own l) Q = Q (.bor l) := rfl
theorem vS_town {Q : SV → Prop} : vS .town Q = Q .town := rfl
theorem vS_v {x : V} {Q : SV → Prop} : vS (.v x) Q = Q (.v x) := rfl
def dVar (i : Nat) : DT := fun δ Q _ => match δ[i]? with
  | some (some s) => vS s Q
  | _ => False
def dC (s : SV) : DT := fun _ Q _ => Q s
section
variable {X : Cx} {E : EK} {pos : Pos}
theorem de_var {i : Nat} {x : Str} (hN : X.N[i]? = some x := by rfl) (hv : Vis X.env.scope x := by first | exact Or.inl rfl | exact Or.inr (Or.inl rfl) | exact Or.inr (Or.inr rfl))
    (hd : (x == ("__debug__" : Str)) = false := by decide) (hcd : (x == ("__classdict__" : Str)) = false := by decide) : PE X (.Name x pos) (lift E (dVar i)) := by
  refine peW (pe_var (i := i) hN hv hd hcd) ?_
  rintro σ H R ⟨tw, G0, H0, G, δ, Q, Ex, a, h, q⟩
  unfold dVar at h
  cases e : δ[i]? with
  | none => rw [e] at h; exact h.elim
  | some os =>
    cases os with
    | none => rw [e] at h; exact h.elim
    | some s =>
      obtain ⟨v, e1, e2⟩ := a.rep.sl i s e
      refine ⟨v, e1, ?_⟩
      rw [e] at h
      cases s with
      | own l => exact q _ v G H h e2 a.self
      | d x => exact q _ v G H h e2 a.self
      | bor l => exact e2.elim
      | ow c => exact q _ v G H h e2 a.self
      | bo c => exact e2.elim
      | fo c => exact q _ v G H h e2 a.self
      | town => exact q _ v G H h e2 a.self
      | v x => exact q _ v G H h e2 a.self
      | abs φ m => exact q _ v G H h e2 a.self
theorem de_c {e : Expr} {v : V} {s : SV} (h : PE X e (tC v)) (r : ∀ tw G, FR tw G v s) : PE X e (lift E (dC s)) := by
  refine peW h ?_
  rintro σ H R ⟨tw, G0, H0, G, δ, Q, Ex, a, h, q⟩
  exact q s v G H h (r tw G).vr a.self
theorem de_int {i : Int} {j} : PE X (.Constant (.int i) j pos) (lift E (dC (.d (.int i)))) := de_c pe_int fun _ _ => .int i
theorem de_bl {b : Bool} {j} : PE X (.Constant (.bool b) j pos) (lift E (dC (.d (.bool b)))) := de_c pe_bl fun _ _ => .bl b
theorem de_non {j} : PE X (.Constant .none j pos) (lift E (dC (.d .none))) := de_c pe_non fun _ _ => .non
theorem de_str {x : Str} {j} : PE X (.Constant (.str x) j pos) (lift E (dC (.d (.str x)))) := de_c pe_str fun _ _ => .str x
/-- a class, a type, a module's constant -/
theorem de_glob {x : Str} {v : V} {u : Value} (hg : Gl X x) (hm : X.mg x = some u) (r : RelV v u) (hd : (x == ("__debug__" : Str)) = false := by decide) : PE X (.Name x pos) (lift E (dC (.v v))) := de_c (pe_glob hg hm r hd) fun _ _ => rfl
theorem de_gint {x : Str} {i : Int} {u : Value} (hg : Gl X x) (hm : X.mg x = some u) (r : RelV (.int i) u) (hd : (x == ("__debug__" : Str)) = false := by decide) : PE X (.Name x pos) (lift E (dC (.d (.int i)))) := de_c (pe_glob hg hm r hd) fun _ _ => .int i
theorem de_bltn {x : Str} {v : V} {u : Value} (hg : Gl X x) (hm : X.mg x = none) (hv : bootBuiltins x = some u) (r : RelV v u) (hn : x ≠ "__name__" := by decide) (hd : (x == ("__debug__" : Str)) = false := by decide) : PE X (.Name x pos) (lift E (dC (.v v))) := de_c (pe_bltn hg hm hv r hn hd) fun _ _ => rfl
end
/-! ### operators by values -/
abbrev W2 := SV → SV → (SV → Prop) → Prop
/-- what a rule of two values gives -/
structure OpD (X : Cx) (f : Value → Value → Sem Value) (op : W2) : Prop where
  ex : ∃ r : R2, OpR X f r ∧ ∀ (tw : Tw) (H0 H G1 H1 : Hp) (x y : SV) (vx vy : V) (Q : SV → Prop) (R : VK), VR tw H0 H G1 H1 vx x → VR tw H0 H G1 H1 vy y → Ok tw G1 H1 → op x y Q →
    (∀ s v G2 H2, Q s → VR tw H0 H1 G2 H2 v s → Ext tw G1 H1 G2 H2 → R v H2) → r vx vy H1 R
theorem OpD.or {X : Cx} {f : Value → Value → Sem Value} {op op' : W2} (h : OpD X f op) (h' : OpD X f op') : OpD X f (fun x y Q => op x y Q ∨ op' x y Q) := by
  obtain ⟨r, o, k⟩ := h.ex
  obtain ⟨r', o', k'⟩ := h'.ex
  refine ⟨_, o.or o', fun tw H0 H G1 H1 x y vx vy Q R hx hy ok hq c => ?_⟩
  rcases hq with hq | hq
  · exact .inl (k tw H0 H G1 H1 x y vx vy Q R hx hy ok hq c)
  · exact .inr (k' tw H0 H G1 H1 x y vx vy Q R hx hy ok hq c)
theorem OpD.imp {X : Cx} {f : Value → Value → Sem Value} {op op' : W2} (h : OpD X f op) (w : ∀ x y Q, op' x y Q → op x y Q) : OpD X f op' := by
  obtain ⟨r, o, k⟩ := h.ex
  exact ⟨r, o, fun tw H0 H G1 H1 x y vx vy Q R hx hy ok hq c => k tw H0 H G1 H1 x y vx vy Q R hx hy ok (w x y Q hq) c⟩
def dOp (op : W2) (ta tb : DT) : DT := fun δ Q Ex => ta δ (fun x => tb δ (fun y => op x y Q) Ex) Ex
theorem lift_two {E : EK} {ta tb : DT} {op : W2} {r : R2} (k : ∀ (tw : Tw) (H0 H G1 H1 : Hp) (x y : SV) (vx vy : V) (Q : SV → Prop) (R : VK), VR tw H0 H G1 H1 vx x → VR tw H0 H G1 H1 vy y → Ok tw G1 H1 → op x y Q →
    (∀ s v G2 H2, Q s → VR tw H0 H1 G2 H2 v s → Ext tw G1 H1 G2 H2 → R v H2) → r vx vy H1 R) : ∀ σ H R, lift E (dOp op ta tb) σ H R → tOp r (lift E ta) (lift E tb) σ H R := by
  rintro σ H R ⟨tw, G0, H0, G, δ, Q, Ex, a, h, q⟩
  refine ⟨tw, G0, H0, G, δ, _, Ex, a, h, fun x vx G1 H1 hx rx e1 => ?_⟩
  refine ⟨tw, G0, H0, G1, δ, _, Ex, a.go e1, hx, fun y vy G2 H2 hy ry e2 => ?_⟩
  exact k tw H0 H G2 H2 x y vx vy Q R (rx.go e1.tk e2) (ry.from e1) e2.ok hy fun s v G3 H3 hs rs e3 => q s v G3 H3 hs (rs.from (e1.trans e2)) ((e1.trans e2).trans e3)
section
variable {X : Cx} {E : EK} {a b c : Expr} {ta tb tc : DT} {pos : Pos}
theorem de_op {o : Operator} {op : W2} (ho : OpD X (binaryOp o) op) (ha : PE X a (lift E ta)) (hb : PE X b (lift E tb)) : PE X (.BinOp a o b pos) (lift E (dOp op ta tb)) := by
  obtain ⟨r, or_, k⟩ := ho.ex
  exact peW (pe_op or_ ha hb) (lift_two k)
theorem de_cmp {o : CmpOp} {op : W2} (ho : OpD X (compareOp o) op) (ha : PE X a (lift E ta)) (hb : PE X b (lift E tb)) (hm : behindInMarks o b = false := by first | exact nomark _ | rfl) : PE X (.Compare a [o] [b] pos) (lift E (dOp op ta tb)) := by
  obtain ⟨r, or_, k⟩ := ho.ex
  exact peW (pe_cmpR or_ ha hb hm) (lift_two k)
end
/-! ### the operators -/
section
variable {X : Cx}
def wInt2 (g : Int → Int → PyData) : W2 := fun x y Q => match x, y with
  | .d (.int i), .d (.int j) => Q (.d (g i j))
  | _, _ => False
theorem VR.int {tw : Tw} {H0 H G1 H1 : Hp} {v : V} {i : Int} (h : VR tw H0 H G1 H1 v (.d (.int i))) : v = .int i := by
  have h' : WD G1 v (.int i) := h
  cases h'
  rfl
theorem od_int {f : Value → Value → Sem Value} {g : Int → Int → V} {gd : Int → Int → PyData} (h : OpR X f (rI0 g)) (k : ∀ G i j, WD G (g i j) (gd i j)) : OpD X f (wInt2 gd) := by
  refine ⟨_, h, fun tw H0 H G1 H1 x y vx vy Q R hx hy ok hq c => ?_⟩
  unfold wInt2 at hq
  split at hq
  · rename_i i j
    exact ⟨i, j, VR.int hx, VR.int hy, c _ _ G1 H1 hq (k G1 i j) ok.refl⟩
  · exact hq.elim
theorem od_lt : OpD X (compareOp .Lt) (wInt2 fun i j => .bool (decide (i < j))) := od_int op_lt fun _ _ _ => .bl _
theorem od_le : OpD X (compareOp .LtE) (wInt2 fun i j => .bool (decide (i ≤ j))) := od_int op_le fun _ _ _ => .bl _
theorem od_gt : OpD X (compareOp .Gt) (wInt2 fun i j => .bool (decide (j < i))) := od_int op_gt fun _ _ _ => .bl _
theorem od_ge : OpD X (compareOp .GtE) (wInt2 fun i j => .bool (decide (j ≤ i))) := od_int op_ge fun _ _ _ => .bl _
theorem od_sub : OpD X (binaryOp .Sub) (wInt2 fun i j => .int (i - j)) := od_int op_sub fun _ _ _ => .int _
/-- + : ints, texts, tuples, lists -/
def wAdd : W2 := fun x y Q => match x, y with
  | .d (.int i), .d (.int j) => Q (.d (.int (i + j)))
  | .d (.str i), .d (.str j) => i.length + j.length ≤ sizeLine ∧ Q (.d (.str (i ++ j)))
  | .d (.tuple xs), .d (.tuple ys) => xs.length + ys.length ≤ sizeLine ∧ Q (.d (.tuple (xs ++ ys)))
  | x, y => ∃ xs ys, asL x = some xs ∧ asL y = some ys ∧ xs.length + ys.length ≤ sizeLine ∧ Q (.own (xs ++ ys))
theorem VR.tup {tw : Tw} {H0 H G1 H1 : Hp} {v : V} {ds : List PyData} (h : VR tw H0 H G1 H1 v (.d (.tuple ds))) : ∃ a vs, v = .ref a ∧ G1 a = some (.tup vs) ∧ WDs G1 vs ds ∧ ds.length ≤ sizeLine := by
  have h' : WD G1 v (.tuple ds) := h
  cases h' with
  | tup h1 h2 h3 => exact ⟨_, _, rfl, h1, h3, h2⟩
theorem VR.str {tw : Tw} {H0 H G1 H1 : Hp} {v : V} {i : Str} (h : VR tw H0 H G1 H1 v (.d (.str i))) : v = .str i := by
  have h' : WD G1 v (.str i) := h
  cases h'
  rfl
theorem put_tup {tw : Tw} {G H : Hp} {p : Addr} {vs : List V} {ds : List PyData} (k : Ok tw G H) (hp : H p = none) (w : WDs G vs ds) (hz : ds.length ≤ sizeLine) : Ext tw G H (upd G p (.tup vs)) (upd H p (.tup vs)) ∧ WD (upd G p (.tup vs)) (.ref p) (.tuple ds) := by
  have e := k.put (o := .tup vs) hp
  exact ⟨e, .tup upd_same hz (WDs.mono e.gg _ _ w)⟩
theorem put_own {tw : Tw} {H0 G H : Hp} {p : Addr} {vs : List V} {ds : List PyData} (k : Ok tw G H) (hp : H p = none) (w : WDs G vs ds) (hz : ds.length ≤ sizeLine) : Ext tw G H G (upd H p (.lst vs)) ∧ VR tw H0 H G (upd H p (.lst vs)) (.ref p) (.own ds) := by
  refine ⟨k.putH hp, p, vs, rfl, upd_same, ?_, fr_none k.tk hp, w, hz⟩
  cases q : G p with
  | none => rfl
  | some u =>
    rw [k.gh p u q] at hp
    cases hp
theorem od_add : OpD X (binaryOp .Add) wAdd := by
  refine ⟨_, ((op_add.or op_add_str).or op_catA).or op_cat, fun tw H0 H G1 H1 x y vx vy Q R hx hy ok hq c => ?_⟩
  unfold wAdd at hq
  split at hq
  · rename_i i j
    exact .inl (.inl (.inl ⟨i, j, hx.int, hy.int, c _ _ G1 H1 hq (WD.int _) ok.refl⟩))
  · rename_i i j
    exact .inl (.inl (.inr ⟨i, j, hx.str, hy.str, hq.1, c _ _ G1 H1 hq.2 (WD.str _) ok.refl⟩))
  · rename_i xs ys
    obtain ⟨a, vs, rfl, e1, w1, z1⟩ := hx.tup
    obtain ⟨b, us, rfl, e2, w2, zz2⟩ := hy.tup
    have l1 := w1.length
    have l2 := w2.length
    refine .inl (.inr ⟨a, b, vs, us, rfl, rfl, .of (ok.gh _ _ e1), .of (ok.gh _ _ e2), by rw [l1, l2]; exact hq.1, fun z => ?_, fun z z2 => ?_, fun z z2 p hp => ?_⟩)
    · have z' : xs = [] := by rw [z] at l1; exact List.eq_nil_of_length_eq_zero l1.symm
      subst z'
      exact c _ _ G1 H1 hq.2 (WD.tup e2 zz2 w2) ok.refl
    · have z' : ys = [] := by rw [z2] at l2; exact List.eq_nil_of_length_eq_zero l2.symm
      subst z'
      refine c _ _ G1 H1 hq.2 (WD.tup e1 ?_ ?_) ok.refl
      · rw [List.append_nil]; exact z1
      · rw [List.append_nil]; exact w1
    · obtain ⟨e, w⟩ := put_tup ok hp (w1.append w2) (by rw [List.length_append]; exact hq.1)
      exact c _ _ _ _ hq.2 w e
  · obtain ⟨xs, ys, a1, a2, hz, hq⟩ := hq
    obtain ⟨a, vs, rfl, e1, w1, z1⟩ := hx.list ok.gh a1
    obtain ⟨b, us, rfl, e2, w2, z2⟩ := hy.list ok.gh a2
    refine .inr ⟨a, b, vs, us, rfl, rfl, e1, e2, by rw [w1.length, w2.length]; exact hz, fun p hp => ?_⟩
    obtain ⟨e, w⟩ := put_own (H0 := H0) ok hp (w1.append w2) (by rw [List.length_append]; exact hz)
    exact c _ _ _ _ hq w e
/-- == of data -/
def wEqD (g : Bool → Bool) : W2 := fun x y Q => ∃ dx dy, (asD x = some dx ∨ ∃ l, x = .bor l ∧ dx = .list l) ∧ (asD y = some dy ∨ ∃ l, y = .bor l ∧ dy = .list l) ∧ SeqAt.shaped dx = true ∧ SeqAt.shaped dy = true ∧ Q (.d (.bool (g (PyData.eqv dx dy))))
theorem VR.dp {K : PySem.W.Frag} {tw : Tw} {H0 H G1 H1 : Hp} {v : V} {s : SV} {dx : PyData} (h : VR tw H0 H G1 H1 v s) (e : Same G1 H1) (a : asD s = some dx ∨ ∃ l, s = .bor l ∧ dx = .list l) : Dp K H1 v dx := by
  rcases a with a | ⟨l, rfl, rfl⟩
  · cases s with
    | d x => cases a; exact WD.dp e _ _ h
    | own l =>
      cases a
      obtain ⟨a, vs, rfl, e2, _, _, e5, _⟩ := h
      exact .lst (.of e2) (WDs.dp e _ _ e5)
    | bor l => cases a
    | ow c => cases a
    | bo c => cases a
    | fo c => cases a
    | town => cases a
    | v x => cases a
    | abs φ m => cases a
  · obtain ⟨a, vs, rfl, e2, _, _, e5, _⟩ := h
    exact .lst (.of e2) (WDs.dp e _ _ e5)
theorem od_eq (hu : X.A.units + 64 < cLine) : OpD X (compareOp .Eq) (wEqD fun b => b) := by
  refine ⟨_, op_eqD hu, fun tw H0 H G1 H1 x y vx vy Q R hx hy ok hq c => ?_⟩
  obtain ⟨dx, dy, ax, ay, s1, s2, hq⟩ := hq
  exact ⟨dx, dy, hx.dp ok.gh ax, hy.dp ok.gh ay, s1, s2, c _ _ G1 H1 hq (WD.bl _) ok.refl⟩
theorem od_ne (hu : X.A.units + 64 < cLine) : OpD X (compareOp .NotEq) (wEqD fun b => !b) := by
  refine ⟨_, op_neD hu, fun tw H0 H G1 H1 x y vx vy Q R hx hy ok hq c => ?_⟩
  obtain ⟨dx, dy, ax, ay, s1, s2, hq⟩ := hq
  exact ⟨dx, dy, hx.dp ok.gh ax, hy.dp ok.gh ay, s1, s2, c _ _ G1 H1 hq (WD.bl _) ok.refl⟩
/-- is None -/
def isN : PyData → Bool
  | .none => true
  | _ => false
def wIsN (g : Bool → Bool) : W2 := fun x y Q => y = .d .none ∧ match x with
  | .d d => Q (.d (.bool (g (isN d))))
  | .bo _ => Q (.d (.bool (g false)))
  | _ => False
theorem WD.isnone {G : Hp} {v : V} {d : PyData} (h : WD G v d) : decide (v = .non) = isN d := by
  cases h <;> rfl
theorem od_isN : OpD X (compareOp .Is) (wIsN fun b => b) := by
  refine ⟨_, op_isN, fun tw H0 H G1 H1 x y vx vy Q R hx hy ok hq c => ?_⟩
  obtain ⟨rfl, hq⟩ := hq
  have hy' : WD G1 vy .none := hy
  cases hy'
  split at hq
  · refine ⟨rfl, c _ _ G1 H1 hq ?_ ok.refl⟩
    rw [WD.isnone hx]
    exact WD.bl _
  · obtain ⟨b, o, rfl, _⟩ := hx
    exact ⟨rfl, c _ _ G1 H1 hq (WD.bl _) ok.refl⟩
  · exact hq.elim
theorem od_notN : OpD X (compareOp .IsNot) (wIsN fun b => !b) := by
  refine ⟨_, op_notN, fun tw H0 H G1 H1 x y vx vy Q R hx hy ok hq c => ?_⟩
  obtain ⟨rfl, hq⟩ := hq
  have hy' : WD G1 vy .none := hy
  cases hy'
  split at hq
  · refine ⟨rfl, c _ _ G1 H1 hq ?_ ok.refl⟩
    rw [WD.isnone hx]
    exact WD.bl _
  · obtain ⟨b, o, rfl, _⟩ := hx
    exact ⟨rfl, c _ _ G1 H1 hq (WD.bl _) ok.refl⟩
  · exact hq.elim
end
end DL
/-! DL 3: more operators, places, slices, displays, tests. -/
namespace DL
open PySem PySem.Spec PyProof.Rows L2
/-! ### in, not in -/
def wIn (g : Bool → Bool) : W2 := fun x y Q => ∃ dx ys, asD x = some dx ∧ (asL y = some ys ∨ y = .d (.tuple ys)) ∧ SeqAt.shaped dx = true ∧ PyData.canLayAll0 ys = true ∧ Q (.d (.bool (g (ys.any fun z => PyData.eqv z dx))))
section
variable {X : Cx}
theorem room_in {A : Around} {n : Nat} {d : PyData} (h : SeqAt.shaped d = true) (hu : A.units + 65 < cLine) : A.units + 1 + min n d.depth < cLine := by
  have h1 := SeqAt.depth_of_shaped h
  have h2 : min n d.depth ≤ d.depth := Nat.min_le_right _ _
  omega
def rInB (K : PySem.W.Frag) (g : Bool → Bool) : R2 := fun x y H Q => ∃ d ds, Dp K H x d ∧ (Dp K H y (.list ds) ∨ Dp K H y (.tuple ds)) ∧ SeqAt.shaped d = true ∧ PyData.canLayAll0 ds = true ∧ Q (.bl (g (ds.any fun z => PyData.eqv z d))) H
theorem op_inB (hu : X.A.units + 65 < cLine) : OpR X (compareOp .In) (rInB X.K fun b => b) := by
  intro pins s σ H x y v u Q I rx ry h
  obtain ⟨d, ds, hd, he, sd, se, q⟩ := h
  obtain ⟨as, r1⟩ := Dp.reads I d x v hd rx
  rcases he with he | he
  · obtain ⟨bs, r2⟩ := Dp.reads I (.list ds) y u he ry
    exact SeqAt.in_list_reads r2 r1 se (SeqAt.canLay_of_shaped sd) (room_in sd hu) ⟨.bl _, H, I, rfl, q⟩
  · obtain ⟨bs, r2⟩ := Dp.reads I (.tuple ds) y u he ry
    exact SeqAt.in_tuple_reads r2 r1 se (SeqAt.canLay_of_shaped sd) (room_in sd hu) ⟨.bl _, H, I, rfl, q⟩
theorem op_notInB (hu : X.A.units + 65 < cLine) : OpR X (compareOp .NotIn) (rInB X.K fun b => !b) := by
  intro pins s σ H x y v u Q I rx ry h
  obtain ⟨d, ds, hd, he, sd, se, q⟩ := h
  obtain ⟨as, r1⟩ := Dp.reads I d x v hd rx
  rcases he with he | he
  · obtain ⟨bs, r2⟩ := Dp.reads I (.list ds) y u he ry
    exact SeqAt.notIn_list_reads r2 r1 se (SeqAt.canLay_of_shaped sd) (room_in sd hu) ⟨.bl _, H, I, rfl, q⟩
  · obtain ⟨bs, r2⟩ := Dp.reads I (.tuple ds) y u he ry
    exact SeqAt.notIn_tuple_reads r2 r1 se (SeqAt.canLay_of_shaped sd) (room_in sd hu) ⟨.bl _, H, I, rfl, q⟩
theorem VR.seqDp {K : PySem.W.Frag} {tw : Tw} {H0 H G1 H1 : Hp} {v : V} {s : SV} {ys : List PyData} (h : VR tw H0 H G1 H1 v s) (e : Same G1 H1) (a : asL s = some ys ∨ s = .d (.tuple ys)) : Dp K H1 v (.list ys) ∨ Dp K H1 v (.tuple ys) := by
  rcases a with a | rfl
  · obtain ⟨p, vs, rfl, e1, w, _⟩ := h.list e a
    exact .inl (.lst (.of e1) (WDs.dp e _ _ w))
  · exact .inr (WD.dp e _ _ h)
theorem od_in (hu : X.A.units + 65 < cLine) : OpD X (compareOp .In) (wIn fun b => b) := by
  refine ⟨_, op_inB hu, fun tw H0 H G1 H1 x y vx vy Q R hx hy ok hq c => ?_⟩
  obtain ⟨dx, ys, ax, ay, s1, s2, hq⟩ := hq
  exact ⟨dx, ys, hx.dp ok.gh (.inl ax), hy.seqDp ok.gh ay, s1, s2, c _ _ G1 H1 hq (WD.bl _) ok.refl⟩
theorem od_notIn (hu : X.A.units + 65 < cLine) : OpD X (compareOp .NotIn) (wIn fun b => !b) := by
  refine ⟨_, op_notInB hu, fun tw H0 H G1 H1 x y vx vy Q R hx hy ok hq c => ?_⟩
  obtain ⟨dx, ys, ax, ay, s1, s2, hq⟩ := hq
  exact ⟨dx, ys, hx.dp ok.gh (.inl ax), hy.seqDp ok.gh ay, s1, s2, c _ _ G1 H1 hq (WD.bl _) ok.refl⟩
/-! ### arithmetic with bounds -/
def wIntC (C : Int → Int → Prop) (g : Int → Int → Int) : W2 := fun x y Q => ∃ i j, x = .d (.int i) ∧ y = .d (.int j) ∧ C i j ∧ Q (.d (.int (g i j)))
theorem od_intC {f : Value → Value → Sem Value} {C : Int → Int → Prop} {g : Int → Int → Int} (h : OpR X f (rI C fun i j => .int (g i j))) : OpD X f (wIntC C g) := by
  refine ⟨_, h, fun tw H0 H G1 H1 x y vx vy Q R hx hy ok hq c => ?_⟩
  obtain ⟨i, j, rfl, rfl, hc, hq⟩ := hq
  exact ⟨i, j, hx.int, hy.int, hc, c _ _ G1 H1 hq (WD.int _) ok.refl⟩
theorem od_mod : OpD X (binaryOp .Mod) (wIntC (fun _ j => 0 < j) fun i j => i % j) := od_intC op_mod
theorem od_fdiv : OpD X (binaryOp .FloorDiv) (wIntC CDiv fun i j => i / j) := od_intC op_fdiv
theorem od_pow : OpD X (binaryOp .Pow) (wIntC CPow fun i j => i ^ j.toNat) := od_intC op_pow
end
/-! ### tuple times 0, 1 -/
section
variable {X : Cx}
theorem tuple_mul_one (l : Addr) (items : Array Value) (n : Nat) (dd : Option Addr) (sl : Array (Option Value)) (u : Tok) :
    Meets (Builtin.«tuple.__mul__» ⟨[.ref l, .int 1 u], []⟩) (fun _ R s => s.heap.get? l = some { cls := .type "tuple", dict := dd, data := .seq items n, slots := sl } ∧ R (.ok (.ret (.ref l))) s) :=
  .of_wp fun prog w A R s h => by
    obtain ⟨hp, g, d, tk, os⟩ := s
    obtain ⟨hl, h⟩ := h
    have f1 := AutoSeq1.idx_int
    have b1 : (items.isEmpty || (1 : Int) == 1) = true := by simp
    wp_walk using wpAny_loadPart' hl
    repeat (first
      | (refine wpAny_ite_true (decide_eq_true b1) ?_; wp_walk using wpAny_loadPart' hl)
      | (refine wpAny_ite_false (by decide) ?_; wp_walk using wpAny_loadPart' hl))
    exact ⟨_, rfl, h⟩
theorem tuple_mul_zero (l : Addr) (items : Array Value) (n : Nat) (dd : Option Addr) (sl : Array (Option Value)) (u : Tok) (hne : items.isEmpty = false) :
    Meets (Builtin.«tuple.__mul__» ⟨[.ref l, .int 0 u], []⟩) (fun _ R s => s.heap.get? l = some { cls := .type "tuple", dict := dd, data := .seq items n, slots := sl } ∧
      R (.ok (.ret (Value.ref s.heap.objs.size))) { s with heap := s.heap.push { cls := Value.type "tuple", data := Data.seq #[] }, toks := s.toks }) :=
  .of_wp fun prog w A R s h => by
    obtain ⟨hp, g, d, tk, os⟩ := s
    obtain ⟨hl, h⟩ := h
    have f1 := AutoSeq1.idx_int
    have b1 : (items.isEmpty || (0 : Int) == 1) = false := by simp [hne]
    have b2 : (decide ((0 : Int) ≤ 0) || items.isEmpty) = true := by simp
    wp_walk using wpAny_loadPart' hl
    repeat (first
      | (refine wpAny_ite_true (decide_eq_true b2) ?_; wp_walk using wpAny_loadPart' hl)
      | (refine wpAny_ite_false (decide_eq_false (by rw [b1]; exact Bool.false_ne_true)) ?_; wp_walk using wpAny_loadPart' hl)
      | (refine wpAny_ite_false (by decide) ?_; wp_walk using wpAny_loadPart' hl))
    exact ⟨_, rfl, h⟩
/-- t * 1 -/
def rRep1 (K : PySem.W.Frag) : R2 := fun x y H Q => ∃ l xs, x = .ref l ∧ y = .int 1 ∧ SqT K H l xs ∧ Q (.ref l) H
theorem op_rep1 : OpR X (binaryOp .Mult) (rRep1 X.K) := by
  intro pins s σ H x y v u Q I rx ry h
  obtain ⟨l, xs, rfl, rfl, hT, q⟩ := h
  cases rx
  obtain ⟨t, rfl⟩ := ry
  obtain ⟨its, r, ⟨⟨cls, dd, data, sl⟩, ho, hc, n, hd⟩, hs⟩ := I.tuple hT
  simp only at hc hd
  subst hc hd
  exact wpAny_binaryOp_repeat_ref (T := "tuple") (U := "int") (by decide) ⟨_, ho, rfl⟩ (fun s' => typeIs_int s' 1 t) noFill_tuple_mul F.fills_int_mul F.slot_int_rmul repeat_tuple F.slot_int_index.lookup
    (call_meets F.slot_int_rmul (typeIs_int s 1 t) F.entry_int_rmul (F.args_int_rmul_2 _ _) (int_rmul_tuple 1 t l its.toArray n dd sl)
      ⟨ho, rfl, ⟨_, ho, rfl⟩, call_meets F.slot_tuple_mul ⟨_, ho, rfl⟩ F.entry_tuple_mul (F.args_tuple_mul_2 _ _) (tuple_mul_one l its.toArray n dd sl t) ⟨ho, .ref l, H, I, rfl, q⟩⟩)
/-- t * 0 -/
def rRep0 (K : PySem.W.Frag) : R2 := fun x y H Q => ∃ l xs, x = .ref l ∧ y = .int 0 ∧ SqT K H l xs ∧ xs ≠ [] ∧ ∀ p, H p = none → Q (.ref p) (upd H p (.tup []))
theorem op_rep0 : OpR X (binaryOp .Mult) (rRep0 X.K) := by
  intro pins s σ H x y v u Q I rx ry h
  obtain ⟨l, xs, rfl, rfl, hT, hne, q⟩ := h
  cases rx
  obtain ⟨t, rfl⟩ := ry
  obtain ⟨its, r, ⟨⟨cls, dd, data, sl⟩, ho, hc, n, hd⟩, hs⟩ := I.tuple hT
  simp only at hc hd
  subst hc hd
  have hi : its.toArray.isEmpty = false := by
    cases its with
    | nil =>
      cases r
      exact absurd rfl hne
    | cons a b => rfl
  refine wpAny_binaryOp_repeat_ref (T := "tuple") (U := "int") (by decide) ⟨_, ho, rfl⟩ (fun s' => typeIs_int s' 0 t) noFill_tuple_mul F.fills_int_mul F.slot_int_rmul repeat_tuple F.slot_int_index.lookup
    (call_meets F.slot_int_rmul (typeIs_int s 0 t) F.entry_int_rmul (F.args_int_rmul_2 _ _) (int_rmul_tuple 0 t l its.toArray n dd sl)
      ⟨ho, rfl, ⟨_, ho, rfl⟩, call_meets F.slot_tuple_mul ⟨_, ho, rfl⟩ F.entry_tuple_mul (F.args_tuple_mul_2 _ _) (tuple_mul_zero l its.toArray n dd sl t hi) ⟨ho, ?_⟩⟩)
  refine ⟨.ref s.heap.objs.size, _, I.laid (t' := s.toks) (o := .tup []) (fun b ob q => Heap.get?_push_of_some _ q) (Nat.le_refl _) ?_, rfl, q _ (I.hok.fresh (Nat.le_refl _))⟩
  exact ⟨Nat.zero_le _, [], .nil, IsTup.new _ _⟩
/-- * : ints, a tuple times, a list times -/
def wMul : W2 := fun x y Q => match x, y with
  | .d (.int i), .d (.int j) => CMul i j ∧ Q (.d (.int (i * j)))
  | .d (.tuple xs), .d (.int k) => xs ≠ [] ∧ 0 ≤ k ∧ k ≤ 1000 ∧ xs.length ≤ 1000 ∧ Q (.d (.tuple (List.replicate k.toNat xs).flatten))
  | x, .d (.int k) => ∃ xs, asL x = some xs ∧ 0 ≤ k ∧ k ≤ 1000 ∧ xs.length ≤ 1000 ∧ Q (.own (List.replicate k.toNat xs).flatten)
  | _, _ => False
theorem flat_len {α : Type} (xs : List α) (k : Nat) : (List.replicate k xs).flatten.length = k * xs.length := by
  induction k with
  | zero => simp
  | succ k ih => rw [List.replicate_succ, List.flatten_cons, List.length_append, ih, Nat.succ_mul, Nat.add_comm]
theorem flat_small {α : Type} {xs : List α} {k : Nat} (h1 : k ≤ 1000) (h2 : xs.length ≤ 1000) : (List.replicate k xs).flatten.length ≤ sizeLine := by
  rw [flat_len, sizeLine_eq]
  have a1 : k * xs.length ≤ 1000 * 1000 := Nat.mul_le_mul h1 h2
  omega
theorem od_mul : OpD X (binaryOp .Mult) wMul := by
  refine ⟨_, (((op_mul.or op_rep1).or op_rep0).or op_repT).or op_rep, fun tw H0 H G1 H1 x y vx vy Q R hx hy ok hq c => ?_⟩
  unfold wMul at hq
  split at hq
  · rename_i i j
    exact .inl (.inl (.inl (.inl ⟨i, j, hx.int, hy.int, hq.1, c _ _ G1 H1 hq.2 (WD.int _) ok.refl⟩)))
  · rename_i xs k
    obtain ⟨hne, h0, h1, h2, hq⟩ := hq
    obtain ⟨a, vs, rfl, e1, w1, z1⟩ := hx.tup
    have l1 := w1.length
    have ek := hy.int
    subst ek
    by_cases c1 : k = 1
    · subst c1
      refine .inl (.inl (.inl (.inr ⟨a, vs, rfl, rfl, .of (ok.gh _ _ e1), c _ _ G1 H1 hq ?_ ok.refl⟩)))
      have z : (List.replicate (Int.toNat 1) xs).flatten = xs := by simp
      rw [z]
      exact WD.tup e1 z1 w1
    · have hvne : vs ≠ [] := fun z => by
        rw [z] at l1
        exact hne (List.eq_nil_of_length_eq_zero l1.symm)
      by_cases c0 : k = 0
      · subst c0
        refine .inl (.inl (.inr ⟨a, vs, rfl, rfl, .of (ok.gh _ _ e1), hvne, fun p hp => ?_⟩))
        obtain ⟨e, w⟩ := put_tup (vs := []) (ds := []) ok hp .nil (Nat.zero_le _)
        exact c _ _ _ _ hq w e
      · refine .inl (.inr ⟨a, k, vs, rfl, rfl, .of (ok.gh _ _ e1), hvne, by omega, h1, by omega, fun p hp => ?_⟩)
        obtain ⟨e, w⟩ := put_tup ok hp (w1.flat k.toNat) (flat_small (by omega) h2)
        exact c _ _ _ _ hq w e
  · obtain ⟨xs, a1, h0, h1, h2, hq⟩ := hq
    obtain ⟨a, vs, rfl, e1, w1, z1⟩ := hx.list ok.gh a1
    have ek := hy.int
    subst ek
    refine .inr ⟨a, _, vs, rfl, rfl, e1, by omega, by omega, ?_, fun p hp => ?_⟩
    · have l1 := w1.length
      rw [sizeLine_eq, l1, Nat.mul_comm]
      have a1 : Int.toNat ‹Int› * xs.length ≤ 1000 * 1000 := Nat.mul_le_mul (by omega) h2
      omega
    · exact c _ _ _ _ hq (put_own (H0 := H0) ok hp (w1.flat _) (flat_small (by omega) h2)).2 (put_own (H0 := H0) ok hp (w1.flat _) (flat_small (by omega) h2)).1
  · exact hq.elim
end
end DL
/-! DL 4: places, slices, displays, arguments, calls, tests. -/
namespace DL
open PySem PySem.Spec PyProof.Rows L2
/-! ### places -/
def wIx : W2 := fun x y Q => ∃ ds i d, (asL x = some ds ∨ x = .d (.tuple ds)) ∧ y = .d (.int i) ∧ atI ds i = some d ∧ Q (.d d)
theorem WDs.atI {G : Hp} {ds : List PyData} {vs : List V} {i : Int} {d : PyData} (h : WDs G vs ds) (e : L2.atI ds i = some d) : ∃ v, L2.atI vs i = some v ∧ WD G v d := by
  unfold L2.atI at e ⊢
  rw [h.length]
  cases q : ixN ds.length i with
  | none => rw [q] at e; cases e
  | some j =>
    rw [q] at e
    exact h.get e
section
variable {X : Cx} {E : EK} {a b c : Expr} {ta tb tc : DT} {pos : Pos}
theorem de_ix (ha : PE X a (lift E ta)) (hb : PE X b (lift E tb)) (hs : PlainIx b) : PE X (.Subscript a b pos) (lift E (dOp wIx ta tb)) := by
  refine peW (pe_ix (ix_list.or ix_tup) ha hb hs) (lift_two fun tw H0 H G1 H1 x y vx vy Q R hx hy ok hq k => ?_)
  obtain ⟨ds, i, d, ax, rfl, at_, hq⟩ := hq
  have ey := hy.int
  subst ey
  rcases ax with ax | rfl
  · obtain ⟨p, vs, rfl, e1, w, z⟩ := hx.list ok.gh ax
    obtain ⟨v, e2, wv⟩ := w.atI at_
    exact .inl ⟨p, vs, i, v, rfl, rfl, .of e1, e2, k _ _ G1 H1 hq wv ok.refl⟩
  · obtain ⟨p, vs, rfl, e1, w, z⟩ := hx.tup
    obtain ⟨v, e2, wv⟩ := w.atI at_
    exact .inr ⟨p, vs, i, v, rfl, rfl, .of (ok.gh _ _ e1), e2, k _ _ G1 H1 hq wv ok.refl⟩
/-! ### slices -/
abbrev DO := Env → (Option Int → Prop) → XP → Prop
def liftO (E : EK) (t : DO) : TO := fun σ H R => ∃ (tw : Tw) (G0 H0 G : Hp) (δ : Env) (Q : Option Int → Prop) (Ex : XP), At tw E G0 H0 G σ H δ Ex ∧ t δ Q Ex ∧
  ∀ b G' H', Q b → Ext tw G H G' H' → R b H'
theorem poW {e : Option Expr} {t t' : TO} (h : PO X e t) (w : ∀ σ H R, t' σ H R → t σ H R) : PO X e t' := ⟨fun p s σ H Q I q => h.run p s σ H Q I (w σ H Q q)⟩
def doNone : DO := fun _ Q _ => Q none
def doSome (t : DT) : DO := fun δ Q Ex => t δ (fun s => ∃ i, s = .d (.int i) ∧ Q (some i)) Ex
theorem do_none : PO X none (liftO E doNone) := by
  refine poW po_none ?_
  rintro σ H R ⟨tw, G0, H0, G, δ, Q, Ex, a, h, q⟩
  exact q none G H h a.self
theorem do_some (h : PE X a (lift E ta)) : PO X (some a) (liftO E (doSome ta)) := by
  refine poW (po_some h) ?_
  rintro σ H R ⟨tw, G0, H0, G, δ, Q, Ex, a, h, q⟩
  refine ⟨tw, G0, H0, G, δ, _, Ex, a, h, fun s v G1 H1 ⟨i, es, hq⟩ r e => ?_⟩
  subst es
  exact ⟨i, r.int, q _ G1 H1 hq e⟩
/-- the items of a slice -/
def cut (xs : List PyData) (lo hi : Option Int) : List PyData := (xs.drop (HT.sIx xs.length 0 lo)).take (HT.sIx xs.length xs.length hi - HT.sIx xs.length 0 lo)
theorem WDs.cut {G : Hp} {ds : List PyData} {vs : List V} (h : WDs G vs ds) (lo hi : Option Int) : WDs G (cutV vs lo hi) (cut ds lo hi) := by
  unfold cutV DL.cut
  rw [h.length]
  exact WDs.take _ (WDs.drop _ h)
theorem cut_len (ds : List PyData) (lo hi : Option Int) : (cut ds lo hi).length ≤ ds.length := by
  unfold cut
  rw [List.length_take, List.length_drop]
  omega
theorem cut_whole {ds : List PyData} {lo hi : Option Int} (h : HT.sIx ds.length 0 lo = 0 ∧ HT.sIx ds.length ds.length hi = ds.length) : cut ds lo hi = ds := by
  unfold cut
  rw [h.1, h.2]
  simp
def dSl (te : DT) (tl th : DO) : DT := fun δ Q Ex => te δ (fun x => tl δ (fun lo => th δ (fun hi => match x with
  | .d (.tuple ds) => Q (.d (.tuple (cut ds lo hi)))
  | x => ∃ ds, asL x = some ds ∧ Q (.own (cut ds lo hi))) Ex) Ex) Ex
theorem de_slice {lo hi : Option Expr} {tl th : DO} {p2 : Pos} (ha : PE X a (lift E ta)) (hl : PO X lo (liftO E tl)) (hh : PO X hi (liftO E th)) : PE X (.Subscript a (.Slice lo hi none p2) pos) (lift E (dSl ta tl th)) := by
  refine peW (pe_slice (sl_tupA.or sl_list) ha hl hh) ?_
  rintro σ H R ⟨tw, G0, H0, G, δ, Q, Ex, at_, h, q⟩
  refine ⟨tw, G0, H0, G, δ, _, Ex, at_, h, fun x vx G1 H1 hx rx e1 => ?_⟩
  refine ⟨tw, G0, H0, G1, δ, _, Ex, at_.go e1, hx, fun l G2 H2 hl e2 => ?_⟩
  refine ⟨tw, G0, H0, G2, δ, _, Ex, (at_.go e1).go e2, hl, fun u G3 H3 hu e3 => ?_⟩
  have e := (e1.trans e2).trans e3
  have rx3 := (rx.go e1.tk e2).go e2.tk e3
  have ok := e3.ok
  split at hu
  · rename_i ds
    obtain ⟨p, vs, rfl, g1, w, z⟩ := rx3.tup
    have hl := w.length
    refine .inl ⟨p, vs, rfl, .of (ok.gh _ _ g1), fun z2 => ?_, fun z2 p' hp => ?_⟩
    · rw [hl] at z2
      rw [cut_whole z2] at hu
      exact q _ _ G3 H3 hu (WD.tup g1 z w) e
    · obtain ⟨e4, w4⟩ := put_tup ok hp (w.cut l u) (Nat.le_trans (cut_len ds l u) z)
      exact q _ _ _ _ hu w4 (e.trans e4)
  · obtain ⟨ds, ax, hu⟩ := hu
    obtain ⟨p, vs, rfl, g1, w, z⟩ := rx3.list ok.gh ax
    refine .inr ⟨p, vs, rfl, .of g1, fun p' hp => ?_⟩
    obtain ⟨e4, w4⟩ := put_own (H0 := H0) ok hp (w.cut l u) (Nat.le_trans (cut_len ds l u) z)
    exact q _ _ _ _ hu (w4.from e) (e.trans e4)
/-! ### arguments -/
def fz (s : SV) (k : SV → Prop) : Prop := match asF s with
  | some s' => k s'
  | none => False
theorem fz_d {x : PyData} {k : SV → Prop} : fz (.d x) k = k (.d x) := rfl
theorem fz_own {x : List PyData} {k : SV → Prop} : fz (.own x) k = k (.d (.list x)) := rfl
theorem fz_ow {c : OC} {k : SV → Prop} : fz (.ow c) k = k (.fo c) := rfl
theorem fz_fo {c : OC} {k : SV → Prop} : fz (.fo c) k = k (.fo c) := rfl
theorem fz_town {k : SV → Prop} : fz .town k = k .town := rfl
theorem fz_v {x : V} {k : SV → Prop} : fz (.v x) k = k (.v x) := rfl
theorem fz_abs {φ m} {k : SV → Prop} : fz (.abs φ m) k = k (.abs φ m) := rfl
theorem fz_ex {s : SV} {k : SV → Prop} (h : fz s k) : ∃ s', asF s = some s' ∧ k s' := by
  unfold fz at h
  cases e : asF s with
  | none => rw [e] at h; exact h.elim
  | some s' => rw [e] at h; exact ⟨s', rfl, h⟩
def daNil : DA := fun _ Q _ => Q []
def daCons (t : DT) (u : DA) : DA := fun δ Q Ex => t δ (fun s => fz s fun s' => u δ (fun ss => Q (s' :: ss)) Ex) Ex
theorem da_nil : PA X [] (liftA E daNil) := by
  refine paW pa_nil ?_
  rintro σ H R ⟨tw, G0, H0, G, δ, Q, Ex, a, h, q⟩
  exact q [] [] G H h trivial a.self
theorem liftA_cons {t : DT} {u : DA} : ∀ σ H R, liftA E (daCons t u) σ H R → tCons (lift E t) (liftA E u) σ H R := by
  rintro σ H R ⟨tw, G0, H0, G, δ, Q, Ex, a, h, q⟩
  refine ⟨tw, G0, H0, G, δ, _, Ex, a, h, fun s v G1 H1 hs r e => ?_⟩
  obtain ⟨s', es, hs⟩ := fz_ex hs
  obtain ⟨G2, e2, sm, f⟩ := r.froze e es
  refine ⟨tw, G0, H0, G2, δ, _, Ex, a.go e2, hs, fun ss vs G3 H3 hss rs e3 => ?_⟩
  exact q _ (v :: vs) G3 H3 hss ⟨f.go e3.gg, rs⟩ (e2.trans e3)
theorem da_cons {es : List Expr} {u : DA} (ha : PE X a (lift E ta)) (hr : PA X es (liftA E u)) (hs : starEach (a :: es) X.env = (false, eval a X.env) :: starEach es X.env := by rfl) : PA X (a :: es) (liftA E (daCons ta u)) :=
  paW (pa_cons ha hr hs) liftA_cons
theorem pkW {es : List Keyword} {t t' : TA} (h : PK X es t) (w : ∀ σ H R, t' σ H R → t σ H R) : PK X es t' := ⟨fun b p s σ H Q I q => h.run b p s σ H Q I (w σ H Q q)⟩
theorem dk_nil : PK X [] (liftA E daNil) := by
  refine pkW pk_nil ?_
  rintro σ H R ⟨tw, G0, H0, G, δ, Q, Ex, a, h, q⟩
  exact q [] [] G H h trivial a.self
theorem dk_cons {nm : Option Str} {kpos : Pos} {kws : List Keyword} {u : DA} (ha : PE X a (lift E ta)) (hr : PK X kws (liftA E u)) : PK X (⟨nm, a, kpos⟩ :: kws) (liftA E (daCons ta u)) :=
  pkW (pk_cons ha hr) liftA_cons
/-! ### displays -/
def asDs : List SV → Option (List PyData)
  | [] => some []
  | .d x :: r => (asDs r).map (x :: ·)
  | _ :: _ => none
theorem FRs.wds {tw : Tw} {G : Hp} : ∀ {ss : List SV} {vs : List V} {ds : List PyData}, FRs tw G vs ss → asDs ss = some ds → WDs G vs ds
  | [], [], _, _, e => by cases e; exact .nil
  | [], _ :: _, _, h, _ => h.elim
  | s :: ss, [], _, h, _ => h.elim
  | .d x :: ss, v :: vs, ds, h, e => by
    unfold asDs at e
    cases q : asDs ss with
    | none => rw [q] at e; cases e
    | some r =>
      rw [q] at e
      cases e
      exact .cons h.1 (FRs.wds h.2 q)
  | .own _ :: _, _ :: _, _, _, e => by cases e
  | .bor _ :: _, _ :: _, _, _, e => by cases e
  | .ow _ :: _, _ :: _, _, _, e => by cases e
  | .bo _ :: _, _ :: _, _, _, e => by cases e
  | .fo _ :: _, _ :: _, _, _, e => by cases e
  | .town :: _, _ :: _, _, _, e => by cases e
  | .v _ :: _, _ :: _, _, _, e => by cases e
  | .abs _ _ :: _, _ :: _, _, _, e => by cases e
def dTup (ta : DA) : DT := fun δ Q Ex => ta δ (fun ss => ∃ ds, asDs ss = some ds ∧ ds.length ≤ 1000 ∧ Q (.d (.tuple ds))) Ex
def dLst (ta : DA) : DT := fun δ Q Ex => ta δ (fun ss => ∃ ds, asDs ss = some ds ∧ ds.length ≤ 1000 ∧ Q (.own ds)) Ex
theorem line1000 {n : Nat} (h : n ≤ 1000) : n ≤ sizeLine := Nat.le_of_lt (small1000 h)
theorem de_tup {es : List Expr} {u : DA} {x1} (h : PA X es (liftA E u)) : PE X (.Tuple es x1 pos) (lift E (dTup u)) := by
  refine peW (pe_tup h) ?_
  rintro σ H R ⟨tw, G0, H0, G, δ, Q, Ex, a, h, q⟩
  refine ⟨tw, G0, H0, G, δ, _, Ex, a, h, fun ss vs G1 H1 ⟨ds, e1, z, hq⟩ r e => ?_⟩
  have w := r.wds e1
  refine ⟨by rw [w.length]; exact line1000 z, fun p hp => ?_⟩
  obtain ⟨e2, w2⟩ := put_tup e.ok hp w (line1000 z)
  exact q _ _ _ _ hq w2 (e.trans e2)
theorem de_lst {es : List Expr} {u : DA} (h : PA X es (liftA E u)) : PE X (.List es pos) (lift E (dLst u)) := by
  refine peW (pe_lst h) ?_
  rintro σ H R ⟨tw, G0, H0, G, δ, Q, Ex, a, h, q⟩
  refine ⟨tw, G0, H0, G, δ, _, Ex, a, h, fun ss vs G1 H1 ⟨ds, e1, z, hq⟩ r e => ?_⟩
  have w := r.wds e1
  refine ⟨by rw [w.length]; exact line1000 z, fun p hp => ?_⟩
  obtain ⟨e2, w2⟩ := put_own (H0 := H0) e.ok hp w (line1000 z)
  exact q _ _ _ _ hq (w2.from e) (e.trans e2)
end
/-! ### calls of one's own defs -/
abbrev Spec := List SV → (SV → Prop) → XP → Prop
def spD (T : List (Addr × Str)) (sp : Spec) : Sp := fun vs H Q E => ∃ (tw : Tw) (G : Hp) (ss : List SV) (Qd : SV → Prop) (Ed : XP), tw.tabs = T ∧ Ok tw G H ∧ FRs tw G vs ss ∧ sp ss Qd Ed ∧
  (∀ s v G' H', Qd s → VR tw H H G' H' v s → Ext tw G H G' H' → Q v H') ∧ ∀ c G' H', Ed c → Ext tw G H G' H' → E c none H'
def dCall (sp : Spec) (ta : DA) : DT := fun δ Q Ex => ta δ (fun ss => sp ss Q Ex) Ex
theorem VR.ent {tw : Tw} {G0 H0 G H G1 H1 G2 H2 : Hp} {v : V} {s : SV} (h : VR tw H1 H1 G2 H2 v s) (e0 : Ext tw G0 H0 G1 H1) (e : Ext tw G H G1 H1) : VR tw H0 H G2 H2 v s := by
  cases s with
  | own l =>
    obtain ⟨a, vs, e1, e2, e3, e4, e5, e6⟩ := h
    exact ⟨a, vs, e1, e2, e3, e.free e4, e5, e6⟩
  | bor l =>
    obtain ⟨a, vs, e1, e2, e3, e4, e5, e6⟩ := h
    exact ⟨a, vs, e1, e2, e3, e0.free e4, e5, e6⟩
  | d x => exact h
  | ow c =>
    obtain ⟨a, u, e1, e2, e3, e4, e5, e6⟩ := h
    exact ⟨a, u, e1, e2, e3, e.free e4, e5, e6⟩
  | bo c =>
    obtain ⟨a, u, e1, e2, e3, e4, e5, e6⟩ := h
    exact ⟨a, u, e1, e2, e3, e0.free e4, e5, e6⟩
  | fo c => exact h
  | town => exact h
  | v x => exact h
  | abs φ m => exact h
theorem sp_at {tw : Tw} {E : EK} {G0 H0 G H : Hp} {σ : L2.St} {δ : Env} {Ex : XP} {sp : Spec} {Q : SV → Prop} {R : VK} (a : At tw E G0 H0 G σ H δ Ex) (q : ∀ s v G' H', Q s → VR tw H0 H G' H' v s → Ext tw G H G' H' → R v H')
    {ss : List SV} {vs : List V} {G1 H1 : Hp} (hs : sp ss Q Ex) (r : FRs tw G1 vs ss) (e : Ext tw G H G1 H1) : spD E.tabs sp vs H1 R E.x :=
  ⟨tw, G1, ss, Q, Ex, a.tb, e.ok, r, hs, fun s v G2 H2 h1 r2 e2 => q s v G2 H2 h1 (r2.ent (a.rep.ext.trans e) e) (e.trans e2), fun c G2 H2 hc e2 => a.exc c G2 H2 hc (a.rep.ext.trans (e.trans e2))⟩
section
variable {X : Cx} {E : EK} {CX : CXT} {k n : Nat} {f : Addr} {fd : FuncData} {ps ks : List Str} {sp : Spec} {x : Str} {p pos : Pos} {e : Expr} {es : List Expr} {ta tk : DA} {kws : List Keyword}
theorem de_call (F : FnOk X.prog X.w X.K X.mg X.base CX k f fd ps (spD E.tabs sp)) (hr : Room k X.A) (hg : Gl X x) (hm : X.mg x = some (.ref f)) (hk : PySem.W.keepIn X.K (.ref f) = true) (hb : Binds X.K fd ps []) (hx : Passes CX X E.x) (ha : PA X (e :: es) (liftA E ta))
    (hdb : (x == ("__debug__" : Str)) = false := by decide) (he : starEach (e :: es) X.env = (false, eval e X.env) :: starEach es X.env := by rfl) (hpl : (backTo pos (starEach es X.env)).any (·.1) = false := by rfl) :
    PE X (.Call (.Name x p) (e :: es) [] pos) (lift E (dCall sp ta)) := by
  refine peW (pe_call F hr hg hm hk hb .nil hx ha hdb he hpl) ?_
  rintro σ H R ⟨tw, G0, H0, G, δ, Q, Ex, a, h, q⟩
  refine ⟨tw, G0, H0, G, δ, _, Ex, a, h, fun ss vs G1 H1 hs r e => ?_⟩
  show spD E.tabs sp (vs ++ []) H1 R E.x
  rw [List.append_nil]
  exact sp_at a q hs r e
theorem de_call0 (F : FnOk X.prog X.w X.K X.mg X.base CX k f fd ps (spD E.tabs sp)) (hr : Room k X.A) (hg : Gl X x) (hm : X.mg x = some (.ref f)) (hk : PySem.W.keepIn X.K (.ref f) = true) (hb : Binds X.K fd ps []) (hx : Passes CX X E.x)
    (hdb : (x == ("__debug__" : Str)) = false := by decide) : PE X (.Call (.Name x p) [] [] pos) (lift E (dCall sp daNil)) := by
  refine peW (pe_call0 F hr hg hm hk hb .nil hx hdb) ?_
  rintro σ H R ⟨tw, G0, H0, G, δ, Q, Ex, a, h, q⟩
  exact sp_at a q (ss := []) (vs := []) h trivial a.self
def dCallK (sp : Spec) (n m : Nat) (ta tk : DA) : DT := fun δ Q Ex => ta δ (fun ss => tk δ (fun zs => ss.length = n ∧ zs.length = m ∧ sp (ss ++ zs) Q Ex) Ex) Ex
theorem FRs.app {tw : Tw} {G : Hp} : ∀ {vs us : List V} {ss zs : List SV}, FRs tw G vs ss → FRs tw G us zs → FRs tw G (vs ++ us) (ss ++ zs)
  | [], _, [], _, _, h => h
  | _ :: _, _, _ :: _, _, h, k => ⟨h.1, FRs.app h.2 k⟩
  | [], _, _ :: _, _, h, _ => h.elim
  | _ :: _, _, [], _, h, _ => h.elim
/-- keywords in the parameters' order -/
abbrev KB (K : PySem.W.Frag) (fd : FuncData) (ps : List Str) (n : Nat) (ks : List Str) : Prop := KBn K fd ps n ks (fun us ws => us ++ ws) (fun us ws => us ++ ws)
theorem KB.mk' {K : PySem.W.Frag} {fd : FuncData} {ps ks : List Str} {n : Nat} (h : ∀ (s : Shared) (us ws : List Value), us.length = n → ws.length = ks.length → BindsTo s fd ⟨us, ks.zip ws⟩ (ps.zip (us ++ ws))) : KB K fd ps n ks :=
  ⟨fun s us ws _ h1 h2 => h s us ws h1 h2, fun a b => a.append b⟩
theorem de_callK {m : Nat} (F : FnOk X.prog X.w X.K X.mg X.base CX k f fd ps (spD E.tabs sp)) (hr : Room k X.A) (hg : Gl X x) (hm : X.mg x = some (.ref f)) (hk : PySem.W.keepIn X.K (.ref f) = true) (hb : KB X.K fd ps n ks) (hx : Passes CX X E.x) (ha : PA X (e :: es) (liftA E ta)) (hkw : PK X kws (liftA E tk))
    (hall : (backToKw pos (keywordEach kws X.env)).all (·.1.isSome) = true := by rfl) (hks : (backToKw pos (keywordEach kws X.env)).filterMap (·.1) = ks := by rfl)
    (hm' : ks.length = m := by rfl) (hdb : (x == ("__debug__" : Str)) = false := by decide) (he : starEach (e :: es) X.env = (false, eval e X.env) :: starEach es X.env := by rfl)
    (hpl : ((backTo pos (starEach (e :: es) X.env)).any (·.1) || (backToKw pos (keywordEach kws X.env)).any (·.1.isNone)) = false := by rfl) :
    PE X (.Call (.Name x p) (e :: es) kws pos) (lift E (dCallK sp n m ta tk)) := by
  subst hm'
  refine peW (pe_callN F hr hg hm hk hb hx ha hkw hall hks hdb he hpl) ?_
  rintro σ H R ⟨tw, G0, H0, G, δ, Q, Ex, a, h, q⟩
  refine ⟨tw, G0, H0, G, δ, _, Ex, a, h, fun ss vs G1 H1 hs r e => ?_⟩
  refine ⟨tw, G0, H0, G1, δ, _, Ex, a.go e, hs, fun zs us G2 H2 hz rz e2 => ?_⟩
  exact ⟨r.length.trans hz.1, rz.length.trans hz.2.1, sp_at a q hz.2.2 (FRs.app (r.go e2.gg) rz) (e.trans e2)⟩
theorem pe_callN0 {sp : Sp} {tk : TA} {g : List Value → List Value → List Value} {gV : List V → List V → List V} (F : FnOk X.prog X.w X.K X.mg X.base CX k f fd ps sp) (hr : Room k X.A) (hg : Gl X x) (hm : X.mg x = some (.ref f)) (hk : PySem.W.keepIn X.K (.ref f) = true) (hb : KBn X.K fd ps 0 ks g gV) (hx : Passes CX X E.x) (hkw : PK X kws tk)
    (hall : (backToKw pos (keywordEach kws X.env)).all (·.1.isSome) = true := by rfl) (hks : (backToKw pos (keywordEach kws X.env)).filterMap (·.1) = ks := by rfl)
    (hdb : (x == ("__debug__" : Str)) = false := by decide) (hpl : ((backTo pos (starEach [] X.env)).any (·.1) || (backToKw pos (keywordEach kws X.env)).any (·.1.isNone)) = false := by rfl) :
    PE X (.Call (.Name x p) [] kws pos) (tCallN 0 ks.length sp gV E.x tNil tk) := by
  refine ⟨fun pins s σ H Q I h => ?_⟩
  refine wpAny_Call_Name_kw (ld_glob I hg hm ?_ hdb)
  refine PySem.W.callWith_KW0 (h₀ := X.base) I.ok.mod.kin hk hall (thn (hkw.run pos pins s σ H _ I h) fun ws s2 ⟨zs, H2, I2, rz, l1, l2, q2⟩ => ⟨I2.kIn, ?_⟩) hpl
  rw [hks]
  exact run_fnN (us := []) (vs := []) F hr hb hx I2 .nil rz l1 l2 q2
theorem de_callK0 {m : Nat} (F : FnOk X.prog X.w X.K X.mg X.base CX k f fd ps (spD E.tabs sp)) (hr : Room k X.A) (hg : Gl X x) (hm : X.mg x = some (.ref f)) (hk : PySem.W.keepIn X.K (.ref f) = true) (hb : KB X.K fd ps 0 ks) (hx : Passes CX X E.x) (hkw : PK X kws (liftA E tk))
    (hall : (backToKw pos (keywordEach kws X.env)).all (·.1.isSome) = true := by rfl) (hks : (backToKw pos (keywordEach kws X.env)).filterMap (·.1) = ks := by rfl)
    (hm' : ks.length = m := by rfl) (hdb : (x == ("__debug__" : Str)) = false := by decide) (hpl : ((backTo pos (starEach [] X.env)).any (·.1) || (backToKw pos (keywordEach kws X.env)).any (·.1.isNone)) = false := by rfl) :
    PE X (.Call (.Name x p) [] kws pos) (lift E (dCallK sp 0 m daNil tk)) := by
  subst hm'
  refine peW (pe_callN0 F hr hg hm hk hb hx hkw hall hks hdb hpl) ?_
  rintro σ H R ⟨tw, G0, H0, G, δ, Q, Ex, a, h, q⟩
  refine ⟨tw, G0, H0, G, δ, _, Ex, a, h, fun zs us G2 H2 hz rz e2 => ?_⟩
  exact ⟨hz.1, rz.length.trans hz.2.1, sp_at a q hz.2.2 rz e2⟩
end
end DL
/-! DL 5: tests, and, or, not, a if t else b; isinstance, len, sum, all, any, tuple, list, max. -/
namespace DL
open PySem PySem.Spec PyProof.Rows L2
section
variable {X : Cx} {E : EK} {a b c : Expr} {rest : List Expr} {ta tb tc : DT} {ba bb : DB} {pos : Pos}
/-! ### tests -/
def bVal (t : DT) : DB := fun δ Q Ex => t δ (fun s => ∃ b, s = .d (.bool b) ∧ Q b) Ex
theorem bVal_use {tw : Tw} {G0 H0 G H : Hp} {σ : L2.St} {δ : Env} {Ex : XP} {Q : Bool → Prop} {R : Bool → Hp → Prop} {t : DT} (a : At tw E G0 H0 G σ H δ Ex) (h : bVal t δ Q Ex) (q : ∀ b G' H', Q b → Ext tw G H G' H' → R b H') :
    lift E t σ H (fun x H1 => ∃ k, x = .bl k ∧ R k H1) := by
  refine ⟨tw, G0, H0, G, δ, _, Ex, a, h, fun s v G1 H1 ⟨b, es, hq⟩ r e => ?_⟩
  subst es
  have r' : WD G1 v (.bool b) := r
  cases r'
  exact ⟨b, rfl, q _ G1 H1 hq e⟩
theorem db_val (h : PE X a (lift E ta)) (he : ∀ whole, isTrue a X.env whole = (do let v ← whole; standAt a.pos; holding [v] (truthy v)) := by intro _; rfl) : PT X a (liftB E (bVal ta)) := by
  refine ptW (pt_val h he) ?_
  rintro σ H R ⟨tw, G0, H0, G, δ, Q, Ex, a, h, q⟩
  exact bVal_use a h q
theorem db_cmp {o : CmpOp} {op : W2} (ho : OpD X (compareOp o) op) (ha : PE X a (lift E ta)) (hb : PE X b (lift E tb)) (hm : behindInMarks o b = false := by first | exact nomark _ | rfl) : PT X (.Compare a [o] [b] pos) (liftB E (bVal (dOp op ta tb))) := by
  obtain ⟨r, or_, k⟩ := ho.ex
  refine ptW (pt_cmpR or_ ha hb hm) ?_
  rintro σ H R ⟨tw, G0, H0, G, δ, Q, Ex, a, h, q⟩
  exact lift_two k σ H _ (bVal_use a h q)
/-- a < b < c -/
def dChain (op op' : W2) (ta tb tc : DT) : DT := fun δ Q Ex => ta δ (fun x => tb δ (fun y => op x y fun z => ∃ k, z = .d (.bool k) ∧ if k = true then tc δ (fun w => op' y w Q) Ex else Q (.d (.bool false))) Ex) Ex
theorem lift_chain {op op' : W2} {r r' : R2} (k : ∀ (tw : Tw) (H0 H G1 H1 : Hp) (x y : SV) (vx vy : V) (Q : SV → Prop) (R : VK), VR tw H0 H G1 H1 vx x → VR tw H0 H G1 H1 vy y → Ok tw G1 H1 → op x y Q →
    (∀ s v G2 H2, Q s → VR tw H0 H1 G2 H2 v s → Ext tw G1 H1 G2 H2 → R v H2) → r vx vy H1 R)
    (k' : ∀ (tw : Tw) (H0 H G1 H1 : Hp) (x y : SV) (vx vy : V) (Q : SV → Prop) (R : VK), VR tw H0 H G1 H1 vx x → VR tw H0 H G1 H1 vy y → Ok tw G1 H1 → op' x y Q →
    (∀ s v G2 H2, Q s → VR tw H0 H1 G2 H2 v s → Ext tw G1 H1 G2 H2 → R v H2) → r' vx vy H1 R) : ∀ σ H R, lift E (dChain op op' ta tb tc) σ H R → tChain r r' (lift E ta) (lift E tb) (lift E tc) σ H R := by
  rintro σ H R ⟨tw, G0, H0, G, δ, Q, Ex, a, h, q⟩
  refine ⟨tw, G0, H0, G, δ, _, Ex, a, h, fun x vx G1 H1 hx rx e1 => ?_⟩
  refine ⟨tw, G0, H0, G1, δ, _, Ex, a.go e1, hx, fun y vy G2 H2 hy ry e2 => ?_⟩
  refine k tw H0 H G2 H2 x y vx vy _ _ (rx.go e1.tk e2) (ry.from e1) e2.ok hy fun s v G3 H3 ⟨b, es, hs⟩ rs e3 => ?_
  subst es
  have rs' : WD G3 v (.bool b) := rs
  cases rs'
  refine ⟨b, rfl, ?_⟩
  have e := (e1.trans e2).trans e3
  cases b with
  | true =>
    rw [if_pos rfl] at hs ⊢
    refine ⟨tw, G0, H0, G3, δ, _, Ex, a.go e, hs, fun w vw G4 H4 hw rw_ e4 => ?_⟩
    exact k' tw H0 H G4 H4 y w vy vw Q R (((ry.from e1).go e2.tk e3).go e3.tk e4) (rw_.from e) e4.ok hw fun s v G5 H5 hs5 r5 e5 => q s v G5 H5 hs5 (r5.from (e.trans e4)) ((e.trans e4).trans e5)
  | false =>
    rw [if_neg Bool.false_ne_true] at hs ⊢
    exact q _ _ G3 H3 hs (WD.bl _) e
theorem de_chain {o o' : CmpOp} {op op' : W2} (ho : OpD X (compareOp o) op) (ho' : OpD X (compareOp o') op') (ha : PE X a (lift E ta)) (hb : PE X b (lift E tb)) (hc : PE X c (lift E tc)) (hm : lastMarks [o, o'] [b, c] = false := by with_unfolding_all rfl) :
    PE X (.Compare a [o, o'] [b, c] pos) (lift E (dChain op op' ta tb tc)) := by
  obtain ⟨r, or_, k⟩ := ho.ex
  obtain ⟨r', or', k'⟩ := ho'.ex
  exact peW (pe_chain or_ or' ha hb hc hm) (lift_chain k k')
theorem db_chain {o o' : CmpOp} {op op' : W2} (ho : OpD X (compareOp o) op) (ho' : OpD X (compareOp o') op') (ha : PE X a (lift E ta)) (hb : PE X b (lift E tb)) (hc : PE X c (lift E tc)) (hm : lastMarks [o, o'] [b, c] = false := by with_unfolding_all rfl) :
    PT X (.Compare a [o, o'] [b, c] pos) (liftB E (bVal (dChain op op' ta tb tc))) := by
  obtain ⟨r, or_, k⟩ := ho.ex
  obtain ⟨r', or', k'⟩ := ho'.ex
  refine ptW (pt_chain or_ or' ha hb hc hm) ?_
  rintro σ H R ⟨tw, G0, H0, G, δ, Q, Ex, a, h, q⟩
  exact lift_chain k k' σ H _ (bVal_use a h q)
/-- truth -/
def truD : SV → Option Bool
  | .d .none => some false
  | .d (.bool b) => some b
  | .d (.int i) => some (i != 0)
  | .d (.tuple l) => some (!l.isEmpty)
  | s => (asL s).map fun l => !l.isEmpty
def bTru (t : DT) : DB := fun δ Q Ex => t δ (fun s => ∃ b, truD s = some b ∧ Q b) Ex
theorem WDs.emp {G : Hp} {ds : List PyData} {vs : List V} (h : WDs G vs ds) : (!ds.isEmpty) = !vs.isEmpty := by
  cases h <;> rfl
theorem truV_of {tw : Tw} {H0 H G1 H1 : Hp} {v : V} {s : SV} {b : Bool} (r : VR tw H0 H G1 H1 v s) (e : Same G1 H1) (t : truD s = some b) : TruV X.K v H1 b := by
  have lst : ∀ {l}, asL s = some l → (!l.isEmpty) = b → TruV X.K v H1 b := fun {l} a e2 => by
    obtain ⟨p, vs, rfl, e1, w, _⟩ := r.list e a
    exact .inl ⟨vs, .of e1, by rw [← e2]; exact w.emp⟩
  unfold truD at t
  split at t
  · have r' : WD G1 v .none := r
    cases r'
    cases t
    rfl
  · have r' : WD G1 v (.bool _) := r
    cases r'
    cases t
    rfl
  · have e2 := VR.int r
    subst e2
    cases t
    rfl
  · obtain ⟨p, vs, rfl, e1, w, _⟩ := VR.tup r
    cases t
    exact .inr (.inl ⟨vs, .of (e _ _ e1), w.emp⟩)
  · cases q : asL s with
    | none => rw [q] at t; cases t
    | some l =>
      rw [q] at t
      exact lst q (Option.some.inj t)
theorem db_tru (h : PE X a (lift E ta)) (he : ∀ whole, isTrue a X.env whole = (do let v ← whole; standAt a.pos; holding [v] (truthy v)) := by intro _; rfl) : PT X a (liftB E (bTru ta)) := by
  refine ptW (pt_truth h he) ?_
  rintro σ H R ⟨tw, G0, H0, G, δ, Q, Ex, a, h, q⟩
  refine ⟨tw, G0, H0, G, δ, _, Ex, a, h, fun s v G1 H1 ⟨b, es, hq⟩ r e => ?_⟩
  exact ⟨b, truV_of r e.gh es, q _ G1 H1 hq e⟩
def bNot (t : DB) : DB := fun δ Q Ex => t δ (fun b => Q (!b)) Ex
def bAnd (t u : DB) : DB := fun δ Q Ex => t δ (fun b => if b = true then u δ Q Ex else Q false) Ex
def bOr (t u : DB) : DB := fun δ Q Ex => t δ (fun b => if b = true then Q true else u δ Q Ex) Ex
theorem db_not (h : PT X a (liftB E ba)) : PT X (.UnaryOp .Not a pos) (liftB E (bNot ba)) := by
  refine ptW (pt_not h) ?_
  rintro σ H R ⟨tw, G0, H0, G, δ, Q, Ex, a, h, q⟩
  exact ⟨tw, G0, H0, G, δ, _, Ex, a, h, fun b G1 H1 hb e => q _ G1 H1 hb e⟩
theorem dw_one_and (h : PT X a (liftB E ba)) : PW X (.BoolOp .And [a] pos) (liftB E ba) := pw_and1 h
theorem dw_one_or (h : PT X a (liftB E ba)) : PW X (.BoolOp .Or [a] pos) (liftB E ba) := pw_or1 h
theorem lift_ite {tw : Tw} {G0 H0 G H G1 H1 : Hp} {σ : L2.St} {δ : Env} {Ex : XP} {Q : Bool → Prop} {R : Bool → Hp → Prop} {u : DB} (a : At tw E G0 H0 G σ H δ Ex) (h : u δ Q Ex) (e : Ext tw G H G1 H1) (q : ∀ b G' H', Q b → Ext tw G H G' H' → R b H') : liftB E u σ H1 R :=
  ⟨tw, G0, H0, G1, δ, _, Ex, a.go e, h, fun b G2 H2 hb e2 => q b G2 H2 hb (e.trans e2)⟩
theorem dw_and (ha : PT X a (liftB E ba)) (hb : PW X (.BoolOp .And (b :: rest) pos) (liftB E bb)) : PW X (.BoolOp .And (a :: b :: rest) pos) (liftB E (bAnd ba bb)) := by
  refine pwW (pw_and ha hb) ?_
  rintro σ H R ⟨tw, G0, H0, G, δ, Q, Ex, a, h, q⟩
  refine ⟨tw, G0, H0, G, δ, _, Ex, a, h, fun b G1 H1 hb e => ?_⟩
  cases b with
  | true => exact lift_ite a hb e q
  | false => exact q false G1 H1 hb e
theorem dw_or (ha : PT X a (liftB E ba)) (hb : PW X (.BoolOp .Or (b :: rest) pos) (liftB E bb)) : PW X (.BoolOp .Or (a :: b :: rest) pos) (liftB E (bOr ba bb)) := by
  refine pwW (pw_or ha hb) ?_
  rintro σ H R ⟨tw, G0, H0, G, δ, Q, Ex, a, h, q⟩
  refine ⟨tw, G0, H0, G, δ, _, Ex, a, h, fun b G1 H1 hb e => ?_⟩
  cases b with
  | true => exact q true G1 H1 hb e
  | false => exact lift_ite a hb e q
theorem db_w (h : PW X a (liftB E ba)) : PT X a (liftB E ba) := h.pt
/-! ### and, or, not as values; a if t else b -/
def dAnd (t u : DT) : DT := fun δ Q Ex => t δ (fun s => ∃ b, s = .d (.bool b) ∧ if b = true then u δ Q Ex else Q (.d (.bool false))) Ex
def dOr (t u : DT) : DT := fun δ Q Ex => t δ (fun s => ∃ b, s = .d (.bool b) ∧ if b = true then Q (.d (.bool true)) else u δ Q Ex) Ex
def dNot (t : DT) : DT := fun δ Q Ex => t δ (fun s => ∃ b, s = .d (.bool b) ∧ Q (.d (.bool (!b)))) Ex
def dIf (t : DB) (u w : DT) : DT := fun δ Q Ex => t δ (fun b => if b = true then u δ Q Ex else w δ Q Ex) Ex
theorem lift_go {tw : Tw} {G0 H0 G H G1 H1 : Hp} {σ : L2.St} {δ : Env} {Ex : XP} {Q : SV → Prop} {R : VK} {u : DT} (a : At tw E G0 H0 G σ H δ Ex) (h : u δ Q Ex) (e : Ext tw G H G1 H1) (q : ∀ s v G' H', Q s → VR tw H0 H G' H' v s → Ext tw G H G' H' → R v H') : lift E u σ H1 R :=
  ⟨tw, G0, H0, G1, δ, _, Ex, a.go e, h, fun s v G2 H2 hb r e2 => q s v G2 H2 hb (r.from e) (e.trans e2)⟩
theorem de_one {o} (h : PE X a (lift E ta)) : PE X (.BoolOp o [a] pos) (lift E ta) := pe_one h
theorem de_and (ha : PE X a (lift E ta)) (hb : PE X (.BoolOp .And (b :: rest) pos) (lift E tb)) : PE X (.BoolOp .And (a :: b :: rest) pos) (lift E (dAnd ta tb)) := by
  refine peW (pe_and ha hb) ?_
  rintro σ H R ⟨tw, G0, H0, G, δ, Q, Ex, a, h, q⟩
  refine ⟨tw, G0, H0, G, δ, _, Ex, a, h, fun s v G1 H1 ⟨b, es, hs⟩ r e => ?_⟩
  subst es
  have r' : WD G1 v (.bool b) := r
  cases r'
  refine ⟨b, rfl, ?_⟩
  cases b with
  | true => exact lift_go a hs e q
  | false => exact q _ _ G1 H1 hs (WD.bl _) e
theorem de_or (ha : PE X a (lift E ta)) (hb : PE X (.BoolOp .Or (b :: rest) pos) (lift E tb)) : PE X (.BoolOp .Or (a :: b :: rest) pos) (lift E (dOr ta tb)) := by
  refine peW (pe_or ha hb) ?_
  rintro σ H R ⟨tw, G0, H0, G, δ, Q, Ex, a, h, q⟩
  refine ⟨tw, G0, H0, G, δ, _, Ex, a, h, fun s v G1 H1 ⟨b, es, hs⟩ r e => ?_⟩
  subst es
  have r' : WD G1 v (.bool b) := r
  cases r'
  refine ⟨b, rfl, ?_⟩
  cases b with
  | true => exact q _ _ G1 H1 hs (WD.bl _) e
  | false => exact lift_go a hs e q
theorem de_not (ha : PE X a (lift E ta)) : PE X (.UnaryOp .Not a pos) (lift E (dNot ta)) := by
  refine peW (pe_not ha) ?_
  rintro σ H R ⟨tw, G0, H0, G, δ, Q, Ex, a, h, q⟩
  refine ⟨tw, G0, H0, G, δ, _, Ex, a, h, fun s v G1 H1 ⟨b, es, hs⟩ r e => ?_⟩
  subst es
  have r' : WD G1 v (.bool b) := r
  cases r'
  exact ⟨b, rfl, q _ _ G1 H1 hs (WD.bl _) e⟩
theorem de_if (hc : PT X c (liftB E ba)) (ha : PE X a (lift E ta)) (hb : PE X b (lift E tb)) : PE X (.IfExp c a b pos) (lift E (dIf ba ta tb)) := by
  refine peW (pe_ifExp hc ha hb) ?_
  rintro σ H R ⟨tw, G0, H0, G, δ, Q, Ex, a, h, q⟩
  refine ⟨tw, G0, H0, G, δ, _, Ex, a, h, fun b G1 H1 hs e => ?_⟩
  cases b with
  | true => exact lift_go a hs e q
  | false => exact lift_go a hs e q
/-! ### unary minus -/
def dNeg (t : DT) : DT := fun δ Q Ex => t δ (fun s => ∃ i, s = .d (.int i) ∧ Q (.d (.int (-i)))) Ex
theorem de_neg (ha : PE X a (lift E ta)) : PE X (.UnaryOp .USub a pos) (lift E (dNeg ta)) := by
  refine peW (pe_un un_neg ha) ?_
  rintro σ H R ⟨tw, G0, H0, G, δ, Q, Ex, a, h, q⟩
  refine ⟨tw, G0, H0, G, δ, _, Ex, a, h, fun s v G1 H1 ⟨i, es, hs⟩ r e => ?_⟩
  subst es
  exact ⟨i, r.int, q _ _ G1 H1 hs (WD.int _) e⟩
/-! ### built-ins of one argument -/
/-- a call of a built-in by one value -/
structure OneD (X : Cx) (f : Value) (op : SV → (SV → Prop) → Prop) : Prop where
  ex : ∃ r : List V → Hp → VK → Prop, CallR X f r ∧ ∀ (tw : Tw) (H0 H G1 H1 : Hp) (x : SV) (vx : V) (Q : SV → Prop) (R : VK), VR tw H0 H G1 H1 vx x → Ok tw G1 H1 → op x Q →
    (∀ s v G2 H2, Q s → VR tw H0 H1 G2 H2 v s → Ext tw G1 H1 G2 H2 → R v H2) → r [vx] H1 R
def dOne (op : SV → (SV → Prop) → Prop) (t : DT) : DT := fun δ Q Ex => t δ (fun s => op s Q) Ex
theorem lift_one {op : SV → (SV → Prop) → Prop} {r : List V → Hp → VK → Prop} (k : ∀ (tw : Tw) (H0 H G1 H1 : Hp) (x : SV) (vx : V) (Q : SV → Prop) (R : VK), VR tw H0 H G1 H1 vx x → Ok tw G1 H1 → op x Q →
    (∀ s v G2 H2, Q s → VR tw H0 H1 G2 H2 v s → Ext tw G1 H1 G2 H2 → R v H2) → r [vx] H1 R) : ∀ σ H R, lift E (dOne op ta) σ H R → tCB r (tCons (lift E ta) tNil) σ H R := by
  rintro σ H R ⟨tw, G0, H0, G, δ, Q, Ex, a, h, q⟩
  refine ⟨tw, G0, H0, G, δ, _, Ex, a, h, fun x vx G1 H1 hx rx e1 => ?_⟩
  exact k tw H0 H G1 H1 x vx Q R rx e1.ok hx fun s v G2 H2 hs rs e2 => q s v G2 H2 hs (rs.from e1) (e1.trans e2)
theorem de_b1 {id : String} {op : SV → (SV → Prop) → Prop} {x : Str} {p : Pos} (ho : OneD X (.builtin id) op) (hm : X.mg x = none) (hv : bootBuiltins x = some (.builtin id)) (ha : PE X a (lift E ta)) (hg : Gl X x := by rfl) (hn : x ≠ "__name__" := by decide) (hdb : (x == ("__debug__" : Str)) = false := by decide)
    (he : starEach (a :: []) X.env = (false, eval a X.env) :: starEach [] X.env := by rfl) (hpl : (backTo pos (starEach [] X.env)).any (·.1) = false := by rfl) : PE X (.Call (.Name x p) [a] [] pos) (lift E (dOne op ta)) := by
  obtain ⟨r, or_, k⟩ := ho.ex
  exact peW (pe_callB or_ hg hm hv (pa_cons ha pa_nil he) hn hdb he hpl) (lift_one k)
theorem de_t1 {T : String} {op : SV → (SV → Prop) → Prop} {x : Str} {p : Pos} (ho : OneD X (.type T) op) (hm : X.mg x = none) (hv : bootBuiltins x = some (.type T)) (ha : PE X a (lift E ta)) (hg : Gl X x := by rfl) (hn : x ≠ "__name__" := by decide) (hdb : (x == ("__debug__" : Str)) = false := by decide)
    (he : starEach (a :: []) X.env = (false, eval a X.env) :: starEach [] X.env := by rfl) (hpl : (backTo pos (starEach [] X.env)).any (·.1) = false := by rfl) : PE X (.Call (.Name x p) [a] [] pos) (lift E (dOne op ta)) := by
  obtain ⟨r, or_, k⟩ := ho.ex
  exact peW (pe_callTy or_ hg hm hv (pa_cons ha pa_nil he) hn hdb he hpl) (lift_one k)
/-- items of a list, held or not, or of a tuple -/
def asS : SV → Option (List PyData)
  | .d (.tuple l) => some l
  | s => asL s
theorem asS_cases {s : SV} {l : List PyData} (h : asS s = some l) : asL s = some l ∨ s = .d (.tuple l) := by
  unfold asS at h
  split at h
  · cases h; exact .inr rfl
  · exact .inl h
theorem VR.seq {K : PySem.W.Frag} {tw : Tw} {H0 H G1 H1 : Hp} {v : V} {s : SV} {l : List PyData} (r : VR tw H0 H G1 H1 v s) (e : Same G1 H1) (h : asS s = some l) : ∃ a vs, v = .ref a ∧ (SqL K H1 a vs ∨ SqT K H1 a vs) ∧ WDs G1 vs l ∧ l.length ≤ sizeLine := by
  rcases asS_cases h with h | rfl
  · obtain ⟨p, vs, rfl, e1, w, z⟩ := r.list e h
    exact ⟨p, vs, rfl, .inl (.of e1), w, z⟩
  · obtain ⟨p, vs, rfl, e1, w, z⟩ := r.tup
    exact ⟨p, vs, rfl, .inr (.of (e _ _ e1)), w, z⟩
def oLen : SV → (SV → Prop) → Prop := fun s Q => ∃ l, asS s = some l ∧ Q (.d (.int (l.length : Nat)))
theorem one_len : OneD X (.builtin "len") oLen := by
  refine ⟨_, call_len_seq, fun tw H0 H G1 H1 x vx Q R hx ok hq c => ?_⟩
  obtain ⟨l, el, hq⟩ := hq
  obtain ⟨a, vs, rfl, sq, w, z⟩ := hx.seq (K := X.K) ok.gh el
  refine ⟨a, vs, rfl, sq, c _ _ G1 H1 hq ?_ ok.refl⟩
  rw [w.length]
  exact WD.int _
def oTuple : SV → (SV → Prop) → Prop := fun s Q => ∃ l, asS s = some l ∧ Q (.d (.tuple l))
theorem one_tuple : OneD X (.type "tuple") oTuple := by
  refine ⟨_, call_tuple_of, fun tw H0 H G1 H1 x vx Q R hx ok hq c => ?_⟩
  obtain ⟨l, el, hq⟩ := hq
  rcases asS_cases el with h | rfl
  · obtain ⟨p, vs, rfl, e1, w, z⟩ := hx.list ok.gh h
    refine ⟨p, vs, rfl, .inl ⟨.of e1, fun q hq' => ?_⟩⟩
    obtain ⟨e2, w2⟩ := put_tup ok hq' w z
    exact c _ _ _ _ hq w2 e2
  · obtain ⟨p, vs, rfl, e1, w, z⟩ := hx.tup
    exact ⟨p, vs, rfl, .inr ⟨.of (ok.gh _ _ e1), c _ _ G1 H1 hq (WD.tup e1 z w) ok.refl⟩⟩
def oList : SV → (SV → Prop) → Prop := fun s Q => ∃ l, asS s = some l ∧ Q (.own l)
theorem one_list : OneD X (.type "list") oList := by
  refine ⟨_, call_list_of, fun tw H0 H G1 H1 x vx Q R hx ok hq c => ?_⟩
  obtain ⟨l, el, hq⟩ := hq
  obtain ⟨a, vs, rfl, sq, w, z⟩ := hx.seq (K := X.K) ok.gh el
  refine ⟨a, vs, rfl, sq, fun q hq' => ?_⟩
  obtain ⟨e2, w2⟩ := put_own (H0 := H0) ok hq' w z
  exact c _ _ _ _ hq w2 e2
def oAll (f : List Bool → Bool) : SV → (SV → Prop) → Prop := fun s Q => ∃ bs, asL s = some (bs.map .bool) ∧ Q (.d (.bool (f bs)))
theorem one_all (hc : X.calm = true) : OneD X (.builtin "all") (oAll fun bs => bs.all id) := by
  refine ⟨_, cr_all hc, fun tw H0 H G1 H1 x vx Q R hx ok hq c => ?_⟩
  obtain ⟨bs, el, hq⟩ := hq
  obtain ⟨a, vs, rfl, e1, w, z⟩ := hx.list ok.gh el
  have ev := w.bools
  subst ev
  exact ⟨a, bs, rfl, .of e1, c _ _ G1 H1 hq (WD.bl _) ok.refl⟩
theorem one_any (hc : X.calm = true) : OneD X (.builtin "any") (oAll fun bs => bs.any id) := by
  refine ⟨_, cr_any hc, fun tw H0 H G1 H1 x vx Q R hx ok hq c => ?_⟩
  obtain ⟨bs, el, hq⟩ := hq
  obtain ⟨a, vs, rfl, e1, w, z⟩ := hx.list ok.gh el
  have ev := w.bools
  subst ev
  exact ⟨a, bs, rfl, .of e1, c _ _ G1 H1 hq (WD.bl _) ok.refl⟩
/-! ### isinstance, a built-in class -/
def tyD : PyData → String
  | .none => "NoneType"
  | .bool _ => "bool"
  | .int _ => "int"
  | .str _ => "str"
  | .list _ => "list"
  | .tuple _ => "tuple"
  | .dict _ => "dict"
/-- what isinstance says of data -/
def isiD (T : String) (x : PyData) : Bool := tyD x == T || (T == "int" && tyD x == "bool")
theorem WD.ty {K : PySem.W.Frag} {G H : Hp} {v : V} {x : PyData} (h : WD G v x) (e : Same G H) : TyX K H v (.type (tyD x)) := by
  cases h with
  | non => exact .base .non
  | bl b => exact .base (.bl b)
  | int i => exact .base (.int i)
  | str x => exact .base (.str x)
  | lst h1 _ _ => exact .base (.lst (e _ _ h1))
  | tup h1 _ _ => exact .base (.tup (e _ _ h1))
def KitT (T : String) : Prop := ∀ x : PyData, (∀ k, x ≠ .dict k) → kitB (tyD x) T = some (isiD T x)
theorem kitT_of {T : String} (h1 : kitB "NoneType" T = some (isiD T .none)) (h2 : kitB "bool" T = some (isiD T (.bool true))) (h3 : kitB "int" T = some (isiD T (.int 0))) (h4 : kitB "str" T = some (isiD T (.str ⟨#[]⟩))) (h5 : kitB "list" T = some (isiD T (.list []))) (h6 : kitB "tuple" T = some (isiD T (.tuple []))) : KitT T := fun x hx => by
  cases x with
  | none => exact h1
  | bool b => exact h2
  | int i => exact h3
  | str s => exact h4
  | list l => exact h5
  | tuple l => exact h6
  | dict k => exact absurd rfl (hx k)
theorem kitT_int : KitT "int" := kitT_of (by decide +kernel) (by decide +kernel) (by decide +kernel) (by decide +kernel) (by decide +kernel) (by decide +kernel)
theorem kitT_bool : KitT "bool" := kitT_of (by decide +kernel) (by decide +kernel) (by decide +kernel) (by decide +kernel) (by decide +kernel) (by decide +kernel)
theorem kitT_tuple : KitT "tuple" := kitT_of (by decide +kernel) (by decide +kernel) (by decide +kernel) (by decide +kernel) (by decide +kernel) (by decide +kernel)
theorem kitT_str : KitT "str" := kitT_of (by decide +kernel) (by decide +kernel) (by decide +kernel) (by decide +kernel) (by decide +kernel) (by decide +kernel)
def oIsi (T : String) : SV → (SV → Prop) → Prop := fun s Q => ∃ x, asD s = some x ∧ Q (.d (.bool (isiD T x)))
theorem asD_ty {tw : Tw} {H0 H G1 H1 : Hp} {v : V} {s : SV} {x : PyData} (r : VR tw H0 H G1 H1 v s) (e : Same G1 H1) (h : asD s = some x) : TyX X.K H1 v (.type (tyD x)) ∧ ∀ k, x ≠ .dict k := by
  cases s with
  | d y =>
    cases h
    refine ⟨WD.ty r e, fun k z => ?_⟩
    subst z
    cases r
  | own l =>
    cases h
    obtain ⟨a, vs, rfl, e2, _⟩ := r
    exact ⟨.base (.lst e2), fun k z => by cases z⟩
  | bor l => cases h
  | ow c => cases h
  | bo c => cases h
  | fo c => cases h
  | town => cases h
  | v x => cases h
  | abs φ m => cases h
theorem de_isi {T : String} {tn : Str} {p p2 : Pos} (kt : KitT T) (hm : X.mg "isinstance" = none) (hm2 : X.mg tn = none) (hv2 : bootBuiltins tn = some (.type T)) (ha : PE X a (lift E ta)) (hg : Gl X "isinstance" := by rfl) (hg2 : Gl X tn := by rfl)
    (hn2 : tn ≠ "__name__" := by decide) (hd2 : (tn == ("__debug__" : Str)) = false := by decide) (he : starEach [a, .Name tn p2] X.env = (false, eval a X.env) :: starEach [.Name tn p2] X.env := by rfl) (hpl : (backTo pos (starEach [.Name tn p2] X.env)).any (·.1) = false := by rfl) :
    PE X (.Call (.Name "isinstance" p) [a, .Name tn p2] [] pos) (lift E (dOne (oIsi T) ta)) := by
  have h2 : PE X (.Name tn p2) (tC (.ty T)) := pe_bltn hg2 hm2 hv2 rfl hn2 hd2
  refine peW (pe_callB call_isi hg hm (by decide +kernel) (pa_cons ha (pa_cons h2 pa_nil) he) (by decide) (by decide) he hpl) ?_
  rintro σ H R ⟨tw, G0, H0, G, δ, Q, Ex, a, h, q⟩
  refine ⟨tw, G0, H0, G, δ, _, Ex, a, h, fun s v G1 H1 ⟨x, es, hs⟩ r e => ?_⟩
  obtain ⟨t1, t2⟩ := asD_ty (X := X) r e.gh es
  exact ⟨v, .ty T, .type (tyD x), .type T, isiD T x, rfl, .ty T, t1, kit_ty (kt x t2), q _ _ G1 H1 hs (WD.bl _) e⟩
end
end DL
/-! DL 6: statements. -/
namespace DL
open PySem PySem.Spec PyProof.Rows L2
structure DE where
  nx : Env → Prop
  rt : SV → Prop
  bk : Env → Prop := fun _ => False
  ct : Env → Prop := fun _ => False
abbrev DS := DE → Env → XP → Prop
/-- what is handed back: bor (a slot's own list) is a new list for the caller -/
def rtS (De : DE) (s : SV) : Prop := match s with
  | .bor l => De.rt (.own l)
  | .bo c => De.rt (.ow c)
  | s => De.rt s
structure Goes (tw : Tw) (G0 H0 : Hp) (De : DE) (D : Ends) : Prop where
  nx : ∀ δ G σ H, De.nx δ → Rep tw G0 H0 G σ H δ → D.nx σ H
  bk : ∀ δ G σ H, De.bk δ → Rep tw G0 H0 G σ H δ → D.bk σ H
  ct : ∀ δ G σ H, De.ct δ → Rep tw G0 H0 G σ H δ → D.ct σ H
  rt : ∀ s v G H, De.rt s → VR tw H0 H0 G H v s → Ext tw G0 H0 G H → D.rt v H
def liftS (E : EK) (t : DS) : TS := fun D σ H => ∃ (tw : Tw) (G0 H0 G : Hp) (δ : Env) (De : DE) (Ex : XP), At tw E G0 H0 G σ H δ Ex ∧ t De δ Ex ∧ Goes tw G0 H0 De D
section
variable {X : Cx} {E : EK} {st : Stmt} {sts : List Stmt} {e c : Expr} {t u : DS} {te : DT} {tb : DB} {pos : Pos}
theorem psW {t t' : TS} (h : PS X st t) (w : ∀ D σ H, t' D σ H → t D σ H) : PS X st t' := ⟨fun p s σ H D I q => h.run p s σ H D I (w D σ H q)⟩
theorem pssW {t t' : TS} (h : PSs X sts t) (w : ∀ D σ H, t' D σ H → t D σ H) : PSs X sts t' := ⟨fun p s σ H D I q => h.run p s σ H D I (w D σ H q)⟩
def sNext : DS := fun De δ _ => De.nx δ
def sSeq (t u : DS) : DS := fun De δ Ex => t { De with nx := fun δ' => u De δ' Ex } δ Ex
theorem ds_nil : PSs X [] (liftS E sNext) := by
  refine pssW pss_nil ?_
  rintro D σ H ⟨tw, G0, H0, G, δ, De, Ex, a, h, g⟩
  exact g.nx δ G σ H h a.rep
theorem ds_cons (h1 : PS X st (liftS E t)) (h2 : PSs X sts (liftS E u)) : PSs X (st :: sts) (liftS E (sSeq t u)) := by
  refine pssW (pss_cons h1 h2) ?_
  rintro D σ H ⟨tw, G0, H0, G, δ, De, Ex, a, h, g⟩
  exact ⟨tw, G0, H0, G, δ, _, Ex, a, h, fun δ' G' σ' H' hn r => ⟨tw, G0, H0, G', δ', De, Ex, ⟨r, a.exc, a.tb⟩, hn, g⟩, g.bk, g.ct, g.rt⟩
theorem ds_one (h1 : PS X st (liftS E t)) : PSs X [st] (liftS E t) := pss_one h1
def sBreak : DS := fun De δ _ => De.bk δ
def sCont : DS := fun De δ _ => De.ct δ
theorem ds_pass : PS X (.Pass pos) (liftS E sNext) := by
  refine psW ps_pass ?_
  rintro D σ H ⟨tw, G0, H0, G, δ, De, Ex, a, h, g⟩
  exact g.nx δ G σ H h a.rep
theorem ds_break : PS X (.Break pos) (liftS E sBreak) := by
  refine psW ps_break ?_
  rintro D σ H ⟨tw, G0, H0, G, δ, De, Ex, a, h, g⟩
  exact g.bk δ G σ H h a.rep
theorem ds_cont : PS X (.Continue pos) (liftS E sCont) := by
  refine psW ps_continue ?_
  rintro D σ H ⟨tw, G0, H0, G, δ, De, Ex, a, h, g⟩
  exact g.ct δ G σ H h a.rep
/-- an expression alone -/
def sExpr (te : DT) : DS := fun De δ Ex => te δ (fun _ => De.nx δ) Ex
theorem ds_expr (he : PE X e (lift E te)) (hs : swapsWith e none pos.line X.env = pure false := by rfl) : PS X (.Expr e pos) (liftS E (sExpr te)) := by
  refine psW (ps_expr he hs) ?_
  rintro D σ H ⟨tw, G0, H0, G, δ, De, Ex, a, h, g⟩
  exact ⟨tw, G0, H0, G, δ, _, Ex, a, h, fun s v G1 H1 hn r e => g.nx δ G1 σ H1 hn (a.rep.go e)⟩
def sRet (te : DT) : DS := fun De δ Ex => te δ (rtS De) Ex
theorem rt_go {tw : Tw} {G0 H0 G H : Hp} {De : DE} {D : Ends} {s : SV} {v : V} {G1 H1 : Hp} (g : Goes tw G0 H0 De D) (h : rtS De s) (r : VR tw H0 H G1 H1 v s) (e0 : Ext tw G0 H0 G H) (e : Ext tw G H G1 H1) : D.rt v H1 := by
  cases s with
  | bor l => exact g.rt (.own l) v G1 H1 h r (e0.trans e)
  | own l =>
    obtain ⟨a, vs, e1, e2, e3, e4, e5, e6⟩ := r
    exact g.rt (.own l) v G1 H1 h ⟨a, vs, e1, e2, e3, e0.free e4, e5, e6⟩ (e0.trans e)
  | d x => exact g.rt _ v G1 H1 h r (e0.trans e)
  | bo c => exact g.rt (.ow c) v G1 H1 h r (e0.trans e)
  | ow c =>
    obtain ⟨a, u, e1, e2, e3, e4, e5, e6⟩ := r
    exact g.rt (.ow c) v G1 H1 h ⟨a, u, e1, e2, e3, e0.free e4, e5, e6⟩ (e0.trans e)
  | fo c => exact g.rt _ v G1 H1 h r (e0.trans e)
  | town => exact g.rt _ v G1 H1 h r (e0.trans e)
  | v x => exact g.rt _ v G1 H1 h r (e0.trans e)
  | abs φ m => exact g.rt _ v G1 H1 h r (e0.trans e)
theorem ds_ret (he : PE X e (lift E te)) : PS X (.Return (some e) pos) (liftS E (sRet te)) := by
  refine psW (ps_ret he) ?_
  rintro D σ H ⟨tw, G0, H0, G, δ, De, Ex, a, h, g⟩
  exact ⟨tw, G0, H0, G, δ, _, Ex, a, h, fun s v G1 H1 hn r e => rt_go g hn r a.rep.ext e⟩
def sIf (tb : DB) (t u : DS) : DS := fun De δ Ex => tb δ (fun b => if b = true then t De δ Ex else u De δ Ex) Ex
theorem ds_if {p q : List Stmt} (hc : PT X c (liftB E tb)) (h1 : PSs X p (liftS E t)) (h2 : PSs X q (liftS E u)) : PS X (.If c p q pos) (liftS E (sIf tb t u)) := by
  refine psW (ps_if hc h1 h2) ?_
  rintro D σ H ⟨tw, G0, H0, G, δ, De, Ex, a, h, g⟩
  refine ⟨tw, G0, H0, G, δ, _, Ex, a, h, fun b G1 H1 hn e => ?_⟩
  cases b with
  | true => exact ⟨tw, G0, H0, G1, δ, De, Ex, a.go e, hn, g⟩
  | false => exact ⟨tw, G0, H0, G1, δ, De, Ex, a.go e, hn, g⟩
/-! ### stores -/
theorem Rep.set {tw : Tw} {G0 H0 G H : Hp} {σ : L2.St} {δ : Env} {i : Nat} {v : V} {s : SV} (r : Rep tw G0 H0 G σ H δ) (h : SR tw H0 G H v s) (n : ∀ a, Mine s → v = .ref a → ∀ (j : Nat) s', j ≠ i → δ[j]? = some (some s') → Mine s' → σ[j]? ≠ some (some (.ref a))) : Rep tw G0 H0 G (σ.set i (some v)) H (δ.set i (some s)) := by
  refine ⟨r.ext, by rw [List.length_set, List.length_set, r.len], fun j s' hj => ?_, fun j k l l' a hj hk mj mk sj sk => ?_⟩
  · by_cases e : i = j
    · subst e
      by_cases hi : i < δ.length
      · rw [List.getElem?_set_self hi] at hj
        cases hj
        exact ⟨v, by rw [List.getElem?_set_self (by rw [r.len]; exact hi)], h⟩
      · rw [List.getElem?_eq_none (by rw [List.length_set]; omega)] at hj
        cases hj
    · rw [List.getElem?_set_ne e] at hj ⊢
      exact r.sl j s' hj
  · by_cases ej : i = j
    · by_cases ek : i = k
      · rw [← ej, ek]
      · subst ej
        rw [List.getElem?_set_ne ek] at hk sk
        have hi : i < δ.length := by
          by_cases q : i < δ.length
          · exact q
          · rw [List.getElem?_eq_none (by rw [List.length_set]; omega)] at hj
            cases hj
        rw [List.getElem?_set_self hi] at hj
        rw [List.getElem?_set_self (by rw [r.len]; exact hi)] at sj
        cases hj
        cases sj
        exact absurd sk (n a mj rfl k l' (Ne.symm ek) hk mk)
    · by_cases ek : i = k
      · subst ek
        rw [List.getElem?_set_ne ej] at hj sj
        have hi : i < δ.length := by
          by_cases q : i < δ.length
          · exact q
          · rw [List.getElem?_eq_none (by rw [List.length_set]; omega)] at hk
            cases hk
        rw [List.getElem?_set_self hi] at hk
        rw [List.getElem?_set_self (by rw [r.len]; exact hi)] at sk
        cases hk
        cases sk
        exact absurd sj (n a mk rfl j l (Ne.symm ej) hj mj)
      · rw [List.getElem?_set_ne ej] at hj sj
        rw [List.getElem?_set_ne ek] at hk sk
        exact r.own j k l l' a hj hk mj mk sj sk
/-- a value goes into a slot: a new list is the slot's own -/
def stO (i : Nat) (δ : Env) (s : SV) (k : Env → Prop) : Prop := match s with
  | .bor _ => False
  | .bo _ => False
  | s => k (δ.set i (some s))
theorem Mine.at {tw : Tw} {G0 H0 G H : Hp} {σ : L2.St} {δ : Env} {j : Nat} {s : SV} {a : Addr} (r : Rep tw G0 H0 G σ H δ) (m : Mine s) (h : δ[j]? = some (some s)) (e : σ[j]? = some (some (.ref a))) : ∃ o, H a = some o ∧ G a = none ∧ Fr tw H0 a ∧ ¬ Vol tw a ∧ NL o := by
  obtain ⟨v, e1, f⟩ := r.sl j s h
  rw [e] at e1
  cases e1
  cases s with
  | own l =>
    obtain ⟨b, vs, g1, g2, g3, g4, _⟩ := f
    cases g1
    exact ⟨_, g2, g3, g4, Ext.nonvol r.ext.tk g2, trivial⟩
  | ow c =>
    obtain ⟨b, o, g1, g2, g3, g4, g5, g6⟩ := f
    cases g1
    exact ⟨_, g2, g3, g4, g5, g6.nl⟩
  | d x => exact m.elim
  | bor l => exact m.elim
  | bo c => exact m.elim
  | fo c => exact m.elim
  | town => exact m.elim
  | v x => exact m.elim
  | abs φ m2 => exact m.elim
theorem stO_use {tw : Tw} {G0 H0 G H G1 H1 : Hp} {σ : L2.St} {δ : Env} {i : Nat} {v : V} {s : SV} {k : Env → Prop} (r : Rep tw G0 H0 G σ H δ) (h : stO i δ s k) (w : VR tw H0 H G1 H1 v s) (e : Ext tw G H G1 H1) :
    ∃ δ', k δ' ∧ Rep tw G0 H0 G1 (σ.set i (some v)) H1 δ' := by
  have r1 := r.go e
  have key : ∀ {b : Addr}, Fr tw H b → ∀ a, V.ref b = V.ref a → ∀ (j : Nat) s', j ≠ i → δ[j]? = some (some s') → Mine s' → σ[j]? ≠ some (some (.ref a)) := fun {b} hb a ev j s' hj hd m hs => by
    cases ev
    obtain ⟨o, q, _, _, _, nt⟩ := Mine.at r m hd hs
    exact hb.ne q nt rfl
  cases s with
  | bor l => exact h.elim
  | bo c => exact h.elim
  | own l =>
    obtain ⟨b, vs, e1, e2, e3, e4, e5, e6⟩ := w
    subst e1
    exact ⟨_, h, r1.set ⟨b, vs, rfl, e2, e3, r.ext.free e4, e5, e6⟩ fun a _ ev => key e4 a ev⟩
  | ow c =>
    obtain ⟨b, o, e1, e2, e3, e4, e5, e6⟩ := w
    subst e1
    exact ⟨_, h, r1.set ⟨b, o, rfl, e2, e3, r.ext.free e4, e5, e6⟩ fun a _ ev => key e4 a ev⟩
  | fo c => exact ⟨_, h, r1.set w fun _ z => z.elim⟩
  | d x => exact ⟨_, h, r1.set w fun _ z => z.elim⟩
  | town => exact ⟨_, h, r1.set w fun _ z => z.elim⟩
  | v x => exact ⟨_, h, r1.set w fun _ z => z.elim⟩
  | abs φ m => exact ⟨_, h, r1.set w fun _ z => z.elim⟩
def sSet (i : Nat) (te : DT) : DS := fun De δ Ex => te δ (fun s => stO i δ s De.nx) Ex
theorem ds_set {i : Nat} {x : Str} {pos' : Pos} (hN : X.N.Nodup) (hi : X.N[i]? = some x) (hx : Loc X.env.scope x) (he : PE X e (lift E te)) (hs : swapsWith e (some (.Name x pos')) pos.line X.env = pure false := by rfl)
    (hf : X.fn x = true ∨ X.env.scope.names.lookup x = some .local := by first | exact .inl rfl | exact .inr rfl | assumption) : PS X (.Assign [.Name x pos'] e pos) (liftS E (sSet i te)) := by
  refine psW (ps_set hN hi hx he hs hf) ?_
  rintro D σ H ⟨tw, G0, H0, G, δ, De, Ex, a, h, g⟩
  refine ⟨tw, G0, H0, G, δ, _, Ex, a, h, fun s v G1 H1 hn r e => ?_⟩
  obtain ⟨δ', k, r'⟩ := stO_use a.rep hn r e
  exact g.nx _ _ _ _ k r'
/-- .. frozen -/
def sSetF (i : Nat) (te : DT) : DS := fun De δ Ex => te δ (fun s => fz s fun s' => De.nx (δ.set i (some s'))) Ex
theorem fz_use {tw : Tw} {G0 H0 G H G1 H1 : Hp} {σ : L2.St} {δ : Env} {i : Nat} {v : V} {s : SV} {k : Env → Prop} (r : Rep tw G0 H0 G σ H δ) (h : fz s fun s' => k (δ.set i (some s'))) (w : VR tw H0 H G1 H1 v s) (e : Ext tw G H G1 H1) :
    ∃ δ' G2, k δ' ∧ Rep tw G0 H0 G2 (σ.set i (some v)) H1 δ' := by
  obtain ⟨s', es, hs⟩ := fz_ex h
  obtain ⟨G2, e2, sm, f⟩ := w.froze e es
  exact ⟨_, G2, hs, (r.go e2).set f.sr fun a m => (f.notMine m).elim⟩
theorem ds_setF {i : Nat} {x : Str} {pos' : Pos} (hN : X.N.Nodup) (hi : X.N[i]? = some x) (hx : Loc X.env.scope x) (he : PE X e (lift E te)) (hs : swapsWith e (some (.Name x pos')) pos.line X.env = pure false := by rfl)
    (hf : X.fn x = true ∨ X.env.scope.names.lookup x = some .local := by first | exact .inl rfl | exact .inr rfl | assumption) : PS X (.Assign [.Name x pos'] e pos) (liftS E (sSetF i te)) := by
  refine psW (ps_set hN hi hx he hs hf) ?_
  rintro D σ H ⟨tw, G0, H0, G, δ, De, Ex, a, h, g⟩
  refine ⟨tw, G0, H0, G, δ, _, Ex, a, h, fun s v G1 H1 hn r e => ?_⟩
  obtain ⟨δ', G2, k, r'⟩ := fz_use a.rep hn r e
  exact g.nx _ _ _ _ k r'
/-! ### targets, for data -/
abbrev DG := PyData → Env → (Env → Prop) → Prop
/-- only slots of ns changed -/
def Dif (ns : List Nat) (σ σ' : L2.St) : Prop := σ'.length = σ.length ∧ ∀ i, i ∉ ns → σ'[i]? = σ[i]?
theorem Dif.trans {ns ms : List Nat} {σ σ1 σ2 : L2.St} (a : Dif ns σ σ1) (b : Dif ms σ1 σ2) : Dif (ns ++ ms) σ σ2 :=
  ⟨b.1.trans a.1, fun i h => (b.2 i fun z => h (List.mem_append_right _ z)).trans (a.2 i fun z => h (List.mem_append_left _ z))⟩
def liftG (ns : List Nat) (t : DG) : TG := fun v σ H R => ∃ (tw : Tw) (G0 H0 G : Hp) (δ : Env) (x : PyData) (Q : Env → Prop), Rep tw G0 H0 G σ H δ ∧ WD G v x ∧ t x δ Q ∧ ∀ δ' σ', Q δ' → Rep tw G0 H0 G σ' H δ' → Dif ns σ σ' → R σ' H
theorem pgW {t t' : TG} {tg : Expr} (h : PG X tg t) (w : ∀ v σ H R, t' v σ H R → t v σ H R) : PG X tg t' := ⟨fun p s σ H v u Q I r q => h.run p s σ H v u Q I r (w v σ H Q q)⟩
def gN (i : Nat) : DG := fun x δ Q => Q (δ.set i (some (.d x)))
theorem dg_name {i : Nat} {x : Str} (hN : X.N.Nodup) (hi : X.N[i]? = some x) (hx : Loc X.env.scope x) (hf : X.fn x = true ∨ X.env.scope.names.lookup x = some .local := by first | exact .inl rfl | exact .inr rfl | assumption) : PG X (.Name x pos) (liftG [i] (gN i)) := by
  refine pgW (pg_name hN hi hx hf) ?_
  rintro v σ H R ⟨tw, G0, H0, G, δ, x, Q, r, w, h, q⟩
  exact q _ _ h (r.set (s := .d x) w fun _ z => z.elim) ⟨List.length_set .., fun j hj => List.getElem?_set_ne (fun z => hj (by rw [z]; exact List.mem_singleton.mpr rfl))⟩
abbrev DGs := List PyData → Env → (Env → Prop) → Prop
def liftGs (ns : List Nat) (t : DGs) : TGs := fun vs σ H R => ∃ (tw : Tw) (G0 H0 G : Hp) (δ : Env) (xs : List PyData) (Q : Env → Prop), Rep tw G0 H0 G σ H δ ∧ WDs G vs xs ∧ t xs δ Q ∧ ∀ δ' σ', Q δ' → Rep tw G0 H0 G σ' H δ' → Dif ns σ σ' → R σ' H
theorem pgsW {t t' : TGs} {tg : List Expr} (h : PGs X tg t) (w : ∀ v σ H R, t' v σ H R → t v σ H R) : PGs X tg t' := ⟨fun p s σ H v u Q I r q => h.run p s σ H v u Q I r (w v σ H Q q)⟩
def gsNil : DGs := fun xs δ Q => match xs with
  | [] => Q δ
  | _ :: _ => False
def gsCons (t : DG) (u : DGs) : DGs := fun xs δ Q => match xs with
  | x :: r => t x δ fun δ' => u r δ' Q
  | [] => False
theorem dgs_nil : PGs X [] (liftGs [] gsNil) := by
  refine pgsW pgs_nil ?_
  rintro vs σ H R ⟨tw, G0, H0, G, δ, xs, Q, r, w, h, q⟩
  cases w with
  | nil => exact ⟨rfl, q _ _ h r ⟨rfl, fun _ _ => rfl⟩⟩
  | cons w1 w2 => exact h.elim
theorem dgs_cons {g : Expr} {gs : List Expr} {t : DG} {u : DGs} {ns ms : List Nat} (h1 : PG X g (liftG ns t)) (h2 : PGs X gs (liftGs ms u)) (hs : (assignEach (g :: gs) X.env).map (·.2) = assign g X.env :: (assignEach gs X.env).map (·.2) := by rfl) : PGs X (g :: gs) (liftGs (ns ++ ms) (gsCons t u)) := by
  refine pgsW (pgs_cons h1 h2 hs) ?_
  rintro vs σ H R ⟨tw, G0, H0, G, δ, xs, Q, r, w, h, q⟩
  cases w with
  | nil => exact h.elim
  | @cons v x vs rr w1 w2 =>
    exact ⟨_, _, rfl, tw, G0, H0, G, δ, x, _, r, w1, h, fun δ' σ' h' r' d1 => ⟨tw, G0, H0, G, δ', rr, Q, r', w2, h', fun δ2 σ2 h2 r2 d2 => q δ2 σ2 h2 r2 (d1.trans d2)⟩⟩
def gT (n : Nat) (t : DGs) : DG := fun x δ Q => match x with
  | .tuple xs => xs.length = n ∧ t xs δ Q
  | _ => False
theorem dg_tup {es : List Expr} {k : Nat} {t : DGs} {n : Nat} {ns : List Nat} (hc : X.calm = true) (h : PGs X es (liftGs ns t)) (hn : (assignEach es X.env).length = n := by rfl) (hst : (assignEach es X.env).findIdx? (·.1) = none := by rfl) : PG X (.Tuple es k pos) (liftG ns (gT n t)) := by
  refine pgW (pg_tup hc h hn hst) ?_
  rintro v σ H R ⟨tw, G0, H0, G, δ, x, Q, r, w, h, q⟩
  cases w with
  | non => exact h.elim
  | bl _ => exact h.elim
  | int _ => exact h.elim
  | str _ => exact h.elim
  | lst _ _ _ => exact h.elim
  | @tup a vs xs w1 w2 w3 =>
    obtain ⟨hl, h⟩ := h
    exact ⟨_, _, rfl, .of (r.ext.gh _ _ w1), by rw [w3.length]; exact hl, tw, G0, H0, G, δ, xs, Q, r, w3, h, q⟩
/-- a, b = e (e a tuple) -/
def sAsg (te : DT) (g : DG) : DS := fun De δ Ex => te δ (fun s => ∃ x, asD s = some x ∧ g x δ De.nx) Ex
theorem ds_asg {tg : Expr} {g : DG} {ns : List Nat} (he : PE X e (lift E te)) (hg : PG X tg (liftG ns g)) (hs : swapsWithSole [tg] e pos.line X.env = pure false := by rfl) (hw : swappedStores [tg] e X.env = pure none := by rfl) (h1 : (assignEach [tg] X.env).map (·.2) = [assign tg X.env] := by rfl) :
    PS X (.Assign [tg] e pos) (liftS E (sAsg te g)) := by
  refine psW (ps_asg he hg hs hw h1) ?_
  rintro D σ H ⟨tw, G0, H0, G, δ, De, Ex, a, h, gg⟩
  refine ⟨tw, G0, H0, G, δ, _, Ex, a, h, fun s v G1 H1 ⟨x, es, hn⟩ r e => ?_⟩
  obtain ⟨G2, e2, sm, f⟩ := r.froze e (asF_asD es)
  exact ⟨tw, G0, H0, G2, δ, x, _, a.rep.go e2, f, hn, fun δ' σ' h' r' _ => gg.nx δ' G2 σ' H1 h' r'⟩
/-- a, b = x, y (plain local names) -/
def sPar (i j : Nat) (t u : DT) : DS := fun De δ Ex => t δ (fun x => u δ (fun y => stO i δ x fun δ1 => stO j δ1 y De.nx) Ex) Ex
theorem stO_two {tw : Tw} {G0 H0 G H G1 H1 G2 H2 : Hp} {σ : L2.St} {δ : Env} {i j : Nat} {v w : V} {s s' : SV} {k : Env → Prop} (r : Rep tw G0 H0 G σ H δ) (h : stO i δ s fun δ1 => stO j δ1 s' k) (w1 : VR tw H0 H G1 H1 v s) (e : Ext tw G H G1 H1) (w2 : VR tw H0 H1 G2 H2 w s') (e2 : Ext tw G1 H1 G2 H2) :
    ∃ δ', k δ' ∧ Rep tw G0 H0 G2 ((σ.set i (some v)).set j (some w)) H2 δ' := by
  obtain ⟨δ1, h1, r1⟩ := stO_use r h w1 e
  exact stO_use r1 h1 w2 e2
theorem ds_par {i j : Nat} {x y : Str} {a b : Expr} {ta tb : DT} {px py pt : Pos} {kt k2 pt2} (hc : X.calm = true) (hN : X.N.Nodup) (hi : X.N[i]? = some x) (hj : X.N[j]? = some y) (hij : i ≠ j) (hx : X.env.scope.names.lookup x = some .local) (hy : X.env.scope.names.lookup y = some .local)
    (ha : PE X a (lift E ta)) (hb : PE X b (lift E tb)) (hw : swappedStores [.Tuple [.Name x px, .Name y py] kt pt] (.Tuple [a, b] k2 pt2) X.env = pure (some [x, y]))
    (hs : swapsWithSole [.Tuple [.Name x px, .Name y py] kt pt] (.Tuple [a, b] k2 pt2) pos.line X.env = pure false := by rfl) (s1 : starEach (a :: [b]) X.env = (false, eval a X.env) :: starEach [b] X.env := by rfl) (s2 : starEach (b :: []) X.env = (false, eval b X.env) :: starEach [] X.env := by rfl) :
    PS X (.Assign [.Tuple [.Name x px, .Name y py] kt pt] (.Tuple [a, b] k2 pt2) pos) (liftS E (sPar i j ta tb)) := by
  refine psW (ps_par hc hN hi hj hij hx hy (pa_cons ha (pa_cons hb pa_nil s2) s1) hw hs) ?_
  rintro D σ H ⟨tw, G0, H0, G, δ, De, Ex, a, h, g⟩
  refine ⟨tw, G0, H0, G, δ, _, Ex, a, h, fun s v G1 H1 hn r e => ?_⟩
  refine ⟨tw, G0, H0, G1, δ, _, Ex, a.go e, hn, fun s' v' G2 H2 hn2 r2 e2 => ?_⟩
  obtain ⟨δ', k, r'⟩ := stO_two a.rep hn2 r e r2 e2
  exact ⟨v, v', rfl, g.nx _ _ _ _ k r'⟩
/-! ### raise -/
def sRaise (c : Value) : DS := fun _ _ Ex => Ex c
end
end DL
/-! DL 7: what is walked; for, while, comprehensions. -/
namespace DL
open PySem PySem.Spec PyProof.Rows L2
/-! ### enumerate of a tuple -/
theorem enum_one {v : Value} {o : Obj} {H : Heap → Prop} (B : Begins v o H) :
    Meets (Builtin.«enumerate.__new__» ⟨[.type "enumerate", v], []⟩) (fun _ R s => H s.heap ∧
      R (.ok (.ret (.ref (s.heap.push o).objs.size))) { s with heap := (s.heap.push o).push { cls := .type "enumerate", data := .fields #[.none, .bool false, .ref s.heap.objs.size, rawInt 0, .none, .none] } }) :=
  .of_wp fun prog w A R s h => by
    obtain ⟨hp, g, d, tk, os⟩ := s
    obtain ⟨h1, h⟩ := h
    have hsub := sub_enumerate
    have q1 : ∀ {A' : Around} {E : Value → Shared → Prop} {Q : Value → Shared → Prop}, Q (.ref hp.objs.size) ⟨hp.push o, g, d, tk, os⟩ → wpAny (model prog w) A' (pyIter v) Q E ⟨hp, g, d, tk, os⟩ :=
      fun q => B.iter prog w _ _ ⟨hp, g, d, tk, os⟩ _ h1 q
    wp_walk using q1
    refine wpAny_stack_any fun st => wpAny_pure ?_
    split
    · rename_i c _ _ _ _ _
      cases (c == Value.type "enumerate") <;> (wp_walk using q1; exact ⟨_, rfl, h⟩)
    · wp_walk using q1
      exact ⟨_, rfl, h⟩
section
variable {prog : Program} {w : World} {A : Around} {E : Value → Shared → Prop} {s : Shared}
theorem enum1_begins {v : Value} {o : Obj} {H : Heap → Prop} {Q : Value → Shared → Prop} (B : Begins v o H) (h1 : H s.heap)
    (h : ∀ h', IsEnum h' (s.heap.objs.size + 1) s.heap.objs.size 0 .none → h'.get? s.heap.objs.size = some o → (∀ b o, s.heap.get? b = some o → h'.get? b = some o) → Q (.ref (s.heap.objs.size + 1)) { s with heap := h' }) :
    wpAny (model prog w) A (call (.type "enumerate") [v]) Q E s := by
  refine callType_new F.called_enumerate (by decide) (F.typeCall_enumerate_1 _) (F.newCall_enumerate_1 _) (fun obj => F.args_object_init_2 obj _) F.entry_enumerate_new (enum_one B) ⟨h1, ?_⟩
  have hz : (s.heap.push o).objs.size = s.heap.objs.size + 1 := Heap.size_push ..
  show _ ∧ _
  rw [hz]
  have he : IsEnum ((s.heap.push o).push { cls := .type "enumerate", data := .fields #[.none, .bool false, .ref s.heap.objs.size, rawInt 0, .none, .none] }) (s.heap.objs.size + 1) s.heap.objs.size 0 .none := by
    have q := Heap.get?_push_size (s.heap.push o) (o := { cls := .type "enumerate", data := .fields #[.none, .bool false, .ref s.heap.objs.size, rawInt 0, .none, .none] }) rfl
    rw [hz] at q
    exact q
  exact ⟨⟨_, he, rfl⟩, h _ he (Heap.get?_push_of_some _ (Heap.get?_push_size _ B.free)) fun b o x => Heap.get?_push_of_some _ (Heap.get?_push_of_some _ x)⟩
end
/-- the tuple at a, each item in a new pair -/
def IteT (K : PySem.W.Frag) (a : Addr) (n : Nat) : It :=
  ⟨fun i H => ∃ xs : List V, SqT K H a xs ∧ xs.length = n ∧ i < n, fun i H v H' => ∃ T x, v = .ref T ∧ H T = none ∧ H' = upd H T (.tup [.int (i : Nat), x]) ∧ ∀ xs, SqT K H a xs → xs[i]? = some x, fun i H => i = n ∧ ∃ xs : List V, SqT K H a xs ∧ xs.length = n⟩
theorem IsTup.tuple {h : Heap} {a : Addr} {its : Array Value} (p : IsTup h a its) : h.IsTuple a its := p
theorem turn_enumT {P : Program} {w : World} {K : PySem.W.Frag} {elts : List Expr} {kk : Nat} {tpos : Pos} (a e it : Addr) (n : Nat) (hai : a ≠ it) (hae : e ≠ a) :
    Turn P w K (.Tuple elts kk tpos) (IteT K a n) [e, it] e (fun i h => (∃ old, IsEnum h e it ((i : Nat) : Int) old) ∧ h.IsTupleIter it a i ∧ e ≠ it) where
  mem := List.mem_cons_self
  obj := fun i h st b hb => by
    obtain ⟨⟨old, he⟩, ⟨o, ho, hc, hd⟩, _⟩ := st
    rcases List.mem_cons.mp hb with z | hb
    · rw [z]
      exact ⟨_, he, fun v q => nomatch q⟩
    · rw [List.mem_singleton.mp hb]
      exact ⟨o, ho, fun v q => by rw [hd] at q; cases q⟩
  keep := fun i h h' st k => let ⟨⟨old, he⟩, hi, hne⟩ := st; ⟨⟨old, k e List.mem_cons_self _ he⟩, hi.at fun o q => k it (List.mem_cons_of_mem _ List.mem_cons_self) o q, hne⟩
  item := by
    intro X hP hw hK hc i pins s σ H E I hf st hg
    subst hP hw hK
    obtain ⟨⟨old, he⟩, hit, hne⟩ := st
    obtain ⟨xs, hq, hn, hi⟩ := hg
    obtain ⟨its, rv, p, hz⟩ := I.tuple hq
    have hel : e < s.heap.objs.size := Heap.lt_size he
    have hil : it < s.heap.objs.size := by
      obtain ⟨_, q, _⟩ := hit
      exact Heap.lt_size q
    have hln : its.length = n := by rw [← hn]; exact rv.length.symm
    have hsz : its.toArray.size = n := by rw [List.size_toArray, hln]
    have D := Draws.tuple (prog := X.prog) (w := X.w) (A := X.A.in1) (I.ok.hd hc) it a hai its.toArray
    refine wpAny_pyNext_enum_itemD D he ⟨hit, p⟩ (by rw [hsz]; exact hi) hne (fun z => ?_) fun u h' tk hP ho hs' hT hsz' hk => ?_
    · rcases List.mem_cons.mp z with z | z
      · exact hne z
      · exact hae (List.mem_singleton.mp z)
    have hu : its[i]? = some u := by simpa using hP
    obtain ⟨x, hx, ru⟩ : ∃ x, xs[i]? = some x ∧ RelV x u := by
      have hi' : i < xs.length := by omega
      have e1 : xs[i]? = some xs[i] := List.getElem?_eq_getElem hi'
      obtain ⟨u', e2, r2⟩ := rv.get e1
      rw [hu] at e2
      cases e2
      exact ⟨_, e1, r2⟩
    refine ⟨_, rfl, wpAny_letOwnedTupleGo_enum (s := { s with heap := h', toks := tk + 1 }) ho fun h'' he' sb => ?_⟩
    have hT2 : h''.get? s.heap.objs.size = some { cls := .type "tuple", data := .seq #[.int i tk, u] } := (sb.2 _ (Nat.ne_of_gt hel)).trans hT
    have new : ObjOk X.prog X.w (upd H s.heap.objs.size (.tup [.int (i : Nat), x])) h'' s.heap.objs.size (.tup [.int (i : Nat), x]) :=
      ⟨by show 2 ≤ sizeLine; decide, [.int i tk, u], .cons ⟨_, rfl⟩ (.cons ru .nil), ⟨_, hT2, rfl, _, rfl⟩⟩
    have I1 : Inv X pins σ (upd H s.heap.objs.size (.tup [.int (i : Nat), x])) { s with heap := h'', toks := tk + 1 } :=
      I.turnedNew (ch := [e, it]) (fun b ob hb q => (sb.2 b (fun z => hb (by simp [z]))).trans (hk b ob (fun z => hb (by simp [z])) (fun z => hb (by simp [z])) q)) hf (Nat.le_refl _) new
    refine ⟨.ref s.heap.objs.size, _, I1, rfl, ⟨_, x, rfl, I.hok.fresh (Nat.le_refl _), rfl, fun ys hy => by rw [I.tuple_inj hy hq]; exact hx⟩, ⟨⟨u, ?_⟩, hs'.1.at fun o q => (sb.2 it (Ne.symm hne)).trans q, hne⟩, fun b hb => ?_⟩
    · have e1 : ((i + 1 : Nat) : Int) = (i : Int) + 1 := by omega
      rw [e1]
      exact he'
    · have hb' : b < s.heap.objs.size := by
        rcases List.mem_cons.mp hb with z | z
        · rw [z]; exact hel
        · rw [List.mem_singleton.mp z]; exact hil
      rw [upd_ne (Nat.ne_of_lt hb')]
      exact (hf b hb).1
  done := by
    intro X hP hw hK hc i pins s σ H E I hf st hg
    subst hP hw hK
    obtain ⟨⟨old, he⟩, hit, hne⟩ := st
    obtain ⟨rfl, xs, hq, hn⟩ := hg
    obtain ⟨its, rv, p, hz⟩ := I.tuple hq
    obtain ⟨f0, f1, f2, f3, f4, f5⟩ := hf it (List.mem_cons_of_mem _ List.mem_cons_self)
    have hsz : its.toArray.size = i := by rw [List.size_toArray, ← hn]; exact rv.length.symm
    have D := Draws.tuple (prog := X.prog) (w := X.w) (A := X.A.in1) (I.ok.hd hc) it a hai its.toArray
    exact wpAny_pyNext_enum_endD D he (by rw [hsz]; exact ⟨hit, p⟩) fun h' eb => ⟨rfl, I.turned (t' := s.toks) (fun b o hb q => eb b o hb q) f0 f1 f3 f4 f5⟩
  self := fun A i s Q E st h => let ⟨⟨_, he⟩, _⟩ := st; wpAny_pyIter_enum he h
def iEnumT (K : PySem.W.Frag) (ta : TA) : TI := fun σ H R => ta σ H fun vs H1 => ∃ a xs, vs = [.ref a] ∧ SqT K H1 a xs ∧ R (IteT K a xs.length) H1
theorem pi_enumT {X : Cx} {e : Expr} {ta : TA} {p pos tpos : Pos} {elts : List Expr} {kk : Nat} (hg : Gl X "enumerate") (hm : X.mg "enumerate" = none) (ha : PA X [e] ta) (hs : starEach [e] X.env = [(false, eval e X.env)] := by rfl) :
    PI X (.Tuple elts kk tpos) (.Call (.Name "enumerate" p) [e] [] pos) (iEnumT X.K ta) := by
  refine ⟨fun pins s σ H R I h => ?_⟩
  refine Call_ (ld_blt I hg hm boot_enumerate (PyProof.Rows.callWith_type1 (thn (ha.run pos pins s σ H _ I h) fun us s1 ⟨vs, H1, I1, r1, q1⟩ => ?_) hs rfl))
  obtain ⟨a, xs, ex, hq, q⟩ := q1
  subst ex
  cases r1 with
  | cons r rr =>
    cases rr
    cases r
    obtain ⟨its, rv, p', hz⟩ := I1.tuple hq
    refine enum1_begins (begins_tuple a its.toArray) p' fun h' he hit hk => wpAny_pyIter_enum he ?_
    have I2 : Inv X pins σ H1 { s1 with heap := h' } := I1.kept (t' := s1.toks) hk
    have hal : a < s1.heap.objs.size := by
      obtain ⟨o, ho, _⟩ := id p'
      exact Heap.lt_size ho
    refine ⟨s1.heap.objs.size + 1, [s1.heap.objs.size + 1, s1.heap.objs.size], _, _, H1, rfl, I2, turn_enumT a (s1.heap.objs.size + 1) s1.heap.objs.size xs.length (Nat.ne_of_lt hal) (Nat.ne_of_gt (Nat.lt_succ_of_lt hal)), ⟨⟨.none, he⟩, ⟨_, hit, rfl, rfl⟩, Nat.succ_ne_self _⟩, fun b hb => ?_, q⟩
    have hle : s1.heap.objs.size ≤ b := by
      rcases List.mem_cons.mp hb with z | z
      · rw [z]; exact Nat.le_add_right _ _
      · rw [List.mem_singleton.mp z]; exact Nat.le_refl _
    exact I1.fpOk hle (I1.hok.fresh hle)
end DL
/-! DL 8: iterators, for, comprehensions, while, changes of a slot's own list, raise; a def. -/
namespace DL
open PySem PySem.Spec PyProof.Rows L2
/-- a later state: what is walked still stands. fz: it is frozen -/
def Lat (fz : Bool) (tw : Tw) (G H G1 H1 : Hp) : Prop := Same G G1 ∧ Same G1 H1 ∧ (fz = false → ∀ b o, H b = some o → ¬ Vol tw b → NT o → H1 b = some o)
structure WkD (tw : Tw) (J : It) (ds : List PyData) (fz : Bool) (G H : Hp) : Prop where
  goes : ∀ i G1 H1, i < ds.length → Lat fz tw G H G1 H1 → J.go i H1
  stops : ∀ G1 H1, Lat fz tw G H G1 H1 → J.stop ds.length H1
  sz : ds.length ≤ sizeLine
  yld : ∀ i G1 H1 x H2, i < ds.length → Lat fz tw G H G1 H1 → Ok tw G1 H1 → J.yld i H1 x H2 → ∃ d G2, ds[i]? = some d ∧ WD G2 x d ∧ Ext tw G1 H1 G2 H2
abbrev DI := Env → (List PyData → Bool → Prop) → XP → Prop
def liftI (E : EK) (t : DI) : TI := fun σ H R => ∃ (tw : Tw) (G0 H0 G : Hp) (δ : Env) (Q : List PyData → Bool → Prop) (Ex : XP), At tw E G0 H0 G σ H δ Ex ∧ t δ Q Ex ∧
  ∀ ds fz J G' H', Q ds fz → Ext tw G H G' H' → WkD tw J ds fz G' H' → R J H'
theorem piW {X : Cx} {tg e : Expr} {t t' : TI} (h : PI X tg e t) (w : ∀ σ H R, t' σ H R → t σ H R) : PI X tg e t' := ⟨fun p s σ H R I q => h.run p s σ H R I (w σ H R q)⟩
/-- a list that stands by a condition -/
theorem wk_list {tw : Tw} {K : PySem.W.Frag} {a : Addr} {vs : List V} {ds : List PyData} {fz : Bool} {G H : Hp} (w : WDs G vs ds) (hz : ds.length ≤ sizeLine) (st : ∀ G1 H1, Lat fz tw G H G1 H1 → H1 a = some (.lst vs)) : WkD tw (Itl K a) ds fz G H where
  sz := hz
  goes := fun i G1 H1 hi l => by
    have e : vs[i]? = some (vs[i]'(by rw [w.length]; exact hi)) := List.getElem?_eq_getElem _
    exact ⟨vs, _, .of (st G1 H1 l), e⟩
  stops := fun G1 H1 l => ⟨vs, .of (st G1 H1 l), Nat.le_of_eq w.length⟩
  yld := fun i G1 H1 x H2 hi l ok y => by
    obtain ⟨rfl, f⟩ := y
    have e := f vs (.of (st G1 H2 l))
    obtain ⟨d, e1, e2⟩ := w.getV e
    exact ⟨d, G1, e1, WD.mono l.1 _ _ e2, ok.refl⟩
theorem wk_tup {tw : Tw} {K : PySem.W.Frag} {a : Addr} {vs : List V} {ds : List PyData} {fz : Bool} {G H : Hp} (w : WDs G vs ds) (hz : ds.length ≤ sizeLine) (st : G a = some (.tup vs)) : WkD tw (Itt K a) ds fz G H where
  sz := hz
  goes := fun i G1 H1 hi l => by
    have e : vs[i]? = some (vs[i]'(by rw [w.length]; exact hi)) := List.getElem?_eq_getElem _
    exact ⟨vs, _, .of (l.2.1 _ _ (l.1 _ _ st)), e⟩
  stops := fun G1 H1 l => ⟨vs, .of (l.2.1 _ _ (l.1 _ _ st)), Nat.le_of_eq w.length⟩
  yld := fun i G1 H1 x H2 hi l ok y => by
    obtain ⟨rfl, f⟩ := y
    have e := f vs (.of (l.2.1 _ _ (l.1 _ _ st)))
    obtain ⟨d, e1, e2⟩ := w.getV e
    exact ⟨d, G1, e1, WD.mono l.1 _ _ e2, ok.refl⟩
/-- the pairs of enumerate -/
def prs : Nat → List PyData → List PyData
  | _, [] => []
  | i, d :: ds => .tuple [.int (i : Nat), d] :: prs (i + 1) ds
theorem prs_len : ∀ (ds : List PyData) (i : Nat), (prs i ds).length = ds.length
  | [], _ => rfl
  | d :: ds, i => by
    unfold prs
    rw [List.length_cons, List.length_cons, prs_len ds]
theorem prs_get : ∀ (ds : List PyData) (k i : Nat) (d : PyData), ds[i]? = some d → (prs k ds)[i]? = some (.tuple [.int ((k + i : Nat) : Int), d])
  | [], _, _, _, h => by simp at h
  | d :: ds, k, 0, d', h => by
    have e : d = d' := by simpa using h
    subst e
    rfl
  | d :: ds, k, i + 1, d', h => by
    have h' : ds[i]? = some d' := by simpa using h
    have := prs_get ds (k + 1) i d' h'
    show (prs (k + 1) ds)[i]? = _
    rw [this, show k + 1 + i = k + (i + 1) by omega]
def zips : List PyData → List PyData → List PyData
  | a :: as, b :: bs => .tuple [a, b] :: zips as bs
  | _, _ => []
theorem zips_len : ∀ as bs : List PyData, (zips as bs).length = min as.length bs.length
  | [], _ => by simp [zips]
  | _ :: _, [] => by simp [zips]
  | a :: as, b :: bs => by
    unfold zips
    rw [List.length_cons, zips_len as bs, List.length_cons, List.length_cons]
    omega
theorem zips_get : ∀ (as bs : List PyData) (i : Nat) (a b : PyData), as[i]? = some a → bs[i]? = some b → (zips as bs)[i]? = some (.tuple [a, b])
  | [], _, _, _, _, h, _ => by simp at h
  | _ :: _, [], _, _, _, _, h => by simp at h
  | x :: as, y :: bs, 0, a, b, h, k => by
    have e : x = a := by simpa using h
    have e2 : y = b := by simpa using k
    subst e
    subst e2
    rfl
  | x :: as, y :: bs, i + 1, a, b, h, k => zips_get as bs i a b (by simpa using h) (by simpa using k)
theorem new_pair {tw : Tw} {G1 H1 : Hp} {T : Addr} {x y : V} {dx dy : PyData} (ok : Ok tw G1 H1) (n : H1 T = none) (wx : WD G1 x dx) (wy : WD G1 y dy) : ∃ G2, WD G2 (.ref T) (.tuple [dx, dy]) ∧ Ext tw G1 H1 G2 (upd H1 T (.tup [x, y])) := by
  obtain ⟨e, w⟩ := put_tup (vs := [x, y]) (ds := [dx, dy]) ok n (.cons wx (.cons wy .nil)) (by show 2 ≤ sizeLine; decide)
  exact ⟨_, w, e⟩
theorem wk_enum {tw : Tw} {K : PySem.W.Frag} {a : Addr} {vs : List V} {ds : List PyData} {fz : Bool} {G H : Hp} (w : WDs G vs ds) (hz : ds.length ≤ sizeLine) (st : ∀ G1 H1, Lat fz tw G H G1 H1 → H1 a = some (.lst vs)) : WkD tw (Ite K a) (prs 0 ds) fz G H where
  sz := by rw [prs_len]; exact hz
  goes := fun i G1 H1 hi l => by
    rw [prs_len] at hi
    have e : vs[i]? = some (vs[i]'(by rw [w.length]; exact hi)) := List.getElem?_eq_getElem _
    exact ⟨vs, _, .of (st G1 H1 l), e⟩
  stops := fun G1 H1 l => ⟨vs, .of (st G1 H1 l), by rw [prs_len]; exact Nat.le_of_eq w.length⟩
  yld := fun i G1 H1 x H2 hi l ok y => by
    obtain ⟨T, z, rfl, n, rfl, f⟩ := y
    have e := f vs (.of (st G1 H1 l))
    obtain ⟨d, e1, e2⟩ := w.getV e
    obtain ⟨G2, w2, e3⟩ := new_pair (tw := tw) ok n (.int (i : Nat)) (WD.mono l.1 _ _ e2)
    refine ⟨_, G2, prs_get ds 0 i d e1, ?_, e3⟩
    rw [Nat.zero_add]
    exact w2
theorem wk_enumT {tw : Tw} {K : PySem.W.Frag} {a : Addr} {vs : List V} {ds : List PyData} {fz : Bool} {G H : Hp} (w : WDs G vs ds) (hz : ds.length ≤ sizeLine) (st : G a = some (.tup vs)) : WkD tw (IteT K a vs.length) (prs 0 ds) fz G H where
  sz := by rw [prs_len]; exact hz
  goes := fun i G1 H1 hi l => by
    rw [prs_len] at hi
    exact ⟨vs, .of (l.2.1 _ _ (l.1 _ _ st)), rfl, by rw [w.length]; exact hi⟩
  stops := fun G1 H1 l => ⟨by rw [prs_len, w.length], vs, .of (l.2.1 _ _ (l.1 _ _ st)), rfl⟩
  yld := fun i G1 H1 x H2 hi l ok y => by
    obtain ⟨T, z, rfl, n, rfl, f⟩ := y
    have e := f vs (.of (l.2.1 _ _ (l.1 _ _ st)))
    obtain ⟨d, e1, e2⟩ := w.getV e
    obtain ⟨G2, w2, e3⟩ := new_pair (tw := tw) ok n (.int (i : Nat)) (WD.mono l.1 _ _ e2)
    refine ⟨_, G2, prs_get ds 0 i d e1, ?_, e3⟩
    rw [Nat.zero_add]
    exact w2
theorem wk_zipT {tw : Tw} {K : PySem.W.Frag} {a b : Addr} {vs us : List V} {ds es : List PyData} {fz : Bool} {G H : Hp} (w : WDs G vs ds) (w2 : WDs G us es) (hz : ds.length ≤ sizeLine) (st : G a = some (.tup vs)) (st2 : G b = some (.tup us)) : WkD tw (RZ.ItzT K a b) (zips ds es) fz G H where
  sz := by rw [zips_len]; omega
  goes := fun i G1 H1 hi l => by
    rw [zips_len] at hi
    have e : vs[i]? = some (vs[i]'(by rw [w.length]; omega)) := List.getElem?_eq_getElem _
    have e2 : us[i]? = some (us[i]'(by rw [w2.length]; omega)) := List.getElem?_eq_getElem _
    exact ⟨vs, us, _, _, .of (l.2.1 _ _ (l.1 _ _ st)), .of (l.2.1 _ _ (l.1 _ _ st2)), e, e2⟩
  stops := fun G1 H1 l => ⟨vs, us, .of (l.2.1 _ _ (l.1 _ _ st)), .of (l.2.1 _ _ (l.1 _ _ st2)), by rw [zips_len, w.length, w2.length]; omega⟩
  yld := fun i G1 H1 x H2 hi l ok y => by
    obtain ⟨T, z, z2, rfl, n, rfl, f, f2⟩ := y
    obtain ⟨d, e1, e2⟩ := w.getV (f vs (.of (l.2.1 _ _ (l.1 _ _ st))))
    obtain ⟨d', e1', e2'⟩ := w2.getV (f2 us (.of (l.2.1 _ _ (l.1 _ _ st2))))
    obtain ⟨G2, w3, e3⟩ := new_pair (tw := tw) ok n (WD.mono l.1 _ _ e2) (WD.mono l.1 _ _ e2')
    exact ⟨_, G2, zips_get ds es i d d' e1 e1', w3, e3⟩
/-- lo, lo + 1, .. -/
def rngD (lo : Int) : Nat → List PyData
  | 0 => []
  | n + 1 => .int lo :: rngD (lo + 1) n
theorem rngD_len : ∀ (n : Nat) (lo : Int), (rngD lo n).length = n
  | 0, _ => rfl
  | n + 1, lo => by
    unfold rngD
    rw [List.length_cons, rngD_len n]
theorem rngD_get : ∀ (n : Nat) (lo : Int) (i : Nat), i < n → (rngD lo n)[i]? = some (.int (lo + i))
  | 0, _, _, h => absurd h (Nat.not_lt_zero _)
  | n + 1, lo, 0, _ => by
    show some _ = _
    rw [show lo + ((0 : Nat) : Int) = lo by omega]
  | n + 1, lo, i + 1, h => by
    show (rngD (lo + 1) n)[i]? = _
    rw [rngD_get n (lo + 1) i (by omega), show lo + 1 + (i : Int) = lo + ((i + 1 : Nat) : Int) by omega]
theorem wk_rng {tw : Tw} {lo : Int} {n : Nat} {fz : Bool} {G H : Hp} (hz : n ≤ sizeLine) : WkD tw (Itr lo n) (rngD lo n) fz G H where
  sz := by rw [rngD_len]; exact hz
  goes := fun i G1 H1 hi l => by
    rw [rngD_len] at hi
    exact hi
  stops := fun G1 H1 l => by
    rw [rngD_len]
    exact Nat.le_refl _
  yld := fun i G1 H1 x H2 hi l ok y => by
    obtain ⟨rfl, rfl⟩ := y
    rw [rngD_len] at hi
    exact ⟨_, G1, rngD_get n lo i hi, .int _, ok.refl⟩
def fzB : SV → Bool
  | .bor _ => false
  | _ => true
/-- the list behind a value, and how it stands: frozen (a new one is frozen on the spot), or held by a slot -/
theorem VR.walk {tw : Tw} {H0 H G' H' : Hp} {G : Hp} {v : V} {s : SV} {l : List PyData} (r : VR tw H0 H G' H' v s) (e : Ext tw G H G' H') (h : asL s = some l) :
    ∃ a vs G2 fz, v = .ref a ∧ Ext tw G H G2 H' ∧ Same G' G2 ∧ WDs G2 vs l ∧ H' a = some (.lst vs) ∧ l.length ≤ sizeLine ∧ fz = fzB s ∧ ∀ G1 H1, Lat fz tw G2 H' G1 H1 → H1 a = some (.lst vs) := by
  cases s with
  | d x =>
    cases x with
    | list l' =>
      cases h
      cases r with
      | lst h1 h2 h3 => exact ⟨_, _, G', true, rfl, e, fun _ _ z => z, h3, e.gh _ _ h1, h2, rfl, fun G1 H1 l => l.2.1 _ _ (l.1 _ _ h1)⟩
    | none => cases h
    | bool _ => cases h
    | int _ => cases h
    | str _ => cases h
    | tuple _ => cases h
    | dict _ => cases h
  | own l' =>
    cases h
    obtain ⟨a, vs, rfl, e2, e3, e4, e5, e6⟩ := r
    exact ⟨a, vs, _, true, rfl, e.freeze e2 e3 e4, same_freeze e3, WDs.mono (same_freeze e3) _ _ e5, e2, e6, rfl, fun G1 H1 l => l.2.1 _ _ (l.1 _ _ upd_same)⟩
  | bor l' =>
    cases h
    obtain ⟨a, vs, rfl, e2, e3, e4, e5, e6⟩ := r
    exact ⟨a, vs, G', false, rfl, e, fun _ _ z => z, e5, e2, e6, rfl, fun G1 H1 l => l.2.2 rfl _ _ e2 (Ext.nonvol e.tk e2) nt_lst⟩
  | ow c => cases h
  | bo c => cases h
  | fo c => cases h
  | town => cases h
  | v x => cases h
  | abs φ m => cases h
section
variable {X : Cx} {E : EK} {tg e e2 : Expr} {te te2 : DT} {p pos tpos : Pos}
/-! ### iterators -/
theorem pi_seq {l : Expr} {tl : TE} (hl : PE X l tl) : PI X tg l (fun σ H R => tl σ H fun x H1 => (∃ a, x = .ref a ∧ (∃ xs, SqL X.K H1 a xs) ∧ R (Itl X.K a) H1) ∨ ∃ a, x = .ref a ∧ (∃ xs, SqT X.K H1 a xs) ∧ R (Itt X.K a) H1) := by
  refine ⟨fun pins s σ H R I h => thn (hl.run pins s σ H _ I h) fun v s1 ⟨x, H1, I1, r1, q1⟩ => ?_⟩
  rcases q1 with ⟨a, rfl, ⟨xs, hq⟩, q⟩ | ⟨a, rfl, ⟨xs, hq⟩, q⟩
  · cases r1
    obtain ⟨its, rv, pl, hz⟩ := I1.list hq
    refine wpAny_pyIter_list pl.isList ⟨s1.heap.objs.size, [s1.heap.objs.size], _, _, H1, rfl, I1.kept (t' := s1.toks) fun b o z => Heap.get?_push_of_some _ z, turn_list a _, ⟨_, Heap.get?_push_size _ rfl, rfl, rfl⟩, fun b hb => ?_, q⟩
    rw [List.mem_singleton.mp hb]
    exact I1.fpOk (Nat.le_refl _) (I1.hok.fresh (Nat.le_refl _))
  · cases r1
    obtain ⟨its, rv, pl, hz⟩ := I1.tuple hq
    refine wpAny_pyIter_tuple (show s1.heap.IsTuple a its.toArray from pl) ⟨s1.heap.objs.size, [s1.heap.objs.size], _, _, H1, rfl, I1.kept (t' := s1.toks) fun b o z => Heap.get?_push_of_some _ z, turn_tuple a _, ⟨_, Heap.get?_push_size _ rfl, rfl, rfl⟩, fun b hb => ?_, q⟩
    rw [List.mem_singleton.mp hb]
    exact I1.fpOk (Nat.le_refl _) (I1.hok.fresh (Nat.le_refl _))
def iSeq (te : DT) : DI := fun δ Q Ex => te δ (fun s => ∃ l, asS s = some l ∧ Q l (fzB s)) Ex
theorem di_seq (h : PE X e (lift E te)) : PI X tg e (liftI E (iSeq te)) := by
  refine piW (pi_seq h) ?_
  rintro σ H R ⟨tw, G0, H0, G, δ, Q, Ex, a, h, q⟩
  refine ⟨tw, G0, H0, G, δ, _, Ex, a, h, fun s v G1 H1 ⟨l, el, hs⟩ r e => ?_⟩
  rcases asS_cases el with hl | rfl
  · obtain ⟨p, vs, G2, fz, rfl, x2, sm, w, hp, z, ef, st⟩ := r.walk e hl
    refine .inl ⟨p, rfl, ⟨vs, .of hp⟩, q l fz _ G2 H1 ?_ x2 (wk_list w z st)⟩
    rw [ef]
    exact hs
  · obtain ⟨p, vs, rfl, e1, w, z⟩ := r.tup
    exact .inr ⟨p, rfl, ⟨vs, .of (e.gh _ _ e1)⟩, q l true _ G1 H1 hs e (wk_tup w z e1)⟩
def iRng1D (te : DT) : DI := fun δ Q Ex => te δ (fun s => ∃ n : Int, s = .d (.int n) ∧ -1000 ≤ n ∧ n ≤ 1000000 ∧ Q (rngD 0 n.toNat) true) Ex
theorem di_rng1 (hm : X.mg "range" = none) (h : PE X e (lift E te)) (hg : Gl X "range" := by rfl) (he : starEach [e] X.env = [(false, eval e X.env)] := by rfl) : PI X tg (.Call (.Name "range" p) [e] [] pos) (liftI E (iRng1D te)) := by
  refine piW (pi_range1 hg hm (pa_cons h pa_nil he) he) ?_
  rintro σ H R ⟨tw, G0, H0, G, δ, Q, Ex, a, h, q⟩
  refine ⟨tw, G0, H0, G, δ, _, Ex, a, h, fun s v G1 H1 ⟨n, es, h1, h2, hs⟩ r e => ?_⟩
  subst es
  have ev := r.int
  subst ev
  exact ⟨n, rfl, by omega, by omega, q _ _ _ G1 H1 hs e (wk_rng (by rw [sizeLine_eq]; omega))⟩
def iRng2D (te te2 : DT) : DI := fun δ Q Ex => te δ (fun s => te2 δ (fun s2 => ∃ lo hi : Int, s = .d (.int lo) ∧ s2 = .d (.int hi) ∧ -1000 ≤ lo ∧ lo ≤ 1000000 ∧ -1000 ≤ hi ∧ hi ≤ 1000000 ∧ Q (rngD lo (hi - lo).toNat) true) Ex) Ex
theorem di_rng2 (hm : X.mg "range" = none) (h : PE X e (lift E te)) (h2 : PE X e2 (lift E te2)) (hg : Gl X "range" := by rfl) (s1 : starEach [e, e2] X.env = [(false, eval e X.env), (false, eval e2 X.env)] := by rfl) (s2 : starEach [e2] X.env = [(false, eval e2 X.env)] := by rfl) : PI X tg (.Call (.Name "range" p) [e, e2] [] pos) (liftI E (iRng2D te te2)) := by
  refine piW (pi_range2 hg hm (pa_cons h (pa_cons h2 pa_nil s2) (by rw [s1, s2])) s1 s2) ?_
  rintro σ H R ⟨tw, G0, H0, G, δ, Q, Ex, a, h, q⟩
  refine ⟨tw, G0, H0, G, δ, _, Ex, a, h, fun s v G1 H1 h1 r e => ?_⟩
  refine ⟨tw, G0, H0, G1, δ, _, Ex, a.go e, h1, fun s2 v2 G2 H2 ⟨lo, hi, es, es2, b1, b2, b3, b4, hs⟩ r2 e2 => ?_⟩
  subst es
  subst es2
  have ev := r.int
  have ev2 := r2.int
  subst ev
  subst ev2
  exact ⟨lo, hi, rfl, ⟨by omega, by omega, by omega, by omega⟩, q _ _ _ G2 H2 hs (e.trans e2) (wk_rng (by rw [sizeLine_eq]; omega))⟩
/-- enumerate -/
theorem pi_enumA {ta : TA} {elts : List Expr} {kk : Nat} (hg : Gl X "enumerate") (hm : X.mg "enumerate" = none) (ha : PA X [e] ta) (hs : starEach [e] X.env = [(false, eval e X.env)] := by rfl) :
    PI X (.Tuple elts kk tpos) (.Call (.Name "enumerate" p) [e] [] pos) (fun σ H R => ta σ H fun vs H1 => (∃ a xs, vs = [.ref a] ∧ SqL X.K H1 a xs ∧ R (Ite X.K a) H1) ∨ ∃ a xs, vs = [.ref a] ∧ SqT X.K H1 a xs ∧ R (IteT X.K a xs.length) H1) := by
  refine ⟨fun pins s σ H R I h => ?_⟩
  refine Call_ (ld_blt I hg hm boot_enumerate (PyProof.Rows.callWith_type1 (thn (ha.run pos pins s σ H _ I h) fun us s1 ⟨vs, H1, I1, r1, q1⟩ => ?_) hs rfl))
  have fp : ∀ b, b ∈ [s1.heap.objs.size + 1, s1.heap.objs.size] → FpOk X pins H1 b := fun b hb => by
    have hle : s1.heap.objs.size ≤ b := by
      rcases List.mem_cons.mp hb with z | z
      · rw [z]; exact Nat.le_add_right _ _
      · rw [List.mem_singleton.mp z]; exact Nat.le_refl _
    exact I1.fpOk hle (I1.hok.fresh hle)
  rcases q1 with ⟨a, xs, ex, hq, q⟩ | ⟨a, xs, ex, hq, q⟩
  · subst ex
    cases r1 with
    | cons r rr =>
      cases rr
      cases r
      obtain ⟨its, rv, p', hz⟩ := I1.list hq
      refine call_enumerate_list p'.isList fun h' he hit hsz hk => wpAny_pyIter_enum he ?_
      have I2 : Inv X pins σ H1 { s1 with heap := h' } := I1.kept (t' := s1.toks) hk
      exact ⟨s1.heap.objs.size + 1, [s1.heap.objs.size + 1, s1.heap.objs.size], _, _, H1, rfl, I2, turn_enum a (s1.heap.objs.size + 1) s1.heap.objs.size, ⟨⟨.none, he⟩, hit, Nat.succ_ne_self _⟩, fp, q⟩
  · subst ex
    cases r1 with
    | cons r rr =>
      cases rr
      cases r
      obtain ⟨its, rv, p', hz⟩ := I1.tuple hq
      refine enum1_begins (begins_tuple a its.toArray) p' fun h' he hit hk => wpAny_pyIter_enum he ?_
      have I2 : Inv X pins σ H1 { s1 with heap := h' } := I1.kept (t' := s1.toks) hk
      have hal : a < s1.heap.objs.size := by
        obtain ⟨o, ho, _⟩ := id p'
        exact Heap.lt_size ho
      exact ⟨s1.heap.objs.size + 1, [s1.heap.objs.size + 1, s1.heap.objs.size], _, _, H1, rfl, I2, turn_enumT a (s1.heap.objs.size + 1) s1.heap.objs.size xs.length (Nat.ne_of_lt hal) (Nat.ne_of_gt (Nat.lt_succ_of_lt hal)), ⟨⟨.none, he⟩, ⟨_, hit, rfl, rfl⟩, Nat.succ_ne_self _⟩, fp, q⟩
def iEnumD (te : DT) : DI := fun δ Q Ex => te δ (fun s => ∃ l, asS s = some l ∧ Q (prs 0 l) (fzB s)) Ex
theorem di_enum {elts : List Expr} {kk : Nat} (hm : X.mg "enumerate" = none) (h : PE X e (lift E te)) (hg : Gl X "enumerate" := by rfl) (he : starEach [e] X.env = [(false, eval e X.env)] := by rfl) : PI X (.Tuple elts kk tpos) (.Call (.Name "enumerate" p) [e] [] pos) (liftI E (iEnumD te)) := by
  refine piW (pi_enumA hg hm (pa_cons h pa_nil he) he) ?_
  rintro σ H R ⟨tw, G0, H0, G, δ, Q, Ex, a, h, q⟩
  refine ⟨tw, G0, H0, G, δ, _, Ex, a, h, fun s v G1 H1 ⟨l, el, hs⟩ r e => ?_⟩
  rcases asS_cases el with hl | rfl
  · obtain ⟨p, vs, G2, fz, rfl, x2, sm, w, hp, z, ef, st⟩ := r.walk e hl
    refine .inl ⟨p, vs, rfl, .of hp, q _ fz _ G2 H1 ?_ x2 (wk_enum w z st)⟩
    rw [ef]
    exact hs
  · obtain ⟨p, vs, rfl, e1, w, z⟩ := r.tup
    exact .inr ⟨p, vs, rfl, .of (e.gh _ _ e1), q _ true _ G1 H1 hs e (wk_enumT w z e1)⟩
/-- zip of two tuples -/
def iZipD (te te2 : DT) : DI := fun δ Q Ex => te δ (fun s => te2 δ (fun s2 => ∃ l l2, s = .d (.tuple l) ∧ s2 = .d (.tuple l2) ∧ Q (zips l l2) true) Ex) Ex
theorem di_zip {elts : List Expr} {kk : Nat} (hm : X.mg "zip" = none) (h : PE X e (lift E te)) (h2 : PE X e2 (lift E te2)) (hg : Gl X "zip" := by rfl) (s1 : starEach [e, e2] X.env = (false, eval e X.env) :: starEach [e2] X.env := by rfl) (s2 : starEach [e2] X.env = (false, eval e2 X.env) :: starEach [] X.env := by rfl) (hpl : (backTo pos (starEach [e2] X.env)).any (·.1) = false := by rfl) :
    PI X (.Tuple elts kk tpos) (.Call (.Name "zip" p) [e, e2] [] pos) (liftI E (iZipD te te2)) := by
  refine piW (RZ.pi_zipA hg hm (pa_cons h (pa_cons h2 pa_nil s2) s1) s1 hpl) ?_
  rintro σ H R ⟨tw, G0, H0, G, δ, Q, Ex, a, h, q⟩
  refine ⟨tw, G0, H0, G, δ, _, Ex, a, h, fun s v G1 H1 h1 r e => ?_⟩
  refine ⟨tw, G0, H0, G1, δ, _, Ex, a.go e, h1, fun s2 v2 G2 H2 hs r2 e2 => ?_⟩
  obtain ⟨l, l2, rfl, rfl, hs⟩ := hs
  obtain ⟨p, vs, rfl, e1, w, z⟩ := r.tup
  obtain ⟨p2, vs2, rfl, e12, w2, z2⟩ := r2.tup
  have g1 := e2.gg _ _ e1
  exact ⟨p, p2, vs, vs2, rfl, .inr ⟨.of (e2.gh _ _ g1), .of (e2.gh _ _ e12), q _ true _ G2 H2 hs (e.trans e2) (wk_zipT (WDs.mono e2.gg _ _ w) w2 z g1 e12)⟩⟩
end
end DL
/-! DL 9: for, while, comprehensions, changes of a slot's own list, raise; a def. -/
namespace DL
open PySem PySem.Spec PyProof.Rows L2
section
variable {tw : Tw} {G0 H0 Gw Hw G H : Hp} {σ : L2.St} {δ : Env}
theorem Ext.down (w : Ext tw G0 H0 Gw Hw) (e : Ext tw Gw H0 G H) : Ext tw G0 H0 G H :=
  ⟨fun b o h => e.gg b o (w.gg b o h), e.gh, e.hh, e.tk, e.nv, fun a o h => (e.new a o h).elim (fun z => w.new a o z) .inr, e.gt⟩
theorem Ext.up (w : Ext tw G0 H0 Gw Hw) (e : Ext tw G0 H0 G H) (s : Same Gw G) : Ext tw Gw H0 G H :=
  ⟨s, e.gh, e.hh, e.tk, e.nv, fun a o h => (e.new a o h).elim (fun z => .inl (w.gg a o z)) .inr, e.gt⟩
theorem Rep.down (w : Ext tw G0 H0 Gw Hw) (r : Rep tw Gw H0 G σ H δ) : Rep tw G0 H0 G σ H δ := ⟨w.down r.ext, r.len, r.sl, r.own⟩
theorem Rep.up (w : Ext tw G0 H0 Gw Hw) (r : Rep tw G0 H0 G σ H δ) (s : Same Gw G) : Rep tw Gw H0 G σ H δ := ⟨w.up r.ext s, r.len, r.sl, r.own⟩
end
/-! ### for -/
def forR (g : DG) (tb : DS) : List PyData → DE → Env → XP → Prop
  | [], De, δ, _ => De.nx δ
  | x :: xs, De, δ, Ex => g x δ fun δ1 => tb { De with nx := fun δ2 => forR g tb xs De δ2 Ex, ct := fun δ2 => forR g tb xs De δ2 Ex, bk := De.nx } δ1 Ex
def sFor (ti : DI) (g : DG) (tb : DS) : DS := fun De δ Ex => ti δ (fun ds fz => fz = true ∧ forR g tb ds De δ Ex) Ex
section
variable {X : Cx} {E : EK} {tg iter e : Expr} {body : List Stmt} {ti : DI} {g : DG} {tb : DS} {pos : Pos} {ns : List Nat}
theorem ds_for (hp : PassesOwn (model X.prog X.w) X.A X.env X.xe) (hc : X.calm = true) (hi : PI X tg iter (liftI E ti)) (hg : PG X tg (liftG ns g)) (hb : PSs X body (liftS E tb)) (hs : ∀ x, foldedSetIterable iter X.env x = pure x := by intro _; rfl) :
    PS X (.For tg iter body [] pos) (liftS E (sFor ti g tb)) := by
  refine psW (ps_for hp hc hi hg hb hs) ?_
  rintro D σ H ⟨tw, G0, H0, G, δ, De, Ex, a, h, gg⟩
  refine ⟨tw, G0, H0, G, δ, _, Ex, a, h, fun ds fz J Gw Hw ⟨ez, hq⟩ ew wk => ?_⟩
  subst ez
  have w0 : Ext tw G0 H0 Gw Hw := a.rep.ext.trans ew
  refine ⟨fun i m σ H => i + m = ds.length ∧ ∃ G δ, Rep tw G0 H0 G σ H δ ∧ Same Gw G ∧ forR g tb (ds.drop i) De δ Ex, ⟨ds.length, by omega, Gw, δ, a.rep.go ew, fun _ _ z => z, hq⟩, ?_⟩
  rintro i m σ1 H1 ⟨em, G1, δ1, r1, s1, q1⟩
  have lat : Lat true tw Gw Hw G1 H1 := ⟨s1, r1.ext.gh, fun z => nomatch z⟩
  by_cases hi : i < ds.length
  · refine .inr ⟨wk.goes i G1 H1 hi lat, fun σ' H' => ∃ G' δ', Rep tw G0 H0 G' σ' H' δ' ∧ Same Gw G' ∧ forR g tb (ds.drop (i + 1)) De δ' Ex, fun σ' H' ⟨G', δ', r', s', q'⟩ => ⟨m - 1, by omega, by omega, G', δ', r', s', q'⟩, fun x H2 hy => ?_⟩
    obtain ⟨d, G2, ed, wd, e2⟩ := wk.yld i G1 H1 x H2 hi lat r1.ok hy
    have hd : ds.drop i = d :: ds.drop (i + 1) := by
      rw [List.drop_eq_getElem_cons hi]
      have : ds[i] = d := by
        rw [List.getElem?_eq_getElem hi] at ed
        exact Option.some.inj ed
      rw [this]
    rw [hd] at q1
    have r2 := r1.go e2
    have s2 : Same Gw G2 := fun b o z => e2.gg b o (s1 b o z)
    refine ⟨tw, G0, H0, G2, δ1, d, _, r2, wd, q1, fun δ3 σ3 q3 r3 _ => ?_⟩
    refine ⟨tw, Gw, H0, G2, δ3, _, Ex, ⟨r3.up w0 s2, fun c G' H' hc e => a.exc c G' H' hc (w0.down e), a.tb⟩, q3, ⟨?_, ?_, ?_, ?_⟩⟩
    · exact fun δ4 G4 σ4 H4 q4 r4 => ⟨G4, δ4, r4.down w0, r4.ext.gg, q4⟩
    · exact fun δ4 G4 σ4 H4 q4 r4 => gg.nx δ4 G4 σ4 H4 q4 (r4.down w0)
    · exact fun δ4 G4 σ4 H4 q4 r4 => ⟨G4, δ4, r4.down w0, r4.ext.gg, q4⟩
    · exact fun s v G4 H4 q4 v4 e4 => gg.rt s v G4 H4 q4 v4 (w0.down e4)
  · have ei : i = ds.length := by omega
    subst ei
    refine .inl ⟨wk.stops G1 H1 lat, ?_⟩
    rw [List.drop_length] at q1
    exact gg.nx δ1 G1 σ1 H1 q1 r1
/-! ### while -/
def whR (c : DB) (tb : DS) : Nat → DE → Env → XP → Prop
  | 0, _, _, _ => False
  | n + 1, De, δ, Ex => c δ (fun b => if b = true then tb { De with nx := fun δ2 => whR c tb n De δ2 Ex, ct := fun δ2 => whR c tb n De δ2 Ex, bk := De.nx } δ Ex else De.nx δ) Ex
def sWhile (c : DB) (tb : DS) : DS := fun De δ Ex => ∃ n, whR c tb n De δ Ex
theorem ds_while {c : Expr} {tc : DB} (hp : PassesOwn (model X.prog X.w) X.A X.env X.xe) (hc : PT X c (liftB E tc)) (hb : PSs X body (liftS E tb)) : PS X (.While c body [] pos) (liftS E (sWhile tc tb)) := by
  refine psW (ps_while hp hc hb) ?_
  rintro D σ H ⟨tw, G0, H0, G, δ, De, Ex, a, ⟨n, h⟩, gg⟩
  refine ⟨fun m σ H => ∃ G δ, Rep tw G0 H0 G σ H δ ∧ whR tc tb m De δ Ex, ⟨n, G, δ, a.rep, h⟩, ?_⟩
  rintro m σ1 H1 ⟨G1, δ1, r1, q1⟩
  cases m with
  | zero => exact q1.elim
  | succ m =>
    refine ⟨tw, G0, H0, G1, δ1, _, Ex, ⟨r1, a.exc, a.tb⟩, q1, fun b G2 H2 q2 e2 => ?_⟩
    cases b with
    | true =>
      rw [if_pos rfl] at q2 ⊢
      refine ⟨fun σ' H' => ∃ G' δ', Rep tw G0 H0 G' σ' H' δ' ∧ whR tc tb m De δ' Ex, fun σ' H' z => ⟨m, Nat.lt_succ_self _, z⟩, tw, G0, H0, G2, δ1, _, Ex, ⟨r1.go e2, a.exc, a.tb⟩, q2, ⟨?_, ?_, ?_, ?_⟩⟩
      · exact fun δ4 G4 σ4 H4 q4 r4 => ⟨G4, δ4, r4, q4⟩
      · exact fun δ4 G4 σ4 H4 q4 r4 => gg.nx δ4 G4 σ4 H4 q4 r4
      · exact fun δ4 G4 σ4 H4 q4 r4 => ⟨G4, δ4, r4, q4⟩
      · exact gg.rt
    | false =>
      rw [if_neg Bool.false_ne_true] at q2 ⊢
      exact gg.nx δ1 G2 σ1 H2 q2 (r1.go e2)
/-! ### comprehensions -/
def wipeD (δ : Env) : List Nat → Env
  | [] => δ
  | v :: vs => (wipeD δ vs).set v none
theorem wipe_get : ∀ (vs : List Nat) (σ : L2.St) (i : Nat), (wipe σ vs)[i]? = if i ∈ vs ∧ i < σ.length then some none else σ[i]?
  | [], σ, i => by
    rw [if_neg fun z => by cases z.1]
    rfl
  | v :: vs, σ, i => by
    unfold wipe
    have ih := wipe_get vs σ i
    by_cases hi : v = i
    · subst hi
      by_cases hl : v < σ.length
      · rw [List.getElem?_set_self (by rw [wipe_length]; exact hl), if_pos ⟨List.mem_cons_self, hl⟩]
      · rw [List.getElem?_eq_none (by rw [List.length_set, wipe_length]; omega), if_neg fun z => hl z.2, List.getElem?_eq_none (by omega)]
    · rw [List.getElem?_set_ne hi, ih]
      by_cases hm : i ∈ vs ∧ i < σ.length
      · rw [if_pos hm, if_pos ⟨List.mem_cons_of_mem _ hm.1, hm.2⟩]
      · rw [if_neg hm, if_neg fun z => hm ⟨(List.mem_cons.mp z.1).resolve_left (Ne.symm hi), z.2⟩]
theorem wipeD_len (δ : Env) : ∀ vs : List Nat, (wipeD δ vs).length = δ.length
  | [] => rfl
  | v :: vs => by
    unfold wipeD
    rw [List.length_set, wipeD_len δ vs]
theorem wipeD_get : ∀ (vs : List Nat) (δ : Env) (i : Nat) (s : SV), (wipeD δ vs)[i]? = some (some s) → i ∉ vs ∧ δ[i]? = some (some s)
  | [], δ, i, s, h => ⟨fun z => (nomatch z), h⟩
  | v :: vs, δ, i, s, h => by
    unfold wipeD at h
    by_cases hi : v = i
    · subst hi
      by_cases hl : v < (wipeD δ vs).length
      · rw [List.getElem?_set_self hl] at h
        cases h
      · rw [List.getElem?_eq_none (by rw [List.length_set]; omega)] at h
        cases h
    · rw [List.getElem?_set_ne hi] at h
      obtain ⟨h1, h2⟩ := wipeD_get vs δ i s h
      exact ⟨fun z => (List.mem_cons.mp z).elim (fun q => hi q.symm) h1, h2⟩
theorem Dif.wipe {ns vs : List Nat} {σ σ' : L2.St} (d : Dif ns σ σ') (h : ∀ i ∈ ns, i ∈ vs) : L2.wipe σ' vs = L2.wipe σ vs := by
  apply List.ext_getElem?
  intro i
  rw [wipe_get, wipe_get, d.1]
  by_cases hm : i ∈ vs ∧ i < σ.length
  · rw [if_pos hm, if_pos hm]
  · rw [if_neg hm, if_neg hm]
    by_cases hv : i ∈ ns
    · have hl : ¬ i < σ.length := fun z => hm ⟨h i hv, z⟩
      rw [List.getElem?_eq_none (by rw [d.1]; omega), List.getElem?_eq_none (by omega)]
    · exact d.2 i hv
theorem wipe_wipe (σ : L2.St) (vs : List Nat) : L2.wipe (L2.wipe σ vs) vs = L2.wipe σ vs := by
  apply List.ext_getElem?
  intro i
  rw [wipe_get, wipe_get, wipe_length]
  by_cases hm : i ∈ vs ∧ i < σ.length
  · rw [if_pos hm, if_pos hm]
  · rw [if_neg hm]
theorem Rep.wipe {tw : Tw} {G0 H0 G H : Hp} {σ : L2.St} {δ : Env} (r : Rep tw G0 H0 G σ H δ) (vs : List Nat) : Rep tw G0 H0 G (L2.wipe σ vs) H (wipeD δ vs) := by
  have key : ∀ i, i ∉ vs → (L2.wipe σ vs)[i]? = σ[i]? := fun i hi => by
    rw [wipe_get, if_neg fun z => hi z.1]
  refine ⟨r.ext, by rw [wipe_length, wipeD_len, r.len], fun i s h => ?_, fun i j l l' a hi hj mi mj si sj => ?_⟩
  · obtain ⟨h1, h2⟩ := wipeD_get vs δ i s h
    rw [key i h1]
    exact r.sl i s h2
  · obtain ⟨h1, h2⟩ := wipeD_get vs δ i _ hi
    obtain ⟨h3, h4⟩ := wipeD_get vs δ j _ hj
    rw [key i h1] at si
    rw [key j h3] at sj
    exact r.own i j l l' a h2 h4 mi mj si sj
/-- the new list of a comprehension grows -/
theorem Ext.growO {tw : Tw} {G H G1 H1 : Hp} {D : Addr} {u : HO} (e : Ext tw G H G1 H1) (n : Fr tw H D) (g : G1 D = none) (he : ∀ φ, H1 D ≠ some (.ext φ)) (ht : ∀ xs, H1 D ≠ some (.tup xs)) : Ext tw G H G1 (upd H1 D u) := by
  have k := e.ok.write (u := u) g n.1 he
  refine ⟨e.gg, k.gh, fun b o' hb nv nt => ?_, k.tk, k.nv, e.new, e.gt⟩
  have z := e.hh b o' hb nv nt
  have hne : b ≠ D := fun q => by
    subst q
    cases o' with
    | tbl ps => exact nt ps rfl
    | tup xs => exact ht xs z
    | _ => exact n.2 _ hb trivial
  rw [upd_ne hne]
  exact z
theorem Ext.grow {tw : Tw} {G H G1 H1 : Hp} {D : Addr} {vs us : List V} (e : Ext tw G H G1 H1) (n : Fr tw H D) (g : G1 D = none) (h : H1 D = some (.lst vs)) : Ext tw G H G1 (upd H1 D (.lst us)) :=
  e.growO n g (fun φ z => by rw [h] at z; cases z) (fun φ z => by rw [h] at z; cases z)
def lcR (g : DG) (tt : DB) (te : DT) (δ : Env) : List PyData → (List PyData → Prop) → Prop
  | [], Q => Q []
  | x :: xs, Q => g x δ fun δ1 => tt δ1 (fun b => if b = true then te δ1 (fun s => ∃ d, asD s = some d ∧ lcR g tt te δ xs fun ys => Q (d :: ys)) (fun _ => False) else lcR g tt te δ xs Q) (fun _ => False)
def dLc (ti : DI) (g : DG) (tt : DB) (te : DT) (vs : List Nat) : DT := fun δ Q Ex => ti δ (fun ds _ => lcR g tt te (wipeD δ vs) ds fun ys => Q (.own ys)) Ex
def bYes : DB := fun _ Q _ => Q true
theorem ptsW {ifs : List Expr} {t t' : TT} (h : PTs X ifs t) (w : ∀ σ H R, t' σ H R → t σ H R) : PTs X ifs t' := ⟨fun p s σ H Q I q => h.run p s σ H Q I (w σ H Q q)⟩
theorem dts_nil : PTs X [] (liftB E bYes) := by
  refine ptsW pts_nil ?_
  rintro σ H R ⟨tw, G0, H0, G, δ, Q, Ex, a, h, q⟩
  exact q true G H h a.self
theorem dts_one {c : Expr} {t : DB} (h : PT X c (liftB E t)) : PTs X [c] (liftB E t) := pts_one h
theorem lift_lc {tt : DB} {te : DT} {vs : List Nat} (hns : ∀ i ∈ ns, i ∈ vs) : ∀ σ H R, lift E (dLc ti g tt te vs) σ H R → tLc (liftI E ti) (liftG ns g) (liftB E.no tt) (lift E.no te) vs σ H R := by
  rintro σ H R ⟨tw, G0, H0, G, δ, Q, Ex, a, h, q⟩
  refine ⟨tw, G0, H0, G, δ, _, Ex, a, h, fun ds fz J Gw Hw hq ew wk D hD => ?_⟩
  have rw0 := a.rep.go ew
  have okw := ew.ok
  have gwD : Gw D = none := by
    cases z : Gw D with
    | none => rfl
    | some u =>
      rw [okw.gh D u z] at hD
      cases hD
  refine ⟨fun i m H' => i + m = ds.length ∧ ∃ G1 acc accD, Ext tw Gw Hw G1 H' ∧ H' D = some (.lst acc) ∧ G1 D = none ∧ WDs G1 acc accD ∧ accD.length ≤ i ∧ lcR g tt te (wipeD δ vs) (ds.drop i) fun ys => Q (.own (accD ++ ys)), ⟨ds.length, by omega, Gw, [], [], okw.putH hD, upd_same, gwD, .nil, Nat.le_refl _, hq⟩, ?_⟩
  rintro i m H1 ⟨em, G1, acc, accD, e1, hacc, g1D, wacc, la, q1⟩
  have hz := wk.sz
  have nv : ¬ Vol tw D := Ext.nonvol e1.tk hacc
  have lat : Lat fz tw Gw Hw G1 H1 := ⟨e1.gg, e1.gh, fun _ b o hb v nt => e1.hh b o hb v nt⟩
  by_cases hi : i < ds.length
  · refine .inr ⟨wk.goes i G1 H1 hi lat, fun H' => ∃ G1 acc accD, Ext tw Gw Hw G1 H' ∧ H' D = some (.lst acc) ∧ G1 D = none ∧ WDs G1 acc accD ∧ accD.length ≤ i + 1 ∧ lcR g tt te (wipeD δ vs) (ds.drop (i + 1)) fun ys => Q (.own (accD ++ ys)), fun H' z => ⟨m - 1, by omega, by omega, z⟩, fun x H2 hy => ?_⟩
    obtain ⟨d, G2, ed, wd, e2⟩ := wk.yld i G1 H1 x H2 hi lat e1.ok hy
    have hd : ds.drop i = d :: ds.drop (i + 1) := by
      rw [List.drop_eq_getElem_cons hi]
      have : ds[i] = d := by
        rw [List.getElem?_eq_getElem hi] at ed
        exact Option.some.inj ed
      rw [this]
    rw [hd] at q1
    have e12 := e1.trans e2
    have r2 : Rep tw G0 H0 G2 σ H2 δ := rw0.go e12
    have gD : ∀ {G' H' : Hp}, Ext tw G1 H1 G' H' → G' D = none := fun {G' H'} e => by
      cases z : G' D with
      | none => rfl
      | some u =>
        rcases e.new D u z with y | y
        · rw [g1D] at y; cases y
        · exact absurd rfl (y.ne hacc trivial)
    refine ⟨tw, G0, H0, G2, wipeD δ vs, d, _, r2.wipe vs, wd, q1, fun δ3 σ3 q3 r3 d3 => ⟨?_, ?_⟩⟩
    · have := d3.wipe hns
      rw [this, wipe_wipe]
    · refine ⟨tw, G0, H0, G2, δ3, _, fun _ => False, ⟨r3, fun c G' H' z => z.elim, a.tb⟩, q3, fun b G4 H4 q4 e4 => ?_⟩
      cases b with
      | true =>
        rw [if_pos rfl] at q4 ⊢
        refine ⟨tw, G0, H0, G4, δ3, _, fun _ => False, ⟨r3.go e4, fun c G' H' z => z.elim, a.tb⟩, q4, fun s v G5 H5 ⟨y, ey, q5⟩ v5 e5 => ?_⟩
        obtain ⟨G6, e6, sm, w6⟩ := v5.froze e5 (asF_asD ey)
        have eA : Ext tw G1 H1 G6 H5 := (e2.trans e4).trans e6
        have hD5 : H5 D = some (.lst acc) := eA.hh D _ hacc nv nt_lst
        have w7 : WDs G6 (acc ++ [v]) (accD ++ [y]) := (WDs.mono eA.gg _ _ wacc).append (.cons w6 .nil)
        refine ⟨acc, hD5, ?_, G6, acc ++ [v], accD ++ [y], (e1.trans eA).grow (fr_none okw.tk hD) (gD eA) hD5, upd_same, gD eA, w7, ?_, ?_⟩
        · rw [wacc.length]
          omega
        · rw [List.length_append]
          show accD.length + 1 ≤ i + 1
          omega
        · have : (fun ys => Q (.own (accD ++ [y] ++ ys))) = fun ys => Q (.own (accD ++ y :: ys)) := by
            funext ys
            rw [List.append_assoc]
            rfl
          rw [this]
          exact q5
      | false =>
        rw [if_neg Bool.false_ne_true] at q4 ⊢
        have eA : Ext tw G1 H1 G4 H4 := e2.trans e4
        exact ⟨G4, acc, accD, e1.trans eA, eA.hh D _ hacc nv nt_lst, gD eA, WDs.mono eA.gg _ _ wacc, by omega, q4⟩
  · have ei : i = ds.length := by omega
    subst ei
    refine .inl ⟨wk.stops G1 H1 lat, ?_⟩
    rw [List.drop_length] at q1
    have q2 : Q (.own (accD ++ [])) := q1
    rw [List.append_nil] at q2
    refine q _ (.ref D) G1 H1 q2 ⟨D, acc, rfl, hacc, g1D, ew.free (fr_none okw.tk hD), wacc, by omega⟩ (ew.trans e1)
theorem de_lc {elt : Expr} {ifs : List Expr} {scope : Scope} {own : List (Str × Nat)} {tt : DB} {te : DT} (hc : X.calm = true) (hN : X.N.Nodup) (hi : PI X tg iter (liftI E ti)) (ok : BlkOk X.N X.env.scope scope own) (hns : ∀ i ∈ ns, i ∈ own.map (·.2))
    (hg : ∀ (s : Shared) (H : Hp) (C : Addr) (cl : List (Str × Addr)) (fp : List Addr), PG (X.blk s H scope (compEnvC scope cl C X.env) fp) tg (liftG ns g))
    (ht : ∀ (s : Shared) (H : Hp) (C : Addr) (cl : List (Str × Addr)) (fp : List Addr), PTs (X.blk s H scope (compEnvC scope cl C X.env) fp) ifs (liftB E.no tt))
    (he : ∀ (s : Shared) (H : Hp) (C : Addr) (cl : List (Str × Addr)) (fp : List Addr), PE (X.blk s H scope (compEnvC scope cl C X.env) fp) elt (lift E.no te)) (hs : ∀ x, foldedSetIterable iter X.env x = pure x := by intro _; rfl) :
    PE X (.ListComp elt [⟨tg, iter, ifs, 0⟩] scope pos) (lift E (dLc ti g tt te (own.map (·.2)))) :=
  peW (pe_lc hc hN hi ok hg ht he hs) (lift_lc hns)
/-- name = [..] -/
theorem ds_setLc {i : Nat} {y : Str} {py spos : Pos} {elt : Expr} {ifs : List Expr} {scope : Scope} {own : List (Str × Nat)} {tt : DB} {te : DT} (hc : X.calm = true) (hN : X.N.Nodup) (hy : X.N[i]? = some y) (hyl : X.env.scope.names.lookup y = some .local)
    (hsw : swapsWith (.ListComp elt [⟨tg, iter, ifs, 0⟩] scope pos) (some (.Name y py)) spos.line X.env = pure true) (hi : PI X tg iter (liftI E ti)) (ok : BlkOk X.N X.env.scope scope own) (hns : ∀ i ∈ ns, i ∈ own.map (·.2))
    (hg : ∀ (s : Shared) (H : Hp) (C : Addr) (cl : List (Str × Addr)) (fp : List Addr), PG (X.blk s H scope (compEnvC scope cl C X.env) fp) tg (liftG ns g))
    (ht : ∀ (s : Shared) (H : Hp) (C : Addr) (cl : List (Str × Addr)) (fp : List Addr), PTs (X.blk s H scope (compEnvC scope cl C X.env) fp) ifs (liftB E.no tt))
    (he : ∀ (s : Shared) (H : Hp) (C : Addr) (cl : List (Str × Addr)) (fp : List Addr), PE (X.blk s H scope (compEnvC scope cl C X.env) fp) elt (lift E.no te)) (hs : ∀ x, foldedSetIterable iter X.env x = pure x := by intro _; rfl) :
    PS X (.Assign [.Name y py] (.ListComp elt [⟨tg, iter, ifs, 0⟩] scope pos) spos) (liftS E (sSet i (dLc ti g tt te (own.map (·.2))))) := by
  refine psW (ps_setLc hc hN hy hyl hsw hi ok hg ht he hs) ?_
  rintro D σ H ⟨tw, G0, H0, G, δ, De, Ex, a, h, gg⟩
  refine lift_lc hns σ H _ ⟨tw, G0, H0, G, δ, _, Ex, a, h, fun s v G1 H1 hn r e => ?_⟩
  obtain ⟨δ', k, r'⟩ := stO_use a.rep hn r e
  exact gg.nx _ _ _ _ k r'
theorem ds_setLcF {i : Nat} {y : Str} {py spos : Pos} {elt : Expr} {ifs : List Expr} {scope : Scope} {own : List (Str × Nat)} {tt : DB} {te : DT} (hc : X.calm = true) (hN : X.N.Nodup) (hy : X.N[i]? = some y) (hyl : X.env.scope.names.lookup y = some .local)
    (hsw : swapsWith (.ListComp elt [⟨tg, iter, ifs, 0⟩] scope pos) (some (.Name y py)) spos.line X.env = pure true) (hi : PI X tg iter (liftI E ti)) (ok : BlkOk X.N X.env.scope scope own) (hns : ∀ i ∈ ns, i ∈ own.map (·.2))
    (hg : ∀ (s : Shared) (H : Hp) (C : Addr) (cl : List (Str × Addr)) (fp : List Addr), PG (X.blk s H scope (compEnvC scope cl C X.env) fp) tg (liftG ns g))
    (ht : ∀ (s : Shared) (H : Hp) (C : Addr) (cl : List (Str × Addr)) (fp : List Addr), PTs (X.blk s H scope (compEnvC scope cl C X.env) fp) ifs (liftB E.no tt))
    (he : ∀ (s : Shared) (H : Hp) (C : Addr) (cl : List (Str × Addr)) (fp : List Addr), PE (X.blk s H scope (compEnvC scope cl C X.env) fp) elt (lift E.no te)) (hs : ∀ x, foldedSetIterable iter X.env x = pure x := by intro _; rfl) :
    PS X (.Assign [.Name y py] (.ListComp elt [⟨tg, iter, ifs, 0⟩] scope pos) spos) (liftS E (sSetF i (dLc ti g tt te (own.map (·.2))))) := by
  refine psW (ps_setLc hc hN hy hyl hsw hi ok hg ht he hs) ?_
  rintro D σ H ⟨tw, G0, H0, G, δ, De, Ex, a, h, gg⟩
  refine lift_lc hns σ H _ ⟨tw, G0, H0, G, δ, _, Ex, a, h, fun s v G1 H1 hn r e => ?_⟩
  obtain ⟨δ', G2, k, r'⟩ := fz_use a.rep hn r e
  exact gg.nx _ _ _ _ k r'
end
/-! ### a slot's own list is changed -/
section
variable {tw : Tw} {G0 H0 G H : Hp} {σ : L2.St} {δ : Env}
theorem SR.off {tw : Tw} {H0 G H : Hp} {a : Addr} {u : HO} {s : SV} {v : V} (f : SR tw H0 G H v s) (n : ∀ b, Mine s → v = .ref b → b ≠ a) : SR tw H0 G (upd H a u) v s := by
  cases s with
  | own l =>
    obtain ⟨b, us, g1, g2, g3, g4, g5, g6⟩ := f
    exact ⟨b, us, g1, by rw [upd_ne (n b trivial g1)]; exact g2, g3, g4, g5, g6⟩
  | ow c =>
    obtain ⟨b, o, g1, g2, g3, g4, g5, g6⟩ := f
    exact ⟨b, o, g1, by rw [upd_ne (n b trivial g1)]; exact g2, g3, g4, g5, g6⟩
  | d x => exact f
  | bor l => exact f
  | bo c => exact f
  | fo c => exact f
  | town => exact f
  | v x => exact f
  | abs φ m => exact f
theorem lt_of_at {δ : Env} {i : Nat} {o : Option SV} (h : δ[i]? = some o) : i < δ.length := (List.getElem?_eq_some_iff.mp h).1
/-- an own object in slot i is written -/
theorem Rep.writeO (r : Rep tw G0 H0 G σ H δ) {i : Nat} {s s' : SV} {a : Addr} {u : HO} (h : δ[i]? = some (some s)) (m : Mine s) (e1 : σ[i]? = some (some (.ref a))) (he : ∀ φ, H a ≠ some (.ext φ)) (w : SR tw H0 G (upd H a u) (.ref a) s') (m' : Mine s') : Rep tw G0 H0 G σ (upd H a u) (δ.set i (some s')) := by
  obtain ⟨o, q1, q2, q3, q4, q5⟩ := Mine.at r m h e1
  have hi := lt_of_at h
  refine ⟨r.ext.growO q3 q2 he (fun xs z => by rw [q1] at z; cases z; exact q5), by rw [List.length_set, r.len], fun j t hj => ?_, fun j k l1 l2 b hj hk mj mk sj sk => ?_⟩
  · by_cases e : i = j
    · subst e
      rw [List.getElem?_set_self hi] at hj
      cases hj
      exact ⟨_, e1, w⟩
    · rw [List.getElem?_set_ne e] at hj
      obtain ⟨v, f1, f2⟩ := r.sl j t hj
      exact ⟨v, f1, f2.off fun b mt ev z => by
        subst ev
        subst z
        exact e (r.own i j s t b h hj m mt e1 f1)⟩
  · have old : ∀ {j : Nat} {l1 : SV}, (δ.set i (some s'))[j]? = some (some l1) → Mine l1 → ∃ l3, δ[j]? = some (some l3) ∧ Mine l3 := fun {j l1} hj mj => by
      by_cases e : i = j
      · subst e
        exact ⟨s, h, m⟩
      · rw [List.getElem?_set_ne e] at hj
        exact ⟨l1, hj, mj⟩
    obtain ⟨l3, h3, m3⟩ := old hj mj
    obtain ⟨l4, h4, m4⟩ := old hk mk
    exact r.own j k l3 l4 b h3 h4 m3 m4 sj sk
theorem Rep.mine (r : Rep tw G0 H0 G σ H δ) {i : Nat} {l : List PyData} (h : δ[i]? = some (some (.own l))) : ∃ a vs, σ[i]? = some (some (.ref a)) ∧ H a = some (.lst vs) ∧ G a = none ∧ Fr tw H0 a ∧ WDs G vs l ∧ l.length ≤ sizeLine ∧
    ∀ vs' l', WDs G vs' l' → l'.length ≤ sizeLine → Rep tw G0 H0 G σ (upd H a (.lst vs')) (δ.set i (some (.own l'))) := by
  obtain ⟨v, e1, a, vs, e2, e3, e4, e5, e6, e7⟩ := r.sl i _ h
  subst e2
  exact ⟨a, vs, e1, e3, e4, e5, e6, e7, fun vs' l' w z => r.writeO h trivial e1 (fun φ z => by rw [e3] at z; cases z) ⟨a, vs', rfl, upd_same, e4, e5, w, z⟩ trivial⟩
end
section
variable {X : Cx} {E : EK} {e ei : Expr} {te ti : DT} {pos p apos cpos tpos : Pos} {x : Str}
/-- x.append(e) -/
def sApp (i : Nat) (te : DT) : DS := fun De δ Ex => ∃ l, δ[i]? = some (some (.own l)) ∧ te δ (fun s => ∃ d, asD s = some d ∧ l.length < sizeLine ∧ De.nx (δ.set i (some (.own (l ++ [d]))))) Ex
theorem Rep.tyL {K : PySem.W.Frag} {H : Hp} {a : Addr} {vs : List V} (h : H a = some (.lst vs)) : tyV K "list" (.ref a) H := Or.inl ⟨rfl, _, Or.inl (Or.inl h)⟩
theorem ds_app {i : Nat} (hN : X.N[i]? = some x) (hv : Vis X.env.scope x) (he : PE X e (lift E te)) (hs : swapsWith (.Call (.Attribute (.Name x p) "append" apos) [e] [] cpos) none pos.line X.env = pure false := by rfl) (hd : (x == ("__debug__" : Str)) = false := by decide) (hcd : (x == ("__classdict__" : Str)) = false := by decide)
    (hbase : attributeBase (.Name x p) "append" X.env (eval (.Name x p) X.env) = eval (.Name x p) X.env := by rfl) (hfew : ((backTo cpos (starEach [e] X.env)).all (fun x => !x.1) && (backToKw cpos (keywordEach [] X.env)).all (fun x => x.1.isSome) && decide ([e].length + ([] : List Keyword).length + (if ([] : List Keyword).isEmpty then 0 else 1) < 30)) = true := by rfl)
    (hline : (apos.endLine == cpos.line) = true := by rfl) (s1 : starEach (e :: []) X.env = (false, eval e X.env) :: starEach [] X.env := by rfl) (hplain : (backTo cpos (starEach [] X.env)).any (·.1) = false := by rfl) :
    PS X (.Expr (.Call (.Attribute (.Name x p) "append" apos) [e] [] cpos) pos) (liftS E (sApp i te)) := by
  refine psW (ps_expr (pe_bm PySem.F.plainAttrs_list PySem.F.slot_list_append PySem.F.type_list_append mt_append (pe_var (i := i) hN hv hd hcd) (pa_cons he pa_nil s1) hbase hfew hline s1 hplain) hs) ?_
  rintro D σ H ⟨tw, G0, H0, G, δ, De, Ex, a, ⟨l, hl, h⟩, g⟩
  obtain ⟨b, vs, e1, e2, e3, e4, e5, e6, wr⟩ := a.rep.mine hl
  refine ⟨.ref b, e1, Rep.tyL e2, tw, G0, H0, G, δ, _, Ex, a, h, fun s v G1 H1 ⟨d, ed, z, hn⟩ r ex => ?_⟩
  obtain ⟨G2, ex2, sm, f⟩ := r.froze ex (asF_asD ed)
  obtain ⟨b', vs', f1, f2, f3, f4, f5, f6, wr'⟩ := (a.rep.go ex2).mine hl
  rw [e1] at f1
  cases f1
  refine ⟨b, vs', v, rfl, rfl, f2, by rw [f5.length]; exact z, ?_⟩
  refine g.nx _ G2 σ _ hn (wr' _ _ (f5.append (.cons f .nil)) ?_)
  rw [List.length_append]
  exact z
/-- x.extend(e) -/
def sExt (i : Nat) (te : DT) : DS := fun De δ Ex => ∃ l, δ[i]? = some (some (.own l)) ∧ te δ (fun s => ∃ es, asL s = some es ∧ l.length + es.length ≤ sizeLine ∧ De.nx (δ.set i (some (.own (l ++ es))))) Ex
theorem ds_ext {i : Nat} (hN : X.N[i]? = some x) (hv : Vis X.env.scope x) (he : PE X e (lift E te)) (hs : swapsWith (.Call (.Attribute (.Name x p) "extend" apos) [e] [] cpos) none pos.line X.env = pure false := by rfl) (hd : (x == ("__debug__" : Str)) = false := by decide) (hcd : (x == ("__classdict__" : Str)) = false := by decide)
    (hbase : attributeBase (.Name x p) "extend" X.env (eval (.Name x p) X.env) = eval (.Name x p) X.env := by rfl) (hfew : ((backTo cpos (starEach [e] X.env)).all (fun x => !x.1) && (backToKw cpos (keywordEach [] X.env)).all (fun x => x.1.isSome) && decide ([e].length + ([] : List Keyword).length + (if ([] : List Keyword).isEmpty then 0 else 1) < 30)) = true := by rfl)
    (hline : (apos.endLine == cpos.line) = true := by rfl) (s1 : starEach (e :: []) X.env = (false, eval e X.env) :: starEach [] X.env := by rfl) (hplain : (backTo cpos (starEach [] X.env)).any (·.1) = false := by rfl) :
    PS X (.Expr (.Call (.Attribute (.Name x p) "extend" apos) [e] [] cpos) pos) (liftS E (sExt i te)) := by
  refine psW (ps_expr (pe_bm PySem.F.plainAttrs_list PySem.F.slot_list_extend PySem.F.type_list_extend mt_extend (pe_var (i := i) hN hv hd hcd) (pa_cons he pa_nil s1) hbase hfew hline s1 hplain) hs) ?_
  rintro D σ H ⟨tw, G0, H0, G, δ, De, Ex, a, ⟨l, hl, h⟩, g⟩
  obtain ⟨b, vs, e1, e2, e3, e4, e5, e6, wr⟩ := a.rep.mine hl
  refine ⟨.ref b, e1, Rep.tyL e2, tw, G0, H0, G, δ, _, Ex, a, h, fun s v G1 H1 ⟨es, ed, z, hn⟩ r ex => ?_⟩
  obtain ⟨c, us, rfl, h1, w1, z1⟩ := r.list ex.gh ed
  obtain ⟨b', vs', f1, f2, f3, f4, f5, f6, wr'⟩ := (a.rep.go ex).mine hl
  rw [e1] at f1
  cases f1
  refine ⟨b, c, vs', us, rfl, rfl, f2, h1, by rw [f5.length, w1.length]; exact z, ?_⟩
  refine g.nx _ G1 σ _ hn (wr' _ _ (f5.append w1) ?_)
  rw [List.length_append]
  exact z
/-- y = x.pop() -/
def sPop (i j : Nat) : DS := fun De δ _ => ∃ l d, δ[j]? = some (some (.own (l ++ [d]))) ∧ i ≠ j ∧ De.nx ((δ.set j (some (.own l))).set i (some (.d d)))
theorem ds_pop {i j : Nat} {y : Str} {pos' : Pos} (hNd : X.N.Nodup) (hi : X.N[i]? = some y) (hy : Loc X.env.scope y) (hN : X.N[j]? = some x) (hv : Vis X.env.scope x) (hs : swapsWith (.Call (.Attribute (.Name x p) "pop" apos) [] [] cpos) (some (.Name y pos')) pos.line X.env = pure false := by rfl) (hd : (x == ("__debug__" : Str)) = false := by decide) (hcd : (x == ("__classdict__" : Str)) = false := by decide)
    (hbase : attributeBase (.Name x p) "pop" X.env (eval (.Name x p) X.env) = eval (.Name x p) X.env := by rfl) (hline : (apos.endLine == cpos.line) = true := by rfl) (hf : X.fn y = true ∨ X.env.scope.names.lookup y = some .local := by first | exact .inl rfl | exact .inr rfl | assumption) :
    PS X (.Assign [.Name y pos'] (.Call (.Attribute (.Name x p) "pop" apos) [] [] cpos) pos) (liftS E (sPop i j)) := by
  refine psW (ps_set hNd hi hy (pe_bm0 PySem.F.plainAttrs_list PySem.F.slot_list_pop PySem.F.type_list_pop mt_pop (pe_var (i := j) hN hv hd hcd) hbase hline) hs hf) ?_
  rintro D σ H ⟨tw, G0, H0, G, δ, De, Ex, a, ⟨l, d, hl, hij, h⟩, g⟩
  obtain ⟨b, vs, e1, e2, e3, e4, e5, e6, wr⟩ := a.rep.mine hl
  have hlen := e5.length
  rw [List.length_append] at hlen
  have hlast : (l ++ [d])[vs.length - 1]? = some d := by
    rw [hlen]
    simp
  obtain ⟨v, ev, wv⟩ := e5.get hlast
  refine ⟨.ref b, e1, Rep.tyL e2, b, vs, v, rfl, rfl, e2, ev, ?_⟩
  have wd : WDs G vs.dropLast l := by
    have w1 := e5.take l.length
    rw [List.take_left'] at w1
    · have : vs.dropLast = vs.take l.length := by
        rw [List.dropLast_eq_take, hlen]
        rfl
      rw [this]
      exact w1
    · rfl
  have r1 := wr _ _ wd (by rw [List.length_append] at e6; omega)
  exact g.nx _ _ _ _ h (r1.set (s := .d d) wv fun _ z => z.elim)
/-! ### x[k] = e, x[k] op= e -/
theorem WDs.ixN {G : Hp} {ds : List PyData} {vs : List V} {z : Int} {j : Nat} (h : WDs G vs ds) (e : L2.ixN ds.length z = some j) : L2.ixN vs.length z = some j := by
  rw [h.length]
  exact e
def sItem (i : Nat) (ti te : DT) : DS := fun De δ Ex => ∃ l, δ[i]? = some (some (.own l)) ∧ te δ (fun s => ∃ d, asD s = some d ∧ ti δ (fun k => ∃ z j, k = .d (.int z) ∧ ixN l.length z = some j ∧ De.nx (δ.set i (some (.own (l.set j d))))) Ex) Ex
theorem ds_item {i : Nat} (hN : X.N[i]? = some x) (hv : Vis X.env.scope x) (hi : PE X ei (lift E ti)) (he : PE X e (lift E te)) (hd : (x == ("__debug__" : Str)) = false := by decide) (hcd : (x == ("__classdict__" : Str)) = false := by decide)
    (ha : ∀ v, assign (.Subscript (.Name x p) ei tpos) X.env v = (do let ov ← holding [v] (eval (.Name x p) X.env); let iv ← holding [v, ov] (eval ei X.env); standAt tpos; holding [v, ov, iv] (setItem ov iv v); release [v, ov, iv] []) := by intro _; rfl)
    (hs : swapsWithSole [.Subscript (.Name x p) ei tpos] e pos.line X.env = pure false := by rfl) (hw : swappedStores [.Subscript (.Name x p) ei tpos] e X.env = pure none := by rfl) (h1 : (assignEach [.Subscript (.Name x p) ei tpos] X.env).map (·.2) = [assign (.Subscript (.Name x p) ei tpos) X.env] := by rfl) :
    PS X (.Assign [.Subscript (.Name x p) ei tpos] e pos) (liftS E (sItem i ti te)) := by
  refine psW (ps_asg he (pg_sub (pe_var (i := i) hN hv hd hcd) hi set_list ha) hs hw h1) ?_
  rintro D σ H ⟨tw, G0, H0, G, δ, De, Ex, a, ⟨l, hl, h⟩, g⟩
  refine ⟨tw, G0, H0, G, δ, _, Ex, a, h, fun s v G1 H1 ⟨d, ed, hk⟩ r ex => ?_⟩
  obtain ⟨G2, ex2, sm, f⟩ := r.froze ex (asF_asD ed)
  obtain ⟨b, vs, e1, _⟩ := (a.rep.go ex2).mine hl
  refine ⟨.ref b, e1, tw, G0, H0, G2, δ, _, Ex, a.go ex2, hk, fun k kv G3 H3 ⟨z, j, ek, hj, hn⟩ rk ex3 => ?_⟩
  subst ek
  have ev := rk.int
  subst ev
  obtain ⟨b', vs', f1, f2, f3, f4, f5, f6, wr'⟩ := ((a.rep.go ex2).go ex3).mine hl
  rw [e1] at f1
  cases f1
  refine ⟨b, vs', z, j, rfl, rfl, f2, f5.ixN hj, ?_⟩
  exact g.nx _ G3 σ _ hn (wr' _ _ (f5.set (WD.mono ex3.gg _ _ f) j) (by rw [List.length_set]; exact f6))
def gGetL : V → V → Hp → VK → Prop := fun o i H Q => ∃ p xs z j v, o = .ref p ∧ i = .int z ∧ H p = some (.lst xs) ∧ ixN xs.length z = some j ∧ 0 ≤ z ∧ xs[j]? = some v ∧ Q v H
theorem get_list : PGet X gGetL := by
  intro pins s σ H o i ov iv Q I ro ri h
  obtain ⟨p, xs, z, j, v, rfl, rfl, hp, hj, h0, hv, q⟩ := h
  cases ro
  obtain ⟨t, rfl⟩ := ri
  obtain ⟨its, r, pl, hz⟩ := I.list (.of hp)
  obtain ⟨h1, h2, h3, h4⟩ := ixN_seq hj
  obtain ⟨w, ew, rw'⟩ := r.get hv
  have hl := r.length
  have hn := line63
  have hjz : z.toNat = j := by
    rw [seqIndex_of h0 h4] at h1
    exact Option.some.inj h1
  exact wpAny_getItem_list pl.isList h0 (by omega) (by rw [hjz]; simpa using ew) ⟨v, H, I, rw', q⟩
/-- x[k] op= e, numbers -/
def sAugI (i : Nat) (f : Int → Int → Int) (ti te : DT) : DS := fun De δ Ex => ∃ l, δ[i]? = some (some (.own l)) ∧ ti δ (fun k => ∃ z j m, k = .d (.int z) ∧ ixN l.length z = some j ∧ 0 ≤ z ∧ l[j]? = some (.int m) ∧ te δ (fun s => ∃ n, s = .d (.int n) ∧ De.nx (δ.set i (some (.own (l.set j (.int (f m n))))))) Ex) Ex
theorem ds_augI {i : Nat} {op : Operator} {f : Int → Int → Int} (hop : PIp X op (ipI f)) (hN : X.N[i]? = some x) (hv : Vis X.env.scope x) (hi : PE X ei (lift E ti)) (he : PE X e (lift E te)) (hd : (x == ("__debug__" : Str)) = false := by decide) (hcd : (x == ("__classdict__" : Str)) = false := by decide)
    (ha : ∀ ov iv new, augStore ei ov iv new = (do holding [new, ov, iv] (setItem ov iv new); release [new, ov, iv] []; pure .next) := by intros; rfl) : PS X (.AugAssign (.Subscript (.Name x p) ei tpos) op e pos) (liftS E (sAugI i f ti te)) := by
  refine psW (ps_augS (pe_var (i := i) hN hv hd hcd) hi get_list he hop set_list ha) ?_
  rintro D σ H ⟨tw, G0, H0, G, δ, De, Ex, a, ⟨l, hl, h⟩, g⟩
  obtain ⟨b, vs, e1, _⟩ := a.rep.mine hl
  refine ⟨.ref b, e1, tw, G0, H0, G, δ, _, Ex, a, h, fun k kv G3 H3 ⟨z, j, m, ek, hj, h0, hm, hn⟩ rk ex3 => ?_⟩
  subst ek
  have ev := rk.int
  subst ev
  obtain ⟨b', vs', f1, f2, f3, f4, f5, f6, wr'⟩ := (a.rep.go ex3).mine hl
  rw [e1] at f1
  cases f1
  obtain ⟨mv, em, wm⟩ := f5.get hm
  cases wm
  refine ⟨b, vs', z, j, .int m, rfl, rfl, f2, f5.ixN hj, h0, em, ?_⟩
  refine ⟨tw, G0, H0, G3, δ, _, Ex, a.go ex3, hn, fun s v G4 H4 ⟨n, es, hx⟩ rs ex4 => ?_⟩
  subst es
  have ev := rs.int
  subst ev
  refine ⟨m, n, rfl, rfl, ?_⟩
  obtain ⟨b', vs2, g1, g2, g3, g4, g5, g6, wr2⟩ := ((a.rep.go ex3).go ex4).mine hl
  rw [e1] at g1
  cases g1
  exact ⟨b, vs2, z, j, rfl, rfl, g2, g5.ixN hj, g.nx _ G4 σ _ hx (wr2 _ _ (g5.set (.int _) j) (by rw [List.length_set]; exact g6))⟩
/-- name op= e, numbers -/
def sAug (i : Nat) (f : Int → Int → Int) (te : DT) : DS := fun De δ Ex => ∃ m, δ[i]? = some (some (.d (.int m))) ∧ te δ (fun s => ∃ n, s = .d (.int n) ∧ De.nx (δ.set i (some (.d (.int (f m n)))))) Ex
theorem ds_aug {i : Nat} {op : Operator} {f : Int → Int → Int} (hop : PIp X op (ipI f)) (hNd : X.N.Nodup) (hN : X.N[i]? = some x) (hx : Loc X.env.scope x) (he : PE X e (lift E te)) (hf : X.fn x = true ∨ X.env.scope.names.lookup x = some .local := by first | exact .inl rfl | exact .inr rfl | assumption) :
    PS X (.AugAssign (.Name x tpos) op e pos) (liftS E (sAug i f te)) := by
  refine psW (ps_aug hNd hN hx he hop hf) ?_
  rintro D σ H ⟨tw, G0, H0, G, δ, De, Ex, a, ⟨m, hl, h⟩, g⟩
  obtain ⟨v, e1, wv⟩ := a.rep.sl i _ hl
  have wv' : WD G v (.int m) := wv
  cases wv'
  refine ⟨.int m, e1, tw, G0, H0, G, δ, _, Ex, a, h, fun s v G4 H4 ⟨n, es, hn⟩ rs ex4 => ?_⟩
  subst es
  have ev := rs.int
  subst ev
  exact ⟨m, n, rfl, rfl, g.nx _ G4 _ _ hn ((a.rep.go ex4).set (s := .d (.int (f m n))) (WD.int _) fun _ z => z.elim)⟩
/-! ### a slot's own list is frozen; a name is given another's list -/
def sFrz (i : Nat) (t : DS) : DS := fun De δ Ex => ∃ l, δ[i]? = some (some (.own l)) ∧ t De (δ.set i (some (.d (.list l)))) Ex
theorem SR.frz {tw : Tw} {H0 G H : Hp} {a : Addr} {u : HO} {s : SV} {v : V} (f : SR tw H0 G H v s) (g : G a = none) (n : ∀ b, Mine s → v = .ref b → b ≠ a) : SR tw H0 (upd G a u) H v s := by
  have sm : Same G (upd G a u) := same_freeze g
  cases s with
  | own l =>
    obtain ⟨b, us, g1, g2, g3, g4, g5, g6⟩ := f
    exact ⟨b, us, g1, g2, by rw [upd_ne (n b trivial g1)]; exact g3, g4, WDs.mono sm _ _ g5, g6⟩
  | ow c =>
    obtain ⟨b, o, g1, g2, g3, g4, g5, g6⟩ := f
    exact ⟨b, o, g1, g2, by rw [upd_ne (n b trivial g1)]; exact g3, g4, g5, g6.mono sm⟩
  | d x => exact WD.mono sm _ _ f
  | bor l => exact f
  | bo c => exact f
  | fo c =>
    obtain ⟨b, o, g1, g2, g3⟩ := f
    exact ⟨b, o, g1, sm _ _ g2, g3.mono sm⟩
  | town => exact f
  | v x => exact f
  | abs φ m => exact m v G _ sm f
/-- an own object in slot i is frozen -/
theorem Rep.freezeO {tw : Tw} {G0 H0 G H : Hp} {σ : L2.St} {δ : Env} (r : Rep tw G0 H0 G σ H δ) {i : Nat} {s s' : SV} {a : Addr} {o : HO} (h : δ[i]? = some (some s)) (m : Mine s) (e1 : σ[i]? = some (some (.ref a))) (ho : H a = some o) (nto : NT o) (w : SR tw H0 (upd G a o) H (.ref a) s') (m' : ¬ Mine s') : Same G (upd G a o) ∧ Rep tw G0 H0 (upd G a o) σ H (δ.set i (some s')) := by
  obtain ⟨o', q1, q2, q3, q4, q5⟩ := Mine.at r m h e1
  have hi := lt_of_at h
  refine ⟨same_freeze q2, r.ext.freezeO ho q2 q3 nto, by rw [List.length_set, r.len], fun j t hj => ?_, fun j k l1 l2 b hj hk mj mk sj sk => ?_⟩
  · by_cases e : i = j
    · subst e
      rw [List.getElem?_set_self hi] at hj
      cases hj
      exact ⟨_, e1, w⟩
    · rw [List.getElem?_set_ne e] at hj
      obtain ⟨v, f1, f2⟩ := r.sl j t hj
      exact ⟨v, f1, f2.frz q2 fun b mt ev z => by
        subst ev
        subst z
        exact e (r.own i j s t b h hj m mt e1 f1)⟩
  · have old : ∀ {j : Nat} {l1 : SV}, (δ.set i (some s'))[j]? = some (some l1) → Mine l1 → δ[j]? = some (some l1) := fun {j l1} hj mj => by
      by_cases e : i = j
      · subst e
        rw [List.getElem?_set_self hi] at hj
        cases hj
        exact absurd mj m'
      · rw [List.getElem?_set_ne e] at hj
        exact hj
    exact r.own j k l1 l2 b (old hj mj) (old hk mk) mj mk sj sk
theorem Rep.freeze {tw : Tw} {G0 H0 G H : Hp} {σ : L2.St} {δ : Env} (r : Rep tw G0 H0 G σ H δ) {i : Nat} {l : List PyData} (h : δ[i]? = some (some (.own l))) : ∃ a vs, σ[i]? = some (some (.ref a)) ∧ H a = some (.lst vs) ∧ WD (upd G a (.lst vs)) (.ref a) (.list l) ∧ Same G (upd G a (.lst vs)) ∧ Rep tw G0 H0 (upd G a (.lst vs)) σ H (δ.set i (some (.d (.list l)))) := by
  obtain ⟨v, e1, a, vs, e2, e3, e4, e5, e6, e7⟩ := r.sl i _ h
  subst e2
  have ws : WD (upd G a (.lst vs)) (.ref a) (.list l) := .lst upd_same e7 (WDs.mono (same_freeze e4) _ _ e6)
  obtain ⟨sm, r'⟩ := r.freezeO (s' := .d (.list l)) h trivial e1 e3 nt_lst ws (fun z => z)
  exact ⟨a, vs, e1, e3, ws, sm, r'⟩
theorem ds_frz {st : Stmt} {t : DS} (i : Nat) (h : PS X st (liftS E t)) : PS X st (liftS E (sFrz i t)) := by
  refine psW h ?_
  rintro D σ H ⟨tw, G0, H0, G, δ, De, Ex, a, ⟨l, hl, h⟩, g⟩
  obtain ⟨b, vs, _, _, _, _, r⟩ := a.rep.freeze hl
  exact ⟨tw, G0, H0, _, _, De, Ex, ⟨r, a.exc, a.tb⟩, h, g⟩
/-- y = x, x a list of its own: both hold it from now on, frozen -/
def sMove (i j : Nat) : DS := fun De δ _ => ∃ l, δ[j]? = some (some (.own l)) ∧ De.nx ((δ.set j (some (.d (.list l)))).set i (some (.d (.list l))))
theorem ds_move {i j : Nat} {y : Str} {pos' : Pos} (hNd : X.N.Nodup) (hi : X.N[i]? = some y) (hy : Loc X.env.scope y) (hN : X.N[j]? = some x) (hv : Vis X.env.scope x) (hs : swapsWith (.Name x p) (some (.Name y pos')) pos.line X.env = pure false := by rfl) (hd : (x == ("__debug__" : Str)) = false := by decide) (hcd : (x == ("__classdict__" : Str)) = false := by decide)
    (hf : X.fn y = true ∨ X.env.scope.names.lookup y = some .local := by first | exact .inl rfl | exact .inr rfl | assumption) : PS X (.Assign [.Name y pos'] (.Name x p) pos) (liftS E (sMove i j)) := by
  refine psW (ps_set hNd hi hy (pe_var (i := j) hN hv hd hcd) hs hf) ?_
  rintro D σ H ⟨tw, G0, H0, G, δ, De, Ex, a, ⟨l, hl, h⟩, g⟩
  obtain ⟨b, vs, e1, e2, w, sm, r⟩ := a.rep.freeze hl
  exact ⟨.ref b, e1, g.nx _ _ _ _ h (r.set (s := .d (.list l)) w fun _ z => z.elim)⟩
/-! ### raise -/
theorem ds_raise {C : Value} {e : Expr} (hc : X.calm = true) (tk : Takes X (fun cls d _ H => E.x cls d H)) (he : PMk X e (fun _ H Q => Q C none H)) : PS X (.Raise (some e) none pos) (liftS E (sRaise C)) := by
  refine psW (ps_raise hc tk he) ?_
  rintro D σ H ⟨tw, G0, H0, G, δ, De, Ex, a, h, g⟩
  exact a.exc C G H h a.rep.ext
end
/-! ### a def -/
def startD (n : Nat) (ss : List SV) : Env := ss.map some ++ List.replicate (n - ss.length) none
theorem FRs.get {tw : Tw} {G : Hp} : ∀ {vs : List V} {ss : List SV} {i : Nat} {s : SV}, FRs tw G vs ss → ss[i]? = some s → ∃ v, vs[i]? = some v ∧ FR tw G v s
  | [], [], _, _, _, e => by simp at e
  | v :: vs, s :: ss, 0, s', h, e => by
    have e' : s = s' := by simpa using e
    subst e'
    exact ⟨v, rfl, h.1⟩
  | v :: vs, s :: ss, i + 1, s', h, e => by
    obtain ⟨u, e1, e2⟩ := FRs.get (i := i) h.2 (by simpa using e)
    exact ⟨u, by simpa using e1, e2⟩
  | [], _ :: _, _, _, h, _ => h.elim
  | _ :: _, [], _, _, h, _ => h.elim
theorem rep_start {tw : Tw} {G H : Hp} {N : List Str} {vs : List V} {ss : List SV} (k : Ok tw G H) (h : FRs tw G vs ss) : Rep tw G H G (L2.start N vs) H (startD N.length ss) := by
  have hl := h.length
  have key : ∀ {i s}, (startD N.length ss)[i]? = some (some s) → ss[i]? = some s := fun {i s} e => by
    unfold startD at e
    by_cases hi : i < ss.length
    · rw [List.getElem?_append_left (by rw [List.length_map]; exact hi), List.getElem?_map] at e
      cases q : ss[i]? with
      | none => rw [q] at e; cases e
      | some x => rw [q] at e; cases e; rfl
    · rw [List.getElem?_append_right (by rw [List.length_map]; omega), List.getElem?_replicate] at e
      split at e <;> cases e
  refine ⟨k.refl, ?_, fun i s e => ?_, fun i j l l' a hi hj mi mj _ _ => ?_⟩
  · unfold L2.start startD
    rw [List.length_append, List.length_append, List.length_map, List.length_map, List.length_replicate, List.length_replicate, hl]
  · have e1 := key e
    obtain ⟨v, e2, f⟩ := h.get e1
    refine ⟨v, ?_, f.sr⟩
    unfold L2.start
    obtain ⟨hi, _⟩ := List.getElem?_eq_some_iff.mp e2
    rw [List.getElem?_append_left (by rw [List.length_map]; exact hi), List.getElem?_map, e2]
    rfl
  · obtain ⟨v, _, f⟩ := h.get (key hi)
    exact absurd mi f.notMine
section
variable {P : Program} {w : World} {K : PySem.W.Frag} {mg : Str → Option Value} {base : Heap}
/-- THE RULE for a def: its body's derivation, and that the specification gives the body's reading -/
theorem fnD {x qual : Str} {st : Stmt} {f : Addr} {fd : FuncData} {N ps : List Str} {k : Nat} {sp : Spec} {t : DS} {T : List (Addr × Str)} (F : Fun K x qual st f fd) (S : FnScope N ps (defScope st)) (len : ∀ ss Q Ex, sp ss Q Ex → ss.length = ps.length)
    (hb : ∀ (cdv : Value) (A : Around) (outer : List PySem.Env) (s : Shared) (H : Hp) (E : XK), Room k (A.deeper (envOfC qual (defScope st) s.heap.objs.size f cdv)) → PSs (cxOf (L2.CX P w) P w K mg base N qual (defScope st) f cdv A outer s H E) (defBody st) (liftS ⟨E, T⟩ t))
    (hr : ∀ ss Q Ex, sp ss Q Ex → t { nx := fun _ => Q (.d .none), rt := Q } (startD N.length ss) Ex) : FnOk P w K mg base (L2.CX P w) (k + 1) f fd ps (spD T sp) := by
  refine F.okX S (fun vs H Q E h => ?_) (fun cdv A outer s H vs Q E hroom h => ⟨liftS ⟨E, T⟩ t, hb cdv A outer s H E hroom, ?_⟩)
  · obtain ⟨tw, G, ss, Qd, Ed, etb, o, fr, h, _⟩ := h
    rw [fr.length]
    exact len _ _ _ h
  · obtain ⟨tw, G, ss, Qd, Ed, etb, o, fr, h, c1, c2⟩ := h
    refine ⟨tw, G, H, G, _, _, Ed, ⟨rep_start o fr, c2, etb⟩, hr ss Qd Ed h, ⟨?_, fun _ _ _ _ z => z.elim, fun _ _ _ _ z => z.elim, fun s v G' H' q r e => c1 s v G' H' q r e⟩⟩
    exact fun δ G' σ H' q r => c1 _ .non G' H' q (WD.non) r.ext
end
end DL
/-! DL 10: sum of a tuple; other built-ins. -/
namespace DL
open PySem PySem.Spec PyProof.Rows L2
theorem sum_tup {prog : Program} {w : World} {A : Around} {E : Value → Shared → Prop} {s : Shared} {a : Addr} {its : List Value} {ns : List Int} {Q : Value → Shared → Prop} (hh : A.handled = none) (ht : s.heap.IsTuple a its.toArray) (hi : IntsAre its ns)
    (h : ∀ h' tk t', (∀ b o, s.heap.get? b = some o → h'.get? b = some o) → Q (.int ns.sum t') { s with heap := h', toks := tk }) : wpAny (model prog w) A (call (.builtin "sum") [.ref a]) Q E s := by
  obtain ⟨xs, e⟩ := hi.allInts.items
  have hn : numsOf (intItems xs).toList = ns := by rw [← e]; exact hi.numsOf
  rw [nums_intItems] at hn
  rw [e] at ht
  have hal : a < s.heap.objs.size := by
    obtain ⟨o, ho, _⟩ := id ht
    exact Heap.lt_size ho
  refine call_sum_walkG (wpAny_pyIter_tuple ht ?_)
  have ht2 : (s.heap.push { cls := .type "tuple_iterator", data := .fields #[.ref a, .int 0 0] }).IsTuple a (intItems xs) := ht.at fun o e => Heap.get?_push_of_some _ e
  refine ⟨s.heap.objs.size, _, _, _, _, _, numAt xs, rfl, Walks.tuple (A := A.in1) hh _ a (Nat.ne_of_lt hal) (intItems xs), ⟨⟨_, Heap.get?_push_size _ rfl, rfl, rfl⟩, ht2⟩, ?_, fun _ _ => intItems_at, fun h' tk t' hk => ?_⟩
  · intro b hb
    show b < (s.heap.push _).objs.size
    rw [Heap.size_push]
    rcases List.mem_cons.mp hb with z | z
    · rw [z]; exact Nat.lt_succ_self _
    · rw [List.mem_singleton.mp z]; exact Nat.lt_succ_of_lt hal
  · have hq := h h' tk t' fun b o q => hk b o (fun z => Nat.ne_of_lt (Heap.lt_size q) (List.mem_singleton.mp z)) (Heap.get?_push_of_some _ q)
    have e2 : preSum (numAt xs) (intItems xs).size = ns.sum := by
      have e3 : (intItems xs).size = xs.size := by simp [intItems]
      rw [e3, preSum_eq, List.take_of_length_le (by simp), hn]
    rw [e2]
    exact hq
section
variable {X : Cx}
def rSumA (K : PySem.W.Frag) : List V → Hp → VK → Prop := fun vs H Q => ∃ (a : Addr) (ns : List Int), vs = [V.ref a] ∧ SqT K H a (ns.map V.int) ∧ Q (.int ns.sum) H
theorem cr_sumT (hc : X.calm = true) : CallR X (.builtin "sum") (rSumA X.K) := by
  intro pins s σ H xs us Q I r h
  obtain ⟨a, ns, rfl, hq, q⟩ := h
  obtain ⟨u, rfl, rx⟩ := vals1 r
  cases rx
  obtain ⟨its, rv, p, hz⟩ := I.tuple hq
  exact sum_tup (I.ok.hd hc) p (Vals.ints rv) fun h' tk t' hk => ⟨.int ns.sum, H, I.kept (t' := tk) hk, ⟨_, rfl⟩, q⟩
/-- sum of a list or a tuple of ints -/
def oSum : SV → (SV → Prop) → Prop := fun s Q => ∃ ns : List Int, asS s = some (ns.map .int) ∧ Q (.d (.int ns.sum))
theorem CallR.or {f : Value} {r r' : List V → Hp → VK → Prop} (h : CallR X f r) (h' : CallR X f r') : CallR X f (fun xs H Q => r xs H Q ∨ r' xs H Q) := fun p s σ H xs us Q I rx q => q.elim (h p s σ H xs us Q I rx) (h' p s σ H xs us Q I rx)
theorem one_sum (hc : X.calm = true) : OneD X (.builtin "sum") oSum := by
  refine ⟨_, (cr_sum hc).or (cr_sumT hc), fun tw H0 H G1 H1 x vx Q R hx ok hq c => ?_⟩
  obtain ⟨ns, el, hq⟩ := hq
  rcases asS_cases el with h | rfl
  · obtain ⟨a, vs, rfl, e1, w, z⟩ := hx.list ok.gh h
    have ev := w.ints
    subst ev
    exact .inl ⟨a, ns, rfl, .of e1, c _ _ G1 H1 hq (WD.int _) ok.refl⟩
  · obtain ⟨p, vs, rfl, e1, w, z⟩ := hx.tup
    have ev := w.ints
    subst ev
    exact .inr ⟨p, ns, rfl, .of (ok.gh _ _ e1), c _ _ G1 H1 hq (WD.int _) ok.refl⟩
/-! ### max, min of two numbers -/
variable {E : EK} {a b : Expr} {ta tb : DT} {pos : Pos}
def dTwoI (f : Int → Int → Int) (ta tb : DT) : DT := fun δ Q Ex => ta δ (fun x => tb δ (fun y => ∃ i j, x = .d (.int i) ∧ y = .d (.int j) ∧ Q (.d (.int (f i j)))) Ex) Ex
theorem de_twoI {id : String} {f : Int → Int → Int} {x : Str} {p : Pos} (hr : CallR X (.builtin id) (fun xs H Q => ∃ i j, xs = [.int i, .int j] ∧ Q (.int (f i j)) H)) (hm : X.mg x = none) (hv : bootBuiltins x = some (.builtin id)) (ha : PE X a (lift E ta)) (hb : PE X b (lift E tb)) (hg : Gl X x := by rfl) (hn : x ≠ "__name__" := by decide) (hdb : (x == ("__debug__" : Str)) = false := by decide)
    (s1 : starEach [a, b] X.env = (false, eval a X.env) :: starEach [b] X.env := by rfl) (s2 : starEach [b] X.env = (false, eval b X.env) :: starEach [] X.env := by rfl) (hpl : (backTo pos (starEach [b] X.env)).any (·.1) = false := by rfl) : PE X (.Call (.Name x p) [a, b] [] pos) (lift E (dTwoI f ta tb)) := by
  refine peW (pe_callB hr hg hm hv (pa_cons ha (pa_cons hb pa_nil s2) s1) hn hdb s1 hpl) ?_
  rintro σ H R ⟨tw, G0, H0, G, δ, Q, Ex, a, h, q⟩
  refine ⟨tw, G0, H0, G, δ, _, Ex, a, h, fun s v G1 H1 h1 r e => ?_⟩
  refine ⟨tw, G0, H0, G1, δ, _, Ex, a.go e, h1, fun s2 v2 G2 H2 ⟨i, j, es, es2, hs⟩ r2 e2 => ?_⟩
  subst es
  subst es2
  have ev := r.int
  have ev2 := r2.int
  subst ev
  subst ev2
  exact ⟨i, j, rfl, q _ _ G2 H2 hs (WD.int _) (e.trans e2)⟩
end
/-! ### < of ints, of tuples of ints -/
def wLt : W2 := fun x y Q => match x, y with
  | .d (.int i), .d (.int j) => Q (.d (.bool (decide (i < j))))
  | .d (.tuple xs), .d (.tuple ys) => ∃ ns ms : List Int, xs = ns.map .int ∧ ys = ms.map .int ∧ Q (.d (.bool (HT.lexLt ns ms)))
  | _, _ => False
theorem od_ltA {X : Cx} (hu : X.A.units < cLine) : OpD X (compareOp .Lt) wLt := by
  refine ⟨_, op_lt.or (op_ltT hu), fun tw H0 H G1 H1 x y vx vy Q R hx hy ok hq c => ?_⟩
  unfold wLt at hq
  split at hq
  · rename_i i j
    exact .inl ⟨i, j, VR.int hx, VR.int hy, c _ _ G1 H1 hq (WD.bl _) ok.refl⟩
  · obtain ⟨ns, ms, rfl, rfl, hq⟩ := hq
    obtain ⟨a, vs, rfl, e1, w1, z1⟩ := hx.tup
    obtain ⟨b, us, rfl, e2, w2, z2⟩ := hy.tup
    have ev := w1.ints
    have eu := w2.ints
    subst ev
    subst eu
    exact .inr ⟨a, b, ns, ms, rfl, rfl, .of (ok.gh _ _ e1), .of (ok.gh _ _ e2), c _ _ G1 H1 hq (WD.bl _) ok.refl⟩
  · exact hq.elim
end DL
/-! DL 11: reading: lemmas on loops and comprehensions. -/
namespace DL
open PySem PySem.Spec PyProof.Rows L2
/-- where a program's own classes stand, and its written part -/
structure Ct where
  cls : String → Addr
  K : PySem.W.Frag
  tabs : List (Addr × Str) := []
theorem hu65 {k : Nat} {A : Around} (r : Room k A) : A.units + 65 < cLine := by
  have := r.un
  omega
/-! ### the kinds of values, for simp -/
theorem nc0 : ((0 : Nat) : Int) = 0 := rfl
theorem nc1 : ((1 : Nat) : Int) = 1 := rfl
theorem nc2 : ((2 : Nat) : Int) = 2 := rfl
theorem nc3 : ((3 : Nat) : Int) = 3 := rfl
theorem nc4 : ((4 : Nat) : Int) = 4 := rfl
theorem nc5 : ((5 : Nat) : Int) = 5 := rfl
theorem nc6 : ((6 : Nat) : Int) = 6 := rfl
theorem nc7 : ((7 : Nat) : Int) = 7 := rfl
theorem nc8 : ((8 : Nat) : Int) = 8 := rfl
section
variable {x : PyData} {l : List PyData} {b : Bool} {i : Int} {z : Str} {δ : Env} {k : Env → Prop} {De : DE} {j : Nat} {φ : V → Hp → Prop} {m : ∀ v G G', Same G G' → φ v G → φ v G'} {v : V}
theorem asD_d : asD (.d x) = some x := rfl
theorem asD_own : asD (.own l) = some (.list l) := rfl
theorem asD_bor : asD (.bor l) = none := rfl
theorem asL_list : asL (.d (.list l)) = some l := rfl
theorem asL_tuple : asL (.d (.tuple l)) = none := rfl
theorem asL_own : asL (.own l) = some l := rfl
theorem asL_bor : asL (.bor l) = some l := rfl
theorem asL_int : asL (.d (.int i)) = none := rfl
theorem asL_bool : asL (.d (.bool b)) = none := rfl
theorem asL_none : asL (.d .none) = none := rfl
theorem asS_list : asS (.d (.list l)) = some l := rfl
theorem asS_tuple : asS (.d (.tuple l)) = some l := rfl
theorem asS_own : asS (.own l) = some l := rfl
theorem asS_bor : asS (.bor l) = some l := rfl
theorem tru_bool : truD (.d (.bool b)) = some b := rfl
theorem tru_int : truD (.d (.int i)) = some (i != 0) := rfl
theorem tru_none : truD (.d .none) = some false := rfl
theorem tru_tuple : truD (.d (.tuple l)) = some (!l.isEmpty) := rfl
theorem tru_list : truD (.d (.list l)) = some (!l.isEmpty) := rfl
theorem tru_own : truD (.own l) = some (!l.isEmpty) := rfl
theorem tru_bor : truD (.bor l) = some (!l.isEmpty) := rfl
theorem stO_d : stO j δ (.d x) k = k (δ.set j (some (.d x))) := rfl
theorem stO_own : stO j δ (.own l) k = k (δ.set j (some (.own l))) := rfl
theorem stO_town : stO j δ .town k = k (δ.set j (some .town)) := rfl
theorem stO_v : stO j δ (.v v) k = k (δ.set j (some (.v v))) := rfl
theorem stO_abs : stO j δ (.abs φ m) k = k (δ.set j (some (.abs φ m))) := rfl
theorem rtS_d : rtS De (.d x) = De.rt (.d x) := rfl
theorem rtS_own : rtS De (.own l) = De.rt (.own l) := rfl
theorem rtS_bor : rtS De (.bor l) = De.rt (.own l) := rfl
theorem rtS_v : rtS De (.v v) = De.rt (.v v) := rfl
theorem rtS_abs : rtS De (.abs φ m) = De.rt (.abs φ m) := rfl
theorem isN_none : isN .none = true := rfl
theorem isN_tuple : isN (.tuple l) = false := rfl
theorem isN_int : isN (.int i) = false := rfl
theorem isN_list : isN (.list l) = false := rfl
theorem isN_bool : isN (.bool b) = false := rfl
end
/-- one turn of a comprehension: k (some d): d is kept; k none: nothing -/
def lcT (g : DG) (tt : DB) (te : DT) (δ : Env) (x : PyData) (k : Option PyData → Prop) : Prop :=
  g x δ fun δ1 => tt δ1 (fun b => if b = true then te δ1 (fun s => ∃ d, asD s = some d ∧ k (some d)) (fun _ => False) else k none) (fun _ => False)
theorem lcR_cons {g : DG} {tt : DB} {te : DT} {δ : Env} {x : PyData} {xs : List PyData} {Q : List PyData → Prop} :
    lcR g tt te δ (x :: xs) Q = lcT g tt te δ x fun o => match o with | some d => lcR g tt te δ xs fun ys => Q (d :: ys) | none => lcR g tt te δ xs Q := rfl
/-- every turn is a function -/
theorem lcR_fm {g : DG} {tt : DB} {te : DT} {δ : Env} (f : PyData → Option PyData) : ∀ (ds : List PyData) {Q : List PyData → Prop}, (∀ x ∈ ds, ∀ k : Option PyData → Prop, k (f x) → lcT g tt te δ x k) → Q (ds.filterMap f) → lcR g tt te δ ds Q
  | [], Q, _, q => q
  | x :: xs, Q, h, q => by
    rw [lcR_cons]
    refine h x List.mem_cons_self _ ?_
    cases e : f x with
    | none =>
      rw [List.filterMap_cons, e] at q
      exact lcR_fm f xs (fun y hy => h y (List.mem_cons_of_mem _ hy)) q
    | some d =>
      rw [List.filterMap_cons, e] at q
      exact lcR_fm f xs (fun y hy => h y (List.mem_cons_of_mem _ hy)) q
theorem lcR_map {g : DG} {tt : DB} {te : DT} {δ : Env} (f : PyData → PyData) (ds : List PyData) {Q : List PyData → Prop} (h : ∀ x ∈ ds, ∀ k : Option PyData → Prop, k (some (f x)) → lcT g tt te δ x k) (q : Q (ds.map f)) : lcR g tt te δ ds Q := by
  refine lcR_fm (fun x => some (f x)) ds h ?_
  have e : ds.filterMap (fun x => some (f x)) = ds.map f := by
    induction ds with
    | nil => rfl
    | cons x xs ih => simp [List.filterMap_cons]
  rw [e]
  exact q
/-- every turn keeps something of P, or nothing; all that is kept is of P -/
theorem lcR_any {g : DG} {tt : DB} {te : DT} {δ : Env} (P : PyData → PyData → Prop) : ∀ (ds : List PyData) {Q : List PyData → Prop}, (∀ x ∈ ds, ∀ k : Option PyData → Prop, (∀ d, P x d → k (some d)) → k none → lcT g tt te δ x k) →
    (∀ ys : List PyData, ys.length ≤ ds.length → (∀ y ∈ ys, ∃ x ∈ ds, P x y) → Q ys) → lcR g tt te δ ds Q
  | [], Q, _, q => q [] (Nat.le_refl _) (fun _ z => nomatch z)
  | x :: xs, Q, h, q => by
    rw [lcR_cons]
    refine h x List.mem_cons_self _ (fun d hd => ?_) ?_
    · refine lcR_any P xs (fun y hy => h y (List.mem_cons_of_mem _ hy)) fun ys hl hy => q (d :: ys) (Nat.succ_le_succ hl) fun z hz => ?_
      rcases List.mem_cons.mp hz with rfl | hz
      · exact ⟨x, List.mem_cons_self, hd⟩
      · obtain ⟨w, h1, h2⟩ := hy z hz
        exact ⟨w, List.mem_cons_of_mem _ h1, h2⟩
    · refine lcR_any P xs (fun y hy => h y (List.mem_cons_of_mem _ hy)) fun ys hl hy => q ys (Nat.le_succ_of_le hl) fun z hz => ?_
      obtain ⟨w, h1, h2⟩ := hy z hz
      exact ⟨w, List.mem_cons_of_mem _ h1, h2⟩
/-- every turn keeps just one, of P -/
theorem lcR_each {g : DG} {tt : DB} {te : DT} {δ : Env} (P : PyData → PyData → Prop) : ∀ (ds : List PyData) {Q : List PyData → Prop}, (∀ x ∈ ds, ∀ k : Option PyData → Prop, (∀ d, P x d → k (some d)) → lcT g tt te δ x k) →
    (∀ ys : List PyData, ys.length = ds.length → (∀ y ∈ ys, ∃ x ∈ ds, P x y) → Q ys) → lcR g tt te δ ds Q
  | [], Q, _, q => q [] rfl (fun _ z => nomatch z)
  | x :: xs, Q, h, q => by
    rw [lcR_cons]
    refine h x List.mem_cons_self _ (fun d hd => ?_)
    refine lcR_each P xs (fun y hy => h y (List.mem_cons_of_mem _ hy)) fun ys hl hy => q (d :: ys) (by rw [List.length_cons, List.length_cons, hl]) fun z hz => ?_
    rcases List.mem_cons.mp hz with rfl | hz
    · exact ⟨x, List.mem_cons_self, hd⟩
    · obtain ⟨w, h1, h2⟩ := hy z hz
      exact ⟨w, List.mem_cons_of_mem _ h1, h2⟩
theorem forR_nil {g : DG} {tb : DS} {De : DE} {δ : Env} {Ex : XP} : forR g tb [] De δ Ex = De.nx δ := rfl
theorem forR_cons {g : DG} {tb : DS} {x : PyData} {xs : List PyData} {De : DE} {δ : Env} {Ex : XP} :
    forR g tb (x :: xs) De δ Ex = g x δ fun δ1 => tb { De with nx := fun δ2 => forR g tb xs De δ2 Ex, ct := fun δ2 => forR g tb xs De δ2 Ex, bk := De.nx } δ1 Ex := rfl
/-- a for by an invariant over the slots -/
theorem forR_inv {g : DG} {tb : DS} {De : DE} {Ex : XP} (I : List PyData → Env → Prop) : ∀ (xs pre : List PyData) (δ : Env), I pre δ →
    (∀ (p : List PyData) (x : PyData) (r : List PyData) (δ : Env) (k : Env → Prop), pre ++ xs = p ++ x :: r → I p δ → (∀ δ', I (p ++ [x]) δ' → k δ') → g x δ fun δ1 => tb { De with nx := k, ct := k, bk := De.nx } δ1 Ex) →
    (∀ δ', I (pre ++ xs) δ' → De.nx δ') → forR g tb xs De δ Ex
  | [], pre, δ, h, _, e => by
    rw [List.append_nil] at e
    exact e δ h
  | x :: xs, pre, δ, h, t, e => by
    rw [forR_cons]
    refine t pre x xs δ (fun δ2 => forR g tb xs De δ2 Ex) rfl h fun δ' h' => ?_
    refine forR_inv I xs (pre ++ [x]) δ' h' (fun p y r δ k hp => ?_) (fun δ2 h2 => ?_)
    · exact t p y r δ k (by rw [← hp, List.append_assoc]; rfl)
    · refine e δ2 ?_
      rw [List.append_assoc] at h2
      exact h2
/-- the next row, kept closed until it is reached -/
theorem seqK {t u : DS} {De : DE} {δ : Env} {Ex : XP} (h : ∀ K : Env → Prop, (∀ δ', u De δ' Ex → K δ') → t { De with nx := K } δ Ex) : sSeq t u De δ Ex := h _ fun _ h => h
/-! ### displays of constants -/
def Lit (t : DT) (v : PyData) : Prop := ∀ δ Q Ex, Q (.d v) → t δ Q Ex
def LitL (t : DT) (vs : List PyData) : Prop := ∀ δ Q Ex, Q (.own vs) → t δ Q Ex
def LitA (u : DA) (vs : List PyData) : Prop := ∀ δ Q Ex, Q (vs.map SV.d) → u δ Q Ex
theorem asDs_map : ∀ vs : List PyData, asDs (vs.map SV.d) = some vs
  | [] => rfl
  | v :: vs => by
    show (asDs (vs.map SV.d)).map (v :: ·) = some (v :: vs)
    rw [asDs_map vs]
    rfl
theorem lit_c {v : PyData} : Lit (dC (.d v)) v := fun _ _ _ h => h
theorem lit_cL {vs : List PyData} : LitL (dC (.own vs)) vs := fun _ _ _ h => h
theorem lit_neg {t : DT} {i : Int} (h : Lit t (.int i)) : Lit (dNeg t) (.int (-i)) := fun δ Q Ex q => h δ _ Ex ⟨i, rfl, q⟩
theorem lita_nil : LitA daNil [] := fun _ _ _ h => h
theorem lita_cons {t : DT} {u : DA} {v : PyData} {vs : List PyData} (h : Lit t v) (k : LitA u vs) : LitA (daCons t u) (v :: vs) := fun δ Q Ex q => h δ _ Ex (k δ _ Ex q)
theorem lita_consL {t : DT} {u : DA} {ws vs : List PyData} (h : LitL t ws) (k : LitA u vs) : LitA (daCons t u) (.list ws :: vs) := fun δ Q Ex q => h δ _ Ex (k δ _ Ex q)
theorem lit_tup {u : DA} {vs : List PyData} (h : LitA u vs) (l : vs.length ≤ 1000) : Lit (dTup u) (.tuple vs) := fun δ Q Ex q => h δ _ Ex ⟨vs, asDs_map vs, l, q⟩
theorem lit_lst {u : DA} {vs : List PyData} (h : LitA u vs) (l : vs.length ≤ 1000) : LitL (dLst u) vs := fun δ Q Ex q => h δ _ Ex ⟨vs, asDs_map vs, l, q⟩
section
variable {X : Cx} {E : EK} {e : Expr} {t : DT}
theorem de_lit {v : PyData} (he : PE X e (lift E t)) (h : Lit t v) : PE X e (lift E (dC (.d v))) := by
  refine peW he ?_
  rintro σ H R ⟨tw, G0, H0, G, δ, Q, Ex, a, hq, q⟩
  exact ⟨tw, G0, H0, G, δ, Q, Ex, a, h δ Q Ex hq, q⟩
theorem de_litL {vs : List PyData} (he : PE X e (lift E t)) (h : LitL t vs) : PE X e (lift E (dC (.own vs))) := by
  refine peW he ?_
  rintro σ H R ⟨tw, G0, H0, G, δ, Q, Ex, a, hq, q⟩
  exact ⟨tw, G0, H0, G, δ, Q, Ex, a, h δ Q Ex hq, q⟩
end
end DL
/-! DL 12: the drawing: the town, the script, the law's head. -/
namespace DL
open PySem PySem.Spec PyProof.Rows L2
/-! ### tables of rests -/
theorem nodup_len : ∀ (n : Nat) (l : List Nat), l.Nodup → (∀ x ∈ l, x < n) → l.length ≤ n
  | 0, [], _, _ => Nat.le_refl _
  | 0, x :: _, _, h => absurd (h x List.mem_cons_self) (Nat.not_lt_zero _)
  | n + 1, l, hn, h => by
    have ih := nodup_len n (l.erase n) (hn.erase n) fun x hx => by
      rw [hn.mem_erase_iff] at hx
      have := h x hx.2
      have := hx.1
      omega
    rw [List.length_erase] at ih
    split at ih <;> omega
theorem RestsOk.len {rs : List (Key × V)} (h : RestsOk rs) : rs.length ≤ 63 := by
  have key : ∀ l : List (Key × V), (∀ p ∈ l, ∃ (k : Nat) (i : Int), p = (.inl (k : Int), .int i) ∧ k < 63) → ∃ ks : List Nat, l.map (·.1) = ks.map (fun k : Nat => (Sum.inl (k : Int) : Key)) ∧ ∀ k ∈ ks, k < 63 := by
    intro l
    induction l with
    | nil => intro _; exact ⟨[], rfl, fun _ z => nomatch z⟩
    | cons p r ih =>
      intro hp
      obtain ⟨ks, e1, e2⟩ := ih fun q hq => hp q (List.mem_cons_of_mem _ hq)
      obtain ⟨k, i, e3, e4⟩ := hp p List.mem_cons_self
      refine ⟨k :: ks, ?_, fun x hx => ?_⟩
      · rw [List.map_cons, List.map_cons, e1, e3]
      · rcases List.mem_cons.mp hx with rfl | hx
        · exact e4
        · exact e2 x hx
  obtain ⟨ks, e1, e2⟩ := key rs h.2
  have hn : ks.Nodup := by
    have := h.1
    rw [e1] at this
    refine List.Pairwise.imp (fun hxy => ?_) (List.pairwise_map.mp this)
    intro e
    exact hxy (by rw [e])
  have := nodup_len 63 ks hn e2
  have hl : rs.length = ks.length := by
    have := congrArg List.length e1
    rw [List.length_map, List.length_map] at this
    exact this
  omega
theorem RestsOk.val {rs : List (Key × V)} (h : RestsOk rs) {k : Key} {v : V} (e : valV rs k = some v) : ∃ i, v = .int i := by
  unfold valV at e
  cases q : rs.find? fun kv => decide (kv.1 = k) with
  | none => rw [q] at e; cases e
  | some p =>
    rw [q] at e
    obtain ⟨k', i, e3, _⟩ := h.2 p (List.mem_of_find?_eq_some q)
    rw [e3] at e
    cases e
    exact ⟨i, rfl⟩
theorem RestsOk.put {rs : List (Key × V)} (h : RestsOk rs) {k : Nat} (hk : k < 63) (i : Int) : RestsOk (putK rs (.inl (k : Int)) (.int i)) := by
  unfold putK
  split
  · rename_i ha
    refine ⟨?_, fun p hp => ?_⟩
    · rw [List.map_map]
      have e : ((fun kv : Key × V => kv.1) ∘ fun kv : Key × V => if kv.1 = Sum.inl (k : Int) then (kv.1, V.int i) else kv) = fun kv => kv.1 := by
        funext kv
        show (if kv.1 = Sum.inl (k : Int) then (kv.1, V.int i) else kv).1 = kv.1
        split <;> rfl
      rw [e]
      exact h.1
    · rw [List.mem_map] at hp
      obtain ⟨q, hq, e⟩ := hp
      obtain ⟨k', j, e3, e4⟩ := h.2 q hq
      subst e
      split
      · rename_i ek
        exact ⟨k, i, by rw [ek], hk⟩
      · exact ⟨k', j, e3, e4⟩
  · rename_i ha
    refine ⟨?_, fun p hp => ?_⟩
    · rw [List.map_append, List.nodup_append]
      refine ⟨h.1, by simp, fun a ha' b hb => ?_⟩
      rw [List.map_singleton, List.mem_singleton] at hb
      subst hb
      intro e
      subst e
      rw [List.mem_map] at ha'
      obtain ⟨q, hq, e⟩ := ha'
      refine ha ?_
      rw [List.any_eq_true]
      exact ⟨q, hq, decide_eq_true e⟩
    · rcases List.mem_append.mp hp with hp | hp
      · exact h.2 p hp
      · rw [List.mem_singleton] at hp
        exact ⟨k, i, hp, hk⟩
/-! ### the town -/
/-- the drawing's state is written -/
theorem Rep.townW {tw : Tw} {G0 H0 G H : Hp} {σ : L2.St} {δ : Env} (r : Rep tw G0 H0 G σ H δ) {t t2 b : Addr} {u : HO} (e : tw.town = some (t, t2)) (hb : b = t ∨ b = t2) (new : TownOk (upd H b u) t t2) : Rep tw G0 H0 G σ (upd H b u) δ := by
  have vb : Vol tw b := .inl ⟨t, t2, e, hb⟩
  have hk : ∃ kvs, H b = some (.dK kvs) := by
    obtain ⟨_, n, rs, h1, h2, _⟩ := r.ext.tk.town t t2 e
    rcases hb with rfl | rfl
    · exact ⟨_, h1⟩
    · exact ⟨_, h2⟩
  obtain ⟨kvs, hk⟩ := hk
  refine ⟨⟨r.ext.gg, fun c o h => ?_, fun c o h nv nt => ?_, ⟨fun t' r' e' => ?_, fun q hq => ?_⟩, r.ext.nv, r.ext.new, r.ext.gt⟩, r.len, fun k s hs => ?_, r.own⟩
  · rw [upd_ne (fun z => by subst z; rw [r.ext.nv c vb] at h; cases h)]
    exact r.ext.gh c o h
  · rw [upd_ne (fun z => nv (by rw [z]; exact vb))]
    exact r.ext.hh c o h nv nt
  · rw [e] at e'
    cases e'
    exact new
  · obtain ⟨ps, h1, h2, h3⟩ := r.ext.tk.tabs q hq
    refine ⟨ps, by rw [upd_ne (fun z => by rw [z, hk] at h1; cases h1)]; exact h1, h2, fun pos cv hc => ?_⟩
    obtain ⟨c, e1, e2⟩ := h3 pos cv hc
    refine ⟨c, e1, ?_⟩
    rw [upd_ne (fun z => by rw [z, hk] at e2; cases e2)]
    exact e2
  · obtain ⟨v, f1, f2⟩ := r.sl k s hs
    refine ⟨v, f1, f2.off fun c m ev z => ?_⟩
    subst ev
    obtain ⟨o, _, _, _, nv, _⟩ := Mine.at r m hs f1
    exact nv (by rw [z]; exact vb)
section
variable {X : Cx} {E : EK} {o e f : Expr} {to te tf : DT} {pos p2 : Pos} {j : Nat}
/-- town["count"] -/
def dCount (to : DT) : DT := fun δ Q Ex => to δ (fun s => s = .town ∧ ∀ n : Int, Q (.d (.int n))) Ex
theorem de_count {pj : Pos} (hu : X.A.units + 65 < cLine) (ho : PE X o (lift E to)) : PE X (.Subscript o (.Constant (.str "count") j pj) pos) (lift E (dCount to)) := by
  refine peW (pe_dget (by omega) ho pe_str (fun _ _ => rfl)) ?_
  rintro σ H R ⟨tw, G0, H0, G, δ, Q, Ex, a, h, q⟩
  refine ⟨tw, G0, H0, G, δ, _, Ex, a, h, fun s v G1 H1 ⟨hs, hn⟩ r e => ?_⟩
  subst hs
  obtain ⟨t, r', etw, rfl⟩ := r
  have tk : TownOk H1 t r' := e.tk.town t r' etw
  obtain ⟨_, n, rs, h1, h2, h3⟩ := tk
  exact ⟨t, .int n, rfl, DGet.k (k := .inr "count") h1, q _ _ G1 H1 (hn n) (WD.int n) e⟩
/-- town["count"] = e -/
def sCount (to te : DT) : DS := fun De δ Ex => te δ (fun s => ∃ i, s = .d (.int i) ∧ to δ (fun s' => s' = .town ∧ De.nx δ) Ex) Ex
theorem ds_count {pj : Pos} (hu : X.A.units + 65 < cLine) (he : PE X e (lift E te)) (ho : PE X o (lift E to)) (hs : swapsWith e (some (.Subscript o (.Constant (.str "count") j pj) p2)) pos.line X.env = pure false := by rfl) :
    PS X (.Assign [.Subscript o (.Constant (.str "count") j pj) p2] e pos) (liftS E (sCount to te)) := by
  refine psW (ps_dput (by omega) ho pe_str he hs) ?_
  rintro D σ H ⟨tw, G0, H0, G, δ, De, Ex, a, h, g⟩
  refine ⟨tw, G0, H0, G, δ, _, Ex, a, h, fun s v G1 H1 ⟨i, es, h1⟩ r1 e1 => ?_⟩
  subst es
  have ev := r1.int
  subst ev
  refine ⟨tw, G0, H0, G1, δ, _, Ex, a.go e1, h1, fun s v G2 H2 ⟨es, h2⟩ r2 e2 => ?_⟩
  subst es
  obtain ⟨t, r', etw, rfl⟩ := r2
  have tk : TownOk H2 t r' := e2.tk.town t r' etw
  obtain ⟨h0, n, rs, k1, k2, k3⟩ := tk
  refine ⟨t, _, rfl, DPut.k (k := .inr "count") k1 (by rw [sizeLine_eq]; show 2 < _; omega), ?_⟩
  refine g.nx δ G2 σ _ h2 ((a.rep.go (e1.trans e2)).townW etw (.inl rfl) ⟨h0, i, rs, ?_, ?_, k3⟩)
  · rw [upd_same]
    rfl
  · rw [upd_ne (fun z => h0 z.symm)]
    exact k2
/-- town["rests"].get(e, f) -/
def dRest (to te tf : DT) : DT := fun δ Q Ex => to δ (fun s => s = .town ∧ te δ (fun y => ∃ k : Nat, y = .d (.int k) ∧ k < 63 ∧ tf δ (fun z => ∃ i, z = .d (.int i) ∧ ∀ n : Int, Q (.d (.int n))) Ex) Ex) Ex
theorem de_rest {pj apos : Pos} (hu : X.A.units + 65 < cLine) (ho : PE X o (lift E to)) (he : PE X e (lift E te)) (hf : PE X f (lift E tf)) (m : M2 X (.Subscript o (.Constant (.str "rests") j pj) p2) "get" apos e f pos) :
    PE X (.Call (.Attribute (.Subscript o (.Constant (.str "rests") j pj) p2) "get" apos) [e, f] [] pos) (lift E (dRest to te tf)) := by
  refine peW (pe_dget2 (by omega) (pe_dget (by omega) ho pe_str (fun _ _ => rfl)) he hf m) ?_
  rintro σ H R ⟨tw, G0, H0, G, δ, Q, Ex, a, h, q⟩
  refine ⟨tw, G0, H0, G, δ, _, Ex, a, h, fun s v G1 H1 ⟨hs, h1⟩ r e1 => ?_⟩
  subst hs
  obtain ⟨t, r', etw, rfl⟩ := r
  have tk : TownOk H1 t r' := e1.tk.town t r' etw
  obtain ⟨_, n, rs, k1, k2, k3⟩ := tk
  refine ⟨t, .ref r', rfl, DGet.k (k := .inr "rests") k1, r', rfl, .inl ⟨rs, .inl k2⟩, ?_⟩
  refine ⟨tw, G0, H0, G1, δ, _, Ex, a.go e1, h1, fun s v G2 H2 ⟨k, es, hk, h2⟩ r2 e2 => ?_⟩
  subst es
  have ev := r2.int
  subst ev
  refine ⟨tw, G0, H0, G2, δ, _, Ex, (a.go e1).go e2, h2, fun s v G3 H3 ⟨i, es, h3⟩ r3 e3 => ?_⟩
  subst es
  have ev := r3.int
  subst ev
  have tk3 : TownOk H3 t r' := e3.tk.town t r' etw
  obtain ⟨_, n3, rs3, l1, l2, l3⟩ := tk3
  refine ⟨_, DGet.k (k := .inl (k : Int)) l2, ?_⟩
  cases q0 : valV rs3 (.inl (k : Int)) with
  | none => exact q _ _ G3 H3 (h3 i) (WD.int i) ((e1.trans e2).trans e3)
  | some v =>
    obtain ⟨i', rfl⟩ := l3.val q0
    exact q _ _ G3 H3 (h3 i') (WD.int i') ((e1.trans e2).trans e3)
/-- town["rests"][f] = e -/
def sRest (to te tf : DT) : DS := fun De δ Ex => te δ (fun s => ∃ i, s = .d (.int i) ∧ to δ (fun s' => s' = .town ∧ tf δ (fun y => ∃ k : Nat, y = .d (.int k) ∧ k < 63 ∧ De.nx δ) Ex) Ex) Ex
theorem ds_rest {pj p3 : Pos} (hu : X.A.units + 65 < cLine) (he : PE X e (lift E te)) (ho : PE X o (lift E to)) (hf : PE X f (lift E tf)) (hs : swapsWith e (some (.Subscript (.Subscript o (.Constant (.str "rests") j pj) p3) f p2)) pos.line X.env = pure false := by rfl) :
    PS X (.Assign [.Subscript (.Subscript o (.Constant (.str "rests") j pj) p3) f p2] e pos) (liftS E (sRest to te tf)) := by
  refine psW (ps_dput (by omega) (pe_dget (by omega) ho pe_str (fun _ _ => rfl)) hf he hs) ?_
  rintro D σ H ⟨tw, G0, H0, G, δ, De, Ex, a, h, g⟩
  refine ⟨tw, G0, H0, G, δ, _, Ex, a, h, fun s v G1 H1 ⟨i, es, h1⟩ r1 e1 => ?_⟩
  subst es
  have ev := r1.int
  subst ev
  refine ⟨tw, G0, H0, G1, δ, _, Ex, a.go e1, h1, fun s v G2 H2 ⟨es, h2⟩ r2 e2 => ?_⟩
  subst es
  obtain ⟨t, r', etw, rfl⟩ := r2
  have tk : TownOk H2 t r' := e2.tk.town t r' etw
  obtain ⟨h0, n, rs, k1, k2, k3⟩ := tk
  refine ⟨t, .ref r', rfl, DGet.k (k := .inr "rests") k1, ?_⟩
  refine ⟨tw, G0, H0, G2, δ, _, Ex, (a.go e1).go e2, h2, fun s v G3 H3 ⟨k, es, hk, h3⟩ r3 e3 => ?_⟩
  subst es
  have ev := r3.int
  subst ev
  have tk3 : TownOk H3 t r' := e3.tk.town t r' etw
  obtain ⟨_, n3, rs3, l1, l2, l3⟩ := tk3
  refine ⟨r', _, rfl, DPut.k (k := .inl (k : Int)) l2 (by rw [sizeLine_eq]; have := l3.len; omega), ?_⟩
  refine g.nx δ G3 σ _ h3 ((a.rep.go ((e1.trans e2).trans e3)).townW etw (.inr rfl) ⟨h0, n3, _, ?_, ?_, l3.put hk i⟩)
  · rw [upd_ne h0]
    exact l1
  · rw [upd_same]
end
/-! ### the script -/
def scr (c : Ct) (n : Nat) : SV := .abs (fun v G => ∃ (a : Addr) (ns : List Int), v = .ref a ∧ SqL c.K G a (ns.map V.int) ∧ ns.length = n) fun _ _ _ e ⟨a, ns, h1, h2, h3⟩ => ⟨a, ns, h1, e.seq h2, h3⟩
theorem vS_scr {c : Ct} {n : Nat} {Q : SV → Prop} : vS (scr c n) Q = Q (scr c n) := rfl
theorem fz_scr {c : Ct} {n : Nat} {k : SV → Prop} : fz (scr c n) k = k (scr c n) := rfl
theorem VR.scr {c : Ct} {n : Nat} {tw : Tw} {H0 H G1 H1 : Hp} {v : V} (h : VR tw H0 H G1 H1 v (scr c n)) (e : Same G1 H1) : ∃ (a : Addr) (ns : List Int), v = .ref a ∧ SqL c.K H1 a (ns.map V.int) ∧ ns.length = n := by
  have h' : ∃ (a : Addr) (ns : List Int), v = .ref a ∧ SqL c.K G1 a (ns.map V.int) ∧ ns.length = n := h
  obtain ⟨a, ns, h1, h2, h3⟩ := h'
  exact ⟨a, ns, h1, e.seq h2, h3⟩
section
variable {X : Cx} {E : EK} {a b : Expr} {ta tb : DT} {pos p : Pos} {c : Ct}
def bScr (c : Ct) (t : DT) : DB := fun δ Q Ex => t δ (fun s => ∃ n, s = scr c n ∧ Q (n != 0)) Ex
theorem db_scr (hK : X.K = c.K) (h : PE X a (lift E ta)) (he : ∀ whole, isTrue a X.env whole = (do let v ← whole; standAt a.pos; holding [v] (truthy v)) := by intro _; rfl) : PT X a (liftB E (bScr c ta)) := by
  refine ptW (pt_truth h he) ?_
  rintro σ H R ⟨tw, G0, H0, G, δ, Q, Ex, a, h, q⟩
  refine ⟨tw, G0, H0, G, δ, _, Ex, a, h, fun s v G1 H1 ⟨n, es, hq⟩ r e => ?_⟩
  subst es
  obtain ⟨b, ns, rfl, sq, hl⟩ := r.scr e.gh
  refine ⟨n != 0, .inl ⟨ns.map V.int, by rw [hK]; exact sq, ?_⟩, q _ G1 H1 hq e⟩
  rw [← hl]
  cases ns <;> rfl
def dLenS (c : Ct) (t : DT) : DT := fun δ Q Ex => t δ (fun s => ∃ n, s = scr c n ∧ Q (.d (.int n))) Ex
theorem de_lenS (hK : X.K = c.K) (hm : X.mg "len" = none) (ha : PE X a (lift E ta)) (hg : Gl X "len" := by rfl)
    (he : starEach (a :: []) X.env = (false, eval a X.env) :: starEach [] X.env := by rfl) (hpl : (backTo pos (starEach [] X.env)).any (·.1) = false := by rfl) : PE X (.Call (.Name "len" p) [a] [] pos) (lift E (dLenS c ta)) := by
  refine peW (pe_callB call_len_seq hg hm PySem.boot_len (pa_cons ha pa_nil he) (by decide) (by decide) he hpl) ?_
  rintro σ H R ⟨tw, G0, H0, G, δ, Q, Ex, a, h, q⟩
  refine ⟨tw, G0, H0, G, δ, _, Ex, a, h, fun s v G1 H1 ⟨n, es, hq⟩ r e => ?_⟩
  subst es
  obtain ⟨b, ns, rfl, sq, hl⟩ := r.scr e.gh
  refine ⟨b, ns.map V.int, rfl, .inl (by rw [hK]; exact sq), ?_⟩
  rw [List.length_map, hl]
  exact q _ _ G1 H1 hq (WD.int _) e
def dIxS (c : Ct) (ta tb : DT) : DT := fun δ Q Ex => ta δ (fun s => ∃ n, s = scr c n ∧ tb δ (fun y => ∃ k : Nat, y = .d (.int k) ∧ k < n ∧ ∀ i : Int, Q (.d (.int i))) Ex) Ex
theorem de_ixS (hK : X.K = c.K) (ha : PE X a (lift E ta)) (hb : PE X b (lift E tb)) (hs : PlainIx b) : PE X (.Subscript a b pos) (lift E (dIxS c ta tb)) := by
  refine peW (pe_ix ix_list ha hb hs) ?_
  rintro σ H R ⟨tw, G0, H0, G, δ, Q, Ex, a, h, q⟩
  refine ⟨tw, G0, H0, G, δ, _, Ex, a, h, fun s v G1 H1 ⟨n, es, hq⟩ r e => ?_⟩
  subst es
  refine ⟨tw, G0, H0, G1, δ, _, Ex, a.go e, hq, fun s v2 G2 H2 ⟨k, es, hk, hq⟩ r2 e2 => ?_⟩
  subst es
  have ev := r2.int
  subst ev
  obtain ⟨b, ns, rfl, sq, hl⟩ := (r.go e.tk e2).scr e2.gh
  have hk' : k < ns.length := by omega
  refine ⟨b, ns.map V.int, (k : Int), .int ns[k], rfl, rfl, by rw [hK]; exact sq, ?_, q _ _ G2 H2 (hq _) (WD.int _) (e.trans e2)⟩
  refine atI_nat ?_
  rw [List.getElem?_map, List.getElem?_eq_getElem hk']
  rfl
end
/-! ### the law's head -/
section
variable {P : Program} {w : World} {K : PySem.W.Frag} {mg : Str → Option Value} {base : Heap}
/-- the heap behind the beginning -/
def begunH (H : Hp) (t r : Addr) : Hp := upd (upd (upd H t (.dK [])) r (.dK [])) t (.dK [(.inr "count", .int 0), (.inr "rests", .ref r)])
def spBegun : Sp := fun vs H Q _ => vs = [] ∧ ∀ t r, t ≠ r → H t = none → H r = none → Q (.ref t) (begunH H t r)
theorem ok_begun {x qual : Str} {st : Stmt} {f : Addr} {fd : FuncData} (F : Fun K x qual st f fd) (S : FnScope [] [] (defScope st)) {p1 p2 p3 p4 p5 p6 : Pos} {j1 j2 j3 : Nat}
    (hb : defBody st = [.Return (some (.Dict [some (.Constant (.str "count") j1 p1), some (.Constant (.str "rests") j2 p2)] [.Constant (.int 0) j3 p3, .Dict [] [] p4] p5)) p6]) : FnOk P w K mg base (L2.CX P w) 1 f fd [] spBegun := by
  refine F.okX S (fun vs H Q E h => ?_) (fun cdv A outer s H vs Q E hroom h => ?_)
  · rw [h.1]
    rfl
  · obtain ⟨rfl, q⟩ := h
    rw [hb]
    refine ⟨_, pss_one (ps_ret (pe_disp (pps_cons pe_str pe_int (pps_cons pe_str pe_dnewK pps_nil)) rfl rfl (by simp) (Nat.le_of_ble_eq_true rfl))), ?_⟩
    refine fun t nt r nr => ?_
    have hne : t ≠ r := fun z => by
      subst z
      rw [upd_same] at nr
      cases nr
    have nr' : H r = none := by
      rw [upd_ne hne.symm] at nr
      exact nr
    refine ⟨?_, [(.inr "count", .int 0), (.inr "rests", .ref r)], rfl, Nat.le_of_ble_eq_true rfl, ?_⟩
    · rw [upd_ne hne, upd_same]
    · exact q t r hne nt nr'
/-- the heap without the tables of code -/
def noTbl (H : Hp) : Hp := fun b => match H b with
  | some (.tbl _) => none
  | o => o
theorem noTbl_eq {H : Hp} {b : Addr} {o : HO} : noTbl H b = some o ↔ H b = some o ∧ ∀ ps, o ≠ .tbl ps := by
  unfold noTbl
  constructor
  · intro h
    split at h
    · cases h
    · rename_i hn
      exact ⟨h, fun ps z => by subst z; exact hn ps h⟩
  · rintro ⟨h, hn⟩
    rw [h]
    split
    · rename_i ps z
      cases z
      exact absurd rfl (hn ps)
    · rfl
theorem seq_noTbl {K : PySem.W.Frag} {H : Hp} {a : Addr} {xs : List V} (h : SqL K H a xs) : SqL K (noTbl H) a xs := by
  rcases h with (h | ⟨o, h⟩) | h
  · exact .inl (.inl (noTbl_eq.mpr ⟨h, fun _ z => by cases z⟩))
  · exact .inl (.inr ⟨o, noTbl_eq.mpr ⟨h, fun _ z => by cases z⟩⟩)
  · exact .inr h
def spLaw (K : PySem.W.Frag) (tabs : List (Addr × Str)) : Sp := fun vs H Q _ => ∃ (a : Addr) (ns : List Int), vs = [.ref a] ∧ SqL K H a (ns.map V.int) ∧ ns.length ≤ 63 ∧ LamX.Tabs tabs H ∧ ∀ H', Q (.bl true) H'
/-- THE RULE for a law: its first row begins the drawing -/
theorem fnLaw {c : Ct} {tabs : List (Addr × Str)} {x qual y z : Str} {st : Stmt} {rest : List Stmt} {f fb : Addr} {fd fdb : FuncData} {N : List Str} {k : Nat} {t : DS} {p1 p2 p3 p4 : Pos} (hK : K = c.K) (F : Fun K x qual st f fd) (S : FnScope N [z] (defScope st))
    (B : FnOk P w K mg base (L2.CX P w) 1 fb fdb [] spBegun) (gB : mg "_law_begun" = some (.ref fb)) (kB : PySem.W.keepIn K (.ref fb) = true) (bB : Binds K fdb [] [])
    (hst : defBody st = .Assign [.Name y p1] (.Call (.Name "_law_begun" p2) [] [] p3) p4 :: rest) (hN : N[1]? = some y)
    (hy : ∀ (cdv : Value) (A : Around) (outer : List PySem.Env) (s : Shared) (H : Hp) (E : XK), Loc (cxOf (L2.CX P w) P w K mg base N qual (defScope st) f cdv A outer s H E).env.scope y ∧ Gl (cxOf (L2.CX P w) P w K mg base N qual (defScope st) f cdv A outer s H E) "_law_begun" ∧
      Passes (L2.CX P w) (cxOf (L2.CX P w) P w K mg base N qual (defScope st) f cdv A outer s H E) E ∧ ((cxOf (L2.CX P w) P w K mg base N qual (defScope st) f cdv A outer s H E).fn y = true ∨ (cxOf (L2.CX P w) P w K mg base N qual (defScope st) f cdv A outer s H E).env.scope.names.lookup y = some .local) ∧
      swapsWith (.Call (.Name "_law_begun" p2) [] [] p3) (some (.Name y p1)) p4.line (cxOf (L2.CX P w) P w K mg base N qual (defScope st) f cdv A outer s H E).env = pure false)
    (hb : ∀ (cdv : Value) (A : Around) (outer : List PySem.Env) (s : Shared) (H : Hp) (E : XK), Room (k + 1) (A.deeper (envOfC qual (defScope st) s.heap.objs.size f cdv)) → PSs (cxOf (L2.CX P w) P w K mg base N qual (defScope st) f cdv A outer s H E) rest (liftS ⟨E, tabs⟩ t))
    (hr : ∀ n, n ≤ 63 → t { nx := fun _ => False, rt := fun s => s = .d (.bool true) } (startD N.length [scr c n, .town]) (fun _ => False)) : FnOk P w K mg base (L2.CX P w) (k + 1 + 1) f fd [z] (spLaw K tabs) := by
  subst hK
  refine F.okX S (fun vs H Q E h => ?_) (fun cdv A outer s H vs Q E hroom h => ?_)
  · obtain ⟨a, ns, rfl, _⟩ := h
    rfl
  · obtain ⟨a, ns, rfl, sq, hl, tb, q⟩ := h
    obtain ⟨y1, y2, y3, y4, y5⟩ := hy cdv A outer s H E
    rw [hst]
    refine ⟨_, pss_cons (ps_set (i := 1) S.nd hN y1 (pe_call0 B (hroom.mono (by omega)) y2 gB kB bB .nil y3) y5 y4) (hb cdv A outer s H E hroom), ?_⟩
    refine ⟨rfl, fun t' r hne nt nr => ?_⟩
    have kp : ∀ b o, H b = some o → begunH H t' r b = some o := fun b o hb => by
      unfold begunH
      rw [upd_ne (ne_of_none hb nt), upd_ne (ne_of_none hb nr), upd_ne (ne_of_none hb nt)]
      exact hb
    have et : begunH H t' r t' = some (.dK [(.inr "count", .int 0), (.inr "rests", .ref r)]) := upd_same
    have er : begunH H t' r r = some (.dK []) := by
      unfold begunH
      rw [upd_ne hne.symm, upd_same]
    have tw0 : TwOk ⟨some (t', r), tabs⟩ (begunH H t' r) := by
      refine ⟨fun t2 r2 e => ?_, tb.ext kp⟩
      cases e
      exact ⟨hne, 0, [], et, er, List.nodup_nil, fun _ z => nomatch z⟩
    have o : Ok ⟨some (t', r), tabs⟩ (noTbl H) (begunH H t' r) := ⟨fun b u hb => kp b u (noTbl_eq.mp hb).1, tw0, fun b hb => by
      rcases hb with ⟨t2, r2, e, z⟩ | ⟨p, hp, rfl⟩
      · cases e
        cases q0 : noTbl H b with
        | none => rfl
        | some u =>
          have := (noTbl_eq.mp q0).1
          rcases z with rfl | rfl
          · rw [nt] at this; cases this
          · rw [nr] at this; cases this
      · obtain ⟨ps, e, _⟩ := tb p hp
        cases q0 : noTbl H p.1 with
        | none => rfl
        | some u =>
          have z := noTbl_eq.mp q0
          rw [e] at z
          exact absurd (Option.some.inj z.1).symm (z.2 ps), fun b ps z => (noTbl_eq.mp z).2 ps rfl⟩
    have fr : FRs ⟨some (t', r), tabs⟩ (noTbl H) [.ref a, .ref t'] [scr c ns.length, .town] := ⟨⟨a, ns, rfl, seq_noTbl sq, rfl⟩, ⟨t', r, rfl, rfl⟩, trivial⟩
    have rs := rep_start (N := N) o fr
    have e : (L2.start N [.ref a]).set 1 (some (.ref t')) = L2.start N [.ref a, .ref t'] := by
      have hN2 : 1 < N.length := (List.getElem?_eq_some_iff.mp hN).1
      unfold L2.start
      obtain ⟨m, hm⟩ : ∃ m, N.length = m + 2 := ⟨N.length - 2, by omega⟩
      rw [hm]
      rfl
    show liftS ⟨E, tabs⟩ t _ ((L2.start N [V.ref a]).set 1 (some (V.ref t'))) (begunH H t' r)
    rw [e]
    refine ⟨_, _, _, _, _, _, fun _ => False, ⟨rs, fun _ _ _ z _ => z.elim, rfl⟩, hr ns.length hl, fun _ _ _ _ z _ => z.elim, fun _ _ _ _ z => z.elim, fun _ _ _ _ z => z.elim, fun s v G H2 hs hv _ => ?_⟩
    have hs' : s = .d (.bool true) := hs
    subst hs'
    have hv' : WD G v (.bool true) := hv
    cases hv'
    exact q H2
end
end DL
/-! DL 13: what a called thing answered, or how it failed. -/
namespace DL
open PySem PySem.Spec PyProof.Rows L2
/-! ### plain dicts of one's own -/
section
variable {κ : Type} [DecidableEq κ]
def putD (kvs : List (κ × PyData)) (k : κ) (v : PyData) : List (κ × PyData) := if (kvs.any fun kv => decide (kv.1 = k)) = true then kvs.map (fun kv => if kv.1 = k then (kv.1, v) else kv) else kvs ++ [(k, v)]
def getD (kvs : List (κ × PyData)) (k : κ) : Option PyData := (kvs.find? fun kv => decide (kv.1 = k)).map (·.2)
theorem WKv.any {G : Hp} (k : κ) : ∀ {ps : List (κ × V)} {qs : List (κ × PyData)}, WKv G ps qs → (ps.any fun kv => decide (kv.1 = k)) = qs.any fun kv => decide (kv.1 = k)
  | [], [], _ => rfl
  | p :: ps, q :: qs, h => by rw [List.any_cons, List.any_cons, WKv.any k h.2, h.1.1]
  | [], _ :: _, h => h.elim
  | _ :: _, [], h => h.elim
theorem WKv.repl {G : Hp} (k : κ) {v : V} {d : PyData} (w : WD G v d) : ∀ {ps : List (κ × V)} {qs : List (κ × PyData)}, WKv G ps qs → WKv G (ps.map fun kv => if kv.1 = k then (kv.1, v) else kv) (qs.map fun kv => if kv.1 = k then (kv.1, d) else kv)
  | [], [], _ => trivial
  | p :: ps, q :: qs, h => by
    refine ⟨?_, WKv.repl k w h.2⟩
    show (if p.1 = k then (p.1, v) else p).1 = (if q.1 = k then (q.1, d) else q).1 ∧ WD G (if p.1 = k then (p.1, v) else p).2 (if q.1 = k then (q.1, d) else q).2
    have e := h.1.1
    by_cases hk : p.1 = k
    · rw [if_pos hk, if_pos (e ▸ hk)]
      exact ⟨e, w⟩
    · rw [if_neg hk, if_neg (fun z => hk (e.trans z))]
      exact h.1
  | [], _ :: _, h => h.elim
  | _ :: _, [], h => h.elim
theorem WKv.snoc {G : Hp} {k : κ} {v : V} {d : PyData} (w : WD G v d) : ∀ {ps : List (κ × V)} {qs : List (κ × PyData)}, WKv G ps qs → WKv G (ps ++ [(k, v)]) (qs ++ [(k, d)])
  | [], [], _ => ⟨⟨rfl, w⟩, trivial⟩
  | p :: ps, q :: qs, h => ⟨h.1, WKv.snoc w h.2⟩
  | [], _ :: _, h => h.elim
  | _ :: _, [], h => h.elim
theorem WKv.put {G : Hp} {ps : List (κ × V)} {qs : List (κ × PyData)} (h : WKv G ps qs) (k : κ) {v : V} {d : PyData} (w : WD G v d) : WKv G (putK ps k v) (putD qs k d) := by
  unfold putK putD
  rw [h.any k]
  by_cases hk : (qs.any fun kv => decide (kv.1 = k)) = true
  · rw [if_pos hk, if_pos hk]
    exact h.repl k w
  · rw [if_neg hk, if_neg hk]
    exact h.snoc w
theorem WKv.val {G : Hp} (k : κ) : ∀ {ps : List (κ × V)} {qs : List (κ × PyData)}, WKv G ps qs → (valV ps k = none ∧ getD qs k = none) ∨ ∃ v d, valV ps k = some v ∧ getD qs k = some d ∧ WD G v d
  | [], [], _ => .inl ⟨rfl, rfl⟩
  | p :: ps, q :: qs, h => by
    have e := h.1.1
    by_cases hk : p.1 = k
    · refine .inr ⟨p.2, q.2, valV_pos hk, ?_, h.1.2⟩
      unfold getD
      rw [List.find?_cons, decide_eq_true (e ▸ hk : q.1 = k)]
      rfl
    · have hq : ¬ q.1 = k := fun z => hk (e.trans z)
      rw [valV_neg hk]
      have : getD (q :: qs) k = getD qs k := by
        unfold getD
        rw [List.find?_cons, decide_eq_false hq]
      rw [this]
      exact WKv.val k h.2
  | [], _ :: _, h => h.elim
  | _ :: _, [], h => h.elim
end
def mergeD (kvs more : List (Key × PyData)) : List (Key × PyData) := more.foldl (fun acc kv => putD acc kv.1 kv.2) kvs
theorem WKv.merge {G : Hp} : ∀ {more : List (Key × V)} {mored : List (Key × PyData)} {ps : List (Key × V)} {qs : List (Key × PyData)}, WKv G more mored → WKv G ps qs → WKv G (mergeK ps more) (mergeD qs mored)
  | [], [], _, _, _, h => h
  | p :: more, q :: mored, ps, qs, hm, h => by
    show WKv G (mergeK (putK ps p.1 p.2) more) (mergeD (putD qs q.1 q.2) mored)
    refine WKv.merge hm.2 ?_
    rw [hm.1.1]
    exact h.put q.1 hm.1.2
  | [], _ :: _, _, _, h, _ => h.elim
  | _ :: _, [], _, _, h, _ => h.elim
section
variable {X : Cx} {E : EK} {e1 e2 e : Expr} {t1 t2 te : DT} {pos p apos cpos : Pos} {x : Str}
/-- {'k1': e1, 'k2': e2} -/
def dDK2 (k1 k2 : Str) (t1 t2 : DT) : DT := fun δ Q Ex => t1 δ (fun s1 => ∃ d1, asD s1 = some d1 ∧ t2 δ (fun s2 => ∃ d2, asD s2 = some d2 ∧ k1 ≠ k2 ∧ Q (.ow (.dK [(.inr k1, d1), (.inr k2, d2)]))) Ex) Ex
theorem de_dk2 {k1 k2 : Str} {j1 j2 : Nat} {p1 p2 : Pos} (h1 : PE X e1 (lift E t1)) (h2 : PE X e2 (lift E t2)) : PE X (.Dict [some (.Constant (.str k1) j1 p1), some (.Constant (.str k2) j2 p2)] [e1, e2] pos) (lift E (dDK2 k1 k2 t1 t2)) := by
  refine peW (pe_disp (pps_cons pe_str h1 (pps_cons pe_str h2 pps_nil)) rfl rfl (by simp) (Nat.le_of_ble_eq_true rfl)) ?_
  rintro σ H R ⟨tw, G0, H0, G, δ, Q, Ex, a, h, q⟩
  refine fun p hp => ?_
  have x0 : Ext tw G H G (upd H p (.dK [])) := a.ok.putH hp
  have nv : ¬ Vol tw p := novol a.ok.tk hp
  have gp : G p = none := by
    cases q0 : G p with
    | none => rfl
    | some u => rw [a.ok.gh p u q0] at hp; cases hp
  refine ⟨tw, G0, H0, G, δ, _, Ex, a.go x0, h, fun s1 v1 G1 H1 ⟨d1, ed1, hq⟩ r1 x1 => ?_⟩
  obtain ⟨G1', x1', sm1, f1⟩ := r1.froze x1 (asF_asD ed1)
  refine ⟨tw, G0, H0, G1', δ, _, Ex, (a.go x0).go x1', hq, fun s2 v2 G2 H2 ⟨d2, ed2, hk, hq⟩ r2 x2 => ?_⟩
  obtain ⟨G2', x2', sm2, f2⟩ := r2.froze x2 (asF_asD ed2)
  have nt : NT (.dK []) := fun _ z => by cases z
  have x3 := (x1'.trans x2')
  have hp2 : H2 p = some (.dK []) := x3.hh p _ upd_same nv nt
  have gp2 : G2' p = none := stays_none x3 upd_same gp trivial
  refine ⟨hp2, [(.inr k1, v1), (.inr k2, v2)], rfl, Nat.le_of_ble_eq_true rfl, ?_⟩
  have w : WKv G2' [((Sum.inr k1 : Key), v1), (.inr k2, v2)] [(.inr k1, d1), (.inr k2, d2)] := ⟨⟨rfl, WD.mono x2'.gg _ _ f1⟩, ⟨rfl, f2⟩, trivial⟩
  have w2 := WKv.merge w (G := G2') (ps := []) (qs := []) trivial
  have em : mergeD [] [((Sum.inr k1 : Key), d1), (.inr k2, d2)] = [(.inr k1, d1), (.inr k2, d2)] := by
    show putD (putD [] (Sum.inr k1 : Key) d1) (.inr k2) d2 = _
    have e0 : putD [] (Sum.inr k1 : Key) d1 = [(.inr k1, d1)] := rfl
    rw [e0]
    unfold putD
    have hne : ¬ ((Sum.inr k1 : Key) = .inr k2) := fun z => hk (Sum.inr.inj z)
    simp [hne]
  rw [em] at w2
  have fr := fr_none a.ok.tk hp
  exact q _ _ _ _ hq ⟨p, _, rfl, upd_same, gp2, fr, nv, _, rfl, w2⟩ ((x0.trans x3).growO fr gp2 (fun φ z => by rw [hp2] at z; cases z) (fun φ z => by rw [hp2] at z; cases z))
/-- x.update(e), x a dict of its own, e a new one -/
def sUpd (i : Nat) (te : DT) : DS := fun De δ Ex => ∃ ks, δ[i]? = some (some (.ow (.dK ks))) ∧ te δ (fun s => ∃ more, s = .ow (.dK more) ∧ ks.length + more.length ≤ sizeLine ∧ De.nx (δ.set i (some (.ow (.dK (mergeD ks more)))))) Ex
theorem Rep.mineO {tw : Tw} {G0 H0 G H : Hp} {σ : L2.St} {δ : Env} (r : Rep tw G0 H0 G σ H δ) {i : Nat} {c : OC} (h : δ[i]? = some (some (.ow c))) : ∃ a o, σ[i]? = some (some (.ref a)) ∧ H a = some o ∧ G a = none ∧ Fr tw H0 a ∧ ¬ Vol tw a ∧ OCr G a o c := by
  obtain ⟨v, e1, a, o, e2, e3, e4, e5, e6, e7⟩ := r.sl i _ h
  subst e2
  exact ⟨a, o, e1, e3, e4, e5, e6, e7⟩
theorem ds_upd {i : Nat} (hN : X.N[i]? = some x) (hv : Vis X.env.scope x) (he : PE X e (lift E te)) (hs : swapsWith (.Call (.Attribute (.Name x p) "update" apos) [e] [] cpos) none pos.line X.env = pure false := by rfl) (hd : (x == ("__debug__" : Str)) = false := by decide) (hcd : (x == ("__classdict__" : Str)) = false := by decide)
    (hbase : attributeBase (.Name x p) "update" X.env (eval (.Name x p) X.env) = eval (.Name x p) X.env := by rfl) (hfew : ((backTo cpos (starEach [e] X.env)).all (fun x => !x.1) && (backToKw cpos (keywordEach [] X.env)).all (fun x => x.1.isSome) && decide ([e].length + ([] : List Keyword).length + (if ([] : List Keyword).isEmpty then 0 else 1) < 30)) = true := by rfl)
    (hline : (apos.endLine == cpos.line) = true := by rfl) (s1 : starEach (e :: []) X.env = (false, eval e X.env) :: starEach [] X.env := by rfl) (hplain : (backTo cpos (starEach [] X.env)).any (·.1) = false := by rfl) :
    PS X (.Expr (.Call (.Attribute (.Name x p) "update" apos) [e] [] cpos) pos) (liftS E (sUpd i te)) := by
  refine psW (ps_expr (pe_bm PySem.F.plainAttrs_dict PySem.F.slot_dict_update PySem.F.type_dict_update RX.mt_update (pe_var (i := i) hN hv hd hcd) (pa_cons he pa_nil s1) hbase hfew hline s1 hplain) hs) ?_
  rintro D σ H ⟨tw, G0, H0, G, δ, De, Ex, a, ⟨ks, hl, h⟩, g⟩
  obtain ⟨b, o, e1, e2, e3, e4, e5, kvs, rfl, w⟩ := a.rep.mineO hl
  refine ⟨.ref b, e1, .inr (.inr (.inl ⟨rfl, .inl ⟨_, e2⟩⟩)), tw, G0, H0, G, δ, _, Ex, a, h, fun s v G1 H1 ⟨more, es, hz, hn⟩ r ex => ?_⟩
  subst es
  obtain ⟨b2, o2, rfl, f2, f3, f4, f5, kvm, rfl, wm⟩ := r
  have r1 := a.rep.go ex
  obtain ⟨b', o', k1, k2, k3, k4, k5, kvs', rfl, w'⟩ := r1.mineO hl
  rw [e1] at k1
  cases k1
  have hne : b ≠ b2 := fun z => by
    subst z
    exact f4.ne e2 trivial rfl
  refine ⟨b, b2, kvs', kvm, rfl, rfl, hne, k2, f2, by rw [w'.length, wm.length]; exact hz, ?_⟩
  exact g.nx _ G1 σ _ hn (r1.writeO hl trivial e1 (fun φ z => by rw [k2] at z; cases z) ⟨b, _, rfl, upd_same, k3, k4, k5, _, rfl, wm.merge w'⟩ trivial)
/-- isinstance(e, c), e a caught error that is kept -/
def dIsX (c : Ct) (D : V) (t : DT) : DT := fun δ Q Ex => t δ (fun s => ∃ C cv b, s = .bo (.exc C) ∧ ExcC c.K C ∧ (∀ u, RelV D u → u = cv) ∧ PySem.W.kitOne c.K (.ref C) cv = some b ∧ Q (.d (.bool b))) Ex
theorem de_isX {c : Ct} {D : V} {tn : Str} {p2 : Pos} (hK : X.K = c.K) (hm : X.mg "isinstance" = none) (hT : PE X (.Name tn p2) (tC D)) (ha : PE X e (lift E te)) (hg : Gl X "isinstance" := by rfl)
    (he : starEach [e, .Name tn p2] X.env = (false, eval e X.env) :: starEach [.Name tn p2] X.env := by rfl) (hpl : (backTo pos (starEach [.Name tn p2] X.env)).any (·.1) = false := by rfl) :
    PE X (.Call (.Name "isinstance" p) [e, .Name tn p2] [] pos) (lift E (dIsX c D te)) := by
  refine peW (pe_callB RX.call_isR hg hm (by decide +kernel) (pa_cons ha (pa_cons hT pa_nil) he) (by decide) (by decide) he hpl) ?_
  rintro σ H R ⟨tw, G0, H0, G, δ, Q, Ex, a, h, q⟩
  refine ⟨tw, G0, H0, G, δ, _, Ex, a, h, fun s v G1 H1 ⟨C, cv, b, es, hx, hcv, hk, hs⟩ r ex => ?_⟩
  subst es
  obtain ⟨b2, o2, rfl, f2, f3, f4, f5, eo⟩ := r
  have eo' : o2 = RX.ExR (.ref C) b2 := eo
  subst eo'
  rw [hK]
  exact ⟨b2, C, D, cv, b, rfl, f2, hx, hcv, hk, q _ _ G1 H1 hs (WD.bl b) ex⟩
end
theorem stO_ow {i : Nat} {δ : Env} {c : OC} {k : Env → Prop} : stO i δ (.ow c) k = k (δ.set i (some (.ow c))) := rfl
/-! ### a dict of one's own is walked -/
def keyD : Key → PyData
  | .inl i => .int i
  | .inr x => .str x
theorem WKv.get {κ : Type} {G : Hp} : ∀ {ps : List (κ × V)} {qs : List (κ × PyData)} {i : Nat} {k : κ} {v : V}, WKv G ps qs → ps[i]? = some (k, v) → ∃ d, qs[i]? = some (k, d) ∧ WD G v d
  | [], [], _, _, _, _, e => by simp at e
  | p :: ps, q :: qs, 0, k, v, h, e => by
    have e' : p = (k, v) := by simpa using e
    subst e'
    exact ⟨q.2, by rw [List.getElem?_cons_zero]; exact congrArg some (Prod.ext h.1.1.symm rfl), h.1.2⟩
  | p :: ps, q :: qs, i + 1, k, v, h, e => by
    obtain ⟨d, e1, e2⟩ := WKv.get (i := i) h.2 (by simpa using e)
    exact ⟨d, by simpa using e1, e2⟩
  | [], _ :: _, _, _, _, h, _ => h.elim
  | _ :: _, [], _, _, _, h, _ => h.elim
theorem wk_keys {tw : Tw} {d : Addr} {od : Obj} {kvs : List (Key × V)} {ks : List (Key × PyData)} {fz : Bool} {G H : Hp} (w : WKv G kvs ks) (hz : ks.length ≤ sizeLine) (st : ∀ G1 H1, Lat fz tw G H G1 H1 → H1 d = some (.frz od (.dK kvs))) : WkD tw (Itk d od kvs) (ks.map fun p => keyD p.1) fz G H where
  sz := by rw [List.length_map]; exact hz
  goes := fun i G1 H1 hi l => ⟨st G1 H1 l, by rw [List.length_map] at hi; rw [w.length]; exact hi⟩
  stops := fun G1 H1 l => ⟨st G1 H1 l, by rw [List.length_map, w.length]; exact Nat.le_refl _⟩
  yld := fun i G1 H1 x H2 hi l ok y => by
    obtain ⟨rfl, k, v, e, rfl⟩ := y
    obtain ⟨d, e1, e2⟩ := w.get e
    refine ⟨keyD k, G1, by rw [List.getElem?_map, e1]; rfl, ?_, ok.refl⟩
    cases k with
    | inl i => exact .int i
    | inr x => exact .str x
section
variable {X : Cx} {E : EK} {e1 e2 e tg iter : Expr} {t1 t2 te : DT} {ti : DI} {g : DG} {pos p apos cpos : Pos} {x : Str} {ns : List Nat}
def iKeysL (te : DT) : DI := fun δ Q Ex => te δ (fun s => ∃ ks, s = .bo (.dKl ks) ∧ ks.length ≤ sizeLine ∧ Q (ks.map fun p => keyD p.1) false) Ex
theorem di_keysL (h : PE X e (lift E te)) : PI X tg e (liftI E (iKeysL te)) := by
  refine piW (pi_keys h) ?_
  rintro σ H R ⟨tw, G0, H0, G, δ, Q, Ex, a, h, q⟩
  refine ⟨tw, G0, H0, G, δ, _, Ex, a, h, fun s v G1 H1 ⟨ks, es, hz, hs⟩ r ex => ?_⟩
  subst es
  obtain ⟨b, o, rfl, f2, f3, f4, f5, od, kvs, rfl, w⟩ := r
  exact ⟨b, od, rfl, .inl ⟨kvs, f2, q _ _ _ G1 H1 hs ex (wk_keys w hz fun G2 H2 l => l.2.2 rfl b _ f2 f5 (fun _ z => by cases z))⟩⟩
/-- d[k], d a plain dict, k a text -/
def dGetK (te ti : DT) : DT := fun δ Q Ex => te δ (fun s => ∃ ks, (s = .bo (.dKl ks) ∨ s = .bo (.dK ks)) ∧ ti δ (fun k => ∃ x d, k = .d (.str x) ∧ getD ks (.inr x) = some d ∧ Q (.d d)) Ex) Ex
theorem de_getK (hu : X.A.units + 65 < cLine) (h : PE X e1 (lift E t1)) (h2 : PE X e2 (lift E t2)) (hs : NoSl e2) : PE X (.Subscript e1 e2 pos) (lift E (dGetK t1 t2)) := by
  refine peW (pe_dget (by omega) h h2 hs) ?_
  rintro σ H R ⟨tw, G0, H0, G, δ, Q, Ex, a, h, q⟩
  refine ⟨tw, G0, H0, G, δ, _, Ex, a, h, fun s v G1 H1 ⟨ks, es, hq⟩ r ex => ?_⟩
  refine ⟨tw, G0, H0, G1, δ, _, Ex, a.go ex, hq, fun k kv G2 H2 ⟨x, d, ek, hd, hs⟩ rk ex2 => ?_⟩
  subst ek
  have ev := rk.str
  subst ev
  have r2 := r.go ex.tk ex2
  have key : ∀ {b : Addr} {kvs : List (Key × V)}, Rd H2 b (.dK kvs) → WKv G2 kvs ks → ∃ a v, V.ref b = .ref a ∧ DGet H2 a (.str x) (some v) ∧ R v H2 := fun {b kvs} hr w => by
    rcases w.val (Sum.inr x : Key) with ⟨_, z⟩ | ⟨v, d', z1, z2, wd⟩
    · rw [hd] at z; cases z
    · rw [hd] at z2
      cases z2
      exact ⟨b, v, rfl, .inl ⟨kvs, .inr x, hr, rfl, z1.symm⟩, q _ _ G2 H2 hs wd (ex.trans ex2)⟩
  rcases es with rfl | rfl
  · obtain ⟨b, o, rfl, f2, f3, f4, f5, od, kvs, rfl, w⟩ := r2
    exact key (.inr ⟨od, f2⟩) w
  · obtain ⟨b, o, rfl, f2, f3, f4, f5, kvs, rfl, w⟩ := r2
    exact key (.inl f2) w
/-- name = [.. over a dict of one's own ..] -/
def sSetLcL (i k : Nat) (t : DT) : DS := fun De δ Ex => ∃ ks, δ[k]? = some (some (.ow (.dK ks))) ∧ t (δ.set k (some (.ow (.dKl ks)))) (fun s => ∃ ds, s = .own ds ∧ De.nx (δ.set i (some (.d (.list ds))))) Ex
theorem ds_setLcL {i k : Nat} {y : Str} {py spos : Pos} {elt : Expr} {ifs : List Expr} {scope : Scope} {own : List (Str × Nat)} {tt : DB} {te : DT} (hc : X.calm = true) (hN : X.N.Nodup) (hy : X.N[i]? = some y) (hyl : X.env.scope.names.lookup y = some .local)
    (hsw : swapsWith (.ListComp elt [⟨tg, iter, ifs, 0⟩] scope pos) (some (.Name y py)) spos.line X.env = pure true) (hi : PI X tg iter (liftI E ti)) (ok : BlkOk X.N X.env.scope scope own) (hns : ∀ i ∈ ns, i ∈ own.map (·.2))
    (hg : ∀ (s : Shared) (H : Hp) (C : Addr) (cl : List (Str × Addr)) (fp : List Addr), PG (X.blk s H scope (compEnvC scope cl C X.env) fp) tg (liftG ns g))
    (ht : ∀ (s : Shared) (H : Hp) (C : Addr) (cl : List (Str × Addr)) (fp : List Addr), PTs (X.blk s H scope (compEnvC scope cl C X.env) fp) ifs (liftB E.no tt))
    (he : ∀ (s : Shared) (H : Hp) (C : Addr) (cl : List (Str × Addr)) (fp : List Addr), PE (X.blk s H scope (compEnvC scope cl C X.env) fp) elt (lift E.no te)) (hs : ∀ x, foldedSetIterable iter X.env x = pure x := by intro _; rfl) :
    PS X (.Assign [.Name y py] (.ListComp elt [⟨tg, iter, ifs, 0⟩] scope pos) spos) (liftS E (sSetLcL i k (dLc ti g tt te (own.map (·.2))))) := by
  refine psW (ps_lock (ps_setLc hc hN hy hyl hsw hi ok hg ht he hs)) ?_
  rintro D σ H ⟨tw, G0, H0, G, δ, De, Ex, a, ⟨ks, hk, h⟩, gg⟩
  obtain ⟨d, o, e1, e2, e3, e4, e5, kvs, rfl, w⟩ := a.rep.mineO hk
  refine ⟨d, _, e2, trivial, fun od => ?_⟩
  have ne : ∀ φ, H d ≠ some (.ext φ) := fun φ z => by rw [e2] at z; cases z
  have rl : Rep tw G0 H0 G σ (upd H d (.frz od (.dK kvs))) (δ.set k (some (.ow (.dKl ks)))) := a.rep.writeO hk trivial e1 ne ⟨d, _, rfl, upd_same, e3, e4, e5, od, kvs, rfl, w⟩ trivial
  have ntl : NT (.frz od (.dK kvs)) := fun _ z => by cases z
  refine lift_lc (E := E) hns σ _ _ ⟨tw, G0, H0, G, _, _, Ex, ⟨rl, a.exc, a.tb⟩, h, fun s v G1 H1 ⟨ds, es, hn⟩ r ex => ?_⟩
  subst es
  have hd1 : H1 d = some (.frz od (.dK kvs)) := ex.hh d _ upd_same e5 ntl
  have gd1 : G1 d = none := stays_none ex upd_same e3 trivial
  have frd : ∀ {b : Addr}, Fr tw (upd H d (.frz od (.dK kvs))) b → Fr tw H b := fun {b} f => ⟨f.1, fun o2 q => by
    by_cases hb : b = d
    · subst hb
      exact absurd trivial (f.2 _ upd_same)
    · exact f.2 o2 (by rw [upd_ne hb]; exact q)⟩
  have e' : Ext tw G H G1 (upd H1 d (.dK kvs)) := by
    refine ⟨ex.gg, fun b o2 q => ?_, fun b o2 q nv nt => ?_, ex.tk.upd e5 (fun φ z => by rw [hd1] at z; cases z), ex.nv, fun b o2 q => ?_, ex.gt⟩
    · rw [upd_ne (fun z => by rw [z, gd1] at q; cases q)]
      exact ex.gh b o2 q
    · by_cases hb : b = d
      · subst hb
        rw [e2] at q
        cases q
        exact upd_same
      · rw [upd_ne hb]
        exact ex.hh b o2 (by rw [upd_ne hb]; exact q) nv nt
    · rcases ex.new b o2 q with z | z
      · exact .inl z
      · exact .inr (frd z)
  obtain ⟨b, vs, rfl, g2, g3, g4, g5, g6⟩ := r
  have hbd : b ≠ d := fun z => by
    rw [z, hd1] at g2
    cases g2
  have r' : VR tw H0 H G1 (upd H1 d (.dK kvs)) (.ref b) (.own ds) := ⟨b, vs, rfl, by rw [upd_ne hbd]; exact g2, g3, frd g4, g5, g6⟩
  refine ⟨hd1, ?_⟩
  obtain ⟨δ', G2, k2, r2⟩ := fz_use (k := fun δ' => De.nx δ') a.rep (i := i) (s := .own ds) hn r' e'
  exact gg.nx _ _ _ _ k2 r2
end
end DL
/-! DL 14: what a called thing answered, or how it failed: the call with a lambda. -/
namespace DL
open PySem PySem.Spec PyProof.Rows L2 LamX
/-! ### from the very state -/
def noOwn : Option SV → Option SV
  | some (.own _) => none
  | some (.ow _) => none
  | s => s
def noOwnE (δ : Env) : Env := δ.map noOwn
theorem Rep.reroot {tw : Tw} {G0 H0 G H : Hp} {σ : L2.St} {δ : Env} (r : Rep tw G0 H0 G σ H δ) : Rep tw G H G σ H (noOwnE δ) := by
  have key : ∀ {i : Nat} {s : SV}, (noOwnE δ)[i]? = some (some s) → δ[i]? = some (some s) ∧ ¬ Mine s := fun {i s} h => by
    unfold noOwnE at h
    rw [List.getElem?_map] at h
    cases q : δ[i]? with
    | none => rw [q] at h; cases h
    | some o =>
      rw [q, Option.map_some, Option.some.injEq] at h
      cases o with
      | none => cases h
      | some t =>
        cases t with
        | own l => cases h
        | ow c => cases h
        | d x => cases h; exact ⟨rfl, fun z => z⟩
        | bor l => cases h; exact ⟨rfl, fun z => z⟩
        | bo c => cases h; exact ⟨rfl, fun z => z⟩
        | fo c => cases h; exact ⟨rfl, fun z => z⟩
        | town => cases h; exact ⟨rfl, fun z => z⟩
        | v x => cases h; exact ⟨rfl, fun z => z⟩
        | abs φ m => cases h; exact ⟨rfl, fun z => z⟩
  refine ⟨r.ok.refl, by unfold noOwnE; rw [List.length_map, r.len], fun i s h => ?_, fun i j s s' a hi hj mi mj _ _ => absurd mi (key hi).2⟩
  obtain ⟨h1, h2⟩ := key h
  obtain ⟨v, e1, f⟩ := r.sl i s h1
  refine ⟨v, e1, ?_⟩
  cases s with
  | own l => exact absurd trivial h2
  | ow c => exact absurd trivial h2
  | d x => exact f
  | bor l => exact f
  | bo c => exact f
  | fo c => exact f
  | town => exact f
  | v x => exact f
  | abs φ m => exact f
/-- what is known of an error's class: the name that _law_result gives it -/
abbrev ResP := Addr → Str → Prop
def TTres (T : List (Addr × Str)) (Res : ResP) : (XK → Hp → VK → Prop) → Hp → VK → Prop := fun tl H Q => ∃ (tw : Tw) (G : Hp) (Qd : SV → Prop), tw.tabs = T ∧ Ok tw G H ∧
  (∀ G1 H1, Ext tw G H G1 H1 → ∀ R : VK, (∀ x v G' H', Qd (.d (.tuple [.str "returns", x])) → WD G' v x → Ext tw G H G' H' → R v H') →
    tl (fun cls d H' => d = none ∧ ∃ C nm G', cls = .ref C ∧ Res C nm ∧ Ext tw G H G' H' ∧ Qd (.d (.tuple [.str nm]))) H1 R) ∧
  ∀ s v G' H', Qd s → VR tw H H G' H' v s → Ext tw G H G' H' → Q v H'
theorem codeO_eq {c : Addr} {q : Str} : ∃ φ, CodeO c q = .ext φ := ⟨_, rfl⟩
section
variable {X : Cx}
/-- the def that tells: try: r = a() / except x as n: y = n / rest -/
theorem res_gives {c : Ct} {T : List (Addr × Str)} {Res : ResP} {Ng : List Str} {x a q ex n y r : Str} {sg : Scope} {g CS : Addr} {cdg : Value} {t : DS} {S0 : Stmt} {rest : List Stmt} {np p0 p1 p2 p3 p4 p5 p6 pt ph : Pos}
    (hN : Ng.Nodup) (hlen : 3 < Ng.length) (h0 : ∀ f : Addr, (L2.start Ng [V.ref f])[0]? = some (some (V.ref f))) (hi : Ng[3]? = some n) (hj : Ng[1]? = some y) (hr : Ng[2]? = some r)
    (hln : sg.names.lookup n = some .local) (hly : sg.names.lookup y = some .local) (hlr : sg.names.lookup r = some .local) (hd : (n == ("__debug__" : Str)) = false) (hcd : (n == ("__classdict__" : Str)) = false)
    (hge : sg.names.lookup ex = some .globalImplicit) (hme : X.mg ex = some (.ref CS)) (hde : (ex == ("__debug__" : Str)) = false)
    (hRes : ∀ C nm, Res C nm → PySem.W.exmOne X.K (.ref C) (.ref CS) = some true)
    (hsw : ∀ (s : Shared) (H : Hp), swapsWith (.Name n p4) (some (.Name y p5)) p6.line (cxOf C8.CX0 X.prog X.w X.K X.mg X.base Ng x sg g cdg X.A X.stack s H C8.E0).env = pure false)
    (hsr : ∀ (s : Shared) (H : Hp), swapsWith (.Call (.Name a p1) [] [] p2) (some (.Name r p0)) p3.line (cxOf C8.CX0 X.prog X.w X.K X.mg X.base Ng x sg g cdg X.A X.stack s H C8.E0).env = pure false)
    (hS0 : ∀ (s : Shared) (H : Hp) (E : EK), PS (cxOf C8.CX0 X.prog X.w X.K X.mg X.base Ng x sg g cdg X.A X.stack s H C8.E0).nox S0 (liftS E (sPar 1 2 (dC (.d .none)) (dC (.d .none)))))
    (hR : ∀ (s : Shared) (H : Hp), PSs (cxOf C8.CX0 X.prog X.w X.K X.mg X.base Ng x sg g cdg X.A X.stack s H C8.E0).nox rest (liftS ⟨E0, T⟩ t))
    (r1 : ∀ (z : PyData) (Qd : SV → Prop), Qd (.d (.tuple [.str "returns", z])) → t { nx := fun _ => False, rt := Qd } ([none, some (.d .none), some (.d z)] ++ List.replicate (Ng.length - 3) none) (fun _ => False))
    (r2 : ∀ (C : Addr) (nm : Str) (Qd : SV → Prop), Res C nm → Qd (.d (.tuple [.str nm])) → t { nx := fun _ => False, rt := Qd } ([none, some (.ow (.exc C))] ++ List.replicate (Ng.length - 2) none) (fun _ => False)) :
    GivesTo X Ng x sg g cdg (S0 :: .Try [.Assign [.Name r p0] (.Call (.Name a p1) [] [] p2) p3] [.ExceptHandler (some (.Name ex np)) (some n) [.Assign [.Name y p5] (.Name n p4) p6] ph] [] [] pt :: rest) a q (TTres T Res) := by
  intro f c' s H Q tl act hc h
  obtain ⟨tw, G, Qd, etw, ok, htl, hq⟩ := h
  have hgl : Gl (cxOf C8.CX0 X.prog X.w X.K X.mg X.base Ng x sg g cdg X.A X.stack s H C8.E0).nox ex := hge
  have hT := RX.ps_try_res (X := (cxOf C8.CX0 X.prog X.w X.K X.mg X.base Ng x sg g cdg X.A X.stack s H C8.E0).nox) (x := ex) (n := n) (y := y) (c := .ref CS) (i := 3) (j := 1) (np := np) (pos := pt) (pos' := ph) (p1 := p4) (p2 := p5) (p3 := p6)
      (body := [.Assign [.Name r p0] (.Call (.Name a p1) [] [] p2) p3]) (Wout := fun _ _ _ _ => False)
      (tb := fun W D σ H => ∃ Ech : XK, (∀ cls d σ' H', Ech cls d H' → W cls d σ' H') ∧ σ[0]? = some (some (.ref f)) ∧ H c' = some (CodeO c' q) ∧ tl Ech H (fun v H' => D.nx (σ.set 2 (some v)) H'))
      rfl rfl rfl hN hi hj hln hly (fun {σ b} hl => List.getElem?_set_self (by rw [hl]; exact hlen)) ⟨hgl, hde, .inl hme⟩ LamX.takes0 hd hcd (hsw s H) (fun W pn xe tk _ => by
        refine ⟨fun pins s' σ H' D I h' => ?_⟩
        obtain ⟨Ech, hW, h1, h2, h3⟩ := h'
        have hp := act W pn xe Ech p1 p2 tk hW
        have hps := pss_one (ps_set (i := 2) (pos := p3) (pos' := p0) hN hr (.inl hlr) hp (hsr s H) (.inr hlr))
        exact hps.run pins s' σ H' D I ⟨h1, h2, h3⟩)
  refine ⟨_, pss_cons (hS0 s H ⟨E0, T⟩) (pss_cons hT (hR s H)), ?_⟩
  have fr : FRs tw G [.ref f] [.v (.ref f)] := ⟨rfl, trivial⟩
  have rs := rep_start (N := Ng) ok fr
  obtain ⟨m, hm⟩ : ∃ m, Ng.length = m + 3 := ⟨Ng.length - 3, by omega⟩
  have fin : ∀ s v G' H', Qd s → VR tw H H G' H' v s → Ext tw G H G' H' → Q v H' := hq
  refine ⟨tw, G, H, G, _, { nx := fun δ => δ = ([some (.v (.ref f)), some (.d .none), some (.d .none)] ++ List.replicate (Ng.length - 3) none), rt := fun _ => False }, fun _ => False, ⟨rs, fun _ _ _ z => z.elim, etw⟩, ?_, ⟨?_, fun _ _ _ _ z => z.elim, fun _ _ _ _ z => z.elim, fun _ _ _ _ z => z.elim⟩⟩
  · show ((startD Ng.length [SV.v (.ref f)]).set 1 _).set 2 _ = _
    rw [hm]
    rfl
  · intro δ G1 σ1 H1 hδ rp
    subst hδ
    have e0 : σ1[0]? = some (some (.ref f)) := by
      obtain ⟨v, e1, e2⟩ := rp.sl 0 (.v (.ref f)) rfl
      have e2' : v = .ref f := e2
      rw [← e2']
      exact e1
    have ec : H1 c' = some (CodeO c' q) := rp.ext.hh c' _ hc (fun v => by
      rcases ok.tk.vol v with ⟨z, e⟩ | ⟨z, e⟩ <;> rw [hc] at e <;> cases e) (fun _ z => by cases z)
    have l1 : σ1.length = Ng.length := by
      rw [rp.len, hm]
      simp
    refine ⟨fun cls d H' => d = none ∧ ∃ C nm G', cls = .ref C ∧ Res C nm ∧ Ext tw G H G' H' ∧ Qd (.d (.tuple [.str nm])), fun cls d σ' H' hE => ?_, e0, ec, htl G1 H1 rp.ext _ fun z v G' H' hz hv hx => ?_⟩
    · obtain ⟨rfl, C, nm, G', rfl, hres, hx, hqd⟩ := hE
      refine ⟨true, hRes C nm hres, fun _ hl => ⟨rfl, fun b nb => ?_⟩, fun z => nomatch z⟩
      have hl' : σ'.length = Ng.length := hl
      have xp := hx.ok.putH (o := RX.ExR (.ref C) b) nb
      have x2 := hx.trans xp
      have gb : G' b = none := by
        cases z : G' b with
        | none => rfl
        | some u => rw [hx.gh b u z] at nb; cases nb
      have frb : Fr tw H b := hx.free (fr_none hx.tk nb)
      refine ⟨tw, G, H, G', [none, some (.ow (.exc C))] ++ List.replicate (Ng.length - 2) none, { nx := fun _ => False, rt := Qd }, fun _ => False, ⟨⟨x2, ?_, fun i s hs => ?_, fun i j s1 s2 a1 hi' hj' _ _ _ _ => ?_⟩, fun _ _ _ z => z.elim, etw⟩, r2 C nm Qd hres hqd, ⟨fun _ _ _ _ z => z.elim, fun _ _ _ _ z => z.elim, fun _ _ _ _ z => z.elim, fun s v G2 H2 q1 q2 q3 => fin s v G2 H2 q1 q2 q3⟩⟩
      · rw [List.length_set, List.length_set, List.length_set, hl', hm]
        simp
      · have e1 : i = 1 ∧ s = .ow (.exc C) := by
          match i with
          | 0 => cases hs
          | 1 => cases hs; exact ⟨rfl, rfl⟩
          | i + 2 =>
            have hs' : (List.replicate (Ng.length - 2) (none : Option SV))[i]? = some (some s) := hs
            rw [List.getElem?_replicate] at hs'
            split at hs' <;> cases hs'
        obtain ⟨rfl, rfl⟩ := e1
        refine ⟨.ref b, ?_, b, _, rfl, upd_same, gb, frb, frb.1, rfl⟩
        rw [List.getElem?_set_ne (by decide), List.getElem?_set_self (by rw [List.length_set, hl']; omega)]
      · have e1 : ∀ {i : Nat} {s : SV}, ([none, some (SV.ow (.exc C))] ++ List.replicate (Ng.length - 2) none)[i]? = some (some s) → i = 1 := fun {i s} hs => by
          match i with
          | 0 => cases hs
          | 1 => rfl
          | i + 2 =>
            have hs' : (List.replicate (Ng.length - 2) (none : Option SV))[i]? = some (some s) := hs
            rw [List.getElem?_replicate] at hs'
            split at hs' <;> cases hs'
        rw [e1 hi', e1 hj']
    · have x1 : Ext tw G H G' H' := hx
      refine ⟨tw, G, H, G', [none, some (.d .none), some (.d z)] ++ List.replicate (Ng.length - 3) none, { nx := fun _ => False, rt := Qd }, fun _ => False, ⟨⟨x1, ?_, fun i s hs => ?_, fun i j s1 s2 a1 hi' hj' m1 _ _ _ => ?_⟩, fun _ _ _ z => z.elim, etw⟩, r1 z Qd hz, ⟨fun _ _ _ _ z => z.elim, fun _ _ _ _ z => z.elim, fun _ _ _ _ z => z.elim, fun s v G2 H2 q1 q2 q3 => fin s v G2 H2 q1 q2 q3⟩⟩
      · rw [List.length_set, l1, hm]
        simp
      · match i with
        | 0 => cases hs
        | 1 =>
          cases hs
          obtain ⟨w, e1, e2⟩ := rp.sl 1 (.d .none) rfl
          have e2' : WD G1 w .none := e2
          cases e2'
          exact ⟨.non, by rw [List.getElem?_set_ne (by decide)]; exact e1, WD.non⟩
        | 2 =>
          cases hs
          exact ⟨v, List.getElem?_set_self (by rw [l1]; omega), hv⟩
        | i + 3 =>
          have hs' : (List.replicate (Ng.length - 3) (none : Option SV))[i]? = some (some s) := hs
          rw [List.getElem?_replicate] at hs'
          split at hs' <;> cases hs'
      · exfalso
        match i with
        | 0 => cases hi'
        | 1 => cases hi'; exact m1
        | 2 => cases hi'; exact m1
        | i + 3 =>
          have hs' : (List.replicate (Ng.length - 3) (none : Option SV))[i]? = some (some s1) := hi'
          rw [List.getElem?_replicate] at hs'
          split at hs' <;> cases hs'
/-- _law_result(lambda: e) -/
def dRes (Res : ResP) (t : DT) : DT := fun δ Q _ => t (noOwnE δ) (fun s => ∃ z, asD s = some z ∧ Q (.d (.tuple [.str "returns", z]))) (fun cls => ∃ C nm, cls = .ref C ∧ Res C nm ∧ Q (.d (.tuple [.str nm])))
theorem ext_tab {tw : Tw} {G H H1 : Hp} (o : Ok tw G H) (e : ExtN H H1) (t : Tabs tw.tabs H1) : Ext tw G H G H1 := by
  refine ⟨fun _ _ h => h, fun b u h => e b u (o.gh b u h) fun ps z => o.gt b ps (by rw [h, z]), fun b u h _ nt => e b u h nt, ⟨fun t' r' et => ?_, t⟩, o.nv, fun _ _ h => .inl h, o.gt⟩
  obtain ⟨h0, n, rs, h1, h2, h3⟩ := o.tk.town t' r' et
  exact ⟨h0, n, rs, e _ _ h1 (fun _ z => by cases z), e _ _ h2 (fun _ z => by cases z), h3⟩
theorem de_res {E : EK} {Res : ResP} {x a : Str} {g cc P : Addr} {k : Nat} {pg : Arguments} {bg : List Stmt} {sg : Scope} {dV kV doc pm cdv ct oc : Value} {an od : Option Addr} {osl : Array (Option Value)} {Ng : List Str}
    {params : Arguments} {body : Expr} {scope : Scope} {tb : DT} {p lpos pos : Pos} (hg : Gl X x) (hm : X.mg x = some (.ref g)) (hk : PySem.W.keepIn X.K (.ref g) = true)
    (lk : X.K.lookup g = some ⟨oc, od, .func (PySem.W.fnOf x x pg bg sg dV kV doc pm an cdv ct), osl⟩) (hcg : PySem.W.codeIn X.K cdv x = true) (hb : L2.Binds X.K (PySem.W.fnOf x x pg bg sg dV kV doc pm an cdv ct) [a] []) (Sg : FnScope Ng [a] sg) (hNg : Ng[0]? = some a) (hva : Vis sg a)
    (hG : GivesTo X Ng x sg g cdv bg a (X.env.qual ++ "<lambda>") (TTres E.tabs Res))
    (TB : TabB X.base X.mg cc P) (hcode : X.env.code = .ref cc) (hmT : (P, X.env.qual ++ "<lambda>") ∈ E.tabs) (hu : ∀ p ∈ E.tabs, p.1 = P → p.2 = X.env.qual ++ "<lambda>") (hr : Room (k + 2) X.A) (L : LamS X.env.scope scope) (hdef : defaultsOf params X.env = ([], []))
    (hbind : ∀ (q : Str) (cl : List (Str × Addr)) (pm cv ctv : Value), bindArgs (PySem.W.kla_fn "<lambda>" q params body scope cl pm cv ctv) ⟨[], []⟩ = pure [])
    (hbody : ∀ (A : Around) (outer : List PySem.Env) (s : Shared) (H : Hp) (E' : XK) (f c' : Addr), Room k (A.deeper (lamEnv X scope s.heap.objs.size f c')) → PE (lamCx X A outer s H E' scope f c') body (lift ⟨E', E.tabs⟩ tb))
    (hdb : (x == ("__debug__" : Str)) = false := by decide) (hd : (a == ("__debug__" : Str)) = false := by decide) (hcd : (a == ("__classdict__" : Str)) = false := by decide) :
    PE X (.Call (.Name x p) [.Lambda params body scope lpos] [] pos) (lift E (dRes Res tb)) := by
  refine peW (pe_lamcall (T := E.tabs) (TT := TTres E.tabs Res) (t := fun E' => lift ⟨E', E.tabs⟩ tb) hg hm hk lk hcg hb Sg hNg hva hG TB hcode hmT hu hr L hdef hbind hbody hdb hd hcd) ?_
  rintro σ H R ⟨tw, G0, H0, G, δ, Q, Ex, at_, h, q⟩
  refine ⟨by rw [← at_.tb]; exact at_.ok.tk.tabs, fun H1 eN T1 => ?_⟩
  have e1 : Ext tw G H G H1 := ext_tab at_.ok eN (by rw [at_.tb]; exact T1)
  refine ⟨tw, G, Q, at_.tb, e1.ok, fun G2 H2 e2 R' hR => ?_, fun s v G' H' hs r e => q s v G' H' hs (r.ent (at_.rep.ext.trans e1) e1) (e1.trans e)⟩
  have rp := ((at_.rep.go e1).go e2).reroot
  refine ⟨tw, G2, H2, G2, noOwnE δ, _, _, ⟨rp, fun cls G' H' hE x => ?_, at_.tb⟩, h, fun s v G3 H3 ⟨z, ez, hz⟩ r e3 => ?_⟩
  · obtain ⟨C, nm, rfl, hres, hqd⟩ := hE
    exact ⟨rfl, C, nm, G', rfl, hres, e2.trans x, hqd⟩
  · obtain ⟨G4, e4, sm, f⟩ := r.froze e3 (asF_asD ez)
    exact hR z v G4 H3 hz f (e2.trans e4)
end
end DL
/-! DL 15: defs that make lambdas: the code object's address is known. -/
namespace DL
open PySem PySem.Spec PyProof.Rows L2 LamX
structure FunC (K : PySem.W.Frag) (x qual : Str) (st : Stmt) (f : Addr) (fd : FuncData) (cd : Value) : Prop where
  ex : ∃ (oc : Value) (od : Option Addr) (kV doc pm : Value) (an : Option Addr) (ct : Value) (osl : Array (Option Value)),
    fd = PySem.W.fnOf x qual (defArgs st) (defBody st) (defScope st) .none kV doc pm an cd ct ∧ K.lookup f = some ⟨oc, od, .func fd, osl⟩ ∧ PySem.W.codeIn K cd qual = true
  kp : PySem.W.keepIn K (.ref f) = true
section
variable {P : Program} {w : World} {K : PySem.W.Frag} {mg : Str → Option Value} {base : Heap}
theorem FunC.fun {x qual : Str} {st : Stmt} {f : Addr} {fd : FuncData} {cd : Value} (F : FunC K x qual st f fd cd) : Fun K x qual st f fd := by
  obtain ⟨oc, od, kV, doc, pm, an, ct, osl, h1, h2, h3⟩ := F.ex
  exact ⟨⟨oc, od, kV, doc, pm, an, cd, ct, osl, h1, h2, h3⟩, F.kp⟩
theorem FunC.okX {x qual : Str} {st : Stmt} {f : Addr} {fd : FuncData} {cd : Value} {N ps : List Str} {k : Nat} {sp : Sp} (F : FunC K x qual st f fd cd) (S : FnScope N ps (defScope st)) (len : ∀ vs H Q E, sp vs H Q E → vs.length = ps.length)
    (hbody : ∀ (A : Around) (outer : List PySem.Env) (s : Shared) (H : Hp) (vs : List V) (Q : VK) (E : XK), Room k (A.deeper (envOfC qual (defScope st) s.heap.objs.size f cd)) → sp vs H Q E →
      ∃ t, PSs (cxOf (L2.CX P w) P w K mg base N qual (defScope st) f cd A outer s H E) (defBody st) t ∧ t { nx := fun _ H' => Q .non H', rt := Q } (L2.start N vs) H) : FnOk P w K mg base (L2.CX P w) (k + 1) f fd ps sp := by
  obtain ⟨oc, od, kV, doc, pm, an, ct, osl, rfl, lk, hcd⟩ := F.ex
  exact fn_of lk hcd S len fun A outer s H vs Q E hr hsp => hbody A outer s H vs Q E hr hsp
theorem fnDC {cd : Value} {x qual : Str} {st : Stmt} {f : Addr} {fd : FuncData} {N ps : List Str} {k : Nat} {sp : Spec} {t : DS} {T : List (Addr × Str)} (F : FunC K x qual st f fd cd) (S : FnScope N ps (defScope st)) (len : ∀ ss Q Ex, sp ss Q Ex → ss.length = ps.length)
    (hb : ∀ (A : Around) (outer : List PySem.Env) (s : Shared) (H : Hp) (E : XK), Room k (A.deeper (envOfC qual (defScope st) s.heap.objs.size f cd)) → PSs (cxOf (L2.CX P w) P w K mg base N qual (defScope st) f cd A outer s H E) (defBody st) (liftS ⟨E, T⟩ t))
    (hr : ∀ ss Q Ex, sp ss Q Ex → t { nx := fun _ => Q (.d .none), rt := Q } (startD N.length ss) Ex) : FnOk P w K mg base (L2.CX P w) (k + 1) f fd ps (spD T sp) := by
  refine F.okX S (fun vs H Q E h => ?_) (fun A outer s H vs Q E hroom h => ⟨liftS ⟨E, T⟩ t, hb A outer s H E hroom, ?_⟩)
  · obtain ⟨tw, G, ss, Qd, Ed, etb, o, fr, h, _⟩ := h
    rw [fr.length]
    exact len _ _ _ h
  · obtain ⟨tw, G, ss, Qd, Ed, etb, o, fr, h, c1, c2⟩ := h
    refine ⟨tw, G, H, G, _, _, Ed, ⟨rep_start o fr, c2, etb⟩, hr ss Qd Ed h, ⟨?_, fun _ _ _ _ z => z.elim, fun _ _ _ _ z => z.elim, fun s v G' H' q r e => c1 s v G' H' q r e⟩⟩
    exact fun δ G' σ H' q r => c1 _ .non G' H' q (WD.non) r.ext
/-- .. a law that makes lambdas -/
theorem fnLawC {cd : Value} {c : Ct} {tabs : List (Addr × Str)} {x qual y z : Str} {st : Stmt} {rest : List Stmt} {f fb : Addr} {fd fdb : FuncData} {N : List Str} {k : Nat} {t : DS} {p1 p2 p3 p4 : Pos} (hK : K = c.K) (F : FunC K x qual st f fd cd) (S : FnScope N [z] (defScope st))
    (B : FnOk P w K mg base (L2.CX P w) 1 fb fdb [] spBegun) (gB : mg "_law_begun" = some (.ref fb)) (kB : PySem.W.keepIn K (.ref fb) = true) (bB : Binds K fdb [] [])
    (hst : defBody st = .Assign [.Name y p1] (.Call (.Name "_law_begun" p2) [] [] p3) p4 :: rest) (hN : N[1]? = some y)
    (hy : ∀ (A : Around) (outer : List PySem.Env) (s : Shared) (H : Hp) (E : XK), Loc (cxOf (L2.CX P w) P w K mg base N qual (defScope st) f cd A outer s H E).env.scope y ∧ Gl (cxOf (L2.CX P w) P w K mg base N qual (defScope st) f cd A outer s H E) "_law_begun" ∧
      Passes (L2.CX P w) (cxOf (L2.CX P w) P w K mg base N qual (defScope st) f cd A outer s H E) E ∧ ((cxOf (L2.CX P w) P w K mg base N qual (defScope st) f cd A outer s H E).fn y = true ∨ (cxOf (L2.CX P w) P w K mg base N qual (defScope st) f cd A outer s H E).env.scope.names.lookup y = some .local) ∧
      swapsWith (.Call (.Name "_law_begun" p2) [] [] p3) (some (.Name y p1)) p4.line (cxOf (L2.CX P w) P w K mg base N qual (defScope st) f cd A outer s H E).env = pure false)
    (hb : ∀ (A : Around) (outer : List PySem.Env) (s : Shared) (H : Hp) (E : XK), Room (k + 1) (A.deeper (envOfC qual (defScope st) s.heap.objs.size f cd)) → PSs (cxOf (L2.CX P w) P w K mg base N qual (defScope st) f cd A outer s H E) rest (liftS ⟨E, tabs⟩ t))
    (hr : ∀ n, n ≤ 63 → t { nx := fun _ => False, rt := fun s => s = .d (.bool true) } (startD N.length [scr c n, .town]) (fun _ => False)) : FnOk P w K mg base (L2.CX P w) (k + 1 + 1) f fd [z] (spLaw K tabs) := by
  subst hK
  refine F.okX S (fun vs H Q E h => ?_) (fun A outer s H vs Q E hroom h => ?_)
  · obtain ⟨a, ns, rfl, _⟩ := h
    rfl
  · obtain ⟨a, ns, rfl, sq, hl, tb, q⟩ := h
    obtain ⟨y1, y2, y3, y4, y5⟩ := hy A outer s H E
    rw [hst]
    refine ⟨_, pss_cons (ps_set (i := 1) S.nd hN y1 (pe_call0 B (hroom.mono (by omega)) y2 gB kB bB .nil y3) y5 y4) (hb A outer s H E hroom), ?_⟩
    refine ⟨rfl, fun t' r hne nt nr => ?_⟩
    have kp : ∀ b o, H b = some o → begunH H t' r b = some o := fun b o hb => by
      unfold begunH
      rw [upd_ne (ne_of_none hb nt), upd_ne (ne_of_none hb nr), upd_ne (ne_of_none hb nt)]
      exact hb
    have et : begunH H t' r t' = some (.dK [(.inr "count", .int 0), (.inr "rests", .ref r)]) := upd_same
    have er : begunH H t' r r = some (.dK []) := by
      unfold begunH
      rw [upd_ne hne.symm, upd_same]
    have tw0 : TwOk ⟨some (t', r), tabs⟩ (begunH H t' r) := by
      refine ⟨fun t2 r2 e => ?_, tb.ext kp⟩
      cases e
      exact ⟨hne, 0, [], et, er, List.nodup_nil, fun _ z => nomatch z⟩
    have o : Ok ⟨some (t', r), tabs⟩ (noTbl H) (begunH H t' r) := ⟨fun b u hb => kp b u (noTbl_eq.mp hb).1, tw0, fun b hb => by
      rcases hb with ⟨t2, r2, e, z⟩ | ⟨p, hp, rfl⟩
      · cases e
        cases q0 : noTbl H b with
        | none => rfl
        | some u =>
          have := (noTbl_eq.mp q0).1
          rcases z with rfl | rfl
          · rw [nt] at this; cases this
          · rw [nr] at this; cases this
      · obtain ⟨ps, e, _⟩ := tb p hp
        cases q0 : noTbl H p.1 with
        | none => rfl
        | some u =>
          have z := noTbl_eq.mp q0
          rw [e] at z
          exact absurd (Option.some.inj z.1).symm (z.2 ps), fun b ps z => (noTbl_eq.mp z).2 ps rfl⟩
    have fr : FRs ⟨some (t', r), tabs⟩ (noTbl H) [.ref a, .ref t'] [scr c ns.length, .town] := ⟨⟨a, ns, rfl, seq_noTbl sq, rfl⟩, ⟨t', r, rfl, rfl⟩, trivial⟩
    have rs := rep_start (N := N) o fr
    have e : (L2.start N [.ref a]).set 1 (some (.ref t')) = L2.start N [.ref a, .ref t'] := by
      have hN2 : 1 < N.length := (List.getElem?_eq_some_iff.mp hN).1
      unfold L2.start
      obtain ⟨m, hm⟩ : ∃ m, N.length = m + 2 := ⟨N.length - 2, by omega⟩
      rw [hm]
      rfl
    show liftS ⟨E, tabs⟩ t _ ((L2.start N [V.ref a]).set 1 (some (V.ref t'))) (begunH H t' r)
    rw [e]
    refine ⟨_, _, _, _, _, _, fun _ => False, ⟨rs, fun _ _ _ z _ => z.elim, rfl⟩, hr ns.length hl, fun _ _ _ _ z _ => z.elim, fun _ _ _ _ z => z.elim, fun _ _ _ _ z => z.elim, fun s v G H2 hs hv _ => ?_⟩
    have hs' : s = .d (.bool true) := hs
    subst hs'
    have hv' : WD G v (.bool true) := hv
    cases hv'
    exact q H2
end
/-! ### what _law_result knows of an error's class -/
/-- the classes that are asked, by name; CS: what the clause catches -/
structure ResF (K : PySem.W.Frag) (CS : Addr) (ds : List (Str × Addr)) (C : Addr) (nm : Str) : Prop where
  ex : PySem.W.exmOne K (.ref C) (.ref CS) = some true
  cl : ExcC K C
  ve : PySem.W.kitOne K (.ref C) (.type "ValueError") = some true
  mem : nm ∈ ds.map (·.1)
  ks : ∀ d ∈ ds, PySem.W.kitOne K (.ref C) (.ref d.2) = some (d.1 == nm)
end DL
/-! DL 16: dicts whose keys are tuples. -/
namespace DL
open PySem PySem.Spec PyProof.Rows L2
def keyTD (k : List Key) : PyData := .tuple (k.map keyD)
def mergeTD (kvs more : List (List Key × PyData)) : List (List Key × PyData) := more.foldl (fun acc kv => putD acc kv.1 kv.2) kvs
theorem WKv.mergeT {G : Hp} : ∀ {more : List (List Key × V)} {mored : List (List Key × PyData)} {ps : List (List Key × V)} {qs : List (List Key × PyData)}, WKv G more mored → WKv G ps qs → WKv G (RX.mergeT ps more) (mergeTD qs mored)
  | [], [], _, _, _, h => h
  | p :: more, q :: mored, ps, qs, hm, h => by
    show WKv G (RX.mergeT (putK ps p.1 p.2) more) (mergeTD (putD qs q.1 q.2) mored)
    refine WKv.mergeT hm.2 ?_
    rw [hm.1.1]
    exact h.put q.1 hm.1.2
  | [], _ :: _, _, _, h, _ => h.elim
  | _ :: _, [], _, _, h, _ => h.elim
theorem WDs.keys {G : Hp} : ∀ {k : List Key} {vs : List V}, WDs G vs (k.map keyD) → vs = k.map kV
  | [], _, h => by cases h; rfl
  | .inl i :: k, _, h => by
    cases h with
    | cons h1 h2 => cases h1; rw [WDs.keys h2]; rfl
  | .inr x :: k, _, h => by
    cases h with
    | cons h1 h2 => cases h1; rw [WDs.keys h2]; rfl
theorem WD.keyT {G : Hp} {k : List Key} {v : V} (h : WD G v (keyTD k)) : ∃ b, v = .ref b ∧ G b = some (.tup (k.map kV)) := by
  cases h with
  | tup h1 h2 h3 => rw [h3.keys] at h1; exact ⟨_, rfl, h1⟩
/-- the pairs of a dict(..) -/
def pairKD (p : List Key × PyData) : PyData := .tuple [keyTD p.1, p.2]
theorem pairs_wd {K : PySem.W.Frag} {G H : Hp} (e : Same G H) : ∀ {ks : List (List Key × PyData)} {vs : List V}, WDs G vs (ks.map pairKD) → ∃ (ps : List Addr) (kvs : List (List Key × V)), vs = ps.map V.ref ∧ Paired (fun p kv => ∃ kb, SqT K H p [.ref kb, kv.2] ∧ H kb = some (.tup (kv.1.map kV))) ps kvs ∧ WKv G kvs ks
  | [], _, h => by cases h; exact ⟨[], [], rfl, .nil, trivial⟩
  | k :: ks, _, h => by
    cases h with
    | cons h1 h2 =>
      obtain ⟨ps, kvs, rfl, h3, h4⟩ := pairs_wd e h2
      cases h1 with
      | @tup a xs _ g1 g2 g3 =>
        cases g3 with
        | cons w1 g4 =>
          cases g4 with
          | @cons v2 _ _ _ w2 g5 =>
            cases g5
            obtain ⟨b, rfl, gb⟩ := w1.keyT
            exact ⟨a :: ps, (k.1, v2) :: kvs, rfl, .cons ⟨b, .of (e _ _ g1), e _ _ gb⟩ h3, ⟨rfl, w2⟩, h4⟩
section
variable {X : Cx} {E : EK} {e1 e2 e : Expr} {t1 t2 te : DT} {pos p apos cpos : Pos} {x : Str}
/-- dict(l), l pairs with tuples as keys -/
def oDictT : SV → (SV → Prop) → Prop := fun s Q => ∃ ks : List (List Key × PyData), asL s = some (ks.map pairKD) ∧ Q (.ow (.dT (mergeTD [] ks)))
theorem one_dictT (hc : X.calm = true) (hu : X.A.units + 65 < cLine) : OneD X (.type "dict") oDictT := by
  refine ⟨_, RX.call_dictT hc hu, fun tw H0 H G1 H1 x vx Q R hx ok hq c => ?_⟩
  obtain ⟨ks, el, hq⟩ := hq
  obtain ⟨a, vs, rfl, e1, w, z⟩ := hx.list ok.gh el
  obtain ⟨ps, kvs, rfl, h3, h4⟩ := pairs_wd (K := X.K) ok.gh w
  refine ⟨a, ps, kvs, rfl, .of e1, h3, fun p hp => ?_⟩
  have gp : G1 p = none := by
    cases q : G1 p with
    | none => rfl
    | some u => rw [ok.gh p u q] at hp; cases hp
  exact c _ _ G1 _ hq ⟨p, _, rfl, upd_same, gp, fr_none ok.tk hp, novol ok.tk hp, _, rfl, WKv.mergeT h4 (G := G1) (ps := []) (qs := []) trivial⟩ (ok.putH hp)
/-- d.get(k), keys tuples -/
def dGetT1 (td ty : DT) : DT := fun δ Q Ex => td δ (fun s => ∃ ks, (s = .ow (.dT ks) ∨ s = .bo (.dT ks)) ∧ ty δ (fun y => ∃ k, y = .d (keyTD k) ∧ Q (.d ((getD ks k).getD .none))) Ex) Ex
theorem de_getT1 (hu : X.A.units + 65 < cLine) (h : PE X e1 (lift E t1)) (h2 : PE X e2 (lift E t2)) (m : M1 X e1 "get" apos e2 cpos) : PE X (.Call (.Attribute e1 "get" apos) [e2] [] cpos) (lift E (dGetT1 t1 t2)) := by
  refine peW (pe_dget1 (by omega) h h2 m) ?_
  rintro σ H R ⟨tw, G0, H0, G, δ, Q, Ex, a, h, q⟩
  refine ⟨tw, G0, H0, G, δ, _, Ex, a, h, fun s v G1 H1 ⟨ks, es, hq⟩ r ex => ?_⟩
  have mine : ∃ b kvs, v = .ref b ∧ H1 b = some (.dT kvs) ∧ ¬ Vol tw b := by
    rcases es with rfl | rfl
    · obtain ⟨b, o, rfl, f2, f3, f4, f5, kvs, rfl, w⟩ := r
      exact ⟨b, kvs, rfl, f2, f5⟩
    · obtain ⟨b, o, rfl, f2, f3, f4, f5, kvs, rfl, w⟩ := r
      exact ⟨b, kvs, rfl, f2, f5⟩
  obtain ⟨b, kvs, rfl, hb, nv⟩ := mine
  refine ⟨b, rfl, .inr ⟨kvs, .inl hb⟩, tw, G0, H0, G1, δ, _, Ex, a.go ex, hq, fun y kv G2 H2 ⟨k, ek, hs⟩ rk ex2 => ?_⟩
  subst ek
  have rk' : WD G2 kv (keyTD k) := rk
  obtain ⟨kb, rfl, gk⟩ := rk'.keyT
  have key : ∃ kvs', H2 b = some (.dT kvs') ∧ WKv G2 kvs' ks := by
    have r2 := r.go ex.tk ex2
    rcases es with rfl | rfl
    · obtain ⟨b', o, eb, f2, f3, f4, f5, kvs', rfl, w⟩ := r2
      cases eb
      exact ⟨kvs', f2, w⟩
    · obtain ⟨b', o, eb, f2, f3, f4, f5, kvs', rfl, w⟩ := r2
      cases eb
      exact ⟨kvs', f2, w⟩
  obtain ⟨kvs', hb2, w⟩ := key
  refine ⟨_, DGet.t hb2 (ex2.gh _ _ gk), ?_⟩
  rcases w.val k with ⟨z1, z2⟩ | ⟨v, d, z1, z2, wd⟩
  · rw [z1]
    rw [z2] at hs
    exact q _ _ G2 H2 hs WD.non (ex.trans ex2)
  · rw [z1]
    rw [z2] at hs
    exact q _ _ G2 H2 hs wd (ex.trans ex2)
end
/-! ### k in d, k not in d -/
section
variable {X : Cx}
theorem op_dNotIn (hu : X.A.units + 1 < cLine) : OpR X (compareOp .NotIn) (fun y x H Q => ∃ a o, x = .ref a ∧ DGet H a y o ∧ Q (.bl (!o.isSome)) H) := by
  intro pins s σ H y x vy vx Q I ry rx ⟨a, o, ex, g, q⟩
  subst ex
  obtain rfl : vx = Value.ref a := rx
  exact d_notIn hu I g ry fun s3 I3 => ⟨.bl (!o.isSome), H, I3, rfl, q⟩
theorem op_dIn (hu : X.A.units + 1 < cLine) : OpR X (compareOp .In) (fun y x H Q => ∃ a o, x = .ref a ∧ DGet H a y o ∧ Q (.bl o.isSome) H) := by
  intro pins s σ H y x vy vx Q I ry rx ⟨a, o, ex, g, q⟩
  subst ex
  obtain rfl : vx = Value.ref a := rx
  exact d_in hu I g ry fun s3 I3 => ⟨.bl o.isSome, H, I3, rfl, q⟩
def wInT (g : Bool → Bool) : W2 := fun x y Q => ∃ k ks, x = .d (keyTD k) ∧ (y = .bo (.dT ks) ∨ y = .fo (.dT ks)) ∧ Q (.d (.bool (g (getD ks k).isSome)))
theorem dget_of {tw : Tw} {H0 H G1 H1 : Hp} {k : List Key} {ks : List (List Key × PyData)} {y : SV} {vx vy : V} (hx : VR tw H0 H G1 H1 vx (.d (keyTD k))) (hy : VR tw H0 H G1 H1 vy y) (ok : Ok tw G1 H1) (e : y = .bo (.dT ks) ∨ y = .fo (.dT ks)) : ∃ a o, vy = .ref a ∧ DGet H1 a vx o ∧ o.isSome = (getD ks k).isSome := by
  have hx' : WD G1 vx (keyTD k) := hx
  obtain ⟨kb, rfl, gk⟩ := hx'.keyT
  have key : ∀ {b : Addr} {kvs : List (List Key × V)}, H1 b = some (.dT kvs) → WKv G1 kvs ks → ∃ a o, V.ref b = .ref a ∧ DGet H1 a (.ref kb) o ∧ o.isSome = (getD ks k).isSome := fun {b kvs} hb w => by
    refine ⟨b, valV kvs k, rfl, DGet.t hb (ok.gh _ _ gk), ?_⟩
    rcases w.val k with ⟨z1, z2⟩ | ⟨v, d, z1, z2, wd⟩ <;> rw [z1, z2] <;> rfl
  rcases e with rfl | rfl
  · obtain ⟨b, o, rfl, f2, f3, f4, f5, kvs, rfl, w⟩ := hy
    exact key f2 w
  · obtain ⟨b, o, rfl, f2, kvs, rfl, w⟩ := hy
    exact key (ok.gh _ _ f2) w
theorem od_inT (hu : X.A.units + 65 < cLine) : OpD X (compareOp .In) (wInT fun b => b) := by
  refine ⟨_, op_dIn (by omega), fun tw H0 H G1 H1 x y vx vy Q R hx hy ok hq c => ?_⟩
  obtain ⟨k, ks, rfl, ey, hq⟩ := hq
  obtain ⟨a, o, e1, e2, e3⟩ := dget_of hx hy ok ey
  refine ⟨a, o, e1, e2, ?_⟩
  rw [e3]
  exact c _ _ G1 H1 hq (WD.bl _) ok.refl
theorem od_notInT (hu : X.A.units + 65 < cLine) : OpD X (compareOp .NotIn) (wInT fun b => !b) := by
  refine ⟨_, op_dNotIn (by omega), fun tw H0 H G1 H1 x y vx vy Q R hx hy ok hq c => ?_⟩
  obtain ⟨k, ks, rfl, ey, hq⟩ := hq
  obtain ⟨a, o, e1, e2, e3⟩ := dget_of hx hy ok ey
  refine ⟨a, o, e1, e2, ?_⟩
  rw [e3]
  exact c _ _ G1 H1 hq (WD.bl _) ok.refl
end
end DL
/-! DL 17: two items of a list of one's own are stored at once. -/
namespace DL
open PySem PySem.Spec PyProof.Rows L2
section
variable {X : Cx} {E : EK} {x : Str} {e ei ej : Expr} {te ti tj : DT} {pos p q tp tq pt : Pos} {kk : Nat}
/-- x[a], x[b] = e, e a pair -/
def sItem2 (i : Nat) (ti tj te : DT) : DS := fun De δ Ex => ∃ l, δ[i]? = some (some (.own l)) ∧ te δ (fun s => ∃ d1 d2, s = .d (.tuple [d1, d2]) ∧ ti δ (fun k => ∃ z j, k = .d (.int z) ∧ ixN l.length z = some j ∧
  tj (δ.set i (some (.own (l.set j d1)))) (fun k2 => ∃ z2 j2, k2 = .d (.int z2) ∧ ixN l.length z2 = some j2 ∧ De.nx (δ.set i (some (.own ((l.set j d1).set j2 d2))))) Ex) Ex) Ex
theorem ds_item2 {i : Nat} (hc : X.calm = true) (hN : X.N[i]? = some x) (hv : Vis X.env.scope x) (hi : PE X ei (lift E ti)) (hj : PE X ej (lift E tj)) (he : PE X e (lift E te)) (hd : (x == ("__debug__" : Str)) = false := by decide) (hcd : (x == ("__classdict__" : Str)) = false := by decide)
    (ha : ∀ v, assign (.Subscript (.Name x p) ei tp) X.env v = (do let ov ← holding [v] (eval (.Name x p) X.env); let iv ← holding [v, ov] (eval ei X.env); standAt tp; holding [v, ov, iv] (setItem ov iv v); release [v, ov, iv] []) := by intro _; rfl)
    (ha2 : ∀ v, assign (.Subscript (.Name x q) ej tq) X.env v = (do let ov ← holding [v] (eval (.Name x q) X.env); let iv ← holding [v, ov] (eval ej X.env); standAt tq; holding [v, ov, iv] (setItem ov iv v); release [v, ov, iv] []) := by intro _; rfl)
    (hs : swapsWithSole [.Tuple [.Subscript (.Name x p) ei tp, .Subscript (.Name x q) ej tq] kk pt] e pos.line X.env = pure false := by rfl) (hw : swappedStores [.Tuple [.Subscript (.Name x p) ei tp, .Subscript (.Name x q) ej tq] kk pt] e X.env = pure none := by rfl)
    (h1 : (assignEach [.Tuple [.Subscript (.Name x p) ei tp, .Subscript (.Name x q) ej tq] kk pt] X.env).map (·.2) = [assign (.Tuple [.Subscript (.Name x p) ei tp, .Subscript (.Name x q) ej tq] kk pt) X.env] := by rfl)
    (c1 : (assignEach [.Subscript (.Name x p) ei tp, .Subscript (.Name x q) ej tq] X.env).map (·.2) = assign (.Subscript (.Name x p) ei tp) X.env :: (assignEach [.Subscript (.Name x q) ej tq] X.env).map (·.2) := by rfl)
    (c2 : (assignEach [.Subscript (.Name x q) ej tq] X.env).map (·.2) = assign (.Subscript (.Name x q) ej tq) X.env :: (assignEach [] X.env).map (·.2) := by rfl)
    (hn : (assignEach [.Subscript (.Name x p) ei tp, .Subscript (.Name x q) ej tq] X.env).length = 2 := by rfl) (hst : (assignEach [.Subscript (.Name x p) ei tp, .Subscript (.Name x q) ej tq] X.env).findIdx? (·.1) = none := by rfl) :
    PS X (.Assign [.Tuple [.Subscript (.Name x p) ei tp, .Subscript (.Name x q) ej tq] kk pt] e pos) (liftS E (sItem2 i ti tj te)) := by
  refine psW (ps_asg he (pg_tup (n := 2) hc (pgs_cons (pg_sub (pe_var (i := i) hN hv hd hcd) hi set_list ha) (pgs_cons (pg_sub (pe_var (i := i) hN hv hd hcd) hj set_list ha2) pgs_nil c2) c1) hn hst) hs hw h1) ?_
  rintro D σ H ⟨tw, G0, H0, G, δ, De, Ex, a, ⟨l, hl, h⟩, g⟩
  refine ⟨tw, G0, H0, G, δ, _, Ex, a, h, fun s v G1 H1 ⟨d1, d2, ed, hk⟩ r ex => ?_⟩
  subst ed
  obtain ⟨b, vs, rfl, e2, w, z0⟩ := r.tup
  cases w with
  | @cons v1 _ _ _ w1 w =>
    cases w with
    | @cons v2 _ _ _ w2 w =>
      cases w
      refine ⟨b, [v1, v2], rfl, .of (ex.gh _ _ e2), rfl, v1, [v2], rfl, ?_⟩
      obtain ⟨bl, vl, f1, _⟩ := (a.rep.go ex).mine hl
      refine ⟨.ref bl, f1, tw, G0, H0, G1, δ, _, Ex, a.go ex, hk, fun k kv G3 H3 ⟨z, j, ek, hj', hn'⟩ rk ex3 => ?_⟩
      subst ek
      have ev := rk.int
      subst ev
      obtain ⟨b', vs', g1, g2, g3, g4, g5, g6, wr'⟩ := ((a.rep.go ex).go ex3).mine hl
      rw [f1] at g1
      cases g1
      refine ⟨bl, vs', z, j, rfl, rfl, g2, g5.ixN hj', ?_⟩
      have r3 := wr' _ _ (g5.set (WD.mono ex3.gg _ _ w1) j) (by rw [List.length_set]; exact g6)
      have hil : i < δ.length := lt_of_at hl
      have hl3 : (δ.set i (some (.own (l.set j d1))))[i]? = some (some (.own (l.set j d1))) := List.getElem?_set_self hil
      obtain ⟨b4, vs4, k1, k2, _⟩ := r3.mine hl3
      refine ⟨v2, [], rfl, .ref b4, k1, tw, G0, H0, G3, _, _, Ex, ⟨r3, a.exc, a.tb⟩, hn', fun k2' kv2 G5 H5 ⟨z2, j2, ek2, hj2, hn2⟩ rk2 ex5 => ?_⟩
      subst ek2
      have ev2 := rk2.int
      subst ev2
      obtain ⟨b6, vs6, m1, m2, m3, m4, m5, m6, wr6⟩ := (r3.go ex5).mine hl3
      rw [k1] at m1
      cases m1
      refine ⟨b4, vs6, z2, j2, rfl, rfl, m2, m5.ixN (by rw [List.length_set]; exact hj2), rfl, ?_⟩
      have r7 := wr6 _ _ (m5.set (WD.mono ex5.gg _ _ (WD.mono ex3.gg _ _ w2)) j2) (by rw [List.length_set]; exact m6)
      rw [List.set_set] at r7
      exact g.nx _ G5 σ _ hn2 r7
end
end DL
/-! Fa: values, protocols: readings, specifications. -/
namespace DL
open PySem PySem.Spec PyProof.Rows L2
local macro_rules
  | `(tactic| simp_arith [$xs,*]) => `(tactic| simp only [List.map_cons, List.map_nil, List.length_cons, List.length_nil, List.cons_append, List.nil_append, List.getElem?_cons_zero, List.getElem?_cons_succ, List.set_cons_zero, List.set_cons_succ, Option.map_some, Option.map_none, Option.some.injEq, SV.d.injEq, SV.own.injEq, PyData.int.injEq, PyData.bool.injEq, PyData.tuple.injEq, PyData.list.injEq, PyData.str.injEq, List.cons.injEq, exists_eq_left, exists_eq_left', exists_eq_right, exists_and_left, exists_and_right, exists_const, and_true, true_and, if_true, if_false, reduceCtorEq, false_or, or_false, false_and, and_false, Bool.not_true, Bool.not_false, Bool.false_eq_true, ite_true, ite_false, reduceIte, Bool.true_eq_false, Nat.reduceAdd, nc0, nc1, nc2, nc3, nc4, nc5, nc6, nc7, nc8, Int.reduceBEq, beq_self_eq_true, Bool.and_true, Bool.true_and, Bool.and_false, Bool.false_and, Nat.zero_add, $xs,*])
local macro_rules
  | `(tactic| simp_arith only [$xs,*]) => `(tactic| simp only [sSeq, sNext, sExpr, sRet, sIf, sSet, sSetF, sAsg, sPar, sRaise, sFor, sApp, sExt, sPop, sItem, sAugI, sAug, sFrz, sMove, sBreak, sCont, gN, gT, gsNil, gsCons, dVar, vS_d, vS_own, vS_town, vS_v, vS_scr, fz_scr, dC, dOp, dCall, dCallK, daNil, daCons, dTup, dLst, dSl, doNone, doSome, dIf, dAnd, dOr, dNot, dNeg, dOne, dTwoI, dChain, dLc, bVal, bTru, bScr, dLenS, dIxS, dCount, dRest, sCount, sRest, bNot, bAnd, bOr, bYes, wInt2, wIntC, wAdd, wMul, wIx, wIn, wEqD, wIsN, oLen, oTuple, oList, oAll, oSum, oIsi, iSeq, iRng1D, iRng2D, iEnumD, iZipD, fz_d, fz_own, fz_town, fz_v, fz_abs, asDs, fzB, wipeD, asD_d, asD_own, asD_bor, asL_list, asL_tuple, asL_own, asL_bor, asL_int, asL_bool, asL_none, asS_list, asS_tuple, asS_own, asS_bor, tru_bool, tru_int, tru_none, tru_tuple, tru_list, tru_own, tru_bor, stO_d, stO_own, stO_town, stO_v, stO_abs, rtS_d, rtS_own, rtS_bor, rtS_v, rtS_abs, isN_none, isN_tuple, isN_int, isN_list, isN_bool, List.map_cons, List.map_nil, List.length_cons, List.length_nil, List.cons_append, List.nil_append, List.getElem?_cons_zero, List.getElem?_cons_succ, List.set_cons_zero, List.set_cons_succ, Option.map_some, Option.map_none, Option.some.injEq, SV.d.injEq, SV.own.injEq, PyData.int.injEq, PyData.bool.injEq, PyData.tuple.injEq, PyData.list.injEq, PyData.str.injEq, List.cons.injEq, exists_eq_left, exists_eq_left', exists_eq_right, exists_and_left, exists_and_right, exists_const, and_true, true_and, if_true, if_false, reduceCtorEq, false_or, or_false, false_and, and_false, Bool.not_true, Bool.not_false, Bool.false_eq_true, ite_true, ite_false, reduceIte, Bool.true_eq_false, Nat.reduceAdd, nc0, nc1, nc2, nc3, nc4, nc5, nc6, nc7, nc8, Int.reduceBEq, beq_self_eq_true, Bool.and_true, Bool.true_and, Bool.and_false, Bool.false_and, Nat.zero_add, $xs,*])
/-! ### data -/
theorem sh_int (i : Int) : SeqAt.shaped (.int i) = true := rfl
theorem sh_bool (i : Bool) : SeqAt.shaped (.bool i) = true := rfl
theorem sh_none : SeqAt.shaped .none = true := rfl
theorem lay_ints : ∀ ns : List Int, PyData.canLayAll0 (ns.map .int) = true
  | [] => rfl
  | n :: ns => by
    have := lay_ints ns
    simp [PyData.canLayAll0, PyData.canLay0, this]
theorem dep_ints : ∀ ns : List Int, PyData.depthAll (ns.map .int) = 0
  | [] => rfl
  | n :: ns => by
    have := dep_ints ns
    simp [PyData.depthAll, PyData.depth, this]
theorem eqv_int (i j : Int) : PyData.eqv (.int i) (.int j) = (i == j) := by simp [PyData.eqv]
theorem eqv_bool (i j : Bool) : PyData.eqv (.bool i) (.bool j) = (i == j) := by simp [PyData.eqv]
theorem isi_int (x : PyData) : isiD "int" x = match x with | .int _ => true | .bool _ => true | _ => false := by cases x <;> rfl
theorem isi_bool (x : PyData) : isiD "bool" x = match x with | .bool _ => true | _ => false := by cases x <;> rfl
theorem isi_tuple (x : PyData) : isiD "tuple" x = match x with | .tuple _ => true | _ => false := by cases x <;> rfl
theorem isi_str (x : PyData) : isiD "str" x = match x with | .str _ => true | _ => false := by cases x <;> rfl
theorem map_all {α : Type} (f : α → Bool) (xs : List α) : ((xs.map f).all id) = xs.all f := by
  induction xs with
  | nil => rfl
  | cons x xs ih => simp [ih]
theorem map_any {α : Type} (f : α → Bool) (xs : List α) : ((xs.map f).any id) = xs.any f := by
  induction xs with
  | nil => rfl
  | cons x xs ih => simp [ih]
/-- all([f(x) for x in xs]) -/
theorem all_map {xs : List PyData} (f : PyData → Bool) {Q : SV → Prop} (h : Q (.d (.bool (xs.all f)))) : ∃ bs : List Bool, xs.map (fun x => PyData.bool (f x)) = bs.map .bool ∧ Q (.d (.bool (bs.all id))) :=
  ⟨xs.map f, by simp, by rw [map_all]; exact h⟩
theorem any_map {xs : List PyData} (f : PyData → Bool) {Q : SV → Prop} (h : Q (.d (.bool (xs.any f)))) : ∃ bs : List Bool, xs.map (fun x => PyData.bool (f x)) = bs.map .bool ∧ Q (.d (.bool (bs.any id))) :=
  ⟨xs.map f, by simp, by rw [map_any]; exact h⟩
/-! ### places, cuts -/
theorem six1 (n d : Nat) : HT.sIx n d (some 1) = min 1 n := HT.sIx_nat n d 1
theorem cut_to (ds : List PyData) (k : Nat) : cut ds none (some (k : Int)) = ds.take k := by
  unfold cut
  rw [HT.sIx_none, HT.sIx_nat, Nat.sub_zero, List.drop_zero]
  rw [List.take_eq_take_iff]
  omega
theorem cut_from (ds : List PyData) (k : Nat) : cut ds (some (k : Int)) none = ds.drop k := by
  unfold cut
  rw [HT.sIx_none, HT.sIx_nat]
  by_cases h : k ≤ ds.length
  · rw [Nat.min_eq_left h, List.take_of_length_le (by rw [List.length_drop]; omega)]
  · rw [List.drop_eq_nil_of_le (by omega), List.drop_eq_nil_of_le (by omega), List.take_nil]
theorem cut_from1 (ds : List PyData) : cut ds (some 1) none = ds.drop 1 := cut_from ds 1
theorem cut_to3 (ds : List PyData) : cut ds none (some 3) = ds.take 3 := cut_to ds 3
theorem atI_0 {α : Type} (x : α) (xs : List α) : atI (x :: xs) 0 = some x := by
  have : atI (x :: xs) ((0 : Nat) : Int) = some x := atI_nat rfl
  exact this
theorem bcase (b : Bool) : b = false ∨ b = true := by cases b <;> simp
theorem atI_at {α : Type} (xs : List α) (k : Nat) : atI xs (k : Int) = xs[k]? := by
  cases h : xs[k]? with
  | none =>
    unfold atI ixN
    have : xs.length ≤ k := List.getElem?_eq_none_iff.mp h
    rw [if_pos (by omega), if_neg (by omega)]
    rfl
  | some x => exact atI_nat h
/-! ### is_between .. -/
def isBetween : PyData → Int → Int → Bool
  | .int i, lo, hi => decide (lo ≤ i) && decide (i ≤ hi)
  | _, _, _ => false
def sp_is_between (c : Ct) : Spec := fun ss Q _ => match ss with
  | [.d v, .d (.int lo), .d (.int hi)] => Q (.d (.bool (isBetween v lo hi)))
  | _ => False
def t_is_between (c : Ct) : DS :=
  (sRet (dAnd (dOne (oIsi "int") (dVar 0)) (dAnd (dNot (dOne (oIsi "bool") (dVar 0))) (dChain (wInt2 fun i j => .bool (decide (i ≤ j))) (wInt2 fun i j => .bool (decide (i ≤ j))) (dVar 1) (dVar 0) (dVar 2)))))
theorem rd_is_between (c : Ct) (ss : List SV) (Q : SV → Prop) (Ex : XP) (h : sp_is_between c ss Q Ex) : t_is_between c { nx := fun _ => Q (.d .none), rt := Q } (startD 3 ss) Ex := by
  unfold sp_is_between at h
  split at h
  · rename_i v lo hi
    show t_is_between c _ [some (.d v), some (.d (.int lo)), some (.d (.int hi))] Ex
    cases v <;> simp [t_is_between, sSeq, sNext, sExpr, sRet, sIf, sSet, sSetF, sAsg, sPar, sRaise, sFor, sApp, sExt, sPop, sItem, sAugI, sAug, sFrz, sMove, sBreak, sCont, gN, gT, gsNil, gsCons, dVar, vS_d, vS_own, vS_town, vS_v, vS_scr, fz_scr, dC, dOp, dCall, dCallK, daNil, daCons, dTup, dLst, dSl, doNone, doSome, dIf, dAnd, dOr, dNot, dNeg, dOne, dTwoI, dChain, dLc, bVal, bTru, bScr, dLenS, dIxS, dCount, dRest, sCount, sRest, bNot, bAnd, bOr, bYes, wInt2, wIntC, wAdd, wMul, wIx, wIn, wEqD, wIsN, oLen, oTuple, oList, oAll, oSum, oIsi, iSeq, iRng1D, iRng2D, iEnumD, iZipD, fz_d, fz_own, fz_town, fz_v, fz_abs, asDs, fzB, wipeD, asD_d, asD_own, asD_bor, asL_list, asL_tuple, asL_own, asL_bor, asL_int, asL_bool, asL_none, asS_list, asS_tuple, asS_own, asS_bor, tru_bool, tru_int, tru_none, tru_tuple, tru_list, tru_own, tru_bor, stO_d, stO_own, stO_town, stO_v, stO_abs, rtS_d, rtS_own, rtS_bor, rtS_v, rtS_abs, isN_none, isN_tuple, isN_int, isN_list, isN_bool, isi_int, isi_bool, isBetween] at h ⊢ <;> first | exact h | skip
    rename_i i
    by_cases h1 : lo ≤ i
    · simp [h1] at h ⊢
      exact h
    · simp [h1] at h ⊢
      exact h
  · exact h.elim
theorem at_is_between {c : Ct} {v : PyData} {lo hi : Int} {Q : SV → Prop} {Ex : XP} : sp_is_between c [.d v, .d (.int lo), .d (.int hi)] Q Ex = Q (.d (.bool (isBetween v lo hi))) := rfl
def areBetween : PyData → Int → Int → Bool
  | .tuple xs, lo, hi => xs.all fun x => isBetween x lo hi
  | _, _, _ => false
def sp_are_between (c : Ct) : Spec := fun ss Q _ => match ss with
  | [.d v, .d (.int lo), .d (.int hi)] => Q (.d (.bool (areBetween v lo hi)))
  | _ => False
theorem at_are_between {c : Ct} {v : PyData} {lo hi : Int} {Q : SV → Prop} {Ex : XP} : sp_are_between c [.d v, .d (.int lo), .d (.int hi)] Q Ex = Q (.d (.bool (areBetween v lo hi))) := rfl
def t_are_between (c : Ct) : DS :=
  (sRet (dAnd (dOne (oIsi "tuple") (dVar 0)) (dOne (oAll fun bs => bs.all id) (dLc (iSeq (dVar 0)) (gN 3) bYes (dCall (sp_is_between c) (daCons (dVar 3) (daCons (dVar 1) (daCons (dVar 2) daNil)))) [3]))))
theorem rd_are_between (c : Ct) (ss : List SV) (Q : SV → Prop) (Ex : XP) (h : sp_are_between c ss Q Ex) : t_are_between c { nx := fun _ => Q (.d .none), rt := Q } (startD 4 ss) Ex := by
  unfold sp_are_between at h
  split at h
  · rename_i v lo hi
    show t_are_between c _ [some (.d v), some (.d (.int lo)), some (.d (.int hi)), none] Ex
    cases v <;> simp [t_are_between, sSeq, sNext, sExpr, sRet, sIf, sSet, sSetF, sAsg, sPar, sRaise, sFor, sApp, sExt, sPop, sItem, sAugI, sAug, sFrz, sMove, sBreak, sCont, gN, gT, gsNil, gsCons, dVar, vS_d, vS_own, vS_town, vS_v, vS_scr, fz_scr, dC, dOp, dCall, dCallK, daNil, daCons, dTup, dLst, dSl, doNone, doSome, dIf, dAnd, dOr, dNot, dNeg, dOne, dTwoI, dChain, dLc, bVal, bTru, bScr, dLenS, dIxS, dCount, dRest, sCount, sRest, bNot, bAnd, bOr, bYes, wInt2, wIntC, wAdd, wMul, wIx, wIn, wEqD, wIsN, oLen, oTuple, oList, oAll, oSum, oIsi, iSeq, iRng1D, iRng2D, iEnumD, iZipD, fz_d, fz_own, fz_town, fz_v, fz_abs, asDs, fzB, wipeD, asD_d, asD_own, asD_bor, asL_list, asL_tuple, asL_own, asL_bor, asL_int, asL_bool, asL_none, asS_list, asS_tuple, asS_own, asS_bor, tru_bool, tru_int, tru_none, tru_tuple, tru_list, tru_own, tru_bor, stO_d, stO_own, stO_town, stO_v, stO_abs, rtS_d, rtS_own, rtS_bor, rtS_v, rtS_abs, isN_none, isN_tuple, isN_int, isN_list, isN_bool, isi_tuple, areBetween] at h ⊢ <;> first | exact h | skip
    rename_i xs
    refine lcR_map (fun x => .bool (isBetween x lo hi)) xs (fun x _ k hk => ?_) (all_map _ h)
    simp_arith only [lcT, at_is_between]
    exact hk
  · exact h.elim
/-! ### is_ascending -/
/-- the ints of data -/
def intsOf : List PyData → List Int
  | .int i :: r => i :: intsOf r
  | _ => []
theorem intsOf_map : ∀ ns : List Int, intsOf (ns.map .int) = ns
  | [] => rfl
  | n :: ns => by
    show n :: intsOf (ns.map .int) = n :: ns
    rw [intsOf_map ns]
/-- x < y, of ints and of tuples of ints -/
def ltD : PyData → PyData → Bool
  | .int i, .int j => decide (i < j)
  | .tuple xs, .tuple ys => HT.lexLt (intsOf xs) (intsOf ys)
  | _, _ => false
def isI : PyData → Prop := fun x => ∃ i, x = .int i
def isT : PyData → Prop := fun x => ∃ ns : List Int, x = .tuple (ns.map .int)
def ascL : List PyData → Bool
  | a :: b :: r => ltD a b && ascL (b :: r)
  | _ => true
theorem zips_asc : ∀ xs : List PyData, ((zips xs (xs.drop 1)).all fun p => match p with | .tuple [a, b] => ltD a b | _ => false) = ascL xs
  | [] => rfl
  | [_] => rfl
  | a :: b :: r => by
    have ih := zips_asc (b :: r)
    show (ltD a b && (zips (b :: r) ((b :: r).drop 1)).all _) = (ltD a b && ascL (b :: r))
    rw [ih]
theorem zips_mem : ∀ (xs ys : List PyData) (p : PyData), p ∈ zips xs ys → ∃ a b, p = .tuple [a, b] ∧ a ∈ xs ∧ b ∈ ys
  | [], _, _, h => by simp [zips] at h
  | _ :: _, [], _, h => by simp [zips] at h
  | a :: xs, b :: ys, p, h => by
    unfold zips at h
    rcases List.mem_cons.mp h with rfl | h
    · exact ⟨a, b, rfl, List.mem_cons_self, List.mem_cons_self⟩
    · obtain ⟨x, y, e, h1, h2⟩ := zips_mem xs ys p h
      exact ⟨x, y, e, List.mem_cons_of_mem _ h1, List.mem_cons_of_mem _ h2⟩
def Ords (xs : List PyData) : Prop := (∀ x ∈ xs, isI x) ∨ ∀ x ∈ xs, isT x
theorem ords_ints (ns : List Int) : Ords (ns.map .int) := .inl fun x hx => by
  obtain ⟨i, _, rfl⟩ := List.mem_map.mp hx
  exact ⟨i, rfl⟩
def sp_is_ascending (c : Ct) : Spec := fun ss Q _ => match ss with
  | [.d (.tuple xs)] => Ords xs ∧ Q (.d (.bool (ascL xs)))
  | _ => False
theorem at_is_ascending {c : Ct} {xs : List PyData} {Q : SV → Prop} {Ex : XP} : sp_is_ascending c [.d (.tuple xs)] Q Ex = (Ords xs ∧ Q (.d (.bool (ascL xs)))) := rfl
def t_is_ascending (c : Ct) : DS :=
  (sRet (dOne (oAll fun bs => bs.all id) (dLc (iZipD (dVar 0) (dSl (dVar 0) (doSome (dC (.d (.int 1)))) doNone)) (gT 2 (gsCons (gN 1) (gsCons (gN 2) gsNil))) bYes (dOp wLt (dVar 1) (dVar 2)) [1, 2])))
theorem wLt_lt {a b : PyData} {xs : List PyData} (h : Ords xs) (ha : a ∈ xs) (hb : b ∈ xs) {Q : SV → Prop} (q : Q (.d (.bool (ltD a b)))) : wLt (.d a) (.d b) Q := by
  rcases h with h | h
  · obtain ⟨i, rfl⟩ := h a ha
    obtain ⟨j, rfl⟩ := h b hb
    exact q
  · obtain ⟨ns, rfl⟩ := h a ha
    obtain ⟨ms, rfl⟩ := h b hb
    refine ⟨ns, ms, rfl, rfl, ?_⟩
    have e : ltD (.tuple (ns.map .int)) (.tuple (ms.map .int)) = HT.lexLt ns ms := by
      show HT.lexLt (intsOf (ns.map .int)) (intsOf (ms.map .int)) = _
      rw [intsOf_map, intsOf_map]
    rw [e] at q
    exact q
theorem rd_is_ascending (c : Ct) (ss : List SV) (Q : SV → Prop) (Ex : XP) (h : sp_is_ascending c ss Q Ex) : t_is_ascending c { nx := fun _ => Q (.d .none), rt := Q } (startD 3 ss) Ex := by
  unfold sp_is_ascending at h
  split at h
  · rename_i xs
    obtain ⟨ho, h⟩ := h
    show t_is_ascending c _ [some (.d (.tuple xs)), none, none] Ex
    simp_arith only [t_is_ascending, cut_from1]
    refine lcR_map (fun p => .bool (match p with | .tuple [a, b] => ltD a b | _ => false)) _ (fun p hp k hk => ?_) (all_map _ ?_)
    · obtain ⟨a, b, rfl, ha, hb⟩ := zips_mem _ _ _ hp
      simp_arith only [lcT]
      refine wLt_lt ho ha (List.mem_of_mem_drop hb) ?_
      exact ⟨_, rfl, hk⟩
    · rw [zips_asc]
      exact h
  · exact h.elim
/-! ### is_rule, is_protocol -/
def isRule (many : Int) : PyData → Bool
  | .tuple [s, t, n, bars, eff] => areBetween (.tuple [s, t, n]) 0 (many - 1) && (areBetween bars 1 (many - 1) && (match bars with | .tuple bs => ascL bs && !(bs.any fun z => PyData.eqv z n) | _ => false)) &&
      (areBetween eff 0 (many - 1) && (match eff with | .tuple es => decide ((es.length : Int) = many) && (match es with | e :: _ => PyData.eqv e (.int 0) | [] => false) | _ => false))
  | _ => false
def sp_is_rule (c : Ct) : Spec := fun ss Q _ => match ss with
  | [.d (.int many), .d v] => 2 ≤ many ∧ Q (.d (.bool (isRule many v)))
  | _ => False
theorem at_is_rule {c : Ct} {v : PyData} {many : Int} {Q : SV → Prop} {Ex : XP} : sp_is_rule c [.d (.int many), .d v] Q Ex = (2 ≤ many ∧ Q (.d (.bool (isRule many v)))) := rfl
def t_is_rule (c : Ct) : DS :=
  (sSeq (sIf (bOr (bNot (bTru (dOne (oIsi "tuple") (dVar 1)))) (bOr (bVal (dOp (wEqD fun b => !b) (dOne oLen (dVar 1)) (dC (.d (.int 5))))) (bNot (bTru (dCall (sp_are_between c) (daCons (dSl (dVar 1) doNone (doSome (dC (.d (.int 3))))) (daCons (dC (.d (.int 0))) (daCons (dOp (wInt2 fun i j => .int (i - j)) (dVar 0) (dC (.d (.int 1)))) daNil)))))))) (sRet (dC (.d (.bool false)))) sNext)
  (sSeq (sAsg (dVar 1) (gT 5 (gsCons (gN 2) (gsCons (gN 3) (gsCons (gN 4) (gsCons (gN 5) (gsCons (gN 6) gsNil)))))))
  (sSeq (sIf (bOr (bNot (bTru (dCall (sp_are_between c) (daCons (dVar 5) (daCons (dC (.d (.int 1))) (daCons (dOp (wInt2 fun i j => .int (i - j)) (dVar 0) (dC (.d (.int 1)))) daNil)))))) (bOr (bNot (bTru (dCall (sp_is_ascending c) (daCons (dVar 5) daNil)))) (bVal (dOp (wIn fun b => b) (dVar 4) (dVar 5))))) (sRet (dC (.d (.bool false)))) sNext)
  (sRet (dAnd (dCall (sp_are_between c) (daCons (dVar 6) (daCons (dC (.d (.int 0))) (daCons (dOp (wInt2 fun i j => .int (i - j)) (dVar 0) (dC (.d (.int 1)))) daNil)))) (dAnd (dOp (wEqD fun b => b) (dOne oLen (dVar 6)) (dVar 0)) (dOp (wEqD fun b => b) (dOp wIx (dVar 6) (dC (.d (.int 0)))) (dC (.d (.int 0))))))))))
theorem btw_int {x : PyData} {lo hi : Int} (h : isBetween x lo hi = true) : ∃ i, x = .int i ∧ lo ≤ i ∧ i ≤ hi := by
  cases x with
  | int i =>
    simp [isBetween] at h
    exact ⟨i, rfl, h⟩
  | none => simp [isBetween] at h
  | bool _ => simp [isBetween] at h
  | str _ => simp [isBetween] at h
  | list _ => simp [isBetween] at h
  | tuple _ => simp [isBetween] at h
  | dict _ => simp [isBetween] at h
theorem btw_ints {lo hi : Int} : ∀ {xs : List PyData}, (xs.all fun x => isBetween x lo hi) = true → ∃ ns : List Int, xs = ns.map .int ∧ ∀ n ∈ ns, lo ≤ n ∧ n ≤ hi
  | [], _ => ⟨[], rfl, fun _ z => nomatch z⟩
  | x :: xs, h => by
    rw [List.all_cons, Bool.and_eq_true] at h
    obtain ⟨i, rfl, h1⟩ := btw_int h.1
    obtain ⟨ns, rfl, h2⟩ := btw_ints h.2
    refine ⟨i :: ns, rfl, fun n hn => ?_⟩
    rcases List.mem_cons.mp hn with rfl | hn
    · exact h1
    · exact h2 n hn
theorem are_ints {x : PyData} {lo hi : Int} (h : areBetween x lo hi = true) : ∃ ns : List Int, x = .tuple (ns.map .int) ∧ ∀ n ∈ ns, lo ≤ n ∧ n ≤ hi := by
  cases x with
  | tuple xs =>
    obtain ⟨ns, rfl, h2⟩ := btw_ints h
    exact ⟨ns, rfl, h2⟩
  | none => cases h
  | bool _ => cases h
  | int _ => cases h
  | str _ => cases h
  | list _ => cases h
  | dict _ => cases h
theorem rd_is_rule (c : Ct) (ss : List SV) (Q : SV → Prop) (Ex : XP) (h : sp_is_rule c ss Q Ex) : t_is_rule c { nx := fun _ => Q (.d .none), rt := Q } (startD 7 ss) Ex := by
  unfold sp_is_rule at h
  split at h
  · rename_i many v
    obtain ⟨hm, h⟩ := h
    show t_is_rule c _ [some (.d (.int many)), some (.d v), none, none, none, none, none] Ex
    cases v with
    | tuple xs =>
      by_cases hl : xs.length = 5
      · obtain ⟨s, t, n, bars, eff, rfl⟩ : ∃ s t n bars eff, xs = [s, t, n, bars, eff] := by
          match xs, hl with
          | [s, t, n, bars, eff], _ => exact ⟨s, t, n, bars, eff, rfl⟩
        simp_arith only [t_is_rule, isi_tuple, sh_int, eqv_int, cut_to3, List.take, at_are_between]
        unfold isRule at h
        rcases bcase (areBetween (.tuple [s, t, n]) 0 (many - 1)) with h1 | h1
        · simp only [h1, List.map_cons, List.map_nil, List.length_cons, List.length_nil, List.cons_append, List.nil_append, List.getElem?_cons_zero, List.getElem?_cons_succ, List.set_cons_zero, List.set_cons_succ, Option.map_some, Option.map_none, Option.some.injEq, SV.d.injEq, SV.own.injEq, PyData.int.injEq, PyData.bool.injEq, PyData.tuple.injEq, PyData.list.injEq, PyData.str.injEq, List.cons.injEq, exists_eq_left, exists_eq_left', exists_eq_right, exists_and_left, exists_and_right, exists_const, and_true, true_and, if_true, if_false, reduceCtorEq, false_or, or_false, false_and, and_false, Bool.not_true, Bool.not_false, Bool.false_eq_true, ite_true, ite_false, reduceIte, Bool.true_eq_false, Nat.reduceAdd, nc0, nc1, nc2, nc3, nc4, nc5, nc6, nc7, nc8, Int.reduceBEq, beq_self_eq_true, Bool.and_true, Bool.true_and, Bool.and_false, Bool.false_and, Nat.zero_add] at h ⊢
          exact h
        ·
          cases h2 : areBetween bars 1 (many - 1) with
          | false =>
            simp only [h1, h2, List.map_cons, List.map_nil, List.length_cons, List.length_nil, List.cons_append, List.nil_append, List.getElem?_cons_zero, List.getElem?_cons_succ, List.set_cons_zero, List.set_cons_succ, Option.map_some, Option.map_none, Option.some.injEq, SV.d.injEq, SV.own.injEq, PyData.int.injEq, PyData.bool.injEq, PyData.tuple.injEq, PyData.list.injEq, PyData.str.injEq, List.cons.injEq, exists_eq_left, exists_eq_left', exists_eq_right, exists_and_left, exists_and_right, exists_const, and_true, true_and, if_true, if_false, reduceCtorEq, false_or, or_false, false_and, and_false, Bool.not_true, Bool.not_false, Bool.false_eq_true, ite_true, ite_false, reduceIte, Bool.true_eq_false, Nat.reduceAdd, nc0, nc1, nc2, nc3, nc4, nc5, nc6, nc7, nc8, Int.reduceBEq, beq_self_eq_true, Bool.and_true, Bool.true_and, Bool.and_false, Bool.false_and, Nat.zero_add] at h ⊢
            exact h
          | true =>
            obtain ⟨bs, rfl, hb⟩ := are_ints h2
            obtain ⟨ks, ek, hk⟩ := are_ints h1
            have en : ∃ i, n = .int i := by
              match ks, ek with
              | [_, _, k], e =>
                simp at e
                exact ⟨k, e.2.2⟩
            obtain ⟨i, rfl⟩ := en
            simp only [h1, h2, List.map_cons, List.map_nil, List.length_cons, List.length_nil, List.cons_append, List.nil_append, List.getElem?_cons_zero, List.getElem?_cons_succ, List.set_cons_zero, List.set_cons_succ, Option.map_some, Option.map_none, Option.some.injEq, SV.d.injEq, SV.own.injEq, PyData.int.injEq, PyData.bool.injEq, PyData.tuple.injEq, PyData.list.injEq, PyData.str.injEq, List.cons.injEq, exists_eq_left, exists_eq_left', exists_eq_right, exists_and_left, exists_and_right, exists_const, and_true, true_and, if_true, if_false, reduceCtorEq, false_or, or_false, false_and, and_false, Bool.not_true, Bool.not_false, Bool.false_eq_true, ite_true, ite_false, reduceIte, Bool.true_eq_false, Nat.reduceAdd, nc0, nc1, nc2, nc3, nc4, nc5, nc6, nc7, nc8, Int.reduceBEq, beq_self_eq_true, Bool.and_true, Bool.true_and, Bool.and_false, Bool.false_and, Nat.zero_add, at_is_ascending, sSeq, sNext, sExpr, sRet, sIf, sSet, sSetF, sAsg, sPar, sRaise, sFor, sApp, sExt, sPop, sItem, sAugI, sAug, sFrz, sMove, sBreak, sCont, gN, gT, gsNil, gsCons, dVar, vS_d, vS_own, vS_town, vS_v, vS_scr, fz_scr, dC, dOp, dCall, dCallK, daNil, daCons, dTup, dLst, dSl, doNone, doSome, dIf, dAnd, dOr, dNot, dNeg, dOne, dTwoI, dChain, dLc, bVal, bTru, bScr, dLenS, dIxS, dCount, dRest, sCount, sRest, bNot, bAnd, bOr, bYes, wInt2, wIntC, wAdd, wMul, wIx, wIn, wEqD, wIsN, oLen, oTuple, oList, oAll, oSum, oIsi, iSeq, iRng1D, iRng2D, iEnumD, iZipD, fz_d, fz_own, fz_town, fz_v, fz_abs, asDs, fzB, wipeD, asD_d, asD_own, asD_bor, asL_list, asL_tuple, asL_own, asL_bor, asL_int, asL_bool, asL_none, asS_list, asS_tuple, asS_own, asS_bor, tru_bool, tru_int, tru_none, tru_tuple, tru_list, tru_own, tru_bor, stO_d, stO_own, stO_town, stO_v, stO_abs, rtS_d, rtS_own, rtS_bor, rtS_v, rtS_abs, isN_none, isN_tuple, isN_int, isN_list, isN_bool, ords_ints, sh_int, lay_ints] at h ⊢
            cases h3 : ascL (bs.map .int) with
            | false =>
              simp only [h3, List.map_cons, List.map_nil, List.length_cons, List.length_nil, List.cons_append, List.nil_append, List.getElem?_cons_zero, List.getElem?_cons_succ, List.set_cons_zero, List.set_cons_succ, Option.map_some, Option.map_none, Option.some.injEq, SV.d.injEq, SV.own.injEq, PyData.int.injEq, PyData.bool.injEq, PyData.tuple.injEq, PyData.list.injEq, PyData.str.injEq, List.cons.injEq, exists_eq_left, exists_eq_left', exists_eq_right, exists_and_left, exists_and_right, exists_const, and_true, true_and, if_true, if_false, reduceCtorEq, false_or, or_false, false_and, and_false, Bool.not_true, Bool.not_false, Bool.false_eq_true, ite_true, ite_false, reduceIte, Bool.true_eq_false, Nat.reduceAdd, nc0, nc1, nc2, nc3, nc4, nc5, nc6, nc7, nc8, Int.reduceBEq, beq_self_eq_true, Bool.and_true, Bool.true_and, Bool.and_false, Bool.false_and, Nat.zero_add] at h ⊢
              exact h
            | true =>
              cases h4 : (List.map PyData.int bs).any fun z => z.eqv (PyData.int i) with
              | true =>
                simp only [h3, h4, List.map_cons, List.map_nil, List.length_cons, List.length_nil, List.cons_append, List.nil_append, List.getElem?_cons_zero, List.getElem?_cons_succ, List.set_cons_zero, List.set_cons_succ, Option.map_some, Option.map_none, Option.some.injEq, SV.d.injEq, SV.own.injEq, PyData.int.injEq, PyData.bool.injEq, PyData.tuple.injEq, PyData.list.injEq, PyData.str.injEq, List.cons.injEq, exists_eq_left, exists_eq_left', exists_eq_right, exists_and_left, exists_and_right, exists_const, and_true, true_and, if_true, if_false, reduceCtorEq, false_or, or_false, false_and, and_false, Bool.not_true, Bool.not_false, Bool.false_eq_true, ite_true, ite_false, reduceIte, Bool.true_eq_false, Nat.reduceAdd, nc0, nc1, nc2, nc3, nc4, nc5, nc6, nc7, nc8, Int.reduceBEq, beq_self_eq_true, Bool.and_true, Bool.true_and, Bool.and_false, Bool.false_and, Nat.zero_add] at h ⊢
                exact h
              | false =>
                simp only [h3, h4, List.map_cons, List.map_nil, List.length_cons, List.length_nil, List.cons_append, List.nil_append, List.getElem?_cons_zero, List.getElem?_cons_succ, List.set_cons_zero, List.set_cons_succ, Option.map_some, Option.map_none, Option.some.injEq, SV.d.injEq, SV.own.injEq, PyData.int.injEq, PyData.bool.injEq, PyData.tuple.injEq, PyData.list.injEq, PyData.str.injEq, List.cons.injEq, exists_eq_left, exists_eq_left', exists_eq_right, exists_and_left, exists_and_right, exists_const, and_true, true_and, if_true, if_false, reduceCtorEq, false_or, or_false, false_and, and_false, Bool.not_true, Bool.not_false, Bool.false_eq_true, ite_true, ite_false, reduceIte, Bool.true_eq_false, Nat.reduceAdd, nc0, nc1, nc2, nc3, nc4, nc5, nc6, nc7, nc8, Int.reduceBEq, beq_self_eq_true, Bool.and_true, Bool.true_and, Bool.and_false, Bool.false_and, Nat.zero_add] at h ⊢
                cases h5 : areBetween eff 0 (many - 1) with
                | false =>
                  simp only [h5, List.map_cons, List.map_nil, List.length_cons, List.length_nil, List.cons_append, List.nil_append, List.getElem?_cons_zero, List.getElem?_cons_succ, List.set_cons_zero, List.set_cons_succ, Option.map_some, Option.map_none, Option.some.injEq, SV.d.injEq, SV.own.injEq, PyData.int.injEq, PyData.bool.injEq, PyData.tuple.injEq, PyData.list.injEq, PyData.str.injEq, List.cons.injEq, exists_eq_left, exists_eq_left', exists_eq_right, exists_and_left, exists_and_right, exists_const, and_true, true_and, if_true, if_false, reduceCtorEq, false_or, or_false, false_and, and_false, Bool.not_true, Bool.not_false, Bool.false_eq_true, ite_true, ite_false, reduceIte, Bool.true_eq_false, Nat.reduceAdd, nc0, nc1, nc2, nc3, nc4, nc5, nc6, nc7, nc8, Int.reduceBEq, beq_self_eq_true, Bool.and_true, Bool.true_and, Bool.and_false, Bool.false_and, Nat.zero_add] at h ⊢
                  exact h
                | true =>
                  obtain ⟨es, rfl, he⟩ := are_ints h5
                  simp only [h5, List.map_cons, List.map_nil, List.length_cons, List.length_nil, List.cons_append, List.nil_append, List.getElem?_cons_zero, List.getElem?_cons_succ, List.set_cons_zero, List.set_cons_succ, Option.map_some, Option.map_none, Option.some.injEq, SV.d.injEq, SV.own.injEq, PyData.int.injEq, PyData.bool.injEq, PyData.tuple.injEq, PyData.list.injEq, PyData.str.injEq, List.cons.injEq, exists_eq_left, exists_eq_left', exists_eq_right, exists_and_left, exists_and_right, exists_const, and_true, true_and, if_true, if_false, reduceCtorEq, false_or, or_false, false_and, and_false, Bool.not_true, Bool.not_false, Bool.false_eq_true, ite_true, ite_false, reduceIte, Bool.true_eq_false, Nat.reduceAdd, nc0, nc1, nc2, nc3, nc4, nc5, nc6, nc7, nc8, Int.reduceBEq, beq_self_eq_true, Bool.and_true, Bool.true_and, Bool.and_false, Bool.false_and, Nat.zero_add, sSeq, sNext, sExpr, sRet, sIf, sSet, sSetF, sAsg, sPar, sRaise, sFor, sApp, sExt, sPop, sItem, sAugI, sAug, sFrz, sMove, sBreak, sCont, gN, gT, gsNil, gsCons, dVar, vS_d, vS_own, vS_town, vS_v, vS_scr, fz_scr, dC, dOp, dCall, dCallK, daNil, daCons, dTup, dLst, dSl, doNone, doSome, dIf, dAnd, dOr, dNot, dNeg, dOne, dTwoI, dChain, dLc, bVal, bTru, bScr, dLenS, dIxS, dCount, dRest, sCount, sRest, bNot, bAnd, bOr, bYes, wInt2, wIntC, wAdd, wMul, wIx, wIn, wEqD, wIsN, oLen, oTuple, oList, oAll, oSum, oIsi, iSeq, iRng1D, iRng2D, iEnumD, iZipD, fz_d, fz_own, fz_town, fz_v, fz_abs, asDs, fzB, wipeD, asD_d, asD_own, asD_bor, asL_list, asL_tuple, asL_own, asL_bor, asL_int, asL_bool, asL_none, asS_list, asS_tuple, asS_own, asS_bor, tru_bool, tru_int, tru_none, tru_tuple, tru_list, tru_own, tru_bor, stO_d, stO_own, stO_town, stO_v, stO_abs, rtS_d, rtS_own, rtS_bor, rtS_v, rtS_abs, isN_none, isN_tuple, isN_int, isN_list, isN_bool] at h ⊢
                  by_cases h6 : ((es.length : Nat) : Int) = many
                  · cases es with
                    | nil =>
                      simp at h6
                      omega
                    | cons e0 er =>
                      have h6' : ((er.length + 1 : Nat) : Int) = many := h6
                      simp only [List.map_cons, List.map_nil, List.length_cons, List.length_nil, List.cons_append, List.nil_append, List.getElem?_cons_zero, List.getElem?_cons_succ, List.set_cons_zero, List.set_cons_succ, Option.map_some, Option.map_none, Option.some.injEq, SV.d.injEq, SV.own.injEq, PyData.int.injEq, PyData.bool.injEq, PyData.tuple.injEq, PyData.list.injEq, PyData.str.injEq, List.cons.injEq, exists_eq_left, exists_eq_left', exists_eq_right, exists_and_left, exists_and_right, exists_const, and_true, true_and, if_true, if_false, reduceCtorEq, false_or, or_false, false_and, and_false, Bool.not_true, Bool.not_false, Bool.false_eq_true, ite_true, ite_false, reduceIte, Bool.true_eq_false, Nat.reduceAdd, nc0, nc1, nc2, nc3, nc4, nc5, nc6, nc7, nc8, Int.reduceBEq, beq_self_eq_true, Bool.and_true, Bool.true_and, Bool.and_false, Bool.false_and, Nat.zero_add, List.length_map, h6', h6, decide_true, atI_0, sh_int] at h ⊢
                      exact h
                  · have h7 : (((es.length : Nat) : Int) == many) = false := beq_eq_false_iff_ne.mpr h6
                    simp only [List.map_cons, List.map_nil, List.length_cons, List.length_nil, List.cons_append, List.nil_append, List.getElem?_cons_zero, List.getElem?_cons_succ, List.set_cons_zero, List.set_cons_succ, Option.map_some, Option.map_none, Option.some.injEq, SV.d.injEq, SV.own.injEq, PyData.int.injEq, PyData.bool.injEq, PyData.tuple.injEq, PyData.list.injEq, PyData.str.injEq, List.cons.injEq, exists_eq_left, exists_eq_left', exists_eq_right, exists_and_left, exists_and_right, exists_const, and_true, true_and, if_true, if_false, reduceCtorEq, false_or, or_false, false_and, and_false, Bool.not_true, Bool.not_false, Bool.false_eq_true, ite_true, ite_false, reduceIte, Bool.true_eq_false, Nat.reduceAdd, nc0, nc1, nc2, nc3, nc4, nc5, nc6, nc7, nc8, Int.reduceBEq, beq_self_eq_true, Bool.and_true, Bool.true_and, Bool.and_false, Bool.false_and, Nat.zero_add, List.length_map, h7, h6, decide_false] at h ⊢
                    exact h
      · have hf : isRule many (.tuple xs) = false := by
          unfold isRule
          split
          · rename_i s t n bars eff
            cases ‹_ = _›
            exact absurd rfl hl
          · rfl
        have h7 : (((xs.length : Nat) : Int) == 5) = false := beq_eq_false_iff_ne.mpr (by omega)
        rw [hf] at h
        simp_arith only [t_is_rule, isi_tuple, sh_int, eqv_int, h7]
        exact h
    | none => simp_arith only [t_is_rule, isi_tuple]; exact h
    | bool _ => simp_arith only [t_is_rule, isi_tuple]; exact h
    | int _ => simp_arith only [t_is_rule, isi_tuple]; exact h
    | str _ => simp_arith only [t_is_rule, isi_tuple]; exact h
    | list _ => simp_arith only [t_is_rule, isi_tuple]; exact h
    | dict _ => simp_arith only [t_is_rule, isi_tuple]; exact h
  · exact h.elim
/-! ### is_protocol -/
def isProtocol : PyData → Bool
  | .tuple [many, .tuple rules] => (match many with | .int m => decide (2 ≤ m) && decide (m ≤ 5) && (decide (rules.length ≤ 8) && rules.all (isRule m)) | _ => false)
  | _ => false
def sp_is_protocol (c : Ct) : Spec := fun ss Q _ => match ss with
  | [.d v] => Q (.d (.bool (isProtocol v)))
  | _ => False
theorem at_is_protocol {c : Ct} {v : PyData} {Q : SV → Prop} {Ex : XP} : sp_is_protocol c [.d v] Q Ex = Q (.d (.bool (isProtocol v))) := rfl
def t_is_protocol (c : Ct) : DS :=
  (sSeq (sIf (bOr (bNot (bTru (dOne (oIsi "tuple") (dVar 0)))) (bOr (bVal (dOp (wEqD fun b => !b) (dOne oLen (dVar 0)) (dC (.d (.int 2))))) (bNot (bTru (dCall (sp_is_between c) (daCons (dOp wIx (dVar 0) (dC (.d (.int 0)))) (daCons (dC (.d (.int 2))) (daCons (dC (.d (.int 5))) daNil)))))))) (sRet (dC (.d (.bool false)))) sNext)
  (sSeq (sAsg (dVar 0) (gT 2 (gsCons (gN 1) (gsCons (gN 2) gsNil))))
  (sRet (dAnd (dOne (oIsi "tuple") (dVar 2)) (dAnd (dOp (wInt2 fun i j => .bool (decide (i ≤ j))) (dOne oLen (dVar 2)) (dC (.d (.int 8)))) (dOne (oAll fun bs => bs.all id) (dLc (iSeq (dVar 2)) (gN 3) bYes (dCall (sp_is_rule c) (daCons (dVar 1) (daCons (dVar 3) daNil))) [3])))))))
theorem ltle {n : Nat} : decide ((n : Int) ≤ 8) = decide (n ≤ 8) := by
  by_cases h : n ≤ 8
  · rw [decide_eq_true h, decide_eq_true (by omega)]
  · rw [decide_eq_false h, decide_eq_false (by omega)]
theorem rd_is_protocol (c : Ct) (ss : List SV) (Q : SV → Prop) (Ex : XP) (h : sp_is_protocol c ss Q Ex) : t_is_protocol c { nx := fun _ => Q (.d .none), rt := Q } (startD 4 ss) Ex := by
  unfold sp_is_protocol at h
  split at h
  · rename_i v
    show t_is_protocol c _ [some (.d v), none, none, none] Ex
    cases v with
    | tuple xs =>
      by_cases hl : xs.length = 2
      · obtain ⟨m, r, rfl⟩ : ∃ m r, xs = [m, r] := by
          match xs, hl with
          | [m, r], _ => exact ⟨m, r, rfl⟩
        simp_arith only [t_is_protocol, isi_tuple, sh_int, eqv_int, atI_0, at_is_between]
        cases h1 : isBetween m 2 5 with
        | false =>
          have hf : isProtocol (.tuple [m, r]) = false := by
            unfold isProtocol
            split
            · rename_i many rules e
              cases e
              split
              · rename_i k
                simp only [isBetween] at h1
                simp only [h1, Bool.false_and]
              · rfl
            · rfl
          rw [hf] at h
          simp_arith [h1]
          exact h
        | true =>
          obtain ⟨i, rfl, hi1, hi2⟩ := btw_int h1
          simp_arith [h1]
          cases r with
          | tuple rules =>
            simp only [isProtocol, hi1, hi2, decide_true, List.map_cons, List.map_nil, List.length_cons, List.length_nil, List.cons_append, List.nil_append, List.getElem?_cons_zero, List.getElem?_cons_succ, List.set_cons_zero, List.set_cons_succ, Option.map_some, Option.map_none, Option.some.injEq, SV.d.injEq, SV.own.injEq, PyData.int.injEq, PyData.bool.injEq, PyData.tuple.injEq, PyData.list.injEq, PyData.str.injEq, List.cons.injEq, exists_eq_left, exists_eq_left', exists_eq_right, exists_and_left, exists_and_right, exists_const, and_true, true_and, if_true, if_false, reduceCtorEq, false_or, or_false, false_and, and_false, Bool.not_true, Bool.not_false, Bool.false_eq_true, ite_true, ite_false, reduceIte, Bool.true_eq_false, Nat.reduceAdd, nc0, nc1, nc2, nc3, nc4, nc5, nc6, nc7, nc8, Int.reduceBEq, beq_self_eq_true, Bool.and_true, Bool.true_and, Bool.and_false, Bool.false_and, Nat.zero_add] at h
            simp_arith only [ltle]
            by_cases h8 : rules.length ≤ 8
            · simp only [h8, decide_true, List.map_cons, List.map_nil, List.length_cons, List.length_nil, List.cons_append, List.nil_append, List.getElem?_cons_zero, List.getElem?_cons_succ, List.set_cons_zero, List.set_cons_succ, Option.map_some, Option.map_none, Option.some.injEq, SV.d.injEq, SV.own.injEq, PyData.int.injEq, PyData.bool.injEq, PyData.tuple.injEq, PyData.list.injEq, PyData.str.injEq, List.cons.injEq, exists_eq_left, exists_eq_left', exists_eq_right, exists_and_left, exists_and_right, exists_const, and_true, true_and, if_true, if_false, reduceCtorEq, false_or, or_false, false_and, and_false, Bool.not_true, Bool.not_false, Bool.false_eq_true, ite_true, ite_false, reduceIte, Bool.true_eq_false, Nat.reduceAdd, nc0, nc1, nc2, nc3, nc4, nc5, nc6, nc7, nc8, Int.reduceBEq, beq_self_eq_true, Bool.and_true, Bool.true_and, Bool.and_false, Bool.false_and, Nat.zero_add] at h ⊢
              refine lcR_map (fun x => .bool (isRule i x)) rules (fun x _ k hk => ?_) (all_map _ h)
              simp_arith only [lcT, at_is_rule]
              exact ⟨by omega, hk⟩
            · simp only [h8, decide_false, List.map_cons, List.map_nil, List.length_cons, List.length_nil, List.cons_append, List.nil_append, List.getElem?_cons_zero, List.getElem?_cons_succ, List.set_cons_zero, List.set_cons_succ, Option.map_some, Option.map_none, Option.some.injEq, SV.d.injEq, SV.own.injEq, PyData.int.injEq, PyData.bool.injEq, PyData.tuple.injEq, PyData.list.injEq, PyData.str.injEq, List.cons.injEq, exists_eq_left, exists_eq_left', exists_eq_right, exists_and_left, exists_and_right, exists_const, and_true, true_and, if_true, if_false, reduceCtorEq, false_or, or_false, false_and, and_false, Bool.not_true, Bool.not_false, Bool.false_eq_true, ite_true, ite_false, reduceIte, Bool.true_eq_false, Nat.reduceAdd, nc0, nc1, nc2, nc3, nc4, nc5, nc6, nc7, nc8, Int.reduceBEq, beq_self_eq_true, Bool.and_true, Bool.true_and, Bool.and_false, Bool.false_and, Nat.zero_add] at h ⊢
              exact h
          | none => simp_arith only []; exact h
          | bool _ => simp_arith only []; exact h
          | int _ => simp_arith only []; exact h
          | str _ => simp_arith only []; exact h
          | list _ => simp_arith only []; exact h
          | dict _ => simp_arith only []; exact h
      · have hf : isProtocol (.tuple xs) = false := by
          unfold isProtocol
          split
          · rename_i m r e
            cases e
            exact absurd rfl hl
          · rfl
        have h7 : (((xs.length : Nat) : Int) == 2) = false := beq_eq_false_iff_ne.mpr (by omega)
        rw [hf] at h
        simp_arith only [t_is_protocol, isi_tuple, sh_int, eqv_int, h7]
        exact h
    | none => simp_arith only [t_is_protocol, isi_tuple]; exact h
    | bool _ => simp_arith only [t_is_protocol, isi_tuple]; exact h
    | int _ => simp_arith only [t_is_protocol, isi_tuple]; exact h
    | str _ => simp_arith only [t_is_protocol, isi_tuple]; exact h
    | list _ => simp_arith only [t_is_protocol, isi_tuple]; exact h
    | dict _ => simp_arith only [t_is_protocol, isi_tuple]; exact h
  · exact h.elim
def xInvalid (c : Ct) (n : String) : Value := .ref (c.cls n)
def sp_check_protocol (c : Ct) : Spec := fun ss Q Ex => match ss with
  | [.d v] => if isProtocol v = true then Q (.d .none) else Ex (.ref (c.cls "InvalidProtocol"))
  | _ => False
theorem at_check_protocol {c : Ct} {v : PyData} {Q : SV → Prop} {Ex : XP} : sp_check_protocol c [.d v] Q Ex = if isProtocol v = true then Q (.d .none) else Ex (.ref (c.cls "InvalidProtocol")) := rfl
def t_check_protocol (c : Ct) : DS :=
  (sIf (bNot (bTru (dCall (sp_is_protocol c) (daCons (dVar 0) daNil)))) (sRaise (.ref (c.cls "InvalidProtocol"))) sNext)
theorem rd_check_protocol (c : Ct) (ss : List SV) (Q : SV → Prop) (Ex : XP) (h : sp_check_protocol c ss Q Ex) : t_check_protocol c { nx := fun _ => Q (.d .none), rt := Q } (startD 1 ss) Ex := by
  unfold sp_check_protocol at h
  split at h
  · rename_i v
    show t_check_protocol c _ [some (.d v)] Ex
    simp_arith only [t_check_protocol, at_is_protocol]
    cases e : isProtocol v <;> simp only [e, List.map_cons, List.map_nil, List.length_cons, List.length_nil, List.cons_append, List.nil_append, List.getElem?_cons_zero, List.getElem?_cons_succ, List.set_cons_zero, List.set_cons_succ, Option.map_some, Option.map_none, Option.some.injEq, SV.d.injEq, SV.own.injEq, PyData.int.injEq, PyData.bool.injEq, PyData.tuple.injEq, PyData.list.injEq, PyData.str.injEq, List.cons.injEq, exists_eq_left, exists_eq_left', exists_eq_right, exists_and_left, exists_and_right, exists_const, and_true, true_and, if_true, if_false, reduceCtorEq, false_or, or_false, false_and, and_false, Bool.not_true, Bool.not_false, Bool.false_eq_true, ite_true, ite_false, reduceIte, Bool.true_eq_false, Nat.reduceAdd, nc0, nc1, nc2, nc3, nc4, nc5, nc6, nc7, nc8, Int.reduceBEq, beq_self_eq_true, Bool.and_true, Bool.true_and, Bool.and_false, Bool.false_and, Nat.zero_add] at h ⊢ <;> exact h
  · exact h.elim
/-! ### counts -/
def isCount : PyData → Bool
  | .int i => decide (0 ≤ i)
  | _ => false
def sp_is_count (c : Ct) : Spec := fun ss Q _ => match ss with
  | [.d v] => Q (.d (.bool (isCount v)))
  | _ => False
theorem at_is_count {c : Ct} {v : PyData} {Q : SV → Prop} {Ex : XP} : sp_is_count c [.d v] Q Ex = Q (.d (.bool (isCount v))) := rfl
def t_is_count (c : Ct) : DS :=
  (sRet (dAnd (dOne (oIsi "int") (dVar 0)) (dAnd (dNot (dOne (oIsi "bool") (dVar 0))) (dOp (wInt2 fun i j => .bool (decide (j ≤ i))) (dVar 0) (dC (.d (.int 0)))))))
theorem rd_is_count (c : Ct) (ss : List SV) (Q : SV → Prop) (Ex : XP) (h : sp_is_count c ss Q Ex) : t_is_count c { nx := fun _ => Q (.d .none), rt := Q } (startD 1 ss) Ex := by
  unfold sp_is_count at h
  split at h
  · rename_i v
    show t_is_count c _ [some (.d v)] Ex
    cases v <;> simp_arith only [t_is_count, isi_int, isi_bool] <;> exact h
  · exact h.elim
/-- a tuple with a count for each state -/
def areCounts (many : Int) : PyData → Bool
  | .tuple xs => decide ((xs.length : Int) = many) && xs.all isCount
  | _ => false
/-- the first item of a protocol's tuple -/
def sp_are_counts (c : Ct) : Spec := fun ss Q _ => match ss with
  | [.d (.tuple (.int many :: _)), .d v] => Q (.d (.bool (areCounts many v)))
  | _ => False
theorem at_are_counts {c : Ct} {v : PyData} {many : Int} {r : List PyData} {Q : SV → Prop} {Ex : XP} : sp_are_counts c [.d (.tuple (.int many :: r)), .d v] Q Ex = Q (.d (.bool (areCounts many v))) := rfl
def t_are_counts (c : Ct) : DS :=
  (sRet (dAnd (dOne (oIsi "tuple") (dVar 1)) (dAnd (dOp (wEqD fun b => b) (dOne oLen (dVar 1)) (dOp wIx (dVar 0) (dC (.d (.int 0))))) (dOne (oAll fun bs => bs.all id) (dLc (iSeq (dVar 1)) (gN 2) bYes (dCall (sp_is_count c) (daCons (dVar 2) daNil)) [2])))))
theorem rd_are_counts (c : Ct) (ss : List SV) (Q : SV → Prop) (Ex : XP) (h : sp_are_counts c ss Q Ex) : t_are_counts c { nx := fun _ => Q (.d .none), rt := Q } (startD 3 ss) Ex := by
  unfold sp_are_counts at h
  split at h
  · rename_i many r v
    show t_are_counts c _ [some (.d (.tuple (.int many :: r))), some (.d v), none] Ex
    cases v with
    | tuple xs =>
      simp_arith only [t_are_counts, isi_tuple, sh_int, eqv_int, atI_0]
      unfold areCounts at h
      by_cases h6 : ((xs.length : Nat) : Int) = many
      · simp only [h6, decide_true, List.map_cons, List.map_nil, List.length_cons, List.length_nil, List.cons_append, List.nil_append, List.getElem?_cons_zero, List.getElem?_cons_succ, List.set_cons_zero, List.set_cons_succ, Option.map_some, Option.map_none, Option.some.injEq, SV.d.injEq, SV.own.injEq, PyData.int.injEq, PyData.bool.injEq, PyData.tuple.injEq, PyData.list.injEq, PyData.str.injEq, List.cons.injEq, exists_eq_left, exists_eq_left', exists_eq_right, exists_and_left, exists_and_right, exists_const, and_true, true_and, if_true, if_false, reduceCtorEq, false_or, or_false, false_and, and_false, Bool.not_true, Bool.not_false, Bool.false_eq_true, ite_true, ite_false, reduceIte, Bool.true_eq_false, Nat.reduceAdd, nc0, nc1, nc2, nc3, nc4, nc5, nc6, nc7, nc8, Int.reduceBEq, beq_self_eq_true, Bool.and_true, Bool.true_and, Bool.and_false, Bool.false_and, Nat.zero_add] at h ⊢
        refine lcR_map (fun x => .bool (isCount x)) xs (fun x _ k hk => ?_) (all_map _ h)
        simp_arith only [lcT, at_is_count]
        exact hk
      · have h7 : (((xs.length : Nat) : Int) == many) = false := beq_eq_false_iff_ne.mpr h6
        simp only [h6, h7, decide_false, List.map_cons, List.map_nil, List.length_cons, List.length_nil, List.cons_append, List.nil_append, List.getElem?_cons_zero, List.getElem?_cons_succ, List.set_cons_zero, List.set_cons_succ, Option.map_some, Option.map_none, Option.some.injEq, SV.d.injEq, SV.own.injEq, PyData.int.injEq, PyData.bool.injEq, PyData.tuple.injEq, PyData.list.injEq, PyData.str.injEq, List.cons.injEq, exists_eq_left, exists_eq_left', exists_eq_right, exists_and_left, exists_and_right, exists_const, and_true, true_and, if_true, if_false, reduceCtorEq, false_or, or_false, false_and, and_false, Bool.not_true, Bool.not_false, Bool.false_eq_true, ite_true, ite_false, reduceIte, Bool.true_eq_false, Nat.reduceAdd, nc0, nc1, nc2, nc3, nc4, nc5, nc6, nc7, nc8, Int.reduceBEq, beq_self_eq_true, Bool.and_true, Bool.true_and, Bool.and_false, Bool.false_and, Nat.zero_add] at h ⊢
        exact h
    | none => simp_arith only [t_are_counts, isi_tuple]; exact h
    | bool _ => simp_arith only [t_are_counts, isi_tuple]; exact h
    | int _ => simp_arith only [t_are_counts, isi_tuple]; exact h
    | str _ => simp_arith only [t_are_counts, isi_tuple]; exact h
    | list _ => simp_arith only [t_are_counts, isi_tuple]; exact h
    | dict _ => simp_arith only [t_are_counts, isi_tuple]; exact h
  · exact h.elim
theorem counts_ints {many : Int} {v : PyData} (h : areCounts many v = true) : ∃ ns : List Nat, v = .tuple (ns.map fun n : Nat => .int (n : Int)) ∧ (ns.length : Int) = many := by
  cases v with
  | tuple xs =>
    unfold areCounts at h
    rw [Bool.and_eq_true, decide_eq_true_eq] at h
    obtain ⟨h1, h2⟩ := h
    have key : ∀ xs : List PyData, xs.all isCount = true → ∃ ns : List Nat, xs = ns.map fun n : Nat => .int (n : Int) := by
      intro xs
      induction xs with
      | nil => exact fun _ => ⟨[], rfl⟩
      | cons x xs ih =>
        intro h
        rw [List.all_cons, Bool.and_eq_true] at h
        obtain ⟨ns, rfl⟩ := ih h.2
        cases x with
        | int i =>
          have hi : 0 ≤ i := of_decide_eq_true h.1
          refine ⟨i.toNat :: ns, ?_⟩
          rw [List.map_cons, Int.toNat_of_nonneg hi]
        | none => cases h.1
        | bool _ => cases h.1
        | str _ => cases h.1
        | list _ => cases h.1
        | tuple _ => cases h.1
        | dict _ => cases h.1
    obtain ⟨ns, rfl⟩ := key xs h2
    exact ⟨ns, rfl, by rw [List.length_map] at h1; exact h1⟩
  | none => cases h
  | bool _ => cases h
  | int _ => cases h
  | str _ => cases h
  | list _ => cases h
  | dict _ => cases h
theorem nats_ints (ns : List Nat) : (ns.map fun n : Nat => PyData.int (n : Int)) = (ns.map fun n : Nat => (n : Int)).map .int := by simp
theorem nats_sum (ns : List Nat) : (ns.map fun n : Nat => (n : Int)).sum = (ns.sum : Int) := by
  induction ns with
  | nil => rfl
  | cons n ns ih => rw [List.map_cons, List.sum_cons, List.sum_cons, ih, Int.natCast_add]
/-- the sum of the ints of a tuple -/
def sumD : PyData → Int
  | .tuple xs => (intsOf xs).sum
  | _ => 0
def isConf (many : Int) (v : PyData) : Bool := areCounts many v && (decide (1 ≤ sumD v) && decide (sumD v ≤ 8))
def sp_is_configuration_of (c : Ct) : Spec := fun ss Q _ => match ss with
  | [.d (.tuple (.int many :: _)), .d v] => Q (.d (.bool (isConf many v)))
  | _ => False
theorem at_is_configuration_of {c : Ct} {v : PyData} {many : Int} {r : List PyData} {Q : SV → Prop} {Ex : XP} : sp_is_configuration_of c [.d (.tuple (.int many :: r)), .d v] Q Ex = Q (.d (.bool (isConf many v))) := rfl
def t_is_configuration_of (c : Ct) : DS :=
  (sRet (dAnd (dCall (sp_are_counts c) (daCons (dVar 0) (daCons (dVar 1) daNil))) (dChain (wInt2 fun i j => .bool (decide (i ≤ j))) (wInt2 fun i j => .bool (decide (i ≤ j))) (dC (.d (.int 1))) (dOne oSum (dVar 1)) (dC (.d (.int 8))))))
theorem sumD_ints (ns : List Int) : sumD (.tuple (ns.map .int)) = ns.sum := by
  show (intsOf (ns.map .int)).sum = _
  rw [intsOf_map]
theorem rd_is_configuration_of (c : Ct) (ss : List SV) (Q : SV → Prop) (Ex : XP) (h : sp_is_configuration_of c ss Q Ex) : t_is_configuration_of c { nx := fun _ => Q (.d .none), rt := Q } (startD 2 ss) Ex := by
  unfold sp_is_configuration_of at h
  split at h
  · rename_i many r v
    show t_is_configuration_of c _ [some (.d (.tuple (.int many :: r))), some (.d v)] Ex
    simp_arith only [t_is_configuration_of, at_are_counts]
    unfold isConf at h
    cases h1 : areCounts many v with
    | false =>
      simp only [h1, List.map_cons, List.map_nil, List.length_cons, List.length_nil, List.cons_append, List.nil_append, List.getElem?_cons_zero, List.getElem?_cons_succ, List.set_cons_zero, List.set_cons_succ, Option.map_some, Option.map_none, Option.some.injEq, SV.d.injEq, SV.own.injEq, PyData.int.injEq, PyData.bool.injEq, PyData.tuple.injEq, PyData.list.injEq, PyData.str.injEq, List.cons.injEq, exists_eq_left, exists_eq_left', exists_eq_right, exists_and_left, exists_and_right, exists_const, and_true, true_and, if_true, if_false, reduceCtorEq, false_or, or_false, false_and, and_false, Bool.not_true, Bool.not_false, Bool.false_eq_true, ite_true, ite_false, reduceIte, Bool.true_eq_false, Nat.reduceAdd, nc0, nc1, nc2, nc3, nc4, nc5, nc6, nc7, nc8, Int.reduceBEq, beq_self_eq_true, Bool.and_true, Bool.true_and, Bool.and_false, Bool.false_and, Nat.zero_add] at h ⊢
      exact h
    | true =>
      obtain ⟨ns, rfl, _⟩ := counts_ints h1
      simp only [h1, List.map_cons, List.map_nil, List.length_cons, List.length_nil, List.cons_append, List.nil_append, List.getElem?_cons_zero, List.getElem?_cons_succ, List.set_cons_zero, List.set_cons_succ, Option.map_some, Option.map_none, Option.some.injEq, SV.d.injEq, SV.own.injEq, PyData.int.injEq, PyData.bool.injEq, PyData.tuple.injEq, PyData.list.injEq, PyData.str.injEq, List.cons.injEq, exists_eq_left, exists_eq_left', exists_eq_right, exists_and_left, exists_and_right, exists_const, and_true, true_and, if_true, if_false, reduceCtorEq, false_or, or_false, false_and, and_false, Bool.not_true, Bool.not_false, Bool.false_eq_true, ite_true, ite_false, reduceIte, Bool.true_eq_false, Nat.reduceAdd, nc0, nc1, nc2, nc3, nc4, nc5, nc6, nc7, nc8, Int.reduceBEq, beq_self_eq_true, Bool.and_true, Bool.true_and, Bool.and_false, Bool.false_and, Nat.zero_add] at h ⊢
      rw [nats_ints] at h ⊢
      rw [sumD_ints] at h
      simp_arith only []
      refine ⟨_, rfl, ?_⟩
      by_cases h2 : 1 ≤ (ns.map fun n : Nat => (n : Int)).sum
      · simp only [h2, decide_true, List.map_cons, List.map_nil, List.length_cons, List.length_nil, List.cons_append, List.nil_append, List.getElem?_cons_zero, List.getElem?_cons_succ, List.set_cons_zero, List.set_cons_succ, Option.map_some, Option.map_none, Option.some.injEq, SV.d.injEq, SV.own.injEq, PyData.int.injEq, PyData.bool.injEq, PyData.tuple.injEq, PyData.list.injEq, PyData.str.injEq, List.cons.injEq, exists_eq_left, exists_eq_left', exists_eq_right, exists_and_left, exists_and_right, exists_const, and_true, true_and, if_true, if_false, reduceCtorEq, false_or, or_false, false_and, and_false, Bool.not_true, Bool.not_false, Bool.false_eq_true, ite_true, ite_false, reduceIte, Bool.true_eq_false, Nat.reduceAdd, nc0, nc1, nc2, nc3, nc4, nc5, nc6, nc7, nc8, Int.reduceBEq, beq_self_eq_true, Bool.and_true, Bool.true_and, Bool.and_false, Bool.false_and, Nat.zero_add] at h ⊢
        exact h
      · simp only [h2, decide_false, List.map_cons, List.map_nil, List.length_cons, List.length_nil, List.cons_append, List.nil_append, List.getElem?_cons_zero, List.getElem?_cons_succ, List.set_cons_zero, List.set_cons_succ, Option.map_some, Option.map_none, Option.some.injEq, SV.d.injEq, SV.own.injEq, PyData.int.injEq, PyData.bool.injEq, PyData.tuple.injEq, PyData.list.injEq, PyData.str.injEq, List.cons.injEq, exists_eq_left, exists_eq_left', exists_eq_right, exists_and_left, exists_and_right, exists_const, and_true, true_and, if_true, if_false, reduceCtorEq, false_or, or_false, false_and, and_false, Bool.not_true, Bool.not_false, Bool.false_eq_true, ite_true, ite_false, reduceIte, Bool.true_eq_false, Nat.reduceAdd, nc0, nc1, nc2, nc3, nc4, nc5, nc6, nc7, nc8, Int.reduceBEq, beq_self_eq_true, Bool.and_true, Bool.true_and, Bool.and_false, Bool.false_and, Nat.zero_add] at h ⊢
        exact h
  · exact h.elim
end DL
/-! Fb: configurations, patterns, logs: readings, specifications. -/
namespace DL
open PySem PySem.Spec PyProof.Rows L2
local macro_rules
  | `(tactic| simp_arith only [$xs,*]) => `(tactic| simp only [sSeq, sNext, sExpr, sRet, sIf, sSet, sSetF, sAsg, sPar, sRaise, sFor, sApp, sExt, sPop, sItem, sAugI, sAug, sFrz, sMove, sBreak, sCont, gN, gT, gsNil, gsCons, dVar, vS_d, vS_own, vS_town, vS_v, vS_scr, fz_scr, dC, dOp, dCall, dCallK, daNil, daCons, dTup, dLst, dSl, doNone, doSome, dIf, dAnd, dOr, dNot, dNeg, dOne, dTwoI, dChain, dLc, bVal, bTru, bScr, dLenS, dIxS, dCount, dRest, sCount, sRest, bNot, bAnd, bOr, bYes, wInt2, wIntC, wAdd, wMul, wIx, wIn, wEqD, wIsN, oLen, oTuple, oList, oAll, oSum, oIsi, iSeq, iRng1D, iRng2D, iEnumD, iZipD, fz_d, fz_own, fz_town, fz_v, fz_abs, asDs, fzB, wipeD, asD_d, asD_own, asD_bor, asL_list, asL_tuple, asL_own, asL_bor, asL_int, asL_bool, asL_none, asS_list, asS_tuple, asS_own, asS_bor, tru_bool, tru_int, tru_none, tru_tuple, tru_list, tru_own, tru_bor, stO_d, stO_own, stO_town, stO_v, stO_abs, rtS_d, rtS_own, rtS_bor, rtS_v, rtS_abs, isN_none, isN_tuple, isN_int, isN_list, isN_bool, List.map_cons, List.map_nil, List.length_cons, List.length_nil, List.cons_append, List.nil_append, List.getElem?_cons_zero, List.getElem?_cons_succ, List.set_cons_zero, List.set_cons_succ, Option.map_some, Option.map_none, Option.some.injEq, SV.d.injEq, SV.own.injEq, PyData.int.injEq, PyData.bool.injEq, PyData.tuple.injEq, PyData.list.injEq, PyData.str.injEq, List.cons.injEq, exists_eq_left, exists_eq_left', exists_eq_right, exists_and_left, exists_and_right, exists_const, and_true, true_and, if_true, if_false, reduceCtorEq, false_or, or_false, false_and, and_false, Bool.not_true, Bool.not_false, Bool.false_eq_true, ite_true, ite_false, reduceIte, Bool.true_eq_false, Nat.reduceAdd, nc0, nc1, nc2, nc3, nc4, nc5, nc6, nc7, nc8, Int.reduceBEq, beq_self_eq_true, Bool.and_true, Bool.true_and, Bool.and_false, Bool.false_and, Nat.zero_add, $xs,*])
/-- a protocol's data -/
def isP (v : PyData) : Prop := isProtocol v = true
theorem isP_shape {v : PyData} (h : isProtocol v = true) : ∃ many rules, v = .tuple [.int many, .tuple rules] ∧ 2 ≤ many ∧ many ≤ 5 ∧ rules.length ≤ 8 ∧ ∀ r ∈ rules, isRule many r = true := by
  unfold isProtocol at h
  split at h
  · rename_i m rules
    split at h
    · rename_i k
      simp only [Bool.and_eq_true, decide_eq_true_eq, List.all_eq_true] at h
      exact ⟨k, rules, rfl, h.1.1, h.1.2, h.2.1, h.2.2⟩
    · cases h
  · cases h
def sp_is_configuration (c : Ct) : Spec := fun ss Q Ex => match ss with
  | [.d p, .d v] => if isProtocol p = true then Q (.d (.bool (isConf (match p with | .tuple (.int m :: _) => m | _ => 0) v))) else Ex (.ref (c.cls "InvalidProtocol"))
  | _ => False
def t_is_configuration (c : Ct) : DS :=
  (sSeq (sExpr (dCall (sp_check_protocol c) (daCons (dVar 0) daNil)))
  (sRet (dCall (sp_is_configuration_of c) (daCons (dVar 0) (daCons (dVar 1) daNil)))))
theorem rd_is_configuration (c : Ct) (ss : List SV) (Q : SV → Prop) (Ex : XP) (h : sp_is_configuration c ss Q Ex) : t_is_configuration c { nx := fun _ => Q (.d .none), rt := Q } (startD 2 ss) Ex := by
  unfold sp_is_configuration at h
  split at h
  · rename_i p v
    show t_is_configuration c _ [some (.d p), some (.d v)] Ex
    simp_arith only [t_is_configuration, at_check_protocol]
    cases e : isProtocol p with
    | false =>
      simp only [e, List.map_cons, List.map_nil, List.length_cons, List.length_nil, List.cons_append, List.nil_append, List.getElem?_cons_zero, List.getElem?_cons_succ, List.set_cons_zero, List.set_cons_succ, Option.map_some, Option.map_none, Option.some.injEq, SV.d.injEq, SV.own.injEq, PyData.int.injEq, PyData.bool.injEq, PyData.tuple.injEq, PyData.list.injEq, PyData.str.injEq, List.cons.injEq, exists_eq_left, exists_eq_left', exists_eq_right, exists_and_left, exists_and_right, exists_const, and_true, true_and, if_true, if_false, reduceCtorEq, false_or, or_false, false_and, and_false, Bool.not_true, Bool.not_false, Bool.false_eq_true, ite_true, ite_false, reduceIte, Bool.true_eq_false, Nat.reduceAdd, nc0, nc1, nc2, nc3, nc4, nc5, nc6, nc7, nc8, Int.reduceBEq, beq_self_eq_true, Bool.and_true, Bool.true_and, Bool.and_false, Bool.false_and, Nat.zero_add] at h ⊢
      exact h
    | true =>
      obtain ⟨many, rules, rfl, _⟩ := isP_shape e
      simp only [e, List.map_cons, List.map_nil, List.length_cons, List.length_nil, List.cons_append, List.nil_append, List.getElem?_cons_zero, List.getElem?_cons_succ, List.set_cons_zero, List.set_cons_succ, Option.map_some, Option.map_none, Option.some.injEq, SV.d.injEq, SV.own.injEq, PyData.int.injEq, PyData.bool.injEq, PyData.tuple.injEq, PyData.list.injEq, PyData.str.injEq, List.cons.injEq, exists_eq_left, exists_eq_left', exists_eq_right, exists_and_left, exists_and_right, exists_const, and_true, true_and, if_true, if_false, reduceCtorEq, false_or, or_false, false_and, and_false, Bool.not_true, Bool.not_false, Bool.false_eq_true, ite_true, ite_false, reduceIte, Bool.true_eq_false, Nat.reduceAdd, nc0, nc1, nc2, nc3, nc4, nc5, nc6, nc7, nc8, Int.reduceBEq, beq_self_eq_true, Bool.and_true, Bool.true_and, Bool.and_false, Bool.false_and, Nat.zero_add, at_is_configuration_of] at h ⊢
      exact h
  · exact h.elim
theorem at_is_configuration {c : Ct} {many : Int} {r : List PyData} {v : PyData} {Q : SV → Prop} {Ex : XP} (h : isProtocol (.tuple (.int many :: r)) = true) : sp_is_configuration c [.d (.tuple (.int many :: r)), .d v] Q Ex = Q (.d (.bool (isConf many v))) := by
  show (if isProtocol (.tuple (.int many :: r)) = true then _ else _) = _
  rw [if_pos h]
/-! ### patterns -/
def isPat (many : Int) (v : PyData) : Bool := areCounts many v && ((match v with | .tuple (x :: _) => PyData.eqv x (.int 0) | _ => false) && (decide (1 ≤ sumD v) && decide (sumD v ≤ 4)))
def sp_is_pattern_of (c : Ct) : Spec := fun ss Q _ => match ss with
  | [.d (.tuple (.int many :: _)), .d v] => 2 ≤ many ∧ Q (.d (.bool (isPat many v)))
  | _ => False
theorem at_is_pattern_of {c : Ct} {v : PyData} {many : Int} {r : List PyData} {Q : SV → Prop} {Ex : XP} : sp_is_pattern_of c [.d (.tuple (.int many :: r)), .d v] Q Ex = (2 ≤ many ∧ Q (.d (.bool (isPat many v)))) := rfl
def t_is_pattern_of (c : Ct) : DS :=
  (sRet (dAnd (dCall (sp_are_counts c) (daCons (dVar 0) (daCons (dVar 1) daNil))) (dAnd (dOp (wEqD fun b => b) (dOp wIx (dVar 1) (dC (.d (.int 0)))) (dC (.d (.int 0)))) (dChain (wInt2 fun i j => .bool (decide (i ≤ j))) (wInt2 fun i j => .bool (decide (i ≤ j))) (dC (.d (.int 1))) (dOne oSum (dVar 1)) (dC (.d (.int 4)))))))
theorem rd_is_pattern_of (c : Ct) (ss : List SV) (Q : SV → Prop) (Ex : XP) (h : sp_is_pattern_of c ss Q Ex) : t_is_pattern_of c { nx := fun _ => Q (.d .none), rt := Q } (startD 2 ss) Ex := by
  unfold sp_is_pattern_of at h
  split at h
  · rename_i many r v
    obtain ⟨hm, h⟩ := h
    show t_is_pattern_of c _ [some (.d (.tuple (.int many :: r))), some (.d v)] Ex
    simp_arith only [t_is_pattern_of, at_are_counts]
    unfold isPat at h
    cases h1 : areCounts many v with
    | false =>
      simp only [h1, List.map_cons, List.map_nil, List.length_cons, List.length_nil, List.cons_append, List.nil_append, List.getElem?_cons_zero, List.getElem?_cons_succ, List.set_cons_zero, List.set_cons_succ, Option.map_some, Option.map_none, Option.some.injEq, SV.d.injEq, SV.own.injEq, PyData.int.injEq, PyData.bool.injEq, PyData.tuple.injEq, PyData.list.injEq, PyData.str.injEq, List.cons.injEq, exists_eq_left, exists_eq_left', exists_eq_right, exists_and_left, exists_and_right, exists_const, and_true, true_and, if_true, if_false, reduceCtorEq, false_or, or_false, false_and, and_false, Bool.not_true, Bool.not_false, Bool.false_eq_true, ite_true, ite_false, reduceIte, Bool.true_eq_false, Nat.reduceAdd, nc0, nc1, nc2, nc3, nc4, nc5, nc6, nc7, nc8, Int.reduceBEq, beq_self_eq_true, Bool.and_true, Bool.true_and, Bool.and_false, Bool.false_and, Nat.zero_add] at h ⊢
      exact h
    | true =>
      rw [h1] at h
      obtain ⟨ns, rfl, hl⟩ := counts_ints h1
      cases ns with
      | nil =>
        simp at hl
        omega
      | cons n ns =>
        simp only [h1, List.map_cons, List.map_nil, List.length_cons, List.length_nil, List.cons_append, List.nil_append, List.getElem?_cons_zero, List.getElem?_cons_succ, List.set_cons_zero, List.set_cons_succ, Option.map_some, Option.map_none, Option.some.injEq, SV.d.injEq, SV.own.injEq, PyData.int.injEq, PyData.bool.injEq, PyData.tuple.injEq, PyData.list.injEq, PyData.str.injEq, List.cons.injEq, exists_eq_left, exists_eq_left', exists_eq_right, exists_and_left, exists_and_right, exists_const, and_true, true_and, if_true, if_false, reduceCtorEq, false_or, or_false, false_and, and_false, Bool.not_true, Bool.not_false, Bool.false_eq_true, ite_true, ite_false, reduceIte, Bool.true_eq_false, Nat.reduceAdd, nc0, nc1, nc2, nc3, nc4, nc5, nc6, nc7, nc8, Int.reduceBEq, beq_self_eq_true, Bool.and_true, Bool.true_and, Bool.and_false, Bool.false_and, Nat.zero_add, sSeq, sNext, sExpr, sRet, sIf, sSet, sSetF, sAsg, sPar, sRaise, sFor, sApp, sExt, sPop, sItem, sAugI, sAug, sFrz, sMove, sBreak, sCont, gN, gT, gsNil, gsCons, dVar, vS_d, vS_own, vS_town, vS_v, vS_scr, fz_scr, dC, dOp, dCall, dCallK, daNil, daCons, dTup, dLst, dSl, doNone, doSome, dIf, dAnd, dOr, dNot, dNeg, dOne, dTwoI, dChain, dLc, bVal, bTru, bScr, dLenS, dIxS, dCount, dRest, sCount, sRest, bNot, bAnd, bOr, bYes, wInt2, wIntC, wAdd, wMul, wIx, wIn, wEqD, wIsN, oLen, oTuple, oList, oAll, oSum, oIsi, iSeq, iRng1D, iRng2D, iEnumD, iZipD, fz_d, fz_own, fz_town, fz_v, fz_abs, asDs, fzB, wipeD, asD_d, asD_own, asD_bor, asL_list, asL_tuple, asL_own, asL_bor, asL_int, asL_bool, asL_none, asS_list, asS_tuple, asS_own, asS_bor, tru_bool, tru_int, tru_none, tru_tuple, tru_list, tru_own, tru_bor, stO_d, stO_own, stO_town, stO_v, stO_abs, rtS_d, rtS_own, rtS_bor, rtS_v, rtS_abs, isN_none, isN_tuple, isN_int, isN_list, isN_bool, atI_0, sh_int, eqv_int] at h ⊢
        cases h2 : ((n : Int) == 0) with
        | false =>
          simp only [h2, List.map_cons, List.map_nil, List.length_cons, List.length_nil, List.cons_append, List.nil_append, List.getElem?_cons_zero, List.getElem?_cons_succ, List.set_cons_zero, List.set_cons_succ, Option.map_some, Option.map_none, Option.some.injEq, SV.d.injEq, SV.own.injEq, PyData.int.injEq, PyData.bool.injEq, PyData.tuple.injEq, PyData.list.injEq, PyData.str.injEq, List.cons.injEq, exists_eq_left, exists_eq_left', exists_eq_right, exists_and_left, exists_and_right, exists_const, and_true, true_and, if_true, if_false, reduceCtorEq, false_or, or_false, false_and, and_false, Bool.not_true, Bool.not_false, Bool.false_eq_true, ite_true, ite_false, reduceIte, Bool.true_eq_false, Nat.reduceAdd, nc0, nc1, nc2, nc3, nc4, nc5, nc6, nc7, nc8, Int.reduceBEq, beq_self_eq_true, Bool.and_true, Bool.true_and, Bool.and_false, Bool.false_and, Nat.zero_add] at h ⊢
          exact h
        | true =>
          simp only [h2, List.map_cons, List.map_nil, List.length_cons, List.length_nil, List.cons_append, List.nil_append, List.getElem?_cons_zero, List.getElem?_cons_succ, List.set_cons_zero, List.set_cons_succ, Option.map_some, Option.map_none, Option.some.injEq, SV.d.injEq, SV.own.injEq, PyData.int.injEq, PyData.bool.injEq, PyData.tuple.injEq, PyData.list.injEq, PyData.str.injEq, List.cons.injEq, exists_eq_left, exists_eq_left', exists_eq_right, exists_and_left, exists_and_right, exists_const, and_true, true_and, if_true, if_false, reduceCtorEq, false_or, or_false, false_and, and_false, Bool.not_true, Bool.not_false, Bool.false_eq_true, ite_true, ite_false, reduceIte, Bool.true_eq_false, Nat.reduceAdd, nc0, nc1, nc2, nc3, nc4, nc5, nc6, nc7, nc8, Int.reduceBEq, beq_self_eq_true, Bool.and_true, Bool.true_and, Bool.and_false, Bool.false_and, Nat.zero_add] at h ⊢
          have e : PyData.int (n : Int) :: (ns.map fun n : Nat => PyData.int (n : Int)) = ((n :: ns).map fun n : Nat => (n : Int)).map .int := by simp
          rw [e] at h ⊢
          rw [sumD_ints] at h
          refine ⟨_, rfl, ?_⟩
          split
          · rename_i hA
            rw [hA] at h
            exact h
          · rename_i hA
            rw [Bool.eq_false_iff.mpr hA] at h
            exact h
  · exact h.elim
def sp_is_pattern (c : Ct) : Spec := fun ss Q Ex => match ss with
  | [.d p, .d v] => if isProtocol p = true then Q (.d (.bool (isPat (match p with | .tuple (.int m :: _) => m | _ => 0) v))) else Ex (.ref (c.cls "InvalidProtocol"))
  | _ => False
theorem at_is_pattern {c : Ct} {many : Int} {r : List PyData} {v : PyData} {Q : SV → Prop} {Ex : XP} (h : isProtocol (.tuple (.int many :: r)) = true) : sp_is_pattern c [.d (.tuple (.int many :: r)), .d v] Q Ex = Q (.d (.bool (isPat many v))) := by
  show (if isProtocol (.tuple (.int many :: r)) = true then _ else _) = _
  rw [if_pos h]
def t_is_pattern (c : Ct) : DS :=
  (sSeq (sExpr (dCall (sp_check_protocol c) (daCons (dVar 0) daNil)))
  (sRet (dCall (sp_is_pattern_of c) (daCons (dVar 0) (daCons (dVar 1) daNil)))))
theorem rd_is_pattern (c : Ct) (ss : List SV) (Q : SV → Prop) (Ex : XP) (h : sp_is_pattern c ss Q Ex) : t_is_pattern c { nx := fun _ => Q (.d .none), rt := Q } (startD 2 ss) Ex := by
  unfold sp_is_pattern at h
  split at h
  · rename_i p v
    show t_is_pattern c _ [some (.d p), some (.d v)] Ex
    simp_arith only [t_is_pattern, at_check_protocol]
    cases e : isProtocol p with
    | false =>
      simp only [e, List.map_cons, List.map_nil, List.length_cons, List.length_nil, List.cons_append, List.nil_append, List.getElem?_cons_zero, List.getElem?_cons_succ, List.set_cons_zero, List.set_cons_succ, Option.map_some, Option.map_none, Option.some.injEq, SV.d.injEq, SV.own.injEq, PyData.int.injEq, PyData.bool.injEq, PyData.tuple.injEq, PyData.list.injEq, PyData.str.injEq, List.cons.injEq, exists_eq_left, exists_eq_left', exists_eq_right, exists_and_left, exists_and_right, exists_const, and_true, true_and, if_true, if_false, reduceCtorEq, false_or, or_false, false_and, and_false, Bool.not_true, Bool.not_false, Bool.false_eq_true, ite_true, ite_false, reduceIte, Bool.true_eq_false, Nat.reduceAdd, nc0, nc1, nc2, nc3, nc4, nc5, nc6, nc7, nc8, Int.reduceBEq, beq_self_eq_true, Bool.and_true, Bool.true_and, Bool.and_false, Bool.false_and, Nat.zero_add] at h ⊢
      exact h
    | true =>
      obtain ⟨many, rules, rfl, hm, _⟩ := isP_shape e
      simp only [e, List.map_cons, List.map_nil, List.length_cons, List.length_nil, List.cons_append, List.nil_append, List.getElem?_cons_zero, List.getElem?_cons_succ, List.set_cons_zero, List.set_cons_succ, Option.map_some, Option.map_none, Option.some.injEq, SV.d.injEq, SV.own.injEq, PyData.int.injEq, PyData.bool.injEq, PyData.tuple.injEq, PyData.list.injEq, PyData.str.injEq, List.cons.injEq, exists_eq_left, exists_eq_left', exists_eq_right, exists_and_left, exists_and_right, exists_const, and_true, true_and, if_true, if_false, reduceCtorEq, false_or, or_false, false_and, and_false, Bool.not_true, Bool.not_false, Bool.false_eq_true, ite_true, ite_false, reduceIte, Bool.true_eq_false, Nat.reduceAdd, nc0, nc1, nc2, nc3, nc4, nc5, nc6, nc7, nc8, Int.reduceBEq, beq_self_eq_true, Bool.and_true, Bool.true_and, Bool.and_false, Bool.false_and, Nat.zero_add, at_is_pattern_of] at h ⊢
      exact ⟨hm, h⟩
  · exact h.elim
/-! ### logs -/
def isLog (many : Int) : PyData → Bool
  | .tuple xs => decide (1 ≤ xs.length) && decide (xs.length ≤ 6) && (xs.all (isConf many) && xs.all fun x => decide (sumD x = sumD (xs.getD 0 .none)))
  | _ => false
def sp_is_log_of (c : Ct) : Spec := fun ss Q _ => match ss with
  | [.d (.tuple (.int many :: _)), .d v] => Q (.d (.bool (isLog many v)))
  | _ => False
theorem at_is_log_of {c : Ct} {v : PyData} {many : Int} {r : List PyData} {Q : SV → Prop} {Ex : XP} : sp_is_log_of c [.d (.tuple (.int many :: r)), .d v] Q Ex = Q (.d (.bool (isLog many v))) := rfl
theorem conf_ints {many : Int} {v : PyData} (h : isConf many v = true) : ∃ ns : List Nat, v = .tuple (ns.map fun n : Nat => .int (n : Int)) ∧ (ns.length : Int) = many ∧ 1 ≤ ns.sum ∧ ns.sum ≤ 8 := by
  unfold isConf at h
  rw [Bool.and_eq_true, Bool.and_eq_true, decide_eq_true_eq, decide_eq_true_eq] at h
  obtain ⟨ns, rfl, hl⟩ := counts_ints h.1
  have e := h.2
  rw [nats_ints, sumD_ints, nats_sum] at e
  exact ⟨ns, rfl, hl, by omega, by omega⟩
def t_is_log_of (c : Ct) : DS :=
  (sSeq (sIf (bOr (bNot (bTru (dOne (oIsi "tuple") (dVar 1)))) (bNot (bVal (dChain (wInt2 fun i j => .bool (decide (i ≤ j))) (wInt2 fun i j => .bool (decide (i ≤ j))) (dC (.d (.int 1))) (dOne oLen (dVar 1)) (dC (.d (.int 6))))))) (sRet (dC (.d (.bool false)))) sNext)
  (sSeq (sIf (bNot (bTru (dOne (oAll fun bs => bs.all id) (dLc (iSeq (dVar 1)) (gN 2) bYes (dCall (sp_is_configuration_of c) (daCons (dVar 0) (daCons (dVar 2) daNil))) [2])))) (sRet (dC (.d (.bool false)))) sNext)
  (sRet (dOne (oAll fun bs => bs.all id) (dLc (iSeq (dVar 1)) (gN 2) bYes (dOp (wEqD fun b => b) (dOne oSum (dVar 2)) (dOne oSum (dOp wIx (dVar 1) (dC (.d (.int 0)))))) [2])))))
theorem rd_is_log_of (c : Ct) (ss : List SV) (Q : SV → Prop) (Ex : XP) (h : sp_is_log_of c ss Q Ex) : t_is_log_of c { nx := fun _ => Q (.d .none), rt := Q } (startD 3 ss) Ex := by
  unfold sp_is_log_of at h
  split at h
  · rename_i many r v
    show t_is_log_of c _ [some (.d (.tuple (.int many :: r))), some (.d v), none] Ex
    cases v with
    | tuple xs =>
      simp_arith only [t_is_log_of, isi_tuple]
      unfold isLog at h
      by_cases h1 : 1 ≤ xs.length
      · by_cases h2 : xs.length ≤ 6
        · have h1' : (1 : Int) ≤ ((xs.length : Nat) : Int) := by omega
          have h2' : ((xs.length : Nat) : Int) ≤ 6 := by omega
          simp only [h1, h2, h1', h2', decide_true, List.map_cons, List.map_nil, List.length_cons, List.length_nil, List.cons_append, List.nil_append, List.getElem?_cons_zero, List.getElem?_cons_succ, List.set_cons_zero, List.set_cons_succ, Option.map_some, Option.map_none, Option.some.injEq, SV.d.injEq, SV.own.injEq, PyData.int.injEq, PyData.bool.injEq, PyData.tuple.injEq, PyData.list.injEq, PyData.str.injEq, List.cons.injEq, exists_eq_left, exists_eq_left', exists_eq_right, exists_and_left, exists_and_right, exists_const, and_true, true_and, if_true, if_false, reduceCtorEq, false_or, or_false, false_and, and_false, Bool.not_true, Bool.not_false, Bool.false_eq_true, ite_true, ite_false, reduceIte, Bool.true_eq_false, Nat.reduceAdd, nc0, nc1, nc2, nc3, nc4, nc5, nc6, nc7, nc8, Int.reduceBEq, beq_self_eq_true, Bool.and_true, Bool.true_and, Bool.and_false, Bool.false_and, Nat.zero_add] at h ⊢
          refine lcR_map (fun x => .bool (isConf many x)) xs (fun x _ k hk => ?_) ⟨xs.map (isConf many), by simp, ?_⟩
          · simp_arith only [lcT, at_is_configuration_of]
            exact hk
          · rw [map_all]
            cases h3 : xs.all (isConf many) with
            | false =>
              simp only [h3, sSeq, sNext, sExpr, sRet, sIf, sSet, sSetF, sAsg, sPar, sRaise, sFor, sApp, sExt, sPop, sItem, sAugI, sAug, sFrz, sMove, sBreak, sCont, gN, gT, gsNil, gsCons, dVar, vS_d, vS_own, vS_town, vS_v, vS_scr, fz_scr, dC, dOp, dCall, dCallK, daNil, daCons, dTup, dLst, dSl, doNone, doSome, dIf, dAnd, dOr, dNot, dNeg, dOne, dTwoI, dChain, dLc, bVal, bTru, bScr, dLenS, dIxS, dCount, dRest, sCount, sRest, bNot, bAnd, bOr, bYes, wInt2, wIntC, wAdd, wMul, wIx, wIn, wEqD, wIsN, oLen, oTuple, oList, oAll, oSum, oIsi, iSeq, iRng1D, iRng2D, iEnumD, iZipD, fz_d, fz_own, fz_town, fz_v, fz_abs, asDs, fzB, wipeD, asD_d, asD_own, asD_bor, asL_list, asL_tuple, asL_own, asL_bor, asL_int, asL_bool, asL_none, asS_list, asS_tuple, asS_own, asS_bor, tru_bool, tru_int, tru_none, tru_tuple, tru_list, tru_own, tru_bor, stO_d, stO_own, stO_town, stO_v, stO_abs, rtS_d, rtS_own, rtS_bor, rtS_v, rtS_abs, isN_none, isN_tuple, isN_int, isN_list, isN_bool, List.map_cons, List.map_nil, List.length_cons, List.length_nil, List.cons_append, List.nil_append, List.getElem?_cons_zero, List.getElem?_cons_succ, List.set_cons_zero, List.set_cons_succ, Option.map_some, Option.map_none, Option.some.injEq, SV.d.injEq, SV.own.injEq, PyData.int.injEq, PyData.bool.injEq, PyData.tuple.injEq, PyData.list.injEq, PyData.str.injEq, List.cons.injEq, exists_eq_left, exists_eq_left', exists_eq_right, exists_and_left, exists_and_right, exists_const, and_true, true_and, if_true, if_false, reduceCtorEq, false_or, or_false, false_and, and_false, Bool.not_true, Bool.not_false, Bool.false_eq_true, ite_true, ite_false, reduceIte, Bool.true_eq_false, Nat.reduceAdd, nc0, nc1, nc2, nc3, nc4, nc5, nc6, nc7, nc8, Int.reduceBEq, beq_self_eq_true, Bool.and_true, Bool.true_and, Bool.and_false, Bool.false_and, Nat.zero_add] at h ⊢
              exact h
            | true =>
              simp only [h3, sSeq, sNext, sExpr, sRet, sIf, sSet, sSetF, sAsg, sPar, sRaise, sFor, sApp, sExt, sPop, sItem, sAugI, sAug, sFrz, sMove, sBreak, sCont, gN, gT, gsNil, gsCons, dVar, vS_d, vS_own, vS_town, vS_v, vS_scr, fz_scr, dC, dOp, dCall, dCallK, daNil, daCons, dTup, dLst, dSl, doNone, doSome, dIf, dAnd, dOr, dNot, dNeg, dOne, dTwoI, dChain, dLc, bVal, bTru, bScr, dLenS, dIxS, dCount, dRest, sCount, sRest, bNot, bAnd, bOr, bYes, wInt2, wIntC, wAdd, wMul, wIx, wIn, wEqD, wIsN, oLen, oTuple, oList, oAll, oSum, oIsi, iSeq, iRng1D, iRng2D, iEnumD, iZipD, fz_d, fz_own, fz_town, fz_v, fz_abs, asDs, fzB, wipeD, asD_d, asD_own, asD_bor, asL_list, asL_tuple, asL_own, asL_bor, asL_int, asL_bool, asL_none, asS_list, asS_tuple, asS_own, asS_bor, tru_bool, tru_int, tru_none, tru_tuple, tru_list, tru_own, tru_bor, stO_d, stO_own, stO_town, stO_v, stO_abs, rtS_d, rtS_own, rtS_bor, rtS_v, rtS_abs, isN_none, isN_tuple, isN_int, isN_list, isN_bool, List.map_cons, List.map_nil, List.length_cons, List.length_nil, List.cons_append, List.nil_append, List.getElem?_cons_zero, List.getElem?_cons_succ, List.set_cons_zero, List.set_cons_succ, Option.map_some, Option.map_none, Option.some.injEq, SV.d.injEq, SV.own.injEq, PyData.int.injEq, PyData.bool.injEq, PyData.tuple.injEq, PyData.list.injEq, PyData.str.injEq, List.cons.injEq, exists_eq_left, exists_eq_left', exists_eq_right, exists_and_left, exists_and_right, exists_const, and_true, true_and, if_true, if_false, reduceCtorEq, false_or, or_false, false_and, and_false, Bool.not_true, Bool.not_false, Bool.false_eq_true, ite_true, ite_false, reduceIte, Bool.true_eq_false, Nat.reduceAdd, nc0, nc1, nc2, nc3, nc4, nc5, nc6, nc7, nc8, Int.reduceBEq, beq_self_eq_true, Bool.and_true, Bool.true_and, Bool.and_false, Bool.false_and, Nat.zero_add] at h ⊢
              rw [List.all_eq_true] at h3
              refine lcR_map (fun x => .bool (decide (sumD x = sumD (xs.getD 0 .none)))) xs (fun x hx k hk => ?_) (all_map _ h)
              obtain ⟨ns, rfl, _⟩ := conf_ints (h3 x hx)
              cases xs with
              | nil => cases hx
              | cons y ys =>
                obtain ⟨ms, rfl, _⟩ := conf_ints (h3 y List.mem_cons_self)
                simp_arith only [lcT, atI_0, sh_int, eqv_int]
                refine ⟨_, nats_ints ns, _, nats_ints ms, ?_⟩
                simp only [List.getD_cons_zero, nats_ints, sumD_ints] at hk
                have e : ((ns.map fun n : Nat => (n : Int)).sum == (ms.map fun n : Nat => (n : Int)).sum) = decide ((ns.map fun n : Nat => (n : Int)).sum = (ms.map fun n : Nat => (n : Int)).sum) := rfl
                rw [e]
                exact hk
        · have h1' : (1 : Int) ≤ ((xs.length : Nat) : Int) := by omega
          have h2' : ¬ ((xs.length : Nat) : Int) ≤ 6 := by omega
          simp only [h1, h2, h1', h2', decide_true, decide_false, List.map_cons, List.map_nil, List.length_cons, List.length_nil, List.cons_append, List.nil_append, List.getElem?_cons_zero, List.getElem?_cons_succ, List.set_cons_zero, List.set_cons_succ, Option.map_some, Option.map_none, Option.some.injEq, SV.d.injEq, SV.own.injEq, PyData.int.injEq, PyData.bool.injEq, PyData.tuple.injEq, PyData.list.injEq, PyData.str.injEq, List.cons.injEq, exists_eq_left, exists_eq_left', exists_eq_right, exists_and_left, exists_and_right, exists_const, and_true, true_and, if_true, if_false, reduceCtorEq, false_or, or_false, false_and, and_false, Bool.not_true, Bool.not_false, Bool.false_eq_true, ite_true, ite_false, reduceIte, Bool.true_eq_false, Nat.reduceAdd, nc0, nc1, nc2, nc3, nc4, nc5, nc6, nc7, nc8, Int.reduceBEq, beq_self_eq_true, Bool.and_true, Bool.true_and, Bool.and_false, Bool.false_and, Nat.zero_add] at h ⊢
          exact h
      · have h1' : ¬ (1 : Int) ≤ ((xs.length : Nat) : Int) := by omega
        simp only [h1, h1', decide_false, List.map_cons, List.map_nil, List.length_cons, List.length_nil, List.cons_append, List.nil_append, List.getElem?_cons_zero, List.getElem?_cons_succ, List.set_cons_zero, List.set_cons_succ, Option.map_some, Option.map_none, Option.some.injEq, SV.d.injEq, SV.own.injEq, PyData.int.injEq, PyData.bool.injEq, PyData.tuple.injEq, PyData.list.injEq, PyData.str.injEq, List.cons.injEq, exists_eq_left, exists_eq_left', exists_eq_right, exists_and_left, exists_and_right, exists_const, and_true, true_and, if_true, if_false, reduceCtorEq, false_or, or_false, false_and, and_false, Bool.not_true, Bool.not_false, Bool.false_eq_true, ite_true, ite_false, reduceIte, Bool.true_eq_false, Nat.reduceAdd, nc0, nc1, nc2, nc3, nc4, nc5, nc6, nc7, nc8, Int.reduceBEq, beq_self_eq_true, Bool.and_true, Bool.true_and, Bool.and_false, Bool.false_and, Nat.zero_add] at h ⊢
        exact h
    | none => simp_arith only [t_is_log_of, isi_tuple]; exact h
    | bool _ => simp_arith only [t_is_log_of, isi_tuple]; exact h
    | int _ => simp_arith only [t_is_log_of, isi_tuple]; exact h
    | str _ => simp_arith only [t_is_log_of, isi_tuple]; exact h
    | list _ => simp_arith only [t_is_log_of, isi_tuple]; exact h
    | dict _ => simp_arith only [t_is_log_of, isi_tuple]; exact h
  · exact h.elim
def sp_is_log (c : Ct) : Spec := fun ss Q Ex => match ss with
  | [.d p, .d v] => if isProtocol p = true then Q (.d (.bool (isLog (match p with | .tuple (.int m :: _) => m | _ => 0) v))) else Ex (.ref (c.cls "InvalidProtocol"))
  | _ => False
theorem at_is_log {c : Ct} {many : Int} {r : List PyData} {v : PyData} {Q : SV → Prop} {Ex : XP} (h : isProtocol (.tuple (.int many :: r)) = true) : sp_is_log c [.d (.tuple (.int many :: r)), .d v] Q Ex = Q (.d (.bool (isLog many v))) := by
  show (if isProtocol (.tuple (.int many :: r)) = true then _ else _) = _
  rw [if_pos h]
def t_is_log (c : Ct) : DS :=
  (sSeq (sExpr (dCall (sp_check_protocol c) (daCons (dVar 0) daNil)))
  (sRet (dCall (sp_is_log_of c) (daCons (dVar 0) (daCons (dVar 1) daNil)))))
theorem rd_is_log (c : Ct) (ss : List SV) (Q : SV → Prop) (Ex : XP) (h : sp_is_log c ss Q Ex) : t_is_log c { nx := fun _ => Q (.d .none), rt := Q } (startD 2 ss) Ex := by
  unfold sp_is_log at h
  split at h
  · rename_i p v
    show t_is_log c _ [some (.d p), some (.d v)] Ex
    simp_arith only [t_is_log, at_check_protocol]
    cases e : isProtocol p with
    | false =>
      simp only [e, List.map_cons, List.map_nil, List.length_cons, List.length_nil, List.cons_append, List.nil_append, List.getElem?_cons_zero, List.getElem?_cons_succ, List.set_cons_zero, List.set_cons_succ, Option.map_some, Option.map_none, Option.some.injEq, SV.d.injEq, SV.own.injEq, PyData.int.injEq, PyData.bool.injEq, PyData.tuple.injEq, PyData.list.injEq, PyData.str.injEq, List.cons.injEq, exists_eq_left, exists_eq_left', exists_eq_right, exists_and_left, exists_and_right, exists_const, and_true, true_and, if_true, if_false, reduceCtorEq, false_or, or_false, false_and, and_false, Bool.not_true, Bool.not_false, Bool.false_eq_true, ite_true, ite_false, reduceIte, Bool.true_eq_false, Nat.reduceAdd, nc0, nc1, nc2, nc3, nc4, nc5, nc6, nc7, nc8, Int.reduceBEq, beq_self_eq_true, Bool.and_true, Bool.true_and, Bool.and_false, Bool.false_and, Nat.zero_add] at h ⊢
      exact h
    | true =>
      obtain ⟨many, rules, rfl, hm, _⟩ := isP_shape e
      simp only [e, List.map_cons, List.map_nil, List.length_cons, List.length_nil, List.cons_append, List.nil_append, List.getElem?_cons_zero, List.getElem?_cons_succ, List.set_cons_zero, List.set_cons_succ, Option.map_some, Option.map_none, Option.some.injEq, SV.d.injEq, SV.own.injEq, PyData.int.injEq, PyData.bool.injEq, PyData.tuple.injEq, PyData.list.injEq, PyData.str.injEq, List.cons.injEq, exists_eq_left, exists_eq_left', exists_eq_right, exists_and_left, exists_and_right, exists_const, and_true, true_and, if_true, if_false, reduceCtorEq, false_or, or_false, false_and, and_false, Bool.not_true, Bool.not_false, Bool.false_eq_true, ite_true, ite_false, reduceIte, Bool.true_eq_false, Nat.reduceAdd, nc0, nc1, nc2, nc3, nc4, nc5, nc6, nc7, nc8, Int.reduceBEq, beq_self_eq_true, Bool.and_true, Bool.true_and, Bool.and_false, Bool.false_and, Nat.zero_add, at_is_log_of] at h ⊢
      exact h
  · exact h.elim
/-! ### the law's small words -/
def sp_law_is (c : Ct) : Spec := fun ss Q _ => match ss with
  | [.d (.bool a), .d (.bool b)] => Q (.d (.bool (a == b)))
  | _ => False
theorem at_law_is {c : Ct} {a b : Bool} {Q : SV → Prop} {Ex : XP} : sp_law_is c [.d (.bool a), .d (.bool b)] Q Ex = Q (.d (.bool (a == b))) := rfl
def t_law_is (c : Ct) : DS :=
  (sRet (dAnd (dOne (oIsi "bool") (dVar 0)) (dOp (wEqD fun b => b) (dVar 0) (dVar 1))))
theorem rd_law_is (c : Ct) (ss : List SV) (Q : SV → Prop) (Ex : XP) (h : sp_law_is c ss Q Ex) : t_law_is c { nx := fun _ => Q (.d .none), rt := Q } (startD 2 ss) Ex := by
  unfold sp_law_is at h
  split at h
  · rename_i a b
    show t_law_is c _ [some (.d (.bool a)), some (.d (.bool b))] Ex
    simp_arith only [t_law_is, isi_bool, sh_bool, eqv_bool]
    exact h
  · exact h.elim
end DL
/-! Ta: rules and protocols as records. -/
namespace DL
open PySem PySem.Spec PyProof.Rows L2
structure Rl where
  s : Nat
  t : Nat
  n : Nat
  bars : List Nat
  eff : List Nat
  deriving DecidableEq
def Rl.enc (r : Rl) : PyData := .tuple [.int r.s, .int r.t, .int r.n, .tuple (r.bars.map (fun n : Nat => PyData.int (n : Int))), .tuple (r.eff.map (fun n : Nat => PyData.int (n : Int)))]
structure Rl.Ok (m : Nat) (r : Rl) : Prop where
  s : r.s < m
  t : r.t < m
  n : r.n < m
  bars : ∀ b ∈ r.bars, 1 ≤ b ∧ b < m
  asc : r.bars.Pairwise (· < ·)
  nb : r.n ∉ r.bars
  len : r.eff.length = m
  eff : ∀ e ∈ r.eff, e < m
  z : r.eff.head? = some 0
theorem nats_of {lo m : Nat} : ∀ {xs : List PyData}, (xs.all fun x => isBetween x (lo : Int) ((m : Int) - 1)) = true → ∃ ns : List Nat, xs = ns.map (fun n : Nat => PyData.int (n : Int)) ∧ ∀ n ∈ ns, lo ≤ n ∧ n < m
  | [], _ => ⟨[], rfl, fun _ z => nomatch z⟩
  | x :: xs, h => by
    rw [List.all_cons, Bool.and_eq_true] at h
    obtain ⟨ns, rfl, hn⟩ := nats_of (xs := xs) h.2
    obtain ⟨i, rfl, h1, h2⟩ := btw_int h.1
    obtain ⟨k, rfl⟩ := Int.eq_ofNat_of_zero_le (show 0 ≤ i by omega)
    refine ⟨k :: ns, rfl, fun n hz => ?_⟩
    rcases List.mem_cons.mp hz with rfl | hz
    · omega
    · exact hn n hz
theorem all_btw {lo m : Nat} (ns : List Nat) : ((ns.map (fun n : Nat => PyData.int (n : Int))).all fun x => isBetween x (lo : Int) ((m : Int) - 1)) = true ↔ ∀ n ∈ ns, lo ≤ n ∧ n < m := by
  rw [List.all_eq_true]
  constructor
  · intro h n hn
    have := h _ (List.mem_map.mpr ⟨n, hn, rfl⟩)
    simp only [isBetween, Bool.and_eq_true, decide_eq_true_eq] at this
    omega
  · intro h x hx
    obtain ⟨n, hn, rfl⟩ := List.mem_map.mp hx
    have := h n hn
    simp only [isBetween, Bool.and_eq_true, decide_eq_true_eq]
    omega
theorem btw_lt {n lo m : Nat} : isBetween (.int (n : Int)) (lo : Int) ((m : Int) - 1) = true ↔ lo ≤ n ∧ n < m := by
  simp only [isBetween, Bool.and_eq_true, decide_eq_true_eq]
  omega
theorem asc_nats : ∀ ns : List Nat, ascL (ns.map (fun n : Nat => PyData.int (n : Int))) = true ↔ ns.Pairwise (· < ·)
  | [] => by simp [ascL]
  | [x] => by simp [ascL]
  | x :: y :: r => by
    have ih := asc_nats (y :: r)
    show (ltD (.int (x : Int)) (.int (y : Int)) && ascL ((y :: r).map (fun n : Nat => PyData.int (n : Int)))) = true ↔ _
    rw [Bool.and_eq_true, ih, List.pairwise_cons (a := x)]
    simp only [ltD, decide_eq_true_eq]
    constructor
    · rintro ⟨h1, h2⟩
      refine ⟨fun z hz => ?_, h2⟩
      rcases List.mem_cons.mp hz with rfl | hz
      · omega
      · have := (List.pairwise_cons.mp h2).1 z hz
        omega
    · rintro ⟨h1, h2⟩
      exact ⟨by have := h1 y List.mem_cons_self; omega, h2⟩
theorem eqv_nat (i j : Nat) : PyData.eqv (.int (i : Int)) (.int (j : Int)) = decide (i = j) := by
  rw [eqv_int]
  by_cases h : i = j
  · subst h
    simp
  · rw [decide_eq_false h, beq_eq_false_iff_ne]
    omega
theorem any_nat (i : Nat) (ns : List Nat) : ((ns.map (fun n : Nat => PyData.int (n : Int))).any fun z => PyData.eqv z (.int (i : Int))) = decide (i ∈ ns) := by
  induction ns with
  | nil => rfl
  | cons x r ih =>
    rw [List.map_cons, List.any_cons, ih, eqv_nat]
    by_cases h : x = i
    · simp [h]
    · have h' : ¬ i = x := fun e => h e.symm
      simp [h, h']
theorem isRule_enc {m : Nat} (r : Rl) : isRule m r.enc = true ↔ r.Ok m := by
  have key : isRule m r.enc = (areBetween (.tuple [.int (r.s : Int), .int (r.t : Int), .int (r.n : Int)]) 0 ((m : Int) - 1) && (areBetween (.tuple (r.bars.map (fun n : Nat => PyData.int (n : Int)))) 1 ((m : Int) - 1) && (ascL (r.bars.map (fun n : Nat => PyData.int (n : Int))) && !((r.bars.map (fun n : Nat => PyData.int (n : Int))).any fun z => PyData.eqv z (.int (r.n : Int))))) &&
      (areBetween (.tuple (r.eff.map (fun n : Nat => PyData.int (n : Int)))) 0 ((m : Int) - 1) && (decide (((r.eff.map (fun n : Nat => PyData.int (n : Int))).length : Int) = m) && (match r.eff.map (fun n : Nat => PyData.int (n : Int)) with | e :: _ => PyData.eqv e (.int 0) | [] => false)))) := rfl
  have e3 : areBetween (.tuple [.int (r.s : Int), .int (r.t : Int), .int (r.n : Int)]) 0 ((m : Int) - 1) = true ↔ r.s < m ∧ r.t < m ∧ r.n < m := by
    show (([r.s, r.t, r.n].map (fun n : Nat => PyData.int (n : Int))).all fun x => isBetween x ((0 : Nat) : Int) ((m : Int) - 1)) = true ↔ _
    rw [all_btw]
    simp
  have eb : areBetween (.tuple (r.bars.map (fun n : Nat => PyData.int (n : Int)))) 1 ((m : Int) - 1) = true ↔ ∀ b ∈ r.bars, 1 ≤ b ∧ b < m := all_btw (lo := 1) r.bars
  have ee : areBetween (.tuple (r.eff.map (fun n : Nat => PyData.int (n : Int)))) 0 ((m : Int) - 1) = true ↔ ∀ b ∈ r.eff, 0 ≤ b ∧ b < m := all_btw (lo := 0) r.eff
  have ez : (match r.eff.map (fun n : Nat => PyData.int (n : Int)) with | e :: _ => PyData.eqv e (.int 0) | [] => false) = true ↔ r.eff.head? = some 0 := by
    cases r.eff with
    | nil => simp
    | cons x xs =>
      show PyData.eqv (.int (x : Int)) (.int ((0 : Nat) : Int)) = true ↔ _
      rw [eqv_nat]
      simp
  rw [key, Bool.and_eq_true, Bool.and_eq_true, Bool.and_eq_true, Bool.and_eq_true, Bool.and_eq_true, Bool.and_eq_true, e3, eb, ee, asc_nats, any_nat, ez, decide_eq_true_eq, List.length_map]
  constructor
  · rintro ⟨⟨⟨h1, h2, h3⟩, h4, h5, h6⟩, h7, h8, h9⟩
    exact ⟨h1, h2, h3, h4, h5, by simpa using h6, by omega, fun e he => (h7 e he).2, h9⟩
  · rintro ⟨h1, h2, h3, h4, h5, h6, h7, h8, h9⟩
    exact ⟨⟨⟨h1, h2, h3⟩, h4, h5, by simpa using h6⟩, fun e he => ⟨Nat.zero_le _, h8 e he⟩, by omega, h9⟩
theorem isRule_dec {m : Nat} {v : PyData} (h : isRule m v = true) : ∃ r : Rl, v = r.enc ∧ r.Ok m := by
  have h0 := h
  unfold isRule at h
  split at h
  · rename_i s t n bars eff
    rw [Bool.and_eq_true, Bool.and_eq_true, Bool.and_eq_true, Bool.and_eq_true] at h
    obtain ⟨⟨h1, h2, h3⟩, h4, h5⟩ := h
    obtain ⟨ns, e1, _⟩ := nats_of (lo := 0) (m := m) (xs := [s, t, n]) h1
    match ns, e1 with
    | [a, b, c], e1 =>
      simp only [List.map_cons, List.map_nil, List.cons.injEq, and_true] at e1
      obtain ⟨rfl, rfl, rfl⟩ := e1
      cases bars with
      | tuple bs =>
        cases eff with
        | tuple es =>
          obtain ⟨ms, rfl, _⟩ := nats_of (lo := 1) (m := m) (xs := bs) h2
          obtain ⟨ks, rfl, _⟩ := nats_of (lo := 0) (m := m) (xs := es) h4
          have e : (⟨a, b, c, ms, ks⟩ : Rl).enc = .tuple [.int (a : Int), .int (b : Int), .int (c : Int), .tuple (ms.map (fun n : Nat => PyData.int (n : Int))), .tuple (ks.map (fun n : Nat => PyData.int (n : Int)))] := rfl
          rw [← e] at h0
          exact ⟨_, e.symm, (isRule_enc _).mp h0⟩
        | none => cases h5
        | bool _ => cases h5
        | int _ => cases h5
        | str _ => cases h5
        | list _ => cases h5
        | dict _ => cases h5
      | none => cases h3
      | bool _ => cases h3
      | int _ => cases h3
      | str _ => cases h3
      | list _ => cases h3
      | dict _ => cases h3
  · cases h
structure Pr where
  m : Nat
  rules : List Rl
  deriving DecidableEq
def Pr.enc (p : Pr) : PyData := .tuple [.int p.m, .tuple (p.rules.map Rl.enc)]
structure Pr.Ok (p : Pr) : Prop where
  lo : 2 ≤ p.m
  hi : p.m ≤ 5
  few : p.rules.length ≤ 8
  rules : ∀ r ∈ p.rules, r.Ok p.m
theorem isP_enc (p : Pr) : isProtocol p.enc = true ↔ p.Ok := by
  have key : isProtocol p.enc = (decide (2 ≤ (p.m : Int)) && decide ((p.m : Int) ≤ 5) && (decide ((p.rules.map Rl.enc).length ≤ 8) && (p.rules.map Rl.enc).all (isRule p.m))) := rfl
  rw [key, Bool.and_eq_true, Bool.and_eq_true, Bool.and_eq_true, decide_eq_true_eq, decide_eq_true_eq, decide_eq_true_eq, List.length_map, List.all_eq_true]
  constructor
  · rintro ⟨⟨h1, h2⟩, h3, h4⟩
    exact ⟨by omega, by omega, h3, fun r hr => (isRule_enc r).mp (h4 _ (List.mem_map.mpr ⟨r, hr, rfl⟩))⟩
  · rintro ⟨h1, h2, h3, h4⟩
    refine ⟨⟨by omega, by omega⟩, h3, fun x hx => ?_⟩
    obtain ⟨r, hr, rfl⟩ := List.mem_map.mp hx
    exact (isRule_enc r).mpr (h4 r hr)
theorem rules_dec {m : Nat} : ∀ {xs : List PyData}, (∀ x ∈ xs, isRule m x = true) → ∃ rs : List Rl, xs = rs.map Rl.enc
  | [], _ => ⟨[], rfl⟩
  | x :: xs, h => by
    obtain ⟨rs, rfl⟩ := rules_dec fun y hy => h y (List.mem_cons_of_mem _ hy)
    obtain ⟨r, rfl, _⟩ := isRule_dec (h x List.mem_cons_self)
    exact ⟨r :: rs, rfl⟩
theorem isP_dec {v : PyData} (h : isProtocol v = true) : ∃ p : Pr, v = p.enc ∧ p.Ok := by
  obtain ⟨many, rules, rfl, h1, h2, h3, h4⟩ := isP_shape h
  obtain ⟨k, rfl⟩ := Int.eq_ofNat_of_zero_le (show 0 ≤ many by omega)
  obtain ⟨rs, rfl⟩ := rules_dec h4
  exact ⟨⟨k, rs⟩, rfl, (isP_enc ⟨k, rs⟩).mp h⟩
/-- counts of caches -/
def natsD (ns : List Nat) : PyData := .tuple (ns.map (fun n : Nat => PyData.int (n : Int)))
theorem isConf_nats {m : Nat} (ns : List Nat) : isConf m (natsD ns) = true ↔ ns.length = m ∧ 1 ≤ ns.sum ∧ ns.sum ≤ 8 := by
  unfold isConf
  have e1 : sumD (natsD ns) = (ns.sum : Int) := by
    show sumD (.tuple (ns.map (fun n : Nat => PyData.int (n : Int)))) = _
    rw [nats_ints, sumD_ints, nats_sum]
  have e2 : areCounts m (natsD ns) = true ↔ ns.length = m := by
    show (decide (((ns.map (fun n : Nat => PyData.int (n : Int))).length : Int) = m) && (ns.map (fun n : Nat => PyData.int (n : Int))).all isCount) = true ↔ _
    rw [Bool.and_eq_true, decide_eq_true_eq, List.length_map, List.all_eq_true]
    constructor
    · rintro ⟨h, _⟩
      omega
    · intro h
      refine ⟨by omega, fun x hx => ?_⟩
      obtain ⟨n, _, rfl⟩ := List.mem_map.mp hx
      simp [isCount]
  rw [Bool.and_eq_true, Bool.and_eq_true, decide_eq_true_eq, decide_eq_true_eq, e1, e2]
  constructor
  · rintro ⟨h1, h2, h3⟩
    exact ⟨h1, by omega, by omega⟩
  · rintro ⟨h1, h2, h3⟩
    exact ⟨h1, by omega, by omega⟩
theorem isConf_dec {m : Nat} {v : PyData} (h : isConf m v = true) : ∃ ns : List Nat, v = natsD ns ∧ ns.length = m ∧ 1 ≤ ns.sum ∧ ns.sum ≤ 8 := by
  obtain ⟨ns, rfl, h1, h2, h3⟩ := conf_ints h
  exact ⟨ns, rfl, by omega, h2, h3⟩
theorem isPat_nats {m : Nat} (ns : List Nat) : isPat m (natsD ns) = true ↔ ns.length = m ∧ ns.head? = some 0 ∧ 1 ≤ ns.sum ∧ ns.sum ≤ 4 := by
  unfold isPat
  have e1 : sumD (natsD ns) = (ns.sum : Int) := by
    show sumD (.tuple (ns.map (fun n : Nat => PyData.int (n : Int)))) = _
    rw [nats_ints, sumD_ints, nats_sum]
  have e2 : areCounts m (natsD ns) = true ↔ ns.length = m := by
    show (decide (((ns.map (fun n : Nat => PyData.int (n : Int))).length : Int) = m) && (ns.map (fun n : Nat => PyData.int (n : Int))).all isCount) = true ↔ _
    rw [Bool.and_eq_true, decide_eq_true_eq, List.length_map, List.all_eq_true]
    constructor
    · rintro ⟨h, _⟩
      omega
    · intro h
      refine ⟨by omega, fun x hx => ?_⟩
      obtain ⟨n, _, rfl⟩ := List.mem_map.mp hx
      simp [isCount]
  have e3 : (match natsD ns with | .tuple (x :: _) => PyData.eqv x (.int 0) | _ => false) = true ↔ ns.head? = some 0 := by
    cases ns with
    | nil => simp [natsD]
    | cons x xs =>
      show PyData.eqv (.int (x : Int)) (.int ((0 : Nat) : Int)) = true ↔ _
      rw [eqv_nat]
      simp
  rw [Bool.and_eq_true, Bool.and_eq_true, Bool.and_eq_true, decide_eq_true_eq, decide_eq_true_eq, e1, e2]
  constructor
  · rintro ⟨h1, h2, h3, h4⟩
    exact ⟨h1, e3.mp h2, by omega, by omega⟩
  · rintro ⟨h1, h2, h3, h4⟩
    exact ⟨h1, e3.mpr h2, by omega, by omega⟩
theorem isPat_dec {m : Nat} {v : PyData} (h : isPat m v = true) : ∃ ns : List Nat, v = natsD ns ∧ ns.length = m ∧ ns.head? = some 0 ∧ 1 ≤ ns.sum ∧ ns.sum ≤ 4 := by
  have h0 := h
  unfold isPat at h
  rw [Bool.and_eq_true] at h
  obtain ⟨ns, rfl, _⟩ := counts_ints h.1
  exact ⟨ns, rfl, (isPat_nats ns).mp h0⟩
end DL
/-! Fc: drawing: readings, specifications. -/
namespace DL
open PySem PySem.Spec PyProof.Rows L2
local macro_rules
  | `(tactic| simp_arith [$xs,*]) => `(tactic| simp only [List.map_cons, List.map_nil, List.length_cons, List.length_nil, List.cons_append, List.nil_append, List.getElem?_cons_zero, List.getElem?_cons_succ, List.set_cons_zero, List.set_cons_succ, Option.map_some, Option.map_none, Option.some.injEq, SV.d.injEq, SV.own.injEq, PyData.int.injEq, PyData.bool.injEq, PyData.tuple.injEq, PyData.list.injEq, PyData.str.injEq, List.cons.injEq, exists_eq_left, exists_eq_left', exists_eq_right, exists_and_left, exists_and_right, exists_const, and_true, true_and, if_true, if_false, reduceCtorEq, false_or, or_false, false_and, and_false, Bool.not_true, Bool.not_false, Bool.false_eq_true, ite_true, ite_false, reduceIte, Bool.true_eq_false, Nat.reduceAdd, nc0, nc1, nc2, nc3, nc4, nc5, nc6, nc7, nc8, Int.reduceBEq, beq_self_eq_true, Bool.and_true, Bool.true_and, Bool.and_false, Bool.false_and, Nat.zero_add, $xs,*])
local macro_rules
  | `(tactic| simp_arith only [$xs,*]) => `(tactic| simp only [sSeq, sNext, sExpr, sRet, sIf, sSet, sSetF, sAsg, sPar, sRaise, sFor, sApp, sExt, sPop, sItem, sAugI, sAug, sFrz, sMove, sBreak, sCont, gN, gT, gsNil, gsCons, dVar, vS_d, vS_own, vS_town, vS_v, vS_scr, fz_scr, dC, dOp, dCall, dCallK, daNil, daCons, dTup, dLst, dSl, doNone, doSome, dIf, dAnd, dOr, dNot, dNeg, dOne, dTwoI, dChain, dLc, bVal, bTru, bScr, dLenS, dIxS, dCount, dRest, sCount, sRest, bNot, bAnd, bOr, bYes, wInt2, wIntC, wAdd, wMul, wIx, wIn, wEqD, wIsN, oLen, oTuple, oList, oAll, oSum, oIsi, iSeq, iRng1D, iRng2D, iEnumD, iZipD, fz_d, fz_own, fz_town, fz_v, fz_abs, asDs, fzB, wipeD, asD_d, asD_own, asD_bor, asL_list, asL_tuple, asL_own, asL_bor, asL_int, asL_bool, asL_none, asS_list, asS_tuple, asS_own, asS_bor, tru_bool, tru_int, tru_none, tru_tuple, tru_list, tru_own, tru_bor, stO_d, stO_own, stO_town, stO_v, stO_abs, rtS_d, rtS_own, rtS_bor, rtS_v, rtS_abs, isN_none, isN_tuple, isN_int, isN_list, isN_bool, List.map_cons, List.map_nil, List.length_cons, List.length_nil, List.cons_append, List.nil_append, List.getElem?_cons_zero, List.getElem?_cons_succ, List.set_cons_zero, List.set_cons_succ, Option.map_some, Option.map_none, Option.some.injEq, SV.d.injEq, SV.own.injEq, PyData.int.injEq, PyData.bool.injEq, PyData.tuple.injEq, PyData.list.injEq, PyData.str.injEq, List.cons.injEq, exists_eq_left, exists_eq_left', exists_eq_right, exists_and_left, exists_and_right, exists_const, and_true, true_and, if_true, if_false, reduceCtorEq, false_or, or_false, false_and, and_false, Bool.not_true, Bool.not_false, Bool.false_eq_true, ite_true, ite_false, reduceIte, Bool.true_eq_false, Nat.reduceAdd, nc0, nc1, nc2, nc3, nc4, nc5, nc6, nc7, nc8, Int.reduceBEq, beq_self_eq_true, Bool.and_true, Bool.true_and, Bool.and_false, Bool.false_and, Nat.zero_add, $xs,*])
def sp_law_draw (c : Ct) : Spec := fun ss Q _ => match ss with
  | [s, .town, .d (.int many)] => ∃ n, n ≤ 63 ∧ s = scr c n ∧ (0 < many ∧ many < 1073741824) ∧ ∀ r : Int, 0 ≤ r → r < many → Q (.d (.int r))
  | _ => False
theorem use_draw {c : Ct} {n : Nat} {m : Int} {Q : SV → Prop} {Ex : XP} (hn : n ≤ 63) (hm : 0 < m ∧ m < 1073741824) (q : ∀ r : Int, 0 ≤ r → r < m → Q (.d (.int r))) : sp_law_draw c [scr c n, .town, .d (.int m)] Q Ex := ⟨n, hn, rfl, hm, q⟩
def t_law_draw (c : Ct) : DS :=
  (sSeq (sCount (dVar 1) (dOp wAdd (dCount (dVar 1)) (dC (.d (.int 1)))))
  (sSeq (sSetF 3 (dIf (bScr c (dVar 0)) (dOp (wIntC (fun _ j => 0 < j) fun i j => i % j) (dCount (dVar 1)) (dLenS c (dVar 0))) (dC (.d (.int 0)))))
  (sSeq (sSetF 4 (dRest (dVar 1) (dVar 3) (dIf (bScr c (dVar 0)) (dIxS c (dVar 0) (dVar 3)) (dC (.d (.int 0))))))
  (sSeq (sIf (bVal (dOp (wInt2 fun i j => .bool (decide (j ≤ i))) (dVar 4) (dOp (wIntC CPow fun i j => i ^ j.toNat) (dC (.d (.int 10))) (dC (.d (.int 18)))))) (sSeq (sRest (dVar 1) (dOp (wIntC CDiv fun i j => i / j) (dVar 4) (dVar 2)) (dVar 3))
    (sRet (dOp (wIntC (fun _ j => 0 < j) fun i j => i % j) (dVar 4) (dVar 2)))) sNext)
  (sSeq (sSetF 5 (dOp (wIntC (fun _ j => 0 < j) fun i j => i % j) (dOp wAdd (dVar 4) (dOp wMul (dC (.d (.int 104729))) (dCount (dVar 1)))) (dC (.d (.int 4294967291)))))
  (sSeq (sSetF 5 (dOp (wIntC (fun _ j => 0 < j) fun i j => i % j) (dOp (wIntC CPow fun i j => i ^ j.toNat) (dVar 5) (dC (.d (.int 5)))) (dC (.d (.int 4294967279)))))
  (sRet (dOp (wIntC (fun _ j => 0 < j) fun i j => i % j) (dOp (wIntC CDiv fun i j => i / j) (dOp (wIntC (fun _ j => 0 < j) fun i j => i % j) (dOp wAdd (dOp wMul (dOp (wIntC CDiv fun i j => i / j) (dVar 5) (dC (.d (.int 64)))) (dC (.d (.int 69621)))) (dVar 5)) (dC (.d (.int 4294967231)))) (dC (.d (.int 8)))) (dVar 2)))))))))
theorem rd_law_draw (c : Ct) (ss : List SV) (Q : SV → Prop) (Ex : XP) (h : sp_law_draw c ss Q Ex) : t_law_draw c { nx := fun _ => Q (.d .none), rt := Q } (startD 6 ss) Ex := by
  unfold sp_law_draw at h
  split at h
  · rename_i s many
    obtain ⟨n, hn, rfl, hm, q⟩ := h
    show t_law_draw c _ [some (scr c n), some .town, some (.d (.int many)), none, none, none] Ex
    have hq : ∀ r : Int, Q (.d (.int (r % many))) := fun r => q _ (Int.emod_nonneg _ (by omega)) (Int.emod_lt_of_pos _ hm.1)
    have b1 : ∀ x y : Int, 0 < y → y < 4294967296 → (x % y).natAbs < 2 ^ 64 := fun x y h1 h2 => by
      have := Int.emod_nonneg x (show y ≠ 0 by omega)
      have := Int.emod_lt_of_pos x h1
      omega
    have tail : ∀ x n3 : Int, CMul 104729 n3 ∧ 0 < (4294967291 : Int) ∧ CPow ((x + 104729 * n3) % 4294967291) 5 ∧ 0 < (4294967279 : Int) ∧ CDiv (((x + 104729 * n3) % 4294967291) ^ Int.toNat 5 % 4294967279) 64 ∧
        CMul (((x + 104729 * n3) % 4294967291) ^ Int.toNat 5 % 4294967279 / 64) 69621 ∧ 0 < (4294967231 : Int) ∧
        CDiv ((((x + 104729 * n3) % 4294967291) ^ Int.toNat 5 % 4294967279 / 64 * 69621 + ((x + 104729 * n3) % 4294967291) ^ Int.toNat 5 % 4294967279) % 4294967231) 8 ∧ 0 < many ∧
        Q (.d (.int ((((x + 104729 * n3) % 4294967291) ^ Int.toNat 5 % 4294967279 / 64 * 69621 + ((x + 104729 * n3) % 4294967291) ^ Int.toNat 5 % 4294967279) % 4294967231 / 8 % many))) := fun x n3 =>
      ⟨.inl ⟨by decide, by decide⟩, by decide, ⟨by decide, by decide, b1 _ _ (by decide) (by decide)⟩, by decide, ⟨by decide, by decide⟩, .inr ⟨by decide, by decide⟩, by decide, ⟨by decide, by decide⟩, hm.1, hq _⟩
    have p18 : CPow 10 18 := ⟨by decide, by decide, by decide⟩
    have rest : ∀ (x : Int) (k : Nat), k < 63 → (CPow 10 18 ∧ if decide ((10 : Int) ^ Int.toNat 18 ≤ x) = true then CDiv x many ∧ ∃ k' : Nat, (k : Int) = (k' : Int) ∧ k' < 63 ∧ 0 < many ∧ Q (.d (.int (x % many))) else
        ∀ n3 : Int, CMul 104729 n3 ∧ 0 < (4294967291 : Int) ∧ CPow ((x + 104729 * n3) % 4294967291) 5 ∧ 0 < (4294967279 : Int) ∧ CDiv (((x + 104729 * n3) % 4294967291) ^ Int.toNat 5 % 4294967279) 64 ∧
        CMul (((x + 104729 * n3) % 4294967291) ^ Int.toNat 5 % 4294967279 / 64) 69621 ∧ 0 < (4294967231 : Int) ∧
        CDiv ((((x + 104729 * n3) % 4294967291) ^ Int.toNat 5 % 4294967279 / 64 * 69621 + ((x + 104729 * n3) % 4294967291) ^ Int.toNat 5 % 4294967279) % 4294967231) 8 ∧ 0 < many ∧
        Q (.d (.int ((((x + 104729 * n3) % 4294967291) ^ Int.toNat 5 % 4294967279 / 64 * 69621 + ((x + 104729 * n3) % 4294967291) ^ Int.toNat 5 % 4294967279) % 4294967231 / 8 % many)))) := fun x k hk => by
      refine ⟨p18, ?_⟩
      split
      · exact ⟨hm, k, rfl, hk, hm.1, hq x⟩
      · exact tail x
    simp_arith only [t_law_draw]
    intro n1
    refine ⟨n, rfl, ?_⟩
    by_cases h0 : n = 0
    · subst h0
      simp_arith [bne_self_eq_false]
      exact ⟨0, rfl, by decide, 0, rfl, fun x => rest x 0 (by decide)⟩
    · have e0 : (n != 0) = true := by simpa using h0
      simp_arith [e0]
      intro n2
      obtain ⟨k, hk⟩ := Int.eq_ofNat_of_zero_le (Int.emod_nonneg n2 (show (n : Int) ≠ 0 by omega))
      have hk2 := Int.emod_lt_of_pos n2 (show (0 : Int) < n by omega)
      rw [hk] at hk2
      have hk3 : k < n := Int.ofNat_lt.mp hk2
      refine ⟨n, rfl, by omega, k, hk, by omega, n, rfl, ?_⟩
      simp_arith [e0]
      exact ⟨n, rfl, k, hk, hk3, fun _ x => by rw [hk]; exact rest x k (by omega)⟩
  · exact h.elim
theorem rngD_nat : ∀ (n lo : Nat), rngD (lo : Int) n = (List.range' lo n).map (fun n : Nat => PyData.int (n : Int))
  | 0, _ => rfl
  | n + 1, lo => by
    show PyData.int lo :: rngD ((lo : Int) + 1) n = _
    rw [List.range'_succ, List.map_cons]
    have := rngD_nat n (lo + 1)
    rw [← this]
    rfl
/-- every turn keeps its own value, or drops it -/
theorem lcR_sub {g : DG} {tt : DB} {te : DT} {δ : Env} (P : PyData → Prop) : ∀ (ds : List PyData) {Q : List PyData → Prop}, (∀ x ∈ ds, ∀ k : Option PyData → Prop, (P x → k (some x)) → k none → lcT g tt te δ x k) →
    (∀ ys : List PyData, ys.Sublist ds → (∀ y ∈ ys, P y) → Q ys) → lcR g tt te δ ds Q
  | [], Q, _, q => q [] (List.Sublist.refl _) (fun _ z => nomatch z)
  | x :: xs, Q, h, q => by
    rw [lcR_cons]
    refine h x List.mem_cons_self _ (fun hd => ?_) ?_
    · refine lcR_sub P xs (fun y hy => h y (List.mem_cons_of_mem _ hy)) fun ys hl hy => q (x :: ys) (List.Sublist.cons_cons x hl) fun z hz => ?_
      rcases List.mem_cons.mp hz with rfl | hz
      · exact hd
      · exact hy z hz
    · exact lcR_sub P xs (fun y hy => h y (List.mem_cons_of_mem _ hy)) fun ys hl hy => q ys (hl.cons x) hy
/-- a for whose turns each append one of P to the list in slot i -/
def sp_law_rule (c : Ct) : Spec := fun ss Q _ => match ss with
  | [s, .town, .d (.int many)] => ∃ n m : Nat, n ≤ 63 ∧ s = scr c n ∧ many = m ∧ (2 ≤ m ∧ m ≤ 5) ∧ ∀ r : Rl, r.Ok m → Q (.d r.enc)
  | _ => False
theorem use_rule {c : Ct} {n m : Nat} {Q : SV → Prop} {Ex : XP} (hn : n ≤ 63) (hm : 2 ≤ m ∧ m ≤ 5) (q : ∀ r : Rl, r.Ok m → Q (.d r.enc)) : sp_law_rule c [scr c n, .town, .d (.int m)] Q Ex := ⟨n, m, hn, rfl, rfl, hm, q⟩
theorem nat_draw {m : Nat} {i : Int} (h0 : 0 ≤ i) (h1 : i < m) : ∃ k : Nat, i = k ∧ k < m := by
  obtain ⟨k, rfl⟩ := Int.eq_ofNat_of_zero_le h0
  exact ⟨k, rfl, by omega⟩
def t_law_rule (c : Ct) : DS :=
  (sSeq (sSetF 3 (dIf (bVal (dOp (wEqD fun b => b) (dCall (sp_law_draw c) (daCons (dVar 0) (daCons (dVar 1) (daCons (dC (.d (.int 2))) daNil)))) (dC (.d (.int 0))))) (dCall (sp_law_draw c) (daCons (dVar 0) (daCons (dVar 1) (daCons (dVar 2) daNil)))) (dC (.d (.int 0)))))
  (sSeq (sSetF 4 (dCall (sp_law_draw c) (daCons (dVar 0) (daCons (dVar 1) (daCons (dVar 2) daNil)))))
  (sSeq (sSetF 5 (dIf (bVal (dOp (wEqD fun b => b) (dCall (sp_law_draw c) (daCons (dVar 0) (daCons (dVar 1) (daCons (dC (.d (.int 3))) daNil)))) (dC (.d (.int 0))))) (dCall (sp_law_draw c) (daCons (dVar 0) (daCons (dVar 1) (daCons (dVar 2) daNil)))) (dC (.d (.int 0)))))
  (sSeq (sSetF 6 (dOne oTuple (dLc (iRng2D (dC (.d (.int 1))) (dVar 2)) (gN 8) (bAnd (bVal (dOp (wEqD fun b => b) (dCall (sp_law_draw c) (daCons (dVar 0) (daCons (dVar 1) (daCons (dC (.d (.int 5))) daNil)))) (dC (.d (.int 0))))) (bVal (dOp (wEqD fun b => !b) (dVar 8) (dVar 5)))) (dVar 8) [8])))
  (sSeq (sSet 7 (dC (.own [(.int 0)])))
  (sSeq (sFor (iRng2D (dC (.d (.int 1))) (dVar 2)) (gN 8) (sApp 7 (dOp wIx (dTup (daCons (dVar 8) (daCons (dC (.d (.int 0))) (daCons (dCall (sp_law_draw c) (daCons (dVar 0) (daCons (dVar 1) (daCons (dVar 2) daNil)))) daNil)))) (dCall (sp_law_draw c) (daCons (dVar 0) (daCons (dVar 1) (daCons (dC (.d (.int 3))) daNil)))))))
  (sRet (dTup (daCons (dVar 3) (daCons (dVar 4) (daCons (dVar 5) (daCons (dVar 6) (daCons (dOne oTuple (dVar 7)) daNil)))))))))))))
theorem rd_law_rule (c : Ct) (ss : List SV) (Q : SV → Prop) (Ex : XP) (h : sp_law_rule c ss Q Ex) : t_law_rule c { nx := fun _ => Q (.d .none), rt := Q } (startD 9 ss) Ex := by
  unfold sp_law_rule at h
  split at h
  · rename_i s many
    obtain ⟨n, m, hn, rfl, rfl, hm, q⟩ := h
    show t_law_rule c _ [some (scr c n), some .town, some (.d (.int m)), none, none, none, none, none, none] Ex
    have d2 : ∀ {Q : SV → Prop} {Ex : XP}, (∀ r : Int, Q (.d (.int r))) → sp_law_draw c [scr c n, .town, .d (.int 2)] Q Ex := fun q => use_draw hn (by omega) fun r _ _ => q r
    have d3 : ∀ {Q : SV → Prop} {Ex : XP}, (∀ r : Int, 0 ≤ r → r < 3 → Q (.d (.int r))) → sp_law_draw c [scr c n, .town, .d (.int 3)] Q Ex := fun q => use_draw hn (by omega) fun r h0 h1 => q r h0 h1
    have d5 : ∀ {Q : SV → Prop} {Ex : XP}, (∀ r : Int, Q (.d (.int r))) → sp_law_draw c [scr c n, .town, .d (.int 5)] Q Ex := fun q => use_draw hn (by omega) fun r _ _ => q r
    have dm : ∀ {Q : SV → Prop} {Ex : XP}, (∀ r : Nat, r < m → Q (.d (.int r))) → sp_law_draw c [scr c n, .town, .d (.int m)] Q Ex := fun q => use_draw hn (by omega) fun r h0 h1 => by
      obtain ⟨k, rfl, hk⟩ := nat_draw h0 h1
      exact q k hk
    unfold t_law_rule
    refine seqK fun K hK => ?_
    suffices nxt : ∀ r : Nat, r < m → K [some (scr c n), some .town, some (.d (.int m)), some (.d (.int r)), none, none, none, none, none] by
      simp_arith only []
      refine d2 fun x1 => ?_
      simp_arith only [sh_int, eqv_int]
      split
      · exact dm fun r hr => nxt r hr
      · exact nxt 0 (by omega)
    intro s hs
    refine hK _ ?_
    clear hK K
    refine seqK fun K hK => ?_
    simp_arith only []
    refine dm fun t ht => ?_
    refine hK _ ?_
    clear hK K
    refine seqK fun K hK => ?_
    suffices nxt : ∀ r : Nat, r < m → K [some (scr c n), some .town, some (.d (.int m)), some (.d (.int s)), some (.d (.int t)), some (.d (.int r)), none, none, none] by
      simp_arith only []
      refine d3 fun x1 _ _ => ?_
      simp_arith only [sh_int, eqv_int]
      split
      · exact dm fun r hr => nxt r hr
      · exact nxt 0 (by omega)
    intro nd hnd
    refine hK _ ?_
    clear hK K
    refine seqK fun K hK => ?_
    simp_arith only []
    have er : rngD 1 ((m : Int) - 1).toNat = (List.range' 1 (m - 1)).map (fun n : Nat => PyData.int (n : Int)) := by
      rw [show ((m : Int) - 1).toNat = m - 1 by omega]
      exact rngD_nat (m - 1) 1
    rw [er]
    refine ⟨by decide, by decide, by omega, by omega, ?_⟩
    refine lcR_sub (fun x => x ≠ .int (nd : Int)) _ (fun x hx k h1 h2 => ?_) fun ys hs1 hs2 => ?_
    · obtain ⟨z, hz, rfl⟩ := List.mem_map.mp hx
      simp_arith only [lcT]
      refine d5 fun x1 => ?_
      simp_arith only [sh_int, eqv_int]
      split
      · split
        · rename_i hne
          refine h1 fun e => ?_
          rw [PyData.int.injEq] at e
          simp [e] at hne
        · exact h2
      · exact h2
    obtain ⟨bs, hbs, rfl⟩ := List.sublist_map_iff.mp hs1
    refine hK _ ?_
    clear hK K
    refine seqK fun K hK => ?_
    simp_arith only []
    refine hK _ ?_
    clear hK K
    refine seqK fun K hK => ?_
    simp_arith only []
    rw [er]
    refine ⟨by decide, by decide, by omega, by omega, ?_⟩
    refine forR_inv (fun pre δ => ∃ (es : List Nat) (o : Option SV), δ = [some (scr c n), some .town, some (.d (.int m)), some (.d (.int s)), some (.d (.int t)), some (.d (.int nd)), some (.d (.tuple (bs.map (fun n : Nat => PyData.int (n : Int))))), some (.own (es.map (fun n : Nat => PyData.int (n : Int)))), o] ∧
      es.length = pre.length + 1 ∧ (∀ e ∈ es, e < m) ∧ es.head? = some 0) _ [] _ ⟨[0], none, rfl, rfl, by simp; omega, rfl⟩ (fun p x r δ k hp hI hk => ?_) fun δ' hI => ?_
    · obtain ⟨es, o, rfl, h1, h2, h3⟩ := hI
      have hx : x ∈ (List.range' 1 (m - 1)).map (fun n : Nat => PyData.int (n : Int)) := by
        rw [List.nil_append] at hp
        rw [hp]
        exact List.mem_append_right _ List.mem_cons_self
      obtain ⟨z, hz, rfl⟩ := List.mem_map.mp hx
      have hz2 := List.mem_range'_1.mp hz
      have hl : p.length < m - 1 := by
        have := congrArg List.length hp
        rw [List.nil_append, List.length_map, List.length_range', List.length_append, List.length_cons] at this
        omega
      have nxt : ∀ e : Nat, e < m → k [some (scr c n), some .town, some (.d (.int m)), some (.d (.int s)), some (.d (.int t)), some (.d (.int nd)), some (.d (.tuple (bs.map (fun n : Nat => PyData.int (n : Int))))), some (.own (es.map (fun n : Nat => PyData.int (n : Int)) ++ [.int (e : Int)])), some (.d (.int z))] := fun e he => by
        refine hk _ ⟨es ++ [e], some (.d (.int z)), ?_, ?_, ?_, ?_⟩
        · rw [List.map_append]
          rfl
        · rw [List.length_append, List.length_append, h1]
          rfl
        · intro a ha
          rcases List.mem_append.mp ha with ha | ha
          · exact h2 a ha
          · rw [List.mem_singleton] at ha
            omega
        · cases es with
          | nil => cases h3
          | cons a as => exact h3
      simp_arith only []
      refine dm fun a ha => ?_
      simp_arith only []
      refine ⟨by decide, d3 fun b hb0 hb1 => ?_⟩
      have hlen : (es.map (fun n : Nat => PyData.int (n : Int))).length < sizeLine := by
        rw [List.length_map, h1, sizeLine_eq]
        omega
      obtain rfl | rfl | rfl : b = 0 ∨ b = 1 ∨ b = 2 := by omega
      · exact ⟨_, rfl, _, rfl, hlen, nxt z (by omega)⟩
      · exact ⟨_, rfl, _, rfl, hlen, nxt 0 (by omega)⟩
      · exact ⟨_, rfl, _, rfl, hlen, nxt a ha⟩
    · obtain ⟨es, o, rfl, h1, h2, h3⟩ := hI
      refine hK _ ?_
      clear hK K
      simp_arith only []
      refine ⟨by simp, q ⟨s, t, nd, bs, es⟩ ⟨hs, ht, hnd, fun b hb => ?_, ?_, fun hb => ?_, ?_, h2, h3⟩⟩
      · have := List.mem_range'_1.mp (hbs.subset hb)
        exact ⟨by omega, by omega⟩
      · exact (List.pairwise_lt_range' (s := 1) (n := m - 1)).sublist hbs
      · exact hs2 _ (List.mem_map.mpr ⟨nd, hb, rfl⟩) rfl
      · rw [h1, List.nil_append, List.length_map, List.length_range']
        omega
  · exact h.elim
/-! ### protocols, patterns -/
def sp_law_protocol (c : Ct) : Spec := fun ss Q _ => match ss with
  | [s, .town, .d (.int S), .d (.int R)] => ∃ n s' r' : Nat, n ≤ 63 ∧ s = scr c n ∧ S = s' ∧ R = r' ∧ (2 ≤ s' ∧ s' ≤ 5 ∧ r' ≤ 8) ∧ ∀ p : Pr, p.Ok → p.m ≤ s' → p.rules.length ≤ r' → Q (.d p.enc)
  | _ => False
theorem use_protocol {c : Ct} {n : Nat} (s r : Nat) {Q : SV → Prop} {Ex : XP} (hn : n ≤ 63) (hm : 2 ≤ s ∧ s ≤ 5 ∧ r ≤ 8) (q : ∀ p : Pr, p.Ok → p.m ≤ s → p.rules.length ≤ r → Q (.d p.enc)) : sp_law_protocol c [scr c n, .town, .d (.int s), .d (.int r)] Q Ex := ⟨n, s, r, hn, rfl, rfl, rfl, hm, q⟩
theorem each_rules {m : Nat} : ∀ {ys : List PyData}, (∀ y ∈ ys, ∃ r : Rl, y = r.enc ∧ r.Ok m) → ∃ rs : List Rl, ys = rs.map Rl.enc ∧ ∀ r ∈ rs, r.Ok m
  | [], _ => ⟨[], rfl, fun _ z => nomatch z⟩
  | y :: ys, h => by
    obtain ⟨rs, rfl, h2⟩ := each_rules fun z hz => h z (List.mem_cons_of_mem _ hz)
    obtain ⟨r, rfl, h1⟩ := h y List.mem_cons_self
    refine ⟨r :: rs, rfl, fun z hz => ?_⟩
    rcases List.mem_cons.mp hz with rfl | hz
    · exact h1
    · exact h2 z hz
def t_law_protocol (c : Ct) : DS :=
  (sSeq (sSetF 4 (dOp wAdd (dC (.d (.int 2))) (dCall (sp_law_draw c) (daCons (dVar 0) (daCons (dVar 1) (daCons (dOp (wInt2 fun i j => .int (i - j)) (dVar 2) (dC (.d (.int 1)))) daNil))))))
  (sRet (dTup (daCons (dVar 4) (daCons (dOne oTuple (dLc (iRng1D (dCall (sp_law_draw c) (daCons (dVar 0) (daCons (dVar 1) (daCons (dOp wAdd (dVar 3) (dC (.d (.int 1)))) daNil))))) (gN 5) bYes (dCall (sp_law_rule c) (daCons (dVar 0) (daCons (dVar 1) (daCons (dVar 4) daNil)))) [5])) daNil)))))
theorem rd_law_protocol (c : Ct) (ss : List SV) (Q : SV → Prop) (Ex : XP) (h : sp_law_protocol c ss Q Ex) : t_law_protocol c { nx := fun _ => Q (.d .none), rt := Q } (startD 6 ss) Ex := by
  unfold sp_law_protocol at h
  split at h
  · rename_i s S R
    obtain ⟨n, s', r', hn, rfl, rfl, rfl, hm, q⟩ := h
    show t_law_protocol c _ [some (scr c n), some .town, some (.d (.int s')), some (.d (.int r')), none, none] Ex
    unfold t_law_protocol
    refine seqK fun K hK => ?_
    simp_arith only []
    refine use_draw hn (by omega) fun x h0 h1 => ?_
    obtain ⟨k, rfl⟩ := Int.eq_ofNat_of_zero_le h0
    simp_arith only []
    refine hK _ ?_
    clear hK K
    have ek : (2 : Int) + (k : Int) = ((2 + k : Nat) : Int) := by omega
    rw [ek]
    simp_arith only []
    refine use_draw hn (by omega) fun x h2 h3 => ?_
    obtain ⟨l, rfl⟩ := Int.eq_ofNat_of_zero_le h2
    simp_arith only []
    refine ⟨by omega, by omega, ?_⟩
    refine lcR_each (fun _ d => ∃ r : Rl, d = r.enc ∧ r.Ok (2 + k)) _ (fun x _ k' hk => ?_) fun ys hl hy => ?_
    · simp_arith only [lcT]
      exact use_rule hn (by omega) fun r hr => ⟨_, rfl, hk _ ⟨r, rfl, hr⟩⟩
    · rw [rngD_len] at hl
      obtain ⟨rs, rfl, h4⟩ := each_rules fun y hy2 => (hy y hy2).elim fun x hx => hx.2
      rw [List.length_map] at hl
      have hl2 : rs.length ≤ r' := by omega
      exact ⟨by decide, q ⟨2 + k, rs⟩ ⟨by show 2 ≤ 2 + k; omega, by show 2 + k ≤ 5; omega, by show rs.length ≤ 8; omega, h4⟩ (by show 2 + k ≤ s'; omega) hl2⟩
  · exact h.elim
def sp_law_pattern (c : Ct) : Spec := fun ss Q _ => match ss with
  | [s, .town, .d (.int M), .d (.int T)] => ∃ n m t : Nat, n ≤ 63 ∧ s = scr c n ∧ M = m ∧ T = t ∧ (2 ≤ m ∧ m ≤ 6 ∧ 1 ≤ t ∧ t ≤ 100) ∧ ∀ ns : List Nat, ns.length = m → ns.head? = some 0 → 1 ≤ ns.sum → ns.sum ≤ t → Q (.d (natsD ns))
  | _ => False
theorem use_pattern {c : Ct} {n : Nat} (m t : Nat) {Q : SV → Prop} {Ex : XP} (hn : n ≤ 63) (hm : 2 ≤ m ∧ m ≤ 6 ∧ 1 ≤ t ∧ t ≤ 100) (q : ∀ ns : List Nat, ns.length = m → ns.head? = some 0 → 1 ≤ ns.sum → ns.sum ≤ t → Q (.d (natsD ns))) : sp_law_pattern c [scr c n, .town, .d (.int m), .d (.int t)] Q Ex := ⟨n, m, t, hn, rfl, rfl, rfl, hm, q⟩
theorem sum_set1 : ∀ (ns : List Nat) (j x : Nat), ns[j]? = some x → (ns.set j (x + 1)).sum = ns.sum + 1
  | [], _, _, h => by simp at h
  | y :: ns, 0, x, h => by
    have e : y = x := by simpa using h
    subst e
    rw [List.set_cons_zero, List.sum_cons, List.sum_cons]
    omega
  | y :: ns, j + 1, x, h => by
    rw [List.set_cons_succ, List.sum_cons, List.sum_cons, sum_set1 ns j x (by simpa using h)]
    omega
theorem head_set (as : List Nat) (a j : Nat) {x : Nat} : ((a :: as).set (1 + j) x).head? = (a :: as).head? := by
  rw [Nat.add_comm, List.set_cons_succ]
  rfl
def t_law_pattern (c : Ct) : DS :=
  (sSeq (sSet 4 (dOp wMul (dC (.own [(.int 0)])) (dVar 2)))
  (sSeq (sFor (iRng1D (dOp wAdd (dC (.d (.int 1))) (dCall (sp_law_draw c) (daCons (dVar 0) (daCons (dVar 1) (daCons (dVar 3) daNil)))))) (gN 5) (sAugI 4 (fun i j => i + j) (dOp wAdd (dC (.d (.int 1))) (dCall (sp_law_draw c) (daCons (dVar 0) (daCons (dVar 1) (daCons (dOp (wInt2 fun i j => .int (i - j)) (dVar 2) (dC (.d (.int 1)))) daNil))))) (dC (.d (.int 1)))))
  (sRet (dOne oTuple (dVar 4)))))
theorem rd_law_pattern (c : Ct) (ss : List SV) (Q : SV → Prop) (Ex : XP) (h : sp_law_pattern c ss Q Ex) : t_law_pattern c { nx := fun _ => Q (.d .none), rt := Q } (startD 6 ss) Ex := by
  unfold sp_law_pattern at h
  split at h
  · rename_i s M T
    obtain ⟨n, m, t, hn, rfl, rfl, rfl, hm, q⟩ := h
    show t_law_pattern c _ [some (scr c n), some .town, some (.d (.int m)), some (.d (.int t)), none, none] Ex
    unfold t_law_pattern
    refine seqK fun K hK => ?_
    simp_arith only []
    rw [Int.toNat_natCast, List.flatten_replicate_singleton, show List.replicate m (PyData.int 0) = (List.replicate m (0 : Nat)).map (fun n : Nat => PyData.int (n : Int)) by rw [List.map_replicate]; rfl]
    refine ⟨by omega, by omega, by decide, hK _ ?_⟩
    clear hK K
    refine seqK fun K hK => ?_
    simp_arith only []
    refine use_draw hn (by omega) fun x h0 h1 => ?_
    obtain ⟨k, rfl⟩ := Int.eq_ofNat_of_zero_le h0
    simp_arith only []
    refine ⟨by omega, by omega, ?_⟩
    have e0 : (List.replicate m (0 : Nat)).head? = some 0 := by
      cases m with
      | zero => omega
      | succ m => rfl
    refine forR_inv (fun pre δ => ∃ (ns : List Nat) (o : Option SV), δ = [some (scr c n), some .town, some (.d (.int m)), some (.d (.int t)), some (.own (ns.map (fun n : Nat => PyData.int (n : Int)))), o] ∧ ns.length = m ∧ ns.head? = some 0 ∧ ns.sum = pre.length) _ [] _
      ⟨List.replicate m 0, none, rfl, List.length_replicate, e0, by simp⟩ (fun p x r δ k' hp hI hk => ?_) fun δ' hI => ?_
    · obtain ⟨ns, o, rfl, h2, h3, h4⟩ := hI
      have hx : x ∈ rngD 0 ((1 : Int) + (k : Int)).toNat := by
        rw [List.nil_append] at hp
        rw [hp]
        exact List.mem_append_right _ List.mem_cons_self
      obtain ⟨z, rfl⟩ : ∃ z : Nat, x = .int (z : Int) := by
        rw [show ((0 : Int)) = ((0 : Nat) : Int) from rfl, rngD_nat] at hx
        obtain ⟨z, _, rfl⟩ := List.mem_map.mp hx
        exact ⟨z, rfl⟩
      simp_arith only []
      refine use_draw hn (by omega) fun y h5 h6 => ?_
      obtain ⟨j, rfl⟩ := Int.eq_ofNat_of_zero_le h5
      have hj : 1 + j < ns.length := by omega
      have ej : (1 : Int) + (j : Int) = ((1 + j : Nat) : Int) := by omega
      have gj : ns[1 + j]? = some ns[1 + j] := List.getElem?_eq_getElem hj
      simp_arith only []
      refine ⟨1 + j, ?_, by omega, ns[1 + j], ?_, ?_⟩
      · unfold ixN
        rw [List.length_map, if_pos (by omega), if_pos (by omega)]
        congr 1
      · rw [List.getElem?_map, gj]
        rfl
      · have es : (ns.map (fun n : Nat => PyData.int (n : Int))).set (1 + j) (.int ((ns[1 + j] : Int) + 1)) = (ns.set (1 + j) (ns[1 + j] + 1)).map (fun n : Nat => PyData.int (n : Int)) := by
          rw [List.map_set]
          rfl
        rw [es]
        refine hk _ ⟨_, some (.d (.int z)), rfl, by rw [List.length_set]; exact h2, ?_, ?_⟩
        · cases ns with
          | nil => cases h3
          | cons a as =>
            rw [head_set as a j]
            exact h3
        · rw [sum_set1 ns _ _ gj, h4, List.length_append]
          rfl
    · obtain ⟨ns, o, rfl, h2, h3, h4⟩ := hI
      rw [List.nil_append, rngD_len] at h4
      refine hK _ ?_
      clear hK K
      simp_arith only []
      exact q ns h2 h3 (by omega) (by omega)
  · exact h.elim
end DL
/-! Fd: values in which one part is invalid. -/
namespace DL
open PySem PySem.Spec PyProof.Rows L2
local macro_rules
  | `(tactic| simp_arith only [$xs,*]) => `(tactic| simp only [sSeq, sNext, sExpr, sRet, sIf, sSet, sSetF, sAsg, sPar, sRaise, sFor, sApp, sExt, sPop, sItem, sAugI, sAug, sFrz, sMove, sBreak, sCont, gN, gT, gsNil, gsCons, dVar, vS_d, vS_own, vS_town, vS_v, vS_scr, fz_scr, dC, dOp, dCall, dCallK, daNil, daCons, dTup, dLst, dSl, doNone, doSome, dIf, dAnd, dOr, dNot, dNeg, dOne, dTwoI, dChain, dLc, bVal, bTru, bScr, dLenS, dIxS, dCount, dRest, sCount, sRest, bNot, bAnd, bOr, bYes, wInt2, wIntC, wAdd, wMul, wIx, wIn, wEqD, wIsN, oLen, oTuple, oList, oAll, oSum, oIsi, iSeq, iRng1D, iRng2D, iEnumD, iZipD, fz_d, fz_own, fz_town, fz_v, fz_abs, asDs, fzB, wipeD, asD_d, asD_own, asD_bor, asL_list, asL_tuple, asL_own, asL_bor, asL_int, asL_bool, asL_none, asS_list, asS_tuple, asS_own, asS_bor, tru_bool, tru_int, tru_none, tru_tuple, tru_list, tru_own, tru_bor, stO_d, stO_own, stO_town, stO_v, stO_abs, rtS_d, rtS_own, rtS_bor, rtS_v, rtS_abs, isN_none, isN_tuple, isN_int, isN_list, isN_bool, List.map_cons, List.map_nil, List.length_cons, List.length_nil, List.cons_append, List.nil_append, List.getElem?_cons_zero, List.getElem?_cons_succ, List.set_cons_zero, List.set_cons_succ, Option.map_some, Option.map_none, Option.some.injEq, SV.d.injEq, SV.own.injEq, PyData.int.injEq, PyData.bool.injEq, PyData.tuple.injEq, PyData.list.injEq, PyData.str.injEq, List.cons.injEq, exists_eq_left, exists_eq_left', exists_eq_right, exists_and_left, exists_and_right, exists_const, and_true, true_and, if_true, if_false, reduceCtorEq, false_or, or_false, false_and, and_false, Bool.not_true, Bool.not_false, Bool.false_eq_true, ite_true, ite_false, reduceIte, Bool.true_eq_false, Nat.reduceAdd, nc0, nc1, nc2, nc3, nc4, nc5, nc6, nc7, nc8, Int.reduceBEq, beq_self_eq_true, Bool.and_true, Bool.true_and, Bool.and_false, Bool.false_and, Nat.zero_add, $xs,*])
def odds : List PyData := [.none, .tuple [.str ("x" : Str)], .int (-1), .int 9, .list [], .bool true]
mutual
def spoilt : PyData → List PyData
  | .tuple xs => spoiltL [] xs ++ [.list xs, .tuple (xs ++ [.none])]
  | _ => []
def spoiltL : List PyData → List PyData → List PyData
  | _, [] => []
  | pre, x :: r => ((odds ++ spoilt x).map fun o => .tuple (pre ++ o :: r)) ++ spoiltL (pre ++ [x]) r
end
theorem spoiltL_cons (pre : List PyData) (x : PyData) (r : List PyData) : spoiltL pre (x :: r) = ((odds ++ spoilt x).map fun o => PyData.tuple (pre ++ o :: r)) ++ spoiltL (pre ++ [x]) r := by rw [spoiltL]
theorem spoilt_tuple (xs : List PyData) : spoilt (.tuple xs) = spoiltL [] xs ++ [.list xs, .tuple (xs ++ [.none])] := by rw [spoilt]
theorem spoiltL_len : ∀ (xs pre : List PyData), xs.length ≤ (spoiltL pre xs).length
  | [], _ => Nat.zero_le _
  | x :: r, pre => by
    have := spoiltL_len r (pre ++ [x])
    rw [spoiltL_cons, List.length_append, List.length_map, List.length_append, List.length_cons]
    show _ ≤ (6 + _) + _
    omega
theorem spoiltL_sub : ∀ (xs pre : List PyData) (x : PyData), x ∈ xs → (spoilt x).length ≤ (spoiltL pre xs).length
  | [], _, _, h => nomatch h
  | y :: r, pre, x, h => by
    rw [spoiltL_cons, List.length_append, List.length_map, List.length_append]
    rcases List.mem_cons.mp h with rfl | h
    · omega
    · have := spoiltL_sub r (pre ++ [y]) x h
      omega
theorem spoiltL_at {xs : List PyData} {k : Nat} {x : PyData} (h : xs[k]? = some x) : spoiltL (xs.take k) (xs.drop k) = ((odds ++ spoilt x).map fun o => PyData.tuple (xs.take k ++ o :: xs.drop (k + 1))) ++ spoiltL (xs.take (k + 1)) (xs.drop (k + 1)) := by
  obtain ⟨hk, e⟩ := List.getElem?_eq_some_iff.mp h
  rw [List.drop_eq_getElem_cons hk, spoiltL_cons, e, List.take_succ_eq_append_getElem hk, e]
theorem prs_at : ∀ (ds : List PyData) (i : Nat) (p : List PyData) (e : PyData) (r : List PyData), prs i ds = p ++ e :: r → ∃ x, ds[p.length]? = some x ∧ e = .tuple [.int ((i + p.length : Nat) : Int), x]
  | [], i, p, e, r, h => by
    have := congrArg List.length h
    simp [prs] at this
  | d :: ds, i, [], e, r, h => by
    have h' : PyData.tuple [.int (i : Int), d] :: prs (i + 1) ds = e :: r := h
    injection h' with h1 h2
    exact ⟨d, rfl, h1.symm⟩
  | d :: ds, i, q :: p, e, r, h => by
    have h' : PyData.tuple [.int (i : Int), d] :: prs (i + 1) ds = q :: (p ++ e :: r) := h
    injection h' with h1 h2
    obtain ⟨x, h3, h4⟩ := prs_at ds (i + 1) p e r h2
    refine ⟨x, by simpa using h3, ?_⟩
    rw [h4, List.length_cons]
    congr 3
    omega
theorem depth_mem : ∀ {xs : List PyData} {x : PyData}, x ∈ xs → x.depth ≤ PyData.depthAll xs
  | [], _, h => nomatch h
  | y :: r, x, h => by
    show _ ≤ max y.depth (PyData.depthAll r)
    rcases List.mem_cons.mp h with rfl | h
    · omega
    · have := depth_mem h
      omega
theorem depth_tuple (xs : List PyData) : (PyData.tuple xs).depth = PyData.depthAll xs + 1 := by rw [PyData.depth]
def sp_law_spoilt_ (d : Nat) (c : Ct) : Spec := fun ss Q _ => match ss with
  | [.d v] => v.depth < d ∧ (spoilt v).length ≤ 100000 ∧ Q (.own (spoilt v))
  | _ => False
def sp_law_spoilt (c : Ct) : Spec := sp_law_spoilt_ 6 c
theorem at_law_spoilt_ {d : Nat} {c : Ct} {v : PyData} {Q : SV → Prop} {Ex : XP} : sp_law_spoilt_ d c [.d v] Q Ex = (v.depth < d ∧ (spoilt v).length ≤ 100000 ∧ Q (.own (spoilt v))) := rfl
theorem at_law_spoilt {c : Ct} {v : PyData} {Q : SV → Prop} {Ex : XP} : sp_law_spoilt c [.d v] Q Ex = (v.depth < 6 ∧ (spoilt v).length ≤ 100000 ∧ Q (.own (spoilt v))) := rfl
def t_law_spoilt (d : Nat) (c : Ct) : DS :=
  (sSeq (sSet 1 (dLst daNil))
  (sSeq (sIf (bNot (bTru (dOne (oIsi "tuple") (dVar 0)))) (sRet (dVar 1)) sNext)
  (sSeq (sFor (iEnumD (dVar 0)) (gT 2 (gsCons (gN 2) (gsCons (gN 3) gsNil))) (sFor (iSeq (dOp wAdd (dC (.own [.none, (.tuple [(.str ("x" : Str))]), (.int (-1)), (.int 9), (.list []), (.bool true)])) (dCall (sp_law_spoilt_ d c) (daCons (dVar 3) daNil)))) (gN 4) (sApp 1 (dOp wAdd (dOp wAdd (dSl (dVar 0) doNone (doSome (dVar 2))) (dTup (daCons (dVar 4) daNil))) (dSl (dVar 0) (doSome (dOp wAdd (dVar 2) (dC (.d (.int 1))))) doNone)))))
  (sRet (dOp wAdd (dVar 1) (dLst (daCons (dOne oList (dVar 0)) (daCons (dOp wAdd (dVar 0) (dC (.d (.tuple [.none])))) daNil))))))))
theorem rd_law_spoilt (d : Nat) (c : Ct) (ss : List SV) (Q : SV → Prop) (Ex : XP) (h : sp_law_spoilt_ (d + 1) c ss Q Ex) : t_law_spoilt d c { nx := fun _ => Q (.d .none), rt := Q } (startD 5 ss) Ex := by
  unfold sp_law_spoilt_ at h
  split at h
  · rename_i v
    obtain ⟨hd, hs, q⟩ := h
    show t_law_spoilt d c _ [some (.d v), none, none, none, none] Ex
    cases v with
    | tuple xs =>
      rw [depth_tuple] at hd
      rw [spoilt_tuple] at hs q
      rw [List.length_append] at hs
      have hx := spoiltL_len xs []
      unfold t_law_spoilt
      refine seqK fun K hK => ?_
      simp_arith only []
      refine ⟨by decide, hK _ ?_⟩
      clear hK K
      refine seqK fun K hK => ?_
      simp_arith only [isi_tuple]
      refine hK _ ?_
      clear hK K
      refine seqK fun K hK => ?_
      have body := hs
      simp_arith only []
      refine forR_inv (fun pre δ => ∃ (acc : List PyData) (o2 o3 o4 : Option SV), δ = [some (.d (.tuple xs)), some (.own acc), o2, o3, o4] ∧ acc ++ spoiltL (xs.take pre.length) (xs.drop pre.length) = spoiltL [] xs) _ [] _ ⟨[], none, none, none, rfl, rfl⟩ (fun p e r δ k hp hI hk => ?_) fun δ' hI => ?_
      · obtain ⟨acc, o2, o3, o4, rfl, hacc⟩ := hI
        rw [List.nil_append] at hp
        obtain ⟨x, hx1, rfl⟩ := prs_at xs 0 p e r hp
        rw [Nat.zero_add]
        rw [spoiltL_at hx1] at hacc
        have hxm : x ∈ xs := List.mem_of_getElem? hx1
        have hxd := depth_mem hxm
        have hxs := spoiltL_sub xs [] x hxm
        have hal : acc.length + (odds ++ spoilt x).length ≤ (spoiltL [] xs).length := by
          rw [← hacc, List.length_append (as := acc), List.length_append (bs := spoiltL _ _), List.length_map]
          omega
        simp_arith only [at_law_spoilt_]
        refine ⟨by omega, by omega, by rw [sizeLine_eq]; omega, ?_⟩
        show forR _ _ (odds ++ spoilt x) _ _ _
        refine forR_inv (fun pre δ => ∃ o4 : Option SV, δ = [some (.d (.tuple xs)), some (.own (acc ++ pre.map fun o => PyData.tuple (xs.take p.length ++ o :: xs.drop (p.length + 1)))), some (.d (.int p.length)), some (.d x), o4]) _ [] _
          ⟨o4, by rw [List.map_nil, List.append_nil]⟩ (fun p' o r' δ k' hp' hI hk' => ?_) fun δ' hI => ?_
        · obtain ⟨o4', rfl⟩ := hI
          rw [List.nil_append] at hp'
          have hpl : p'.length < (odds ++ spoilt x).length := by
            rw [hp', List.length_append, List.length_cons]
            omega
          have hpx : p.length < xs.length := (List.getElem?_eq_some_iff.mp hx1).1
          have e1 : ((p.length : Int) + 1) = ((p.length + 1 : Nat) : Int) := rfl
          simp_arith only [e1, cut_to, cut_from]
          refine ⟨by decide, ?_, ?_, ?_, hk' _ ⟨some (.d o), ?_⟩⟩
          · rw [List.length_take, sizeLine_eq]
            omega
          · rw [List.length_append, List.length_take, List.length_drop, sizeLine_eq, List.length_cons, List.length_nil]
            omega
          · rw [List.length_append, List.length_map, sizeLine_eq]
            omega
          · rw [List.map_append, ← List.append_assoc, List.map_cons, List.map_nil, List.append_assoc (List.take _ _)]
            rfl
        · obtain ⟨o4', rfl⟩ := hI
          refine hk _ ⟨_, _, _, _, rfl, ?_⟩
          rw [List.nil_append, List.length_append, List.length_cons, List.length_nil, List.append_assoc]
          exact hacc
      · obtain ⟨acc, o2, o3, o4, rfl, hacc⟩ := hI
        rw [List.nil_append, prs_len, List.take_length, List.drop_length] at hacc
        have e : acc = spoiltL [] xs := by
          rw [← hacc, spoiltL, List.append_nil]
        subst e
        refine hK _ ?_
        clear hK K
        simp_arith only []
        exact ⟨by rw [sizeLine_eq]; omega, by decide, by rw [sizeLine_eq]; omega, q⟩
    | none =>
      simp_arith only [t_law_spoilt, isi_tuple]
      exact ⟨by decide, q⟩
    | bool _ =>
      simp_arith only [t_law_spoilt, isi_tuple]
      exact ⟨by decide, q⟩
    | int _ =>
      simp_arith only [t_law_spoilt, isi_tuple]
      exact ⟨by decide, q⟩
    | str _ =>
      simp_arith only [t_law_spoilt, isi_tuple]
      exact ⟨by decide, q⟩
    | list _ =>
      simp_arith only [t_law_spoilt, isi_tuple]
      exact ⟨by decide, q⟩
    | dict _ =>
      simp_arith only [t_law_spoilt, isi_tuple]
      exact ⟨by decide, q⟩
  · exact h.elim
end DL
/-! Fe: plain facts on spoilt values. -/
namespace DL
open PySem PySem.Spec PyProof.Rows L2
/-! ### what may be compared -/
def Fit (k : Nat) (v : PyData) : Prop := v.canLay0 = true ∧ v.depth ≤ k
theorem lay_all : ∀ {xs : List PyData}, PyData.canLayAll0 xs = true ↔ ∀ x ∈ xs, x.canLay0 = true
  | [] => ⟨fun _ _ z => (nomatch z), fun _ => rfl⟩
  | x :: xs => by
    have ih := lay_all (xs := xs)
    show (x.canLay0 && PyData.canLayAll0 xs) = true ↔ _
    rw [Bool.and_eq_true, ih]
    simp
theorem dep_all : ∀ {xs : List PyData} {k : Nat}, PyData.depthAll xs ≤ k ↔ ∀ x ∈ xs, x.depth ≤ k
  | [], k => ⟨fun _ _ z => (nomatch z), fun _ => Nat.zero_le _⟩
  | x :: xs, k => by
    have ih := dep_all (xs := xs) (k := k)
    show max x.depth (PyData.depthAll xs) ≤ k ↔ _
    rw [Nat.max_le, ih]
    simp
theorem Fit.mono {k l : Nat} {v : PyData} (h : Fit k v) (e : k ≤ l) : Fit l v := ⟨h.1, Nat.le_trans h.2 e⟩
theorem Fit.tuple {k : Nat} {xs : List PyData} (h : ∀ x ∈ xs, Fit k x) : Fit (k + 1) (.tuple xs) :=
  ⟨by rw [PyData.canLay0]; exact lay_all.mpr fun x hx => (h x hx).1, by rw [PyData.depth]; exact Nat.succ_le_succ (dep_all.mpr fun x hx => (h x hx).2)⟩
theorem Fit.list {k : Nat} {xs : List PyData} (h : ∀ x ∈ xs, Fit k x) : Fit (k + 1) (.list xs) :=
  ⟨by rw [PyData.canLay0]; exact lay_all.mpr fun x hx => (h x hx).1, by rw [PyData.depth]; exact Nat.succ_le_succ (dep_all.mpr fun x hx => (h x hx).2)⟩
theorem Fit.ofTuple {k : Nat} {xs : List PyData} (h : Fit (k + 1) (.tuple xs)) : ∀ x ∈ xs, Fit k x := fun x hx => by
  obtain ⟨h1, h2⟩ := h
  rw [PyData.canLay0] at h1
  rw [PyData.depth] at h2
  exact ⟨lay_all.mp h1 x hx, dep_all.mp (Nat.le_of_succ_le_succ h2) x hx⟩
theorem Fit.ofList {k : Nat} {xs : List PyData} (h : Fit (k + 1) (.list xs)) : ∀ x ∈ xs, Fit k x := fun x hx => by
  obtain ⟨h1, h2⟩ := h
  rw [PyData.canLay0] at h1
  rw [PyData.depth] at h2
  exact ⟨lay_all.mp h1 x hx, dep_all.mp (Nat.le_of_succ_le_succ h2) x hx⟩
theorem Fit.sh {k : Nat} {v : PyData} (h : Fit k v) (e : k ≤ 64) : SeqAt.shaped v = true := by
  show (v.canLay0 && decide (v.depth ≤ 64)) = true
  rw [Bool.and_eq_true, decide_eq_true_eq]
  exact ⟨h.1, Nat.le_trans h.2 e⟩
theorem fit_int {k : Nat} (i : Int) : Fit k (.int i) := ⟨rfl, Nat.zero_le _⟩
theorem fit_bool {k : Nat} (i : Bool) : Fit k (.bool i) := ⟨rfl, Nat.zero_le _⟩
theorem fit_none {k : Nat} : Fit k .none := ⟨rfl, Nat.zero_le _⟩
theorem fit_nats (ns : List Nat) : Fit 1 (natsD ns) := Fit.tuple fun x hx => by
  obtain ⟨n, _, rfl⟩ := List.mem_map.mp hx
  exact fit_int _
theorem mem_cut {xs : List PyData} {lo hi : Option Int} {x : PyData} (h : x ∈ cut xs lo hi) : x ∈ xs := List.mem_of_mem_drop (List.mem_of_mem_take h)
theorem fit_rule (r : Rl) : Fit 2 r.enc := Fit.tuple fun x hx => by
  simp only [List.mem_cons, List.not_mem_nil, or_false] at hx
  rcases hx with rfl | rfl | rfl | rfl | rfl
  · exact fit_int _
  · exact fit_int _
  · exact fit_int _
  · exact fit_nats _
  · exact fit_nats _
theorem fit_rules (rs : List Rl) : Fit 3 (.tuple (rs.map Rl.enc)) := Fit.tuple fun x hx => by
  obtain ⟨r, _, rfl⟩ := List.mem_map.mp hx
  exact fit_rule r
theorem fit_pr (p : Pr) : Fit 4 p.enc := Fit.tuple fun x hx => by
  simp only [List.mem_cons, List.not_mem_nil, or_false] at hx
  rcases hx with rfl | rfl
  · exact fit_int _
  · exact fit_rules _
theorem fit_odds : ∀ o ∈ odds, Fit 1 o := fun o ho => by
  simp only [odds, List.mem_cons, List.not_mem_nil, or_false] at ho
  rcases ho with rfl | rfl | rfl | rfl | rfl | rfl
  · exact fit_none
  · exact ⟨by decide +kernel, by decide⟩
  · exact fit_int _
  · exact fit_int _
  · exact ⟨by decide, by decide⟩
  · exact fit_bool _
/-- what a spoilt value is -/
theorem mem_spoiltL : ∀ (xs pre : List PyData) (o : PyData), o ∈ spoiltL pre xs → ∃ a x b y, xs = a ++ x :: b ∧ o = .tuple (pre ++ (a ++ y :: b)) ∧ (y ∈ odds ∨ y ∈ spoilt x)
  | [], pre, o, h => by
    rw [spoiltL] at h
    cases h
  | x :: r, pre, o, h => by
    rw [spoiltL_cons] at h
    rcases List.mem_append.mp h with h | h
    · obtain ⟨y, hy, rfl⟩ := List.mem_map.mp h
      exact ⟨[], x, r, y, rfl, rfl, List.mem_append.mp hy⟩
    · obtain ⟨a, z, b, y, rfl, rfl, hy⟩ := mem_spoiltL r (pre ++ [x]) o h
      refine ⟨x :: a, z, b, y, rfl, ?_, hy⟩
      rw [List.append_assoc]
      rfl
theorem mem_spoilt {xs : List PyData} {o : PyData} (h : o ∈ spoilt (.tuple xs)) : (∃ a x b y, xs = a ++ x :: b ∧ o = .tuple (a ++ y :: b) ∧ (y ∈ odds ∨ y ∈ spoilt x)) ∨ o = .list xs ∨ o = .tuple (xs ++ [.none]) := by
  rw [spoilt_tuple] at h
  rcases List.mem_append.mp h with h | h
  · obtain ⟨a, x, b, y, h1, h2, h3⟩ := mem_spoiltL xs [] o h
    exact .inl ⟨a, x, b, y, h1, h2, h3⟩
  · simp only [List.mem_cons, List.not_mem_nil, or_false] at h
    exact .inr h
theorem spoilt_int (i : Int) : spoilt (.int i) = [] := by rw [spoilt]; intro _ z; cases z
mutual
theorem spoilt_fit : ∀ (v : PyData) (k : Nat), Fit k v → ∀ o ∈ spoilt v, Fit (k + 1) o
  | .tuple xs, 0, h, _, _ => absurd h.2 (by rw [PyData.depth]; omega)
  | .tuple xs, k + 1, h, o, ho => by
    rw [spoilt_tuple] at ho
    have hx := h.ofTuple
    rcases List.mem_append.mp ho with ho | ho
    · exact spoiltL_fit xs [] k hx (fun _ z => nomatch z) o ho
    · simp only [List.mem_cons, List.not_mem_nil, or_false] at ho
      rcases ho with rfl | rfl
      · exact (Fit.list hx).mono (by omega)
      · refine (Fit.tuple (k := k) fun x hx2 => ?_).mono (by omega)
        rcases List.mem_append.mp hx2 with h2 | h2
        · exact hx x h2
        · rw [List.mem_singleton] at h2
          subst h2
          exact fit_none
  | .none, _, _, o, ho => by rw [spoilt] at ho; cases ho; intro _ z; cases z
  | .bool _, _, _, o, ho => by rw [spoilt] at ho; cases ho; intro _ z; cases z
  | .int _, _, _, o, ho => by rw [spoilt] at ho; cases ho; intro _ z; cases z
  | .str _, _, _, o, ho => by rw [spoilt] at ho; cases ho; intro _ z; cases z
  | .list _, _, _, o, ho => by rw [spoilt] at ho; cases ho; intro _ z; cases z
  | .dict _, _, _, o, ho => by rw [spoilt] at ho; cases ho; intro _ z; cases z
theorem spoiltL_fit : ∀ (xs pre : List PyData) (k : Nat), (∀ x ∈ xs, Fit k x) → (∀ x ∈ pre, Fit k x) → ∀ o ∈ spoiltL pre xs, Fit (k + 2) o
  | [], pre, k, _, _, o, ho => by rw [spoiltL] at ho; cases ho
  | x :: r, pre, k, hx, hp, o, ho => by
    rw [spoiltL_cons] at ho
    rcases List.mem_append.mp ho with ho | ho
    · obtain ⟨y, hy, rfl⟩ := List.mem_map.mp ho
      have fy : Fit (k + 1) y := by
        rcases List.mem_append.mp hy with hy | hy
        · exact (fit_odds y hy).mono (by omega)
        · exact spoilt_fit x k (hx x List.mem_cons_self) y hy
      refine Fit.tuple fun z hz => ?_
      rcases List.mem_append.mp hz with hz | hz
      · exact (hp z hz).mono (by omega)
      · rcases List.mem_cons.mp hz with rfl | hz
        · exact fy
        · exact (hx z (List.mem_cons_of_mem _ hz)).mono (by omega)
    · refine spoiltL_fit r (pre ++ [x]) k (fun z hz => hx z (List.mem_cons_of_mem _ hz)) (fun z hz => ?_) o ho
      rcases List.mem_append.mp hz with hz | hz
      · exact hp z hz
      · rw [List.mem_singleton] at hz
        subst hz
        exact hx _ List.mem_cons_self
end
/-! ### spoilt rules, protocols, configurations -/
theorem odd_btw {o : PyData} (h : o ∈ odds) {lo m : Nat} (hm : m ≤ 9) : isBetween o (lo : Int) ((m : Int) - 1) = false := by
  simp only [odds, List.mem_cons, List.not_mem_nil, or_false] at h
  rcases h with rfl | rfl | rfl | rfl | rfl | rfl
  · rfl
  · rfl
  · simp only [isBetween, Bool.and_eq_false_iff, decide_eq_false_iff_not]
    omega
  · simp only [isBetween, Bool.and_eq_false_iff, decide_eq_false_iff_not]
    omega
  · rfl
  · rfl
theorem odd_are {o : PyData} (h : o ∈ odds) {lo m : Nat} (hm : m ≤ 9) : areBetween o (lo : Int) ((m : Int) - 1) = false := by
  simp only [odds, List.mem_cons, List.not_mem_nil, or_false] at h
  rcases h with rfl | rfl | rfl | rfl | rfl | rfl <;> rfl
theorem odd_rule {o : PyData} (h : o ∈ odds) {m : Int} : isRule m o = false := by
  simp only [odds, List.mem_cons, List.not_mem_nil, or_false] at h
  rcases h with rfl | rfl | rfl | rfl | rfl | rfl <;> rfl
theorem all_false {f : PyData → Bool} {xs : List PyData} {x : PyData} (h : x ∈ xs) (e : f x = false) : xs.all f = false := by
  rw [List.all_eq_false]
  exact ⟨x, h, by rw [e]; exact Bool.false_ne_true⟩
theorem sp_nats {ns : List Nat} {o : PyData} (h : o ∈ spoilt (natsD ns)) : (∃ ys y, o = .tuple ys ∧ y ∈ odds ∧ y ∈ ys ∧ ys.length = ns.length) ∨ o = .list (ns.map (fun n : Nat => PyData.int (n : Int))) ∨ o = .tuple (ns.map (fun n : Nat => PyData.int (n : Int)) ++ [.none]) := by
  rcases mem_spoilt h with ⟨a, x, b, y, h1, rfl, h3⟩ | h
  · have hx : x ∈ ns.map (fun n : Nat => PyData.int (n : Int)) := by
      rw [h1]
      exact List.mem_append_right _ List.mem_cons_self
    obtain ⟨n, _, rfl⟩ := List.mem_map.mp hx
    have hl := congrArg List.length h1
    rw [List.length_map, List.length_append, List.length_cons] at hl
    refine .inl ⟨_, y, rfl, ?_, List.mem_append_right _ List.mem_cons_self, by rw [List.length_append, List.length_cons, hl]⟩
    rcases h3 with h3 | h3
    · exact h3
    · rw [spoilt_int] at h3
      cases h3
  · exact .inr h
theorem sp_are {ns : List Nat} {o : PyData} (h : o ∈ spoilt (natsD ns)) {lo m : Nat} (hm : m ≤ 9) : areBetween o (lo : Int) ((m : Int) - 1) = false := by
  rcases sp_nats h with ⟨ys, y, rfl, h1, h2, _⟩ | rfl | rfl
  · exact all_false h2 (odd_btw h1 hm)
  · rfl
  · exact all_false (List.mem_append_right _ (List.mem_singleton.mpr rfl)) rfl
theorem rule_parts {s t n bars eff : PyData} {m : Nat} (h : areBetween (.tuple [s, t, n]) 0 ((m : Int) - 1) = false ∨ areBetween bars 1 ((m : Int) - 1) = false ∨ areBetween eff 0 ((m : Int) - 1) = false) : isRule m (.tuple [s, t, n, bars, eff]) = false := by
  unfold isRule
  rcases h with h | h | h
  · simp only [h, Bool.false_and]
  · simp only [h, Bool.false_and, Bool.and_false]
  · simp only [h, Bool.false_and, Bool.and_false]
theorem sp_rule {r : Rl} {o : PyData} (h : o ∈ spoilt r.enc) {m : Nat} (hm : m ≤ 9) : isRule m o = false := by
  rcases mem_spoilt h with ⟨a, x, b, y, h1, rfl, h3⟩ | rfl | rfl
  · have ho : ∀ {lo : Nat}, y ∈ odds ∨ y ∈ spoilt (natsD r.bars) ∨ y ∈ spoilt (natsD r.eff) → areBetween y (lo : Int) ((m : Int) - 1) = false := fun {lo} h => by
      rcases h with h | h | h
      · exact odd_are h hm
      · exact sp_are h hm
      · exact sp_are h hm
    have hi : ∀ i : Int, x = .int i → isBetween y ((0 : Nat) : Int) ((m : Int) - 1) = false := fun i e => by
      subst e
      rcases h3 with h3 | h3
      · exact odd_btw h3 hm
      · rw [spoilt_int] at h3
        cases h3
    match a, b, h1 with
    | [], _, h1 =>
      injection h1 with h1 h2
      subst h2
      exact rule_parts (.inl (all_false (x := y) (by simp) (hi _ h1.symm)))
    | [_], _, h1 =>
      injection h1 with h0 h1
      injection h1 with h1 h2
      subst h2
      exact rule_parts (.inl (all_false (x := y) (by simp) (hi _ h1.symm)))
    | [_, _], _, h1 =>
      injection h1 with h0 h1
      injection h1 with h0 h1
      injection h1 with h1 h2
      subst h2
      exact rule_parts (.inl (all_false (x := y) (by simp) (hi _ h1.symm)))
    | [_, _, _], _, h1 =>
      injection h1 with h0 h1
      injection h1 with h0 h1
      injection h1 with h0 h1
      injection h1 with h1 h2
      subst h2
      subst h1
      exact rule_parts (.inr (.inl (ho (lo := 1) (h3.elim .inl fun h => .inr (.inl h)))))
    | [_, _, _, _], _, h1 =>
      injection h1 with h0 h1
      injection h1 with h0 h1
      injection h1 with h0 h1
      injection h1 with h0 h1
      injection h1 with h1 h2
      subst h2
      subst h1
      exact rule_parts (.inr (.inr (ho (lo := 0) (h3.elim .inl fun h => .inr (.inr h)))))
    | _ :: _ :: _ :: _ :: _ :: a, _, h1 =>
      have := congrArg List.length h1
      simp at this
  · rfl
  · rfl
theorem sp_rules {rs : List Rl} {o : PyData} (h : o ∈ spoilt (.tuple (rs.map Rl.enc))) {m : Nat} (hm : m ≤ 9) : isProtocol (.tuple [.int (m : Int), o]) = false := by
  have key : ∀ {ys : List PyData} {y : PyData}, y ∈ ys → isRule m y = false → isProtocol (.tuple [.int (m : Int), .tuple ys]) = false := fun {ys y} h1 h2 => by
    unfold isProtocol
    simp only [all_false (f := isRule m) h1 h2, Bool.and_false]
  rcases mem_spoilt h with ⟨a, x, b, y, h1, rfl, h3⟩ | rfl | rfl
  · refine key (y := y) (List.mem_append_right _ List.mem_cons_self) ?_
    have hx : x ∈ rs.map Rl.enc := by
      rw [h1]
      exact List.mem_append_right _ List.mem_cons_self
    obtain ⟨r, _, rfl⟩ := List.mem_map.mp hx
    rcases h3 with h3 | h3
    · exact odd_rule h3
    · exact sp_rule h3 hm
  · rfl
  · exact key (y := .none) (List.mem_append_right _ (List.mem_singleton.mpr rfl)) rfl
theorem sp_conf {ns : List Nat} {o : PyData} (h : o ∈ spoilt (natsD ns)) {m : Int} : (∃ ys, o = .tuple ys ∧ (ys.any fun z => PyData.eqv z (.int 9)) = true) ∨ isConf m o = false := by
  have key : ∀ {ys : List PyData} {y : PyData}, y ∈ ys → isCount y = false → isConf m (.tuple ys) = false := fun {ys y} h1 h2 => by
    have e : areCounts m (.tuple ys) = false := by
      show (decide ((ys.length : Int) = m) && ys.all isCount) = false
      rw [all_false h1 h2, Bool.and_false]
    unfold isConf
    rw [e, Bool.false_and]
  rcases sp_nats h with ⟨ys, y, rfl, h1, h2, _⟩ | rfl | rfl
  · simp only [odds, List.mem_cons, List.not_mem_nil, or_false] at h1
    rcases h1 with rfl | rfl | rfl | rfl | rfl | rfl
    · exact .inr (key h2 rfl)
    · exact .inr (key h2 rfl)
    · exact .inr (key h2 (by decide))
    · exact .inl ⟨ys, rfl, List.any_eq_true.mpr ⟨_, h2, by decide⟩⟩
    · exact .inr (key h2 rfl)
    · exact .inr (key h2 rfl)
  · exact .inr rfl
  · exact .inr (key (y := .none) (List.mem_append_right _ (List.mem_singleton.mpr rfl)) rfl)
/-! ### how many spoilt values there are -/
theorem spoiltL_count {c : Nat} : ∀ (xs pre : List PyData), (∀ x ∈ xs, (spoilt x).length ≤ c) → (spoiltL pre xs).length ≤ xs.length * (6 + c)
  | [], _, _ => by rw [spoiltL]; exact Nat.zero_le _
  | x :: r, pre, h => by
    have ih := spoiltL_count r (pre ++ [x]) fun y hy => h y (List.mem_cons_of_mem _ hy)
    have hx := h x List.mem_cons_self
    rw [spoiltL_cons, List.length_append, List.length_map, List.length_append, List.length_cons, Nat.succ_mul]
    show (6 + _) + _ ≤ _
    omega
theorem spoilt_count {c n : Nat} {xs : List PyData} (h : ∀ x ∈ xs, (spoilt x).length ≤ c) (hl : xs.length ≤ n) : (spoilt (.tuple xs)).length ≤ n * (6 + c) + 2 := by
  have h1 := spoiltL_count xs [] h
  have h2 := Nat.mul_le_mul_right (6 + c) hl
  rw [spoilt_tuple, List.length_append]
  show _ + 2 ≤ _
  omega
theorem count_nats {ns : List Nat} {n : Nat} (h : ns.length ≤ n) : (spoilt (natsD ns)).length ≤ n * 6 + 2 := by
  refine spoilt_count (c := 0) (fun x hx => ?_) (by rw [List.length_map]; exact h)
  obtain ⟨k, _, rfl⟩ := List.mem_map.mp hx
  rw [spoilt_int]
  exact Nat.le_refl _
end DL
/-! Ff: law k01: bounds, counts. -/
namespace DL
open PySem PySem.Spec PyProof.Rows L2
local macro_rules
  | `(tactic| simp_arith only [$xs,*]) => `(tactic| simp only [sSeq, sNext, sExpr, sRet, sIf, sSet, sSetF, sAsg, sPar, sRaise, sFor, sApp, sExt, sPop, sItem, sAugI, sAug, sFrz, sMove, sBreak, sCont, gN, gT, gsNil, gsCons, dVar, vS_d, vS_own, vS_town, vS_v, vS_scr, fz_scr, dC, dOp, dCall, dCallK, daNil, daCons, dTup, dLst, dSl, doNone, doSome, dIf, dAnd, dOr, dNot, dNeg, dOne, dTwoI, dChain, dLc, bVal, bTru, bScr, dLenS, dIxS, dCount, dRest, sCount, sRest, bNot, bAnd, bOr, bYes, wInt2, wIntC, wAdd, wMul, wIx, wIn, wEqD, wIsN, oLen, oTuple, oList, oAll, oSum, oIsi, iSeq, iRng1D, iRng2D, iEnumD, iZipD, fz_d, fz_own, fz_town, fz_v, fz_abs, asDs, fzB, wipeD, asD_d, asD_own, asD_bor, asL_list, asL_tuple, asL_own, asL_bor, asL_int, asL_bool, asL_none, asS_list, asS_tuple, asS_own, asS_bor, tru_bool, tru_int, tru_none, tru_tuple, tru_list, tru_own, tru_bor, stO_d, stO_own, stO_town, stO_v, stO_abs, rtS_d, rtS_own, rtS_bor, rtS_v, rtS_abs, isN_none, isN_tuple, isN_int, isN_list, isN_bool, List.map_cons, List.map_nil, List.length_cons, List.length_nil, List.cons_append, List.nil_append, List.getElem?_cons_zero, List.getElem?_cons_succ, List.set_cons_zero, List.set_cons_succ, Option.map_some, Option.map_none, Option.some.injEq, SV.d.injEq, SV.own.injEq, PyData.int.injEq, PyData.bool.injEq, PyData.tuple.injEq, PyData.list.injEq, PyData.str.injEq, List.cons.injEq, exists_eq_left, exists_eq_left', exists_eq_right, exists_and_left, exists_and_right, exists_const, and_true, true_and, if_true, if_false, reduceCtorEq, false_or, or_false, false_and, and_false, Bool.not_true, Bool.not_false, Bool.false_eq_true, ite_true, ite_false, reduceIte, Bool.true_eq_false, Nat.reduceAdd, nc0, nc1, nc2, nc3, nc4, nc5, nc6, nc7, nc8, Int.reduceBEq, beq_self_eq_true, Bool.and_true, Bool.true_and, Bool.and_false, Bool.false_and, Nat.zero_add, $xs,*])
/-- a comprehension that keeps its own values by a test -/
theorem lcR_keep {g : DG} {tt : DB} {te : DT} {δ : Env} (p : PyData → Bool) (ds : List PyData) {Q : List PyData → Prop} (h : ∀ x ∈ ds, ∀ k : Option PyData → Prop, k (if p x = true then some x else none) → lcT g tt te δ x k) (q : Q (ds.filter p)) : lcR g tt te δ ds Q := by
  refine lcR_fm (fun x => if p x = true then some x else none) ds h ?_
  have e : ∀ l : List PyData, l.filterMap (fun x => if p x = true then some x else none) = l.filter p := fun l => by
    induction l with
    | nil => rfl
    | cons x xs ih =>
      rw [List.filterMap_cons, List.filter_cons, ih]
      cases p x <;> rfl
  rw [e]
  exact q
theorem lcR_keep0 {g : DG} {tt : DB} {te : DT} {δ : Env} (p : PyData → Bool) (ds : List PyData) {Q : List PyData → Prop} (h : ∀ x ∈ ds, ∀ k : Option PyData → Prop, k (if p x = true then some x else none) → lcT g tt te δ x k) (e : ds.filter p = []) (q : Q []) : lcR g tt te δ ds Q :=
  lcR_keep p ds h (by rw [e]; exact q)
theorem sh_nil : SeqAt.shaped (.list []) = true := rfl
theorem eqv_nil : PyData.eqv (.list []) (.list []) = true := rfl
def sp_law_bounds (c : Ct) : Spec := fun ss Q _ => match ss with
  | [] => Q (.d (.bool true))
  | _ => False
def t_law_bounds (c : Ct) : DS :=
  (sSeq (sSetF 0 (dC (.d (.tuple [(.int 0), (.int 1), (.int 0), (.tuple []), (.tuple [(.int 0), (.int 1)])]))))
  (sSeq (sSetF 1 (dLst (daCons (dC (.d (.tuple [(.int 2), (.tuple [])]))) (daCons (dC (.d (.tuple [(.int 5), (.tuple [])]))) (daCons (dTup (daCons (dC (.d (.int 2))) (daCons (dOp wMul (dTup (daCons (dVar 0) daNil)) (dC (.d (.int 8)))) daNil))) (daCons (dC (.d (.tuple [(.int 2), (.tuple [(.tuple [(.int 1), (.int 0), (.int 1), (.tuple []), (.tuple [(.int 0), (.int 0)])])])]))) (daCons (dC (.d (.tuple [(.int 3), (.tuple [(.tuple [(.int 0), (.int 0), (.int 1), (.tuple [(.int 2)]), (.tuple [(.int 0), (.int 0), (.int 0)])])])]))) daNil)))))))
  (sSeq (sSetF 2 (dLst (daCons (dC (.d (.tuple [(.int 1), (.tuple [])]))) (daCons (dC (.d (.tuple [(.int 6), (.tuple [])]))) (daCons (dTup (daCons (dC (.d (.int 2))) (daCons (dOp wMul (dTup (daCons (dVar 0) daNil)) (dC (.d (.int 9)))) daNil))) (daCons (dC (.d (.tuple [(.int 2), (.tuple [(.tuple [(.int 0), (.int 2), (.int 0), (.tuple []), (.tuple [(.int 0), (.int 1)])])])]))) (daCons (dC (.d (.tuple [(.int 2), (.tuple [(.tuple [(.int 0), (.int 1), (.int 0), (.tuple [(.int 0)]), (.tuple [(.int 0), (.int 1)])])])]))) (daCons (dC (.d .none)) daNil))))))))
  (sSeq (sSetF 2 (dOp wAdd (dVar 2) (dC (.own [(.tuple [(.int 2), (.tuple [(.tuple [(.int 0), (.int 1), (.int 1), (.tuple [(.int 1)]), (.tuple [(.int 0), (.int 1)])])])]), (.tuple [(.int 2), (.tuple [(.tuple [(.int 0), (.int 1), (.int 0), (.tuple []), (.tuple [(.int 1), (.int 1)])])])]), (.tuple [(.int 2), (.tuple [(.tuple [(.int 0), (.int 1), (.int 0), (.tuple []), (.tuple [(.int 0)])])])]), (.tuple [])]))))
  (sSeq (sSetF 2 (dOp wAdd (dVar 2) (dLst (daCons (dC (.d (.tuple [(.int 3), (.tuple [(.tuple [(.int 0), (.int 1), (.int 0), (.tuple [(.int 2), (.int 1)]), (.tuple [(.int 0), (.int 1), (.int 1)])])])]))) (daCons (dC (.d (.tuple [(.int 3), (.tuple [(.tuple [(.int 0), (.int 1), (.int 0), (.tuple [(.int 1), (.int 1)]), (.tuple [(.int 0), (.int 1), (.int 1)])])])]))) (daCons (dTup (daCons (dC (.d (.int 2))) (daCons (dLst (daCons (dVar 0) daNil)) daNil))) (daCons (dC (.d (.tuple [(.bool true), (.tuple [])]))) daNil)))))))
  (sSeq (sIf (bVal (dOp (wEqD fun b => !b) (dLc (iSeq (dVar 1)) (gN 3) (bNot (bTru (dCall (sp_law_is c) (daCons (dCall (sp_is_protocol c) (daCons (dVar 3) daNil)) (daCons (dC (.d (.bool true))) daNil))))) (dVar 3) [3]) (dLst daNil))) (sRet (dC (.d (.bool false)))) sNext)
  (sRet (dOp (wEqD fun b => b) (dLc (iSeq (dVar 2)) (gN 3) (bNot (bTru (dCall (sp_law_is c) (daCons (dCall (sp_is_protocol c) (daCons (dVar 3) daNil)) (daCons (dC (.d (.bool false))) daNil))))) (dVar 3) [3]) (dLst daNil)))))))))
theorem rd_law_bounds (c : Ct) (ss : List SV) (Q : SV → Prop) (Ex : XP) (h : sp_law_bounds c ss Q Ex) : t_law_bounds c { nx := fun _ => Q (.d .none), rt := Q } (startD 4 ss) Ex := by
  unfold sp_law_bounds at h
  split at h
  · show t_law_bounds c _ [none, none, none, none] Ex
    unfold t_law_bounds
    refine seqK fun K hK => ?_
    simp_arith only []
    refine hK _ ?_
    clear hK K
    refine seqK fun K hK => ?_
    simp_arith only []
    repeat (refine ⟨by first | decide | simp, ?_⟩)
    refine hK _ ?_
    clear hK K
    refine seqK fun K hK => ?_
    simp_arith only []
    repeat (refine ⟨by first | decide | simp, ?_⟩)
    refine hK _ ?_
    clear hK K
    refine seqK fun K hK => ?_
    simp_arith only []
    repeat (refine ⟨by first | decide | simp, ?_⟩)
    refine hK _ ?_
    clear hK K
    refine seqK fun K hK => ?_
    simp_arith only []
    repeat (refine ⟨by first | decide | simp, ?_⟩)
    refine hK _ ?_
    clear hK K
    refine seqK fun K hK => ?_
    simp_arith only []
    refine lcR_keep0 (fun x => !isProtocol x) _ (fun x _ k hk => ?_) (by decide +kernel) ?_
    · simp_arith only [lcT, at_is_protocol, at_law_is]
      cases e : isProtocol x with
      | false =>
        rw [e] at hk
        exact hk
      | true =>
        rw [e] at hk
        exact hk
    simp_arith only [sh_nil, eqv_nil]
    refine ⟨by decide, hK _ ?_⟩
    clear hK K
    simp_arith only []
    refine lcR_keep0 (fun x => isProtocol x) _ (fun x _ k hk => ?_) (by decide +kernel) ?_
    · simp_arith only [lcT, at_is_protocol, at_law_is]
      cases e : isProtocol x with
      | false =>
        rw [e] at hk
        exact hk
      | true =>
        rw [e] at hk
        exact hk
    simp_arith only [sh_nil, eqv_nil]
    exact ⟨by decide, h⟩
  · exact h.elim
def sp_law_counts (c : Ct) : Spec := fun ss Q _ => ∃ (p : Pr) (ns : List Nat), ss = [.d p.enc, .d (natsD ns)] ∧ p.Ok ∧ ns.length = p.m ∧ 1 ≤ ns.sum ∧ ns.sum ≤ 8 ∧ Q (.d (.bool true))
def t_law_counts (c : Ct) : DS :=
  (sSeq (sSetF 2 (dOp wIx (dVar 0) (dC (.d (.int 0)))))
  (sSeq (sPar 3 4 (dOp wAdd (dC (.d (.tuple [(.int 8)]))) (dOp wMul (dC (.d (.tuple [(.int 0)]))) (dOp (wInt2 fun i j => .int (i - j)) (dVar 2) (dC (.d (.int 1)))))) (dOp wAdd (dC (.d (.tuple [(.int 0), (.int 9)]))) (dOp wMul (dC (.d (.tuple [(.int 0)]))) (dOp (wInt2 fun i j => .int (i - j)) (dVar 2) (dC (.d (.int 2)))))))
  (sSeq (sSet 5 (dLst (daCons (dCall (sp_is_configuration c) (daCons (dVar 0) (daCons (dVar 3) daNil))) (daCons (dCall (sp_is_configuration c) (daCons (dVar 0) (daCons (dVar 4) daNil))) daNil))))
  (sSeq (sApp 5 (dCall (sp_is_configuration c) (daCons (dVar 0) (daCons (dOp wMul (dC (.d (.tuple [(.int 0)]))) (dVar 2)) daNil))))
  (sSeq (sApp 5 (dCall (sp_is_configuration c) (daCons (dVar 0) (daCons (dOp wMul (dC (.d (.tuple [(.int 1)]))) (dOp wAdd (dVar 2) (dC (.d (.int 1))))) daNil))))
  (sSeq (sApp 5 (dCall (sp_is_pattern c) (daCons (dVar 0) (daCons (dOp wAdd (dC (.d (.tuple [(.int 0), (.int 4)]))) (dOp wMul (dC (.d (.tuple [(.int 0)]))) (dOp (wInt2 fun i j => .int (i - j)) (dVar 2) (dC (.d (.int 2)))))) daNil))))
  (sSeq (sApp 5 (dCall (sp_is_pattern c) (daCons (dVar 0) (daCons (dOp wAdd (dC (.d (.tuple [(.int 0), (.int 5)]))) (dOp wMul (dC (.d (.tuple [(.int 0)]))) (dOp (wInt2 fun i j => .int (i - j)) (dVar 2) (dC (.d (.int 2)))))) daNil))))
  (sSeq (sApp 5 (dCall (sp_is_pattern c) (daCons (dVar 0) (daCons (dOp wMul (dC (.d (.tuple [(.int 0)]))) (dVar 2)) daNil))))
  (sSeq (sApp 5 (dCall (sp_is_pattern c) (daCons (dVar 0) (daCons (dOp wAdd (dC (.d (.tuple [(.int 1), (.int 1)]))) (dOp wMul (dC (.d (.tuple [(.int 0)]))) (dOp (wInt2 fun i j => .int (i - j)) (dVar 2) (dC (.d (.int 2)))))) daNil))))
  (sSeq (sSet 5 (dOp wAdd (dVar 5) (dLst (daCons (dCall (sp_is_log c) (daCons (dVar 0) (daCons (dOp wMul (dTup (daCons (dVar 1) daNil)) (dC (.d (.int 6)))) daNil))) (daCons (dCall (sp_is_log c) (daCons (dVar 0) (daCons (dOp wMul (dTup (daCons (dVar 1) daNil)) (dC (.d (.int 7)))) daNil))) (daCons (dCall (sp_is_log c) (daCons (dVar 0) (daCons (dTup daNil) daNil))) daNil))))))
  (sSeq (sApp 5 (dCall (sp_is_log c) (daCons (dVar 0) (daCons (dTup (daCons (dVar 3) (daCons (dOp wAdd (dC (.d (.tuple [(.int 7), (.int 0)]))) (dOp wMul (dC (.d (.tuple [(.int 0)]))) (dOp (wInt2 fun i j => .int (i - j)) (dVar 2) (dC (.d (.int 2)))))) daNil))) daNil))))
  (sRet (dOp (wEqD fun b => b) (dVar 5) (dC (.own [(.bool true), (.bool false), (.bool false), (.bool false), (.bool true), (.bool false), (.bool false), (.bool false), (.bool true), (.bool false), (.bool false), (.bool false)])))))))))))))))
theorem rd_law_counts (c : Ct) (ss : List SV) (Q : SV → Prop) (Ex : XP) (h : sp_law_counts c ss Q Ex) : t_law_counts c { nx := fun _ => Q (.d .none), rt := Q } (startD 6 ss) Ex := by
  obtain ⟨⟨m, rs⟩, ns, rfl, hp, hl, h1, h2, q⟩ := h
  have hP : isProtocol (.tuple [.int (m : Int), .tuple (rs.map Rl.enc)]) = true := (isP_enc ⟨m, rs⟩).mpr hp
  have hm1 := hp.lo
  have hm2 := hp.hi
  show t_law_counts c _ [some (.d (.tuple [.int (m : Int), .tuple (rs.map Rl.enc)])), some (.d (natsD ns)), none, none, none, none] Ex
  unfold t_law_counts
  simp only at hm1 hm2 hl
  have hc : isConf m (natsD ns) = true := (isConf_nats ns).mpr ⟨hl, h1, h2⟩
  have r1 : List.replicate ((m : Int) - 1).toNat (PyData.int 0) = (List.replicate (m - 1) 0).map (fun n : Nat => PyData.int (n : Int)) := by
    rw [List.map_replicate, show ((m : Int) - 1).toNat = m - 1 by omega]
    rfl
  have r2 : List.replicate ((m : Int) - 2).toNat (PyData.int 0) = (List.replicate (m - 2) 0).map (fun n : Nat => PyData.int (n : Int)) := by
    rw [List.map_replicate, show ((m : Int) - 2).toNat = m - 2 by omega]
    rfl
  have cf : ∀ {ks : List Nat}, ¬ (ks.length = m ∧ 1 ≤ ks.sum ∧ ks.sum ≤ 8) → isConf m (natsD ks) = false := fun {ks} h => Bool.eq_false_iff.mpr fun e => h ((isConf_nats ks).mp e)
  have pf : ∀ {ks : List Nat}, ¬ (ks.length = m ∧ ks.head? = some 0 ∧ 1 ≤ ks.sum ∧ ks.sum ≤ 4) → isPat m (natsD ks) = false := fun {ks} h => Bool.eq_false_iff.mpr fun e => h ((isPat_nats ks).mp e)
  have c1 : isConf m (.tuple (.int 8 :: List.replicate ((m : Int) - 1).toNat (.int 0))) = true := by
    rw [r1]
    exact (isConf_nats (8 :: List.replicate (m - 1) 0)).mpr ⟨by simp; omega, by simp, by simp⟩
  have c2 : isConf m (.tuple (.int 0 :: .int 9 :: List.replicate ((m : Int) - 2).toNat (.int 0))) = false := by
    rw [r2]
    exact cf (ks := 0 :: 9 :: List.replicate (m - 2) 0) (by simp)
  have c3 : isConf m (.tuple (List.replicate ((m : Int)).toNat (.int 0))) = false := by
    have e : List.replicate ((m : Int)).toNat (PyData.int 0) = (List.replicate m 0).map (fun n : Nat => PyData.int (n : Int)) := by
      rw [List.map_replicate]
      rfl
    rw [e]
    exact cf (ks := List.replicate m 0) (by simp)
  have c4 : isConf m (.tuple (List.replicate ((m : Int) + 1).toNat (.int 1))) = false := by
    have e : List.replicate ((m : Int) + 1).toNat (PyData.int 1) = (List.replicate (m + 1) 1).map (fun n : Nat => PyData.int (n : Int)) := by
      rw [List.map_replicate]
      rfl
    rw [e]
    exact cf (ks := List.replicate (m + 1) 1) (by simp)
  have p1 : isPat m (.tuple (.int 0 :: .int 4 :: List.replicate ((m : Int) - 2).toNat (.int 0))) = true := by
    rw [r2]
    exact (isPat_nats (0 :: 4 :: List.replicate (m - 2) 0)).mpr ⟨by simp; omega, rfl, by simp, by simp⟩
  have p2 : isPat m (.tuple (.int 0 :: .int 5 :: List.replicate ((m : Int) - 2).toNat (.int 0))) = false := by
    rw [r2]
    exact pf (ks := 0 :: 5 :: List.replicate (m - 2) 0) (by simp)
  have p3 : isPat m (.tuple (List.replicate ((m : Int)).toNat (.int 0))) = false := by
    have e : List.replicate ((m : Int)).toNat (PyData.int 0) = (List.replicate m 0).map (fun n : Nat => PyData.int (n : Int)) := by
      rw [List.map_replicate]
      rfl
    rw [e]
    exact pf (ks := List.replicate m 0) (by simp)
  have p4 : isPat m (.tuple (.int 1 :: .int 1 :: List.replicate ((m : Int) - 2).toNat (.int 0))) = false := by
    rw [r2]
    exact pf (ks := 1 :: 1 :: List.replicate (m - 2) 0) (by simp)
  have l1 : isLog m (.tuple (List.replicate (Int.toNat 6) (natsD ns))) = true := by
    have e : ∀ x, x ∈ List.replicate (Int.toNat 6) (natsD ns) → x = natsD ns := fun x hx => (List.mem_replicate.mp hx).2
    unfold isLog
    simp only [List.length_replicate, Bool.and_eq_true, List.all_eq_true, decide_eq_true_eq]
    refine ⟨⟨by decide, by decide⟩, fun x hx => by rw [e x hx]; exact hc, fun x hx => by rw [e x hx]; rfl⟩
  have l2 : isLog m (.tuple (List.replicate (Int.toNat 7) (natsD ns))) = false := rfl
  have l3 : isLog m (.tuple []) = false := rfl
  have l4 : isLog m (.tuple [.tuple (.int 8 :: List.replicate ((m : Int) - 1).toNat (.int 0)), .tuple (.int 7 :: .int 0 :: List.replicate ((m : Int) - 2).toNat (.int 0))]) = false := by
    refine Bool.eq_false_iff.mpr fun e => ?_
    unfold isLog at e
    simp only [Bool.and_eq_true, List.all_eq_true, decide_eq_true_eq] at e
    have := e.2.2 _ (List.mem_cons_of_mem _ List.mem_cons_self)
    rw [r1, r2] at this
    have e1 : sumD (.tuple ((7 :: 0 :: List.replicate (m - 2) 0).map (fun n : Nat => PyData.int (n : Int)))) = sumD (.tuple ((8 :: List.replicate (m - 1) 0).map (fun n : Nat => PyData.int (n : Int)))) := this
    rw [nats_ints, nats_ints, sumD_ints, sumD_ints, nats_sum, nats_sum] at e1
    simp at e1
  refine seqK fun K hK => ?_
  simp_arith only [atI_0]
  repeat (refine ⟨by first | decide | omega | (simp; done) | (rw [sizeLine_eq]; omega), ?_⟩)
  refine hK _ ?_
  clear hK K
  refine seqK fun K hK => ?_
  simp_arith only [List.flatten_replicate_singleton, List.length_replicate, at_is_configuration hP, at_is_pattern hP, at_is_log hP, c1, c2, c3, c4, p1, p2, p3, p4, l1, l2, l3, l4]
  repeat (refine ⟨by first | decide | omega | (simp; done) | (rw [sizeLine_eq]; omega), ?_⟩)
  refine hK _ ?_
  clear hK K
  refine seqK fun K hK => ?_
  simp_arith only [List.flatten_replicate_singleton, List.length_replicate, at_is_configuration hP, at_is_pattern hP, at_is_log hP, c1, c2, c3, c4, p1, p2, p3, p4, l1, l2, l3, l4]
  repeat (refine ⟨by first | decide | omega | (simp; done) | (rw [sizeLine_eq]; omega), ?_⟩)
  refine hK _ ?_
  clear hK K
  refine seqK fun K hK => ?_
  simp_arith only [List.flatten_replicate_singleton, List.length_replicate, at_is_configuration hP, at_is_pattern hP, at_is_log hP, c1, c2, c3, c4, p1, p2, p3, p4, l1, l2, l3, l4]
  repeat (refine ⟨by first | decide | omega | (simp; done) | (rw [sizeLine_eq]; omega), ?_⟩)
  refine hK _ ?_
  clear hK K
  refine seqK fun K hK => ?_
  simp_arith only [List.flatten_replicate_singleton, List.length_replicate, at_is_configuration hP, at_is_pattern hP, at_is_log hP, c1, c2, c3, c4, p1, p2, p3, p4, l1, l2, l3, l4]
  repeat (refine ⟨by first | decide | omega | (simp; done) | (rw [sizeLine_eq]; omega), ?_⟩)
  refine hK _ ?_
  clear hK K
  refine seqK fun K hK => ?_
  simp_arith only [List.flatten_replicate_singleton, List.length_replicate, at_is_configuration hP, at_is_pattern hP, at_is_log hP, c1, c2, c3, c4, p1, p2, p3, p4, l1, l2, l3, l4]
  repeat (refine ⟨by first | decide | omega | (simp; done) | (rw [sizeLine_eq]; omega), ?_⟩)
  refine hK _ ?_
  clear hK K
  refine seqK fun K hK => ?_
  simp_arith only [List.flatten_replicate_singleton, List.length_replicate, at_is_configuration hP, at_is_pattern hP, at_is_log hP, c1, c2, c3, c4, p1, p2, p3, p4, l1, l2, l3, l4]
  repeat (refine ⟨by first | decide | omega | (simp; done) | (rw [sizeLine_eq]; omega), ?_⟩)
  refine hK _ ?_
  clear hK K
  refine seqK fun K hK => ?_
  simp_arith only [List.flatten_replicate_singleton, List.length_replicate, at_is_configuration hP, at_is_pattern hP, at_is_log hP, c1, c2, c3, c4, p1, p2, p3, p4, l1, l2, l3, l4]
  repeat (refine ⟨by first | decide | omega | (simp; done) | (rw [sizeLine_eq]; omega), ?_⟩)
  refine hK _ ?_
  clear hK K
  refine seqK fun K hK => ?_
  simp_arith only [List.flatten_replicate_singleton, List.length_replicate, at_is_configuration hP, at_is_pattern hP, at_is_log hP, c1, c2, c3, c4, p1, p2, p3, p4, l1, l2, l3, l4]
  repeat (refine ⟨by first | decide | omega | (simp; done) | (rw [sizeLine_eq]; omega), ?_⟩)
  refine hK _ ?_
  clear hK K
  refine seqK fun K hK => ?_
  simp_arith only [List.flatten_replicate_singleton, List.length_replicate, at_is_configuration hP, at_is_pattern hP, at_is_log hP, c1, c2, c3, c4, p1, p2, p3, p4, l1, l2, l3, l4]
  repeat (refine ⟨by first | decide | omega | (simp; done) | (rw [sizeLine_eq]; omega), ?_⟩)
  refine hK _ ?_
  clear hK K
  refine seqK fun K hK => ?_
  simp_arith only [List.flatten_replicate_singleton, List.length_replicate, at_is_configuration hP, at_is_pattern hP, at_is_log hP, c1, c2, c3, c4, p1, p2, p3, p4, l1, l2, l3, l4]
  repeat (refine ⟨by first | decide | omega | (simp; done) | (rw [sizeLine_eq]; omega), ?_⟩)
  refine hK _ ?_
  clear hK K
  simp_arith only []
  exact ⟨_, ⟨_, rfl, rfl⟩, by decide, by decide, q⟩
end DL
/-! Fg: what _law_result answers. -/
namespace DL
open PySem PySem.Spec PyProof.Rows L2
local macro_rules
  | `(tactic| simp_arith [$xs,*]) => `(tactic| simp only [List.map_cons, List.map_nil, List.length_cons, List.length_nil, List.cons_append, List.nil_append, List.getElem?_cons_zero, List.getElem?_cons_succ, List.set_cons_zero, List.set_cons_succ, Option.map_some, Option.map_none, Option.some.injEq, SV.d.injEq, SV.own.injEq, PyData.int.injEq, PyData.bool.injEq, PyData.tuple.injEq, PyData.list.injEq, PyData.str.injEq, List.cons.injEq, exists_eq_left, exists_eq_left', exists_eq_right, exists_and_left, exists_and_right, exists_const, and_true, true_and, if_true, if_false, reduceCtorEq, false_or, or_false, false_and, and_false, Bool.not_true, Bool.not_false, Bool.false_eq_true, ite_true, ite_false, reduceIte, Bool.true_eq_false, Nat.reduceAdd, nc0, nc1, nc2, nc3, nc4, nc5, nc6, nc7, nc8, Int.reduceBEq, beq_self_eq_true, Bool.and_true, Bool.true_and, Bool.and_false, Bool.false_and, Nat.zero_add, $xs,*])
local macro_rules
  | `(tactic| simp_arith! [$xs,*]) => `(tactic| simp only [sSeq, sNext, sExpr, sRet, sIf, sSet, sSetF, sAsg, sPar, sRaise, sFor, sApp, sExt, sPop, sItem, sAugI, sAug, sFrz, sMove, sBreak, sCont, gN, gT, gsNil, gsCons, dVar, vS_d, vS_own, vS_town, vS_v, vS_scr, fz_scr, dC, dOp, dCall, dCallK, daNil, daCons, dTup, dLst, dSl, doNone, doSome, dIf, dAnd, dOr, dNot, dNeg, dOne, dTwoI, dChain, dLc, bVal, bTru, bScr, dLenS, dIxS, dCount, dRest, sCount, sRest, bNot, bAnd, bOr, bYes, wInt2, wIntC, wAdd, wMul, wIx, wIn, wEqD, wIsN, oLen, oTuple, oList, oAll, oSum, oIsi, iSeq, iRng1D, iRng2D, iEnumD, iZipD, fz_d, fz_own, fz_town, fz_v, fz_abs, asDs, fzB, wipeD, asD_d, asD_own, asD_bor, asL_list, asL_tuple, asL_own, asL_bor, asL_int, asL_bool, asL_none, asS_list, asS_tuple, asS_own, asS_bor, tru_bool, tru_int, tru_none, tru_tuple, tru_list, tru_own, tru_bor, stO_d, stO_own, stO_town, stO_v, stO_abs, rtS_d, rtS_own, rtS_bor, rtS_v, rtS_abs, isN_none, isN_tuple, isN_int, isN_list, isN_bool, sItem2, wInT, oDictT, dGetT1, dDK2, sUpd, dIsX, iKeysL, dGetK, sSetLcL, dRes, noOwnE, noOwn, SV.ow.injEq, SV.bo.injEq, SV.fo.injEq, OC.dK.injEq, OC.dKl.injEq, OC.dT.injEq, OC.dTl.injEq, OC.exc.injEq, vS_ow, vS_fo, stO_ow, fz_ow, fz_fo, List.map_cons, List.map_nil, List.length_cons, List.length_nil, List.cons_append, List.nil_append, List.getElem?_cons_zero, List.getElem?_cons_succ, List.set_cons_zero, List.set_cons_succ, Option.map_some, Option.map_none, Option.some.injEq, SV.d.injEq, SV.own.injEq, PyData.int.injEq, PyData.bool.injEq, PyData.tuple.injEq, PyData.list.injEq, PyData.str.injEq, List.cons.injEq, exists_eq_left, exists_eq_left', exists_eq_right, exists_and_left, exists_and_right, exists_const, and_true, true_and, if_true, if_false, reduceCtorEq, false_or, or_false, false_and, and_false, Bool.not_true, Bool.not_false, Bool.false_eq_true, ite_true, ite_false, reduceIte, Bool.true_eq_false, Nat.reduceAdd, nc0, nc1, nc2, nc3, nc4, nc5, nc6, nc7, nc8, Int.reduceBEq, beq_self_eq_true, Bool.and_true, Bool.true_and, Bool.and_false, Bool.false_and, Nat.zero_add, $xs,*])
def asked (c : Ct) : List (Str × Addr) := [("protocol", c.cls "InvalidProtocol"), ("number", c.cls "InvalidNumber"), ("configuration", c.cls "InvalidConfiguration"), ("step", c.cls "InvalidStep"), ("trace", c.cls "InvalidTrace"), ("pattern", c.cls "InvalidPattern"),
  ("change", c.cls "InvalidChange"), ("log", c.cls "InvalidLog"), ("order", c.cls "InvalidOrder"), ("rule", c.cls "InvalidRule"), ("index", c.cls "InvalidIndex"), ("text", c.cls "InvalidText"), ("compare", c.cls "NotComparable"), ("large", c.cls "TooLarge"), ("many", c.cls "TooMany"), ("undo", c.cls "NothingToUndo")]
def ResT (c : Ct) : ResP := fun C nm => ResF c.K (c.cls "CacheError") (asked c) C nm
def t_law_result (c : Ct) : DS :=
  (sSeq (sIf (bVal (dOp (wIsN fun b => b) (dVar 1) (dC (.d .none)))) (sRet (dTup (daCons (dC (.d (.str ("returns" : Str)))) (daCons (dVar 2) daNil)))) sNext)
  (sSeq (sSet 4 (dDK2 ("protocol" : Str) ("number" : Str) (dIsX c (.ref (c.cls "InvalidProtocol")) (dVar 1)) (dIsX c (.ref (c.cls "InvalidNumber")) (dVar 1))))
  (sSeq (sUpd 4 (dDK2 ("configuration" : Str) ("step" : Str) (dIsX c (.ref (c.cls "InvalidConfiguration")) (dVar 1)) (dIsX c (.ref (c.cls "InvalidStep")) (dVar 1))))
  (sSeq (sUpd 4 (dDK2 ("trace" : Str) ("pattern" : Str) (dIsX c (.ref (c.cls "InvalidTrace")) (dVar 1)) (dIsX c (.ref (c.cls "InvalidPattern")) (dVar 1))))
  (sSeq (sUpd 4 (dDK2 ("change" : Str) ("log" : Str) (dIsX c (.ref (c.cls "InvalidChange")) (dVar 1)) (dIsX c (.ref (c.cls "InvalidLog")) (dVar 1))))
  (sSeq (sUpd 4 (dDK2 ("order" : Str) ("rule" : Str) (dIsX c (.ref (c.cls "InvalidOrder")) (dVar 1)) (dIsX c (.ref (c.cls "InvalidRule")) (dVar 1))))
  (sSeq (sUpd 4 (dDK2 ("index" : Str) ("text" : Str) (dIsX c (.ref (c.cls "InvalidIndex")) (dVar 1)) (dIsX c (.ref (c.cls "InvalidText")) (dVar 1))))
  (sSeq (sUpd 4 (dDK2 ("compare" : Str) ("large" : Str) (dIsX c (.ref (c.cls "NotComparable")) (dVar 1)) (dIsX c (.ref (c.cls "TooLarge")) (dVar 1))))
  (sSeq (sUpd 4 (dDK2 ("many" : Str) ("undo" : Str) (dIsX c (.ref (c.cls "TooMany")) (dVar 1)) (dIsX c (.ref (c.cls "NothingToUndo")) (dVar 1))))
  (sSeq (sSetLcL 5 4 (dLc (iKeysL (dVar 4)) (gN 6) (bTru (dGetK (dVar 4) (dVar 6))) (dVar 6) [6]))
  (sRet (dIf (bAnd (bVal (dOp (wEqD fun b => b) (dOne oLen (dVar 5)) (dC (.d (.int 1))))) (bTru (dIsX c (.ty "ValueError") (dVar 1)))) (dTup (daCons (dOp wIx (dVar 5) (dC (.d (.int 0)))) daNil)) (dC (.d (.tuple [(.str ("other error" : Str))])))))))))))))))
theorem rd1_law_result (c : Ct) (z : PyData) (Qd : SV → Prop) (h : Qd (.d (.tuple [.str "returns", z]))) : t_law_result c { nx := fun _ => False, rt := Qd } ([none, some (.d .none), some (.d z)] ++ List.replicate 4 none) (fun _ => False) := by
  show t_law_result c _ [none, some (.d .none), some (.d z), none, none, none, none] _
  unfold t_law_result
  refine seqK fun K hK => ?_
  simp_arith! [isN]
  exact ⟨by decide, h⟩
/-- the table of the asked names -/
def kbs (nm : Str) (ns : List Str) : List (Key × PyData) := ns.map fun n => ((Sum.inr n : Key), PyData.bool (n == nm))
theorem kbs_len (nm : Str) (ns : List Str) : (kbs nm ns).length = ns.length := List.length_map _
theorem kbs_any (nm a : Str) : ∀ ns : List Str, a ∉ ns → ((kbs nm ns).any fun kv => decide (kv.1 = (Sum.inr a : Key))) = false
  | [], _ => rfl
  | n :: ns, h => by
    have h1 : ¬ ((Sum.inr n : Key) = Sum.inr a) := fun z => h (by rw [← Sum.inr.inj z]; exact List.mem_cons_self)
    show (decide ((Sum.inr n : Key) = Sum.inr a) || (kbs nm ns).any _) = false
    rw [decide_eq_false h1, kbs_any nm a ns fun z => h (List.mem_cons_of_mem _ z)]
    rfl
theorem kbs_put (nm : Str) (ns : List Str) (a : Str) (h : a ∉ ns) : putD (kbs nm ns) (Sum.inr a : Key) (.bool (a == nm)) = kbs nm (ns ++ [a]) := by
  unfold putD
  rw [kbs_any nm a ns h]
  show kbs nm ns ++ _ = _
  unfold kbs
  rw [List.map_append]
  rfl
theorem kbs_merge (nm : Str) (ns : List Str) (a b : Str) (h : a ∉ ns ∧ b ∉ ns ++ [a]) : mergeD (kbs nm ns) [((Sum.inr a : Key), PyData.bool (a == nm)), ((Sum.inr b : Key), PyData.bool (b == nm))] = kbs nm (ns ++ [a] ++ [b]) := by
  show putD (putD (kbs nm ns) (Sum.inr a : Key) _) (Sum.inr b) _ = _
  rw [kbs_put nm ns a h.1, kbs_put nm _ b h.2]
theorem kbs_get (nm a : Str) : ∀ ns : List Str, a ∈ ns → getD (kbs nm ns) (Sum.inr a : Key) = some (.bool (a == nm))
  | [], h => nomatch h
  | n :: ns, h => by
    by_cases e : n = a
    · subst e
      unfold getD kbs
      rw [List.map_cons, List.find?_cons, decide_eq_true rfl]
      rfl
    · have h1 : ¬ ((Sum.inr n : Key) = Sum.inr a) := fun z => e (Sum.inr.inj z)
      have ih := kbs_get nm a ns ((List.mem_cons.mp h).resolve_left fun z => e z.symm)
      unfold getD kbs at ih ⊢
      rw [List.map_cons, List.find?_cons, decide_eq_false h1]
      exact ih
def askNames : List Str := ["protocol", "number", "configuration", "step", "trace", "pattern", "change", "log", "order", "rule", "index", "text", "compare", "large", "many", "undo"]
theorem ask_filter0 {nm : Str} (h : nm ∈ askNames) : askNames.filter (fun s => s == nm) = [nm] := by
  simp only [askNames, List.mem_cons, List.not_mem_nil, or_false] at h
  rcases h with rfl | rfl | rfl | rfl | rfl | rfl | rfl | rfl | rfl | rfl | rfl | rfl | rfl | rfl | rfl | rfl <;> decide +kernel
theorem ask_filter {nm : Str} (h : nm ∈ askNames) : ((askNames.map PyData.str).filter fun x => match x with | .str s => s == nm | _ => false) = [.str nm] := by
  rw [List.filter_map]
  show List.map PyData.str (askNames.filter fun s => s == nm) = _
  rw [ask_filter0 h]
  rfl
theorem kbs_keys (nm : Str) (ns : List Str) : ((kbs nm ns).map fun p => keyD p.1) = ns.map PyData.str := by
  unfold kbs
  rw [List.map_map]
  rfl
theorem ref_eq {a : Addr} : ∀ u, RelV (V.ref a) u → u = Value.ref a := fun u h => h
theorem rd2_law_result (c : Ct) (C : Addr) (nm : Str) (Qd : SV → Prop) (r : ResT c C nm) (h : Qd (.d (.tuple [.str nm]))) : t_law_result c { nx := fun _ => False, rt := Qd } ([none, some (.ow (.exc C))] ++ List.replicate 5 none) (fun _ => False) := by
  show t_law_result c _ [none, some (.ow (.exc C)), none, none, none, none, none] _
  have k := r.ks
  unfold t_law_result
  refine seqK fun K hK => ?_
  simp_arith! [isN]
  refine hK _ ?_
  clear hK K
  refine seqK fun K hK => ?_
  simp_arith! []
  refine ⟨r.cl, .ref (c.cls "InvalidProtocol"), ref_eq, _, k ("protocol", c.cls "InvalidProtocol") (by simp [asked]), r.cl, .ref (c.cls "InvalidNumber"), ref_eq, _, k ("number", c.cls "InvalidNumber") (by simp [asked]), by decide, ?_⟩
  refine hK _ ?_
  clear hK K
  show sSeq _ _ _ [none, some (.ow (.exc C)), none, none, some (.ow (.dK (kbs nm ["protocol", "number"]))), none, none] _
  refine seqK fun K hK => ?_
  simp_arith! []
  refine ⟨r.cl, .ref (c.cls "InvalidConfiguration"), ref_eq, _, k ("configuration", c.cls "InvalidConfiguration") (by simp [asked]), r.cl, .ref (c.cls "InvalidStep"), ref_eq, _, k ("step", c.cls "InvalidStep") (by simp [asked]), by decide, ?_⟩
  refine ⟨by rw [kbs_len, sizeLine_eq]; exact Nat.le_of_ble_eq_true rfl, ?_⟩
  refine hK _ ?_
  clear hK K
  have e := kbs_merge nm ["protocol", "number"] "configuration" "step" (by decide)
  simp_arith []
  rw [e]
  clear e
  show sSeq _ _ _ [none, some (.ow (.exc C)), none, none, some (.ow (.dK (kbs nm ["protocol", "number", "configuration", "step"]))), none, none] _
  refine seqK fun K hK => ?_
  simp_arith! []
  refine ⟨r.cl, .ref (c.cls "InvalidTrace"), ref_eq, _, k ("trace", c.cls "InvalidTrace") (by simp [asked]), r.cl, .ref (c.cls "InvalidPattern"), ref_eq, _, k ("pattern", c.cls "InvalidPattern") (by simp [asked]), by decide, ?_⟩
  refine ⟨by rw [kbs_len, sizeLine_eq]; exact Nat.le_of_ble_eq_true rfl, ?_⟩
  refine hK _ ?_
  clear hK K
  have e := kbs_merge nm ["protocol", "number", "configuration", "step"] "trace" "pattern" (by decide)
  simp_arith []
  rw [e]
  clear e
  show sSeq _ _ _ [none, some (.ow (.exc C)), none, none, some (.ow (.dK (kbs nm ["protocol", "number", "configuration", "step", "trace", "pattern"]))), none, none] _
  refine seqK fun K hK => ?_
  simp_arith! []
  refine ⟨r.cl, .ref (c.cls "InvalidChange"), ref_eq, _, k ("change", c.cls "InvalidChange") (by simp [asked]), r.cl, .ref (c.cls "InvalidLog"), ref_eq, _, k ("log", c.cls "InvalidLog") (by simp [asked]), by decide, ?_⟩
  refine ⟨by rw [kbs_len, sizeLine_eq]; exact Nat.le_of_ble_eq_true rfl, ?_⟩
  refine hK _ ?_
  clear hK K
  have e := kbs_merge nm ["protocol", "number", "configuration", "step", "trace", "pattern"] "change" "log" (by decide)
  simp_arith []
  rw [e]
  clear e
  show sSeq _ _ _ [none, some (.ow (.exc C)), none, none, some (.ow (.dK (kbs nm ["protocol", "number", "configuration", "step", "trace", "pattern", "change", "log"]))), none, none] _
  refine seqK fun K hK => ?_
  simp_arith! []
  refine ⟨r.cl, .ref (c.cls "InvalidOrder"), ref_eq, _, k ("order", c.cls "InvalidOrder") (by simp [asked]), r.cl, .ref (c.cls "InvalidRule"), ref_eq, _, k ("rule", c.cls "InvalidRule") (by simp [asked]), by decide, ?_⟩
  refine ⟨by rw [kbs_len, sizeLine_eq]; exact Nat.le_of_ble_eq_true rfl, ?_⟩
  refine hK _ ?_
  clear hK K
  have e := kbs_merge nm ["protocol", "number", "configuration", "step", "trace", "pattern", "change", "log"] "order" "rule" (by decide)
  simp_arith []
  rw [e]
  clear e
  show sSeq _ _ _ [none, some (.ow (.exc C)), none, none, some (.ow (.dK (kbs nm ["protocol", "number", "configuration", "step", "trace", "pattern", "change", "log", "order", "rule"]))), none, none] _
  refine seqK fun K hK => ?_
  simp_arith! []
  refine ⟨r.cl, .ref (c.cls "InvalidIndex"), ref_eq, _, k ("index", c.cls "InvalidIndex") (by simp [asked]), r.cl, .ref (c.cls "InvalidText"), ref_eq, _, k ("text", c.cls "InvalidText") (by simp [asked]), by decide, ?_⟩
  refine ⟨by rw [kbs_len, sizeLine_eq]; exact Nat.le_of_ble_eq_true rfl, ?_⟩
  refine hK _ ?_
  clear hK K
  have e := kbs_merge nm ["protocol", "number", "configuration", "step", "trace", "pattern", "change", "log", "order", "rule"] "index" "text" (by decide)
  simp_arith []
  rw [e]
  clear e
  show sSeq _ _ _ [none, some (.ow (.exc C)), none, none, some (.ow (.dK (kbs nm ["protocol", "number", "configuration", "step", "trace", "pattern", "change", "log", "order", "rule", "index", "text"]))), none, none] _
  refine seqK fun K hK => ?_
  simp_arith! []
  refine ⟨r.cl, .ref (c.cls "NotComparable"), ref_eq, _, k ("compare", c.cls "NotComparable") (by simp [asked]), r.cl, .ref (c.cls "TooLarge"), ref_eq, _, k ("large", c.cls "TooLarge") (by simp [asked]), by decide, ?_⟩
  refine ⟨by rw [kbs_len, sizeLine_eq]; exact Nat.le_of_ble_eq_true rfl, ?_⟩
  refine hK _ ?_
  clear hK K
  have e := kbs_merge nm ["protocol", "number", "configuration", "step", "trace", "pattern", "change", "log", "order", "rule", "index", "text"] "compare" "large" (by decide)
  simp_arith []
  rw [e]
  clear e
  show sSeq _ _ _ [none, some (.ow (.exc C)), none, none, some (.ow (.dK (kbs nm ["protocol", "number", "configuration", "step", "trace", "pattern", "change", "log", "order", "rule", "index", "text", "compare", "large"]))), none, none] _
  refine seqK fun K hK => ?_
  simp_arith! []
  refine ⟨r.cl, .ref (c.cls "TooMany"), ref_eq, _, k ("many", c.cls "TooMany") (by simp [asked]), r.cl, .ref (c.cls "NothingToUndo"), ref_eq, _, k ("undo", c.cls "NothingToUndo") (by simp [asked]), by decide, ?_⟩
  refine ⟨by rw [kbs_len, sizeLine_eq]; exact Nat.le_of_ble_eq_true rfl, ?_⟩
  refine hK _ ?_
  clear hK K
  have e := kbs_merge nm ["protocol", "number", "configuration", "step", "trace", "pattern", "change", "log", "order", "rule", "index", "text", "compare", "large"] "many" "undo" (by decide)
  simp_arith []
  rw [e]
  clear e
  show sSeq _ _ _ [none, some (.ow (.exc C)), none, none, some (.ow (.dK (kbs nm ["protocol", "number", "configuration", "step", "trace", "pattern", "change", "log", "order", "rule", "index", "text", "compare", "large", "many", "undo"]))), none, none] _
  show sSeq _ _ _ [none, some (.ow (.exc C)), none, none, some (.ow (.dK (kbs nm askNames))), none, none] _
  have hm : nm ∈ askNames := r.mem
  refine seqK fun K hK => ?_
  simp_arith! [kbs_keys, kbs_len]
  refine ⟨by rw [sizeLine_eq]; decide, ?_⟩
  refine lcR_keep (fun x => match x with | .str s => s == nm | _ => false) _ (fun x hx k' hk => ?_) ?_
  · obtain ⟨n, hn, rfl⟩ := List.mem_map.mp hx
    simp_arith! [lcT]
    refine ⟨_, kbs_get nm n askNames hn, n == nm, rfl, ?_⟩
    cases e : (n == nm) with
    | true =>
      have hk' : k' (if (n == nm) = true then some (.str n) else none) := hk
      rw [e] at hk'
      exact hk'
    | false =>
      have hk' : k' (if (n == nm) = true then some (.str n) else none) := hk
      rw [e] at hk'
      exact hk'
  · rw [ask_filter hm]
    refine hK _ ?_
    clear hK K
    simp_arith! []
    refine ⟨rfl, rfl, ?_⟩
    rw [if_pos (show (PyData.int 1).eqv (.int 1) = true by decide)]
    refine ⟨r.cl, .type "ValueError", fun u h => h, true, r.ve, ?_⟩
    rw [if_pos rfl]
    exact ⟨_, rfl, by decide, h⟩
end DL
/-! Fh: configurations, steps: readings, specifications. -/
namespace DL
open PySem PySem.Spec PyProof.Rows L2
local macro_rules
  | `(tactic| simp_arith only [$xs,*]) => `(tactic| simp only [sSeq, sNext, sExpr, sRet, sIf, sSet, sSetF, sAsg, sPar, sRaise, sFor, sApp, sExt, sPop, sItem, sAugI, sAug, sFrz, sMove, sBreak, sCont, gN, gT, gsNil, gsCons, dVar, vS_d, vS_own, vS_town, vS_v, vS_scr, fz_scr, dC, dOp, dCall, dCallK, daNil, daCons, dTup, dLst, dSl, doNone, doSome, dIf, dAnd, dOr, dNot, dNeg, dOne, dTwoI, dChain, dLc, bVal, bTru, bScr, dLenS, dIxS, dCount, dRest, sCount, sRest, bNot, bAnd, bOr, bYes, wInt2, wIntC, wAdd, wMul, wIx, wIn, wEqD, wIsN, oLen, oTuple, oList, oAll, oSum, oIsi, iSeq, iRng1D, iRng2D, iEnumD, iZipD, fz_d, fz_own, fz_town, fz_v, fz_abs, asDs, fzB, wipeD, asD_d, asD_own, asD_bor, asL_list, asL_tuple, asL_own, asL_bor, asL_int, asL_bool, asL_none, asS_list, asS_tuple, asS_own, asS_bor, tru_bool, tru_int, tru_none, tru_tuple, tru_list, tru_own, tru_bor, stO_d, stO_own, stO_town, stO_v, stO_abs, rtS_d, rtS_own, rtS_bor, rtS_v, rtS_abs, isN_none, isN_tuple, isN_int, isN_list, isN_bool, List.map_cons, List.map_nil, List.length_cons, List.length_nil, List.cons_append, List.nil_append, List.getElem?_cons_zero, List.getElem?_cons_succ, List.set_cons_zero, List.set_cons_succ, Option.map_some, Option.map_none, Option.some.injEq, SV.d.injEq, SV.own.injEq, PyData.int.injEq, PyData.bool.injEq, PyData.tuple.injEq, PyData.list.injEq, PyData.str.injEq, List.cons.injEq, exists_eq_left, exists_eq_left', exists_eq_right, exists_and_left, exists_and_right, exists_const, and_true, true_and, if_true, if_false, reduceCtorEq, false_or, or_false, false_and, and_false, Bool.not_true, Bool.not_false, Bool.false_eq_true, ite_true, ite_false, reduceIte, Bool.true_eq_false, Nat.reduceAdd, nc0, nc1, nc2, nc3, nc4, nc5, nc6, nc7, nc8, Int.reduceBEq, beq_self_eq_true, Bool.and_true, Bool.true_and, Bool.and_false, Bool.false_and, Nat.zero_add, $xs,*])
theorem enc_eq (p : Pr) : p.enc = .tuple [.int (p.m : Int), .tuple (p.rules.map Rl.enc)] := rfl
def sp_check_configuration (c : Ct) : Spec := fun ss Q Ex => match ss with
  | [.d (.tuple (.int many :: _)), .d v] => if isConf many v = true then Q (.d .none) else Ex (.ref (c.cls "InvalidConfiguration"))
  | _ => False
theorem at_check_configuration {c : Ct} {many : Int} {r : List PyData} {v : PyData} {Q : SV → Prop} {Ex : XP} : sp_check_configuration c [.d (.tuple (.int many :: r)), .d v] Q Ex = (if isConf many v = true then Q (.d .none) else Ex (.ref (c.cls "InvalidConfiguration"))) := rfl
def t_check_configuration (c : Ct) : DS :=
  (sIf (bNot (bTru (dCall (sp_is_configuration_of c) (daCons (dVar 0) (daCons (dVar 1) daNil))))) (sRaise (.ref (c.cls "InvalidConfiguration"))) sNext)
theorem rd_check_configuration (c : Ct) (ss : List SV) (Q : SV → Prop) (Ex : XP) (h : sp_check_configuration c ss Q Ex) : t_check_configuration c { nx := fun _ => Q (.d .none), rt := Q } (startD 2 ss) Ex := by
  unfold sp_check_configuration at h
  split at h
  · rename_i many r v
    show t_check_configuration c _ [some (.d (.tuple (.int many :: r))), some (.d v)] Ex
    simp_arith only [t_check_configuration, at_is_configuration_of]
    cases e : isConf many v with
    | false =>
      rw [e] at h
      exact h
    | true =>
      rw [e] at h
      exact h
  · exact h.elim
def sp_check_number (c : Ct) : Spec := fun ss Q Ex => match ss with
  | [.d v] => if isBetween v 1 8 = true then Q (.d .none) else Ex (.ref (c.cls "InvalidNumber"))
  | _ => False
theorem at_check_number {c : Ct} {v : PyData} {Q : SV → Prop} {Ex : XP} : sp_check_number c [.d v] Q Ex = (if isBetween v 1 8 = true then Q (.d .none) else Ex (.ref (c.cls "InvalidNumber"))) := rfl
def t_check_number (c : Ct) : DS :=
  (sIf (bNot (bTru (dCall (sp_is_between c) (daCons (dVar 0) (daCons (dC (.d (.int 1))) (daCons (dC (.d (.int 8))) daNil)))))) (sRaise (.ref (c.cls "InvalidNumber"))) sNext)
theorem rd_check_number (c : Ct) (ss : List SV) (Q : SV → Prop) (Ex : XP) (h : sp_check_number c ss Q Ex) : t_check_number c { nx := fun _ => Q (.d .none), rt := Q } (startD 1 ss) Ex := by
  unfold sp_check_number at h
  split at h
  · rename_i v
    show t_check_number c _ [some (.d v)] Ex
    simp_arith only [t_check_number, at_is_between]
    cases e : isBetween v 1 8 with
    | false =>
      rw [e] at h
      exact h
    | true =>
      rw [e] at h
      exact h
  · exact h.elim
/-- the initial configuration -/
def firstN (m n : Nat) : List Nat := n :: List.replicate (m - 1) 0
def sp_first_of (c : Ct) : Spec := fun ss Q _ => ∃ (m n : Nat) (r : List PyData), ss = [.d (.tuple (.int (m : Int) :: r)), .d (.int (n : Int))] ∧ 1 ≤ m ∧ m ≤ 100 ∧ Q (.d (natsD (firstN m n)))
theorem use_first_of {c : Ct} {m n : Nat} {r : List PyData} {Q : SV → Prop} {Ex : XP} (h : 1 ≤ m ∧ m ≤ 100) (q : Q (.d (natsD (firstN m n)))) : sp_first_of c [.d (.tuple (.int (m : Int) :: r)), .d (.int (n : Int))] Q Ex := ⟨m, n, r, rfl, h.1, h.2, q⟩
def t_first_of (c : Ct) : DS :=
  (sRet (dOp wAdd (dTup (daCons (dVar 1) daNil)) (dOp wMul (dC (.d (.tuple [(.int 0)]))) (dOp (wInt2 fun i j => .int (i - j)) (dOp wIx (dVar 0) (dC (.d (.int 0)))) (dC (.d (.int 1)))))))
theorem rd_first_of (c : Ct) (ss : List SV) (Q : SV → Prop) (Ex : XP) (h : sp_first_of c ss Q Ex) : t_first_of c { nx := fun _ => Q (.d .none), rt := Q } (startD 2 ss) Ex := by
  obtain ⟨m, n, r, rfl, h1, h2, q⟩ := h
  show t_first_of c _ [some (.d (.tuple (.int (m : Int) :: r))), some (.d (.int (n : Int)))] Ex
  simp_arith only [t_first_of, atI_0, List.flatten_replicate_singleton, List.length_replicate]
  have e : List.replicate ((m : Int) - 1).toNat (PyData.int 0) = (List.replicate (m - 1) 0).map (fun n : Nat => PyData.int (n : Int)) := by
    rw [List.map_replicate, show ((m : Int) - 1).toNat = m - 1 by omega]
    rfl
  rw [e]
  exact ⟨by decide, by simp, by omega, by omega, by decide, by rw [sizeLine_eq]; omega, q⟩
def sp_initial (c : Ct) : Spec := fun ss Q Ex => match ss with
  | [.d p, .d v] => if isProtocol p = true then (if isBetween v 1 8 = true then Q (.d (natsD (firstN (match p with | .tuple (.int m :: _) => m.toNat | _ => 0) (match v with | .int n => n.toNat | _ => 0)))) else Ex (.ref (c.cls "InvalidNumber"))) else Ex (.ref (c.cls "InvalidProtocol"))
  | _ => False
def t_initial (c : Ct) : DS :=
  (sSeq (sExpr (dCall (sp_check_protocol c) (daCons (dVar 0) daNil)))
  (sSeq (sExpr (dCall (sp_check_number c) (daCons (dVar 1) daNil)))
  (sRet (dCall (sp_first_of c) (daCons (dVar 0) (daCons (dVar 1) daNil))))))
theorem rd_initial (c : Ct) (ss : List SV) (Q : SV → Prop) (Ex : XP) (h : sp_initial c ss Q Ex) : t_initial c { nx := fun _ => Q (.d .none), rt := Q } (startD 2 ss) Ex := by
  unfold sp_initial at h
  split at h
  · rename_i p v
    show t_initial c _ [some (.d p), some (.d v)] Ex
    simp_arith only [t_initial, at_check_protocol, at_check_number]
    cases e : isProtocol p with
    | false =>
      rw [e] at h
      exact h
    | true =>
      obtain ⟨q, rfl, hq⟩ := isP_dec e
      rw [e] at h
      cases e2 : isBetween v 1 8 with
      | false =>
        rw [e2] at h
        exact h
      | true =>
        rw [e2] at h
        obtain ⟨n, rfl, h1, h2⟩ := btw_int e2
        obtain ⟨k, rfl⟩ := Int.eq_ofNat_of_zero_le (show 0 ≤ n by omega)
        have := hq.lo
        have := hq.hi
        simp only [if_true]
        exact use_first_of (by omega) h
  · exact h.elim
/-- one cache of the state s less -/
def othersN (ns : List Nat) (s : Nat) : List Nat := ns.set s (ns.getD s 0 - 1)
def sp_others (c : Ct) : Spec := fun ss Q _ => ∃ (ns : List Nat) (s x : Nat), ss = [.d (natsD ns), .d (.int (s : Int))] ∧ ns[s]? = some (x + 1) ∧ ns.length ≤ 100 ∧ Q (.d (natsD (othersN ns s)))
theorem use_others {c : Ct} {ns : List Nat} {s x : Nat} {Q : SV → Prop} {Ex : XP} (h : ns[s]? = some (x + 1)) (hl : ns.length ≤ 100) (q : Q (.d (natsD (othersN ns s)))) : sp_others c [.d (natsD ns), .d (.int (s : Int))] Q Ex := ⟨ns, s, x, rfl, h, hl, q⟩
def t_others (c : Ct) : DS :=
  (sRet (dOp wAdd (dOp wAdd (dSl (dVar 0) doNone (doSome (dVar 1))) (dTup (daCons (dOp (wInt2 fun i j => .int (i - j)) (dOp wIx (dVar 0) (dVar 1)) (dC (.d (.int 1)))) daNil))) (dSl (dVar 0) (doSome (dOp wAdd (dVar 1) (dC (.d (.int 1))))) doNone)))
theorem rd_others (c : Ct) (ss : List SV) (Q : SV → Prop) (Ex : XP) (h : sp_others c ss Q Ex) : t_others c { nx := fun _ => Q (.d .none), rt := Q } (startD 2 ss) Ex := by
  obtain ⟨ns, s, x, rfl, h1, h2, q⟩ := h
  show t_others c _ [some (.d (.tuple (ns.map (fun n : Nat => PyData.int (n : Int))))), some (.d (.int (s : Int)))] Ex
  have hs := (List.getElem?_eq_some_iff.mp h1).1
  have e1 : ((s : Int) + 1) = ((s + 1 : Nat) : Int) := rfl
  have ea : atI (ns.map (fun n : Nat => PyData.int (n : Int))) (s : Int) = some (.int ((x + 1 : Nat) : Int)) := by
    rw [atI_at, List.getElem?_map, h1]
    rfl
  simp_arith only [t_others, cut_to, cut_from, e1, ea]
  have e2 : List.take s (ns.map (fun n : Nat => PyData.int (n : Int))) ++ [PyData.int (((x + 1 : Nat) : Int) - 1)] ++ List.drop (s + 1) (ns.map (fun n : Nat => PyData.int (n : Int))) = (othersN ns s).map (fun n : Nat => PyData.int (n : Int)) := by
    unfold othersN
    rw [List.map_set, List.set_eq_take_append_cons_drop, if_pos (by rw [List.length_map]; exact hs), List.getD_eq_getElem?_getD, h1, List.append_assoc]
    have e3 : (((x + 1 : Nat) : Int) - 1) = (((x + 1) - 1 : Nat) : Int) := by omega
    rw [e3]
    rfl
  refine ⟨by decide, ?_, ?_, ?_⟩
  · rw [List.length_take, List.length_map, sizeLine_eq]
    omega
  · rw [List.length_append, List.length_take, List.length_drop, List.length_map, sizeLine_eq, List.length_cons, List.length_nil]
    omega
  · rw [e2]
    exact q
/-! ### steps -/
def isPossibleN (ns : List Nat) (r : Rl) : Bool :=
  (ns.getD r.s 0 != 0) && ((r.n == 0 || decide (0 < (othersN ns r.s).getD r.n 0)) && !(r.bars.any fun b => decide (0 < (othersN ns r.s).getD b 0)))
def sp_is_possible (c : Ct) : Spec := fun ss Q _ => ∃ (m : Nat) (ns : List Nat) (r : Rl), ss = [.d (natsD ns), .d r.enc] ∧ r.Ok m ∧ ns.length = m ∧ m ≤ 100 ∧ Q (.d (.bool (isPossibleN ns r)))
theorem use_is_possible {c : Ct} {m : Nat} {ns : List Nat} {r : Rl} {Q : SV → Prop} {Ex : XP} (h1 : r.Ok m) (h2 : ns.length = m) (h3 : m ≤ 100) (q : Q (.d (.bool (isPossibleN ns r)))) : sp_is_possible c [.d (natsD ns), .d r.enc] Q Ex := ⟨m, ns, r, rfl, h1, h2, h3, q⟩
theorem othersN_len (ns : List Nat) (s : Nat) : (othersN ns s).length = ns.length := List.length_set
theorem atI_nats {ns : List Nat} {i : Nat} (h : i < ns.length) : atI (ns.map (fun n : Nat => PyData.int (n : Int))) (i : Int) = some (.int ((ns.getD i 0 : Nat) : Int)) := by
  rw [atI_at, List.getElem?_map, List.getElem?_eq_getElem h, List.getD_eq_getElem?_getD, List.getElem?_eq_getElem h]
  rfl
theorem pos_int (n : Nat) : decide ((0 : Int) < (n : Int)) = decide (0 < n) := by
  by_cases h : 0 < n
  · rw [decide_eq_true h, decide_eq_true (by omega)]
  · rw [decide_eq_false h, decide_eq_false (by omega)]
def t_is_possible (c : Ct) : DS :=
  (sSeq (sAsg (dVar 1) (gT 5 (gsCons (gN 2) (gsCons (gN 3) (gsCons (gN 4) (gsCons (gN 5) (gsCons (gN 6) gsNil)))))))
  (sSeq (sIf (bVal (dOp (wEqD fun b => b) (dOp wIx (dVar 0) (dVar 2)) (dC (.d (.int 0))))) (sRet (dC (.d (.bool false)))) sNext)
  (sSeq (sSetF 7 (dCall (sp_others c) (daCons (dVar 0) (daCons (dVar 2) daNil))))
  (sRet (dAnd (dOr (dOp (wEqD fun b => b) (dVar 4) (dC (.d (.int 0)))) (dOp (wInt2 fun i j => .bool (decide (j < i))) (dOp wIx (dVar 7) (dVar 4)) (dC (.d (.int 0))))) (dNot (dOne (oAll fun bs => bs.any id) (dLc (iSeq (dVar 5)) (gN 8) bYes (dOp (wInt2 fun i j => .bool (decide (j < i))) (dOp wIx (dVar 7) (dVar 8)) (dC (.d (.int 0)))) [8]))))))))
theorem rd_is_possible (c : Ct) (ss : List SV) (Q : SV → Prop) (Ex : XP) (h : sp_is_possible c ss Q Ex) : t_is_possible c { nx := fun _ => Q (.d .none), rt := Q } (startD 9 ss) Ex := by
  obtain ⟨m, ns, r, rfl, hr, hl, hm, q⟩ := h
  have hs : r.s < ns.length := by rw [hl]; exact hr.s
  have e0 : ((ns.getD r.s 0 : Nat) : Int) = (ns.getD r.s 0 : Nat) := rfl
  show t_is_possible c _ [some (.d (.tuple (ns.map (fun n : Nat => PyData.int (n : Int))))), some (.d (.tuple [.int r.s, .int r.t, .int r.n, .tuple (r.bars.map (fun n : Nat => PyData.int (n : Int))), .tuple (r.eff.map (fun n : Nat => PyData.int (n : Int)))])), none, none, none, none, none, none, none] Ex
  unfold t_is_possible
  refine seqK fun K hK => ?_
  simp_arith only []
  refine hK _ ?_
  clear hK K
  refine seqK fun K hK => ?_
  simp_arith only [atI_nats hs, sh_int]
  have ez : PyData.eqv (.int ((ns.getD r.s 0 : Nat) : Int)) (.int 0) = decide (ns.getD r.s 0 = 0) := eqv_nat _ 0
  rw [ez]
  unfold isPossibleN at q
  by_cases h0 : ns.getD r.s 0 = 0
  · rw [decide_eq_true h0, if_pos rfl]
    rw [h0] at q
    exact q
  rw [decide_eq_false h0, if_neg (by decide)]
  refine hK _ ?_
  clear hK K
  obtain ⟨x, hx⟩ : ∃ x, ns.getD r.s 0 = x + 1 := ⟨ns.getD r.s 0 - 1, by omega⟩
  have hx2 : ns[r.s]? = some (x + 1) := by
    rw [List.getElem?_eq_getElem hs, ← hx, List.getD_eq_getElem?_getD, List.getElem?_eq_getElem hs]
    rfl
  refine seqK fun K hK => ?_
  simp_arith only []
  refine use_others hx2 (by omega) ?_
  simp_arith only []
  refine hK _ ?_
  clear hK K
  have h0' : (ns.getD r.s 0 != 0) = true := by simpa using h0
  rw [h0', Bool.true_and] at q
  have hn : r.n < (othersN ns r.s).length := by rw [othersN_len, hl]; exact hr.n
  rw [show natsD (othersN ns r.s) = .tuple ((othersN ns r.s).map (fun n : Nat => PyData.int (n : Int))) from rfl]
  simp_arith only [sh_int, atI_nats hn]
  have ez2 : PyData.eqv (.int (r.n : Int)) (.int 0) = decide (r.n = 0) := eqv_nat _ 0
  have anyL : ∀ {δ : Env}, δ[7]? = some (some (.d (.tuple ((othersN ns r.s).map (fun n : Nat => PyData.int (n : Int)))))) → 8 < δ.length → Q (.d (.bool !(r.bars.any fun b => decide (0 < (othersN ns r.s).getD b 0)))) → lcR (gN 8) bYes (dOp (wInt2 fun i j => PyData.bool (decide (j < i))) (dOp wIx (dVar 7) (dVar 8)) (dC (SV.d (PyData.int 0)))) δ (r.bars.map (fun n : Nat => PyData.int (n : Int))) fun ys =>
      ∃ bs, ys = List.map PyData.bool bs ∧ Q (SV.d (PyData.bool !bs.any id)) := fun {δ} hδ hδl q => by
    refine lcR_map (fun x => match x with | .int b => .bool (decide (0 < (othersN ns r.s).getD b.toNat 0)) | _ => .none) _ (fun x hx k' hk => ?_) ⟨r.bars.map fun b => decide (0 < (othersN ns r.s).getD b 0), ?_, ?_⟩
    · obtain ⟨b, hb, rfl⟩ := List.mem_map.mp hx
      have hbl : b < (othersN ns r.s).length := by rw [othersN_len, hl]; exact (hr.bars b hb).2
      have g7 : (δ.set 8 (some (.d (.int (b : Int)))))[7]? = some (some (.d (.tuple ((othersN ns r.s).map (fun n : Nat => PyData.int (n : Int)))))) := by
        rw [List.getElem?_set_ne (by decide)]
        exact hδ
      have g8 : (δ.set 8 (some (.d (.int (b : Int)))))[8]? = some (some (.d (.int (b : Int)))) := List.getElem?_set_self hδl
      simp_arith only [lcT, g7, g8, atI_nats hbl, pos_int]
      exact hk
    · rw [List.map_map, List.map_map]
      rfl
    · rw [List.any_map]
      exact q
  rw [ez2]
  by_cases hn0 : r.n = 0
  · rw [decide_eq_true hn0, if_pos rfl]
    have e1 : (r.n == 0) = true := by simpa using hn0
    rw [e1, Bool.true_or, Bool.true_and] at q
    exact anyL rfl (by simp) q
  · rw [decide_eq_false hn0, if_neg (by decide)]
    have e1 : (r.n == 0) = false := by simpa using hn0
    rw [e1, Bool.false_or] at q
    rw [pos_int]
    cases e2 : decide (0 < (othersN ns r.s).getD r.n 0) with
    | true =>
      rw [e2, Bool.true_and] at q
      exact anyL rfl (by simp) q
    | false =>
      rw [e2, Bool.false_and] at q
      exact q
def addAt (f : List Nat) (i c : Nat) : List Nat := f.set i (f.getD i 0 + c)
theorem addAt_len (f : List Nat) (i c : Nat) : (addAt f i c).length = f.length := List.length_set
def spread (eff : List Nat) : List Nat → Nat → List Nat → List Nat
  | [], _, f => f
  | c :: cs, k, f => spread eff cs (k + 1) (addAt f (eff.getD k 0) c)
def performedN (ns : List Nat) (r : Rl) : List Nat := addAt (spread r.eff (othersN ns r.s) 0 (List.replicate ns.length 0)) r.t 1
theorem spread_len (eff : List Nat) : ∀ (cs : List Nat) (k : Nat) (f : List Nat), (spread eff cs k f).length = f.length
  | [], _, _ => rfl
  | c :: cs, k, f => by
    show (spread eff cs (k + 1) (addAt f (eff.getD k 0) c)).length = _
    rw [spread_len eff cs, addAt_len]
def sp_performed (c : Ct) : Spec := fun ss Q _ => ∃ (m : Nat) (ns : List Nat) (r : Rl) (x : Nat), ss = [.d (natsD ns), .d r.enc] ∧ r.Ok m ∧ ns.length = m ∧ m ≤ 100 ∧ ns[r.s]? = some (x + 1) ∧ Q (.d (natsD (performedN ns r)))
theorem use_performed {c : Ct} {m : Nat} {ns : List Nat} {r : Rl} {x : Nat} {Q : SV → Prop} {Ex : XP} (h1 : r.Ok m) (h2 : ns.length = m) (h3 : m ≤ 100) (h4 : ns[r.s]? = some (x + 1)) (q : Q (.d (natsD (performedN ns r)))) : sp_performed c [.d (natsD ns), .d r.enc] Q Ex := ⟨m, ns, r, x, rfl, h1, h2, h3, h4, q⟩
theorem set_nats (f : List Nat) (i c : Nat) : (f.map (fun n : Nat => PyData.int (n : Int))).set i (.int (((f.getD i 0 : Nat) : Int) + (c : Int))) = (addAt f i c).map (fun n : Nat => PyData.int (n : Int)) := by
  unfold addAt
  rw [List.map_set]
  rfl
theorem ixN_nat {n i : Nat} (h : i < n) : ixN n (i : Int) = some i := by
  unfold ixN
  rw [if_pos (by omega), if_pos (by omega)]
  rfl
theorem get_nats {f : List Nat} {i : Nat} (h : i < f.length) : (f.map (fun n : Nat => PyData.int (n : Int)))[i]? = some (.int ((f.getD i 0 : Nat) : Int)) := by
  rw [List.getElem?_map, List.getElem?_eq_getElem h, List.getD_eq_getElem?_getD, List.getElem?_eq_getElem h]
  rfl
def t_performed (c : Ct) : DS :=
  (sSeq (sAsg (dVar 1) (gT 5 (gsCons (gN 2) (gsCons (gN 3) (gsCons (gN 4) (gsCons (gN 5) (gsCons (gN 6) gsNil)))))))
  (sSeq (sSet 7 (dOp wMul (dC (.own [(.int 0)])) (dOne oLen (dVar 0))))
  (sSeq (sFor (iEnumD (dCall (sp_others c) (daCons (dVar 0) (daCons (dVar 2) daNil)))) (gT 2 (gsCons (gN 8) (gsCons (gN 9) gsNil))) (sAugI 7 (fun i j => i + j) (dOp wIx (dVar 6) (dVar 8)) (dVar 9)))
  (sSeq (sAugI 7 (fun i j => i + j) (dVar 3) (dC (.d (.int 1))))
  (sRet (dOne oTuple (dVar 7)))))))
theorem rd_performed (c : Ct) (ss : List SV) (Q : SV → Prop) (Ex : XP) (h : sp_performed c ss Q Ex) : t_performed c { nx := fun _ => Q (.d .none), rt := Q } (startD 10 ss) Ex := by
  obtain ⟨m, ns, r, x, rfl, hr, hl, hm, hx, q⟩ := h
  show t_performed c _ [some (.d (.tuple (ns.map (fun n : Nat => PyData.int (n : Int))))), some (.d (.tuple [.int r.s, .int r.t, .int r.n, .tuple (r.bars.map (fun n : Nat => PyData.int (n : Int))), .tuple (r.eff.map (fun n : Nat => PyData.int (n : Int)))])), none, none, none, none, none, none, none, none] Ex
  unfold t_performed
  refine seqK fun K hK => ?_
  simp_arith only []
  refine hK _ ?_
  clear hK K
  refine seqK fun K hK => ?_
  simp_arith only []
  have e0 : (List.replicate (((ns.map (fun n : Nat => PyData.int (n : Int))).length : Nat) : Int).toNat [PyData.int 0]).flatten = (List.replicate m 0).map (fun n : Nat => PyData.int (n : Int)) := by
    rw [Int.toNat_natCast, List.length_map, hl, List.flatten_replicate_singleton, List.map_replicate]
    rfl
  rw [e0]
  refine ⟨by omega, by rw [List.length_map]; omega, by decide, hK _ ?_⟩
  clear hK K
  refine seqK fun K hK => ?_
  simp_arith only []
  refine use_others hx (by omega) ?_
  rw [show natsD (othersN ns r.s) = .tuple ((othersN ns r.s).map (fun n : Nat => PyData.int (n : Int))) from rfl]
  simp_arith only []
  have hol : (othersN ns r.s).length = m := by rw [othersN_len, hl]
  refine forR_inv (fun pre δ => ∃ (f : List Nat) (o8 o9 : Option SV), δ = [some (.d (.tuple (ns.map (fun n : Nat => PyData.int (n : Int))))), some (.d (.tuple [.int r.s, .int r.t, .int r.n, .tuple (r.bars.map (fun n : Nat => PyData.int (n : Int))), .tuple (r.eff.map (fun n : Nat => PyData.int (n : Int)))])), some (.d (.int r.s)), some (.d (.int r.t)), some (.d (.int r.n)), some (.d (.tuple (r.bars.map (fun n : Nat => PyData.int (n : Int))))), some (.d (.tuple (r.eff.map (fun n : Nat => PyData.int (n : Int))))), some (.own (f.map (fun n : Nat => PyData.int (n : Int)))), o8, o9] ∧
    f.length = m ∧ spread r.eff ((othersN ns r.s).drop pre.length) pre.length f = spread r.eff (othersN ns r.s) 0 (List.replicate ns.length 0)) _ [] _ ⟨List.replicate m 0, none, none, rfl, List.length_replicate, by rw [hl]; rfl⟩ (fun p e rr δ k hp hI hk => ?_) fun δ' hI => ?_
  · obtain ⟨f, o8, o9, rfl, h1, h2⟩ := hI
    rw [List.nil_append] at hp
    obtain ⟨z, hz, rfl⟩ := prs_at _ 0 p e rr hp
    rw [Nat.zero_add]
    rw [List.getElem?_map] at hz
    cases hz0 : (othersN ns r.s)[p.length]? with
    | none => rw [hz0] at hz; cases hz
    | some cnt =>
      rw [hz0, Option.map_some, Option.some.injEq] at hz
      subst hz
      have hpl := (List.getElem?_eq_some_iff.mp hz0).1
      have hpe : p.length < r.eff.length := by rw [hr.len]; omega
      have heff : r.eff.getD p.length 0 < f.length := by
        rw [h1, List.getD_eq_getElem?_getD, List.getElem?_eq_getElem hpe]
        exact hr.eff _ (List.getElem_mem hpe)
      simp_arith only [atI_nats hpe]
      refine ⟨_, by rw [List.length_map]; exact ixN_nat heff, by omega, _, get_nats heff, ?_⟩
      rw [set_nats]
      refine hk _ ⟨_, some (.d (.int p.length)), some (.d (.int cnt)), rfl, by rw [addAt_len]; exact h1, ?_⟩
      rw [← h2, List.length_append, List.length_cons, List.length_nil]
      have ed : (othersN ns r.s).drop p.length = cnt :: (othersN ns r.s).drop (p.length + 1) := by
        rw [List.drop_eq_getElem_cons hpl]
        rw [List.getElem?_eq_getElem hpl, Option.some.injEq] at hz0
        rw [hz0]
      rw [ed]
      rfl
  · obtain ⟨f, o8, o9, rfl, h1, h2⟩ := hI
    rw [List.nil_append, prs_len, List.length_map, List.drop_length] at h2
    have h2' : f = spread r.eff (othersN ns r.s) 0 (List.replicate ns.length 0) := h2
    refine hK _ ?_
    clear hK K
    have htl : r.t < f.length := by rw [h1]; exact hr.t
    refine seqK fun K hK => ?_
    simp_arith only []
    refine ⟨_, by rw [List.length_map]; exact ixN_nat htl, by omega, _, get_nats htl, ?_⟩
    have e5 := set_nats f r.t 1
    simp only [nc1] at e5
    rw [e5]
    refine hK _ ?_
    clear hK K
    simp_arith only []
    have e6 : addAt f r.t 1 = performedN ns r := by
      unfold performedN
      rw [← h2']
    rw [e6]
    exact q
def droppedN (ns : List Nat) (s : Nat) : List Nat := match othersN ns s with
  | a :: r => (a + 1) :: r
  | [] => []
def sp_dropped (c : Ct) : Spec := fun ss Q _ => ∃ (ns : List Nat) (s x : Nat), ss = [.d (natsD ns), .d (.int (s : Int))] ∧ ns[s]? = some (x + 1) ∧ ns.length ≤ 100 ∧ Q (.d (natsD (droppedN ns s)))
theorem use_dropped {c : Ct} {ns : List Nat} {s x : Nat} {Q : SV → Prop} {Ex : XP} (h : ns[s]? = some (x + 1)) (hl : ns.length ≤ 100) (q : Q (.d (natsD (droppedN ns s)))) : sp_dropped c [.d (natsD ns), .d (.int (s : Int))] Q Ex := ⟨ns, s, x, rfl, h, hl, q⟩
def t_dropped (c : Ct) : DS :=
  (sSeq (sSetF 2 (dCall (sp_others c) (daCons (dVar 0) (daCons (dVar 1) daNil))))
  (sRet (dOp wAdd (dTup (daCons (dOp wAdd (dOp wIx (dVar 2) (dC (.d (.int 0)))) (dC (.d (.int 1)))) daNil)) (dSl (dVar 2) (doSome (dC (.d (.int 1)))) doNone))))
theorem rd_dropped (c : Ct) (ss : List SV) (Q : SV → Prop) (Ex : XP) (h : sp_dropped c ss Q Ex) : t_dropped c { nx := fun _ => Q (.d .none), rt := Q } (startD 3 ss) Ex := by
  obtain ⟨ns, s, x, rfl, h1, h2, q⟩ := h
  show t_dropped c _ [some (.d (natsD ns)), some (.d (.int (s : Int))), none] Ex
  unfold t_dropped
  refine seqK fun K hK => ?_
  simp_arith only []
  refine use_others h1 h2 ?_
  simp_arith only []
  refine hK _ ?_
  clear hK K
  have hs := (List.getElem?_eq_some_iff.mp h1).1
  have hl := othersN_len ns s
  unfold droppedN at q
  cases e : othersN ns s with
  | nil =>
    rw [e] at hl
    simp at hl
    omega
  | cons a r =>
    rw [e] at q hl
    rw [show natsD (a :: r) = .tuple (.int (a : Int) :: r.map (fun n : Nat => PyData.int (n : Int))) from rfl]
    simp_arith only [atI_0, cut_from1, List.drop_succ_cons, List.drop_zero]
    refine ⟨by decide, ?_, q⟩
    rw [List.length_cons] at hl
    rw [List.length_map, sizeLine_eq]
    omega
/-! ### the moves -/
inductive Stp where
  | drop (s : Nat)
  | rule (i : Nat)
  deriving DecidableEq
def Stp.enc : Stp → PyData
  | .drop s => .tuple [.str "drop", .int (s : Int)]
  | .rule i => .tuple [.str "rule", .int (i : Int)]
def pairD (p : Stp × List Nat) : PyData := .tuple [p.1.enc, natsD p.2]
def dropsN (ns : List Nat) (l : List Nat) : List (Stp × List Nat) := l.filterMap fun s => if 0 < ns.getD s 0 then some (.drop s, droppedN ns s) else none
def rulesN (ns : List Nat) : List Rl → Nat → List (Stp × List Nat)
  | [], _ => []
  | r :: rs, i => (if isPossibleN ns r = true then [(.rule i, performedN ns r)] else []) ++ rulesN ns rs (i + 1)
def movesN (p : Pr) (ns : List Nat) : List (Stp × List Nat) := dropsN ns (List.range' 1 (p.m - 1)) ++ rulesN ns p.rules 0
theorem map_at {α β : Type} {f : α → β} : ∀ {l : List α} {p : List β} {x : β} {r : List β}, l.map f = p ++ x :: r → ∃ a, l[p.length]? = some a ∧ x = f a ∧ l.take (p.length + 1) = l.take p.length ++ [a]
  | [], p, x, r, h => by
    have := congrArg List.length h
    simp at this
  | a :: l, [], x, r, h => by
    injection h with h1 h2
    exact ⟨a, rfl, h1.symm, rfl⟩
  | a :: l, y :: p, x, r, h => by
    injection h with h1 h2
    obtain ⟨b, e1, e2, e3⟩ := map_at h2
    refine ⟨b, by simpa using e1, e2, ?_⟩
    rw [List.length_cons, List.take_succ_cons, e3, List.take_succ_cons]
    rfl
theorem possible_at {ns : List Nat} {r : Rl} {m : Nat} (h : isPossibleN ns r = true) (hr : r.Ok m) (hl : ns.length = m) : ∃ x, ns[r.s]? = some (x + 1) := by
  unfold isPossibleN at h
  rw [Bool.and_eq_true, bne_iff_ne] at h
  have hs : r.s < ns.length := by rw [hl]; exact hr.s
  have e : ns.getD r.s 0 = ns[r.s] := by
    rw [List.getD_eq_getElem?_getD, List.getElem?_eq_getElem hs]
    rfl
  rw [e] at h
  exact ⟨ns[r.s] - 1, by rw [List.getElem?_eq_getElem hs]; congr 1; omega⟩
theorem dropsN_len (ns l : List Nat) : (dropsN ns l).length ≤ l.length := List.length_filterMap_le _ _
theorem rulesN_len (ns : List Nat) : ∀ (rs : List Rl) (i : Nat), (rulesN ns rs i).length ≤ rs.length
  | [], _ => Nat.le_refl _
  | r :: rs, i => by
    have := rulesN_len ns rs (i + 1)
    show (_ ++ rulesN ns rs (i + 1)).length ≤ _
    rw [List.length_append, List.length_cons]
    split
    · simp
      omega
    · simp
      omega
theorem rulesN_split (ns : List Nat) : ∀ (as bs : List Rl) (i : Nat), rulesN ns (as ++ bs) i = rulesN ns as i ++ rulesN ns bs (i + as.length)
  | [], _, _ => rfl
  | a :: as, bs, i => by
    show _ ++ rulesN ns (as ++ bs) (i + 1) = (_ ++ rulesN ns as (i + 1)) ++ _
    rw [rulesN_split ns as bs (i + 1), List.append_assoc, List.length_cons]
    congr 3
    omega
def sp_moves (c : Ct) : Spec := fun ss Q _ => ∃ (p : Pr) (ns : List Nat), ss = [.d p.enc, .d (natsD ns)] ∧ p.Ok ∧ ns.length = p.m ∧ Q (.own ((movesN p ns).map pairD))
theorem use_moves {c : Ct} {p : Pr} {ns : List Nat} {Q : SV → Prop} {Ex : XP} (h1 : p.Ok) (h2 : ns.length = p.m) (q : Q (.own ((movesN p ns).map pairD))) : sp_moves c [.d p.enc, .d (natsD ns)] Q Ex := ⟨p, ns, rfl, h1, h2, q⟩
def t_moves (c : Ct) : DS :=
  (sSeq (sSet 2 (dLst daNil))
  (sSeq (sFor (iRng2D (dC (.d (.int 1))) (dOp wIx (dVar 0) (dC (.d (.int 0))))) (gN 3) (sIf (bVal (dOp (wInt2 fun i j => .bool (decide (j < i))) (dOp wIx (dVar 1) (dVar 3)) (dC (.d (.int 0))))) (sApp 2 (dTup (daCons (dTup (daCons (dC (.d (.str ("drop" : Str)))) (daCons (dVar 3) daNil))) (daCons (dCall (sp_dropped c) (daCons (dVar 1) (daCons (dVar 3) daNil))) daNil)))) sNext))
  (sSeq (sFor (iEnumD (dOp wIx (dVar 0) (dC (.d (.int 1))))) (gT 2 (gsCons (gN 4) (gsCons (gN 5) gsNil))) (sIf (bTru (dCall (sp_is_possible c) (daCons (dVar 1) (daCons (dVar 5) daNil)))) (sApp 2 (dTup (daCons (dTup (daCons (dC (.d (.str ("rule" : Str)))) (daCons (dVar 4) daNil))) (daCons (dCall (sp_performed c) (daCons (dVar 1) (daCons (dVar 5) daNil))) daNil)))) sNext))
  (sRet (dVar 2)))))
theorem rd_moves (c : Ct) (ss : List SV) (Q : SV → Prop) (Ex : XP) (h : sp_moves c ss Q Ex) : t_moves c { nx := fun _ => Q (.d .none), rt := Q } (startD 6 ss) Ex := by
  obtain ⟨⟨m, rs⟩, ns, rfl, hp, hl, q⟩ := h
  simp only at hl
  have hm1 : 2 ≤ m := hp.lo
  have hm2 : m ≤ 5 := hp.hi
  have hrs : rs.length ≤ 8 := hp.few
  show t_moves c _ [some (.d (.tuple [.int (m : Int), .tuple (rs.map Rl.enc)])), some (.d (natsD ns)), none, none, none, none] Ex
  unfold t_moves
  refine seqK fun K hK => ?_
  simp_arith only []
  refine ⟨by decide, hK _ ?_⟩
  clear hK K
  refine seqK fun K hK => ?_
  simp_arith only [atI_0]
  have er : rngD 1 ((m : Int) - 1).toNat = (List.range' 1 (m - 1)).map (fun n : Nat => PyData.int (n : Int)) := by
    rw [show ((m : Int) - 1).toNat = m - 1 by omega]
    exact rngD_nat (m - 1) 1
  rw [er]
  refine ⟨by decide, by decide, by omega, by omega, ?_⟩
  refine forR_inv (fun pre δ => ∃ o3 : Option SV, δ = [some (.d (.tuple [.int (m : Int), .tuple (rs.map Rl.enc)])), some (.d (natsD ns)), some (.own ((dropsN ns ((List.range' 1 (m - 1)).take pre.length)).map pairD)), o3, none, none]) _ [] _ ⟨none, rfl⟩ (fun p x r δ k hpp hI hk => ?_) fun δ' hI => ?_
  · obtain ⟨o3, rfl⟩ := hI
    rw [List.nil_append] at hpp
    obtain ⟨s, hs, rfl, htk⟩ := map_at hpp
    have hsm : s < m := by
      have := List.mem_range'_1.mp (List.mem_of_getElem? hs)
      omega
    have hsl : s < ns.length := by omega
    have nx : ∀ {l : List (Stp × List Nat)}, dropsN ns ((List.range' 1 (m - 1)).take (p.length + 1)) = l → k [some (.d (.tuple [.int (m : Int), .tuple (rs.map Rl.enc)])), some (.d (natsD ns)), some (.own (l.map pairD)), some (.d (.int (s : Int))), none, none] := fun {l} e => by
      subst e
      exact hk _ ⟨some (.d (.int (s : Int))), by rw [List.length_append]; rfl⟩
    rw [htk] at nx
    unfold dropsN at nx
    rw [List.filterMap_append] at nx
    rw [show natsD ns = .tuple (ns.map (fun n : Nat => PyData.int (n : Int))) from rfl]
    simp_arith only [atI_nats hsl, pos_int]
    by_cases h0 : 0 < ns.getD s 0
    · rw [decide_eq_true h0, if_pos rfl]
      have hx : ns[s]? = some ((ns.getD s 0 - 1) + 1) := by
        rw [List.getElem?_eq_getElem hsl]
        have e : ns.getD s 0 = ns[s] := by
          rw [List.getD_eq_getElem?_getD, List.getElem?_eq_getElem hsl]
          rfl
        rw [← e]
        congr 1
        omega
      refine ⟨by decide, ?_⟩
      refine use_dropped hx (by omega) ?_
      simp_arith only []
      refine ⟨by decide, ?_, ?_⟩
      · have := dropsN_len ns ((List.range' 1 (m - 1)).take p.length)
        rw [List.length_map, sizeLine_eq]
        rw [List.length_take, List.length_range'] at this
        omega
      · have e := nx rfl
        rw [List.map_append] at e
        have e2 : List.filterMap (fun s => if 0 < ns.getD s 0 then some (Stp.drop s, droppedN ns s) else none) [s] = [(.drop s, droppedN ns s)] := by
          rw [List.filterMap_cons, if_pos h0]
          rfl
        rw [e2] at e
        exact e
    · rw [decide_eq_false h0, if_neg (by decide)]
      have e := nx rfl
      have e2 : List.filterMap (fun s => if 0 < ns.getD s 0 then some (Stp.drop s, droppedN ns s) else none) [s] = [] := by
        rw [List.filterMap_cons, if_neg h0]
        rfl
      rw [e2, List.append_nil] at e
      exact e
  · obtain ⟨o3, rfl⟩ := hI
    rw [List.nil_append, List.length_map, List.take_length]
    refine hK _ ?_
    clear hK K
    refine seqK fun K hK => ?_
    simp_arith only []
    refine ⟨_, rfl, _, rfl, ?_⟩
    refine forR_inv (fun pre δ => ∃ o3 o4 o5 : Option SV, δ = [some (.d (.tuple [.int (m : Int), .tuple (rs.map Rl.enc)])), some (.d (natsD ns)), some (.own ((dropsN ns (List.range' 1 (m - 1)) ++ rulesN ns (rs.take pre.length) 0).map pairD)), o3, o4, o5]) _ [] _ ⟨o3, none, none, by
      rw [List.length_nil, List.take_zero]
      show _ = [_, _, some (SV.own ((dropsN ns (List.range' 1 (m - 1)) ++ []).map pairD)), _, _, _]
      rw [List.append_nil]⟩ (fun p x r δ k hpp hI hk => ?_) fun δ' hI => ?_
    · obtain ⟨o3, o4, o5, rfl⟩ := hI
      rw [List.nil_append] at hpp
      obtain ⟨z, hz, rfl⟩ := prs_at _ 0 p x r hpp
      rw [Nat.zero_add]
      rw [List.getElem?_map] at hz
      cases hz0 : rs[p.length]? with
      | none => rw [hz0] at hz; cases hz
      | some ru =>
        rw [hz0, Option.map_some, Option.some.injEq] at hz
        subst hz
        have hpl := (List.getElem?_eq_some_iff.mp hz0).1
        have hru : ru.Ok m := hp.rules ru (List.mem_of_getElem? hz0)
        have htk : rs.take (p.length + 1) = rs.take p.length ++ [ru] := by
          rw [List.take_succ_eq_append_getElem hpl]
          rw [List.getElem?_eq_getElem hpl, Option.some.injEq] at hz0
          rw [hz0]
        have e1 : rulesN ns (rs.take (p.length + 1)) 0 = rulesN ns (rs.take p.length) 0 ++ (if isPossibleN ns ru = true then [(Stp.rule p.length, performedN ns ru)] else []) := by
          rw [htk, rulesN_split]
          have e2 : 0 + (rs.take p.length).length = p.length := by
            rw [List.length_take]
            omega
          rw [e2]
          show _ ++ (_ ++ []) = _
          rw [List.append_nil]
        have nx : ∀ {o3 : Option SV}, k [some (.d (.tuple [.int (m : Int), .tuple (rs.map Rl.enc)])), some (.d (natsD ns)), some (.own ((dropsN ns (List.range' 1 (m - 1)) ++ rulesN ns (rs.take (p.length + 1)) 0).map pairD)), o3, some (.d (.int p.length)), some (.d ru.enc)] := fun {o3} => hk _ ⟨o3, _, _, by rw [List.length_append]; rfl⟩
        rw [e1, ← List.append_assoc, List.map_append] at nx
        simp_arith only []
        refine use_is_possible hru hl (by omega) ?_
        simp_arith only []
        by_cases hpo : isPossibleN ns ru = true
        · rw [if_pos hpo] at nx ⊢
          obtain ⟨x0, hx0⟩ := possible_at hpo hru hl
          refine ⟨by decide, ?_⟩
          refine use_performed hru hl (by omega) hx0 ?_
          simp_arith only []
          refine ⟨by decide, ?_, nx⟩
          have l1 := dropsN_len ns (List.range' 1 (m - 1))
          have l2 := rulesN_len ns (rs.take p.length) 0
          rw [List.length_range'] at l1
          rw [List.length_take] at l2
          rw [List.length_map, List.length_append, sizeLine_eq]
          omega
        · rw [if_neg hpo] at nx ⊢
          rw [List.map_nil, List.append_nil] at nx
          exact nx
    · obtain ⟨o3, o4, o5, rfl⟩ := hI
      rw [List.nil_append, prs_len, List.length_map, List.take_length]
      refine hK _ ?_
      clear hK K
      simp_arith only []
      exact q
end DL
/-! Fi: steps, after. -/
namespace DL
open PySem PySem.Spec PyProof.Rows L2
local macro_rules
  | `(tactic| simp_arith only [$xs,*]) => `(tactic| simp only [sSeq, sNext, sExpr, sRet, sIf, sSet, sSetF, sAsg, sPar, sRaise, sFor, sApp, sExt, sPop, sItem, sAugI, sAug, sFrz, sMove, sBreak, sCont, gN, gT, gsNil, gsCons, dVar, vS_d, vS_own, vS_town, vS_v, vS_scr, fz_scr, dC, dOp, dCall, dCallK, daNil, daCons, dTup, dLst, dSl, doNone, doSome, dIf, dAnd, dOr, dNot, dNeg, dOne, dTwoI, dChain, dLc, bVal, bTru, bScr, dLenS, dIxS, dCount, dRest, sCount, sRest, bNot, bAnd, bOr, bYes, wInt2, wIntC, wAdd, wMul, wIx, wIn, wEqD, wIsN, oLen, oTuple, oList, oAll, oSum, oIsi, iSeq, iRng1D, iRng2D, iEnumD, iZipD, fz_d, fz_own, fz_town, fz_v, fz_abs, asDs, fzB, wipeD, asD_d, asD_own, asD_bor, asL_list, asL_tuple, asL_own, asL_bor, asL_int, asL_bool, asL_none, asS_list, asS_tuple, asS_own, asS_bor, tru_bool, tru_int, tru_none, tru_tuple, tru_list, tru_own, tru_bor, stO_d, stO_own, stO_town, stO_v, stO_abs, rtS_d, rtS_own, rtS_bor, rtS_v, rtS_abs, isN_none, isN_tuple, isN_int, isN_list, isN_bool, List.map_cons, List.map_nil, List.length_cons, List.length_nil, List.cons_append, List.nil_append, List.getElem?_cons_zero, List.getElem?_cons_succ, List.set_cons_zero, List.set_cons_succ, Option.map_some, Option.map_none, Option.some.injEq, SV.d.injEq, SV.own.injEq, PyData.int.injEq, PyData.bool.injEq, PyData.tuple.injEq, PyData.list.injEq, PyData.str.injEq, List.cons.injEq, exists_eq_left, exists_eq_left', exists_eq_right, exists_and_left, exists_and_right, exists_const, and_true, true_and, if_true, if_false, reduceCtorEq, false_or, or_false, false_and, and_false, Bool.not_true, Bool.not_false, Bool.false_eq_true, ite_true, ite_false, reduceIte, Bool.true_eq_false, Nat.reduceAdd, nc0, nc1, nc2, nc3, nc4, nc5, nc6, nc7, nc8, Int.reduceBEq, beq_self_eq_true, Bool.and_true, Bool.true_and, Bool.and_false, Bool.false_and, Nat.zero_add, $xs,*])
local macro_rules
  | `(tactic| simp_arith! [$xs,*]) => `(tactic| simp only [sSeq, sNext, sExpr, sRet, sIf, sSet, sSetF, sAsg, sPar, sRaise, sFor, sApp, sExt, sPop, sItem, sAugI, sAug, sFrz, sMove, sBreak, sCont, gN, gT, gsNil, gsCons, dVar, vS_d, vS_own, vS_town, vS_v, vS_scr, fz_scr, dC, dOp, dCall, dCallK, daNil, daCons, dTup, dLst, dSl, doNone, doSome, dIf, dAnd, dOr, dNot, dNeg, dOne, dTwoI, dChain, dLc, bVal, bTru, bScr, dLenS, dIxS, dCount, dRest, sCount, sRest, bNot, bAnd, bOr, bYes, wInt2, wIntC, wAdd, wMul, wIx, wIn, wEqD, wIsN, oLen, oTuple, oList, oAll, oSum, oIsi, iSeq, iRng1D, iRng2D, iEnumD, iZipD, fz_d, fz_own, fz_town, fz_v, fz_abs, asDs, fzB, wipeD, asD_d, asD_own, asD_bor, asL_list, asL_tuple, asL_own, asL_bor, asL_int, asL_bool, asL_none, asS_list, asS_tuple, asS_own, asS_bor, tru_bool, tru_int, tru_none, tru_tuple, tru_list, tru_own, tru_bor, stO_d, stO_own, stO_town, stO_v, stO_abs, rtS_d, rtS_own, rtS_bor, rtS_v, rtS_abs, isN_none, isN_tuple, isN_int, isN_list, isN_bool, sItem2, wInT, oDictT, dGetT1, dDK2, sUpd, dIsX, iKeysL, dGetK, sSetLcL, dRes, noOwnE, noOwn, SV.ow.injEq, SV.bo.injEq, SV.fo.injEq, OC.dK.injEq, OC.dKl.injEq, OC.dT.injEq, OC.dTl.injEq, OC.exc.injEq, vS_ow, vS_fo, stO_ow, fz_ow, fz_fo, List.map_cons, List.map_nil, List.length_cons, List.length_nil, List.cons_append, List.nil_append, List.getElem?_cons_zero, List.getElem?_cons_succ, List.set_cons_zero, List.set_cons_succ, Option.map_some, Option.map_none, Option.some.injEq, SV.d.injEq, SV.own.injEq, PyData.int.injEq, PyData.bool.injEq, PyData.tuple.injEq, PyData.list.injEq, PyData.str.injEq, List.cons.injEq, exists_eq_left, exists_eq_left', exists_eq_right, exists_and_left, exists_and_right, exists_const, and_true, true_and, if_true, if_false, reduceCtorEq, false_or, or_false, false_and, and_false, Bool.not_true, Bool.not_false, Bool.false_eq_true, ite_true, ite_false, reduceIte, Bool.true_eq_false, Nat.reduceAdd, nc0, nc1, nc2, nc3, nc4, nc5, nc6, nc7, nc8, Int.reduceBEq, beq_self_eq_true, Bool.and_true, Bool.true_and, Bool.and_false, Bool.false_and, Nat.zero_add, $xs,*])
/-- steps' answer -/
def stepsN (p : Pr) (ns : List Nat) : PyData := .tuple ((movesN p ns).map fun x => x.1.enc)
def sp_steps (c : Ct) : Spec := fun ss Q Ex => match ss with
  | [.d p, .d v] => (isProtocol p = false ∧ Ex (.ref (c.cls "InvalidProtocol"))) ∨ ∃ q : Pr, p = q.enc ∧ q.Ok ∧ ((isConf q.m v = false ∧ Ex (.ref (c.cls "InvalidConfiguration"))) ∨ ∃ ns, v = natsD ns ∧ isConf q.m v = true ∧ Q (.d (stepsN q ns)))
  | _ => False
def t_steps (c : Ct) : DS :=
  (sSeq (sExpr (dCall (sp_check_protocol c) (daCons (dVar 0) daNil)))
  (sSeq (sExpr (dCall (sp_check_configuration c) (daCons (dVar 0) (daCons (dVar 1) daNil))))
  (sRet (dOne oTuple (dLc (iSeq (dCall (sp_moves c) (daCons (dVar 0) (daCons (dVar 1) daNil)))) (gT 2 (gsCons (gN 2) (gsCons (gN 3) gsNil))) bYes (dVar 2) [2, 3])))))
theorem rd_steps (c : Ct) (ss : List SV) (Q : SV → Prop) (Ex : XP) (h : sp_steps c ss Q Ex) : t_steps c { nx := fun _ => Q (.d .none), rt := Q } (startD 4 ss) Ex := by
  unfold sp_steps at h
  split at h
  · rename_i p v
    show t_steps c _ [some (.d p), some (.d v), none, none] Ex
    unfold t_steps
    refine seqK fun K hK => ?_
    simp_arith only [at_check_protocol]
    rcases h with ⟨h1, h2⟩ | ⟨q, rfl, hq, h⟩
    · rw [if_neg (by rw [h1]; decide)]
      exact h2
    rw [if_pos ((isP_enc q).mpr hq)]
    refine hK _ ?_
    clear hK K
    refine seqK fun K hK => ?_
    rw [enc_eq]
    simp_arith only [at_check_configuration]
    rcases h with ⟨h1, h2⟩ | ⟨ns, rfl, h1, h2⟩
    · rw [if_neg (by rw [h1]; decide)]
      exact h2
    rw [if_pos h1]
    refine hK _ ?_
    clear hK K
    obtain ⟨hl, _, _⟩ := (isConf_nats ns).mp h1
    rw [← enc_eq]
    simp_arith only []
    refine use_moves hq hl ?_
    simp_arith only []
    refine lcR_map (fun x => match x with | .tuple [a, _] => a | _ => .none) _ (fun x hx k hk => ?_) ?_
    · obtain ⟨y, hy, rfl⟩ := List.mem_map.mp hx
      unfold pairD at hk ⊢
      simp_arith only [lcT]
      exact hk
    · rw [List.map_map]
      exact h2
  · exact h.elim
def isStepShape : PyData → Bool
  | .tuple [a, n] => isiD "str" a && isCount n
  | _ => false
def sp_is_step_shape (c : Ct) : Spec := fun ss Q _ => match ss with
  | [.d v] => Q (.d (.bool (isStepShape v)))
  | _ => False
theorem at_is_step_shape {c : Ct} {v : PyData} {Q : SV → Prop} {Ex : XP} : sp_is_step_shape c [.d v] Q Ex = Q (.d (.bool (isStepShape v))) := rfl
def t_is_step_shape (c : Ct) : DS :=
  (sRet (dAnd (dOne (oIsi "tuple") (dVar 0)) (dAnd (dOp (wEqD fun b => b) (dOne oLen (dVar 0)) (dC (.d (.int 2)))) (dAnd (dOne (oIsi "str") (dOp wIx (dVar 0) (dC (.d (.int 0))))) (dCall (sp_is_count c) (daCons (dOp wIx (dVar 0) (dC (.d (.int 1)))) daNil))))))
theorem rd_is_step_shape (c : Ct) (ss : List SV) (Q : SV → Prop) (Ex : XP) (h : sp_is_step_shape c ss Q Ex) : t_is_step_shape c { nx := fun _ => Q (.d .none), rt := Q } (startD 1 ss) Ex := by
  unfold sp_is_step_shape at h
  split at h
  · rename_i v
    show t_is_step_shape c _ [some (.d v)] Ex
    cases v with
    | tuple xs =>
      by_cases hl : xs.length = 2
      · obtain ⟨a, b, rfl⟩ : ∃ a b, xs = [a, b] := by
          match xs, hl with
          | [a, b], _ => exact ⟨a, b, rfl⟩
        simp_arith only [t_is_step_shape, isi_tuple, sh_int, eqv_int, atI_0, at_is_count]
        have e1 : atI [a, b] 1 = some b := atI_at [a, b] 1
        have h' : Q (.d (.bool (isiD "str" a && isCount b))) := h
        cases e : isiD "str" a with
        | true =>
          rw [e] at h'
          exact ⟨b, e1, h'⟩
        | false =>
          rw [e] at h'
          exact h'
      · have h7 : (((xs.length : Nat) : Int) == 2) = false := by
          rw [beq_eq_false_iff_ne]
          omega
        simp_arith only [t_is_step_shape, isi_tuple, sh_int, eqv_int, h7]
        have e : isStepShape (.tuple xs) = false := by
          match xs, hl with
          | [], _ => rfl
          | [_], _ => rfl
          | [_, _], hl => exact absurd rfl hl
          | _ :: _ :: _ :: _, _ => rfl
        rw [e] at h
        exact h
    | none => simp_arith only [t_is_step_shape, isi_tuple]; exact h
    | bool _ => simp_arith only [t_is_step_shape, isi_tuple]; exact h
    | int _ => simp_arith only [t_is_step_shape, isi_tuple]; exact h
    | str _ => simp_arith only [t_is_step_shape, isi_tuple]; exact h
    | list _ => simp_arith only [t_is_step_shape, isi_tuple]; exact h
    | dict _ => simp_arith only [t_is_step_shape, isi_tuple]; exact h
  · exact h.elim
/-! ### the configuration behind a step -/
def Stp.key : Stp → List Key
  | .drop s => [.inr "drop", .inl (s : Int)]
  | .rule i => [.inr "rule", .inl (i : Int)]
theorem Stp.key_enc (s : Stp) : keyTD s.key = s.enc := by cases s <;> rfl
theorem Stp.key_inj {a b : Stp} (h : a.key = b.key) : a = b := by
  cases a <;> cases b
  · injection h with h1 h2; injection h2 with h2 h3; injection h2 with h2; congr 1; omega
  · injection h with h1 h2; exact absurd (Sum.inr.inj h1) (by decide)
  · injection h with h1 h2; exact absurd (Sum.inr.inj h1) (by decide)
  · injection h with h1 h2; injection h2 with h2 h3; injection h2 with h2; congr 1; omega
def stepKV (x : Stp × List Nat) : List Key × PyData := (x.1.key, natsD x.2)
theorem pairD_eq (x : Stp × List Nat) : pairD x = pairKD (stepKV x) := by
  unfold pairD pairKD stepKV
  rw [Stp.key_enc]
/-- a step's data as a key -/
def keyOf : PyData → List Key
  | .tuple [.str x, .int n] => [.inr x, .inl n]
  | _ => []
/-- what moved() answers -/
def movedN (p : Pr) (ns : List Nat) (v : PyData) : PyData := if isStepShape v = true then (getD (mergeTD [] ((movesN p ns).map stepKV)) (keyOf v)).getD .none else .none
theorem step_shape {v : PyData} (h : isStepShape v = true) : ∃ x n, v = .tuple [.str x, .int n] := by
  unfold isStepShape at h
  split at h
  · rename_i a n
    rw [Bool.and_eq_true, isi_str] at h
    obtain ⟨h1, h2⟩ := h
    cases a with
    | str x =>
      cases n with
      | int i => exact ⟨x, i, rfl⟩
      | none => cases h2
      | bool _ => cases h2
      | str _ => cases h2
      | list _ => cases h2
      | tuple _ => cases h2
      | dict _ => cases h2
    | none => cases h1
    | bool _ => cases h1
    | int _ => cases h1
    | list _ => cases h1
    | tuple _ => cases h1
    | dict _ => cases h1
  · cases h
def sp_moved (c : Ct) : Spec := fun ss Q _ => ∃ (p : Pr) (ns : List Nat) (v : PyData), ss = [.d p.enc, .d (natsD ns), .d v] ∧ p.Ok ∧ ns.length = p.m ∧ Q (.d (movedN p ns v))
theorem use_moved {c : Ct} {p : Pr} {ns : List Nat} {v : PyData} {Q : SV → Prop} {Ex : XP} (h1 : p.Ok) (h2 : ns.length = p.m) (q : Q (.d (movedN p ns v))) : sp_moved c [.d p.enc, .d (natsD ns), .d v] Q Ex := ⟨p, ns, v, rfl, h1, h2, q⟩
def t_moved (c : Ct) : DS :=
  (sRet (dIf (bTru (dCall (sp_is_step_shape c) (daCons (dVar 2) daNil))) (dGetT1 (dOne oDictT (dCall (sp_moves c) (daCons (dVar 0) (daCons (dVar 1) daNil)))) (dVar 2)) (dC (.d .none))))
theorem rd_moved (c : Ct) (ss : List SV) (Q : SV → Prop) (Ex : XP) (h : sp_moved c ss Q Ex) : t_moved c { nx := fun _ => Q (.d .none), rt := Q } (startD 3 ss) Ex := by
  obtain ⟨p, ns, v, rfl, hp, hl, q⟩ := h
  show t_moved c _ [some (.d p.enc), some (.d (natsD ns)), some (.d v)] Ex
  unfold t_moved
  simp_arith! [at_is_step_shape]
  unfold movedN at q
  cases e : isStepShape v with
  | false =>
    rw [e] at q
    exact q
  | true =>
    rw [e] at q
    obtain ⟨x, n, rfl⟩ := step_shape e
    rw [if_pos rfl]
    refine use_moves hp hl ?_
    refine ⟨(movesN p ns).map stepKV, ?_, ?_⟩
    · show some _ = some _
      rw [List.map_map]
      congr 1
      exact List.map_congr_left fun x _ => pairD_eq x
    · exact ⟨[.inr x, .inl n], rfl, q⟩
def sp_after (c : Ct) : Spec := fun ss Q Ex => match ss with
  | [.d p, .d v, .d st] => (isProtocol p = false ∧ Ex (.ref (c.cls "InvalidProtocol"))) ∨ ∃ q : Pr, p = q.enc ∧ q.Ok ∧ ((isConf q.m v = false ∧ Ex (.ref (c.cls "InvalidConfiguration"))) ∨ ∃ ns, v = natsD ns ∧ isConf q.m v = true ∧
      ((isN (movedN q ns st) = true ∧ Ex (.ref (c.cls "InvalidStep"))) ∨ (isN (movedN q ns st) = false ∧ Q (.d (movedN q ns st)))))
  | _ => False
def t_after (c : Ct) : DS :=
  (sSeq (sExpr (dCall (sp_check_protocol c) (daCons (dVar 0) daNil)))
  (sSeq (sExpr (dCall (sp_check_configuration c) (daCons (dVar 0) (daCons (dVar 1) daNil))))
  (sSeq (sSetF 3 (dCall (sp_moved c) (daCons (dVar 0) (daCons (dVar 1) (daCons (dVar 2) daNil)))))
  (sSeq (sIf (bVal (dOp (wIsN fun b => b) (dVar 3) (dC (.d .none)))) (sRaise (.ref (c.cls "InvalidStep"))) sNext)
  (sRet (dVar 3))))))
theorem rd_after (c : Ct) (ss : List SV) (Q : SV → Prop) (Ex : XP) (h : sp_after c ss Q Ex) : t_after c { nx := fun _ => Q (.d .none), rt := Q } (startD 4 ss) Ex := by
  unfold sp_after at h
  split at h
  · rename_i p v st
    show t_after c _ [some (.d p), some (.d v), some (.d st), none] Ex
    unfold t_after
    refine seqK fun K hK => ?_
    simp_arith only [at_check_protocol]
    rcases h with ⟨h1, h2⟩ | ⟨q, rfl, hq, h⟩
    · rw [if_neg (by rw [h1]; decide)]
      exact h2
    rw [if_pos ((isP_enc q).mpr hq)]
    refine hK _ ?_
    clear hK K
    refine seqK fun K hK => ?_
    rw [enc_eq]
    simp_arith only [at_check_configuration]
    rcases h with ⟨h1, h2⟩ | ⟨ns, rfl, h1, h⟩
    · rw [if_neg (by rw [h1]; decide)]
      exact h2
    rw [if_pos h1]
    refine hK _ ?_
    clear hK K
    obtain ⟨hl, _, _⟩ := (isConf_nats ns).mp h1
    rw [← enc_eq]
    refine seqK fun K hK => ?_
    simp_arith only []
    refine use_moved hq hl ?_
    simp_arith only []
    refine hK _ ?_
    clear hK K
    refine seqK fun K hK => ?_
    simp_arith only []
    rcases h with ⟨h3, h4⟩ | ⟨h3, h4⟩
    · rw [if_pos h3]
      exact h4
    · rw [if_neg (by rw [h3]; decide)]
      refine hK _ ?_
      clear hK K
      simp_arith only []
      exact h4
  · exact h.elim
end DL
/-! DL 18: what a law with lambdas wants of its top. -/
namespace DL
open PySem PySem.Spec PyProof.Rows L2 LamX
theorem sIfK {tb : DB} {t u : DS} {De : DE} {δ : Env} {Ex : XP} (h : ∀ K : Bool → Prop, (∀ b, (if b = true then t De δ Ex else u De δ Ex) → K b) → tb δ K Ex) : sIf tb t u De δ Ex := h _ fun _ h => h
theorem ds_none2 {X : Cx} {E : EK} {st : Stmt} (h : PS X st (liftS E (sAsg (dC (.d (.tuple [.none, .none]))) (gT 2 (gsCons (gN 1) (gsCons (gN 2) gsNil)))))) : PS X st (liftS E (sPar 1 2 (dC (.d .none)) (dC (.d .none)))) := by
  refine psW h ?_
  rintro D σ H ⟨tw, G0, H0, G, δ, De, Ex, a, t, g⟩
  exact ⟨tw, G0, H0, G, δ, De, Ex, a, ⟨_, rfl, rfl, t⟩, g⟩
/-- all that is asked of an error's class -/
def excB (K : PySem.W.Frag) (D : Addr) : Bool :=
  decide (PySem.W.findIn K (.ref D) "__getattribute__" = some (some (.builtin "BaseException.__getattribute__"))) && decide (PySem.W.findIn K (.ref D) "__getattr__" = some none) && decide (PySem.W.subIn K (.ref D) (.type "BaseException") = some true) && PySem.W.hasDictIn K D &&
  decide (PySem.W.findIn K (.ref D) "__class__" = some (some (.builtin "object.__class__"))) && decide (PySem.W.specialIn K (.builtin "object.__class__") "__get__" = some (some (.builtin "getset_descriptor.__get__"))) && decide (PySem.W.takesIn K (.builtin "object.__class__") = some true) && decide (PySem.W.mroIn K D (.type "object") = some true)
theorem excB_ok {K : PySem.W.Frag} {D : Addr} (h : excB K D = true) : ExcC K D := by
  unfold excB at h
  simp only [Bool.and_eq_true, decide_eq_true_eq] at h
  obtain ⟨⟨⟨⟨⟨⟨⟨h1, h2⟩, h3⟩, h4⟩, h5⟩, h6⟩, h7⟩, h8⟩ := h
  exact ⟨h1, h2, h3, h4, h5, h6, h7, h8⟩
def resFB (K : PySem.W.Frag) (CS : Addr) (ds : List (Str × Addr)) (C : Addr) (nm : Str) : Bool :=
  decide (PySem.W.exmOne K (.ref C) (.ref CS) = some true) && excB K C && decide (PySem.W.kitOne K (.ref C) (.type "ValueError") = some true) && decide (nm ∈ ds.map (·.1)) && ds.all fun d => decide (PySem.W.kitOne K (.ref C) (.ref d.2) = some (d.1 == nm))
theorem resFB_ok {K : PySem.W.Frag} {CS : Addr} {ds : List (Str × Addr)} {C : Addr} {nm : Str} (h : resFB K CS ds C nm = true) : ResF K CS ds C nm := by
  unfold resFB at h
  simp only [Bool.and_eq_true, decide_eq_true_eq, List.all_eq_true] at h
  obtain ⟨⟨⟨⟨h1, h2⟩, h3⟩, h4⟩, h5⟩ := h
  exact ⟨h1, excB_ok h2, h3, h4, h5⟩
/-- all the classes that are asked, at once -/
def ResOk (c : Ct) : Prop := ∀ d ∈ asked c, ResT c d.2 d.1
theorem resOk_of {c : Ct} (h : ((asked c).all fun d => resFB c.K (c.cls "CacheError") (asked c) d.2 d.1) = true) : ResOk c := fun d hd => resFB_ok (List.all_eq_true.mp h d hd)
section
variable {c : Ct}
theorem ResOk.protocol (h : ResOk c) : ResT c (c.cls "InvalidProtocol") "protocol" := h ("protocol", _) (by simp [asked])
theorem ResOk.number (h : ResOk c) : ResT c (c.cls "InvalidNumber") "number" := h ("number", _) (by simp [asked])
theorem ResOk.configuration (h : ResOk c) : ResT c (c.cls "InvalidConfiguration") "configuration" := h ("configuration", _) (by simp [asked])
theorem ResOk.step (h : ResOk c) : ResT c (c.cls "InvalidStep") "step" := h ("step", _) (by simp [asked])
theorem ResOk.trace (h : ResOk c) : ResT c (c.cls "InvalidTrace") "trace" := h ("trace", _) (by simp [asked])
theorem ResOk.pattern (h : ResOk c) : ResT c (c.cls "InvalidPattern") "pattern" := h ("pattern", _) (by simp [asked])
theorem ResOk.change (h : ResOk c) : ResT c (c.cls "InvalidChange") "change" := h ("change", _) (by simp [asked])
theorem ResOk.log (h : ResOk c) : ResT c (c.cls "InvalidLog") "log" := h ("log", _) (by simp [asked])
theorem ResOk.order (h : ResOk c) : ResT c (c.cls "InvalidOrder") "order" := h ("order", _) (by simp [asked])
theorem ResOk.rule (h : ResOk c) : ResT c (c.cls "InvalidRule") "rule" := h ("rule", _) (by simp [asked])
theorem ResOk.index (h : ResOk c) : ResT c (c.cls "InvalidIndex") "index" := h ("index", _) (by simp [asked])
theorem ResOk.text (h : ResOk c) : ResT c (c.cls "InvalidText") "text" := h ("text", _) (by simp [asked])
theorem ResOk.compare (h : ResOk c) : ResT c (c.cls "NotComparable") "compare" := h ("compare", _) (by simp [asked])
theorem ResOk.large (h : ResOk c) : ResT c (c.cls "TooLarge") "large" := h ("large", _) (by simp [asked])
theorem ResOk.many (h : ResOk c) : ResT c (c.cls "TooMany") "many" := h ("many", _) (by simp [asked])
theorem ResOk.undo (h : ResOk c) : ResT c (c.cls "NothingToUndo") "undo" := h ("undo", _) (by simp [asked])
end
/-! ### tables -/
/-- the name of a def's lambda -/
def lamN (q : Str) : Str := (q ++ ".<locals>.") ++ "<lambda>"
def tabOf (K : PySem.W.Frag) (c : Addr) : Option Addr := match K.lookup c with
  | some ⟨_, _, .fields vs, _⟩ => (match (vs[11]? : Option Value) with | some (.ref P) => some P | _ => none)
  | _ => none
theorem tabs_u {T : List (Addr × Str)} (n : (T.map (·.1)).Nodup) {P : Addr} {q : Str} (h : (P, q) ∈ T) : ∀ p ∈ T, p.1 = P → p.2 = q := by
  induction T with
  | nil => cases h
  | cons a T ih =>
    rw [List.map_cons, List.nodup_cons] at n
    intro p hp e
    rcases List.mem_cons.mp h with rfl | h'
    · rcases List.mem_cons.mp hp with rfl | hp'
      · rfl
      · exact absurd (List.mem_map.mpr ⟨p, hp', e⟩) n.1
    · rcases List.mem_cons.mp hp with rfl | hp'
      · exact absurd (List.mem_map.mpr ⟨_, h', e.symm⟩) n.1
      · exact ih n.2 h' p hp' e
/-- _law_result(lambda: e), by what is known of the def _law_result -/
theorem de_resF {X : Cx} {E : EK} {Res : ResP} {x a : Str} {g cc P : Addr} {fd : FuncData} {st : Stmt} {k : Nat} {Ng : List Str} {q : Str}
    {params : Arguments} {body : Expr} {scope : Scope} {tb : DT} {p lpos pos : Pos} (F : Fun X.K x x st g fd) (hg : Gl X x) (hm : X.mg x = some (.ref g)) (hb : L2.Binds X.K fd [a] []) (Sg : FnScope Ng [a] (defScope st)) (hNg : Ng[0]? = some a) (hva : Vis (defScope st) a)
    (hG : ∀ cdv : Value, GivesTo X Ng x (defScope st) g cdv (defBody st) a (X.env.qual ++ "<lambda>") (TTres E.tabs Res))
    (TB : TabB X.base X.mg cc P) (hcode : X.env.code = .ref cc) (hq : X.env.qual ++ "<lambda>" = q) (hmT : (P, q) ∈ E.tabs) (hu : (E.tabs.map (·.1)).Nodup) (hr : Room (k + 2) X.A) (L : LamS X.env.scope scope) (hdef : defaultsOf params X.env = ([], []))
    (hbind : ∀ (q : Str) (cl : List (Str × Addr)) (pm cv ctv : Value), bindArgs (PySem.W.kla_fn "<lambda>" q params body scope cl pm cv ctv) ⟨[], []⟩ = pure [])
    (hbody : ∀ (A : Around) (outer : List PySem.Env) (s : Shared) (H : Hp) (E' : XK) (f c' : Addr), Room k (A.deeper (lamEnv X scope s.heap.objs.size f c')) → PE (lamCx X A outer s H E' scope f c') body (lift ⟨E', E.tabs⟩ tb))
    (hdb : (x == ("__debug__" : Str)) = false := by decide) (hd : (a == ("__debug__" : Str)) = false := by decide) (hcd : (a == ("__classdict__" : Str)) = false := by decide) :
    PE X (.Call (.Name x p) [.Lambda params body scope lpos] [] pos) (lift E (dRes Res tb)) := by
  obtain ⟨oc, od, kV, doc, pm, an, cdv, ct, osl, rfl, lk, hcd'⟩ := F.ex
  subst hq
  exact de_res hg hm F.kp lk hcd' hb Sg hNg hva (hG cdv) TB hcode hmT (tabs_u hu hmT) hr L hdef hbind hbody hdb hd hcd
/-- the law's promise, at the head's heap -/
theorem lawAt {l : PySem.W.OpenLaw} {w : World} {K : PySem.W.Frag} {CX : CXT} {k : Nat} {x : Str} {mg : Str → Option Value} {fa : Addr} {h : Heap} (cs : List (Addr × Addr)) (tabs : List (Addr × Str)) (et : tabs.map (·.1) = cs.map (·.2))
    (h1 : ∀ p ∈ cs, h.get? p.2 = some { cls := .none, data := .fields #[] }) (h2 : ∀ p ∈ cs, K.lookup p.2 = none) (h3 : ∀ p ∈ cs, PySem.W.CodeHd h p.1 p.2)
    (F : ∃ fd : FuncData, (∀ (s : Shared) (u : Value), BindsTo s fd ⟨[u], []⟩ [(x, u)]) ∧ ∀ base : Heap, K.In base → base.Ns mainGlobals mg → (∀ p ∈ cs, TabB base mg p.1 p.2) → FnOk l.prog w K mg base CX k fa fd [x] (spLaw K tabs)) : LawAtS l w K CX k 63 x mg fa h := by
  obtain ⟨fd, hb, hF⟩ := F
  refine ⟨fd, cs, spLaw K tabs, h1, h2, h3, hb, fun H a ns hl _ hT hS => ⟨a, ns, rfl, hS, hl, fun p hp => ?_, fun _ => rfl⟩, hF⟩
  have hm : p.1 ∈ cs.map (·.2) := by
    rw [← et]
    exact List.mem_map_of_mem hp
  obtain ⟨q, hq, e⟩ := List.mem_map.mp hm
  rw [← e]
  exact TabS.nil (hT q hq)
end DL
/-! Fj: the law's own moves. -/
namespace DL
open PySem PySem.Spec PyProof.Rows L2
local macro_rules
  | `(tactic| simp_arith [$xs,*]) => `(tactic| simp only [List.map_cons, List.map_nil, List.length_cons, List.length_nil, List.cons_append, List.nil_append, List.getElem?_cons_zero, List.getElem?_cons_succ, List.set_cons_zero, List.set_cons_succ, Option.map_some, Option.map_none, Option.some.injEq, SV.d.injEq, SV.own.injEq, PyData.int.injEq, PyData.bool.injEq, PyData.tuple.injEq, PyData.list.injEq, PyData.str.injEq, List.cons.injEq, exists_eq_left, exists_eq_left', exists_eq_right, exists_and_left, exists_and_right, exists_const, and_true, true_and, if_true, if_false, reduceCtorEq, false_or, or_false, false_and, and_false, Bool.not_true, Bool.not_false, Bool.false_eq_true, ite_true, ite_false, reduceIte, Bool.true_eq_false, Nat.reduceAdd, nc0, nc1, nc2, nc3, nc4, nc5, nc6, nc7, nc8, Int.reduceBEq, beq_self_eq_true, Bool.and_true, Bool.true_and, Bool.and_false, Bool.false_and, Nat.zero_add, $xs,*])
local macro_rules
  | `(tactic| simp_arith only [$xs,*]) => `(tactic| simp only [sSeq, sNext, sExpr, sRet, sIf, sSet, sSetF, sAsg, sPar, sRaise, sFor, sApp, sExt, sPop, sItem, sAugI, sAug, sFrz, sMove, sBreak, sCont, gN, gT, gsNil, gsCons, dVar, vS_d, vS_own, vS_town, vS_v, vS_scr, fz_scr, dC, dOp, dCall, dCallK, daNil, daCons, dTup, dLst, dSl, doNone, doSome, dIf, dAnd, dOr, dNot, dNeg, dOne, dTwoI, dChain, dLc, bVal, bTru, bScr, dLenS, dIxS, dCount, dRest, sCount, sRest, bNot, bAnd, bOr, bYes, wInt2, wIntC, wAdd, wMul, wIx, wIn, wEqD, wIsN, oLen, oTuple, oList, oAll, oSum, oIsi, iSeq, iRng1D, iRng2D, iEnumD, iZipD, fz_d, fz_own, fz_town, fz_v, fz_abs, asDs, fzB, wipeD, asD_d, asD_own, asD_bor, asL_list, asL_tuple, asL_own, asL_bor, asL_int, asL_bool, asL_none, asS_list, asS_tuple, asS_own, asS_bor, tru_bool, tru_int, tru_none, tru_tuple, tru_list, tru_own, tru_bor, stO_d, stO_own, stO_town, stO_v, stO_abs, rtS_d, rtS_own, rtS_bor, rtS_v, rtS_abs, isN_none, isN_tuple, isN_int, isN_list, isN_bool, List.map_cons, List.map_nil, List.length_cons, List.length_nil, List.cons_append, List.nil_append, List.getElem?_cons_zero, List.getElem?_cons_succ, List.set_cons_zero, List.set_cons_succ, Option.map_some, Option.map_none, Option.some.injEq, SV.d.injEq, SV.own.injEq, PyData.int.injEq, PyData.bool.injEq, PyData.tuple.injEq, PyData.list.injEq, PyData.str.injEq, List.cons.injEq, exists_eq_left, exists_eq_left', exists_eq_right, exists_and_left, exists_and_right, exists_const, and_true, true_and, if_true, if_false, reduceCtorEq, false_or, or_false, false_and, and_false, Bool.not_true, Bool.not_false, Bool.false_eq_true, ite_true, ite_false, reduceIte, Bool.true_eq_false, Nat.reduceAdd, nc0, nc1, nc2, nc3, nc4, nc5, nc6, nc7, nc8, Int.reduceBEq, beq_self_eq_true, Bool.and_true, Bool.true_and, Bool.and_false, Bool.false_and, Nat.zero_add, $xs,*])
local macro_rules
  | `(tactic| simp_arith! [$xs,*]) => `(tactic| simp only [sSeq, sNext, sExpr, sRet, sIf, sSet, sSetF, sAsg, sPar, sRaise, sFor, sApp, sExt, sPop, sItem, sAugI, sAug, sFrz, sMove, sBreak, sCont, gN, gT, gsNil, gsCons, dVar, vS_d, vS_own, vS_town, vS_v, vS_scr, fz_scr, dC, dOp, dCall, dCallK, daNil, daCons, dTup, dLst, dSl, doNone, doSome, dIf, dAnd, dOr, dNot, dNeg, dOne, dTwoI, dChain, dLc, bVal, bTru, bScr, dLenS, dIxS, dCount, dRest, sCount, sRest, bNot, bAnd, bOr, bYes, wInt2, wIntC, wAdd, wMul, wIx, wIn, wEqD, wIsN, oLen, oTuple, oList, oAll, oSum, oIsi, iSeq, iRng1D, iRng2D, iEnumD, iZipD, fz_d, fz_own, fz_town, fz_v, fz_abs, asDs, fzB, wipeD, asD_d, asD_own, asD_bor, asL_list, asL_tuple, asL_own, asL_bor, asL_int, asL_bool, asL_none, asS_list, asS_tuple, asS_own, asS_bor, tru_bool, tru_int, tru_none, tru_tuple, tru_list, tru_own, tru_bor, stO_d, stO_own, stO_town, stO_v, stO_abs, rtS_d, rtS_own, rtS_bor, rtS_v, rtS_abs, isN_none, isN_tuple, isN_int, isN_list, isN_bool, sItem2, wInT, oDictT, dGetT1, dDK2, sUpd, dIsX, iKeysL, dGetK, sSetLcL, dRes, noOwnE, noOwn, SV.ow.injEq, SV.bo.injEq, SV.fo.injEq, OC.dK.injEq, OC.dKl.injEq, OC.dT.injEq, OC.dTl.injEq, OC.exc.injEq, vS_ow, vS_fo, stO_ow, fz_ow, fz_fo, List.map_cons, List.map_nil, List.length_cons, List.length_nil, List.cons_append, List.nil_append, List.getElem?_cons_zero, List.getElem?_cons_succ, List.set_cons_zero, List.set_cons_succ, Option.map_some, Option.map_none, Option.some.injEq, SV.d.injEq, SV.own.injEq, PyData.int.injEq, PyData.bool.injEq, PyData.tuple.injEq, PyData.list.injEq, PyData.str.injEq, List.cons.injEq, exists_eq_left, exists_eq_left', exists_eq_right, exists_and_left, exists_and_right, exists_const, and_true, true_and, if_true, if_false, reduceCtorEq, false_or, or_false, false_and, and_false, Bool.not_true, Bool.not_false, Bool.false_eq_true, ite_true, ite_false, reduceIte, Bool.true_eq_false, Nat.reduceAdd, nc0, nc1, nc2, nc3, nc4, nc5, nc6, nc7, nc8, Int.reduceBEq, beq_self_eq_true, Bool.and_true, Bool.true_and, Bool.and_false, Bool.false_and, Nat.zero_add, $xs,*])
theorem spread_addAt (eff : List Nat) : ∀ (cs : List Nat) (k : Nat) (f : List Nat) (i x : Nat), spread eff cs k (addAt f i x) = addAt (spread eff cs k f) i x
  | [], _, _, _, _ => rfl
  | c :: cs, k, f, i, x => by
    show spread eff cs (k + 1) (addAt (addAt f i x) (eff.getD k 0) c) = addAt (spread eff cs (k + 1) (addAt f (eff.getD k 0) c)) i x
    rw [← spread_addAt eff cs (k + 1), addAt_comm]
where
  addAt_comm (f : List Nat) (i x j y : Nat) : addAt (addAt f i x) j y = addAt (addAt f j y) i x := by
    unfold addAt
    by_cases h : i = j
    · subst h
      by_cases hl : i < f.length
      · rw [List.set_set, List.set_set]
        congr 1
        rw [List.getD_eq_getElem?_getD, List.getD_eq_getElem?_getD, List.getD_eq_getElem?_getD, List.getElem?_set_self hl, List.getElem?_set_self hl]
        simp only [Option.getD_some]
        omega
      · have e : ∀ (g : List Nat) (z : Nat), g.length = f.length → g.set i z = g := fun g z hg => List.set_eq_of_length_le (by omega)
        rw [e f _ rfl, e f _ rfl, e f _ rfl]
    · rw [List.set_comm _ _ h, List.getD_eq_getElem?_getD (l := List.set f i _), List.getElem?_set_ne h, ← List.getD_eq_getElem?_getD, List.getD_eq_getElem?_getD (l := List.set f j _), List.getElem?_set_ne (fun e => h e.symm), ← List.getD_eq_getElem?_getD]
def sp_law_moves (c : Ct) : Spec := fun ss Q _ => ∃ (p : Pr) (ns : List Nat), ss = [.d p.enc, .d (natsD ns)] ∧ p.Ok ∧ ns.length = p.m ∧ Q (.own ((movesN p ns).map pairD))
theorem use_law_moves {c : Ct} {p : Pr} {ns : List Nat} {Q : SV → Prop} {Ex : XP} (h1 : p.Ok) (h2 : ns.length = p.m) (q : Q (.own ((movesN p ns).map pairD))) : sp_law_moves c [.d p.enc, .d (natsD ns)] Q Ex := ⟨p, ns, rfl, h1, h2, q⟩
theorem getD_at {ns : List Nat} {s : Nat} (h : s < ns.length) : ns[s]? = some (ns.getD s 0) := by
  rw [List.getElem?_eq_getElem h, List.getD_eq_getElem?_getD, List.getElem?_eq_getElem h]
  rfl
def t_law_moves (c : Ct) : DS :=
  (sSeq (sSet 2 (dLst daNil))
  (sSeq (sFor (iRng2D (dC (.d (.int 1))) (dOp wIx (dVar 0) (dC (.d (.int 0))))) (gN 3) (sIf (bVal (dOp (wInt2 fun i j => .bool (decide (j < i))) (dOp wIx (dVar 1) (dVar 3)) (dC (.d (.int 0))))) (sSeq (sSet 4 (dOne oList (dVar 1)))
      (sSeq (sItem2 4 (dVar 3) (dC (.d (.int 0))) (dTup (daCons (dOp (wInt2 fun i j => .int (i - j)) (dOp wIx (dVar 4) (dVar 3)) (dC (.d (.int 1)))) (daCons (dOp wAdd (dOp wIx (dVar 4) (dC (.d (.int 0)))) (dC (.d (.int 1)))) daNil))))
      (sApp 2 (dTup (daCons (dTup (daCons (dC (.d (.str ("drop" : Str)))) (daCons (dVar 3) daNil))) (daCons (dOne oTuple (dVar 4)) daNil)))))) sNext))
  (sSeq (sFor (iEnumD (dOp wIx (dVar 0) (dC (.d (.int 1))))) (gT 2 (gsCons (gN 5) (gsCons (gT 5 (gsCons (gN 6) (gsCons (gN 7) (gsCons (gN 8) (gsCons (gN 9) (gsCons (gN 10) gsNil)))))) gsNil))) (sSeq (sSet 11 (dOne oList (dVar 1)))
    (sSeq (sAugI 11 (fun i j => i - j) (dVar 6) (dC (.d (.int 1))))
    (sSeq (sSetF 12 (dAnd (dOp (wInt2 fun i j => .bool (decide (j ≤ i))) (dOp wIx (dVar 11) (dVar 6)) (dC (.d (.int 0)))) (dOr (dOp (wEqD fun b => b) (dVar 8) (dC (.d (.int 0)))) (dOp (wInt2 fun i j => .bool (decide (j < i))) (dOp wIx (dVar 11) (dVar 8)) (dC (.d (.int 0)))))))
    (sIf (bAnd (bTru (dVar 12)) (bVal (dOp (wEqD fun b => b) (dLc (iSeq (dVar 9)) (gN 3) (bVal (dOp (wInt2 fun i j => .bool (decide (j < i))) (dOp wIx (dVar 11) (dVar 3)) (dC (.d (.int 0))))) (dC (.d (.int 1))) [3]) (dLst daNil)))) (sSeq (sSet 4 (dOp wMul (dC (.own [(.int 0)])) (dOp wIx (dVar 0) (dC (.d (.int 0))))))
      (sSeq (sItem 4 (dVar 7) (dC (.d (.int 1))))
      (sSeq (sFrz 11 (sFor (iEnumD (dVar 11)) (gT 2 (gsCons (gN 3) (gsCons (gN 13) gsNil))) (sAugI 4 (fun i j => i + j) (dOp wIx (dVar 10) (dVar 3)) (dVar 13))))
      (sApp 2 (dTup (daCons (dTup (daCons (dC (.d (.str ("rule" : Str)))) (daCons (dVar 5) daNil))) (daCons (dOne oTuple (dVar 4)) daNil))))))) sNext)))))
  (sRet (dVar 2)))))
theorem rd_law_moves (c : Ct) (ss : List SV) (Q : SV → Prop) (Ex : XP) (h : sp_law_moves c ss Q Ex) : t_law_moves c { nx := fun _ => Q (.d .none), rt := Q } (startD 14 ss) Ex := by
  obtain ⟨⟨m, rs⟩, ns, rfl, hp, hl, q⟩ := h
  simp only at hl
  have hm1 : 2 ≤ m := hp.lo
  have hm2 : m ≤ 5 := hp.hi
  have hrs : rs.length ≤ 8 := hp.few
  show t_law_moves c _ [some (.d (.tuple [.int (m : Int), .tuple (rs.map Rl.enc)])), some (.d (natsD ns)), none, none, none, none, none, none, none, none, none, none, none, none] Ex
  unfold t_law_moves
  refine seqK fun K hK => ?_
  simp_arith only []
  refine ⟨by decide, hK _ ?_⟩
  clear hK K
  refine seqK fun K hK => ?_
  simp_arith! [atI_0]
  have er : rngD 1 ((m : Int) - 1).toNat = (List.range' 1 (m - 1)).map (fun n : Nat => PyData.int (n : Int)) := by
    rw [show ((m : Int) - 1).toNat = m - 1 by omega]
    exact rngD_nat (m - 1) 1
  rw [er]
  refine ⟨by decide, by decide, by omega, by omega, ?_⟩
  refine forR_inv (fun pre δ => ∃ o3 o4 : Option SV, δ = [some (.d (.tuple [.int (m : Int), .tuple (rs.map Rl.enc)])), some (.d (natsD ns)), some (.own ((dropsN ns ((List.range' 1 (m - 1)).take pre.length)).map pairD)), o3, o4, none, none, none, none, none, none, none, none, none]) _ [] _ ⟨none, none, rfl⟩ (fun p x r δ k hpp hI hk => ?_) fun δ' hI => ?_
  · obtain ⟨o3, o4, rfl⟩ := hI
    rw [List.nil_append] at hpp
    obtain ⟨s, hs, rfl, htk⟩ := map_at hpp
    have hsm : 1 ≤ s ∧ s < m := by
      have := List.mem_range'_1.mp (List.mem_of_getElem? hs)
      omega
    have hsl : s < ns.length := by omega
    have nx : ∀ {l : List (Stp × List Nat)} {o4 : Option SV}, dropsN ns ((List.range' 1 (m - 1)).take (p.length + 1)) = l → k [some (.d (.tuple [.int (m : Int), .tuple (rs.map Rl.enc)])), some (.d (natsD ns)), some (.own (l.map pairD)), some (.d (.int (s : Int))), o4, none, none, none, none, none, none, none, none, none] := fun {l o4} e => by
      subst e
      exact hk _ ⟨some (.d (.int (s : Int))), o4, by rw [List.length_append]; rfl⟩
    rw [htk] at nx
    unfold dropsN at nx
    rw [List.filterMap_append] at nx
    rw [show natsD ns = .tuple (ns.map (fun n : Nat => PyData.int (n : Int))) from rfl]
    have h0l : 0 < ns.length := by omega
    have a0 : atI (ns.map (fun n : Nat => PyData.int (n : Int))) 0 = some (.int ((ns.getD 0 0 : Nat) : Int)) := atI_nats h0l
    have i0 : ixN (ns.map (fun n : Nat => PyData.int (n : Int))).length (0 : Int) = some 0 := ixN_nat (n := (ns.map (fun n : Nat => PyData.int (n : Int))).length) (i := 0) (by rw [List.length_map]; exact h0l)
    simp_arith! [atI_nats hsl, pos_int, a0]
    by_cases h0 : 0 < ns.getD s 0
    · rw [decide_eq_true h0, if_pos rfl]
      have e1 : ((ns.map (fun n : Nat => PyData.int (n : Int))).set s (.int (((ns.getD s 0 : Nat) : Int) - 1))).set 0 (.int (((ns.getD 0 0 : Nat) : Int) + 1)) = (droppedN ns s).map (fun n : Nat => PyData.int (n : Int)) := by
        rw [show (((ns.getD s 0 : Nat) : Int) - 1) = ((ns.getD s 0 - 1 : Nat) : Int) by omega, show (((ns.getD 0 0 : Nat) : Int) + 1) = ((ns.getD 0 0 + 1 : Nat) : Int) by omega]
        have e2 : (droppedN ns s) = (othersN ns s).set 0 (ns.getD 0 0 + 1) := by
          unfold droppedN othersN
          cases ns with
          | nil => simp at hsl
          | cons a r =>
            cases s with
            | zero => omega
            | succ s => rfl
        rw [e2]
        unfold othersN
        rw [List.map_set, List.map_set]
      refine ⟨by decide, _, _, ⟨rfl, rfl⟩, s, by rw [List.length_map]; exact ixN_nat hsl, 0, i0, ?_⟩
      rw [e1]
      refine ⟨by decide, by decide, ?_, ?_⟩
      · have := dropsN_len ns ((List.range' 1 (m - 1)).take p.length)
        rw [List.length_map, sizeLine_eq]
        rw [List.length_take, List.length_range'] at this
        omega
      · have e := nx (o4 := some (.own ((droppedN ns s).map (fun n : Nat => PyData.int (n : Int))))) rfl
        rw [List.map_append] at e
        have e2 : List.filterMap (fun s => if 0 < ns.getD s 0 then some (Stp.drop s, droppedN ns s) else none) [s] = [(.drop s, droppedN ns s)] := by
          rw [List.filterMap_cons, if_pos h0]
          rfl
        rw [e2] at e
        exact e
    · rw [decide_eq_false h0, if_neg (by decide)]
      have e := nx (o4 := o4) rfl
      have e2 : List.filterMap (fun s => if 0 < ns.getD s 0 then some (Stp.drop s, droppedN ns s) else none) [s] = [] := by
        rw [List.filterMap_cons, if_neg h0]
        rfl
      rw [e2, List.append_nil] at e
      exact e
  · obtain ⟨o3, o4, rfl⟩ := hI
    rw [List.nil_append, List.length_map, List.take_length]
    refine hK _ ?_
    clear hK K
    refine seqK fun K hK => ?_
    simp_arith! []
    refine ⟨_, rfl, _, rfl, ?_⟩
    refine forR_inv (fun pre δ => ∃ o3 o4 o5 o6 o7 o8 o9 o10 o11 o12 o13 : Option SV, δ = [some (.d (.tuple [.int (m : Int), .tuple (rs.map Rl.enc)])), some (.d (natsD ns)), some (.own ((dropsN ns (List.range' 1 (m - 1)) ++ rulesN ns (rs.take pre.length) 0).map pairD)), o3, o4, o5, o6, o7, o8, o9, o10, o11, o12, o13]) _ [] _ ⟨o3, o4, none, none, none, none, none, none, none, none, none, by
      rw [List.length_nil, List.take_zero]
      show _ = [_, _, some (SV.own ((dropsN ns (List.range' 1 (m - 1)) ++ []).map pairD)), _, _, _, _, _, _, _, _, _, _, _]
      rw [List.append_nil]⟩ (fun p x r δ k hpp hI hk => ?_) fun δ' hI => ?_
    · obtain ⟨o3, o4, o5, o6, o7, o8, o9, o10, o11, o12, o13, rfl⟩ := hI
      rw [List.nil_append] at hpp
      obtain ⟨z, hz, rfl⟩ := prs_at _ 0 p x r hpp
      rw [Nat.zero_add]
      rw [List.getElem?_map] at hz
      cases hz0 : rs[p.length]? with
      | none => rw [hz0] at hz; cases hz
      | some ru =>
        rw [hz0, Option.map_some, Option.some.injEq] at hz
        subst hz
        have hpl := (List.getElem?_eq_some_iff.mp hz0).1
        have hru : ru.Ok m := hp.rules ru (List.mem_of_getElem? hz0)
        have htk : rs.take (p.length + 1) = rs.take p.length ++ [ru] := by
          rw [List.take_succ_eq_append_getElem hpl]
          rw [List.getElem?_eq_getElem hpl, Option.some.injEq] at hz0
          rw [hz0]
        have e1 : rulesN ns (rs.take (p.length + 1)) 0 = rulesN ns (rs.take p.length) 0 ++ (if isPossibleN ns ru = true then [(Stp.rule p.length, performedN ns ru)] else []) := by
          rw [htk, rulesN_split]
          have e2 : 0 + (rs.take p.length).length = p.length := by
            rw [List.length_take]
            omega
          rw [e2]
          show _ ++ (_ ++ []) = _
          rw [List.append_nil]
        have nx : ∀ {o3 o4 o5 o6 o7 o8 o9 o10 o11 o12 o13 : Option SV}, k [some (.d (.tuple [.int (m : Int), .tuple (rs.map Rl.enc)])), some (.d (natsD ns)), some (.own ((dropsN ns (List.range' 1 (m - 1)) ++ rulesN ns (rs.take (p.length + 1)) 0).map pairD)), o3, o4, o5, o6, o7, o8, o9, o10, o11, o12, o13] := hk _ ⟨_, _, _, _, _, _, _, _, _, _, _, by rw [List.length_append]; rfl⟩
        rw [e1, ← List.append_assoc, List.map_append] at nx
        have hsl : ru.s < ns.length := by rw [hl]; exact hru.s
        have hnl : ru.n < ns.length := by rw [hl]; exact hru.n
        rw [show natsD ns = .tuple (ns.map (fun n : Nat => PyData.int (n : Int))) from rfl] at nx ⊢
        simp_arith [gT, gsCons, gsNil, gN, Rl.enc]
        show sSeq _ _ _ [some (.d (.tuple [.int (m : Int), .tuple (rs.map Rl.enc)])), some (.d (.tuple (ns.map (fun n : Nat => PyData.int (n : Int))))), some (.own ((dropsN ns (List.range' 1 (m - 1)) ++ rulesN ns (rs.take p.length) 0).map pairD)), o3, o4, some (.d (.int p.length)), some (.d (.int ru.s)), some (.d (.int ru.t)), some (.d (.int ru.n)), some (.d (.tuple (ru.bars.map (fun n : Nat => PyData.int (n : Int))))), some (.d (.tuple (ru.eff.map (fun n : Nat => PyData.int (n : Int))))), o11, o12, o13] Ex
        refine seqK fun K hK => ?_
        simp_arith! [Rl.enc]
        refine hK _ ?_
        clear hK K
        refine seqK fun K hK => ?_
        simp_arith! []
        refine ⟨_, by rw [List.length_map]; exact ixN_nat hsl, by omega, _, get_nats hsl, hK _ ?_⟩
        clear hK K
        by_cases hs0 : ns.getD ru.s 0 = 0
        · have hno : isPossibleN ns ru = false := by
            unfold isPossibleN
            rw [hs0]
            rfl
          have ea : atI ((ns.map (fun n : Nat => PyData.int (n : Int))).set ru.s (.int (((ns.getD ru.s 0 : Nat) : Int) - 1))) (ru.s : Int) = some (.int (-1)) := by
            rw [atI_at, List.getElem?_set_self (by rw [List.length_map]; exact hsl), hs0]
            rfl
          refine seqK fun K hK => ?_
          simp_arith! [ea]
          rw [show decide ((0 : Int) ≤ -1) = false from by decide]
          simp_arith! []
          refine hK _ ?_
          clear hK K
          simp_arith! []
          rw [hno] at nx
          simp only [List.map_cons, List.map_nil, List.length_cons, List.length_nil, List.cons_append, List.nil_append, List.getElem?_cons_zero, List.getElem?_cons_succ, List.set_cons_zero, List.set_cons_succ, Option.map_some, Option.map_none, Option.some.injEq, SV.d.injEq, SV.own.injEq, PyData.int.injEq, PyData.bool.injEq, PyData.tuple.injEq, PyData.list.injEq, PyData.str.injEq, List.cons.injEq, exists_eq_left, exists_eq_left', exists_eq_right, exists_and_left, exists_and_right, exists_const, and_true, true_and, if_true, if_false, reduceCtorEq, false_or, or_false, false_and, and_false, Bool.not_true, Bool.not_false, Bool.false_eq_true, ite_true, ite_false, reduceIte, Bool.true_eq_false, Nat.reduceAdd, nc0, nc1, nc2, nc3, nc4, nc5, nc6, nc7, nc8, Int.reduceBEq, beq_self_eq_true, Bool.and_true, Bool.true_and, Bool.and_false, Bool.false_and, Nat.zero_add, List.append_nil] at nx
          exact nx
        · obtain ⟨x, hx⟩ : ∃ x, ns.getD ru.s 0 = x + 1 := ⟨ns.getD ru.s 0 - 1, by omega⟩
          have hx2 : ns[ru.s]? = some (x + 1) := by rw [getD_at hsl, hx]
          have hol : (othersN ns ru.s).length = m := by rw [othersN_len, hl]
          have eo : (ns.map (fun n : Nat => PyData.int (n : Int))).set ru.s (.int (((ns.getD ru.s 0 : Nat) : Int) - 1)) = (othersN ns ru.s).map (fun n : Nat => PyData.int (n : Int)) := by
            unfold othersN
            rw [List.map_set]
            congr 2
            omega
          rw [eo]
          have hso : ru.s < (othersN ns ru.s).length := by rw [hol]; exact hru.s
          have hno : ru.n < (othersN ns ru.s).length := by rw [hol]; exact hru.n
          have ez2 : PyData.eqv (.int (ru.n : Int)) (.int 0) = decide (ru.n = 0) := eqv_nat _ 0
          -- the test
          have hgood : isPossibleN ns ru = ((ru.n == 0 || decide (0 < (othersN ns ru.s).getD ru.n 0)) && !(ru.bars.any fun b => decide (0 < (othersN ns ru.s).getD b 0))) := by
            unfold isPossibleN
            have h0' : (ns.getD ru.s 0 != 0) = true := by simpa using hs0
            rw [h0', Bool.true_and]
          refine seqK fun K hK => ?_
          simp_arith! [atI_nats hso, sh_int, ez2]
          have ge0 : decide ((0 : Int) ≤ (((othersN ns ru.s).getD ru.s 0 : Nat) : Int)) = true := decide_eq_true (by omega)
          rw [ge0]
          simp only [if_true]
          have after : ∀ b : Bool, b = (ru.n == 0 || decide (0 < (othersN ns ru.s).getD ru.n 0)) → K ([some (.d (.tuple [.int (m : Int), .tuple (rs.map Rl.enc)])), some (.d (.tuple (ns.map (fun n : Nat => PyData.int (n : Int))))), some (.own ((dropsN ns (List.range' 1 (m - 1)) ++ rulesN ns (rs.take p.length) 0).map pairD)), o3, o4, some (.d (.int p.length)), some (.d (.int ru.s)), some (.d (.int ru.t)), some (.d (.int ru.n)), some (.d (.tuple (ru.bars.map (fun n : Nat => PyData.int (n : Int))))), some (.d (.tuple (ru.eff.map (fun n : Nat => PyData.int (n : Int))))), some (.own ((othersN ns ru.s).map (fun n : Nat => PyData.int (n : Int)))), some (.d (.bool b)), o13]) := fun b hb => by
            refine hK _ ?_
            clear hK K
            rw [← hb] at hgood
            clear hb
            refine sIfK fun K hK => ?_
            cases b with
            | false =>
              rw [Bool.false_and] at hgood
              simp_arith! []
              refine hK _ ?_
              clear hK K
              rw [hgood] at nx
              simp only [List.map_cons, List.map_nil, List.length_cons, List.length_nil, List.cons_append, List.nil_append, List.getElem?_cons_zero, List.getElem?_cons_succ, List.set_cons_zero, List.set_cons_succ, Option.map_some, Option.map_none, Option.some.injEq, SV.d.injEq, SV.own.injEq, PyData.int.injEq, PyData.bool.injEq, PyData.tuple.injEq, PyData.list.injEq, PyData.str.injEq, List.cons.injEq, exists_eq_left, exists_eq_left', exists_eq_right, exists_and_left, exists_and_right, exists_const, and_true, true_and, if_true, if_false, reduceCtorEq, false_or, or_false, false_and, and_false, Bool.not_true, Bool.not_false, Bool.false_eq_true, ite_true, ite_false, reduceIte, Bool.true_eq_false, Nat.reduceAdd, nc0, nc1, nc2, nc3, nc4, nc5, nc6, nc7, nc8, Int.reduceBEq, beq_self_eq_true, Bool.and_true, Bool.true_and, Bool.and_false, Bool.false_and, Nat.zero_add, List.append_nil] at nx
              exact nx
            | true =>
              rw [Bool.true_and] at hgood
              simp_arith! []
              refine lcR_fm (fun x => match x with | .int b => if decide (0 < (othersN ns ru.s).getD b.toNat 0) = true then some (.int 1) else none | _ => none) _ (fun x hx k' hk' => ?_) ?_
              · obtain ⟨b, hb, rfl⟩ := List.mem_map.mp hx
                have hbl : b < (othersN ns ru.s).length := by rw [hol]; exact (hru.bars b hb).2
                have hk2 : k' (if decide (0 < (othersN ns ru.s).getD b 0) = true then some (.int 1) else none) := hk'
                simp_arith! [lcT, atI_nats hbl, pos_int]
                cases e : decide (0 < (othersN ns ru.s).getD b 0) with
                | true => rw [e] at hk2; simp only [if_true]; exact hk2
                | false => rw [e] at hk2; simp only [Bool.false_eq_true, if_false]; exact hk2
              · have ef : List.filterMap (fun x => match x with | PyData.int b => if decide (0 < (othersN ns ru.s).getD b.toNat 0) = true then some (PyData.int 1) else none | _ => none) (ru.bars.map (fun n : Nat => PyData.int (n : Int))) = (ru.bars.filter fun b => decide (0 < (othersN ns ru.s).getD b 0)).map fun _ => PyData.int 1 := by
                  rw [List.filterMap_map]
                  generalize ru.bars = bs
                  induction bs with
                  | nil => rfl
                  | cons b bs ih =>
                    rw [List.filterMap_cons, List.filter_cons]
                    by_cases e : 0 < (othersN ns ru.s).getD b 0
                    · simp only [Function.comp_apply, Int.toNat_natCast, decide_eq_true e, if_true, List.map_cons]
                      rw [ih]
                    · simp only [Function.comp_apply, Int.toNat_natCast, decide_eq_false e, Bool.false_eq_true, if_false]
                      exact ih
                rw [ef]
                have hsh : ∀ l : List Nat, SeqAt.shaped (.list (l.map fun _ => PyData.int 1)) = true := fun l => by
                  have : Fit 1 (.list (l.map fun _ => PyData.int 1)) := Fit.list fun x hx => by
                    obtain ⟨_, _, rfl⟩ := List.mem_map.mp hx
                    exact fit_int _
                  exact this.sh (by decide)
                have heq : ∀ l : List Nat, PyData.eqv (.list (l.map fun _ => PyData.int 1)) (.list []) = l.isEmpty := fun l => by
                  cases l with
                  | nil => exact eqv_nil
                  | cons a l => simp [PyData.eqv, PyData.eqvAll]
                refine ⟨by decide, hsh _, sh_nil, hK _ ?_⟩
                clear hK K
                rw [heq]
                have hemp : (ru.bars.filter fun b => decide (0 < (othersN ns ru.s).getD b 0)).isEmpty = !(ru.bars.any fun b => decide (0 < (othersN ns ru.s).getD b 0)) := by
                  generalize ru.bars = bs
                  induction bs with
                  | nil => rfl
                  | cons b bs ih =>
                    rw [List.filter_cons, List.any_cons]
                    cases decide (0 < (othersN ns ru.s).getD b 0) with
                    | true => simp only [if_true]; rfl
                    | false => simp only [Bool.false_eq_true, if_false, Bool.false_or]; exact ih
                rw [hemp, ← hgood]
                cases hpo : isPossibleN ns ru with
                | false =>
                  rw [hpo] at nx
                  simp only [List.map_cons, List.map_nil, List.length_cons, List.length_nil, List.cons_append, List.nil_append, List.getElem?_cons_zero, List.getElem?_cons_succ, List.set_cons_zero, List.set_cons_succ, Option.map_some, Option.map_none, Option.some.injEq, SV.d.injEq, SV.own.injEq, PyData.int.injEq, PyData.bool.injEq, PyData.tuple.injEq, PyData.list.injEq, PyData.str.injEq, List.cons.injEq, exists_eq_left, exists_eq_left', exists_eq_right, exists_and_left, exists_and_right, exists_const, and_true, true_and, if_true, if_false, reduceCtorEq, false_or, or_false, false_and, and_false, Bool.not_true, Bool.not_false, Bool.false_eq_true, ite_true, ite_false, reduceIte, Bool.true_eq_false, Nat.reduceAdd, nc0, nc1, nc2, nc3, nc4, nc5, nc6, nc7, nc8, Int.reduceBEq, beq_self_eq_true, Bool.and_true, Bool.true_and, Bool.and_false, Bool.false_and, Nat.zero_add, List.append_nil] at nx
                  simp_arith []
                  exact nx
                | true =>
                  rw [hpo] at nx
                  simp only [List.map_cons, List.map_nil, List.length_cons, List.length_nil, List.cons_append, List.nil_append, List.getElem?_cons_zero, List.getElem?_cons_succ, List.set_cons_zero, List.set_cons_succ, Option.map_some, Option.map_none, Option.some.injEq, SV.d.injEq, SV.own.injEq, PyData.int.injEq, PyData.bool.injEq, PyData.tuple.injEq, PyData.list.injEq, PyData.str.injEq, List.cons.injEq, exists_eq_left, exists_eq_left', exists_eq_right, exists_and_left, exists_and_right, exists_const, and_true, true_and, if_true, if_false, reduceCtorEq, false_or, or_false, false_and, and_false, Bool.not_true, Bool.not_false, Bool.false_eq_true, ite_true, ite_false, reduceIte, Bool.true_eq_false, Nat.reduceAdd, nc0, nc1, nc2, nc3, nc4, nc5, nc6, nc7, nc8, Int.reduceBEq, beq_self_eq_true, Bool.and_true, Bool.true_and, Bool.and_false, Bool.false_and, Nat.zero_add] at nx
                  simp_arith []
                  have htl : ru.t < m := hru.t
                  refine seqK fun K hK => ?_
                  simp_arith! [atI_0]
                  have e0 : (List.replicate (((m : Nat) : Int)).toNat [PyData.int 0]).flatten = (List.replicate m 0).map (fun n : Nat => PyData.int (n : Int)) := by
                    rw [Int.toNat_natCast, List.flatten_replicate_singleton, List.map_replicate]
                    rfl
                  rw [e0]
                  refine ⟨by omega, by omega, by decide, hK _ ?_⟩
                  clear hK K
                  refine seqK fun K hK => ?_
                  simp_arith! []
                  refine ⟨ru.t, by rw [List.length_map, List.length_replicate]; exact ixN_nat htl, hK _ ?_⟩
                  clear hK K
                  have e5 : ((List.replicate m 0).map (fun n : Nat => PyData.int (n : Int))).set ru.t (.int 1) = (addAt (List.replicate m 0) ru.t 1).map (fun n : Nat => PyData.int (n : Int)) := by
                    unfold addAt
                    rw [List.map_set]
                    congr 2
                    rw [List.getD_eq_getElem?_getD, List.getElem?_replicate, if_pos htl]
                    rfl
                  rw [e5]
                  refine seqK fun K hK => ?_
                  simp_arith! []
                  refine forR_inv (fun pre δ => ∃ (f : List Nat) (o3 o13 : Option SV), δ = [some (.d (.tuple [.int (m : Int), .tuple (rs.map Rl.enc)])), some (.d (.tuple (ns.map (fun n : Nat => PyData.int (n : Int))))), some (.own ((dropsN ns (List.range' 1 (m - 1)) ++ rulesN ns (rs.take p.length) 0).map pairD)), o3, some (.own (f.map (fun n : Nat => PyData.int (n : Int)))), some (.d (.int p.length)), some (.d (.int ru.s)), some (.d (.int ru.t)), some (.d (.int ru.n)), some (.d (.tuple (ru.bars.map (fun n : Nat => PyData.int (n : Int))))), some (.d (.tuple (ru.eff.map (fun n : Nat => PyData.int (n : Int))))), some (.d (.list ((othersN ns ru.s).map (fun n : Nat => PyData.int (n : Int))))), some (.d (.bool true)), o13] ∧
                    f.length = m ∧ spread ru.eff ((othersN ns ru.s).drop pre.length) pre.length f = spread ru.eff (othersN ns ru.s) 0 (addAt (List.replicate m 0) ru.t 1)) _ [] _ ⟨_, _, _, rfl, by rw [addAt_len, List.length_replicate], rfl⟩ (fun pp e rr δ k2 hp2 hI2 hk2 => ?_) fun δ' hI2 => ?_
                  · obtain ⟨f, o3, o13, rfl, h1, h2⟩ := hI2
                    rw [List.nil_append] at hp2
                    obtain ⟨z, hz, rfl⟩ := prs_at _ 0 pp e rr hp2
                    rw [Nat.zero_add]
                    rw [List.getElem?_map] at hz
                    cases hz0 : (othersN ns ru.s)[pp.length]? with
                    | none => rw [hz0] at hz; cases hz
                    | some cnt =>
                      rw [hz0, Option.map_some, Option.some.injEq] at hz
                      subst hz
                      have hpl := (List.getElem?_eq_some_iff.mp hz0).1
                      have hpe : pp.length < ru.eff.length := by rw [hru.len]; omega
                      have heff : ru.eff.getD pp.length 0 < f.length := by
                        rw [h1, List.getD_eq_getElem?_getD, List.getElem?_eq_getElem hpe]
                        exact hru.eff _ (List.getElem_mem hpe)
                      simp_arith! [atI_nats hpe]
                      refine ⟨_, by rw [List.length_map]; exact ixN_nat heff, by omega, _, get_nats heff, ?_⟩
                      rw [set_nats]
                      refine hk2 _ ⟨_, _, _, rfl, by rw [addAt_len]; exact h1, ?_⟩
                      rw [← h2, List.length_append, List.length_cons, List.length_nil]
                      have ed : (othersN ns ru.s).drop pp.length = cnt :: (othersN ns ru.s).drop (pp.length + 1) := by
                        rw [List.drop_eq_getElem_cons hpl]
                        rw [List.getElem?_eq_getElem hpl, Option.some.injEq] at hz0
                        rw [hz0]
                      rw [ed]
                      rfl
                  · obtain ⟨f, o3, o13, rfl, h1, h2⟩ := hI2
                    rw [List.nil_append, prs_len, List.length_map, List.drop_length] at h2
                    have h2' : f = spread ru.eff (othersN ns ru.s) 0 (addAt (List.replicate m 0) ru.t 1) := h2
                    rw [spread_addAt] at h2'
                    have e6 : f = performedN ns ru := by
                      rw [h2']
                      unfold performedN
                      rw [hl]
                    refine hK _ ?_
                    clear hK K
                    simp_arith! []
                    rw [e6]
                    refine ⟨by decide, by decide, ?_, nx⟩
                    have l1 := dropsN_len ns (List.range' 1 (m - 1))
                    have l2 := rulesN_len ns (rs.take p.length) 0
                    rw [List.length_range'] at l1
                    rw [List.length_take] at l2
                    rw [List.length_map, List.length_append, sizeLine_eq]
                    omega
          by_cases hn0 : ru.n = 0
          · rw [if_pos (decide_eq_true hn0)]
            exact after true (by simp [hn0])
          · rw [if_neg (by rw [decide_eq_false hn0]; decide)]
            simp_arith! [atI_nats hno]
            rw [pos_int]
            refine after _ ?_
            have e1 : (ru.n == 0) = false := by simpa using hn0
            rw [e1, Bool.false_or]
    · obtain ⟨o3, o4, o5, o6, o7, o8, o9, o10, o11, o12, o13, rfl⟩ := hI
      rw [List.nil_append, prs_len, List.length_map, List.take_length]
      refine hK _ ?_
      clear hK K
      simp_arith! []
      exact q
end DL
/-! Pa: dicts whose keys are apart; what is equal to itself; the moves' steps. -/
namespace DL
open PySem PySem.Spec PyProof.Rows L2
theorem Fit.eqv {k : Nat} {v : PyData} (h : Fit k v) : PyData.eqv v v = true := SeqAt.eqv_refl v h.1
theorem fit_step (s : Stp) : Fit 1 s.enc := by
  cases s <;>
  · refine Fit.tuple fun x hx => ?_
    simp only [List.mem_cons, List.not_mem_nil, or_false] at hx
    rcases hx with rfl | rfl
    · exact ⟨by decide +kernel, Nat.zero_le _⟩
    · exact fit_int _
theorem fit_pair (x : Stp × List Nat) : Fit 2 (pairD x) := by
  refine Fit.tuple fun y hy => ?_
  simp only [List.mem_cons, List.not_mem_nil, or_false] at hy
  rcases hy with rfl | rfl
  · exact fit_step _
  · exact fit_nats _
theorem fit_steps (p : Pr) (ns : List Nat) : Fit 2 (stepsN p ns) := Fit.tuple fun x hx => by
  obtain ⟨y, _, rfl⟩ := List.mem_map.mp hx
  exact fit_step _
/-! ### dicts whose keys are apart -/
section
variable {κ : Type} [DecidableEq κ]
theorem putD_new {kvs : List (κ × PyData)} {k : κ} {v : PyData} (h : k ∉ kvs.map (·.1)) : putD kvs k v = kvs ++ [(k, v)] := by
  unfold putD
  rw [if_neg]
  intro z
  obtain ⟨kv, h1, h2⟩ := List.any_eq_true.mp z
  exact h (List.mem_map.mpr ⟨kv, h1, of_decide_eq_true h2⟩)
theorem merge_new : ∀ (more kvs : List (κ × PyData)), ((kvs ++ more).map (·.1)).Nodup → more.foldl (fun acc kv => putD acc kv.1 kv.2) kvs = kvs ++ more
  | [], kvs, _ => (List.append_nil _).symm
  | (k, v) :: more, kvs, h => by
    rw [List.foldl_cons, putD_new (k := k) (v := v), merge_new more, List.append_assoc]
    · rfl
    · rw [List.append_assoc]
      exact h
    · rw [List.map_append, List.map_cons, List.nodup_append] at h
      intro z
      exact h.2.2 k z k List.mem_cons_self rfl
theorem getD_mem {kvs : List (κ × PyData)} (n : (kvs.map (·.1)).Nodup) {k : κ} {v : PyData} (h : (k, v) ∈ kvs) : getD kvs k = some v := by
  induction kvs with
  | nil => cases h
  | cons a kvs ih =>
    rw [List.map_cons, List.nodup_cons] at n
    unfold getD at ih ⊢
    rw [List.find?_cons]
    rcases List.mem_cons.mp h with rfl | h'
    · rw [decide_eq_true rfl]
      rfl
    · have hne : a.1 ≠ k := fun e => n.1 (List.mem_map.mpr ⟨_, h', e.symm⟩)
      rw [decide_eq_false hne]
      exact ih n.2 h'
end
theorem rules_steps (ns : List Nat) : ∀ (rs : List Rl) (i : Nat), ((rulesN ns rs i).map (·.1)).Nodup ∧ ∀ s ∈ (rulesN ns rs i).map (·.1), ∃ j, i ≤ j ∧ j < i + rs.length ∧ s = .rule j
  | [], _ => ⟨List.nodup_nil, fun _ z => nomatch z⟩
  | r :: rs, i => by
    obtain ⟨h1, h2⟩ := rules_steps ns rs (i + 1)
    have e : rulesN ns (r :: rs) i = (if isPossibleN ns r = true then [(.rule i, performedN ns r)] else []) ++ rulesN ns rs (i + 1) := rfl
    rw [e]
    rw [List.length_cons]
    split
    · refine ⟨?_, fun s hs => ?_⟩
      · rw [List.map_append, List.map_cons, List.map_nil, List.singleton_append, List.nodup_cons]
        refine ⟨fun z => ?_, h1⟩
        obtain ⟨j, hj, _, e⟩ := h2 _ z
        injection e
        omega
      · rw [List.map_append, List.map_cons, List.map_nil, List.singleton_append] at hs
        rcases List.mem_cons.mp hs with rfl | hs
        · exact ⟨i, Nat.le_refl _, by omega, rfl⟩
        · obtain ⟨j, hj, hj2, e⟩ := h2 _ hs
          exact ⟨j, by omega, by omega, e⟩
    · refine ⟨h1, fun s hs => ?_⟩
      obtain ⟨j, hj, hj2, e⟩ := h2 _ hs
      exact ⟨j, by omega, by omega, e⟩
theorem drops_steps (ns : List Nat) : ∀ (l : List Nat), l.Nodup → ((dropsN ns l).map (·.1)).Nodup ∧ ∀ s ∈ (dropsN ns l).map (·.1), ∃ j ∈ l, s = .drop j
  | [], _ => ⟨List.nodup_nil, fun _ z => nomatch z⟩
  | a :: l, h => by
    rw [List.nodup_cons] at h
    obtain ⟨h1, h2⟩ := drops_steps ns l h.2
    unfold dropsN at h1 h2 ⊢
    rw [List.filterMap_cons]
    by_cases e : 0 < ns.getD a 0
    · rw [if_pos e]
      refine ⟨?_, fun s hs => ?_⟩
      · rw [List.map_cons, List.nodup_cons]
        refine ⟨fun z => ?_, h1⟩
        obtain ⟨j, hj, e⟩ := h2 _ z
        injection e with e
        exact h.1 (e ▸ hj)
      · rw [List.map_cons] at hs
        rcases List.mem_cons.mp hs with rfl | hs
        · exact ⟨a, List.mem_cons_self, rfl⟩
        · obtain ⟨j, hj, e⟩ := h2 _ hs
          exact ⟨j, List.mem_cons_of_mem _ hj, e⟩
    · rw [if_neg e]
      refine ⟨h1, fun s hs => ?_⟩
      obtain ⟨j, hj, e⟩ := h2 _ hs
      exact ⟨j, List.mem_cons_of_mem _ hj, e⟩
theorem moves_nodup (p : Pr) (ns : List Nat) : ((movesN p ns).map (·.1)).Nodup := by
  obtain ⟨h1, h2⟩ := drops_steps ns (List.range' 1 (p.m - 1)) List.nodup_range'
  obtain ⟨h3, h4⟩ := rules_steps ns p.rules 0
  unfold movesN
  rw [List.map_append, List.nodup_append]
  refine ⟨h1, h3, fun a ha b hb e => ?_⟩
  obtain ⟨j, _, e1⟩ := h2 a ha
  obtain ⟨i, _, _, e2⟩ := h4 b hb
  rw [e1, e2] at e
  cases e
theorem keys_nodup (p : Pr) (ns : List Nat) : (((movesN p ns).map stepKV).map (·.1)).Nodup := by
  have h := moves_nodup p ns
  have e : ((movesN p ns).map stepKV).map (·.1) = ((movesN p ns).map (·.1)).map Stp.key := by
    rw [List.map_map, List.map_map]
    rfl
  rw [e]
  exact List.Pairwise.map _ (fun a b hab z => hab (Stp.key_inj z)) h
theorem merge_moves (p : Pr) (ns : List Nat) : mergeTD [] ((movesN p ns).map stepKV) = (movesN p ns).map stepKV := merge_new _ [] (keys_nodup p ns)
theorem Stp.shape (s : Stp) : isStepShape s.enc = true := by
  cases s <;>
  · unfold Stp.enc isStepShape isiD tyD isCount
    simp
theorem Stp.keyOf (s : Stp) : DL.keyOf s.enc = s.key := by cases s <;> rfl
theorem movedN_step (p : Pr) (ns : List Nat) (x : Stp × List Nat) (h : x ∈ movesN p ns) : movedN p ns x.1.enc = natsD x.2 := by
  unfold movedN
  rw [if_pos x.1.shape, merge_moves, Stp.keyOf, getD_mem (keys_nodup p ns) (List.mem_map.mpr ⟨x, h, rfl⟩)]
  rfl
theorem keyD_inj {a b : Key} (h : keyD a = keyD b) : a = b := by
  cases a <;> cases b
  · injection h with h; rw [h]
  · cases h
  · cases h
  · injection h with h; rw [h]
theorem keyTD_inj {a b : List Key} (h : keyTD a = keyTD b) : a = b := by
  unfold keyTD at h
  injection h with h
  induction a generalizing b with
  | nil =>
    cases b with
    | nil => rfl
    | cons _ _ => cases h
  | cons x a ih =>
    cases b with
    | nil => cases h
    | cons y b =>
      injection h with h1 h2
      rw [keyD_inj h1, ih h2]
theorem movedN_none {p : Pr} {ns : List Nat} {v : PyData} (h : isiD "tuple" v = false ∨ ∃ k, v = keyTD k ∧ (getD ((movesN p ns).map stepKV) k).isSome = false) : isN (movedN p ns v) = true := by
  unfold movedN
  by_cases e : isStepShape v = true
  · rw [if_pos e, merge_moves]
    obtain ⟨x, n, rfl⟩ := step_shape e
    rcases h with h | ⟨k, hk, h⟩
    · rw [isi_tuple] at h
      cases h
    · have : k = [.inr x, .inl n] := keyTD_inj hk.symm
      subst this
      have e2 : DL.keyOf (.tuple [.str x, .int n]) = [.inr x, .inl n] := rfl
      rw [e2]
      cases q : getD ((movesN p ns).map stepKV) [Sum.inr x, Sum.inl n] with
      | none => rfl
      | some z => rw [q] at h; cases h
  · rw [if_neg e]
    rfl
theorem moves_len {p : Pr} (hp : p.Ok) (ns : List Nat) : (movesN p ns).length ≤ 12 := by
  have l1 := dropsN_len ns (List.range' 1 (p.m - 1))
  have l2 := rulesN_len ns p.rules 0
  have := hp.hi
  have := hp.few
  rw [List.length_range'] at l1
  unfold movesN
  rw [List.length_append]
  omega
end DL
/-! DL 19: more of dicts: displays, stores, look-ups, walks, sorted. -/
namespace DL
open PySem PySem.Spec PyProof.Rows L2
/-! ### rules of the layer below -/
section
variable {X : Cx} {e k v : Expr} {t tk tv : TE} {pos : Pos}
/-- the object of e's value is known from now on -/
theorem pe_lockT (h : PE X e t) : PE X e (fun σ H Q => t σ H fun v H' => ∃ d u, v = .ref d ∧ H' d = some u ∧ Mut (some u) ∧ ∀ od, Q v (upd H' d (.frz od u))) := by
  refine ⟨fun pins s σ H Q I hw => ?_⟩
  refine thn (h.run pins s σ _ _ I hw) fun v s1 ⟨x, H1, I2, r, d, u, ex, hd, mu, q⟩ => ?_
  obtain ⟨od, I3⟩ := I2.lock hd mu
  exact ⟨x, _, I3, r, q od⟩
/-- {k: v}, k a tuple of ints and texts -/
def tDispT (tk tv : TE) : TE := fun σ H Q => ∀ p, H p = none → tk σ (upd H p (.dT [])) fun x H1 => tv σ H1 fun y H2 => H2 p = some (.dT []) ∧ ∃ k b, x = .ref b ∧ H2 b = some (.tup (k.map kV)) ∧ Q (.ref p) (upd H2 p (.dT [(k, y)]))
theorem pe_dispT (hu : X.A.units < cLine) (hk : PE X k tk) (hv : PE X v tv) : PE X (.Dict [some k] [v] pos) (tDispT tk tv) := by
  refine ⟨fun pins s σ H Q I q => ?_⟩
  have hn := I.hok.fresh (Nat.le_refl s.heap.objs.size)
  have I1 := I.laid (a := s.heap.objs.size) (o := .dT []) (h' := s.heap.push { cls := .type "dict", data := .dict #[] }) (t' := s.toks) (fun _ _ q => Heap.get?_push_of_some _ q) (Nat.le_refl _) (dt_empty s.heap I.big)
  have pp := pps_cons (pos := pos) hk hv (pps_nil (X := X) (pos := pos))
  have hlen : (pairTrees [some k] [v] X.env pos).length = 1 := pairTrees_length _ _ _ _ rfl rfl
  have h0 : pairTrees [some k] [v] X.env pos ≠ [] := fun z => by rw [z] at hlen; cases hlen
  rw [arm_eval_Dict, zip_pairTrees _ _ _ _ rfl rfl, dictDisplay_pairs _ h0 (by omega)]
  refine wpAny_bind (wpAny_standAt (wpAny_bind (wpAny_subDictH (knd := tupleKind (mixKind X.prog X.w)) (Q := fun d s' => wpAny (model X.prog X.w) X.A (pure (Value.ref d)) _ X.xe s') hu (by omega)
    (wpAny_mono (pp.run pins _ σ _ (fun ps H2 => match ps with | [(x, y)] => H2 s.heap.objs.size = some (.dT []) ∧ ∃ k b, x = .ref b ∧ H2 b = some (.tup (k.map kV)) ∧ Q (.ref s.heap.objs.size) (upd H2 s.heap.objs.size (.dT [(k, y)])) | _ => False) I1 ?_) (fun vs s2 h2 => ?_) fun _ _ x => x))))
  · exact q _ hn
  · obtain ⟨ps, H2, I2, rel, hps⟩ := h2
    cases rel with
    | nil => exact hps.elim
    | @cons p u ps us hr ht =>
      cases ht with
      | cons _ _ => exact hps.elim
      | nil => ?_
      obtain ⟨p1, y⟩ := p
      obtain ⟨e2, kk, b, rfl, eb, q2⟩ := hps
      obtain ⟨hr1, hr2⟩ := hr
      obtain ⟨u1, u2⟩ := u
      cases (show u1 = Value.ref b from hr1)
      have key := key_of (P := X.prog) (w := X.w) I2.hok eb
      obtain ⟨z, hd, xs, kt, dd⟩ := dt_of I2.hok e2
      cases kt
      refine ⟨[(kk, b, u2)], ⟨rfl, rfl, key, trivial⟩, dd, fun h' tk' dd' hs => wpAny_pure ⟨.ref s.heap.objs.size, _, ?_, rfl, q2⟩⟩
      obtain ⟨o, es, ep, hq, h2, h3, h4, _, h5⟩ := dd'
      refine d_write I2 (by rw [e2]; exact True.intro) hs ⟨o, hq⟩ ⟨by rw [sizeLine_eq]; exact Nat.le_of_ble_eq_true rfl, hd, _, ?_, o, es, ep, hq, h2, h3, h4, h5⟩
      refine .cons ⟨rfl, ?_, hr2⟩ .nil
      have hne : b ≠ s.heap.objs.size := fun z => by rw [z, e2] at eb; cases eb
      show upd _ _ _ b = _
      rw [upd_ne hne]
      exact eb
end
/-! ### values that are dicts with tuples as keys -/
def dtOf : SV → Option (List (List Key × PyData))
  | .ow (.dT ks) => some ks
  | .bo (.dT ks) => some ks
  | .fo (.dT ks) => some ks
  | .bo (.dTl ks) => some ks
  | .fo (.dTl ks) => some ks
  | _ => none
def dkOf : SV → Option (List (Key × PyData))
  | .ow (.dK ks) => some ks
  | .bo (.dK ks) => some ks
  | .fo (.dK ks) => some ks
  | .bo (.dKl ks) => some ks
  | .fo (.dKl ks) => some ks
  | _ => none
section
variable {ks : List (List Key × PyData)} {kk : List (Key × PyData)}
theorem dt_ow : dtOf (.ow (.dT ks)) = some ks := rfl
theorem dt_bo : dtOf (.bo (.dT ks)) = some ks := rfl
theorem dt_fo : dtOf (.fo (.dT ks)) = some ks := rfl
theorem dt_bl : dtOf (.bo (.dTl ks)) = some ks := rfl
theorem dt_fl : dtOf (.fo (.dTl ks)) = some ks := rfl
theorem dk_ow : dkOf (.ow (.dK kk)) = some kk := rfl
theorem dk_bo : dkOf (.bo (.dK kk)) = some kk := rfl
theorem dk_fo : dkOf (.fo (.dK kk)) = some kk := rfl
theorem dk_bl : dkOf (.bo (.dKl kk)) = some kk := rfl
theorem dk_fl : dkOf (.fo (.dKl kk)) = some kk := rfl
end
theorem VR.dt {tw : Tw} {H0 H G1 H1 : Hp} {v : V} {s : SV} {ks : List (List Key × PyData)} (r : VR tw H0 H G1 H1 v s) (e : Same G1 H1) (h : dtOf s = some ks) : ∃ b kvs, v = .ref b ∧ Rd H1 b (.dT kvs) ∧ WKv G1 kvs ks := by
  unfold dtOf at h
  split at h
  · cases h; obtain ⟨b, o, rfl, f2, f3, f4, f5, kvs, rfl, w⟩ := r; exact ⟨b, kvs, rfl, .inl f2, w⟩
  · cases h; obtain ⟨b, o, rfl, f2, f3, f4, f5, kvs, rfl, w⟩ := r; exact ⟨b, kvs, rfl, .inl f2, w⟩
  · cases h; obtain ⟨b, o, rfl, f2, kvs, rfl, w⟩ := r; exact ⟨b, kvs, rfl, .inl (e _ _ f2), w⟩
  · cases h; obtain ⟨b, o, rfl, f2, f3, f4, f5, od, kvs, rfl, w⟩ := r; exact ⟨b, kvs, rfl, .inr ⟨od, f2⟩, w⟩
  · cases h; obtain ⟨b, o, rfl, f2, od, kvs, rfl, w⟩ := r; exact ⟨b, kvs, rfl, .inr ⟨od, e _ _ f2⟩, w⟩
  · cases h
theorem VR.dk {tw : Tw} {H0 H G1 H1 : Hp} {v : V} {s : SV} {ks : List (Key × PyData)} (r : VR tw H0 H G1 H1 v s) (e : Same G1 H1) (h : dkOf s = some ks) : ∃ b kvs, v = .ref b ∧ Rd H1 b (.dK kvs) ∧ WKv G1 kvs ks := by
  unfold dkOf at h
  split at h
  · cases h; obtain ⟨b, o, rfl, f2, f3, f4, f5, kvs, rfl, w⟩ := r; exact ⟨b, kvs, rfl, .inl f2, w⟩
  · cases h; obtain ⟨b, o, rfl, f2, f3, f4, f5, kvs, rfl, w⟩ := r; exact ⟨b, kvs, rfl, .inl f2, w⟩
  · cases h; obtain ⟨b, o, rfl, f2, kvs, rfl, w⟩ := r; exact ⟨b, kvs, rfl, .inl (e _ _ f2), w⟩
  · cases h; obtain ⟨b, o, rfl, f2, f3, f4, f5, od, kvs, rfl, w⟩ := r; exact ⟨b, kvs, rfl, .inr ⟨od, f2⟩, w⟩
  · cases h; obtain ⟨b, o, rfl, f2, od, kvs, rfl, w⟩ := r; exact ⟨b, kvs, rfl, .inr ⟨od, e _ _ f2⟩, w⟩
  · cases h
theorem dget_t {H : Hp} {a b : Addr} {kvs : List (List Key × V)} {k : List Key} (e : Rd H a (.dT kvs)) (eb : H b = some (.tup (k.map kV))) : DGet H a (.ref b) (valV kvs k) := .inr ⟨kvs, k, b, e, rfl, eb, rfl⟩
theorem dget_k {H : Hp} {a : Addr} {kvs : List (Key × V)} {k : Key} (e : Rd H a (.dK kvs)) : DGet H a (kV k) (valV kvs k) := .inl ⟨kvs, k, e, rfl, rfl⟩
theorem WD.keyK {G : Hp} {k : Key} {v : V} (h : WD G v (keyD k)) : v = kV k := by
  cases k with
  | inl i => cases h; rfl
  | inr x => cases h; rfl
section
variable {X : Cx} {E : EK} {e e1 e2 e3 : Expr} {t1 t2 t3 te ti : DT} {pos p apos cpos : Pos} {x : Str}
/-- .. the dict is frozen, and known -/
def dLockT (te : DT) : DT := fun δ Q Ex => te δ (fun s => ∃ ks, s = .ow (.dT ks) ∧ Q (.fo (.dTl ks))) Ex
theorem de_lockT (he : PE X e (lift E te)) : PE X e (lift E (dLockT te)) := by
  refine peW (pe_lockT he) ?_
  rintro σ H R ⟨tw, G0, H0, G, δ, Q, Ex, a, h, q⟩
  refine ⟨tw, G0, H0, G, δ, _, Ex, a, h, fun s v G1 H1 ⟨ks, es, hq⟩ r ex => ?_⟩
  subst es
  obtain ⟨b, o, rfl, f2, f3, f4, f5, kvs, rfl, w⟩ := r
  refine ⟨b, _, rfl, f2, trivial, fun od => ?_⟩
  have x1 : Ext tw G H G1 (upd H1 b (.frz od (.dT kvs))) := ex.growO f4 f3 (fun φ z => by rw [f2] at z; cases z) (fun φ z => by rw [f2] at z; cases z)
  have x2 := x1.freezeO (o := .frz od (.dT kvs)) upd_same f3 f4 (fun _ z => by cases z)
  exact q _ _ _ _ hq ⟨b, _, rfl, upd_same, od, kvs, rfl, w.mono (same_freeze f3)⟩ x2
def dLockK (te : DT) : DT := fun δ Q Ex => te δ (fun s => ∃ ks, s = .ow (.dK ks) ∧ Q (.fo (.dKl ks))) Ex
theorem de_lockK (he : PE X e (lift E te)) : PE X e (lift E (dLockK te)) := by
  refine peW (pe_lockT he) ?_
  rintro σ H R ⟨tw, G0, H0, G, δ, Q, Ex, a, h, q⟩
  refine ⟨tw, G0, H0, G, δ, _, Ex, a, h, fun s v G1 H1 ⟨ks, es, hq⟩ r ex => ?_⟩
  subst es
  obtain ⟨b, o, rfl, f2, f3, f4, f5, kvs, rfl, w⟩ := r
  refine ⟨b, _, rfl, f2, trivial, fun od => ?_⟩
  have x1 : Ext tw G H G1 (upd H1 b (.frz od (.dK kvs))) := ex.growO f4 f3 (fun φ z => by rw [f2] at z; cases z) (fun φ z => by rw [f2] at z; cases z)
  have x2 := x1.freezeO (o := .frz od (.dK kvs)) upd_same f3 f4 (fun _ z => by cases z)
  exact q _ _ _ _ hq ⟨b, _, rfl, upd_same, od, kvs, rfl, w.mono (same_freeze f3)⟩ x2
/-- {} -/
theorem g_none {tw : Tw} {G H : Hp} {p : Addr} (o : Ok tw G H) (hp : H p = none) : G p = none := by
  cases q0 : G p with
  | none => rfl
  | some u => rw [o.gh p u q0] at hp; cases hp
theorem new_dict {tw : Tw} {H0 G H : Hp} {p : Addr} {u : HO} {c : OC} (o : Ok tw G H) (hp : H p = none) (hc : OCr G p u c) : VR tw H0 H G (upd H p u) (.ref p) (.ow c) ∧ Ext tw G H G (upd H p u) :=
  ⟨⟨p, u, rfl, upd_same, g_none o hp, fr_none o.tk hp, novol o.tk hp, hc⟩, o.putH hp⟩
def dNewT : DT := fun _ Q _ => Q (.ow (.dT []))
theorem de_newT : PE X (.Dict [] [] pos) (lift E dNewT) := by
  refine peW pe_dnewT ?_
  rintro σ H R ⟨tw, G0, H0, G, δ, Q, Ex, a, h, q⟩
  refine fun p hp => ?_
  obtain ⟨r, x⟩ := new_dict (H0 := H0) (c := .dT []) (u := .dT []) a.ok hp ⟨[], rfl, trivial⟩
  exact q _ _ _ _ h r x
def dNewK : DT := fun _ Q _ => Q (.ow (.dK []))
theorem de_newK : PE X (.Dict [] [] pos) (lift E dNewK) := by
  refine peW pe_dnewK ?_
  rintro σ H R ⟨tw, G0, H0, G, δ, Q, Ex, a, h, q⟩
  refine fun p hp => ?_
  obtain ⟨r, x⟩ := new_dict (H0 := H0) (c := .dK []) (u := .dK []) a.ok hp ⟨[], rfl, trivial⟩
  exact q _ _ _ _ h r x
/-- {k: v} -/
def dDispT (tk tv : DT) : DT := fun δ Q Ex => tk δ (fun s1 => ∃ k, s1 = .d (keyTD k) ∧ tv δ (fun s2 => ∃ d, asD s2 = some d ∧ Q (.ow (.dT [(k, d)]))) Ex) Ex
theorem de_dispT (hu : X.A.units < cLine) (h1 : PE X e1 (lift E t1)) (h2 : PE X e2 (lift E t2)) : PE X (.Dict [some e1] [e2] pos) (lift E (dDispT t1 t2)) := by
  refine peW (pe_dispT hu h1 h2) ?_
  rintro σ H R ⟨tw, G0, H0, G, δ, Q, Ex, a, h, q⟩
  refine fun p hp => ?_
  have x0 : Ext tw G H G (upd H p (.dT [])) := a.ok.putH hp
  have nv : ¬ Vol tw p := novol a.ok.tk hp
  have gp : G p = none := g_none a.ok hp
  refine ⟨tw, G0, H0, G, δ, _, Ex, a.go x0, h, fun s1 v1 G1 H1 ⟨k, es, hq⟩ r1 x1 => ?_⟩
  subst es
  have r1' : WD G1 v1 (keyTD k) := r1
  obtain ⟨kb, rfl, gk⟩ := r1'.keyT
  refine ⟨tw, G0, H0, G1, δ, _, Ex, (a.go x0).go x1, hq, fun s2 v2 G2 H2 ⟨d2, ed2, hq⟩ r2 x2 => ?_⟩
  obtain ⟨G2', x2', sm2, f2⟩ := r2.froze x2 (asF_asD ed2)
  have nt : NT (.dT []) := fun _ z => by cases z
  have x3 := (x1.trans x2')
  have hp2 : H2 p = some (.dT []) := x3.hh p _ upd_same nv nt
  have gp2 : G2' p = none := stays_none x3 upd_same gp trivial
  refine ⟨hp2, k, kb, rfl, x2'.gh _ _ (x2'.gg _ _ gk), ?_⟩
  have fr := fr_none a.ok.tk hp
  exact q _ _ _ _ hq ⟨p, _, rfl, upd_same, gp2, fr, nv, _, rfl, ⟨rfl, f2⟩, trivial⟩ ((x0.trans x3).growO fr gp2 (fun φ z => by rw [hp2] at z; cases z) (fun φ z => by rw [hp2] at z; cases z))
/-- x[k] = v, x a dict of one's own -/
def sPutT (i : Nat) (tk tv : DT) : DS := fun De δ Ex => ∃ ks, δ[i]? = some (some (.ow (.dT ks))) ∧ tv δ (fun s => ∃ d, asD s = some d ∧ tk δ (fun s2 => ∃ k, s2 = .d (keyTD k) ∧ ks.length < sizeLine ∧ De.nx (δ.set i (some (.ow (.dT (putD ks k d)))))) Ex) Ex
theorem ds_putT {i : Nat} (hu : X.A.units + 1 < cLine) (hN : X.N[i]? = some x) (hv : Vis X.env.scope x) (hk : PE X e1 (lift E t1)) (he : PE X e2 (lift E t2)) (hs : swapsWith e2 (some (.Subscript (.Name x p) e1 apos)) pos.line X.env = pure false := by rfl) (hd : (x == ("__debug__" : Str)) = false := by decide) (hcd : (x == ("__classdict__" : Str)) = false := by decide) :
    PS X (.Assign [.Subscript (.Name x p) e1 apos] e2 pos) (liftS E (sPutT i t1 t2)) := by
  refine psW (ps_dput hu (pe_var (i := i) hN hv hd hcd) hk he hs) ?_
  rintro D σ H ⟨tw, G0, H0, G, δ, De, Ex, a, ⟨ks, hl, h⟩, g⟩
  refine ⟨tw, G0, H0, G, δ, _, Ex, a, h, fun s v G1 H1 ⟨d, ed, hk⟩ r ex => ?_⟩
  obtain ⟨G2, ex2, sm, f⟩ := r.froze ex (asF_asD ed)
  obtain ⟨b, o, e1, _⟩ := (a.rep.go ex2).mineO hl
  refine ⟨.ref b, e1, tw, G0, H0, G2, δ, _, Ex, a.go ex2, hk, fun s2 kv G3 H3 ⟨k, ek, hz, hn⟩ rk ex3 => ?_⟩
  subst ek
  have rk' : WD G3 kv (keyTD k) := rk
  obtain ⟨kb, rfl, gk⟩ := rk'.keyT
  have r3 := (a.rep.go ex2).go ex3
  obtain ⟨b', o', k1, k2, k3, k4, k5, kvs', rfl, w'⟩ := r3.mineO hl
  rw [e1] at k1
  cases k1
  refine ⟨b, _, rfl, DPut.t k2 (ex3.gh _ _ gk) (by rw [w'.length]; exact hz), ?_⟩
  exact g.nx _ G3 σ _ hn (r3.writeO hl trivial e1 (fun φ z => by rw [k2] at z; cases z) ⟨b, _, rfl, upd_same, k3, k4, k5, _, rfl, w'.put k (WD.mono ex3.gg _ _ f)⟩ trivial)
def sPutK (i : Nat) (tk tv : DT) : DS := fun De δ Ex => ∃ ks, δ[i]? = some (some (.ow (.dK ks))) ∧ tv δ (fun s => ∃ d, asD s = some d ∧ tk δ (fun s2 => ∃ k, s2 = .d (keyD k) ∧ ks.length < sizeLine ∧ De.nx (δ.set i (some (.ow (.dK (putD ks k d)))))) Ex) Ex
theorem ds_putK {i : Nat} (hu : X.A.units + 1 < cLine) (hN : X.N[i]? = some x) (hv : Vis X.env.scope x) (hk : PE X e1 (lift E t1)) (he : PE X e2 (lift E t2)) (hs : swapsWith e2 (some (.Subscript (.Name x p) e1 apos)) pos.line X.env = pure false := by rfl) (hd : (x == ("__debug__" : Str)) = false := by decide) (hcd : (x == ("__classdict__" : Str)) = false := by decide) :
    PS X (.Assign [.Subscript (.Name x p) e1 apos] e2 pos) (liftS E (sPutK i t1 t2)) := by
  refine psW (ps_dput hu (pe_var (i := i) hN hv hd hcd) hk he hs) ?_
  rintro D σ H ⟨tw, G0, H0, G, δ, De, Ex, a, ⟨ks, hl, h⟩, g⟩
  refine ⟨tw, G0, H0, G, δ, _, Ex, a, h, fun s v G1 H1 ⟨d, ed, hk⟩ r ex => ?_⟩
  obtain ⟨G2, ex2, sm, f⟩ := r.froze ex (asF_asD ed)
  obtain ⟨b, o, e1, _⟩ := (a.rep.go ex2).mineO hl
  refine ⟨.ref b, e1, tw, G0, H0, G2, δ, _, Ex, a.go ex2, hk, fun s2 kv G3 H3 ⟨k, ek, hz, hn⟩ rk ex3 => ?_⟩
  subst ek
  have rk' : WD G3 kv (keyD k) := rk
  have rk2 := rk'.keyK
  subst rk2
  have r3 := (a.rep.go ex2).go ex3
  obtain ⟨b', o', k1, k2, k3, k4, k5, kvs', rfl, w'⟩ := r3.mineO hl
  rw [e1] at k1
  cases k1
  refine ⟨b, _, rfl, DPut.k k2 (by rw [w'.length]; exact hz), ?_⟩
  exact g.nx _ G3 σ _ hn (r3.writeO hl trivial e1 (fun φ z => by rw [k2] at z; cases z) ⟨b, _, rfl, upd_same, k3, k4, k5, _, rfl, w'.put k (WD.mono ex3.gg _ _ f)⟩ trivial)
/-- d[k], there -/
theorem dt_later {tw : Tw} {H0 H G1 H1 G2 H2 : Hp} {v : V} {s : SV} {ks : List (List Key × PyData)} (r : VR tw H0 H G1 H1 v s) (o : TwOk tw H1) (e : Ext tw G1 H1 G2 H2) (h : dtOf s = some ks) : ∃ b kvs, v = .ref b ∧ Rd H2 b (.dT kvs) ∧ WKv G2 kvs ks := (r.go o e).dt e.gh h
theorem dk_later {tw : Tw} {H0 H G1 H1 G2 H2 : Hp} {v : V} {s : SV} {ks : List (Key × PyData)} (r : VR tw H0 H G1 H1 v s) (o : TwOk tw H1) (e : Ext tw G1 H1 G2 H2) (h : dkOf s = some ks) : ∃ b kvs, v = .ref b ∧ Rd H2 b (.dK kvs) ∧ WKv G2 kvs ks := (r.go o e).dk e.gh h
def dIxT (te ti : DT) : DT := fun δ Q Ex => te δ (fun s => ∃ ks, dtOf s = some ks ∧ ti δ (fun k => ∃ kk d, k = .d (keyTD kk) ∧ getD ks kk = some d ∧ Q (.d d)) Ex) Ex
theorem de_ixT (hu : X.A.units + 65 < cLine) (h : PE X e1 (lift E t1)) (h2 : PE X e2 (lift E t2)) (hs : NoSl e2) : PE X (.Subscript e1 e2 pos) (lift E (dIxT t1 t2)) := by
  refine peW (pe_dget (by omega) h h2 hs) ?_
  rintro σ H R ⟨tw, G0, H0, G, δ, Q, Ex, a, h, q⟩
  refine ⟨tw, G0, H0, G, δ, _, Ex, a, h, fun s v G1 H1 ⟨ks, es, hq⟩ r ex => ?_⟩
  refine ⟨tw, G0, H0, G1, δ, _, Ex, a.go ex, hq, fun y kv G2 H2 ⟨k, d, ek, hd, hs⟩ rk ex2 => ?_⟩
  subst ek
  have rk' : WD G2 kv (keyTD k) := rk
  obtain ⟨kb, rfl, gk⟩ := rk'.keyT
  obtain ⟨b, kvs, rfl, hb, w⟩ := dt_later r ex.tk ex2 es
  rcases w.val k with ⟨z1, z2⟩ | ⟨v, d', z1, z2, wd⟩
  · rw [z2] at hd; cases hd
  · rw [z2] at hd
    cases hd
    exact ⟨b, v, rfl, z1 ▸ dget_t hb (ex2.gh _ _ gk), q _ _ G2 H2 hs wd (ex.trans ex2)⟩
def dIxK (te ti : DT) : DT := fun δ Q Ex => te δ (fun s => ∃ ks, dkOf s = some ks ∧ ti δ (fun k => ∃ kk d, k = .d (keyD kk) ∧ getD ks kk = some d ∧ Q (.d d)) Ex) Ex
theorem de_ixK (hu : X.A.units + 65 < cLine) (h : PE X e1 (lift E t1)) (h2 : PE X e2 (lift E t2)) (hs : NoSl e2) : PE X (.Subscript e1 e2 pos) (lift E (dIxK t1 t2)) := by
  refine peW (pe_dget (by omega) h h2 hs) ?_
  rintro σ H R ⟨tw, G0, H0, G, δ, Q, Ex, a, h, q⟩
  refine ⟨tw, G0, H0, G, δ, _, Ex, a, h, fun s v G1 H1 ⟨ks, es, hq⟩ r ex => ?_⟩
  refine ⟨tw, G0, H0, G1, δ, _, Ex, a.go ex, hq, fun y kv G2 H2 ⟨k, d, ek, hd, hs⟩ rk ex2 => ?_⟩
  subst ek
  have rk' : WD G2 kv (keyD k) := rk
  have rk2 := rk'.keyK
  subst rk2
  obtain ⟨b, kvs, rfl, hb, w⟩ := dk_later r ex.tk ex2 es
  rcases w.val k with ⟨z1, z2⟩ | ⟨v, d', z1, z2, wd⟩
  · rw [z2] at hd; cases hd
  · rw [z2] at hd
    cases hd
    exact ⟨b, v, rfl, z1 ▸ dget_k hb, q _ _ G2 H2 hs wd (ex.trans ex2)⟩
/-- d.get(k), d.get(k, x) -/
def dGetT (td ty : DT) : DT := fun δ Q Ex => td δ (fun s => ∃ ks, dtOf s = some ks ∧ ty δ (fun y => ∃ k, y = .d (keyTD k) ∧ Q (.d ((getD ks k).getD .none))) Ex) Ex
theorem de_getT (hu : X.A.units + 65 < cLine) (h : PE X e1 (lift E t1)) (h2 : PE X e2 (lift E t2)) (m : M1 X e1 "get" apos e2 cpos) : PE X (.Call (.Attribute e1 "get" apos) [e2] [] cpos) (lift E (dGetT t1 t2)) := by
  refine peW (pe_dget1 (by omega) h h2 m) ?_
  rintro σ H R ⟨tw, G0, H0, G, δ, Q, Ex, a, h, q⟩
  refine ⟨tw, G0, H0, G, δ, _, Ex, a, h, fun s v G1 H1 ⟨ks, es, hq⟩ r ex => ?_⟩
  obtain ⟨b, kvs0, rfl, hb0, w0⟩ := r.dt ex.gh es
  refine ⟨b, rfl, .inr ⟨kvs0, hb0⟩, tw, G0, H0, G1, δ, _, Ex, a.go ex, hq, fun y kv G2 H2 ⟨k, ek, hs⟩ rk ex2 => ?_⟩
  subst ek
  have rk' : WD G2 kv (keyTD k) := rk
  obtain ⟨kb, rfl, gk⟩ := rk'.keyT
  obtain ⟨b', kvs, eb, hb, w⟩ := dt_later r ex.tk ex2 es
  cases eb
  refine ⟨_, dget_t hb (ex2.gh _ _ gk), ?_⟩
  rcases w.val k with ⟨z1, z2⟩ | ⟨v, d, z1, z2, wd⟩
  · rw [z1]
    rw [z2] at hs
    exact q _ _ G2 H2 hs WD.non (ex.trans ex2)
  · rw [z1]
    rw [z2] at hs
    exact q _ _ G2 H2 hs wd (ex.trans ex2)
def dGetK2 (td ty tx : DT) : DT := fun δ Q Ex => td δ (fun s => ∃ ks, dkOf s = some ks ∧ ty δ (fun y => ∃ k, y = .d (keyD k) ∧ tx δ (fun z => ∃ d, z = .d d ∧ Q (.d ((getD ks k).getD d))) Ex) Ex) Ex
theorem de_getK2 (hu : X.A.units + 65 < cLine) (h : PE X e1 (lift E t1)) (h2 : PE X e2 (lift E t2)) (h3 : PE X e3 (lift E t3)) (m : M2 X e1 "get" apos e2 e3 cpos) : PE X (.Call (.Attribute e1 "get" apos) [e2, e3] [] cpos) (lift E (dGetK2 t1 t2 t3)) := by
  refine peW (pe_dget2 (by omega) h h2 h3 m) ?_
  rintro σ H R ⟨tw, G0, H0, G, δ, Q, Ex, a, h, q⟩
  refine ⟨tw, G0, H0, G, δ, _, Ex, a, h, fun s v G1 H1 ⟨ks, es, hq⟩ r ex => ?_⟩
  obtain ⟨b, kvs0, rfl, hb0, w0⟩ := r.dk ex.gh es
  refine ⟨b, rfl, .inl ⟨kvs0, hb0⟩, tw, G0, H0, G1, δ, _, Ex, a.go ex, hq, fun y kv G2 H2 ⟨k, ek, hs⟩ rk ex2 => ?_⟩
  subst ek
  have rk' : WD G2 kv (keyD k) := rk
  have rk2 := rk'.keyK
  subst rk2
  refine ⟨tw, G0, H0, G2, δ, _, Ex, (a.go ex).go ex2, hs, fun z zv G3 H3 ⟨d0, ez, hs⟩ rz ex3 => ?_⟩
  subst ez
  have rz' : WD G3 zv d0 := rz
  obtain ⟨b', kvs, eb, hb, w⟩ := dk_later r ex.tk (ex2.trans ex3) es
  cases eb
  refine ⟨_, dget_k hb, ?_⟩
  rcases w.val k with ⟨z1, z2⟩ | ⟨v, d, z1, z2, wd⟩
  · rw [z1]
    rw [z2] at hs
    exact q _ _ G3 H3 hs rz' ((ex.trans ex2).trans ex3)
  · rw [z1]
    rw [z2] at hs
    exact q _ _ G3 H3 hs wd ((ex.trans ex2).trans ex3)
end
/-! ### k in d -/
section
variable {X : Cx}
def wInD (g : Bool → Bool) : W2 := fun x y Q => ∃ k ks, x = .d (keyTD k) ∧ dtOf y = some ks ∧ Q (.d (.bool (g (getD ks k).isSome)))
theorem dget_of2 {tw : Tw} {H0 H G1 H1 : Hp} {k : List Key} {ks : List (List Key × PyData)} {y : SV} {vx vy : V} (hx : VR tw H0 H G1 H1 vx (.d (keyTD k))) (hy : VR tw H0 H G1 H1 vy y) (ok : Ok tw G1 H1) (e : dtOf y = some ks) : ∃ a o, vy = .ref a ∧ DGet H1 a vx o ∧ o.isSome = (getD ks k).isSome := by
  have hx' : WD G1 vx (keyTD k) := hx
  obtain ⟨kb, rfl, gk⟩ := hx'.keyT
  obtain ⟨b, kvs, rfl, hb, w⟩ := hy.dt ok.gh e
  refine ⟨b, valV kvs k, rfl, dget_t hb (ok.gh _ _ gk), ?_⟩
  rcases w.val k with ⟨z1, z2⟩ | ⟨v, d, z1, z2, wd⟩ <;> rw [z1, z2] <;> rfl
theorem od_inD (hu : X.A.units + 65 < cLine) : OpD X (compareOp .In) (wInD fun b => b) := by
  refine ⟨_, op_dIn (by omega), fun tw H0 H G1 H1 x y vx vy Q R hx hy ok hq c => ?_⟩
  obtain ⟨k, ks, rfl, e, hq⟩ := hq
  obtain ⟨b, o, rfl, h1, h2⟩ := dget_of2 hx hy ok e
  rw [← h2] at hq
  exact ⟨b, o, rfl, h1, c _ _ G1 H1 hq (WD.bl _) ok.refl⟩
theorem od_notInD (hu : X.A.units + 65 < cLine) : OpD X (compareOp .NotIn) (wInD fun b => !b) := by
  refine ⟨_, op_dNotIn (by omega), fun tw H0 H G1 H1 x y vx vy Q R hx hy ok hq c => ?_⟩
  obtain ⟨k, ks, rfl, e, hq⟩ := hq
  obtain ⟨b, o, rfl, h1, h2⟩ := dget_of2 hx hy ok e
  rw [← h2] at hq
  exact ⟨b, o, rfl, h1, c _ _ G1 H1 hq (WD.bl _) ok.refl⟩
def wInKD (g : Bool → Bool) : W2 := fun x y Q => ∃ k ks, x = .d (keyD k) ∧ dkOf y = some ks ∧ Q (.d (.bool (g (getD ks k).isSome)))
theorem dget_of3 {tw : Tw} {H0 H G1 H1 : Hp} {k : Key} {ks : List (Key × PyData)} {y : SV} {vx vy : V} (hx : VR tw H0 H G1 H1 vx (.d (keyD k))) (hy : VR tw H0 H G1 H1 vy y) (ok : Ok tw G1 H1) (e : dkOf y = some ks) : ∃ a o, vy = .ref a ∧ DGet H1 a vx o ∧ o.isSome = (getD ks k).isSome := by
  have hx' : WD G1 vx (keyD k) := hx
  have e2 := hx'.keyK
  subst e2
  obtain ⟨b, kvs, rfl, hb, w⟩ := hy.dk ok.gh e
  refine ⟨b, valV kvs k, rfl, dget_k hb, ?_⟩
  rcases w.val k with ⟨z1, z2⟩ | ⟨v, d, z1, z2, wd⟩ <;> rw [z1, z2] <;> rfl
theorem od_inKD (hu : X.A.units + 65 < cLine) : OpD X (compareOp .In) (wInKD fun b => b) := by
  refine ⟨_, op_dIn (by omega), fun tw H0 H G1 H1 x y vx vy Q R hx hy ok hq c => ?_⟩
  obtain ⟨k, ks, rfl, e, hq⟩ := hq
  obtain ⟨b, o, rfl, h1, h2⟩ := dget_of3 hx hy ok e
  rw [← h2] at hq
  exact ⟨b, o, rfl, h1, c _ _ G1 H1 hq (WD.bl _) ok.refl⟩
theorem od_notInKD (hu : X.A.units + 65 < cLine) : OpD X (compareOp .NotIn) (wInKD fun b => !b) := by
  refine ⟨_, op_dNotIn (by omega), fun tw H0 H G1 H1 x y vx vy Q R hx hy ok hq c => ?_⟩
  obtain ⟨k, ks, rfl, e, hq⟩ := hq
  obtain ⟨b, o, rfl, h1, h2⟩ := dget_of3 hx hy ok e
  rw [← h2] at hq
  exact ⟨b, o, rfl, h1, c _ _ G1 H1 hq (WD.bl _) ok.refl⟩
end
/-! ### the keys of a known dict are walked -/
/-- a tuple may be frozen at any time -/
theorem fr_tup {tw : Tw} {H : Hp} {q : Addr} {xs : List V} (o : TwOk tw H) (h : H q = some (.tup xs)) : Fr tw H q :=
  ⟨fun v => (by rcases o.vol v with ⟨x, e⟩ | ⟨x, e⟩ <;> rw [h] at e <;> cases e), fun u e z => (by rw [h] at e; cases e; exact z)⟩
theorem wds_key {G : Hp} : ∀ k : List Key, WDs G (k.map kV) (k.map keyD)
  | [] => .nil
  | .inl i :: k => .cons (.int i) (wds_key k)
  | .inr x :: k => .cons (.str x) (wds_key k)
theorem freeze_key {tw : Tw} {G H : Hp} {q : Addr} {k : List Key} (o : Ok tw G H) (h : H q = some (.tup (k.map kV))) (hz : k.length ≤ sizeLine) : ∃ G2, Ext tw G H G2 H ∧ WD G2 (.ref q) (keyTD k) := by
  cases e : G q with
  | some u =>
    have := o.gh _ _ e
    rw [h] at this
    cases this
    exact ⟨G, o.refl, .tup e (by rw [List.length_map]; exact hz) (wds_key k)⟩
  | none => exact ⟨_, o.refl.freezeO h e (fr_tup o.tk h) (fun _ z => by cases z), .tup upd_same (by rw [List.length_map]; exact hz) (wds_key k)⟩
theorem WKv.getT {κ : Type} {G : Hp} {ps : List (κ × V)} {qs : List (κ × PyData)} {i : Nat} {k : κ} {v : V} (h : WKv G ps qs) (e : ps[i]? = some (k, v)) : ∃ d, qs[i]? = some (k, d) ∧ WD G v d := h.get e
theorem wk_keysT {tw : Tw} {d : Addr} {od : Obj} {kvs : List (List Key × V)} {ks : List (List Key × PyData)} {fz : Bool} {G H : Hp} (w : WKv G kvs ks) (hz : ks.length ≤ sizeLine) (hk : ∀ p ∈ ks, p.1.length ≤ sizeLine) (st : ∀ G1 H1, Lat fz tw G H G1 H1 → H1 d = some (.frz od (.dT kvs))) : WkD tw (Itkt d od kvs) (ks.map fun p => keyTD p.1) fz G H where
  sz := by rw [List.length_map]; exact hz
  goes := fun i G1 H1 hi l => ⟨st G1 H1 l, by rw [List.length_map] at hi; rw [w.length]; exact hi⟩
  stops := fun G1 H1 l => ⟨st G1 H1 l, by rw [List.length_map, w.length]; exact Nat.le_refl _⟩
  yld := fun i G1 H1 x H2 hi l ok y => by
    obtain ⟨rfl, k, v, q, e, rfl, hq⟩ := y
    obtain ⟨d, e1, e2⟩ := w.get e
    obtain ⟨G2, x2, w2⟩ := freeze_key ok hq (hk _ (List.mem_of_getElem? e1))
    exact ⟨keyTD k, G2, by rw [List.getElem?_map, e1]; rfl, w2, x2⟩
section
variable {X : Cx} {E : EK} {e tg : Expr} {te : DT}
/-- .. of a known, frozen dict -/
def iKeysT (te : DT) : DI := fun δ Q Ex => te δ (fun s => ∃ ks, s = .fo (.dTl ks) ∧ ks.length ≤ sizeLine ∧ (∀ p ∈ ks, p.1.length ≤ sizeLine) ∧ Q (ks.map fun p => keyTD p.1) true) Ex
theorem di_keysT (h : PE X e (lift E te)) : PI X tg e (liftI E (iKeysT te)) := by
  refine piW (pi_keys h) ?_
  rintro σ H R ⟨tw, G0, H0, G, δ, Q, Ex, a, h, q⟩
  refine ⟨tw, G0, H0, G, δ, _, Ex, a, h, fun s v G1 H1 ⟨ks, es, hz, hk, hs⟩ r ex => ?_⟩
  subst es
  obtain ⟨b, o, rfl, f2, od, kvs, rfl, w⟩ := r
  exact ⟨b, od, rfl, .inr ⟨kvs, ex.gh _ _ f2, q _ _ _ G1 H1 hs ex (wk_keysT w hz hk fun G2 H2 l => l.2.1 _ _ (l.1 _ _ f2))⟩⟩
end
end DL
/-! DL 20: sorted, max, min. -/
namespace DL
open PySem PySem.Spec PyProof.Rows L2
open PySem.W (EachIs AllAlike Sortable dataLe alike)
theorem each_vals : ∀ {xs : List V} {us : List Value} {ds : List PyData}, Vals xs us → ds.length = xs.length → EachIs (fun u (b : V × PyData) => RelV b.1 u) us (xs.zip ds)
  | [], _, [], r, _ => by cases r; exact .nil
  | x :: xs, _, d :: ds, r, h => by
    cases r with
    | cons h1 h2 => exact .cons h1 (each_vals h2 (by simpa using h))
  | [], _, _ :: _, _, h => by simp at h
  | _ :: _, _, [], _, h => by simp at h
theorem vals_each : ∀ {out : List Value} {bs : List (V × PyData)}, EachIs (fun u (b : V × PyData) => RelV b.1 u) out bs → Vals (bs.map Prod.fst) out
  | [], _, h => by cases h; exact .nil
  | _ :: _, _, h => by
    cases h with
    | cons h1 h2 => exact .cons h1 (vals_each h2)
theorem zip_snd {xs : List V} {ds : List PyData} (h : ds.length = xs.length) : (xs.zip ds).map Prod.snd = ds := List.map_snd_zip (by omega)
/-- the items of a list by data, in their order -/
def srtV (xs : List V) (ds : List PyData) : List V := ((xs.zip ds).mergeSort (dataLe false Prod.snd)).map Prod.fst
def srtD (ds : List PyData) : List PyData := ds.mergeSort (dataLe false id)
theorem srt_map {xs : List V} {ds : List PyData} (h : ds.length = xs.length) : ((xs.zip ds).mergeSort (dataLe false Prod.snd)).map Prod.snd = srtD ds := by
  rw [PySem.W.sort_maps (r := dataLe false Prod.snd) (s := dataLe false id) Prod.snd (fun a _ b _ => rfl), zip_snd h]
  rfl
theorem wds_map {G : Hp} : ∀ {ps : List (V × PyData)}, (∀ p ∈ ps, WD G p.1 p.2) → WDs G (ps.map Prod.fst) (ps.map Prod.snd)
  | [], _ => .nil
  | p :: ps, h => .cons (h p List.mem_cons_self) (wds_map fun q hq => h q (List.mem_cons_of_mem _ hq))
theorem wds_zip {G : Hp} : ∀ {ds : List PyData} {xs : List V}, WDs G xs ds → ∀ p ∈ xs.zip ds, WD G p.1 p.2
  | [], _, h, p, hp => by cases h; cases hp
  | d :: ds, _, h, p, hp => by
    cases h with
    | cons h1 h2 =>
      rw [List.zip_cons_cons] at hp
      rcases List.mem_cons.mp hp with rfl | hp
      · exact h1
      · exact wds_zip h2 p hp
theorem wds_srt {G : Hp} {xs : List V} {ds : List PyData} (w : WDs G xs ds) : WDs G (srtV xs ds) (srtD ds) := by
  rw [← srt_map w.length.symm]
  exact wds_map fun p hp => wds_zip w p ((List.mergeSort_perm _ _).mem_iff.mp hp)
/-- sorted(xs), data -/
def rSortedD (K : PySem.W.Frag) : List V → Hp → VK → Prop := fun vs H Q => ∃ (a : Addr) (xs : List V) (ds : List PyData), vs = [V.ref a] ∧ SqL K H a xs ∧ DpAll K H xs ds ∧ ds.length = xs.length ∧ AllAlike ds ∧ Sortable ds ∧ (∀ d ∈ ds, d.depth ≤ 64) ∧
  ∀ p, H p = none → Q (.ref p) (upd H p (.lst (srtV xs ds)))
section
variable {X : Cx}
theorem cr_sortedD (hu : X.A.units + 66 < cLine) : CallR X (.builtin "sorted") (rSortedD X.K) := by
  intro pins s σ H vs us Q I r h
  obtain ⟨a, xs, ds, rfl, hs, hd, hl2, hal, hk, hdep, q⟩ := h
  obtain ⟨its, rv, hl, hz⟩ := I.list hs
  rw [Vals.ref1 r]
  obtain ⟨as, rds⟩ := Dp.readsAll I ds xs its hd rv
  have e := each_vals rv hl2
  have em : (xs.zip ds).map Prod.snd = ds := zip_snd hl2
  have er : EachIs (fun v (b : V × PyData) => ∃ as, Reads s.heap v b.2 as) its (xs.zip ds) := PySem.W.readsAll_each Prod.snd (by rw [em]; exact rds)
  have hzl : (xs.zip ds).length ≤ sizeLine := by rw [List.length_zip]; omega
  refine PySem.W.sorted_data (enc := Prod.snd) hl.isList e er (by rw [em]; exact hal) (by rw [em]; exact hk) hzl (fun b hb => ?_) fun out h1 h2 => ?_
  · have := hdep b.2 (by rw [← em]; exact List.mem_map_of_mem hb)
    omega
  · obtain ⟨ep, he'⟩ := PyProof.Rows.sortedAll_at s.heap its out.toArray
    have rv2 := vals_each h2
    have hlen : (srtV xs ds).length ≤ sizeLine := by
      unfold srtV
      rw [List.length_map, List.length_mergeSort]
      exact hzl
    exact ⟨.ref _, upd H (s.heap.objs.size + 1) (.lst (srtV xs ds)), I.laid (t' := s.toks) (fun _ _ => PyProof.Rows.sortedAll_old) (Nat.le_succ _) ⟨hlen, out, ep, rv2, he'⟩, rfl, q _ (I.hok.fresh (Nat.le_succ _))⟩
/-- sorted of a list -/
def oSort : SV → (SV → Prop) → Prop := fun s Q => ∃ l, asL s = some l ∧ AllAlike l ∧ Sortable l ∧ (∀ d ∈ l, d.depth ≤ 64) ∧ Q (.own (srtD l))
theorem one_sort (hu : X.A.units + 66 < cLine) : OneD X (.builtin "sorted") oSort := by
  refine ⟨_, cr_sortedD hu, fun tw H0 H G1 H1 x vx Q R hx ok hq c => ?_⟩
  obtain ⟨l, el, ha, hs, hd, hq⟩ := hq
  obtain ⟨a, vs, rfl, e1, w, z⟩ := hx.list ok.gh el
  refine ⟨a, vs, l, rfl, .of e1, WDs.dp ok.gh _ _ w, w.length.symm, ha, hs, hd, fun p hp => ?_⟩
  obtain ⟨e2, w2⟩ := put_own (H0 := H0) ok hp (wds_srt w) (by unfold srtD; rw [List.length_mergeSort]; exact z)
  exact c _ _ _ _ hq w2 e2
/-- sorted(d), the keys tuples -/
def rSortedDT : List V → Hp → VK → Prop := fun vs H Q => ∃ (a : Addr) (kvs : List (List Key × V)), vs = [V.ref a] ∧ Rd H a (.dT kvs) ∧ AllAlike (kvs.map fun p => keyTD p.1) ∧ Sortable (kvs.map fun p => keyTD p.1) ∧
  ∀ p bs, kvs.length ≤ sizeLine → H p = none → IsKeys H kvs bs → Q (.ref p) (upd H p (.lst (srtV (bs.map V.ref) (kvs.map fun p => keyTD p.1))))
theorem keyD_depth (k : Key) : (keyD k).depth = 0 := by cases k <;> rfl
theorem keys_depth : ∀ k : List Key, PyData.depthAll (k.map keyD) = 0
  | [] => rfl
  | k :: ks => by rw [List.map_cons, PyData.depthAll, keyD_depth, keys_depth ks]; rfl
theorem keyTD_depth (k : List Key) : (keyTD k).depth = 1 := by
  unfold keyTD
  rw [depth_tuple, keys_depth]
theorem dpall_key {K : PySem.W.Frag} {H : Hp} : ∀ k : List Key, DpAll K H (k.map kV) (k.map keyD)
  | [] => .nil
  | .inl i :: k => .cons (.int i) (dpall_key k)
  | .inr x :: k => .cons (.str x) (dpall_key k)
theorem dp_key {K : PySem.W.Frag} {H : Hp} {b : Addr} {k : List Key} (h : H b = some (.tup (k.map kV))) : Dp K H (.ref b) (keyTD k) := .tup (.of h) (dpall_key k)
theorem dp_keys {K : PySem.W.Frag} {H : Hp} : ∀ {kvs : List (List Key × V)} {bs : List Addr}, IsKeys H kvs bs → DpAll K H (bs.map V.ref) (kvs.map fun p => keyTD p.1)
  | _, _, .nil => .nil
  | _, _, .cons h t => .cons (dp_key h) (dp_keys t)
theorem cr_sortedDT (hc : X.calm = true) (hu : X.A.units + 66 < cLine) : CallR X (.builtin "sorted") rSortedDT := by
  intro pins s σ H xs us Q I r h
  obtain ⟨d, kvs, rfl, hd, hal, hk, q⟩ := h
  obtain ⟨u, rfl, rx⟩ := r.one
  cases rx
  obtain ⟨z, hs, ks, pr, o, es, ep, ho, hx, hdt, he, hn⟩ := (show ObjOk X.prog X.w H s.heap d (.dT kvs) from hd.ok I.hok)
  have l1 : es.size = ks.length := size_of_entries he
  have l2 : kvs.length = ks.length := Paired.length pr
  refine Calls.call_function_entry PyProof.Rows.kind_sorted PyProof.Rows.plain_sorted PyProof.Rows.entry_sorted (PyProof.Rows.args_sorted1 _) ?_
  unfold Builtin.«sorted»
  refine wpAny_bind (m := checkCount "sorted" 1 1 _) (wpAny_pure ?_)
  refine wpAny_bind (PySem.W.kdu_collect (A := X.A.in1) (kdl_raw hs hx hdt) (I.ok.hd hc) ho (by omega) fun h' tk acc' hkk it => ?_)
  have ea : acc'.toList = ks.map fun x => Value.ref x.2.1 := by
    have hl : acc'.toList.length = ks.length := by rw [Array.length_toList, it.1]; exact l1
    apply List.ext_getElem?
    intro j
    rw [List.getElem?_map]
    cases hj : acc'.toList[j]? with
    | none =>
      have h1 := List.getElem?_eq_none_iff.mp hj
      rw [List.getElem?_eq_none (by omega)]
      rfl
    | some v =>
      obtain ⟨en, hen, hv⟩ := it.2 j v (by rw [← Array.getElem?_toList]; exact hj)
      have qe := entry_at he j
      rw [hen] at qe
      cases hb : ks[j]? with
      | none =>
        rw [hb] at qe
        exact nomatch (show some en = none from qe)
      | some b =>
        rw [hb] at qe
        have e2 : en = entryOfKey (tupleKind (mixKind X.prog X.w)) b := Option.some.inj qe
        rw [hv, e2]
        rfl
  have eb : acc'.toList = (ks.map fun x => x.2.1).map Value.ref := by rw [ea, List.map_map]; rfl
  have rv : Vals ((ks.map fun x => x.2.1).map V.ref) acc'.toList := by rw [eb]; exact vals_refs _
  have isk : IsKeys H kvs (ks.map fun x => x.2.1) := isKeys_of pr
  have hl2 : (kvs.map fun p => keyTD p.1).length = ((ks.map fun x => x.2.1).map V.ref).length := by rw [List.length_map, List.length_map, List.length_map]; exact l2
  have I1 : Inv X pins σ H { s with heap := h', toks := tk } := I.kept hkk
  have hacl : acc'.toList.length ≤ sizeLine := by rw [eb, List.length_map, List.length_map]; omega
  refine wpAny_bind (wpAny_newList ?_ hacl)
  have hoL : (h'.push (seqObj "list" acc'.toList.toArray 0)).get? h'.objs.size = some (seqObj "list" acc'.toList.toArray 0) := Heap.get?_push_size _ rfl
  show wpAny _ _ _ _ _ { s with heap := h'.push (seqObj "list" acc'.toList.toArray 0), toks := tk }
  have hfr : ∀ b u, h'.get? b = some u → b < h'.objs.size := fun b u e => Heap.lt_size e
  have kpS : ∀ b u, h'.get? b = some u → (PySem.W.sortingHeap (h'.push (seqObj "list" acc'.toList.toArray 0)) h'.objs.size acc'.toList).get? b = some u := fun b u e => by
    rw [PySem.W.sortingHeap_old (Nat.ne_of_lt (hfr b u e)) (Heap.get?_push_of_some _ e)]
  obtain ⟨as, rds⟩ := Dp.readsAll I1 _ _ _ (dp_keys isk) rv
  have e := each_vals rv hl2
  have em : (((ks.map fun x => x.2.1).map V.ref).zip (kvs.map fun p => keyTD p.1)).map Prod.snd = kvs.map fun p => keyTD p.1 := zip_snd hl2
  have er : EachIs (fun v (b : V × PyData) => ∃ as, Reads h' v b.2 as) acc'.toList (((ks.map fun x => x.2.1).map V.ref).zip (kvs.map fun p => keyTD p.1)) := PySem.W.readsAll_each Prod.snd (by rw [em]; exact rds)
  have er' := er.mono (R' := fun v (b : V × PyData) => ∃ as, Reads (PySem.W.sortingHeap (h'.push (seqObj "list" acc'.toList.toArray 0)) h'.objs.size acc'.toList) v b.2 as) fun v b ⟨as, r⟩ => ⟨as, PyProof.Rows.Reads.keeps (fun b o e => kpS b o e) r⟩
  have hzl : (((ks.map fun x => x.2.1).map V.ref).zip (kvs.map fun p => keyTD p.1)).length ≤ sizeLine := by
    rw [List.length_zip, List.length_map, List.length_map, List.length_map]; omega
  refine wpAny_bind (wpAny_holding (wpAny_call_entry PyProof.Rows.slot_list_sort ⟨_, hoL, rfl⟩ PyProof.Rows.entry_list_sort
    (PySem.W.list_sort_vals (κ := PySem.W.dataKind (PySem.W.sortingHeap (h'.push (seqObj "list" acc'.toList.toArray 0)) h'.objs.size acc'.toList) (kvs.map fun p => keyTD p.1)) (s := { s with heap := h'.push (seqObj "list" acc'.toList.toArray 0), toks := tk }) hoL
      (PySem.W.SortsAt.data (s := { s with heap := PySem.W.sortingHeap (h'.push (seqObj "list" acc'.toList.toArray 0)) h'.objs.size acc'.toList, toks := tk }) (ds := kvs.map fun p => keyTD p.1) (by
        have q3 := PySem.W.each_map (R := fun v d => ∃ as, Reads (PySem.W.sortingHeap (h'.push (seqObj "list" acc'.toList.toArray 0)) h'.objs.size acc'.toList) v d as) Prod.snd er'
        rw [em] at q3
        exact q3) hal hk (fun d hd => by
          obtain ⟨p, _, rfl⟩ := List.mem_map.mp hd
          rw [keyTD_depth]
          show X.A.units + 2 + 1 < cLine
          omega)) hacl ⟨_, rfl, ?_⟩) (PyProof.Rows.args_list_sort _)))
  have out := PySem.W.sortVals_data false e er' (by rw [em]; exact hal)
  rw [em] at out
  obtain ⟨e', he'⟩ := PyProof.Rows.sortedHeap_at (vs := acc'.toList) (out := (PySem.W.sortVals (PySem.W.dataKind (PySem.W.sortingHeap (h'.push (seqObj "list" acc'.toList.toArray 0)) h'.objs.size acc'.toList) (kvs.map fun p => keyTD p.1)) false acc'.toList acc'.toList).toArray) hoL
  have rv2 := vals_each out
  have hlen : (srtV ((ks.map fun x => x.2.1).map V.ref) (kvs.map fun p => keyTD p.1)).length ≤ sizeLine := by
    unfold srtV
    rw [List.length_map, List.length_mergeSort]
    exact hzl
  refine wpAny_pure ⟨_, rfl, .ref h'.objs.size, upd H h'.objs.size (.lst (srtV ((ks.map fun x => x.2.1).map V.ref) (kvs.map fun p => keyTD p.1))), I1.laid (t' := tk) (fun b u e => ?_) (Nat.le_refl _)
    (show ObjOk X.prog X.w _ _ _ (.lst (srtV ((ks.map fun x => x.2.1).map V.ref) (kvs.map fun p => keyTD p.1))) from ⟨hlen, _, e', rv2, he'⟩), rfl, q _ _ z (I1.hok.fresh (Nat.le_refl _)) isk⟩
  have hb := hfr b u e
  rw [PyProof.Rows.sortedHeap_old (Nat.ne_of_lt hb) (by rw [size_push']; exact Nat.lt_succ_of_lt hb)]
  exact Heap.get?_push_of_some _ e
/-- sorted of a dict's keys -/
def oSortKT : SV → (SV → Prop) → Prop := fun s Q => ∃ ks, dtOf s = some ks ∧ (∀ p ∈ ks, p.1.length ≤ sizeLine) ∧ AllAlike (ks.map fun p => keyTD p.1) ∧ Sortable (ks.map fun p => keyTD p.1) ∧ Q (.own (srtD (ks.map fun p => keyTD p.1)))
theorem wkv_keys {G : Hp} : ∀ {kvs : List (List Key × V)} {ks : List (List Key × PyData)}, WKv G kvs ks → (kvs.map fun p => keyTD p.1) = ks.map fun p => keyTD p.1
  | [], [], _ => rfl
  | p :: ps, q :: qs, h => by
    rw [List.map_cons, List.map_cons, wkv_keys h.2, h.1.1]
  | [], _ :: _, h => h.elim
  | _ :: _, [], h => h.elim
theorem freeze_keys {tw : Tw} {H : Hp} : ∀ {ks : List (List Key × PyData)} {kvs : List (List Key × V)} {bs : List Addr} {G G0 : Hp}, Ok tw G H → WKv G0 kvs ks → (∀ p ∈ ks, p.1.length ≤ sizeLine) → IsKeys H kvs bs → ∃ G2, Ext tw G H G2 H ∧ WDs G2 (bs.map V.ref) (ks.map fun p => keyTD p.1)
  | [], [], _, G, _, o, _, _, h => by cases h; exact ⟨G, o.refl, .nil⟩
  | p :: ks, q :: kvs, _, G, G0, o, w, hz, h => by
    cases h with
    | @cons _ b _ bs h1 h2 =>
      rw [w.1.1] at h1
      obtain ⟨G2, x, wd⟩ := freeze_key o h1 (hz p List.mem_cons_self)
      obtain ⟨G3, y, wds⟩ := freeze_keys x.ok w.2 (fun p' hp' => hz p' (List.mem_cons_of_mem _ hp')) h2
      exact ⟨G3, x.trans y, .cons (WD.mono y.gg _ _ wd) wds⟩
  | [], _ :: _, _, _, _, _, w, _, _ => w.elim
  | _ :: _, [], _, _, _, _, w, _, _ => w.elim
theorem one_sortKT (hc : X.calm = true) (hu : X.A.units + 66 < cLine) : OneD X (.builtin "sorted") oSortKT := by
  refine ⟨_, cr_sortedDT hc hu, fun tw H0 H G1 H1 x vx Q R hx ok hq c => ?_⟩
  obtain ⟨ks, el, hz, ha, hs, hq⟩ := hq
  obtain ⟨b, kvs, rfl, hb, w⟩ := hx.dt ok.gh el
  refine ⟨b, kvs, rfl, hb, by rw [wkv_keys w]; exact ha, by rw [wkv_keys w]; exact hs, fun p bs ln hp isk => ?_⟩
  obtain ⟨G2, x2, wds⟩ := freeze_keys ok w hz isk
  obtain ⟨e2, w2⟩ := put_own (H0 := H0) x2.ok hp (wds_srt wds) (by unfold srtD; rw [List.length_mergeSort, List.length_map, ← w.length]; exact ln)
  rw [wkv_keys w]
  exact c _ _ _ _ hq (w2.from x2) (x2.trans e2)
/-! ### the greatest, the least of a list of ints -/
def oMax : SV → (SV → Prop) → Prop := fun s Q => ∃ ns : List Int, asL s = some (ns.map .int) ∧ 0 < ns.length ∧ ∀ m, m ∈ ns → (∀ y, y ∈ ns → y ≤ m) → Q (.d (.int m))
def oMin : SV → (SV → Prop) → Prop := fun s Q => ∃ ns : List Int, asL s = some (ns.map .int) ∧ 0 < ns.length ∧ ∀ m, m ∈ ns → (∀ y, y ∈ ns → m ≤ y) → Q (.d (.int m))
theorem one_max (hc : X.calm = true) : OneD X (.builtin "max") oMax := by
  refine ⟨_, cr_max hc, fun tw H0 H G1 H1 x vx Q R hx ok hq c => ?_⟩
  obtain ⟨ns, el, hl, hq⟩ := hq
  obtain ⟨a, vs, rfl, e1, w, z⟩ := hx.list ok.gh el
  have ev := w.ints
  subst ev
  exact ⟨a, ns, rfl, .of e1, hl, fun m h1 h2 => c _ _ G1 H1 (hq m h1 h2) (WD.int _) ok.refl⟩
theorem one_min (hc : X.calm = true) : OneD X (.builtin "min") oMin := by
  refine ⟨_, cr_min hc, fun tw H0 H G1 H1 x vx Q R hx ok hq c => ?_⟩
  obtain ⟨ns, el, hl, hq⟩ := hq
  obtain ⟨a, vs, rfl, e1, w, z⟩ := hx.list ok.gh el
  have ev := w.ints
  subst ev
  exact ⟨a, ns, rfl, .of e1, hl, fun m h1 h2 => c _ _ G1 H1 (hq m h1 h2) (WD.int _) ok.refl⟩
/-! ### max(d.values()), the keys tuples -/
def tMaxValsT (td : TE) : TE := fun σ H Q => td σ H fun x H1 => ∃ a kvs is, x = V.ref a ∧ Rd H1 a (.dT kvs) ∧ kvs.map (·.2) = is.map V.int ∧ is ≠ [] ∧ ∀ m, m ∈ is → (∀ j ∈ is, j ≤ m) → Q (.int m) H1
theorem KT.at' {H : Hp} : ∀ {kvs : List (List Key × V)} {xs : List (List Key × Addr × Value)} {i : Nat} {y : List Key × Addr × Value}, KT H kvs xs → xs[i]? = some y → ∃ p, kvs[i]? = some p ∧ RelV p.2 y.2.2
  | p :: ps, q :: qs, 0, y, .cons h t, e => by
    cases e
    exact ⟨p, rfl, h.2.2⟩
  | p :: ps, q :: qs, i + 1, y, .cons h t, e => KT.at' (i := i) t (by simpa using e)
  | [], [], i, y, .nil, e => by simp at e
variable {o : Expr} {p pos apos mpos : Pos} {td : TE}
theorem pe_maxValsT (hc : X.calm = true) (hg : Gl X "max") (hm : X.mg "max" = none) (hd : PE X o td) (hbase : attributeBase o "values" X.env (eval o X.env) = eval o X.env := by rfl) (hline : (apos.endLine == mpos.line) = true := by rfl)
    (hse : starEach [Expr.Call (.Attribute o "values" apos) [] [] mpos] X.env = [(false, eval (Expr.Call (.Attribute o "values" apos) [] [] mpos) X.env)] := by rfl) :
    PE X (.Call (.Name "max" p) [.Call (.Attribute o "values" apos) [] [] mpos] [] pos) (tMaxValsT td) := by
  refine ⟨fun pins s σ H Q I h => ?_⟩
  refine wpAny_Call_Name_kw (ld_blt I hg hm (u := .builtin "max") (by first | rfl | decide +kernel) ?_ (by first | decide +kernel | decide) (by first | decide +kernel | decide))
  rw [hse]
  refine PySem.callWith_builtin1 (wpAny_Call_method0_late hbase hline (thn (hd.run pins s σ H _ I h) fun v s1 ⟨x, H1, I1, r1, a, kvs, is, ex, ha, hv, hne, q⟩ => ?_))
  subst ex
  obtain rfl : v = Value.ref a := r1
  obtain ⟨_, hsys, xs, rel, dof⟩ := dt_rd I1.hok ha
  obtain ⟨es, ep, raw, hsz0, hent⟩ := dof.raw
  obtain ⟨ob, ho, ex, hdat⟩ := id raw
  refine ⟨"dict", "dict.values", F.plainAttrs_dict, F.slot_dict_values, F.type_dict_values, ⟨ob, ho, ex.1⟩, fun b e => ?_, Calls.callWith_builtin rfl (PySem.evalArgs_none ?_)⟩
  · cases e
    exact ⟨ob, ho, ex.2.1⟩
  refine call_meetsIn F.slot_dict_values ⟨ob, ho, ex.1⟩ F.entry_dict_values (F.args_dict_values_1 _) (meets_dict_values_raw a hsys) ⟨⟨es, ep, raw⟩, ?_⟩
  have k1 : ∀ b u, s1.heap.get? b = some u → (s1.heap.push { cls := .type "dict_values", data := .fields #[.ref a] }).get? b = some u := fun b u e => Heap.get?_push_of_some _ e
  have raw1 : (s1.heap.push { cls := .type "dict_values", data := .fields #[.ref a] }).DictRaw a es ep := raw.at fun u e => k1 _ u e
  have hlv : xs.length = is.length := by
    have e1 := congrArg List.length hv
    rw [List.length_map, List.length_map] at e1
    rw [← e1]
    exact (Paired.length rel).symm
  have hlen : 0 < es.size := by
    rw [hsz0, hlv]
    exact List.length_pos_iff.mpr hne
  have hval : ∀ (i : Nat) (v : Value), (∃ y, xs[i]? = some y ∧ v = y.2.2) → ∃ t, v = Value.int (is.getD i 0) t := fun i v ⟨y, hk, ev⟩ => by
    obtain ⟨x, h1, h2⟩ := KT.at' rel hk
    have e1 : (kvs.map (·.2))[i]? = some x.2 := by rw [List.getElem?_map, h1] <;> rfl
    rw [hv, List.getElem?_map] at e1
    obtain ⟨j, hj, e2⟩ := Option.map_eq_some_iff.mp e1
    rw [← e2] at h2
    obtain ⟨t, e3⟩ := h2
    refine ⟨t, ?_⟩
    rw [ev, e3, List.getD_eq_getElem?_getD, hj] <;> rfl
  refine call_max_walk (wpAny_pyIter_values_raw (v := s1.heap.objs.size) (d := a) ⟨_, Heap.get?_push_size _ rfl, rfl, rfl⟩ raw1 ?_)
  have hlt : a < s1.heap.objs.size := Heap.lt_size ho
  have hsz : (s1.heap.push { cls := .type "dict_values", data := .fields #[.ref a] }).objs.size = s1.heap.objs.size + 1 := Heap.size_push _ _
  refine ⟨_, _, _, _, _, _, _, rfl, Walks.valuesH (A := X.A.in1) (xs := xs) (I.ok.hd hc) (s1.heap.push { cls := .type "dict_values", data := .fields #[.ref a] }).objs.size a (by rw [hsz]; exact Nat.ne_of_lt (Nat.lt_succ_of_lt hlt)) es ep (fun i hi => let ⟨y, a1, a2, a3, _⟩ := hent i hi; ⟨y, a1, a2, a3⟩),
    ⟨⟨_, Heap.get?_push_size _ rfl, rfl, rfl⟩, raw1.at fun u e => Heap.get?_push_of_some _ e⟩, fun b hb => ?_, hlen, CmpOf.ints_gt (fun i => is.getD i 0) hval, fun v h' tk hP hk => ?_⟩
  · show b < ((s1.heap.push _).push _).objs.size
    rw [Heap.size_push, Heap.size_push]
    rw [hsz] at hb
    rcases List.mem_cons.mp hb with e | hb
    · rw [e]
      exact Nat.lt_succ_self _
    · have e : b = a := List.mem_singleton.mp hb
      rw [e]
      exact Nat.lt_succ_of_lt (Nat.lt_succ_of_lt hlt)
  · obtain ⟨t, rfl⟩ := hval _ v hP
    obtain ⟨b1, b2⟩ := argBest_gt (fun i => is.getD i 0) (es.size - 1)
    refine ⟨.int _, H1, I1.kept (t' := tk) fun b u e => hk b u (fun hmem => ?_) (Heap.get?_push_of_some _ (k1 b u e)), ⟨t, rfl⟩, q _ ?_ fun j hj => ?_⟩
    · have e1 : b = (s1.heap.push { cls := .type "dict_values", data := .fields #[.ref a] }).objs.size := List.mem_singleton.mp hmem
      have e2 := Heap.lt_size e
      rw [hsz] at e1
      rw [e1] at e2
      exact absurd e2 (Nat.not_lt.mpr (Nat.le_succ _))
    · have hb : argBest (fun i j => decide (is.getD i 0 > is.getD j 0)) (es.size - 1) < is.length := by omega
      rw [List.getD_eq_getElem?_getD, List.getElem?_eq_getElem hb]
      exact List.getElem_mem hb
    · obtain ⟨i, hi, e⟩ := List.mem_iff_getElem.mp hj
      have e2 : is.getD i 0 = j := by rw [List.getD_eq_getElem?_getD, List.getElem?_eq_getElem hi, ← e] <;> rfl
      rw [← e2]
      exact b2 i (by omega)
def oMaxV : SV → (SV → Prop) → Prop := fun s Q => ∃ ks, dtOf s = some ks ∧ ∃ is : List Int, ks.map (·.2) = is.map .int ∧ is ≠ [] ∧ ∀ m, m ∈ is → (∀ j ∈ is, j ≤ m) → Q (.d (.int m))
def dMaxV (te : DT) : DT := fun δ Q Ex => te δ (fun s => oMaxV s Q) Ex
theorem wkv_ints {κ : Type} {G : Hp} : ∀ {kvs : List (κ × V)} {ks : List (κ × PyData)} {is : List Int}, WKv G kvs ks → ks.map (·.2) = is.map .int → kvs.map (·.2) = is.map V.int
  | [], [], [], _, _ => rfl
  | p :: ps, q :: qs, i :: is, h, e => by
    rw [List.map_cons, List.map_cons] at e
    injection e with e1 e2
    have w := h.1.2
    rw [e1] at w
    have ew : p.2 = V.int i := by
      generalize p.2 = v at w
      cases w
      rfl
    rw [List.map_cons, List.map_cons, wkv_ints h.2 e2, ew]
  | [], [], _ :: _, _, e => by simp at e
  | _ :: _, _ :: _, [], _, e => by simp at e
  | [], _ :: _, _, h, _ => h.elim
  | _ :: _, [], _, h, _ => h.elim
variable {E : EK} {te : DT}
theorem de_maxV (hc : X.calm = true) (hm : X.mg "max" = none) (hd : PE X o (lift E te)) (hg : Gl X "max" := by rfl) (hbase : attributeBase o "values" X.env (eval o X.env) = eval o X.env := by rfl) (hline : (apos.endLine == mpos.line) = true := by rfl)
    (hse : starEach [Expr.Call (.Attribute o "values" apos) [] [] mpos] X.env = [(false, eval (Expr.Call (.Attribute o "values" apos) [] [] mpos) X.env)] := by rfl) :
    PE X (.Call (.Name "max" p) [.Call (.Attribute o "values" apos) [] [] mpos] [] pos) (lift E (dMaxV te)) := by
  refine peW (pe_maxValsT hc hg hm hd hbase hline hse) ?_
  rintro σ H R ⟨tw, G0, H0, G, δ, Q, Ex, a, h, q⟩
  refine ⟨tw, G0, H0, G, δ, _, Ex, a, h, fun s v G1 H1 ⟨ks, es, is, e1, e2, hq⟩ r ex => ?_⟩
  obtain ⟨b, kvs, rfl, hb, w⟩ := r.dt ex.gh es
  exact ⟨b, kvs, is, rfl, hb, wkv_ints w e1, e2, fun m h1 h2 => q _ _ G1 H1 (hq m h1 h2) (WD.int _) ex⟩
end
end DL
/-! Pb: searching by breadth, plainly. -/
namespace DL
open PySem PySem.Spec PyProof.Rows L2
/-! ### steps keep the number of caches -/
theorem sum_set : ∀ (ns : List Nat) (j x y : Nat), ns[j]? = some x → (ns.set j y).sum + x = ns.sum + y
  | [], _, _, _, h => by simp at h
  | a :: as, 0, x, y, h => by
    simp only [List.getElem?_cons_zero, Option.some.injEq] at h
    subst h
    simp only [List.set_cons_zero, List.sum_cons]
    omega
  | a :: as, j + 1, x, y, h => by
    have := sum_set as j x y (by simpa using h)
    simp only [List.set_cons_succ, List.sum_cons]
    omega
theorem others_sum {ns : List Nat} {s x : Nat} (h : ns[s]? = some (x + 1)) : (othersN ns s).sum + 1 = ns.sum := by
  have e : ns.getD s 0 = x + 1 := by rw [List.getD_eq_getElem?_getD, h]; rfl
  have := sum_set ns s (x + 1) (ns.getD s 0 - 1) h
  unfold othersN
  omega
theorem dropped_facts {ns : List Nat} {s x : Nat} (h : ns[s]? = some (x + 1)) : (droppedN ns s).length = ns.length ∧ (droppedN ns s).sum = ns.sum := by
  have h1 := others_sum h
  have h2 := othersN_len ns s
  unfold droppedN
  cases e : othersN ns s with
  | nil =>
    rw [e] at h2
    have : 0 < ns.length := Nat.lt_of_le_of_lt (Nat.zero_le _) (List.getElem?_eq_some_iff.mp h).1
    simp at h2
    omega
  | cons a r =>
    rw [e] at h1 h2
    simp only [List.sum_cons] at h1 ⊢
    simp only [List.length_cons] at h2 ⊢
    omega
theorem addAt_sum {f : List Nat} {i c : Nat} (h : i < f.length) : (addAt f i c).sum = f.sum + c := by
  have := sum_set f i (f.getD i 0) (f.getD i 0 + c) (getD_at h)
  unfold addAt
  omega
theorem spread_sum {eff : List Nat} : ∀ (cs : List Nat) (k : Nat) (f : List Nat), (∀ j, k ≤ j → j < k + cs.length → eff.getD j 0 < f.length) → (spread eff cs k f).sum = f.sum + cs.sum
  | [], _, _, _ => by simp [spread]
  | c :: cs, k, f, h => by
    show (spread eff cs (k + 1) (addAt f (eff.getD k 0) c)).sum = _
    rw [spread_sum cs (k + 1) _ fun j h1 h2 => ?_, addAt_sum (h k (Nat.le_refl _) (by simp)), List.sum_cons]
    · omega
    · rw [addAt_len]
      exact h j (by omega) (by simp only [List.length_cons]; omega)
theorem eff_lt {m : Nat} {r : Rl} (hr : r.Ok m) {j : Nat} (h : j < m) : r.eff.getD j 0 < m := by
  have hj : j < r.eff.length := by rw [hr.len]; exact h
  rw [List.getD_eq_getElem?_getD, List.getElem?_eq_getElem hj]
  exact hr.eff _ (List.getElem_mem hj)
theorem performed_facts {m : Nat} {ns : List Nat} {r : Rl} (hr : r.Ok m) (hl : ns.length = m) (h : isPossibleN ns r = true) : (performedN ns r).length = m ∧ (performedN ns r).sum = ns.sum := by
  obtain ⟨x, hx⟩ := possible_at h hr hl
  have ho := others_sum hx
  unfold performedN
  have hsl : (spread r.eff (othersN ns r.s) 0 (List.replicate ns.length 0)).length = m := by rw [spread_len, List.length_replicate, hl]
  refine ⟨by rw [addAt_len, hsl], ?_⟩
  rw [addAt_sum (by rw [hsl]; exact hr.t), spread_sum _ _ _ fun j _ hj => ?_, List.sum_replicate_nat]
  · omega
  · rw [List.length_replicate, hl]
    rw [othersN_len, hl, Nat.zero_add] at hj
    exact eff_lt hr hj
theorem mem_drops {ns l : List Nat} {x : Stp × List Nat} (h : x ∈ dropsN ns l) : ∃ s ∈ l, 0 < ns.getD s 0 ∧ x = (.drop s, droppedN ns s) := by
  obtain ⟨s, hs, e⟩ := List.mem_filterMap.mp h
  split at e
  · rename_i h0
    injection e with e
    exact ⟨s, hs, h0, e.symm⟩
  · cases e
theorem mem_rules {ns : List Nat} : ∀ {rs : List Rl} {i : Nat} {x : Stp × List Nat}, x ∈ rulesN ns rs i → ∃ j r, rs[j]? = some r ∧ isPossibleN ns r = true ∧ x = (.rule (i + j), performedN ns r)
  | r :: rs, i, x, h => by
    rcases List.mem_append.mp h with h | h
    · split at h
      · rename_i hp
        rw [List.mem_singleton] at h
        exact ⟨0, r, rfl, hp, h⟩
      · cases h
    · obtain ⟨j, r', h1, h2, h3⟩ := mem_rules h
      exact ⟨j + 1, r', h1, h2, by rw [h3]; congr 2; omega⟩
theorem moves_facts {p : Pr} (hp : p.Ok) {ns : List Nat} (hl : ns.length = p.m) {x : Stp × List Nat} (h : x ∈ movesN p ns) : x.2.length = p.m ∧ x.2.sum = ns.sum := by
  rcases List.mem_append.mp h with h | h
  · obtain ⟨s, hs, h0, rfl⟩ := mem_drops h
    have hsl : s < ns.length := by
      have := List.mem_range'_1.mp hs
      have := hp.lo
      omega
    have hx : ns[s]? = some ((ns.getD s 0 - 1) + 1) := by rw [getD_at hsl]; congr 1; omega
    have := dropped_facts hx
    exact ⟨this.1.trans hl, this.2⟩
  · obtain ⟨j, r, h1, h2, rfl⟩ := mem_rules h
    exact performed_facts (hp.rules r (List.mem_of_getElem? h1)) hl h2
/-! ### how many configurations there are -/
def code (b : Nat) : List Nat → Nat
  | [] => 0
  | n :: ns => n + b * code b ns
theorem code_lt {b : Nat} : ∀ {ns : List Nat}, (∀ n ∈ ns, n < b) → code b ns < b ^ ns.length
  | [], _ => by simp [code]
  | n :: ns, h => by
    have h1 := h n List.mem_cons_self
    have h2 := code_lt fun x hx => h x (List.mem_cons_of_mem _ hx)
    rw [List.length_cons, Nat.pow_succ, code]
    have h3 : b * code b ns + b ≤ b ^ ns.length * b := by
      have : b * (code b ns + 1) ≤ b * b ^ ns.length := Nat.mul_le_mul_left _ h2
      rw [Nat.mul_comm (b ^ _) b]
      rw [Nat.mul_add] at this
      omega
    omega
theorem code_inj {b : Nat} : ∀ {ns ms : List Nat}, ns.length = ms.length → (∀ n ∈ ns, n < b) → (∀ n ∈ ms, n < b) → code b ns = code b ms → ns = ms
  | [], [], _, _, _, _ => rfl
  | n :: ns, k :: ms, hl, h1, h2, e => by
    have a1 := h1 n List.mem_cons_self
    have a2 := h2 k List.mem_cons_self
    unfold code at e
    have e1 : n = k := by
      have q := congrArg (· % b) e
      simp only [Nat.add_mul_mod_self_left, Nat.mod_eq_of_lt a1, Nat.mod_eq_of_lt a2] at q
      exact q
    subst e1
    have e2 : code b ns = code b ms := Nat.eq_of_mul_eq_mul_left (by omega) (Nat.add_left_cancel e)
    rw [code_inj (by simpa using hl) (fun x hx => h1 x (List.mem_cons_of_mem _ hx)) (fun x hx => h2 x (List.mem_cons_of_mem _ hx)) e2]
  | [], _ :: _, hl, _, _, _ => by simp at hl
  | _ :: _, [], hl, _, _, _ => by simp at hl
theorem le_sum : ∀ {ns : List Nat} {n : Nat}, n ∈ ns → n ≤ ns.sum
  | a :: ns, n, h => by
    rw [List.sum_cons]
    rcases List.mem_cons.mp h with rfl | h
    · omega
    · have := le_sum h
      omega
/-- lists of m numbers with the sum S -/
def Confs (m S : Nat) (l : List (List Nat)) : Prop := ∀ ns ∈ l, ns.length = m ∧ ns.sum = S
theorem confs_bound {m S : Nat} {l : List (List Nat)} (h : Confs m S l) (n : l.Nodup) : l.length ≤ (S + 1) ^ m := by
  have hb : ∀ ns ∈ l, ∀ x ∈ ns, x < S + 1 := fun ns hns x hx => by
    have := le_sum hx
    have := (h ns hns).2
    omega
  have h1 : (l.map (code (S + 1))).Nodup := by
    refine List.Pairwise.map _ ?_ (List.Pairwise.and_mem.mp n)
    rintro a b ⟨ha, hb', hne⟩ e
    exact hne (code_inj ((h a ha).1.trans (h b hb').1.symm) (hb a ha) (hb b hb') e)
  have := nodup_len ((S + 1) ^ m) (l.map (code (S + 1))) h1 fun x hx => by
    obtain ⟨ns, hns, rfl⟩ := List.mem_map.mp hx
    have q := code_lt (hb ns hns)
    rw [(h ns hns).1] at q
    exact q
  rwa [List.length_map] at this
/-! ### the search -/
structure Bf where
  known : List (List Nat × Nat)
  bef : List (List Nat × Stp × List Nat)
  next : List (List Nat)
def distOf (known : List (List Nat × Nat)) (c : List Nat) : Nat := ((known.find? fun x => decide (x.1 = c)).map (·.2)).getD 0
def bfStep (here : List Nat) (s : Bf) (x : Stp × List Nat) : Bf := if x.2 ∈ s.known.map (·.1) then s else ⟨s.known ++ [(x.2, distOf s.known here + 1)], s.bef ++ [(x.2, x.1, here)], s.next ++ [x.2]⟩
def bfHere (p : Pr) (s : Bf) (here : List Nat) : Bf := (movesN p here).foldl (bfStep here) s
def bfLevel (p : Pr) (s : Bf) : Bf := s.next.foldl (bfHere p) { s with next := [] }
def bfRun (p : Pr) : Nat → Bf → Bf
  | 0, s => s
  | k + 1, s => if s.next = [] then s else bfRun p k (bfLevel p s)
def bfInit (start : List Nat) : Bf := ⟨[(start, 0)], [], [start]⟩
def bfMu (B : Nat) (s : Bf) : Nat := 2 * (B - s.known.length) + (if s.next = [] then 0 else 1)
def bfB (p : Pr) (start : List Nat) : Nat := (start.sum + 1) ^ p.m
def bfs (p : Pr) (start : List Nat) : Bf := bfRun p (2 * bfB p start + 1) (bfInit start)
/-- what holds at every time -/
structure BfOk (m S : Nat) (s : Bf) : Prop where
  conf : Confs m S (s.known.map (·.1))
  nd : (s.known.map (·.1)).Nodup
  nx : ∀ c ∈ s.next, c ∈ s.known.map (·.1)
  bl : s.bef.length ≤ s.known.length
  nl : s.next.length ≤ s.known.length
  bk : ∀ c ∈ s.bef.map (·.1), c ∈ s.known.map (·.1)
theorem BfOk.len {m S : Nat} {s : Bf} (h : BfOk m S s) : s.known.length ≤ (S + 1) ^ m := by
  have := confs_bound h.conf h.nd
  rwa [List.length_map] at this
theorem BfOk.step {m S : Nat} {s : Bf} (h : BfOk m S s) {here : List Nat} {x : Stp × List Nat} (hx : x.2.length = m ∧ x.2.sum = S) : BfOk m S (bfStep here s x) := by
  unfold bfStep
  split
  · exact h
  · rename_i hn
    refine ⟨?_, ?_, ?_, by have := h.bl; simp only [List.length_append, List.length_cons, List.length_nil]; omega, by have := h.nl; simp only [List.length_append, List.length_cons, List.length_nil]; omega, fun c hc => ?_⟩
    · intro ns hns
      simp only [List.map_append, List.map_cons, List.map_nil, List.mem_append, List.mem_singleton] at hns
      rcases hns with hns | rfl
      · exact h.conf ns hns
      · exact hx
    · simp only [List.map_append, List.map_cons, List.map_nil]
      rw [List.nodup_append]
      refine ⟨h.nd, by simp, fun a ha b hb e => ?_⟩
      rw [List.mem_singleton] at hb
      subst hb
      subst e
      exact hn ha
    · intro c hc
      simp only [List.map_append, List.map_cons, List.map_nil, List.mem_append, List.mem_singleton] at hc ⊢
      rcases hc with hc | rfl
      · exact .inl (h.nx c hc)
      · exact .inr rfl
    · simp only [List.map_append, List.map_cons, List.map_nil, List.mem_append, List.mem_singleton] at hc ⊢
      rcases hc with hc | rfl
      · exact .inl (h.bk c hc)
      · exact .inr rfl
/-- what a part of the search only adds to -/
structure BfLe (s s' : Bf) : Prop where
  pre : ∃ l : List (List Nat × Nat × Stp × List Nat), s'.known = s.known ++ l.map (fun x => (x.1, x.2.1)) ∧ s'.bef = s.bef ++ l.map (fun x => (x.1, x.2.2)) ∧ s'.next = s.next ++ l.map (·.1)
theorem BfLe.refl (s : Bf) : BfLe s s := ⟨[], by simp, by simp, by simp⟩
theorem BfLe.trans {a b c : Bf} (h : BfLe a b) (k : BfLe b c) : BfLe a c := by
  obtain ⟨l, h1, h2, h3⟩ := h.pre
  obtain ⟨l', k1, k2, k3⟩ := k.pre
  exact ⟨l ++ l', by rw [k1, h1, List.map_append, List.append_assoc], by rw [k2, h2, List.map_append, List.append_assoc], by rw [k3, h3, List.map_append, List.append_assoc]⟩
theorem BfLe.step (here : List Nat) (s : Bf) (x : Stp × List Nat) : BfLe s (bfStep here s x) := by
  unfold bfStep
  split
  · exact .refl s
  · exact ⟨[(x.2, distOf s.known here + 1, x.1, here)], rfl, rfl, rfl⟩
theorem fold_step {m S : Nat} {here : List Nat} : ∀ (l : List (Stp × List Nat)) (s : Bf), BfOk m S s → (∀ x ∈ l, x.2.length = m ∧ x.2.sum = S) → BfOk m S (l.foldl (bfStep here) s) ∧ BfLe s (l.foldl (bfStep here) s)
  | [], s, h, _ => ⟨h, .refl s⟩
  | x :: l, s, h, hx => by
    have h1 := h.step (here := here) (hx x List.mem_cons_self)
    have h2 := fold_step (here := here) l _ h1 fun y hy => hx y (List.mem_cons_of_mem _ hy)
    exact ⟨h2.1, (BfLe.step here s x).trans h2.2⟩
theorem bfHere_ok {p : Pr} (hp : p.Ok) {S : Nat} {s : Bf} (h : BfOk p.m S s) {here : List Nat} (hh : here.length = p.m ∧ here.sum = S) : BfOk p.m S (bfHere p s here) ∧ BfLe s (bfHere p s here) :=
  fold_step _ _ h fun x hx => by
    have := moves_facts hp hh.1 hx
    exact ⟨this.1, this.2.trans hh.2⟩
theorem fold_here {p : Pr} (hp : p.Ok) {S : Nat} : ∀ (l : List (List Nat)) (s : Bf), BfOk p.m S s → Confs p.m S l → BfOk p.m S (l.foldl (bfHere p) s) ∧ BfLe s (l.foldl (bfHere p) s)
  | [], s, h, _ => ⟨h, .refl s⟩
  | c :: l, s, h, hc => by
    have h1 := bfHere_ok hp h (hc c List.mem_cons_self)
    have h2 := fold_here hp l _ h1.1 fun y hy => hc y (List.mem_cons_of_mem _ hy)
    exact ⟨h2.1, h1.2.trans h2.2⟩
theorem BfOk.next {m S : Nat} {s : Bf} (h : BfOk m S s) : Confs m S s.next := fun c hc => h.conf c (h.nx c hc)
theorem BfOk.clear {m S : Nat} {s : Bf} (h : BfOk m S s) : BfOk m S { s with next := [] } := ⟨h.conf, h.nd, (fun _ z => nomatch z), h.bl, Nat.zero_le _, h.bk⟩
theorem bfLevel_ok {p : Pr} (hp : p.Ok) {S : Nat} {s : Bf} (h : BfOk p.m S s) : BfOk p.m S (bfLevel p s) ∧ BfLe { s with next := [] } (bfLevel p s) := fold_here hp _ _ h.clear h.next
theorem bfLevel_mu {p : Pr} (hp : p.Ok) {S : Nat} {s : Bf} (h : BfOk p.m S s) (hn : s.next ≠ []) : bfMu ((S + 1) ^ p.m) (bfLevel p s) < bfMu ((S + 1) ^ p.m) s := by
  obtain ⟨h1, ⟨l, e1, _, e3⟩⟩ := bfLevel_ok hp h
  have b1 := h1.len
  have b0 := h.len
  unfold bfMu
  rw [if_neg hn]
  simp only [List.nil_append] at e3
  rw [e1, List.length_append, List.length_map] at b1 ⊢
  rw [e3]
  cases l with
  | nil => simp
  | cons a l =>
    simp only [List.length_cons, List.map_cons, reduceCtorEq, if_false] at b1 ⊢
    omega
theorem bfRun_end {p : Pr} {s : Bf} (h : s.next = []) : ∀ k, bfRun p k s = s
  | 0 => rfl
  | k + 1 => by unfold bfRun; rw [if_pos h]
theorem bfRun_go {p : Pr} {s : Bf} (h : s.next ≠ []) (k : Nat) : bfRun p (k + 1) s = bfRun p k (bfLevel p s) := by
  rw [bfRun, if_neg h]
/-- the state between two levels, on the way to R -/
def BfAt (p : Pr) (S : Nat) (R s : Bf) : Prop := BfOk p.m S s ∧ ∃ f, bfMu ((S + 1) ^ p.m) s ≤ f ∧ bfRun p f s = R
theorem BfAt.init {p : Pr} {start : List Nat} (hl : start.length = p.m) : BfAt p start.sum (bfs p start) (bfInit start) := by
  refine ⟨⟨fun ns hns => ?_, by simp [bfInit], fun c hc => hc, by simp [bfInit], by simp [bfInit], (fun _ z => nomatch z)⟩, _, ?_, rfl⟩
  · have : ns = start := by simpa [bfInit] using hns
    subst this
    exact ⟨hl, rfl⟩
  · unfold bfMu bfB
    simp only [bfInit, List.length_cons, List.length_nil, reduceCtorEq, if_false]
    omega
theorem BfAt.level {p : Pr} (hp : p.Ok) {S : Nat} {R s : Bf} (h : BfAt p S R s) (hn : s.next ≠ []) : BfAt p S R (bfLevel p s) ∧ bfMu ((S + 1) ^ p.m) (bfLevel p s) < bfMu ((S + 1) ^ p.m) s := by
  obtain ⟨h1, f, h2, h3⟩ := h
  have hm := bfLevel_mu hp h1 hn
  refine ⟨⟨(bfLevel_ok hp h1).1, ?_⟩, hm⟩
  cases f with
  | zero => omega
  | succ f => exact ⟨f, by omega, by rw [← bfRun_go hn]; exact h3⟩
theorem BfAt.end {p : Pr} {S : Nat} {R s : Bf} (h : BfAt p S R s) (hn : s.next = []) : s = R := by
  obtain ⟨h1, f, h2, h3⟩ := h
  rw [← h3, bfRun_end hn]
theorem bfs_ok {p : Pr} (hp : p.Ok) {start : List Nat} (hl : start.length = p.m) : BfOk p.m start.sum (bfs p start) ∧ (bfs p start).next = [] := by
  have go : ∀ (k : Nat) (s : Bf), bfMu ((start.sum + 1) ^ p.m) s ≤ k → BfOk p.m start.sum s → BfOk p.m start.sum (bfRun p k s) ∧ (bfRun p k s).next = [] := by
    intro k
    induction k with
    | zero =>
      intro s h1 h2
      refine ⟨h2, ?_⟩
      by_cases e : s.next = []
      · exact e
      · unfold bfMu at h1
        rw [if_neg e] at h1
        omega
    | succ k ih =>
      intro s h1 h2
      by_cases e : s.next = []
      · rw [bfRun_end e]
        exact ⟨h2, e⟩
      · rw [bfRun_go e]
        have := bfLevel_mu hp h2 e
        exact ih _ (by omega) (bfLevel_ok hp h2).1
  obtain ⟨h1, f, h2, h3⟩ := BfAt.init hl
  rw [← h3]
  exact go f _ h2 h1
/-! ### as dicts -/
def natsK (ns : List Nat) : List Key := ns.map fun n : Nat => .inl (n : Int)
theorem natsK_d (ns : List Nat) : keyTD (natsK ns) = natsD ns := by
  unfold keyTD natsK natsD
  rw [List.map_map]
  rfl
theorem natsK_inj {a b : List Nat} (h : natsK a = natsK b) : a = b := by
  unfold natsK at h
  have hf : Function.Injective (fun n : Nat => (Sum.inl (n : Int) : Key)) := fun x y e => by
    have := Sum.inl.inj e
    omega
  exact List.map_inj_right (fun x y e => hf e) |>.mp h
def distKV (known : List (List Nat × Nat)) : List (List Key × PyData) := known.map fun x => (natsK x.1, .int (x.2 : Int))
def befKV (bef : List (List Nat × Stp × List Nat)) : List (List Key × PyData) := bef.map fun x => (natsK x.1, .tuple [x.2.1.enc, natsD x.2.2])
theorem dist_get (known : List (List Nat × Nat)) (c : List Nat) : getD (distKV known) (natsK c) = ((known.find? fun x => decide (x.1 = c)).map fun x => PyData.int (x.2 : Int)) := by
  induction known with
  | nil => rfl
  | cons x xs ih =>
    unfold getD distKV at ih ⊢
    rw [List.map_cons, List.find?_cons, List.find?_cons]
    by_cases e : x.1 = c
    · rw [decide_eq_true e, decide_eq_true (by rw [e])]
      rfl
    · rw [decide_eq_false e, decide_eq_false fun z => e (natsK_inj z)]
      exact ih
theorem find_mem {known : List (List Nat × Nat)} {c : List Nat} : (known.find? fun x => decide (x.1 = c)).isSome = decide (c ∈ known.map (·.1)) := by
  induction known with
  | nil => rfl
  | cons x xs ih =>
    rw [List.find?_cons, List.map_cons]
    by_cases e : x.1 = c
    · rw [decide_eq_true e, decide_eq_true (by rw [e]; exact List.mem_cons_self)]
      rfl
    · rw [decide_eq_false e]
      rw [ih]
      by_cases h : c ∈ xs.map (·.1)
      · rw [decide_eq_true h, decide_eq_true (List.mem_cons_of_mem _ h)]
      · rw [decide_eq_false h, decide_eq_false]
        intro z
        rcases List.mem_cons.mp z with z | z
        · exact e z.symm
        · exact h z
theorem dist_in (known : List (List Nat × Nat)) (c : List Nat) : (getD (distKV known) (natsK c)).isSome = decide (c ∈ known.map (·.1)) := by
  rw [dist_get, Option.isSome_map, find_mem]
theorem dist_at {known : List (List Nat × Nat)} {c : List Nat} (h : c ∈ known.map (·.1)) : getD (distKV known) (natsK c) = some (.int (distOf known c : Int)) := by
  have h1 := find_mem (known := known) (c := c)
  rw [decide_eq_true h] at h1
  obtain ⟨x, hx⟩ := Option.isSome_iff_exists.mp h1
  rw [dist_get]
  unfold distOf
  rw [hx]
  rfl
theorem dist_put {known : List (List Nat × Nat)} {c : List Nat} (h : c ∉ known.map (·.1)) (d : Nat) : putD (distKV known) (natsK c) (.int (d : Int)) = distKV (known ++ [(c, d)]) := by
  rw [putD_new]
  · unfold distKV
    rw [List.map_append]
    rfl
  · intro z
    obtain ⟨y, hy, e⟩ := List.mem_map.mp z
    obtain ⟨x, hx, rfl⟩ := List.mem_map.mp hy
    exact h (List.mem_map.mpr ⟨x, hx, natsK_inj e⟩)
end DL
/-! DL 21: the searching object: its making. -/
namespace DL
open PySem PySem.Spec PyProof.Rows L2
/-- an object of one's own -/
structure Own (tw : Tw) (H0 G H : Hp) (u : Addr) (o : HO) : Prop where
  at_ : H u = some o
  g : G u = none
  fr : Fr tw H0 u
/-- it may be written -/
def Wr : HO → Prop
  | .lst _ => True
  | .dT _ => True
  | .ins _ _ _ => True
  | _ => False
theorem Wr.nl {o : HO} (h : Wr o) : NL o := by cases o <;> first | trivial | exact h.elim
theorem Wr.ext {o : HO} (h : Wr o) : ∀ φ, o ≠ .ext φ := fun φ z => by subst z; exact h
theorem Wr.tup {o : HO} (h : Wr o) : ∀ φ, o ≠ .tup φ := fun φ z => by subst z; exact h
section
variable {tw : Tw} {G0 H0 G H G' H' : Hp} {u u' : Addr} {o o' : HO}
theorem Own.go (h : Own tw H0 G H u o) (nl : NL o) (e : Ext tw G H G' H') : Own tw H0 G' H' u o := ⟨e.hh u o h.at_ h.fr.1 nl.nt, stays_none e h.at_ h.g nl, h.fr⟩
theorem Own.put (h : Own tw H0 G H u o) : Own tw H0 G (upd H u o') u o' := ⟨upd_same, h.g, h.fr⟩
theorem Own.off (h : Own tw H0 G H u o) (n : u ≠ u') : Own tw H0 G (upd H u' o') u o := ⟨by rw [upd_ne n]; exact h.at_, h.g, h.fr⟩
theorem Own.ext (h : Own tw H0 G H u o) (w : Wr o) (x : Ext tw G0 H0 G H) : Ext tw G0 H0 G (upd H u o') :=
  x.growO h.fr h.g (fun φ z => w.ext φ (Option.some.inj (h.at_.symm.trans z))) (fun φ z => w.tup φ (Option.some.inj (h.at_.symm.trans z)))
theorem Own.ne (h : Own tw H0 G H u o) (k : Own tw H0 G H u' o') (n : o ≠ o') : u ≠ u' := fun z => by
  subst z
  exact n (Option.some.inj (h.at_.symm.trans k.at_))
theorem own_new (x : Ext tw G0 H0 G H) (hp : H u = none) : Own tw H0 G (upd H u o) u o ∧ Ext tw G0 H0 G (upd H u o) := ⟨⟨upd_same, g_none x.ok hp, x.free (fr_none x.tk hp)⟩, x.trans (x.ok.putH hp)⟩
end
/-- the object's fields -/
abbrev sFs (vst : V) (d b : Addr) : List (Str × V) := [("start", vst), ("distances", .ref d), ("before", .ref b)]
/-- while it is made -/
structure BI (tw : Tw) (C dx : Addr) (G0 H0 : Hp) (a d b w f : Addr) (vst : V) (vw : List V) (s : Bf) (G H : Hp) : Prop where
  x : Ext tw G0 H0 G H
  sa : Own tw H0 G H a (.ins C dx (sFs vst d b))
  sd : ∃ kv, Own tw H0 G H d (.dT kv) ∧ WKv G kv (distKV s.known)
  sb : ∃ kv, Own tw H0 G H b (.dT kv) ∧ WKv G kv (befKV s.bef)
  sw : Own tw H0 G H w (.lst vw)
  sf : ∃ vs, Own tw H0 G H f (.lst vs) ∧ WDs G vs (s.next.map natsD)
  db : d ≠ b
  wf : w ≠ f
section
variable {tw : Tw} {C dx : Addr} {G0 H0 : Hp} {a d b w f : Addr} {vst : V} {vw : List V} {s : Bf} {G H G' H' : Hp}
theorem BI.go (h : BI tw C dx G0 H0 a d b w f vst vw s G H) (e : Ext tw G H G' H') : BI tw C dx G0 H0 a d b w f vst vw s G' H' := by
  obtain ⟨k1, d1, d2⟩ := h.sd
  obtain ⟨k2, b1, b2⟩ := h.sb
  obtain ⟨k4, f1, f2⟩ := h.sf
  exact ⟨h.x.trans e, h.sa.go trivial e, ⟨k1, d1.go trivial e, d2.mono e.gg⟩, ⟨k2, b1.go trivial e, b2.mono e.gg⟩, h.sw.go trivial e, ⟨k4, f1.go trivial e, WDs.mono e.gg _ _ f2⟩, h.db, h.wf⟩
end
/-! ### the readings -/
def rNotIn : R2 := fun y x H Q => ∃ a o, x = .ref a ∧ DGet H a y o ∧ Q (.bl (!o.isSome)) H
section
variable (K : PySem.W.Frag) (E : XK) (sf sm : Sp)
def tFd (f : Str) : TE := tFld K (tVar 0) f
def tInner : TS := tIfS (tTest (tOp rNotIn (tVar 8) (tFd K "distances")))
  (tSeq (sDPut (tFd K "distances") (tVar 8) (tOp (rI0 fun i j => .int (i + j)) (tDGet (tFd K "distances") (tVar 6)) (tC (.int 1))))
  (tSeq (sDPut (tFd K "before") (tVar 8) (tTup (tCons (tVar 7) (tCons (tVar 6) tNil))))
  (tDrop (tBM K "list" rAppend (tVar 5) (tCons (tVar 8) tNil))))) tNext
def tHere : TS := tFor (iList K (tCall sm [] E (tCons (tVar 1) (tCons (tVar 6) tNil)))) (gTup K 2 (gCons (gName 7) (gCons (gName 8) gNil))) (tInner K)
def tLevel : TS := tSeq (tAsg (tLst tNil) (gName 5)) (tSeq (tFor (iList K (tVar 4)) (gName 6) (tHere K E sm)) (tAsg (tVar 5) (gName 4)))
def tInit : TS := tSeq (tAsg (tCall sf [] E (tCons (tVar 1) (tCons (tVar 2) tNil))) (gName 3))
  (tSeq (sFld K (tVar 0) (tVar 3) "start")
  (tSeq (sFld K (tVar 0) (tDispT (tVar 3) (tC (.int 0))) "distances")
  (tSeq (sFld K (tVar 0) tDNewT "before")
  (tSeq (tAsg (tLst (tCons (tVar 3) tNil)) (gName 4))
  (tWhile (fun σ H Q => tVar 4 σ H fun x H' => ∃ k, TruV K x H' k ∧ Q k H') (tLevel K E sm))))))
end
/-- what is known of the class -/
structure SCls (K : PySem.W.Frag) (C : Addr) : Prop where
  cl : Cls K C
  n1 : NoAttr K C "start"
  n2 : NoAttr K C "distances"
  n3 : NoAttr K C "before"
section
variable {K : PySem.W.Frag} {tw : Tw} {C dx : Addr} {G0 H0 : Hp} {a d b w f : Addr} {vst : V} {vw : List V} {s : Bf} {G H G' H' : Hp}
theorem natsK_len (ns : List Nat) : (natsK ns).length = ns.length := List.length_map _
theorem wd_natsK {G : Hp} {v : V} {ns : List Nat} (h : WD G v (natsD ns)) : WD G v (keyTD (natsK ns)) := by rw [natsK_d]; exact h
theorem distKV_len (k : List (List Nat × Nat)) : (distKV k).length = k.length := List.length_map _
theorem befKV_len (k : List (List Nat × Stp × List Nat)) : (befKV k).length = k.length := List.length_map _
/-- one turn of the innermost loop -/
theorem inner_ok (cl : SCls K C) {m S : Nat} (ok : BfOk m S s) (hB : (S + 1) ^ m ≤ 60000) {here : List Nat} {st : Stp} {th : List Nat} {vp vn vh vs vt : V} (bi : BI tw C dx G0 H0 a d b w f vst vw s G H)
    (hh : here ∈ s.known.map (·.1)) (hl : here.length ≤ 100) (wh : WD G vh (natsD here)) (ws : WD G vs st.enc) (wt : WD G vt (natsD th)) {D : Ends}
    (done : ∀ G' H', BI tw C dx G0 H0 a d b w f vst vw (bfStep here s (st, th)) G' H' → Same G G' → (∀ u o, H u = some o → u ≠ d → u ≠ b → u ≠ f → H' u = some o) → D.nx [some (.ref a), some vp, some vn, some vst, some (.ref w), some (.ref f), some vh, some vs, some vt] H') :
    tInner K D [some (.ref a), some vp, some vn, some vst, some (.ref w), some (.ref f), some vh, some vs, some vt] H := by
  obtain ⟨kb, rfl, gk⟩ := (wd_natsK wt).keyT
  obtain ⟨kv, d1, d2⟩ := bi.sd
  have ht : H kb = some (.tup ((natsK th).map kV)) := bi.x.gh _ _ gk
  refine ⟨_, rfl, _, rfl, a, C, dx, _, .ref d, rfl, bi.sa.at_, cl.cl, cl.n2, rfl, d, _, rfl, DGet.t d1.at_ ht, _, rfl, ?_⟩
  have hiff : (valV kv (natsK th)).isSome = decide (th ∈ s.known.map (·.1)) := by
    rw [← dist_in]
    rcases d2.val (natsK th) with ⟨z1, z2⟩ | ⟨v, dd, z1, z2, wd⟩ <;> rw [z1, z2] <;> rfl
  rw [hiff]
  unfold bfStep at done
  by_cases hm : th ∈ s.known.map (·.1)
  · rw [decide_eq_true hm]
    rw [if_pos hm] at done
    show tNext D _ _
    exact done G H bi (fun _ _ h => h) (fun _ _ h _ _ _ => h)
  · rw [decide_eq_false hm]
    rw [if_neg hm] at done
    show (if (!false) = true then _ else _)
    rw [if_pos (by decide)]
    have dlt : kv.length < sizeLine := by
      have := ok.len
      rw [d2.length, distKV_len, sizeLine_eq]
      omega
    -- self.distances[there] = self.distances[here] + 1
    obtain ⟨kh, rfl, gh⟩ := (wd_natsK wh).keyT
    have hh2 : H kh = some (.tup ((natsK here).map kV)) := bi.x.gh _ _ gh
    have gv : ∃ v, valV kv (natsK here) = some v ∧ WD G v (.int (distOf s.known here : Int)) := by
      rcases d2.val (natsK here) with ⟨z1, z2⟩ | ⟨v, dd, z1, z2, wd⟩
      · rw [dist_at hh] at z2; cases z2
      · rw [dist_at hh] at z2
        cases z2
        exact ⟨v, z1, wd⟩
    obtain ⟨v, gv1, gv2⟩ := gv
    cases gv2
    refine ⟨_, rfl, a, C, dx, _, .ref d, rfl, bi.sa.at_, cl.cl, cl.n2, rfl, .ref kh, rfl, d, .int (distOf s.known here : Int), rfl, gv1 ▸ DGet.t d1.at_ hh2, (distOf s.known here : Int), 1, rfl, rfl, ?_⟩
    refine ⟨_, rfl, a, C, dx, _, .ref d, rfl, bi.sa.at_, cl.cl, cl.n2, rfl, .ref kb, rfl, d, _, rfl, DPut.t d1.at_ ht dlt, ?_⟩
    have x1 := d1.ext (o' := .dT (putK kv (natsK th) (.int ((distOf s.known here : Int) + 1)))) trivial bi.x
    have nad : a ≠ d := bi.sa.ne d1 (fun z => by cases z)
    obtain ⟨kb2, b1, b2⟩ := bi.sb
    have w1 := bi.sw
    obtain ⟨vf, f1, f2⟩ := bi.sf
    have nbd : b ≠ d := bi.db.symm
    have nwd : w ≠ d := w1.ne d1 (fun z => by cases z)
    have nfd : f ≠ d := f1.ne d1 (fun z => by cases z)
    have sa1 := bi.sa.off (o' := .dT (putK kv (natsK th) (.int ((distOf s.known here : Int) + 1)))) nad
    have b11 := b1.off (o' := .dT (putK kv (natsK th) (.int ((distOf s.known here : Int) + 1)))) nbd
    have w11 := w1.off (o' := .dT (putK kv (natsK th) (.int ((distOf s.known here : Int) + 1)))) nwd
    have f11 := f1.off (o' := .dT (putK kv (natsK th) (.int ((distOf s.known here : Int) + 1)))) nfd
    have d11 := d1.put (o' := .dT (putK kv (natsK th) (.int ((distOf s.known here : Int) + 1))))
    have wd1 : WKv G (putK kv (natsK th) (.int ((distOf s.known here : Int) + 1))) (distKV (s.known ++ [(th, distOf s.known here + 1)])) := by
      rw [← dist_put hm]
      exact d2.put _ (by
        have e : ((distOf s.known here : Int) + 1) = ((distOf s.known here + 1 : Nat) : Int) := rfl
        rw [e]
        exact .int _)
    generalize hH1 : upd H d (.dT (putK kv (natsK th) (.int ((distOf s.known here : Int) + 1)))) = H1 at x1 sa1 b11 w11 f11 d11 ⊢
    -- self.before[there] = (step, here)
    refine ⟨_, rfl, _, rfl, ?_⟩
    refine ⟨by rw [sizeLine_eq]; exact Nat.le_of_ble_eq_true rfl, fun q hq => ?_⟩
    have wtp : WDs G [vs, .ref kh] [st.enc, natsD here] := .cons ws (.cons wh .nil)
    obtain ⟨xq, wq⟩ := put_tup x1.ok hq wtp (by rw [sizeLine_eq]; exact Nat.le_of_ble_eq_true rfl)
    have sa2 := sa1.go trivial xq
    have b12 := b11.go trivial xq
    have w12 := w11.go trivial xq
    have f12 := f11.go trivial xq
    have d12 := d11.go trivial xq
    have x2 := x1.trans xq
    generalize hG2 : upd G q (.tup [vs, .ref kh]) = G2 at xq wq sa2 b12 w12 f12 d12 x2
    generalize hH2 : upd H1 q (.tup [vs, .ref kh]) = H2 at xq wq sa2 b12 w12 f12 d12 x2 ⊢
    have ht2 : H2 kb = some (.tup ((natsK th).map kV)) := x2.gh _ _ (xq.gg _ _ gk)
    have blt : kb2.length < sizeLine := by
      have := ok.len
      have := ok.bl
      rw [b2.length, befKV_len, sizeLine_eq]
      omega
    refine ⟨_, rfl, a, C, dx, _, .ref b, rfl, sa2.at_, cl.cl, cl.n3, rfl, .ref kb, rfl, b, _, rfl, DPut.t b12.at_ ht2 blt, ?_⟩
    have x3 := b12.ext (o' := .dT (putK kb2 (natsK th) (.ref q))) trivial x2
    have nab : a ≠ b := sa2.ne b12 (fun z => by cases z)
    have nwb : w ≠ b := w12.ne b12 (fun z => by cases z)
    have nfb : f ≠ b := f12.ne b12 (fun z => by cases z)
    have sa3 := sa2.off (o' := .dT (putK kb2 (natsK th) (.ref q))) nab
    have w13 := w12.off (o' := .dT (putK kb2 (natsK th) (.ref q))) nwb
    have f13 := f12.off (o' := .dT (putK kb2 (natsK th) (.ref q))) nfb
    have d13 := d12.off (o' := .dT (putK kb2 (natsK th) (.ref q))) bi.db
    have b13 := b12.put (o' := .dT (putK kb2 (natsK th) (.ref q)))
    have wb : WKv G2 (putK kb2 (natsK th) (.ref q)) (befKV (s.bef ++ [(th, st, here)])) := by
      have e : befKV (s.bef ++ [(th, st, here)]) = putD (befKV s.bef) (natsK th) (.tuple [st.enc, natsD here]) := by
        rw [putD_new]
        · unfold befKV
          rw [List.map_append]
          rfl
        · intro z
          obtain ⟨y, hy, e⟩ := List.mem_map.mp z
          obtain ⟨x, hx, rfl⟩ := List.mem_map.mp hy
          have e2 : x.1 = th := natsK_inj e
          exact hm (ok.bk _ (List.mem_map.mpr ⟨x, hx, e2⟩))
      rw [e]
      exact (b2.mono xq.gg).put _ wq
    generalize hH3 : upd H2 b (.dT (putK kb2 (natsK th) (.ref q))) = H3 at x3 sa3 w13 f13 d13 b13 ⊢
    -- further.append(there)
    have flt : vf.length < sizeLine := by
      have := ok.len
      have := ok.nl
      rw [f2.length, List.length_map, sizeLine_eq]
      omega
    refine ⟨.ref f, rfl, Rep.tyL f13.at_, .ref kb, rfl, f, _, _, rfl, rfl, f13.at_, flt, ?_⟩
    have x4 := f13.ext (o' := .lst (vf ++ [.ref kb])) trivial x3
    have naf : a ≠ f := sa3.ne f13 (fun z => by cases z)
    refine done G2 _ ⟨x4, sa3.off naf, ⟨_, d13.off (fun z => nfd z.symm), wd1.mono xq.gg⟩, ⟨_, b13.off (fun z => nfb z.symm), wb⟩, w13.off bi.wf, ⟨_, f13.put, ?_⟩, bi.db, bi.wf⟩ xq.gg fun u o hu n1 n2 n3 => ?_
    · rw [List.map_append]
      exact (WDs.mono xq.gg _ _ f2).append (.cons (WD.mono xq.gg _ _ wt) .nil)
    · rw [upd_ne n3, ← hH3, upd_ne n2, ← hH2]
      have hu1 : H1 u = some o := by rw [← hH1, upd_ne n1]; exact hu
      rw [upd_ne (ne_of_none hu1 hq)]
      exact hu1
/-- all moves of one configuration -/
theorem here_ok {c : Ct} {T : List (Addr × Str)} {E : XK} (cl : SCls K C) (ht : tw.tabs = T) {p : Pr} (hp : p.Ok) {S : Nat} (ok : BfOk p.m S s) (hB : (S + 1) ^ p.m ≤ 60000) {here : List Nat} {vp vn vh : V} {o7 o8 : Option V} (bi : BI tw C dx G0 H0 a d b w f vst vw s G H)
    (hh : here ∈ s.known.map (·.1)) (wp : WD G vp p.enc) (wh : WD G vh (natsD here)) {D : Ends}
    (done : ∀ G' H' o7 o8, BI tw C dx G0 H0 a d b w f vst vw (bfHere p s here) G' H' → Same G G' → D.nx [some (.ref a), some vp, some vn, some vst, some (.ref w), some (.ref f), some vh, o7, o8] H') :
    tHere K E (spD T (sp_moves c)) D [some (.ref a), some vp, some vn, some vst, some (.ref w), some (.ref f), some vh, o7, o8] H := by
  have hl := (ok.conf here hh).1
  have hm5 := hp.hi
  refine ⟨_, rfl, _, rfl, tw, G, [.d p.enc, .d (natsD here)], fun s => s = .own ((movesN p here).map pairD), fun _ => False, ht, bi.x.ok, ⟨wp, wh, trivial⟩, use_moves hp hl rfl, fun sv v G1 H1 es r e1 => ?_, fun _ _ _ z => z.elim⟩
  subst es
  obtain ⟨m, vs, rfl, hm1, gm, frm, wds, len⟩ := r
  have bi1 := bi.go e1
  have vl := wds.length
  rw [List.length_map] at vl
  refine ⟨m, rfl, ⟨vs, .of hm1⟩, ?_⟩
  obtain ⟨kd, d1, _⟩ := bi.sd
  obtain ⟨kb, b1, _⟩ := bi.sb
  obtain ⟨kf, f1, _⟩ := bi.sf
  have nd : m ≠ d := (frm.ne d1.at_ trivial).symm
  have nb : m ≠ b := (frm.ne b1.at_ trivial).symm
  have nf : m ≠ f := (frm.ne f1.at_ trivial).symm
  refine for_list (K := K) (a := m) (xs := vs) (fun i σ H2 => ∃ G2 o7 o8, σ = [some (.ref a), some vp, some vn, some vst, some (.ref w), some (.ref f), some vh, o7, o8] ∧ BI tw C dx G0 H0 a d b w f vst vw (((movesN p here).take i).foldl (bfStep here) s) G2 H2 ∧ Same G1 G2 ∧ H2 m = some (.lst vs))
    ⟨G1, o7, o8, rfl, bi1, fun _ _ h => h, hm1⟩ (fun i σ H2 _ ⟨_, _, _, _, _, _, q⟩ => .of q) (fun i x σ H2 hi ⟨G2, o7, o8, e, bi2, sm, hm2⟩ => ?_) (fun σ H2 ⟨G2, o7, o8, e, bi2, sm, _⟩ => ?_)
  · subst e
    have hil : i < (movesN p here).length := by rw [← vl]; exact (List.getElem?_eq_some_iff.mp hi).1
    have hmi : (movesN p here)[i]? = some (movesN p here)[i] := List.getElem?_eq_getElem hil
    generalize hx : (movesN p here)[i] = y at hmi
    obtain ⟨v, hv, wv⟩ : ∃ v, vs[i]? = some v ∧ WD G1 v (pairD y) := by
      have q := WDs.get wds (i := i) (d := pairD y) (by rw [List.getElem?_map, hmi]; rfl)
      exact q
    rw [hi] at hv
    cases hv
    unfold pairD at wv
    cases wv with
    | tup g1 g2 g3 =>
      cases g3 with
      | cons ws g4 =>
        cases g4 with
        | cons wt g5 =>
          cases g5
          rename_i q vs' vt
          refine ⟨q, _, rfl, .of (bi2.x.gh _ _ (sm _ _ g1)), rfl, vs', _, rfl, vt, _, rfl, rfl, ?_⟩
          have mem : ∀ z ∈ (movesN p here).take i, z.2.length = p.m ∧ z.2.sum = S := fun z hz => by
            have := moves_facts hp hl (List.mem_of_mem_take hz)
            exact ⟨this.1, this.2.trans (ok.conf here hh).2⟩
          have fs := fold_step (here := here) _ s ok mem
          have hk : here ∈ (((movesN p here).take i).foldl (bfStep here) s).known.map (·.1) := by
            obtain ⟨l, e, _⟩ := fs.2.pre
            rw [e, List.map_append]
            exact List.mem_append_left _ hh
          obtain ⟨y1, y2⟩ := y
          refine inner_ok cl fs.1 hB bi2 hk (by omega) (WD.mono (fun u o h => sm u o (e1.gg u o h)) _ _ wh) (WD.mono sm _ _ ws) (WD.mono sm _ _ wt) fun G3 H3 bi3 sm3 keep => ⟨G3, _, _, rfl, ?_, fun u o h => sm3 u o (sm u o h), keep m _ hm2 nd nb nf⟩
          rw [List.take_succ_eq_append_getElem hil, hx, List.foldl_append]
          exact bi3
  · subst e
    rw [vl, List.take_length] at bi2
    exact done G2 H2 o7 o8 bi2 fun u o h => sm u o (e1.gg u o h)
/-- between two levels -/
structure BL (tw : Tw) (C dx : Addr) (G0 H0 : Hp) (a d b w : Addr) (vst : V) (s : Bf) (G H : Hp) : Prop where
  x : Ext tw G0 H0 G H
  sa : Own tw H0 G H a (.ins C dx (sFs vst d b))
  sd : ∃ kv, Own tw H0 G H d (.dT kv) ∧ WKv G kv (distKV s.known)
  sb : ∃ kv, Own tw H0 G H b (.dT kv) ∧ WKv G kv (befKV s.bef)
  sw : ∃ vs, Own tw H0 G H w (.lst vs) ∧ WDs G vs (s.next.map natsD)
  db : d ≠ b
theorem level_ok {c : Ct} {T : List (Addr × Str)} {E : XK} (cl : SCls K C) (ht : tw.tabs = T) {p : Pr} (hp : p.Ok) {S : Nat} (ok : BfOk p.m S s) (hB : (S + 1) ^ p.m ≤ 60000) {vp vn : V} {o5 o6 o7 o8 : Option V} (bl : BL tw C dx G0 H0 a d b w vst s G H)
    (wp : WD G vp p.enc) {D : Ends} (hct : D.ct = D.nx)
    (done : ∀ G' H' w' o5 o6 o7 o8, BL tw C dx G0 H0 a d b w' vst (bfLevel p s) G' H' → Same G G' → D.nx [some (.ref a), some vp, some vn, some vst, some (.ref w'), o5, o6, o7, o8] H') :
    tLevel K E (spD T (sp_moves c)) D [some (.ref a), some vp, some vn, some vst, some (.ref w), o5, o6, o7, o8] H := by
  refine ⟨Nat.zero_le _, fun f hf => ?_⟩
  obtain ⟨of, xf⟩ := own_new (o := .lst []) bl.x hf
  obtain ⟨kd, d1, d2⟩ := bl.sd
  obtain ⟨kb, b1, b2⟩ := bl.sb
  obtain ⟨vw, w1, w2⟩ := bl.sw
  have nf : ∀ {u o}, H u = some o → u ≠ f := fun h => ne_of_none h hf
  have vl := w2.length
  rw [List.length_map] at vl
  have bi : BI tw C dx G0 H0 a d b w f vst vw { s with next := [] } G (upd H f (.lst [])) := ⟨xf, bl.sa.off (nf bl.sa.at_), ⟨kd, d1.off (nf d1.at_), d2⟩, ⟨kb, b1.off (nf b1.at_), b2⟩, w1.off (nf w1.at_), ⟨[], of, .nil⟩, bl.db, nf w1.at_⟩
  refine ⟨.ref w, rfl, w, rfl, ⟨vw, .of bi.sw.at_⟩, ?_⟩
  have memN : ∀ i, Confs p.m S (s.next.take i) := fun i c hc => ok.next c (List.mem_of_mem_take hc)
  refine for_list (K := K) (a := w) (xs := vw) (fun i σ H2 => ∃ G2 o6 o7 o8, σ = [some (.ref a), some vp, some vn, some vst, some (.ref w), some (.ref f), o6, o7, o8] ∧ BI tw C dx G0 H0 a d b w f vst vw ((s.next.take i).foldl (bfHere p) { s with next := [] }) G2 H2 ∧ Same G G2)
    ⟨G, o6, o7, o8, rfl, bi, fun _ _ h => h⟩ (fun i σ H2 _ ⟨_, _, _, _, _, bi2, _⟩ => .of bi2.sw.at_) (fun i x σ H2 hi ⟨G2, o6, o7, o8, e, bi2, sm⟩ => ?_) (fun σ H2 ⟨G2, o6, o7, o8, e, bi2, sm⟩ => ?_)
  · subst e
    have hil : i < s.next.length := by rw [← vl]; exact (List.getElem?_eq_some_iff.mp hi).1
    have hmi : s.next[i]? = some s.next[i] := List.getElem?_eq_getElem hil
    generalize hx : s.next[i] = here at hmi
    obtain ⟨v, hv, wv⟩ : ∃ v, vw[i]? = some v ∧ WD G v (natsD here) := WDs.get w2 (i := i) (d := natsD here) (by rw [List.getElem?_map, hmi]; rfl)
    rw [hi] at hv
    cases hv
    have fs := fold_here hp (s.next.take i) { s with next := [] } ok.clear (memN i)
    have hk : here ∈ ((s.next.take i).foldl (bfHere p) { s with next := [] }).known.map (·.1) := by
      obtain ⟨l, e, _⟩ := fs.2.pre
      rw [e, List.map_append]
      exact List.mem_append_left _ (ok.nx here (List.mem_of_getElem? hmi))
    refine here_ok (c := c) cl ht hp fs.1 hB bi2 hk (WD.mono sm _ _ wp) (WD.mono sm _ _ wv) fun G3 H3 o7 o8 bi3 sm3 => ⟨G3, _, _, _, rfl, ?_, fun u o h => sm3 u o (sm u o h)⟩
    rw [List.take_succ_eq_append_getElem hil, hx, List.foldl_append]
    exact bi3
  · subst e
    rw [vl, List.take_length] at bi2
    exact ⟨.ref f, rfl, done G2 H2 f _ _ _ _ ⟨bi2.x, bi2.sa, bi2.sd, bi2.sb, bi2.sf, bi2.db⟩ sm⟩
/-- what the making of the object promises -/
def spInit (c : Ct) (T : List (Addr × Str)) (C : Addr) : Sp := fun vs H Q _ => ∃ (tw : Tw) (G0 H0 : Hp) (a dx : Addr) (p : Pr) (n : Nat) (vp vn : V), tw.tabs = T ∧ Ok tw G0 H0 ∧ vs = [.ref a, vp, vn] ∧ H = upd (upd H0 dx (.own a)) a (.ins C dx []) ∧ H0 a = none ∧ H0 dx = none ∧ dx ≠ a ∧ WD G0 vp p.enc ∧ WD G0 vn (.int (n : Int)) ∧ p.Ok ∧ n ≤ 8 ∧
  ∀ G' H' vst d b w, BL tw C dx G0 H0 a d b w vst (bfs p (firstN p.m n)) G' H' → WD G' vst (natsD (firstN p.m n)) → Q .non H'
theorem first_facts {p : Pr} (hp : p.Ok) (n : Nat) : (firstN p.m n).length = p.m ∧ (firstN p.m n).sum = n := by
  have := hp.lo
  unfold firstN
  rw [List.length_cons, List.length_replicate, List.sum_cons, List.sum_replicate_nat]
  omega
theorem nine_pow {n m : Nat} (hn : n ≤ 8) (hm : m ≤ 5) : (n + 1) ^ m ≤ 60000 :=
  Nat.le_trans (Nat.pow_le_pow_left (by omega : n + 1 ≤ 9) m) (Nat.le_trans (Nat.pow_le_pow_right (by decide) hm) (by decide))
theorem rd_init {c : Ct} {T : List (Addr × Str)} {E : XK} (cl : SCls K C) {vs : List V} {Q : VK} {H : Hp} (h : spInit c T C vs H Q E) :
    tInit K E (spD T (sp_first_of c)) (spD T (sp_moves c)) { nx := fun _ H' => Q .non H', rt := Q } (L2.start ["self", "protocol", "caches", "start", "waiting", "further", "here", "step", "there"] vs) H := by
  obtain ⟨tw, G0, H0, a, dx, p, n, vp, vn, ht, o0, rfl, rfl, na, nd, hne, wp, wn, hp, hn, done⟩ := h
  have hlo := hp.lo
  have hhi := hp.hi
  have x1 : Ext tw G0 H0 G0 (upd H0 dx (.own a)) := o0.putH nd
  obtain ⟨sa, x2⟩ := own_new (o := .ins C dx []) x1 (by rw [upd_ne hne.symm]; exact na)
  -- start = first_of(protocol, caches)
  have wp' := wp
  unfold Pr.enc at wp'
  show tSeq _ _ _ [some (.ref a), some vp, some vn, none, none, none, none, none, none] _
  refine ⟨_, rfl, _, rfl, tw, G0, [.d p.enc, .d (.int (n : Int))], fun s => s = .d (natsD (firstN p.m n)), fun _ => False, ht, x2.ok, ⟨wp, wn, trivial⟩, ?_, fun sv vst G1 H1 es r e1 => ?_, fun _ _ _ z => z.elim⟩
  · rw [enc_eq]
    exact use_first_of (by omega) rfl
  subst es
  have wst : WD G1 vst (natsD (firstN p.m n)) := r
  have sa1 := sa.go trivial e1
  have x3 := x2.trans e1
  -- self.start = start
  refine ⟨_, rfl, _, rfl, a, C, dx, _, rfl, sa1.at_, cl.cl, cl.n1, by decide, ?_⟩
  have x4 := sa1.ext (o' := .ins C dx [("start", vst)]) trivial x3
  have sa2 := sa1.put (o' := .ins C dx [("start", vst)])
  generalize hH2 : upd H1 a (.ins C dx [("start", vst)]) = H2 at x4 sa2
  show tSeq _ _ _ [some (.ref a), some vp, some vn, some vst, none, none, none, none, none] (upd H1 a (.ins C dx [("start", vst)]))
  rw [hH2]
  -- self.distances = {start: 0}
  refine fun d hd => ⟨_, rfl, ?_⟩
  obtain ⟨sd, x5⟩ := own_new (o := .dT []) x4 hd
  obtain ⟨ks, rfl, gk⟩ := (wd_natsK wst).keyT
  have hks : upd H2 d (.dT []) ks = some (.tup ((natsK (firstN p.m n)).map kV)) := x5.gh _ _ gk
  have hat : upd (upd H2 d (.dT [])) d (.dT [(natsK (firstN p.m n), .int 0)]) a = some (.ins C dx [("start", .ref ks)]) := by
    have nad : a ≠ d := ne_of_none sa2.at_ hd
    rw [upd_ne nad, upd_ne nad]
    exact sa2.at_
  refine ⟨sd.at_, natsK (firstN p.m n), ks, rfl, hks, _, rfl, a, C, dx, _, rfl, hat, cl.cl, cl.n2, (by show 1 < 1000; decide), ?_⟩
  have nad : a ≠ d := ne_of_none sa2.at_ hd
  have x6 := sd.ext (o' := .dT [(natsK (firstN p.m n), .int 0)]) trivial x5
  have sd2 := sd.put (o' := .dT [(natsK (firstN p.m n), .int 0)])
  have sa3 := (sa2.off (o' := .dT []) nad).off (o' := .dT [(natsK (firstN p.m n), .int 0)]) nad
  have x7 := sa3.ext (o' := .ins C dx [("start", .ref ks), ("distances", .ref d)]) trivial x6
  have sa4 := sa3.put (o' := .ins C dx [("start", .ref ks), ("distances", .ref d)])
  have sd3 := sd2.off (o' := .ins C dx [("start", .ref ks), ("distances", .ref d)]) nad.symm
  show tSeq _ _ _ [some (.ref a), some vp, some vn, some (.ref ks), none, none, none, none, none] (upd (upd (upd H2 d (.dT [])) d (.dT [(natsK (firstN p.m n), .int 0)])) a (.ins C dx [("start", .ref ks), ("distances", .ref d)]))
  generalize hH3 : upd (upd (upd H2 d (.dT [])) d (.dT [(natsK (firstN p.m n), .int 0)])) a (.ins C dx [("start", .ref ks), ("distances", .ref d)]) = H3 at x7 sa4 sd3 ⊢
  -- self.before = {}
  refine fun b hb => ?_
  have hat2 : upd H3 b (.dT []) a = some (.ins C dx [("start", .ref ks), ("distances", .ref d)]) := by
    rw [upd_ne (ne_of_none sa4.at_ hb)]
    exact sa4.at_
  refine ⟨_, rfl, a, C, dx, _, rfl, hat2, cl.cl, cl.n3, (by show 2 < 1000; decide), ?_⟩
  obtain ⟨sb, x8⟩ := own_new (o := .dT []) x7 hb
  have nab : a ≠ b := ne_of_none sa4.at_ hb
  have ndb : d ≠ b := ne_of_none sd3.at_ hb
  have sa5 := sa4.off (o' := .dT []) nab
  have x9 := sa5.ext (o' := .ins C dx (sFs (.ref ks) d b)) trivial x8
  have sa6 := sa5.put (o' := .ins C dx (sFs (.ref ks) d b))
  have sd4 := (sd3.off (o' := .dT []) ndb).off (o' := .ins C dx (sFs (.ref ks) d b)) nad.symm
  have sb2 := sb.off (o' := .ins C dx (sFs (.ref ks) d b)) nab.symm
  show tSeq _ _ _ [some (.ref a), some vp, some vn, some (.ref ks), none, none, none, none, none] (upd (upd H3 b (.dT [])) a (.ins C dx (sFs (.ref ks) d b)))
  generalize hH4 : upd (upd H3 b (.dT [])) a (.ins C dx (sFs (.ref ks) d b)) = H4 at x9 sa6 sd4 sb2 ⊢
  -- waiting = [start]
  refine ⟨_, rfl, by rw [sizeLine_eq]; exact Nat.le_of_ble_eq_true rfl, fun w hw => ?_⟩
  obtain ⟨sw, x10⟩ := own_new (o := .lst [.ref ks]) x9 hw
  have nw : ∀ {u o}, H4 u = some o → u ≠ w := fun h => ne_of_none h hw
  obtain ⟨ff1, ff2⟩ := first_facts hp n
  have at0 := BfAt.init (p := p) (start := firstN p.m n) ff1
  rw [ff2] at at0
  have hB := nine_pow hn hhi
  have bl0 : BL tw C dx G0 H0 a d b w (.ref ks) (bfInit (firstN p.m n)) G1 (upd H4 w (.lst [.ref ks])) :=
    ⟨x10, sa6.off (nw sa6.at_), ⟨_, sd4.off (nw sd4.at_), ⟨rfl, .int 0⟩, trivial⟩, ⟨_, sb2.off (nw sb2.at_), trivial⟩, ⟨_, sw, .cons wst .nil⟩, ndb⟩
  show tWhile (fun σ H Q => tVar 4 σ H fun x H' => ∃ k, TruV K x H' k ∧ Q k H') (tLevel K E (spD T (sp_moves c))) { nx := fun _ H' => Q .non H', rt := Q } [some (.ref a), some vp, some vn, some (.ref ks), some (.ref w), none, none, none, none] (upd H4 w (.lst [.ref ks]))
  have wp1 : WD G1 vp p.enc := WD.mono e1.gg _ _ wp
  refine ⟨fun m σ H' => ∃ G' w' s o5 o6 o7 o8, m = bfMu ((n + 1) ^ p.m) s ∧ σ = [some (.ref a), some vp, some vn, some (.ref ks), some (.ref w'), o5, o6, o7, o8] ∧ BL tw C dx G0 H0 a d b w' (.ref ks) s G' H' ∧ Same G1 G' ∧ BfAt p n (bfs p (firstN p.m n)) s,
    ⟨_, G1, w, _, none, none, none, none, rfl, rfl, bl0, fun _ _ h => h, at0⟩, ?_⟩
  rintro m σ H' ⟨G', w', s, o5, o6, o7, o8, rfl, rfl, bl, sm, ats⟩
  obtain ⟨vs, sw', ww⟩ := bl.sw
  refine ⟨.ref w', rfl, !vs.isEmpty, .inl ⟨vs, .of sw'.at_, rfl⟩, ?_⟩
  by_cases he : s.next = []
  · have ev : vs = [] := by
      rw [he] at ww
      cases ww
      rfl
    subst ev
    have := ats.end he
    subst this
    exact done G' H' _ d b w' bl (WD.mono sm _ _ wst)
  · have ev : vs.isEmpty = false := by
      cases vs with
      | nil =>
        have := ww.length
        rw [List.length_map] at this
        exact absurd (List.eq_nil_of_length_eq_zero this.symm) he
      | cons => rfl
    obtain ⟨at2, lt⟩ := ats.level hp he
    show (if (!vs.isEmpty) = true then _ else _)
    rw [ev, if_pos (by decide)]
    refine ⟨fun σ' H2 => ∃ G2 w2 o5 o6 o7 o8, σ' = [some (.ref a), some vp, some vn, some (.ref ks), some (.ref w2), o5, o6, o7, o8] ∧ BL tw C dx G0 H0 a d b w2 (.ref ks) (bfLevel p s) G2 H2 ∧ Same G1 G2, fun σ' H2 ⟨G2, w2, o5, o6, o7, o8, e1, e2, e3⟩ => ⟨_, lt, G2, w2, _, o5, o6, o7, o8, rfl, e1, e2, e3, at2⟩, ?_⟩
    exact level_ok (c := c) cl ht hp ats.1 hB bl (WD.mono sm _ _ wp1) rfl fun G2 H2 w2 o5 o6 o7 o8 bl2 sm2 => ⟨G2, w2, o5, o6, o7, o8, rfl, bl2, fun u o h => sm2 u o (sm u o h)⟩
end
end DL
/-! DL 22: the searching object as a value: made, read, asked; loops over defs. -/
namespace DL
open PySem PySem.Spec PyProof.Rows L2
def SrchR (C : Addr) (st : List Nat) (ds bs : List (List Key × PyData)) : V → Hp → Prop := fun v G => ∃ (a dx d b : Addr) (vst : V) (od1 od2 : Obj) (k1 k2 : List (List Key × V)), v = .ref a ∧ G a = some (.ins C dx (sFs vst d b)) ∧ WD G vst (natsD st) ∧
  G d = some (.frz od1 (.dT k1)) ∧ WKv G k1 ds ∧ G b = some (.frz od2 (.dT k2)) ∧ WKv G k2 bs
theorem SrchR.mono {C : Addr} {st : List Nat} {ds bs : List (List Key × PyData)} (v : V) (G G' : Hp) (e : Same G G') (h : SrchR C st ds bs v G) : SrchR C st ds bs v G' := by
  obtain ⟨a, dx, d, b, vst, od1, od2, k1, k2, h1, h2, h3, h4, h5, h6, h7⟩ := h
  exact ⟨a, dx, d, b, vst, od1, od2, k1, k2, h1, e _ _ h2, WD.mono e _ _ h3, e _ _ h4, h5.mono e, e _ _ h6, h7.mono e⟩
def srch (C : Addr) (st : List Nat) (ds bs : List (List Key × PyData)) : SV := .abs (SrchR C st ds bs) SrchR.mono
section
variable {X : Cx} {E : EK} {e e1 o : Expr} {es : List Expr} {t : TE} {te ti : DT} {ta : DA} {pos p apos : Pos} {x : Str} {c : Ct}
theorem pe_lockA (h : PE X e t) : PE X e (fun σ H Q => t σ H fun v H' => ∃ d u, H' d = some u ∧ Mut (some u) ∧ ∀ od, Q v (upd H' d (.frz od u))) := by
  refine ⟨fun pins s σ H Q I hw => ?_⟩
  refine thn (h.run pins s σ _ _ I hw) fun v s1 ⟨x, H1, I2, r, d, u, hd, mu, q⟩ => ?_
  obtain ⟨od, I3⟩ := I2.lock hd mu
  exact ⟨x, _, I3, r, q od⟩
/-- Search(protocol, caches) -/
def mkS (C : Addr) (ss : List SV) (Q : SV → Prop) : Prop := ∃ (p : Pr) (n : Nat), ss = [.d p.enc, .d (.int (n : Int))] ∧ p.Ok ∧ n ≤ 8 ∧ Q (srch C (firstN p.m n) (distKV (bfs p (firstN p.m n)).known) (befKV (bfs p (firstN p.m n)).bef))
theorem use_mkS {C : Addr} {p : Pr} {n : Nat} {Q : SV → Prop} (h1 : p.Ok) (h2 : n ≤ 8) (q : Q (srch C (firstN p.m n) (distKV (bfs p (firstN p.m n)).known) (befKV (bfs p (firstN p.m n)).bef))) : mkS C [.d p.enc, .d (.int (n : Int))] Q := ⟨p, n, rfl, h1, h2, q⟩
def inS (C : Addr) (s : SV) (k : List Nat → List (List Key × PyData) → List (List Key × PyData) → Prop) : Prop := ∃ st ds bs, s = srch C st ds bs ∧ k st ds bs
theorem use_inS {C : Addr} {st : List Nat} {ds bs : List (List Key × PyData)} {k : List Nat → List (List Key × PyData) → List (List Key × PyData) → Prop} (q : k st ds bs) : inS C (srch C st ds bs) k := ⟨st, ds, bs, rfl, q⟩
theorem vS_srch {C : Addr} {st : List Nat} {ds bs : List (List Key × PyData)} {Q : SV → Prop} : vS (srch C st ds bs) Q = Q (srch C st ds bs) := rfl
theorem fz_srch {C : Addr} {st : List Nat} {ds bs : List (List Key × PyData)} {Q : SV → Prop} : fz (srch C st ds bs) Q = Q (srch C st ds bs) := rfl
theorem stO_srch {C : Addr} {st : List Nat} {ds bs : List (List Key × PyData)} {i : Nat} {δ : Env} {k : Env → Prop} : stO i δ (srch C st ds bs) k = k (δ.set i (some (srch C st ds bs))) := rfl
def dSrch (C : Addr) (ta : DA) : DT := fun δ Q Ex => ta δ (fun ss => mkS C ss Q) Ex
theorem de_srch {T : List (Addr × Str)} {k : Nat} {CX : CXT} {C f : Addr} {fd : FuncData} (hT : E.tabs = T) (M : Mk X.K C f) (F : FnOk X.prog X.w X.K X.mg X.base CX k f fd ["self", "protocol", "caches"] (spInit c T C)) (hr : Room (k + 1) X.A) (hg : Gl X x) (hm : X.mg x = some (.ref C)) (hb : Binds X.K fd ["self", "protocol", "caches"] []) (hx : Passes CX X E.x)
    (ha : PA X (e :: es) (liftA E ta)) (hdb : (x == ("__debug__" : Str)) = false := by decide) (he : starEach (e :: es) X.env = (false, eval e X.env) :: starEach es X.env := by rfl) (hpl : (backTo pos (starEach es X.env)).any (·.1) = false := by rfl) :
    PE X (.Call (.Name x p) (e :: es) [] pos) (lift E (dSrch C ta)) := by
  refine peW (pe_lockA (pe_lockA (pe_make M F hr hg hm hb .nil hx ha hdb he hpl))) ?_
  rintro σ H R ⟨tw, G0, H0, G, δ, Q, Ex, a, h, q⟩
  refine ⟨tw, G0, H0, G, δ, _, Ex, a, h, fun ss vs G1 H1 ⟨p, n, es, hp, hn, hq⟩ r ex => ?_⟩
  intro z dx nz ndx hne
  subst es
  match vs, r with
  | [vp, vn], ⟨rp, rn, _⟩ =>
    refine ⟨tw, G1, H1, z, dx, p, n, vp, vn, a.tb.trans hT, ex.ok, rfl, rfl, nz, ndx, hne, rp, rn, hp, hn, fun G' H' vst d b w bl wst => ⟨rfl, ?_⟩⟩
    obtain ⟨k1, d1, d2⟩ := bl.sd
    obtain ⟨k2, b1, b2⟩ := bl.sb
    refine ⟨d, _, d1.at_, trivial, fun od1 => ?_⟩
    have x1 := d1.ext (o' := .frz od1 (.dT k1)) trivial bl.x
    have b11 := b1.off (o' := .frz od1 (.dT k1)) bl.db.symm
    have nzd : z ≠ d := bl.sa.ne d1 (fun z => by cases z)
    have nzb : z ≠ b := bl.sa.ne b1 (fun z => by cases z)
    have a11 := bl.sa.off (o' := .frz od1 (.dT k1)) nzd
    refine ⟨b, _, b11.at_, trivial, fun od2 => ?_⟩
    have x2 := b11.ext (o' := .frz od2 (.dT k2)) trivial x1
    have a12 := a11.off (o' := .frz od2 (.dT k2)) nzb
    have d12 := (d1.put (o' := .frz od1 (.dT k1))).off (o' := .frz od2 (.dT k2)) bl.db
    have b12 := b11.put (o' := .frz od2 (.dT k2))
    have x3 := x2.freezeO d12.at_ d12.g d12.fr (fun _ z => by cases z)
    have s3 : Same G' (upd G' d (.frz od1 (.dT k1))) := same_freeze d12.g
    have gb : upd G' d (.frz od1 (.dT k1)) b = none := by rw [upd_ne bl.db.symm]; exact b12.g
    have x4 := x3.freezeO b12.at_ gb b12.fr (fun _ z => by cases z)
    have s4 := same_freeze (u := .frz od2 (.dT k2)) gb
    have gz : upd (upd G' d (.frz od1 (.dT k1))) b (.frz od2 (.dT k2)) z = none := by rw [upd_ne nzb, upd_ne nzd]; exact a12.g
    have x5 := x4.freezeO a12.at_ gz a12.fr (fun _ z => by cases z)
    have s5 := same_freeze (u := .ins C dx (sFs vst d b)) gz
    have sm : Same G' (upd (upd (upd G' d (.frz od1 (.dT k1))) b (.frz od2 (.dT k2))) z (.ins C dx (sFs vst d b))) := fun u o h => s5 u o (s4 u o (s3 u o h))
    refine q _ _ _ _ hq ⟨z, dx, d, b, vst, od1, od2, k1, k2, rfl, upd_same, WD.mono sm _ _ wst, ?_, d2.mono sm, ?_, b2.mono sm⟩ (ex.trans x5)
    · exact s5 _ _ (s4 _ _ upd_same)
    · exact s5 _ _ upd_same
/-- e.start, e.distances, e.before -/
def dFS (C : Addr) (te : DT) : DT := fun δ Q Ex => te δ (fun s => inS C s fun st ds bs => Q (.d (natsD st))) Ex
def dFD (C : Addr) (te : DT) : DT := fun δ Q Ex => te δ (fun s => inS C s fun st ds bs => Q (.fo (.dTl ds))) Ex
def dFB (C : Addr) (te : DT) : DT := fun δ Q Ex => te δ (fun s => inS C s fun st ds bs => Q (.fo (.dTl bs))) Ex
theorem de_fs {C : Addr} (cl : SCls X.K C) (he : PE X e (lift E te)) (hb : attributeBase e "start" X.env (eval e X.env) = eval e X.env := by rfl) : PE X (.Attribute e "start" pos) (lift E (dFS C te)) := by
  refine peW (pe_fld he hb) ?_
  rintro σ H R ⟨tw, G0, H0, G, δ, Q, Ex, a, h, q⟩
  refine ⟨tw, G0, H0, G, δ, _, Ex, a, h, fun s v G1 H1 ⟨st, ds, bs, es, hq⟩ r ex => ?_⟩
  subst es
  obtain ⟨z, dx, d, b, vst, od1, od2, k1, k2, rfl, h2, h3, h4, h5, h6, h7⟩ := (show SrchR C st ds bs v G1 from r)
  exact ⟨z, C, dx, _, vst, rfl, ex.gh _ _ h2, cl.cl, cl.n1, rfl, q _ _ G1 H1 hq h3 ex⟩
theorem de_fd {C : Addr} (cl : SCls X.K C) (he : PE X e (lift E te)) (hb : attributeBase e "distances" X.env (eval e X.env) = eval e X.env := by rfl) : PE X (.Attribute e "distances" pos) (lift E (dFD C te)) := by
  refine peW (pe_fld he hb) ?_
  rintro σ H R ⟨tw, G0, H0, G, δ, Q, Ex, a, h, q⟩
  refine ⟨tw, G0, H0, G, δ, _, Ex, a, h, fun s v G1 H1 ⟨st, ds, bs, es, hq⟩ r ex => ?_⟩
  subst es
  obtain ⟨z, dx, d, b, vst, od1, od2, k1, k2, rfl, h2, h3, h4, h5, h6, h7⟩ := (show SrchR C st ds bs v G1 from r)
  exact ⟨z, C, dx, _, .ref d, rfl, ex.gh _ _ h2, cl.cl, cl.n2, rfl, q _ _ G1 H1 hq ⟨d, _, rfl, h4, od1, k1, rfl, h5⟩ ex⟩
theorem de_fb {C : Addr} (cl : SCls X.K C) (he : PE X e (lift E te)) (hb : attributeBase e "before" X.env (eval e X.env) = eval e X.env := by rfl) : PE X (.Attribute e "before" pos) (lift E (dFB C te)) := by
  refine peW (pe_fld he hb) ?_
  rintro σ H R ⟨tw, G0, H0, G, δ, Q, Ex, a, h, q⟩
  refine ⟨tw, G0, H0, G, δ, _, Ex, a, h, fun s v G1 H1 ⟨st, ds, bs, es, hq⟩ r ex => ?_⟩
  subst es
  obtain ⟨z, dx, d, b, vst, od1, od2, k1, k2, rfl, h2, h3, h4, h5, h6, h7⟩ := (show SrchR C st ds bs v G1 from r)
  exact ⟨z, C, dx, _, .ref b, rfl, ex.gh _ _ h2, cl.cl, cl.n3, rfl, q _ _ G1 H1 hq ⟨b, _, rfl, h6, od2, k2, rfl, h7⟩ ex⟩
/-- o.m(..) of such an object -/
def dMethS (C : Addr) (sp : Spec) (te : DT) (ta : DA) : DT := fun δ Q Ex => te δ (fun s => inS C s fun _ _ _ => ta δ (fun ss => sp (s :: ss) Q Ex) Ex) Ex
theorem de_methS {C f : Addr} {fd : FuncData} {ps : List Str} {k : Nat} {CX : CXT} {sp : Spec} {m : Str} {pl : Sem Bool} (cl : SCls X.K C) (hne : (sFs V.non 0 0).lookup m = none) (hm : Meth X.K C m f) (F : FnOk X.prog X.w X.K X.mg X.base CX k f fd ps (spD E.tabs sp)) (hr : Room k X.A) (hb : Binds X.K fd ps []) (hx : Passes CX X E.x)
    (he : PE X o (lift E te)) (ha : PA X (e :: es) (liftA E ta))
    (hst : starEach (e :: es) X.env = (false, eval e X.env) :: starEach es X.env := by rfl) (hpl : (backTo pos (starEach es X.env)).any (·.1) = false := by rfl)
    (ht : eval (.Call (.Attribute o m apos) (e :: es) [] pos) X.env = (do
      let ov ← eval o X.env
      standAt apos.atName
      let (f, first) ← holding [ov] (getMethod ov m pl)
      callWith pos f first (backTo pos (starEach (e :: es) X.env)) (backToKw pos (keywordEach [] X.env))) := by rfl) :
    PE X (.Call (.Attribute o m apos) (e :: es) [] pos) (lift E (dMethS C sp te ta)) := by
  refine peW (pe_meth he cl.cl hm F hr hb .nil hx ha hst hpl ht) ?_
  rintro σ H R ⟨tw, G0, H0, G, δ, Q, Ex, a, h, q⟩
  refine ⟨tw, G0, H0, G, δ, _, Ex, a, h, fun s v G1 H1 ⟨st, ds, bs, es, hq⟩ r ex => ?_⟩
  subst es
  have r' : SrchR C st ds bs v G1 := r
  obtain ⟨z, dx, d, b, vst, od1, od2, k1, k2, rfl, h2, h3, h4, h5, h6, h7⟩ := id r'
  have hl : (sFs vst d b).lookup m = none := by
    simp only [List.lookup] at hne ⊢
    split at hne
    · cases hne
    · split at hne
      · cases hne
      · split at hne
        · cases hne
        · rfl
  refine ⟨z, dx, _, rfl, ex.gh _ _ h2, hl, tw, G0, H0, G1, δ, _, Ex, a.go ex, hq, fun ss vs G2 H2 hs rs ex2 => ?_⟩
  show spD E.tabs sp (V.ref z :: (vs ++ [])) H2 R E.x
  rw [List.append_nil]
  have f0 : FR tw G2 (.ref z) (srch C st ds bs) := SrchR.mono _ _ _ ex2.gg r'
  exact ⟨tw, G2, srch C st ds bs :: ss, Q, Ex, a.tb, ex2.ok, ⟨f0, rs⟩, hs, fun s v G3 H3 h1 r2 e2 => q s v G3 H3 h1 (r2.ent (a.rep.ext.trans (ex.trans ex2)) (ex.trans ex2)) ((ex.trans ex2).trans e2), fun c G3 H3 hc e2 => a.exc c G3 H3 hc (a.rep.ext.trans ((ex.trans ex2).trans e2))⟩
end
end DL
/-! DL 23: loops over defs, calls of what a slot holds, lists backwards. -/
namespace DL
open PySem PySem.Spec PyProof.Rows L2
def forV (i : Nat) (tb : DS) : List V → DE → Env → XP → Prop
  | [], De, δ, _ => De.nx δ
  | v :: vs, De, δ, Ex => tb { De with nx := fun δ2 => forV i tb vs De δ2 Ex, ct := fun δ2 => forV i tb vs De δ2 Ex, bk := De.nx } (δ.set i (some (.v v))) Ex
def sForV (i : Nat) (vs : List V) (tb : DS) : DS := fun De δ Ex => forV i tb vs De δ Ex
section
variable {X : Cx} {E : EK} {e e1 o iter : Expr} {es : List Expr} {t : TE} {te ti : DT} {ta : DA} {tb : DS} {pos p p1 p2 p3 apos : Pos} {x : Str} {body : List Stmt}
theorem pa_g0 : PA X [] (fun σ H R => R [] H) := pa_nil
theorem pa_g {v : V} {vs : List V} (h : PE X e (tC v)) (hr : PA X es (fun σ H R => R vs H)) (hs : starEach (e :: es) X.env = (false, eval e X.env) :: starEach es X.env := by rfl) : PA X (e :: es) (fun σ H R => R (v :: vs) H) :=
  paW (pa_cons h hr hs) fun σ H R q => q
theorem ds_forV {i : Nat} {y : Str} {py : Pos} {x1} {vs : List V} (hp : PassesOwn (model X.prog X.w) X.A X.env X.xe) (hc : X.calm = true) (hi : PA X es (fun σ H R => R vs H)) (hN : X.N.Nodup) (hy : X.N[i]? = some y) (hx : Loc X.env.scope y) (hf : X.fn y = true ∨ X.env.scope.names.lookup y = some .local) (hz : vs.length ≤ 1000) (hb : PSs X body (liftS E tb))
    (hs : ∀ x, foldedSetIterable (.Tuple es x1 pos) X.env x = pure x := by intro _; rfl) :
    PS X (.For (.Name y py) (.Tuple es x1 pos) body [] p) (liftS E (sForV i vs tb)) := by
  refine psW (ps_for hp hc (pi_tup (pe_tup hi)) (pg_name hN hy hx hf) hb hs) ?_
  rintro D σ H ⟨tw, G0, H0, G, δ, De, Ex, a, h, gg⟩
  refine ⟨line1000 hz, fun p hp => ⟨p, rfl, ⟨vs, .of upd_same⟩, ?_⟩⟩
  have ew : Ext tw G H (upd G p (.tup vs)) (upd H p (.tup vs)) := a.ok.put hp
  have w0 : Ext tw G0 H0 (upd G p (.tup vs)) (upd H p (.tup vs)) := a.rep.ext.trans ew
  refine ⟨fun i' m σ H1 => i' + m = vs.length ∧ ∃ G1 δ, Rep tw G0 H0 G1 σ H1 δ ∧ Same (upd G p (.tup vs)) G1 ∧ forV i tb (vs.drop i') De δ Ex, ⟨vs.length, by omega, _, δ, a.rep.go ew, fun _ _ z => z, h⟩, ?_⟩
  rintro i' m σ1 H1 ⟨em, G1, δ1, r1, s1, q1⟩
  have st : H1 p = some (.tup vs) := r1.ext.gh _ _ (s1 _ _ upd_same)
  by_cases hi : i' < vs.length
  · have hd : vs.drop i' = vs[i'] :: vs.drop (i' + 1) := List.drop_eq_getElem_cons hi
    rw [hd] at q1
    refine .inr ⟨⟨vs, _, .of st, List.getElem?_eq_getElem hi⟩, fun σ' H' => ∃ G' δ', Rep tw G0 H0 G' σ' H' δ' ∧ Same (upd G p (.tup vs)) G' ∧ forV i tb (vs.drop (i' + 1)) De δ' Ex, fun σ' H' ⟨G', δ', r', s', q'⟩ => ⟨m - 1, by omega, by omega, G', δ', r', s', q'⟩, fun z H2 hy => ?_⟩
    obtain ⟨rfl, f⟩ := hy
    have ez := f vs (.of st)
    rw [List.getElem?_eq_getElem hi] at ez
    cases ez
    have r3 : Rep tw G0 H0 G1 (σ1.set i (some vs[i'])) H2 (δ1.set i (some (.v vs[i']))) := r1.set (s := .v vs[i']) rfl fun _ z => z.elim
    refine ⟨tw, _, H0, G1, _, _, Ex, ⟨r3.up w0 s1, fun c G' H' hc e => a.exc c G' H' hc (w0.down e), a.tb⟩, q1, ⟨?_, ?_, ?_, ?_⟩⟩
    · exact fun δ4 G4 σ4 H4 q4 r4 => ⟨G4, δ4, r4.down w0, r4.ext.gg, q4⟩
    · exact fun δ4 G4 σ4 H4 q4 r4 => gg.nx δ4 G4 σ4 H4 q4 (r4.down w0)
    · exact fun δ4 G4 σ4 H4 q4 r4 => ⟨G4, δ4, r4.down w0, r4.ext.gg, q4⟩
    · exact fun s v G4 H4 q4 v4 e4 => gg.rt s v G4 H4 q4 v4 (w0.down e4)
  · have ei : i' = vs.length := by omega
    subst ei
    refine .inl ⟨⟨vs, .of st, Nat.le_refl _⟩, ?_⟩
    rw [List.drop_length] at q1
    exact gg.nx δ1 G1 σ1 H1 q1 r1
/-! ### a def that a slot holds -/
structure HeldD (X : Cx) (T : List (Addr × Str)) (k : Nat) (f : Addr) (sp : Spec) : Prop where
  ex : ∃ (j : Nat) (fd : FuncData) (ps : List Str), j ≤ k ∧ FnOk X.prog X.w X.K X.mg X.base (L2.CX X.prog X.w) j f fd ps (spD T sp) ∧ PySem.W.keepIn X.K (.ref f) = true ∧ Binds X.K fd ps []
theorem heldD {X : Cx} {T : List (Addr × Str)} {j k : Nat} {f a : Addr} {sp : Spec} {fd : FuncData} {ps : List Str} (e : f = a) (hk : j ≤ k) (F : FnOk X.prog X.w X.K X.mg X.base (L2.CX X.prog X.w) j a fd ps (spD T sp)) (kp : PySem.W.keepIn X.K (.ref a) = true) (b : Binds X.K fd ps []) : HeldD X T k f sp := by
  subst e
  exact ⟨j, fd, ps, hk, F, kp, b⟩
def dCallS (i : Nat) (fs : List (Addr × Spec)) (ta : DA) : DT := fun δ Q Ex => ∃ q ∈ fs, δ[i]? = some (some (.v (.ref q.1))) ∧ ta δ (fun ss => q.2 ss Q Ex) Ex
theorem de_callS {i k : Nat} {fs : List (Addr × Spec)} (A : ∀ q ∈ fs, HeldD X E.tabs k q.1 q.2) (hr : Room k X.A) (hN : X.N[i]? = some x) (hv : Vis X.env.scope x) (hx : Passes (L2.CX X.prog X.w) X E.x) (ha : PA X (e :: es) (liftA E ta))
    (hdb : (x == ("__debug__" : Str)) = false := by decide) (hcd : (x == ("__classdict__" : Str)) = false := by decide)
    (he : starEach (e :: es) X.env = (false, eval e X.env) :: starEach es X.env := by rfl) (hpl : (backTo pos (starEach es X.env)).any (·.1) = false := by rfl) :
    PE X (.Call (.Name x p) (e :: es) [] pos) (lift E (dCallS i fs ta)) := by
  refine ⟨fun pins s σ H R I h => ?_⟩
  obtain ⟨tw, G0, H0, G, δ, Q, Ex, a, ⟨q, hq, hl, h⟩, qq⟩ := h
  obtain ⟨j, fd, ps, hj, F, hk, hb⟩ := (A q hq).ex
  obtain ⟨v, e1, e2⟩ := a.rep.sl i _ hl
  have ev : v = .ref q.1 := e2
  subst ev
  refine (pe_callL (i := i) (f := q.1) (dvs := []) F (hr.mono hj) hN hv hk hb .nil hx ha hdb hcd he hpl).run pins s σ H R I ⟨e1, tw, G0, H0, G, δ, _, Ex, a, h, fun ss vs G1 H1 hs r e => ?_⟩
  show spD E.tabs q.2 (vs ++ []) H1 R E.x
  rw [List.append_nil]
  exact sp_at a qq hs r e
/-! ### l[::-1] -/
def dRev (te : DT) : DT := fun δ Q Ex => te δ (fun s => ∃ l, asL s = some l ∧ Q (.own l.reverse)) Ex
theorem de_rev {k : Nat} (he : PE X e (lift E te)) : PE X (.Subscript e (.Slice none none (some (.UnaryOp .USub (.Constant (.int 1) k p1) p2)) p3) pos) (lift E (dRev te)) := by
  refine peW (pe_revL he) ?_
  rintro σ H R ⟨tw, G0, H0, G, δ, Q, Ex, a, h, q⟩
  refine ⟨tw, G0, H0, G, δ, _, Ex, a, h, fun s v G1 H1 ⟨l, el, hq⟩ r ex => ?_⟩
  obtain ⟨b, vs, rfl, e1, w, z⟩ := r.list ex.gh el
  refine ⟨b, vs, rfl, .of e1, fun p hp => ?_⟩
  obtain ⟨x2, r2⟩ := put_own (H0 := H0) (ds := l.reverse) ex.ok hp w.reverse (by rw [List.length_reverse]; exact z)
  have r3 : VR tw H0 H G1 (upd H1 p (.lst vs.reverse)) (.ref p) (.own l.reverse) := by
    obtain ⟨a', vs', f1, f2, f3, f4, f5, f6⟩ := r2
    exact ⟨a', vs', f1, f2, f3, ex.free f4, f5, f6⟩
  exact q _ _ _ _ hq r3 (ex.trans x2)
end
theorem hu0 {k : Nat} {A : Around} (r : Room k A) : A.units < cLine := by have := r.un; omega
theorem hu1 {k : Nat} {A : Around} (r : Room k A) : A.units + 1 < cLine := by have := r.un; omega
theorem hu66 {k : Nat} {A : Around} (r : Room k A) : A.units + 66 < cLine := by have := r.un; omega
/-! ### the making of a search: the def's rule -/
abbrev NInit : List Str := ["self", "protocol", "caches", "start", "waiting", "further", "here", "step", "there"]
theorem fnInit {P : Program} {w : World} {K : PySem.W.Frag} {mg : Str → Option Value} {base : Heap} {c : Ct} {T : List (Addr × Str)} {C : Addr} {x qual : Str} {st : Stmt} {f : Addr} {fd : FuncData} {k : Nat} (F : Fun K x qual st f fd) (S : FnScope NInit ["self", "protocol", "caches"] (defScope st)) (cl : SCls K C)
    (hb : ∀ (cdv : Value) (A : Around) (outer : List PySem.Env) (s : Shared) (H : Hp) (E : XK), Room k (A.deeper (envOfC qual (defScope st) s.heap.objs.size f cdv)) → PSs (cxOf (L2.CX P w) P w K mg base NInit qual (defScope st) f cdv A outer s H E) (defBody st) (tInit K E (spD T (sp_first_of c)) (spD T (sp_moves c)))) :
    FnOk P w K mg base (L2.CX P w) (k + 1) f fd ["self", "protocol", "caches"] (spInit c T C) := by
  refine F.okX S (fun vs H Q E h => ?_) (fun cdv A outer s H vs Q E hroom h => ⟨_, hb cdv A outer s H E hroom, rd_init cl h⟩)
  obtain ⟨_, _, _, _, _, _, _, _, _, _, _, rfl, _⟩ := h
  rfl
end DL
/-! Fk: searching: reachable, distance, depth, quiet, way, run, trace. -/
namespace DL
open PySem PySem.Spec PyProof.Rows L2 PySem.W
local macro_rules
  | `(tactic| simp_arith only [$xs,*]) => `(tactic| simp only [sSeq, sNext, sExpr, sRet, sIf, sSet, sSetF, sAsg, sPar, sRaise, sFor, sApp, sExt, sPop, sItem, sAugI, sAug, sFrz, sMove, sBreak, sCont, gN, gT, gsNil, gsCons, dVar, vS_d, vS_own, vS_town, vS_v, vS_scr, fz_scr, dC, dOp, dCall, dCallK, daNil, daCons, dTup, dLst, dSl, doNone, doSome, dIf, dAnd, dOr, dNot, dNeg, dOne, dTwoI, dChain, dLc, bVal, bTru, bScr, dLenS, dIxS, dCount, dRest, sCount, sRest, bNot, bAnd, bOr, bYes, wInt2, wIntC, wAdd, wMul, wIx, wIn, wEqD, wIsN, oLen, oTuple, oList, oAll, oSum, oIsi, iSeq, iRng1D, iRng2D, iEnumD, iZipD, fz_d, fz_own, fz_town, fz_v, fz_abs, asDs, fzB, wipeD, asD_d, asD_own, asD_bor, asL_list, asL_tuple, asL_own, asL_bor, asL_int, asL_bool, asL_none, asS_list, asS_tuple, asS_own, asS_bor, tru_bool, tru_int, tru_none, tru_tuple, tru_list, tru_own, tru_bor, stO_d, stO_own, stO_town, stO_v, stO_abs, rtS_d, rtS_own, rtS_bor, rtS_v, rtS_abs, isN_none, isN_tuple, isN_int, isN_list, isN_bool, List.map_cons, List.map_nil, List.length_cons, List.length_nil, List.cons_append, List.nil_append, List.getElem?_cons_zero, List.getElem?_cons_succ, List.set_cons_zero, List.set_cons_succ, Option.map_some, Option.map_none, Option.some.injEq, SV.d.injEq, SV.own.injEq, PyData.int.injEq, PyData.bool.injEq, PyData.tuple.injEq, PyData.list.injEq, PyData.str.injEq, List.cons.injEq, exists_eq_left, exists_eq_left', exists_eq_right, exists_and_left, exists_and_right, exists_const, and_true, true_and, if_true, if_false, reduceCtorEq, false_or, or_false, false_and, and_false, Bool.not_true, Bool.not_false, Bool.false_eq_true, ite_true, ite_false, reduceIte, Bool.true_eq_false, Nat.reduceAdd, nc0, nc1, nc2, nc3, nc4, nc5, nc6, nc7, nc8, Int.reduceBEq, beq_self_eq_true, Bool.and_true, Bool.true_and, Bool.and_false, Bool.false_and, Nat.zero_add, $xs,*])
local macro_rules
  | `(tactic| simp_all_arith! [$xs,*]) => `(tactic| simp only [sSeq, sNext, sExpr, sRet, sIf, sSet, sSetF, sAsg, sPar, sRaise, sFor, sApp, sExt, sPop, sItem, sAugI, sAug, sFrz, sMove, sBreak, sCont, gN, gT, gsNil, gsCons, dVar, vS_d, vS_own, vS_town, vS_v, vS_scr, fz_scr, dC, dOp, dCall, dCallK, daNil, daCons, dTup, dLst, dSl, doNone, doSome, dIf, dAnd, dOr, dNot, dNeg, dOne, dTwoI, dChain, dLc, bVal, bTru, bScr, dLenS, dIxS, dCount, dRest, sCount, sRest, bNot, bAnd, bOr, bYes, wInt2, wIntC, wAdd, wMul, wIx, wIn, wEqD, wIsN, oLen, oTuple, oList, oAll, oSum, oIsi, iSeq, iRng1D, iRng2D, iEnumD, iZipD, fz_d, fz_own, fz_town, fz_v, fz_abs, asDs, fzB, wipeD, asD_d, asD_own, asD_bor, asL_list, asL_tuple, asL_own, asL_bor, asL_int, asL_bool, asL_none, asS_list, asS_tuple, asS_own, asS_bor, tru_bool, tru_int, tru_none, tru_tuple, tru_list, tru_own, tru_bor, stO_d, stO_own, stO_town, stO_v, stO_abs, rtS_d, rtS_own, rtS_bor, rtS_v, rtS_abs, isN_none, isN_tuple, isN_int, isN_list, isN_bool, sItem2, wInT, oDictT, dGetT1, dDK2, sUpd, dIsX, iKeysL, dGetK, sSetLcL, dRes, noOwnE, noOwn, SV.ow.injEq, SV.bo.injEq, SV.fo.injEq, OC.dK.injEq, OC.dKl.injEq, OC.dT.injEq, OC.dTl.injEq, OC.exc.injEq, vS_ow, vS_fo, stO_ow, fz_ow, fz_fo, List.map_cons, List.map_nil, List.length_cons, List.length_nil, List.cons_append, List.nil_append, List.getElem?_cons_zero, List.getElem?_cons_succ, List.set_cons_zero, List.set_cons_succ, Option.map_some, Option.map_none, Option.some.injEq, SV.d.injEq, SV.own.injEq, PyData.int.injEq, PyData.bool.injEq, PyData.tuple.injEq, PyData.list.injEq, PyData.str.injEq, List.cons.injEq, exists_eq_left, exists_eq_left', exists_eq_right, exists_and_left, exists_and_right, exists_const, and_true, true_and, if_true, if_false, reduceCtorEq, false_or, or_false, false_and, and_false, Bool.not_true, Bool.not_false, Bool.false_eq_true, ite_true, ite_false, reduceIte, Bool.true_eq_false, Nat.reduceAdd, nc0, nc1, nc2, nc3, nc4, nc5, nc6, nc7, nc8, Int.reduceBEq, beq_self_eq_true, Bool.and_true, Bool.true_and, Bool.and_false, Bool.false_and, Nat.zero_add, atI_0, List.flatten_replicate_singleton, Int.toNat_natCast, List.length_replicate, Option.some.injEq, List.singleton_append, dFS, dFD, dFB, dSrch, dMethS, vS_srch, fz_srch, stO_srch, dt_ow, dt_bo, dt_fo, dt_bl, dt_fl, oSort, oMax, oMin, dMaxV, dGetT, dIxT, dDispT, dNewT, sPutT, wInD, dRev, iKeysT, dLockT, sForV, $xs,*])
/-! ### loops and comprehensions over what is written of a plain list -/
theorem lcR_E {α : Type} {g : DG} {tt : DB} {te : DT} {δ : Env} (enc : α → PyData) (f : α → Option PyData) : ∀ (l : List α) {Q : List PyData → Prop}, (∀ a ∈ l, ∀ k : Option PyData → Prop, k (f a) → lcT g tt te δ (enc a) k) → Q (l.filterMap f) → lcR g tt te δ (l.map enc) Q
  | [], Q, _, q => q
  | x :: xs, Q, h, q => by
    rw [List.map_cons, lcR_cons]
    refine h x List.mem_cons_self _ ?_
    cases e : f x with
    | none =>
      rw [List.filterMap_cons, e] at q
      exact lcR_E enc f xs (fun y hy => h y (List.mem_cons_of_mem _ hy)) q
    | some d =>
      rw [List.filterMap_cons, e] at q
      exact lcR_E enc f xs (fun y hy => h y (List.mem_cons_of_mem _ hy)) q
theorem lcR_mapE {α : Type} {g : DG} {tt : DB} {te : DT} {δ : Env} (enc f : α → PyData) (l : List α) {Q : List PyData → Prop} (h : ∀ a ∈ l, ∀ k : Option PyData → Prop, k (some (f a)) → lcT g tt te δ (enc a) k) (q : Q (l.map f)) : lcR g tt te δ (l.map enc) Q := by
  refine lcR_E enc (fun a => some (f a)) l h ?_
  have e : l.filterMap (fun a => some (f a)) = l.map f := by
    induction l with
    | nil => rfl
    | cons x xs ih => simp [List.filterMap_cons]
  rw [e]
  exact q
theorem lcR_keepE {α : Type} {g : DG} {tt : DB} {te : DT} {δ : Env} (enc : α → PyData) (b : α → Bool) (l : List α) {Q : List PyData → Prop} (h : ∀ a ∈ l, ∀ k : Option PyData → Prop, k (if b a = true then some (enc a) else none) → lcT g tt te δ (enc a) k) (q : Q ((l.filter b).map enc)) : lcR g tt te δ (l.map enc) Q := by
  refine lcR_E enc (fun a => if b a = true then some (enc a) else none) l h ?_
  have e : ∀ l : List α, l.filterMap (fun a => if b a = true then some (enc a) else none) = (l.filter b).map enc := fun l => by
    induction l with
    | nil => rfl
    | cons x xs ih =>
      rw [List.filterMap_cons, List.filter_cons]
      split
      · rename_i h1
        split at h1
        · cases h1
        · rename_i h2
          rw [if_neg h2, ih]
      · rename_i h1
        split at h1
        · rename_i h2
          cases h1
          rw [if_pos h2, List.map_cons, ih]
        · cases h1
  rw [e]
  exact q
theorem forR_E {α : Type} {g : DG} {tb : DS} {De : DE} {Ex : XP} (enc : α → PyData) (I : List α → Env → Prop) : ∀ (xs pre : List α) (δ : Env), I pre δ →
    (∀ (p : List α) (x : α) (r : List α) (δ : Env) (k : Env → Prop), pre ++ xs = p ++ x :: r → I p δ → (∀ δ', I (p ++ [x]) δ' → k δ') → g (enc x) δ fun δ1 => tb { De with nx := k, ct := k, bk := De.nx } δ1 Ex) →
    (∀ δ', I (pre ++ xs) δ' → De.nx δ') → forR g tb (xs.map enc) De δ Ex
  | [], pre, δ, h, _, e => by
    rw [List.append_nil] at e
    exact e δ h
  | x :: xs, pre, δ, h, t, e => by
    rw [List.map_cons, forR_cons]
    refine t pre x xs δ (fun δ2 => forR g tb (xs.map enc) De δ2 Ex) rfl h fun δ' h' => ?_
    refine forR_E enc I xs (pre ++ [x]) δ' h' (fun p y r δ k hp => ?_) (fun δ2 h2 => ?_)
    · exact t p y r δ k (by rw [← hp, List.append_assoc]; rfl)
    · refine e δ2 ?_
      rw [List.append_assoc] at h2
      exact h2
theorem natsD_cons {ns : List Nat} (h : 0 < ns.length) : ∃ x r, natsD ns = .tuple (x :: r) := by
  cases ns with
  | nil => exact absurd h (Nat.lt_irrefl _)
  | cons n ns => exact ⟨_, _, rfl⟩
theorem alike_nats (a b : List Nat) : alike (natsD a) (natsD b) = true := by
  unfold natsD
  rw [nats_ints, nats_ints]
  show alikeAll _ _ = true
  exact alike_ints _ _
theorem alike_natsL (l : List (List Nat)) : AllAlike (l.map natsD) := .of alike_nats
theorem sort_natsL {l : List (List Nat)} (h : ∀ ns ∈ l, 0 < ns.length) : Sortable (l.map natsD) := .inl fun d hd => by
  obtain ⟨ns, hn, rfl⟩ := List.mem_map.mp hd
  exact natsD_cons (h ns hn)
/-- configurations, ascending -/
def sortN (l : List (List Nat)) : List (List Nat) := l.mergeSort (dataLe false natsD)
theorem srtD_nats (l : List (List Nat)) : srtD (l.map natsD) = (sortN l).map natsD := by
  unfold srtD sortN
  exact (List.map_mergeSort (f := natsD) (l := l) (r := dataLe false natsD) (s := dataLe false id) fun _ _ _ _ => rfl).symm
theorem mem_sortN {l : List (List Nat)} {ns : List Nat} : ns ∈ sortN l ↔ ns ∈ l := List.mem_mergeSort
theorem dist_keys (known : List (List Nat × Nat)) : (distKV known).map (fun p => keyTD p.1) = (known.map (·.1)).map natsD := by
  unfold distKV
  rw [List.map_map, List.map_map]
  exact List.map_congr_left fun x _ => natsK_d _
/-- the configurations that are found, ascending -/
def foundN (p : Pr) (n : Nat) : List (List Nat) := sortN ((bfs p (firstN p.m n)).known.map (·.1))
theorem found_conf {p : Pr} (hp : p.Ok) {n : Nat} {ns : List Nat} (h : ns ∈ foundN p n) : ns.length = p.m ∧ ns.sum = n := by
  obtain ⟨f1, f2⟩ := first_facts hp n
  have := (bfs_ok hp f1).1.conf ns (mem_sortN.mp h)
  rw [f2] at this
  exact this
theorem known_conf {p : Pr} (hp : p.Ok) {n : Nat} : Confs p.m n ((bfs p (firstN p.m n)).known.map (·.1)) := by
  obtain ⟨f1, f2⟩ := first_facts hp n
  have := (bfs_ok hp f1).1.conf
  rw [f2] at this
  exact this
theorem known_len {p : Pr} (hp : p.Ok) {n : Nat} (hn : n ≤ 8) : (bfs p (firstN p.m n)).known.length ≤ 60000 := by
  obtain ⟨f1, f2⟩ := first_facts hp n
  have := (bfs_ok hp f1).1.len
  rw [f2] at this
  exact Nat.le_trans this (nine_pow hn hp.hi)
/-- sorted(distances) -/
theorem use_sortKT {p : Pr} (hp : p.Ok) {n : Nat} {s : SV} {Q : SV → Prop} (hs : dtOf s = some (distKV (bfs p (firstN p.m n)).known)) (q : Q (.own ((foundN p n).map natsD))) : oSortKT s Q := by
  have hc := known_conf hp (n := n)
  have hlo := hp.lo
  have hhi := hp.hi
  refine ⟨_, hs, fun x hx => ?_, ?_, ?_, ?_⟩
  · unfold distKV at hx
    obtain ⟨y, hy, rfl⟩ := List.mem_map.mp hx
    have := (hc y.1 (List.mem_map.mpr ⟨y, hy, rfl⟩)).1
    show (natsK y.1).length ≤ sizeLine
    rw [natsK_len]
    exact line1000 (by omega)
  · rw [dist_keys]; exact alike_natsL _
  · rw [dist_keys]; exact sort_natsL fun ns hn => by have := (hc ns hn).1; omega
  · rw [dist_keys, srtD_nats]; exact q
/-! ### reachable, depth, quiet: a protocol, a number -/
def sp_numbered (c : Ct) (f : Pr → Nat → PyData) : Spec := fun ss Q Ex => match ss with
  | [.d p, .d v] => (isProtocol p = false ∧ Ex (.ref (c.cls "InvalidProtocol"))) ∨ ∃ q : Pr, p = q.enc ∧ q.Ok ∧ ((isBetween v 1 8 = false ∧ Ex (.ref (c.cls "InvalidNumber"))) ∨ ∃ n : Nat, v = .int (n : Int) ∧ 1 ≤ n ∧ n ≤ 8 ∧ Q (.d (f q n)))
  | _ => False
theorem len_numbered {c : Ct} {f : Pr → Nat → PyData} {ss : List SV} {Q : SV → Prop} {Ex : XP} (h : sp_numbered c f ss Q Ex) : ss.length = 2 := by
  unfold sp_numbered at h
  split at h
  · rfl
  · exact h.elim
def reachD (p : Pr) (n : Nat) : PyData := .tuple ((foundN p n).map natsD)
def sp_reachable (c : Ct) : Spec := sp_numbered c reachD
theorem len_reachable {c : Ct} {ss : List SV} {Q : SV → Prop} {Ex : XP} (h : sp_reachable c ss Q Ex) : ss.length = 2 := len_numbered h
def t_reachable (c : Ct) : DS :=
  (sSeq (sExpr (dCall (sp_check_protocol c) (daCons (dVar 0) daNil)))
  (sSeq (sExpr (dCall (sp_check_number c) (daCons (dVar 1) daNil)))
  (sRet (dOne oTuple (dOne oSortKT (dFD (c.cls "Search") (dSrch (c.cls "Search") (daCons (dVar 0) (daCons (dVar 1) daNil)))))))))
theorem rd_reachable (c : Ct) (ss : List SV) (Q : SV → Prop) (Ex : XP) (h : sp_reachable c ss Q Ex) : t_reachable c { nx := fun _ => Q (.d .none), rt := Q } (startD 2 ss) Ex := by
  unfold sp_reachable sp_numbered at h
  split at h
  · rename_i p v
    show t_reachable c _ [some (.d p), some (.d v)] Ex
    unfold t_reachable
    refine seqK fun K hK => ?_
    simp_arith only [at_check_protocol]
    rcases h with ⟨h1, h2⟩ | ⟨q, rfl, hq, h⟩
    · rw [if_neg (by rw [h1]; decide)]
      exact h2
    rw [if_pos ((isP_enc q).mpr hq)]
    refine hK _ ?_
    clear hK K
    refine seqK fun K hK => ?_
    simp_arith only [at_check_number]
    rcases h with ⟨h1, h2⟩ | ⟨n, rfl, h1, h2, h3⟩
    · rw [if_neg (by rw [h1]; decide)]
      exact h2
    rw [if_pos (by simp only [isBetween, Bool.and_eq_true, decide_eq_true_eq]; omega)]
    refine hK _ ?_
    clear hK K
    simp_all_arith! []
    refine use_mkS hq h2 (use_inS (use_sortKT hq rfl ?_))
    simp_all_arith! []
    exact h3
  · exact h.elim
/-- the greatest of some -/
def maxN (l : List Nat) : Nat := l.foldl max 0
theorem maxN_ge : ∀ (l : List Nat) (a : Nat), a ≤ l.foldl max a ∧ ∀ x ∈ l, x ≤ l.foldl max a
  | [], a => ⟨Nat.le_refl _, fun _ z => nomatch z⟩
  | y :: l, a => by
    obtain ⟨h1, h2⟩ := maxN_ge l (max a y)
    rw [List.foldl_cons]
    refine ⟨by omega, fun x hx => ?_⟩
    rcases List.mem_cons.mp hx with rfl | hx
    · omega
    · exact h2 x hx
theorem maxN_mem : ∀ (l : List Nat) (a : Nat), l.foldl max a = a ∨ l.foldl max a ∈ l
  | [], a => .inl rfl
  | y :: l, a => by
    rw [List.foldl_cons]
    rcases maxN_mem l (max a y) with h | h
    · by_cases hy : a ≤ y
      · rw [h, Nat.max_eq_right hy]; exact .inr List.mem_cons_self
      · rw [h, Nat.max_eq_left (by omega)]; exact .inl rfl
    · exact .inr (List.mem_cons_of_mem _ h)
theorem maxN_eq {l : List Nat} (m : Nat) (h : m ∈ l) (hm : ∀ x ∈ l, x ≤ m) : m = maxN l := by
  have h1 := (maxN_ge l 0).2 m h
  have h2 : maxN l ≤ m := by
    rcases maxN_mem l 0 with e | e
    · unfold maxN; rw [e]; exact Nat.zero_le _
    · exact hm _ e
  exact Nat.le_antisymm h1 h2
def depthN (p : Pr) (n : Nat) : Nat := maxN ((bfs p (firstN p.m n)).known.map (·.2))
theorem dist_vals (known : List (List Nat × Nat)) : (distKV known).map (·.2) = (known.map fun x => (x.2 : Int)).map .int := by
  unfold distKV
  rw [List.map_map, List.map_map]
  rfl
theorem bfs_init {p : Pr} (hp : p.Ok) (n : Nat) : firstN p.m n ∈ (bfs p (firstN p.m n)).known.map (·.1) := by
  have go : ∀ (k : Nat) (s : Bf) (x : List Nat), x ∈ s.known.map (fun y => y.1) → x ∈ (bfRun p k s).known.map (fun y => y.1) := by
    intro k
    induction k with
    | zero => exact fun s x h => h
    | succ k ih =>
      intro s x h
      unfold bfRun
      split
      · exact h
      · refine ih _ x ?_
        have step : ∀ (here : List Nat) (y : Stp × List Nat) (s : Bf), x ∈ s.known.map (·.1) → x ∈ (bfStep here s y).known.map (·.1) := fun here y s h => by
          unfold bfStep
          split
          · exact h
          · show x ∈ (s.known ++ [(y.2, distOf s.known here + 1)]).map (·.1)
            rw [List.map_append]
            exact List.mem_append_left _ h
        have st : ∀ (here : List Nat) (l : List (Stp × List Nat)) (s : Bf), x ∈ s.known.map (·.1) → x ∈ (l.foldl (bfStep here) s).known.map (·.1) := fun here l => by
          induction l with
          | nil => exact fun s h => h
          | cons y l ih2 => exact fun s h => ih2 _ (step here y s h)
        have lv : ∀ (l : List (List Nat)) (s : Bf), x ∈ s.known.map (·.1) → x ∈ (l.foldl (bfHere p) s).known.map (·.1) := fun l => by
          induction l with
          | nil => exact fun s h => h
          | cons y l ih2 => exact fun s h => ih2 _ (st y _ s h)
        exact lv s.next { s with next := [] } h
  exact go _ _ _ (by simp [bfInit])
theorem use_maxV {p : Pr} (hp : p.Ok) {n : Nat} {s : SV} {Q : SV → Prop} (hs : dtOf s = some (distKV (bfs p (firstN p.m n)).known)) (q : Q (.d (.int (depthN p n : Int)))) :
    oMaxV s Q := by
  refine ⟨_, hs, _, dist_vals _, fun z => ?_, fun m hm hj => ?_⟩
  · have := bfs_init hp n
    rw [List.map_eq_nil_iff.mp z] at this
    cases this
  · obtain ⟨x, hx, rfl⟩ := List.mem_map.mp hm
    have : x.2 = depthN p n := maxN_eq x.2 (List.mem_map.mpr ⟨x, hx, rfl⟩) fun y hy => by
      obtain ⟨z, hz, rfl⟩ := List.mem_map.mp hy
      have := hj _ (List.mem_map.mpr ⟨z, hz, rfl⟩)
      omega
    rw [this]
    exact q
def sp_depth (c : Ct) : Spec := sp_numbered c fun p n => .int (depthN p n : Int)
theorem len_depth {c : Ct} {ss : List SV} {Q : SV → Prop} {Ex : XP} (h : sp_depth c ss Q Ex) : ss.length = 2 := len_numbered h
def t_depth (c : Ct) : DS :=
  (sSeq (sExpr (dCall (sp_check_protocol c) (daCons (dVar 0) daNil)))
  (sSeq (sExpr (dCall (sp_check_number c) (daCons (dVar 1) daNil)))
  (sRet (dMaxV (dFD (c.cls "Search") (dSrch (c.cls "Search") (daCons (dVar 0) (daCons (dVar 1) daNil))))))))
theorem rd_depth (c : Ct) (ss : List SV) (Q : SV → Prop) (Ex : XP) (h : sp_depth c ss Q Ex) : t_depth c { nx := fun _ => Q (.d .none), rt := Q } (startD 2 ss) Ex := by
  unfold sp_depth sp_numbered at h
  split at h
  · rename_i p v
    show t_depth c _ [some (.d p), some (.d v)] Ex
    unfold t_depth
    refine seqK fun K hK => ?_
    simp_arith only [at_check_protocol]
    rcases h with ⟨h1, h2⟩ | ⟨q, rfl, hq, h⟩
    · rw [if_neg (by rw [h1]; decide)]
      exact h2
    rw [if_pos ((isP_enc q).mpr hq)]
    refine hK _ ?_
    clear hK K
    refine seqK fun K hK => ?_
    simp_arith only [at_check_number]
    rcases h with ⟨h1, h2⟩ | ⟨n, rfl, h1, h2, h3⟩
    · rw [if_neg (by rw [h1]; decide)]
      exact h2
    rw [if_pos (by simp only [isBetween, Bool.and_eq_true, decide_eq_true_eq]; omega)]
    refine hK _ ?_
    clear hK K
    simp_arith only [dFD, dSrch, dMaxV]
    exact use_mkS hq h2 (use_inS (use_maxV hq rfl h3))
  · exact h.elim
theorem asS_nats (ns : List Nat) : asS (.d (natsD ns)) = some ((ns.map fun n : Nat => (n : Int)).map .int) := by
  rw [← nats_ints]
  rfl
theorem use_sumN {ns : List Nat} {Q : SV → Prop} (q : Q (.d (.int ((ns.sum : Nat) : Int)))) : oSum (.d (natsD ns)) Q := by
  refine ⟨_, asS_nats ns, ?_⟩
  rw [nats_sum]
  exact q
/-- distance()'s answer -/
def distD (p : Pr) (ns : List Nat) : PyData := (getD (distKV (bfs p (firstN p.m ns.sum)).known) (natsK ns)).getD .none
def sp_distance (c : Ct) : Spec := fun ss Q Ex => match ss with
  | [.d p, .d v] => (isProtocol p = false ∧ Ex (.ref (c.cls "InvalidProtocol"))) ∨ ∃ q : Pr, p = q.enc ∧ q.Ok ∧ ((isConf q.m v = false ∧ Ex (.ref (c.cls "InvalidConfiguration"))) ∨ ∃ ns, v = natsD ns ∧ isConf q.m v = true ∧ Q (.d (distD q ns)))
  | _ => False
def t_distance (c : Ct) : DS :=
  (sSeq (sExpr (dCall (sp_check_protocol c) (daCons (dVar 0) daNil)))
  (sSeq (sExpr (dCall (sp_check_configuration c) (daCons (dVar 0) (daCons (dVar 1) daNil))))
  (sRet (dGetT (dFD (c.cls "Search") (dSrch (c.cls "Search") (daCons (dVar 0) (daCons (dOne oSum (dVar 1)) daNil)))) (dVar 1)))))
theorem rd_distance (c : Ct) (ss : List SV) (Q : SV → Prop) (Ex : XP) (h : sp_distance c ss Q Ex) : t_distance c { nx := fun _ => Q (.d .none), rt := Q } (startD 2 ss) Ex := by
  unfold sp_distance at h
  split at h
  · rename_i p v
    show t_distance c _ [some (.d p), some (.d v)] Ex
    unfold t_distance
    refine seqK fun K hK => ?_
    simp_arith only [at_check_protocol]
    rcases h with ⟨h1, h2⟩ | ⟨q, rfl, hq, h⟩
    · rw [if_neg (by rw [h1]; decide)]
      exact h2
    rw [if_pos ((isP_enc q).mpr hq)]
    refine hK _ ?_
    clear hK K
    refine seqK fun K hK => ?_
    rw [enc_eq]
    simp_arith only [at_check_configuration]
    rcases h with ⟨h1, h2⟩ | ⟨ns, rfl, h1, h2⟩
    · rw [if_neg (by rw [h1]; decide)]
      exact h2
    rw [if_pos h1]
    refine hK _ ?_
    clear hK K
    obtain ⟨hl, _, h8⟩ := (isConf_nats ns).mp h1
    rw [← enc_eq]
    simp only [sRet, dGetT, dFD, dSrch, daCons, daNil, dVar, dOne, vS_d, fz_d, List.getElem?_cons_zero, List.getElem?_cons_succ]
    refine use_sumN ?_
    simp only [fz_d]
    refine use_mkS hq h8 (use_inS ⟨_, rfl, natsK ns, by rw [natsK_d], ?_⟩)
    exact h2
  · exact h.elim
theorem ite_k {α : Type} {b : Bool} {k : α → Prop} {x y : α} : (if b = true then k x else k y) = k (if b = true then x else y) := by cases b <;> rfl
/-- quiet()'s answer -/
def quietN (p : Pr) (n : Nat) : List (List Nat) := (foundN p n).filter fun ns => !(p.rules.any (isPossibleN ns))
def sp_quiet (c : Ct) : Spec := sp_numbered c fun p n => .tuple ((quietN p n).map natsD)
theorem len_quiet {c : Ct} {ss : List SV} {Q : SV → Prop} {Ex : XP} (h : sp_quiet c ss Q Ex) : ss.length = 2 := len_numbered h
def t_quiet (c : Ct) : DS :=
  (sSeq (sExpr (dCall (sp_check_protocol c) (daCons (dVar 0) daNil)))
  (sSeq (sExpr (dCall (sp_check_number c) (daCons (dVar 1) daNil)))
  (sSeq (sSetF 2 (dOne oSortKT (dFD (c.cls "Search") (dSrch (c.cls "Search") (daCons (dVar 0) (daCons (dVar 1) daNil))))))
  (sRet (dOne oTuple (dLc (iSeq (dVar 2)) (gN 3) (bNot (bTru (dOne (oAll fun bs => bs.any id) (dLc (iSeq (dOp wIx (dVar 0) (dC (.d (.int 1))))) (gN 4) bYes (dCall (sp_is_possible c) (daCons (dVar 3) (daCons (dVar 4) daNil))) [4])))) (dVar 3) [3]))))))
theorem rd_quiet (c : Ct) (ss : List SV) (Q : SV → Prop) (Ex : XP) (h : sp_quiet c ss Q Ex) : t_quiet c { nx := fun _ => Q (.d .none), rt := Q } (startD 5 ss) Ex := by
  unfold sp_quiet sp_numbered at h
  split at h
  · rename_i p v
    show t_quiet c _ [some (.d p), some (.d v), none, none, none] Ex
    unfold t_quiet
    refine seqK fun K hK => ?_
    simp_arith only [at_check_protocol]
    rcases h with ⟨h1, h2⟩ | ⟨q, rfl, hq, h⟩
    · rw [if_neg (by rw [h1]; decide)]
      exact h2
    rw [if_pos ((isP_enc q).mpr hq)]
    refine hK _ ?_
    clear hK K
    refine seqK fun K hK => ?_
    simp_arith only [at_check_number]
    rcases h with ⟨h1, h2⟩ | ⟨n, rfl, h1, h2, h3⟩
    · rw [if_neg (by rw [h1]; decide)]
      exact h2
    rw [if_pos (by simp only [isBetween, Bool.and_eq_true, decide_eq_true_eq]; omega)]
    refine hK _ ?_
    clear hK K
    refine seqK fun K hK => ?_
    simp_all_arith! []
    refine use_mkS hq h2 (use_inS (use_sortKT hq rfl ?_))
    simp_all_arith! []
    refine hK _ ?_
    clear hK K
    simp_all_arith! []
    refine lcR_keepE natsD (fun ns => !(q.rules.any (isPossibleN ns))) _ (fun ns hns k hk => ?_) ?_
    · obtain ⟨hl, _⟩ := found_conf hq hns
      rw [enc_eq]
      simp_all_arith! [lcT]
      refine ⟨_, rfl, _, rfl, ?_⟩
      refine lcR_mapE Rl.enc (fun r => .bool (isPossibleN ns r)) q.rules (fun r hr k2 hk2 => ?_) ?_
      · simp_all_arith! [lcT]
        refine use_is_possible (hq.rules r hr) hl (by have := hq.hi; omega) ?_
        simp_all_arith! []
        exact hk2
      · refine ⟨q.rules.map (isPossibleN ns), by rw [List.map_map]; rfl, ?_⟩
        have e : (q.rules.map (isPossibleN ns)).any id = q.rules.any (isPossibleN ns) := by rw [List.any_map]; rfl
        rw [e, ite_k]
        exact hk
    · exact h3
  · exact h.elim
end DL
/-! Fl: traces walked: way, run. -/
namespace DL
open PySem PySem.Spec PyProof.Rows L2 PySem.W
local macro_rules
  | `(tactic| simp_arith [$xs,*]) => `(tactic| simp only [List.map_cons, List.map_nil, List.length_cons, List.length_nil, List.cons_append, List.nil_append, List.getElem?_cons_zero, List.getElem?_cons_succ, List.set_cons_zero, List.set_cons_succ, Option.map_some, Option.map_none, Option.some.injEq, SV.d.injEq, SV.own.injEq, PyData.int.injEq, PyData.bool.injEq, PyData.tuple.injEq, PyData.list.injEq, PyData.str.injEq, List.cons.injEq, exists_eq_left, exists_eq_left', exists_eq_right, exists_and_left, exists_and_right, exists_const, and_true, true_and, if_true, if_false, reduceCtorEq, false_or, or_false, false_and, and_false, Bool.not_true, Bool.not_false, Bool.false_eq_true, ite_true, ite_false, reduceIte, Bool.true_eq_false, Nat.reduceAdd, nc0, nc1, nc2, nc3, nc4, nc5, nc6, nc7, nc8, Int.reduceBEq, beq_self_eq_true, Bool.and_true, Bool.true_and, Bool.and_false, Bool.false_and, Nat.zero_add, $xs,*])
local macro_rules
  | `(tactic| simp_arith only [$xs,*]) => `(tactic| simp only [sSeq, sNext, sExpr, sRet, sIf, sSet, sSetF, sAsg, sPar, sRaise, sFor, sApp, sExt, sPop, sItem, sAugI, sAug, sFrz, sMove, sBreak, sCont, gN, gT, gsNil, gsCons, dVar, vS_d, vS_own, vS_town, vS_v, vS_scr, fz_scr, dC, dOp, dCall, dCallK, daNil, daCons, dTup, dLst, dSl, doNone, doSome, dIf, dAnd, dOr, dNot, dNeg, dOne, dTwoI, dChain, dLc, bVal, bTru, bScr, dLenS, dIxS, dCount, dRest, sCount, sRest, bNot, bAnd, bOr, bYes, wInt2, wIntC, wAdd, wMul, wIx, wIn, wEqD, wIsN, oLen, oTuple, oList, oAll, oSum, oIsi, iSeq, iRng1D, iRng2D, iEnumD, iZipD, fz_d, fz_own, fz_town, fz_v, fz_abs, asDs, fzB, wipeD, asD_d, asD_own, asD_bor, asL_list, asL_tuple, asL_own, asL_bor, asL_int, asL_bool, asL_none, asS_list, asS_tuple, asS_own, asS_bor, tru_bool, tru_int, tru_none, tru_tuple, tru_list, tru_own, tru_bor, stO_d, stO_own, stO_town, stO_v, stO_abs, rtS_d, rtS_own, rtS_bor, rtS_v, rtS_abs, isN_none, isN_tuple, isN_int, isN_list, isN_bool, List.map_cons, List.map_nil, List.length_cons, List.length_nil, List.cons_append, List.nil_append, List.getElem?_cons_zero, List.getElem?_cons_succ, List.set_cons_zero, List.set_cons_succ, Option.map_some, Option.map_none, Option.some.injEq, SV.d.injEq, SV.own.injEq, PyData.int.injEq, PyData.bool.injEq, PyData.tuple.injEq, PyData.list.injEq, PyData.str.injEq, List.cons.injEq, exists_eq_left, exists_eq_left', exists_eq_right, exists_and_left, exists_and_right, exists_const, and_true, true_and, if_true, if_false, reduceCtorEq, false_or, or_false, false_and, and_false, Bool.not_true, Bool.not_false, Bool.false_eq_true, ite_true, ite_false, reduceIte, Bool.true_eq_false, Nat.reduceAdd, nc0, nc1, nc2, nc3, nc4, nc5, nc6, nc7, nc8, Int.reduceBEq, beq_self_eq_true, Bool.and_true, Bool.true_and, Bool.and_false, Bool.false_and, Nat.zero_add, $xs,*])
local macro_rules
  | `(tactic| simp_all_arith! [$xs,*]) => `(tactic| simp only [sSeq, sNext, sExpr, sRet, sIf, sSet, sSetF, sAsg, sPar, sRaise, sFor, sApp, sExt, sPop, sItem, sAugI, sAug, sFrz, sMove, sBreak, sCont, gN, gT, gsNil, gsCons, dVar, vS_d, vS_own, vS_town, vS_v, vS_scr, fz_scr, dC, dOp, dCall, dCallK, daNil, daCons, dTup, dLst, dSl, doNone, doSome, dIf, dAnd, dOr, dNot, dNeg, dOne, dTwoI, dChain, dLc, bVal, bTru, bScr, dLenS, dIxS, dCount, dRest, sCount, sRest, bNot, bAnd, bOr, bYes, wInt2, wIntC, wAdd, wMul, wIx, wIn, wEqD, wIsN, oLen, oTuple, oList, oAll, oSum, oIsi, iSeq, iRng1D, iRng2D, iEnumD, iZipD, fz_d, fz_own, fz_town, fz_v, fz_abs, asDs, fzB, wipeD, asD_d, asD_own, asD_bor, asL_list, asL_tuple, asL_own, asL_bor, asL_int, asL_bool, asL_none, asS_list, asS_tuple, asS_own, asS_bor, tru_bool, tru_int, tru_none, tru_tuple, tru_list, tru_own, tru_bor, stO_d, stO_own, stO_town, stO_v, stO_abs, rtS_d, rtS_own, rtS_bor, rtS_v, rtS_abs, isN_none, isN_tuple, isN_int, isN_list, isN_bool, sItem2, wInT, oDictT, dGetT1, dDK2, sUpd, dIsX, iKeysL, dGetK, sSetLcL, dRes, noOwnE, noOwn, SV.ow.injEq, SV.bo.injEq, SV.fo.injEq, OC.dK.injEq, OC.dKl.injEq, OC.dT.injEq, OC.dTl.injEq, OC.exc.injEq, vS_ow, vS_fo, stO_ow, fz_ow, fz_fo, List.map_cons, List.map_nil, List.length_cons, List.length_nil, List.cons_append, List.nil_append, List.getElem?_cons_zero, List.getElem?_cons_succ, List.set_cons_zero, List.set_cons_succ, Option.map_some, Option.map_none, Option.some.injEq, SV.d.injEq, SV.own.injEq, PyData.int.injEq, PyData.bool.injEq, PyData.tuple.injEq, PyData.list.injEq, PyData.str.injEq, List.cons.injEq, exists_eq_left, exists_eq_left', exists_eq_right, exists_and_left, exists_and_right, exists_const, and_true, true_and, if_true, if_false, reduceCtorEq, false_or, or_false, false_and, and_false, Bool.not_true, Bool.not_false, Bool.false_eq_true, ite_true, ite_false, reduceIte, Bool.true_eq_false, Nat.reduceAdd, nc0, nc1, nc2, nc3, nc4, nc5, nc6, nc7, nc8, Int.reduceBEq, beq_self_eq_true, Bool.and_true, Bool.true_and, Bool.and_false, Bool.false_and, Nat.zero_add, atI_0, List.flatten_replicate_singleton, Int.toNat_natCast, List.length_replicate, Option.some.injEq, List.singleton_append, dFS, dFD, dFB, dSrch, dMethS, vS_srch, fz_srch, stO_srch, dt_ow, dt_bo, dt_fo, dt_bl, dt_fl, oSort, oMax, oMin, dMaxV, dGetT, dIxT, dDispT, dNewT, sPutT, wInD, dRev, iKeysT, dLockT, sForV, $xs,*])
/-- the configuration behind a step, if there is one -/
def movN (p : Pr) (ns : List Nat) (v : PyData) : Option (List Nat) := if isStepShape v = true then ((movesN p ns).find? fun x => decide (x.1.key = keyOf v)).map (·.2) else none
theorem getD_map {α : Type} {f : α → List Key × PyData} {k : List Key} : ∀ l : List α, getD (l.map f) k = (l.find? fun x => decide ((f x).1 = k)).map fun x => (f x).2
  | [] => rfl
  | x :: l => by
    have ih := getD_map (f := f) (k := k) l
    unfold getD at ih ⊢
    rw [List.map_cons, List.find?_cons, List.find?_cons]
    by_cases h : (f x).1 = k
    · rw [decide_eq_true h]; rfl
    · rw [decide_eq_false h]; exact ih
theorem movedN_eq (p : Pr) (ns : List Nat) (v : PyData) : movedN p ns v = match movN p ns v with | none => .none | some x => natsD x := by
  unfold movedN movN
  by_cases e : isStepShape v = true
  · rw [if_pos e, if_pos e, merge_moves, getD_map]
    show ((List.find? (fun x => decide (x.1.key = DL.keyOf v)) (movesN p ns)).map fun x => natsD x.2).getD .none = _
    cases List.find? (fun x => decide (x.1.key = DL.keyOf v)) (movesN p ns) <;> rfl
  · rw [if_neg e, if_neg e]
theorem movN_mem {p : Pr} {ns : List Nat} {v : PyData} {x : List Nat} (h : movN p ns v = some x) : ∃ y ∈ movesN p ns, y.2 = x ∧ y.1.key = keyOf v := by
  unfold movN at h
  split at h
  · obtain ⟨y, hy, rfl⟩ := Option.map_eq_some_iff.mp h
    exact ⟨y, List.mem_of_find?_eq_some hy, rfl, by have := List.find?_some hy; exact of_decide_eq_true this⟩
  · cases h
theorem movN_conf {p : Pr} (hp : p.Ok) {ns : List Nat} {v : PyData} {x : List Nat} (hl : ns.length = p.m) (h : movN p ns v = some x) : x.length = p.m ∧ x.sum = ns.sum := by
  obtain ⟨y, hy, rfl, _⟩ := movN_mem h
  exact moves_facts hp hl hy
theorem movN_step {p : Pr} {ns : List Nat} {x : Stp × List Nat} (h : x ∈ movesN p ns) : movN p ns x.1.enc = some x.2 := by
  have := movedN_step p ns x h
  rw [movedN_eq] at this
  split at this
  · cases this
  · rename_i y e
    rw [e]
    congr 1
    exact natsK_inj (keyTD_inj (by rw [natsK_d, natsK_d]; exact this))
/-- the configurations along a trace -/
def wlk (p : Pr) (o : Option (List (List Nat))) (v : PyData) : Option (List (List Nat)) := o.bind fun l => (movN p (l.getLastD []) v).map fun nx => l ++ [nx]
def walkN (p : Pr) (cur : List Nat) (vs : List PyData) : Option (List (List Nat)) := vs.foldl (wlk p) (some [cur])
theorem wlk_none (p : Pr) : ∀ vs : List PyData, vs.foldl (wlk p) none = none
  | [] => rfl
  | v :: vs => wlk_none p vs
theorem walkN_snoc (p : Pr) (cur : List Nat) (vs : List PyData) (v : PyData) : walkN p cur (vs ++ [v]) = wlk p (walkN p cur vs) v := by
  unfold walkN
  rw [List.foldl_append]
  rfl
theorem walkN_none {p : Pr} {cur : List Nat} {vs us : List PyData} (h : walkN p cur vs = none) : walkN p cur (vs ++ us) = none := by
  unfold walkN at h ⊢
  rw [List.foldl_append, h]
  exact wlk_none p us
theorem walkN_len {p : Pr} {cur : List Nat} : ∀ (vs : List PyData) {l : List (List Nat)}, walkN p cur vs = some l → l.length = vs.length + 1 := by
  intro vs
  have go : ∀ (vs : List PyData) (o : Option (List (List Nat))) (l l0 : List (List Nat)), o = some l0 → vs.foldl (wlk p) o = some l → l.length = vs.length + l0.length := by
    intro vs
    induction vs with
    | nil => intro o l l0 e h; rw [e] at h; cases h; simp
    | cons v vs ih =>
      intro o l l0 e h
      rw [List.foldl_cons] at h
      cases q : wlk p o v with
      | none => rw [q, wlk_none] at h; cases h
      | some l1 =>
        have := ih _ l l1 q h
        rw [e] at q
        obtain ⟨nx, _, rfl⟩ := Option.map_eq_some_iff.mp q
        rw [this, List.length_append]
        simp only [List.length_cons, List.length_nil]
        omega
  intro l h
  exact go vs _ l [cur] rfl h
theorem walkN_conf {p : Pr} (hp : p.Ok) {cur : List Nat} (hc : cur.length = p.m) (vs : List PyData) {l : List (List Nat)} (h : walkN p cur vs = some l) : ∀ x ∈ l, x.length = p.m ∧ x.sum = cur.sum := by
  have go : ∀ (vs : List PyData) (l0 : List (List Nat)), l0 ≠ [] → (∀ x ∈ l0, x.length = p.m ∧ x.sum = cur.sum) → ∀ l, vs.foldl (wlk p) (some l0) = some l → ∀ x ∈ l, x.length = p.m ∧ x.sum = cur.sum := by
    intro vs
    induction vs with
    | nil => intro l0 _ h0 l h; cases h; exact h0
    | cons v vs ih =>
      intro l0 n0 h0 l h
      rw [List.foldl_cons] at h
      cases q : wlk p (some l0) v with
      | none => rw [q, wlk_none] at h; cases h
      | some l1 =>
        rw [q] at h
        obtain ⟨nx, e, rfl⟩ := Option.map_eq_some_iff.mp q
        have hm : l0.getLastD [] ∈ l0 := by
          rw [List.getLastD_eq_getLast?, List.getLast?_eq_some_getLast n0]
          exact List.getLast_mem n0
        have hk := movN_conf hp (h0 _ hm).1 e
        refine ih (l0 ++ [nx]) (by simp) (fun x hx => ?_) l h
        rcases List.mem_append.mp hx with hx | hx
        · exact h0 x hx
        · rw [List.mem_singleton.mp hx]
          exact ⟨hk.1, hk.2.trans (h0 _ hm).2⟩
  exact go vs [cur] (by simp) (fun x hx => by rw [List.mem_singleton.mp hx]; exact ⟨hc, rfl⟩) l h
theorem atI_last {α : Type} {l : List α} {x : α} (h : l.getLast? = some x) : atI l (-1) = some x := by
  have hn : 0 < l.length := by
    cases l with
    | nil => cases h
    | cons _ _ => simp
  unfold atI ixN
  rw [if_neg (by omega)]
  rw [List.getLast?_eq_getElem?] at h
  have e : ((-1 : Int) + (l.length : Int)) = ((l.length - 1 : Nat) : Int) := by omega
  first
  | (rw [if_pos (by omega)]; simp only [Option.bind_some]; rw [e, Int.toNat_natCast]; exact h)
  | (simp only [Option.bind_some]; rw [← h]; congr 1)
/-- way()'s answer -/
def wayN (p : Pr) (n : Nat) : PyData → Option (List (List Nat))
  | .tuple vs => walkN p (firstN p.m n) vs
  | _ => none
def TrOk : PyData → Prop
  | .tuple vs => vs.length ≤ 1000
  | _ => True
def sp_way (c : Ct) : Spec := fun ss Q _ => ∃ (p : Pr) (n : Nat) (tr : PyData), ss = [.d p.enc, .d (.int (n : Int)), .d tr] ∧ p.Ok ∧ TrOk tr ∧ match wayN p n tr with | none => Q (.d .none) | some l => Q (.own (l.map natsD))
def t_way (c : Ct) : DS :=
  (sSeq (sIf (bNot (bTru (dOne (oIsi "tuple") (dVar 2)))) (sRet (dC (.d .none))) sNext)
  (sSeq (sSet 3 (dLst (daCons (dCall (sp_first_of c) (daCons (dVar 0) (daCons (dVar 1) daNil))) daNil)))
  (sSeq (sFor (iSeq (dVar 2)) (gN 4) (sSeq (sSetF 5 (dCall (sp_moved c) (daCons (dVar 0) (daCons (dOp wIx (dVar 3) (dNeg (dC (.d (.int 1))))) (daCons (dVar 4) daNil)))))
    (sSeq (sIf (bVal (dOp (wIsN fun b => b) (dVar 5) (dC (.d .none)))) (sRet (dC (.d .none))) sNext)
    (sApp 3 (dVar 5)))))
  (sRet (dVar 3)))))
theorem rd_way (c : Ct) (ss : List SV) (Q : SV → Prop) (Ex : XP) (h : sp_way c ss Q Ex) : t_way c { nx := fun _ => Q (.d .none), rt := Q } (startD 6 ss) Ex := by
  obtain ⟨p, n, tr, rfl, hp, ht, q⟩ := h
  have hlo := hp.lo
  have hhi := hp.hi
  show t_way c _ [some (.d p.enc), some (.d (.int (n : Int))), some (.d tr), none, none, none] Ex
  unfold t_way
  refine seqK fun K hK => ?_
  refine sIfK fun K2 hK2 => ?_
  simp_all_arith! [isi_tuple]
  cases tr with
  | tuple vs =>
    refine hK2 false ?_
    rw [if_neg Bool.false_ne_true]
    refine hK _ ?_
    clear hK K hK2 K2
    refine seqK fun K hK => ?_
    rw [enc_eq]
    simp_all_arith! []
    refine use_first_of (by omega) ?_
    simp_all_arith! []
    rw [← enc_eq]
    refine ⟨by decide, hK _ ?_⟩
    clear hK K
    refine seqK fun K hK => ?_
    simp_all_arith! []
    have hz : vs.length ≤ 1000 := ht
    change (match walkN p (firstN p.m n) vs with | none => Q (.d .none) | some l => Q (.own (l.map natsD))) at q
    refine forR_inv (fun pre δ => ∃ (l : List (List Nat)) (o4 o5 : Option SV), walkN p (firstN p.m n) pre = some l ∧ δ = [some (.d p.enc), some (.d (.int (n : Int))), some (.d (.tuple vs)), some (.own (l.map natsD)), o4, o5]) _ [] _ ⟨[firstN p.m n], none, none, rfl, rfl⟩ (fun pre x r δ k hpp hI hk => ?_) fun δ' hI => ?_
    · obtain ⟨l, o4, o5, hw, rfl⟩ := hI
      rw [List.nil_append] at hpp
      have hl := walkN_len _ hw
      have hne : l ≠ [] := fun z => by rw [z] at hl; cases hl
      have hcf := walkN_conf hp (first_facts hp n).1 _ hw
      have hlast : l.getLast? = some (l.getLast hne) := List.getLast?_eq_some_getLast hne
      have hat : atI (l.map natsD) (-1) = some (natsD (l.getLast hne)) := atI_last (by rw [List.getLast?_map, hlast]; rfl)
      have hcl := (hcf _ (List.getLast_mem hne)).1
      have hgd : l.getLastD [] = l.getLast hne := by rw [List.getLastD_eq_getLast?, hlast]; rfl
      show gN 4 x _ _
      simp_arith [gN]
      refine seqK fun K2 hK2 => ?_
      simp_all_arith! []
      refine ⟨_, hat, ?_⟩
      refine use_moved hp hcl ?_
      simp_all_arith! []
      refine hK2 _ ?_
      clear hK2 K2
      refine seqK fun K2 hK2 => ?_
      refine sIfK fun K3 hK3 => ?_
      have hwk : walkN p (firstN p.m n) (pre ++ [x]) = (movN p (l.getLast hne) x).map fun nx => l ++ [nx] := by
        rw [walkN_snoc, hw]
        show (movN p (l.getLastD []) x).map _ = _
        rw [hgd]
      rw [movedN_eq]
      cases hm : movN p (l.getLast hne) x with
      | none =>
        rw [hm] at hwk
        simp_all_arith! []
        refine hK3 true ?_
        rw [if_pos rfl]
        simp_all_arith! []
        have : walkN p (firstN p.m n) vs = none := by
          rw [hpp, show pre ++ x :: r = (pre ++ [x]) ++ r by simp]
          exact walkN_none hwk
        rw [this] at q
        exact q
      | some nx =>
        rw [hm] at hwk
        have hlen : pre.length + (x :: r).length = vs.length := by rw [hpp, List.length_append]
        rw [List.length_cons] at hlen
        simp_all_arith! [natsD]
        refine hK3 false ?_
        rw [if_neg Bool.false_ne_true]
        refine hK2 _ ?_
        simp_all_arith! [natsD]
        refine ⟨?_, ?_⟩
        · rw [List.length_map, sizeLine_eq]; omega
        · have hme : movedN p (l.getLast hne) x = natsD nx := by rw [movedN_eq, hm]
          rw [hme]
          refine hk _ ⟨l ++ [nx], some (.d x), some (.d (natsD nx)), hwk, ?_⟩
          rw [List.map_append]
          rfl
    · obtain ⟨l, o4, o5, hw, rfl⟩ := hI
      rw [List.nil_append] at hw
      rw [hw] at q
      refine hK _ ?_
      simp_all_arith! []
      exact q
  | none => exact hK2 true (by rw [if_pos rfl]; simp_all_arith! []; exact q)
  | bool _ => exact hK2 true (by rw [if_pos rfl]; simp_all_arith! []; exact q)
  | int _ => exact hK2 true (by rw [if_pos rfl]; simp_all_arith! []; exact q)
  | str _ => exact hK2 true (by rw [if_pos rfl]; simp_all_arith! []; exact q)
  | list _ => exact hK2 true (by rw [if_pos rfl]; simp_all_arith! []; exact q)
  | dict _ => exact hK2 true (by rw [if_pos rfl]; simp_all_arith! []; exact q)
theorem use_way {c : Ct} {p : Pr} {n : Nat} {tr : PyData} {Q : SV → Prop} {Ex : XP} (h1 : p.Ok) (h2 : TrOk tr) (q : match wayN p n tr with | none => Q (.d .none) | some l => Q (.own (l.map natsD))) : sp_way c [.d p.enc, .d (.int (n : Int)), .d tr] Q Ex := ⟨p, n, tr, rfl, h1, h2, q⟩
def sp_run (c : Ct) : Spec := fun ss Q Ex => match ss with
  | [.d p, .d v, .d tr] => (isProtocol p = false ∧ Ex (.ref (c.cls "InvalidProtocol"))) ∨ ∃ q : Pr, p = q.enc ∧ q.Ok ∧ ((isBetween v 1 8 = false ∧ Ex (.ref (c.cls "InvalidNumber"))) ∨ ∃ n : Nat, v = .int (n : Int) ∧ 1 ≤ n ∧ n ≤ 8 ∧ TrOk tr ∧
      match wayN q n tr with | none => Ex (.ref (c.cls "InvalidTrace")) | some l => Q (.d (.tuple (l.map natsD))))
  | _ => False
def t_run (c : Ct) : DS :=
  (sSeq (sExpr (dCall (sp_check_protocol c) (daCons (dVar 0) daNil)))
  (sSeq (sExpr (dCall (sp_check_number c) (daCons (dVar 1) daNil)))
  (sSeq (sSetF 3 (dCall (sp_way c) (daCons (dVar 0) (daCons (dVar 1) (daCons (dVar 2) daNil)))))
  (sSeq (sIf (bVal (dOp (wIsN fun b => b) (dVar 3) (dC (.d .none)))) (sRaise (.ref (c.cls "InvalidTrace"))) sNext)
  (sRet (dOne oTuple (dVar 3)))))))
theorem rd_run (c : Ct) (ss : List SV) (Q : SV → Prop) (Ex : XP) (h : sp_run c ss Q Ex) : t_run c { nx := fun _ => Q (.d .none), rt := Q } (startD 4 ss) Ex := by
  unfold sp_run at h
  split at h
  · rename_i p v tr
    show t_run c _ [some (.d p), some (.d v), some (.d tr), none] Ex
    unfold t_run
    refine seqK fun K hK => ?_
    simp_arith only [at_check_protocol]
    rcases h with ⟨h1, h2⟩ | ⟨q, rfl, hq, h⟩
    · rw [if_neg (by rw [h1]; decide)]
      exact h2
    rw [if_pos ((isP_enc q).mpr hq)]
    refine hK _ ?_
    clear hK K
    refine seqK fun K hK => ?_
    simp_arith only [at_check_number]
    rcases h with ⟨h1, h2⟩ | ⟨n, rfl, h1, h2, h3, h4⟩
    · rw [if_neg (by rw [h1]; decide)]
      exact h2
    rw [if_pos (by simp only [isBetween, Bool.and_eq_true, decide_eq_true_eq]; omega)]
    refine hK _ ?_
    clear hK K
    refine seqK fun K hK => ?_
    simp_all_arith! []
    refine use_way hq h3 ?_
    cases hw : wayN q n tr with
    | none =>
      rw [hw] at h4
      simp_all_arith! []
      refine hK _ ?_
      clear hK K
      simp_all_arith! []
      exact h4
    | some l =>
      rw [hw] at h4
      simp_all_arith! []
      refine hK _ ?_
      clear hK K
      simp_all_arith! []
      exact h4
  · exact h.elim
end DL
/-! Fm: the laws' own search. -/
namespace DL
open PySem PySem.Spec PyProof.Rows L2 PySem.W
local macro_rules
  | `(tactic| simp_arith [$xs,*]) => `(tactic| simp only [List.map_cons, List.map_nil, List.length_cons, List.length_nil, List.cons_append, List.nil_append, List.getElem?_cons_zero, List.getElem?_cons_succ, List.set_cons_zero, List.set_cons_succ, Option.map_some, Option.map_none, Option.some.injEq, SV.d.injEq, SV.own.injEq, PyData.int.injEq, PyData.bool.injEq, PyData.tuple.injEq, PyData.list.injEq, PyData.str.injEq, List.cons.injEq, exists_eq_left, exists_eq_left', exists_eq_right, exists_and_left, exists_and_right, exists_const, and_true, true_and, if_true, if_false, reduceCtorEq, false_or, or_false, false_and, and_false, Bool.not_true, Bool.not_false, Bool.false_eq_true, ite_true, ite_false, reduceIte, Bool.true_eq_false, Nat.reduceAdd, nc0, nc1, nc2, nc3, nc4, nc5, nc6, nc7, nc8, Int.reduceBEq, beq_self_eq_true, Bool.and_true, Bool.true_and, Bool.and_false, Bool.false_and, Nat.zero_add, $xs,*])
local macro_rules
  | `(tactic| simp_all_arith! [$xs,*]) => `(tactic| simp only [sSeq, sNext, sExpr, sRet, sIf, sSet, sSetF, sAsg, sPar, sRaise, sFor, sApp, sExt, sPop, sItem, sAugI, sAug, sFrz, sMove, sBreak, sCont, gN, gT, gsNil, gsCons, dVar, vS_d, vS_own, vS_town, vS_v, vS_scr, fz_scr, dC, dOp, dCall, dCallK, daNil, daCons, dTup, dLst, dSl, doNone, doSome, dIf, dAnd, dOr, dNot, dNeg, dOne, dTwoI, dChain, dLc, bVal, bTru, bScr, dLenS, dIxS, dCount, dRest, sCount, sRest, bNot, bAnd, bOr, bYes, wInt2, wIntC, wAdd, wMul, wIx, wIn, wEqD, wIsN, oLen, oTuple, oList, oAll, oSum, oIsi, iSeq, iRng1D, iRng2D, iEnumD, iZipD, fz_d, fz_own, fz_town, fz_v, fz_abs, asDs, fzB, wipeD, asD_d, asD_own, asD_bor, asL_list, asL_tuple, asL_own, asL_bor, asL_int, asL_bool, asL_none, asS_list, asS_tuple, asS_own, asS_bor, tru_bool, tru_int, tru_none, tru_tuple, tru_list, tru_own, tru_bor, stO_d, stO_own, stO_town, stO_v, stO_abs, rtS_d, rtS_own, rtS_bor, rtS_v, rtS_abs, isN_none, isN_tuple, isN_int, isN_list, isN_bool, sItem2, wInT, oDictT, dGetT1, dDK2, sUpd, dIsX, iKeysL, dGetK, sSetLcL, dRes, noOwnE, noOwn, SV.ow.injEq, SV.bo.injEq, SV.fo.injEq, OC.dK.injEq, OC.dKl.injEq, OC.dT.injEq, OC.dTl.injEq, OC.exc.injEq, vS_ow, vS_fo, stO_ow, fz_ow, fz_fo, List.map_cons, List.map_nil, List.length_cons, List.length_nil, List.cons_append, List.nil_append, List.getElem?_cons_zero, List.getElem?_cons_succ, List.set_cons_zero, List.set_cons_succ, Option.map_some, Option.map_none, Option.some.injEq, SV.d.injEq, SV.own.injEq, PyData.int.injEq, PyData.bool.injEq, PyData.tuple.injEq, PyData.list.injEq, PyData.str.injEq, List.cons.injEq, exists_eq_left, exists_eq_left', exists_eq_right, exists_and_left, exists_and_right, exists_const, and_true, true_and, if_true, if_false, reduceCtorEq, false_or, or_false, false_and, and_false, Bool.not_true, Bool.not_false, Bool.false_eq_true, ite_true, ite_false, reduceIte, Bool.true_eq_false, Nat.reduceAdd, nc0, nc1, nc2, nc3, nc4, nc5, nc6, nc7, nc8, Int.reduceBEq, beq_self_eq_true, Bool.and_true, Bool.true_and, Bool.and_false, Bool.false_and, Nat.zero_add, atI_0, List.flatten_replicate_singleton, Int.toNat_natCast, List.length_replicate, Option.some.injEq, List.singleton_append, dFS, dFD, dFB, dSrch, dMethS, vS_srch, fz_srch, stO_srch, dt_ow, dt_bo, dt_fo, dt_bl, dt_fl, oSort, oMax, oMin, dMaxV, dGetT, dIxT, dDispT, dNewT, sPutT, wInD, dRev, iKeysT, dLockT, sForV, $xs,*])
/-- a while by a measure -/
theorem whR_meas {c : DB} {tb : DS} {De : DE} {Ex : XP} (I : Nat → Env → Prop) (step : ∀ m δ, I m δ → ∀ k : Env → Prop, (∀ δ' m', m' < m → I m' δ' → k δ') → c δ (fun b => if b = true then tb { De with nx := k, ct := k, bk := De.nx } δ Ex else De.nx δ) Ex) {m : Nat} {δ : Env} (h : I m δ) : ∃ n, whR c tb n De δ Ex := by
  have go : ∀ (n m : Nat) (δ : Env), I m δ → m < n → whR c tb n De δ Ex := by
    intro n
    induction n with
    | zero => exact fun m δ _ hm => absurd hm (Nat.not_lt_zero _)
    | succ n ih => exact fun m δ hI hm => step m δ hI _ fun δ' m' hlt hI' => ih m' δ' hI' (by omega)
  exact ⟨m + 1, go _ m δ h (Nat.lt_succ_self m)⟩
theorem eqv_listnil (l : List PyData) : PyData.eqv (.list l) (.list []) = l.isEmpty := by
  cases l with
  | nil => rfl
  | cons x xs => simp [PyData.eqv, PyData.eqvAll]
theorem fit_natsL (l : List (List Nat)) : Fit 2 (.list (l.map natsD)) := Fit.list fun x hx => by
  obtain ⟨ns, _, rfl⟩ := List.mem_map.mp hx
  exact fit_nats ns
theorem sizes {n : Nat} (h : n ≤ 60000) : n < sizeLine := by rw [sizeLine_eq]; omega
def sp_law_reach (c : Ct) : Spec := fun ss Q _ => ∃ (p : Pr) (n : Nat), ss = [.d p.enc, .d (.int (n : Int))] ∧ p.Ok ∧ n ≤ 8 ∧ Q (.ow (.dT (distKV (bfs p (firstN p.m n)).known)))
theorem use_law_reach {c : Ct} {p : Pr} {n : Nat} {Q : SV → Prop} {Ex : XP} (h1 : p.Ok) (h2 : n ≤ 8) (q : Q (.ow (.dT (distKV (bfs p (firstN p.m n)).known)))) : sp_law_reach c [.d p.enc, .d (.int (n : Int))] Q Ex := ⟨p, n, rfl, h1, h2, q⟩
theorem start_eq (m n : Nat) (h : 1 ≤ m) : PyData.int (n : Int) :: List.replicate ((m : Int) - 1).toNat (PyData.int 0) = (firstN m n).map (fun n : Nat => PyData.int (n : Int)) := by
  unfold firstN
  rw [List.map_cons, List.map_replicate, show ((m : Int) - 1).toNat = m - 1 by omega]
  rfl
def t_law_reach (c : Ct) : DS :=
  (sSeq (sSetF 2 (dOp wAdd (dTup (daCons (dVar 1) daNil)) (dOp wMul (dC (.d (.tuple [(.int 0)]))) (dOp (wInt2 fun i j => .int (i - j)) (dOp wIx (dVar 0) (dC (.d (.int 0)))) (dC (.d (.int 1)))))))
  (sSeq (sPar 3 4 (dDispT (dVar 2) (dC (.d (.int 0)))) (dLst (daCons (dVar 2) daNil)))
  (sSeq (sFrz 4 (sWhile (bVal (dOp (wEqD fun b => !b) (dVar 4) (dLst daNil))) (sSeq (sSet 5 (dLst daNil))
    (sSeq (sFor (iSeq (dVar 4)) (gN 6) (sFor (iSeq (dCall (sp_law_moves c) (daCons (dVar 0) (daCons (dVar 6) daNil)))) (gT 2 (gsCons (gN 7) (gsCons (gN 8) gsNil))) (sIf (bVal (dOp (wInD fun b => !b) (dVar 8) (dVar 3))) (sSeq (sPutT 3 (dVar 8) (dOp wAdd (dIxT (dVar 3) (dVar 6)) (dC (.d (.int 1)))))
          (sApp 5 (dVar 8))) sNext)))
    (sMove 4 5)))))
  (sRet (dVar 3)))))
theorem rd_law_reach (c : Ct) (ss : List SV) (Q : SV → Prop) (Ex : XP) (h : sp_law_reach c ss Q Ex) : t_law_reach c { nx := fun _ => Q (.d .none), rt := Q } (startD 9 ss) Ex := by
  obtain ⟨p, n, rfl, hp, hn, q⟩ := h
  have hlo := hp.lo
  have hhi := hp.hi
  show t_law_reach c _ [some (.d p.enc), some (.d (.int (n : Int))), none, none, none, none, none, none, none] Ex
  unfold t_law_reach
  refine seqK fun K hK => ?_
  rw [enc_eq]
  simp_all_arith! []
  refine ⟨by decide, by decide, by omega, by omega, by decide, ?_⟩
  rw [start_eq p.m n (by omega), show PyData.tuple ((firstN p.m n).map (fun n : Nat => PyData.int (n : Int))) = natsD (firstN p.m n) from rfl, ← enc_eq]
  refine ⟨by rw [sizeLine_eq]; omega, hK _ ?_⟩
  clear hK K
  refine seqK fun K hK => ?_
  simp_all_arith! []
  refine ⟨natsK (firstN p.m n), by rw [natsK_d], ?_⟩
  refine ⟨by decide, hK _ ?_⟩
  clear hK K
  obtain ⟨ff1, ff2⟩ := first_facts hp n
  have at0 := BfAt.init (p := p) (start := firstN p.m n) ff1
  rw [ff2] at at0
  have hB := nine_pow hn hhi
  refine seqK fun K hK => ?_
  refine ⟨_, rfl, ?_⟩
  refine whR_meas (fun m δ => ∃ (s : Bf) (o5 o6 o7 o8 : Option SV), m = bfMu ((n + 1) ^ p.m) s ∧ BfAt p n (bfs p (firstN p.m n)) s ∧
      δ = [some (.d p.enc), some (.d (.int (n : Int))), some (.d (natsD (firstN p.m n))), some (.ow (.dT (distKV s.known))), some (.d (.list (s.next.map natsD))), o5, o6, o7, o8]) (fun m δ hI k hk => ?_) ⟨bfInit (firstN p.m n), none, none, none, none, rfl, at0, rfl⟩
  obtain ⟨s, o5, o6, o7, o8, rfl, ats, rfl⟩ := hI
  have ok := ats.1
  simp_all_arith! []
  refine ⟨by decide, (fit_natsL _).sh (by decide), sh_nil, ?_⟩
  rw [eqv_listnil]
  by_cases he : s.next = []
  · have := ats.end he
    subst this
    rw [he]
    rw [if_neg (by decide)]
    refine hK _ ?_
    simp_all_arith! []
    exact q
  · have e1 : (!(s.next.map natsD).isEmpty) = true := by
      cases hx : s.next with
      | nil => exact absurd hx he
      | cons _ _ => rfl
    rw [e1, if_pos rfl]
    obtain ⟨at2, lt⟩ := ats.level hp he
    refine ⟨by decide, ?_⟩
    refine forR_E natsD (fun pre δ => ∃ (t : Bf) (o6 o7 o8 : Option SV), t = pre.foldl (bfHere p) { s with next := [] } ∧
      δ = [some (.d p.enc), some (.d (.int (n : Int))), some (.d (natsD (firstN p.m n))), some (.ow (.dT (distKV t.known))), some (.d (.list (s.next.map natsD))), some (.own (t.next.map natsD)), o6, o7, o8]) _ [] _ ⟨_, o6, o7, o8, rfl, rfl⟩ (fun pre here r δ k2 hpp hI hk2 => ?_) fun δ' hI => ?_
    · obtain ⟨t, o6, o7, o8, rfl, rfl⟩ := hI
      rw [List.nil_append] at hpp
      have hpre : Confs p.m n pre := fun c hc => ok.next c (by rw [hpp]; exact List.mem_append_left _ hc)
      obtain ⟨okt, le⟩ := fold_here hp pre { s with next := [] } ok.clear hpre
      generalize htt : pre.foldl (bfHere p) { s with next := [] } = t at okt le ⊢
      have hh : here ∈ s.next := by rw [hpp]; exact List.mem_append_right _ List.mem_cons_self
      have hhk : here ∈ t.known.map (·.1) := by
        obtain ⟨l, e, _⟩ := le.pre
        rw [e, List.map_append]
        exact List.mem_append_left _ (ok.nx here hh)
      have hhc := ok.next here hh
      show gN 6 (natsD here) _ _
      simp_arith [gN]
      simp_all_arith! []
      refine use_law_moves hp hhc.1 ?_
      simp_all_arith! []
      refine forR_E pairD (fun pm δ => ∃ (u : Bf) (o7 o8 : Option SV), u = pm.foldl (bfStep here) t ∧
        δ = [some (.d p.enc), some (.d (.int (n : Int))), some (.d (natsD (firstN p.m n))), some (.ow (.dT (distKV u.known))), some (.d (.list (s.next.map natsD))), some (.own (u.next.map natsD)), some (.d (natsD here)), o7, o8]) _ [] _ ⟨_, o7, o8, rfl, rfl⟩ (fun pm y r2 δ k3 hpm hI hk3 => ?_) fun δ' hI => ?_
      · obtain ⟨u, o7, o8, rfl, rfl⟩ := hI
        rw [List.nil_append] at hpm
        have mem : ∀ z ∈ pm, z.2.length = p.m ∧ z.2.sum = n := fun z hz => by
          have := moves_facts hp hhc.1 (show z ∈ movesN p here by rw [hpm]; exact List.mem_append_left _ hz)
          exact ⟨this.1, this.2.trans hhc.2⟩
        obtain ⟨oku, leu⟩ := fold_step (here := here) pm t okt mem
        have nx : ∀ (v : Bf) (o7 o8 : Option SV), v = bfStep here (pm.foldl (bfStep here) t) y → k3 [some (.d p.enc), some (.d (.int (n : Int))), some (.d (natsD (firstN p.m n))), some (.ow (.dT (distKV v.known))), some (.d (.list (s.next.map natsD))), some (.own (v.next.map natsD)), some (.d (natsD here)), o7, o8] := fun v o7 o8 e => by
          refine hk3 _ ⟨v, o7, o8, ?_, rfl⟩
          rw [e, List.foldl_append]
          rfl
        clear hk3
        generalize hu : pm.foldl (bfStep here) t = u at oku leu nx ⊢
        have hku : here ∈ u.known.map (·.1) := by
          obtain ⟨l, e, _⟩ := leu.pre
          rw [e, List.map_append]
          exact List.mem_append_left _ hhk
        have hlen := oku.len
        have hnl := oku.nl
        unfold pairD
        simp_arith [gT, gsCons, gsNil, gN]
        simp_all_arith! []
        refine ⟨natsK y.2, by rw [natsK_d], ?_⟩
        rw [dist_in]
        unfold bfStep at nx
        by_cases hy : y.2 ∈ u.known.map (·.1)
        · rw [if_neg (by rw [decide_eq_true hy]; decide)]
          rw [if_pos hy] at nx
          exact nx u _ _ rfl
        · rw [if_pos (by rw [decide_eq_false hy]; rfl)]
          rw [if_neg hy] at nx
          refine ⟨natsK here, by rw [natsK_d], _, dist_at hku, ?_⟩
          simp_all_arith! []
          refine ⟨natsK y.2, by rw [natsK_d], by rw [distKV_len]; exact sizes (by omega), ?_⟩
          refine ⟨by rw [List.length_map]; exact sizes (by omega), ?_⟩
          have e2 : ((distOf u.known here : Int) + 1) = ((distOf u.known here + 1 : Nat) : Int) := rfl
          rw [e2, dist_put hy]
          have := nx _ (some (.d y.1.enc)) (some (.d (natsD y.2))) rfl
          rw [List.map_append] at this
          exact this
      · obtain ⟨u, o7, o8, rfl, rfl⟩ := hI
        rw [List.nil_append]
        refine hk2 _ ⟨_, _, o7, o8, ?_, rfl⟩
        rw [List.foldl_append, htt]
        rfl
    · obtain ⟨t, o6, o7, o8, rfl, rfl⟩ := hI
      rw [List.nil_append]
      simp_all_arith! []
      exact hk _ _ lt ⟨_, _, o6, o7, o8, rfl, at2, rfl⟩
end DL
/-! Pf: what the laws of searching compare. -/
namespace DL
open PySem PySem.Spec PyProof.Rows L2 PySem.W
/-! ### what the law compares -/
theorem fit_int0 (i : Int) : Fit 0 (.int i) := fit_int i
theorem num_ok {c : Ct} {f : Pr → Nat → PyData} {p : Pr} {n : Nat} {Q : SV → Prop} {Ex : XP} (hp : p.Ok) (h1 : 1 ≤ n) (h8 : n ≤ 8) (q : Q (.d (f p n))) : sp_numbered c f [.d p.enc, .d (.int (n : Int))] Q Ex := .inr ⟨p, rfl, hp, .inr ⟨n, rfl, h1, h8, q⟩⟩
theorem run_ok {c : Ct} {p : Pr} {n : Nat} {tr : PyData} {l : List (List Nat)} {Q : SV → Prop} {Ex : XP} (hp : p.Ok) (h1 : 1 ≤ n) (h8 : n ≤ 8) (ht : TrOk tr) (hw : wayN p n tr = some l) (q : Q (.d (.tuple (l.map natsD)))) : sp_run c [.d p.enc, .d (.int (n : Int)), .d tr] Q Ex :=
  .inr ⟨p, rfl, hp, .inr ⟨n, rfl, h1, h8, ht, by rw [hw]; exact q⟩⟩
theorem run_no {c : Ct} {p : Pr} {n : Nat} {tr : PyData} {Q : SV → Prop} {Ex : XP} (hp : p.Ok) (h1 : 1 ≤ n) (h8 : n ≤ 8) (ht : TrOk tr) (hw : wayN p n tr = none) (q : Ex (.ref (c.cls "InvalidTrace"))) : sp_run c [.d p.enc, .d (.int (n : Int)), .d tr] Q Ex :=
  .inr ⟨p, rfl, hp, .inr ⟨n, rfl, h1, h8, ht, by rw [hw]; exact q⟩⟩
theorem dist_ok {c : Ct} {p : Pr} {ns : List Nat} {Q : SV → Prop} {Ex : XP} (hp : p.Ok) (h : isConf p.m (natsD ns) = true) (q : Q (.d (distD p ns))) : sp_distance c [.d p.enc, .d (natsD ns)] Q Ex := .inr ⟨p, rfl, hp, .inr ⟨ns, rfl, h, q⟩⟩
theorem fit_natsT (l : List (List Nat)) : Fit 2 (.tuple (l.map natsD)) := Fit.tuple fun x hx => by
  obtain ⟨ns, _, rfl⟩ := List.mem_map.mp hx
  exact fit_nats ns
theorem fit_dist (p : Pr) (ns : List Nat) : Fit 0 (distD p ns) := by
  unfold distD
  rw [dist_get]
  cases List.find? (fun x => decide (x.1 = ns)) (bfs p (firstN p.m ns.sum)).known with
  | none => exact ⟨by decide +kernel, Nat.le_refl _⟩
  | some x => exact fit_int _
def isRuleStep : Stp → Bool
  | .rule _ => true
  | .drop _ => false
theorem rule_steps (ns : List Nat) : ∀ (rs : List Rl) (i : Nat), ((rulesN ns rs i).filterMap fun y => if isRuleStep y.1 = true then some y.1.enc else none).isEmpty = !(rs.any (isPossibleN ns))
  | [], _ => rfl
  | r :: rs, i => by
    show (List.filterMap _ (_ ++ _)).isEmpty = _
    rw [List.filterMap_append, List.any_cons]
    by_cases h : isPossibleN ns r = true
    · rw [if_pos h, h]; rfl
    · rw [if_neg h, Bool.eq_false_iff.mpr h, Bool.false_or]
      exact rule_steps ns rs (i + 1)
theorem drop_steps (ns : List Nat) : ∀ l : List Nat, (dropsN ns l).filterMap (fun y => if isRuleStep y.1 = true then some y.1.enc else none) = []
  | [] => rfl
  | s :: l => by
    have ih := drop_steps ns l
    unfold dropsN at ih ⊢
    rw [List.filterMap_cons]
    split
    · exact ih
    · rename_i y hy
      split at hy
      · cases hy
        exact ih
      · cases hy
theorem no_rules (p : Pr) (ns : List Nat) : ((movesN p ns).filterMap fun y => if isRuleStep y.1 = true then some y.1.enc else none).isEmpty = !(p.rules.any (isPossibleN ns)) := by
  unfold movesN
  rw [List.filterMap_append, drop_steps, List.nil_append]
  exact rule_steps ns _ _
theorem movN_bad {p : Pr} {ns : List Nat} {v : PyData} (h : ∀ y ∈ movesN p ns, y.1.key ≠ keyOf v) : movN p ns v = none := by
  cases e : movN p ns v with
  | none => rfl
  | some x =>
    obtain ⟨y, hy, _, hk⟩ := movN_mem e
    exact absurd hk (h y hy)
theorem mov_none (p : Pr) (ns : List Nat) : movN p ns .none = none := rfl
theorem mov_rule8 {p : Pr} (h : p.rules.length ≤ 5) (ns : List Nat) : movN p ns (.tuple [.str "rule", .int 8]) = none := movN_bad fun y hy e => by
  rcases List.mem_append.mp hy with h1 | h1
  · obtain ⟨s, _, _, rfl⟩ := mem_drops h1
    injection e with e1 e2
    exact absurd (Sum.inr.inj e1) (by decide)
  · obtain ⟨j, r, hj, _, rfl⟩ := mem_rules h1
    injection e with e1 e2
    injection e2 with e2 e3
    have e4 := Sum.inl.inj e2
    have := (List.getElem?_eq_some_iff.mp hj).1
    omega
theorem mov_drop1 {p : Pr} (hp : p.Ok) (n : Nat) : movN p (firstN p.m n) (.tuple [.str "drop", .int 1]) = none := movN_bad fun y hy e => by
  rcases List.mem_append.mp hy with h1 | h1
  · obtain ⟨s, _, h0, rfl⟩ := mem_drops h1
    injection e with e1 e2
    injection e2 with e2 e3
    have e4 : (s : Int) = 1 := Sum.inl.inj e2
    have e5 : s = 1 := by omega
    subst e5
    have : (firstN p.m n).getD 1 0 = 0 := by
      unfold firstN
      rw [List.getD_cons_succ, List.getD_eq_getElem?_getD, List.getElem?_replicate]
      split <;> rfl
    omega
  · obtain ⟨j, r, hj, _, rfl⟩ := mem_rules h1
    injection e with e1 e2
    exact absurd (Sum.inr.inj e1) (by decide)
theorem walk_bad {p : Pr} {n : Nat} {tr : List PyData} {v : PyData} (h : ∀ ns, movN p ns v = none) : walkN p (firstN p.m n) (tr ++ [v]) = none := by
  rw [walkN_snoc]
  cases walkN p (firstN p.m n) tr with
  | none => rfl
  | some l =>
    show (movN p _ v).map _ = none
    rw [h]
    rfl
theorem walk_bad0 {p : Pr} {n : Nat} {tr : List PyData} {v : PyData} (h : movN p (firstN p.m n) v = none) : walkN p (firstN p.m n) (v :: tr) = none := by
  unfold walkN
  rw [List.foldl_cons]
  have : wlk p (some [firstN p.m n]) v = none := by
    show (movN p ([firstN p.m n].getLastD []) v).map _ = none
    rw [show [firstN p.m n].getLastD [] = firstN p.m n from rfl, h]
    rfl
  rw [this]
  exact wlk_none p tr
end DL
/-! L04: the law of searching. -/
namespace DL
open PySem PySem.Spec PyProof.Rows L2 PySem.W
local macro_rules
  | `(tactic| simp_arith [$xs,*]) => `(tactic| simp only [List.map_cons, List.map_nil, List.length_cons, List.length_nil, List.cons_append, List.nil_append, List.getElem?_cons_zero, List.getElem?_cons_succ, List.set_cons_zero, List.set_cons_succ, Option.map_some, Option.map_none, Option.some.injEq, SV.d.injEq, SV.own.injEq, PyData.int.injEq, PyData.bool.injEq, PyData.tuple.injEq, PyData.list.injEq, PyData.str.injEq, List.cons.injEq, exists_eq_left, exists_eq_left', exists_eq_right, exists_and_left, exists_and_right, exists_const, and_true, true_and, if_true, if_false, reduceCtorEq, false_or, or_false, false_and, and_false, Bool.not_true, Bool.not_false, Bool.false_eq_true, ite_true, ite_false, reduceIte, Bool.true_eq_false, Nat.reduceAdd, nc0, nc1, nc2, nc3, nc4, nc5, nc6, nc7, nc8, Int.reduceBEq, beq_self_eq_true, Bool.and_true, Bool.true_and, Bool.and_false, Bool.false_and, Nat.zero_add, $xs,*])
local macro_rules
  | `(tactic| simp_all_arith! [$xs,*]) => `(tactic| simp only [sSeq, sNext, sExpr, sRet, sIf, sSet, sSetF, sAsg, sPar, sRaise, sFor, sApp, sExt, sPop, sItem, sAugI, sAug, sFrz, sMove, sBreak, sCont, gN, gT, gsNil, gsCons, dVar, vS_d, vS_own, vS_town, vS_v, vS_scr, fz_scr, dC, dOp, dCall, dCallK, daNil, daCons, dTup, dLst, dSl, doNone, doSome, dIf, dAnd, dOr, dNot, dNeg, dOne, dTwoI, dChain, dLc, bVal, bTru, bScr, dLenS, dIxS, dCount, dRest, sCount, sRest, bNot, bAnd, bOr, bYes, wInt2, wIntC, wAdd, wMul, wIx, wIn, wEqD, wIsN, oLen, oTuple, oList, oAll, oSum, oIsi, iSeq, iRng1D, iRng2D, iEnumD, iZipD, fz_d, fz_own, fz_town, fz_v, fz_abs, asDs, fzB, wipeD, asD_d, asD_own, asD_bor, asL_list, asL_tuple, asL_own, asL_bor, asL_int, asL_bool, asL_none, asS_list, asS_tuple, asS_own, asS_bor, tru_bool, tru_int, tru_none, tru_tuple, tru_list, tru_own, tru_bor, stO_d, stO_own, stO_town, stO_v, stO_abs, rtS_d, rtS_own, rtS_bor, rtS_v, rtS_abs, isN_none, isN_tuple, isN_int, isN_list, isN_bool, sItem2, wInT, oDictT, dGetT1, dDK2, sUpd, dIsX, iKeysL, dGetK, sSetLcL, dRes, noOwnE, noOwn, SV.ow.injEq, SV.bo.injEq, SV.fo.injEq, OC.dK.injEq, OC.dKl.injEq, OC.dT.injEq, OC.dTl.injEq, OC.exc.injEq, vS_ow, vS_fo, stO_ow, fz_ow, fz_fo, List.map_cons, List.map_nil, List.length_cons, List.length_nil, List.cons_append, List.nil_append, List.getElem?_cons_zero, List.getElem?_cons_succ, List.set_cons_zero, List.set_cons_succ, Option.map_some, Option.map_none, Option.some.injEq, SV.d.injEq, SV.own.injEq, PyData.int.injEq, PyData.bool.injEq, PyData.tuple.injEq, PyData.list.injEq, PyData.str.injEq, List.cons.injEq, exists_eq_left, exists_eq_left', exists_eq_right, exists_and_left, exists_and_right, exists_const, and_true, true_and, if_true, if_false, reduceCtorEq, false_or, or_false, false_and, and_false, Bool.not_true, Bool.not_false, Bool.false_eq_true, ite_true, ite_false, reduceIte, Bool.true_eq_false, Nat.reduceAdd, nc0, nc1, nc2, nc3, nc4, nc5, nc6, nc7, nc8, Int.reduceBEq, beq_self_eq_true, Bool.and_true, Bool.true_and, Bool.and_false, Bool.false_and, Nat.zero_add, atI_0, List.flatten_replicate_singleton, Int.toNat_natCast, List.length_replicate, Option.some.injEq, List.singleton_append, dFS, dFD, dFB, dSrch, dMethS, vS_srch, fz_srch, stO_srch, dt_ow, dt_bo, dt_fo, dt_bl, dt_fl, oSort, oMax, oMin, dMaxV, dGetT, dIxT, dDispT, dNewT, sPutT, wInD, dRev, iKeysT, dLockT, sForV, $xs,*])
theorem rng_len6 (r : Int) (h0 : 0 ≤ r) : (rngD 0 r.toNat).length = r.toNat := rngD_len _ _
def sp_law_walk (c : Ct) : Spec := fun ss Q _ => ∃ (k : Nat) (p : Pr) (n : Nat), ss = [scr c k, .town, .d p.enc, .d (.int (n : Int))] ∧ k ≤ 63 ∧ p.Ok ∧
  ∀ (tr : List PyData) (l : List (List Nat)), tr.length ≤ 5 → walkN p (firstN p.m n) tr = some l → Q (.d (.tuple [.tuple tr, .tuple (l.map natsD)]))
theorem use_law_walk {c : Ct} {k : Nat} {p : Pr} {n : Nat} {Q : SV → Prop} {Ex : XP} (h1 : k ≤ 63) (h2 : p.Ok) (q : ∀ (tr : List PyData) (l : List (List Nat)), tr.length ≤ 5 → walkN p (firstN p.m n) tr = some l → Q (.d (.tuple [.tuple tr, .tuple (l.map natsD)]))) :
    sp_law_walk c [scr c k, .town, .d p.enc, .d (.int (n : Int))] Q Ex := ⟨k, p, n, rfl, h1, h2, q⟩
theorem fit_moves (l : List (Stp × List Nat)) : Fit 3 (.list (l.map pairD)) := Fit.list fun x hx => by
  obtain ⟨y, _, rfl⟩ := List.mem_map.mp hx
  exact fit_pair y
def t_law_walk (c : Ct) : DS :=
  (sSeq (sPar 4 5 (dTup daNil) (dLst (daCons (dOp wAdd (dTup (daCons (dVar 3) daNil)) (dOp wMul (dC (.d (.tuple [(.int 0)]))) (dOp (wInt2 fun i j => .int (i - j)) (dOp wIx (dVar 2) (dC (.d (.int 0)))) (dC (.d (.int 1)))))) daNil)))
  (sSeq (sFor (iRng1D (dCall (sp_law_draw c) (daCons (dVar 0) (daCons (dVar 1) (daCons (dC (.d (.int 6))) daNil))))) (gN 6) (sSeq (sSetF 7 (dCall (sp_law_moves c) (daCons (dVar 2) (daCons (dOp wIx (dVar 5) (dNeg (dC (.d (.int 1))))) daNil))))
    (sIf (bVal (dOp (wEqD fun b => !b) (dVar 7) (dLst daNil))) (sSeq (sAsg (dOp wIx (dVar 7) (dCall (sp_law_draw c) (daCons (dVar 0) (daCons (dVar 1) (daCons (dOne oLen (dVar 7)) daNil))))) (gT 2 (gsCons (gN 8) (gsCons (gN 9) gsNil))))
      (sPar 4 5 (dOp wAdd (dVar 4) (dTup (daCons (dVar 8) daNil))) (dOp wAdd (dVar 5) (dLst (daCons (dVar 9) daNil))))) sNext)))
  (sRet (dTup (daCons (dVar 4) (daCons (dOne oTuple (dVar 5)) daNil))))))
theorem rd_law_walk (c : Ct) (ss : List SV) (Q : SV → Prop) (Ex : XP) (h : sp_law_walk c ss Q Ex) : t_law_walk c { nx := fun _ => Q (.d .none), rt := Q } (startD 10 ss) Ex := by
  obtain ⟨k, p, n, rfl, hk, hp, q⟩ := h
  have hlo := hp.lo
  have hhi := hp.hi
  show t_law_walk c _ [some (scr c k), some .town, some (.d p.enc), some (.d (.int (n : Int))), none, none, none, none, none, none] Ex
  unfold t_law_walk
  refine seqK fun K hK => ?_
  rw [enc_eq]
  simp_all_arith! []
  refine ⟨by decide, by decide, by decide, by omega, by omega, by decide, ?_⟩
  rw [start_eq p.m n (by omega), show PyData.tuple ((firstN p.m n).map (fun n : Nat => PyData.int (n : Int))) = natsD (firstN p.m n) from rfl, ← enc_eq]
  refine ⟨by rw [sizeLine_eq]; omega, by decide, hK _ ?_⟩
  clear hK K
  refine seqK fun K hK => ?_
  simp_all_arith! []
  refine use_draw hk (by decide) fun r h0 h6 => ?_
  simp_all_arith! []
  refine ⟨by omega, by omega, ?_⟩
  refine forR_inv (fun pre δ => ∃ (tr : List PyData) (l : List (List Nat)) (o6 o7 o8 o9 : Option SV), tr.length ≤ pre.length ∧ walkN p (firstN p.m n) tr = some l ∧
    δ = [some (scr c k), some .town, some (.d p.enc), some (.d (.int (n : Int))), some (.d (.tuple tr)), some (.own (l.map natsD)), o6, o7, o8, o9]) _ [] _ ⟨[], [firstN p.m n], none, none, none, none, Nat.zero_le _, rfl, rfl⟩ (fun pre x r2 δ k2 hpp hI hk2 => ?_) fun δ' hI => ?_
  · obtain ⟨tr, l, o6, o7, o8, o9, htr, hw, rfl⟩ := hI
    rw [List.nil_append] at hpp
    have hpl : pre.length < 6 := by
      have := congrArg List.length hpp
      rw [rngD_len, List.length_append, List.length_cons] at this
      omega
    have hl := walkN_len _ hw
    have hne : l ≠ [] := fun z => by rw [z] at hl; cases hl
    have hcf := walkN_conf hp (first_facts hp n).1 _ hw
    have hlast : l.getLast? = some (l.getLast hne) := List.getLast?_eq_some_getLast hne
    have hat : atI (l.map natsD) (-1) = some (natsD (l.getLast hne)) := atI_last (by rw [List.getLast?_map, hlast]; rfl)
    have hcl := (hcf _ (List.getLast_mem hne)).1
    have hgd : l.getLastD [] = l.getLast hne := by rw [List.getLastD_eq_getLast?, hlast]; rfl
    generalize hcur : l.getLast hne = cur at hat hcl hgd
    show gN 6 x _ _
    simp_arith [gN]
    refine seqK fun K2 hK2 => ?_
    simp_all_arith! []
    refine ⟨_, hat, ?_⟩
    refine use_law_moves hp hcl ?_
    simp_all_arith! []
    refine hK2 _ ?_
    clear hK2 K2
    refine sIfK fun K3 hK3 => ?_
    simp_all_arith! []
    refine ⟨by decide, (fit_moves _).sh (by decide), sh_nil, ?_⟩
    rw [eqv_listnil]
    cases hmv : movesN p cur with
    | nil =>
      refine hK3 _ ?_
      rw [if_neg (by decide)]
      simp_all_arith! []
      exact hk2 _ ⟨tr, l, _, _, _, _, by rw [List.length_append]; omega, hw, rfl⟩
    | cons y ys =>
      refine hK3 _ ?_
      rw [if_pos (by rfl)]
      clear hK3 K3
      have hlen12 := moves_len hp cur
      refine seqK fun K3 hK3 => ?_
      simp_all_arith! []
      refine use_draw hk ⟨by rw [List.length_map, hmv, List.length_cons]; omega, by rw [List.length_map]; omega⟩ fun i i0 i1 => ?_
      rw [List.length_map] at i1
      obtain ⟨i, rfl⟩ : ∃ j : Nat, i = j := ⟨i.toNat, by omega⟩
      have hi : i < (movesN p cur).length := by omega
      simp_all_arith! []
      refine ⟨pairD (movesN p cur)[i], by rw [atI_at, List.getElem?_map, List.getElem?_eq_getElem hi]; rfl, ?_⟩
      have hmem := List.getElem_mem hi
      generalize (movesN p cur)[i] = z at hmem
      unfold pairD
      simp_all_arith! []
      refine hK3 _ ?_
      clear hK3 K3
      simp_all_arith! []
      refine ⟨by decide, by rw [sizeLine_eq]; omega, by decide, by rw [List.length_map, sizeLine_eq]; omega, ?_⟩
      refine hk2 _ ⟨tr ++ [z.1.enc], l ++ [z.2], _, _, _, _, by rw [List.length_append, List.length_append, List.length_singleton, List.length_singleton]; omega, ?_, by rw [List.map_append]; rfl⟩
      rw [walkN_snoc, hw]
      show (movN p (l.getLastD []) z.1.enc).map _ = _
      rw [hgd, movN_step hmem]
      rfl
  · obtain ⟨tr, l, o6, o7, o8, o9, htr, hw, rfl⟩ := hI
    rw [List.nil_append, rngD_len] at htr
    refine hK _ ?_
    simp_all_arith! []
    repeat refine And.intro (by first | decide | omega | decide +kernel) ?_
    exact q tr l (by omega) hw
/-! ### the errors -/
theorem forV_inv {i : Nat} {tb : DS} {De : DE} {Ex : XP} (I : Env → Prop) : ∀ (vs : List V) (δ : Env), I δ → (∀ v ∈ vs, ∀ (δ : Env) (k : Env → Prop), I δ → (∀ δ', I δ' → k δ') → tb { De with nx := k, ct := k, bk := De.nx } (δ.set i (some (.v v))) Ex) → (∀ δ', I δ' → De.nx δ') → forV i tb vs De δ Ex
  | [], δ, h, _, e => e δ h
  | v :: vs, δ, h, t, e => t v List.mem_cons_self δ _ h fun δ' h' => forV_inv I vs δ' h' (fun v hv => t v (List.mem_cons_of_mem _ hv)) e
theorem use_callS {i : Nat} {fs : List (Addr × Spec)} {ta : DA} {δ : Env} {Q : SV → Prop} {Ex : XP} {q : Addr × Spec} (hq : q ∈ fs) (hd : δ[i]? = some (some (.v (.ref q.1)))) (h : ta δ (fun ss => q.2 ss Q Ex) Ex) : dCallS i fs ta δ Q Ex := ⟨q, hq, hd, h⟩
def sp_law_errors (c : Ct) : Spec := fun ss Q _ => ∃ (p : Pr), ss = [.d p.enc] ∧ ResOk c ∧ p.Ok ∧ Q (.d (.bool true))
theorem use_law_errors {c : Ct} {p : Pr} {Q : SV → Prop} {Ex : XP} (hR : ResOk c) (hp : p.Ok) (q : Q (.d (.bool true))) : sp_law_errors c [.d p.enc] Q Ex := ⟨p, rfl, hR, hp, q⟩
theorem num_bad1 {c : Ct} {f : Pr → Nat → PyData} {Q : SV → Prop} {Ex : XP} (q : Ex (.ref (c.cls "InvalidProtocol"))) : sp_numbered c f [.d .none, .d .none] Q Ex := .inl ⟨rfl, q⟩
theorem num_bad2 {c : Ct} {f : Pr → Nat → PyData} {p : Pr} {Q : SV → Prop} {Ex : XP} (hp : p.Ok) (q : Ex (.ref (c.cls "InvalidNumber"))) : sp_numbered c f [.d p.enc, .d (.int 9)] Q Ex := .inr ⟨p, rfl, hp, .inl ⟨rfl, q⟩⟩
theorem run_bad1 {c : Ct} {Q : SV → Prop} {Ex : XP} (q : Ex (.ref (c.cls "InvalidProtocol"))) : sp_run c [.d .none, .d .none, .d .none] Q Ex := .inl ⟨rfl, q⟩
theorem run_bad2 {c : Ct} {p : Pr} {Q : SV → Prop} {Ex : XP} (hp : p.Ok) (q : Ex (.ref (c.cls "InvalidNumber"))) : sp_run c [.d p.enc, .d (.int 0), .d .none] Q Ex := .inr ⟨p, rfl, hp, .inl ⟨rfl, q⟩⟩
theorem dist_bad1 {c : Ct} {Q : SV → Prop} {Ex : XP} (q : Ex (.ref (c.cls "InvalidProtocol"))) : sp_distance c [.d .none, .d .none] Q Ex := .inl ⟨rfl, q⟩
theorem conf_nil {p : Pr} (hp : p.Ok) : isConf p.m (.tuple []) = false := by
  have hlo := hp.lo
  cases h : isConf p.m (.tuple []) with
  | false => rfl
  | true =>
    have := (isConf_nats (m := p.m) []).mp h
    have h2 := this.1
    simp at h2
    omega
theorem dist_bad2 {c : Ct} {p : Pr} {Q : SV → Prop} {Ex : XP} (hp : p.Ok) (q : Ex (.ref (c.cls "InvalidConfiguration"))) : sp_distance c [.d p.enc, .d (.tuple [])] Q Ex := .inr ⟨p, rfl, hp, .inl ⟨conf_nil hp, q⟩⟩
def t_law_errors (c : Ct) : DS :=
  (sSeq (sForV 1 [.ref (c.cls "reachable"), .ref (c.cls "depth"), .ref (c.cls "quiet")] (sSeq (sSet 2 (dLst (daCons (dRes (ResT c) (dCallS 1 [(c.cls "reachable", sp_reachable c), (c.cls "depth", sp_depth c), (c.cls "quiet", sp_quiet c)] (daCons (dC (.d .none)) (daCons (dC (.d .none)) daNil)))) daNil)))
    (sIf (bVal (dOp (wEqD fun b => !b) (dOp wAdd (dVar 2) (dLst (daCons (dRes (ResT c) (dCallS 1 [(c.cls "reachable", sp_reachable c), (c.cls "depth", sp_depth c), (c.cls "quiet", sp_quiet c)] (daCons (dVar 0) (daCons (dC (.d (.int 9))) daNil)))) daNil))) (dC (.own [(.tuple [(.str ("protocol" : Str))]), (.tuple [(.str ("number" : Str))])])))) (sRet (dC (.d (.bool false)))) sNext)))
  (sSeq (sSet 2 (dLst (daCons (dRes (ResT c) (dCall (sp_run c) (daCons (dC (.d .none)) (daCons (dC (.d .none)) (daCons (dC (.d .none)) daNil))))) daNil)))
  (sSeq (sApp 2 (dRes (ResT c) (dCall (sp_run c) (daCons (dVar 0) (daCons (dC (.d (.int 0))) (daCons (dC (.d .none)) daNil))))))
  (sSeq (sApp 2 (dRes (ResT c) (dCall (sp_distance c) (daCons (dC (.d .none)) (daCons (dC (.d .none)) daNil)))))
  (sSeq (sApp 2 (dRes (ResT c) (dCall (sp_distance c) (daCons (dVar 0) (daCons (dTup daNil) daNil)))))
  (sSeq (sIf (bVal (dOp (wEqD fun b => !b) (dVar 2) (dC (.own [(.tuple [(.str ("protocol" : Str))]), (.tuple [(.str ("number" : Str))]), (.tuple [(.str ("protocol" : Str))]), (.tuple [(.str ("configuration" : Str))])])))) (sRet (dC (.d (.bool false)))) sNext)
  (sRet (dC (.d (.bool true))))))))))
theorem rd_law_errors (c : Ct) (ss : List SV) (Q : SV → Prop) (Ex : XP) (h : sp_law_errors c ss Q Ex) : t_law_errors c { nx := fun _ => Q (.d .none), rt := Q } (startD 3 ss) Ex := by
  obtain ⟨p, rfl, hR, hp, q⟩ := h
  show t_law_errors c _ [some (.d p.enc), none, none] Ex
  unfold t_law_errors
  refine seqK fun K hK => ?_
  unfold sForV
  refine forV_inv (fun δ => ∃ o1 o2 : Option SV, δ = [some (.d p.enc), o1, o2]) _ _ ⟨none, none, rfl⟩ (fun v hv δ k hI hk => ?_) fun δ' hI => ?_
  · obtain ⟨o1, o2, rfl⟩ := hI
    obtain ⟨qq, hq, rfl, f, hf⟩ : ∃ qq ∈ [(c.cls "reachable", sp_reachable c), (c.cls "depth", sp_depth c), (c.cls "quiet", sp_quiet c)], v = .ref qq.1 ∧ ∃ f, qq.2 = sp_numbered c f := by
      simp only [List.mem_cons, List.not_mem_nil, or_false] at hv
      rcases hv with rfl | rfl | rfl
      · exact ⟨_, List.mem_cons_self, rfl, _, rfl⟩
      · exact ⟨_, List.mem_cons_of_mem _ List.mem_cons_self, rfl, _, rfl⟩
      · exact ⟨_, List.mem_cons_of_mem _ (List.mem_cons_of_mem _ List.mem_cons_self), rfl, _, rfl⟩
    simp_arith []
    refine seqK fun K2 hK2 => ?_
    simp_all_arith! []
    refine use_callS hq rfl ?_
    rw [hf]
    simp_all_arith! []
    refine num_bad1 ⟨_, rfl, "protocol", hR.protocol, by decide, hK2 _ ?_⟩
    clear hK2 K2
    refine sIfK fun K2 hK2 => ?_
    simp_all_arith! []
    refine use_callS hq rfl ?_
    rw [hf]
    simp_all_arith! []
    refine num_bad2 hp ⟨_, rfl, "number", hR.number, ?_⟩
    repeat refine And.intro (by first | decide | omega | decide +kernel) ?_
    refine hK2 _ ?_
    rw [if_neg (by decide +kernel)]
    exact hk _ ⟨_, _, rfl⟩
  · obtain ⟨o1, o2, rfl⟩ := hI
    refine hK _ ?_
    clear hK K
    refine seqK fun K hK => ?_
    simp_all_arith! []
    refine run_bad1 ⟨_, rfl, "protocol", hR.protocol, by decide, hK _ ?_⟩
    clear hK K
    refine seqK fun K hK => ?_
    simp_all_arith! []
    refine run_bad2 hp ⟨_, rfl, "number", hR.number, by decide, hK _ ?_⟩
    clear hK K
    refine seqK fun K hK => ?_
    simp_all_arith! []
    refine dist_bad1 ⟨_, rfl, "protocol", hR.protocol, by decide, hK _ ?_⟩
    clear hK K
    refine seqK fun K hK => ?_
    simp_all_arith! []
    refine ⟨by decide, dist_bad2 hp ⟨_, rfl, "configuration", hR.configuration, by decide, hK _ ?_⟩⟩
    clear hK K
    refine seqK fun K hK => ?_
    refine sIfK fun K2 hK2 => ?_
    simp_all_arith! []
    refine ⟨_, ⟨_, rfl, rfl⟩, by decide +kernel, by decide +kernel, hK2 _ ?_⟩
    rw [if_neg (by decide +kernel)]
    refine hK _ ?_
    clear hK K hK2 K2
    simp_all_arith! []
    exact q
def t_law (c : Ct) : DS :=
  (sSeq (sFor (iRng1D (dC (.d (.int 4)))) (gN 2) (sSeq (sSetF 3 (dCall (sp_law_protocol c) (daCons (dVar 0) (daCons (dVar 1) (daCons (dC (.d (.int 4))) (daCons (dC (.d (.int 5))) daNil))))))
    (sSeq (sSetF 4 (dOp wAdd (dC (.d (.int 1))) (dCall (sp_law_draw c) (daCons (dVar 0) (daCons (dVar 1) (daCons (dC (.d (.int 5))) daNil))))))
    (sSeq (sSetF 5 (dCall (sp_law_reach c) (daCons (dVar 3) (daCons (dVar 4) daNil))))
    (sSeq (sIf (bVal (dOp (wEqD fun b => !b) (dCallK (sp_reachable c) 1 1 (daCons (dVar 3) daNil) (daCons (dVar 4) daNil)) (dOne oTuple (dOne oSortKT (dVar 5))))) (sRet (dC (.d (.bool false)))) sNext)
    (sSeq (sIf (bVal (dOp (wEqD fun b => !b) (dCallK (sp_depth c) 1 1 (daCons (dVar 3) daNil) (daCons (dVar 4) daNil)) (dMaxV (dVar 5)))) (sRet (dC (.d (.bool false)))) sNext)
    (sSeq (sSetF 6 (dLst daNil))
    (sSeq (sFor (iSeq (dOne oSortKT (dVar 5))) (gN 7) (sSeq (sSetF 8 (dLc (iSeq (dCall (sp_law_moves c) (daCons (dVar 3) (daCons (dVar 7) daNil)))) (gT 2 (gsCons (gN 15) (gsCons (gN 16) gsNil))) (bVal (dOp (wEqD fun b => b) (dOp wIx (dVar 15) (dC (.d (.int 0)))) (dC (.d (.str ("rule" : Str)))))) (dVar 15) [15, 16]))
      (sSetF 6 (dOp wAdd (dVar 6) (dIf (bVal (dOp (wEqD fun b => b) (dVar 8) (dLst daNil))) (dLst (daCons (dVar 7) daNil)) (dLst daNil))))))
    (sSeq (sIf (bVal (dOp (wEqD fun b => !b) (dCallK (sp_quiet c) 1 1 (daCons (dVar 3) daNil) (daCons (dVar 4) daNil)) (dOne oTuple (dVar 6)))) (sRet (dC (.d (.bool false)))) sNext)
    (sSeq (sFor (iRng1D (dC (.d (.int 3)))) (gN 9) (sSeq (sSetF 10 (dCall (sp_law_pattern c) (daCons (dVar 0) (daCons (dVar 1) (daCons (dOp wIx (dVar 3) (dC (.d (.int 0)))) (daCons (dC (.d (.int 4))) daNil))))))
      (sIf (bVal (dOp (wEqD fun b => !b) (dCallK (sp_distance c) 1 1 (daCons (dVar 3) daNil) (daCons (dVar 10) daNil)) (dGetT (dCall (sp_law_reach c) (daCons (dVar 3) (daCons (dOne oSum (dVar 10)) daNil))) (dVar 10)))) (sRet (dC (.d (.bool false)))) sNext)))
    (sSeq (sAsg (dCall (sp_law_walk c) (daCons (dVar 0) (daCons (dVar 1) (daCons (dVar 3) (daCons (dVar 4) daNil))))) (gT 2 (gsCons (gN 11) (gsCons (gN 12) gsNil))))
    (sSeq (sIf (bVal (dOp (wEqD fun b => !b) (dCallK (sp_run c) 1 2 (daCons (dVar 3) daNil) (daCons (dVar 4) (daCons (dVar 11) daNil))) (dVar 12))) (sRet (dC (.d (.bool false)))) sNext)
    (sSeq (sSetF 13 (dLst (daCons (dC (.d .none)) (daCons (dOne oList (dVar 11)) (daCons (dOp wAdd (dVar 11) (dC (.d (.tuple [.none])))) (daCons (dOp wAdd (dVar 11) (dC (.d (.tuple [(.tuple [(.str ("rule" : Str)), (.int 8)])])))) daNil))))))
    (sSeq (sFor (iSeq (dOp wAdd (dVar 13) (dLst (daCons (dOp wAdd (dC (.d (.tuple [(.tuple [(.str ("drop" : Str)), (.int 1)])]))) (dVar 11)) daNil)))) (gN 14) (sIf (bVal (dOp (wEqD fun b => !b) (dRes (ResT c) (dCall (sp_run c) (daCons (dVar 3) (daCons (dVar 4) (daCons (dVar 14) daNil))))) (dC (.d (.tuple [(.str ("trace" : Str))]))))) (sRet (dC (.d (.bool false)))) sNext))
    (sIf (bNot (bTru (dCall (sp_law_errors c) (daCons (dVar 3) daNil)))) (sRet (dC (.d (.bool false)))) sNext)))))))))))))))
  (sRet (dC (.d (.bool true)))))
theorem rd_law (c : Ct) (hR : ResOk c) (n : Nat) (hn : n ≤ 63) : t_law c { nx := fun _ => False, rt := fun s => s = .d (.bool true) } (startD 17 [scr c n, .town]) (fun _ => False) := by
  show t_law c _ [some (scr c n), some .town, none, none, none, none, none, none, none, none, none, none, none, none, none, none, none] _
  unfold t_law
  refine seqK fun K hK => ?_
  simp_all_arith! []
  refine ⟨by decide, by decide, ?_⟩
  refine forR_inv (fun pre δ => ∃ o2 o3 o4 o5 o6 o7 o8 o9 o10 o11 o12 o13 o14 o15 o16 : Option SV, δ = [some (scr c n), some .town, o2, o3, o4, o5, o6, o7, o8, o9, o10, o11, o12, o13, o14, o15, o16]) _ [] _ ⟨none, none, none, none, none, none, none, none, none, none, none, none, none, none, none, rfl⟩ (fun pre x r δ k hpp hI hk => ?_) fun δ' hI => ?_
  · obtain ⟨o2, o3, o4, o5, o6, o7, o8, o9, o10, o11, o12, o13, o14, o15, o16, rfl⟩ := hI
    clear hK
    simp_arith [gN]
    refine seqK fun K hK => ?_
    simp_all_arith! []
    refine use_protocol 4 5 hn (by decide) fun p hp hm4 hr5 => ?_
    simp_all_arith! []
    refine hK _ ?_
    clear hK K
    have hlo := hp.lo
    have hhi := hp.hi
    refine seqK fun K hK => ?_
    simp_all_arith! []
    refine use_draw hn (by decide) fun d d0 d1 => ?_
    obtain ⟨d, rfl⟩ : ∃ j : Nat, d = j := ⟨d.toNat, by omega⟩
    simp_all_arith! []
    rw [show (1 : Int) + (d : Int) = ((1 + d : Nat) : Int) by omega]
    have h1 : 1 ≤ 1 + d := by omega
    have h5 : 1 + d ≤ 5 := by omega
    generalize 1 + d = m at h1 h5
    refine hK _ ?_
    clear hK K
    refine seqK fun K hK => ?_
    simp_all_arith! []
    refine use_law_reach hp (by omega) ?_
    simp_all_arith! []
    refine hK _ ?_
    clear hK K
    -- reachable
    refine seqK fun K hK => ?_
    refine sIfK fun K2 hK2 => ?_
    simp_all_arith! []
    refine num_ok hp h1 (by omega) ?_
    refine use_sortKT hp (n := m) rfl ?_
    simp_all_arith! []
    refine ⟨(fit_natsT _).sh (by decide), (fit_natsT _).sh (by decide), ?_⟩
    rw [show PyData.tuple ((foundN p m).map natsD) = reachD p m from rfl, (show Fit 2 (reachD p m) from fit_natsT _).eqv]
    refine hK2 _ ?_
    rw [if_neg (by decide)]
    refine hK _ ?_
    clear hK K hK2 K2
    -- depth
    refine seqK fun K hK => ?_
    refine sIfK fun K2 hK2 => ?_
    simp_all_arith! []
    refine num_ok hp h1 (by omega) ?_
    refine use_maxV hp (n := m) rfl ?_
    simp_all_arith! []
    refine ⟨(fit_int0 _).sh (by decide), (fit_int0 _).sh (by decide), ?_⟩
    rw [(fit_int0 _).eqv]
    refine hK2 _ ?_
    rw [if_neg (by decide)]
    refine hK _ ?_
    clear hK K hK2 K2
    -- quiet
    refine seqK fun K hK => ?_
    simp_all_arith! []
    refine ⟨by decide, hK _ ?_⟩
    clear hK K
    refine seqK fun K hK => ?_
    simp_all_arith! []
    refine use_sortKT hp (n := m) rfl ?_
    simp_all_arith! []
    refine forR_E natsD (fun pre δ => ∃ o7 o8 : Option SV, δ = [some (scr c n), some .town, some (.d x), some (.d p.enc), some (.d (.int (m : Int))), some (.fo (.dT (distKV (bfs p (firstN p.m m)).known))), some (.d (.list ((pre.filter fun ns => !(p.rules.any (isPossibleN ns))).map natsD))), o7, o8, o9, o10, o11, o12, o13, o14, o15, o16]) _ [] _ ⟨_, _, rfl⟩ (fun pre1 ns r1 δ k1 hp1 hI hk1 => ?_) fun δ' hI => ?_
    · obtain ⟨o7, o8, rfl⟩ := hI
      clear hK
      rw [List.nil_append] at hp1
      have hns : ns ∈ foundN p m := by rw [hp1]; exact List.mem_append_right _ List.mem_cons_self
      obtain ⟨hl, _⟩ := found_conf hp hns
      simp_arith [gN]
      refine seqK fun K hK => ?_
      simp_all_arith! []
      refine use_law_moves hp hl ?_
      simp_all_arith! []
      refine lcR_E pairD (fun y => if isRuleStep y.1 = true then some y.1.enc else none) _ (fun y hy k2 hk2 => ?_) ?_
      · unfold pairD
        simp_arith [lcT, gT, gsCons, gsNil, gN]
        cases hst : y.1 with
        | drop q =>
          rw [hst] at hk2
          unfold Stp.enc
          simp_all_arith! []
          refine ⟨by decide +kernel, by decide +kernel, ?_⟩
          rw [if_neg (by decide +kernel)]
          exact hk2
        | rule q =>
          rw [hst] at hk2
          unfold Stp.enc
          simp_all_arith! []
          refine ⟨by decide +kernel, by decide +kernel, ?_⟩
          rw [if_pos (by decide +kernel)]
          exact hk2
      · have hnr := no_rules p ns
        have hfit : Fit 2 (.list ((movesN p ns).filterMap fun y => if isRuleStep y.1 = true then some y.1.enc else none)) := Fit.list fun z hz => by
          obtain ⟨y, _, e⟩ := List.mem_filterMap.mp hz
          split at e
          · cases e
            exact fit_step _
          · cases e
        generalize (movesN p ns).filterMap (fun y => if isRuleStep y.1 = true then some y.1.enc else none) = L at hnr hfit ⊢
        refine hK _ ?_
        clear hK K
        have nx : ∀ l, l = (if L.isEmpty = true then [natsD ns] else []) → k1 [some (scr c n), some .town, some (.d x), some (.d p.enc), some (.d (.int (m : Int))), some (.fo (.dT (distKV (bfs p (firstN p.m m)).known))), some (.d (.list ((pre1.filter fun ns => !(p.rules.any (isPossibleN ns))).map natsD ++ l))), some (.d (natsD ns)), some (.d (.list L)), o9, o10, o11, o12, o13, o14, o15, o16] := fun l e => by
          refine hk1 _ ⟨some (.d (natsD ns)), some (.d (.list L)), ?_⟩
          rw [List.filter_append, List.map_append, e, hnr, List.filter_cons]
          split <;> rfl
        have hflen : ((pre1.filter fun ns => !(p.rules.any (isPossibleN ns))).map natsD).length ≤ 60000 := by
          rw [List.length_map]
          have e1 := List.length_filter_le (fun ns => !(p.rules.any (isPossibleN ns))) pre1
          have e2 : pre1.length ≤ (foundN p m).length := by rw [hp1, List.length_append]; omega
          have e3 : (foundN p m).length = (bfs p (firstN p.m m)).known.length := by unfold foundN sortN; rw [List.length_mergeSort, List.length_map]
          have e4 := known_len hp (n := m) (by omega)
          omega
        simp_all_arith! []
        refine ⟨by decide, hfit.sh (by decide), sh_nil, ?_⟩
        rw [eqv_listnil]
        cases hL : L.isEmpty with
        | true =>
          rw [if_pos rfl]
          refine ⟨by decide, by rw [sizeLine_eq]; omega, ?_⟩
          refine nx [natsD ns] ?_
          rw [if_pos hL]
        | false =>
          rw [if_neg (by decide)]
          refine ⟨by decide, by rw [sizeLine_eq]; omega, ?_⟩
          refine nx [] ?_
          rw [if_neg (by rw [hL]; decide)]
    · obtain ⟨o7, o8, rfl⟩ := hI
      rw [List.nil_append]
      refine hK _ ?_
      clear hK K
      refine seqK fun K hK => ?_
      refine sIfK fun K2 hK2 => ?_
      simp_all_arith! []
      refine num_ok hp h1 (by omega) ?_
      simp_all_arith! []
      refine ⟨(fit_natsT _).sh (by decide), (fit_natsT _).sh (by decide), ?_⟩
      rw [show (quietN p m) = (foundN p m).filter (fun ns => !(p.rules.any (isPossibleN ns))) from rfl, (fit_natsT _).eqv]
      refine hK2 _ ?_
      rw [if_neg (by decide)]
      refine hK _ ?_
      clear hK K hK2 K2
      -- distances
      refine seqK fun K hK => ?_
      simp_all_arith! []
      refine ⟨by decide, by decide, ?_⟩
      refine forR_inv (fun pre δ => ∃ o9 o10 : Option SV, δ = [some (scr c n), some .town, some (.d x), some (.d p.enc), some (.d (.int (m : Int))), some (.fo (.dT (distKV (bfs p (firstN p.m m)).known))), some (.d (.list (((foundN p m).filter fun ns => !(p.rules.any (isPossibleN ns))).map natsD))), o7, o8, o9, o10, o11, o12, o13, o14, o15, o16]) _ [] _ ⟨_, _, rfl⟩ (fun p2 x2 r2 δ k2 hp2 hI hk2 => ?_) fun δ' hI => ?_
      · obtain ⟨o9, o10, rfl⟩ := hI
        clear hK
        simp_arith [gN]
        refine seqK fun K hK => ?_
        rw [enc_eq]
        simp_all_arith! []
        refine use_pattern p.m 4 hn (by omega) fun ns g1 g2 g3 g4 => ?_
        rw [← enc_eq]
        simp_all_arith! []
        refine hK _ ?_
        clear hK K
        refine sIfK fun K hK => ?_
        simp_all_arith! []
        refine dist_ok hp ((isConf_nats ns).mpr ⟨g1, g3, by omega⟩) ?_
        refine ⟨_, asS_nats ns, ?_⟩
        rw [nats_sum]
        refine use_law_reach hp (by omega) ?_
        refine ⟨_, rfl, natsK ns, by rw [natsK_d], distD p ns, .inl rfl, (fit_dist p ns).sh (by decide), (fit_dist p ns).sh (by decide), ?_⟩
        rw [show (getD (distKV (bfs p (firstN p.m ns.sum)).known) (natsK ns)).getD .none = distD p ns from rfl, (fit_dist p ns).eqv]
        refine hK _ ?_
        rw [if_neg (by decide)]
        exact hk2 _ ⟨_, _, rfl⟩
      · obtain ⟨o9, o10, rfl⟩ := hI
        refine hK _ ?_
        clear hK K
        -- a walk
        refine seqK fun K hK => ?_
        simp_all_arith! []
        refine use_law_walk hn hp fun tr l htr hw => ?_
        simp_all_arith! []
        refine hK _ ?_
        clear hK K
        refine seqK fun K hK => ?_
        refine sIfK fun K2 hK2 => ?_
        simp_all_arith! []
        refine run_ok hp h1 (by omega) (show tr.length ≤ 1000 by omega) (show wayN p m (.tuple tr) = some l from hw) ?_
        simp_all_arith! []
        refine ⟨(fit_natsT _).sh (by decide), (fit_natsT _).sh (by decide), ?_⟩
        rw [(fit_natsT _).eqv]
        refine hK2 _ ?_
        rw [if_neg (by decide)]
        refine hK _ ?_
        clear hK K hK2 K2
        -- odd ones
        refine seqK fun K hK => ?_
        simp_all_arith! []
        refine ⟨by rw [sizeLine_eq]; omega, by rw [sizeLine_eq]; omega, by decide, hK _ ?_⟩
        clear hK K
        refine seqK fun K hK => ?_
        simp_all_arith! []
        repeat refine And.intro (by first | decide | omega | decide +kernel) ?_
        refine ⟨by rw [sizeLine_eq]; omega, by decide, by rw [sizeLine_eq]; decide, ?_⟩
        refine forR_inv (fun pre δ => ∃ o14 : Option SV, δ = [some (scr c n), some .town, some (.d x), some (.d p.enc), some (.d (.int (m : Int))), some (.fo (.dT (distKV (bfs p (firstN p.m m)).known))), some (.d (.list (((foundN p m).filter fun ns => !(p.rules.any (isPossibleN ns))).map natsD))), o7, o8, o9, o10, some (.d (.tuple tr)), some (.d (.tuple (l.map natsD))),
          some (.d (.list [.none, .list tr, .tuple (tr ++ [.none]), .tuple (tr ++ [.tuple [.str "rule", .int 8]])])), o14, o15, o16]) _ [] _ ⟨_, rfl⟩ (fun p2 x2 r2 δ k2 hp2 hI hk2 => ?_) fun δ' hI => ?_
        · obtain ⟨o14, rfl⟩ := hI
          rw [List.nil_append] at hp2
          clear hK
          have hm : x2 ∈ [PyData.none, .list tr, .tuple (tr ++ [.none]), .tuple (tr ++ [.tuple [.str "rule", .int 8]]), .tuple (.tuple [.str "drop", .int 1] :: tr)] := by
            rw [show _ = p2 ++ x2 :: r2 from hp2]
            exact List.mem_append_right _ List.mem_cons_self
          have hok : TrOk x2 ∧ wayN p m x2 = none := by
            simp only [List.mem_cons, List.not_mem_nil, or_false] at hm
            rcases hm with rfl | rfl | rfl | rfl | rfl
            · exact ⟨trivial, rfl⟩
            · exact ⟨trivial, rfl⟩
            · exact ⟨by show (tr ++ [_]).length ≤ 1000; rw [List.length_append, List.length_singleton]; omega, walk_bad fun ns => mov_none p ns⟩
            · exact ⟨by show (tr ++ [_]).length ≤ 1000; rw [List.length_append, List.length_singleton]; omega, walk_bad fun ns => mov_rule8 hr5 ns⟩
            · exact ⟨by show (_ :: tr).length ≤ 1000; rw [List.length_cons]; omega, walk_bad0 (mov_drop1 hp m)⟩
          simp_arith [gN]
          refine sIfK fun K hK => ?_
          simp_all_arith! []
          refine run_no hp h1 (by omega) hok.1 hok.2 ⟨_, rfl, "trace", hR.trace, ?_⟩
          repeat refine And.intro (by first | decide | omega | decide +kernel) ?_
          refine hK _ ?_
          rw [if_neg (by decide +kernel)]
          exact hk2 _ ⟨_, rfl⟩
        · obtain ⟨o14, rfl⟩ := hI
          refine hK _ ?_
          clear hK K
          refine sIfK fun K hK => ?_
          simp_all_arith! []
          refine use_law_errors hR hp ?_
          simp_all_arith! []
          refine hK _ ?_
          rw [if_neg (by decide)]
          exact hk _ ⟨_, _, _, _, _, _, _, _, _, _, _, _, _, _, _, rfl⟩
  · obtain ⟨o2, o3, o4, o5, o6, o7, o8, o9, o10, o11, o12, o13, o14, o15, o16, rfl⟩ := hI
    refine hK _ ?_
    clear hK K
    simp_all_arith! []
end DL
/-! the law k04: its text, its top, its end (printed by gentop.py) -/
namespace DL
open PySem PySem.Spec PyProof.Rows L2 LamX
def topS (i : Nat) : Stmt := PySem.Challenge.pw_manycaches_k04_searching.main.body.getD i (.Pass ⟨0, 0, 0, 0⟩)
abbrev s_is_between : Stmt := topS 21
abbrev s_are_between : Stmt := topS 22
abbrev s_is_ascending : Stmt := topS 23
abbrev s_is_rule : Stmt := topS 24
abbrev s_is_protocol : Stmt := topS 25
abbrev s_check_protocol : Stmt := topS 26
abbrev s_are_counts : Stmt := topS 27
abbrev s_is_count : Stmt := topS 28
abbrev s_is_configuration_of : Stmt := topS 29
abbrev s_check_configuration : Stmt := topS 30
abbrev s_check_number : Stmt := topS 31
abbrev s_first_of : Stmt := topS 32
abbrev s_others : Stmt := topS 33
abbrev s_is_possible : Stmt := topS 34
abbrev s_performed : Stmt := topS 35
abbrev s_dropped : Stmt := topS 36
abbrev s_moves : Stmt := topS 37
abbrev s_is_step_shape : Stmt := topS 38
abbrev s_moved : Stmt := topS 39
abbrev s_Search___init__ : Stmt := inClass (topS 41) 0
abbrev s_reachable : Stmt := topS 42
abbrev s_distance : Stmt := topS 43
abbrev s_depth : Stmt := topS 44
abbrev s_quiet : Stmt := topS 45
abbrev s_way : Stmt := topS 46
abbrev s_run : Stmt := topS 47
abbrev s_law_result : Stmt := topS 49
abbrev s_law_draw : Stmt := topS 50
abbrev s_law_rule : Stmt := topS 52
abbrev s_law_protocol : Stmt := topS 53
abbrev s_law_pattern : Stmt := topS 54
abbrev s_law_moves : Stmt := topS 55
abbrev s_law_reach : Stmt := topS 56
abbrev s_law_walk : Stmt := topS 57
abbrev s_law_errors : Stmt := topS 58
abbrev s_law : Stmt := topS 59
abbrev s_law_begun : Stmt := topS 51
abbrev N_is_between : List Str := ["value", "low", "high"]
theorem sc_is_between : FnScope N_is_between ["value", "low", "high"] (defScope s_is_between) := ⟨rfl, rfl, rfl, by decide +kernel, rfl, by decide +kernel, by decide +kernel⟩
abbrev N_are_between : List Str := ["values", "low", "high", "one"]
theorem sc_are_between : FnScope N_are_between ["values", "low", "high"] (defScope s_are_between) := ⟨rfl, rfl, rfl, by decide +kernel, rfl, by decide +kernel, by decide +kernel⟩
abbrev N_is_ascending : List Str := ["values", "one", "other"]
theorem sc_is_ascending : FnScope N_is_ascending ["values"] (defScope s_is_ascending) := ⟨rfl, rfl, rfl, by decide +kernel, rfl, by decide +kernel, by decide +kernel⟩
abbrev N_is_rule : List Str := ["many", "value", "source", "target", "need", "bars", "effects"]
theorem sc_is_rule : FnScope N_is_rule ["many", "value"] (defScope s_is_rule) := ⟨rfl, rfl, rfl, by decide +kernel, rfl, by decide +kernel, by decide +kernel⟩
abbrev N_is_protocol : List Str := ["value", "many", "rules", "one"]
theorem sc_is_protocol : FnScope N_is_protocol ["value"] (defScope s_is_protocol) := ⟨rfl, rfl, rfl, by decide +kernel, rfl, by decide +kernel, by decide +kernel⟩
abbrev N_check_protocol : List Str := ["protocol"]
theorem sc_check_protocol : FnScope N_check_protocol ["protocol"] (defScope s_check_protocol) := ⟨rfl, rfl, rfl, by decide +kernel, rfl, by decide +kernel, by decide +kernel⟩
abbrev N_are_counts : List Str := ["protocol", "value", "one"]
theorem sc_are_counts : FnScope N_are_counts ["protocol", "value"] (defScope s_are_counts) := ⟨rfl, rfl, rfl, by decide +kernel, rfl, by decide +kernel, by decide +kernel⟩
abbrev N_is_count : List Str := ["value"]
theorem sc_is_count : FnScope N_is_count ["value"] (defScope s_is_count) := ⟨rfl, rfl, rfl, by decide +kernel, rfl, by decide +kernel, by decide +kernel⟩
abbrev N_is_configuration_of : List Str := ["protocol", "value"]
theorem sc_is_configuration_of : FnScope N_is_configuration_of ["protocol", "value"] (defScope s_is_configuration_of) := ⟨rfl, rfl, rfl, by decide +kernel, rfl, by decide +kernel, by decide +kernel⟩
abbrev N_check_configuration : List Str := ["protocol", "configuration"]
theorem sc_check_configuration : FnScope N_check_configuration ["protocol", "configuration"] (defScope s_check_configuration) := ⟨rfl, rfl, rfl, by decide +kernel, rfl, by decide +kernel, by decide +kernel⟩
abbrev N_check_number : List Str := ["caches"]
theorem sc_check_number : FnScope N_check_number ["caches"] (defScope s_check_number) := ⟨rfl, rfl, rfl, by decide +kernel, rfl, by decide +kernel, by decide +kernel⟩
abbrev N_first_of : List Str := ["protocol", "caches"]
theorem sc_first_of : FnScope N_first_of ["protocol", "caches"] (defScope s_first_of) := ⟨rfl, rfl, rfl, by decide +kernel, rfl, by decide +kernel, by decide +kernel⟩
abbrev N_others : List Str := ["configuration", "state"]
theorem sc_others : FnScope N_others ["configuration", "state"] (defScope s_others) := ⟨rfl, rfl, rfl, by decide +kernel, rfl, by decide +kernel, by decide +kernel⟩
abbrev N_is_possible : List Str := ["configuration", "rule", "source", "target", "need", "bars", "effects", "rest", "state"]
theorem sc_is_possible : FnScope N_is_possible ["configuration", "rule"] (defScope s_is_possible) := ⟨rfl, rfl, rfl, by decide +kernel, rfl, by decide +kernel, by decide +kernel⟩
abbrev N_performed : List Str := ["configuration", "rule", "source", "target", "need", "bars", "effects", "found", "state", "count"]
theorem sc_performed : FnScope N_performed ["configuration", "rule"] (defScope s_performed) := ⟨rfl, rfl, rfl, by decide +kernel, rfl, by decide +kernel, by decide +kernel⟩
abbrev N_dropped : List Str := ["configuration", "state", "rest"]
theorem sc_dropped : FnScope N_dropped ["configuration", "state"] (defScope s_dropped) := ⟨rfl, rfl, rfl, by decide +kernel, rfl, by decide +kernel, by decide +kernel⟩
abbrev N_moves : List Str := ["protocol", "configuration", "found", "state", "index", "rule"]
theorem sc_moves : FnScope N_moves ["protocol", "configuration"] (defScope s_moves) := ⟨rfl, rfl, rfl, by decide +kernel, rfl, by decide +kernel, by decide +kernel⟩
abbrev N_is_step_shape : List Str := ["value"]
theorem sc_is_step_shape : FnScope N_is_step_shape ["value"] (defScope s_is_step_shape) := ⟨rfl, rfl, rfl, by decide +kernel, rfl, by decide +kernel, by decide +kernel⟩
abbrev N_moved : List Str := ["protocol", "configuration", "step"]
theorem sc_moved : FnScope N_moved ["protocol", "configuration", "step"] (defScope s_moved) := ⟨rfl, rfl, rfl, by decide +kernel, rfl, by decide +kernel, by decide +kernel⟩
abbrev N_Search___init__ : List Str := ["self", "protocol", "caches", "start", "waiting", "further", "here", "step", "there"]
theorem sc_Search___init__ : FnScope N_Search___init__ ["self", "protocol", "caches"] (defScope s_Search___init__) := ⟨rfl, rfl, rfl, by decide +kernel, rfl, by decide +kernel, by decide +kernel⟩
abbrev N_reachable : List Str := ["protocol", "caches"]
theorem sc_reachable : FnScope N_reachable ["protocol", "caches"] (defScope s_reachable) := ⟨rfl, rfl, rfl, by decide +kernel, rfl, by decide +kernel, by decide +kernel⟩
abbrev N_distance : List Str := ["protocol", "configuration"]
theorem sc_distance : FnScope N_distance ["protocol", "configuration"] (defScope s_distance) := ⟨rfl, rfl, rfl, by decide +kernel, rfl, by decide +kernel, by decide +kernel⟩
abbrev N_depth : List Str := ["protocol", "caches"]
theorem sc_depth : FnScope N_depth ["protocol", "caches"] (defScope s_depth) := ⟨rfl, rfl, rfl, by decide +kernel, rfl, by decide +kernel, by decide +kernel⟩
abbrev N_quiet : List Str := ["protocol", "caches", "some", "one", "rule"]
theorem sc_quiet : FnScope N_quiet ["protocol", "caches"] (defScope s_quiet) := ⟨rfl, rfl, rfl, by decide +kernel, rfl, by decide +kernel, by decide +kernel⟩
abbrev N_way : List Str := ["protocol", "caches", "trace", "found", "step", "there"]
theorem sc_way : FnScope N_way ["protocol", "caches", "trace"] (defScope s_way) := ⟨rfl, rfl, rfl, by decide +kernel, rfl, by decide +kernel, by decide +kernel⟩
abbrev N_run : List Str := ["protocol", "caches", "trace", "found"]
theorem sc_run : FnScope N_run ["protocol", "caches", "trace"] (defScope s_run) := ⟨rfl, rfl, rfl, by decide +kernel, rfl, by decide +kernel, by decide +kernel⟩
abbrev N_law_result : List Str := ["_law_call", "_law_raised", "_law_result_here", "e", "_law_some", "_law_names", "_law_name"]
theorem sc_law_result : FnScope N_law_result ["_law_call"] (defScope s_law_result) := ⟨rfl, rfl, rfl, by decide +kernel, rfl, by decide +kernel, by decide +kernel⟩
abbrev N_law_draw : List Str := ["_law_script", "_law_town", "_law_many", "_law_at", "_law_rest", "_law_number"]
theorem sc_law_draw : FnScope N_law_draw ["_law_script", "_law_town", "_law_many"] (defScope s_law_draw) := ⟨rfl, rfl, rfl, by decide +kernel, rfl, by decide +kernel, by decide +kernel⟩
abbrev N_law_rule : List Str := ["_law_script", "_law_town", "_law_many", "_law_source", "_law_target", "_law_need", "_law_bars", "_law_effects", "_law_state"]
theorem sc_law_rule : FnScope N_law_rule ["_law_script", "_law_town", "_law_many"] (defScope s_law_rule) := ⟨rfl, rfl, rfl, by decide +kernel, rfl, by decide +kernel, by decide +kernel⟩
abbrev N_law_protocol : List Str := ["_law_script", "_law_town", "_law_states", "_law_rules", "_law_many", "_law_k"]
theorem sc_law_protocol : FnScope N_law_protocol ["_law_script", "_law_town", "_law_states", "_law_rules"] (defScope s_law_protocol) := ⟨rfl, rfl, rfl, by decide +kernel, rfl, by decide +kernel, by decide +kernel⟩
abbrev N_law_pattern : List Str := ["_law_script", "_law_town", "_law_many", "_law_most", "_law_counts", "_law_k"]
theorem sc_law_pattern : FnScope N_law_pattern ["_law_script", "_law_town", "_law_many", "_law_most"] (defScope s_law_pattern) := ⟨rfl, rfl, rfl, by decide +kernel, rfl, by decide +kernel, by decide +kernel⟩
abbrev N_law_moves : List Str := ["_law_protocol_here", "_law_configuration_here", "_law_found", "_law_state", "_law_counts", "_law_index", "_law_source", "_law_target", "_law_need", "_law_bars", "_law_effects", "_law_rest", "_law_good", "_law_count"]
theorem sc_law_moves : FnScope N_law_moves ["_law_protocol_here", "_law_configuration_here"] (defScope s_law_moves) := ⟨rfl, rfl, rfl, by decide +kernel, rfl, by decide +kernel, by decide +kernel⟩
abbrev N_law_reach : List Str := ["_law_protocol_here", "_law_caches_here", "_law_start", "_law_found", "_law_waiting", "_law_further", "_law_here", "_law_step", "_law_there"]
theorem sc_law_reach : FnScope N_law_reach ["_law_protocol_here", "_law_caches_here"] (defScope s_law_reach) := ⟨rfl, rfl, rfl, by decide +kernel, rfl, by decide +kernel, by decide +kernel⟩
abbrev N_law_walk : List Str := ["_law_script", "_law_town", "_law_protocol_here", "_law_caches_here", "_law_trace_here", "_law_rows", "_law_k", "_law_some", "_law_step", "_law_there"]
theorem sc_law_walk : FnScope N_law_walk ["_law_script", "_law_town", "_law_protocol_here", "_law_caches_here"] (defScope s_law_walk) := ⟨rfl, rfl, rfl, by decide +kernel, rfl, by decide +kernel, by decide +kernel⟩
abbrev N_law_errors : List Str := ["_law_protocol_here_here", "_law_deed", "_law_results"]
theorem sc_law_errors : FnScope N_law_errors ["_law_protocol_here_here"] (defScope s_law_errors) := ⟨rfl, rfl, rfl, by decide +kernel, rfl, by decide +kernel, by decide +kernel⟩
abbrev N_law : List Str := ["_law_script", "_law_town", "_law_k", "_law_protocol_here_here", "_law_caches_here", "_law_found", "_law_due", "_law_one", "_law_some", "_law_j", "_law_counts", "_law_trace_here", "_law_rows", "_law_odds", "_law_odd", "_law_step", "_law_there"]
theorem sc_law : FnScope N_law ["_law_script"] (defScope s_law) := ⟨rfl, rfl, rfl, by decide +kernel, rfl, by decide +kernel, by decide +kernel⟩
theorem sc_law_begun : FnScope [] [] (defScope s_law_begun) := ⟨rfl, rfl, rfl, by decide +kernel, rfl, by decide +kernel, by decide +kernel⟩
structure Tx (P : Program) (w : World) (K : PySem.W.Frag) (mg : Str → Option Value) where
  cls : String → Addr
  tabs : List (Addr × Str)
  c_law_errors : Addr
  p_law_errors : Addr
  t_law_errors : (p_law_errors, lamN "_law_errors") ∈ tabs
  c_law : Addr
  p_law : Addr
  t_law : (p_law, lamN "law") ∈ tabs
  nd : (tabs.map (·.1)).Nodup
  res : ResOk ⟨cls, K, tabs⟩
  a_is_between : Addr
  d_is_between : FuncData
  F_is_between : Fun K "is_between" "is_between" s_is_between a_is_between d_is_between
  g_is_between : mg "is_between" = some (.ref a_is_between)
  b_is_between : Binds K d_is_between ["value", "low", "high"] []
  a_are_between : Addr
  d_are_between : FuncData
  F_are_between : Fun K "are_between" "are_between" s_are_between a_are_between d_are_between
  g_are_between : mg "are_between" = some (.ref a_are_between)
  b_are_between : Binds K d_are_between ["values", "low", "high"] []
  a_is_ascending : Addr
  d_is_ascending : FuncData
  F_is_ascending : Fun K "is_ascending" "is_ascending" s_is_ascending a_is_ascending d_is_ascending
  g_is_ascending : mg "is_ascending" = some (.ref a_is_ascending)
  b_is_ascending : Binds K d_is_ascending ["values"] []
  a_is_rule : Addr
  d_is_rule : FuncData
  F_is_rule : Fun K "is_rule" "is_rule" s_is_rule a_is_rule d_is_rule
  g_is_rule : mg "is_rule" = some (.ref a_is_rule)
  b_is_rule : Binds K d_is_rule ["many", "value"] []
  a_is_protocol : Addr
  d_is_protocol : FuncData
  F_is_protocol : Fun K "is_protocol" "is_protocol" s_is_protocol a_is_protocol d_is_protocol
  g_is_protocol : mg "is_protocol" = some (.ref a_is_protocol)
  b_is_protocol : Binds K d_is_protocol ["value"] []
  a_check_protocol : Addr
  d_check_protocol : FuncData
  F_check_protocol : Fun K "check_protocol" "check_protocol" s_check_protocol a_check_protocol d_check_protocol
  g_check_protocol : mg "check_protocol" = some (.ref a_check_protocol)
  b_check_protocol : Binds K d_check_protocol ["protocol"] []
  a_are_counts : Addr
  d_are_counts : FuncData
  F_are_counts : Fun K "are_counts" "are_counts" s_are_counts a_are_counts d_are_counts
  g_are_counts : mg "are_counts" = some (.ref a_are_counts)
  b_are_counts : Binds K d_are_counts ["protocol", "value"] []
  a_is_count : Addr
  d_is_count : FuncData
  F_is_count : Fun K "is_count" "is_count" s_is_count a_is_count d_is_count
  g_is_count : mg "is_count" = some (.ref a_is_count)
  b_is_count : Binds K d_is_count ["value"] []
  a_is_configuration_of : Addr
  d_is_configuration_of : FuncData
  F_is_configuration_of : Fun K "is_configuration_of" "is_configuration_of" s_is_configuration_of a_is_configuration_of d_is_configuration_of
  g_is_configuration_of : mg "is_configuration_of" = some (.ref a_is_configuration_of)
  b_is_configuration_of : Binds K d_is_configuration_of ["protocol", "value"] []
  a_check_configuration : Addr
  d_check_configuration : FuncData
  F_check_configuration : Fun K "check_configuration" "check_configuration" s_check_configuration a_check_configuration d_check_configuration
  g_check_configuration : mg "check_configuration" = some (.ref a_check_configuration)
  b_check_configuration : Binds K d_check_configuration ["protocol", "configuration"] []
  a_check_number : Addr
  d_check_number : FuncData
  F_check_number : Fun K "check_number" "check_number" s_check_number a_check_number d_check_number
  g_check_number : mg "check_number" = some (.ref a_check_number)
  b_check_number : Binds K d_check_number ["caches"] []
  a_first_of : Addr
  d_first_of : FuncData
  F_first_of : Fun K "first_of" "first_of" s_first_of a_first_of d_first_of
  g_first_of : mg "first_of" = some (.ref a_first_of)
  b_first_of : Binds K d_first_of ["protocol", "caches"] []
  a_others : Addr
  d_others : FuncData
  F_others : Fun K "others" "others" s_others a_others d_others
  g_others : mg "others" = some (.ref a_others)
  b_others : Binds K d_others ["configuration", "state"] []
  a_is_possible : Addr
  d_is_possible : FuncData
  F_is_possible : Fun K "is_possible" "is_possible" s_is_possible a_is_possible d_is_possible
  g_is_possible : mg "is_possible" = some (.ref a_is_possible)
  b_is_possible : Binds K d_is_possible ["configuration", "rule"] []
  a_performed : Addr
  d_performed : FuncData
  F_performed : Fun K "performed" "performed" s_performed a_performed d_performed
  g_performed : mg "performed" = some (.ref a_performed)
  b_performed : Binds K d_performed ["configuration", "rule"] []
  a_dropped : Addr
  d_dropped : FuncData
  F_dropped : Fun K "dropped" "dropped" s_dropped a_dropped d_dropped
  g_dropped : mg "dropped" = some (.ref a_dropped)
  b_dropped : Binds K d_dropped ["configuration", "state"] []
  a_moves : Addr
  d_moves : FuncData
  F_moves : Fun K "moves" "moves" s_moves a_moves d_moves
  g_moves : mg "moves" = some (.ref a_moves)
  b_moves : Binds K d_moves ["protocol", "configuration"] []
  a_is_step_shape : Addr
  d_is_step_shape : FuncData
  F_is_step_shape : Fun K "is_step_shape" "is_step_shape" s_is_step_shape a_is_step_shape d_is_step_shape
  g_is_step_shape : mg "is_step_shape" = some (.ref a_is_step_shape)
  b_is_step_shape : Binds K d_is_step_shape ["value"] []
  a_moved : Addr
  d_moved : FuncData
  F_moved : Fun K "moved" "moved" s_moved a_moved d_moved
  g_moved : mg "moved" = some (.ref a_moved)
  b_moved : Binds K d_moved ["protocol", "configuration", "step"] []
  a_Search___init__ : Addr
  d_Search___init__ : FuncData
  F_Search___init__ : Fun K "__init__" "Search.__init__" s_Search___init__ a_Search___init__ d_Search___init__
  mk_Search : Mk K (cls "Search") a_Search___init__
  b_Search___init__ : Binds K d_Search___init__ ["self", "protocol", "caches"] []
  a_reachable : Addr
  d_reachable : FuncData
  F_reachable : Fun K "reachable" "reachable" s_reachable a_reachable d_reachable
  g_reachable : mg "reachable" = some (.ref a_reachable)
  f_reachable : cls "reachable" = a_reachable
  gf_reachable : mg "reachable" = some (.ref (cls "reachable"))
  b_reachable : Binds K d_reachable ["protocol", "caches"] []
  a_distance : Addr
  d_distance : FuncData
  F_distance : Fun K "distance" "distance" s_distance a_distance d_distance
  g_distance : mg "distance" = some (.ref a_distance)
  b_distance : Binds K d_distance ["protocol", "configuration"] []
  a_depth : Addr
  d_depth : FuncData
  F_depth : Fun K "depth" "depth" s_depth a_depth d_depth
  g_depth : mg "depth" = some (.ref a_depth)
  f_depth : cls "depth" = a_depth
  gf_depth : mg "depth" = some (.ref (cls "depth"))
  b_depth : Binds K d_depth ["protocol", "caches"] []
  a_quiet : Addr
  d_quiet : FuncData
  F_quiet : Fun K "quiet" "quiet" s_quiet a_quiet d_quiet
  g_quiet : mg "quiet" = some (.ref a_quiet)
  f_quiet : cls "quiet" = a_quiet
  gf_quiet : mg "quiet" = some (.ref (cls "quiet"))
  b_quiet : Binds K d_quiet ["protocol", "caches"] []
  a_way : Addr
  d_way : FuncData
  F_way : Fun K "way" "way" s_way a_way d_way
  g_way : mg "way" = some (.ref a_way)
  b_way : Binds K d_way ["protocol", "caches", "trace"] []
  a_run : Addr
  d_run : FuncData
  F_run : Fun K "run" "run" s_run a_run d_run
  g_run : mg "run" = some (.ref a_run)
  b_run : Binds K d_run ["protocol", "caches", "trace"] []
  a_law_result : Addr
  d_law_result : FuncData
  F_law_result : Fun K "_law_result" "_law_result" s_law_result a_law_result d_law_result
  g_law_result : mg "_law_result" = some (.ref a_law_result)
  b_law_result : Binds K d_law_result ["_law_call"] []
  a_law_draw : Addr
  d_law_draw : FuncData
  F_law_draw : Fun K "_law_draw" "_law_draw" s_law_draw a_law_draw d_law_draw
  g_law_draw : mg "_law_draw" = some (.ref a_law_draw)
  b_law_draw : Binds K d_law_draw ["_law_script", "_law_town", "_law_many"] []
  a_law_rule : Addr
  d_law_rule : FuncData
  F_law_rule : Fun K "_law_rule" "_law_rule" s_law_rule a_law_rule d_law_rule
  g_law_rule : mg "_law_rule" = some (.ref a_law_rule)
  b_law_rule : Binds K d_law_rule ["_law_script", "_law_town", "_law_many"] []
  a_law_protocol : Addr
  d_law_protocol : FuncData
  F_law_protocol : Fun K "_law_protocol" "_law_protocol" s_law_protocol a_law_protocol d_law_protocol
  g_law_protocol : mg "_law_protocol" = some (.ref a_law_protocol)
  b_law_protocol : Binds K d_law_protocol ["_law_script", "_law_town", "_law_states", "_law_rules"] []
  a_law_pattern : Addr
  d_law_pattern : FuncData
  F_law_pattern : Fun K "_law_pattern" "_law_pattern" s_law_pattern a_law_pattern d_law_pattern
  g_law_pattern : mg "_law_pattern" = some (.ref a_law_pattern)
  b_law_pattern : Binds K d_law_pattern ["_law_script", "_law_town", "_law_many", "_law_most"] []
  a_law_moves : Addr
  d_law_moves : FuncData
  F_law_moves : Fun K "_law_moves" "_law_moves" s_law_moves a_law_moves d_law_moves
  g_law_moves : mg "_law_moves" = some (.ref a_law_moves)
  b_law_moves : Binds K d_law_moves ["_law_protocol_here", "_law_configuration_here"] []
  a_law_reach : Addr
  d_law_reach : FuncData
  F_law_reach : Fun K "_law_reach" "_law_reach" s_law_reach a_law_reach d_law_reach
  g_law_reach : mg "_law_reach" = some (.ref a_law_reach)
  b_law_reach : Binds K d_law_reach ["_law_protocol_here", "_law_caches_here"] []
  a_law_walk : Addr
  d_law_walk : FuncData
  F_law_walk : Fun K "_law_walk" "_law_walk" s_law_walk a_law_walk d_law_walk
  g_law_walk : mg "_law_walk" = some (.ref a_law_walk)
  b_law_walk : Binds K d_law_walk ["_law_script", "_law_town", "_law_protocol_here", "_law_caches_here"] []
  a_law_errors : Addr
  d_law_errors : FuncData
  F_law_errors : FunC K "_law_errors" "_law_errors" s_law_errors a_law_errors d_law_errors (.ref c_law_errors)
  g_law_errors : mg "_law_errors" = some (.ref a_law_errors)
  b_law_errors : Binds K d_law_errors ["_law_protocol_here_here"] []
  a_law_begun : Addr
  d_law_begun : FuncData
  F_law_begun : Fun K "_law_begun" "_law_begun" s_law_begun a_law_begun d_law_begun
  g_law_begun : mg "_law_begun" = some (.ref a_law_begun)
  b_law_begun : Binds K d_law_begun [] []
  k_depth_1 : KB K d_depth ["protocol", "caches"] 1 ["caches"]
  k_distance_1 : KB K d_distance ["protocol", "configuration"] 1 ["configuration"]
  k_quiet_1 : KB K d_quiet ["protocol", "caches"] 1 ["caches"]
  k_reachable_1 : KB K d_reachable ["protocol", "caches"] 1 ["caches"]
  k_run_1 : KB K d_run ["protocol", "caches", "trace"] 1 ["caches", "trace"]
  m_ValueError : mg "ValueError" = none
  m_all : mg "all" = none
  m_any : mg "any" = none
  m_bool : mg "bool" = none
  m_dict : mg "dict" = none
  m_enumerate : mg "enumerate" = none
  m_int : mg "int" = none
  m_isinstance : mg "isinstance" = none
  m_len : mg "len" = none
  m_list : mg "list" = none
  m_max : mg "max" = none
  m_range : mg "range" = none
  m_sorted : mg "sorted" = none
  m_str : mg "str" = none
  m_sum : mg "sum" = none
  m_tuple : mg "tuple" = none
  m_zip : mg "zip" = none
  t_CACHES : Tok
  m_CACHES : mg "CACHES" = some (.int 8 t_CACHES)
  t_RULES : Tok
  m_RULES : mg "RULES" = some (.int 8 t_RULES)
  gc_CacheError : mg "CacheError" = some (.ref (cls "CacheError"))
  gc_InvalidChange : mg "InvalidChange" = some (.ref (cls "InvalidChange"))
  gc_InvalidConfiguration : mg "InvalidConfiguration" = some (.ref (cls "InvalidConfiguration"))
  gc_InvalidIndex : mg "InvalidIndex" = some (.ref (cls "InvalidIndex"))
  gc_InvalidLog : mg "InvalidLog" = some (.ref (cls "InvalidLog"))
  gc_InvalidNumber : mg "InvalidNumber" = some (.ref (cls "InvalidNumber"))
  gc_InvalidOrder : mg "InvalidOrder" = some (.ref (cls "InvalidOrder"))
  gc_InvalidPattern : mg "InvalidPattern" = some (.ref (cls "InvalidPattern"))
  gc_InvalidProtocol : mg "InvalidProtocol" = some (.ref (cls "InvalidProtocol"))
  gc_InvalidRule : mg "InvalidRule" = some (.ref (cls "InvalidRule"))
  gc_InvalidStep : mg "InvalidStep" = some (.ref (cls "InvalidStep"))
  gc_InvalidText : mg "InvalidText" = some (.ref (cls "InvalidText"))
  gc_InvalidTrace : mg "InvalidTrace" = some (.ref (cls "InvalidTrace"))
  gc_NotComparable : mg "NotComparable" = some (.ref (cls "NotComparable"))
  gc_NothingToUndo : mg "NothingToUndo" = some (.ref (cls "NothingToUndo"))
  gc_Search : mg "Search" = some (.ref (cls "Search"))
  gc_TooLarge : mg "TooLarge" = some (.ref (cls "TooLarge"))
  gc_TooMany : mg "TooMany" = some (.ref (cls "TooMany"))
  cl_Search : SCls K (cls "Search")
  x_InvalidConfiguration : PySem.W.excIn K (cls "InvalidConfiguration") [.type "ValueError", .type "Exception", .type "BaseException", .type "object"] "ValueError.__new__" = true
  kc_InvalidConfiguration : PySem.W.keepIn K (.ref (cls "InvalidConfiguration")) = true
  bc_InvalidConfiguration : PySem.W.subIn K (.ref (cls "InvalidConfiguration")) (.type "BaseException") = some true
  tc_InvalidConfiguration : PySem.W.typeIn K (.ref (cls "InvalidConfiguration")) = some (.type "type")
  x_InvalidNumber : PySem.W.excIn K (cls "InvalidNumber") [.type "ValueError", .type "Exception", .type "BaseException", .type "object"] "ValueError.__new__" = true
  kc_InvalidNumber : PySem.W.keepIn K (.ref (cls "InvalidNumber")) = true
  bc_InvalidNumber : PySem.W.subIn K (.ref (cls "InvalidNumber")) (.type "BaseException") = some true
  tc_InvalidNumber : PySem.W.typeIn K (.ref (cls "InvalidNumber")) = some (.type "type")
  x_InvalidProtocol : PySem.W.excIn K (cls "InvalidProtocol") [.type "ValueError", .type "Exception", .type "BaseException", .type "object"] "ValueError.__new__" = true
  kc_InvalidProtocol : PySem.W.keepIn K (.ref (cls "InvalidProtocol")) = true
  bc_InvalidProtocol : PySem.W.subIn K (.ref (cls "InvalidProtocol")) (.type "BaseException") = some true
  tc_InvalidProtocol : PySem.W.typeIn K (.ref (cls "InvalidProtocol")) = some (.type "type")
  x_InvalidTrace : PySem.W.excIn K (cls "InvalidTrace") [.type "ValueError", .type "Exception", .type "BaseException", .type "object"] "ValueError.__new__" = true
  kc_InvalidTrace : PySem.W.keepIn K (.ref (cls "InvalidTrace")) = true
  bc_InvalidTrace : PySem.W.subIn K (.ref (cls "InvalidTrace")) (.type "BaseException") = some true
  tc_InvalidTrace : PySem.W.typeIn K (.ref (cls "InvalidTrace")) = some (.type "type")
section
variable {P : Program} {w : World} {K : PySem.W.Frag} {mg : Str → Option Value} {base : Heap}
structure Bx (T : Tx P w K mg) (base : Heap) : Prop where
  ok : True
  b_law_errors : TabB base mg T.c_law_errors T.p_law_errors
  b_law : TabB base mg T.c_law T.p_law
theorem gives_T (T : Tx P w K mg) (X : Cx) (hK : X.K = K) (hm : X.mg = mg) (q : Str) (cdg : Value) (hr0 : Room 1 X.A) : GivesTo X N_law_result "_law_result" (defScope s_law_result) T.a_law_result cdg (defBody s_law_result) "_law_call" q (TTres T.tabs (ResT ⟨T.cls, K, T.tabs⟩)) := by
  subst hK; subst hm
  exact res_gives (c := ⟨T.cls, X.K, T.tabs⟩) (n := "e") (y := "_law_raised") (r := "_law_result_here") (ex := "CacheError") (CS := T.cls "CacheError") (by decide) (by decide) (fun _ => rfl) rfl rfl rfl rfl rfl rfl (by decide) (by decide) rfl T.gc_CacheError (by decide) (fun C nm r => r.ex) (fun s H => by rfl) (fun s H => by rfl) (fun s H E => (ds_none2 (ds_asg (de_lit (v := (.tuple [.none, .none])) (de_tup (da_cons de_non (da_cons de_non da_nil))) (lit_tup (lita_cons lit_c (lita_cons lit_c lita_nil)) (by decide))) (dg_tup rfl (dgs_cons (dg_name (i := 1) sc_law_result.nd rfl (by first | exact Or.inl rfl | exact Or.inr rfl)) (dgs_cons (dg_name (i := 2) sc_law_result.nd rfl (by first | exact Or.inl rfl | exact Or.inr rfl)) dgs_nil)))))) (fun s H => have hr : Room 0 (X.A.deeper (envOfC "_law_result" (defScope s_law_result) s.heap.objs.size T.a_law_result cdg)) := hr0.deeper _; (ds_cons (ds_if (db_cmp od_isN (de_var (i := 1)) de_non) (ds_one (ds_ret (de_tup (da_cons de_str (da_cons (de_var (i := 2)) da_nil))))) ds_nil)
  (ds_cons (ds_set (i := 4) sc_law_result.nd rfl (by first | exact Or.inl rfl | exact Or.inr rfl) (de_dk2 (de_isX (c := ⟨T.cls, X.K, T.tabs⟩) (D := .ref (T.cls "InvalidProtocol")) rfl T.m_isinstance (pe_glob rfl T.gc_InvalidProtocol rfl) (de_var (i := 1))) (de_isX (c := ⟨T.cls, X.K, T.tabs⟩) (D := .ref (T.cls "InvalidNumber")) rfl T.m_isinstance (pe_glob rfl T.gc_InvalidNumber rfl) (de_var (i := 1)))))
  (ds_cons (ds_upd (i := 4) rfl (by first | exact Or.inl rfl | exact Or.inr (Or.inl rfl)) (de_dk2 (de_isX (c := ⟨T.cls, X.K, T.tabs⟩) (D := .ref (T.cls "InvalidConfiguration")) rfl T.m_isinstance (pe_glob rfl T.gc_InvalidConfiguration rfl) (de_var (i := 1))) (de_isX (c := ⟨T.cls, X.K, T.tabs⟩) (D := .ref (T.cls "InvalidStep")) rfl T.m_isinstance (pe_glob rfl T.gc_InvalidStep rfl) (de_var (i := 1)))))
  (ds_cons (ds_upd (i := 4) rfl (by first | exact Or.inl rfl | exact Or.inr (Or.inl rfl)) (de_dk2 (de_isX (c := ⟨T.cls, X.K, T.tabs⟩) (D := .ref (T.cls "InvalidTrace")) rfl T.m_isinstance (pe_glob rfl T.gc_InvalidTrace rfl) (de_var (i := 1))) (de_isX (c := ⟨T.cls, X.K, T.tabs⟩) (D := .ref (T.cls "InvalidPattern")) rfl T.m_isinstance (pe_glob rfl T.gc_InvalidPattern rfl) (de_var (i := 1)))))
  (ds_cons (ds_upd (i := 4) rfl (by first | exact Or.inl rfl | exact Or.inr (Or.inl rfl)) (de_dk2 (de_isX (c := ⟨T.cls, X.K, T.tabs⟩) (D := .ref (T.cls "InvalidChange")) rfl T.m_isinstance (pe_glob rfl T.gc_InvalidChange rfl) (de_var (i := 1))) (de_isX (c := ⟨T.cls, X.K, T.tabs⟩) (D := .ref (T.cls "InvalidLog")) rfl T.m_isinstance (pe_glob rfl T.gc_InvalidLog rfl) (de_var (i := 1)))))
  (ds_cons (ds_upd (i := 4) rfl (by first | exact Or.inl rfl | exact Or.inr (Or.inl rfl)) (de_dk2 (de_isX (c := ⟨T.cls, X.K, T.tabs⟩) (D := .ref (T.cls "InvalidOrder")) rfl T.m_isinstance (pe_glob rfl T.gc_InvalidOrder rfl) (de_var (i := 1))) (de_isX (c := ⟨T.cls, X.K, T.tabs⟩) (D := .ref (T.cls "InvalidRule")) rfl T.m_isinstance (pe_glob rfl T.gc_InvalidRule rfl) (de_var (i := 1)))))
  (ds_cons (ds_upd (i := 4) rfl (by first | exact Or.inl rfl | exact Or.inr (Or.inl rfl)) (de_dk2 (de_isX (c := ⟨T.cls, X.K, T.tabs⟩) (D := .ref (T.cls "InvalidIndex")) rfl T.m_isinstance (pe_glob rfl T.gc_InvalidIndex rfl) (de_var (i := 1))) (de_isX (c := ⟨T.cls, X.K, T.tabs⟩) (D := .ref (T.cls "InvalidText")) rfl T.m_isinstance (pe_glob rfl T.gc_InvalidText rfl) (de_var (i := 1)))))
  (ds_cons (ds_upd (i := 4) rfl (by first | exact Or.inl rfl | exact Or.inr (Or.inl rfl)) (de_dk2 (de_isX (c := ⟨T.cls, X.K, T.tabs⟩) (D := .ref (T.cls "NotComparable")) rfl T.m_isinstance (pe_glob rfl T.gc_NotComparable rfl) (de_var (i := 1))) (de_isX (c := ⟨T.cls, X.K, T.tabs⟩) (D := .ref (T.cls "TooLarge")) rfl T.m_isinstance (pe_glob rfl T.gc_TooLarge rfl) (de_var (i := 1)))))
  (ds_cons (ds_upd (i := 4) rfl (by first | exact Or.inl rfl | exact Or.inr (Or.inl rfl)) (de_dk2 (de_isX (c := ⟨T.cls, X.K, T.tabs⟩) (D := .ref (T.cls "TooMany")) rfl T.m_isinstance (pe_glob rfl T.gc_TooMany rfl) (de_var (i := 1))) (de_isX (c := ⟨T.cls, X.K, T.tabs⟩) (D := .ref (T.cls "NothingToUndo")) rfl T.m_isinstance (pe_glob rfl T.gc_NothingToUndo rfl) (de_var (i := 1)))))
  (ds_cons (ds_setLcL (i := 5) (k := 4) (own := [("_law_name", 6)]) rfl sc_law_result.nd rfl rfl (sw_true rfl rfl rfl (by decide +kernel)) (di_keysL (de_var (i := 4))) (blkOk_by (own := [("_law_name", 6)]) (N := N_law_result) (sc := defScope s_law_result) (by decide +kernel)) (by decide) (fun _ _ _ _ _ => (dg_name (i := 6) sc_law_result.nd rfl (by first | exact Or.inl rfl | exact Or.inr rfl))) (fun _ _ _ _ _ => (dts_one (db_tru (de_getK (hu65 hr) (de_var (i := 4)) (de_var (i := 6)) (fun _ _ => rfl))))) (fun _ _ _ _ _ => (de_var (i := 6))))
  (ds_one (ds_ret (de_if (db_w (dw_and (db_cmp (od_eq hr.units) (de_b1 one_len T.m_len PySem.boot_len (de_var (i := 5))) de_int) (dw_one_and (db_tru (de_isX (c := ⟨T.cls, X.K, T.tabs⟩) (D := .ty "ValueError") rfl T.m_isinstance (pe_bltn rfl T.m_ValueError (by decide +kernel) rfl) (de_var (i := 1))))))) (de_tup (da_cons (de_ix (de_var (i := 5)) de_int (fun _ _ => rfl)) da_nil)) (de_lit (v := (.tuple [(.str ("other error" : Str))])) (de_tup (da_cons de_str da_nil)) (lit_tup (lita_cons lit_c lita_nil) (by decide))))))))))))))))) (rd1_law_result _) (rd2_law_result _)
theorem ok_is_between (T : Tx P w K mg) (hB : Bx T base) : FnOk P w K mg base (L2.CX P w) 1 T.a_is_between T.d_is_between ["value", "low", "high"] (spD T.tabs (sp_is_between ⟨T.cls, K, T.tabs⟩)) :=
  fnD (T := T.tabs) (t := t_is_between ⟨T.cls, K, T.tabs⟩) T.F_is_between sc_is_between (fun ss Q Ex h => by first | (unfold sp_is_between at h; split at h <;> first | rfl | exact h.elim) | (obtain ⟨_, _, rfl, _⟩ := h; rfl) | (obtain ⟨_, _, _, rfl, _⟩ := h; rfl) | (obtain ⟨_, _, _, _, rfl, _⟩ := h; rfl) | (obtain ⟨_, _, _, _, _, rfl, _⟩ := h; rfl) | (obtain ⟨_, rfl, _⟩ := h; rfl) | exact len_is_between h) (fun cdv A outer s H E hr => (ds_one (ds_ret (de_and (de_isi kitT_int T.m_isinstance T.m_int (by decide +kernel) (de_var (i := 0))) (de_and (de_not (de_isi kitT_bool T.m_isinstance T.m_bool (by decide +kernel) (de_var (i := 0)))) (de_one (de_chain od_le od_le (de_var (i := 1)) (de_var (i := 0)) (de_var (i := 2))))))))) (rd_is_between _)
theorem ok_is_ascending (T : Tx P w K mg) (hB : Bx T base) : FnOk P w K mg base (L2.CX P w) 1 T.a_is_ascending T.d_is_ascending ["values"] (spD T.tabs (sp_is_ascending ⟨T.cls, K, T.tabs⟩)) :=
  fnD (T := T.tabs) (t := t_is_ascending ⟨T.cls, K, T.tabs⟩) T.F_is_ascending sc_is_ascending (fun ss Q Ex h => by first | (unfold sp_is_ascending at h; split at h <;> first | rfl | exact h.elim) | (obtain ⟨_, _, rfl, _⟩ := h; rfl) | (obtain ⟨_, _, _, rfl, _⟩ := h; rfl) | (obtain ⟨_, _, _, _, rfl, _⟩ := h; rfl) | (obtain ⟨_, _, _, _, _, rfl, _⟩ := h; rfl) | (obtain ⟨_, rfl, _⟩ := h; rfl) | exact len_is_ascending h) (fun cdv A outer s H E hr => (ds_one (ds_ret (de_b1 (one_all rfl) T.m_all (by decide +kernel) (de_lc (own := [("one", 1), ("other", 2)]) rfl sc_is_ascending.nd (di_zip T.m_zip (de_var (i := 0)) (de_slice (de_var (i := 0)) (do_some de_int) do_none)) (blkOk_by (own := [("one", 1), ("other", 2)]) (N := N_is_ascending) (sc := defScope s_is_ascending) (by decide +kernel)) (by decide) (fun _ _ _ _ _ => (dg_tup rfl (dgs_cons (dg_name (i := 1) sc_is_ascending.nd rfl (by first | exact Or.inl rfl | exact Or.inr rfl)) (dgs_cons (dg_name (i := 2) sc_is_ascending.nd rfl (by first | exact Or.inl rfl | exact Or.inr rfl)) dgs_nil)))) (fun _ _ _ _ _ => dts_nil) (fun _ _ _ _ _ => (de_cmp (od_ltA hr.units0) (de_var (i := 1)) (de_var (i := 2))))))))) (rd_is_ascending _)
theorem ok_is_count (T : Tx P w K mg) (hB : Bx T base) : FnOk P w K mg base (L2.CX P w) 1 T.a_is_count T.d_is_count ["value"] (spD T.tabs (sp_is_count ⟨T.cls, K, T.tabs⟩)) :=
  fnD (T := T.tabs) (t := t_is_count ⟨T.cls, K, T.tabs⟩) T.F_is_count sc_is_count (fun ss Q Ex h => by first | (unfold sp_is_count at h; split at h <;> first | rfl | exact h.elim) | (obtain ⟨_, _, rfl, _⟩ := h; rfl) | (obtain ⟨_, _, _, rfl, _⟩ := h; rfl) | (obtain ⟨_, _, _, _, rfl, _⟩ := h; rfl) | (obtain ⟨_, _, _, _, _, rfl, _⟩ := h; rfl) | (obtain ⟨_, rfl, _⟩ := h; rfl) | exact len_is_count h) (fun cdv A outer s H E hr => (ds_one (ds_ret (de_and (de_isi kitT_int T.m_isinstance T.m_int (by decide +kernel) (de_var (i := 0))) (de_and (de_not (de_isi kitT_bool T.m_isinstance T.m_bool (by decide +kernel) (de_var (i := 0)))) (de_one (de_cmp od_ge (de_var (i := 0)) de_int))))))) (rd_is_count _)
theorem ok_first_of (T : Tx P w K mg) (hB : Bx T base) : FnOk P w K mg base (L2.CX P w) 1 T.a_first_of T.d_first_of ["protocol", "caches"] (spD T.tabs (sp_first_of ⟨T.cls, K, T.tabs⟩)) :=
  fnD (T := T.tabs) (t := t_first_of ⟨T.cls, K, T.tabs⟩) T.F_first_of sc_first_of (fun ss Q Ex h => by first | (unfold sp_first_of at h; split at h <;> first | rfl | exact h.elim) | (obtain ⟨_, _, rfl, _⟩ := h; rfl) | (obtain ⟨_, _, _, rfl, _⟩ := h; rfl) | (obtain ⟨_, _, _, _, rfl, _⟩ := h; rfl) | (obtain ⟨_, _, _, _, _, rfl, _⟩ := h; rfl) | (obtain ⟨_, rfl, _⟩ := h; rfl) | exact len_first_of h) (fun cdv A outer s H E hr => (ds_one (ds_ret (de_op od_add (de_tup (da_cons (de_var (i := 1)) da_nil)) (de_op od_mul (de_lit (v := (.tuple [(.int 0)])) (de_tup (da_cons de_int da_nil)) (lit_tup (lita_cons lit_c lita_nil) (by decide))) (de_op od_sub (de_ix (de_var (i := 0)) de_int (fun _ _ => rfl)) de_int)))))) (rd_first_of _)
theorem ok_others (T : Tx P w K mg) (hB : Bx T base) : FnOk P w K mg base (L2.CX P w) 1 T.a_others T.d_others ["configuration", "state"] (spD T.tabs (sp_others ⟨T.cls, K, T.tabs⟩)) :=
  fnD (T := T.tabs) (t := t_others ⟨T.cls, K, T.tabs⟩) T.F_others sc_others (fun ss Q Ex h => by first | (unfold sp_others at h; split at h <;> first | rfl | exact h.elim) | (obtain ⟨_, _, rfl, _⟩ := h; rfl) | (obtain ⟨_, _, _, rfl, _⟩ := h; rfl) | (obtain ⟨_, _, _, _, rfl, _⟩ := h; rfl) | (obtain ⟨_, _, _, _, _, rfl, _⟩ := h; rfl) | (obtain ⟨_, rfl, _⟩ := h; rfl) | exact len_others h) (fun cdv A outer s H E hr => (ds_one (ds_ret (de_op od_add (de_op od_add (de_slice (de_var (i := 0)) do_none (do_some (de_var (i := 1)))) (de_tup (da_cons (de_op od_sub (de_ix (de_var (i := 0)) (de_var (i := 1)) (fun _ _ => rfl)) de_int) da_nil))) (de_slice (de_var (i := 0)) (do_some (de_op od_add (de_var (i := 1)) de_int)) do_none))))) (rd_others _)
theorem ok_law_draw (T : Tx P w K mg) (hB : Bx T base) : FnOk P w K mg base (L2.CX P w) 1 T.a_law_draw T.d_law_draw ["_law_script", "_law_town", "_law_many"] (spD T.tabs (sp_law_draw ⟨T.cls, K, T.tabs⟩)) :=
  fnD (T := T.tabs) (t := t_law_draw ⟨T.cls, K, T.tabs⟩) T.F_law_draw sc_law_draw (fun ss Q Ex h => by first | (unfold sp_law_draw at h; split at h <;> first | rfl | exact h.elim) | (obtain ⟨_, _, rfl, _⟩ := h; rfl) | (obtain ⟨_, _, _, rfl, _⟩ := h; rfl) | (obtain ⟨_, _, _, _, rfl, _⟩ := h; rfl) | (obtain ⟨_, _, _, _, _, rfl, _⟩ := h; rfl) | (obtain ⟨_, rfl, _⟩ := h; rfl) | exact len_law_draw h) (fun cdv A outer s H E hr => (ds_cons (ds_count (hu65 hr) (de_op od_add (de_count (hu65 hr) (de_var (i := 1))) de_int) (de_var (i := 1)))
  (ds_cons (ds_setF (i := 3) sc_law_draw.nd rfl (by first | exact Or.inl rfl | exact Or.inr rfl) (de_if (db_scr (c := ⟨T.cls, K, T.tabs⟩) rfl (de_var (i := 0))) (de_op od_mod (de_count (hu65 hr) (de_var (i := 1))) (de_lenS (c := ⟨T.cls, K, T.tabs⟩) rfl T.m_len (de_var (i := 0)))) de_int))
  (ds_cons (ds_setF (i := 4) sc_law_draw.nd rfl (by first | exact Or.inl rfl | exact Or.inr rfl) (de_rest (hu65 hr) (de_var (i := 1)) (de_var (i := 3)) (de_if (db_scr (c := ⟨T.cls, K, T.tabs⟩) rfl (de_var (i := 0))) (de_ixS (c := ⟨T.cls, K, T.tabs⟩) rfl (de_var (i := 0)) (de_var (i := 3)) (fun _ _ => rfl)) de_int) ⟨rfl, rfl, rfl, rfl⟩))
  (ds_cons (ds_if (db_cmp od_ge (de_var (i := 4)) (de_op od_pow de_int de_int)) (ds_cons (ds_rest (hu65 hr) (de_op od_fdiv (de_var (i := 4)) (de_var (i := 2))) (de_var (i := 1)) (de_var (i := 3)))
    (ds_one (ds_ret (de_op od_mod (de_var (i := 4)) (de_var (i := 2)))))) ds_nil)
  (ds_cons (ds_setF (i := 5) sc_law_draw.nd rfl (by first | exact Or.inl rfl | exact Or.inr rfl) (de_op od_mod (de_op od_add (de_var (i := 4)) (de_op od_mul de_int (de_count (hu65 hr) (de_var (i := 1))))) de_int))
  (ds_cons (ds_setF (i := 5) sc_law_draw.nd rfl (by first | exact Or.inl rfl | exact Or.inr rfl) (de_op od_mod (de_op od_pow (de_var (i := 5)) de_int) de_int))
  (ds_one (ds_ret (de_op od_mod (de_op od_fdiv (de_op od_mod (de_op od_add (de_op od_mul (de_op od_fdiv (de_var (i := 5)) de_int) de_int) (de_var (i := 5))) de_int) de_int) (de_var (i := 2)))))))))))) (rd_law_draw _)
theorem ok_law_moves (T : Tx P w K mg) (hB : Bx T base) : FnOk P w K mg base (L2.CX P w) 1 T.a_law_moves T.d_law_moves ["_law_protocol_here", "_law_configuration_here"] (spD T.tabs (sp_law_moves ⟨T.cls, K, T.tabs⟩)) :=
  fnD (T := T.tabs) (t := t_law_moves ⟨T.cls, K, T.tabs⟩) T.F_law_moves sc_law_moves (fun ss Q Ex h => by first | (unfold sp_law_moves at h; split at h <;> first | rfl | exact h.elim) | (obtain ⟨_, _, rfl, _⟩ := h; rfl) | (obtain ⟨_, _, _, rfl, _⟩ := h; rfl) | (obtain ⟨_, _, _, _, rfl, _⟩ := h; rfl) | (obtain ⟨_, _, _, _, _, rfl, _⟩ := h; rfl) | (obtain ⟨_, rfl, _⟩ := h; rfl) | exact len_law_moves h) (fun cdv A outer s H E hr => (ds_cons (ds_set (i := 2) sc_law_moves.nd rfl (by first | exact Or.inl rfl | exact Or.inr rfl) (de_lst da_nil))
  (ds_cons (ds_for (passes_of rfl) rfl (di_rng2 T.m_range de_int (de_ix (de_var (i := 0)) de_int (fun _ _ => rfl))) (dg_name (i := 3) sc_law_moves.nd rfl (by first | exact Or.inl rfl | exact Or.inr rfl)) (ds_one (ds_if (db_cmp od_gt (de_ix (de_var (i := 1)) (de_var (i := 3)) (fun _ _ => rfl)) de_int) (ds_cons (ds_set (i := 4) sc_law_moves.nd rfl (by first | exact Or.inl rfl | exact Or.inr rfl) (de_t1 one_list T.m_list (by decide +kernel) (de_var (i := 1))))
      (ds_cons (ds_item2 (i := 4) rfl rfl (by first | exact Or.inl rfl | exact Or.inr (Or.inl rfl)) (de_var (i := 3)) de_int (de_tup (da_cons (de_op od_sub (de_ix (de_var (i := 4)) (de_var (i := 3)) (fun _ _ => rfl)) de_int) (da_cons (de_op od_add (de_ix (de_var (i := 4)) de_int (fun _ _ => rfl)) de_int) da_nil))))
      (ds_one (ds_app (i := 2) rfl (by first | exact Or.inl rfl | exact Or.inr (Or.inl rfl)) (de_tup (da_cons (de_tup (da_cons de_str (da_cons (de_var (i := 3)) da_nil))) (da_cons (de_t1 one_tuple T.m_tuple (by decide +kernel) (de_var (i := 4))) da_nil))))))) ds_nil)))
  (ds_cons (ds_for (passes_of rfl) rfl (di_enum T.m_enumerate (de_ix (de_var (i := 0)) de_int (fun _ _ => rfl))) (dg_tup rfl (dgs_cons (dg_name (i := 5) sc_law_moves.nd rfl (by first | exact Or.inl rfl | exact Or.inr rfl)) (dgs_cons (dg_tup rfl (dgs_cons (dg_name (i := 6) sc_law_moves.nd rfl (by first | exact Or.inl rfl | exact Or.inr rfl)) (dgs_cons (dg_name (i := 7) sc_law_moves.nd rfl (by first | exact Or.inl rfl | exact Or.inr rfl)) (dgs_cons (dg_name (i := 8) sc_law_moves.nd rfl (by first | exact Or.inl rfl | exact Or.inr rfl)) (dgs_cons (dg_name (i := 9) sc_law_moves.nd rfl (by first | exact Or.inl rfl | exact Or.inr rfl)) (dgs_cons (dg_name (i := 10) sc_law_moves.nd rfl (by first | exact Or.inl rfl | exact Or.inr rfl)) dgs_nil)))))) dgs_nil))) (ds_cons (ds_set (i := 11) sc_law_moves.nd rfl (by first | exact Or.inl rfl | exact Or.inr rfl) (de_t1 one_list T.m_list (by decide +kernel) (de_var (i := 1))))
    (ds_cons (ds_augI (i := 11) ip_sub rfl (by first | exact Or.inl rfl | exact Or.inr (Or.inl rfl)) (de_var (i := 6)) de_int)
    (ds_cons (ds_setF (i := 12) sc_law_moves.nd rfl (by first | exact Or.inl rfl | exact Or.inr rfl) (de_and (de_cmp od_ge (de_ix (de_var (i := 11)) (de_var (i := 6)) (fun _ _ => rfl)) de_int) (de_one (de_or (de_cmp (od_eq hr.units) (de_var (i := 8)) de_int) (de_one (de_cmp od_gt (de_ix (de_var (i := 11)) (de_var (i := 8)) (fun _ _ => rfl)) de_int))))))
    (ds_one (ds_if (db_w (dw_and (db_tru (de_var (i := 12))) (dw_one_and (db_cmp (od_eq hr.units) (de_lc (own := [("_law_state", 3)]) rfl sc_law_moves.nd (di_seq (de_var (i := 9))) (blkOk_by (own := [("_law_state", 3)]) (N := N_law_moves) (sc := defScope s_law_moves) (by decide +kernel)) (by decide) (fun _ _ _ _ _ => (dg_name (i := 3) sc_law_moves.nd rfl (by first | exact Or.inl rfl | exact Or.inr rfl))) (fun _ _ _ _ _ => (dts_one (db_cmp od_gt (de_ix (de_var (i := 11)) (de_var (i := 3)) (fun _ _ => rfl)) de_int))) (fun _ _ _ _ _ => de_int)) (de_lst da_nil))))) (ds_cons (ds_set (i := 4) sc_law_moves.nd rfl (by first | exact Or.inl rfl | exact Or.inr rfl) (de_op od_mul (de_litL (vs := [(.int 0)]) (de_lst (da_cons de_int da_nil)) (lit_lst (lita_cons lit_c lita_nil) (by decide))) (de_ix (de_var (i := 0)) de_int (fun _ _ => rfl))))
      (ds_cons (ds_item (i := 4) rfl (by first | exact Or.inl rfl | exact Or.inr (Or.inl rfl)) (de_var (i := 7)) de_int)
      (ds_cons (ds_frz 11 (ds_for (passes_of rfl) rfl (di_enum T.m_enumerate (de_var (i := 11))) (dg_tup rfl (dgs_cons (dg_name (i := 3) sc_law_moves.nd rfl (by first | exact Or.inl rfl | exact Or.inr rfl)) (dgs_cons (dg_name (i := 13) sc_law_moves.nd rfl (by first | exact Or.inl rfl | exact Or.inr rfl)) dgs_nil))) (ds_one (ds_augI (i := 4) ip_add rfl (by first | exact Or.inl rfl | exact Or.inr (Or.inl rfl)) (de_ix (de_var (i := 10)) (de_var (i := 3)) (fun _ _ => rfl)) (de_var (i := 13))))))
      (ds_one (ds_app (i := 2) rfl (by first | exact Or.inl rfl | exact Or.inr (Or.inl rfl)) (de_tup (da_cons (de_tup (da_cons de_str (da_cons (de_var (i := 5)) da_nil))) (da_cons (de_t1 one_tuple T.m_tuple (by decide +kernel) (de_var (i := 4))) da_nil)))))))) ds_nil))))))
  (ds_one (ds_ret (de_var (i := 2)))))))) (rd_law_moves _)
theorem ok_are_between (T : Tx P w K mg) (hB : Bx T base) : FnOk P w K mg base (L2.CX P w) 2 T.a_are_between T.d_are_between ["values", "low", "high"] (spD T.tabs (sp_are_between ⟨T.cls, K, T.tabs⟩)) :=
  fnD (T := T.tabs) (t := t_are_between ⟨T.cls, K, T.tabs⟩) T.F_are_between sc_are_between (fun ss Q Ex h => by first | (unfold sp_are_between at h; split at h <;> first | rfl | exact h.elim) | (obtain ⟨_, _, rfl, _⟩ := h; rfl) | (obtain ⟨_, _, _, rfl, _⟩ := h; rfl) | (obtain ⟨_, _, _, _, rfl, _⟩ := h; rfl) | (obtain ⟨_, _, _, _, _, rfl, _⟩ := h; rfl) | (obtain ⟨_, rfl, _⟩ := h; rfl) | exact len_are_between h) (fun cdv A outer s H E hr => (ds_one (ds_ret (de_and (de_isi kitT_tuple T.m_isinstance T.m_tuple (by decide +kernel) (de_var (i := 0))) (de_one (de_b1 (one_all rfl) T.m_all (by decide +kernel) (de_lc (own := [("one", 3)]) rfl sc_are_between.nd (di_seq (de_var (i := 0))) (blkOk_by (own := [("one", 3)]) (N := N_are_between) (sc := defScope s_are_between) (by decide +kernel)) (by decide) (fun _ _ _ _ _ => (dg_name (i := 3) sc_are_between.nd rfl (by first | exact Or.inl rfl | exact Or.inr rfl))) (fun _ _ _ _ _ => dts_nil) (fun _ _ _ _ _ => (de_call (ok_is_between T hB) (hr.mono (by decide)) (by rfl) T.g_is_between T.F_is_between.kp T.b_is_between passL (da_cons (de_var (i := 3)) (da_cons (de_var (i := 1)) (da_cons (de_var (i := 2)) da_nil)))))))))))) (rd_are_between _)
theorem ok_are_counts (T : Tx P w K mg) (hB : Bx T base) : FnOk P w K mg base (L2.CX P w) 2 T.a_are_counts T.d_are_counts ["protocol", "value"] (spD T.tabs (sp_are_counts ⟨T.cls, K, T.tabs⟩)) :=
  fnD (T := T.tabs) (t := t_are_counts ⟨T.cls, K, T.tabs⟩) T.F_are_counts sc_are_counts (fun ss Q Ex h => by first | (unfold sp_are_counts at h; split at h <;> first | rfl | exact h.elim) | (obtain ⟨_, _, rfl, _⟩ := h; rfl) | (obtain ⟨_, _, _, rfl, _⟩ := h; rfl) | (obtain ⟨_, _, _, _, rfl, _⟩ := h; rfl) | (obtain ⟨_, _, _, _, _, rfl, _⟩ := h; rfl) | (obtain ⟨_, rfl, _⟩ := h; rfl) | exact len_are_counts h) (fun cdv A outer s H E hr => (ds_one (ds_ret (de_and (de_isi kitT_tuple T.m_isinstance T.m_tuple (by decide +kernel) (de_var (i := 1))) (de_and (de_cmp (od_eq hr.units) (de_b1 one_len T.m_len PySem.boot_len (de_var (i := 1))) (de_ix (de_var (i := 0)) de_int (fun _ _ => rfl))) (de_one (de_b1 (one_all rfl) T.m_all (by decide +kernel) (de_lc (own := [("one", 2)]) rfl sc_are_counts.nd (di_seq (de_var (i := 1))) (blkOk_by (own := [("one", 2)]) (N := N_are_counts) (sc := defScope s_are_counts) (by decide +kernel)) (by decide) (fun _ _ _ _ _ => (dg_name (i := 2) sc_are_counts.nd rfl (by first | exact Or.inl rfl | exact Or.inr rfl))) (fun _ _ _ _ _ => dts_nil) (fun _ _ _ _ _ => (de_call (ok_is_count T hB) (hr.mono (by decide)) (by rfl) T.g_is_count T.F_is_count.kp T.b_is_count passL (da_cons (de_var (i := 2)) da_nil))))))))))) (rd_are_counts _)
theorem ok_check_number (T : Tx P w K mg) (hB : Bx T base) : FnOk P w K mg base (L2.CX P w) 2 T.a_check_number T.d_check_number ["caches"] (spD T.tabs (sp_check_number ⟨T.cls, K, T.tabs⟩)) :=
  fnD (T := T.tabs) (t := t_check_number ⟨T.cls, K, T.tabs⟩) T.F_check_number sc_check_number (fun ss Q Ex h => by first | (unfold sp_check_number at h; split at h <;> first | rfl | exact h.elim) | (obtain ⟨_, _, rfl, _⟩ := h; rfl) | (obtain ⟨_, _, _, rfl, _⟩ := h; rfl) | (obtain ⟨_, _, _, _, rfl, _⟩ := h; rfl) | (obtain ⟨_, _, _, _, _, rfl, _⟩ := h; rfl) | (obtain ⟨_, rfl, _⟩ := h; rfl) | exact len_check_number h) (fun cdv A outer s H E hr => (ds_one (ds_if (db_not (db_tru (de_call (ok_is_between T hB) (hr.mono (by decide)) (by rfl) T.g_is_between T.F_is_between.kp T.b_is_between (passes_call (takes_of rfl rfl rfl rfl) (fun _ _ _ _ h => h)) (da_cons (de_var (i := 0)) (da_cons de_int (da_cons (de_gint rfl T.m_CACHES ⟨_, rfl⟩) da_nil)))))) (ds_one (ds_raise rfl (takes_of rfl rfl rfl rfl) (pmk_own PySem.F.excBase_ValueError T.x_InvalidNumber T.gc_InvalidNumber T.kc_InvalidNumber (raises_own T.bc_InvalidNumber T.tc_InvalidNumber) (by exact rfl)))) ds_nil))) (rd_check_number _)
theorem ok_is_possible (T : Tx P w K mg) (hB : Bx T base) : FnOk P w K mg base (L2.CX P w) 2 T.a_is_possible T.d_is_possible ["configuration", "rule"] (spD T.tabs (sp_is_possible ⟨T.cls, K, T.tabs⟩)) :=
  fnD (T := T.tabs) (t := t_is_possible ⟨T.cls, K, T.tabs⟩) T.F_is_possible sc_is_possible (fun ss Q Ex h => by first | (unfold sp_is_possible at h; split at h <;> first | rfl | exact h.elim) | (obtain ⟨_, _, rfl, _⟩ := h; rfl) | (obtain ⟨_, _, _, rfl, _⟩ := h; rfl) | (obtain ⟨_, _, _, _, rfl, _⟩ := h; rfl) | (obtain ⟨_, _, _, _, _, rfl, _⟩ := h; rfl) | (obtain ⟨_, rfl, _⟩ := h; rfl) | exact len_is_possible h) (fun cdv A outer s H E hr => (ds_cons (ds_asg (de_var (i := 1)) (dg_tup rfl (dgs_cons (dg_name (i := 2) sc_is_possible.nd rfl (by first | exact Or.inl rfl | exact Or.inr rfl)) (dgs_cons (dg_name (i := 3) sc_is_possible.nd rfl (by first | exact Or.inl rfl | exact Or.inr rfl)) (dgs_cons (dg_name (i := 4) sc_is_possible.nd rfl (by first | exact Or.inl rfl | exact Or.inr rfl)) (dgs_cons (dg_name (i := 5) sc_is_possible.nd rfl (by first | exact Or.inl rfl | exact Or.inr rfl)) (dgs_cons (dg_name (i := 6) sc_is_possible.nd rfl (by first | exact Or.inl rfl | exact Or.inr rfl)) dgs_nil)))))))
  (ds_cons (ds_if (db_cmp (od_eq hr.units) (de_ix (de_var (i := 0)) (de_var (i := 2)) (fun _ _ => rfl)) de_int) (ds_one (ds_ret de_bl)) ds_nil)
  (ds_cons (ds_setF (i := 7) sc_is_possible.nd rfl (by first | exact Or.inl rfl | exact Or.inr rfl) (de_call (ok_others T hB) (hr.mono (by decide)) (by rfl) T.g_others T.F_others.kp T.b_others (passes_call (takes_of rfl rfl rfl rfl) (fun _ _ _ _ h => h)) (da_cons (de_var (i := 0)) (da_cons (de_var (i := 2)) da_nil))))
  (ds_one (ds_ret (de_and (de_or (de_cmp (od_eq hr.units) (de_var (i := 4)) de_int) (de_one (de_cmp od_gt (de_ix (de_var (i := 7)) (de_var (i := 4)) (fun _ _ => rfl)) de_int))) (de_one (de_not (de_b1 (one_any rfl) T.m_any (by decide +kernel) (de_lc (own := [("state", 8)]) rfl sc_is_possible.nd (di_seq (de_var (i := 5))) (blkOk_by (own := [("state", 8)]) (N := N_is_possible) (sc := defScope s_is_possible) (by decide +kernel)) (by decide) (fun _ _ _ _ _ => (dg_name (i := 8) sc_is_possible.nd rfl (by first | exact Or.inl rfl | exact Or.inr rfl))) (fun _ _ _ _ _ => dts_nil) (fun _ _ _ _ _ => (de_cmp od_gt (de_ix (de_var (i := 7)) (de_var (i := 8)) (fun _ _ => rfl)) de_int))))))))))))) (rd_is_possible _)
theorem ok_performed (T : Tx P w K mg) (hB : Bx T base) : FnOk P w K mg base (L2.CX P w) 2 T.a_performed T.d_performed ["configuration", "rule"] (spD T.tabs (sp_performed ⟨T.cls, K, T.tabs⟩)) :=
  fnD (T := T.tabs) (t := t_performed ⟨T.cls, K, T.tabs⟩) T.F_performed sc_performed (fun ss Q Ex h => by first | (unfold sp_performed at h; split at h <;> first | rfl | exact h.elim) | (obtain ⟨_, _, rfl, _⟩ := h; rfl) | (obtain ⟨_, _, _, rfl, _⟩ := h; rfl) | (obtain ⟨_, _, _, _, rfl, _⟩ := h; rfl) | (obtain ⟨_, _, _, _, _, rfl, _⟩ := h; rfl) | (obtain ⟨_, rfl, _⟩ := h; rfl) | exact len_performed h) (fun cdv A outer s H E hr => (ds_cons (ds_asg (de_var (i := 1)) (dg_tup rfl (dgs_cons (dg_name (i := 2) sc_performed.nd rfl (by first | exact Or.inl rfl | exact Or.inr rfl)) (dgs_cons (dg_name (i := 3) sc_performed.nd rfl (by first | exact Or.inl rfl | exact Or.inr rfl)) (dgs_cons (dg_name (i := 4) sc_performed.nd rfl (by first | exact Or.inl rfl | exact Or.inr rfl)) (dgs_cons (dg_name (i := 5) sc_performed.nd rfl (by first | exact Or.inl rfl | exact Or.inr rfl)) (dgs_cons (dg_name (i := 6) sc_performed.nd rfl (by first | exact Or.inl rfl | exact Or.inr rfl)) dgs_nil)))))))
  (ds_cons (ds_set (i := 7) sc_performed.nd rfl (by first | exact Or.inl rfl | exact Or.inr rfl) (de_op od_mul (de_litL (vs := [(.int 0)]) (de_lst (da_cons de_int da_nil)) (lit_lst (lita_cons lit_c lita_nil) (by decide))) (de_b1 one_len T.m_len PySem.boot_len (de_var (i := 0)))))
  (ds_cons (ds_for (passes_of rfl) rfl (di_enum T.m_enumerate (de_call (ok_others T hB) (hr.mono (by decide)) (by rfl) T.g_others T.F_others.kp T.b_others (passes_call (takes_of rfl rfl rfl rfl) (fun _ _ _ _ h => h)) (da_cons (de_var (i := 0)) (da_cons (de_var (i := 2)) da_nil)))) (dg_tup rfl (dgs_cons (dg_name (i := 8) sc_performed.nd rfl (by first | exact Or.inl rfl | exact Or.inr rfl)) (dgs_cons (dg_name (i := 9) sc_performed.nd rfl (by first | exact Or.inl rfl | exact Or.inr rfl)) dgs_nil))) (ds_one (ds_augI (i := 7) ip_add rfl (by first | exact Or.inl rfl | exact Or.inr (Or.inl rfl)) (de_ix (de_var (i := 6)) (de_var (i := 8)) (fun _ _ => rfl)) (de_var (i := 9)))))
  (ds_cons (ds_augI (i := 7) ip_add rfl (by first | exact Or.inl rfl | exact Or.inr (Or.inl rfl)) (de_var (i := 3)) de_int)
  (ds_one (ds_ret (de_t1 one_tuple T.m_tuple (by decide +kernel) (de_var (i := 7)))))))))) (rd_performed _)
theorem ok_dropped (T : Tx P w K mg) (hB : Bx T base) : FnOk P w K mg base (L2.CX P w) 2 T.a_dropped T.d_dropped ["configuration", "state"] (spD T.tabs (sp_dropped ⟨T.cls, K, T.tabs⟩)) :=
  fnD (T := T.tabs) (t := t_dropped ⟨T.cls, K, T.tabs⟩) T.F_dropped sc_dropped (fun ss Q Ex h => by first | (unfold sp_dropped at h; split at h <;> first | rfl | exact h.elim) | (obtain ⟨_, _, rfl, _⟩ := h; rfl) | (obtain ⟨_, _, _, rfl, _⟩ := h; rfl) | (obtain ⟨_, _, _, _, rfl, _⟩ := h; rfl) | (obtain ⟨_, _, _, _, _, rfl, _⟩ := h; rfl) | (obtain ⟨_, rfl, _⟩ := h; rfl) | exact len_dropped h) (fun cdv A outer s H E hr => (ds_cons (ds_setF (i := 2) sc_dropped.nd rfl (by first | exact Or.inl rfl | exact Or.inr rfl) (de_call (ok_others T hB) (hr.mono (by decide)) (by rfl) T.g_others T.F_others.kp T.b_others (passes_call (takes_of rfl rfl rfl rfl) (fun _ _ _ _ h => h)) (da_cons (de_var (i := 0)) (da_cons (de_var (i := 1)) da_nil))))
  (ds_one (ds_ret (de_op od_add (de_tup (da_cons (de_op od_add (de_ix (de_var (i := 2)) de_int (fun _ _ => rfl)) de_int) da_nil)) (de_slice (de_var (i := 2)) (do_some de_int) do_none)))))) (rd_dropped _)
theorem ok_is_step_shape (T : Tx P w K mg) (hB : Bx T base) : FnOk P w K mg base (L2.CX P w) 2 T.a_is_step_shape T.d_is_step_shape ["value"] (spD T.tabs (sp_is_step_shape ⟨T.cls, K, T.tabs⟩)) :=
  fnD (T := T.tabs) (t := t_is_step_shape ⟨T.cls, K, T.tabs⟩) T.F_is_step_shape sc_is_step_shape (fun ss Q Ex h => by first | (unfold sp_is_step_shape at h; split at h <;> first | rfl | exact h.elim) | (obtain ⟨_, _, rfl, _⟩ := h; rfl) | (obtain ⟨_, _, _, rfl, _⟩ := h; rfl) | (obtain ⟨_, _, _, _, rfl, _⟩ := h; rfl) | (obtain ⟨_, _, _, _, _, rfl, _⟩ := h; rfl) | (obtain ⟨_, rfl, _⟩ := h; rfl) | exact len_is_step_shape h) (fun cdv A outer s H E hr => (ds_one (ds_ret (de_and (de_isi kitT_tuple T.m_isinstance T.m_tuple (by decide +kernel) (de_var (i := 0))) (de_and (de_cmp (od_eq hr.units) (de_b1 one_len T.m_len PySem.boot_len (de_var (i := 0))) de_int) (de_and (de_isi kitT_str T.m_isinstance T.m_str (by decide +kernel) (de_ix (de_var (i := 0)) de_int (fun _ _ => rfl))) (de_one (de_call (ok_is_count T hB) (hr.mono (by decide)) (by rfl) T.g_is_count T.F_is_count.kp T.b_is_count (passes_call (takes_of rfl rfl rfl rfl) (fun _ _ _ _ h => h)) (da_cons (de_ix (de_var (i := 0)) de_int (fun _ _ => rfl)) da_nil))))))))) (rd_is_step_shape _)
theorem ok_law_rule (T : Tx P w K mg) (hB : Bx T base) : FnOk P w K mg base (L2.CX P w) 2 T.a_law_rule T.d_law_rule ["_law_script", "_law_town", "_law_many"] (spD T.tabs (sp_law_rule ⟨T.cls, K, T.tabs⟩)) :=
  fnD (T := T.tabs) (t := t_law_rule ⟨T.cls, K, T.tabs⟩) T.F_law_rule sc_law_rule (fun ss Q Ex h => by first | (unfold sp_law_rule at h; split at h <;> first | rfl | exact h.elim) | (obtain ⟨_, _, rfl, _⟩ := h; rfl) | (obtain ⟨_, _, _, rfl, _⟩ := h; rfl) | (obtain ⟨_, _, _, _, rfl, _⟩ := h; rfl) | (obtain ⟨_, _, _, _, _, rfl, _⟩ := h; rfl) | (obtain ⟨_, rfl, _⟩ := h; rfl) | exact len_law_rule h) (fun cdv A outer s H E hr => (ds_cons (ds_setF (i := 3) sc_law_rule.nd rfl (by first | exact Or.inl rfl | exact Or.inr rfl) (de_if (db_cmp (od_eq hr.units) (de_call (ok_law_draw T hB) (hr.mono (by decide)) (by rfl) T.g_law_draw T.F_law_draw.kp T.b_law_draw (passes_call (takes_of rfl rfl rfl rfl) (fun _ _ _ _ h => h)) (da_cons (de_var (i := 0)) (da_cons (de_var (i := 1)) (da_cons de_int da_nil)))) de_int) (de_call (ok_law_draw T hB) (hr.mono (by decide)) (by rfl) T.g_law_draw T.F_law_draw.kp T.b_law_draw (passes_call (takes_of rfl rfl rfl rfl) (fun _ _ _ _ h => h)) (da_cons (de_var (i := 0)) (da_cons (de_var (i := 1)) (da_cons (de_var (i := 2)) da_nil)))) de_int))
  (ds_cons (ds_setF (i := 4) sc_law_rule.nd rfl (by first | exact Or.inl rfl | exact Or.inr rfl) (de_call (ok_law_draw T hB) (hr.mono (by decide)) (by rfl) T.g_law_draw T.F_law_draw.kp T.b_law_draw (passes_call (takes_of rfl rfl rfl rfl) (fun _ _ _ _ h => h)) (da_cons (de_var (i := 0)) (da_cons (de_var (i := 1)) (da_cons (de_var (i := 2)) da_nil)))))
  (ds_cons (ds_setF (i := 5) sc_law_rule.nd rfl (by first | exact Or.inl rfl | exact Or.inr rfl) (de_if (db_cmp (od_eq hr.units) (de_call (ok_law_draw T hB) (hr.mono (by decide)) (by rfl) T.g_law_draw T.F_law_draw.kp T.b_law_draw (passes_call (takes_of rfl rfl rfl rfl) (fun _ _ _ _ h => h)) (da_cons (de_var (i := 0)) (da_cons (de_var (i := 1)) (da_cons de_int da_nil)))) de_int) (de_call (ok_law_draw T hB) (hr.mono (by decide)) (by rfl) T.g_law_draw T.F_law_draw.kp T.b_law_draw (passes_call (takes_of rfl rfl rfl rfl) (fun _ _ _ _ h => h)) (da_cons (de_var (i := 0)) (da_cons (de_var (i := 1)) (da_cons (de_var (i := 2)) da_nil)))) de_int))
  (ds_cons (ds_setF (i := 6) sc_law_rule.nd rfl (by first | exact Or.inl rfl | exact Or.inr rfl) (de_t1 one_tuple T.m_tuple (by decide +kernel) (de_lc (own := [("_law_state", 8)]) rfl sc_law_rule.nd (di_rng2 T.m_range de_int (de_var (i := 2))) (blkOk_by (own := [("_law_state", 8)]) (N := N_law_rule) (sc := defScope s_law_rule) (by decide +kernel)) (by decide) (fun _ _ _ _ _ => (dg_name (i := 8) sc_law_rule.nd rfl (by first | exact Or.inl rfl | exact Or.inr rfl))) (fun _ _ _ _ _ => (dts_one (db_w (dw_and (db_cmp (od_eq hr.units) (de_call (ok_law_draw T hB) (hr.mono (by decide)) (by rfl) T.g_law_draw T.F_law_draw.kp T.b_law_draw passL (da_cons (de_var (i := 0)) (da_cons (de_var (i := 1)) (da_cons de_int da_nil)))) de_int) (dw_one_and (db_cmp (od_ne hr.units) (de_var (i := 8)) (de_var (i := 5)))))))) (fun _ _ _ _ _ => (de_var (i := 8))))))
  (ds_cons (ds_set (i := 7) sc_law_rule.nd rfl (by first | exact Or.inl rfl | exact Or.inr rfl) (de_litL (vs := [(.int 0)]) (de_lst (da_cons de_int da_nil)) (lit_lst (lita_cons lit_c lita_nil) (by decide))))
  (ds_cons (ds_for (passes_of rfl) rfl (di_rng2 T.m_range de_int (de_var (i := 2))) (dg_name (i := 8) sc_law_rule.nd rfl (by first | exact Or.inl rfl | exact Or.inr rfl)) (ds_one (ds_app (i := 7) rfl (by first | exact Or.inl rfl | exact Or.inr (Or.inl rfl)) (de_ix (de_tup (da_cons (de_var (i := 8)) (da_cons de_int (da_cons (de_call (ok_law_draw T hB) (hr.mono (by decide)) (by rfl) T.g_law_draw T.F_law_draw.kp T.b_law_draw (passes_call (takes_of rfl rfl rfl rfl) (fun _ _ _ _ h => h)) (da_cons (de_var (i := 0)) (da_cons (de_var (i := 1)) (da_cons (de_var (i := 2)) da_nil)))) da_nil)))) (de_call (ok_law_draw T hB) (hr.mono (by decide)) (by rfl) T.g_law_draw T.F_law_draw.kp T.b_law_draw (passes_call (takes_of rfl rfl rfl rfl) (fun _ _ _ _ h => h)) (da_cons (de_var (i := 0)) (da_cons (de_var (i := 1)) (da_cons de_int da_nil)))) (fun _ _ => rfl)))))
  (ds_one (ds_ret (de_tup (da_cons (de_var (i := 3)) (da_cons (de_var (i := 4)) (da_cons (de_var (i := 5)) (da_cons (de_var (i := 6)) (da_cons (de_t1 one_tuple T.m_tuple (by decide +kernel) (de_var (i := 7))) da_nil))))))))))))))) (rd_law_rule _)
theorem ok_law_pattern (T : Tx P w K mg) (hB : Bx T base) : FnOk P w K mg base (L2.CX P w) 2 T.a_law_pattern T.d_law_pattern ["_law_script", "_law_town", "_law_many", "_law_most"] (spD T.tabs (sp_law_pattern ⟨T.cls, K, T.tabs⟩)) :=
  fnD (T := T.tabs) (t := t_law_pattern ⟨T.cls, K, T.tabs⟩) T.F_law_pattern sc_law_pattern (fun ss Q Ex h => by first | (unfold sp_law_pattern at h; split at h <;> first | rfl | exact h.elim) | (obtain ⟨_, _, rfl, _⟩ := h; rfl) | (obtain ⟨_, _, _, rfl, _⟩ := h; rfl) | (obtain ⟨_, _, _, _, rfl, _⟩ := h; rfl) | (obtain ⟨_, _, _, _, _, rfl, _⟩ := h; rfl) | (obtain ⟨_, rfl, _⟩ := h; rfl) | exact len_law_pattern h) (fun cdv A outer s H E hr => (ds_cons (ds_set (i := 4) sc_law_pattern.nd rfl (by first | exact Or.inl rfl | exact Or.inr rfl) (de_op od_mul (de_litL (vs := [(.int 0)]) (de_lst (da_cons de_int da_nil)) (lit_lst (lita_cons lit_c lita_nil) (by decide))) (de_var (i := 2))))
  (ds_cons (ds_for (passes_of rfl) rfl (di_rng1 T.m_range (de_op od_add de_int (de_call (ok_law_draw T hB) (hr.mono (by decide)) (by rfl) T.g_law_draw T.F_law_draw.kp T.b_law_draw (passes_call (takes_of rfl rfl rfl rfl) (fun _ _ _ _ h => h)) (da_cons (de_var (i := 0)) (da_cons (de_var (i := 1)) (da_cons (de_var (i := 3)) da_nil)))))) (dg_name (i := 5) sc_law_pattern.nd rfl (by first | exact Or.inl rfl | exact Or.inr rfl)) (ds_one (ds_augI (i := 4) ip_add rfl (by first | exact Or.inl rfl | exact Or.inr (Or.inl rfl)) (de_op od_add de_int (de_call (ok_law_draw T hB) (hr.mono (by decide)) (by rfl) T.g_law_draw T.F_law_draw.kp T.b_law_draw (passes_call (takes_of rfl rfl rfl rfl) (fun _ _ _ _ h => h)) (da_cons (de_var (i := 0)) (da_cons (de_var (i := 1)) (da_cons (de_op od_sub (de_var (i := 2)) de_int) da_nil))))) de_int)))
  (ds_one (ds_ret (de_t1 one_tuple T.m_tuple (by decide +kernel) (de_var (i := 4)))))))) (rd_law_pattern _)
theorem ok_law_reach (T : Tx P w K mg) (hB : Bx T base) : FnOk P w K mg base (L2.CX P w) 2 T.a_law_reach T.d_law_reach ["_law_protocol_here", "_law_caches_here"] (spD T.tabs (sp_law_reach ⟨T.cls, K, T.tabs⟩)) :=
  fnD (T := T.tabs) (t := t_law_reach ⟨T.cls, K, T.tabs⟩) T.F_law_reach sc_law_reach (fun ss Q Ex h => by first | (unfold sp_law_reach at h; split at h <;> first | rfl | exact h.elim) | (obtain ⟨_, _, rfl, _⟩ := h; rfl) | (obtain ⟨_, _, _, rfl, _⟩ := h; rfl) | (obtain ⟨_, _, _, _, rfl, _⟩ := h; rfl) | (obtain ⟨_, _, _, _, _, rfl, _⟩ := h; rfl) | (obtain ⟨_, rfl, _⟩ := h; rfl) | exact len_law_reach h) (fun cdv A outer s H E hr => (ds_cons (ds_setF (i := 2) sc_law_reach.nd rfl (by first | exact Or.inl rfl | exact Or.inr rfl) (de_op od_add (de_tup (da_cons (de_var (i := 1)) da_nil)) (de_op od_mul (de_lit (v := (.tuple [(.int 0)])) (de_tup (da_cons de_int da_nil)) (lit_tup (lita_cons lit_c lita_nil) (by decide))) (de_op od_sub (de_ix (de_var (i := 0)) de_int (fun _ _ => rfl)) de_int))))
  (ds_cons (ds_par (i := 3) (j := 4) rfl sc_law_reach.nd rfl rfl (by decide) rfl rfl (de_dispT (hu0 hr) (de_var (i := 2)) de_int) (de_lst (da_cons (de_var (i := 2)) da_nil)) (by rfl))
  (ds_cons (ds_frz 4 (ds_while (passes_of rfl) (db_cmp (od_ne hr.units) (de_var (i := 4)) (de_lst da_nil)) (ds_cons (ds_set (i := 5) sc_law_reach.nd rfl (by first | exact Or.inl rfl | exact Or.inr rfl) (de_lst da_nil))
    (ds_cons (ds_for (passes_of rfl) rfl (di_seq (de_var (i := 4))) (dg_name (i := 6) sc_law_reach.nd rfl (by first | exact Or.inl rfl | exact Or.inr rfl)) (ds_one (ds_for (passes_of rfl) rfl (di_seq (de_call (ok_law_moves T hB) (hr.mono (by decide)) (by rfl) T.g_law_moves T.F_law_moves.kp T.b_law_moves (passes_call (takes_of rfl rfl rfl rfl) (fun _ _ _ _ h => h)) (da_cons (de_var (i := 0)) (da_cons (de_var (i := 6)) da_nil)))) (dg_tup rfl (dgs_cons (dg_name (i := 7) sc_law_reach.nd rfl (by first | exact Or.inl rfl | exact Or.inr rfl)) (dgs_cons (dg_name (i := 8) sc_law_reach.nd rfl (by first | exact Or.inl rfl | exact Or.inr rfl)) dgs_nil))) (ds_one (ds_if (db_cmp (od_notInD (hu65 hr)) (de_var (i := 8)) (de_var (i := 3))) (ds_cons (ds_putT (i := 3) (hu1 hr) rfl (by first | exact Or.inl rfl | exact Or.inr (Or.inl rfl)) (de_var (i := 8)) (de_op od_add (de_ixT (hu65 hr) (de_var (i := 3)) (de_var (i := 6)) (fun _ _ => rfl)) de_int))
          (ds_one (ds_app (i := 5) rfl (by first | exact Or.inl rfl | exact Or.inr (Or.inl rfl)) (de_var (i := 8))))) ds_nil)))))
    (ds_one (ds_move (i := 4) (j := 5) sc_law_reach.nd rfl (by first | exact Or.inl rfl | exact Or.inr rfl) rfl (by first | exact Or.inl rfl | exact Or.inr (Or.inl rfl))))))))
  (ds_one (ds_ret (de_var (i := 3)))))))) (rd_law_reach _)
theorem ok_law_walk (T : Tx P w K mg) (hB : Bx T base) : FnOk P w K mg base (L2.CX P w) 2 T.a_law_walk T.d_law_walk ["_law_script", "_law_town", "_law_protocol_here", "_law_caches_here"] (spD T.tabs (sp_law_walk ⟨T.cls, K, T.tabs⟩)) :=
  fnD (T := T.tabs) (t := t_law_walk ⟨T.cls, K, T.tabs⟩) T.F_law_walk sc_law_walk (fun ss Q Ex h => by first | (unfold sp_law_walk at h; split at h <;> first | rfl | exact h.elim) | (obtain ⟨_, _, rfl, _⟩ := h; rfl) | (obtain ⟨_, _, _, rfl, _⟩ := h; rfl) | (obtain ⟨_, _, _, _, rfl, _⟩ := h; rfl) | (obtain ⟨_, _, _, _, _, rfl, _⟩ := h; rfl) | (obtain ⟨_, rfl, _⟩ := h; rfl) | exact len_law_walk h) (fun cdv A outer s H E hr => (ds_cons (ds_par (i := 4) (j := 5) rfl sc_law_walk.nd rfl rfl (by decide) rfl rfl (de_tup da_nil) (de_lst (da_cons (de_op od_add (de_tup (da_cons (de_var (i := 3)) da_nil)) (de_op od_mul (de_lit (v := (.tuple [(.int 0)])) (de_tup (da_cons de_int da_nil)) (lit_tup (lita_cons lit_c lita_nil) (by decide))) (de_op od_sub (de_ix (de_var (i := 2)) de_int (fun _ _ => rfl)) de_int))) da_nil)) (by rfl))
  (ds_cons (ds_for (passes_of rfl) rfl (di_rng1 T.m_range (de_call (ok_law_draw T hB) (hr.mono (by decide)) (by rfl) T.g_law_draw T.F_law_draw.kp T.b_law_draw (passes_call (takes_of rfl rfl rfl rfl) (fun _ _ _ _ h => h)) (da_cons (de_var (i := 0)) (da_cons (de_var (i := 1)) (da_cons de_int da_nil))))) (dg_name (i := 6) sc_law_walk.nd rfl (by first | exact Or.inl rfl | exact Or.inr rfl)) (ds_cons (ds_setF (i := 7) sc_law_walk.nd rfl (by first | exact Or.inl rfl | exact Or.inr rfl) (de_call (ok_law_moves T hB) (hr.mono (by decide)) (by rfl) T.g_law_moves T.F_law_moves.kp T.b_law_moves (passes_call (takes_of rfl rfl rfl rfl) (fun _ _ _ _ h => h)) (da_cons (de_var (i := 2)) (da_cons (de_ix (de_var (i := 5)) (de_neg de_int) (fun _ _ => rfl)) da_nil))))
    (ds_one (ds_if (db_cmp (od_ne hr.units) (de_var (i := 7)) (de_lst da_nil)) (ds_cons (ds_asg (de_ix (de_var (i := 7)) (de_call (ok_law_draw T hB) (hr.mono (by decide)) (by rfl) T.g_law_draw T.F_law_draw.kp T.b_law_draw (passes_call (takes_of rfl rfl rfl rfl) (fun _ _ _ _ h => h)) (da_cons (de_var (i := 0)) (da_cons (de_var (i := 1)) (da_cons (de_b1 one_len T.m_len PySem.boot_len (de_var (i := 7))) da_nil)))) (fun _ _ => rfl)) (dg_tup rfl (dgs_cons (dg_name (i := 8) sc_law_walk.nd rfl (by first | exact Or.inl rfl | exact Or.inr rfl)) (dgs_cons (dg_name (i := 9) sc_law_walk.nd rfl (by first | exact Or.inl rfl | exact Or.inr rfl)) dgs_nil))))
      (ds_one (ds_par (i := 4) (j := 5) rfl sc_law_walk.nd rfl rfl (by decide) rfl rfl (de_op od_add (de_var (i := 4)) (de_tup (da_cons (de_var (i := 8)) da_nil))) (de_op od_add (de_var (i := 5)) (de_lst (da_cons (de_var (i := 9)) da_nil))) (by rfl)))) ds_nil))))
  (ds_one (ds_ret (de_tup (da_cons (de_var (i := 4)) (da_cons (de_t1 one_tuple T.m_tuple (by decide +kernel) (de_var (i := 5))) da_nil)))))))) (rd_law_walk _)
theorem ok_is_rule (T : Tx P w K mg) (hB : Bx T base) : FnOk P w K mg base (L2.CX P w) 3 T.a_is_rule T.d_is_rule ["many", "value"] (spD T.tabs (sp_is_rule ⟨T.cls, K, T.tabs⟩)) :=
  fnD (T := T.tabs) (t := t_is_rule ⟨T.cls, K, T.tabs⟩) T.F_is_rule sc_is_rule (fun ss Q Ex h => by first | (unfold sp_is_rule at h; split at h <;> first | rfl | exact h.elim) | (obtain ⟨_, _, rfl, _⟩ := h; rfl) | (obtain ⟨_, _, _, rfl, _⟩ := h; rfl) | (obtain ⟨_, _, _, _, rfl, _⟩ := h; rfl) | (obtain ⟨_, _, _, _, _, rfl, _⟩ := h; rfl) | (obtain ⟨_, rfl, _⟩ := h; rfl) | exact len_is_rule h) (fun cdv A outer s H E hr => (ds_cons (ds_if (db_w (dw_or (db_not (db_tru (de_isi kitT_tuple T.m_isinstance T.m_tuple (by decide +kernel) (de_var (i := 1))))) (dw_or (db_cmp (od_ne hr.units) (de_b1 one_len T.m_len PySem.boot_len (de_var (i := 1))) de_int) (dw_one_or (db_not (db_tru (de_call (ok_are_between T hB) (hr.mono (by decide)) (by rfl) T.g_are_between T.F_are_between.kp T.b_are_between (passes_call (takes_of rfl rfl rfl rfl) (fun _ _ _ _ h => h)) (da_cons (de_slice (de_var (i := 1)) do_none (do_some de_int)) (da_cons de_int (da_cons (de_op od_sub (de_var (i := 0)) de_int) da_nil)))))))))) (ds_one (ds_ret de_bl)) ds_nil)
  (ds_cons (ds_asg (de_var (i := 1)) (dg_tup rfl (dgs_cons (dg_name (i := 2) sc_is_rule.nd rfl (by first | exact Or.inl rfl | exact Or.inr rfl)) (dgs_cons (dg_name (i := 3) sc_is_rule.nd rfl (by first | exact Or.inl rfl | exact Or.inr rfl)) (dgs_cons (dg_name (i := 4) sc_is_rule.nd rfl (by first | exact Or.inl rfl | exact Or.inr rfl)) (dgs_cons (dg_name (i := 5) sc_is_rule.nd rfl (by first | exact Or.inl rfl | exact Or.inr rfl)) (dgs_cons (dg_name (i := 6) sc_is_rule.nd rfl (by first | exact Or.inl rfl | exact Or.inr rfl)) dgs_nil)))))))
  (ds_cons (ds_if (db_w (dw_or (db_not (db_tru (de_call (ok_are_between T hB) (hr.mono (by decide)) (by rfl) T.g_are_between T.F_are_between.kp T.b_are_between (passes_call (takes_of rfl rfl rfl rfl) (fun _ _ _ _ h => h)) (da_cons (de_var (i := 5)) (da_cons de_int (da_cons (de_op od_sub (de_var (i := 0)) de_int) da_nil)))))) (dw_or (db_not (db_tru (de_call (ok_is_ascending T hB) (hr.mono (by decide)) (by rfl) T.g_is_ascending T.F_is_ascending.kp T.b_is_ascending (passes_call (takes_of rfl rfl rfl rfl) (fun _ _ _ _ h => h)) (da_cons (de_var (i := 5)) da_nil)))) (dw_one_or (db_cmp (od_in (hu65 hr)) (de_var (i := 4)) (de_var (i := 5))))))) (ds_one (ds_ret de_bl)) ds_nil)
  (ds_one (ds_ret (de_and (de_call (ok_are_between T hB) (hr.mono (by decide)) (by rfl) T.g_are_between T.F_are_between.kp T.b_are_between (passes_call (takes_of rfl rfl rfl rfl) (fun _ _ _ _ h => h)) (da_cons (de_var (i := 6)) (da_cons de_int (da_cons (de_op od_sub (de_var (i := 0)) de_int) da_nil)))) (de_and (de_cmp (od_eq hr.units) (de_b1 one_len T.m_len PySem.boot_len (de_var (i := 6))) (de_var (i := 0))) (de_one (de_cmp (od_eq hr.units) (de_ix (de_var (i := 6)) de_int (fun _ _ => rfl)) de_int)))))))))) (rd_is_rule _)
theorem ok_is_configuration_of (T : Tx P w K mg) (hB : Bx T base) : FnOk P w K mg base (L2.CX P w) 3 T.a_is_configuration_of T.d_is_configuration_of ["protocol", "value"] (spD T.tabs (sp_is_configuration_of ⟨T.cls, K, T.tabs⟩)) :=
  fnD (T := T.tabs) (t := t_is_configuration_of ⟨T.cls, K, T.tabs⟩) T.F_is_configuration_of sc_is_configuration_of (fun ss Q Ex h => by first | (unfold sp_is_configuration_of at h; split at h <;> first | rfl | exact h.elim) | (obtain ⟨_, _, rfl, _⟩ := h; rfl) | (obtain ⟨_, _, _, rfl, _⟩ := h; rfl) | (obtain ⟨_, _, _, _, rfl, _⟩ := h; rfl) | (obtain ⟨_, _, _, _, _, rfl, _⟩ := h; rfl) | (obtain ⟨_, rfl, _⟩ := h; rfl) | exact len_is_configuration_of h) (fun cdv A outer s H E hr => (ds_one (ds_ret (de_and (de_call (ok_are_counts T hB) (hr.mono (by decide)) (by rfl) T.g_are_counts T.F_are_counts.kp T.b_are_counts (passes_call (takes_of rfl rfl rfl rfl) (fun _ _ _ _ h => h)) (da_cons (de_var (i := 0)) (da_cons (de_var (i := 1)) da_nil))) (de_one (de_chain od_le od_le de_int (de_b1 (one_sum rfl) T.m_sum (by decide +kernel) (de_var (i := 1))) (de_gint rfl T.m_CACHES ⟨_, rfl⟩))))))) (rd_is_configuration_of _)
theorem ok_moves (T : Tx P w K mg) (hB : Bx T base) : FnOk P w K mg base (L2.CX P w) 3 T.a_moves T.d_moves ["protocol", "configuration"] (spD T.tabs (sp_moves ⟨T.cls, K, T.tabs⟩)) :=
  fnD (T := T.tabs) (t := t_moves ⟨T.cls, K, T.tabs⟩) T.F_moves sc_moves (fun ss Q Ex h => by first | (unfold sp_moves at h; split at h <;> first | rfl | exact h.elim) | (obtain ⟨_, _, rfl, _⟩ := h; rfl) | (obtain ⟨_, _, _, rfl, _⟩ := h; rfl) | (obtain ⟨_, _, _, _, rfl, _⟩ := h; rfl) | (obtain ⟨_, _, _, _, _, rfl, _⟩ := h; rfl) | (obtain ⟨_, rfl, _⟩ := h; rfl) | exact len_moves h) (fun cdv A outer s H E hr => (ds_cons (ds_set (i := 2) sc_moves.nd rfl (by first | exact Or.inl rfl | exact Or.inr rfl) (de_lst da_nil))
  (ds_cons (ds_for (passes_of rfl) rfl (di_rng2 T.m_range de_int (de_ix (de_var (i := 0)) de_int (fun _ _ => rfl))) (dg_name (i := 3) sc_moves.nd rfl (by first | exact Or.inl rfl | exact Or.inr rfl)) (ds_one (ds_if (db_cmp od_gt (de_ix (de_var (i := 1)) (de_var (i := 3)) (fun _ _ => rfl)) de_int) (ds_one (ds_app (i := 2) rfl (by first | exact Or.inl rfl | exact Or.inr (Or.inl rfl)) (de_tup (da_cons (de_tup (da_cons de_str (da_cons (de_var (i := 3)) da_nil))) (da_cons (de_call (ok_dropped T hB) (hr.mono (by decide)) (by rfl) T.g_dropped T.F_dropped.kp T.b_dropped (passes_call (takes_of rfl rfl rfl rfl) (fun _ _ _ _ h => h)) (da_cons (de_var (i := 1)) (da_cons (de_var (i := 3)) da_nil))) da_nil))))) ds_nil)))
  (ds_cons (ds_for (passes_of rfl) rfl (di_enum T.m_enumerate (de_ix (de_var (i := 0)) de_int (fun _ _ => rfl))) (dg_tup rfl (dgs_cons (dg_name (i := 4) sc_moves.nd rfl (by first | exact Or.inl rfl | exact Or.inr rfl)) (dgs_cons (dg_name (i := 5) sc_moves.nd rfl (by first | exact Or.inl rfl | exact Or.inr rfl)) dgs_nil))) (ds_one (ds_if (db_tru (de_call (ok_is_possible T hB) (hr.mono (by decide)) (by rfl) T.g_is_possible T.F_is_possible.kp T.b_is_possible (passes_call (takes_of rfl rfl rfl rfl) (fun _ _ _ _ h => h)) (da_cons (de_var (i := 1)) (da_cons (de_var (i := 5)) da_nil)))) (ds_one (ds_app (i := 2) rfl (by first | exact Or.inl rfl | exact Or.inr (Or.inl rfl)) (de_tup (da_cons (de_tup (da_cons de_str (da_cons (de_var (i := 4)) da_nil))) (da_cons (de_call (ok_performed T hB) (hr.mono (by decide)) (by rfl) T.g_performed T.F_performed.kp T.b_performed (passes_call (takes_of rfl rfl rfl rfl) (fun _ _ _ _ h => h)) (da_cons (de_var (i := 1)) (da_cons (de_var (i := 5)) da_nil))) da_nil))))) ds_nil)))
  (ds_one (ds_ret (de_var (i := 2)))))))) (rd_moves _)
theorem ok_law_protocol (T : Tx P w K mg) (hB : Bx T base) : FnOk P w K mg base (L2.CX P w) 3 T.a_law_protocol T.d_law_protocol ["_law_script", "_law_town", "_law_states", "_law_rules"] (spD T.tabs (sp_law_protocol ⟨T.cls, K, T.tabs⟩)) :=
  fnD (T := T.tabs) (t := t_law_protocol ⟨T.cls, K, T.tabs⟩) T.F_law_protocol sc_law_protocol (fun ss Q Ex h => by first | (unfold sp_law_protocol at h; split at h <;> first | rfl | exact h.elim) | (obtain ⟨_, _, rfl, _⟩ := h; rfl) | (obtain ⟨_, _, _, rfl, _⟩ := h; rfl) | (obtain ⟨_, _, _, _, rfl, _⟩ := h; rfl) | (obtain ⟨_, _, _, _, _, rfl, _⟩ := h; rfl) | (obtain ⟨_, rfl, _⟩ := h; rfl) | exact len_law_protocol h) (fun cdv A outer s H E hr => (ds_cons (ds_setF (i := 4) sc_law_protocol.nd rfl (by first | exact Or.inl rfl | exact Or.inr rfl) (de_op od_add de_int (de_call (ok_law_draw T hB) (hr.mono (by decide)) (by rfl) T.g_law_draw T.F_law_draw.kp T.b_law_draw (passes_call (takes_of rfl rfl rfl rfl) (fun _ _ _ _ h => h)) (da_cons (de_var (i := 0)) (da_cons (de_var (i := 1)) (da_cons (de_op od_sub (de_var (i := 2)) de_int) da_nil))))))
  (ds_one (ds_ret (de_tup (da_cons (de_var (i := 4)) (da_cons (de_t1 one_tuple T.m_tuple (by decide +kernel) (de_lc (own := [("_law_k", 5)]) rfl sc_law_protocol.nd (di_rng1 T.m_range (de_call (ok_law_draw T hB) (hr.mono (by decide)) (by rfl) T.g_law_draw T.F_law_draw.kp T.b_law_draw (passes_call (takes_of rfl rfl rfl rfl) (fun _ _ _ _ h => h)) (da_cons (de_var (i := 0)) (da_cons (de_var (i := 1)) (da_cons (de_op od_add (de_var (i := 3)) de_int) da_nil))))) (blkOk_by (own := [("_law_k", 5)]) (N := N_law_protocol) (sc := defScope s_law_protocol) (by decide +kernel)) (by decide) (fun _ _ _ _ _ => (dg_name (i := 5) sc_law_protocol.nd rfl (by first | exact Or.inl rfl | exact Or.inr rfl))) (fun _ _ _ _ _ => dts_nil) (fun _ _ _ _ _ => (de_call (ok_law_rule T hB) (hr.mono (by decide)) (by rfl) T.g_law_rule T.F_law_rule.kp T.b_law_rule passL (da_cons (de_var (i := 0)) (da_cons (de_var (i := 1)) (da_cons (de_var (i := 4)) da_nil))))))) da_nil))))))) (rd_law_protocol _)
theorem ok_Search___init__ (T : Tx P w K mg) (hB : Bx T base) : FnOk P w K mg base (L2.CX P w) 4 T.a_Search___init__ T.d_Search___init__ ["self", "protocol", "caches"] (spInit ⟨T.cls, K, T.tabs⟩ T.tabs (T.cls "Search")) :=
  fnInit T.F_Search___init__ sc_Search___init__ T.cl_Search (fun cdv A outer s H E hr => (pss_cons (ps_asg (pe_call (ok_first_of T hB) (hr.mono (by decide)) (by rfl) T.g_first_of T.F_first_of.kp T.b_first_of .nil (passes_call (takes_of rfl rfl rfl rfl) (fun _ _ _ _ h => h)) (pa_cons (pv 1) (pa_cons (pv 2) pa_nil))) (pg_name (i := 3) sc_Search___init__.nd rfl (Or.inl rfl))) (pss_cons (ps_fld (pv 0) (pv 3) rfl) (pss_cons (ps_fld (pv 0) (pe_dispT (hu0 hr) (pv 3) pe_int) rfl) (pss_cons (ps_fld (pv 0) pe_dnewT rfl) (pss_cons (ps_asg (pe_lst (pa_cons (pv 3) pa_nil)) (pg_name (i := 4) sc_Search___init__.nd rfl (Or.inl rfl))) (pss_one (ps_while (passes_of rfl) (pt_truth (pv 4) (by intro _; rfl)) (pss_cons (ps_asg (pe_lst pa_nil) (pg_name (i := 5) sc_Search___init__.nd rfl (Or.inl rfl))) (pss_cons (ps_for (passes_of rfl) rfl (pi_list (pv 4)) (pg_name (i := 6) sc_Search___init__.nd rfl (Or.inl rfl)) (pss_one (ps_for (passes_of rfl) rfl (pi_list (pe_call (ok_moves T hB) (hr.mono (by decide)) (by rfl) T.g_moves T.F_moves.kp T.b_moves .nil (passes_call (takes_of rfl rfl rfl rfl) (fun _ _ _ _ h => h)) (pa_cons (pv 1) (pa_cons (pv 6) pa_nil)))) (pg_tup rfl (pgs_cons (pg_name (i := 7) sc_Search___init__.nd rfl (Or.inl rfl)) (pgs_cons (pg_name (i := 8) sc_Search___init__.nd rfl (Or.inl rfl)) pgs_nil))) (pss_one (ps_if (pt_cmpR (op_dNotIn (hu1 hr)) (pv 8) (pe_fld (pv 0) rfl) (by first | exact nomark _ | rfl)) (pss_cons (ps_dput (hu1 hr) (pe_fld (pv 0) rfl) (pv 8) (pe_op op_add (pe_dget (hu1 hr) (pe_fld (pv 0) rfl) (pv 6) (fun _ _ => rfl)) pe_int) rfl) (pss_cons (ps_dput (hu1 hr) (pe_fld (pv 0) rfl) (pv 8) (pe_tup (pa_cons (pv 7) (pa_cons (pv 6) pa_nil))) rfl) (pss_one (ps_expr (pe_bm PySem.F.plainAttrs_list PySem.F.slot_list_append PySem.F.type_list_append mt_append (pv 5) (pa_cons (pv 8) pa_nil)))))) pss_nil))))) (pss_one (ps_asg (pv 5) (pg_name (i := 4) sc_Search___init__.nd rfl (Or.inl rfl))))))))))))))
theorem ok_is_protocol (T : Tx P w K mg) (hB : Bx T base) : FnOk P w K mg base (L2.CX P w) 4 T.a_is_protocol T.d_is_protocol ["value"] (spD T.tabs (sp_is_protocol ⟨T.cls, K, T.tabs⟩)) :=
  fnD (T := T.tabs) (t := t_is_protocol ⟨T.cls, K, T.tabs⟩) T.F_is_protocol sc_is_protocol (fun ss Q Ex h => by first | (unfold sp_is_protocol at h; split at h <;> first | rfl | exact h.elim) | (obtain ⟨_, _, rfl, _⟩ := h; rfl) | (obtain ⟨_, _, _, rfl, _⟩ := h; rfl) | (obtain ⟨_, _, _, _, rfl, _⟩ := h; rfl) | (obtain ⟨_, _, _, _, _, rfl, _⟩ := h; rfl) | (obtain ⟨_, rfl, _⟩ := h; rfl) | exact len_is_protocol h) (fun cdv A outer s H E hr => (ds_cons (ds_if (db_w (dw_or (db_not (db_tru (de_isi kitT_tuple T.m_isinstance T.m_tuple (by decide +kernel) (de_var (i := 0))))) (dw_or (db_cmp (od_ne hr.units) (de_b1 one_len T.m_len PySem.boot_len (de_var (i := 0))) de_int) (dw_one_or (db_not (db_tru (de_call (ok_is_between T hB) (hr.mono (by decide)) (by rfl) T.g_is_between T.F_is_between.kp T.b_is_between (passes_call (takes_of rfl rfl rfl rfl) (fun _ _ _ _ h => h)) (da_cons (de_ix (de_var (i := 0)) de_int (fun _ _ => rfl)) (da_cons de_int (da_cons de_int da_nil)))))))))) (ds_one (ds_ret de_bl)) ds_nil)
  (ds_cons (ds_asg (de_var (i := 0)) (dg_tup rfl (dgs_cons (dg_name (i := 1) sc_is_protocol.nd rfl (by first | exact Or.inl rfl | exact Or.inr rfl)) (dgs_cons (dg_name (i := 2) sc_is_protocol.nd rfl (by first | exact Or.inl rfl | exact Or.inr rfl)) dgs_nil))))
  (ds_one (ds_ret (de_and (de_isi kitT_tuple T.m_isinstance T.m_tuple (by decide +kernel) (de_var (i := 2))) (de_and (de_cmp od_le (de_b1 one_len T.m_len PySem.boot_len (de_var (i := 2))) (de_gint rfl T.m_RULES ⟨_, rfl⟩)) (de_one (de_b1 (one_all rfl) T.m_all (by decide +kernel) (de_lc (own := [("one", 3)]) rfl sc_is_protocol.nd (di_seq (de_var (i := 2))) (blkOk_by (own := [("one", 3)]) (N := N_is_protocol) (sc := defScope s_is_protocol) (by decide +kernel)) (by decide) (fun _ _ _ _ _ => (dg_name (i := 3) sc_is_protocol.nd rfl (by first | exact Or.inl rfl | exact Or.inr rfl))) (fun _ _ _ _ _ => dts_nil) (fun _ _ _ _ _ => (de_call (ok_is_rule T hB) (hr.mono (by decide)) (by rfl) T.g_is_rule T.F_is_rule.kp T.b_is_rule passL (da_cons (de_var (i := 1)) (da_cons (de_var (i := 3)) da_nil)))))))))))))) (rd_is_protocol _)
theorem ok_check_configuration (T : Tx P w K mg) (hB : Bx T base) : FnOk P w K mg base (L2.CX P w) 4 T.a_check_configuration T.d_check_configuration ["protocol", "configuration"] (spD T.tabs (sp_check_configuration ⟨T.cls, K, T.tabs⟩)) :=
  fnD (T := T.tabs) (t := t_check_configuration ⟨T.cls, K, T.tabs⟩) T.F_check_configuration sc_check_configuration (fun ss Q Ex h => by first | (unfold sp_check_configuration at h; split at h <;> first | rfl | exact h.elim) | (obtain ⟨_, _, rfl, _⟩ := h; rfl) | (obtain ⟨_, _, _, rfl, _⟩ := h; rfl) | (obtain ⟨_, _, _, _, rfl, _⟩ := h; rfl) | (obtain ⟨_, _, _, _, _, rfl, _⟩ := h; rfl) | (obtain ⟨_, rfl, _⟩ := h; rfl) | exact len_check_configuration h) (fun cdv A outer s H E hr => (ds_one (ds_if (db_not (db_tru (de_call (ok_is_configuration_of T hB) (hr.mono (by decide)) (by rfl) T.g_is_configuration_of T.F_is_configuration_of.kp T.b_is_configuration_of (passes_call (takes_of rfl rfl rfl rfl) (fun _ _ _ _ h => h)) (da_cons (de_var (i := 0)) (da_cons (de_var (i := 1)) da_nil))))) (ds_one (ds_raise rfl (takes_of rfl rfl rfl rfl) (pmk_own PySem.F.excBase_ValueError T.x_InvalidConfiguration T.gc_InvalidConfiguration T.kc_InvalidConfiguration (raises_own T.bc_InvalidConfiguration T.tc_InvalidConfiguration) (by exact rfl)))) ds_nil))) (rd_check_configuration _)
theorem ok_moved (T : Tx P w K mg) (hB : Bx T base) : FnOk P w K mg base (L2.CX P w) 4 T.a_moved T.d_moved ["protocol", "configuration", "step"] (spD T.tabs (sp_moved ⟨T.cls, K, T.tabs⟩)) :=
  fnD (T := T.tabs) (t := t_moved ⟨T.cls, K, T.tabs⟩) T.F_moved sc_moved (fun ss Q Ex h => by first | (unfold sp_moved at h; split at h <;> first | rfl | exact h.elim) | (obtain ⟨_, _, rfl, _⟩ := h; rfl) | (obtain ⟨_, _, _, rfl, _⟩ := h; rfl) | (obtain ⟨_, _, _, _, rfl, _⟩ := h; rfl) | (obtain ⟨_, _, _, _, _, rfl, _⟩ := h; rfl) | (obtain ⟨_, rfl, _⟩ := h; rfl) | exact len_moved h) (fun cdv A outer s H E hr => (ds_one (ds_ret (de_if (db_tru (de_call (ok_is_step_shape T hB) (hr.mono (by decide)) (by rfl) T.g_is_step_shape T.F_is_step_shape.kp T.b_is_step_shape (passes_call (takes_of rfl rfl rfl rfl) (fun _ _ _ _ h => h)) (da_cons (de_var (i := 2)) da_nil))) (de_getT1 (hu65 hr) (de_t1 (one_dictT rfl (hu65 hr)) T.m_dict (by decide +kernel) (de_call (ok_moves T hB) (hr.mono (by decide)) (by rfl) T.g_moves T.F_moves.kp T.b_moves (passes_call (takes_of rfl rfl rfl rfl) (fun _ _ _ _ h => h)) (da_cons (de_var (i := 0)) (da_cons (de_var (i := 1)) da_nil)))) (de_var (i := 2)) ⟨rfl, rfl, rfl, rfl⟩) de_non)))) (rd_moved _)
theorem ok_check_protocol (T : Tx P w K mg) (hB : Bx T base) : FnOk P w K mg base (L2.CX P w) 5 T.a_check_protocol T.d_check_protocol ["protocol"] (spD T.tabs (sp_check_protocol ⟨T.cls, K, T.tabs⟩)) :=
  fnD (T := T.tabs) (t := t_check_protocol ⟨T.cls, K, T.tabs⟩) T.F_check_protocol sc_check_protocol (fun ss Q Ex h => by first | (unfold sp_check_protocol at h; split at h <;> first | rfl | exact h.elim) | (obtain ⟨_, _, rfl, _⟩ := h; rfl) | (obtain ⟨_, _, _, rfl, _⟩ := h; rfl) | (obtain ⟨_, _, _, _, rfl, _⟩ := h; rfl) | (obtain ⟨_, _, _, _, _, rfl, _⟩ := h; rfl) | (obtain ⟨_, rfl, _⟩ := h; rfl) | exact len_check_protocol h) (fun cdv A outer s H E hr => (ds_one (ds_if (db_not (db_tru (de_call (ok_is_protocol T hB) (hr.mono (by decide)) (by rfl) T.g_is_protocol T.F_is_protocol.kp T.b_is_protocol (passes_call (takes_of rfl rfl rfl rfl) (fun _ _ _ _ h => h)) (da_cons (de_var (i := 0)) da_nil)))) (ds_one (ds_raise rfl (takes_of rfl rfl rfl rfl) (pmk_own PySem.F.excBase_ValueError T.x_InvalidProtocol T.gc_InvalidProtocol T.kc_InvalidProtocol (raises_own T.bc_InvalidProtocol T.tc_InvalidProtocol) (by exact rfl)))) ds_nil))) (rd_check_protocol _)
theorem ok_way (T : Tx P w K mg) (hB : Bx T base) : FnOk P w K mg base (L2.CX P w) 5 T.a_way T.d_way ["protocol", "caches", "trace"] (spD T.tabs (sp_way ⟨T.cls, K, T.tabs⟩)) :=
  fnD (T := T.tabs) (t := t_way ⟨T.cls, K, T.tabs⟩) T.F_way sc_way (fun ss Q Ex h => by first | (unfold sp_way at h; split at h <;> first | rfl | exact h.elim) | (obtain ⟨_, _, rfl, _⟩ := h; rfl) | (obtain ⟨_, _, _, rfl, _⟩ := h; rfl) | (obtain ⟨_, _, _, _, rfl, _⟩ := h; rfl) | (obtain ⟨_, _, _, _, _, rfl, _⟩ := h; rfl) | (obtain ⟨_, rfl, _⟩ := h; rfl) | exact len_way h) (fun cdv A outer s H E hr => (ds_cons (ds_if (db_not (db_tru (de_isi kitT_tuple T.m_isinstance T.m_tuple (by decide +kernel) (de_var (i := 2))))) (ds_one (ds_ret de_non)) ds_nil)
  (ds_cons (ds_set (i := 3) sc_way.nd rfl (by first | exact Or.inl rfl | exact Or.inr rfl) (de_lst (da_cons (de_call (ok_first_of T hB) (hr.mono (by decide)) (by rfl) T.g_first_of T.F_first_of.kp T.b_first_of (passes_call (takes_of rfl rfl rfl rfl) (fun _ _ _ _ h => h)) (da_cons (de_var (i := 0)) (da_cons (de_var (i := 1)) da_nil))) da_nil)))
  (ds_cons (ds_for (passes_of rfl) rfl (di_seq (de_var (i := 2))) (dg_name (i := 4) sc_way.nd rfl (by first | exact Or.inl rfl | exact Or.inr rfl)) (ds_cons (ds_setF (i := 5) sc_way.nd rfl (by first | exact Or.inl rfl | exact Or.inr rfl) (de_call (ok_moved T hB) (hr.mono (by decide)) (by rfl) T.g_moved T.F_moved.kp T.b_moved (passes_call (takes_of rfl rfl rfl rfl) (fun _ _ _ _ h => h)) (da_cons (de_var (i := 0)) (da_cons (de_ix (de_var (i := 3)) (de_neg de_int) (fun _ _ => rfl)) (da_cons (de_var (i := 4)) da_nil)))))
    (ds_cons (ds_if (db_cmp od_isN (de_var (i := 5)) de_non) (ds_one (ds_ret de_non)) ds_nil)
    (ds_one (ds_app (i := 3) rfl (by first | exact Or.inl rfl | exact Or.inr (Or.inl rfl)) (de_var (i := 5)))))))
  (ds_one (ds_ret (de_var (i := 3)))))))) (rd_way _)
theorem ok_reachable (T : Tx P w K mg) (hB : Bx T base) : FnOk P w K mg base (L2.CX P w) 6 T.a_reachable T.d_reachable ["protocol", "caches"] (spD T.tabs (sp_reachable ⟨T.cls, K, T.tabs⟩)) :=
  fnD (T := T.tabs) (t := t_reachable ⟨T.cls, K, T.tabs⟩) T.F_reachable sc_reachable (fun ss Q Ex h => by first | (unfold sp_reachable at h; split at h <;> first | rfl | exact h.elim) | (obtain ⟨_, _, rfl, _⟩ := h; rfl) | (obtain ⟨_, _, _, rfl, _⟩ := h; rfl) | (obtain ⟨_, _, _, _, rfl, _⟩ := h; rfl) | (obtain ⟨_, _, _, _, _, rfl, _⟩ := h; rfl) | (obtain ⟨_, rfl, _⟩ := h; rfl) | exact len_reachable h) (fun cdv A outer s H E hr => (ds_cons (ds_expr (de_call (ok_check_protocol T hB) (hr.mono (by decide)) (by rfl) T.g_check_protocol T.F_check_protocol.kp T.b_check_protocol (passes_call (takes_of rfl rfl rfl rfl) (fun _ _ _ _ h => h)) (da_cons (de_var (i := 0)) da_nil)))
  (ds_cons (ds_expr (de_call (ok_check_number T hB) (hr.mono (by decide)) (by rfl) T.g_check_number T.F_check_number.kp T.b_check_number (passes_call (takes_of rfl rfl rfl rfl) (fun _ _ _ _ h => h)) (da_cons (de_var (i := 1)) da_nil)))
  (ds_one (ds_ret (de_t1 one_tuple T.m_tuple (by decide +kernel) (de_b1 (one_sortKT rfl (hu66 hr)) T.m_sorted (by decide +kernel) (de_fd T.cl_Search (de_srch (c := ⟨T.cls, K, T.tabs⟩) rfl T.mk_Search (ok_Search___init__ T hB) (hr.mono (by decide)) (by rfl) T.gc_Search T.b_Search___init__ (passes_call (takes_of rfl rfl rfl rfl) (fun _ _ _ _ h => h)) (da_cons (de_var (i := 0)) (da_cons (de_var (i := 1)) da_nil))))))))))) (rd_reachable _)
theorem ok_distance (T : Tx P w K mg) (hB : Bx T base) : FnOk P w K mg base (L2.CX P w) 6 T.a_distance T.d_distance ["protocol", "configuration"] (spD T.tabs (sp_distance ⟨T.cls, K, T.tabs⟩)) :=
  fnD (T := T.tabs) (t := t_distance ⟨T.cls, K, T.tabs⟩) T.F_distance sc_distance (fun ss Q Ex h => by first | (unfold sp_distance at h; split at h <;> first | rfl | exact h.elim) | (obtain ⟨_, _, rfl, _⟩ := h; rfl) | (obtain ⟨_, _, _, rfl, _⟩ := h; rfl) | (obtain ⟨_, _, _, _, rfl, _⟩ := h; rfl) | (obtain ⟨_, _, _, _, _, rfl, _⟩ := h; rfl) | (obtain ⟨_, rfl, _⟩ := h; rfl) | exact len_distance h) (fun cdv A outer s H E hr => (ds_cons (ds_expr (de_call (ok_check_protocol T hB) (hr.mono (by decide)) (by rfl) T.g_check_protocol T.F_check_protocol.kp T.b_check_protocol (passes_call (takes_of rfl rfl rfl rfl) (fun _ _ _ _ h => h)) (da_cons (de_var (i := 0)) da_nil)))
  (ds_cons (ds_expr (de_call (ok_check_configuration T hB) (hr.mono (by decide)) (by rfl) T.g_check_configuration T.F_check_configuration.kp T.b_check_configuration (passes_call (takes_of rfl rfl rfl rfl) (fun _ _ _ _ h => h)) (da_cons (de_var (i := 0)) (da_cons (de_var (i := 1)) da_nil))))
  (ds_one (ds_ret (de_getT (hu65 hr) (de_fd T.cl_Search (de_srch (c := ⟨T.cls, K, T.tabs⟩) rfl T.mk_Search (ok_Search___init__ T hB) (hr.mono (by decide)) (by rfl) T.gc_Search T.b_Search___init__ (passes_call (takes_of rfl rfl rfl rfl) (fun _ _ _ _ h => h)) (da_cons (de_var (i := 0)) (da_cons (de_b1 (one_sum rfl) T.m_sum (by decide +kernel) (de_var (i := 1))) da_nil)))) (de_var (i := 1)) ⟨rfl, rfl, rfl, rfl⟩)))))) (rd_distance _)
theorem ok_depth (T : Tx P w K mg) (hB : Bx T base) : FnOk P w K mg base (L2.CX P w) 6 T.a_depth T.d_depth ["protocol", "caches"] (spD T.tabs (sp_depth ⟨T.cls, K, T.tabs⟩)) :=
  fnD (T := T.tabs) (t := t_depth ⟨T.cls, K, T.tabs⟩) T.F_depth sc_depth (fun ss Q Ex h => by first | (unfold sp_depth at h; split at h <;> first | rfl | exact h.elim) | (obtain ⟨_, _, rfl, _⟩ := h; rfl) | (obtain ⟨_, _, _, rfl, _⟩ := h; rfl) | (obtain ⟨_, _, _, _, rfl, _⟩ := h; rfl) | (obtain ⟨_, _, _, _, _, rfl, _⟩ := h; rfl) | (obtain ⟨_, rfl, _⟩ := h; rfl) | exact len_depth h) (fun cdv A outer s H E hr => (ds_cons (ds_expr (de_call (ok_check_protocol T hB) (hr.mono (by decide)) (by rfl) T.g_check_protocol T.F_check_protocol.kp T.b_check_protocol (passes_call (takes_of rfl rfl rfl rfl) (fun _ _ _ _ h => h)) (da_cons (de_var (i := 0)) da_nil)))
  (ds_cons (ds_expr (de_call (ok_check_number T hB) (hr.mono (by decide)) (by rfl) T.g_check_number T.F_check_number.kp T.b_check_number (passes_call (takes_of rfl rfl rfl rfl) (fun _ _ _ _ h => h)) (da_cons (de_var (i := 1)) da_nil)))
  (ds_one (ds_ret (de_maxV rfl T.m_max (de_fd T.cl_Search (de_srch (c := ⟨T.cls, K, T.tabs⟩) rfl T.mk_Search (ok_Search___init__ T hB) (hr.mono (by decide)) (by rfl) T.gc_Search T.b_Search___init__ (passes_call (takes_of rfl rfl rfl rfl) (fun _ _ _ _ h => h)) (da_cons (de_var (i := 0)) (da_cons (de_var (i := 1)) da_nil)))))))))) (rd_depth _)
theorem ok_quiet (T : Tx P w K mg) (hB : Bx T base) : FnOk P w K mg base (L2.CX P w) 6 T.a_quiet T.d_quiet ["protocol", "caches"] (spD T.tabs (sp_quiet ⟨T.cls, K, T.tabs⟩)) :=
  fnD (T := T.tabs) (t := t_quiet ⟨T.cls, K, T.tabs⟩) T.F_quiet sc_quiet (fun ss Q Ex h => by first | (unfold sp_quiet at h; split at h <;> first | rfl | exact h.elim) | (obtain ⟨_, _, rfl, _⟩ := h; rfl) | (obtain ⟨_, _, _, rfl, _⟩ := h; rfl) | (obtain ⟨_, _, _, _, rfl, _⟩ := h; rfl) | (obtain ⟨_, _, _, _, _, rfl, _⟩ := h; rfl) | (obtain ⟨_, rfl, _⟩ := h; rfl) | exact len_quiet h) (fun cdv A outer s H E hr => (ds_cons (ds_expr (de_call (ok_check_protocol T hB) (hr.mono (by decide)) (by rfl) T.g_check_protocol T.F_check_protocol.kp T.b_check_protocol (passes_call (takes_of rfl rfl rfl rfl) (fun _ _ _ _ h => h)) (da_cons (de_var (i := 0)) da_nil)))
  (ds_cons (ds_expr (de_call (ok_check_number T hB) (hr.mono (by decide)) (by rfl) T.g_check_number T.F_check_number.kp T.b_check_number (passes_call (takes_of rfl rfl rfl rfl) (fun _ _ _ _ h => h)) (da_cons (de_var (i := 1)) da_nil)))
  (ds_cons (ds_setF (i := 2) sc_quiet.nd rfl (by first | exact Or.inl rfl | exact Or.inr rfl) (de_b1 (one_sortKT rfl (hu66 hr)) T.m_sorted (by decide +kernel) (de_fd T.cl_Search (de_srch (c := ⟨T.cls, K, T.tabs⟩) rfl T.mk_Search (ok_Search___init__ T hB) (hr.mono (by decide)) (by rfl) T.gc_Search T.b_Search___init__ (passes_call (takes_of rfl rfl rfl rfl) (fun _ _ _ _ h => h)) (da_cons (de_var (i := 0)) (da_cons (de_var (i := 1)) da_nil))))))
  (ds_one (ds_ret (de_t1 one_tuple T.m_tuple (by decide +kernel) (de_lc (own := [("one", 3)]) rfl sc_quiet.nd (di_seq (de_var (i := 2))) (blkOk_by (own := [("one", 3)]) (N := N_quiet) (sc := defScope s_quiet) (by decide +kernel)) (by decide) (fun _ _ _ _ _ => (dg_name (i := 3) sc_quiet.nd rfl (by first | exact Or.inl rfl | exact Or.inr rfl))) (fun _ _ _ _ _ => (dts_one (db_not (db_tru (de_b1 (one_any rfl) T.m_any (by decide +kernel) (de_lc (own := [("rule", 4)]) rfl sc_quiet.nd (di_seq (de_ix (de_var (i := 0)) de_int (fun _ _ => rfl))) (blkOk_by (own := [("rule", 4)]) (N := N_quiet) (by kernel_rfl)) (by decide) (fun _ _ _ _ _ => (dg_name (i := 4) sc_quiet.nd rfl (by first | exact Or.inl rfl | exact Or.inr rfl))) (fun _ _ _ _ _ => dts_nil) (fun _ _ _ _ _ => (de_call (ok_is_possible T hB) (hr.mono (by decide)) (by rfl) T.g_is_possible T.F_is_possible.kp T.b_is_possible passL (da_cons (de_var (i := 3)) (da_cons (de_var (i := 4)) da_nil)))))))))) (fun _ _ _ _ _ => (de_var (i := 3))))))))))) (rd_quiet _)
theorem ok_run (T : Tx P w K mg) (hB : Bx T base) : FnOk P w K mg base (L2.CX P w) 6 T.a_run T.d_run ["protocol", "caches", "trace"] (spD T.tabs (sp_run ⟨T.cls, K, T.tabs⟩)) :=
  fnD (T := T.tabs) (t := t_run ⟨T.cls, K, T.tabs⟩) T.F_run sc_run (fun ss Q Ex h => by first | (unfold sp_run at h; split at h <;> first | rfl | exact h.elim) | (obtain ⟨_, _, rfl, _⟩ := h; rfl) | (obtain ⟨_, _, _, rfl, _⟩ := h; rfl) | (obtain ⟨_, _, _, _, rfl, _⟩ := h; rfl) | (obtain ⟨_, _, _, _, _, rfl, _⟩ := h; rfl) | (obtain ⟨_, rfl, _⟩ := h; rfl) | exact len_run h) (fun cdv A outer s H E hr => (ds_cons (ds_expr (de_call (ok_check_protocol T hB) (hr.mono (by decide)) (by rfl) T.g_check_protocol T.F_check_protocol.kp T.b_check_protocol (passes_call (takes_of rfl rfl rfl rfl) (fun _ _ _ _ h => h)) (da_cons (de_var (i := 0)) da_nil)))
  (ds_cons (ds_expr (de_call (ok_check_number T hB) (hr.mono (by decide)) (by rfl) T.g_check_number T.F_check_number.kp T.b_check_number (passes_call (takes_of rfl rfl rfl rfl) (fun _ _ _ _ h => h)) (da_cons (de_var (i := 1)) da_nil)))
  (ds_cons (ds_setF (i := 3) sc_run.nd rfl (by first | exact Or.inl rfl | exact Or.inr rfl) (de_call (ok_way T hB) (hr.mono (by decide)) (by rfl) T.g_way T.F_way.kp T.b_way (passes_call (takes_of rfl rfl rfl rfl) (fun _ _ _ _ h => h)) (da_cons (de_var (i := 0)) (da_cons (de_var (i := 1)) (da_cons (de_var (i := 2)) da_nil)))))
  (ds_cons (ds_if (db_cmp od_isN (de_var (i := 3)) de_non) (ds_one (ds_raise rfl (takes_of rfl rfl rfl rfl) (pmk_own PySem.F.excBase_ValueError T.x_InvalidTrace T.gc_InvalidTrace T.kc_InvalidTrace (raises_own T.bc_InvalidTrace T.tc_InvalidTrace) (by exact rfl)))) ds_nil)
  (ds_one (ds_ret (de_t1 one_tuple T.m_tuple (by decide +kernel) (de_var (i := 3)))))))))) (rd_run _)
theorem ok_law_errors (T : Tx P w K mg) (hB : Bx T base) : FnOk P w K mg base (L2.CX P w) 9 T.a_law_errors T.d_law_errors ["_law_protocol_here_here"] (spD T.tabs (sp_law_errors ⟨T.cls, K, T.tabs⟩)) :=
  fnDC (T := T.tabs) (t := t_law_errors ⟨T.cls, K, T.tabs⟩) T.F_law_errors sc_law_errors (fun ss Q Ex h => by first | (unfold sp_law_errors at h; split at h <;> first | rfl | exact h.elim) | (obtain ⟨_, _, rfl, _⟩ := h; rfl) | (obtain ⟨_, _, _, rfl, _⟩ := h; rfl) | (obtain ⟨_, _, _, _, rfl, _⟩ := h; rfl) | (obtain ⟨_, _, _, _, _, rfl, _⟩ := h; rfl) | (obtain ⟨_, rfl, _⟩ := h; rfl) | exact len_law_errors h) (fun A outer s H E hr => (ds_cons (ds_forV (i := 1) (passes_of rfl) rfl (pa_g (pe_glob rfl T.gf_reachable rfl) (pa_g (pe_glob rfl T.gf_depth rfl) (pa_g (pe_glob rfl T.gf_quiet rfl) pa_g0))) sc_law_errors.nd rfl (by first | exact Or.inl rfl | exact Or.inr rfl) (by first | exact Or.inl rfl | exact Or.inr rfl) (Nat.le_of_ble_eq_true rfl) (ds_cons (ds_set (i := 2) sc_law_errors.nd rfl (by first | exact Or.inl rfl | exact Or.inr rfl) (de_lst (da_cons (de_resF (k := 6) (cc := T.c_law_errors) (P := T.p_law_errors) (q := lamN "_law_errors") T.F_law_result (by rfl) T.g_law_result T.b_law_result sc_law_result rfl (by first | exact Or.inl rfl | exact Or.inr (Or.inl rfl)) (fun cdv => gives_T T _ rfl rfl _ cdv (hr.mono (by decide))) hB.b_law_errors rfl (by rfl) T.t_law_errors T.nd (hr.mono (by decide)) (lamS_by (sc := defScope s_law_errors) (by decide +kernel)) rfl (fun _ _ _ _ _ => rfl) (fun A outer s H E' f c' hr => (de_callS (i := 1) (k := 6) (fs := [(T.cls "reachable", sp_reachable ⟨T.cls, K, T.tabs⟩), (T.cls "depth", sp_depth ⟨T.cls, K, T.tabs⟩), (T.cls "quiet", sp_quiet ⟨T.cls, K, T.tabs⟩)]) (List.forall_mem_cons.mpr ⟨heldD T.f_reachable (by decide) (ok_reachable T hB) T.F_reachable.kp T.b_reachable, List.forall_mem_cons.mpr ⟨heldD T.f_depth (by decide) (ok_depth T hB) T.F_depth.kp T.b_depth, List.forall_mem_cons.mpr ⟨heldD T.f_quiet (by decide) (ok_quiet T hB) T.F_quiet.kp T.b_quiet, fun _ z => nomatch z⟩⟩⟩) (hr.mono (by decide)) rfl (by first | exact Or.inl rfl | exact Or.inr (Or.inl rfl) | exact Or.inr (Or.inr rfl)) (passes_call (takes_of rfl rfl rfl rfl) (fun _ _ _ _ h => h)) (da_cons de_non (da_cons de_non da_nil))))) da_nil)))
    (ds_one (ds_if (db_cmp (od_ne hr.units) (de_op od_add (de_var (i := 2)) (de_lst (da_cons (de_resF (k := 6) (cc := T.c_law_errors) (P := T.p_law_errors) (q := lamN "_law_errors") T.F_law_result (by rfl) T.g_law_result T.b_law_result sc_law_result rfl (by first | exact Or.inl rfl | exact Or.inr (Or.inl rfl)) (fun cdv => gives_T T _ rfl rfl _ cdv (hr.mono (by decide))) hB.b_law_errors rfl (by rfl) T.t_law_errors T.nd (hr.mono (by decide)) (lamS_by (sc := defScope s_law_errors) (by decide +kernel)) rfl (fun _ _ _ _ _ => rfl) (fun A outer s H E' f c' hr => (de_callS (i := 1) (k := 6) (fs := [(T.cls "reachable", sp_reachable ⟨T.cls, K, T.tabs⟩), (T.cls "depth", sp_depth ⟨T.cls, K, T.tabs⟩), (T.cls "quiet", sp_quiet ⟨T.cls, K, T.tabs⟩)]) (List.forall_mem_cons.mpr ⟨heldD T.f_reachable (by decide) (ok_reachable T hB) T.F_reachable.kp T.b_reachable, List.forall_mem_cons.mpr ⟨heldD T.f_depth (by decide) (ok_depth T hB) T.F_depth.kp T.b_depth, List.forall_mem_cons.mpr ⟨heldD T.f_quiet (by decide) (ok_quiet T hB) T.F_quiet.kp T.b_quiet, fun _ z => nomatch z⟩⟩⟩) (hr.mono (by decide)) rfl (by first | exact Or.inl rfl | exact Or.inr (Or.inl rfl) | exact Or.inr (Or.inr rfl)) (passes_call (takes_of rfl rfl rfl rfl) (fun _ _ _ _ h => h)) (da_cons (de_var (i := 0)) (da_cons de_int da_nil))))) da_nil))) (de_litL (vs := [(.tuple [(.str ("protocol" : Str))]), (.tuple [(.str ("number" : Str))])]) (de_lst (da_cons (de_lit (v := (.tuple [(.str ("protocol" : Str))])) (de_tup (da_cons de_str da_nil)) (lit_tup (lita_cons lit_c lita_nil) (by decide))) (da_cons (de_lit (v := (.tuple [(.str ("number" : Str))])) (de_tup (da_cons de_str da_nil)) (lit_tup (lita_cons lit_c lita_nil) (by decide))) da_nil))) (lit_lst (lita_cons lit_c (lita_cons lit_c lita_nil)) (by decide)))) (ds_one (ds_ret de_bl)) ds_nil))))
  (ds_cons (ds_set (i := 2) sc_law_errors.nd rfl (by first | exact Or.inl rfl | exact Or.inr rfl) (de_lst (da_cons (de_resF (k := 6) (cc := T.c_law_errors) (P := T.p_law_errors) (q := lamN "_law_errors") T.F_law_result (by rfl) T.g_law_result T.b_law_result sc_law_result rfl (by first | exact Or.inl rfl | exact Or.inr (Or.inl rfl)) (fun cdv => gives_T T _ rfl rfl _ cdv (hr.mono (by decide))) hB.b_law_errors rfl (by rfl) T.t_law_errors T.nd (hr.mono (by decide)) (lamS_by (sc := defScope s_law_errors) (by decide +kernel)) rfl (fun _ _ _ _ _ => rfl) (fun A outer s H E' f c' hr => (de_call (ok_run T hB) (hr.mono (by decide)) (by rfl) T.g_run T.F_run.kp T.b_run (passes_call (takes_of rfl rfl rfl rfl) (fun _ _ _ _ h => h)) (da_cons de_non (da_cons de_non (da_cons de_non da_nil)))))) da_nil)))
  (ds_cons (ds_app (i := 2) rfl (by first | exact Or.inl rfl | exact Or.inr (Or.inl rfl)) (de_resF (k := 6) (cc := T.c_law_errors) (P := T.p_law_errors) (q := lamN "_law_errors") T.F_law_result (by rfl) T.g_law_result T.b_law_result sc_law_result rfl (by first | exact Or.inl rfl | exact Or.inr (Or.inl rfl)) (fun cdv => gives_T T _ rfl rfl _ cdv (hr.mono (by decide))) hB.b_law_errors rfl (by rfl) T.t_law_errors T.nd (hr.mono (by decide)) (lamS_by (sc := defScope s_law_errors) (by decide +kernel)) rfl (fun _ _ _ _ _ => rfl) (fun A outer s H E' f c' hr => (de_call (ok_run T hB) (hr.mono (by decide)) (by rfl) T.g_run T.F_run.kp T.b_run (passes_call (takes_of rfl rfl rfl rfl) (fun _ _ _ _ h => h)) (da_cons (de_var (i := 0)) (da_cons de_int (da_cons de_non da_nil)))))))
  (ds_cons (ds_app (i := 2) rfl (by first | exact Or.inl rfl | exact Or.inr (Or.inl rfl)) (de_resF (k := 6) (cc := T.c_law_errors) (P := T.p_law_errors) (q := lamN "_law_errors") T.F_law_result (by rfl) T.g_law_result T.b_law_result sc_law_result rfl (by first | exact Or.inl rfl | exact Or.inr (Or.inl rfl)) (fun cdv => gives_T T _ rfl rfl _ cdv (hr.mono (by decide))) hB.b_law_errors rfl (by rfl) T.t_law_errors T.nd (hr.mono (by decide)) (lamS_by (sc := defScope s_law_errors) (by decide +kernel)) rfl (fun _ _ _ _ _ => rfl) (fun A outer s H E' f c' hr => (de_call (ok_distance T hB) (hr.mono (by decide)) (by rfl) T.g_distance T.F_distance.kp T.b_distance (passes_call (takes_of rfl rfl rfl rfl) (fun _ _ _ _ h => h)) (da_cons de_non (da_cons de_non da_nil))))))
  (ds_cons (ds_app (i := 2) rfl (by first | exact Or.inl rfl | exact Or.inr (Or.inl rfl)) (de_resF (k := 6) (cc := T.c_law_errors) (P := T.p_law_errors) (q := lamN "_law_errors") T.F_law_result (by rfl) T.g_law_result T.b_law_result sc_law_result rfl (by first | exact Or.inl rfl | exact Or.inr (Or.inl rfl)) (fun cdv => gives_T T _ rfl rfl _ cdv (hr.mono (by decide))) hB.b_law_errors rfl (by rfl) T.t_law_errors T.nd (hr.mono (by decide)) (lamS_by (sc := defScope s_law_errors) (by decide +kernel)) rfl (fun _ _ _ _ _ => rfl) (fun A outer s H E' f c' hr => (de_call (ok_distance T hB) (hr.mono (by decide)) (by rfl) T.g_distance T.F_distance.kp T.b_distance (passes_call (takes_of rfl rfl rfl rfl) (fun _ _ _ _ h => h)) (da_cons (de_var (i := 0)) (da_cons (de_tup da_nil) da_nil))))))
  (ds_cons (ds_if (db_cmp (od_ne hr.units) (de_var (i := 2)) (de_litL (vs := [(.tuple [(.str ("protocol" : Str))]), (.tuple [(.str ("number" : Str))]), (.tuple [(.str ("protocol" : Str))]), (.tuple [(.str ("configuration" : Str))])]) (de_lst (da_cons (de_lit (v := (.tuple [(.str ("protocol" : Str))])) (de_tup (da_cons de_str da_nil)) (lit_tup (lita_cons lit_c lita_nil) (by decide))) (da_cons (de_lit (v := (.tuple [(.str ("number" : Str))])) (de_tup (da_cons de_str da_nil)) (lit_tup (lita_cons lit_c lita_nil) (by decide))) (da_cons (de_lit (v := (.tuple [(.str ("protocol" : Str))])) (de_tup (da_cons de_str da_nil)) (lit_tup (lita_cons lit_c lita_nil) (by decide))) (da_cons (de_lit (v := (.tuple [(.str ("configuration" : Str))])) (de_tup (da_cons de_str da_nil)) (lit_tup (lita_cons lit_c lita_nil) (by decide))) da_nil))))) (lit_lst (lita_cons lit_c (lita_cons lit_c (lita_cons lit_c (lita_cons lit_c lita_nil)))) (by decide)))) (ds_one (ds_ret de_bl)) ds_nil)
  (ds_one (ds_ret de_bl))))))))) (rd_law_errors _)
theorem ok_law (T : Tx P w K mg) (hB : Bx T base) {f : Addr} {fd : FuncData} (F : FunC K "law" "law" s_law f fd (.ref T.c_law)) : FnOk P w K mg base (L2.CX P w) 13 f fd ["_law_script"] (spLaw K T.tabs) :=
  fnLawC (tabs := T.tabs) (c := ⟨T.cls, K, T.tabs⟩) (t := t_law ⟨T.cls, K, T.tabs⟩) (y := "_law_town") (k := 11) rfl F sc_law (ok_begun T.F_law_begun sc_law_begun rfl) T.g_law_begun T.F_law_begun.kp T.b_law_begun rfl rfl
    (fun A outer s H E => ⟨Or.inl rfl, by rfl, passes_call (takes_of rfl rfl rfl rfl) (fun _ _ _ _ h => h), by first | exact Or.inl rfl | exact Or.inr rfl, by rfl⟩)
    (fun A outer s H E hr => (ds_cons (ds_for (passes_of rfl) rfl (di_rng1 T.m_range de_int) (dg_name (i := 2) sc_law.nd rfl (by first | exact Or.inl rfl | exact Or.inr rfl)) (ds_cons (ds_setF (i := 3) sc_law.nd rfl (by first | exact Or.inl rfl | exact Or.inr rfl) (de_call (ok_law_protocol T hB) (hr.mono (by decide)) (by rfl) T.g_law_protocol T.F_law_protocol.kp T.b_law_protocol (passes_call (takes_of rfl rfl rfl rfl) (fun _ _ _ _ h => h)) (da_cons (de_var (i := 0)) (da_cons (de_var (i := 1)) (da_cons de_int (da_cons de_int da_nil))))))
    (ds_cons (ds_setF (i := 4) sc_law.nd rfl (by first | exact Or.inl rfl | exact Or.inr rfl) (de_op od_add de_int (de_call (ok_law_draw T hB) (hr.mono (by decide)) (by rfl) T.g_law_draw T.F_law_draw.kp T.b_law_draw (passes_call (takes_of rfl rfl rfl rfl) (fun _ _ _ _ h => h)) (da_cons (de_var (i := 0)) (da_cons (de_var (i := 1)) (da_cons de_int da_nil))))))
    (ds_cons (ds_setF (i := 5) sc_law.nd rfl (by first | exact Or.inl rfl | exact Or.inr rfl) (de_call (ok_law_reach T hB) (hr.mono (by decide)) (by rfl) T.g_law_reach T.F_law_reach.kp T.b_law_reach (passes_call (takes_of rfl rfl rfl rfl) (fun _ _ _ _ h => h)) (da_cons (de_var (i := 3)) (da_cons (de_var (i := 4)) da_nil))))
    (ds_cons (ds_if (db_cmp (od_ne hr.units) (de_callK (ok_reachable T hB) (hr.mono (by decide)) (by rfl) T.g_reachable T.F_reachable.kp T.k_reachable_1 (passes_call (takes_of rfl rfl rfl rfl) (fun _ _ _ _ h => h)) (da_cons (de_var (i := 3)) da_nil) (dk_cons (de_var (i := 4)) dk_nil)) (de_t1 one_tuple T.m_tuple (by decide +kernel) (de_b1 (one_sortKT rfl (hu66 hr)) T.m_sorted (by decide +kernel) (de_var (i := 5))))) (ds_one (ds_ret de_bl)) ds_nil)
    (ds_cons (ds_if (db_cmp (od_ne hr.units) (de_callK (ok_depth T hB) (hr.mono (by decide)) (by rfl) T.g_depth T.F_depth.kp T.k_depth_1 (passes_call (takes_of rfl rfl rfl rfl) (fun _ _ _ _ h => h)) (da_cons (de_var (i := 3)) da_nil) (dk_cons (de_var (i := 4)) dk_nil)) (de_maxV rfl T.m_max (de_var (i := 5)))) (ds_one (ds_ret de_bl)) ds_nil)
    (ds_cons (ds_setF (i := 6) sc_law.nd rfl (by first | exact Or.inl rfl | exact Or.inr rfl) (de_lst da_nil))
    (ds_cons (ds_for (passes_of rfl) rfl (di_seq (de_b1 (one_sortKT rfl (hu66 hr)) T.m_sorted (by decide +kernel) (de_var (i := 5)))) (dg_name (i := 7) sc_law.nd rfl (by first | exact Or.inl rfl | exact Or.inr rfl)) (ds_cons (ds_setLcF (i := 8) (own := [("_law_step", 15), ("_law_there", 16)]) rfl sc_law.nd rfl rfl (sw_true rfl rfl rfl (by decide +kernel)) (di_seq (de_call (ok_law_moves T hB) (hr.mono (by decide)) (by rfl) T.g_law_moves T.F_law_moves.kp T.b_law_moves (passes_call (takes_of rfl rfl rfl rfl) (fun _ _ _ _ h => h)) (da_cons (de_var (i := 3)) (da_cons (de_var (i := 7)) da_nil)))) (blkOk_by (own := [("_law_step", 15), ("_law_there", 16)]) (N := N_law) (sc := defScope s_law) (by decide +kernel)) (by decide) (fun _ _ _ _ _ => (dg_tup rfl (dgs_cons (dg_name (i := 15) sc_law.nd rfl (by first | exact Or.inl rfl | exact Or.inr rfl)) (dgs_cons (dg_name (i := 16) sc_law.nd rfl (by first | exact Or.inl rfl | exact Or.inr rfl)) dgs_nil)))) (fun _ _ _ _ _ => (dts_one (db_cmp (od_eq hr.units) (de_ix (de_var (i := 15)) de_int (fun _ _ => rfl)) de_str))) (fun _ _ _ _ _ => (de_var (i := 15))))
      (ds_one (ds_setF (i := 6) sc_law.nd rfl (by first | exact Or.inl rfl | exact Or.inr rfl) (de_op od_add (de_var (i := 6)) (de_if (db_cmp (od_eq hr.units) (de_var (i := 8)) (de_lst da_nil)) (de_lst (da_cons (de_var (i := 7)) da_nil)) (de_lst da_nil)))))))
    (ds_cons (ds_if (db_cmp (od_ne hr.units) (de_callK (ok_quiet T hB) (hr.mono (by decide)) (by rfl) T.g_quiet T.F_quiet.kp T.k_quiet_1 (passes_call (takes_of rfl rfl rfl rfl) (fun _ _ _ _ h => h)) (da_cons (de_var (i := 3)) da_nil) (dk_cons (de_var (i := 4)) dk_nil)) (de_t1 one_tuple T.m_tuple (by decide +kernel) (de_var (i := 6)))) (ds_one (ds_ret de_bl)) ds_nil)
    (ds_cons (ds_for (passes_of rfl) rfl (di_rng1 T.m_range de_int) (dg_name (i := 9) sc_law.nd rfl (by first | exact Or.inl rfl | exact Or.inr rfl)) (ds_cons (ds_setF (i := 10) sc_law.nd rfl (by first | exact Or.inl rfl | exact Or.inr rfl) (de_call (ok_law_pattern T hB) (hr.mono (by decide)) (by rfl) T.g_law_pattern T.F_law_pattern.kp T.b_law_pattern (passes_call (takes_of rfl rfl rfl rfl) (fun _ _ _ _ h => h)) (da_cons (de_var (i := 0)) (da_cons (de_var (i := 1)) (da_cons (de_ix (de_var (i := 3)) de_int (fun _ _ => rfl)) (da_cons de_int da_nil))))))
      (ds_one (ds_if (db_cmp (od_ne hr.units) (de_callK (ok_distance T hB) (hr.mono (by decide)) (by rfl) T.g_distance T.F_distance.kp T.k_distance_1 (passes_call (takes_of rfl rfl rfl rfl) (fun _ _ _ _ h => h)) (da_cons (de_var (i := 3)) da_nil) (dk_cons (de_var (i := 10)) dk_nil)) (de_getT (hu65 hr) (de_call (ok_law_reach T hB) (hr.mono (by decide)) (by rfl) T.g_law_reach T.F_law_reach.kp T.b_law_reach (passes_call (takes_of rfl rfl rfl rfl) (fun _ _ _ _ h => h)) (da_cons (de_var (i := 3)) (da_cons (de_b1 (one_sum rfl) T.m_sum (by decide +kernel) (de_var (i := 10))) da_nil))) (de_var (i := 10)) ⟨rfl, rfl, rfl, rfl⟩)) (ds_one (ds_ret de_bl)) ds_nil))))
    (ds_cons (ds_asg (de_call (ok_law_walk T hB) (hr.mono (by decide)) (by rfl) T.g_law_walk T.F_law_walk.kp T.b_law_walk (passes_call (takes_of rfl rfl rfl rfl) (fun _ _ _ _ h => h)) (da_cons (de_var (i := 0)) (da_cons (de_var (i := 1)) (da_cons (de_var (i := 3)) (da_cons (de_var (i := 4)) da_nil))))) (dg_tup rfl (dgs_cons (dg_name (i := 11) sc_law.nd rfl (by first | exact Or.inl rfl | exact Or.inr rfl)) (dgs_cons (dg_name (i := 12) sc_law.nd rfl (by first | exact Or.inl rfl | exact Or.inr rfl)) dgs_nil))))
    (ds_cons (ds_if (db_cmp (od_ne hr.units) (de_callK (ok_run T hB) (hr.mono (by decide)) (by rfl) T.g_run T.F_run.kp T.k_run_1 (passes_call (takes_of rfl rfl rfl rfl) (fun _ _ _ _ h => h)) (da_cons (de_var (i := 3)) da_nil) (dk_cons (de_var (i := 4)) (dk_cons (de_var (i := 11)) dk_nil))) (de_var (i := 12))) (ds_one (ds_ret de_bl)) ds_nil)
    (ds_cons (ds_setF (i := 13) sc_law.nd rfl (by first | exact Or.inl rfl | exact Or.inr rfl) (de_lst (da_cons de_non (da_cons (de_t1 one_list T.m_list (by decide +kernel) (de_var (i := 11))) (da_cons (de_op od_add (de_var (i := 11)) (de_lit (v := (.tuple [.none])) (de_tup (da_cons de_non da_nil)) (lit_tup (lita_cons lit_c lita_nil) (by decide)))) (da_cons (de_op od_add (de_var (i := 11)) (de_lit (v := (.tuple [(.tuple [(.str ("rule" : Str)), (.int 8)])])) (de_tup (da_cons (de_lit (v := (.tuple [(.str ("rule" : Str)), (.int 8)])) (de_tup (da_cons de_str (da_cons de_int da_nil))) (lit_tup (lita_cons lit_c (lita_cons lit_c lita_nil)) (by decide))) da_nil)) (lit_tup (lita_cons lit_c lita_nil) (by decide)))) da_nil))))))
    (ds_cons (ds_for (passes_of rfl) rfl (di_seq (de_op od_add (de_var (i := 13)) (de_lst (da_cons (de_op od_add (de_lit (v := (.tuple [(.tuple [(.str ("drop" : Str)), (.int 1)])])) (de_tup (da_cons (de_lit (v := (.tuple [(.str ("drop" : Str)), (.int 1)])) (de_tup (da_cons de_str (da_cons de_int da_nil))) (lit_tup (lita_cons lit_c (lita_cons lit_c lita_nil)) (by decide))) da_nil)) (lit_tup (lita_cons lit_c lita_nil) (by decide))) (de_var (i := 11))) da_nil)))) (dg_name (i := 14) sc_law.nd rfl (by first | exact Or.inl rfl | exact Or.inr rfl)) (ds_one (ds_if (db_cmp (od_ne hr.units) (de_resF (k := 9) (cc := T.c_law) (P := T.p_law) (q := lamN "law") T.F_law_result (by rfl) T.g_law_result T.b_law_result sc_law_result rfl (by first | exact Or.inl rfl | exact Or.inr (Or.inl rfl)) (fun cdv => gives_T T _ rfl rfl _ cdv (hr.mono (by decide))) hB.b_law rfl (by rfl) T.t_law T.nd (hr.mono (by decide)) (lamS_by (sc := defScope s_law) (by decide +kernel)) rfl (fun _ _ _ _ _ => rfl) (fun A outer s H E' f c' hr => (de_call (ok_run T hB) (hr.mono (by decide)) (by rfl) T.g_run T.F_run.kp T.b_run (passes_call (takes_of rfl rfl rfl rfl) (fun _ _ _ _ h => h)) (da_cons (de_var (i := 3)) (da_cons (de_var (i := 4)) (da_cons (de_var (i := 14)) da_nil)))))) (de_lit (v := (.tuple [(.str ("trace" : Str))])) (de_tup (da_cons de_str da_nil)) (lit_tup (lita_cons lit_c lita_nil) (by decide)))) (ds_one (ds_ret de_bl)) ds_nil)))
    (ds_one (ds_if (db_not (db_tru (de_call (ok_law_errors T hB) (hr.mono (by decide)) (by rfl) T.g_law_errors T.F_law_errors.kp T.b_law_errors (passes_call (takes_of rfl rfl rfl rfl) (fun _ _ _ _ h => h)) (da_cons (de_var (i := 3)) da_nil)))) (ds_one (ds_ret de_bl)) ds_nil))))))))))))))))
  (ds_one (ds_ret de_bl))))
    (fun n hn => rd_law _ T.res n hn)
end
theorem all_mk {l : PySem.W.OpenLaw} {w : World} {K : PySem.W.Frag} {h : Heap} {mg : Str → Option Value} {fa : Addr} (X : K.In h) (G : h.Ns mainGlobals mg) (hfa : mg "law" = some (.ref fa))
    {C_CacheError : Addr}
    {C_InvalidChange : Addr}
    {C_InvalidConfiguration : Addr}
    {C_InvalidIndex : Addr}
    {C_InvalidLog : Addr}
    {C_InvalidNumber : Addr}
    {C_InvalidOrder : Addr}
    {C_InvalidPattern : Addr}
    {C_InvalidProtocol : Addr}
    {C_InvalidRule : Addr}
    {C_InvalidStep : Addr}
    {C_InvalidText : Addr}
    {C_InvalidTrace : Addr}
    {C_NotComparable : Addr}
    {C_NothingToUndo : Addr}
    {C_Search : Addr}
    {C_TooLarge : Addr}
    {C_TooMany : Addr}
    {f0 : Addr} {od0 an0 : Option Addr} {sl0 : Array (Option Value)} {oc0 kV0 dc0 pm0 cd0 ct0 : Value}
    {f1 : Addr} {od1 an1 : Option Addr} {sl1 : Array (Option Value)} {oc1 kV1 dc1 pm1 cd1 ct1 : Value}
    {f2 : Addr} {od2 an2 : Option Addr} {sl2 : Array (Option Value)} {oc2 kV2 dc2 pm2 cd2 ct2 : Value}
    {f3 : Addr} {od3 an3 : Option Addr} {sl3 : Array (Option Value)} {oc3 kV3 dc3 pm3 cd3 ct3 : Value}
    {f4 : Addr} {od4 an4 : Option Addr} {sl4 : Array (Option Value)} {oc4 kV4 dc4 pm4 cd4 ct4 : Value}
    {f5 : Addr} {od5 an5 : Option Addr} {sl5 : Array (Option Value)} {oc5 kV5 dc5 pm5 cd5 ct5 : Value}
    {f6 : Addr} {od6 an6 : Option Addr} {sl6 : Array (Option Value)} {oc6 kV6 dc6 pm6 cd6 ct6 : Value}
    {f7 : Addr} {od7 an7 : Option Addr} {sl7 : Array (Option Value)} {oc7 kV7 dc7 pm7 cd7 ct7 : Value}
    {f8 : Addr} {od8 an8 : Option Addr} {sl8 : Array (Option Value)} {oc8 kV8 dc8 pm8 cd8 ct8 : Value}
    {f9 : Addr} {od9 an9 : Option Addr} {sl9 : Array (Option Value)} {oc9 kV9 dc9 pm9 cd9 ct9 : Value}
    {f10 : Addr} {od10 an10 : Option Addr} {sl10 : Array (Option Value)} {oc10 kV10 dc10 pm10 cd10 ct10 : Value}
    {f11 : Addr} {od11 an11 : Option Addr} {sl11 : Array (Option Value)} {oc11 kV11 dc11 pm11 cd11 ct11 : Value}
    {f12 : Addr} {od12 an12 : Option Addr} {sl12 : Array (Option Value)} {oc12 kV12 dc12 pm12 cd12 ct12 : Value}
    {f13 : Addr} {od13 an13 : Option Addr} {sl13 : Array (Option Value)} {oc13 kV13 dc13 pm13 cd13 ct13 : Value}
    {f14 : Addr} {od14 an14 : Option Addr} {sl14 : Array (Option Value)} {oc14 kV14 dc14 pm14 cd14 ct14 : Value}
    {f15 : Addr} {od15 an15 : Option Addr} {sl15 : Array (Option Value)} {oc15 kV15 dc15 pm15 cd15 ct15 : Value}
    {f16 : Addr} {od16 an16 : Option Addr} {sl16 : Array (Option Value)} {oc16 kV16 dc16 pm16 cd16 ct16 : Value}
    {f17 : Addr} {od17 an17 : Option Addr} {sl17 : Array (Option Value)} {oc17 kV17 dc17 pm17 cd17 ct17 : Value}
    {f18 : Addr} {od18 an18 : Option Addr} {sl18 : Array (Option Value)} {oc18 kV18 dc18 pm18 cd18 ct18 : Value}
    {f19 : Addr} {od19 an19 : Option Addr} {sl19 : Array (Option Value)} {oc19 kV19 dc19 pm19 cd19 ct19 : Value}
    {f20 : Addr} {od20 an20 : Option Addr} {sl20 : Array (Option Value)} {oc20 kV20 dc20 pm20 cd20 ct20 : Value}
    {f21 : Addr} {od21 an21 : Option Addr} {sl21 : Array (Option Value)} {oc21 kV21 dc21 pm21 cd21 ct21 : Value}
    {f22 : Addr} {od22 an22 : Option Addr} {sl22 : Array (Option Value)} {oc22 kV22 dc22 pm22 cd22 ct22 : Value}
    {f23 : Addr} {od23 an23 : Option Addr} {sl23 : Array (Option Value)} {oc23 kV23 dc23 pm23 cd23 ct23 : Value}
    {f24 : Addr} {od24 an24 : Option Addr} {sl24 : Array (Option Value)} {oc24 kV24 dc24 pm24 cd24 ct24 : Value}
    {f25 : Addr} {od25 an25 : Option Addr} {sl25 : Array (Option Value)} {oc25 kV25 dc25 pm25 cd25 ct25 : Value}
    {f26 : Addr} {od26 an26 : Option Addr} {sl26 : Array (Option Value)} {oc26 kV26 dc26 pm26 cd26 ct26 : Value}
    {f27 : Addr} {od27 an27 : Option Addr} {sl27 : Array (Option Value)} {oc27 kV27 dc27 pm27 cd27 ct27 : Value}
    {f28 : Addr} {od28 an28 : Option Addr} {sl28 : Array (Option Value)} {oc28 kV28 dc28 pm28 cd28 ct28 : Value}
    {f29 : Addr} {od29 an29 : Option Addr} {sl29 : Array (Option Value)} {oc29 kV29 dc29 pm29 cd29 ct29 : Value}
    {f30 : Addr} {od30 an30 : Option Addr} {sl30 : Array (Option Value)} {oc30 kV30 dc30 pm30 cd30 ct30 : Value}
    {f31 : Addr} {od31 an31 : Option Addr} {sl31 : Array (Option Value)} {oc31 kV31 dc31 pm31 cd31 ct31 : Value}
    {f32 : Addr} {od32 an32 : Option Addr} {sl32 : Array (Option Value)} {oc32 kV32 dc32 pm32 cd32 ct32 : Value}
    {f33 : Addr} {od33 an33 : Option Addr} {sl33 : Array (Option Value)} {oc33 kV33 dc33 pm33 cd33 ct33 : Value}
    {f34 cc34 pp34 : Addr} {od34 an34 : Option Addr} {sl34 : Array (Option Value)} {oc34 kV34 dc34 pm34 ct34 : Value}
    {tc34 : Value} {to34 : Option Addr} {tv34 : Array Value} {ts34 : Array (Option Value)}
    {f35 : Addr} {od35 an35 : Option Addr} {sl35 : Array (Option Value)} {oc35 kV35 dc35 pm35 cd35 ct35 : Value}
    {f36 cc36 pp36 : Addr} {od36 an36 : Option Addr} {sl36 : Array (Option Value)} {oc36 kV36 dc36 pm36 ct36 : Value}
    {tc36 : Value} {to36 : Option Addr} {tv36 : Array Value} {ts36 : Array (Option Value)}
    {t_CACHES : Tok}
    {t_RULES : Tok}
    (g_CacheError : PySem.W.nsIn K mainGlobals "CacheError" = some (some (.ref C_CacheError)))
    (g_InvalidChange : PySem.W.nsIn K mainGlobals "InvalidChange" = some (some (.ref C_InvalidChange)))
    (g_InvalidConfiguration : PySem.W.nsIn K mainGlobals "InvalidConfiguration" = some (some (.ref C_InvalidConfiguration)))
    (g_InvalidIndex : PySem.W.nsIn K mainGlobals "InvalidIndex" = some (some (.ref C_InvalidIndex)))
    (g_InvalidLog : PySem.W.nsIn K mainGlobals "InvalidLog" = some (some (.ref C_InvalidLog)))
    (g_InvalidNumber : PySem.W.nsIn K mainGlobals "InvalidNumber" = some (some (.ref C_InvalidNumber)))
    (g_InvalidOrder : PySem.W.nsIn K mainGlobals "InvalidOrder" = some (some (.ref C_InvalidOrder)))
    (g_InvalidPattern : PySem.W.nsIn K mainGlobals "InvalidPattern" = some (some (.ref C_InvalidPattern)))
    (g_InvalidProtocol : PySem.W.nsIn K mainGlobals "InvalidProtocol" = some (some (.ref C_InvalidProtocol)))
    (g_InvalidRule : PySem.W.nsIn K mainGlobals "InvalidRule" = some (some (.ref C_InvalidRule)))
    (g_InvalidStep : PySem.W.nsIn K mainGlobals "InvalidStep" = some (some (.ref C_InvalidStep)))
    (g_InvalidText : PySem.W.nsIn K mainGlobals "InvalidText" = some (some (.ref C_InvalidText)))
    (g_InvalidTrace : PySem.W.nsIn K mainGlobals "InvalidTrace" = some (some (.ref C_InvalidTrace)))
    (g_NotComparable : PySem.W.nsIn K mainGlobals "NotComparable" = some (some (.ref C_NotComparable)))
    (g_NothingToUndo : PySem.W.nsIn K mainGlobals "NothingToUndo" = some (some (.ref C_NothingToUndo)))
    (g_Search : PySem.W.nsIn K mainGlobals "Search" = some (some (.ref C_Search)))
    (g_TooLarge : PySem.W.nsIn K mainGlobals "TooLarge" = some (some (.ref C_TooLarge)))
    (g_TooMany : PySem.W.nsIn K mainGlobals "TooMany" = some (some (.ref C_TooMany)))
    (a0 : PySem.W.nsIn K mainGlobals "is_between" = some (some (.ref f0)))
    (l0 : K.lookup f0 = some ⟨oc0, od0, .func (PySem.W.fnOf "is_between" "is_between" (defArgs s_is_between) (defBody s_is_between) (defScope s_is_between) .none kV0 dc0 pm0 an0 cd0 ct0), sl0⟩)
    (c0 : PySem.W.codeIn K cd0 "is_between" = true)
    (k0 : PySem.W.keepIn K (.ref f0) = true)
    (a1 : PySem.W.nsIn K mainGlobals "are_between" = some (some (.ref f1)))
    (l1 : K.lookup f1 = some ⟨oc1, od1, .func (PySem.W.fnOf "are_between" "are_between" (defArgs s_are_between) (defBody s_are_between) (defScope s_are_between) .none kV1 dc1 pm1 an1 cd1 ct1), sl1⟩)
    (c1 : PySem.W.codeIn K cd1 "are_between" = true)
    (k1 : PySem.W.keepIn K (.ref f1) = true)
    (a2 : PySem.W.nsIn K mainGlobals "is_ascending" = some (some (.ref f2)))
    (l2 : K.lookup f2 = some ⟨oc2, od2, .func (PySem.W.fnOf "is_ascending" "is_ascending" (defArgs s_is_ascending) (defBody s_is_ascending) (defScope s_is_ascending) .none kV2 dc2 pm2 an2 cd2 ct2), sl2⟩)
    (c2 : PySem.W.codeIn K cd2 "is_ascending" = true)
    (k2 : PySem.W.keepIn K (.ref f2) = true)
    (a3 : PySem.W.nsIn K mainGlobals "is_rule" = some (some (.ref f3)))
    (l3 : K.lookup f3 = some ⟨oc3, od3, .func (PySem.W.fnOf "is_rule" "is_rule" (defArgs s_is_rule) (defBody s_is_rule) (defScope s_is_rule) .none kV3 dc3 pm3 an3 cd3 ct3), sl3⟩)
    (c3 : PySem.W.codeIn K cd3 "is_rule" = true)
    (k3 : PySem.W.keepIn K (.ref f3) = true)
    (a4 : PySem.W.nsIn K mainGlobals "is_protocol" = some (some (.ref f4)))
    (l4 : K.lookup f4 = some ⟨oc4, od4, .func (PySem.W.fnOf "is_protocol" "is_protocol" (defArgs s_is_protocol) (defBody s_is_protocol) (defScope s_is_protocol) .none kV4 dc4 pm4 an4 cd4 ct4), sl4⟩)
    (c4 : PySem.W.codeIn K cd4 "is_protocol" = true)
    (k4 : PySem.W.keepIn K (.ref f4) = true)
    (a5 : PySem.W.nsIn K mainGlobals "check_protocol" = some (some (.ref f5)))
    (l5 : K.lookup f5 = some ⟨oc5, od5, .func (PySem.W.fnOf "check_protocol" "check_protocol" (defArgs s_check_protocol) (defBody s_check_protocol) (defScope s_check_protocol) .none kV5 dc5 pm5 an5 cd5 ct5), sl5⟩)
    (c5 : PySem.W.codeIn K cd5 "check_protocol" = true)
    (k5 : PySem.W.keepIn K (.ref f5) = true)
    (a6 : PySem.W.nsIn K mainGlobals "are_counts" = some (some (.ref f6)))
    (l6 : K.lookup f6 = some ⟨oc6, od6, .func (PySem.W.fnOf "are_counts" "are_counts" (defArgs s_are_counts) (defBody s_are_counts) (defScope s_are_counts) .none kV6 dc6 pm6 an6 cd6 ct6), sl6⟩)
    (c6 : PySem.W.codeIn K cd6 "are_counts" = true)
    (k6 : PySem.W.keepIn K (.ref f6) = true)
    (a7 : PySem.W.nsIn K mainGlobals "is_count" = some (some (.ref f7)))
    (l7 : K.lookup f7 = some ⟨oc7, od7, .func (PySem.W.fnOf "is_count" "is_count" (defArgs s_is_count) (defBody s_is_count) (defScope s_is_count) .none kV7 dc7 pm7 an7 cd7 ct7), sl7⟩)
    (c7 : PySem.W.codeIn K cd7 "is_count" = true)
    (k7 : PySem.W.keepIn K (.ref f7) = true)
    (a8 : PySem.W.nsIn K mainGlobals "is_configuration_of" = some (some (.ref f8)))
    (l8 : K.lookup f8 = some ⟨oc8, od8, .func (PySem.W.fnOf "is_configuration_of" "is_configuration_of" (defArgs s_is_configuration_of) (defBody s_is_configuration_of) (defScope s_is_configuration_of) .none kV8 dc8 pm8 an8 cd8 ct8), sl8⟩)
    (c8 : PySem.W.codeIn K cd8 "is_configuration_of" = true)
    (k8 : PySem.W.keepIn K (.ref f8) = true)
    (a9 : PySem.W.nsIn K mainGlobals "check_configuration" = some (some (.ref f9)))
    (l9 : K.lookup f9 = some ⟨oc9, od9, .func (PySem.W.fnOf "check_configuration" "check_configuration" (defArgs s_check_configuration) (defBody s_check_configuration) (defScope s_check_configuration) .none kV9 dc9 pm9 an9 cd9 ct9), sl9⟩)
    (c9 : PySem.W.codeIn K cd9 "check_configuration" = true)
    (k9 : PySem.W.keepIn K (.ref f9) = true)
    (a10 : PySem.W.nsIn K mainGlobals "check_number" = some (some (.ref f10)))
    (l10 : K.lookup f10 = some ⟨oc10, od10, .func (PySem.W.fnOf "check_number" "check_number" (defArgs s_check_number) (defBody s_check_number) (defScope s_check_number) .none kV10 dc10 pm10 an10 cd10 ct10), sl10⟩)
    (c10 : PySem.W.codeIn K cd10 "check_number" = true)
    (k10 : PySem.W.keepIn K (.ref f10) = true)
    (a11 : PySem.W.nsIn K mainGlobals "first_of" = some (some (.ref f11)))
    (l11 : K.lookup f11 = some ⟨oc11, od11, .func (PySem.W.fnOf "first_of" "first_of" (defArgs s_first_of) (defBody s_first_of) (defScope s_first_of) .none kV11 dc11 pm11 an11 cd11 ct11), sl11⟩)
    (c11 : PySem.W.codeIn K cd11 "first_of" = true)
    (k11 : PySem.W.keepIn K (.ref f11) = true)
    (a12 : PySem.W.nsIn K mainGlobals "others" = some (some (.ref f12)))
    (l12 : K.lookup f12 = some ⟨oc12, od12, .func (PySem.W.fnOf "others" "others" (defArgs s_others) (defBody s_others) (defScope s_others) .none kV12 dc12 pm12 an12 cd12 ct12), sl12⟩)
    (c12 : PySem.W.codeIn K cd12 "others" = true)
    (k12 : PySem.W.keepIn K (.ref f12) = true)
    (a13 : PySem.W.nsIn K mainGlobals "is_possible" = some (some (.ref f13)))
    (l13 : K.lookup f13 = some ⟨oc13, od13, .func (PySem.W.fnOf "is_possible" "is_possible" (defArgs s_is_possible) (defBody s_is_possible) (defScope s_is_possible) .none kV13 dc13 pm13 an13 cd13 ct13), sl13⟩)
    (c13 : PySem.W.codeIn K cd13 "is_possible" = true)
    (k13 : PySem.W.keepIn K (.ref f13) = true)
    (a14 : PySem.W.nsIn K mainGlobals "performed" = some (some (.ref f14)))
    (l14 : K.lookup f14 = some ⟨oc14, od14, .func (PySem.W.fnOf "performed" "performed" (defArgs s_performed) (defBody s_performed) (defScope s_performed) .none kV14 dc14 pm14 an14 cd14 ct14), sl14⟩)
    (c14 : PySem.W.codeIn K cd14 "performed" = true)
    (k14 : PySem.W.keepIn K (.ref f14) = true)
    (a15 : PySem.W.nsIn K mainGlobals "dropped" = some (some (.ref f15)))
    (l15 : K.lookup f15 = some ⟨oc15, od15, .func (PySem.W.fnOf "dropped" "dropped" (defArgs s_dropped) (defBody s_dropped) (defScope s_dropped) .none kV15 dc15 pm15 an15 cd15 ct15), sl15⟩)
    (c15 : PySem.W.codeIn K cd15 "dropped" = true)
    (k15 : PySem.W.keepIn K (.ref f15) = true)
    (a16 : PySem.W.nsIn K mainGlobals "moves" = some (some (.ref f16)))
    (l16 : K.lookup f16 = some ⟨oc16, od16, .func (PySem.W.fnOf "moves" "moves" (defArgs s_moves) (defBody s_moves) (defScope s_moves) .none kV16 dc16 pm16 an16 cd16 ct16), sl16⟩)
    (c16 : PySem.W.codeIn K cd16 "moves" = true)
    (k16 : PySem.W.keepIn K (.ref f16) = true)
    (a17 : PySem.W.nsIn K mainGlobals "is_step_shape" = some (some (.ref f17)))
    (l17 : K.lookup f17 = some ⟨oc17, od17, .func (PySem.W.fnOf "is_step_shape" "is_step_shape" (defArgs s_is_step_shape) (defBody s_is_step_shape) (defScope s_is_step_shape) .none kV17 dc17 pm17 an17 cd17 ct17), sl17⟩)
    (c17 : PySem.W.codeIn K cd17 "is_step_shape" = true)
    (k17 : PySem.W.keepIn K (.ref f17) = true)
    (a18 : PySem.W.nsIn K mainGlobals "moved" = some (some (.ref f18)))
    (l18 : K.lookup f18 = some ⟨oc18, od18, .func (PySem.W.fnOf "moved" "moved" (defArgs s_moved) (defBody s_moved) (defScope s_moved) .none kV18 dc18 pm18 an18 cd18 ct18), sl18⟩)
    (c18 : PySem.W.codeIn K cd18 "moved" = true)
    (k18 : PySem.W.keepIn K (.ref f18) = true)
    (a19 : PySem.W.findIn K (.ref C_Search) "__init__" = some (some (.ref f19)))
    (i19 : PySem.W.isFn K (.ref f19) = true)
    (l19 : K.lookup f19 = some ⟨oc19, od19, .func (PySem.W.fnOf "__init__" "Search.__init__" (defArgs s_Search___init__) (defBody s_Search___init__) (defScope s_Search___init__) .none kV19 dc19 pm19 an19 cd19 ct19), sl19⟩)
    (c19 : PySem.W.codeIn K cd19 "Search.__init__" = true)
    (k19 : PySem.W.keepIn K (.ref f19) = true)
    (a20 : PySem.W.nsIn K mainGlobals "reachable" = some (some (.ref f20)))
    (l20 : K.lookup f20 = some ⟨oc20, od20, .func (PySem.W.fnOf "reachable" "reachable" (defArgs s_reachable) (defBody s_reachable) (defScope s_reachable) .none kV20 dc20 pm20 an20 cd20 ct20), sl20⟩)
    (c20 : PySem.W.codeIn K cd20 "reachable" = true)
    (k20 : PySem.W.keepIn K (.ref f20) = true)
    (a21 : PySem.W.nsIn K mainGlobals "distance" = some (some (.ref f21)))
    (l21 : K.lookup f21 = some ⟨oc21, od21, .func (PySem.W.fnOf "distance" "distance" (defArgs s_distance) (defBody s_distance) (defScope s_distance) .none kV21 dc21 pm21 an21 cd21 ct21), sl21⟩)
    (c21 : PySem.W.codeIn K cd21 "distance" = true)
    (k21 : PySem.W.keepIn K (.ref f21) = true)
    (a22 : PySem.W.nsIn K mainGlobals "depth" = some (some (.ref f22)))
    (l22 : K.lookup f22 = some ⟨oc22, od22, .func (PySem.W.fnOf "depth" "depth" (defArgs s_depth) (defBody s_depth) (defScope s_depth) .none kV22 dc22 pm22 an22 cd22 ct22), sl22⟩)
    (c22 : PySem.W.codeIn K cd22 "depth" = true)
    (k22 : PySem.W.keepIn K (.ref f22) = true)
    (a23 : PySem.W.nsIn K mainGlobals "quiet" = some (some (.ref f23)))
    (l23 : K.lookup f23 = some ⟨oc23, od23, .func (PySem.W.fnOf "quiet" "quiet" (defArgs s_quiet) (defBody s_quiet) (defScope s_quiet) .none kV23 dc23 pm23 an23 cd23 ct23), sl23⟩)
    (c23 : PySem.W.codeIn K cd23 "quiet" = true)
    (k23 : PySem.W.keepIn K (.ref f23) = true)
    (a24 : PySem.W.nsIn K mainGlobals "way" = some (some (.ref f24)))
    (l24 : K.lookup f24 = some ⟨oc24, od24, .func (PySem.W.fnOf "way" "way" (defArgs s_way) (defBody s_way) (defScope s_way) .none kV24 dc24 pm24 an24 cd24 ct24), sl24⟩)
    (c24 : PySem.W.codeIn K cd24 "way" = true)
    (k24 : PySem.W.keepIn K (.ref f24) = true)
    (a25 : PySem.W.nsIn K mainGlobals "run" = some (some (.ref f25)))
    (l25 : K.lookup f25 = some ⟨oc25, od25, .func (PySem.W.fnOf "run" "run" (defArgs s_run) (defBody s_run) (defScope s_run) .none kV25 dc25 pm25 an25 cd25 ct25), sl25⟩)
    (c25 : PySem.W.codeIn K cd25 "run" = true)
    (k25 : PySem.W.keepIn K (.ref f25) = true)
    (a26 : PySem.W.nsIn K mainGlobals "_law_result" = some (some (.ref f26)))
    (l26 : K.lookup f26 = some ⟨oc26, od26, .func (PySem.W.fnOf "_law_result" "_law_result" (defArgs s_law_result) (defBody s_law_result) (defScope s_law_result) .none kV26 dc26 pm26 an26 cd26 ct26), sl26⟩)
    (c26 : PySem.W.codeIn K cd26 "_law_result" = true)
    (k26 : PySem.W.keepIn K (.ref f26) = true)
    (a27 : PySem.W.nsIn K mainGlobals "_law_draw" = some (some (.ref f27)))
    (l27 : K.lookup f27 = some ⟨oc27, od27, .func (PySem.W.fnOf "_law_draw" "_law_draw" (defArgs s_law_draw) (defBody s_law_draw) (defScope s_law_draw) .none kV27 dc27 pm27 an27 cd27 ct27), sl27⟩)
    (c27 : PySem.W.codeIn K cd27 "_law_draw" = true)
    (k27 : PySem.W.keepIn K (.ref f27) = true)
    (a28 : PySem.W.nsIn K mainGlobals "_law_rule" = some (some (.ref f28)))
    (l28 : K.lookup f28 = some ⟨oc28, od28, .func (PySem.W.fnOf "_law_rule" "_law_rule" (defArgs s_law_rule) (defBody s_law_rule) (defScope s_law_rule) .none kV28 dc28 pm28 an28 cd28 ct28), sl28⟩)
    (c28 : PySem.W.codeIn K cd28 "_law_rule" = true)
    (k28 : PySem.W.keepIn K (.ref f28) = true)
    (a29 : PySem.W.nsIn K mainGlobals "_law_protocol" = some (some (.ref f29)))
    (l29 : K.lookup f29 = some ⟨oc29, od29, .func (PySem.W.fnOf "_law_protocol" "_law_protocol" (defArgs s_law_protocol) (defBody s_law_protocol) (defScope s_law_protocol) .none kV29 dc29 pm29 an29 cd29 ct29), sl29⟩)
    (c29 : PySem.W.codeIn K cd29 "_law_protocol" = true)
    (k29 : PySem.W.keepIn K (.ref f29) = true)
    (a30 : PySem.W.nsIn K mainGlobals "_law_pattern" = some (some (.ref f30)))
    (l30 : K.lookup f30 = some ⟨oc30, od30, .func (PySem.W.fnOf "_law_pattern" "_law_pattern" (defArgs s_law_pattern) (defBody s_law_pattern) (defScope s_law_pattern) .none kV30 dc30 pm30 an30 cd30 ct30), sl30⟩)
    (c30 : PySem.W.codeIn K cd30 "_law_pattern" = true)
    (k30 : PySem.W.keepIn K (.ref f30) = true)
    (a31 : PySem.W.nsIn K mainGlobals "_law_moves" = some (some (.ref f31)))
    (l31 : K.lookup f31 = some ⟨oc31, od31, .func (PySem.W.fnOf "_law_moves" "_law_moves" (defArgs s_law_moves) (defBody s_law_moves) (defScope s_law_moves) .none kV31 dc31 pm31 an31 cd31 ct31), sl31⟩)
    (c31 : PySem.W.codeIn K cd31 "_law_moves" = true)
    (k31 : PySem.W.keepIn K (.ref f31) = true)
    (a32 : PySem.W.nsIn K mainGlobals "_law_reach" = some (some (.ref f32)))
    (l32 : K.lookup f32 = some ⟨oc32, od32, .func (PySem.W.fnOf "_law_reach" "_law_reach" (defArgs s_law_reach) (defBody s_law_reach) (defScope s_law_reach) .none kV32 dc32 pm32 an32 cd32 ct32), sl32⟩)
    (c32 : PySem.W.codeIn K cd32 "_law_reach" = true)
    (k32 : PySem.W.keepIn K (.ref f32) = true)
    (a33 : PySem.W.nsIn K mainGlobals "_law_walk" = some (some (.ref f33)))
    (l33 : K.lookup f33 = some ⟨oc33, od33, .func (PySem.W.fnOf "_law_walk" "_law_walk" (defArgs s_law_walk) (defBody s_law_walk) (defScope s_law_walk) .none kV33 dc33 pm33 an33 cd33 ct33), sl33⟩)
    (c33 : PySem.W.codeIn K cd33 "_law_walk" = true)
    (k33 : PySem.W.keepIn K (.ref f33) = true)
    (a34 : PySem.W.nsIn K mainGlobals "_law_errors" = some (some (.ref f34)))
    (l34 : K.lookup f34 = some ⟨oc34, od34, .func (PySem.W.fnOf "_law_errors" "_law_errors" (defArgs s_law_errors) (defBody s_law_errors) (defScope s_law_errors) .none kV34 dc34 pm34 an34 (.ref cc34) ct34), sl34⟩)
    (c34 : PySem.W.codeIn K (.ref cc34) "_law_errors" = true)
    (k34 : PySem.W.keepIn K (.ref f34) = true)
    (tb34 : K.lookup cc34 = some ⟨tc34, to34, .fields tv34, ts34⟩)
    (h_tv34 : tv34[11]? = some (.ref pp34))
    (ch34 : PySem.W.codeHdIn K cc34 pp34 = true)
    (nl34 : K.lookup pp34 = none)
    (hp34 : h.get? pp34 = some { cls := .none, data := .fields #[] })
    (a35 : PySem.W.nsIn K mainGlobals "_law_begun" = some (some (.ref f35)))
    (l35 : K.lookup f35 = some ⟨oc35, od35, .func (PySem.W.fnOf "_law_begun" "_law_begun" (defArgs s_law_begun) (defBody s_law_begun) (defScope s_law_begun) .none kV35 dc35 pm35 an35 cd35 ct35), sl35⟩)
    (c35 : PySem.W.codeIn K cd35 "_law_begun" = true)
    (k35 : PySem.W.keepIn K (.ref f35) = true)
    (a36 : PySem.W.nsIn K mainGlobals "law" = some (some (.ref f36)))
    (l36 : K.lookup f36 = some ⟨oc36, od36, .func (PySem.W.fnOf "law" "law" (defArgs s_law) (defBody s_law) (defScope s_law) .none kV36 dc36 pm36 an36 (.ref cc36) ct36), sl36⟩)
    (c36 : PySem.W.codeIn K (.ref cc36) "law" = true)
    (k36 : PySem.W.keepIn K (.ref f36) = true)
    (tb36 : K.lookup cc36 = some ⟨tc36, to36, .fields tv36, ts36⟩)
    (h_tv36 : tv36[11]? = some (.ref pp36))
    (ch36 : PySem.W.codeHdIn K cc36 pp36 = true)
    (nl36 : K.lookup pp36 = none)
    (hp36 : h.get? pp36 = some { cls := .none, data := .fields #[] })
    (z_ValueError : PySem.W.nsIn K mainGlobals "ValueError" = some none)
    (z_all : PySem.W.nsIn K mainGlobals "all" = some none)
    (z_any : PySem.W.nsIn K mainGlobals "any" = some none)
    (z_bool : PySem.W.nsIn K mainGlobals "bool" = some none)
    (z_dict : PySem.W.nsIn K mainGlobals "dict" = some none)
    (z_enumerate : PySem.W.nsIn K mainGlobals "enumerate" = some none)
    (z_int : PySem.W.nsIn K mainGlobals "int" = some none)
    (z_isinstance : PySem.W.nsIn K mainGlobals "isinstance" = some none)
    (z_len : PySem.W.nsIn K mainGlobals "len" = some none)
    (z_list : PySem.W.nsIn K mainGlobals "list" = some none)
    (z_max : PySem.W.nsIn K mainGlobals "max" = some none)
    (z_range : PySem.W.nsIn K mainGlobals "range" = some none)
    (z_sorted : PySem.W.nsIn K mainGlobals "sorted" = some none)
    (z_str : PySem.W.nsIn K mainGlobals "str" = some none)
    (z_sum : PySem.W.nsIn K mainGlobals "sum" = some none)
    (z_tuple : PySem.W.nsIn K mainGlobals "tuple" = some none)
    (z_zip : PySem.W.nsIn K mainGlobals "zip" = some none)
    (m_CACHES : PySem.W.nsIn K mainGlobals "CACHES" = some (some (.int 8 t_CACHES)))
    (m_RULES : PySem.W.nsIn K mainGlobals "RULES" = some (some (.int 8 t_RULES)))
    (pg_Search : PySem.W.plainGet K C_Search Str.empty = true)
    (hd_Search : PySem.W.hasDictIn K C_Search = true)
    (po_Search : PySem.W.plainOver K C_Search = true)
    (sa_Search : PySem.W.findIn K (.ref C_Search) "__setattr__" = some (some (.builtin "object.__setattr__")))
    (mk_Search : PySem.W.makesIn K C_Search = true)
    (ki_Search : PySem.W.keepIn K (.ref C_Search) = true)
    (n0_Search : PySem.W.findIn K (.ref C_Search) "start" = some none)
    (n1_Search : PySem.W.findIn K (.ref C_Search) "distances" = some none)
    (n2_Search : PySem.W.findIn K (.ref C_Search) "before" = some none)
    (x_InvalidConfiguration : PySem.W.excIn K C_InvalidConfiguration [.type "ValueError", .type "Exception", .type "BaseException", .type "object"] "ValueError.__new__" = true)
    (kk_InvalidConfiguration : PySem.W.keepIn K (.ref C_InvalidConfiguration) = true)
    (b_InvalidConfiguration : PySem.W.subIn K (.ref C_InvalidConfiguration) (.type "BaseException") = some true)
    (t_InvalidConfiguration : PySem.W.typeIn K (.ref C_InvalidConfiguration) = some (.type "type"))
    (x_InvalidNumber : PySem.W.excIn K C_InvalidNumber [.type "ValueError", .type "Exception", .type "BaseException", .type "object"] "ValueError.__new__" = true)
    (kk_InvalidNumber : PySem.W.keepIn K (.ref C_InvalidNumber) = true)
    (b_InvalidNumber : PySem.W.subIn K (.ref C_InvalidNumber) (.type "BaseException") = some true)
    (t_InvalidNumber : PySem.W.typeIn K (.ref C_InvalidNumber) = some (.type "type"))
    (x_InvalidProtocol : PySem.W.excIn K C_InvalidProtocol [.type "ValueError", .type "Exception", .type "BaseException", .type "object"] "ValueError.__new__" = true)
    (kk_InvalidProtocol : PySem.W.keepIn K (.ref C_InvalidProtocol) = true)
    (b_InvalidProtocol : PySem.W.subIn K (.ref C_InvalidProtocol) (.type "BaseException") = some true)
    (t_InvalidProtocol : PySem.W.typeIn K (.ref C_InvalidProtocol) = some (.type "type"))
    (x_InvalidTrace : PySem.W.excIn K C_InvalidTrace [.type "ValueError", .type "Exception", .type "BaseException", .type "object"] "ValueError.__new__" = true)
    (kk_InvalidTrace : PySem.W.keepIn K (.ref C_InvalidTrace) = true)
    (b_InvalidTrace : PySem.W.subIn K (.ref C_InvalidTrace) (.type "BaseException") = some true)
    (t_InvalidTrace : PySem.W.typeIn K (.ref C_InvalidTrace) = some (.type "type"))
    (hnd : decide ([pp34, pp36].Nodup) = true)
    (hres : ((asked ⟨fun n => if n = "CacheError" then C_CacheError else if n = "InvalidChange" then C_InvalidChange else if n = "InvalidConfiguration" then C_InvalidConfiguration else if n = "InvalidIndex" then C_InvalidIndex else if n = "InvalidLog" then C_InvalidLog else if n = "InvalidNumber" then C_InvalidNumber else if n = "InvalidOrder" then C_InvalidOrder else if n = "InvalidPattern" then C_InvalidPattern else if n = "InvalidProtocol" then C_InvalidProtocol else if n = "InvalidRule" then C_InvalidRule else if n = "InvalidStep" then C_InvalidStep else if n = "InvalidText" then C_InvalidText else if n = "InvalidTrace" then C_InvalidTrace else if n = "NotComparable" then C_NotComparable else if n = "NothingToUndo" then C_NothingToUndo else if n = "Search" then C_Search else if n = "TooLarge" then C_TooLarge else if n = "TooMany" then C_TooMany else if n = "reachable" then f20 else if n = "depth" then f22 else if n = "quiet" then f23 else 0, K, []⟩).all fun d => resFB K C_CacheError (asked ⟨fun n => if n = "CacheError" then C_CacheError else if n = "InvalidChange" then C_InvalidChange else if n = "InvalidConfiguration" then C_InvalidConfiguration else if n = "InvalidIndex" then C_InvalidIndex else if n = "InvalidLog" then C_InvalidLog else if n = "InvalidNumber" then C_InvalidNumber else if n = "InvalidOrder" then C_InvalidOrder else if n = "InvalidPattern" then C_InvalidPattern else if n = "InvalidProtocol" then C_InvalidProtocol else if n = "InvalidRule" then C_InvalidRule else if n = "InvalidStep" then C_InvalidStep else if n = "InvalidText" then C_InvalidText else if n = "InvalidTrace" then C_InvalidTrace else if n = "NotComparable" then C_NotComparable else if n = "NothingToUndo" then C_NothingToUndo else if n = "Search" then C_Search else if n = "TooLarge" then C_TooLarge else if n = "TooMany" then C_TooMany else if n = "reachable" then f20 else if n = "depth" then f22 else if n = "quiet" then f23 else 0, K, []⟩) d.2 d.1) = true) :
    LawAtS l w K (L2.CX l.prog w) 13 63 "_law_script" mg fa h := by
  have e := hfa.symm.trans (PySem.W.mg_of X G a36)
  cases e
  have F0 := fun_mk (st := s_is_between) l0 c0 k0
  have F1 := fun_mk (st := s_are_between) l1 c1 k1
  have F2 := fun_mk (st := s_is_ascending) l2 c2 k2
  have F3 := fun_mk (st := s_is_rule) l3 c3 k3
  have F4 := fun_mk (st := s_is_protocol) l4 c4 k4
  have F5 := fun_mk (st := s_check_protocol) l5 c5 k5
  have F6 := fun_mk (st := s_are_counts) l6 c6 k6
  have F7 := fun_mk (st := s_is_count) l7 c7 k7
  have F8 := fun_mk (st := s_is_configuration_of) l8 c8 k8
  have F9 := fun_mk (st := s_check_configuration) l9 c9 k9
  have F10 := fun_mk (st := s_check_number) l10 c10 k10
  have F11 := fun_mk (st := s_first_of) l11 c11 k11
  have F12 := fun_mk (st := s_others) l12 c12 k12
  have F13 := fun_mk (st := s_is_possible) l13 c13 k13
  have F14 := fun_mk (st := s_performed) l14 c14 k14
  have F15 := fun_mk (st := s_dropped) l15 c15 k15
  have F16 := fun_mk (st := s_moves) l16 c16 k16
  have F17 := fun_mk (st := s_is_step_shape) l17 c17 k17
  have F18 := fun_mk (st := s_moved) l18 c18 k18
  have F19 := fun_mk (st := s_Search___init__) l19 c19 k19
  have F20 := fun_mk (st := s_reachable) l20 c20 k20
  have F21 := fun_mk (st := s_distance) l21 c21 k21
  have F22 := fun_mk (st := s_depth) l22 c22 k22
  have F23 := fun_mk (st := s_quiet) l23 c23 k23
  have F24 := fun_mk (st := s_way) l24 c24 k24
  have F25 := fun_mk (st := s_run) l25 c25 k25
  have F26 := fun_mk (st := s_law_result) l26 c26 k26
  have F27 := fun_mk (st := s_law_draw) l27 c27 k27
  have F28 := fun_mk (st := s_law_rule) l28 c28 k28
  have F29 := fun_mk (st := s_law_protocol) l29 c29 k29
  have F30 := fun_mk (st := s_law_pattern) l30 c30 k30
  have F31 := fun_mk (st := s_law_moves) l31 c31 k31
  have F32 := fun_mk (st := s_law_reach) l32 c32 k32
  have F33 := fun_mk (st := s_law_walk) l33 c33 k33
  have F34 : FunC K "_law_errors" "_law_errors" s_law_errors _ _ (.ref cc34) := ⟨⟨_, _, _, _, _, _, _, _, rfl, l34, c34⟩, k34⟩
  have F35 := fun_mk (st := s_law_begun) l35 c35 k35
  have F36 : FunC K "law" "law" s_law _ _ (.ref cc36) := ⟨⟨_, _, _, _, _, _, _, _, rfl, l36, c36⟩, k36⟩
  have B0 := F0.binds (ps := ["value", "low", "high"]) fun _ _ _ _ _ _ us hl => match us, hl with | [_, _, _], _ => rfl
  have B1 := F1.binds (ps := ["values", "low", "high"]) fun _ _ _ _ _ _ us hl => match us, hl with | [_, _, _], _ => rfl
  have B2 := F2.binds (ps := ["values"]) fun _ _ _ _ _ _ us hl => match us, hl with | [_], _ => rfl
  have B3 := F3.binds (ps := ["many", "value"]) fun _ _ _ _ _ _ us hl => match us, hl with | [_, _], _ => rfl
  have B4 := F4.binds (ps := ["value"]) fun _ _ _ _ _ _ us hl => match us, hl with | [_], _ => rfl
  have B5 := F5.binds (ps := ["protocol"]) fun _ _ _ _ _ _ us hl => match us, hl with | [_], _ => rfl
  have B6 := F6.binds (ps := ["protocol", "value"]) fun _ _ _ _ _ _ us hl => match us, hl with | [_, _], _ => rfl
  have B7 := F7.binds (ps := ["value"]) fun _ _ _ _ _ _ us hl => match us, hl with | [_], _ => rfl
  have B8 := F8.binds (ps := ["protocol", "value"]) fun _ _ _ _ _ _ us hl => match us, hl with | [_, _], _ => rfl
  have B9 := F9.binds (ps := ["protocol", "configuration"]) fun _ _ _ _ _ _ us hl => match us, hl with | [_, _], _ => rfl
  have B10 := F10.binds (ps := ["caches"]) fun _ _ _ _ _ _ us hl => match us, hl with | [_], _ => rfl
  have B11 := F11.binds (ps := ["protocol", "caches"]) fun _ _ _ _ _ _ us hl => match us, hl with | [_, _], _ => rfl
  have B12 := F12.binds (ps := ["configuration", "state"]) fun _ _ _ _ _ _ us hl => match us, hl with | [_, _], _ => rfl
  have B13 := F13.binds (ps := ["configuration", "rule"]) fun _ _ _ _ _ _ us hl => match us, hl with | [_, _], _ => rfl
  have B14 := F14.binds (ps := ["configuration", "rule"]) fun _ _ _ _ _ _ us hl => match us, hl with | [_, _], _ => rfl
  have B15 := F15.binds (ps := ["configuration", "state"]) fun _ _ _ _ _ _ us hl => match us, hl with | [_, _], _ => rfl
  have B16 := F16.binds (ps := ["protocol", "configuration"]) fun _ _ _ _ _ _ us hl => match us, hl with | [_, _], _ => rfl
  have B17 := F17.binds (ps := ["value"]) fun _ _ _ _ _ _ us hl => match us, hl with | [_], _ => rfl
  have B18 := F18.binds (ps := ["protocol", "configuration", "step"]) fun _ _ _ _ _ _ us hl => match us, hl with | [_, _, _], _ => rfl
  have B19 := F19.binds (ps := ["self", "protocol", "caches"]) fun _ _ _ _ _ _ us hl => match us, hl with | [_, _, _], _ => rfl
  have B20 := F20.binds (ps := ["protocol", "caches"]) fun _ _ _ _ _ _ us hl => match us, hl with | [_, _], _ => rfl
  have B21 := F21.binds (ps := ["protocol", "configuration"]) fun _ _ _ _ _ _ us hl => match us, hl with | [_, _], _ => rfl
  have B22 := F22.binds (ps := ["protocol", "caches"]) fun _ _ _ _ _ _ us hl => match us, hl with | [_, _], _ => rfl
  have B23 := F23.binds (ps := ["protocol", "caches"]) fun _ _ _ _ _ _ us hl => match us, hl with | [_, _], _ => rfl
  have B24 := F24.binds (ps := ["protocol", "caches", "trace"]) fun _ _ _ _ _ _ us hl => match us, hl with | [_, _, _], _ => rfl
  have B25 := F25.binds (ps := ["protocol", "caches", "trace"]) fun _ _ _ _ _ _ us hl => match us, hl with | [_, _, _], _ => rfl
  have B26 := F26.binds (ps := ["_law_call"]) fun _ _ _ _ _ _ us hl => match us, hl with | [_], _ => rfl
  have B27 := F27.binds (ps := ["_law_script", "_law_town", "_law_many"]) fun _ _ _ _ _ _ us hl => match us, hl with | [_, _, _], _ => rfl
  have B28 := F28.binds (ps := ["_law_script", "_law_town", "_law_many"]) fun _ _ _ _ _ _ us hl => match us, hl with | [_, _, _], _ => rfl
  have B29 := F29.binds (ps := ["_law_script", "_law_town", "_law_states", "_law_rules"]) fun _ _ _ _ _ _ us hl => match us, hl with | [_, _, _, _], _ => rfl
  have B30 := F30.binds (ps := ["_law_script", "_law_town", "_law_many", "_law_most"]) fun _ _ _ _ _ _ us hl => match us, hl with | [_, _, _, _], _ => rfl
  have B31 := F31.binds (ps := ["_law_protocol_here", "_law_configuration_here"]) fun _ _ _ _ _ _ us hl => match us, hl with | [_, _], _ => rfl
  have B32 := F32.binds (ps := ["_law_protocol_here", "_law_caches_here"]) fun _ _ _ _ _ _ us hl => match us, hl with | [_, _], _ => rfl
  have B33 := F33.binds (ps := ["_law_script", "_law_town", "_law_protocol_here", "_law_caches_here"]) fun _ _ _ _ _ _ us hl => match us, hl with | [_, _, _, _], _ => rfl
  have B34 := F34.fun.binds (ps := ["_law_protocol_here_here"]) fun _ _ _ _ _ _ us hl => match us, hl with | [_], _ => rfl
  have B35 := F35.binds (ps := []) fun _ _ _ _ _ _ us hl => match us, hl with | [], _ => rfl
  let T : Tx l.prog w K mg := {
    cls := fun n => if n = "CacheError" then C_CacheError else if n = "InvalidChange" then C_InvalidChange else if n = "InvalidConfiguration" then C_InvalidConfiguration else if n = "InvalidIndex" then C_InvalidIndex else if n = "InvalidLog" then C_InvalidLog else if n = "InvalidNumber" then C_InvalidNumber else if n = "InvalidOrder" then C_InvalidOrder else if n = "InvalidPattern" then C_InvalidPattern else if n = "InvalidProtocol" then C_InvalidProtocol else if n = "InvalidRule" then C_InvalidRule else if n = "InvalidStep" then C_InvalidStep else if n = "InvalidText" then C_InvalidText else if n = "InvalidTrace" then C_InvalidTrace else if n = "NotComparable" then C_NotComparable else if n = "NothingToUndo" then C_NothingToUndo else if n = "Search" then C_Search else if n = "TooLarge" then C_TooLarge else if n = "TooMany" then C_TooMany else if n = "reachable" then f20 else if n = "depth" then f22 else if n = "quiet" then f23 else 0
    tabs := [(pp34, lamN "_law_errors"), (pp36, lamN "law")]
    c_law_errors := cc34, p_law_errors := pp34, t_law_errors := List.mem_cons_self
    c_law := cc36, p_law := pp36, t_law := List.mem_cons_of_mem _ (List.mem_cons_self)
    nd := of_decide_eq_true hnd, res := resOk_of hres
    a_is_between := f0, d_is_between := _, F_is_between := F0, g_is_between := PySem.W.mg_of X G a0, b_is_between := B0
    a_are_between := f1, d_are_between := _, F_are_between := F1, g_are_between := PySem.W.mg_of X G a1, b_are_between := B1
    a_is_ascending := f2, d_is_ascending := _, F_is_ascending := F2, g_is_ascending := PySem.W.mg_of X G a2, b_is_ascending := B2
    a_is_rule := f3, d_is_rule := _, F_is_rule := F3, g_is_rule := PySem.W.mg_of X G a3, b_is_rule := B3
    a_is_protocol := f4, d_is_protocol := _, F_is_protocol := F4, g_is_protocol := PySem.W.mg_of X G a4, b_is_protocol := B4
    a_check_protocol := f5, d_check_protocol := _, F_check_protocol := F5, g_check_protocol := PySem.W.mg_of X G a5, b_check_protocol := B5
    a_are_counts := f6, d_are_counts := _, F_are_counts := F6, g_are_counts := PySem.W.mg_of X G a6, b_are_counts := B6
    a_is_count := f7, d_is_count := _, F_is_count := F7, g_is_count := PySem.W.mg_of X G a7, b_is_count := B7
    a_is_configuration_of := f8, d_is_configuration_of := _, F_is_configuration_of := F8, g_is_configuration_of := PySem.W.mg_of X G a8, b_is_configuration_of := B8
    a_check_configuration := f9, d_check_configuration := _, F_check_configuration := F9, g_check_configuration := PySem.W.mg_of X G a9, b_check_configuration := B9
    a_check_number := f10, d_check_number := _, F_check_number := F10, g_check_number := PySem.W.mg_of X G a10, b_check_number := B10
    a_first_of := f11, d_first_of := _, F_first_of := F11, g_first_of := PySem.W.mg_of X G a11, b_first_of := B11
    a_others := f12, d_others := _, F_others := F12, g_others := PySem.W.mg_of X G a12, b_others := B12
    a_is_possible := f13, d_is_possible := _, F_is_possible := F13, g_is_possible := PySem.W.mg_of X G a13, b_is_possible := B13
    a_performed := f14, d_performed := _, F_performed := F14, g_performed := PySem.W.mg_of X G a14, b_performed := B14
    a_dropped := f15, d_dropped := _, F_dropped := F15, g_dropped := PySem.W.mg_of X G a15, b_dropped := B15
    a_moves := f16, d_moves := _, F_moves := F16, g_moves := PySem.W.mg_of X G a16, b_moves := B16
    a_is_step_shape := f17, d_is_step_shape := _, F_is_step_shape := F17, g_is_step_shape := PySem.W.mg_of X G a17, b_is_step_shape := B17
    a_moved := f18, d_moved := _, F_moved := F18, g_moved := PySem.W.mg_of X G a18, b_moved := B18
    a_Search___init__ := f19, d_Search___init__ := _, F_Search___init__ := F19, b_Search___init__ := B19, mk_Search := ⟨mk_Search, a19, i19, ki_Search⟩
    a_reachable := f20, d_reachable := _, F_reachable := F20, g_reachable := PySem.W.mg_of X G a20, b_reachable := B20
    f_reachable := rfl, gf_reachable := PySem.W.mg_of X G a20
    a_distance := f21, d_distance := _, F_distance := F21, g_distance := PySem.W.mg_of X G a21, b_distance := B21
    a_depth := f22, d_depth := _, F_depth := F22, g_depth := PySem.W.mg_of X G a22, b_depth := B22
    f_depth := rfl, gf_depth := PySem.W.mg_of X G a22
    a_quiet := f23, d_quiet := _, F_quiet := F23, g_quiet := PySem.W.mg_of X G a23, b_quiet := B23
    f_quiet := rfl, gf_quiet := PySem.W.mg_of X G a23
    a_way := f24, d_way := _, F_way := F24, g_way := PySem.W.mg_of X G a24, b_way := B24
    a_run := f25, d_run := _, F_run := F25, g_run := PySem.W.mg_of X G a25, b_run := B25
    a_law_result := f26, d_law_result := _, F_law_result := F26, g_law_result := PySem.W.mg_of X G a26, b_law_result := B26
    a_law_draw := f27, d_law_draw := _, F_law_draw := F27, g_law_draw := PySem.W.mg_of X G a27, b_law_draw := B27
    a_law_rule := f28, d_law_rule := _, F_law_rule := F28, g_law_rule := PySem.W.mg_of X G a28, b_law_rule := B28
    a_law_protocol := f29, d_law_protocol := _, F_law_protocol := F29, g_law_protocol := PySem.W.mg_of X G a29, b_law_protocol := B29
    a_law_pattern := f30, d_law_pattern := _, F_law_pattern := F30, g_law_pattern := PySem.W.mg_of X G a30, b_law_pattern := B30
    a_law_moves := f31, d_law_moves := _, F_law_moves := F31, g_law_moves := PySem.W.mg_of X G a31, b_law_moves := B31
    a_law_reach := f32, d_law_reach := _, F_law_reach := F32, g_law_reach := PySem.W.mg_of X G a32, b_law_reach := B32
    a_law_walk := f33, d_law_walk := _, F_law_walk := F33, g_law_walk := PySem.W.mg_of X G a33, b_law_walk := B33
    a_law_errors := f34, d_law_errors := _, F_law_errors := F34, g_law_errors := PySem.W.mg_of X G a34, b_law_errors := B34
    a_law_begun := f35, d_law_begun := _, F_law_begun := F35, g_law_begun := PySem.W.mg_of X G a35, b_law_begun := B35
    k_depth_1 := KB.mk' fun s us ws h1 h2 => match us, ws, h1, h2 with | [_], [_], _, _ => .of_eq rfl
    k_distance_1 := KB.mk' fun s us ws h1 h2 => match us, ws, h1, h2 with | [_], [_], _, _ => .of_eq rfl
    k_quiet_1 := KB.mk' fun s us ws h1 h2 => match us, ws, h1, h2 with | [_], [_], _, _ => .of_eq rfl
    k_reachable_1 := KB.mk' fun s us ws h1 h2 => match us, ws, h1, h2 with | [_], [_], _, _ => .of_eq rfl
    k_run_1 := KB.mk' fun s us ws h1 h2 => match us, ws, h1, h2 with | [_], [_, _], _, _ => .of_eq rfl
    m_ValueError := PySem.W.mg_none_of X G z_ValueError
    m_all := PySem.W.mg_none_of X G z_all
    m_any := PySem.W.mg_none_of X G z_any
    m_bool := PySem.W.mg_none_of X G z_bool
    m_dict := PySem.W.mg_none_of X G z_dict
    m_enumerate := PySem.W.mg_none_of X G z_enumerate
    m_int := PySem.W.mg_none_of X G z_int
    m_isinstance := PySem.W.mg_none_of X G z_isinstance
    m_len := PySem.W.mg_none_of X G z_len
    m_list := PySem.W.mg_none_of X G z_list
    m_max := PySem.W.mg_none_of X G z_max
    m_range := PySem.W.mg_none_of X G z_range
    m_sorted := PySem.W.mg_none_of X G z_sorted
    m_str := PySem.W.mg_none_of X G z_str
    m_sum := PySem.W.mg_none_of X G z_sum
    m_tuple := PySem.W.mg_none_of X G z_tuple
    m_zip := PySem.W.mg_none_of X G z_zip
    t_CACHES := t_CACHES, m_CACHES := PySem.W.mg_of X G m_CACHES
    t_RULES := t_RULES, m_RULES := PySem.W.mg_of X G m_RULES
    gc_CacheError := PySem.W.mg_of X G g_CacheError
    gc_InvalidChange := PySem.W.mg_of X G g_InvalidChange
    gc_InvalidConfiguration := PySem.W.mg_of X G g_InvalidConfiguration
    gc_InvalidIndex := PySem.W.mg_of X G g_InvalidIndex
    gc_InvalidLog := PySem.W.mg_of X G g_InvalidLog
    gc_InvalidNumber := PySem.W.mg_of X G g_InvalidNumber
    gc_InvalidOrder := PySem.W.mg_of X G g_InvalidOrder
    gc_InvalidPattern := PySem.W.mg_of X G g_InvalidPattern
    gc_InvalidProtocol := PySem.W.mg_of X G g_InvalidProtocol
    gc_InvalidRule := PySem.W.mg_of X G g_InvalidRule
    gc_InvalidStep := PySem.W.mg_of X G g_InvalidStep
    gc_InvalidText := PySem.W.mg_of X G g_InvalidText
    gc_InvalidTrace := PySem.W.mg_of X G g_InvalidTrace
    gc_NotComparable := PySem.W.mg_of X G g_NotComparable
    gc_NothingToUndo := PySem.W.mg_of X G g_NothingToUndo
    gc_Search := PySem.W.mg_of X G g_Search
    gc_TooLarge := PySem.W.mg_of X G g_TooLarge
    gc_TooMany := PySem.W.mg_of X G g_TooMany
    cl_Search := ⟨⟨pg_Search, hd_Search, po_Search, sa_Search⟩, n0_Search, n1_Search, n2_Search⟩
    x_InvalidConfiguration := x_InvalidConfiguration, kc_InvalidConfiguration := kk_InvalidConfiguration, bc_InvalidConfiguration := b_InvalidConfiguration, tc_InvalidConfiguration := t_InvalidConfiguration
    x_InvalidNumber := x_InvalidNumber, kc_InvalidNumber := kk_InvalidNumber, bc_InvalidNumber := b_InvalidNumber, tc_InvalidNumber := t_InvalidNumber
    x_InvalidProtocol := x_InvalidProtocol, kc_InvalidProtocol := kk_InvalidProtocol, bc_InvalidProtocol := b_InvalidProtocol, tc_InvalidProtocol := t_InvalidProtocol
    x_InvalidTrace := x_InvalidTrace, kc_InvalidTrace := kk_InvalidTrace, bc_InvalidTrace := b_InvalidTrace, tc_InvalidTrace := t_InvalidTrace
  }
  refine lawAt (K := K) (w := w) (k := 13) (x := "_law_script") [(cc34, pp34), (cc36, pp36)] [(pp34, lamN "_law_errors"), (pp36, lamN "law")] rfl (List.forall_mem_cons.mpr ⟨hp34, List.forall_mem_cons.mpr ⟨hp36, fun _ z => nomatch z⟩⟩) (List.forall_mem_cons.mpr ⟨nl34, List.forall_mem_cons.mpr ⟨nl36, fun _ z => nomatch z⟩⟩) (List.forall_mem_cons.mpr ⟨PySem.W.codeHd_of_K X ch34, List.forall_mem_cons.mpr ⟨PySem.W.codeHd_of_K X ch36, fun _ z => nomatch z⟩⟩) ⟨_, fun s v => .of_eq rfl, fun base _ _ hb => ok_law T ⟨trivial, hb (cc34, pp34) (by first | exact List.mem_cons_self | exact List.mem_cons_of_mem _ (List.mem_cons_self) | exact List.mem_cons_of_mem _ (List.mem_cons_of_mem _ (List.mem_cons_self))), hb (cc36, pp36) (by first | exact List.mem_cons_self | exact List.mem_cons_of_mem _ (List.mem_cons_self) | exact List.mem_cons_of_mem _ (List.mem_cons_of_mem _ (List.mem_cons_self)))⟩ F36⟩
end DL
open PySem PySem.W PyProof.Rows
set_option maxHeartbeats 0 in
theorem PySem.Challenge.cw_manycaches_k04_searching_holds : PySem.Challenge.rw_manycaches_k04_searching.Holds := by
  w_on; o_law; k_head; (case hw => w_witness2)
  k_fill
  refine LamX.walk_ofTs (l := PySem.Challenge.rw_manycaches_k04_searching) (n := 63) (k := 13) (x := "_law_script") (CX := fun w => L2.CX (PySem.Challenge.rw_manycaches_k04_searching).prog w) rfl (by decide) rfl ⟨rfl, by decide, by decide⟩ (fun w h Y => PySem.W.km_in_of Y) ?F (fun _ _ _ _ _ h => by
    obtain ⟨_, _, _, _, _, _, _, _, _, _, _, _, z⟩ := h
    exact z)
  case F =>
    intro w mg fa h Y KX G hmg
    refine' DL.all_mk KX G hmg ?g_CacheError ?g_InvalidChange ?g_InvalidConfiguration ?g_InvalidIndex ?g_InvalidLog ?g_InvalidNumber ?g_InvalidOrder ?g_InvalidPattern ?g_InvalidProtocol ?g_InvalidRule ?g_InvalidStep ?g_InvalidText ?g_InvalidTrace ?g_NotComparable ?g_NothingToUndo ?g_Search ?g_TooLarge ?g_TooMany ?a0 ?l0 ?c0 ?k0 ?a1 ?l1 ?c1 ?k1 ?a2 ?l2 ?c2 ?k2 ?a3 ?l3 ?c3 ?k3 ?a4 ?l4 ?c4 ?k4 ?a5 ?l5 ?c5 ?k5 ?a6 ?l6 ?c6 ?k6 ?a7 ?l7 ?c7 ?k7 ?a8 ?l8 ?c8 ?k8 ?a9 ?l9 ?c9 ?k9 ?a10 ?l10 ?c10 ?k10 ?a11 ?l11 ?c11 ?k11 ?a12 ?l12 ?c12 ?k12 ?a13 ?l13 ?c13 ?k13 ?a14 ?l14 ?c14 ?k14 ?a15 ?l15 ?c15 ?k15 ?a16 ?l16 ?c16 ?k16 ?a17 ?l17 ?c17 ?k17 ?a18 ?l18 ?c18 ?k18 ?a19 ?i19 ?l19 ?c19 ?k19 ?a20 ?l20 ?c20 ?k20 ?a21 ?l21 ?c21 ?k21 ?a22 ?l22 ?c22 ?k22 ?a23 ?l23 ?c23 ?k23 ?a24 ?l24 ?c24 ?k24 ?a25 ?l25 ?c25 ?k25 ?a26 ?l26 ?c26 ?k26 ?a27 ?l27 ?c27 ?k27 ?a28 ?l28 ?c28 ?k28 ?a29 ?l29 ?c29 ?k29 ?a30 ?l30 ?c30 ?k30 ?a31 ?l31 ?c31 ?k31 ?a32 ?l32 ?c32 ?k32 ?a33 ?l33 ?c33 ?k33 ?a34 ?l34 ?c34 ?k34 ?tb34 ?h_tv34 ?ch34 ?nl34 ?hp34 ?a35 ?l35 ?c35 ?k35 ?a36 ?l36 ?c36 ?k36 ?tb36 ?h_tv36 ?ch36 ?nl36 ?hp36 ?z_ValueError ?z_all ?z_any ?z_bool ?z_dict ?z_enumerate ?z_int ?z_isinstance ?z_len ?z_list ?z_max ?z_range ?z_sorted ?z_str ?z_sum ?z_tuple ?z_zip ?m_CACHES ?m_RULES ?pg_Search ?hd_Search ?po_Search ?sa_Search ?mk_Search ?ki_Search ?n0_Search ?n1_Search ?n2_Search ?x_InvalidConfiguration ?kk_InvalidConfiguration ?b_InvalidConfiguration ?t_InvalidConfiguration ?x_InvalidNumber ?kk_InvalidNumber ?b_InvalidNumber ?t_InvalidNumber ?x_InvalidProtocol ?kk_InvalidProtocol ?b_InvalidProtocol ?t_InvalidProtocol ?x_InvalidTrace ?kk_InvalidTrace ?b_InvalidTrace ?t_InvalidTrace ?hnd ?hres
    (case g_CacheError => k_is); (case g_InvalidChange => k_is); (case g_InvalidConfiguration => k_is); (case g_InvalidIndex => k_is); (case g_InvalidLog => k_is); (case g_InvalidNumber => k_is); (case g_InvalidOrder => k_is); (case g_InvalidPattern => k_is); (case g_InvalidProtocol => k_is); (case g_InvalidRule => k_is); (case g_InvalidStep => k_is); (case g_InvalidText => k_is); (case g_InvalidTrace => k_is); (case g_NotComparable => k_is); (case g_NothingToUndo => k_is); (case g_Search => k_is); (case g_TooLarge => k_is); (case g_TooMany => k_is); (case a0 => k_is); (case l0 => k_is); (case c0 => k_is); (case k0 => k_is); (case a1 => k_is); (case l1 => k_is); (case c1 => k_is); (case k1 => k_is); (case a2 => k_is); (case l2 => k_is); (case c2 => k_is); (case k2 => k_is); (case a3 => k_is); (case l3 => k_is); (case c3 => k_is); (case k3 => k_is); (case a4 => k_is); (case l4 => k_is); (case c4 => k_is); (case k4 => k_is); (case a5 => k_is); (case l5 => k_is); (case c5 => k_is); (case k5 => k_is); (case a6 => k_is); (case l6 => k_is); (case c6 => k_is); (case k6 => k_is); (case a7 => k_is); (case l7 => k_is); (case c7 => k_is); (case k7 => k_is); (case a8 => k_is); (case l8 => k_is); (case c8 => k_is); (case k8 => k_is); (case a9 => k_is); (case l9 => k_is); (case c9 => k_is); (case k9 => k_is); (case a10 => k_is); (case l10 => k_is); (case c10 => k_is); (case k10 => k_is); (case a11 => k_is); (case l11 => k_is); (case c11 => k_is); (case k11 => k_is); (case a12 => k_is); (case l12 => k_is); (case c12 => k_is); (case k12 => k_is); (case a13 => k_is); (case l13 => k_is); (case c13 => k_is); (case k13 => k_is); (case a14 => k_is); (case l14 => k_is); (case c14 => k_is); (case k14 => k_is); (case a15 => k_is); (case l15 => k_is); (case c15 => k_is); (case k15 => k_is); (case a16 => k_is); (case l16 => k_is); (case c16 => k_is); (case k16 => k_is); (case a17 => k_is); (case l17 => k_is); (case c17 => k_is); (case k17 => k_is); (case a18 => k_is); (case l18 => k_is); (case c18 => k_is); (case k18 => k_is); (case a19 => k_is); (case i19 => k_is); (case l19 => k_is); (case c19 => k_is); (case k19 => k_is); (case a20 => k_is); (case l20 => k_is); (case c20 => k_is); (case k20 => k_is); (case a21 => k_is); (case l21 => k_is); (case c21 => k_is); (case k21 => k_is); (case a22 => k_is); (case l22 => k_is); (case c22 => k_is); (case k22 => k_is); (case a23 => k_is); (case l23 => k_is); (case c23 => k_is); (case k23 => k_is); (case a24 => k_is); (case l24 => k_is); (case c24 => k_is); (case k24 => k_is); (case a25 => k_is); (case l25 => k_is); (case c25 => k_is); (case k25 => k_is); (case a26 => k_is); (case l26 => k_is); (case c26 => k_is); (case k26 => k_is); (case a27 => k_is); (case l27 => k_is); (case c27 => k_is); (case k27 => k_is); (case a28 => k_is); (case l28 => k_is); (case c28 => k_is); (case k28 => k_is); (case a29 => k_is); (case l29 => k_is); (case c29 => k_is); (case k29 => k_is); (case a30 => k_is); (case l30 => k_is); (case c30 => k_is); (case k30 => k_is); (case a31 => k_is); (case l31 => k_is); (case c31 => k_is); (case k31 => k_is); (case a32 => k_is); (case l32 => k_is); (case c32 => k_is); (case k32 => k_is); (case a33 => k_is); (case l33 => k_is); (case c33 => k_is); (case k33 => k_is); (case a34 => k_is); (case l34 => k_is); (case c34 => k_is); (case k34 => k_is); (case tb34 => k_is); (case h_tv34 => exact rfl); (case ch34 => kernel_rfl); (case nl34 => kernel_rfl); (case hp34 => exact PySem.W.km_tabs_of Y _ (by k_mem)); (case a35 => k_is); (case l35 => k_is); (case c35 => k_is); (case k35 => k_is); (case a36 => k_is); (case l36 => k_is); (case c36 => k_is); (case k36 => k_is); (case tb36 => k_is); (case h_tv36 => exact rfl); (case ch36 => kernel_rfl); (case nl36 => kernel_rfl); (case hp36 => exact PySem.W.km_tabs_of Y _ (by k_mem)); (case z_ValueError => k_is); (case z_all => k_is); (case z_any => k_is); (case z_bool => k_is); (case z_dict => k_is); (case z_enumerate => k_is); (case z_int => k_is); (case z_isinstance => k_is); (case z_len => k_is); (case z_list => k_is); (case z_max => k_is); (case z_range => k_is); (case z_sorted => k_is); (case z_str => k_is); (case z_sum => k_is); (case z_tuple => k_is); (case z_zip => k_is); (case m_CACHES => k_is); (case m_RULES => k_is); (case pg_Search => k_is); (case hd_Search => k_is); (case po_Search => k_is); (case sa_Search => k_is); (case mk_Search => k_is); (case ki_Search => k_is); (case n0_Search => k_is); (case n1_Search => k_is); (case n2_Search => k_is); (case x_InvalidConfiguration => k_exc); (case kk_InvalidConfiguration => k_is); (case b_InvalidConfiguration => k_is); (case t_InvalidConfiguration => k_is); (case x_InvalidNumber => k_exc); (case kk_InvalidNumber => k_is); (case b_InvalidNumber => k_is); (case t_InvalidNumber => k_is); (case x_InvalidProtocol => k_exc); (case kk_InvalidProtocol => k_is); (case b_InvalidProtocol => k_is); (case t_InvalidProtocol => k_is); (case x_InvalidTrace => k_exc); (case kk_InvalidTrace => k_is); (case b_InvalidTrace => k_is); (case t_InvalidTrace => k_is); (case hnd => kernel_rfl); (case hres => kernel_rfl)
