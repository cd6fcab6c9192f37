import PyProof.Rows.All
import Wide.All
import OpenK.AllK
import Wide.FinOn
import HandS.ForMost
import HandS.Wide
import HandS.IsInst
import HandS.Style
import HandS.Conv
import HandS.EndBits
import HandS.More
import HandS.Codes
import HandS.Walk
import HandS.CallRecv
import HandS.HotCalls
import HandS.EndTab
import HandS.Nested
import HandS.ExcIs
import HandS.ExcCtx
import HandS.WordsExc
import PySem.Challenge.RW_arrowdots_k08_refused
set_option Elab.async false
set_option linter.all false
set_option maxRecDepth 100000
set_option maxHeartbeats 4000000
namespace Hx
open PySem PySem.Spec PyProof.Rows L2 L2H
/-! ### a comprehension in an except suite (over what goes there: L2H.PIH) -/
section
variable {X : Cx} {pins : List (Addr × Obj)} {σ : L2.St} {H : Hp} {s : Shared}
/-- one more pin -/
theorem inv_pin {p : Addr × Obj} (I : Inv X pins σ H s) (h : s.heap.get? p.1 = some p.2 ∧ H p.1 = none ∧ p.1 ≠ X.env.locals ∧ p.1 ∉ X.fs ∧ ∀ v, p.2.data ≠ .cell v) : Inv X (p :: pins) σ H s :=
  ⟨I.ok, I.os, I.bare, I.base, I.loc, I.cell, I.free, I.freeC, fun q hq => by
    rcases List.mem_append.mp hq with z | z
    · exact I.pin q (List.mem_append_left _ z)
    · rcases List.mem_cons.mp z with z | z
      · rw [z]; exact h
      · exact I.pin q (List.mem_append_right _ z), I.hok, I.len⟩
theorem thnG {α : Type} {M : Model} {A : Around} {m : Sem α} {Q Q' : α → Shared → Prop} {E : Value → Shared → Prop} (h : wpAny M A m Q (fun _ _ => False) s) (k : ∀ a s', Q a s' → Q' a s') : wpAny M A m Q' E s :=
  wpAny_mono h k fun _ _ z => z.elim
theorem pe_lcH {elt tg iter : Expr} {ifs : List Expr} {scope : Scope} {own : List (Str × Nat)} {pos : Pos} {wi : TI} {g : TG} {tt : TT} {te : TE} (hc : HotC X) (hN : X.N.Nodup) (hi : PIH X tg iter wi) (ok : BlkOk X.N X.env.scope scope own)
    (hg : ∀ (s : Shared) (H : Hp) (C : Addr) (cl : List (Str × Addr)) (fp : List Addr), PG (X.blk s H scope (compEnvC scope cl C X.env) fp) tg g) (ht : ∀ (s : Shared) (H : Hp) (C : Addr) (cl : List (Str × Addr)) (fp : List Addr), PTs (X.blk s H scope (compEnvC scope cl C X.env) fp) ifs tt)
    (he : ∀ (s : Shared) (H : Hp) (C : Addr) (cl : List (Str × Addr)) (fp : List Addr), PE (X.blk s H scope (compEnvC scope cl C X.env) fp) elt te) (hs : ∀ x, foldedSetIterable iter X.env x = pure x := by intro _; rfl) :
    PE X (.ListComp elt [⟨tg, iter, ifs, 0⟩] scope pos) (tLc wi g tt te (own.map (·.2))) := by
  refine ⟨fun pins s σ H Q I h => ?_⟩
  rw [eval_ListComp]
  obtain ⟨p, hot, hp⟩ := hc
  have hfree : ∀ y ∈ scope.names, y.2 = .free → ∃ c, X.env.cells.lookup y.1 = some c := fun y hy e => by
    rcases ok.free y hy e with k | k
    · exact I.ok.has _ (.inl k)
    · exact I.ok.has _ (.inr k)
  refine wpAny_comprehension_free rfl hs (closure_ok hfree) ok.kind (fun y hy e => by rw [ok.uniq y hy, e])
    (thn (hi.run pins s σ H _ I h) fun xv s1 hx => thn hx fun itv s2 h2 => ?_)
  obtain ⟨it, fp, tn, J, H2, e, I2, T, st2, f2, q⟩ := h2
  subst e
  refine wpAny_newObj_type (newEnv_comp ?_) (by show 0 ≤ sizeLine; decide)
  generalize hD : s2.heap.objs.size = D
  have hDn : H2 D = none := I2.hok.fresh (Nat.le_of_eq hD)
  obtain ⟨W, ⟨m0, w0⟩, turn⟩ := q D hDn
  generalize hs3 : ({ s2 with heap := s2.heap.push { cls := .type "list", data := .seq ([] : List Value).toArray } } : Shared) = s3
  have I3 : Inv X pins σ (upd H2 D (.lst [])) s3 := by
    rw [← hs3]
    refine I2.laid (t' := s2.toks) (fun b o e => Heap.get?_push_of_some _ e) (Nat.le_of_eq hD) ⟨Nat.zero_le _, [], 0, .nil, ?_⟩
    rw [← hD]
    exact Heap.get?_push_size _ rfl
  have h3 : s3.heap = s2.heap.push { cls := .type "list", data := .seq ([] : List Value).toArray } := by rw [← hs3]
  have f3 : ∀ b ∈ fp, FpOk X pins (upd H2 D (.lst [])) b ∧ b < s3.heap.objs.size := fun b hb => by
    obtain ⟨o, e, _⟩ := T.obj _ _ st2 b hb
    have hlt := Heap.lt_size e
    refine ⟨⟨?_, (f2 b hb).2⟩, by rw [h3, Heap.size_push]; exact Nat.lt_succ_of_lt hlt⟩
    rw [upd_ne (by rw [← hD]; exact Nat.ne_of_lt hlt)]
    exact (f2 b hb).1
  have st3 : tn 0 s3.heap := T.keep _ _ _ st2 fun b _ o e => by rw [h3]; exact Heap.get?_push_of_some _ e
  have I4 := block_start I3 ok hN f3
  have pin3 := I3.pin p (List.mem_append_left _ hp)
  have pg := hg s3 (upd H2 D (.lst [])) s3.heap.objs.size (cellsFrom (s3.heap.objs.size + 1) scope.names (cloFrom X.env.cells scope.names [])) fp
  have pt := ht s3 (upd H2 D (.lst [])) s3.heap.objs.size (cellsFrom (s3.heap.objs.size + 1) scope.names (cloFrom X.env.cells scope.names [])) fp
  have pe := he s3 (upd H2 D (.lst [])) s3.heap.objs.size (cellsFrom (s3.heap.objs.size + 1) scope.names (cloFrom X.env.cells scope.names [])) fp
  show codeAny _ _ (.compStart (.ListComp elt [⟨tg, iter, ifs, 0⟩] scope pos) 0 (.ref it) (.ref D) (compEnvC scope (cellsFrom (s3.heap.objs.size + 1) scope.names (cloFrom X.env.cells scope.names [])) s3.heap.objs.size X.env)) _ { s3 with heap := pushCells (s3.heap.push { cls := .type "dict", data := .dict #[] }) scope.names }
  have nfp : ∀ b ∈ fp, (upd H2 D (.lst [])) b = none := fun b hb => (f3 b hb).1.1
  have pin4 : ({ s3 with heap := pushCells (s3.heap.push { cls := .type "dict", data := .dict #[] }) scope.names } : Shared).heap.get? p.1 = some p.2 := pushCells_keeps _ _ _ _ (Heap.get?_push_of_some _ pin3.1)
  have pinS : p.1 < s3.heap.objs.size := Heap.lt_size pin3.1
  generalize hce : compEnvC scope (cellsFrom (s3.heap.objs.size + 1) scope.names (cloFrom X.env.cells scope.names [])) s3.heap.objs.size X.env = ce at I4 pg pt pe ⊢
  have cL : ce.locals = s3.heap.objs.size := by subst hce; rfl
  generalize hH3 : upd H2 D (.lst []) = H3 at I3 I4 pg pt pe w0 nfp f3 pin3
  generalize hs4 : ({ s3 with heap := pushCells (s3.heap.push { cls := .type "dict", data := .dict #[] }) scope.names } : Shared) = s4 at I4 pin4 ⊢
  have st4 : tn 0 s4.heap := T.keep _ _ _ st3 fun b _ o e => by rw [← hs4]; exact pushCells_keeps _ _ _ _ (Heap.get?_push_of_some _ e)
  have I4' : Inv (X.blk s3 H3 scope ce fp) [p] (wipe σ (own.map (·.2))) H3 s4 := inv_pin I4 ⟨pin4, pin3.2.1, by show p.1 ≠ ce.locals; rw [cL]; exact Nat.ne_of_lt pinS, fun hm => (List.mem_cons.mp (I3.stkSub p.1 hm)).elim pin3.2.2.1 pin3.2.2.2.1, pin3.2.2.2.2⟩
  have stat : ∀ {σ' : L2.St} {H' : Hp} {s' : Shared}, Inv (X.blk s3 H3 scope ce fp) [p] σ' H' s' → (∀ b ∈ fp, H' b = none) → ∀ b ∈ fp, FpOk (X.blk s3 H3 scope ce fp) [p] H' b := fun {σ' H' s'} I' hn b hb =>
    ⟨hn b hb, (I'.ok.exf b hb).1, I'.ok.exfs b hb, .inl hb, fun x c e => (I'.ok.exf b hb).2 x c e, fun q hq => by
      have eq : q = p := by simpa using (show q ∈ ([] : List (Addr × Obj)) ++ [p] from hq)
      rw [eq]
      exact (f3 b hb).1.2.2.2.2.2 p (List.mem_append_left _ hp)⟩
  let Xt : Cx := (X.blk s3 H3 scope ce fp).tr ([] ++ [p]) (fun _ _ => False)
  have hotT : HotC Xt := ⟨p, hot, List.mem_append_right _ (List.mem_singleton.mpr rfl)⟩
  have statT : ∀ {H' : Hp}, (∀ b ∈ fp, FpOk (X.blk s3 H3 scope ce fp) [p] H' b) → ∀ b ∈ fp, FpOk Xt [] H' b := fun {H'} hn b hb => by
    obtain ⟨a1, a2, a3, a4, a5, a6⟩ := hn b hb
    exact ⟨a1, a2, a3, a4, a5, fun q hq => a6 q (by rw [List.append_nil] at hq; exact hq)⟩
  have loop : codeAny (model X.prog X.w) X.A (.compLoop (.ListComp elt [⟨tg, iter, ifs, 0⟩] scope pos) 0 (.ref it) (.ref D) ce) (compPost (model X.prog X.w) X.A X.xe none (EP X pins σ Q) (.ref D) s3.heap.objs.size) s4 := by
    refine compLoop_any (fun n s' => ∃ i H', Inv (X.blk s3 H3 scope ce fp) [p] (wipe σ (own.map (·.2))) H' s' ∧ tn i s'.heap ∧ (∀ b ∈ fp, H' b = none) ∧ W i n H') ?_ m0 ⟨0, H3, I4', st4, nfp, w0⟩
    rintro n s5 ⟨i, H5, I5, st5, n5, w5⟩
    rcases turn i n H5 w5 with ⟨stop, qq⟩ | ⟨go, Nx, hNx, step⟩
    · have td := T.done Xt rfl rfl rfl hotT i [] s5 _ H5 (fun _ _ => False) (I5.toTry _) (statT (stat I5 n5)) st5 stop
      refine thnG td fun r s6 ⟨hr, I6'⟩ => ?_
      have I6 := I6'.ofTry (X := X.blk s3 H3 scope ce fp) (pins := [p]) I5.ok
      subst hr
      have I7 : Inv X pins σ H5 s6 := I3.call' (ch := fp) I6.os I6.base I6.hok I6.bare fun b hb => ⟨(f3 b hb).1.2.2.2.1, (f3 b hb).1.2.1, (f3 b hb).1.2.2.2.2.1, (f3 b hb).1.2.2.2.2.2⟩
      have nC : H5 s3.heap.objs.size = none := by
        have z : H5 ce.locals = none := I6.free
        rw [cL] at z
        exact z
      obtain ⟨m, hn, _⟩ := I6.loc
      have hn : s6.heap.Ns ce.locals m := hn
      rw [cL] at hn
      have f := I3.fpOk (Nat.le_refl _) nC
      refine ⟨m, hn, fun h'' sb => ?_⟩
      obtain ⟨g0, g1, g2, g3, g4, g5⟩ := f
      exact ⟨.ref D, H5, I7.turned (t' := s6.toks) (fun b o hb e => (sb.2 b hb).trans e) g0 g1 g3 g4 g5, rfl, qq⟩
    · have ti := T.item Xt rfl rfl rfl hotT i [] s5 _ H5 (fun _ _ => False) (I5.toTry _) (statT (stat I5 n5)) st5 go
      refine thnG ti fun r s6 ⟨u, hr, h6⟩ => ?_
      subst hr
      refine thnG h6 fun _ s7 ⟨x, H7, I7', r7, y7, st7, n7⟩ => ?_
      have I7 := I7'.ofTry (X := X.blk s3 H3 scope ce fp) (pins := [p]) I5.ok
      have J7 := I7.pinned (stat I7 n7) (T.obj _ _ st7)
      refine thnG (pg.run _ s7 _ H7 x u _ J7 r7 (step x H7 y7)) fun _ s8 ⟨σ8, H8, I8, hw8, q8⟩ => ?_
      refine thnG (pt.run _ s8 σ8 H8 _ I8 q8) fun b s9 ⟨H9, I9, q9⟩ => ?_
      have fin : ∀ {s' : Shared} {H' : Hp}, Inv (X.blk s3 H3 scope ce fp) ([p] ++ pinsAt fp s7.heap) σ8 H' s' → Nx H' → ∃ m, m < n ∧ ∃ i H', Inv (X.blk s3 H3 scope ce fp) [p] (wipe σ (own.map (·.2))) H' s' ∧ tn i s'.heap ∧ (∀ b ∈ fp, H' b = none) ∧ W i m H' := fun {s' H'} I' nx => by
        obtain ⟨m', hm, w'⟩ := hNx H' nx
        have pin' : ∀ b ∈ fp, ∀ o, s7.heap.get? b = some o → s'.heap.get? b = some o ∧ H' b = none := fun b hb o e =>
          let z := I'.pin (b, o) (List.mem_append_right _ (List.mem_append_right _ (mem_pinsAt hb e)))
          ⟨z.1, z.2.1⟩
        have hl : (wipe σ (own.map (·.2))).length = σ8.length := by rw [← hw8, wipe_length]
        refine ⟨m', hm, i + 1, H', (I'.unpinned (pins := [p])).weak hl (fun j v e => ?_), T.keep _ _ _ st7 fun b hb o e => (pin' b hb o e).1, fun b hb => ?_, w'⟩
        · rw [← hw8] at e
          exact (wipe_some e).1
        · obtain ⟨o, e, _⟩ := T.obj _ _ st7 b hb
          exact (pin' b hb o e).2
      cases b with
      | false =>
        simp only [Bool.false_eq_true, if_false] at q9 ⊢
        exact fin I9 q9
      | true =>
        simp only [if_true] at q9 ⊢
        refine thnG (pe.run _ s9 σ8 H9 _ I9 q9) fun z s10 ⟨yv, H10, I10, r10, acc, hD10, hz10, nx⟩ => ?_
        exact app_ok (X := X.blk s3 H3 scope ce fp) I10 hD10 hz10 r10 fun s11 I11 => fin I11 nx
  exact codeAny_compStart_list loop (T.self X.A 0 _ _ _ st4 loop)
end
end Hx
namespace Hx
open PySem PySem.Spec PyProof.Rows L2 L2H HotX
/-! ### a def called in an except suite, which is told the exception that is handled -/
structure FnHp (P : Program) (w : World) (K : PySem.W.Frag) (mg : Str → Option Value) (base : Heap) (CX : CXT) (k : Nat) (f : Addr) (fd : FuncData) (ps : List Str) (p : Addr × Obj) (sp : Sp) : Prop where
  len : ∀ vs H Q E, sp vs H Q E → vs.length = ps.length
  run : ∀ (A : Around) (outer : List Env) (s : Shared) (H : Hp) (args : Args) (us : List Value) (vs : List V) (Q : VK) (E : XK), RoomH k A → Hot1 A p → PinOk outer H s p → Env0 P w K mg base A outer s H → BindsTo s fd args (ps.zip us) → Vals vs us → sp vs H Q E →
    codeAny (model P w) A (.call (.ref f) args) (CR CX outer P w H s Q E) s
theorem fn_ofHp {CX : CXT} {P : Program} {w : World} {K : PySem.W.Frag} {mg : Str → Option Value} {base : Heap} {k : Nat} {f : Addr} {name qual : Str} {params : Arguments} {body : List Stmt} {scope : Scope} {dV kV doc pm cdv ct oc : Value} {an od : Option Addr}
    {osl : Array (Option Value)} {N ps : List Str} {p : Addr × Obj} {sp : Sp} (lk : K.lookup f = some ⟨oc, od, .func (PySem.W.fnOf name qual params body scope dV kV doc pm an cdv ct), osl⟩) (hcd : PySem.W.codeIn K cdv qual = true) (S : FnScope N ps scope)
    (len : ∀ vs H Q E, sp vs H Q E → vs.length = ps.length)
    (hbody : ∀ (A : Around) (outer : List Env) (s : Shared) (H : Hp) (vs : List V) (Q : VK) (E : XK), Hot1 A p → RoomH k (A.deeper (envOfC qual scope s.heap.objs.size f cdv)) → sp vs H Q E →
      ∃ t, PSs (cxH CX P w K mg base N qual scope f cdv A outer s H E p) body t ∧ t { nx := fun _ H' => Q .non H', rt := Q } (L2.start N vs) H) :
    FnHp P w K mg base CX (k + 1) f (PySem.W.fnOf name qual params body scope dV kV doc pm an cdv ct) ps p sp := by
  refine ⟨len, fun A outer s H args us vs Q E hr hot hpin e0 hb r hsp => ?_⟩
  have hl := len _ _ _ _ hsp
  have st : ∀ b o, base.get? b = some o → s.heap.get? b = some o := fun b o e => (e0.bs b o e).1
  have KX : K.In s.heap := e0.mod.kin.keeps st
  have hkind : ∀ y ∈ ps.zip us, scope.names.lookup y.1 = some .local ∨ (scope.names.lookup y.1 = some .cell ∧ ((cellsFrom (s.heap.objs.size + 1) scope.names []).lookup y.1).isSome = true) := fun ⟨n, v⟩ hy =>
    (S.par n (List.of_mem_zip hy).1).imp id fun q => ⟨q, PySem.W.cellsFrom_some _ _ _ (.inl q)⟩
  refine codeAny_call_function hr.depth (KX _ _ lk) rfl S.co S.gen rfl (PySem.W.codeRec_of KX hcd) (hb _ _ _ _ ?_)
  refine wpAny_newFunctionEnv_cells S.kind hkind fun env he s1 x => ?_
  subst he
  refine ⟨(e0.mod.nolimit.keeps st).keeps x.toInCall.keep, codeAny_func ?_⟩
  obtain ⟨t, ht, hq⟩ := hbody A outer s H vs Q E hot (hr.deeper _) hsp
  refine wpAny_mono (ht.run [] s1 (L2.start N vs) H _ (inv_startH S hpin e0 hl r x) hq) (fun fl s' hs => ?_) fun e s' hs => hs
  cases fl with
  | ret u =>
    obtain ⟨v, σ', H', J, rv, q⟩ := hs
    exact ⟨v, H', J.os, J.bare, J.base, J.hok, rv, q⟩
  | next =>
    obtain ⟨σ', H', J, q⟩ := hs
    exact ⟨V.non, H', J.os, J.bare, J.base, J.hok, rfl, q⟩
  | brk =>
    obtain ⟨_, _, _, q⟩ := hs
    exact False.elim q
  | cont =>
    obtain ⟨_, _, _, q⟩ := hs
    exact False.elim q
section
variable {X : Cx} {CX : CXT} {k : Nat} {f : Addr} {fd : FuncData} {ps : List Str} {sp : Sp} {E : L2.St → XK} {x : Str} {q pos : Pos} {e : Expr} {es : List Expr} {t : TA} {p : Addr × Obj}
theorem pe_callHp (F : FnHp X.prog X.w X.K X.mg X.base CX k f fd ps p sp) (hr : RoomH k X.A) (hot : Hot1 X.A p) (hp : p ∈ X.pn) (hg : Gl X x) (hm : X.mg x = some (.ref f)) (hk : PySem.W.keepIn X.K (.ref f) = true) (hb : L2.Binds X.K fd ps []) (hx : ∀ σ, PassesAt CX X σ (E σ))
    (ha : PA X (e :: es) t) (hdb : (x == ("__debug__" : Str)) = false := by decide) (he : starEach (e :: es) X.env = (false, eval e X.env) :: starEach es X.env := by rfl) (hpl : (backTo pos (starEach es X.env)).any (·.1) = false := by rfl) :
    PE X (.Call (.Name x q) (e :: es) [] pos) (tCallS sp E t) := by
  refine ⟨fun pins s σ H Q I h => ?_⟩
  refine wpAny_Call_Name_kw (ld_glob I hg hm ?_ hdb)
  refine PySem.W.callWith_K (h₀ := X.base) I.ok.mod.kin hk (thn (ha.run pos pins s σ H _ I h) fun us s1 ⟨vs, H1, I1, r, q⟩ => ⟨I1.kIn, ?_⟩) he hpl
  have hl : us.length = ps.length := by rw [← r.length]; exact F.len _ _ _ _ q
  have b := hb s1 us I1.kIn (by rw [List.append_nil]; exact hl)
  rw [List.append_nil] at b
  have P1 := I1.pin p (List.mem_append_left _ hp)
  refine wpAny_call (codeAny_mono (F.run X.A X.stack s1 H1 ⟨us, []⟩ us vs Q (E σ) hr hot ⟨P1.1, P1.2.1, fun hm => (List.mem_cons.mp (I1.stkSub p.1 hm)).elim P1.2.2.1 P1.2.2.2.1, P1.2.2.2.2⟩ I1.env0 b r q) fun r s' hq => ?_)
  cases r with
  | error e => exact hx σ pins H1 s1 e s' I1 hq
  | ok fl =>
    cases fl with
    | ret u => exact I1.after hq
    | next => exact False.elim hq
    | brk => exact False.elim hq
    | cont => exact False.elim hq
/-- isinstance(e, c), e an exception that is pinned -/
theorem call_isP {a D : Addr} {oe : Obj} (C : ExcC X.K D) (hp : (a, oe) ∈ X.pn) (hz : oe.cls = .ref D ∧ oe.dict = none) (hf : ∃ vs, oe.data = .fields vs) : CallR X (.builtin "isinstance") (rIsE X.K D a) := by
  intro pins s σ H xs us Q I r h
  obtain ⟨c, cv, b, rfl, hcv, e, q⟩ := h
  cases r with
  | cons rx rr =>
    cases rr with
    | cons rt rr =>
      cases rr
      cases rx
      have ec := hcv _ rt
      subst ec
      obtain ⟨hget, _⟩ := I.pin (a, oe) (List.mem_append_left _ hp)
      obtain ⟨vs, hv⟩ := hf
      have J : PySem.W.InstAt s.heap a oe D none := by
        obtain ⟨oc, od, oda, osl⟩ := oe
        obtain ⟨h1, h2⟩ := hz
        dsimp only at h1 h2 hv
        subst h1 h2 hv
        exact ⟨hget, rfl, rfl, trivial⟩
      exact PySem.W.kia_one (PySem.W.handS_kitx_exc C.hg C.hk C.hs C.hd C.ha C.hn C.ht C.hm) I.kIn J e (fun z => nomatch z) fun tk => ⟨.bl b, H, I.kept (t' := tk) fun _ _ z => z, rfl, q⟩
end
end Hx
namespace Hx
open PySem PySem.Spec PyProof.Rows L2 LamX NdefX
/-! ### lambdas as values -/
/-- its words, the cells that it captured, its code object -/
structure LF where
  qual : Str
  params : Arguments
  body : Expr
  scope : Scope
  cl : List (Str × Addr)
  c : Addr
abbrev LF.fd (F : LF) (pm ctv : Value) : FuncData := PySem.W.kla_fn "<lambda>" F.qual F.params F.body F.scope F.cl pm (.ref F.c) ctv
/-- the object at f is the lambda F -/
def LamO (f : Addr) (F : LF) : HO := .ext fun h => ∃ (od : Option Addr) (sl : Array (Option Value)) (pm ctv : Value), h.get? f = some (⟨.type "function", od, .func (F.fd pm ctv), sl⟩ : Obj)
theorem lamO_ne {f : Addr} {F : LF} (ps : Array Value) : LamO f F ≠ .tbl ps := fun z => by
  unfold LamO at z
  cases z
theorem lamO_at {P : Program} {w : World} {H : Hp} {h : Heap} {f : Addr} {F : LF} (hok : HOk P w H h) (e : H f = some (LamO f F)) : ∃ (od : Option Addr) (sl : Array (Option Value)) (pm ctv : Value), h.get? f = some (⟨.type "function", od, .func (F.fd pm ctv), sl⟩ : Obj) := by
  obtain ⟨z, _, _⟩ := hok f _ e
  exact z
section
variable {X : Cx} {pins : List (Addr × Obj)} {σ : L2.St} {H : Hp} {s : Shared}
theorem inv_lam {F : LF} {t' : Nat} {pm ctv : Value} (I : Inv X pins σ H s) :
    Inv X pins σ (upd H s.heap.objs.size (LamO s.heap.objs.size F)) { s with heap := s.heap.push { cls := .type "function", data := .func (F.fd pm ctv) }, toks := t' } := by
  refine I.laid (a := s.heap.objs.size) (fun b u e => Heap.get?_push_of_some _ e) (Nat.le_refl _) ?_
  have e : (s.heap.push ({ cls := .type "function", data := .func (F.fd pm ctv) } : Obj)).get? s.heap.objs.size = some ({ cls := .type "function", data := .func (F.fd pm ctv) } : Obj) := Heap.get?_push_size _ rfl
  exact ⟨⟨_, _, pm, ctv, e⟩, ⟨_, e⟩, fun h1 h2 ⟨od, sl, p, t, z⟩ st => ⟨od, sl, p, t, st _ z⟩⟩
end
/-- the reading of a lambda: a new function object is known; tables grow -/
def tLamV (T : List NTab) (mk : Addr → LF) : TE := fun _ H Q => TabsN T H ∧ ∀ (f c' : Addr) (H1 : Hp), ExtN H H1 → (∀ b, H1 b = Option.none → H b = Option.none) → TabsN T H1 → H f = none → H1 f = some (LamO f (mk c')) → H1 c' = some (CodeO c' (mk c').qual) → Q (.ref f) H1
theorem pe_lam {X : Cx} {T : List NTab} {nm : Nat → Nat → Str} {c P : Addr} {params : Arguments} {body : Expr} {scope : Scope} {pos : Pos} (TB : TabB X.base X.mg c P) (hcode : X.env.code = .ref c) (hm : (P, nm) ∈ T) (hn : nm pos.line pos.col = X.env.qual ++ "<lambda>") (hu : ∀ p ∈ T, p.1 = P → p.2 = nm)
    (hdef : defaultsOf params X.env = ([], [])) (hfree : ∀ y ∈ scope.names, y.2 = .free → X.env.scope.names.lookup y.1 = some .cell ∨ X.env.scope.names.lookup y.1 = some .free) :
    PE X (.Lambda params body scope pos) (tLamV T fun c' => ⟨X.env.qual ++ "<lambda>", params, body, scope, cloFrom X.env.cells scope.names [], c'⟩) := by
  refine ⟨fun pins s σ H Q I h => ?_⟩
  obtain ⟨hT, h⟩ := h
  have hfr : ∀ y ∈ scope.names, y.2 = .free → ∃ c, X.env.cells.lookup y.1 = some c := fun y hy e => (hfree y hy e).elim (fun z => I.ok.has _ (.inl z)) fun z => I.ok.has _ (.inr z)
  obtain ⟨ps, hP, ht, ha⟩ := (show TabN H P nm from hT _ hm)
  have bP : s.heap.BuiltinsAt X.mg P := TB.bm.keeps I.bk
  have hP' : s.heap.get? P = some { cls := .none, data := .fields ps } := I.hok P _ hP
  refine PySem.W.kla_eval hdef ?_
  have fin : ∀ (f c' : Addr) (H1 : Hp) (s' : Shared), Inv X pins σ H1 s' → ExtN H H1 → (∀ b, H1 b = Option.none → H b = Option.none) → TabsN T H1 → H f = none → H1 f = some (LamO f ⟨X.env.qual ++ "<lambda>", params, body, scope, cloFrom X.env.cells scope.names [], c'⟩) → H1 c' = some (CodeO c' (X.env.qual ++ "<lambda>")) → EP X pins σ Q (.ref f) s' :=
    fun f c' H1 s' I1 e1 e2 e3 e4 e5 e6 => ⟨.ref f, H1, I1, rfl, h f c' H1 e1 e2 e3 e4 e5 e6⟩
  cases hc : codeAmong pos ps.toList with
  | none =>
    refine PySem.W.kla_makeFunction (mg := X.mg) (c := c) (P := P) (ps := ps) (closure_ok hfr) I.ok.glob (I.mod.glob.keeps I.bk) hcode (TB.code.keeps I.bk) hP' ht hc TB.gP bP fun c' ctv h' tk hx hge hlt hrec htb => ?_
    obtain ⟨c2, oc, vs, t, e2, hoc, hd, hv⟩ := hrec
    cases e2
    have nC : H c' = none := I.hok.fresh hge
    have I1 := inv_table (t' := tk) (more := #[rawInt pos.line, rawInt pos.col, .ref c']) (h' := h') I hP (fun b o hb e => hx b o hb e) htb hge ⟨oc, vs, t, hoc, hd, hv⟩
    have hE : ExtN H (upd (upd H P (.tbl (ps ++ #[rawInt pos.line, rawInt pos.col, .ref c']))) c' (CodeO c' (X.env.qual ++ "<lambda>"))) := fun b o e n => by
      rw [upd_ne (ne_of_none e nC), upd_ne (fun z => n ps (Option.some.inj (e.symm.trans (by rw [z]; exact hP))))]
      exact e
    have eL : (ps ++ #[rawInt pos.line, rawInt pos.col, .ref c']).toList = ps.toList ++ [rawInt pos.line, rawInt pos.col, .ref c'] := by simp
    have T1 : TabsN T (upd (upd H P (.tbl (ps ++ #[rawInt pos.line, rawInt pos.col, .ref c']))) c' (CodeO c' (X.env.qual ++ "<lambda>"))) := fun p hp => by
      by_cases hb : p.1 = P
      · rw [hu p hp hb, hb]
        refine ⟨_, by rw [upd_ne (ne_of_none hP nC), upd_same], by rw [eL]; exact PySem.TriplesOk_snoc _ _ _ _ ht, fun p' cv hcv => ?_⟩
        rw [eL] at hcv
        rcases among_app2 _ ht hcv with z | ⟨z, z1, z2⟩
        · obtain ⟨c0, e1, e2⟩ := ha p' cv z
          exact ⟨c0, e1, hE _ _ e2 codeO_ne⟩
        · refine ⟨c', z, ?_⟩
          rw [← z1, ← z2, hn]
          exact upd_same
      · obtain ⟨ps', a1, a2, a3⟩ := hT p hp
        refine ⟨ps', by rw [upd_ne (ne_of_none a1 nC), upd_ne hb]; exact a1, a2, fun p' cv hcv => ?_⟩
        obtain ⟨c0, e1, e2⟩ := a3 p' cv hcv
        exact ⟨c0, e1, hE _ _ e2 codeO_ne⟩
    have nF := I1.hok.fresh (Nat.le_refl _)
    have I2 := inv_lam (F := ⟨X.env.qual ++ "<lambda>", params, body, scope, cloFrom X.env.cells scope.names [], c'⟩) (t' := tk) (pm := (X.mg "__name__").getD .none) (ctv := ctv) I1
    refine fin h'.objs.size c' _ _ I2 (fun b o e n => ?_) (fun b e => upd_none (upd_none (upd_none e))) (T1.ext fun b o e => ?_) (I.hok.fresh (Nat.le_trans hge (Nat.le_of_lt hlt))) upd_same ?_
    · have e1 := hE b o e n
      exact (upd_ne (ne_of_none e1 nF)).trans e1
    · exact (upd_ne (ne_of_none e nF)).trans e
    · exact (upd_ne (Nat.ne_of_lt hlt)).trans upd_same
  | some cv =>
    obtain ⟨c', e, hco⟩ := ha pos cv hc
    subst e
    rw [hn] at hco
    refine PySem.W.kla_makeFunctionHit (mg := X.mg) (c := c) (P := P) (ps := ps) (closure_ok hfr) I.ok.glob (I.mod.glob.keeps I.bk) hcode (TB.code.keeps I.bk) hP' ht hc bP fun ctv h' tk hx hsz => ?_
    have I1 : Inv X pins σ H { s with heap := h', toks := tk } := I.kept hx
    have nF : H h'.objs.size = none := I1.hok.fresh (Nat.le_refl _)
    have I2 := inv_lam (F := ⟨X.env.qual ++ "<lambda>", params, body, scope, cloFrom X.env.cells scope.names [], c'⟩) (t' := tk) (pm := (X.mg "__name__").getD .none) (ctv := ctv) I1
    refine fin h'.objs.size c' _ _ I2 (fun b o e n => ?_) (fun b e => upd_none e) (hT.ext fun b o e => ?_) nF upd_same ?_
    · exact (upd_ne (ne_of_none e nF)).trans e
    · exact (upd_ne (ne_of_none e nF)).trans e
    · exact (upd_ne (ne_of_none hco nF)).trans hco
end Hx
namespace Hx
open PySem PySem.Spec PyProof.Rows L2 LamX NdefX
/-! ### a lambda called -/
abbrev LF.nf (F : LF) : NF := ⟨"<lambda>", F.qual, F.params, [], F.scope, F.cl, F.c⟩
/-- the promise of the lambda F at f: sp ws, ws what its captured cells hold at the call -/
structure LOk (P : Program) (w : World) (K : PySem.W.Frag) (mg : Str → Option Value) (base : Heap) (CX : CXT) (k : Nat) (f : Addr) (F : LF) (ps fr : List Str) (sp : List (Option V) → Sp) : Prop where
  len : ∀ ws vs H Q E, sp ws vs H Q E → vs.length = ps.length
  run : ∀ (A : Around) (outer : List Env) (s : Shared) (H : Hp) (us : List Value) (vs : List V) (ws : List (Option V)) (Q : VK) (E : XK), Room k A → Env0 P w K mg base A outer s H → H f = some (LamO f F) → H F.c = some (CodeO F.c F.qual) →
    CellsAt F.cl fr ws s.heap H → Vals vs us → sp ws vs H Q E → codeAny (model P w) A (.call (.ref f) ⟨us, []⟩) (CR CX outer P w H s Q E) s
section
variable {CX : CXT} {P : Program} {w : World} {K : PySem.W.Frag} {mg : Str → Option Value} {base : Heap} {N ps fr : List Str} {F : LF} {f : Addr} {k j : Nat} {sp sp' : List (Option V) → Sp}
theorem lok_of (S : NScope N ps fr F.scope) (hb : ∀ (pm ctv : Value) (us : List Value), us.length = ps.length → bindArgs (F.fd pm ctv) ⟨us, []⟩ = pure (ps.zip us)) (len : ∀ ws vs H Q E, sp ws vs H Q E → vs.length = ps.length)
    (hbody : ∀ (A : Around) (outer : List Env) (s : Shared) (H : Hp) (vs : List V) (ws : List (Option V)) (Q : VK) (E : XK), Room k (A.deeper (envF F.nf f s.heap.objs.size)) → ws.length = fr.length → sp ws vs H Q E →
      ∃ t, PE (ncx CX P w K mg base N F.nf f A outer s H E) F.body t ∧ t (startF N vs ws) H Q) :
    LOk P w K mg base CX (k + 1) f F ps fr sp := by
  refine ⟨len, fun A outer s H us vs ws Q E hr e0 hf hc C r hsp => ?_⟩
  have hl := len _ _ _ _ _ hsp
  have lim : s.heap.NoLimit := e0.mod.nolimit.keeps fun b o e => (e0.bs b o e).1
  obtain ⟨od, sl, pm, ctv, ho⟩ := lamO_at e0.hok hf
  refine PySem.W.kla_callFunE hr.depth ho rfl S.co S.gen rfl (codeO_at e0.hok hc) ?_
  rw [hb pm ctv us (by rw [← r.length]; exact hl)]
  refine wpAny_pure (wpAny_newFunctionEnv S.nocell (fun ⟨n, _⟩ hy => S.par n (List.of_mem_zip hy).1) (fun h₁ hns hsb => ⟨lim.fresh _ hsb, ?_⟩) S.kind)
  show codeAny _ _ (.expr F.body (envF F.nf f s.heap.objs.size)) _ _
  have kp : ∀ b o, s.heap.get? b = some o → h₁.get? b = some o := fun b o e => hsb.extBut b o (Nat.ne_of_lt (Heap.lt_size e)) (Heap.get?_push_of_some _ e)
  obtain ⟨t, ht, hq⟩ := hbody A outer s H vs ws Q E (hr.deeper _) C.len hsp
  have I : Inv (ncx CX P w K mg base N F.nf f A outer s H E) [] (startF N vs ws) H { s with heap := h₁, toks := s.toks + (ps.zip us).length } := inv_startN S hr.hd e0 hl r C hns kp
  refine PySem.W.kla_codeExpr (wpAny_mono (ht.run [] _ (startF N vs ws) H _ I hq) (fun v s' hs => ?_) fun e s' hs => hs)
  obtain ⟨v', H', J, rv, q⟩ := hs
  exact ⟨v', H', J.os, J.bare, J.base, J.hok, rv, q⟩
end
/-! ### what can be asked with one thing: a call of it raises -/
/-- a call of what stands at f, with v, raises C; whatever else is tracked by then -/
structure AskR (P : Program) (w : World) (K : PySem.W.Frag) (mg : Str → Option Value) (base : Heap) (k : Nat) (H : Hp) (f : Addr) (v : V) (C : Addr) : Prop where
  at_ : ∀ (H1 : Hp) (h : Heap), ExtN H H1 → HOk P w H1 h → K.In h → PySem.W.FnAt f h
  run : ∀ (A : Around) (outer : List Env) (s : Shared) (H1 : Hp) (u : Value), Room k A → Env0 P w K mg base A outer s H1 → ExtN H H1 → RelV v u →
    codeAny (model P w) A (.call (.ref f) ⟨[u], []⟩) (CR (L2N.CX P w) outer P w H1 s (fun _ _ => False) (fun cls d H2 => cls = .ref C ∧ d = none ∧ Same H1 H2)) s
section
variable {P : Program} {w : World} {K : PySem.W.Frag} {mg : Str → Option Value} {base : Heap} {k : Nat} {H : Hp} {f C : Addr} {v : V}
theorem AskR.ext {H' : Hp} (a : AskR P w K mg base k H f v C) (e : ExtN H H') : AskR P w K mg base k H' f v C :=
  ⟨fun H1 h e1 => a.at_ H1 h (e.trans e1), fun A outer s H1 u hr e0 e1 => a.run A outer s H1 u hr e0 (e.trans e1)⟩
theorem AskR.mono {j : Nat} (a : AskR P w K mg base j H f v C) (h : j ≤ k) : AskR P w K mg base k H f v C :=
  ⟨a.at_, fun A outer s H1 u hr => a.run A outer s H1 u (hr.mono h)⟩
/-- by a lambda that captures nothing -/
theorem ask_lam {F : LF} {x : Str} {sp : Sp} (o : LOk P w K mg base (L2N.CX P w) k f F [x] [] (fun _ => sp)) (hcl : F.cl = []) (hf : H f = some (LamO f F)) (hc : H F.c = some (CodeO F.c F.qual))
    (h : ∀ H1, ExtN H H1 → sp [v] H1 (fun _ _ => False) (fun cls d H2 => cls = .ref C ∧ d = none ∧ Same H1 H2)) : AskR P w K mg base k H f v C := by
  refine ⟨fun H1 hp e1 hok _ => ?_, fun A outer s H1 u hr e0 e1 ru => ?_⟩
  · obtain ⟨od, sl, pm, ctv, ho⟩ := lamO_at hok (e1 _ _ hf lamO_ne)
    exact ⟨_, od, _, sl, ho⟩
  · refine o.run A outer s H1 [u] [v] [] _ _ hr e0 (e1 _ _ hf lamO_ne) (e1 _ _ hc codeO_ne) ⟨rfl, fun y c e => ?_, fun x y c e => ?_, fun i y e => ?_⟩ (.cons ru .nil) (h H1 e1)
    · rw [hcl] at e; cases e
    · rw [hcl] at e; cases e
    · cases e
/-- by a def of the module -/
theorem ask_def {fd : FuncData} {x : Str} {sp : Sp} {oc : Value} {od : Option Addr} {osl : Array (Option Value)} (o : FnOk P w K mg base (L2N.CX P w) k f fd [x] sp) (lk : K.lookup f = some ⟨oc, od, .func fd, osl⟩) (hb : L2.Binds K fd [x] [])
    (h : ∀ H1, ExtN H H1 → sp [v] H1 (fun _ _ => False) (fun cls d H2 => cls = .ref C ∧ d = none ∧ Same H1 H2)) : AskR P w K mg base k H f v C := by
  refine ⟨fun H1 hp e1 hok KX => ⟨_, _, _, _, KX _ _ lk⟩, fun A outer s H1 u hr e0 e1 ru => ?_⟩
  have KX : K.In s.heap := e0.mod.kin.keeps fun b o e => (e0.bs b o e).1
  exact o.run A outer s H1 ⟨[u], []⟩ [u] [v] _ _ hr e0 (hb s [u] KX rfl) (.cons ru .nil) (h H1 e1)
end
end Hx
namespace Hx
open PySem PySem.Spec PyProof.Rows L2 LamX NdefX
/-! ### ask(thing), ask a local name: it raises -/
def tAsk (P : Program) (w : World) (K : PySem.W.Frag) (mg : Str → Option Value) (base : Heap) (k i : Nat) (W : WX) (t : TA) : TE := fun σ H _ => ∃ f v C, σ[i]? = some (some (.ref f)) ∧ AskR P w K mg base k H f v C ∧
  t σ H fun vs H1 => vs = [v] ∧ ExtN H H1 ∧ ∀ H2, Same H1 H2 → W (.ref C) none σ H2
theorem pe_ask {X : Cx} {W : WX} {k i : Nat} {x : Str} {e : Expr} {t : TA} {p pos : Pos} (tk : L2N.Takes X W) (hr : Room k X.A) (hN : X.N[i]? = some x) (hv : Vis X.env.scope x) (ha : PA X [e] t)
    (hd : (x == ("__debug__" : Str)) = false := by decide) (hcd : (x == ("__classdict__" : Str)) = false := by decide)
    (he : starEach [e] X.env = (false, eval e X.env) :: starEach [] X.env := by rfl) (hpl : (backTo pos (starEach [] X.env)).any (·.1) = false := by rfl) :
    PE X (.Call (.Name x p) [e] [] pos) (tAsk X.prog X.w X.K X.mg X.base k i W t) := by
  refine ⟨fun pins s σ H Q I h => ?_⟩
  obtain ⟨f, v, C, hs, ask, ht⟩ := h
  refine wpAny_Call_Name_kw (thn ((pe_var (pos := p) hN hv hd hcd).run pins s σ H (fun v H1 => v = .ref f ∧ H1 = H) I ⟨.ref f, hs, rfl, rfl⟩) fun u s1 ⟨v1, H1, I1, r1, q1⟩ => ?_)
  obtain ⟨ev, eH⟩ := q1
  subst ev
  rw [eH] at I1
  obtain rfl : u = Value.ref f := r1
  refine PySem.W.callWith_F (first := []) (ask.at_ H _ (ExtN.refl H) I1.hok I1.kIn) (thn (ha.run pos pins s1 σ H _ I1 ht) fun us s2 ⟨vs, H2, I2, r, e1, e2, hW⟩ => ⟨ask.at_ H2 _ e2 I2.hok I2.kIn, ?_⟩) he hpl
  subst e1
  obtain ⟨u, rfl, ru⟩ : ∃ u, us = [u] ∧ RelV v u := by
    cases r with
    | cons ru rr =>
      cases rr
      exact ⟨_, rfl, ru⟩
  · show wpAny _ _ (call (.ref f) [u]) _ _ _
    refine wpAny_call (codeAny_mono (ask.run X.A X.stack s2 H2 u hr I2.env0 e2 ru) fun r s' hq => ?_)
    cases r with
    | error e =>
      refine tk e s' (L2N.XE.of_call I2 (fun cls d H' hE => ?_) hq)
      obtain ⟨rfl, rfl, sm⟩ := hE
      exact hW H' sm
    | ok fl =>
      cases fl with
      | ret u =>
        obtain ⟨_, _, _, _, _, _, _, z⟩ := hq
        exact z.elim
      | next => exact False.elim hq
      | brk => exact False.elim hq
      | cont => exact False.elim hq
/-- what is never reached -/
theorem ps_nev {X : Cx} {st : Stmt} : PS X st (fun _ _ _ => False) := ⟨fun _ _ _ _ _ _ h => h.elim⟩
theorem pss_nev {X : Cx} {ss : List Stmt} : PSs X ss (fun _ _ _ => False) := ⟨fun _ _ _ _ _ _ h => h.elim⟩
theorem pe_nev {X : Cx} {e : Expr} : PE X e (fun _ _ _ => False) := ⟨fun _ _ _ _ _ _ h => h.elim⟩
end Hx
namespace Hx
open PySem PySem.Spec PyProof.Rows L2 L2H LamX NdefX
section
variable {P : Program} {w : World} {K : PySem.W.Frag} {mg : Str → Option Value} {base : Heap}
/-- as Fun.ok, for a def called in an except suite, told the handled exception -/
theorem okHp {x qual : Str} {st : Stmt} {f : Addr} {fd : FuncData} {N ps : List Str} {k : Nat} {p : Addr × Obj} {sp : Sp} (F : L2.Fun K x qual st f fd) (S : FnScope N ps (defScope st)) (len : ∀ vs H Q E, sp vs H Q E → vs.length = ps.length)
    (hbody : ∀ (cdv : Value) (A : Around) (outer : List Env) (s : Shared) (H : Hp) (vs : List V) (Q : VK) (E : XK), Hot1 A p → RoomH k (A.deeper (envOfC qual (defScope st) s.heap.objs.size f cdv)) → sp vs H Q E →
      ∃ t, PSs (cxH CX0 P w K mg base N qual (defScope st) f cdv A outer s H E p) (defBody st) t ∧ t { nx := fun _ H' => Q .non H', rt := Q } (start N vs) H) : FnHp P w K mg base CX0 (k + 1) f fd ps p sp := by
  obtain ⟨oc, od, kV, doc, pm, an, cdv, ct, osl, rfl, lk, hcd⟩ := F.ex
  exact fn_ofHp lk hcd S len fun A outer s H vs Q E hot hr hsp => hbody cdv A outer s H vs Q E hot hr hsp
/-- as Fun.okX, the exceptions' contexts are None -/
theorem okN {x qual : Str} {st : Stmt} {f : Addr} {fd : FuncData} {N ps : List Str} {k : Nat} {sp : Sp} (F : L2.Fun K x qual st f fd) (S : FnScope N ps (defScope st)) (len : ∀ vs H Q E, sp vs H Q E → vs.length = ps.length)
    (hbody : ∀ (cdv : Value) (A : Around) (outer : List Env) (s : Shared) (H : Hp) (vs : List V) (Q : VK) (E : XK), Room k (A.deeper (envOfC qual (defScope st) s.heap.objs.size f cdv)) → sp vs H Q E →
      ∃ t, PSs (cxOf (L2N.CX P w) P w K mg base N qual (defScope st) f cdv A outer s H E) (defBody st) t ∧ t { nx := fun _ H' => Q .non H', rt := Q } (start N vs) H) : FnOk P w K mg base (L2N.CX P w) (k + 1) f fd ps sp := by
  obtain ⟨oc, od, kV, doc, pm, an, cdv, ct, osl, rfl, lk, hcd⟩ := F.ex
  exact fn_of lk hcd S len fun A outer s H vs Q E hr hsp => hbody cdv A outer s H vs Q E hr hsp
/-- as Fun.ok, the code object known -/
theorem okC {x qual : Str} {st : Stmt} {f : Addr} {fd : FuncData} {N ps : List Str} {k : Nat} {sp : Sp} {cd : Value} (F : L2.Fun K x qual st f fd) (hcode : fd.code = cd) (S : FnScope N ps (defScope st)) (len : ∀ vs H Q E, sp vs H Q E → vs.length = ps.length)
    (hbody : ∀ (A : Around) (outer : List Env) (s : Shared) (H : Hp) (vs : List V) (Q : VK) (E : XK), Room k (A.deeper (envOfC qual (defScope st) s.heap.objs.size f cd)) → sp vs H Q E →
      ∃ t, PSs (cxOf CX0 P w K mg base N qual (defScope st) f cd A outer s H E).nox (defBody st) t ∧ t { nx := fun _ H' => Q .non H', rt := Q } (start N vs) H) : FnOk P w K mg base CX0 (k + 1) f fd ps sp := by
  obtain ⟨oc, od, kV, doc, pm, an, cdv, ct, osl, rfl, lk, hcd⟩ := F.ex
  have e : cdv = cd := hcode
  subst e
  refine fn_of lk hcd S len fun A outer s H vs Q E hr hsp => ?_
  obtain ⟨t, h, q⟩ := hbody A outer s H vs Q E hr hsp
  exact ⟨t, h.nox, q⟩
end
theorem kit_bt {K : PySem.W.Frag} {C : Addr} {n : String} {b : Bool} (h : PySem.W.kitCls K (.ref C) (.type n) = some b) : PySem.W.kitOne K (.ref C) (.type n) = some b := by
  unfold PySem.W.kitOne
  rw [if_neg (by intro z; cases eq_of_beq z)]
  exact h
end Hx
namespace Hx
open PySem PySem.Spec PyProof.Rows L2 LamX NdefX
/-! ### lambdas: what they may capture; a call that raises, by the body's reading; the end with tables -/
def lfB (sc esc : Scope) : Bool := sc.names.all fun y => !decide (y.2 = .free) || decide (esc.names.lookup y.1 = some .cell) || decide (esc.names.lookup y.1 = some .free)
theorem lf_of {sc esc : Scope} (h : lfB sc esc = true) : ∀ y ∈ sc.names, y.2 = .free → esc.names.lookup y.1 = some .cell ∨ esc.names.lookup y.1 = some .free := fun y hy e => by
  have z := List.all_eq_true.mp h y hy
  simp only [Bool.or_eq_true, Bool.not_eq_true', decide_eq_true_eq, decide_eq_false_iff_not] at z
  rcases z with (z | z) | z
  · exact absurd e z
  · exact .inl z
  · exact .inr z
section
variable {P : Program} {w : World} {K : PySem.W.Frag} {mg : Str → Option Value} {base : Heap} {k : Nat} {H : Hp} {f C : Addr} {v : V}
theorem ask_of {F : LF} {x : Str} (S : NScope [x] [x] [] F.scope) (hb : ∀ (pm ctv : Value) (us : List Value), us.length = 1 → bindArgs (F.fd pm ctv) ⟨us, []⟩ = pure ([x].zip us)) (hcl : F.cl = []) (hf : H f = some (LamO f F)) (hc : H F.c = some (CodeO F.c F.qual))
    (hbody : ∀ (A : Around) (outer : List Env) (s : Shared) (H1 : Hp), Room k (A.deeper (envF F.nf f s.heap.objs.size)) → ExtN H H1 →
      ∃ t, PE (ncx (L2N.CX P w) P w K mg base [x] F.nf f A outer s H1 (fun cls d H2 => cls = .ref C ∧ d = none ∧ Same H1 H2)) F.body t ∧ t [some v] H1 (fun _ _ => False)) : AskR P w K mg base (k + 1) H f v C := by
  let sp : Sp := fun vs H1 Q E => vs = [v] ∧ ExtN H H1 ∧ Q = (fun _ _ => False) ∧ E = (fun cls d H2 => cls = .ref C ∧ d = none ∧ Same H1 H2)
  have o : LOk P w K mg base (L2N.CX P w) (k + 1) f F [x] [] (fun _ => sp) := lok_of S hb (fun ws vs H Q E h => by rw [h.1]; rfl) fun A outer s H1 vs ws Q E hr hw h => by
    obtain ⟨e1, e2, e3, e4⟩ := h
    subst e1 e3 e4
    have e5 : ws = [] := List.eq_nil_of_length_eq_zero hw
    subst e5
    exact hbody A outer s H1 hr e2
  exact ask_lam o hcl hf hc fun H1 e => ⟨rfl, e, rfl, rfl⟩
end
/-- as LamX.walk_ofTs; the top is handed on -/
theorem walk_ofTT {l : PySem.W.OpenLaw} {n k : Nat} {q : Program} {loose : List Str} {XP : (Str → Option Value) → Heap → Prop} {YP : World → Heap → Prop} {d : DefRec} {K : Params → PySem.W.Frag} {CX : World → CXT} {x : Str}
    (hn : l.most = some n) (hn2 : n ≤ sizeLine) (hdf : d.params.defaults = []) (hr : Room k callerA) (hY : ∀ (w : World) (h : Heap), YP w h → (K w.params).In h)
    (F : ∀ (w : World) (mg mb : Str → Option Value) (mean : ExcName → Option Value) (ls : List Str) (fa : Addr) (h : Heap), Top q ls mean mg mb h → (K w.params).In h → h.Ns mainGlobals mg → mg d.name = some (.ref fa) → LawAtS l w (K w.params) (CX w) k n x mg fa h)
    (hCX : ∀ (w : World) (H : Hp) (s : Shared) (e : Value) (s' : Shared), CX w [] H s (fun _ _ _ => False) e s' → False) :
    PySem.W.WalkO q loose XP YP l.row.toRowW d [] (fun f vs => PySem.call f vs) := by
  refine Att.attach_callB hn hdf fun w s₀ s₁ mg mb fa o pm cd doc a vs ns G Y ho hd hcd hmg hobj hints hlen hbits hg => ?_
  have KX := hY w _ Y
  obtain ⟨fd, cs, sp, hT, nT, C, hb, hsp, hF⟩ := F w mg mb _ _ fa _ G.T KX G.T.g hmg
  exact law_callTs KX G.T.g G.T.b G.T.builtins G.T.nolimit hg hT nT C G.T.bmain hobj hints (Nat.le_trans hlen hn2) hr hF hb (fun H hH hS => hsp H a ns hlen hbits hH hS) fun H e s' => hCX w H s₁ e s'
/-- a def of the top: its code object, its table -/
theorem tab_at {q : Program} {ls : List Str} {mean : ExcName → Option Value} {mg mb : Str → Option Value} {h : Heap} {K : PySem.W.Frag} {x : Str} {c P : Addr} (T : Top q ls mean mg mb h) (X : K.In h) (hr : ((recsOf q).find? (fun e => e.name == x)).isSome = true) (ht : PySem.W.tabIn K x = some (c, P)) :
    PySem.W.CodeHd h c P ∧ h.get? P = some { cls := .none, data := .fields #[] } := by
  obtain ⟨d, e⟩ := Option.isSome_iff_exists.mp hr
  exact PySem.W.tab_of T X e ht
end Hx
namespace Hx
open PySem PySem.Spec PyProof.Rows L2 LamX NdefX
/-! ### a lambda that captures nothing, its name told outright (for comprehensions) -/
def nfB (sc : Scope) : Bool := sc.names.all fun y => !decide (y.2 = .free)
theorem nf_of {sc : Scope} (h : nfB sc = true) {y : Str × NameKind} (hy : y ∈ sc.names) (e : y.2 = .free) : False := by
  have z := List.all_eq_true.mp h y hy
  rw [decide_eq_true e] at z
  cases z
theorem clo_nil {cells : List (Str × Addr)} {sc : Scope} (h : nfB sc = true) : cloFrom cells sc.names [] = [] := by
  rw [List.eq_nil_iff_forall_not_mem]
  intro p hp
  rcases cloFrom_mem (n := p.1) (c := p.2) hp with z | z
  · cases z
  · exact nf_of h z.1 rfl
theorem pe_lam0 {X : Cx} {T : List NTab} {nm : Nat → Nat → Str} {c P : Addr} {params : Arguments} {body : Expr} {scope : Scope} {pos : Pos} (q : Str) (TB : TabB X.base X.mg c P) (hcode : X.env.code = .ref c) (hm : (P, nm) ∈ T) (hq : X.env.qual ++ "<lambda>" = q) (hn : nm pos.line pos.col = q) (hu : ∀ p ∈ T, p.1 = P → p.2 = nm)
    (hdef : defaultsOf params X.env = ([], [])) (hf : nfB scope = true) : PE X (.Lambda params body scope pos) (tLamV T fun c' => ⟨q, params, body, scope, [], c'⟩) := by
  subst hq
  have h := pe_lam (X := X) (T := T) (nm := nm) (params := params) (body := body) (scope := scope) (pos := pos) TB hcode hm hn hu hdef fun y hy e => (nf_of hf hy e).elim
  rw [clo_nil hf] at h
  exact h
end Hx
namespace Hx
open PySem PySem.Spec PyProof.Rows L2 LamX NdefX
/-! ### a cell that a lambda captured, told to what is called: the object at c is just o -/
def PinO (c : Addr) (o : Obj) : HO := .ext fun h => h.get? c = some o
theorem pinO_ne {c : Addr} {o : Obj} (ps : Array Value) : PinO c o ≠ .tbl ps := fun z => by
  unfold PinO at z
  cases z
def dl (H : Hp) (c : Addr) : Hp := fun b => if b = c then none else H b
theorem dl_self {H : Hp} {c : Addr} : dl H c c = none := if_pos rfl
theorem dl_ne {H : Hp} {b c : Addr} (h : b ≠ c) : dl H c b = H b := if_neg h
theorem dl_none {H : Hp} {b c : Addr} (h : H b = none) : dl H c b = none := by
  by_cases z : b = c
  · rw [z]; exact dl_self
  · rw [dl_ne z]; exact h
section
variable {P : Program} {w : World} {K : PySem.W.Frag} {mg : Str → Option Value} {base : Heap} {H : Hp} {h : Heap} {c : Addr} {o : Obj} {A : Around} {outer : List Env} {s : Shared}
theorem pinO_at (hok : HOk P w H h) (e : H c = some (PinO c o)) : h.get? c = some o := by
  obtain ⟨z, _, _⟩ := hok c _ e
  exact z
theorem pinO_ok (e : h.get? c = some o) : ObjOk P w H h c (PinO c o) := ⟨e, ⟨o, e⟩, fun _ _ p st => st o p⟩
theorem dl_some {b : Addr} {u : HO} (e : dl H c b = some u) : b ≠ c ∧ H b = some u := by
  by_cases z : b = c
  · rw [z, dl_self] at e; cases e
  · rw [dl_ne z] at e; exact ⟨z, e⟩
theorem hok_dl (x : HOk P w H h) (e : H c = some (PinO c o)) : HOk P w (dl H c) h := fun a u ha => by
  obtain ⟨n, ha⟩ := dl_some ha
  refine (x a u ha).stay (fun _ _ _ q => q) (fun b q => ?_) fun b xs q => ?_
  · rw [dl_ne (fun z => by rw [z, e] at q; unfold PinO at q; cases q)]; exact q
  · rw [dl_ne (fun z => by rw [z, e] at q; unfold PinO at q; cases q)]; exact q
theorem hok_up (x : HOk P w H h) (n : H c = none) (e : h.get? c = some o) : HOk P w (upd H c (PinO c o)) h := fun b u q => by
  by_cases hb : b = c
  · subst hb
    rw [upd_same] at q
    cases q
    exact pinO_ok e
  · rw [upd_ne hb] at q
    exact (x b u q).stay (fun _ _ _ q => q) (fun a q => by rw [upd_ne (ne_of_none q n)]; exact q) fun a xs q => by rw [upd_ne (ne_of_none q n)]; exact q
theorem env0_dl (e0 : Env0 P w K mg base A outer s H) (e : H c = some (PinO c o)) : Env0 P w K mg base A outer s (dl H c) :=
  ⟨e0.frames, e0.mod, fun b u q => ⟨(e0.bs b u q).1, dl_none (e0.bs b u q).2⟩, e0.bsz, e0.funs, fun b hb => dl_none (e0.frf b hb), hok_dl e0.hok e, e0.bare⟩
theorem env0_up (e0 : Env0 P w K mg base A outer s H) (hc : s.heap.get? c = some o) (n : H c = none) (nf : c ∉ frs outer) (nb : base.get? c = none) : Env0 P w K mg base A outer s (upd H c (PinO c o)) :=
  ⟨e0.frames, e0.mod, fun b u q => ⟨(e0.bs b u q).1, by rw [upd_ne (fun z => by rw [z, nb] at q; cases q)]; exact (e0.bs b u q).2⟩, e0.bsz, e0.funs, fun b hb => by rw [upd_ne (fun z => nf (by rw [← z]; exact hb))]; exact e0.frf b hb, hok_up e0.hok n hc, e0.bare⟩
theorem same_dl {H1 H' : Hp} {u : HO} (sm : Same (upd H1 c u) H') (n : H1 c = none) : Same H1 (dl H' c) := fun b x e => by
  have z : b ≠ c := ne_of_none e n
  rw [dl_ne z]
  exact sm b x (by rw [upd_ne z]; exact e)
/-- by a lambda that captures one name -/
theorem ask_cap {F : LF} {x y : Str} {k : Nat} {f C : Addr} {v m : V} {u0 : Value} (S : NScope [x, y] [x] [y] F.scope) (hb : ∀ (pm ctv : Value) (us : List Value), us.length = 1 → bindArgs (F.fd pm ctv) ⟨us, []⟩ = pure ([x].zip us)) (hcl : F.cl = [(y, c)])
    (hf : H f = some (LamO f F)) (hc : H F.c = some (CodeO F.c F.qual)) (hp : H c = some (PinO c o)) (hd : o.data = .cell (some u0)) (ru : RelV m u0)
    (hbody : ∀ (A : Around) (outer : List Env) (s : Shared) (H1 : Hp), Room k (A.deeper (envF F.nf f s.heap.objs.size)) → ExtN (dl H c) H1 →
      ∃ t, PE (ncx (L2N.CX P w) P w K mg base [x, y] F.nf f A outer s H1 (fun cls d H2 => cls = .ref C ∧ d = none ∧ Same H1 H2)) F.body t ∧ t [some v, some m] H1 (fun _ _ => False)) : AskR P w K mg base (k + 1) H f v C := by
  let sp : List (Option V) → Sp := fun ws vs H1 Q E => ws = [some m] ∧ vs = [v] ∧ ExtN (dl H c) H1 ∧ Q = (fun _ _ => False) ∧ E = (fun cls d H2 => cls = .ref C ∧ d = none ∧ Same H1 H2)
  have lo : LOk P w K mg base (L2N.CX P w) (k + 1) f F [x] [y] sp := lok_of S hb (fun ws vs H Q E h => by rw [h.2.1]; rfl) fun A outer s H1 vs ws Q E hr hw h => by
    obtain ⟨e0, e1, e2, e3, e4⟩ := h
    subst e0 e1 e3 e4
    exact hbody A outer s H1 hr e2
  refine ⟨fun H1 hp1 e1 hok _ => ?_, fun A outer s H1 u hr e0 e1 ruv => ?_⟩
  · obtain ⟨od, sl, pm, ctv, ho⟩ := lamO_at hok (e1 _ _ hf lamO_ne)
    exact ⟨_, od, _, sl, ho⟩
  · have p1 := e1 _ _ hp pinO_ne
    have get := pinO_at e0.hok p1
    have nf : c ∉ frs outer := fun z => by
      have q := e0.frf c z
      rw [p1] at q
      cases q
    have f1 := e1 _ _ hf lamO_ne
    have c1 := e1 _ _ hc codeO_ne
    have fc : f ≠ c := fun z => by
      obtain ⟨od, sl, pm, ctv, ho⟩ := lamO_at e0.hok f1
      rw [z, get] at ho
      cases ho
      cases hd
    have cc : F.c ≠ c := fun z => by
      obtain ⟨c2, oc, vs, t, e2, h1, h2, h3⟩ := codeO_at e0.hok c1
      cases e2
      rw [z, get] at h1
      cases h1
      rw [h2] at hd
      cases hd
    have ex : ExtN (dl H c) (dl H1 c) := fun b u e n => by
      obtain ⟨z, e⟩ := dl_some e
      rw [dl_ne z]
      exact e1 b u e n
    have look : ∀ y' c', F.cl.lookup y' = some c' → y' = y ∧ c' = c := fun y' c' e => by
      rw [hcl] at e
      have z := PySem.mem_of_lookup e
      have z := List.mem_singleton.mp z
      exact ⟨congrArg Prod.fst z, congrArg Prod.snd z⟩
    have self : F.cl.lookup y = some c := by rw [hcl]; simp [List.lookup]
    refine codeAny_mono (lo.run A outer s (dl H1 c) [u] [v] [some m] _ _ hr (env0_dl e0 p1) ((dl_ne fc).trans f1) ((dl_ne cc).trans c1) ⟨rfl, fun y' c' e => ?_, fun x' y' c' e1 e2 => ?_, fun i y' e => ?_⟩ (.cons ruv .nil) ⟨rfl, rfl, ex, rfl, rfl⟩) fun r s' hq => ?_
    · obtain ⟨rfl, rfl⟩ := look y' c' e
      exact ⟨dl_self, _, o, get, hd⟩
    · rw [(look _ _ e1).1, (look _ _ e2).1]
    · have hi : i = 0 := by
        have := (List.getElem?_eq_some_iff.mp e).1
        simp at this
        exact this
      subst hi
      have ey : y' = y := (Option.some.inj e).symm
      subst ey
      exact ⟨c, self, fun v' ev => ⟨u0, by
        have : v' = m := (Option.some.inj (Option.some.inj ev)).symm
        rw [this]; exact ru, o, get, hd⟩⟩
    · cases r with
      | ok fl =>
        cases fl with
        | ret u' =>
          obtain ⟨_, _, _, _, _, _, _, z⟩ := hq
          exact z.elim
        | next => exact False.elim hq
        | brk => exact False.elim hq
        | cont => exact False.elim hq
      | error e =>
        obtain ⟨a, B, H', cls, d, rfl, fl, hok', ub, na, os, ag, q1, q2, q3⟩ := hq
        have hB : B.get? c = some o := ub.keep c o get dl_self nf
        have nH : H' c = none := ub.free c o get dl_self
        have ac : a ≠ c := fun z => by
          have q := fl.2.1
          rw [z, hB] at q
          cases q
        refine ⟨a, B, upd H' c (PinO c o), cls, d, rfl, fl, hok_up hok' nH hB, ⟨fun b u e n => ub.keep b u e (dl_none n), ub.slot, fun b u e n => ?_, ub.there, fun b xs e => ?_, fun b u xs e => ?_, fun b ps e => ?_⟩, by rw [upd_ne ac]; exact na, os, ag, q1, q2, fun b u e => ?_⟩
        · have z : b ≠ c := fun z => by rw [z, p1] at n; cases n
          rw [upd_ne z]
          exact ub.free b u e (dl_none n)
        · have z : b ≠ c := fun z => by rw [z, p1] at e; unfold PinO at e; cases e
          rw [upd_ne z]
          exact ub.tups b xs ((dl_ne z).trans e)
        · have z : b ≠ c := fun z => by rw [z, p1] at e; unfold PinO at e; cases e
          rw [upd_ne z]
          exact ub.frzs b u xs ((dl_ne z).trans e)
        · have z : b ≠ c := fun z => by rw [z, p1] at e; unfold PinO at e; cases e
          rw [upd_ne z]
          exact ub.tbls b ps ((dl_ne z).trans e)
        · by_cases z : b = c
          · rw [z, p1] at e
            rw [z, upd_same]
            exact e
          · rw [upd_ne z]
            exact q3 b u ((dl_ne z).trans e)
end
/-- a call, the cell of a name of ours told to what is called -/
def tCallC (X : Cx) (i : Nat) (y : Str) (sp : Sp) (t : TA) : TE := fun σ H Q => t σ H fun vs H1 => ∃ m, σ[i]? = some (some m) ∧
  ∀ (c : Addr) (u0 : Value) (o : Obj), X.env.cells.lookup y = some c → RelV m u0 → o.data = .cell (some u0) → H1 c = none → sp vs (upd H1 c (PinO c o)) (fun v H2 => H2 c = some (PinO c o) ∧ Q v (dl H2 c)) (fun _ _ _ => False)
theorem pe_callC {X : Cx} {i k : Nat} {y x : Str} {f : Addr} {fd : FuncData} {ps : List Str} {sp : Sp} {e : Expr} {es : List Expr} {t : TA} {p pos : Pos} (F : FnOk X.prog X.w X.K X.mg X.base CX0 k f fd ps sp) (hr : Room k X.A) (hg : Gl X x) (hm : X.mg x = some (.ref f)) (hk : PySem.W.keepIn X.K (.ref f) = true) (hb : L2.Binds X.K fd ps [])
    (hN : X.N[i]? = some y) (hsc : X.env.scope.names.lookup y = some .cell) (hfn : X.fn y = true) (ha : PA X (e :: es) t) (hdb : (x == ("__debug__" : Str)) = false := by decide) (he : starEach (e :: es) X.env = (false, eval e X.env) :: starEach es X.env := by rfl) (hpl : (backTo pos (starEach es X.env)).any (·.1) = false := by rfl) :
    PE X (.Call (.Name x p) (e :: es) [] pos) (tCallC X i y sp t) := by
  refine ⟨fun pins s σ H Q I h => ?_⟩
  refine wpAny_Call_Name_kw (ld_glob I hg hm ?_ hdb)
  refine PySem.W.callWith_K (h₀ := X.base) I.ok.mod.kin hk (thn (ha.run pos pins s σ H _ I h) fun us s1 ⟨vs, H1, I1, r, m, hσ, q⟩ => ⟨I1.kIn, ?_⟩) he hpl
  obtain ⟨mm, hn, hl⟩ := I1.loc
  obtain ⟨u0, ru, l⟩ := hl i y m hN hσ (.inr (.inl hsc))
  obtain ⟨c, hcell, o, get, hd⟩ : ∃ c, X.env.cells.lookup y = some c ∧ ∃ o, s1.heap.get? c = some o ∧ o.data = .cell (some u0) := by
    rcases l with ⟨z, _⟩ | ⟨_, c, hc, z⟩
    · have z' : X.env.scope.names.lookup y = some .local := z
      rw [hsc] at z'
      cases z'
    · exact ⟨c, hc, z⟩
  have n := I1.freeC y c hcell
  have big := I1.ok.cab y c hfn hcell
  have nb : X.base.get? c = none := by
    cases z : X.base.get? c with
    | none => rfl
    | some u =>
      have h1 := Heap.lt_size z
      have h2 := I1.ok.bsz
      exact absurd (Nat.lt_of_lt_of_le (Nat.lt_of_lt_of_le h1 h2) big) (Nat.lt_irrefl _)
  have nf : c ∉ frs X.stack := fun z => by
    rcases List.mem_cons.mp (I1.stkSub c z) with z | z
    · obtain ⟨on, es', ep, e1, e2, _⟩ := hn
      rw [← z, get] at e1
      cases e1
      rw [hd] at e2
      cases e2
    · obtain ⟨_, ob, e1, _⟩ := I1.ok.funs.mem z
      exact absurd (Nat.lt_of_lt_of_le (Heap.lt_size e1) big) (Nat.lt_irrefl _)
  have hsp := q c u0 o hcell ru hd n
  have hl2 : us.length = ps.length := by rw [← r.length]; exact F.len _ _ _ _ hsp
  have b := hb s1 us I1.kIn (by rw [List.append_nil]; exact hl2)
  rw [List.append_nil] at b
  refine wpAny_call (codeAny_mono (F.run X.A X.stack s1 _ ⟨us, []⟩ us vs _ _ hr (env0_up I1.env0 get n nf nb) b r hsp) fun r s' hq => ?_)
  cases r with
  | error e => exact False.elim hq
  | ok fl =>
    cases fl with
    | next => exact False.elim hq
    | brk => exact False.elim hq
    | cont => exact False.elim hq
    | ret u =>
      obtain ⟨v, H', os, bare, un, hok, rv, hc', q'⟩ := hq
      have get' := pinO_at hok hc'
      refine I1.after ⟨v, dl H' c, os, bare, ⟨fun b u e n' nfs nx => ?_, fun b u e n' hbs nx => ?_, fun b u e n' nx => ?_, un.there, fun b xs e => ?_, fun b u xs e => ?_, fun b ps e => ?_⟩, hok_dl hok hc', rv, q'⟩
      · by_cases z : b = c
        · subst z
          rw [get] at e
          cases e
          exact get'
        · exact un.keep b u e ((upd_ne z).trans n') nfs nx
      · have z : b ≠ c := fun z => nf (z ▸ hbs)
        exact un.slot b u e ((upd_ne z).trans n') hbs nx
      · by_cases z : b = c
        · rw [z]; exact dl_self
        · rw [dl_ne z]
          exact un.free b u e ((upd_ne z).trans n') nx
      · have z : b ≠ c := ne_of_none e n
        rw [dl_ne z]
        exact un.tups b xs ((upd_ne z).trans e)
      · have z : b ≠ c := ne_of_none e n
        rw [dl_ne z]
        exact un.frzs b u xs ((upd_ne z).trans e)
      · have z : b ≠ c := ne_of_none e n
        rw [dl_ne z]
        exact un.tbls b ps ((upd_ne z).trans e)
/-- by a def of the module, its facts in one -/
theorem ask_fun {P : Program} {w : World} {K : PySem.W.Frag} {mg : Str → Option Value} {base : Heap} {k : Nat} {H : Hp} {f C : Addr} {v : V} {fd : FuncData} {x x' qual : Str} {st : Stmt} {sp : Sp} (F : L2.Fun K x' qual st f fd) (o : FnOk P w K mg base (L2N.CX P w) k f fd [x] sp) (hb : L2.Binds K fd [x] [])
    (h : ∀ H1, ExtN H H1 → sp [v] H1 (fun _ _ => False) (fun cls d H2 => cls = .ref C ∧ d = none ∧ Same H1 H2)) : AskR P w K mg base k H f v C := by
  obtain ⟨oc, od, kV, doc, pm, an, cdv, ct, osl, rfl, lk, hcd⟩ := F.ex
  exact ask_def o lk hb h
end Hx
namespace AD
/-! ### the loops as plain functions -/
def plenAux (p g : Nat) : Nat → Nat → Nat → Nat
  | 0, _, n => n
  | f + 1, x, n => match Nat.beq x 1 with
    | true => n
    | false => plenAux p g f (x * g % p) (n + 1)
/-- how many powers there are to 1 -/
def plen (p g : Nat) : Nat := plenAux p g (p - 1) (g % p) 1
def stripN (a : Nat) : Nat → Nat → Nat
  | 0, left => left
  | f + 1, left => match Nat.beq (left % a) 0 with
    | true => stripN a f (left / a)
    | false => left
def rootLoop (p g : Nat) : Nat → Nat → Nat → Bool
  | 0, _, _ => true
  | f + 1, left, a => match Nat.ble left 1 with
    | true => true
    | false => match Nat.beq (left % a) 0 with
      | true => match Nat.beq (g ^ ((p - 1) / a) % p) 1 with
        | true => false
        | false => rootLoop p g f (stripN a left left) (a + 1)
      | false => rootLoop p g f left (a + 1)
def rootB (p g : Nat) : Bool := rootLoop p g p (p - 1) 2
def primeLoop (n : Nat) : Nat → Nat → Bool
  | 0, _ => true
  | f + 1, a => match Nat.ble (a * a) n with
    | false => true
    | true => match Nat.beq (n % a) 0 with
      | true => false
      | false => primeLoop n f (a + 1)
def primeB (n : Nat) : Bool := primeLoop n n 2
def allTo (f : Nat → Bool) : Nat → Bool
  | 0 => true
  | n + 1 => match f n with
    | true => allTo f n
    | false => false
theorem allTo_at {f : Nat → Bool} : ∀ {n : Nat}, allTo f n = true → ∀ i, i < n → f i = true
  | 0, _, i, h => absurd h (Nat.not_lt_zero i)
  | n + 1, e, i, h => by
    unfold allTo at e
    cases q : f n with
    | false => rw [q] at e; cases e
    | true =>
      rw [q] at e
      by_cases z : i = n
      · rw [z]; exact q
      · exact allTo_at e i (by omega)
def ferB (p : Nat) : Bool := allTo (fun x => Nat.beq ((x + 1) ^ (p - 1) % p) 1) (p - 1)
def rtB (p : Nat) : Bool := allTo (fun x => rootB p (x + 1) == Nat.beq (plen p (x + 1)) (p - 1)) (p - 1)

/-- what is known of a prime -/
structure Good (p : Nat) : Prop where
  lo : 3 ≤ p
  hi : p ≤ 2000
  pr : primeB p = true
  fer : ferB p = true

theorem Good.fer1 {p x : Nat} (G : Good p) (h1 : 1 ≤ x) (h2 : x < p) : x ^ (p - 1) % p = 1 := by
  have h := allTo_at G.fer (x - 1) (by omega)
  have e : x - 1 + 1 = x := by omega
  rw [e] at h
  exact Nat.eq_of_beq_eq_true h
theorem rt_of {p g : Nat} (h : rtB p = true) (h1 : 1 ≤ g) (h2 : g < p) : rootB p g = decide (plen p g = p - 1) := by
  have h := allTo_at h (g - 1) (by omega)
  have e : g - 1 + 1 = g := by omega
  rw [e] at h
  rw [eq_of_beq h]
  by_cases z : plen p g = p - 1
  · rw [decide_eq_true z, z]; exact Nat.beq_refl _
  · rw [decide_eq_false z]
    cases q : Nat.beq (plen p g) (p - 1) with
    | false => rfl
    | true => exact absurd (Nat.eq_of_beq_eq_true q) z

/-! ### how many powers -/
theorem plenAux_spec (p g : Nat) : ∀ (f n : Nat), ∃ m, plenAux p g f (g ^ n % p) n = m ∧ n ≤ m ∧ m ≤ n + f ∧ (∀ k, n ≤ k → k < m → g ^ k % p ≠ 1) ∧ (m < n + f → g ^ m % p = 1)
  | 0, n => ⟨n, rfl, Nat.le_refl _, Nat.le_refl _, fun k h1 h2 => by omega, fun h => by omega⟩
  | f + 1, n => by
    unfold plenAux
    cases q : Nat.beq (g ^ n % p) 1 with
    | true => exact ⟨n, rfl, Nat.le_refl _, by omega, fun k h1 h2 => by omega, fun _ => Nat.eq_of_beq_eq_true q⟩
    | false =>
      have e : g ^ n % p * g % p = g ^ (n + 1) % p := by rw [Nat.pow_succ, Nat.mod_mul_mod]
      show ∃ m, plenAux p g f (g ^ n % p * g % p) (n + 1) = m ∧ _
      rw [e]
      obtain ⟨m, h0, h1, h2, h3, h4⟩ := plenAux_spec p g f (n + 1)
      refine ⟨m, h0, by omega, by omega, fun k k1 k2 => ?_, fun h => h4 (by omega)⟩
      by_cases z : k = n
      · subst z
        intro y
        rw [y] at q
        cases q
      · exact h3 k (by omega) k2
theorem plen_spec (p g : Nat) (hp : 1 ≤ p) : 1 ≤ plen p g ∧ plen p g ≤ p ∧ (∀ k, 1 ≤ k → k < plen p g → g ^ k % p ≠ 1) ∧ (plen p g < p → g ^ plen p g % p = 1) := by
  obtain ⟨m, h0, h1, h2, h3, h4⟩ := plenAux_spec p g (p - 1) 1
  rw [Nat.pow_one] at h0
  have e : plen p g = m := h0
  rw [e]
  exact ⟨h1, by omega, h3, fun h => h4 (by omega)⟩
theorem plen_unique {p g n : Nat} (hp : 1 ≤ p) (h1 : 1 ≤ n) (h2 : n ≤ p) (h3 : ∀ k, 1 ≤ k → k < n → g ^ k % p ≠ 1) (h4 : g ^ n % p = 1 ∨ n = p) : plen p g = n := by
  obtain ⟨a1, a2, a3, a4⟩ := plen_spec p g hp
  rcases Nat.lt_trichotomy (plen p g) n with h | h | h
  · exact absurd (a4 (by omega)) (h3 _ a1 h)
  · exact h
  · rcases h4 with z | z
    · exact absurd z (a3 n h1 h)
    · omega

/-! ### what is left by a prime -/
theorem Good.ferm {p x : Nat} (G : Good p) (h : x % p ≠ 0) : x ^ (p - 1) % p = 1 := by
  have lo := G.lo
  rw [Nat.pow_mod]
  exact G.fer1 (by omega) (Nat.mod_lt _ (by omega))
/-- the last but one power is what makes 1 of a number -/
theorem Good.inv {p x : Nat} (G : Good p) (h : x % p ≠ 0) : x ^ (p - 2) * x % p = 1 := by
  have lo := G.lo
  rw [← Nat.pow_succ, show (p - 2).succ = p - 1 by omega]
  exact G.ferm h
theorem mul_left_mod {p a b : Nat} (c : Nat) (h : a % p = b % p) : c * a % p = c * b % p := by
  rw [Nat.mul_mod, h, ← Nat.mul_mod]
theorem mul_right_mod {p a b : Nat} (c : Nat) (h : a % p = b % p) : a * c % p = b * c % p := by
  rw [Nat.mul_mod, h, ← Nat.mul_mod]
theorem Good.cancel {p x a b : Nat} (G : Good p) (h : x % p ≠ 0) (e : x * a % p = x * b % p) : a % p = b % p := by
  have lo := G.lo
  have k : ∀ c, x ^ (p - 2) * (x * c) % p = c % p := fun c => by
    rw [← Nat.mul_assoc, Nat.mul_mod, G.inv h, Nat.one_mul, Nat.mod_mod]
  have z := mul_left_mod (x ^ (p - 2)) e
  rw [k, k] at z
  exact z
theorem Good.mul_ne {p a b : Nat} (G : Good p) (ha : a % p ≠ 0) (hb : b % p ≠ 0) : a * b % p ≠ 0 := fun z => by
  have e : a * b % p = a * 0 % p := by rw [z, Nat.mul_zero, Nat.zero_mod]
  exact hb (by rw [G.cancel ha e, Nat.zero_mod])
theorem Good.pow_ne {p g : Nat} (G : Good p) (hg : g % p ≠ 0) : ∀ n, g ^ n % p ≠ 0
  | 0 => by
    have lo := G.lo
    rw [Nat.pow_zero, Nat.mod_eq_of_lt (by omega)]
    exact Nat.one_ne_zero
  | n + 1 => by
    rw [Nat.pow_succ]
    exact G.mul_ne (G.pow_ne hg n) hg
theorem Good.pow_pos {p g : Nat} (G : Good p) (hg : g % p ≠ 0) (n : Nat) : 1 ≤ g ^ n % p := Nat.pos_of_ne_zero (G.pow_ne hg n)

theorem Good.plen_le {p g : Nat} (G : Good p) (h1 : 1 ≤ g) (h2 : g < p) : plen p g ≤ p - 1 := by
  have lo := G.lo
  obtain ⟨a1, a2, a3, a4⟩ := plen_spec p g (by omega)
  rcases Nat.lt_or_ge (p - 1) (plen p g) with z | z
  · exact absurd (G.fer1 h1 h2) (a3 (p - 1) (by omega) z)
  · exact z
/-! ### a root -/
/-- a root of a prime -/
structure Root (p g : Nat) : Prop where
  good : Good p
  one : 1 ≤ g
  lt : g < p
  len : plen p g = p - 1
theorem Root.ne {p g : Nat} (R : Root p g) : g % p ≠ 0 := by
  have h := R.one
  rw [Nat.mod_eq_of_lt R.lt]
  omega
theorem Root.per {p g : Nat} (R : Root p g) (n : Nat) : g ^ (n % (p - 1)) % p = g ^ n % p := by
  have lo := R.good.lo
  conv => rhs; rw [← Nat.div_add_mod n (p - 1), Nat.pow_add, Nat.pow_mul, Nat.mul_mod, Nat.pow_mod, R.good.ferm R.ne, Nat.one_pow, ← Nat.mul_mod, Nat.one_mul]
theorem Root.inj0 {p g i d : Nat} (R : Root p g) (hd : 1 ≤ d) (hd2 : d < p - 1) : g ^ i % p ≠ g ^ (i + d) % p := fun e => by
  have lo := R.good.lo
  rw [Nat.pow_add] at e
  have e1 : g ^ i * 1 % p = g ^ i * g ^ d % p := by rw [Nat.mul_one]; exact e
  have e2 := R.good.cancel (R.good.pow_ne R.ne i) e1
  rw [Nat.mod_eq_of_lt (show 1 < p by omega)] at e2
  exact (plen_spec p g (by omega)).2.2.1 d hd (by rw [R.len]; omega) e2.symm
theorem Root.inj {p g i j : Nat} (R : Root p g) (hi : i < p - 1) (hj : j < p - 1) (e : g ^ i % p = g ^ j % p) : i = j := by
  rcases Nat.lt_trichotomy i j with h | h | h
  · exact absurd (by rw [show i + (j - i) = j by omega]; exact e) (R.inj0 (i := i) (d := j - i) (by omega) (by omega))
  · exact h
  · exact absurd (by rw [show j + (i - j) = i by omega]; exact e.symm) (R.inj0 (i := j) (d := i - j) (by omega) (by omega))
/-- equal powers: the numbers differ by a multiple of one less than the prime -/
theorem Root.injm {p g i j : Nat} (R : Root p g) (e : g ^ i % p = g ^ j % p) : i % (p - 1) = j % (p - 1) := by
  have lo := R.good.lo
  rw [← R.per i, ← R.per j] at e
  exact R.inj (Nat.mod_lt _ (by omega)) (Nat.mod_lt _ (by omega)) e

/-! ### as many places as things -/
theorem nodup_len : ∀ (n : Nat) (l : List Nat), l.Nodup → (∀ x ∈ l, x < n) → l.length ≤ n
  | 0, l, _, h => by
    cases l with
    | nil => exact Nat.le_refl _
    | cons x r => exact absurd (h x (List.mem_cons_self ..)) (Nat.not_lt_zero x)
  | n + 1, l, hn, h => by
    have h1 : (l.erase n).Nodup := hn.erase n
    have h2 := nodup_len n (l.erase n) h1 fun x hx => by
      have a := h x (List.mem_of_mem_erase hx)
      have b : x ≠ n := fun e => by
        subst e
        exact (List.Nodup.mem_erase_iff hn).mp hx |>.1 rfl
      omega
    have h3 := List.length_erase (a := n) (l := l)
    rw [h3] at h2
    split at h2 <;> omega
theorem nodup_full {n : Nat} {l : List Nat} (hn : l.Nodup) (h : ∀ x ∈ l, x < n) (hl : l.length = n) {x : Nat} (hx : x < n) : x ∈ l := by
  by_cases m : x ∈ l
  · exact m
  · have h1 : (x :: l).Nodup := List.nodup_cons.mpr ⟨m, hn⟩
    have h2 := nodup_len n (x :: l) h1 fun y hy => by
      rcases List.mem_cons.mp hy with e | e
      · rw [e]; exact hx
      · exact h y e
    rw [List.length_cons] at h2
    omega
theorem map_nodup {α β : Type} {f : α → β} : ∀ {l : List α}, l.Nodup → (∀ x ∈ l, ∀ y ∈ l, f x = f y → x = y) → (l.map f).Nodup
  | [], _, _ => List.nodup_nil
  | a :: r, h, hi => by
    obtain ⟨h1, h2⟩ := List.nodup_cons.mp h
    refine List.nodup_cons.mpr ⟨fun m => ?_, map_nodup h2 fun x hx y hy => hi x (List.mem_cons_of_mem _ hx) y (List.mem_cons_of_mem _ hy)⟩
    obtain ⟨b, hb, e⟩ := List.mem_map.mp m
    have z := hi b (List.mem_cons_of_mem _ hb) a (List.mem_cons_self ..) e
    rw [z] at hb
    exact h1 hb
/-- every number from 1 to below the prime is a power -/
theorem Root.onto {p g x : Nat} (R : Root p g) (h1 : 1 ≤ x) (h2 : x < p) : ∃ k, k < p - 1 ∧ g ^ k % p = x := by
  have lo := R.good.lo
  let l := (List.range (p - 1)).map fun k => g ^ k % p - 1
  have hn : l.Nodup := map_nodup List.nodup_range fun i hi j hj e => by
    have a := R.good.pow_pos R.ne i
    have b := R.good.pow_pos R.ne j
    exact R.inj (List.mem_range.mp hi) (List.mem_range.mp hj) (by omega)
  have hb : ∀ y ∈ l, y < p - 1 := fun y hy => by
    obtain ⟨k, hk, e⟩ := List.mem_map.mp hy
    have a := R.good.pow_pos R.ne k
    have b := Nat.mod_lt (g ^ k) (show p > 0 by omega)
    omega
  have hm := nodup_full hn hb (by rw [List.length_map, List.length_range]) (x := x - 1) (by omega)
  obtain ⟨k, hk, e⟩ := List.mem_map.mp hm
  have a := R.good.pow_pos R.ne k
  exact ⟨k, List.mem_range.mp hk, by omega⟩
end AD
namespace AD
/-! ### the law's primes -/
def PS0 : List Nat := [3, 5, 7, 11, 13, 17, 19, 23, 29, 31, 37, 41, 43, 47, 53, 59, 61]
def PG0 : List Nat := [97, 101, 257, 331, 499]
def lrAux (p : Nat) : Nat → Nat → Nat
  | 0, g => g
  | f + 1, g => match Nat.beq (plen p g) (p - 1) with
    | true => g
    | false => lrAux p f (g + 1)
/-- the least root -/
def lr (p : Nat) : Nat := lrAux p p 1
def goodB (p : Nat) : Bool := Nat.ble 3 p && (Nat.ble p 2000 && (primeB p && ferB p))
def lrB (p : Nat) : Bool := Nat.ble 1 (lr p) && (Nat.blt (lr p) p && (Nat.beq (plen p (lr p)) (p - 1) && allTo (fun x => !Nat.beq (plen p (x + 1)) (p - 1)) (lr p - 1)))
theorem good_of {p : Nat} (h : goodB p = true) : Good p := by
  unfold goodB at h
  simp only [Bool.and_eq_true] at h
  exact ⟨Nat.le_of_ble_eq_true h.1, Nat.le_of_ble_eq_true h.2.1, h.2.2.1, h.2.2.2⟩
theorem lr_of {p : Nat} (G : Good p) (h : lrB p = true) : Root p (lr p) ∧ ∀ g, 1 ≤ g → g < lr p → plen p g ≠ p - 1 := by
  unfold lrB at h
  simp only [Bool.and_eq_true] at h
  refine ⟨⟨G, Nat.le_of_ble_eq_true h.1, Nat.le_of_ble_eq_true h.2.1, Nat.eq_of_beq_eq_true h.2.2.1⟩, fun g g1 g2 z => ?_⟩
  have k := allTo_at h.2.2.2 (g - 1) (by omega)
  have e : g - 1 + 1 = g := by omega
  rw [e, z] at k
  rw [show Nat.beq (p - 1) (p - 1) = true from Nat.beq_refl _] at k
  cases k
theorem good_all : (PS0 ++ PG0).all (fun p => goodB p && lrB p) = true := by decide +kernel
theorem rt_all : (PS0 ++ PG0).all (fun p => rtB p) = true := by decide +kernel
theorem good71 : (goodB 71 && lrB 71) = true := by decide +kernel
theorem rt71 : rtB 71 = true := by decide +kernel
/-- what is known of a law's prime -/
structure Prm (p : Nat) : Prop where
  good : Good p
  rt : rtB p = true
  root : Root p (lr p)
  least : ∀ g, 1 ≤ g → g < lr p → plen p g ≠ p - 1
theorem prm_mk {p : Nat} (h1 : (goodB p && lrB p) = true) (h2 : rtB p = true) : Prm p := by
  rw [Bool.and_eq_true] at h1
  have G := good_of h1.1
  obtain ⟨a, b⟩ := lr_of G h1.2
  exact ⟨G, h2, a, b⟩
theorem prm_in {p : Nat} (h : p ∈ PS0 ++ PG0) : Prm p := prm_mk (List.all_eq_true.mp good_all p h) (List.all_eq_true.mp rt_all p h)
theorem prm71 : Prm 71 := prm_mk good71 rt71
theorem Prm.rootB {p g : Nat} (P : Prm p) (h1 : 1 ≤ g) (h2 : g < p) : rootB p g = decide (plen p g = p - 1) := rt_of P.rt h1 h2
theorem Root.rootB {p g : Nat} (R : Root p g) (P : Prm p) : AD.rootB p g = true := by
  rw [P.rootB R.one R.lt]
  exact decide_eq_true R.len
theorem Prm.lroot {p : Nat} (P : Prm p) : AD.rootB p (lr p) = true := P.root.rootB P
theorem Prm.lnot {p g : Nat} (P : Prm p) (h1 : 1 ≤ g) (h2 : g < lr p) : AD.rootB p g = false := by
  have h3 := P.root.lt
  rw [P.rootB h1 (by omega)]
  exact decide_eq_false (P.least g h1 h2)
end AD
namespace AD
/-! ### a plan's rows -/
/-- what is left of a beginning -/
def be (p : Nat) (b : Int) : Nat := (b % ((p : Int) - 1)).toNat
/-- one more than the row of a column -/
def rowA (p g : Nat) (b : Int) (c : Nat) : Nat := g ^ (be p b + c) % p
theorem be_cast {p : Nat} (hp : 3 ≤ p) (b : Int) : ((be p b : Nat) : Int) = b % ((p : Int) - 1) := by
  unfold be
  exact Int.toNat_of_nonneg (Int.emod_nonneg _ (by omega))
theorem be_lt {p : Nat} (hp : 3 ≤ p) (b : Int) : be p b < p - 1 := by
  have h := be_cast hp b
  have h2 := Int.emod_lt_of_pos b (show (0 : Int) < (p : Int) - 1 by omega)
  omega
theorem be_add {p : Nat} (hp : 3 ≤ p) (b : Int) (c : Nat) : be p (b + c) = (be p b + c) % (p - 1) := by
  have h := be_cast hp (b + c)
  have h2 := be_cast hp b
  have e : ((p - 1 : Nat) : Int) = (p : Int) - 1 := by omega
  have h3 : (((be p b + c) % (p - 1) : Nat) : Int) = (b + c) % ((p : Int) - 1) := by
    rw [Int.natCast_emod, e, Int.natCast_add, h2, Int.emod_add_emod]
  omega
theorem be_per {p : Nat} (b : Int) : be p (b + p - 1) = be p b := by
  unfold be
  rw [show b + (p : Int) - 1 = b + ((p : Int) - 1) by omega, Int.add_emod_right]
theorem Root.row_be {p g : Nat} (R : Root p g) (b : Int) (c : Nat) : g ^ be p (b + c) % p = rowA p g b c := by
  rw [be_add R.good.lo, R.per]
  rfl
theorem Root.row_pos {p g : Nat} (R : Root p g) (b : Int) (c : Nat) : 1 ≤ rowA p g b c := R.good.pow_pos R.ne _
theorem Root.row_lt {p g : Nat} (R : Root p g) (b : Int) (c : Nat) : rowA p g b c < p := Nat.mod_lt _ (by have := R.good.lo; omega)
theorem rowA_per {p g : Nat} (b : Int) (c : Nat) : rowA p g (b + p - 1) c = rowA p g b c := by
  unfold rowA
  rw [be_per]
theorem Root.row_next {p g : Nat} (R : Root p g) (b : Int) {c : Nat} (h : 1 ≤ c) : rowA p g (b + 1) (c - 1) = rowA p g b c := by
  rw [← R.row_be, ← R.row_be]
  rw [show b + 1 + ((c - 1 : Nat) : Int) = b + (c : Int) by omega]
theorem Root.row_inj {p g c d : Nat} {b : Int} (R : Root p g) (hc : c < p - 1) (hd : d < p - 1) (e : rowA p g b c = rowA p g b d) : c = d := by
  have h := R.injm e
  have lo := R.good.lo
  rcases Nat.lt_trichotomy c d with z | z | z
  · exact absurd (by rw [Nat.add_assoc, show c + (d - c) = d by omega]; exact e) (R.inj0 (i := be p b + c) (d := d - c) (by omega) (by omega))
  · exact z
  · exact absurd (by rw [Nat.add_assoc, show d + (c - d) = c by omega]; exact e.symm) (R.inj0 (i := be p b + d) (d := c - d) (by omega) (by omega))
/-- each row has its column -/
theorem Root.row_onto {p g x : Nat} (R : Root p g) (b : Int) (h1 : 1 ≤ x) (h2 : x < p) : ∃ c, c < p - 1 ∧ rowA p g b c = x := by
  obtain ⟨k, hk, e⟩ := R.onto h1 h2
  have lo := R.good.lo
  have hb := be_lt lo b
  refine ⟨(k + (p - 1) - be p b) % (p - 1), Nat.mod_lt _ (by omega), ?_⟩
  unfold rowA
  rw [← R.per (be p b + _), Nat.add_mod_mod, show be p b + (k + (p - 1) - be p b) = k + (p - 1) by omega, Nat.add_mod_right, R.per]
  exact e
/-- the rows, each once -/
def rowsN (p g : Nat) (b : Int) : List Nat := (List.range (p - 1)).map fun c => rowA p g b c - 1
def rowsI (p g : Nat) (b : Int) : List Int := (List.range (p - 1)).map fun c => ((rowA p g b c : Nat) : Int) - 1
theorem rowsI_len (p g : Nat) (b : Int) : (rowsI p g b).length = p - 1 := by unfold rowsI; rw [List.length_map, List.length_range]
theorem rowsI_at {p g c : Nat} {b : Int} (h : c < p - 1) : (rowsI p g b)[c]? = some (((rowA p g b c : Nat) : Int) - 1) := by
  unfold rowsI
  rw [List.getElem?_map, List.getElem?_range h]
  rfl
theorem Root.rows_nodup {p g : Nat} (R : Root p g) (b : Int) : (rowsN p g b).Nodup := map_nodup List.nodup_range fun i hi j hj e => by
  have a := R.row_pos b i
  have c := R.row_pos b j
  exact R.row_inj (b := b) (List.mem_range.mp hi) (List.mem_range.mp hj) (by omega)
/-- a list of n numbers below n, each once, is the first n in some order -/
theorem perm_range : ∀ (n : Nat) (l : List Nat), l.Nodup → (∀ x ∈ l, x < n) → l.length = n → l.Perm (List.range n)
  | n, l, h1, h2, h3 => by
    refine (List.perm_ext_iff_of_nodup h1 List.nodup_range).mpr fun x => ⟨fun h => List.mem_range.mpr (h2 x h), fun h => nodup_full h1 h2 h3 (List.mem_range.mp h)⟩
theorem Root.rows_perm {p g : Nat} (R : Root p g) (b : Int) : (rowsN p g b).Perm (List.range (p - 1)) := by
  refine perm_range _ _ (R.rows_nodup b) (fun x hx => ?_) (by unfold rowsN; rw [List.length_map, List.length_range])
  obtain ⟨c, hc, e⟩ := List.mem_map.mp hx
  have h1 := R.row_pos b c
  have h2 := R.row_lt b c
  omega
theorem Root.rowsI_eq {p g : Nat} (R : Root p g) (b : Int) : rowsI p g b = (rowsN p g b).map fun n : Nat => (n : Int) := by
  unfold rowsI rowsN
  rw [List.map_map]
  refine List.map_congr_left fun c _ => ?_
  have h := R.row_pos b c
  show ((rowA p g b c : Nat) : Int) - 1 = ((rowA p g b c - 1 : Nat) : Int)
  omega
/-- sorted numbers in one order only -/
theorem sorted_unique : ∀ {l m : List Int}, l.Perm m → l.Pairwise (· ≤ ·) → m.Pairwise (· ≤ ·) → l = m := fun h1 h2 h3 =>
  h1.eq_of_pairwise (fun a b _ _ hab hba => Int.le_antisymm hab hba) h2 h3
theorem range_sorted (n : Nat) : ((List.range n).map fun i : Nat => (i : Int)).Pairwise (· ≤ ·) := by
  rw [List.pairwise_map]
  refine List.Pairwise.imp (fun h => ?_) List.pairwise_lt_range
  omega
/-- a turn of the first n numbers, sorted -/
theorem sorted_range {l : List Int} {m : List Nat} {n : Nat} (h1 : l.Perm (m.map fun i : Nat => (i : Int))) (h2 : m.Perm (List.range n)) (h3 : l.Pairwise (· ≤ ·)) : l = (List.range n).map fun i : Nat => (i : Int) :=
  sorted_unique (h1.trans (h2.map _)) h3 (range_sorted n)
end AD
namespace AD
theorem root1999 : Root 1999 3 := ⟨good_of (by decide +kernel), by decide, by decide, by decide +kernel⟩
theorem rb1999 : rootB 1999 3 = true := by decide +kernel
theorem root_lr {p g : Nat} (P : Prm p) (h : lr p = g) : Root p g := by
  rw [← h]
  exact P.root
theorem root73 : Root 7 3 := root_lr (prm_in (by decide)) (by decide +kernel)
theorem root32 : Root 3 2 := root_lr (prm_in (by decide)) (by decide +kernel)
end AD
namespace AD
/-! ### arrows counted around -/
theorem modsub {p a b : Nat} : ((a : Int) - (b : Int)) % (p : Int) = 0 ↔ a % p = b % p := by
  rw [← Int.emod_eq_emod_iff_emod_sub_eq_zero]
  constructor
  · intro h
    have h2 : ((a % p : Nat) : Int) = ((b % p : Nat) : Int) := by rw [Int.natCast_emod, Int.natCast_emod, h]
    exact Int.ofNat_inj.mp h2
  · intro h
    rw [← Int.natCast_emod, ← Int.natCast_emod, h]
theorem add_cancel_mod {p a b : Nat} (x : Nat) : (a + x) % p = (b + x) % p ↔ a % p = b % p := by
  rw [← modsub, ← modsub]
  rw [show (((a + x : Nat) : Int) - ((b + x : Nat) : Int)) = (a : Int) - (b : Int) by omega]
/-- what is to be the power of the column that is told -/
def tgt (p g d u : Nat) : Nat := u * ((g ^ d % p - 1) ^ (p - 2) % p) % p
theorem Root.apart_ne {p g d : Nat} (R : Root p g) (h1 : 1 ≤ d) (h2 : d ≤ p - 2) : (g ^ d % p - 1) % p ≠ 0 := by
  have lo := R.good.lo
  have a := R.good.pow_pos R.ne d
  have b := Nat.mod_lt (g ^ d) (show p > 0 by omega)
  have c : g ^ d % p ≠ 1 := (plen_spec p g (by omega)).2.2.1 d h1 (by rw [R.len]; omega)
  rw [Nat.mod_eq_of_lt (by omega)]
  omega
theorem Root.tgt_lt {p g d u : Nat} (R : Root p g) : tgt p g d u < p := Nat.mod_lt _ (by have := R.good.lo; omega)
theorem Root.tgt_pos {p g d u : Nat} (R : Root p g) (h1 : 1 ≤ d) (h2 : d ≤ p - 2) (u1 : 1 ≤ u) (u2 : u < p) : 1 ≤ tgt p g d u := by
  have lo := R.good.lo
  have a := R.apart_ne h1 h2
  have b : u % p ≠ 0 := by rw [Nat.mod_eq_of_lt u2]; omega
  refine Nat.pos_of_ne_zero ?_
  unfold tgt
  rw [Nat.mul_mod_mod]
  exact R.good.mul_ne b (R.good.pow_ne a _)
theorem Root.row_add {p g : Nat} (b : Int) (c d : Nat) : rowA p g b (c + d) = rowA p g b c * (g ^ d % p) % p := by
  unfold rowA
  rw [← Nat.add_assoc, Nat.pow_add, Nat.mul_mod]
theorem Root.row_mod {p g : Nat} (R : Root p g) (b : Int) (c : Nat) : rowA p g b (c % (p - 1)) = rowA p g b c := by
  unfold rowA
  rw [← R.per, Nat.add_mod_mod, R.per]
/-- the dot so far across is so far up, just at the column that is told -/
theorem Root.hit {p g d u c : Nat} {b : Int} (R : Root p g) (h1 : 1 ≤ d) (h2 : d ≤ p - 2) :
    ((((rowA p g b ((c + d) % (p - 1)) : Nat) : Int) - 1) - (((rowA p g b c : Nat) : Int) - 1) - (u : Int)) % (p : Int) = 0 ↔ rowA p g b c = tgt p g d u := by
  have lo := R.good.lo
  have a := R.apart_ne h1 h2
  have x1 := R.row_pos b c
  have x2 := R.row_lt b c
  rw [R.row_mod, Root.row_add]
  have hA := R.good.pow_pos R.ne d
  have eA : g ^ d % p = (g ^ d % p - 1) + 1 := by omega
  generalize hap : g ^ d % p - 1 = ap at *
  generalize hx : rowA p g b c = x at *
  have e1 : (((x * (g ^ d % p) % p : Nat) : Int) - 1) - ((x : Int) - 1) - (u : Int) = ((x * (g ^ d % p) % p : Nat) : Int) - ((u + x : Nat) : Int) := by omega
  rw [e1, modsub, Nat.mod_mod, eA, Nat.mul_add, Nat.mul_one, add_cancel_mod]
  have hi := R.good.inv a
  have e2 : tgt p g d u = u * (ap ^ (p - 2)) % p := by
    unfold tgt
    rw [hap, Nat.mul_mod_mod]
  rw [e2]
  constructor
  · intro h
    have h3 := mul_right_mod (ap ^ (p - 2)) h
    rw [Nat.mul_assoc, Nat.mul_comm ap, Nat.mul_mod, hi, Nat.mul_one, Nat.mod_mod, Nat.mod_eq_of_lt x2] at h3
    exact h3
  · intro h
    rw [h, Nat.mod_mul_mod, Nat.mul_assoc, Nat.mul_mod, hi, Nat.mul_one, Nat.mod_mod]
/-- the told column -/
theorem Root.hit_col {p g d u c c0 : Nat} {b : Int} (R : Root p g) (h1 : 1 ≤ d) (h2 : d ≤ p - 2) (hc : c < p - 1) (h0 : c0 < p - 1) (e : rowA p g b c0 = tgt p g d u) :
    ((((rowA p g b ((c + d) % (p - 1)) : Nat) : Int) - 1) - (((rowA p g b c : Nat) : Int) - 1) - (u : Int)) % (p : Int) = 0 ↔ c = c0 := by
  rw [R.hit h1 h2, ← e]
  exact ⟨fun h => R.row_inj hc h0 h, fun h => by rw [h]⟩
end AD
namespace AD
/-! ### how many different ones -/
section
variable {α : Type} [DecidableEq α]
theorem sub_len : ∀ {B A : List α}, B.Nodup → (∀ x ∈ B, x ∈ A) → B.length ≤ A.length
  | [], _, _, _ => Nat.zero_le _
  | b :: r, A, h, hs => by
    obtain ⟨h1, h2⟩ := List.nodup_cons.mp h
    have hb := hs b (List.mem_cons_self ..)
    have ih := sub_len (A := A.erase b) h2 fun x hx => by
      have ne : x ≠ b := fun e => h1 (e ▸ hx)
      exact (List.mem_erase_of_ne ne).mpr (hs x (List.mem_cons_of_mem _ hx))
    have hl := List.length_erase_of_mem hb
    have hp := List.length_pos_of_mem hb
    rw [List.length_cons]
    omega
theorem twice : ∀ {A : List α}, ¬ A.Nodup → ∃ a ∈ A, a ∈ A.erase a
  | [], h => absurd List.nodup_nil h
  | a :: r, h => by
    by_cases m : a ∈ r
    · exact ⟨a, List.mem_cons_self .., by rw [List.erase_cons_head]; exact m⟩
    · have h2 : ¬ r.Nodup := fun z => h (List.nodup_cons.mpr ⟨m, z⟩)
      obtain ⟨b, hb, hb2⟩ := twice h2
      refine ⟨b, List.mem_cons_of_mem _ hb, ?_⟩
      have ne : a ≠ b := fun e => m (e ▸ hb)
      rw [List.erase_cons_tail (by simpa using ne)]
      exact List.mem_cons_of_mem _ hb2
/-- B: those of A, each once -/
theorem once_len {A B : List α} (h1 : B.Nodup) (h2 : ∀ x ∈ B, x ∈ A) (h3 : ∀ x ∈ A, x ∈ B) : B.length ≤ A.length ∧ (B.length = A.length ↔ A.Nodup) := by
  have hle := sub_len h1 h2
  refine ⟨hle, fun e => ?_, fun h => Nat.le_antisymm hle (sub_len h h3)⟩
  by_cases z : A.Nodup
  · exact z
  · obtain ⟨a, ha, ha2⟩ := twice z
    have h4 := sub_len (A := A.erase a) h1 fun x hx => by
      by_cases y : x = a
      · rw [y]; exact ha2
      · exact (List.mem_erase_of_ne y).mpr (h2 x hx)
    have hl := List.length_erase_of_mem ha
    have hp := List.length_pos_of_mem ha
    omega
end
/-! ### arrows -/
/-- how far up the dot so far across is -/
def up (ns : List Int) (c d : Nat) : Int := ns.getD (c + d) 0 - ns.getD c 0
/-- no two arrows are alike -/
def Apt (ns : List Int) : Prop := ∀ d i j, 1 ≤ d → i < j → j + d < ns.length → up ns i d ≠ up ns j d
/-- all arrows, in turn -/
def arrowsTo (ns : List Int) (n one : Nat) : List (List Int) := (List.range' (one + 1) (n - (one + 1))).map fun other : Nat => [(other : Int) - (one : Int), ns.getD other 0 - ns.getD one 0]
def arrows (ns : List Int) : List (List Int) := (List.range ns.length).flatMap fun one => arrowsTo ns ns.length one
theorem nodup_flatMap {α β : Type} {f : α → List β} : ∀ {l : List α}, l.Nodup → (∀ a ∈ l, (f a).Nodup) → (∀ a ∈ l, ∀ b ∈ l, a ≠ b → ∀ x, x ∈ f a → x ∉ f b) → (l.flatMap f).Nodup
  | [], _, _, _ => List.nodup_nil
  | a :: r, h, h1, h2 => by
    obtain ⟨k1, k2⟩ := List.nodup_cons.mp h
    rw [List.flatMap_cons]
    refine List.nodup_append.mpr ⟨h1 a (List.mem_cons_self ..), nodup_flatMap k2 (fun b hb => h1 b (List.mem_cons_of_mem _ hb)) (fun b hb c hc => h2 b (List.mem_cons_of_mem _ hb) c (List.mem_cons_of_mem _ hc)), ?_⟩
    intro x hx y hy e
    subst e
    obtain ⟨b, hb, hxb⟩ := List.mem_flatMap.mp hy
    exact h2 a (List.mem_cons_self ..) b (List.mem_cons_of_mem _ hb) (fun e => k1 (e ▸ hb)) x hx hxb
theorem mem_arrowsTo {ns : List Int} {n one : Nat} {x : List Int} : x ∈ arrowsTo ns n one ↔ ∃ d, 1 ≤ d ∧ one + d < n ∧ x = [(d : Int), up ns one d] := by
  unfold arrowsTo
  rw [List.mem_map]
  constructor
  · rintro ⟨o, ho, rfl⟩
    rw [List.mem_range'_1] at ho
    refine ⟨o - one, by omega, by omega, ?_⟩
    unfold up
    rw [show one + (o - one) = o by omega, show ((o - one : Nat) : Int) = (o : Int) - (one : Int) by omega]
  · rintro ⟨d, h1, h2, rfl⟩
    refine ⟨one + d, List.mem_range'_1.mpr (by omega), ?_⟩
    unfold up
    rw [show ((one + d : Nat) : Int) - (one : Int) = (d : Int) by omega]
theorem arrows_apt (ns : List Int) : (arrows ns).Nodup ↔ Apt ns := by
  constructor
  · intro h d i j h1 h2 h3 e
    unfold arrows at h
    have hi : [(d : Int), up ns i d] ∈ arrowsTo ns ns.length i := mem_arrowsTo.mpr ⟨d, h1, by omega, rfl⟩
    have hj : [(d : Int), up ns i d] ∈ arrowsTo ns ns.length j := mem_arrowsTo.mpr ⟨d, h1, h3, by rw [e]⟩
    -- split the list at i and j
    have key : ∀ (l : List Nat) (f : Nat → List (List Int)) (i j : Nat) (x : List Int), (l.flatMap f).Nodup → l.Pairwise (· < ·) → i ∈ l → j ∈ l → i < j → x ∈ f i → x ∈ f j → False := by
      intro l
      induction l with
      | nil => intro f i j x _ _ hi; exact absurd hi (List.not_mem_nil)
      | cons a r ih =>
        intro f i j x hn hp hi hj hij xi xj
        rw [List.flatMap_cons] at hn
        obtain ⟨n1, n2, n3⟩ := List.nodup_append.mp hn
        obtain ⟨p1, p2⟩ := List.pairwise_cons.mp hp
        rcases List.mem_cons.mp hj with ej | ej
        · rcases List.mem_cons.mp hi with ei | ei
          · omega
          · have := p1 i ei
            omega
        · rcases List.mem_cons.mp hi with ei | ei
          · subst ei
            exact n3 x xi x (List.mem_flatMap.mpr ⟨j, ej, xj⟩) rfl
          · exact ih f i j x n2 p2 ei ej hij xi xj
    exact key _ _ i j _ h List.pairwise_lt_range (List.mem_range.mpr (by omega)) (List.mem_range.mpr (by omega)) h2 hi hj
  · intro h
    refine nodup_flatMap List.nodup_range (fun one _ => ?_) fun a ha b hb hab x xa xb => ?_
    · unfold arrowsTo
      refine map_nodup (List.nodup_range' 1) fun x _ y _ e => ?_
      have := (List.cons.inj e).1
      omega
    · obtain ⟨d, d1, d2, rfl⟩ := mem_arrowsTo.mp xa
      obtain ⟨d', _, d2', e⟩ := mem_arrowsTo.mp xb
      have e1 := (List.cons.inj e).1
      have e2 := (List.cons.inj (List.cons.inj e).2).1
      have e3 : d = d' := by omega
      subst e3
      rcases Nat.lt_or_ge a b with z | z
      · exact h d a b d1 z (by omega) e2
      · exact h d b a d1 (by omega) (by omega) e2.symm
end AD
namespace AD
theorem arrowsTo_len (ns : List Int) (n one : Nat) : (arrowsTo ns n one).length = n - (one + 1) := by
  unfold arrowsTo
  rw [List.length_map, List.length_range']
theorem arrowsTo_at {ns : List Int} {n one j : Nat} (h : j < n - (one + 1)) : (arrowsTo ns n one)[j]? = some [((one + 1 + j : Nat) : Int) - (one : Int), ns.getD (one + 1 + j) 0 - ns.getD one 0] := by
  unfold arrowsTo
  rw [List.getElem?_map, List.getElem?_range' h, Nat.one_mul]
  rfl
def tri (n : Nat) : Nat := ((List.range n).map fun one => n - (one + 1)).sum
theorem arrows_len (ns : List Int) : (arrows ns).length = tri ns.length := by
  unfold arrows tri
  rw [List.length_flatMap]
  congr 1
  exact List.map_congr_left fun one _ => arrowsTo_len ns _ one
theorem tri9 : ∀ n, n ≤ 9 → tri n < 64 := by decide +kernel
theorem tri60 : ∀ n, n ≤ 60 → tri n < 2000 := by decide +kernel
theorem flat_succ {β : Type} (f : Nat → List β) (i : Nat) : (List.range (i + 1)).flatMap f = (List.range i).flatMap f ++ f i := by
  rw [List.range_succ, List.flatMap_append, List.flatMap_singleton]
/-- a thing put in somewhere -/
theorem insert_perm {α : Type} (l : List α) (i : Nat) (x : α) : (l.take i ++ [x] ++ l.drop i).Perm (x :: l) := by
  have h : (l.take i ++ ([x] ++ l.drop i)).Perm ([x] ++ (l.take i ++ l.drop i)) := by
    rw [← List.append_assoc, ← List.append_assoc]
    exact List.Perm.append_right _ List.perm_append_comm
  rw [List.append_assoc]
  rw [List.take_append_drop] at h
  exact h
theorem range_snoc_perm {l : List Nat} {n i : Nat} (h : l.Perm (List.range n)) : (l.take i ++ [n] ++ l.drop i).Perm (List.range (n + 1)) := by
  refine (insert_perm l i n).trans ?_
  rw [List.range_succ]
  exact (List.Perm.cons n h).trans (List.perm_append_comm (l₁ := [n]))
end AD
namespace AD
/-! ### crossed: two roots whose powers come to 1 together -/
/-- the rows by two roots -/
structure Cross (p g h : Nat) (l : List Nat) : Prop where
  len : l.length = p - 2
  at1 : ∀ c r, l[c]? = some r → r < p - 2 ∧ (g ^ (c + 1) + h ^ (r + 1)) % p = 1
theorem mod_dvd {p x : Nat} (hp : 3 ≤ p) (h : x % p = 1) : (p : Int) ∣ (x : Int) - 1 := by
  refine ⟨((x / p : Nat) : Int), ?_⟩
  have e := Nat.div_add_mod x p
  rw [h] at e
  have e2 : (x : Int) = (p : Int) * ((x / p : Nat) : Int) + 1 := by exact_mod_cast e.symm
  omega
theorem dvd_mod {p x y : Nat} (h : (p : Int) ∣ (x : Int) - (y : Int)) : x % p = y % p := modsub.mp (Int.emod_eq_zero_of_dvd h)
theorem Good.dvd_mul {p : Nat} (G : Good p) {x y : Int} (h : (p : Int) ∣ x * y) : (p : Int) ∣ x ∨ (p : Int) ∣ y := by
  have h1 : p ∣ x.natAbs * y.natAbs := by
    have := Int.natAbs_dvd_natAbs.mpr h
    rw [Int.natAbs_mul] at this
    exact this
  by_cases a : x.natAbs % p = 0
  · exact .inl (Int.natAbs_dvd_natAbs.mp (Nat.dvd_of_mod_eq_zero a))
  · by_cases b : y.natAbs % p = 0
    · exact .inr (Int.natAbs_dvd_natAbs.mp (Nat.dvd_of_mod_eq_zero b))
    · exact absurd (Nat.mod_eq_zero_of_dvd h1) (G.mul_ne a b)
theorem Root.inj1 {p g i j : Nat} (R : Root p g) (hi : i < p - 2) (hj : j < p - 2) (e : (p : Int) ∣ ((g ^ (i + 1) : Nat) : Int) - ((g ^ (j + 1) : Nat) : Int)) : i = j := by
  have h := R.inj (i := i + 1) (j := j + 1) (by omega) (by omega) (dvd_mod e)
  omega
theorem sum_dvd {p x y : Nat} (hp : 3 ≤ p) (h : (x + y) % p = 1) : (p : Int) ∣ (x : Int) + (y : Int) - 1 := by
  have h2 := mod_dvd hp h
  rw [Int.natCast_add] at h2
  exact h2
theorem Cross.lt {p g h : Nat} {l : List Nat} (X : Cross p g h l) {c : Nat} {r : Nat} (e : l[c]? = some r) : c < p - 2 := by
  have h1 := (List.getElem?_eq_some_iff.mp e).1
  have := X.len
  omega
/-- there is but one -/
theorem Cross.unique {p g h : Nat} {l m : List Nat} (R : Root p h) (X : Cross p g h l) (Y : Cross p g h m) : l = m := by
  have lo := R.good.lo
  refine List.ext_getElem (by rw [X.len, Y.len]) fun c c1 c2 => ?_
  obtain ⟨a1, a2⟩ := X.at1 c _ (List.getElem?_eq_getElem c1)
  obtain ⟨b1, b2⟩ := Y.at1 c _ (List.getElem?_eq_getElem c2)
  obtain ⟨x, hx⟩ := sum_dvd lo a2
  obtain ⟨y, hy⟩ := sum_dvd lo b2
  exact R.inj1 a1 b1 ⟨x - y, by grind⟩
/-- with the roots exchanged rows and columns are -/
theorem Cross.back {p g h : Nat} {l m : List Nat} (Rg : Root p g) (X : Cross p g h l) (Y : Cross p h g m) {c r : Nat} (e : l[c]? = some r) : m[r]? = some c := by
  have lo := Rg.good.lo
  obtain ⟨a1, a2⟩ := X.at1 c _ e
  have hc := X.lt e
  have hr : r < m.length := by rw [Y.len]; exact a1
  rw [List.getElem?_eq_getElem hr]
  obtain ⟨b1, b2⟩ := Y.at1 r _ (List.getElem?_eq_getElem hr)
  obtain ⟨x, hx⟩ := sum_dvd lo a2
  obtain ⟨y, hy⟩ := sum_dvd lo b2
  exact congrArg some (Rg.inj1 b1 hc ⟨y - x, by grind⟩)
theorem Cross.inj {p g h : Nat} {l : List Nat} (R : Root p g) (X : Cross p g h l) {c d r : Nat} (e : l[c]? = some r) (f : l[d]? = some r) : c = d := by
  have lo := R.good.lo
  obtain ⟨x, hx⟩ := sum_dvd lo (X.at1 c _ e).2
  obtain ⟨y, hy⟩ := sum_dvd lo (X.at1 d _ f).2
  exact R.inj1 (X.lt e) (X.lt f) ⟨x - y, by grind⟩
theorem nodup_of_at {l : List Nat} (h : ∀ i j r : Nat, l[i]? = some r → l[j]? = some r → i = j) : l.Nodup := by
  refine List.pairwise_iff_getElem.mpr fun i j hi hj hij e => ?_
  have h1 := List.getElem?_eq_getElem hj
  have h2 := List.getElem?_eq_getElem hi
  rw [e] at h2
  have := h i j _ h2 h1
  omega
theorem Cross.perm {p g h : Nat} {l : List Nat} (R : Root p g) (X : Cross p g h l) : l.Perm (List.range (p - 2)) := by
  refine perm_range _ _ (nodup_of_at fun i j r => X.inj R) (fun x hx => ?_) X.len
  obtain ⟨c, hc⟩ := List.mem_iff_getElem?.mp hx
  exact (X.at1 c x hc).1
theorem getD_zof {l : List Nat} {c : Nat} (h : c < l.length) : (l.map fun n : Nat => (n : Int)).getD c 0 = (l[c] : Int) := by
  rw [List.getD_eq_getElem?_getD, List.getElem?_map, List.getElem?_eq_getElem h]
  rfl
theorem alg1 {p gd ga hA hB hU hF f x1 x2 : Int} (y1 : gd * ga + hA - 1 = p * x1) (y2 : ga + hB - 1 = p * x2) (e : hB * hU = hA * hF) (hf : hF - 1 = p * f) : p ∣ (gd - hU) * ga - 1 + hU :=
  ⟨x1 + hA * f - hU * x2, by grind⟩
theorem alg2 {p a b c d : Int} (h1 : p ∣ a * b - 1 + d) (h2 : p ∣ a * c - 1 + d) : p ∣ a * (b - c) := by
  obtain ⟨x, hx⟩ := h1
  obtain ⟨y, hy⟩ := h2
  exact ⟨x - y, by grind⟩
theorem alg3 {p g u a : Int} (h1 : p ∣ (g - u) * a - 1 + u) (h2 : p ∣ g - u) : p ∣ g - 1 := by
  obtain ⟨x, hx⟩ := h1
  obtain ⟨y, hy⟩ := h2
  exact ⟨x - y * a + y, by grind⟩
/-- crossed dots are apart -/
theorem Cross.apt {p g h : Nat} {l : List Nat} (Rg : Root p g) (Rh : Root p h) (X : Cross p g h l) : Apt (l.map fun n : Nat => (n : Int)) := by
  intro d i j d1 hij hjd e
  have lo := Rg.good.lo
  rw [List.length_map] at hjd
  unfold up at e
  rw [getD_zof (show i + d < l.length by omega), getD_zof (show i < l.length by omega), getD_zof (show j + d < l.length by omega), getD_zof (show j < l.length by omega)] at e
  have hl := X.len
  obtain ⟨a1, a2⟩ := X.at1 (i + d) _ (List.getElem?_eq_getElem (show i + d < l.length by omega))
  obtain ⟨b1, b2⟩ := X.at1 i _ (List.getElem?_eq_getElem (show i < l.length by omega))
  obtain ⟨c1, c2⟩ := X.at1 (j + d) _ (List.getElem?_eq_getElem (show j + d < l.length by omega))
  obtain ⟨e1, e2⟩ := X.at1 j _ (List.getElem?_eq_getElem (show j < l.length by omega))
  generalize l[i + d]'(by omega) = A at *
  generalize l[i]'(by omega) = B at *
  generalize l[j + d]'(by omega) = C at *
  generalize l[j]'(by omega) = E at *
  -- how far up, around
  obtain ⟨u, hu1, hu2⟩ : ∃ u : Nat, B + 1 + u = A + 1 + (p - 1) ∧ E + 1 + u = C + 1 + (p - 1) := ⟨A + (p - 1) - B, by omega, by omega⟩
  obtain ⟨f, hf⟩ := mod_dvd lo (Rh.good.ferm Rh.ne)
  have p1 : h ^ (B + 1) * h ^ u = h ^ (A + 1) * h ^ (p - 1) := by rw [← Nat.pow_add, ← Nat.pow_add, hu1]
  have p2 : h ^ (E + 1) * h ^ u = h ^ (C + 1) * h ^ (p - 1) := by rw [← Nat.pow_add, ← Nat.pow_add, hu2]
  have q1 : g ^ (i + d + 1) = g ^ d * g ^ (i + 1) := by rw [← Nat.pow_add]; congr 1; omega
  have q2 : g ^ (j + d + 1) = g ^ d * g ^ (j + 1) := by rw [← Nat.pow_add]; congr 1; omega
  rw [q1] at a2
  rw [q2] at c2
  obtain ⟨x1, y1⟩ := sum_dvd lo a2
  obtain ⟨x2, y2⟩ := sum_dvd lo b2
  obtain ⟨x3, y3⟩ := sum_dvd lo c2
  obtain ⟨x4, y4⟩ := sum_dvd lo e2
  rw [Int.natCast_mul] at y1 y3
  have p1' : ((h ^ (B + 1) : Nat) : Int) * ((h ^ u : Nat) : Int) = ((h ^ (A + 1) : Nat) : Int) * ((h ^ (p - 1) : Nat) : Int) := by exact_mod_cast p1
  have p2' : ((h ^ (E + 1) : Nat) : Int) * ((h ^ u : Nat) : Int) = ((h ^ (C + 1) : Nat) : Int) * ((h ^ (p - 1) : Nat) : Int) := by exact_mod_cast p2
  generalize hGa : ((g ^ (i + 1) : Nat) : Int) = ga at *
  generalize hGc : ((g ^ (j + 1) : Nat) : Int) = gc at *
  generalize hG : ((g ^ d : Nat) : Int) = gd at *
  generalize ((h ^ u : Nat) : Int) = hU at *
  generalize ((h ^ (B + 1) : Nat) : Int) = hB at *
  generalize ((h ^ (A + 1) : Nat) : Int) = hA at *
  generalize ((h ^ (C + 1) : Nat) : Int) = hC at *
  generalize ((h ^ (E + 1) : Nat) : Int) = hE at *
  generalize ((h ^ (p - 1) : Nat) : Int) = hF at *
  have k1 := alg1 y1 y2 p1' hf
  have k2 := alg1 y3 y4 p2' hf
  rcases Rg.good.dvd_mul (alg2 k1 k2) with k4 | k4
  · have k5 : (p : Int) ∣ gd - ((1 : Nat) : Int) := alg3 k1 k4
    rw [← hG] at k5
    have k6 := dvd_mod k5
    rw [Nat.mod_eq_of_lt (show 1 < p by omega)] at k6
    exact (plen_spec p g (by omega)).2.2.1 d d1 (by rw [Rg.len]; omega) k6
  · rw [← hGa, ← hGc] at k4
    have := Rg.inj1 (show i < p - 2 by omega) (show j < p - 2 by omega) k4
    omega
theorem Root.cross_z {p g c : Nat} (Rg : Root p g) (hc : 1 ≤ c) (hc2 : c < p - 1) : 0 ≤ (1 - ((g ^ c % p : Nat) : Int)) % (p : Int) - 1 ∧ (1 - ((g ^ c % p : Nat) : Int)) % (p : Int) - 1 < (p : Int) - 1 := by
  have lo := Rg.good.lo
  have x1 := Rg.good.pow_pos Rg.ne c
  have x2 := Nat.mod_lt (g ^ c) (show p > 0 by omega)
  have x3 : g ^ c % p ≠ 1 := (plen_spec p g (by omega)).2.2.1 c hc (by rw [Rg.len]; omega)
  rw [← Int.add_emod_right, Int.emod_eq_of_lt (by omega) (by omega)]
  omega
/-- the column that found_column tells -/
theorem Root.cross_at {p g h c r : Nat} (Rg : Root p g) (Rh : Root p h) (hc : 1 ≤ c) (hc2 : c < p - 1) (hr : r < p - 1) (e : ((rowA p h 1 r : Nat) : Int) = (1 - ((g ^ c % p : Nat) : Int)) % (p : Int)) : r < p - 2 ∧ (g ^ c + h ^ (r + 1)) % p = 1 := by
  have lo := Rg.good.lo
  have b1 : be p 1 = 1 := by
    have := be_cast lo 1
    rw [Int.emod_eq_of_lt (by decide) (show (1 : Int) < (p : Int) - 1 by omega)] at this
    omega
  unfold rowA at e
  rw [b1, Nat.add_comm 1 r] at e
  have x1 := Rg.good.pow_pos Rg.ne c
  have x2 := Nat.mod_lt (g ^ c) (show p > 0 by omega)
  have x3 : g ^ c % p ≠ 1 := (plen_spec p g (by omega)).2.2.1 c hc (by rw [Rg.len]; omega)
  have x4 : (1 - ((g ^ c % p : Nat) : Int)) % (p : Int) = (p : Int) + 1 - ((g ^ c % p : Nat) : Int) := by
    rw [← Int.add_emod_right, Int.emod_eq_of_lt (by omega) (by omega)]
    omega
  rw [x4] at e
  have x5 : h ^ (r + 1) % p + g ^ c % p = p + 1 := by omega
  constructor
  · rcases Nat.lt_or_ge r (p - 2) with z | z
    · exact z
    · have z2 : r + 1 = p - 1 := by omega
      rw [z2, Rh.good.ferm Rh.ne] at x5
      omega
  · rw [Nat.add_mod, Nat.add_comm, x5, Nat.add_mod_left, Nat.mod_eq_of_lt (by omega)]
end AD
namespace AD
/-! ### dots turned: where each comes -/
/-- where a dot comes -/
def pl (n w c r : Nat) : Nat × Nat :=
  let a := if 4 ≤ w then r else c
  let b := if 4 ≤ w then c else r
  (if w % 2 = 1 then n - 1 - a else a, if w / 2 % 2 = 1 then n - 1 - b else b)
/-- the way back -/
def bk (w : Nat) : Nat := [0, 1, 2, 3, 4, 6, 5, 7].getD w 0
/-- m: the dots l, turned -/
structure Turn (n w : Nat) (l m : List Nat) : Prop where
  len : m.length = n
  to : ∀ c r, l[c]? = some r → m[(pl n w c r).1]? = some (pl n w c r).2
/-- rows of a board, each once -/
structure Brd (n : Nat) (l : List Nat) : Prop where
  len : l.length = n
  pm : l.Perm (List.range n)
section
variable {n w : Nat} {l m : List Nat}
theorem Brd.lt (B : Brd n l) {c r : Nat} (h : l[c]? = some r) : c < n ∧ r < n := by
  have h1 := (List.getElem?_eq_some_iff.mp h).1
  have h2 := List.mem_range.mp (B.pm.mem_iff.mp (List.mem_of_getElem? h))
  have := B.len
  omega
theorem Brd.nodup (B : Brd n l) : l.Nodup := B.pm.nodup_iff.mpr List.nodup_range
theorem Brd.inj (B : Brd n l) {c d r : Nat} (h1 : l[c]? = some r) (h2 : l[d]? = some r) : c = d := by
  obtain ⟨a1, a2⟩ := List.getElem?_eq_some_iff.mp h1
  obtain ⟨b1, b2⟩ := List.getElem?_eq_some_iff.mp h2
  exact (List.getElem_inj B.nodup).mp (a2.trans b2.symm)
theorem Brd.onto (B : Brd n l) {r : Nat} (h : r < n) : ∃ c : Nat, l[c]? = some r :=
  List.mem_iff_getElem?.mp ((B.pm.mem_iff (a := r)).mpr (List.mem_range.mpr h))
theorem Brd.col (B : Brd n l) {c : Nat} (h : c < n) : ∃ r, l[c]? = some r :=
  ⟨_, List.getElem?_eq_getElem (by rw [B.len]; exact h)⟩
theorem pl_lt {c r : Nat} (h1 : c < n) (h2 : r < n) : (pl n w c r).1 < n ∧ (pl n w c r).2 < n := by
  unfold pl
  constructor <;> dsimp only <;> repeat' split
  all_goals omega
theorem pl_back {c r : Nat} (hw : w < 8) (h1 : c < n) (h2 : r < n) : pl n (bk w) (pl n w c r).1 (pl n w c r).2 = (c, r) := by
  have hw' : w = 0 ∨ w = 1 ∨ w = 2 ∨ w = 3 ∨ w = 4 ∨ w = 5 ∨ w = 6 ∨ w = 7 := by omega
  rcases hw' with rfl | rfl | rfl | rfl | rfl | rfl | rfl | rfl <;> simp [pl, bk] <;> omega
theorem bk_lt (hw : w < 8) : bk w < 8 := by
  have hw' : w = 0 ∨ w = 1 ∨ w = 2 ∨ w = 3 ∨ w = 4 ∨ w = 5 ∨ w = 6 ∨ w = 7 := by omega
  rcases hw' with rfl | rfl | rfl | rfl | rfl | rfl | rfl | rfl <;> decide
/-- each column of the turned board is some dot's -/
theorem Brd.hit (B : Brd n l) {c' : Nat} (h : c' < n) : ∃ c r : Nat, l[c]? = some r ∧ (pl n w c r).1 = c' := by
  unfold pl
  by_cases h4 : 4 ≤ w
  · simp only [if_pos h4]
    by_cases h2 : w % 2 = 1
    · simp only [if_pos h2]
      obtain ⟨c, hc⟩ := B.onto (r := n - 1 - c') (by omega)
      exact ⟨c, _, hc, by omega⟩
    · simp only [if_neg h2]
      obtain ⟨c, hc⟩ := B.onto h
      exact ⟨c, _, hc, rfl⟩
  · simp only [if_neg h4]
    by_cases h2 : w % 2 = 1
    · simp only [if_pos h2]
      obtain ⟨r, hr⟩ := B.col (c := n - 1 - c') (by omega)
      exact ⟨_, r, hr, by omega⟩
    · simp only [if_neg h2]
      obtain ⟨r, hr⟩ := B.col h
      exact ⟨_, r, hr, rfl⟩
/-- each dot of the turned board is some dot's -/
theorem Turn.from (T : Turn n w l m) (B : Brd n l) {c' r' : Nat} (h : m[c']? = some r') : ∃ c r, l[c]? = some r ∧ pl n w c r = (c', r') := by
  have hc : c' < n := by
    have := (List.getElem?_eq_some_iff.mp h).1
    have := T.len
    omega
  obtain ⟨c, r, h1, h2⟩ := B.hit (w := w) hc
  have h3 := T.to c r h1
  rw [h2, h] at h3
  exact ⟨c, r, h1, Prod.ext h2 (Option.some.inj h3).symm⟩
theorem Turn.unique {m' : List Nat} (T : Turn n w l m) (U : Turn n w l m') (B : Brd n l) : m = m' := by
  refine List.ext_getElem? fun c' => ?_
  rcases Nat.lt_or_ge c' n with z | z
  · obtain ⟨c, r, h1, h2⟩ := B.hit (w := w) z
    rw [← h2, T.to c r h1, U.to c r h1]
  · rw [List.getElem?_eq_none (by rw [T.len]; exact z), List.getElem?_eq_none (by rw [U.len]; exact z)]
theorem pl_inj {c r d s : Nat} (hw : w < 8) (h1 : c < n) (h2 : r < n) (h3 : d < n) (h4 : s < n) (e : pl n w c r = pl n w d s) : c = d ∧ r = s := by
  have a := pl_back hw h1 h2
  rw [e, pl_back hw h3 h4] at a
  exact ⟨(congrArg Prod.fst a).symm, (congrArg Prod.snd a).symm⟩
theorem Turn.brd (T : Turn n w l m) (B : Brd n l) (hw : w < 8) : Brd n m := by
  refine ⟨T.len, perm_range _ _ (nodup_of_at fun i j r h1 h2 => ?_) (fun x hx => ?_) T.len⟩
  · obtain ⟨c, s, a1, a2⟩ := T.from B h1
    obtain ⟨d, t, b1, b2⟩ := T.from B h2
    have e := (congrArg Prod.snd a2).trans (congrArg Prod.snd b2).symm
    obtain ⟨c1, s1⟩ := B.lt a1
    obtain ⟨d1, t1⟩ := B.lt b1
    have k : c = d ∧ s = t := by
      unfold pl at e
      dsimp only at e
      by_cases h4 : 4 ≤ w
      · simp only [if_pos h4] at e
        have z : c = d := by
          split at e <;> omega
        subst z
        exact ⟨rfl, Option.some.inj (a1.symm.trans b1)⟩
      · simp only [if_neg h4] at e
        have z : s = t := by
          split at e <;> omega
        subst z
        exact ⟨B.inj a1 b1, rfl⟩
    rw [k.1, k.2, b2] at a2
    exact (congrArg Prod.fst a2).symm
  · obtain ⟨c', h⟩ := List.mem_iff_getElem?.mp hx
    obtain ⟨c, r, a1, a2⟩ := T.from B h
    obtain ⟨c1, r1⟩ := B.lt a1
    have := (pl_lt (w := w) c1 r1).2
    rw [a2] at this
    exact this
/-- turned back -/
theorem Turn.back (T : Turn n w l m) (B : Brd n l) (hw : w < 8) : Turn n (bk w) m l := by
  refine ⟨B.len, fun c' r' h => ?_⟩
  obtain ⟨c, r, a1, a2⟩ := T.from B h
  obtain ⟨c1, r1⟩ := B.lt a1
  have e := pl_back hw c1 r1
  rw [a2] at e
  rw [show pl n (bk w) c' r' = (c, r) from e]
  exact a1
/-! ### alike arrows, from any dot to any -/
def AptP (l : List Nat) : Prop := ∀ c1 r1 c2 r2 c3 r3 c4 r4 : Nat, l[c1]? = some r1 → l[c2]? = some r2 → l[c3]? = some r3 → l[c4]? = some r4 → (c2 : Int) - c1 = (c4 : Int) - c3 → (r2 : Int) - r1 = (r4 : Int) - r3 → c1 ≠ c2 → c1 = c3
theorem up_at {i d a b : Nat} (h1 : l[i]? = some a) (h2 : l[i + d]? = some b) : up (l.map fun k : Nat => (k : Int)) i d = (b : Int) - a := by
  unfold up
  rw [List.getD_eq_getElem?_getD, List.getD_eq_getElem?_getD, List.getElem?_map, List.getElem?_map, h1, h2]
  rfl
theorem aptP_iff : Apt (l.map fun k : Nat => (k : Int)) ↔ AptP l := by
  constructor
  · intro A
    have key : ∀ c1 r1 c2 r2 c3 r3 c4 r4 : Nat, l[c1]? = some r1 → l[c2]? = some r2 → l[c3]? = some r3 → l[c4]? = some r4 → (c2 : Int) - c1 = (c4 : Int) - c3 → (r2 : Int) - r1 = (r4 : Int) - r3 → c1 < c2 → c1 < c3 → False := by
      intro c1 r1 c2 r2 c3 r3 c4 r4 h1 h2 h3 h4 e1 e2 z1 z2
      have h4' : c4 = c3 + (c2 - c1) := by omega
      have h2' : c2 = c1 + (c2 - c1) := by omega
      have l4 := (List.getElem?_eq_some_iff.mp h4).1
      refine A (c2 - c1) c1 c3 (by omega) z2 (by rw [List.length_map]; omega) ?_
      rw [up_at h1 (by rw [← h2']; exact h2), up_at h3 (by rw [← h4']; exact h4), e2]
    intro c1 r1 c2 r2 c3 r3 c4 r4 h1 h2 h3 h4 e1 e2 ne
    rcases Nat.lt_trichotomy c1 c3 with z | z | z
    · rcases Nat.lt_or_ge c1 c2 with y | y
      · exact (key c1 r1 c2 r2 c3 r3 c4 r4 h1 h2 h3 h4 e1 e2 y z).elim
      · exact (key c2 r2 c1 r1 c4 r4 c3 r3 h2 h1 h4 h3 (by omega) (by omega) (by omega) (by omega)).elim
    · exact z
    · rcases Nat.lt_or_ge c1 c2 with y | y
      · exact (key c3 r3 c4 r4 c1 r1 c2 r2 h3 h4 h1 h2 (by omega) (by omega) (by omega) (by omega)).elim
      · exact (key c4 r4 c3 r3 c2 r2 c1 r1 h4 h3 h2 h1 (by omega) (by omega) (by omega) (by omega)).elim
  · intro A d i j h1 h2 h3 e
    rw [List.length_map] at h3
    have g : ∀ c, c < l.length → l[c]? = some (l.getD c 0) := fun c h => by
      rw [List.getD_eq_getElem?_getD, List.getElem?_eq_getElem h]
      rfl
    have a1 := g i (by omega)
    have a2 := g (i + d) (by omega)
    have a3 := g j (by omega)
    have a4 := g (j + d) (by omega)
    rw [up_at a1 a2, up_at a3 a4] at e
    have := A i _ (i + d) _ j _ (j + d) _ a1 a2 a3 a4 (by omega) e (by omega)
    omega
theorem Turn.apt1 (T : Turn n w l m) (B : Brd n l) (A : AptP l) : AptP m := by
  intro c1 r1 c2 r2 c3 r3 c4 r4 h1 h2 h3 h4 e1 e2 ne
  obtain ⟨a1, b1, p1, q1⟩ := T.from B h1
  obtain ⟨a2, b2, p2, q2⟩ := T.from B h2
  obtain ⟨a3, b3, p3, q3⟩ := T.from B h3
  obtain ⟨a4, b4, p4, q4⟩ := T.from B h4
  obtain ⟨x1, y1⟩ := B.lt p1
  obtain ⟨x2, y2⟩ := B.lt p2
  obtain ⟨x3, y3⟩ := B.lt p3
  obtain ⟨x4, y4⟩ := B.lt p4
  have k : a1 = a3 := by
    refine A a1 b1 a2 b2 a3 b3 a4 b4 p1 p2 p3 p4 ?_ ?_ ?_
    · unfold pl at q1 q2 q3 q4
      simp only [Prod.mk.injEq] at q1 q2 q3 q4
      by_cases h4 : 4 ≤ w
      · simp only [if_pos h4] at q1 q2 q3 q4
        split at q1 <;> split at q1 <;> simp_all <;> omega
      · simp only [if_neg h4] at q1 q2 q3 q4
        split at q1 <;> split at q1 <;> simp_all <;> omega
    · unfold pl at q1 q2 q3 q4
      simp only [Prod.mk.injEq] at q1 q2 q3 q4
      by_cases h4 : 4 ≤ w
      · simp only [if_pos h4] at q1 q2 q3 q4
        split at q1 <;> split at q1 <;> simp_all <;> omega
      · simp only [if_neg h4] at q1 q2 q3 q4
        split at q1 <;> split at q1 <;> simp_all <;> omega
    · intro z
      subst z
      have z2 := Option.some.inj (p1.symm.trans p2)
      rw [z2, q2] at q1
      exact ne (congrArg Prod.fst q1).symm
  subst k
  have z2 := Option.some.inj (p1.symm.trans p3)
  rw [z2, q3] at q1
  exact (congrArg Prod.fst q1).symm
/-- as many alike arrows or none as ahead -/
theorem Turn.apt (T : Turn n w l m) (B : Brd n l) (hw : w < 8) : Apt (m.map fun k : Nat => (k : Int)) ↔ Apt (l.map fun k : Nat => (k : Int)) := by
  rw [aptP_iff, aptP_iff]
  exact ⟨fun h => (T.back B hw).apt1 (T.brd B hw) h, fun h => T.apt1 B h⟩
/-! ### how they are turned -/
def inv (n : Nat) (l : List Nat) : List Nat := (List.range n).map fun r => l.idxOf r
def t0 (n w : Nat) (l : List Nat) : List Nat := if 4 ≤ w then inv n l else l
def t1 (n w : Nat) (l : List Nat) : List Nat := if w % 2 = 1 then (t0 n w l).reverse else t0 n w l
def t2 (n w : Nat) (l : List Nat) : List Nat := if w / 2 % 2 = 1 then (t1 n w l).map (fun r => n - 1 - r) else t1 n w l
theorem Brd.idx (B : Brd n l) {c r : Nat} (h : l[c]? = some r) : l.idxOf r = c := by
  obtain ⟨a1, a2⟩ := List.getElem?_eq_some_iff.mp h
  rw [← a2]
  exact List.Nodup.idxOf_getElem B.nodup c a1
theorem t0_len (B : Brd n l) : (t0 n w l).length = n := by
  unfold t0 inv
  split
  · rw [List.length_map, List.length_range]
  · exact B.len
theorem t1_len (B : Brd n l) : (t1 n w l).length = n := by
  unfold t1
  split
  · rw [List.length_reverse, t0_len B]
  · exact t0_len B
theorem t2_turn (B : Brd n l) : Turn n w l (t2 n w l) := by
  refine ⟨?_, fun c r h => ?_⟩
  · unfold t2
    split
    · rw [List.length_map, t1_len B]
    · exact t1_len B
  · obtain ⟨c1, r1⟩ := B.lt h
    have e0 : (t0 n w l)[if 4 ≤ w then r else c]? = some (if 4 ≤ w then c else r) := by
      unfold t0 inv
      by_cases h4 : 4 ≤ w
      · rw [if_pos h4, if_pos h4, if_pos h4, List.getElem?_map, List.getElem?_range r1]
        show some (l.idxOf r) = some c
        rw [B.idx h]
      · rw [if_neg h4, if_neg h4, if_neg h4]
        exact h
    have lta : (if 4 ≤ w then r else c) < n := by split <;> omega
    unfold t2 t1 pl
    dsimp only
    generalize (if 4 ≤ w then r else c) = a at *
    generalize (if 4 ≤ w then c else r) = b at *
    have e1 : (if w % 2 = 1 then (t0 n w l).reverse else t0 n w l)[if w % 2 = 1 then n - 1 - a else a]? = some b := by
      by_cases h2 : w % 2 = 1
      · rw [if_pos h2, if_pos h2, List.getElem?_reverse (by rw [t0_len B]; omega), t0_len B, show n - 1 - (n - 1 - a) = a by omega]
        exact e0
      · rw [if_neg h2, if_neg h2]
        exact e0
    by_cases h3 : w / 2 % 2 = 1
    · rw [if_pos h3, if_pos h3, List.getElem?_map, e1]
      rfl
    · rw [if_neg h3, if_neg h3]
      exact e1
/-! ### the first column and row taken off -/
theorem Brd.cut {t : List Nat} (B : Brd n (0 :: t)) : Brd (n - 1) (t.map fun r => r - 1) := by
  have hl := B.len
  rw [List.length_cons] at hl
  obtain ⟨k1, k2⟩ := List.nodup_cons.mp B.nodup
  have hne : ∀ x ∈ t, x ≠ 0 := fun x hx e => k1 (e ▸ hx)
  refine ⟨by rw [List.length_map]; omega, perm_range _ _ (map_nodup k2 fun x hx y hy e => ?_) (fun x hx => ?_) (by rw [List.length_map]; omega)⟩
  · have := hne x hx
    have := hne y hy
    omega
  · obtain ⟨y, hy, e⟩ := List.mem_map.mp hx
    have h1 := hne y hy
    have h2 := List.mem_range.mp (B.pm.mem_iff.mp (List.mem_cons_of_mem 0 hy))
    omega
theorem Brd.cut_apt {t : List Nat} (B : Brd n (0 :: t)) (A : Apt ((0 :: t).map fun k : Nat => (k : Int))) : Apt ((t.map fun r => r - 1).map fun k : Nat => (k : Int)) := by
  rw [aptP_iff] at A ⊢
  obtain ⟨k1, k2⟩ := List.nodup_cons.mp B.nodup
  have hne : ∀ x ∈ t, x ≠ 0 := fun x hx e => k1 (e ▸ hx)
  have g : ∀ c r, (t.map fun r => r - 1)[c]? = some r → (0 :: t)[c + 1]? = some (r + 1) := fun c r h => by
    rw [List.getElem?_map] at h
    cases e : t[c]? with
    | none => rw [e] at h; cases h
    | some x =>
      rw [e] at h
      have h1 : x - 1 = r := Option.some.inj h
      have h2 := hne x (List.mem_of_getElem? e)
      rw [List.getElem?_cons_succ, e]
      congr 1
      omega
  intro c1 r1 c2 r2 c3 r3 c4 r4 h1 h2 h3 h4 e1 e2 ne
  have := A _ _ _ _ _ _ _ _ (g _ _ h1) (g _ _ h2) (g _ _ h3) (g _ _ h4) (by omega) (by omega) (by omega)
  omega
end
end AD
namespace Lw
open PySem PySem.Spec PyProof.Rows L2 AD
section
variable {P : Program} {w : World} {K : PySem.W.Frag} {mg : Str → Option Value} {base : Heap}
variable {fa : Nat → Addr} {fd : Nat → FuncData} {tk : Nat → Tok}
/-! ### classes of the text -/
/-- a class whose making is object's own -/
structure MkP (K : PySem.W.Frag) (C : Addr) : Prop where
  mks : PySem.W.makesIn K C = true
  ini : PySem.W.findIn K (.ref C) "__init__" = some (some (.builtin "object.__init__"))
  kp : PySem.W.keepIn K (.ref C) = true
/-- what isinstance asks of an instance of it -/
structure InsF (K : PySem.W.Frag) (C : Addr) : Prop where
  cl : Cls K C
  f1 : PySem.W.findIn K (.ref C) "__class__" = some (some (.builtin "object.__class__"))
  f2 : PySem.W.specialIn K (.builtin "object.__class__") "__get__" = some (some (.builtin "getset_descriptor.__get__"))
  f3 : PySem.W.takesIn K (.builtin "object.__class__") = some true
  f4 : PySem.W.mroIn K C (.type "object") = some true
theorem InsF.ty {C a dx : Addr} {H : Hp} {fs : List (Str × V)} (i : InsF K C) (h : H a = some (.ins C dx fs)) : TyX K H (.ref a) (.ref C) := .base (.ins h i.cl i.f1 i.f2 i.f3 i.f4)
theorem kit_own {t : Value} {C : Addr} {b : Bool} (h1 : PySem.W.isClsIn K C = true) (h2 : PySem.W.typeIn K (.ref C) = some (.type "type")) (h3 : PySem.W.subIn K t (.ref C) = some b) (h4 : PySem.W.subIn K (.ref C) (.ref C) = some true) : PySem.W.kitOne K t (.ref C) = some b := by
  unfold PySem.W.kitOne
  by_cases e : (t == Value.ref C) = true
  · rw [if_pos e]
    have e' : t = .ref C := eq_of_beq e
    rw [e', h4] at h3
    exact h3
  · rw [if_neg e]
    have h5 : ((PySem.W.clsIn K C).isSome && PySem.W.typeIn K (.ref C) == some (.type "type")) = true := by
      rw [h2, show (PySem.W.clsIn K C).isSome = true from h1]
      rfl
    show (if ((PySem.W.clsIn K C).isSome && PySem.W.typeIn K (.ref C) == some (.type "type")) = true then PySem.W.subIn K t (.ref C) else none) = some b
    rw [if_pos h5]
    exact h3
/-- C(), C without an own __init__: a new instance -/
def tMakeP (C : Addr) : TE := fun _ H Q => ∀ x dx, H x = none → H dx = none → dx ≠ x → Q (.ref x) (upd (upd H dx (.own x)) x (.ins C dx []))
theorem pe_makeP {X : Cx} {C : Addr} {x : Str} {p pos : Pos} (M : MkP X.K C) (hg : Gl X x) (hm : X.mg x = some (.ref C)) (hdb : (x == ("__debug__" : Str)) = false := by decide) :
    PE X (.Call (.Name x p) [] [] pos) (tMakeP C) := by
  refine ⟨fun pins s σ H Q I h => wpAny_Call_Name_kw (ld_glob I hg hm ?_ hdb)⟩
  refine PySem.W.callWith_K0 I.kIn M.kp (wpAny_call (make_map0 I.kIn M.mks M.ini (fun v => PySem.W.Looks.of_pure (PySem.W.oi_bind v)) ?_))
  have J := Inv.made (C := C) I
  have Y := PySem.W.makes_of (M := model X.prog X.w) I.kIn M.mks
  obtain ⟨_, _, _, e, _⟩ := J.hok _ _ upd_same
  have t1 : PySem.W.Looks (model X.prog X.w) ((s.heap.push PySem.W.emptyDict).push (PySem.W.instObj C s.heap.objs.size)) (typeOf (.ref (s.heap.objs.size + 1))) (.ref C) := (PySem.W.Looks.ld e).andThen .now
  have t2 : PySem.W.Looks (model X.prog X.w) ((s.heap.push PySem.W.emptyDict).push (PySem.W.instObj C s.heap.objs.size)) (isInstance (.ref (s.heap.objs.size + 1)) (.type "object")) true :=
    t1.andThen (Y.top.keeps fun b o q => Heap.get?_push_of_some _ (Heap.get?_push_of_some _ q))
  refine codeAny_call_builtin PySem.W.oi_plain PySem.W.entry_oi (PySem.W.check_slot (rest := []) (kw := []) PySem.W.oi_kind PySem.W.oi_split t2 (PySem.W.oi_args _) ?_)
  rw [PySem.W.oi_run]
  exact wpAny_pure ⟨rfl, ⟨.ref (s.heap.objs.size + 1), _, J, rfl, h _ _ (I.hok.fresh (Nat.le_succ _)) (I.hok.fresh (Nat.le_refl _)) (Nat.ne_of_lt (Nat.lt_succ_self _))⟩⟩
end
end Lw
namespace Lw
open PySem PySem.Spec PyProof.Rows L2 AD
section
variable {P : Program} {w : World} {K : PySem.W.Frag} {mg : Str → Option Value} {base : Heap}
variable {fa : Nat → Addr} {fd : Nat → FuncData} {tk : Nat → Tok}
/-! ### the exception classes of the text -/
structure XcF (K : PySem.W.Frag) (C D : Addr) : Prop where
  ex : PySem.W.excIn K C [.type "ValueError", .type "Exception", .type "BaseException", .type "object"] "ValueError.__new__" = true
  kp : PySem.W.keepIn K (.ref C) = true
  b : PySem.W.subIn K (.ref C) (.type "BaseException") = some true
  v : PySem.W.subIn K (.ref C) (.type "ValueError") = some true
  t : PySem.W.typeIn K (.ref C) = some (.type "type")
  ec : ExcC K C
  em : PySem.W.exmOne K (.ref C) (.ref D) = some true
theorem XcF.kv {C D : Addr} (x : XcF K C D) : PySem.W.kitOne K (.ref C) (.type "ValueError") = some true := Hx.kit_bt (by
  show (if PySem.W.kitMeta "ValueError" = true then PySem.W.subIn K (.ref C) (.type "ValueError") else none) = some true
  rw [if_pos (show PySem.W.kitMeta "ValueError" = true by decide +kernel)]
  exact x.v)
end
end Lw
namespace Lw
open PySem PySem.Spec PyProof.Rows L2 AD
def topS (i : Nat) : Stmt := PySem.Challenge.pw_arrowdots_k08_refused.main.body.getD i (.Pass ⟨0, 0, 0, 0⟩)
abbrev s_is_whole : Stmt := topS 15
abbrev s_is_prime : Stmt := topS 16
abbrev s_asked_prime : Stmt := topS 17
abbrev s_power : Stmt := topS 18
abbrev s_root_of : Stmt := topS 19
abbrev s_is_root : Stmt := topS 20
abbrev s_least_root : Stmt := topS 21
abbrev s_asked_root : Stmt := topS 22
abbrev s_asked_plan : Stmt := topS 24
abbrev s_row_of : Stmt := topS 25
abbrev s_found_column : Stmt := topS 26
abbrev s_column_of : Stmt := topS 27
abbrev s_arrow_of : Stmt := topS 28
abbrev s_dots_of : Stmt := topS 29
abbrev s_crossed : Stmt := topS 30
abbrev s_first_same : Stmt := topS 33
abbrev s_Same_init : Stmt := inClass (topS 35) 0
abbrev s_asked_dots : Stmt := topS 38
abbrev s_judged : Stmt := topS 39
abbrev s_turned : Stmt := topS 40
abbrev s_without_corner : Stmt := topS 41
abbrev s__law_kinds : Stmt := topS 43
abbrev s__law_refused : Stmt := topS 44
abbrev s__law_all : Stmt := topS 45
abbrev s__law_no_wholes : Stmt := topS 46
abbrev s__law_plans_right : Stmt := topS 47
abbrev s_law : Stmt := topS 48
theorem sc_is_whole : FnScope ["thing"] ["thing"] (defScope s_is_whole) :=
  ⟨rfl, rfl, rfl, by decide +kernel, rfl, by decide +kernel, by decide +kernel⟩
theorem sc_is_prime : FnScope ["number", "at"] ["number"] (defScope s_is_prime) :=
  ⟨rfl, rfl, rfl, by decide +kernel, rfl, by decide +kernel, by decide +kernel⟩
theorem sc_asked_prime : FnScope ["prime", "most"] ["prime", "most"] (defScope s_asked_prime) :=
  ⟨rfl, rfl, rfl, by decide +kernel, rfl, by decide +kernel, by decide +kernel⟩
theorem sc_power : FnScope ["number", "times", "prime", "found"] ["number", "times", "prime"] (defScope s_power) :=
  ⟨rfl, rfl, rfl, by decide +kernel, rfl, by decide +kernel, by decide +kernel⟩
theorem sc_root_of : FnScope ["prime", "number", "many", "left", "at"] ["prime", "number"] (defScope s_root_of) :=
  ⟨rfl, rfl, rfl, by decide +kernel, rfl, by decide +kernel, by decide +kernel⟩
theorem sc_is_root : FnScope ["prime", "number"] ["prime", "number"] (defScope s_is_root) :=
  ⟨rfl, rfl, rfl, by decide +kernel, rfl, by decide +kernel, by decide +kernel⟩
theorem sc_least_root : FnScope ["prime", "number"] ["prime"] (defScope s_least_root) :=
  ⟨rfl, rfl, rfl, by decide +kernel, rfl, by decide +kernel, by decide +kernel⟩
theorem sc_asked_root : FnScope ["prime", "root"] ["prime", "root"] (defScope s_asked_root) :=
  ⟨rfl, rfl, rfl, by decide +kernel, rfl, by decide +kernel, by decide +kernel⟩
theorem sc_asked_plan : FnScope ["prime", "root", "begin", "most"] ["prime", "root", "begin", "most"] (defScope s_asked_plan) :=
  ⟨rfl, rfl, rfl, by decide +kernel, rfl, by decide +kernel, by decide +kernel⟩
theorem sc_row_of : FnScope ["prime", "root", "begin", "column"] ["prime", "root", "begin", "column"] (defScope s_row_of) :=
  ⟨rfl, rfl, rfl, by decide +kernel, rfl, by decide +kernel, by decide +kernel⟩
theorem sc_found_column : FnScope ["prime", "root", "begin", "row", "at", "column"] ["prime", "root", "begin", "row"] (defScope s_found_column) :=
  ⟨rfl, rfl, rfl, by decide +kernel, rfl, by decide +kernel, by decide +kernel⟩
theorem sc_column_of : FnScope ["prime", "root", "begin", "row"] ["prime", "root", "begin", "row"] (defScope s_column_of) :=
  ⟨rfl, rfl, rfl, by decide +kernel, rfl, by decide +kernel, by decide +kernel⟩
theorem sc_arrow_of : FnScope ["prime", "root", "begin", "across", "up", "apart"] ["prime", "root", "begin", "across", "up"] (defScope s_arrow_of) :=
  ⟨rfl, rfl, rfl, by decide +kernel, rfl, by decide +kernel, by decide +kernel⟩
theorem sc_dots_of : FnScope ["prime", "root", "begin", "column"] ["prime", "root", "begin"] (defScope s_dots_of) :=
  ⟨rfl, rfl, rfl, by decide +kernel, rfl, by decide +kernel, by decide +kernel⟩
theorem sc_crossed : FnScope ["prime", "root", "other", "found", "column"] ["prime", "root", "other"] (defScope s_crossed) :=
  ⟨rfl, rfl, rfl, by decide +kernel, rfl, by decide +kernel, by decide +kernel⟩
theorem sc_first_same : FnScope ["dots", "across", "seen", "column", "up"] ["dots"] (defScope s_first_same) :=
  ⟨rfl, rfl, rfl, by decide +kernel, rfl, by decide +kernel, by decide +kernel⟩
theorem sc_Same_init : FnScope ["self", "first", "second", "across"] ["self", "first", "second", "across"] (defScope s_Same_init) :=
  ⟨rfl, rfl, rfl, by decide +kernel, rfl, by decide +kernel, by decide +kernel⟩
theorem sc_asked_dots : FnScope ["dots", "row"] ["dots"] (defScope s_asked_dots) :=
  ⟨rfl, rfl, rfl, by decide +kernel, rfl, by decide +kernel, by decide +kernel⟩
theorem sc_judged : FnScope ["dots", "found"] ["dots"] (defScope s_judged) :=
  ⟨rfl, rfl, rfl, by decide +kernel, rfl, by decide +kernel, by decide +kernel⟩
theorem sc_turned : FnScope ["dots", "way", "found", "row"] ["dots", "way"] (defScope s_turned) :=
  ⟨rfl, rfl, rfl, by decide +kernel, rfl, by decide +kernel, by decide +kernel⟩
theorem sc_without_corner : FnScope ["dots", "row"] ["dots"] (defScope s_without_corner) :=
  ⟨rfl, rfl, rfl, by decide +kernel, rfl, by decide +kernel, by decide +kernel⟩
theorem sc__law_kinds : FnScope ["_law_error", "_law_found"] ["_law_error"] (defScope s__law_kinds) :=
  ⟨rfl, rfl, rfl, by decide +kernel, rfl, by decide +kernel, by decide +kernel⟩
theorem sc__law_refused : FnScope ["_law_ask", "_law_thing", "_law_due", "_law_error", "_law_kind"] ["_law_ask", "_law_thing", "_law_due"] (defScope s__law_refused) :=
  ⟨rfl, rfl, rfl, by decide +kernel, rfl, by decide +kernel, by decide +kernel⟩
theorem sc__law_all : FnScope ["_law_asks", "_law_things", "_law_due", "_law_ask", "_law_thing"] ["_law_asks", "_law_things", "_law_due"] (defScope s__law_all) :=
  ⟨rfl, rfl, rfl, by decide +kernel, rfl, by decide +kernel, by decide +kernel⟩
theorem sc__law_no_wholes : FnScope [] [] (defScope s__law_no_wholes) :=
  ⟨rfl, rfl, rfl, by decide +kernel, rfl, by decide +kernel, by decide +kernel⟩
theorem sc__law_plans_right : FnScope ["_law_more", "_law_primes", "_law_asks", "_law_roots"] ["_law_more"] (defScope s__law_plans_right) :=
  ⟨rfl, rfl, rfl, by decide +kernel, rfl, by decide +kernel, by decide +kernel⟩
theorem sc_law : FnScope ["_law_script", "_law_cell", "_law_more", "_law_spots", "_law_far", "_law_asks", "_law_dots", "_law_ways"] ["_law_script"] (defScope s_law) :=
  ⟨rfl, rfl, rfl, by decide +kernel, rfl, by decide +kernel, by decide +kernel⟩
/-- what stands behind the top: the names left to Python, the constants, the defs -/
structure Txt (K : PySem.W.Frag) (mg : Str → Option Value) (fa : Nat → Addr) (fd : Nat → FuncData) (tk : Nat → Tok) : Prop where
  m_ValueError : mg "ValueError" = none
  m_abs : mg "abs" = none
  m_all : mg "all" = none
  m_bool : mg "bool" = none
  m_int : mg "int" = none
  m_isinstance : mg "isinstance" = none
  m_len : mg "len" = none
  m_list : mg "list" = none
  m_range : mg "range" = none
  m_sorted : mg "sorted" = none
  g_MOST : mg "MOST" = some (.int 2000 (tk 0))
  g_SMALL : mg "SMALL" = some (.int 61 (tk 1))
  g_LONGEST : mg "LONGEST" = some (.int 60 (tk 2))
  g_Answer : mg "Answer" = some (.ref (fa 37))
  mk_Answer : MkP K (fa 37)
  in_Answer : InsF K (fa 37)
  ki_Answer_Answer : PySem.W.kitOne K (.ref (fa 37)) (.ref (fa 37)) = some true
  ki_Answer_Apart : PySem.W.kitOne K (.ref (fa 37)) (.ref (fa 38)) = some false
  ki_Answer_Same : PySem.W.kitOne K (.ref (fa 37)) (.ref (fa 39)) = some false
  g_Apart : mg "Apart" = some (.ref (fa 38))
  mk_Apart : MkP K (fa 38)
  in_Apart : InsF K (fa 38)
  ki_Apart_Answer : PySem.W.kitOne K (.ref (fa 38)) (.ref (fa 37)) = some true
  ki_Apart_Apart : PySem.W.kitOne K (.ref (fa 38)) (.ref (fa 38)) = some true
  ki_Apart_Same : PySem.W.kitOne K (.ref (fa 38)) (.ref (fa 39)) = some false
  g_Same : mg "Same" = some (.ref (fa 39))
  mk_Same : Mk K (fa 39) (fa 16)
  in_Same : InsF K (fa 39)
  na_Same_first : NoAttr K (fa 39) "first"
  na_Same_second : NoAttr K (fa 39) "second"
  na_Same_across : NoAttr K (fa 39) "across"
  ki_Same_Answer : PySem.W.kitOne K (.ref (fa 39)) (.ref (fa 37)) = some true
  ki_Same_Apart : PySem.W.kitOne K (.ref (fa 39)) (.ref (fa 38)) = some false
  ki_Same_Same : PySem.W.kitOne K (.ref (fa 39)) (.ref (fa 39)) = some true
  g_DotError : mg "DotError" = some (.ref (fa 27))
  x_DotError : XcF K (fa 27) (fa 27)
  kx_DotError_DotError : PySem.W.kitOne K (.ref (fa 27)) (.ref (fa 27)) = some true
  kx_DotError_BadPrime : PySem.W.kitOne K (.ref (fa 27)) (.ref (fa 28)) = some false
  kx_DotError_BadRoot : PySem.W.kitOne K (.ref (fa 27)) (.ref (fa 29)) = some false
  kx_DotError_BadNumber : PySem.W.kitOne K (.ref (fa 27)) (.ref (fa 30)) = some false
  kx_DotError_BadColumn : PySem.W.kitOne K (.ref (fa 27)) (.ref (fa 31)) = some false
  kx_DotError_BadRow : PySem.W.kitOne K (.ref (fa 27)) (.ref (fa 32)) = some false
  kx_DotError_BadArrow : PySem.W.kitOne K (.ref (fa 27)) (.ref (fa 33)) = some false
  kx_DotError_BadDots : PySem.W.kitOne K (.ref (fa 27)) (.ref (fa 34)) = some false
  kx_DotError_BadWay : PySem.W.kitOne K (.ref (fa 27)) (.ref (fa 35)) = some false
  kx_DotError_NoCorner : PySem.W.kitOne K (.ref (fa 27)) (.ref (fa 36)) = some false
  g_BadPrime : mg "BadPrime" = some (.ref (fa 28))
  x_BadPrime : XcF K (fa 28) (fa 27)
  kx_BadPrime_DotError : PySem.W.kitOne K (.ref (fa 28)) (.ref (fa 27)) = some true
  kx_BadPrime_BadPrime : PySem.W.kitOne K (.ref (fa 28)) (.ref (fa 28)) = some true
  kx_BadPrime_BadRoot : PySem.W.kitOne K (.ref (fa 28)) (.ref (fa 29)) = some false
  kx_BadPrime_BadNumber : PySem.W.kitOne K (.ref (fa 28)) (.ref (fa 30)) = some false
  kx_BadPrime_BadColumn : PySem.W.kitOne K (.ref (fa 28)) (.ref (fa 31)) = some false
  kx_BadPrime_BadRow : PySem.W.kitOne K (.ref (fa 28)) (.ref (fa 32)) = some false
  kx_BadPrime_BadArrow : PySem.W.kitOne K (.ref (fa 28)) (.ref (fa 33)) = some false
  kx_BadPrime_BadDots : PySem.W.kitOne K (.ref (fa 28)) (.ref (fa 34)) = some false
  kx_BadPrime_BadWay : PySem.W.kitOne K (.ref (fa 28)) (.ref (fa 35)) = some false
  kx_BadPrime_NoCorner : PySem.W.kitOne K (.ref (fa 28)) (.ref (fa 36)) = some false
  g_BadRoot : mg "BadRoot" = some (.ref (fa 29))
  x_BadRoot : XcF K (fa 29) (fa 27)
  kx_BadRoot_DotError : PySem.W.kitOne K (.ref (fa 29)) (.ref (fa 27)) = some true
  kx_BadRoot_BadPrime : PySem.W.kitOne K (.ref (fa 29)) (.ref (fa 28)) = some false
  kx_BadRoot_BadRoot : PySem.W.kitOne K (.ref (fa 29)) (.ref (fa 29)) = some true
  kx_BadRoot_BadNumber : PySem.W.kitOne K (.ref (fa 29)) (.ref (fa 30)) = some false
  kx_BadRoot_BadColumn : PySem.W.kitOne K (.ref (fa 29)) (.ref (fa 31)) = some false
  kx_BadRoot_BadRow : PySem.W.kitOne K (.ref (fa 29)) (.ref (fa 32)) = some false
  kx_BadRoot_BadArrow : PySem.W.kitOne K (.ref (fa 29)) (.ref (fa 33)) = some false
  kx_BadRoot_BadDots : PySem.W.kitOne K (.ref (fa 29)) (.ref (fa 34)) = some false
  kx_BadRoot_BadWay : PySem.W.kitOne K (.ref (fa 29)) (.ref (fa 35)) = some false
  kx_BadRoot_NoCorner : PySem.W.kitOne K (.ref (fa 29)) (.ref (fa 36)) = some false
  g_BadNumber : mg "BadNumber" = some (.ref (fa 30))
  x_BadNumber : XcF K (fa 30) (fa 27)
  kx_BadNumber_DotError : PySem.W.kitOne K (.ref (fa 30)) (.ref (fa 27)) = some true
  kx_BadNumber_BadPrime : PySem.W.kitOne K (.ref (fa 30)) (.ref (fa 28)) = some false
  kx_BadNumber_BadRoot : PySem.W.kitOne K (.ref (fa 30)) (.ref (fa 29)) = some false
  kx_BadNumber_BadNumber : PySem.W.kitOne K (.ref (fa 30)) (.ref (fa 30)) = some true
  kx_BadNumber_BadColumn : PySem.W.kitOne K (.ref (fa 30)) (.ref (fa 31)) = some false
  kx_BadNumber_BadRow : PySem.W.kitOne K (.ref (fa 30)) (.ref (fa 32)) = some false
  kx_BadNumber_BadArrow : PySem.W.kitOne K (.ref (fa 30)) (.ref (fa 33)) = some false
  kx_BadNumber_BadDots : PySem.W.kitOne K (.ref (fa 30)) (.ref (fa 34)) = some false
  kx_BadNumber_BadWay : PySem.W.kitOne K (.ref (fa 30)) (.ref (fa 35)) = some false
  kx_BadNumber_NoCorner : PySem.W.kitOne K (.ref (fa 30)) (.ref (fa 36)) = some false
  g_BadColumn : mg "BadColumn" = some (.ref (fa 31))
  x_BadColumn : XcF K (fa 31) (fa 27)
  kx_BadColumn_DotError : PySem.W.kitOne K (.ref (fa 31)) (.ref (fa 27)) = some true
  kx_BadColumn_BadPrime : PySem.W.kitOne K (.ref (fa 31)) (.ref (fa 28)) = some false
  kx_BadColumn_BadRoot : PySem.W.kitOne K (.ref (fa 31)) (.ref (fa 29)) = some false
  kx_BadColumn_BadNumber : PySem.W.kitOne K (.ref (fa 31)) (.ref (fa 30)) = some false
  kx_BadColumn_BadColumn : PySem.W.kitOne K (.ref (fa 31)) (.ref (fa 31)) = some true
  kx_BadColumn_BadRow : PySem.W.kitOne K (.ref (fa 31)) (.ref (fa 32)) = some false
  kx_BadColumn_BadArrow : PySem.W.kitOne K (.ref (fa 31)) (.ref (fa 33)) = some false
  kx_BadColumn_BadDots : PySem.W.kitOne K (.ref (fa 31)) (.ref (fa 34)) = some false
  kx_BadColumn_BadWay : PySem.W.kitOne K (.ref (fa 31)) (.ref (fa 35)) = some false
  kx_BadColumn_NoCorner : PySem.W.kitOne K (.ref (fa 31)) (.ref (fa 36)) = some false
  g_BadRow : mg "BadRow" = some (.ref (fa 32))
  x_BadRow : XcF K (fa 32) (fa 27)
  kx_BadRow_DotError : PySem.W.kitOne K (.ref (fa 32)) (.ref (fa 27)) = some true
  kx_BadRow_BadPrime : PySem.W.kitOne K (.ref (fa 32)) (.ref (fa 28)) = some false
  kx_BadRow_BadRoot : PySem.W.kitOne K (.ref (fa 32)) (.ref (fa 29)) = some false
  kx_BadRow_BadNumber : PySem.W.kitOne K (.ref (fa 32)) (.ref (fa 30)) = some false
  kx_BadRow_BadColumn : PySem.W.kitOne K (.ref (fa 32)) (.ref (fa 31)) = some false
  kx_BadRow_BadRow : PySem.W.kitOne K (.ref (fa 32)) (.ref (fa 32)) = some true
  kx_BadRow_BadArrow : PySem.W.kitOne K (.ref (fa 32)) (.ref (fa 33)) = some false
  kx_BadRow_BadDots : PySem.W.kitOne K (.ref (fa 32)) (.ref (fa 34)) = some false
  kx_BadRow_BadWay : PySem.W.kitOne K (.ref (fa 32)) (.ref (fa 35)) = some false
  kx_BadRow_NoCorner : PySem.W.kitOne K (.ref (fa 32)) (.ref (fa 36)) = some false
  g_BadArrow : mg "BadArrow" = some (.ref (fa 33))
  x_BadArrow : XcF K (fa 33) (fa 27)
  kx_BadArrow_DotError : PySem.W.kitOne K (.ref (fa 33)) (.ref (fa 27)) = some true
  kx_BadArrow_BadPrime : PySem.W.kitOne K (.ref (fa 33)) (.ref (fa 28)) = some false
  kx_BadArrow_BadRoot : PySem.W.kitOne K (.ref (fa 33)) (.ref (fa 29)) = some false
  kx_BadArrow_BadNumber : PySem.W.kitOne K (.ref (fa 33)) (.ref (fa 30)) = some false
  kx_BadArrow_BadColumn : PySem.W.kitOne K (.ref (fa 33)) (.ref (fa 31)) = some false
  kx_BadArrow_BadRow : PySem.W.kitOne K (.ref (fa 33)) (.ref (fa 32)) = some false
  kx_BadArrow_BadArrow : PySem.W.kitOne K (.ref (fa 33)) (.ref (fa 33)) = some true
  kx_BadArrow_BadDots : PySem.W.kitOne K (.ref (fa 33)) (.ref (fa 34)) = some false
  kx_BadArrow_BadWay : PySem.W.kitOne K (.ref (fa 33)) (.ref (fa 35)) = some false
  kx_BadArrow_NoCorner : PySem.W.kitOne K (.ref (fa 33)) (.ref (fa 36)) = some false
  g_BadDots : mg "BadDots" = some (.ref (fa 34))
  x_BadDots : XcF K (fa 34) (fa 27)
  kx_BadDots_DotError : PySem.W.kitOne K (.ref (fa 34)) (.ref (fa 27)) = some true
  kx_BadDots_BadPrime : PySem.W.kitOne K (.ref (fa 34)) (.ref (fa 28)) = some false
  kx_BadDots_BadRoot : PySem.W.kitOne K (.ref (fa 34)) (.ref (fa 29)) = some false
  kx_BadDots_BadNumber : PySem.W.kitOne K (.ref (fa 34)) (.ref (fa 30)) = some false
  kx_BadDots_BadColumn : PySem.W.kitOne K (.ref (fa 34)) (.ref (fa 31)) = some false
  kx_BadDots_BadRow : PySem.W.kitOne K (.ref (fa 34)) (.ref (fa 32)) = some false
  kx_BadDots_BadArrow : PySem.W.kitOne K (.ref (fa 34)) (.ref (fa 33)) = some false
  kx_BadDots_BadDots : PySem.W.kitOne K (.ref (fa 34)) (.ref (fa 34)) = some true
  kx_BadDots_BadWay : PySem.W.kitOne K (.ref (fa 34)) (.ref (fa 35)) = some false
  kx_BadDots_NoCorner : PySem.W.kitOne K (.ref (fa 34)) (.ref (fa 36)) = some false
  g_BadWay : mg "BadWay" = some (.ref (fa 35))
  x_BadWay : XcF K (fa 35) (fa 27)
  kx_BadWay_DotError : PySem.W.kitOne K (.ref (fa 35)) (.ref (fa 27)) = some true
  kx_BadWay_BadPrime : PySem.W.kitOne K (.ref (fa 35)) (.ref (fa 28)) = some false
  kx_BadWay_BadRoot : PySem.W.kitOne K (.ref (fa 35)) (.ref (fa 29)) = some false
  kx_BadWay_BadNumber : PySem.W.kitOne K (.ref (fa 35)) (.ref (fa 30)) = some false
  kx_BadWay_BadColumn : PySem.W.kitOne K (.ref (fa 35)) (.ref (fa 31)) = some false
  kx_BadWay_BadRow : PySem.W.kitOne K (.ref (fa 35)) (.ref (fa 32)) = some false
  kx_BadWay_BadArrow : PySem.W.kitOne K (.ref (fa 35)) (.ref (fa 33)) = some false
  kx_BadWay_BadDots : PySem.W.kitOne K (.ref (fa 35)) (.ref (fa 34)) = some false
  kx_BadWay_BadWay : PySem.W.kitOne K (.ref (fa 35)) (.ref (fa 35)) = some true
  kx_BadWay_NoCorner : PySem.W.kitOne K (.ref (fa 35)) (.ref (fa 36)) = some false
  g_NoCorner : mg "NoCorner" = some (.ref (fa 36))
  x_NoCorner : XcF K (fa 36) (fa 27)
  kx_NoCorner_DotError : PySem.W.kitOne K (.ref (fa 36)) (.ref (fa 27)) = some true
  kx_NoCorner_BadPrime : PySem.W.kitOne K (.ref (fa 36)) (.ref (fa 28)) = some false
  kx_NoCorner_BadRoot : PySem.W.kitOne K (.ref (fa 36)) (.ref (fa 29)) = some false
  kx_NoCorner_BadNumber : PySem.W.kitOne K (.ref (fa 36)) (.ref (fa 30)) = some false
  kx_NoCorner_BadColumn : PySem.W.kitOne K (.ref (fa 36)) (.ref (fa 31)) = some false
  kx_NoCorner_BadRow : PySem.W.kitOne K (.ref (fa 36)) (.ref (fa 32)) = some false
  kx_NoCorner_BadArrow : PySem.W.kitOne K (.ref (fa 36)) (.ref (fa 33)) = some false
  kx_NoCorner_BadDots : PySem.W.kitOne K (.ref (fa 36)) (.ref (fa 34)) = some false
  kx_NoCorner_BadWay : PySem.W.kitOne K (.ref (fa 36)) (.ref (fa 35)) = some false
  kx_NoCorner_NoCorner : PySem.W.kitOne K (.ref (fa 36)) (.ref (fa 36)) = some true
  g_is_whole : mg "is_whole" = some (.ref (fa 0))
  F_is_whole : Fun K "is_whole" "is_whole" s_is_whole (fa 0) (fd 0)
  b_is_whole : Binds K (fd 0) ["thing"] []
  g_is_prime : mg "is_prime" = some (.ref (fa 1))
  F_is_prime : Fun K "is_prime" "is_prime" s_is_prime (fa 1) (fd 1)
  b_is_prime : Binds K (fd 1) ["number"] []
  g_asked_prime : mg "asked_prime" = some (.ref (fa 2))
  F_asked_prime : Fun K "asked_prime" "asked_prime" s_asked_prime (fa 2) (fd 2)
  b_asked_prime : Binds K (fd 2) ["prime", "most"] []
  g_power : mg "power" = some (.ref (fa 3))
  F_power : Fun K "power" "power" s_power (fa 3) (fd 3)
  b_power : Binds K (fd 3) ["number", "times", "prime"] []
  g_root_of : mg "root_of" = some (.ref (fa 4))
  F_root_of : Fun K "root_of" "root_of" s_root_of (fa 4) (fd 4)
  b_root_of : Binds K (fd 4) ["prime", "number"] []
  g_is_root : mg "is_root" = some (.ref (fa 5))
  F_is_root : Fun K "is_root" "is_root" s_is_root (fa 5) (fd 5)
  b_is_root : Binds K (fd 5) ["prime", "number"] []
  g_least_root : mg "least_root" = some (.ref (fa 6))
  F_least_root : Fun K "least_root" "least_root" s_least_root (fa 6) (fd 6)
  b_least_root : Binds K (fd 6) ["prime"] []
  g_asked_root : mg "asked_root" = some (.ref (fa 7))
  F_asked_root : Fun K "asked_root" "asked_root" s_asked_root (fa 7) (fd 7)
  b_asked_root : Binds K (fd 7) ["prime", "root"] []
  g_asked_plan : mg "asked_plan" = some (.ref (fa 8))
  F_asked_plan : Fun K "asked_plan" "asked_plan" s_asked_plan (fa 8) (fd 8)
  b_asked_plan : Binds K (fd 8) ["prime", "root", "begin", "most"] []
  g_row_of : mg "row_of" = some (.ref (fa 9))
  F_row_of : Fun K "row_of" "row_of" s_row_of (fa 9) (fd 9)
  b_row_of : Binds K (fd 9) ["prime", "root", "begin", "column"] []
  g_found_column : mg "found_column" = some (.ref (fa 10))
  F_found_column : Fun K "found_column" "found_column" s_found_column (fa 10) (fd 10)
  b_found_column : Binds K (fd 10) ["prime", "root", "begin", "row"] []
  g_column_of : mg "column_of" = some (.ref (fa 11))
  F_column_of : Fun K "column_of" "column_of" s_column_of (fa 11) (fd 11)
  b_column_of : Binds K (fd 11) ["prime", "root", "begin", "row"] []
  g_arrow_of : mg "arrow_of" = some (.ref (fa 12))
  F_arrow_of : Fun K "arrow_of" "arrow_of" s_arrow_of (fa 12) (fd 12)
  b_arrow_of : Binds K (fd 12) ["prime", "root", "begin", "across", "up"] []
  g_dots_of : mg "dots_of" = some (.ref (fa 13))
  F_dots_of : Fun K "dots_of" "dots_of" s_dots_of (fa 13) (fd 13)
  b_dots_of : Binds K (fd 13) ["prime", "root", "begin"] []
  g_crossed : mg "crossed" = some (.ref (fa 14))
  F_crossed : Fun K "crossed" "crossed" s_crossed (fa 14) (fd 14)
  b_crossed : Binds K (fd 14) ["prime", "root", "other"] []
  g_first_same : mg "first_same" = some (.ref (fa 15))
  F_first_same : Fun K "first_same" "first_same" s_first_same (fa 15) (fd 15)
  b_first_same : Binds K (fd 15) ["dots"] []
  F_Same_init : Fun K "__init__" "Same.__init__" s_Same_init (fa 16) (fd 16)
  b_Same_init : Binds K (fd 16) ["self", "first", "second", "across"] []
  g_asked_dots : mg "asked_dots" = some (.ref (fa 17))
  F_asked_dots : Fun K "asked_dots" "asked_dots" s_asked_dots (fa 17) (fd 17)
  b_asked_dots : Binds K (fd 17) ["dots"] []
  g_judged : mg "judged" = some (.ref (fa 18))
  F_judged : Fun K "judged" "judged" s_judged (fa 18) (fd 18)
  b_judged : Binds K (fd 18) ["dots"] []
  g_turned : mg "turned" = some (.ref (fa 19))
  F_turned : Fun K "turned" "turned" s_turned (fa 19) (fd 19)
  b_turned : Binds K (fd 19) ["dots", "way"] []
  g_without_corner : mg "without_corner" = some (.ref (fa 20))
  F_without_corner : Fun K "without_corner" "without_corner" s_without_corner (fa 20) (fd 20)
  b_without_corner : Binds K (fd 20) ["dots"] []
  g__law_kinds : mg "_law_kinds" = some (.ref (fa 21))
  F__law_kinds : Fun K "_law_kinds" "_law_kinds" s__law_kinds (fa 21) (fd 21)
  b__law_kinds : Binds K (fd 21) ["_law_error"] []
  g__law_refused : mg "_law_refused" = some (.ref (fa 22))
  F__law_refused : Fun K "_law_refused" "_law_refused" s__law_refused (fa 22) (fd 22)
  b__law_refused : Binds K (fd 22) ["_law_ask", "_law_thing", "_law_due"] []
  g__law_all : mg "_law_all" = some (.ref (fa 23))
  F__law_all : Fun K "_law_all" "_law_all" s__law_all (fa 23) (fd 23)
  b__law_all : Binds K (fd 23) ["_law_asks", "_law_things", "_law_due"] []
  g__law_no_wholes : mg "_law_no_wholes" = some (.ref (fa 24))
  F__law_no_wholes : Fun K "_law_no_wholes" "_law_no_wholes" s__law_no_wholes (fa 24) (fd 24)
  b__law_no_wholes : Binds K (fd 24) [] []
  g__law_plans_right : mg "_law_plans_right" = some (.ref (fa 25))
  F__law_plans_right : Fun K "_law_plans_right" "_law_plans_right" s__law_plans_right (fa 25) (fd 25)
  b__law_plans_right : Binds K (fd 25) ["_law_more"] []
  g_law : mg "law" = some (.ref (fa 26))
  F_law : Fun K "law" "law" s_law (fa 26) (fd 26)
  b_law : Binds K (fd 26) ["_law_script"] []
section
variable {P : Program} {w : World} {K : PySem.W.Frag} {mg : Str → Option Value} {base : Heap}
variable {fa : Nat → Addr} {fd : Nat → FuncData} {tk : Nat → Tok}
end
end Lw
namespace Lw
open PySem PySem.Spec PyProof.Rows L2 AD
section
variable {P : Program} {w : World} {K : PySem.W.Frag} {mg : Str → Option Value} {base : Heap}
variable {fa : Nat → Addr} {fd : Nat → FuncData} {tk : Nat → Tok}
/-! ### small things -/
theorem op_mulB {X : Cx} : OpR X (binaryOp .Mult) (rI IntMulOk fun i j => .int (i * j)) :=
  opI fun _ _ _ _ _ _ _ hc q => mul_int q hc
theorem mulL {i j : Int} (h1 : -(2 ^ 64) < i) (h2 : i < 2 ^ 64) : IntMulOk i j := .of_left (intBits_le_64 h1 h2)
theorem mulR {i j : Int} (h1 : -(2 ^ 64) < j) (h2 : j < 2 ^ 64) : IntMulOk i j := .of_right (intBits_le_64 h1 h2)
theorem same_upd {H : Hp} {p : Addr} {o : HO} (h : H p = none) : Same H (upd H p o) := fun b x e => by
  rw [upd_ne (ne_of_none e h)]
  exact e
theorem dec_vint {i j : Int} : (decide (V.int i = V.int j) = true) = (i = j) := by
  apply propext
  rw [decide_eq_true_iff]
  exact ⟨fun e => V.int.inj e, fun e => by rw [e]⟩
theorem dF {c : Prop} [Decidable c] (e : ¬ (decide c = true)) : ¬ c := fun h => e (decide_eq_true h)
theorem dT {c : Prop} [Decidable c] (e : decide c = true) : c := of_decide_eq_true e
theorem z2 : (0 : Int) < 2 := by decide
theorem dp_ints {K : PySem.W.Frag} {H : Hp} : ∀ ns : List Int, DpAll K H (ns.map V.int) (ns.map PyData.int)
  | [] => .nil
  | n :: r => .cons (.int n) (dp_ints r)
theorem dp_list {K : PySem.W.Frag} {H : Hp} {a : Addr} {ns : List Int} (h : SqL K H a (ns.map V.int)) : Dp K H (.ref a) (.list (ns.map PyData.int)) := .lst h (dp_ints ns)
theorem eqv_ints : ∀ ns ms : List Int, PyData.eqvAll (ns.map PyData.int) (ms.map PyData.int) = decide (ns = ms)
  | [], [] => rfl
  | [], _ :: _ => rfl
  | _ :: _, [] => rfl
  | n :: r, m :: q => by
    rw [List.map_cons, List.map_cons, PyData.eqvAll, eqv_ints r q, PyData.eqv]
    by_cases e : n = m
    · subst e
      by_cases z : r = q
      · subst z; simp
      · simp [z]
    · simp [e]
theorem canLay_ints : ∀ ns : List Int, PyData.canLayAll0 (ns.map PyData.int) = true
  | [] => rfl
  | n :: r => by
    rw [List.map_cons, PyData.canLayAll0, canLay_ints r]
    rfl
theorem depth_ints : ∀ ns : List Int, PyData.depthAll (ns.map PyData.int) ≤ 1
  | [] => by decide
  | n :: r => by
    have h := depth_ints r
    rw [List.map_cons, PyData.depthAll]
    exact Nat.max_le.mpr ⟨by simp [PyData.depth], h⟩
theorem shaped_list (ns : List Int) : SeqAt.shaped (.list (ns.map PyData.int)) = true := by
  have h := depth_ints ns
  unfold SeqAt.shaped
  rw [PyData.canLay0, canLay_ints, PyData.depth, decide_eq_true (show PyData.depthAll (ns.map PyData.int) + 1 ≤ 64 by omega)]
  rfl
/-- two lists of ints -/
def rEqL (K : PySem.W.Frag) : R2 := fun x y H Q => ∃ (a b : Addr) (ns ms : List Int), x = .ref a ∧ y = .ref b ∧ SqL K H a (ns.map V.int) ∧ SqL K H b (ms.map V.int) ∧ Q (.bl (decide (ns = ms))) H
def rNeL (K : PySem.W.Frag) : R2 := fun x y H Q => ∃ (a b : Addr) (ns ms : List Int), x = .ref a ∧ y = .ref b ∧ SqL K H a (ns.map V.int) ∧ SqL K H b (ms.map V.int) ∧ Q (.bl (!decide (ns = ms))) H
theorem op_eqL {X : Cx} (hu : X.A.units + 64 < cLine) : OpR X (compareOp .Eq) (rEqL X.K) := by
  intro pins s σ H x y u v Q I rx ry h
  obtain ⟨a, b, ns, ms, rfl, rfl, ha, hb, q⟩ := h
  exact op_eqD hu pins s σ H _ _ u v Q I rx ry ⟨_, _, dp_list ha, dp_list hb, shaped_list ns, shaped_list ms, by rw [PyData.eqv, eqv_ints]; exact q⟩
theorem op_neL {X : Cx} (hu : X.A.units + 64 < cLine) : OpR X (compareOp .NotEq) (rNeL X.K) := by
  intro pins s σ H x y u v Q I rx ry h
  obtain ⟨a, b, ns, ms, rfl, rfl, ha, hb, q⟩ := h
  exact op_neD hu pins s σ H _ _ u v Q I rx ry ⟨_, _, dp_list ha, dp_list hb, shaped_list ns, shaped_list ms, by rw [PyData.eqv, eqv_ints]; exact q⟩
theorem cutV_mem {xs : List V} {lo hi : Option Int} {v : V} (h : v ∈ cutV xs lo hi) : v ∈ xs := by
  unfold cutV at h
  exact List.mem_of_mem_drop (List.mem_of_mem_take h)
/-- the first k of a list of ints -/
theorem cutV_to (ns : List Int) (k : Nat) : cutV (ns.map V.int) none (some (k : Int)) = (ns.take k).map V.int := by
  unfold cutV
  rw [HT.sIx_none, HT.sIx_nat, List.drop_zero, Nat.sub_zero, List.length_map, ← List.map_take, ← List.take_eq_take_min]
/-- two readings of one expression: either will do -/
theorem pe_alt {X : Cx} {e : Expr} {t u : TE} (h : PE X e t) (k : PE X e u) : PE X e (fun σ H Q => t σ H Q ∨ u σ H Q) :=
  ⟨fun pins s σ H Q I hw => hw.elim (h.run pins s σ H Q I) (k.run pins s σ H Q I)⟩
/-- len of a list or a tuple -/
def rLenS0 (K : PySem.W.Frag) : List V → Hp → VK → Prop := fun xs H Q => ∃ p ys, xs = [.ref p] ∧ (SqL K H p ys ∨ SqT K H p ys) ∧ Q (.int (ys.length : Nat)) H
end
end Lw
namespace Lw
open PySem PySem.Spec PyProof.Rows L2 AD
section
variable {P : Program} {w : World} {K : PySem.W.Frag} {mg : Str → Option Value} {base : Heap}
variable {fa : Nat → Addr} {fd : Nat → FuncData} {tk : Nat → Tok}
/-! ### power -/
def spPower : Sp := fun vs H Q _ => ∃ a t p : Nat, vs = [.int a, .int t, .int p] ∧ 2 ≤ p ∧ p ≤ 2000 ∧ a ≤ 2000 ∧ Q (.int ((a ^ t % p : Nat) : Int)) H
theorem pow_step0 {p f a t : Nat} (h : t % 2 = 0) : f * (a * a % p) ^ (t / 2) % p = f * a ^ t % p := by
  have e : t = 2 * (t / 2) := by omega
  conv => rhs; rw [e, Nat.pow_mul, Nat.pow_two, Nat.mul_mod, Nat.pow_mod, ← Nat.mul_mod]
theorem pow_step1 {p f a t : Nat} (h : t % 2 = 1) : (f * a % p) * (a * a % p) ^ (t / 2) % p = f * a ^ t % p := by
  have e : t = 2 * (t / 2) + 1 := by omega
  conv => rhs; rw [e, Nat.pow_succ, Nat.pow_mul, Nat.pow_two, Nat.mul_comm _ a, ← Nat.mul_assoc, Nat.mul_mod, Nat.pow_mod, ← Nat.mul_mod]
  rw [Nat.mul_mod, Nat.pow_mod, Nat.mod_mod, Nat.mod_mod, ← Nat.mul_mod]
theorem ok_power (T : Txt K mg fa fd tk) : FnOk P w K mg base CX0 1 (fa 3) (fd 3) ["number", "times", "prime"] spPower := by
  refine T.F_power.ok sc_power (fun vs H Q E h => ?_) (fun cdv A outer s H vs Q E hr h => ?_)
  · obtain ⟨a, t, p, rfl, _⟩ := h
    rfl
  · obtain ⟨a, t, p, rfl, hp, hp2, ha, q⟩ := h
    refine ⟨_, (pss_cons (ps_set (i := 3) sc_power.nd rfl (.inl rfl) pe_int)
      (pss_cons (ps_while PassesOwn.never (pt_cmpR op_gt (pv 1) pe_int (nomark _)) (pss_cons (ps_if (pt_cmpR op_eq (pe_op op_mod (pv 1) pe_int) pe_int (nomark _)) (pss_one (ps_set (i := 3) sc_power.nd rfl (.inl rfl) (pe_op op_mod (pe_op op_mulB (pv 3) (pv 0)) (pv 2)))) pss_nil)
      (pss_cons (ps_set (i := 0) sc_power.nd rfl (.inl rfl) (pe_op op_mod (pe_op op_mulB (pv 0) (pv 0)) (pv 2)))
      (pss_one (ps_set (i := 1) sc_power.nd rfl (.inl rfl) (pe_op op_fdiv (pv 1) pe_int))))))
      (pss_one (ps_ret (pv 3))))), ?_⟩
    refine ⟨fun m σ H' => H' = H ∧ ∃ a' f' : Nat, σ = [some (.int a'), some (.int m), some (.int p), some (.int f')] ∧ a' ≤ 2000 ∧ f' < p ∧ f' * a' ^ m % p = a ^ t % p, ⟨t, rfl, a, 1, rfl, ha, by omega, by rw [Nat.one_mul]⟩, fun m σ H' hW => ?_⟩
    obtain ⟨rfl, a', f', rfl, ha', hf', he⟩ := hW
    refine ⟨_, rfl, _, _, rfl, rfl, _, rfl, ite2 (fun e => ?_) (fun e => ?_)⟩
    · have hm : 0 < m := by have := of_decide_eq_true e; omega
      refine ⟨fun σ' H'' => ∃ m', m' < m ∧ H'' = H' ∧ ∃ a' f' : Nat, σ' = [some (.int a'), some (.int m'), some (.int p), some (.int f')] ∧ a' ≤ 2000 ∧ f' < p ∧ f' * a' ^ m' % p = a ^ t % p, fun _ _ h => h, ?_⟩
      refine ⟨_, rfl, _, _, rfl, rfl, z2, rfl, _, rfl, ite2 (fun e2 => ?_) (fun e2 => ?_)⟩
      · rw [dec_vint] at e2
        refine ⟨_, rfl, _, rfl, _, _, rfl, rfl, mulL (by omega) (by omega), _, rfl, _, _, rfl, rfl, by omega, ?_⟩
        refine ⟨_, rfl, _, rfl, _, _, rfl, rfl, mulL (by omega) (by omega), _, rfl, _, _, rfl, rfl, by omega, ?_⟩
        refine ⟨_, rfl, _, _, rfl, rfl, ⟨by decide, by decide⟩, ?_⟩
        refine ⟨m / 2, by omega, rfl, a' * a' % p, f' * a' % p, ?_, ?_, ?_, ?_⟩
        · simp
        · have := Nat.mod_lt (a' * a') (show p > 0 by omega); omega
        · exact Nat.mod_lt _ (by omega)
        · rw [pow_step1 (by omega), he]
      · rw [dec_vint] at e2
        refine ⟨_, rfl, _, rfl, _, _, rfl, rfl, mulL (by omega) (by omega), _, rfl, _, _, rfl, rfl, by omega, ?_⟩
        refine ⟨_, rfl, _, _, rfl, rfl, ⟨by decide, by decide⟩, ?_⟩
        refine ⟨m / 2, by omega, rfl, a' * a' % p, f', ?_, ?_, hf', ?_⟩
        · simp
        · have := Nat.mod_lt (a' * a') (show p > 0 by omega); omega
        · rw [pow_step0 (by omega), he]
    · have hm : m = 0 := by
        have := dF e
        omega
      subst hm
      rw [Nat.pow_zero, Nat.mul_one, Nat.mod_eq_of_lt hf'] at he
      subst he
      exact ⟨_, rfl, q⟩
end
end Lw
namespace Lw
open PySem PySem.Spec PyProof.Rows L2 AD
section
variable {P : Program} {w : World} {K : PySem.W.Frag} {mg : Str → Option Value} {base : Heap}
variable {fa : Nat → Addr} {fd : Nat → FuncData} {tk : Nat → Tok}
/-! ### is_whole, is_prime, asked_prime -/
/-- an int, or a thing of these kinds that is none -/
def spWhole (K : PySem.W.Frag) : Sp := fun vs H Q _ => ∃ v, vs = [v] ∧ ((∃ i, v = .int i ∧ Q (.bl true) H) ∨ ∃ n, TyX K H v (.type n) ∧ n ∈ ["NoneType", "str", "list", "tuple", "dict", "bool"] ∧ Q (.bl false) H)
theorem ok_is_whole (T : Txt K mg fa fd tk) : FnOk P w K mg base CX0 1 (fa 0) (fd 0) ["thing"] (spWhole K) := by
  refine T.F_is_whole.ok sc_is_whole (fun vs H Q E h => ?_) (fun cdv A outer s H vs Q E hr h => ?_)
  · obtain ⟨v, rfl, _⟩ := h
    rfl
  · obtain ⟨v, rfl, h⟩ := h
    refine ⟨_, (pss_one (ps_ret (pe_and (pe_callB call_isi (by rfl) T.m_isinstance (by decide +kernel) (pa_cons (pv 0) (pa_cons (pe_bltn (v := .ty "int") (u := .type "int") (by rfl) T.m_int (by decide +kernel) rfl) pa_nil))) (pe_one (pe_not (pe_callB call_isi (by rfl) T.m_isinstance (by decide +kernel) (pa_cons (pv 0) (pa_cons (pe_bltn (v := .ty "bool") (u := .type "bool") (by rfl) T.m_bool (by decide +kernel) rfl) pa_nil)))))))), ?_⟩
    rcases h with ⟨i, rfl, q⟩ | ⟨n, ty, hn, q⟩
    · refine ⟨_, rfl, _, _, _, _, true, rfl, .ty _, .base (.int _), kit_ty (by decide +kernel), true, rfl, iteT ?_⟩
      exact ⟨_, rfl, _, _, _, _, false, rfl, .ty _, .base (.int _), kit_ty (by decide +kernel), false, rfl, q⟩
    · simp only [List.mem_cons, List.not_mem_nil, or_false] at hn
      rcases hn with rfl | rfl | rfl | rfl | rfl | rfl
      · exact ⟨_, rfl, _, _, _, _, false, rfl, .ty _, ty, kit_ty (by decide +kernel), false, rfl, iteF q⟩
      · exact ⟨_, rfl, _, _, _, _, false, rfl, .ty _, ty, kit_ty (by decide +kernel), false, rfl, iteF q⟩
      · exact ⟨_, rfl, _, _, _, _, false, rfl, .ty _, ty, kit_ty (by decide +kernel), false, rfl, iteF q⟩
      · exact ⟨_, rfl, _, _, _, _, false, rfl, .ty _, ty, kit_ty (by decide +kernel), false, rfl, iteF q⟩
      · exact ⟨_, rfl, _, _, _, _, false, rfl, .ty _, ty, kit_ty (by decide +kernel), false, rfl, iteF q⟩
      · refine ⟨_, rfl, _, _, _, _, true, rfl, .ty _, ty, kit_ty (by decide +kernel), true, rfl, iteT ?_⟩
        exact ⟨_, rfl, _, _, _, _, true, rfl, .ty _, ty, kit_ty (by decide +kernel), true, rfl, q⟩
def spIsPrime : Sp := fun vs H Q _ => ∃ n : Nat, vs = [.int n] ∧ 2 ≤ n ∧ n ≤ 2000 ∧ Q (.bl (primeB n)) H
theorem ok_is_prime (T : Txt K mg fa fd tk) : FnOk P w K mg base CX0 1 (fa 1) (fd 1) ["number"] spIsPrime := by
  refine T.F_is_prime.ok sc_is_prime (fun vs H Q E h => ?_) (fun cdv A outer s H vs Q E hr h => ?_)
  · obtain ⟨v, rfl, _⟩ := h
    rfl
  · obtain ⟨n, rfl, hn, hn2, q⟩ := h
    refine ⟨_, (pss_cons (ps_set (i := 1) sc_is_prime.nd rfl (.inl rfl) pe_int)
      (pss_cons (ps_while PassesOwn.never (pt_cmpR op_le (pe_op op_mulB (pv 1) (pv 1)) (pv 0) (nomark _)) (pss_cons (ps_if (pt_cmpR op_eq (pe_op op_mod (pv 0) (pv 1)) pe_int (nomark _)) (pss_one (ps_ret pe_bl)) pss_nil)
      (pss_one (ps_set (i := 1) sc_is_prime.nd rfl (.inl rfl) (pe_op op_add (pv 1) pe_int)))))
      (pss_one (ps_ret pe_bl)))), ?_⟩
    refine ⟨fun m σ H' => H' = H ∧ ∃ a : Nat, σ = [some (.int n), some (.int a)] ∧ 2 ≤ a ∧ m + a = n + 2 ∧ primeLoop n m a = primeB n, ⟨n, rfl, 2, rfl, by omega, by omega, rfl⟩, fun m σ H' hW => ?_⟩
    obtain ⟨rfl, a, rfl, ha, hm, he⟩ := hW
    have hml : IntMulOk (a : Int) a := mulL (by omega) (by omega)
    refine ⟨_, rfl, _, rfl, _, _, rfl, rfl, hml, _, rfl, _, _, rfl, rfl, _, rfl, ite2 (fun e => ?_) (fun e => ?_)⟩
    · have e1 : a * a ≤ n := by have h := dT e; exact_mod_cast h
      have e2 : a ≤ n := Nat.le_trans (Nat.le_mul_of_pos_left a (by omega)) e1
      obtain ⟨k, rfl⟩ : ∃ k, m = k + 1 := ⟨m - 1, by omega⟩
      unfold primeLoop at he
      rw [Nat.ble_eq_true_of_le e1] at he
      refine ⟨fun σ' H'' => ∃ m', m' < k + 1 ∧ H'' = H' ∧ ∃ a : Nat, σ' = [some (.int n), some (.int a)] ∧ 2 ≤ a ∧ m' + a = n + 2 ∧ primeLoop n m' a = primeB n, fun _ _ h => h, ?_⟩
      refine ⟨_, rfl, _, rfl, _, _, rfl, rfl, by omega, rfl, _, rfl, ite2 (fun e3 => ?_) (fun e3 => ?_)⟩
      · rw [dec_vint] at e3
        have e4 : n % a = 0 := by omega
        rw [e4] at he
        rw [← he] at q
        exact q
      · rw [dec_vint] at e3
        have e4 : ¬ n % a = 0 := by omega
        have e5 : Nat.beq (n % a) 0 = false := by
          cases z : Nat.beq (n % a) 0 with
          | false => rfl
          | true => exact absurd (Nat.eq_of_beq_eq_true z) e4
        rw [e5] at he
        exact ⟨_, rfl, _, _, rfl, rfl, k, by omega, rfl, a + 1, rfl, by omega, by omega, he⟩
    · have e1 : ¬ a * a ≤ n := by have h := dF e; exact_mod_cast h
      have e5 : Nat.ble (a * a) n = false := by
        cases z : Nat.ble (a * a) n with
        | false => rfl
        | true => exact absurd (Nat.le_of_ble_eq_true z) e1
      have e6 : primeB n = true := by
        cases m with
        | zero => exact he.symm
        | succ k =>
          unfold primeLoop at he
          rw [e5] at he
          exact he.symm
      rw [e6] at q
      exact q
/-- a prime that is due: nothing is raised -/
def spAskedPrime : Sp := fun vs H Q _ => ∃ p m : Nat, vs = [.int p, .int m] ∧ Good p ∧ p ≤ m ∧ Q .non H
theorem ok_asked_prime (T : Txt K mg fa fd tk) : FnOk P w K mg base CX0 2 (fa 2) (fd 2) ["prime", "most"] spAskedPrime := by
  refine T.F_asked_prime.ok sc_asked_prime (fun vs H Q E h => ?_) (fun cdv A outer s H vs Q E hr h => ?_)
  · obtain ⟨p, m, rfl, _⟩ := h
    rfl
  · obtain ⟨p, m, rfl, G, hm, q⟩ := h
    have lo := G.lo
    have hi := G.hi
    refine ⟨_, (pss_one (ps_if (PW.pt (pw_or (pt_not (pt_val (pe_call (ok_is_whole T) (hr.mono (by decide)) (by rfl) T.g_is_whole T.F_is_whole.kp T.b_is_whole .nil pass0 (pa_cons (pv 0) pa_nil)))) (pw_or (pt_not (pt_chain op_le op_le pe_int (pv 0) (pv 1))) (pw_or1 (pt_not (pt_val (pe_call (ok_is_prime T) (hr.mono (by decide)) (by rfl) T.g_is_prime T.F_is_prime.kp T.b_is_prime .nil pass0 (pa_cons (pv 0) pa_nil)))))))) (pss_one ps_never) pss_nil)), ?_⟩
    refine ⟨_, rfl, _, rfl, .inl ⟨_, rfl, _, rfl, iteF ?_⟩⟩
    refine ⟨_, rfl, _, _, rfl, rfl, _, rfl, ?_⟩
    rw [decide_eq_true (show (3 : Int) ≤ p by omega)]
    refine iteT ⟨_, rfl, _, _, rfl, rfl, _, rfl, ?_⟩
    rw [decide_eq_true (show (p : Int) ≤ m by omega)]
    refine iteF ⟨_, rfl, p, rfl, by omega, by omega, _, rfl, ?_⟩
    rw [G.pr]
    exact iteF q
end
end Lw
namespace Lw
open PySem PySem.Spec PyProof.Rows L2 AD
section
variable {P : Program} {w : World} {K : PySem.W.Frag} {mg : Str → Option Value} {base : Heap}
variable {fa : Nat → Addr} {fd : Nat → FuncData} {tk : Nat → Tok}
/-! ### root_of, is_root, least_root -/
theorem beqF {a b : Nat} (h : ¬ a = b) : Nat.beq a b = false := by
  cases z : Nat.beq a b with
  | false => rfl
  | true => exact absurd (Nat.eq_of_beq_eq_true z) h
theorem bleF {a b : Nat} (h : ¬ a ≤ b) : Nat.ble a b = false := by
  cases z : Nat.ble a b with
  | false => rfl
  | true => exact absurd (Nat.le_of_ble_eq_true z) h
/-- what is stripped off leaves a divisor -/
theorem stripN_dvd (a : Nat) : ∀ (f left : Nat), stripN a f left ∣ left
  | 0, left => Nat.dvd_refl _
  | f + 1, left => by
    unfold stripN
    cases z : Nat.beq (left % a) 0 with
    | false => exact Nat.dvd_refl _
    | true =>
      have e : left % a = 0 := Nat.eq_of_beq_eq_true z
      exact Nat.dvd_trans (stripN_dvd a f (left / a)) (Nat.div_dvd_of_dvd (Nat.dvd_of_mod_eq_zero e))
theorem stripN_end {a f left : Nat} (h : ¬ left % a = 0) : stripN a f left = left := by
  cases f with
  | zero => rfl
  | succ f => unfold stripN; rw [beqF h]
theorem stripN_step {a f left : Nat} (h : left % a = 0) : stripN a (f + 1) left = stripN a f (left / a) := by
  rw [stripN, h]
def spRootOf : Sp := fun vs H Q _ => ∃ p g : Nat, vs = [.int p, .int g] ∧ 3 ≤ p ∧ p ≤ 2000 ∧ g < p ∧ Q (.bl (rootB p g)) H
theorem ok_root_of (T : Txt K mg fa fd tk) : FnOk P w K mg base CX0 2 (fa 4) (fd 4) ["prime", "number"] spRootOf := by
  refine T.F_root_of.ok sc_root_of (fun vs H Q E h => ?_) (fun cdv A outer s H vs Q E hr h => ?_)
  · obtain ⟨p, g, rfl, _⟩ := h
    rfl
  · obtain ⟨p, g, rfl, hp, hp2, hg, q⟩ := h
    refine ⟨_, (pss_cons (ps_set (i := 2) sc_root_of.nd rfl (.inl rfl) (pe_op op_sub (pv 0) pe_int))
      (pss_cons (ps_par (i := 3) (j := 4) (by rfl) sc_root_of.nd rfl rfl (by decide) rfl rfl (pa_cons (pv 2) (pa_cons pe_int pa_nil)) (by rfl))
      (pss_cons (ps_while PassesOwn.never (pt_cmpR op_gt (pv 3) pe_int (nomark _)) (pss_cons (ps_if (pt_cmpR op_eq (pe_op op_mod (pv 3) (pv 4)) pe_int (nomark _)) (pss_cons (ps_if (pt_cmpR op_eq (pe_call (ok_power T) (hr.mono (by decide)) (by rfl) T.g_power T.F_power.kp T.b_power .nil pass0 (pa_cons (pv 1) (pa_cons (pe_op op_fdiv (pv 2) (pv 4)) (pa_cons (pv 0) pa_nil)))) pe_int (nomark _)) (pss_one (ps_ret pe_bl)) pss_nil)
      (pss_one (ps_while PassesOwn.never (pt_cmpR op_eq (pe_op op_mod (pv 3) (pv 4)) pe_int (nomark _)) (pss_one (ps_set (i := 3) sc_root_of.nd rfl (.inl rfl) (pe_op op_fdiv (pv 3) (pv 4))))))) pss_nil)
      (pss_one (ps_set (i := 4) sc_root_of.nd rfl (.inl rfl) (pe_op op_add (pv 4) pe_int)))))
      (pss_one (ps_ret pe_bl))))), ?_⟩
    refine ⟨_, rfl, _, _, rfl, rfl, ?_⟩
    refine ⟨_, rfl, _, _, rfl, ?_⟩
    let W : Nat → L2.St → Hp → Prop := fun m σ H' => H' = H ∧ ∃ l a : Nat, σ = [some (.int p), some (.int g), some (.int ((p : Int) - 1)), some (.int l), some (.int a)] ∧ 1 ≤ l ∧ l ≤ p - 1 ∧ 2 ≤ a ∧ a ≤ p ∧ (∀ d, 2 ≤ d → d < a → ¬ l % d = 0) ∧ m + a = p + 2 ∧ rootLoop p g m l a = rootB p g
    refine ⟨W, ⟨p, rfl, p - 1, 2, ?_, by omega, by omega, by omega, by omega, fun d h1 h2 => by omega, by omega, rfl⟩, fun m σ H' hW => ?_⟩
    · have e : ((p - 1 : Nat) : Int) = (p : Int) - 1 := by omega
      rw [e]
      rfl
    obtain ⟨rfl, l, a, rfl, hl, hl2, ha, hap, hd, hm, he⟩ := hW
    refine ⟨_, rfl, _, _, rfl, rfl, _, rfl, ite2 (fun e => ?_) (fun e => ?_)⟩
    · have e1 : 1 < l := by have h := dT e; omega
      have hal : a ≤ l := by
        rcases Nat.lt_or_ge l a with z | z
        · exact absurd (Nat.mod_self l) (hd l (by omega) z)
        · exact z
      obtain ⟨k, rfl⟩ : ∃ k, m = k + 1 := ⟨m - 1, by omega⟩
      unfold rootLoop at he
      rw [bleF (show ¬ l ≤ 1 by omega)] at he
      refine ⟨fun σ' H'' => ∃ m', m' < k + 1 ∧ W m' σ' H'', fun _ _ h => h, ?_⟩
      refine ⟨_, rfl, _, rfl, _, _, rfl, rfl, by omega, rfl, _, rfl, ite2 (fun e3 => ?_) (fun e3 => ?_)⟩
      · rw [dec_vint] at e3
        have e4 : l % a = 0 := by omega
        rw [e4] at he
        refine ⟨_, rfl, _, rfl, _, rfl, _, _, rfl, rfl, ⟨by omega, by omega⟩, _, rfl, g, (p - 1) / a, p, ?_, by omega, by omega, by omega, rfl, _, rfl, ite2 (fun e5 => ?_) (fun e5 => ?_)⟩
        · have e : ((p : Int) - 1) / (a : Int) = (((p - 1) / a : Nat) : Int) := by
            rw [Int.natCast_ediv, show ((p - 1 : Nat) : Int) = (p : Int) - 1 by omega]
          show [V.int (g : Int), V.int (((p : Int) - 1) / (a : Int)), V.int (p : Int)] = _
          rw [e]
        · rw [dec_vint] at e5
          have e6 : g ^ ((p - 1) / a) % p = 1 := by omega
          rw [e6] at he
          rw [← he] at q
          exact q
        · rw [dec_vint] at e5
          have e6 : ¬ g ^ ((p - 1) / a) % p = 1 := by omega
          rw [beqF e6] at he
          -- while left % at == 0
          refine ⟨fun m2 σ' H'' => H'' = H' ∧ ∃ l2 : Nat, σ' = [some (.int p), some (.int g), some (.int ((p : Int) - 1)), some (.int l2), some (.int a)] ∧ 1 ≤ l2 ∧ l2 ∣ l ∧ l2 ≤ m2 ∧ stripN a m2 l2 = stripN a l l, ⟨l, rfl, l, rfl, hl, Nat.dvd_refl _, by omega, rfl⟩, fun m2 σ' H'' hW2 => ?_⟩
          obtain ⟨rfl, l2, rfl, h21, h22, h23, h24⟩ := hW2
          refine ⟨_, rfl, _, rfl, _, _, rfl, rfl, by omega, rfl, _, rfl, ite2 (fun e7 => ?_) (fun e7 => ?_)⟩
          · rw [dec_vint] at e7
            have e8 : l2 % a = 0 := by omega
            obtain ⟨k2, rfl⟩ : ∃ k2, m2 = k2 + 1 := ⟨m2 - 1, by omega⟩
            rw [stripN_step e8] at h24
            have hal2 : a ≤ l2 := Nat.le_of_dvd (by omega) (Nat.dvd_of_mod_eq_zero e8)
            have hdl : l2 / a < l2 := Nat.div_lt_self (by omega) (by omega)
            refine ⟨fun σ' H2 => ∃ m', m' < k2 + 1 ∧ H2 = H'' ∧ ∃ l2 : Nat, σ' = [some (.int p), some (.int g), some (.int ((p : Int) - 1)), some (.int l2), some (.int a)] ∧ 1 ≤ l2 ∧ l2 ∣ l ∧ l2 ≤ m' ∧ stripN a m' l2 = stripN a l l, fun _ _ h => h, ?_⟩
            refine ⟨_, rfl, _, rfl, _, _, rfl, rfl, ⟨by omega, by omega⟩, ?_⟩
            refine ⟨k2, by omega, rfl, l2 / a, rfl, ?_, Nat.dvd_trans (Nat.div_dvd_of_dvd (Nat.dvd_of_mod_eq_zero e8)) h22, by omega, h24⟩
            exact Nat.div_pos hal2 (by omega)
          · rw [dec_vint] at e7
            have e8 : ¬ l2 % a = 0 := by omega
            rw [stripN_end e8] at h24
            have hle : l2 ≤ l := Nat.le_of_dvd (by omega) h22
            refine ⟨_, rfl, _, _, rfl, rfl, k, by omega, rfl, l2, a + 1, rfl, h21, by omega, by omega, by omega, fun d d1 d2 z => ?_, by omega, ?_⟩
            · by_cases y : d = a
              · subst y
                exact e8 z
              · exact hd d d1 (by omega) (Nat.mod_eq_zero_of_dvd (Nat.dvd_trans (Nat.dvd_of_mod_eq_zero z) h22))
            · rw [h24]
              exact he
      · rw [dec_vint] at e3
        have e4 : ¬ l % a = 0 := by omega
        rw [beqF e4] at he
        refine ⟨_, rfl, _, _, rfl, rfl, k, by omega, rfl, l, a + 1, rfl, hl, hl2, by omega, by omega, fun d d1 d2 => ?_, by omega, he⟩
        by_cases y : d = a
        · subst y
          exact e4
        · exact hd d d1 (by omega)
    · have e1 : l ≤ 1 := by have h := dF e; omega
      have e6 : rootB p g = true := by
        cases m with
        | zero => exact he.symm
        | succ k =>
          unfold rootLoop at he
          rw [Nat.ble_eq_true_of_le e1] at he
          exact he.symm
      rw [e6] at q
      exact q
def spIsRoot : Sp := fun vs H Q _ => ∃ p g : Nat, vs = [.int p, .int g] ∧ Good p ∧ 1 ≤ g ∧ g < p ∧ Q (.bl (rootB p g)) H
theorem ok_is_root (T : Txt K mg fa fd tk) : FnOk P w K mg base CX0 3 (fa 5) (fd 5) ["prime", "number"] spIsRoot := by
  refine T.F_is_root.ok sc_is_root (fun vs H Q E h => ?_) (fun cdv A outer s H vs Q E hr h => ?_)
  · obtain ⟨p, g, rfl, _⟩ := h
    rfl
  · obtain ⟨p, g, rfl, G, hg, hg2, q⟩ := h
    have lo := G.lo
    have hi := G.hi
    refine ⟨_, (pss_cons (ps_expr (pe_call (ok_asked_prime T) (hr.mono (by decide)) (by rfl) T.g_asked_prime T.F_asked_prime.kp T.b_asked_prime .nil pass0 (pa_cons (pv 0) (pa_cons (pe_glob (v := .int 2000) rfl T.g_MOST ⟨_, rfl⟩) pa_nil))))
      (pss_cons (ps_if (PW.pt (pw_or (pt_not (pt_val (pe_call (ok_is_whole T) (hr.mono (by decide)) (by rfl) T.g_is_whole T.F_is_whole.kp T.b_is_whole .nil pass0 (pa_cons (pv 1) pa_nil)))) (pw_or1 (pt_not (pt_chain op_le op_lt pe_int (pv 1) (pv 0)))))) (pss_one ps_never) pss_nil)
      (pss_one (ps_ret (pe_call (ok_root_of T) (hr.mono (by decide)) (by rfl) T.g_root_of T.F_root_of.kp T.b_root_of .nil pass0 (pa_cons (pv 0) (pa_cons (pv 1) pa_nil))))))), ?_⟩
    refine ⟨_, rfl, p, 2000, rfl, G, hi, ?_⟩
    refine ⟨_, rfl, _, rfl, .inl ⟨_, rfl, _, rfl, iteF ?_⟩⟩
    refine ⟨_, rfl, _, _, rfl, rfl, _, rfl, ?_⟩
    rw [decide_eq_true (show (1 : Int) ≤ g by omega)]
    refine iteT ⟨_, rfl, _, _, rfl, rfl, _, rfl, ?_⟩
    rw [decide_eq_true (show (g : Int) < p by omega)]
    refine iteF ?_
    exact ⟨_, rfl, _, rfl, p, g, rfl, lo, hi, hg2, q⟩
def spLeast : Sp := fun vs H Q _ => ∃ p r : Nat, vs = [.int p] ∧ Good p ∧ 1 ≤ r ∧ r < p ∧ rootB p r = true ∧ (∀ g, 1 ≤ g → g < r → rootB p g = false) ∧ Q (.int r) H
theorem ok_least_root (T : Txt K mg fa fd tk) : FnOk P w K mg base CX0 3 (fa 6) (fd 6) ["prime"] spLeast := by
  refine T.F_least_root.ok sc_least_root (fun vs H Q E h => ?_) (fun cdv A outer s H vs Q E hr h => ?_)
  · obtain ⟨p, r, rfl, _⟩ := h
    rfl
  · obtain ⟨p, r, rfl, G, hr1, hr2, hrt, hno, q⟩ := h
    have lo := G.lo
    have hi := G.hi
    refine ⟨_, (pss_cons (ps_expr (pe_call (ok_asked_prime T) (hr.mono (by decide)) (by rfl) T.g_asked_prime T.F_asked_prime.kp T.b_asked_prime .nil pass0 (pa_cons (pv 0) (pa_cons (pe_glob (v := .int 2000) rfl T.g_MOST ⟨_, rfl⟩) pa_nil))))
      (pss_cons (ps_set (i := 1) sc_least_root.nd rfl (.inl rfl) pe_int)
      (pss_cons (ps_while PassesOwn.never (pt_not (pt_val (pe_call (ok_root_of T) (hr.mono (by decide)) (by rfl) T.g_root_of T.F_root_of.kp T.b_root_of .nil pass0 (pa_cons (pv 0) (pa_cons (pv 1) pa_nil))))) (pss_one (ps_set (i := 1) sc_least_root.nd rfl (.inl rfl) (pe_op op_add (pv 1) pe_int))))
      (pss_one (ps_ret (pv 1)))))), ?_⟩
    refine ⟨_, rfl, p, 2000, rfl, G, hi, ?_⟩
    refine ⟨fun m σ H' => H' = H ∧ ∃ a : Nat, σ = [some (.int p), some (.int a)] ∧ 1 ≤ a ∧ a ≤ r ∧ m + a = r, ⟨r - 1, rfl, 1, rfl, by omega, by omega, by omega⟩, fun m σ H' hW => ?_⟩
    obtain ⟨rfl, a, rfl, ha, har, hm⟩ := hW
    refine ⟨_, rfl, _, rfl, p, a, rfl, lo, hi, by omega, _, rfl, ?_⟩
    by_cases z : a = r
    · subst z
      rw [hrt]
      exact iteF ⟨_, rfl, q⟩
    · rw [hno a ha (by omega)]
      refine iteT ⟨fun σ' H'' => ∃ m', m' < m ∧ H'' = H' ∧ ∃ a : Nat, σ' = [some (.int p), some (.int a)] ∧ 1 ≤ a ∧ a ≤ r ∧ m' + a = r, fun _ _ h => h, ?_⟩
      exact ⟨_, rfl, _, _, rfl, rfl, m - 1, by omega, rfl, a + 1, rfl, by omega, by omega, by omega⟩
end
end Lw
namespace Lw
open PySem PySem.Spec PyProof.Rows L2 AD
section
variable {P : Program} {w : World} {K : PySem.W.Frag} {mg : Str → Option Value} {base : Heap}
variable {fa : Nat → Addr} {fd : Nat → FuncData} {tk : Nat → Tok}
/-! ### lists of numbers -/
/-- a list of numbers from 0 on -/
def nats (l : List Nat) : List V := l.map fun n : Nat => V.int (n : Int)
theorem nats_at {l : List Nat} {i : Nat} {x : V} (h : (nats l)[i]? = some x) : ∃ n ∈ l, x = .int (n : Int) := by
  unfold nats at h
  rw [List.getElem?_map] at h
  cases e : l[i]? with
  | none => rw [e] at h; cases h
  | some n =>
    rw [e] at h
    exact ⟨n, List.mem_of_getElem? e, (Option.some.inj h).symm⟩
theorem ints_at {l : List Int} {c : Nat} {z : Int} (h : l[c]? = some z) : atI (l.map V.int) (c : Int) = some (.int z) := by
  refine atI_nat ?_
  rw [List.getElem?_map, h]
  rfl
theorem nats_ints (l : List Nat) : nats l = (l.map fun n : Nat => (n : Int)).map V.int := by
  unfold nats
  rw [List.map_map]
  rfl
theorem rgV_nats (n : Nat) : rgV 0 (n : Int) = nats (List.range n) := by
  unfold rgV nats
  rw [show ((n : Int) - 0).toNat = n by omega]
  refine List.map_congr_left fun i _ => ?_
  rw [Int.zero_add]
theorem iteN {A B : Prop} {a b : V} (h : a = b) (q : B) : if (!decide (a = b)) = true then A else B := iteNS h q
end
end Lw
namespace Lw
open PySem PySem.Spec PyProof.Rows L2 AD
section
variable {P : Program} {w : World} {K : PySem.W.Frag} {mg : Str → Option Value} {base : Heap}
variable {fa : Nat → Addr} {fd : Nat → FuncData} {tk : Nat → Tok}
/-! ### asked_root, asked_plan, row_of, found_column, column_of, dots_of -/
def spAskedRoot : Sp := fun vs H Q _ => ∃ p g : Nat, vs = [.int p, .int g] ∧ Root p g ∧ rootB p g = true ∧ Q .non H
theorem ok_asked_root (T : Txt K mg fa fd tk) : FnOk P w K mg base CX0 3 (fa 7) (fd 7) ["prime", "root"] spAskedRoot := by
  refine T.F_asked_root.ok sc_asked_root (fun vs H Q E h => ?_) (fun cdv A outer s H vs Q E hr h => ?_)
  · obtain ⟨p, m, rfl, _⟩ := h
    rfl
  · obtain ⟨p, g, rfl, R, hB, q⟩ := h
    have lo := R.good.lo
    have hi := R.good.hi
    have g1 := R.one
    have g2 := R.lt
    refine ⟨_, (pss_one (ps_if (PW.pt (pw_or (pt_not (pt_val (pe_call (ok_is_whole T) (hr.mono (by decide)) (by rfl) T.g_is_whole T.F_is_whole.kp T.b_is_whole .nil pass0 (pa_cons (pv 1) pa_nil)))) (pw_or (pt_not (pt_chain op_le op_lt pe_int (pv 1) (pv 0))) (pw_or1 (pt_not (pt_val (pe_call (ok_root_of T) (hr.mono (by decide)) (by rfl) T.g_root_of T.F_root_of.kp T.b_root_of .nil pass0 (pa_cons (pv 0) (pa_cons (pv 1) pa_nil))))))))) (pss_one ps_never) pss_nil)), ?_⟩
    refine ⟨_, rfl, _, rfl, .inl ⟨_, rfl, _, rfl, iteF ?_⟩⟩
    refine ⟨_, rfl, _, _, rfl, rfl, _, rfl, ?_⟩
    rw [decide_eq_true (show (1 : Int) ≤ g by omega)]
    refine iteT ⟨_, rfl, _, _, rfl, rfl, _, rfl, ?_⟩
    rw [decide_eq_true (show (g : Int) < p by omega)]
    refine iteF ⟨_, rfl, _, rfl, p, g, rfl, lo, hi, g2, _, rfl, ?_⟩
    rw [hB]
    exact iteF q
def spAskedPlan : Sp := fun vs H Q _ => ∃ (p g m : Nat) (b : Int), vs = [.int p, .int g, .int b, .int m] ∧ Root p g ∧ rootB p g = true ∧ p ≤ m ∧ Q .non H
theorem ok_asked_plan (T : Txt K mg fa fd tk) : FnOk P w K mg base CX0 4 (fa 8) (fd 8) ["prime", "root", "begin", "most"] spAskedPlan := by
  refine T.F_asked_plan.ok sc_asked_plan (fun vs H Q E h => ?_) (fun cdv A outer s H vs Q E hr h => ?_)
  · obtain ⟨p, g, m, b, rfl, _⟩ := h
    rfl
  · obtain ⟨p, g, m, b, rfl, R, hB, hm, q⟩ := h
    refine ⟨_, (pss_cons (ps_expr (pe_call (ok_asked_prime T) (hr.mono (by decide)) (by rfl) T.g_asked_prime T.F_asked_prime.kp T.b_asked_prime .nil pass0 (pa_cons (pv 0) (pa_cons (pv 3) pa_nil))))
      (pss_cons (ps_expr (pe_call (ok_asked_root T) (hr.mono (by decide)) (by rfl) T.g_asked_root T.F_asked_root.kp T.b_asked_root .nil pass0 (pa_cons (pv 0) (pa_cons (pv 1) pa_nil))))
      (pss_one (ps_if (pt_not (pt_val (pe_call (ok_is_whole T) (hr.mono (by decide)) (by rfl) T.g_is_whole T.F_is_whole.kp T.b_is_whole .nil pass0 (pa_cons (pv 2) pa_nil)))) (pss_one ps_never) pss_nil)))), ?_⟩
    refine ⟨_, rfl, _, rfl, p, m, rfl, R.good, hm, ?_⟩
    refine ⟨_, rfl, _, rfl, p, g, rfl, R, hB, ?_⟩
    exact ⟨_, rfl, _, rfl, .inl ⟨_, rfl, _, rfl, iteF q⟩⟩
/-- the tuple's second place: what power is asked for -/
theorem pow_arg {p g : Nat} {b : Int} (hp : 3 ≤ p) : [V.int (g : Int), V.int (b % ((p : Int) - 1)), V.int (p : Int)] = [V.int ((g : Nat) : Int), V.int ((be p b : Nat) : Int), V.int ((p : Nat) : Int)] := by
  rw [be_cast hp]
def spRowOf : Sp := fun vs H Q _ => ∃ (p g c : Nat) (b : Int), vs = [.int p, .int g, .int b, .int c] ∧ Root p g ∧ rootB p g = true ∧ c < p - 1 ∧ Q (.int ((rowA p g b c : Nat) - 1)) H
theorem ok_row_of (T : Txt K mg fa fd tk) : FnOk P w K mg base CX0 5 (fa 9) (fd 9) ["prime", "root", "begin", "column"] spRowOf := by
  refine T.F_row_of.ok sc_row_of (fun vs H Q E h => ?_) (fun cdv A outer s H vs Q E hr h => ?_)
  · obtain ⟨p, g, c, b, rfl, _⟩ := h
    rfl
  · obtain ⟨p, g, c, b, rfl, R, hB, hc, q⟩ := h
    have lo := R.good.lo
    have hi := R.good.hi
    have g2 := R.lt
    refine ⟨_, (pss_cons (ps_expr (pe_call (ok_asked_plan T) (hr.mono (by decide)) (by rfl) T.g_asked_plan T.F_asked_plan.kp T.b_asked_plan .nil pass0 (pa_cons (pv 0) (pa_cons (pv 1) (pa_cons (pv 2) (pa_cons (pe_glob (v := .int 2000) rfl T.g_MOST ⟨_, rfl⟩) pa_nil))))))
      (pss_cons (ps_if (PW.pt (pw_or (pt_not (pt_val (pe_call (ok_is_whole T) (hr.mono (by decide)) (by rfl) T.g_is_whole T.F_is_whole.kp T.b_is_whole .nil pass0 (pa_cons (pv 3) pa_nil)))) (pw_or1 (pt_not (pt_chain op_le op_lt pe_int (pv 3) (pe_op op_sub (pv 0) pe_int)))))) (pss_one ps_never) pss_nil)
      (pss_one (ps_ret (pe_op op_sub (pe_call (ok_power T) (hr.mono (by decide)) (by rfl) T.g_power T.F_power.kp T.b_power .nil pass0 (pa_cons (pv 1) (pa_cons (pe_op op_mod (pe_op op_add (pv 2) (pv 3)) (pe_op op_sub (pv 0) pe_int)) (pa_cons (pv 0) pa_nil)))) pe_int))))), ?_⟩
    refine ⟨_, rfl, _, rfl, _, rfl, p, g, 2000, b, rfl, R, hB, hi, ?_⟩
    refine ⟨_, rfl, _, rfl, .inl ⟨_, rfl, _, rfl, iteF ?_⟩⟩
    refine ⟨_, rfl, _, _, rfl, rfl, _, rfl, ?_⟩
    rw [decide_eq_true (show (0 : Int) ≤ c by omega)]
    refine iteT ⟨_, rfl, _, _, rfl, rfl, _, _, rfl, rfl, _, rfl, ?_⟩
    rw [decide_eq_true (show (c : Int) < (p : Int) - 1 by omega)]
    refine iteF ?_
    refine ⟨_, rfl, _, rfl, _, rfl, _, _, rfl, rfl, _, rfl, _, _, rfl, rfl, _, _, rfl, rfl, (show (0 : Int) < (p : Int) - 1 by omega), _, rfl, g, be p (b + c), p, pow_arg lo, by omega, hi, by omega, _, _, rfl, rfl, ?_⟩
    rw [R.row_be]
    exact q
def spFound : Sp := fun vs H Q _ => ∃ (p g : Nat) (b z : Int), vs = [.int p, .int g, .int b, .int z] ∧ Root p g ∧ 0 ≤ z ∧ z < (p : Int) - 1 ∧ ∀ c : Nat, c < p - 1 → ((rowA p g b c : Nat) : Int) = z + 1 → Q (.int c) H
theorem ok_found_column (T : Txt K mg fa fd tk) : FnOk P w K mg base CX0 2 (fa 10) (fd 10) ["prime", "root", "begin", "row"] spFound := by
  refine T.F_found_column.ok sc_found_column (fun vs H Q E h => ?_) (fun cdv A outer s H vs Q E hr h => ?_)
  · obtain ⟨p, g, b, z, rfl, _⟩ := h
    rfl
  · obtain ⟨p, g, b, z, rfl, R, z0, z1, q⟩ := h
    have lo := R.good.lo
    have hi := R.good.hi
    have g2 := R.lt
    obtain ⟨c, hc, ec⟩ := R.row_onto b (show 1 ≤ (z + 1).toNat by omega) (show (z + 1).toNat < p by omega)
    refine ⟨_, (pss_cons (ps_set (i := 4) sc_found_column.nd rfl (.inl rfl) (pe_call (ok_power T) (hr.mono (by decide)) (by rfl) T.g_power T.F_power.kp T.b_power .nil pass0 (pa_cons (pv 1) (pa_cons (pe_op op_mod (pv 2) (pe_op op_sub (pv 0) pe_int)) (pa_cons (pv 0) pa_nil)))))
      (pss_cons (ps_set (i := 5) sc_found_column.nd rfl (.inl rfl) pe_int)
      (pss_cons (ps_while PassesOwn.never (pt_cmpR op_ne (pv 4) (pe_op op_add (pv 3) pe_int) (nomark _)) (pss_cons (ps_set (i := 4) sc_found_column.nd rfl (.inl rfl) (pe_op op_mod (pe_op op_mulB (pv 4) (pv 1)) (pv 0)))
      (pss_one (ps_set (i := 5) sc_found_column.nd rfl (.inl rfl) (pe_op op_add (pv 5) pe_int)))))
      (pss_one (ps_ret (pv 5)))))), ?_⟩
    refine ⟨_, rfl, _, rfl, _, rfl, _, _, rfl, rfl, _, _, rfl, rfl, (show (0 : Int) < (p : Int) - 1 by omega), _, rfl, g, be p b, p, pow_arg lo, by omega, hi, by omega, ?_⟩
    let W : Nat → L2.St → Hp → Prop := fun m σ H' => H' = H ∧ ∃ k : Nat, σ = [some (.int p), some (.int g), some (.int b), some (.int z), some (.int ((rowA p g b k : Nat) : Int)), some (.int k)] ∧ k + m = c
    refine ⟨W, ⟨c, rfl, 0, rfl, by omega⟩, fun m σ H' hW => ?_⟩
    obtain ⟨rfl, k, rfl, hk⟩ := hW
    refine ⟨_, rfl, _, rfl, _, _, rfl, rfl, rfl, _, rfl, ite2 (fun e => ?_) (fun e => ?_)⟩
    · have hm : m ≠ 0 := fun y => by
        have e1 : k = c := by omega
        rw [e1, ec, show (((z + 1).toNat : Nat) : Int) = z + 1 by omega, decide_eq_true rfl] at e
        cases e
      have hlt := R.row_lt b k
      refine ⟨fun σ' H'' => ∃ m', m' < m ∧ W m' σ' H'', fun _ _ h => h, ?_⟩
      refine ⟨_, rfl, _, rfl, _, _, rfl, rfl, mulL (by omega) (by omega), _, rfl, _, _, rfl, rfl, (show (0 : Int) < p by omega), ?_⟩
      refine ⟨_, rfl, _, _, rfl, rfl, m - 1, by omega, rfl, k + 1, ?_, by omega⟩
      have e9 : rowA p g b (k + 1) = rowA p g b k * g % p := by
        unfold rowA
        rw [← Nat.add_assoc, Nat.pow_succ, Nat.mod_mul_mod]
      rw [e9]
      rfl
    · have e1 : ((rowA p g b k : Nat) : Int) = z + 1 := by
        by_cases y : ((rowA p g b k : Nat) : Int) = z + 1
        · exact y
        · refine absurd ?_ e
          rw [Bool.not_eq_true', decide_eq_false_iff_not]
          intro y2
          exact y (V.int.inj y2)
      exact ⟨_, rfl, q k (by omega) e1⟩
def spColumnOf : Sp := fun vs H Q _ => ∃ (p g : Nat) (b z : Int), vs = [.int p, .int g, .int b, .int z] ∧ Root p g ∧ rootB p g = true ∧ 0 ≤ z ∧ z < (p : Int) - 1 ∧ ∀ c : Nat, c < p - 1 → ((rowA p g b c : Nat) : Int) = z + 1 → Q (.int c) H
theorem ok_column_of (T : Txt K mg fa fd tk) : FnOk P w K mg base CX0 5 (fa 11) (fd 11) ["prime", "root", "begin", "row"] spColumnOf := by
  refine T.F_column_of.ok sc_column_of (fun vs H Q E h => ?_) (fun cdv A outer s H vs Q E hr h => ?_)
  · obtain ⟨p, g, b, z, rfl, _⟩ := h
    rfl
  · obtain ⟨p, g, b, z, rfl, R, hB, z0, z1, q⟩ := h
    have hi := R.good.hi
    refine ⟨_, (pss_cons (ps_expr (pe_call (ok_asked_plan T) (hr.mono (by decide)) (by rfl) T.g_asked_plan T.F_asked_plan.kp T.b_asked_plan .nil pass0 (pa_cons (pv 0) (pa_cons (pv 1) (pa_cons (pv 2) (pa_cons (pe_glob (v := .int 2000) rfl T.g_MOST ⟨_, rfl⟩) pa_nil))))))
      (pss_cons (ps_if (PW.pt (pw_or (pt_not (pt_val (pe_call (ok_is_whole T) (hr.mono (by decide)) (by rfl) T.g_is_whole T.F_is_whole.kp T.b_is_whole .nil pass0 (pa_cons (pv 3) pa_nil)))) (pw_or1 (pt_not (pt_chain op_le op_lt pe_int (pv 3) (pe_op op_sub (pv 0) pe_int)))))) (pss_one ps_never) pss_nil)
      (pss_one (ps_ret (pe_call (ok_found_column T) (hr.mono (by decide)) (by rfl) T.g_found_column T.F_found_column.kp T.b_found_column .nil pass0 (pa_cons (pv 0) (pa_cons (pv 1) (pa_cons (pv 2) (pa_cons (pv 3) pa_nil))))))))), ?_⟩
    refine ⟨_, rfl, _, rfl, _, rfl, p, g, 2000, b, rfl, R, hB, hi, ?_⟩
    refine ⟨_, rfl, _, rfl, .inl ⟨_, rfl, _, rfl, iteF ?_⟩⟩
    refine ⟨_, rfl, _, _, rfl, rfl, _, rfl, ?_⟩
    rw [decide_eq_true z0]
    refine iteT ⟨_, rfl, _, _, rfl, rfl, _, _, rfl, rfl, _, rfl, ?_⟩
    rw [decide_eq_true z1]
    refine iteF ?_
    exact ⟨_, rfl, _, rfl, _, rfl, _, rfl, p, g, b, z, rfl, R, z0, z1, q⟩
/-- all dots: a new list -/
def spDotsOf : Sp := fun vs H Q _ => ∃ (p g : Nat) (b : Int), vs = [.int p, .int g, .int b] ∧ Root p g ∧ rootB p g = true ∧ p ≤ 61 ∧ ∀ (H' : Hp) (a : Addr), Same H H' → H a = none → H' a = some (.lst ((rowsI p g b).map V.int)) → Q (.ref a) H'
theorem ok_dots_of (T : Txt K mg fa fd tk) : FnOk P w K mg base CX0 5 (fa 13) (fd 13) ["prime", "root", "begin"] spDotsOf := by
  refine T.F_dots_of.ok sc_dots_of (fun vs H Q E h => ?_) (fun cdv A outer s H vs Q E hr h => ?_)
  · obtain ⟨p, g, b, rfl, _⟩ := h
    rfl
  · obtain ⟨p, g, b, rfl, R, hB, hp, q⟩ := h
    have lo := R.good.lo
    have g2 := R.lt
    refine ⟨_, (pss_cons (ps_expr (pe_call (ok_asked_plan T) (hr.mono (by decide)) (by rfl) T.g_asked_plan T.F_asked_plan.kp T.b_asked_plan .nil pass0 (pa_cons (pv 0) (pa_cons (pv 1) (pa_cons (pv 2) (pa_cons (pe_glob (v := .int 61) rfl T.g_SMALL ⟨_, rfl⟩) pa_nil))))))
      (pss_one (ps_ret (pe_lc (own := [("column", 3)]) (g := gName 3) (tt := tYes) (by rfl) sc_dots_of.nd (pi_range1 (by rfl) T.m_range (pa_cons (pe_op op_sub (pv 0) pe_int) pa_nil)) (blkOk_by (own := [("column", 3)]) (N := ["prime", "root", "begin", "column"]) (sc := (defScope s_dots_of)) (by decide +kernel)) (fun _ _ _ _ _ => (pg_name (i := 3) sc_dots_of.nd rfl (Or.inl rfl))) (fun _ _ _ _ _ => pts_nil) (fun _ _ _ _ _ => (pe_op op_sub (pe_call (ok_power T) (hr.mono (by decide)) (by rfl) T.g_power T.F_power.kp T.b_power .nil pass0 (pa_cons (pv 1) (pa_cons (pe_op op_mod (pe_op op_add (pv 2) (pv 3)) (pe_op op_sub (pv 0) pe_int)) (pa_cons (pv 0) pa_nil)))) pe_int)))))), ?_⟩
    refine ⟨_, rfl, _, rfl, _, rfl, p, g, 61, b, rfl, R, hB, hp, ?_⟩
    refine ⟨_, rfl, _, _, rfl, rfl, _, rfl, by omega, by omega, fun D nD => ?_⟩
    refine lc_it (walk_range (lo := 0) (n := ((p : Int) - 1).toNat)) (fun i H' => Same H H' ∧ H' D = some (.lst (((rowsI p g b).take i).map V.int))) ⟨same_upd nD, upd_same⟩ (fun _ _ _ _ => True.intro) (fun i x H4 H5 hi hP hY => ?_) (fun H4 hP => ?_)
    · obtain ⟨sm, hD⟩ := hP
      obtain ⟨rfl, rfl⟩ := hY
      refine ⟨rfl, ?_⟩
      have hi2 : i < p - 1 := by omega
      refine ⟨_, rfl, _, rfl, _, rfl, _, _, rfl, rfl, _, rfl, _, _, rfl, rfl, _, _, rfl, rfl, (show (0 : Int) < (p : Int) - 1 by omega), _, rfl, g, be p (b + i), p, ?_, by omega, by omega, by omega, _, _, rfl, rfl, _, hD, ?_, ?_, ?_⟩
      · show [V.int (g : Int), V.int ((b + (0 + (i : Int))) % ((p : Int) - 1)), V.int (p : Int)] = _
        rw [Int.zero_add]
        exact pow_arg lo
      · rw [List.length_map, List.length_take]
        exact Nat.lt_of_le_of_lt (Nat.min_le_left _ _) (Nat.lt_of_lt_of_le (show i < 100 by omega) (by decide))
      · intro x o h
        rw [upd_ne (ne_of_none h nD)]
        exact sm x o h
      · rw [upd_same, List.take_add_one, rowsI_at hi2, List.map_append, R.row_be]
        rfl
    · obtain ⟨sm, hD⟩ := hP
      rw [List.take_of_length_le (by rw [rowsI_len]; omega)] at hD
      exact q _ D sm nD hD
end
end Lw
namespace Lw
open PySem PySem.Spec PyProof.Rows L2 AD
section
variable {P : Program} {w : World} {K : PySem.W.Frag} {mg : Str → Option Value} {base : Heap}
variable {fa : Nat → Addr} {fd : Nat → FuncData} {tk : Nat → Tok}
/-! ### arrow_of -/
def spArrow : Sp := fun vs H Q _ => ∃ (p g d u : Nat) (b : Int), vs = [.int p, .int g, .int b, .int d, .int u] ∧ Root p g ∧ rootB p g = true ∧ 1 ≤ d ∧ d ≤ p - 2 ∧ 1 ≤ u ∧ u < p ∧ ∀ c : Nat, c < p - 1 → rowA p g b c = tgt p g d u → Q (.int c) H
theorem ok_arrow_of (T : Txt K mg fa fd tk) : FnOk P w K mg base CX0 5 (fa 12) (fd 12) ["prime", "root", "begin", "across", "up"] spArrow := by
  refine T.F_arrow_of.ok sc_arrow_of (fun vs H Q E h => ?_) (fun cdv A outer s H vs Q E hr h => ?_)
  · obtain ⟨p, g, d, u, b, rfl, _⟩ := h
    rfl
  · obtain ⟨p, g, d, u, b, rfl, R, hB, d1, d2, u1, u2, q⟩ := h
    have lo := R.good.lo
    have hi := R.good.hi
    have g2 := R.lt
    have t1 := R.tgt_pos d1 d2 u1 u2
    have t2 : tgt p g d u < p := R.tgt_lt
    have a1 := R.good.pow_pos R.ne d
    have a2 := Nat.mod_lt (g ^ d) (show p > 0 by omega)
    refine ⟨_, (pss_cons (ps_expr (pe_call (ok_asked_plan T) (hr.mono (by decide)) (by rfl) T.g_asked_plan T.F_asked_plan.kp T.b_asked_plan .nil pass0 (pa_cons (pv 0) (pa_cons (pv 1) (pa_cons (pv 2) (pa_cons (pe_glob (v := .int 2000) rfl T.g_MOST ⟨_, rfl⟩) pa_nil))))))
      (pss_cons (ps_if (PW.pt (pw_or (pt_not (pt_val (pe_call (ok_is_whole T) (hr.mono (by decide)) (by rfl) T.g_is_whole T.F_is_whole.kp T.b_is_whole .nil pass0 (pa_cons (pv 3) pa_nil)))) (pw_or (pt_not (pt_chain op_le op_le pe_int (pv 3) (pe_op op_sub (pv 0) pe_int))) (pw_or (pt_not (pt_val (pe_call (ok_is_whole T) (hr.mono (by decide)) (by rfl) T.g_is_whole T.F_is_whole.kp T.b_is_whole .nil pass0 (pa_cons (pv 4) pa_nil)))) (pw_or1 (pt_not (pt_chain op_le op_lt pe_int (pv 4) (pv 0)))))))) (pss_one ps_never) pss_nil)
      (pss_cons (ps_set (i := 5) sc_arrow_of.nd rfl (.inl rfl) (pe_op op_sub (pe_call (ok_power T) (hr.mono (by decide)) (by rfl) T.g_power T.F_power.kp T.b_power .nil pass0 (pa_cons (pv 1) (pa_cons (pv 3) (pa_cons (pv 0) pa_nil)))) pe_int))
      (pss_one (ps_ret (pe_call (ok_found_column T) (hr.mono (by decide)) (by rfl) T.g_found_column T.F_found_column.kp T.b_found_column .nil pass0 (pa_cons (pv 0) (pa_cons (pv 1) (pa_cons (pv 2) (pa_cons (pe_op op_sub (pe_op op_mod (pe_op op_mulB (pv 4) (pe_call (ok_power T) (hr.mono (by decide)) (by rfl) T.g_power T.F_power.kp T.b_power .nil pass0 (pa_cons (pv 5) (pa_cons (pe_op op_sub (pv 0) pe_int) (pa_cons (pv 0) pa_nil))))) (pv 0)) pe_int) pa_nil)))))))))), ?_⟩
    refine ⟨_, rfl, _, rfl, _, rfl, p, g, 2000, b, rfl, R, hB, hi, ?_⟩
    refine ⟨_, rfl, _, rfl, .inl ⟨_, rfl, _, rfl, iteF ?_⟩⟩
    refine ⟨_, rfl, _, _, rfl, rfl, _, rfl, ?_⟩
    rw [decide_eq_true (show (1 : Int) ≤ d by omega)]
    refine iteT ⟨_, rfl, _, _, rfl, rfl, _, _, rfl, rfl, _, rfl, ?_⟩
    rw [decide_eq_true (show (d : Int) ≤ (p : Int) - 2 by omega)]
    refine iteF ⟨_, rfl, _, rfl, .inl ⟨_, rfl, _, rfl, iteF ?_⟩⟩
    refine ⟨_, rfl, _, _, rfl, rfl, _, rfl, ?_⟩
    rw [decide_eq_true (show (1 : Int) ≤ u by omega)]
    refine iteT ⟨_, rfl, _, _, rfl, rfl, _, rfl, ?_⟩
    rw [decide_eq_true (show (u : Int) < p by omega)]
    refine iteF ?_
    -- apart
    refine ⟨_, rfl, _, rfl, _, rfl, g, d, p, rfl, by omega, hi, by omega, _, _, rfl, rfl, ?_⟩
    refine ⟨_, rfl, _, rfl, _, rfl, _, rfl, _, rfl, _, rfl, _, _, rfl, rfl, _, rfl, g ^ d % p - 1, p - 2, p, ?_, by omega, hi, by omega, ?_⟩
    · show [V.int (((g ^ d % p : Nat) : Int) - 1), V.int ((p : Int) - 2), V.int (p : Int)] = [V.int ((g ^ d % p - 1 : Nat) : Int), V.int ((p - 2 : Nat) : Int), V.int (p : Int)]
      rw [show ((g ^ d % p - 1 : Nat) : Int) = ((g ^ d % p : Nat) : Int) - 1 by omega, show ((p - 2 : Nat) : Int) = (p : Int) - 2 by omega]
    have et : ((u : Int) * (((g ^ d % p - 1) ^ (p - 2) % p : Nat) : Int)) % (p : Int) = ((tgt p g d u : Nat) : Int) := rfl
    refine ⟨_, _, rfl, rfl, mulL (by omega) (by omega), _, rfl, _, _, rfl, rfl, (show (0 : Int) < p by omega), _, _, rfl, rfl, p, g, b, ((tgt p g d u : Nat) : Int) - 1, rfl, R, by omega, by omega, fun c hc ec => q c hc (by omega)⟩
/-! ### the law's look at an arrow -/
theorem filter_range {n c : Nat} (h : c < n) : (List.range n).filter (fun i => decide (i = c)) = [c] := by
  induction n with
  | zero => omega
  | succ n ih =>
    rw [List.range_succ, List.filter_append]
    by_cases e : c = n
    · subst e
      have h0 : (List.range c).filter (fun i => decide (i = c)) = [] := by
        rw [List.filter_eq_nil_iff]
        intro i hi
        have := List.mem_range.mp hi
        simp
        omega
      rw [h0]
      simp
    · rw [ih (by omega)]
      have : ¬ n = c := fun z => e z.symm
      simp [this]
end
end Lw
namespace Lw
open PySem PySem.Spec PyProof.Rows L2 AD
section
variable {P : Program} {w : World} {K : PySem.W.Frag} {mg : Str → Option Value} {base : Heap}
variable {fa : Nat → Addr} {fd : Nat → FuncData} {tk : Nat → Tok}
/-! ### what is refused: primes, roots, plans -/
theorem TyOf.ext {H H' : Hp} {v : V} {t : Value} (e : LamX.ExtN H H') (h : TyOf K H v t) : TyOf K H' v t := by
  cases h with
  | non => exact .non
  | bl b => exact .bl b
  | int i => exact .int i
  | str y => exact .str y
  | flt y => exact .flt y
  | lst ea => exact .lst (e _ _ ea (fun _ z => nomatch z))
  | frz ea => exact .frz (e _ _ ea (fun _ z => nomatch z))
  | tup ea => exact .tup (e _ _ ea (fun _ z => nomatch z))
  | dK ea => exact .dK (e _ _ ea (fun _ z => nomatch z))
  | dT ea => exact .dT (e _ _ ea (fun _ z => nomatch z))
  | ins ea a b c d f => exact .ins (e _ _ ea (fun _ z => nomatch z)) a b c d f
theorem TyX.ext {H H' : Hp} {v : V} {t : Value} (e : LamX.ExtN H H') (h : TyX K H v t) : TyX K H' v t := by
  cases h with
  | base b => exact .base (TyOf.ext e b)
  | byt b => exact .byt b
  | set ea => exact .set (e _ _ ea (fun _ z => nomatch z))
  | kList a b => exact .kList a b
  | kTuple a b => exact .kTuple a b
  | kDict a b => exact .kDict a b
  | fTuple ea => exact .fTuple (e _ _ ea (fun _ z => nomatch z))
  | fDict ea => exact .fDict (e _ _ ea (fun _ z => nomatch z))
theorem extN_same {H H' : Hp} (s : Same H H') : LamX.ExtN H H' := fun b o h _ => s b o h
def isInt : V → Bool
  | .int _ => true
  | _ => false
/-- no whole number -/
def NW (K : PySem.W.Frag) (H : Hp) (v : V) : Prop := isInt v = false ∧ ∃ n, TyX K H v (.type n) ∧ n ∈ ["NoneType", "str", "list", "tuple", "dict", "bool"]
theorem NW.ext {H H' : Hp} {v : V} (e : LamX.ExtN H H') (h : NW K H v) : NW K H' v := by
  obtain ⟨a, n, b, c⟩ := h
  exact ⟨a, n, TyX.ext e b, c⟩
/-- no prime that is due -/
def BadP (K : PySem.W.Frag) (H : Hp) (m : Nat) (v : V) : Prop := NW K H v ∨ ∃ i : Int, v = .int i ∧ (i < 3 ∨ (m : Int) < i ∨ (3 ≤ i ∧ i ≤ 2000 ∧ primeB i.toNat = false))
theorem BadP.ext {H H' : Hp} {m : Nat} {v : V} (e : LamX.ExtN H H') (h : BadP K H m v) : BadP K H' m v := h.imp (fun z => z.ext e) id
def spAskedPrimeX (K : PySem.W.Frag) (C : Addr) : Sp := fun vs H _ E => ∃ (v : V) (m : Nat), vs = [v, .int m] ∧ BadP K H m v ∧ E (.ref C) none H
theorem xok_asked_prime (T : Txt K mg fa fd tk) : FnOk P w K mg base (L2N.CX P w) 2 (fa 2) (fd 2) ["prime", "most"] (spAskedPrimeX K (fa 28)) := by
  refine Hx.okN T.F_asked_prime sc_asked_prime (fun vs H Q E h => ?_) (fun cdv A outer s H vs Q E hr h => ?_)
  · obtain ⟨v, m, rfl, _⟩ := h
    rfl
  · obtain ⟨v, m, rfl, hv, q⟩ := h
    have tk := L2N.takes_of (X := cxOf (L2N.CX P w) P w K mg base ["prime", "most"] "asked_prime" (defScope s_asked_prime) (fa 2) cdv A outer s H E) rfl rfl rfl rfl
    refine ⟨_, (pss_one (ps_if (PW.pt (pw_or (pt_not (pt_val (pe_call (ok_is_whole T) (hr.mono (by decide)) (by rfl) T.g_is_whole T.F_is_whole.kp T.b_is_whole .nil pass0 (pa_cons (pv 0) pa_nil)))) (pw_or (pt_not (pt_chain op_le op_le pe_int (pv 0) (pv 1))) (pw_or1 (pt_not (pt_val (pe_call (ok_is_prime T) (hr.mono (by decide)) (by rfl) T.g_is_prime T.F_is_prime.kp T.b_is_prime .nil pass0 (pa_cons (pv 0) pa_nil)))))))) (pss_one (L2N.ps_raise rfl tk (L2N.pmk_own PySem.F.excBase_ValueError T.x_BadPrime.ex T.g_BadPrime T.x_BadPrime.kp (raises_own T.x_BadPrime.b T.x_BadPrime.t) (by rfl)))) pss_nil)), ?_⟩
    rcases hv with ⟨_, n, ty, hn⟩ | ⟨i, rfl, hi⟩
    · exact ⟨_, rfl, _, rfl, .inr ⟨n, ty, hn, _, rfl, iteT q⟩⟩
    · refine ⟨_, rfl, _, rfl, .inl ⟨_, rfl, _, rfl, iteF ?_⟩⟩
      refine ⟨_, rfl, _, _, rfl, rfl, _, rfl, ite2 (fun e => ?_) (fun e => ?_)⟩
      · have i3 : 3 ≤ i := dT e
        refine ⟨_, rfl, _, _, rfl, rfl, _, rfl, ?_⟩
        by_cases im : i ≤ (m : Int)
        · have hp : 3 ≤ i ∧ i ≤ 2000 ∧ primeB i.toNat = false := by
            rcases hi with z | z | z
            · omega
            · omega
            · exact z
          rw [decide_eq_true im]
          refine iteF ⟨_, rfl, i.toNat, ?_, by omega, by omega, _, rfl, ?_⟩
          · rw [show ((i.toNat : Nat) : Int) = i by omega]
            rfl
          rw [hp.2.2]
          exact iteT q
        · rw [decide_eq_false im]
          exact iteT q
      · exact ⟨_, rfl, iteT q⟩
/-- no number from 1 to below the prime -/
def BadN (K : PySem.W.Frag) (H : Hp) (p : Nat) (v : V) : Prop := NW K H v ∨ ∃ i : Int, v = .int i ∧ (i < 1 ∨ (p : Int) ≤ i)
theorem BadN.ext {H H' : Hp} {m : Nat} {v : V} (e : LamX.ExtN H H') (h : BadN K H m v) : BadN K H' m v := h.imp (fun z => z.ext e) id
def spIsRootX (K : PySem.W.Frag) (CP CN : Addr) : Sp := fun vs H _ E => ∃ v u : V, vs = [v, u] ∧ ((BadP K H 2000 v ∧ E (.ref CP) none H) ∨ ∃ p : Nat, v = .int p ∧ Good p ∧ BadN K H p u ∧ E (.ref CN) none H)
theorem xok_is_root (T : Txt K mg fa fd tk) : FnOk P w K mg base (L2N.CX P w) 3 (fa 5) (fd 5) ["prime", "number"] (spIsRootX K (fa 28) (fa 30)) := by
  refine Hx.okN T.F_is_root sc_is_root (fun vs H Q E h => ?_) (fun cdv A outer s H vs Q E hr h => ?_)
  · obtain ⟨v, m, rfl, _⟩ := h
    rfl
  · obtain ⟨v, u, rfl, h⟩ := h
    have tk := L2N.takes_of (X := cxOf (L2N.CX P w) P w K mg base ["prime", "number"] "is_root" (defScope s_is_root) (fa 5) cdv A outer s H E) rfl rfl rfl rfl
    refine ⟨_, (pss_cons (ps_expr (pe_alt (pe_callS (xok_asked_prime T) (hr.mono (by decide)) (by rfl) T.g_asked_prime T.F_asked_prime.kp T.b_asked_prime (L2N.passAt tk) (pa_cons (pv 0) (pa_cons (pe_glob (v := .int 2000) rfl T.g_MOST ⟨_, rfl⟩) pa_nil))) (pe_call (ok_asked_prime T) (hr.mono (by decide)) (by rfl) T.g_asked_prime T.F_asked_prime.kp T.b_asked_prime .nil pass0 (pa_cons (pv 0) (pa_cons (pe_glob (v := .int 2000) rfl T.g_MOST ⟨_, rfl⟩) pa_nil)))))
      (pss_cons (ps_if (PW.pt (pw_or (pt_not (pt_val (pe_call (ok_is_whole T) (hr.mono (by decide)) (by rfl) T.g_is_whole T.F_is_whole.kp T.b_is_whole .nil pass0 (pa_cons (pv 1) pa_nil)))) (pw_or1 (pt_not (pt_chain op_le op_lt pe_int (pv 1) (pv 0)))))) (pss_one (L2N.ps_raise rfl tk (L2N.pmk_own PySem.F.excBase_ValueError T.x_BadNumber.ex T.g_BadNumber T.x_BadNumber.kp (raises_own T.x_BadNumber.b T.x_BadNumber.t) (by rfl)))) pss_nil)
      Hx.pss_nev)), ?_⟩
    rcases h with ⟨hv, q⟩ | ⟨p, rfl, G, hu, q⟩
    · exact .inl ⟨_, rfl, v, 2000, rfl, hv, q⟩
    · have lo := G.lo
      refine .inr ⟨_, rfl, p, 2000, rfl, G, G.hi, ?_⟩
      rcases hu with ⟨_, n, ty, hn⟩ | ⟨i, rfl, hi⟩
      · exact ⟨_, rfl, _, rfl, .inr ⟨n, ty, hn, _, rfl, iteT q⟩⟩
      · refine ⟨_, rfl, _, rfl, .inl ⟨_, rfl, _, rfl, iteF ?_⟩⟩
        refine ⟨_, rfl, _, _, rfl, rfl, _, rfl, ite2 (fun e => ?_) (fun e => ?_)⟩
        · have i1 : 1 ≤ i := dT e
          refine ⟨_, rfl, _, _, rfl, rfl, _, rfl, ?_⟩
          rw [decide_eq_false (show ¬ i < (p : Int) by omega)]
          exact iteT q
        · exact ⟨_, rfl, iteT q⟩
def spLeastX (K : PySem.W.Frag) (CP : Addr) : Sp := fun vs H _ E => ∃ v : V, vs = [v] ∧ BadP K H 2000 v ∧ E (.ref CP) none H
theorem xok_least_root (T : Txt K mg fa fd tk) : FnOk P w K mg base (L2N.CX P w) 3 (fa 6) (fd 6) ["prime"] (spLeastX K (fa 28)) := by
  refine Hx.okN T.F_least_root sc_least_root (fun vs H Q E h => ?_) (fun cdv A outer s H vs Q E hr h => ?_)
  · obtain ⟨v, rfl, _⟩ := h
    rfl
  · obtain ⟨v, rfl, hv, q⟩ := h
    have tk := L2N.takes_of (X := cxOf (L2N.CX P w) P w K mg base ["prime", "number"] "least_root" (defScope s_least_root) (fa 6) cdv A outer s H E) rfl rfl rfl rfl
    exact ⟨_, (pss_cons (ps_expr (pe_alt (pe_callS (xok_asked_prime T) (hr.mono (by decide)) (by rfl) T.g_asked_prime T.F_asked_prime.kp T.b_asked_prime (L2N.passAt tk) (pa_cons (pv 0) (pa_cons (pe_glob (v := .int 2000) rfl T.g_MOST ⟨_, rfl⟩) pa_nil))) (pe_call (ok_asked_prime T) (hr.mono (by decide)) (by rfl) T.g_asked_prime T.F_asked_prime.kp T.b_asked_prime .nil pass0 (pa_cons (pv 0) (pa_cons (pe_glob (v := .int 2000) rfl T.g_MOST ⟨_, rfl⟩) pa_nil)))))
      Hx.pss_nev), .inl ⟨_, rfl, v, 2000, rfl, hv, q⟩⟩
/-- no root of the prime -/
def BadR (K : PySem.W.Frag) (H : Hp) (p : Nat) (v : V) : Prop := NW K H v ∨ ∃ i : Int, v = .int i ∧ (i < 1 ∨ (p : Int) ≤ i ∨ rootB p i.toNat = false)
theorem BadR.ext {H H' : Hp} {m : Nat} {v : V} (e : LamX.ExtN H H') (h : BadR K H m v) : BadR K H' m v := h.imp (fun z => z.ext e) id
def spAskedRootX (K : PySem.W.Frag) (C : Addr) : Sp := fun vs H _ E => ∃ (v : V) (p : Nat), vs = [.int p, v] ∧ Good p ∧ BadR K H p v ∧ E (.ref C) none H
theorem xok_asked_root (T : Txt K mg fa fd tk) : FnOk P w K mg base (L2N.CX P w) 3 (fa 7) (fd 7) ["prime", "root"] (spAskedRootX K (fa 29)) := by
  refine Hx.okN T.F_asked_root sc_asked_root (fun vs H Q E h => ?_) (fun cdv A outer s H vs Q E hr h => ?_)
  · obtain ⟨v, m, rfl, _⟩ := h
    rfl
  · obtain ⟨v, p, rfl, G, hv, q⟩ := h
    have lo := G.lo
    have hi := G.hi
    have tk := L2N.takes_of (X := cxOf (L2N.CX P w) P w K mg base ["prime", "root"] "asked_root" (defScope s_asked_root) (fa 7) cdv A outer s H E) rfl rfl rfl rfl
    refine ⟨_, (pss_one (ps_if (PW.pt (pw_or (pt_not (pt_val (pe_call (ok_is_whole T) (hr.mono (by decide)) (by rfl) T.g_is_whole T.F_is_whole.kp T.b_is_whole .nil pass0 (pa_cons (pv 1) pa_nil)))) (pw_or (pt_not (pt_chain op_le op_lt pe_int (pv 1) (pv 0))) (pw_or1 (pt_not (pt_val (pe_call (ok_root_of T) (hr.mono (by decide)) (by rfl) T.g_root_of T.F_root_of.kp T.b_root_of .nil pass0 (pa_cons (pv 0) (pa_cons (pv 1) pa_nil))))))))) (pss_one (L2N.ps_raise rfl tk (L2N.pmk_own PySem.F.excBase_ValueError T.x_BadRoot.ex T.g_BadRoot T.x_BadRoot.kp (raises_own T.x_BadRoot.b T.x_BadRoot.t) (by rfl)))) pss_nil)), ?_⟩
    rcases hv with ⟨_, n, ty, hn⟩ | ⟨i, rfl, hi⟩
    · exact ⟨_, rfl, _, rfl, .inr ⟨n, ty, hn, _, rfl, iteT q⟩⟩
    · refine ⟨_, rfl, _, rfl, .inl ⟨_, rfl, _, rfl, iteF ?_⟩⟩
      refine ⟨_, rfl, _, _, rfl, rfl, _, rfl, ite2 (fun e => ?_) (fun e => ?_)⟩
      · have i1 : 1 ≤ i := dT e
        refine ⟨_, rfl, _, _, rfl, rfl, _, rfl, ?_⟩
        by_cases im : i < (p : Int)
        · have hp : rootB p i.toNat = false := by
            rcases hi with z | z | z
            · omega
            · omega
            · exact z
          rw [decide_eq_true im]
          refine iteF ⟨_, rfl, _, rfl, p, i.toNat, ?_, by omega, by omega, by omega, _, rfl, ?_⟩
          · rw [show ((i.toNat : Nat) : Int) = i by omega]
            rfl
          rw [hp]
          exact iteT q
        · rw [decide_eq_false im]
          exact iteT q
      · exact ⟨_, rfl, iteT q⟩
/-- no plan: of which class the refusal is -/
def BadPlan (K : PySem.W.Frag) (fa : Nat → Addr) (H : Hp) (m : Nat) (v u b : V) (C : Addr) : Prop := (BadP K H m v ∧ C = fa 28) ∨ ∃ p : Nat, v = .int p ∧ Good p ∧ p ≤ m ∧
  ((BadR K H p u ∧ C = fa 29) ∨ ∃ g : Nat, u = .int g ∧ Root p g ∧ rootB p g = true ∧ NW K H b ∧ C = fa 30)
theorem BadPlan.ext {H H' : Hp} {m : Nat} {v u b : V} {C : Addr} (e : LamX.ExtN H H') (h : BadPlan K fa H m v u b C) : BadPlan K fa H' m v u b C := by
  rcases h with ⟨h, q⟩ | ⟨p, a1, a2, a3, ⟨h, q⟩ | ⟨g, b1, b2, b3, b4, b5⟩⟩
  · exact .inl ⟨h.ext e, q⟩
  · exact .inr ⟨p, a1, a2, a3, .inl ⟨h.ext e, q⟩⟩
  · exact .inr ⟨p, a1, a2, a3, .inr ⟨g, b1, b2, b3, b4.ext e, b5⟩⟩
def spAskedPlanX (K : PySem.W.Frag) (fa : Nat → Addr) : Sp := fun vs H _ E => ∃ (v u b : V) (m : Nat) (C : Addr), vs = [v, u, b, .int m] ∧ BadPlan K fa H m v u b C ∧ E (.ref C) none H
theorem xok_asked_plan (T : Txt K mg fa fd tk) : FnOk P w K mg base (L2N.CX P w) 4 (fa 8) (fd 8) ["prime", "root", "begin", "most"] (spAskedPlanX K fa) := by
  refine Hx.okN T.F_asked_plan sc_asked_plan (fun vs H Q E h => ?_) (fun cdv A outer s H vs Q E hr h => ?_)
  · obtain ⟨v, u, b, m, C, rfl, _⟩ := h
    rfl
  · obtain ⟨v, u, b, m, C, rfl, hv, q⟩ := h
    have tk := L2N.takes_of (X := cxOf (L2N.CX P w) P w K mg base ["prime", "root", "begin", "most"] "asked_plan" (defScope s_asked_plan) (fa 8) cdv A outer s H E) rfl rfl rfl rfl
    refine ⟨_, (pss_cons (ps_expr (pe_alt (pe_callS (xok_asked_prime T) (hr.mono (by decide)) (by rfl) T.g_asked_prime T.F_asked_prime.kp T.b_asked_prime (L2N.passAt tk) (pa_cons (pv 0) (pa_cons (pv 3) pa_nil))) (pe_call (ok_asked_prime T) (hr.mono (by decide)) (by rfl) T.g_asked_prime T.F_asked_prime.kp T.b_asked_prime .nil pass0 (pa_cons (pv 0) (pa_cons (pv 3) pa_nil)))))
      (pss_cons (ps_expr (pe_alt (pe_callS (xok_asked_root T) (hr.mono (by decide)) (by rfl) T.g_asked_root T.F_asked_root.kp T.b_asked_root (L2N.passAt tk) (pa_cons (pv 0) (pa_cons (pv 1) pa_nil))) (pe_call (ok_asked_root T) (hr.mono (by decide)) (by rfl) T.g_asked_root T.F_asked_root.kp T.b_asked_root .nil pass0 (pa_cons (pv 0) (pa_cons (pv 1) pa_nil)))))
      (pss_one (ps_if (pt_not (pt_val (pe_call (ok_is_whole T) (hr.mono (by decide)) (by rfl) T.g_is_whole T.F_is_whole.kp T.b_is_whole .nil pass0 (pa_cons (pv 2) pa_nil)))) (pss_one (L2N.ps_raise rfl tk (L2N.pmk_own PySem.F.excBase_ValueError T.x_BadNumber.ex T.g_BadNumber T.x_BadNumber.kp (raises_own T.x_BadNumber.b T.x_BadNumber.t) (by rfl)))) pss_nil)))), ?_⟩
    rcases hv with ⟨h, rfl⟩ | ⟨p, rfl, G, hm, ⟨h, rfl⟩ | ⟨g, rfl, R, hB, ⟨_, n, ty, hn⟩, rfl⟩⟩
    · exact .inl ⟨_, rfl, _, rfl, v, m, rfl, h, q⟩
    · exact .inr ⟨_, rfl, _, rfl, p, m, rfl, G, hm, .inl ⟨_, rfl, _, rfl, u, p, rfl, G, h, q⟩⟩
    · exact .inr ⟨_, rfl, _, rfl, p, m, rfl, G, hm, .inr ⟨_, rfl, _, rfl, p, g, rfl, R, hB, ⟨_, rfl, _, rfl, .inr ⟨n, ty, hn, _, rfl, iteT q⟩⟩⟩⟩
/-- a plan that is due -/
def IsPlan (m : Nat) (v u b : V) (p : Nat) : Prop := ∃ (g : Nat) (z : Int), v = .int p ∧ u = .int g ∧ b = .int z ∧ Root p g ∧ rootB p g = true ∧ p ≤ m
/-- no place of the board -/
def BadC (K : PySem.W.Frag) (H : Hp) (p : Nat) (v : V) : Prop := NW K H v ∨ ∃ i : Int, v = .int i ∧ (i < 0 ∨ (p : Int) - 1 ≤ i)
theorem BadC.ext {H H' : Hp} {m : Nat} {v : V} (e : LamX.ExtN H H') (h : BadC K H m v) : BadC K H' m v := h.imp (fun z => z.ext e) id
def spRowOfX (K : PySem.W.Frag) (fa : Nat → Addr) : Sp := fun vs H _ E => ∃ v u b c : V, vs = [v, u, b, c] ∧ ((∃ C, BadPlan K fa H 2000 v u b C ∧ E (.ref C) none H) ∨ ∃ p, IsPlan 2000 v u b p ∧ BadC K H p c ∧ E (.ref (fa 31)) none H)
theorem xok_row_of (T : Txt K mg fa fd tk) : FnOk P w K mg base (L2N.CX P w) 5 (fa 9) (fd 9) ["prime", "root", "begin", "column"] (spRowOfX K fa) := by
  refine Hx.okN T.F_row_of sc_row_of (fun vs H Q E h => ?_) (fun cdv A outer s H vs Q E hr h => ?_)
  · obtain ⟨v, u, b, c, rfl, _⟩ := h
    rfl
  · obtain ⟨v, u, b, c, rfl, h⟩ := h
    have tk := L2N.takes_of (X := cxOf (L2N.CX P w) P w K mg base ["prime", "root", "begin", "column"] "row_of" (defScope s_row_of) (fa 9) cdv A outer s H E) rfl rfl rfl rfl
    refine ⟨_, (pss_cons (ps_expr (pe_alt (pe_callS (xok_asked_plan T) (hr.mono (by decide)) (by rfl) T.g_asked_plan T.F_asked_plan.kp T.b_asked_plan (L2N.passAt tk) (pa_cons (pv 0) (pa_cons (pv 1) (pa_cons (pv 2) (pa_cons (pe_glob (v := .int 2000) rfl T.g_MOST ⟨_, rfl⟩) pa_nil))))) (pe_call (ok_asked_plan T) (hr.mono (by decide)) (by rfl) T.g_asked_plan T.F_asked_plan.kp T.b_asked_plan .nil pass0 (pa_cons (pv 0) (pa_cons (pv 1) (pa_cons (pv 2) (pa_cons (pe_glob (v := .int 2000) rfl T.g_MOST ⟨_, rfl⟩) pa_nil)))))))
      (pss_cons (ps_if (PW.pt (pw_or (pt_not (pt_val (pe_call (ok_is_whole T) (hr.mono (by decide)) (by rfl) T.g_is_whole T.F_is_whole.kp T.b_is_whole .nil pass0 (pa_cons (pv 3) pa_nil)))) (pw_or1 (pt_not (pt_chain op_le op_lt pe_int (pv 3) (pe_op op_sub (pv 0) pe_int)))))) (pss_one (L2N.ps_raise rfl tk (L2N.pmk_own PySem.F.excBase_ValueError T.x_BadColumn.ex T.g_BadColumn T.x_BadColumn.kp (raises_own T.x_BadColumn.b T.x_BadColumn.t) (by rfl)))) pss_nil)
      Hx.pss_nev)), ?_⟩
    rcases h with ⟨C, h, q⟩ | ⟨p, ⟨g, z, rfl, rfl, rfl, R, hB, hm⟩, hc, q⟩
    · exact .inl ⟨_, rfl, _, rfl, _, rfl, v, u, b, 2000, C, rfl, h, q⟩
    · refine .inr ⟨_, rfl, _, rfl, _, rfl, p, g, 2000, z, rfl, R, hB, hm, ?_⟩
      rcases hc with ⟨_, n, ty, hn⟩ | ⟨i, rfl, hi⟩
      · exact ⟨_, rfl, _, rfl, .inr ⟨n, ty, hn, _, rfl, iteT q⟩⟩
      · refine ⟨_, rfl, _, rfl, .inl ⟨_, rfl, _, rfl, iteF ?_⟩⟩
        refine ⟨_, rfl, _, _, rfl, rfl, _, rfl, ite2 (fun e => ?_) (fun e => ?_)⟩
        · have i1 : 0 ≤ i := dT e
          refine ⟨_, rfl, _, _, rfl, rfl, _, _, rfl, rfl, _, rfl, ?_⟩
          rw [decide_eq_false (show ¬ i < (p : Int) - 1 by omega)]
          exact iteT q
        · exact ⟨_, rfl, iteT q⟩
def spColumnOfX (K : PySem.W.Frag) (fa : Nat → Addr) : Sp := fun vs H _ E => ∃ v u b c : V, vs = [v, u, b, c] ∧ ((∃ C, BadPlan K fa H 2000 v u b C ∧ E (.ref C) none H) ∨ ∃ p, IsPlan 2000 v u b p ∧ BadC K H p c ∧ E (.ref (fa 32)) none H)
theorem xok_column_of (T : Txt K mg fa fd tk) : FnOk P w K mg base (L2N.CX P w) 5 (fa 11) (fd 11) ["prime", "root", "begin", "row"] (spColumnOfX K fa) := by
  refine Hx.okN T.F_column_of sc_column_of (fun vs H Q E h => ?_) (fun cdv A outer s H vs Q E hr h => ?_)
  · obtain ⟨v, u, b, c, rfl, _⟩ := h
    rfl
  · obtain ⟨v, u, b, c, rfl, h⟩ := h
    have tk := L2N.takes_of (X := cxOf (L2N.CX P w) P w K mg base ["prime", "root", "begin", "row"] "column_of" (defScope s_column_of) (fa 11) cdv A outer s H E) rfl rfl rfl rfl
    refine ⟨_, (pss_cons (ps_expr (pe_alt (pe_callS (xok_asked_plan T) (hr.mono (by decide)) (by rfl) T.g_asked_plan T.F_asked_plan.kp T.b_asked_plan (L2N.passAt tk) (pa_cons (pv 0) (pa_cons (pv 1) (pa_cons (pv 2) (pa_cons (pe_glob (v := .int 2000) rfl T.g_MOST ⟨_, rfl⟩) pa_nil))))) (pe_call (ok_asked_plan T) (hr.mono (by decide)) (by rfl) T.g_asked_plan T.F_asked_plan.kp T.b_asked_plan .nil pass0 (pa_cons (pv 0) (pa_cons (pv 1) (pa_cons (pv 2) (pa_cons (pe_glob (v := .int 2000) rfl T.g_MOST ⟨_, rfl⟩) pa_nil)))))))
      (pss_cons (ps_if (PW.pt (pw_or (pt_not (pt_val (pe_call (ok_is_whole T) (hr.mono (by decide)) (by rfl) T.g_is_whole T.F_is_whole.kp T.b_is_whole .nil pass0 (pa_cons (pv 3) pa_nil)))) (pw_or1 (pt_not (pt_chain op_le op_lt pe_int (pv 3) (pe_op op_sub (pv 0) pe_int)))))) (pss_one (L2N.ps_raise rfl tk (L2N.pmk_own PySem.F.excBase_ValueError T.x_BadRow.ex T.g_BadRow T.x_BadRow.kp (raises_own T.x_BadRow.b T.x_BadRow.t) (by rfl)))) pss_nil)
      Hx.pss_nev)), ?_⟩
    rcases h with ⟨C, h, q⟩ | ⟨p, ⟨g, z, rfl, rfl, rfl, R, hB, hm⟩, hc, q⟩
    · exact .inl ⟨_, rfl, _, rfl, _, rfl, v, u, b, 2000, C, rfl, h, q⟩
    · refine .inr ⟨_, rfl, _, rfl, _, rfl, p, g, 2000, z, rfl, R, hB, hm, ?_⟩
      rcases hc with ⟨_, n, ty, hn⟩ | ⟨i, rfl, hi⟩
      · exact ⟨_, rfl, _, rfl, .inr ⟨n, ty, hn, _, rfl, iteT q⟩⟩
      · refine ⟨_, rfl, _, rfl, .inl ⟨_, rfl, _, rfl, iteF ?_⟩⟩
        refine ⟨_, rfl, _, _, rfl, rfl, _, rfl, ite2 (fun e => ?_) (fun e => ?_)⟩
        · have i1 : 0 ≤ i := dT e
          refine ⟨_, rfl, _, _, rfl, rfl, _, _, rfl, rfl, _, rfl, ?_⟩
          rw [decide_eq_false (show ¬ i < (p : Int) - 1 by omega)]
          exact iteT q
        · exact ⟨_, rfl, iteT q⟩
/-- no arrow -/
def BadA (K : PySem.W.Frag) (H : Hp) (p : Nat) (v u : V) : Prop := (NW K H v ∨ ∃ i : Int, v = .int i ∧ (i < 1 ∨ (p : Int) - 2 < i)) ∨ ((∃ i : Int, v = .int i ∧ 1 ≤ i ∧ i ≤ (p : Int) - 2) ∧ BadN K H p u)
theorem BadA.ext {H H' : Hp} {m : Nat} {v u : V} (e : LamX.ExtN H H') (h : BadA K H m v u) : BadA K H' m v u := h.imp (fun z => z.imp (fun y => y.ext e) id) fun z => ⟨z.1, z.2.ext e⟩
def spArrowX (K : PySem.W.Frag) (fa : Nat → Addr) : Sp := fun vs H _ E => ∃ v u b c d : V, vs = [v, u, b, c, d] ∧ ((∃ C, BadPlan K fa H 2000 v u b C ∧ E (.ref C) none H) ∨ ∃ p, IsPlan 2000 v u b p ∧ BadA K H p c d ∧ E (.ref (fa 33)) none H)
theorem xok_arrow_of (T : Txt K mg fa fd tk) : FnOk P w K mg base (L2N.CX P w) 5 (fa 12) (fd 12) ["prime", "root", "begin", "across", "up"] (spArrowX K fa) := by
  refine Hx.okN T.F_arrow_of sc_arrow_of (fun vs H Q E h => ?_) (fun cdv A outer s H vs Q E hr h => ?_)
  · obtain ⟨v, u, b, c, d, rfl, _⟩ := h
    rfl
  · obtain ⟨v, u, b, c, d, rfl, h⟩ := h
    have tk := L2N.takes_of (X := cxOf (L2N.CX P w) P w K mg base ["prime", "root", "begin", "across", "up", "apart"] "arrow_of" (defScope s_arrow_of) (fa 12) cdv A outer s H E) rfl rfl rfl rfl
    refine ⟨_, (pss_cons (ps_expr (pe_alt (pe_callS (xok_asked_plan T) (hr.mono (by decide)) (by rfl) T.g_asked_plan T.F_asked_plan.kp T.b_asked_plan (L2N.passAt tk) (pa_cons (pv 0) (pa_cons (pv 1) (pa_cons (pv 2) (pa_cons (pe_glob (v := .int 2000) rfl T.g_MOST ⟨_, rfl⟩) pa_nil))))) (pe_call (ok_asked_plan T) (hr.mono (by decide)) (by rfl) T.g_asked_plan T.F_asked_plan.kp T.b_asked_plan .nil pass0 (pa_cons (pv 0) (pa_cons (pv 1) (pa_cons (pv 2) (pa_cons (pe_glob (v := .int 2000) rfl T.g_MOST ⟨_, rfl⟩) pa_nil)))))))
      (pss_cons (ps_if (PW.pt (pw_or (pt_not (pt_val (pe_call (ok_is_whole T) (hr.mono (by decide)) (by rfl) T.g_is_whole T.F_is_whole.kp T.b_is_whole .nil pass0 (pa_cons (pv 3) pa_nil)))) (pw_or (pt_not (pt_chain op_le op_le pe_int (pv 3) (pe_op op_sub (pv 0) pe_int))) (pw_or (pt_not (pt_val (pe_call (ok_is_whole T) (hr.mono (by decide)) (by rfl) T.g_is_whole T.F_is_whole.kp T.b_is_whole .nil pass0 (pa_cons (pv 4) pa_nil)))) (pw_or1 (pt_not (pt_chain op_le op_lt pe_int (pv 4) (pv 0)))))))) (pss_one (L2N.ps_raise rfl tk (L2N.pmk_own PySem.F.excBase_ValueError T.x_BadArrow.ex T.g_BadArrow T.x_BadArrow.kp (raises_own T.x_BadArrow.b T.x_BadArrow.t) (by rfl)))) pss_nil)
      Hx.pss_nev)), ?_⟩
    rcases h with ⟨C, h, q⟩ | ⟨p, ⟨g, z, rfl, rfl, rfl, R, hB, hm⟩, hc, q⟩
    · exact .inl ⟨_, rfl, _, rfl, _, rfl, v, u, b, 2000, C, rfl, h, q⟩
    · refine .inr ⟨_, rfl, _, rfl, _, rfl, p, g, 2000, z, rfl, R, hB, hm, ?_⟩
      rcases hc with (⟨_, n, ty, hn⟩ | ⟨i, rfl, hi⟩) | ⟨⟨i, rfl, i1, i2⟩, hd⟩
      · exact ⟨_, rfl, _, rfl, .inr ⟨n, ty, hn, _, rfl, iteT q⟩⟩
      · refine ⟨_, rfl, _, rfl, .inl ⟨_, rfl, _, rfl, iteF ?_⟩⟩
        refine ⟨_, rfl, _, _, rfl, rfl, _, rfl, ite2 (fun e => ?_) (fun e => ?_)⟩
        · have i1 : 1 ≤ i := dT e
          refine ⟨_, rfl, _, _, rfl, rfl, _, _, rfl, rfl, _, rfl, ?_⟩
          rw [decide_eq_false (show ¬ i ≤ (p : Int) - 2 by omega)]
          exact iteT q
        · exact ⟨_, rfl, iteT q⟩
      · refine ⟨_, rfl, _, rfl, .inl ⟨_, rfl, _, rfl, iteF ?_⟩⟩
        refine ⟨_, rfl, _, _, rfl, rfl, _, rfl, ?_⟩
        rw [decide_eq_true i1]
        refine iteT ⟨_, rfl, _, _, rfl, rfl, _, _, rfl, rfl, _, rfl, ?_⟩
        rw [decide_eq_true i2]
        refine iteF ?_
        rcases hd with ⟨_, n, ty, hn⟩ | ⟨i, rfl, hi⟩
        · exact ⟨_, rfl, _, rfl, .inr ⟨n, ty, hn, _, rfl, iteT q⟩⟩
        · refine ⟨_, rfl, _, rfl, .inl ⟨_, rfl, _, rfl, iteF ?_⟩⟩
          refine ⟨_, rfl, _, _, rfl, rfl, _, rfl, ite2 (fun e => ?_) (fun e => ?_)⟩
          · have i1 : 1 ≤ i := dT e
            refine ⟨_, rfl, _, _, rfl, rfl, _, rfl, ?_⟩
            rw [decide_eq_false (show ¬ i < (p : Int) by omega)]
            exact iteT q
          · exact ⟨_, rfl, iteT q⟩
def spDotsOfX (K : PySem.W.Frag) (fa : Nat → Addr) : Sp := fun vs H _ E => ∃ v u b : V, vs = [v, u, b] ∧ ∃ C, BadPlan K fa H 61 v u b C ∧ E (.ref C) none H
theorem xok_dots_of (T : Txt K mg fa fd tk) : FnOk P w K mg base (L2N.CX P w) 5 (fa 13) (fd 13) ["prime", "root", "begin"] (spDotsOfX K fa) := by
  refine Hx.okN T.F_dots_of sc_dots_of (fun vs H Q E h => ?_) (fun cdv A outer s H vs Q E hr h => ?_)
  · obtain ⟨v, u, b, rfl, _⟩ := h
    rfl
  · obtain ⟨v, u, b, rfl, C, h, q⟩ := h
    have tk := L2N.takes_of (X := cxOf (L2N.CX P w) P w K mg base ["prime", "root", "begin", "column"] "dots_of" (defScope s_dots_of) (fa 13) cdv A outer s H E) rfl rfl rfl rfl
    exact ⟨_, (pss_cons (ps_expr (pe_alt (pe_callS (xok_asked_plan T) (hr.mono (by decide)) (by rfl) T.g_asked_plan T.F_asked_plan.kp T.b_asked_plan (L2N.passAt tk) (pa_cons (pv 0) (pa_cons (pv 1) (pa_cons (pv 2) (pa_cons (pe_glob (v := .int 61) rfl T.g_SMALL ⟨_, rfl⟩) pa_nil))))) (pe_call (ok_asked_plan T) (hr.mono (by decide)) (by rfl) T.g_asked_plan T.F_asked_plan.kp T.b_asked_plan .nil pass0 (pa_cons (pv 0) (pa_cons (pv 1) (pa_cons (pv 2) (pa_cons (pe_glob (v := .int 61) rfl T.g_SMALL ⟨_, rfl⟩) pa_nil)))))))
      Hx.pss_nev), .inl ⟨_, rfl, _, rfl, _, rfl, v, u, b, 61, C, rfl, h, q⟩⟩
def spCrossedX (K : PySem.W.Frag) (fa : Nat → Addr) : Sp := fun vs H _ E => ∃ v u b : V, vs = [v, u, b] ∧ ((BadP K H 61 v ∧ E (.ref (fa 28)) none H) ∨ ∃ p : Nat, v = .int p ∧ Good p ∧ p ≤ 61 ∧ ((BadR K H p u ∧ E (.ref (fa 29)) none H) ∨
  ∃ g : Nat, u = .int g ∧ Root p g ∧ rootB p g = true ∧ BadR K H p b ∧ E (.ref (fa 29)) none H))
theorem xok_crossed (T : Txt K mg fa fd tk) : FnOk P w K mg base (L2N.CX P w) 4 (fa 14) (fd 14) ["prime", "root", "other"] (spCrossedX K fa) := by
  refine Hx.okN T.F_crossed sc_crossed (fun vs H Q E h => ?_) (fun cdv A outer s H vs Q E hr h => ?_)
  · obtain ⟨v, u, b, rfl, _⟩ := h
    rfl
  · obtain ⟨v, u, b, rfl, h⟩ := h
    have tk := L2N.takes_of (X := cxOf (L2N.CX P w) P w K mg base ["prime", "root", "other", "found", "column"] "crossed" (defScope s_crossed) (fa 14) cdv A outer s H E) rfl rfl rfl rfl
    refine ⟨_, (pss_cons (ps_expr (pe_alt (pe_callS (xok_asked_prime T) (hr.mono (by decide)) (by rfl) T.g_asked_prime T.F_asked_prime.kp T.b_asked_prime (L2N.passAt tk) (pa_cons (pv 0) (pa_cons (pe_glob (v := .int 61) rfl T.g_SMALL ⟨_, rfl⟩) pa_nil))) (pe_call (ok_asked_prime T) (hr.mono (by decide)) (by rfl) T.g_asked_prime T.F_asked_prime.kp T.b_asked_prime .nil pass0 (pa_cons (pv 0) (pa_cons (pe_glob (v := .int 61) rfl T.g_SMALL ⟨_, rfl⟩) pa_nil)))))
      (pss_cons (ps_expr (pe_alt (pe_callS (xok_asked_root T) (hr.mono (by decide)) (by rfl) T.g_asked_root T.F_asked_root.kp T.b_asked_root (L2N.passAt tk) (pa_cons (pv 0) (pa_cons (pv 1) pa_nil))) (pe_call (ok_asked_root T) (hr.mono (by decide)) (by rfl) T.g_asked_root T.F_asked_root.kp T.b_asked_root .nil pass0 (pa_cons (pv 0) (pa_cons (pv 1) pa_nil)))))
      (pss_cons (ps_expr (pe_alt (pe_callS (xok_asked_root T) (hr.mono (by decide)) (by rfl) T.g_asked_root T.F_asked_root.kp T.b_asked_root (L2N.passAt tk) (pa_cons (pv 0) (pa_cons (pv 2) pa_nil))) (pe_call (ok_asked_root T) (hr.mono (by decide)) (by rfl) T.g_asked_root T.F_asked_root.kp T.b_asked_root .nil pass0 (pa_cons (pv 0) (pa_cons (pv 2) pa_nil)))))
      Hx.pss_nev))), ?_⟩
    rcases h with ⟨h, q⟩ | ⟨p, rfl, G, hm, ⟨h, q⟩ | ⟨g, rfl, R, hB, h, q⟩⟩
    · exact .inl ⟨_, rfl, v, 61, rfl, h, q⟩
    · exact .inr ⟨_, rfl, p, 61, rfl, G, hm, .inl ⟨_, rfl, _, rfl, u, p, rfl, G, h, q⟩⟩
    · exact .inr ⟨_, rfl, p, 61, rfl, G, hm, .inr ⟨_, rfl, _, rfl, p, g, rfl, R, hB, .inl ⟨_, rfl, _, rfl, b, p, rfl, G, h, q⟩⟩⟩
end
end Lw
namespace Lw
open PySem PySem.Spec PyProof.Rows L2 AD
section
variable {P : Program} {w : World} {K : PySem.W.Frag} {mg : Str → Option Value} {base : Heap}
variable {fa : Nat → Addr} {fd : Nat → FuncData} {tk : Nat → Tok}
/-! ### first_same -/
theorem getD_at {ns : List Int} {c : Nat} (h : c < ns.length) : ns[c]? = some (ns.getD c 0) := by
  rw [List.getD_eq_getElem?_getD, List.getElem?_eq_getElem h]
  rfl
theorem atD {ns : List Int} {c : Nat} (h : c < ns.length) : atI (ns.map V.int) (c : Int) = some (.int (ns.getD c 0)) := by
  refine atI_nat ?_
  rw [List.getElem?_map, getD_at h]
  rfl
theorem putK_len (kvs : List (Key × V)) (k : Key) (v : V) : (putK kvs k v).length ≤ kvs.length + 1 := by
  unfold putK
  split
  · rw [List.length_map]; omega
  · rw [List.length_append]; exact Nat.le_refl _
def spFirst (K : PySem.W.Frag) : Sp := fun vs H Q _ => ∃ (a : Addr) (ns : List Int), vs = [.ref a] ∧ SqL K H a (ns.map V.int) ∧ ns.length ≤ 1000 ∧ (∀ H', Apt ns → Same H H' → Q .non H') ∧
  ∀ (i j d : Nat) (H' : Hp) (t : Addr), 1 ≤ d → i < j → j + d < ns.length → up ns i d = up ns j d → Same H H' → H' t = some (.tup [.int i, .int j, .int d]) → Q (.ref t) H'
theorem ok_first_same (T : Txt K mg fa fd tk) : FnOk P w K mg base CX0 1 (fa 15) (fd 15) ["dots"] (spFirst K) := by
  refine T.F_first_same.ok sc_first_same (fun vs H Q E h => ?_) (fun cdv A outer s H vs Q E hr h => ?_)
  · obtain ⟨a, ns, rfl, _⟩ := h
    rfl
  · obtain ⟨a, ns, rfl, hS, hn, q0, q1⟩ := h
    have hu1 := hu_of hr
    refine ⟨_, (pss_cons (ps_for PassesOwn.never rfl (pi_range2 (by rfl) T.m_range (pa_cons pe_int (pa_cons (pe_callB call_len_seq (by rfl) T.m_len (by decide +kernel) (pa_cons (pv 0) pa_nil)) pa_nil))) (pg_name (i := 1) sc_first_same.nd rfl (.inl rfl)) (pss_cons (ps_set (i := 2) sc_first_same.nd rfl (.inl rfl) pe_dnewK)
      (pss_one (ps_for PassesOwn.never rfl (pi_range1 (by rfl) T.m_range (pa_cons (pe_op op_sub (pe_callB call_len_seq (by rfl) T.m_len (by decide +kernel) (pa_cons (pv 0) pa_nil)) (pv 1)) pa_nil)) (pg_name (i := 3) sc_first_same.nd rfl (.inl rfl)) (pss_cons (ps_set (i := 4) sc_first_same.nd rfl (.inl rfl) (pe_op op_sub (pe_ix ix_list (pv 0) (pe_op op_add (pv 3) (pv 1)) (fun _ _ => rfl)) (pe_ix ix_list (pv 0) (pv 3) (fun _ _ => rfl))))
      (pss_cons (ps_if (pt_cmp (pc_din hu1 (pv 4) (pv 2))) (pss_one (ps_ret (pe_tup (pa_cons (pe_dget hu1 (pv 2) (pv 4) (fun _ _ => rfl)) (pa_cons (pv 3) (pa_cons (pv 1) pa_nil)))))) pss_nil)
      (pss_one (ps_dput hu1 (pv 2) (pv 4) (pv 3) rfl))))))))
      (pss_one (ps_ret pe_non))), ?_⟩
    have hlen : ((ns.map V.int).length : Int) = (ns.length : Int) := by rw [List.length_map]
    refine ⟨_, rfl, a, _, rfl, .inl hS, 1, _, rfl, ⟨by decide, by decide, by omega, by omega⟩, ?_⟩
    refine for_it (walk_range (lo := 1) (n := (((ns.map V.int).length : Int) - 1).toNat)) (fun i σ H' => Same H H' ∧ (∀ d i' j, 1 ≤ d → d < i + 1 → i' < j → j + d < ns.length → up ns i' d ≠ up ns j d) ∧ ∃ y1 y2 y3 y4, σ = [some (.ref a), y1, y2, y3, y4]) ⟨Same.refl H, fun d i' j d1 d2 => by omega, none, none, none, none, rfl⟩ (fun _ _ _ _ _ => True.intro) (fun i x σ H2 H3 hi hP hY => ?_) (fun σ H2 hP => ?_)
    · obtain ⟨sm, hap, y1, y2, y3, y4, rfl⟩ := hP
      obtain ⟨rfl, rfl⟩ := hY
      have hi2 : i + 1 < ns.length := by omega
      refine fun sd nsd => ?_
      have hS3 := (sm.trans (same_upd (o := .dK []) nsd)).seq hS
      refine ⟨_, rfl, a, _, rfl, .inl hS3, _, rfl, _, _, rfl, rfl, _, rfl, by omega, by omega, ?_⟩
      refine for_it (walk_range (lo := 0) (n := (((ns.map V.int).length : Int) - (1 + (i : Int))).toNat)) (fun c σ H' => Same H H' ∧ (∃ kvs, H' sd = some (.dK kvs) ∧ kvs.length ≤ c ∧ (∀ u v, valV kvs (Sum.inl u) = some v → ∃ k : Nat, k < c ∧ v = .int k ∧ up ns k (i + 1) = u) ∧ (∀ k, k < c → (valV kvs (Sum.inl (up ns k (i + 1)))).isSome = true)) ∧ (∀ k j, k < j → j < c → up ns k (i + 1) ≠ up ns j (i + 1)) ∧ ∃ y3 y4, σ = [some (.ref a), some (.int (1 + (i : Int))), some (.ref sd), y3, y4])
        ⟨sm.trans (same_upd nsd), ⟨[], upd_same, Nat.le_refl _, fun u v e => (nomatch e), fun k hk => absurd hk (Nat.not_lt_zero k)⟩, fun k j _ hj => absurd hj (Nat.not_lt_zero j), y3, y4, rfl⟩ (fun _ _ _ _ _ => True.intro) (fun c x σ H4 H5 hc hP hY => ?_) (fun σ H4 hP => ?_)
      · obtain ⟨s4, ⟨kvs, hsd, hkl, hk1, hk2⟩, hdis, w3, w4, rfl⟩ := hP
        obtain ⟨rfl, rfl⟩ := hY
        have hS4 := s4.seq hS
        have hc2 : c + (i + 1) < ns.length := by omega
        have a1 : atI (ns.map V.int) (0 + (c : Int) + (1 + (i : Int))) = some (.int (ns.getD (c + (i + 1)) 0)) := by
          rw [show (0 : Int) + (c : Int) + (1 + (i : Int)) = ((c + (i + 1) : Nat) : Int) by omega]
          exact atD hc2
        have a2 : atI (ns.map V.int) (0 + (c : Int)) = some (.int (ns.getD c 0)) := by
          rw [Int.zero_add]
          exact atD (by omega)
        refine ⟨_, rfl, _, rfl, _, rfl, _, _, rfl, rfl, a, _, _, _, rfl, rfl, hS4, a1, _, rfl, _, rfl, a, _, _, _, rfl, rfl, hS4, a2, _, _, rfl, rfl, ?_⟩
        have hg : DGet H5 sd (.int (up ns c (i + 1))) (valV kvs (Sum.inl (up ns c (i + 1)))) := DGet.k (k := Sum.inl (up ns c (i + 1))) hsd
        refine ⟨_, rfl, _, rfl, sd, _, rfl, hg, _, rfl, ?_⟩
        cases ev : valV kvs (Sum.inl (up ns c (i + 1))) with
        | some v =>
          rw [ev] at hg
          obtain ⟨k, hk, rfl, hup⟩ := hk1 _ _ ev
          refine iteT ⟨_, rfl, _, rfl, sd, _, rfl, hg, _, rfl, _, rfl, by show 3 ≤ sizeLine; decide, fun t nt => ?_⟩
          refine q1 k c (i + 1) _ t (by omega) hk hc2 hup (s4.trans (same_upd nt)) ?_
          rw [upd_same, show ((i + 1 : Nat) : Int) = 1 + (i : Int) by omega]
          show some (HO.tup [V.int (k : Int), V.int (0 + (c : Int)), V.int (1 + (i : Int))]) = _
          rw [Int.zero_add]
        | none =>
          have hnew : ∀ k, k < c → up ns k (i + 1) ≠ up ns c (i + 1) := fun k hk e => by
            have h := hk2 k hk
            rw [e, ev] at h
            cases h
          refine iteF ⟨_, rfl, _, rfl, _, rfl, sd, _, rfl, DPut.k (k := Sum.inl (up ns c (i + 1))) hsd (small1000 (by omega)), ?_⟩
          refine ⟨fun x o h => ?_, ⟨_, upd_same, ?_, fun u v e => ?_, fun k hk => ?_⟩, fun k j hkj hj => ?_, _, _, rfl⟩
          · by_cases z : x = sd
            · subst z
              exact absurd ((sm x o h).symm.trans nsd) (by simp)
            · rw [upd_ne z]
              exact s4 x o h
          · exact Nat.le_trans (putK_len _ _ _) (by omega)
          · rw [valV_put] at e
            by_cases z : (Sum.inl u : Key) = Sum.inl (up ns c (i + 1))
            · rw [if_pos z] at e
              refine ⟨c, by omega, ?_, (Sum.inl.inj z).symm⟩
              have e2 : V.int (0 + (c : Int)) = v := Option.some.inj e
              rw [← e2, Int.zero_add]
            · rw [if_neg z] at e
              obtain ⟨k, hk, r⟩ := hk1 u v e
              exact ⟨k, by omega, r⟩
          · rw [valV_put]
            by_cases z : k = c
            · rw [z, if_pos rfl]
              rfl
            · split
              · rfl
              · exact hk2 k (by omega)
          · by_cases z : j = c
            · rw [z]
              exact hnew k (by omega)
            · exact hdis k j hkj (by omega)
      · obtain ⟨s4, hkv, hdis, w3, w4, rfl⟩ := hP
        refine ⟨s4, fun d k j d1 d2 hkj hjd => ?_, _, _, _, _, rfl⟩
        by_cases z : d = i + 1
        · subst z
          exact hdis k j hkj (by omega)
        · exact hap d k j d1 (by omega) hkj hjd
    · obtain ⟨sm, hap, y1, y2, y3, y4, rfl⟩ := hP
      exact q0 H2 (fun d i j d1 hij hjd => hap d i j d1 (by omega) hij hjd) sm
/-! ### answers -/
/-- a Same with these fields -/
def IsSame (H : Hp) (C x : Addr) (i j d : Int) : Prop := ∃ dx, H x = some (.ins C dx [("first", .int i), ("second", .int j), ("across", .int d)])
def spSameInit (C : Addr) : Sp := fun vs H Q _ => ∃ (x dx : Addr) (i j d : Int), vs = [.ref x, .int i, .int j, .int d] ∧ H x = some (.ins C dx []) ∧ Q .non (upd H x (.ins C dx [("first", .int i), ("second", .int j), ("across", .int d)]))
theorem ok_Same_init (T : Txt K mg fa fd tk) : FnOk P w K mg base CX0 1 (fa 16) (fd 16) ["self", "first", "second", "across"] (spSameInit (fa 39)) := by
  refine T.F_Same_init.ok sc_Same_init (fun vs H Q E h => ?_) (fun cdv A outer s H vs Q E hr h => ?_)
  · obtain ⟨x, dx, i, j, d, rfl, _⟩ := h
    rfl
  · obtain ⟨x, dx, i, j, d, rfl, hx, q⟩ := h
    refine ⟨_, (pss_cons (ps_fld (pv 0) (pv 1) rfl)
      (pss_cons (ps_fld (pv 0) (pv 2) rfl)
      (pss_one (ps_fld (pv 0) (pv 3) rfl)))), ?_⟩
    refine ⟨_, rfl, _, rfl, x, _, dx, _, rfl, hx, T.in_Same.cl, T.na_Same_first, by show 0 < 1000; decide, ?_⟩
    refine ⟨_, rfl, _, rfl, x, _, dx, _, rfl, upd_same, T.in_Same.cl, T.na_Same_second, by show 1 < 1000; decide, ?_⟩
    rw [upd_upd]
    refine ⟨_, rfl, _, rfl, x, _, dx, _, rfl, upd_same, T.in_Same.cl, T.na_Same_across, by show 2 < 1000; decide, ?_⟩
    rw [upd_upd]
    exact q
end
end Lw
namespace Lw
open PySem PySem.Spec PyProof.Rows L2 AD
section
variable {P : Program} {w : World} {K : PySem.W.Frag} {mg : Str → Option Value} {base : Heap}
variable {fa : Nat → Addr} {fd : Nat → FuncData} {tk : Nat → Tok}
/-! ### asked_dots, judged -/
theorem nats_len (l : List Nat) : (nats l).length = l.length := by unfold nats; rw [List.length_map]
def zof (l : List Nat) : List Int := l.map fun n : Nat => (n : Int)
theorem zof_len (l : List Nat) : (zof l).length = l.length := by unfold zof; rw [List.length_map]
/-- rows of a board, each once -/
structure Dots (os : List Nat) : Prop where
  pm : os.Perm (List.range os.length)
  lo : 1 ≤ os.length
  hi : os.length ≤ 60
def spAskedDots : Sp := fun vs H Q _ => ∃ (a : Addr) (os : List Nat), vs = [.ref a] ∧ H a = some (.lst (nats os)) ∧ Dots os ∧ ∀ H', Same H H' → Q .non H'
theorem ok_asked_dots (T : Txt K mg fa fd tk) : FnOk P w K mg base CX0 2 (fa 17) (fd 17) ["dots"] spAskedDots := by
  refine T.F_asked_dots.ok sc_asked_dots (fun vs H Q E h => ?_) (fun cdv A outer s H vs Q E hr h => ?_)
  · obtain ⟨a, os, rfl, _⟩ := h
    rfl
  · obtain ⟨a, os, rfl, ha, D, q⟩ := h
    have hu := hr.units
    have d1 := D.lo
    have d2 := D.hi
    refine ⟨_, (pss_cons (ps_if (PW.pt (pw_or (pt_not (pt_val (pe_callB call_isi (by rfl) T.m_isinstance (by decide +kernel) (pa_cons (pv 0) (pa_cons (pe_bltn (v := .ty "list") (u := .type "list") (by rfl) T.m_list (by decide +kernel) rfl) pa_nil))))) (pw_or (pt_not (pt_chain op_le op_le pe_int (pe_callB call_len_seq (by rfl) T.m_len (by decide +kernel) (pa_cons (pv 0) pa_nil)) (pe_glob (v := .int 60) rfl T.g_LONGEST ⟨_, rfl⟩))) (pw_or1 (pt_not (pt_val (pe_callB (cr_all rfl) (by rfl) T.m_all (by decide +kernel) (pa_cons (pe_lc (own := [("row", 1)]) (g := gName 1) (tt := tYes) (by rfl) sc_asked_dots.nd (pi_list (pv 0)) (blkOk_by (own := [("row", 1)]) (N := ["dots", "row"]) (sc := (defScope s_asked_dots)) (by decide +kernel)) (fun _ _ _ _ _ => (pg_name (i := 1) sc_asked_dots.nd rfl (Or.inl rfl))) (fun _ _ _ _ _ => pts_nil) (fun _ _ _ _ _ => (pe_call (ok_is_whole T) (hr.mono (by decide)) (by rfl) T.g_is_whole T.F_is_whole.kp T.b_is_whole .nil pass0 (pa_cons (pv 1) pa_nil)))) pa_nil)))))))) (pss_one ps_never) pss_nil)
      (pss_one (ps_if (pt_cmpR (op_neL hu) (pe_callB cr_sorted (by rfl) T.m_sorted (by decide +kernel) (pa_cons (pv 0) pa_nil)) (pe_listRg rfl (by rfl) T.m_list (prg_1 (by rfl) T.m_range (pe_callB call_len_seq (by rfl) T.m_len (by decide +kernel) (pa_cons (pv 0) pa_nil)))) (nomark _)) (pss_one ps_never) pss_nil))), ?_⟩
    refine ⟨_, rfl, _, _, _, _, true, rfl, .ty _, .base (.lst ha), kit_ty (by decide +kernel), true, rfl, iteF ?_⟩
    refine ⟨_, rfl, a, _, rfl, .inl (.of ha), _, _, rfl, rfl, _, rfl, ?_⟩
    rw [nats_len, decide_eq_true (show (1 : Int) ≤ (os.length : Int) by omega)]
    refine iteT ⟨_, _, rfl, rfl, _, rfl, ?_⟩
    rw [decide_eq_true (show (os.length : Int) ≤ 60 by omega)]
    refine iteF ?_
    refine ⟨_, rfl, a, rfl, ⟨_, .of ha⟩, fun D1 nD => ?_⟩
    have neD : a ≠ D1 := ne_of_none ha nD
    refine lc_it (walk_list (xs := nats os)) (fun i H' => Same H H' ∧ H' D1 = some (.lst ((List.replicate i true).map V.bl))) ⟨same_upd nD, upd_same⟩ (fun i H' _ hP => .of (hP.1 _ _ ha)) (fun i x H4 H5 hi hP hY => ?_) (fun H4 hP => ?_)
    · obtain ⟨sm, hD⟩ := hP
      obtain ⟨rfl, hx⟩ := hY
      obtain ⟨n, hn, rfl⟩ := nats_at hx
      rw [nats_len] at hi
      refine ⟨rfl, ?_⟩
      refine ⟨_, rfl, _, rfl, .inl ⟨_, rfl, _, hD, ?_, fun x o h => ?_, ?_⟩⟩
      · rw [List.length_map, List.length_replicate]
        exact small1000 (by omega)
      · rw [upd_ne (ne_of_none h nD)]
        exact sm x o h
      · rw [upd_same, List.replicate_succ', List.map_append]
        rfl
    · obtain ⟨sm, hD⟩ := hP
      refine ⟨D1, _, rfl, .of hD, _, rfl, ?_⟩
      rw [show (List.replicate (nats os).length true).all id = true by simp]
      refine iteF ?_
      have ha4 := sm _ _ ha
      refine ⟨_, rfl, a, zof os, rfl, .of (by rw [ha4, nats_ints]; rfl), by rw [zof_len]; omega, fun ns' p pm so np => ?_⟩
      have s1 := same_upd (o := .lst (ns'.map V.int)) np
      have e1 : ns' = zof (List.range os.length) := sorted_range pm D.pm so
      refine ⟨_, rfl, a, _, rfl, .inl (.of (s1 _ _ ha4)), _, rfl, RgOk.of_le (by omega) (by rw [nats_len]; omega) (by omega) (by omega), fun p2 np2 => ?_⟩
      refine ⟨p, p2, ns', zof (List.range os.length), rfl, rfl, .of (same_upd np2 _ _ upd_same), .of ?_, _, rfl, ?_⟩
      · rw [upd_same, nats_len, rgV_nats, nats_ints]
        rfl
      rw [decide_eq_true e1]
      exact iteF (q _ ((sm.trans s1).trans (same_upd np2)))
def spJudged (CA CS : Addr) : Sp := fun vs H Q _ => ∃ (a : Addr) (os : List Nat), vs = [.ref a] ∧ H a = some (.lst (nats os)) ∧ Dots os ∧
  (∀ (H' : Hp) (x dx : Addr), Apt (zof os) → Same H H' → H' x = some (.ins CA dx []) → Q (.ref x) H') ∧
  ∀ (i j d : Nat) (H' : Hp) (x : Addr), 1 ≤ d → i < j → j + d < os.length → up (zof os) i d = up (zof os) j d → Same H H' → IsSame H' CS x i j d → Q (.ref x) H'
theorem same_made {H : Hp} {x dx : Addr} {o : HO} (nx : H x = none) (nd : H dx = none) : Same H (upd (upd H dx (.own x)) x o) := fun b u e => by
  rw [upd_ne (ne_of_none e nx), upd_ne (ne_of_none e nd)]
  exact e
theorem ok_judged (T : Txt K mg fa fd tk) : FnOk P w K mg base CX0 3 (fa 18) (fd 18) ["dots"] (spJudged (fa 38) (fa 39)) := by
  refine T.F_judged.ok sc_judged (fun vs H Q E h => ?_) (fun cdv A outer s H vs Q E hr h => ?_)
  · obtain ⟨a, os, rfl, _⟩ := h
    rfl
  · obtain ⟨a, os, rfl, ha, D, q0, q1⟩ := h
    have d2 := D.hi
    refine ⟨_, (pss_cons (ps_expr (pe_call (ok_asked_dots T) (hr.mono (by decide)) (by rfl) T.g_asked_dots T.F_asked_dots.kp T.b_asked_dots .nil pass0 (pa_cons (pv 0) pa_nil)))
      (pss_cons (ps_set (i := 1) sc_judged.nd rfl (.inl rfl) (pe_call (ok_first_same T) (hr.mono (by decide)) (by rfl) T.g_first_same T.F_first_same.kp T.b_first_same .nil pass0 (pa_cons (pv 0) pa_nil)))
      (pss_one (ps_ret (pe_ifExp (pt_cmpR op_isN (pv 1) pe_non (nomark _)) (pe_makeP T.mk_Apart (by rfl) T.g_Apart) (pe_make T.mk_Same (ok_Same_init T) (hr.mono (by decide)) (by rfl) T.g_Same T.b_Same_init .nil pass0 (pa_cons (pe_ix ix_tup (pv 1) pe_int (fun _ _ => rfl)) (pa_cons (pe_ix ix_tup (pv 1) pe_int (fun _ _ => rfl)) (pa_cons (pe_ix ix_tup (pv 1) pe_int (fun _ _ => rfl)) pa_nil))))))))), ?_⟩
    refine ⟨_, rfl, a, os, rfl, ha, D, fun H1 s1 => ?_⟩
    have ha1 := s1 _ _ ha
    refine ⟨_, rfl, a, zof os, rfl, .of (by rw [ha1, nats_ints]; rfl), by rw [zof_len]; omega, fun H2 ap s2 => ?_, fun i j d H2 t h1 h2 h3 e s2 ht => ?_⟩
    · refine ⟨_, rfl, rfl, _, rfl, ?_⟩
      refine iteT fun x dx nx nd ne => ?_
      exact q0 _ x dx ap ((s1.trans s2).trans (same_made nx nd)) upd_same
    · rw [zof_len] at h3
      refine ⟨_, rfl, rfl, _, rfl, ?_⟩
      refine iteF ?_
      have hq : SqT K H2 t [.int i, .int j, .int d] := .of ht
      refine ⟨_, rfl, t, _, _, _, rfl, rfl, hq, atI_nat (j := 0) rfl, _, rfl, t, _, _, _, rfl, rfl, hq, atI_nat (j := 1) rfl, _, rfl, t, _, _, _, rfl, rfl, hq, atI_nat (j := 2) rfl, fun x dx nx nd ne => ⟨x, dx, i, j, d, rfl, upd_same, rfl, ?_⟩⟩
      rw [upd_upd]
      exact q1 i j d _ x h1 h2 h3 e ((s1.trans s2).trans (same_made nx nd)) ⟨dx, upd_same⟩
end
end Lw
namespace Lw
open PySem PySem.Spec PyProof.Rows L2 AD
section
variable {P : Program} {w : World} {K : PySem.W.Frag} {mg : Str → Option Value} {base : Heap}
variable {fa : Nat → Addr} {fd : Nat → FuncData} {tk : Nat → Tok}
/-! ### dots, more -/
theorem deq {b c : Bool} {p : Prop} (h1 : b = true ↔ p) (h2 : c = true ↔ p) : b = c := by
  rw [Bool.eq_iff_iff, h1, h2]
theorem bt_of {b : Bool} {p : Prop} (h : b = true ↔ p) (hp : p) : b = true := h.mpr hp
theorem bf_of {b : Bool} {p : Prop} (h : b = true ↔ p) (hp : ¬ p) : b = false := by
  cases b with
  | false => rfl
  | true => exact absurd (h.mp rfl) hp
theorem Dots.tri {os : List Nat} (D : Dots os) : (arrows (zof os)).length < 2000 := by
  rw [arrows_len, zof_len]
  exact tri60 _ D.hi
theorem Dots.swap {os : List Nat} (D : Dots os) {i j : Nat} (hi : i < os.length) (hj : j < os.length) : Dots ((os.set i os[j]).set j os[i]) := by
  have h := List.set_set_perm (as := os) hi hj
  have hl : ((os.set i os[j]).set j os[i]).length = os.length := by rw [List.length_set, List.length_set]
  exact ⟨by rw [hl]; exact h.trans D.pm, by rw [hl]; exact D.lo, by rw [hl]; exact D.hi⟩
theorem nats_set (l : List Nat) (i n : Nat) : (nats l).set i (V.int (n : Int)) = nats (l.set i n) := by
  unfold nats
  rw [List.map_set]
theorem nats_get {l : List Nat} {i : Nat} (h : i < l.length) : (nats l)[i]? = some (V.int ((l[i] : Nat) : Int)) := by
  unfold nats
  rw [List.getElem?_map, List.getElem?_eq_getElem h]
  rfl
theorem ixN_nat {n i : Nat} (h : i < n) : ixN n (i : Int) = some i := by
  unfold ixN
  rw [if_pos (by omega), if_pos (by omega), Int.toNat_natCast]
theorem ixN_last {n : Nat} (h : 1 ≤ n) : ixN n (-1) = some (n - 1) := by
  unfold ixN
  rw [if_neg (by decide), if_pos (by omega), show (-1 + (n : Int)).toNat = n - 1 by omega]
theorem nats_last {l : List Nat} (h : 1 ≤ l.length) : atI (nats l) (-1) = some (V.int ((l[l.length - 1] : Nat) : Int)) := by
  unfold atI
  rw [nats_len, ixN_last h]
  exact nats_get (by omega)
/-- a list that holds dots -/
def DotsAt (H : Hp) (v : V) : Prop := ∃ (l : Addr) (os : List Nat), v = .ref l ∧ H l = some (.lst (nats os)) ∧ Dots os
theorem DotsAt.same {H H' : Hp} {v : V} (s : Same H H') (h : DotsAt H v) : DotsAt H' v := by
  obtain ⟨l, os, e, hl, r⟩ := h
  exact ⟨l, os, e, s _ _ hl, r⟩
theorem DotsAt.mk {H : Hp} {l : Addr} {os : List Nat} (hl : H l = some (.lst (nats os))) (D : Dots os) : DotsAt H (.ref l) := ⟨l, os, rfl, hl, D⟩
theorem rows_dots {p g : Nat} (R : Root p g) (b : Int) (hp : p ≤ 61) : Dots (rowsN p g b) := by
  have lo := R.good.lo
  have hl : (rowsN p g b).length = p - 1 := by unfold rowsN; rw [List.length_map, List.length_range]
  exact ⟨by rw [hl]; exact R.rows_perm b, by omega, by omega⟩
theorem rows_nats {p g : Nat} (R : Root p g) (b : Int) : (rowsI p g b).map V.int = nats (rowsN p g b) := by
  rw [nats_ints, R.rowsI_eq]
theorem rows_zof {p g : Nat} (R : Root p g) (b : Int) : zof (rowsN p g b) = rowsI p g b := (R.rowsI_eq b).symm
theorem range_dots {n : Nat} (h1 : 1 ≤ n) (h2 : n ≤ 60) : Dots (List.range n) := by
  have hl : (List.range n).length = n := List.length_range
  exact ⟨by rw [hl], by omega, by omega⟩
theorem perm_dots {os : List Nat} {n : Nat} (h : os.Perm (List.range n)) (h1 : 1 ≤ n) (h2 : n ≤ 60) : Dots os := by
  have hl : os.length = n := by rw [h.length_eq, List.length_range]
  exact ⟨by rw [hl]; exact h, by omega, by omega⟩
theorem atI_nats {l : List Nat} {i : Nat} (h : i < l.length) : atI (nats l) (i : Int) = some (V.int ((l[i] : Nat) : Int)) := atI_nat (nats_get h)
theorem cutV_last (xs : List V) (x : V) : cutV (xs ++ [x]) none (some (-1)) = xs := by
  unfold cutV
  rw [HT.sIx_none, List.drop_zero, Nat.sub_zero]
  have e : HT.sIx (xs ++ [x]).length (xs ++ [x]).length (some (-1)) = xs.length := by
    show (if (-1 : Int) < 0 then (-1 + ((xs ++ [x]).length : Int)).toNat else min (-1 : Int).toNat (xs ++ [x]).length) = _
    rw [if_pos (by decide), List.length_append]
    show (-1 + ((xs.length + 1 : Nat) : Int)).toNat = _
    omega
  rw [e, List.take_left]
end
end Lw
namespace Lw
open PySem PySem.Spec PyProof.Rows L2 AD
section
variable {P : Program} {w : World} {K : PySem.W.Frag} {mg : Str → Option Value} {base : Heap}
variable {fa : Nat → Addr} {fd : Nat → FuncData} {tk : Nat → Tok}
/-! ### turned, without_corner -/
section
variable {X : Cx} {o e : Expr} {es : List Expr} {to : TE} {t : TA} {name : Str} {apos cpos : Pos} {T id : String} {r : V → List V → Hp → VK → Prop}
theorem pe_bmK {K : PySem.W.Frag} (hK : X.K = K) (pa : PlainAttrs T) (slot : Slot T name id) (hty : typeOf (.builtin id) = pure (.type "method_descriptor")) (hm : MtR X id r) (ho : PE X o to) (ha : PA X (e :: es) t)
    (hbase : attributeBase o name X.env (eval o X.env) = eval o X.env := by rfl)
    (hfew : ((backTo cpos (starEach (e :: es) X.env)).all (fun x => !x.1) && (backToKw cpos (keywordEach [] X.env)).all (fun x => x.1.isSome)
      && decide ((e :: es).length + ([] : List Keyword).length + (if ([] : List Keyword).isEmpty then 0 else 1) < 30)) = true := by rfl)
    (hline : (apos.endLine == cpos.line) = true := by rfl) (hs : starEach (e :: es) X.env = (false, eval e X.env) :: starEach es X.env := by rfl) (hplain : (backTo cpos (starEach es X.env)).any (·.1) = false := by rfl) :
    PE X (.Call (.Attribute o name apos) (e :: es) [] cpos) (tBM K T r to t) := by
  subst hK
  exact pe_bm pa slot hty hm ho ha hbase hfew hline hs hplain
end
theorem Dots.brd {os : List Nat} (D : Dots os) : Brd os.length os := ⟨rfl, D.pm⟩
theorem brd_dots {n : Nat} {os : List Nat} (B : Brd n os) (h1 : 1 ≤ n) (h2 : n ≤ 60) : Dots os := by
  have hl := B.len
  exact ⟨by rw [hl]; exact B.pm, by omega, by omega⟩
theorem nats_flat (l : List Nat) : (nats l).all flatV = true := by
  unfold nats
  rw [List.all_eq_true]
  intro x hx
  obtain ⟨n, _, rfl⟩ := List.mem_map.mp hx
  rfl
theorem nats_snoc (l : List Nat) (n : Nat) : nats l ++ [V.int (n : Int)] = nats (l ++ [n]) := by
  unfold nats
  rw [List.map_append]
  rfl
theorem nats_rev (l : List Nat) : (nats l).reverse = nats l.reverse := by
  unfold nats
  rw [List.map_reverse]
theorem inv_at {n i : Nat} {l : List Nat} (h : i < n) : (inv n l)[i]? = some (l.idxOf i) := by
  unfold inv
  rw [List.getElem?_map, List.getElem?_range h]
  rfl
def spTurned : Sp := fun vs H Q _ => ∃ (a : Addr) (l : List Nat) (w : Nat), vs = [.ref a, .int w] ∧ H a = some (.lst (nats l)) ∧ Dots l ∧ w < 8 ∧ ∀ (H' : Hp) (b : Addr), Same H H' → H b = none → H' b = some (.lst (nats (t2 l.length w l))) → Q (.ref b) H'
theorem ok_turned (T : Txt K mg fa fd tk) : FnOk P w K mg base CX0 3 (fa 19) (fd 19) ["dots", "way"] spTurned := by
  refine T.F_turned.ok sc_turned (fun vs H Q E h => ?_) (fun cdv A outer s H vs Q E hr h => ?_)
  · obtain ⟨a, l, w, rfl, _⟩ := h
    rfl
  · obtain ⟨a, l, w, rfl, ha, D, hw, q⟩ := h
    have d2 := D.hi
    have B := D.brd
    refine ⟨_, (pss_cons (ps_expr (pe_call (ok_asked_dots T) (hr.mono (by decide)) (by rfl) T.g_asked_dots T.F_asked_dots.kp T.b_asked_dots .nil pass0 (pa_cons (pv 0) pa_nil)))
      (pss_cons (ps_if (PW.pt (pw_or (pt_not (pt_val (pe_call (ok_is_whole T) (hr.mono (by decide)) (by rfl) T.g_is_whole T.F_is_whole.kp T.b_is_whole .nil pass0 (pa_cons (pv 1) pa_nil)))) (pw_or1 (pt_not (pt_chain op_le op_le pe_int (pv 1) pe_int))))) (pss_one ps_never) pss_nil)
      (C8.pss_cut (ps_set (i := 2) sc_turned.nd rfl (.inl rfl) (pe_ifExp (pt_cmpR op_ge (pv 1) pe_int (nomark _)) (pe_lc (own := [("row", 3)]) (g := gName 3) (tt := tYes) (by rfl) sc_turned.nd (pi_range1 (by rfl) T.m_range (pa_cons (pe_callB call_len_seq (by rfl) T.m_len (by decide +kernel) (pa_cons (pv 0) pa_nil)) pa_nil)) (blkOk_by (own := [("row", 3)]) (N := ["dots", "way", "found", "row"]) (sc := (defScope s_turned)) (by decide +kernel)) (fun _ _ _ _ _ => (pg_name (i := 3) sc_turned.nd rfl (Or.inl rfl))) (fun _ _ _ _ _ => pts_nil) (fun _ _ _ _ _ => (pe_bmK (K := K) (r := rIndex K) rfl PySem.F.plainAttrs_list PySem.F.slot_list_index PySem.F.type_list_index mt_index (pv 0) (pa_cons (pv 3) pa_nil)))) (pe_callTy call_list_of (by rfl) T.m_list (by decide +kernel) (pa_cons (pv 0) pa_nil))))
      (C8.pss_cut (ps_if (pt_cmpR op_eq (pe_op op_mod (pv 1) pe_int) pe_int (nomark _)) (pss_one (ps_set (i := 2) sc_turned.nd rfl (.inl rfl) (pe_revL (pv 2)))) pss_nil)
      (C8.pss_cut (ps_if (pt_cmpR op_eq (pe_op op_mod (pe_op op_fdiv (pv 1) pe_int) pe_int) pe_int (nomark _)) (pss_one (ps_setLc (i := 2) (own := [("row", 3)]) (g := gName 3) (tt := tYes) (by rfl) sc_turned.nd rfl rfl (sw_true rfl rfl rfl (by decide +kernel)) (pi_list (pv 2)) (blkOk_by (own := [("row", 3)]) (N := ["dots", "way", "found", "row"]) (sc := (defScope s_turned)) (by decide +kernel)) (fun _ _ _ _ _ => (pg_name (i := 3) sc_turned.nd rfl (Or.inl rfl))) (fun _ _ _ _ _ => pts_nil) (fun _ _ _ _ _ => (pe_op op_sub (pe_op op_sub (pe_callB (id := "len") (r := rLenS0 K) call_len_seq (by rfl) T.m_len (by decide +kernel) (pa_cons (pv 0) pa_nil)) pe_int) (pv 3))))) pss_nil)
      (pss_one (ps_ret (pv 2)))))))), ?_⟩
    refine ⟨_, rfl, a, l, rfl, ha, D, fun H1 s1 => ?_⟩
    have ha1 := s1 _ _ ha
    refine ⟨_, rfl, _, rfl, .inl ⟨_, rfl, _, rfl, iteF ?_⟩⟩
    refine ⟨_, rfl, _, _, rfl, rfl, _, rfl, ?_⟩
    rw [decide_eq_true (show (0 : Int) ≤ (w : Int) by omega)]
    refine iteT ⟨_, _, rfl, rfl, _, rfl, ?_⟩
    rw [decide_eq_true (show (w : Int) ≤ 7 by omega)]
    refine iteF ?_
    -- found
    refine ⟨fun σ' H' => ∃ b, Same H H' ∧ H b = none ∧ H' b = some (.lst (nats (t0 l.length w l))) ∧ σ' = [some (.ref a), some (.int (w : Int)), some (.ref b), none], ?_, fun σ' H2 hM => ?_⟩
    · refine ⟨_, rfl, _, _, rfl, rfl, _, rfl, ite2 (fun e => ?_) (fun e => ?_)⟩
      · have e4 : 4 ≤ w := by have h := dT e; omega
        refine ⟨_, rfl, a, _, rfl, .inl (.of ha1), _, rfl, by omega, by rw [nats_len]; omega, fun D1 nD => ?_⟩
        refine lc_it (walk_range (lo := 0) (n := (((nats l).length : Nat) : Int).toNat)) (fun i H' => Same H1 H' ∧ H' D1 = some (.lst (nats ((inv l.length l).take i)))) ⟨same_upd nD, upd_same⟩ (fun _ _ _ _ => True.intro) (fun i x H4 H5 hi hP hY => ?_) (fun H4 hP => ?_)
        · obtain ⟨sm, hD⟩ := hP
          obtain ⟨rfl, rfl⟩ := hY
          have hi2 : i < l.length := by rw [nats_len] at hi; omega
          have ha4 := sm _ _ ha1
          obtain ⟨c, hc⟩ := B.onto hi2
          have hix := B.idx hc
          refine ⟨rfl, ?_⟩
          refine ⟨_, rfl, .inl ⟨rfl, _, .of ha4⟩, _, rfl, a, nats l, .int (0 + (i : Int)), l.idxOf i, .int (i : Int), rfl, rfl, .of ha4, rfl, nats_flat l, ?_, ?_, fun m z' hm hz => ?_, _, hD, ?_, fun x o h => ?_, ?_⟩
          · rw [hix]
            unfold nats
            rw [List.getElem?_map, hc]
            rfl
          · show ((i : Int) == 0 + (i : Int)) = true
            rw [Int.zero_add]
            exact beq_self_eq_true _
          · unfold nats at hz
            rw [List.getElem?_map] at hz
            cases ez : l[m]? with
            | none => rw [ez] at hz; cases hz
            | some v =>
              rw [ez] at hz
              have e9 : V.int ((v : Nat) : Int) = z' := Option.some.inj hz
              rw [← e9]
              show (((v : Nat) : Int) == 0 + (i : Int)) = false
              refine beq_eq_false_iff_ne.mpr fun y => ?_
              have e8 : v = i := by omega
              rw [e8] at ez
              have := B.inj ez hc
              omega
          · rw [nats_len, List.length_take]
            exact small1000 (by omega)
          · rw [upd_ne (ne_of_none h nD)]
            exact sm x o h
          · rw [upd_same, nats_snoc, List.take_add_one, inv_at hi2]
            rfl
        · obtain ⟨sm, hD⟩ := hP
          refine ⟨D1, s1.trans sm, s1.free nD, ?_, rfl⟩
          rw [hD]
          unfold t0
          rw [if_pos e4, List.take_of_length_le (by unfold inv; rw [List.length_map, List.length_range, nats_len]; omega)]
      · have e4 : ¬ 4 ≤ w := by have h := dF e; omega
        refine ⟨_, rfl, a, _, rfl, .inl (.of ha1), fun b nb => ⟨b, s1.trans (same_upd nb), s1.free nb, ?_, rfl⟩⟩
        rw [upd_same]
        unfold t0
        rw [if_neg e4]
    obtain ⟨b, s2, nb, hb, rfl⟩ := hM
    -- the other way about
    refine ⟨fun σ' H' => ∃ b, Same H H' ∧ H b = none ∧ H' b = some (.lst (nats (t1 l.length w l))) ∧ σ' = [some (.ref a), some (.int (w : Int)), some (.ref b), none], ?_, fun σ' H3 hM => ?_⟩
    · refine ⟨_, rfl, _, _, rfl, rfl, z2, rfl, _, rfl, ite2 (fun e => ?_) (fun e => ?_)⟩
      · rw [dec_vint] at e
        refine ⟨_, rfl, b, _, rfl, .of hb, fun c nc => ⟨c, s2.trans (same_upd nc), s2.free nc, ?_, rfl⟩⟩
        rw [upd_same, nats_rev]
        unfold t1
        rw [if_pos (by omega)]
      · rw [dec_vint] at e
        refine ⟨b, s2, nb, ?_, rfl⟩
        rw [hb]
        unfold t1
        rw [if_neg (by omega)]
    obtain ⟨b1, s3, nb1, hb1, rfl⟩ := hM
    have hlen := t1_len (w := w) B
    have hlt : ∀ x ∈ t1 l.length w l, x < l.length := by
      intro x hx
      obtain ⟨c, hc⟩ := List.mem_iff_getElem?.mp hx
      have h0 : x ∈ t0 l.length w l := by
        unfold t1 at hx
        split at hx
        · exact List.mem_reverse.mp hx
        · exact hx
      unfold t0 at h0
      split at h0
      · unfold inv at h0
        obtain ⟨r, hr, rfl⟩ := List.mem_map.mp h0
        obtain ⟨c, hc⟩ := B.onto (List.mem_range.mp hr)
        rw [B.idx hc]
        exact (B.lt hc).1
      · obtain ⟨c, hc⟩ := List.mem_iff_getElem?.mp h0
        exact (B.lt hc).2
    -- upside down
    refine ⟨fun σ' H' => ∃ b y, Same H H' ∧ H b = none ∧ H' b = some (.lst (nats (t2 l.length w l))) ∧ σ' = [some (.ref a), some (.int (w : Int)), some (.ref b), y], ?_, fun σ' H4 hM => ?_⟩
    · refine ⟨_, rfl, _, _, rfl, rfl, ⟨by decide, by decide⟩, _, _, rfl, rfl, z2, rfl, _, rfl, ite2 (fun e => ?_) (fun e => ?_)⟩
      · rw [dec_vint] at e
        refine ⟨_, rfl, b1, rfl, ⟨_, .of hb1⟩, fun D1 nD => ?_⟩
        refine lc_it (walk_list (xs := nats (t1 l.length w l))) (fun i H' => Same H3 H' ∧ H' D1 = some (.lst (nats (((t1 l.length w l).take i).map fun r => l.length - 1 - r)))) ⟨same_upd nD, upd_same⟩ (fun i H' _ hP => .of (hP.1 _ _ hb1)) (fun i x H4 H5 hi hP hY => ?_) (fun H4 hP => ?_)
        · obtain ⟨sm, hD⟩ := hP
          obtain ⟨rfl, hx⟩ := hY
          rw [nats_len] at hi
          rw [nats_get hi] at hx
          cases hx
          have hv := hlt _ (List.getElem_mem hi)
          refine ⟨rfl, ?_⟩
          refine ⟨_, rfl, a, _, rfl, .inl (.of ((s3.trans sm) _ _ ha)), _, _, rfl, rfl, _, rfl, _, _, rfl, rfl, _, hD, ?_, fun x o h => ?_, ?_⟩
          · rw [nats_len, List.length_map, List.length_take]
            exact small1000 (by omega)
          · rw [upd_ne (ne_of_none h nD)]
            exact sm x o h
          · rw [upd_same, nats_len]
            dsimp only
            rw [show ((l.length : Nat) : Int) - 1 - (((t1 l.length w l)[i] : Nat) : Int) = ((l.length - 1 - (t1 l.length w l)[i] : Nat) : Int) by omega, nats_snoc, List.take_add_one, List.getElem?_eq_getElem hi, List.map_append]
            rfl
        · obtain ⟨sm, hD⟩ := hP
          refine ⟨D1, _, s3.trans sm, s3.free nD, ?_, rfl⟩
          rw [hD, List.take_of_length_le (by rw [nats_len]; omega)]
          unfold t2
          rw [if_pos (by omega)]
      · rw [dec_vint] at e
        refine ⟨b1, _, s3, nb1, ?_, rfl⟩
        rw [hb1]
        unfold t2
        rw [if_neg (by omega)]
    obtain ⟨b2, y, s4, nb2, hb2, rfl⟩ := hM
    exact ⟨_, rfl, q _ b2 s4 nb2 hb2⟩
theorem cutV_from1 (x : V) (xs : List V) : cutV (x :: xs) (some 1) none = xs := by
  unfold cutV
  rw [HT.sIx_none, show (1 : Int) = ((1 : Nat) : Int) from rfl, HT.sIx_nat, List.length_cons, show min 1 (xs.length + 1) = 1 by omega]
  show List.take (xs.length + 1 - 1) xs = xs
  rw [Nat.add_sub_cancel, List.take_length]
def spWithout : Sp := fun vs H Q _ => ∃ (a : Addr) (t : List Nat), vs = [.ref a] ∧ H a = some (.lst (nats (0 :: t))) ∧ Dots (0 :: t) ∧ 1 ≤ t.length ∧ ∀ (H' : Hp) (b : Addr), Same H H' → H b = none → H' b = some (.lst (nats (t.map fun r => r - 1))) → Q (.ref b) H'
theorem Dots.pos {t : List Nat} (D : Dots (0 :: t)) : ∀ x ∈ t, 1 ≤ x := fun x hx => by
  obtain ⟨k1, _⟩ := List.nodup_cons.mp D.brd.nodup
  have : x ≠ 0 := fun e => k1 (e ▸ hx)
  omega
theorem ok_without_corner (T : Txt K mg fa fd tk) : FnOk P w K mg base CX0 3 (fa 20) (fd 20) ["dots"] spWithout := by
  refine T.F_without_corner.ok sc_without_corner (fun vs H Q E h => ?_) (fun cdv A outer s H vs Q E hr h => ?_)
  · obtain ⟨a, t, rfl, _⟩ := h
    rfl
  · obtain ⟨a, t, rfl, ha, D, ht, q⟩ := h
    have d2 := D.hi
    rw [List.length_cons] at d2
    refine ⟨_, (pss_cons (ps_expr (pe_call (ok_asked_dots T) (hr.mono (by decide)) (by rfl) T.g_asked_dots T.F_asked_dots.kp T.b_asked_dots .nil pass0 (pa_cons (pv 0) pa_nil)))
      (pss_cons (ps_if (PW.pt (pw_or (pt_cmpR op_ne (pe_ix ix_list (pv 0) pe_int (fun _ _ => rfl)) pe_int (nomark _)) (pw_or1 (pt_cmpR op_eq (pe_callB call_len_seq (by rfl) T.m_len (by decide +kernel) (pa_cons (pv 0) pa_nil)) pe_int (nomark _))))) (pss_one ps_never) pss_nil)
      (pss_one (ps_ret (pe_lc (own := [("row", 1)]) (g := gName 1) (tt := tYes) (by rfl) sc_without_corner.nd (pi_list (pe_slice sl_list (pv 0) (po_some pe_int) po_none)) (blkOk_by (own := [("row", 1)]) (N := ["dots", "row"]) (sc := (defScope s_without_corner)) (by decide +kernel)) (fun _ _ _ _ _ => (pg_name (i := 1) sc_without_corner.nd rfl (Or.inl rfl))) (fun _ _ _ _ _ => pts_nil) (fun _ _ _ _ _ => (pe_op op_sub (pv 1) pe_int))))))), ?_⟩
    refine ⟨_, rfl, a, _, rfl, ha, D, fun H1 s1 => ?_⟩
    have ha1 := s1 _ _ ha
    refine ⟨_, rfl, a, _, _, _, rfl, rfl, .of ha1, atI_nat (j := 0) rfl, rfl, _, rfl, iteN rfl ?_⟩
    refine ⟨_, rfl, a, _, rfl, .inl (.of ha1), rfl, _, rfl, ite2 (fun e => ?_) (fun _ => ?_)⟩
    · exfalso
      rw [dec_vint, nats_len, List.length_cons] at e
      omega
    refine ⟨_, rfl, 1, rfl, a, _, rfl, .of ha1, fun c nc => ?_⟩
    have hc : upd H1 c (.lst (cutV (nats (0 :: t)) (some 1) none)) c = some (.lst (nats t)) := by
      rw [upd_same]
      exact congrArg (fun z => some (HO.lst z)) (cutV_from1 _ _)
    refine ⟨c, rfl, ⟨_, .of hc⟩, fun D1 nD => ?_⟩
    have sC := same_upd (o := .lst (cutV (nats (0 :: t)) (some 1) none)) nc
    generalize upd H1 c (.lst (cutV (nats (0 :: t)) (some 1) none)) = H2 at *
    refine lc_it (walk_list (xs := nats t)) (fun i H' => Same H2 H' ∧ H' D1 = some (.lst (nats ((t.take i).map fun r => r - 1)))) ⟨same_upd nD, upd_same⟩ (fun i H' _ hP => .of (hP.1 _ _ hc)) (fun i x H4 H5 hi hP hY => ?_) (fun H4 hP => ?_)
    · obtain ⟨sm, hD⟩ := hP
      obtain ⟨rfl, hx⟩ := hY
      rw [nats_len] at hi
      rw [nats_get hi] at hx
      cases hx
      have hv := D.pos _ (List.getElem_mem hi)
      refine ⟨rfl, ?_⟩
      refine ⟨_, rfl, _, _, rfl, rfl, _, hD, ?_, fun x o h => ?_, ?_⟩
      · rw [nats_len, List.length_map, List.length_take]
        exact small1000 (by omega)
      · rw [upd_ne (ne_of_none h nD)]
        exact sm x o h
      · rw [upd_same]
        dsimp only
        rw [show ((t[i] : Nat) : Int) - 1 = ((t[i] - 1 : Nat) : Int) by omega, nats_snoc, List.take_add_one, List.getElem?_eq_getElem hi, List.map_append]
        rfl
    · obtain ⟨sm, hD⟩ := hP
      rw [List.take_of_length_le (by rw [nats_len]; omega)] at hD
      exact q _ D1 ((s1.trans sC).trans sm) ((s1.trans sC).free nD) hD
end
end Lw
namespace Lw
open PySem PySem.Spec PyProof.Rows L2 AD
section
variable {P : Program} {w : World} {K : PySem.W.Frag} {mg : Str → Option Value} {base : Heap}
variable {fa : Nat → Addr} {fd : Nat → FuncData} {tk : Nat → Tok}
/-! ### what is refused: dots, ways, corners -/
theorem take_snoc {α : Type} {l : List α} {i : Nat} {x : α} (h : l[i]? = some x) : l.take (i + 1) = l.take i ++ [x] := by
  rw [List.take_add_one, h]
  rfl
/-- no dots of a board -/
def BadD (K : PySem.W.Frag) (H : Hp) (v : V) : Prop := (∃ n, TyX K H v (.type n) ∧ n ∈ ["NoneType", "str", "tuple", "dict", "int", "bool"]) ∨ ∃ (a : Addr) (xs : List V), v = .ref a ∧ H a = some (.lst xs) ∧
  ((xs.length = 0 ∨ 60 < xs.length) ∨ (1 ≤ xs.length ∧ xs.length ≤ 60 ∧ (∀ x ∈ xs, isInt x = true ∨ NW K H x) ∧ ∃ x ∈ xs, isInt x = false) ∨
    ∃ ns : List Int, xs = ns.map V.int ∧ 1 ≤ ns.length ∧ ns.length ≤ 60 ∧ ¬ ns.Perm (zof (List.range ns.length)))
theorem BadD.ext {H H' : Hp} {v : V} (e : LamX.ExtN H H') (h : BadD K H v) : BadD K H' v := by
  rcases h with ⟨n, a, b⟩ | ⟨a, xs, rfl, ha, h⟩
  · exact .inl ⟨n, TyX.ext e a, b⟩
  · refine .inr ⟨a, xs, rfl, e _ _ ha (fun _ z => nomatch z), ?_⟩
    rcases h with h | ⟨h1, h2, h3, h4⟩ | h
    · exact .inl h
    · exact .inr (.inl ⟨h1, h2, fun x hx => (h3 x hx).imp id fun z => z.ext e, h4⟩)
    · exact .inr (.inr h)
theorem isInt_of {x : V} (h : isInt x = true) : ∃ i, x = .int i := by
  cases x with
  | int i => exact ⟨i, rfl⟩
  | _ => cases h
theorem map_isInt (ns : List Int) : (ns.map V.int).map isInt = List.replicate ns.length true := by
  rw [List.map_map]
  induction ns with
  | nil => rfl
  | cons n r ih => rw [List.map_cons, ih]; rfl
def spAskedDotsX (K : PySem.W.Frag) (C : Addr) : Sp := fun vs H _ E => ∃ v : V, vs = [v] ∧ BadD K H v ∧ ∀ H', Same H H' → E (.ref C) none H'
theorem xok_asked_dots (T : Txt K mg fa fd tk) : FnOk P w K mg base (L2N.CX P w) 2 (fa 17) (fd 17) ["dots"] (spAskedDotsX K (fa 34)) := by
  refine Hx.okN T.F_asked_dots sc_asked_dots (fun vs H Q E h => ?_) (fun cdv A outer s H vs Q E hr h => ?_)
  · obtain ⟨v, rfl, _⟩ := h
    rfl
  · obtain ⟨v, rfl, hv, q⟩ := h
    have hu := hr.units
    have tk := L2N.takes_of (X := cxOf (L2N.CX P w) P w K mg base ["dots", "row"] "asked_dots" (defScope s_asked_dots) (fa 17) cdv A outer s H E) rfl rfl rfl rfl
    refine ⟨_, (pss_cons (ps_if (PW.pt (pw_or (pt_not (pt_val (pe_callB call_isi (by rfl) T.m_isinstance (by decide +kernel) (pa_cons (pv 0) (pa_cons (pe_bltn (v := .ty "list") (u := .type "list") (by rfl) T.m_list (by decide +kernel) rfl) pa_nil))))) (pw_or (pt_not (pt_chain op_le op_le pe_int (pe_callB call_len_seq (by rfl) T.m_len (by decide +kernel) (pa_cons (pv 0) pa_nil)) (pe_glob (v := .int 60) rfl T.g_LONGEST ⟨_, rfl⟩))) (pw_or1 (pt_not (pt_val (pe_callB (cr_all rfl) (by rfl) T.m_all (by decide +kernel) (pa_cons (pe_lc (own := [("row", 1)]) (g := gName 1) (tt := tYes) (by rfl) sc_asked_dots.nd (pi_list (pv 0)) (blkOk_by (own := [("row", 1)]) (N := ["dots", "row"]) (sc := (defScope s_asked_dots)) (by decide +kernel)) (fun _ _ _ _ _ => (pg_name (i := 1) sc_asked_dots.nd rfl (Or.inl rfl))) (fun _ _ _ _ _ => pts_nil) (fun _ _ _ _ _ => (pe_call (ok_is_whole T) (hr.mono (by decide)) (by rfl) T.g_is_whole T.F_is_whole.kp T.b_is_whole .nil pass0 (pa_cons (pv 1) pa_nil)))) pa_nil)))))))) (pss_one (L2N.ps_raise rfl tk (L2N.pmk_own PySem.F.excBase_ValueError T.x_BadDots.ex T.g_BadDots T.x_BadDots.kp (raises_own T.x_BadDots.b T.x_BadDots.t) (by rfl)))) pss_nil)
      (pss_one (ps_if (pt_cmpR (op_neL hu) (pe_callB cr_sorted (by rfl) T.m_sorted (by decide +kernel) (pa_cons (pv 0) pa_nil)) (pe_listRg rfl (by rfl) T.m_list (prg_1 (by rfl) T.m_range (pe_callB call_len_seq (by rfl) T.m_len (by decide +kernel) (pa_cons (pv 0) pa_nil)))) (nomark _)) (pss_one (L2N.ps_raise rfl tk (L2N.pmk_own PySem.F.excBase_ValueError T.x_BadDots.ex T.g_BadDots T.x_BadDots.kp (raises_own T.x_BadDots.b T.x_BadDots.t) (by rfl)))) pss_nil))), ?_⟩
    rcases hv with ⟨n, ty, hn⟩ | ⟨a, xs, rfl, ha, hx⟩
    · simp only [List.mem_cons, List.not_mem_nil, or_false] at hn
      rcases hn with rfl | rfl | rfl | rfl | rfl | rfl
      all_goals exact ⟨_, rfl, _, _, _, _, false, rfl, .ty _, ty, kit_ty (by decide +kernel), false, rfl, iteT (q _ (Same.refl _))⟩
    refine ⟨_, rfl, _, _, _, _, true, rfl, .ty _, .base (.lst ha), kit_ty (by decide +kernel), true, rfl, iteF ?_⟩
    refine ⟨_, rfl, a, _, rfl, .inl (.of ha), _, _, rfl, rfl, _, rfl, ite2 (fun e => ?_) (fun e => ?_)⟩
    · have l1 : (1 : Int) ≤ (xs.length : Int) := dT e
      refine ⟨_, _, rfl, rfl, _, rfl, ?_⟩
      by_cases l2 : (xs.length : Int) ≤ 60
      · have hx2 : ((∀ x ∈ xs, isInt x = true ∨ NW K H x) ∧ ∃ x ∈ xs, isInt x = false) ∨ ∃ ns : List Int, xs = ns.map V.int ∧ ¬ ns.Perm (zof (List.range ns.length)) := by
          rcases hx with z | ⟨_, _, z⟩ | ⟨ns, z1, _, _, z2⟩
          · omega
          · exact .inl z
          · exact .inr ⟨ns, z1, z2⟩
        have hel : ∀ x ∈ xs, isInt x = true ∨ NW K H x := by
          rcases hx2 with z | ⟨ns, z1, _⟩
          · exact z.1
          · intro x h
            rw [z1] at h
            obtain ⟨i, _, rfl⟩ := List.mem_map.mp h
            exact .inl rfl
        rw [decide_eq_true l2]
        refine iteF ?_
        refine ⟨_, rfl, a, rfl, ⟨_, .of ha⟩, fun D1 nD => ?_⟩
        refine lc_it (walk_list (xs := xs)) (fun i H' => Same H H' ∧ H' D1 = some (.lst (((xs.take i).map isInt).map V.bl))) ⟨same_upd nD, upd_same⟩ (fun i H' _ hP => .of (hP.1 _ _ ha)) (fun i x H4 H5 hi hP hY => ?_) (fun H4 hP => ?_)
        · obtain ⟨sm, hD⟩ := hP
          obtain ⟨rfl, hxi⟩ := hY
          refine ⟨rfl, ?_⟩
          have fin : ∀ b, isInt x = b → ∃ ys, H5 D1 = some (.lst ys) ∧ ys.length < sizeLine ∧ Same H (upd H5 D1 (.lst (ys ++ [.bl b]))) ∧ upd H5 D1 (.lst (ys ++ [.bl b])) D1 = some (.lst (((xs.take (i + 1)).map isInt).map V.bl)) := fun b hb => by
            refine ⟨_, hD, ?_, fun y o h => ?_, ?_⟩
            · rw [List.length_map, List.length_map, List.length_take]
              exact small1000 (by omega)
            · rw [upd_ne (ne_of_none h nD)]
              exact sm y o h
            · rw [upd_same, take_snoc hxi, List.map_append, List.map_append, ← hb]
              rfl
          rcases hel x (List.mem_of_getElem? hxi) with h | h
          · obtain ⟨j, rfl⟩ := isInt_of h
            exact ⟨_, rfl, _, rfl, .inl ⟨_, rfl, fin true h⟩⟩
          · obtain ⟨h0, n, ty, hn⟩ := h.ext (extN_same sm)
            exact ⟨_, rfl, _, rfl, .inr ⟨n, ty, hn, fin false h0⟩⟩
        · obtain ⟨sm, hD⟩ := hP
          rw [List.take_of_length_le (Nat.le_refl _)] at hD
          refine ⟨D1, _, rfl, .of hD, _, rfl, ?_⟩
          rcases hx2 with ⟨_, x, hx, h0⟩ | ⟨ns, rfl, hp⟩
          · rw [show (xs.map isInt).all id = false by
              rw [List.all_eq_false]
              exact ⟨false, List.mem_map.mpr ⟨x, hx, h0⟩, by decide⟩]
            exact iteT (q _ sm)
          · rw [map_isInt, show (List.replicate ns.length true).all id = true by simp]
            refine iteF ?_
            have ha4 := sm _ _ ha
            rw [List.length_map] at l1 l2
            refine ⟨_, rfl, a, ns, rfl, .of ha4, by omega, fun ns' p pm so np => ?_⟩
            have s1 := same_upd (o := .lst (ns'.map V.int)) np
            have e1 : ¬ ns' = zof (List.range ns.length) := fun z => hp (by rw [← z]; exact pm.symm)
            refine ⟨_, rfl, a, _, rfl, .inl (.of (s1 _ _ ha4)), _, rfl, RgOk.of_le (by omega) (by rw [List.length_map]; omega) (by omega) (by omega), fun p2 np2 => ?_⟩
            refine ⟨p, p2, ns', zof (List.range ns.length), rfl, rfl, .of (same_upd np2 _ _ upd_same), .of ?_, _, rfl, ?_⟩
            · rw [upd_same, List.length_map, rgV_nats, nats_ints]
              rfl
            rw [decide_eq_false e1]
            exact iteT (q _ ((sm.trans s1).trans (same_upd np2)))
      · rw [decide_eq_false l2]
        exact iteT (q _ (Same.refl _))
    · exact ⟨_, rfl, iteT (q _ (Same.refl _))⟩
theorem xok_judged (T : Txt K mg fa fd tk) : FnOk P w K mg base (L2N.CX P w) 3 (fa 18) (fd 18) ["dots"] (spAskedDotsX K (fa 34)) := by
  refine Hx.okN T.F_judged sc_judged (fun vs H Q E h => ?_) (fun cdv A outer s H vs Q E hr h => ?_)
  · obtain ⟨v, rfl, _⟩ := h
    rfl
  · obtain ⟨v, rfl, hv, q⟩ := h
    have tk := L2N.takes_of (X := cxOf (L2N.CX P w) P w K mg base ["dots", "found"] "judged" (defScope s_judged) (fa 18) cdv A outer s H E) rfl rfl rfl rfl
    exact ⟨_, (pss_cons (ps_expr (pe_alt (pe_callS (xok_asked_dots T) (hr.mono (by decide)) (by rfl) T.g_asked_dots T.F_asked_dots.kp T.b_asked_dots (L2N.passAt tk) (pa_cons (pv 0) pa_nil)) (pe_call (ok_asked_dots T) (hr.mono (by decide)) (by rfl) T.g_asked_dots T.F_asked_dots.kp T.b_asked_dots .nil pass0 (pa_cons (pv 0) pa_nil))))
      Hx.pss_nev), .inl ⟨_, rfl, v, rfl, hv, q⟩⟩
/-- no way to turn -/
def BadWy (K : PySem.W.Frag) (H : Hp) (v : V) : Prop := NW K H v ∨ ∃ i : Int, v = .int i ∧ (i < 0 ∨ 7 < i)
theorem BadWy.ext {H H' : Hp} {v : V} (e : LamX.ExtN H H') (h : BadWy K H v) : BadWy K H' v := h.imp (fun z => z.ext e) id
def spTurnedX (K : PySem.W.Frag) (fa : Nat → Addr) : Sp := fun vs H _ E => ∃ v u : V, vs = [v, u] ∧ ((BadD K H v ∧ ∀ H', Same H H' → E (.ref (fa 34)) none H') ∨
  ∃ (a : Addr) (os : List Nat), v = .ref a ∧ H a = some (.lst (nats os)) ∧ Dots os ∧ BadWy K H u ∧ ∀ H', Same H H' → E (.ref (fa 35)) none H')
theorem xok_turned (T : Txt K mg fa fd tk) : FnOk P w K mg base (L2N.CX P w) 3 (fa 19) (fd 19) ["dots", "way"] (spTurnedX K fa) := by
  refine Hx.okN T.F_turned sc_turned (fun vs H Q E h => ?_) (fun cdv A outer s H vs Q E hr h => ?_)
  · obtain ⟨v, u, rfl, _⟩ := h
    rfl
  · obtain ⟨v, u, rfl, h⟩ := h
    have tk := L2N.takes_of (X := cxOf (L2N.CX P w) P w K mg base ["dots", "way", "found", "row"] "turned" (defScope s_turned) (fa 19) cdv A outer s H E) rfl rfl rfl rfl
    refine ⟨_, (pss_cons (ps_expr (pe_alt (pe_callS (xok_asked_dots T) (hr.mono (by decide)) (by rfl) T.g_asked_dots T.F_asked_dots.kp T.b_asked_dots (L2N.passAt tk) (pa_cons (pv 0) pa_nil)) (pe_call (ok_asked_dots T) (hr.mono (by decide)) (by rfl) T.g_asked_dots T.F_asked_dots.kp T.b_asked_dots .nil pass0 (pa_cons (pv 0) pa_nil))))
      (pss_cons (ps_if (PW.pt (pw_or (pt_not (pt_val (pe_call (ok_is_whole T) (hr.mono (by decide)) (by rfl) T.g_is_whole T.F_is_whole.kp T.b_is_whole .nil pass0 (pa_cons (pv 1) pa_nil)))) (pw_or1 (pt_not (pt_chain op_le op_le pe_int (pv 1) pe_int))))) (pss_one (L2N.ps_raise rfl tk (L2N.pmk_own PySem.F.excBase_ValueError T.x_BadWay.ex T.g_BadWay T.x_BadWay.kp (raises_own T.x_BadWay.b T.x_BadWay.t) (by rfl)))) pss_nil)
      Hx.pss_nev)), ?_⟩
    rcases h with ⟨hv, q⟩ | ⟨a, os, rfl, ha, D, hu, q⟩
    · exact .inl ⟨_, rfl, v, rfl, hv, q⟩
    · refine .inr ⟨_, rfl, a, os, rfl, ha, D, fun H1 s1 => ?_⟩
      rcases hu.ext (extN_same s1) with ⟨_, n, ty, hn⟩ | ⟨i, rfl, hi⟩
      · exact ⟨_, rfl, _, rfl, .inr ⟨n, ty, hn, _, rfl, iteT (q _ s1)⟩⟩
      · refine ⟨_, rfl, _, rfl, .inl ⟨_, rfl, _, rfl, iteF ?_⟩⟩
        refine ⟨_, rfl, _, _, rfl, rfl, _, rfl, ite2 (fun e => ?_) (fun e => ?_)⟩
        · have i1 : 0 ≤ i := dT e
          refine ⟨_, _, rfl, rfl, _, rfl, ?_⟩
          rw [decide_eq_false (show ¬ i ≤ 7 by omega)]
          exact iteT (q _ s1)
        · exact ⟨_, rfl, iteT (q _ s1)⟩
def spWithoutX (K : PySem.W.Frag) (fa : Nat → Addr) : Sp := fun vs H _ E => ∃ v : V, vs = [v] ∧ ((BadD K H v ∧ ∀ H', Same H H' → E (.ref (fa 34)) none H') ∨
  ∃ (a : Addr) (o : Nat) (os : List Nat), v = .ref a ∧ H a = some (.lst (nats (o :: os))) ∧ Dots (o :: os) ∧ (o ≠ 0 ∨ os = []) ∧ ∀ H', Same H H' → E (.ref (fa 36)) none H')
theorem xok_without_corner (T : Txt K mg fa fd tk) : FnOk P w K mg base (L2N.CX P w) 3 (fa 20) (fd 20) ["dots"] (spWithoutX K fa) := by
  refine Hx.okN T.F_without_corner sc_without_corner (fun vs H Q E h => ?_) (fun cdv A outer s H vs Q E hr h => ?_)
  · obtain ⟨v, rfl, _⟩ := h
    rfl
  · obtain ⟨v, rfl, h⟩ := h
    have tk := L2N.takes_of (X := cxOf (L2N.CX P w) P w K mg base ["dots", "row"] "without_corner" (defScope s_without_corner) (fa 20) cdv A outer s H E) rfl rfl rfl rfl
    refine ⟨_, (pss_cons (ps_expr (pe_alt (pe_callS (xok_asked_dots T) (hr.mono (by decide)) (by rfl) T.g_asked_dots T.F_asked_dots.kp T.b_asked_dots (L2N.passAt tk) (pa_cons (pv 0) pa_nil)) (pe_call (ok_asked_dots T) (hr.mono (by decide)) (by rfl) T.g_asked_dots T.F_asked_dots.kp T.b_asked_dots .nil pass0 (pa_cons (pv 0) pa_nil))))
      (pss_cons (ps_if (PW.pt (pw_or (pt_cmpR op_ne (pe_ix ix_list (pv 0) pe_int (fun _ _ => rfl)) pe_int (nomark _)) (pw_or1 (pt_cmpR op_eq (pe_callB call_len_seq (by rfl) T.m_len (by decide +kernel) (pa_cons (pv 0) pa_nil)) pe_int (nomark _))))) (pss_one (L2N.ps_raise rfl tk (L2N.pmk_own PySem.F.excBase_ValueError T.x_NoCorner.ex T.g_NoCorner T.x_NoCorner.kp (raises_own T.x_NoCorner.b T.x_NoCorner.t) (by rfl)))) pss_nil)
      Hx.pss_nev)), ?_⟩
    rcases h with ⟨hv, q⟩ | ⟨a, o, os, rfl, ha, D, ho, q⟩
    · exact .inl ⟨_, rfl, v, rfl, hv, q⟩
    · refine .inr ⟨_, rfl, a, o :: os, rfl, ha, D, fun H1 s1 => ?_⟩
      have ha1 := s1 _ _ ha
      refine ⟨_, rfl, a, _, _, _, rfl, rfl, .of ha1, atI_nat (j := 0) rfl, rfl, _, rfl, ite2 (fun e => ?_) (fun e => ?_)⟩
      · exact q _ s1
      · have e0 : o = 0 := by
          by_cases z : o = 0
          · exact z
          · refine absurd ?_ e
            rw [Bool.not_eq_true', decide_eq_false_iff_not]
            intro y
            have := V.int.inj y
            omega
        have e1 : os = [] := ho.resolve_left fun z => z e0
        subst e1
        refine ⟨_, rfl, a, _, rfl, .inl (.of ha1), rfl, _, rfl, ite2 (fun e => ?_) (fun e2 => ?_)⟩
        · exact q _ s1
        · exact absurd (decide_eq_true rfl) e2
end
end Lw
namespace Lw
open PySem PySem.Spec PyProof.Rows L2 AD
section
variable {P : Program} {w : World} {K : PySem.W.Frag} {mg : Str → Option Value} {base : Heap}
variable {fa : Nat → Addr} {fd : Nat → FuncData} {tk : Nat → Tok}
/-! ### which class a refusal is of -/
theorem kx_all (T : Txt K mg fa fd tk) : ∀ {n j : Nat}, n < 9 → j < 9 → PySem.W.kitOne K (.ref (fa (28 + n))) (.ref (fa (28 + j))) = some (decide (n = j))
  | 0, 0, _, _ => T.kx_BadPrime_BadPrime
  | 0, 1, _, _ => T.kx_BadPrime_BadRoot
  | 0, 2, _, _ => T.kx_BadPrime_BadNumber
  | 0, 3, _, _ => T.kx_BadPrime_BadColumn
  | 0, 4, _, _ => T.kx_BadPrime_BadRow
  | 0, 5, _, _ => T.kx_BadPrime_BadArrow
  | 0, 6, _, _ => T.kx_BadPrime_BadDots
  | 0, 7, _, _ => T.kx_BadPrime_BadWay
  | 0, 8, _, _ => T.kx_BadPrime_NoCorner
  | 1, 0, _, _ => T.kx_BadRoot_BadPrime
  | 1, 1, _, _ => T.kx_BadRoot_BadRoot
  | 1, 2, _, _ => T.kx_BadRoot_BadNumber
  | 1, 3, _, _ => T.kx_BadRoot_BadColumn
  | 1, 4, _, _ => T.kx_BadRoot_BadRow
  | 1, 5, _, _ => T.kx_BadRoot_BadArrow
  | 1, 6, _, _ => T.kx_BadRoot_BadDots
  | 1, 7, _, _ => T.kx_BadRoot_BadWay
  | 1, 8, _, _ => T.kx_BadRoot_NoCorner
  | 2, 0, _, _ => T.kx_BadNumber_BadPrime
  | 2, 1, _, _ => T.kx_BadNumber_BadRoot
  | 2, 2, _, _ => T.kx_BadNumber_BadNumber
  | 2, 3, _, _ => T.kx_BadNumber_BadColumn
  | 2, 4, _, _ => T.kx_BadNumber_BadRow
  | 2, 5, _, _ => T.kx_BadNumber_BadArrow
  | 2, 6, _, _ => T.kx_BadNumber_BadDots
  | 2, 7, _, _ => T.kx_BadNumber_BadWay
  | 2, 8, _, _ => T.kx_BadNumber_NoCorner
  | 3, 0, _, _ => T.kx_BadColumn_BadPrime
  | 3, 1, _, _ => T.kx_BadColumn_BadRoot
  | 3, 2, _, _ => T.kx_BadColumn_BadNumber
  | 3, 3, _, _ => T.kx_BadColumn_BadColumn
  | 3, 4, _, _ => T.kx_BadColumn_BadRow
  | 3, 5, _, _ => T.kx_BadColumn_BadArrow
  | 3, 6, _, _ => T.kx_BadColumn_BadDots
  | 3, 7, _, _ => T.kx_BadColumn_BadWay
  | 3, 8, _, _ => T.kx_BadColumn_NoCorner
  | 4, 0, _, _ => T.kx_BadRow_BadPrime
  | 4, 1, _, _ => T.kx_BadRow_BadRoot
  | 4, 2, _, _ => T.kx_BadRow_BadNumber
  | 4, 3, _, _ => T.kx_BadRow_BadColumn
  | 4, 4, _, _ => T.kx_BadRow_BadRow
  | 4, 5, _, _ => T.kx_BadRow_BadArrow
  | 4, 6, _, _ => T.kx_BadRow_BadDots
  | 4, 7, _, _ => T.kx_BadRow_BadWay
  | 4, 8, _, _ => T.kx_BadRow_NoCorner
  | 5, 0, _, _ => T.kx_BadArrow_BadPrime
  | 5, 1, _, _ => T.kx_BadArrow_BadRoot
  | 5, 2, _, _ => T.kx_BadArrow_BadNumber
  | 5, 3, _, _ => T.kx_BadArrow_BadColumn
  | 5, 4, _, _ => T.kx_BadArrow_BadRow
  | 5, 5, _, _ => T.kx_BadArrow_BadArrow
  | 5, 6, _, _ => T.kx_BadArrow_BadDots
  | 5, 7, _, _ => T.kx_BadArrow_BadWay
  | 5, 8, _, _ => T.kx_BadArrow_NoCorner
  | 6, 0, _, _ => T.kx_BadDots_BadPrime
  | 6, 1, _, _ => T.kx_BadDots_BadRoot
  | 6, 2, _, _ => T.kx_BadDots_BadNumber
  | 6, 3, _, _ => T.kx_BadDots_BadColumn
  | 6, 4, _, _ => T.kx_BadDots_BadRow
  | 6, 5, _, _ => T.kx_BadDots_BadArrow
  | 6, 6, _, _ => T.kx_BadDots_BadDots
  | 6, 7, _, _ => T.kx_BadDots_BadWay
  | 6, 8, _, _ => T.kx_BadDots_NoCorner
  | 7, 0, _, _ => T.kx_BadWay_BadPrime
  | 7, 1, _, _ => T.kx_BadWay_BadRoot
  | 7, 2, _, _ => T.kx_BadWay_BadNumber
  | 7, 3, _, _ => T.kx_BadWay_BadColumn
  | 7, 4, _, _ => T.kx_BadWay_BadRow
  | 7, 5, _, _ => T.kx_BadWay_BadArrow
  | 7, 6, _, _ => T.kx_BadWay_BadDots
  | 7, 7, _, _ => T.kx_BadWay_BadWay
  | 7, 8, _, _ => T.kx_BadWay_NoCorner
  | 8, 0, _, _ => T.kx_NoCorner_BadPrime
  | 8, 1, _, _ => T.kx_NoCorner_BadRoot
  | 8, 2, _, _ => T.kx_NoCorner_BadNumber
  | 8, 3, _, _ => T.kx_NoCorner_BadColumn
  | 8, 4, _, _ => T.kx_NoCorner_BadRow
  | 8, 5, _, _ => T.kx_NoCorner_BadArrow
  | 8, 6, _, _ => T.kx_NoCorner_BadDots
  | 8, 7, _, _ => T.kx_NoCorner_BadWay
  | 8, 8, _, _ => T.kx_NoCorner_NoCorner
  | 0, _ + 9, _, h => absurd h (by omega)
  | 1, _ + 9, _, h => absurd h (by omega)
  | 2, _ + 9, _, h => absurd h (by omega)
  | 3, _ + 9, _, h => absurd h (by omega)
  | 4, _ + 9, _, h => absurd h (by omega)
  | 5, _ + 9, _, h => absurd h (by omega)
  | 6, _ + 9, _, h => absurd h (by omega)
  | 7, _ + 9, _, h => absurd h (by omega)
  | 8, _ + 9, _, h => absurd h (by omega)
  | _ + 9, _, h, _ => absurd h (by omega)
theorem xc_all (T : Txt K mg fa fd tk) : ∀ {n : Nat}, n < 9 → ExcC K (fa (28 + n))
  | 0, _ => T.x_BadPrime.ec
  | 1, _ => T.x_BadRoot.ec
  | 2, _ => T.x_BadNumber.ec
  | 3, _ => T.x_BadColumn.ec
  | 4, _ => T.x_BadRow.ec
  | 5, _ => T.x_BadArrow.ec
  | 6, _ => T.x_BadDots.ec
  | 7, _ => T.x_BadWay.ec
  | 8, _ => T.x_NoCorner.ec
  | _ + 9, h => absurd h (by omega)
theorem kv_all (T : Txt K mg fa fd tk) : ∀ {n : Nat}, n < 9 → PySem.W.kitOne K (.ref (fa (28 + n))) (.type "ValueError") = some true
  | 0, _ => T.x_BadPrime.kv
  | 1, _ => T.x_BadRoot.kv
  | 2, _ => T.x_BadNumber.kv
  | 3, _ => T.x_BadColumn.kv
  | 4, _ => T.x_BadRow.kv
  | 5, _ => T.x_BadArrow.kv
  | 6, _ => T.x_BadDots.kv
  | 7, _ => T.x_BadWay.kv
  | 8, _ => T.x_NoCorner.kv
  | _ + 9, h => absurd h (by omega)
theorem xm_all (T : Txt K mg fa fd tk) : ∀ {n : Nat}, n < 9 → PySem.W.exmOne K (.ref (fa (28 + n))) (.ref (fa 27)) = some true
  | 0, _ => T.x_BadPrime.em
  | 1, _ => T.x_BadRoot.em
  | 2, _ => T.x_BadNumber.em
  | 3, _ => T.x_BadColumn.em
  | 4, _ => T.x_BadRow.em
  | 5, _ => T.x_BadArrow.em
  | 6, _ => T.x_BadDots.em
  | 7, _ => T.x_BadWay.em
  | 8, _ => T.x_NoCorner.em
  | _ + 9, h => absurd h (by omega)
def kindsB (n : Nat) : List Bool := (List.range 9).map (fun k => decide (n = k)) ++ [true]
def kindsV (n : Nat) : List V := (kindsB n).map V.bl
def spKinds (fa : Nat → Addr) (a : Addr) (cls : Value) (d : Option Addr) : Sp := fun vs H Q _ => ∃ n : Nat, n < 9 ∧ vs = [.ref a] ∧ cls = .ref (fa (28 + n)) ∧ d = none ∧ ∀ (H' : Hp) (l : Addr), Same H H' → H' l = some (.lst (kindsV n)) → Q (.ref l) H'
theorem ok__law_kinds (T : Txt K mg fa fd tk) {a : Addr} {oe : Obj} {cls : Value} {d : Option Addr} (hz : L2N.Zn cls d oe) (hf : ∃ vs, oe.data = .fields vs) :
    Hx.FnHp P w K mg base CX0 1 (fa 21) (fd 21) ["_law_error"] (a, oe) (spKinds fa a cls d) := by
  refine Hx.okHp T.F__law_kinds sc__law_kinds (fun vs H Q E h => ?_) (fun cdv A outer s H vs Q E hot hr h => ?_)
  · obtain ⟨n, _, rfl, _⟩ := h
    rfl
  · obtain ⟨n, hn, rfl, rfl, rfl, q⟩ := h
    have xc : ExcC K (fa (28 + n)) := xc_all T hn
    have hz2 : oe.cls = .ref (fa (28 + n)) ∧ oe.dict = none := ⟨hz.1, hz.2.1⟩
    have hp : ∀ {X : Cx}, X.pn = [(a, oe)] → (a, oe) ∈ X.pn := fun {X} e => by rw [e]; exact List.mem_singleton.mpr rfl
    have k0 := kx_all T hn (show 0 < 9 by decide)
    have k1 := kx_all T hn (show 1 < 9 by decide)
    have k2 := kx_all T hn (show 2 < 9 by decide)
    have k3 := kx_all T hn (show 3 < 9 by decide)
    have k4 := kx_all T hn (show 4 < 9 by decide)
    have k5 := kx_all T hn (show 5 < 9 by decide)
    have k6 := kx_all T hn (show 6 < 9 by decide)
    have k7 := kx_all T hn (show 7 < 9 by decide)
    have k8 := kx_all T hn (show 8 < 9 by decide)
    have kv := kv_all T hn
    refine ⟨_, (pss_cons (ps_set (i := 1) sc__law_kinds.nd rfl (.inl rfl) (pe_lst (pa_cons (pe_callB (id := "isinstance") (Hx.call_isP (a := a) (oe := oe) xc (hp rfl) hz2 hf) (by rfl) T.m_isinstance (by decide +kernel) (pa_cons (pv 0) (pa_cons (pe_glob (v := .ref _) rfl T.g_BadPrime rfl) pa_nil))) (pa_cons (pe_callB (id := "isinstance") (Hx.call_isP (a := a) (oe := oe) xc (hp rfl) hz2 hf) (by rfl) T.m_isinstance (by decide +kernel) (pa_cons (pv 0) (pa_cons (pe_glob (v := .ref _) rfl T.g_BadRoot rfl) pa_nil))) (pa_cons (pe_callB (id := "isinstance") (Hx.call_isP (a := a) (oe := oe) xc (hp rfl) hz2 hf) (by rfl) T.m_isinstance (by decide +kernel) (pa_cons (pv 0) (pa_cons (pe_glob (v := .ref _) rfl T.g_BadNumber rfl) pa_nil))) pa_nil)))))
      (pss_cons (ps_set (i := 1) sc__law_kinds.nd rfl (.inl rfl) (pe_op op_cat (pv 1) (pe_lst (pa_cons (pe_callB (id := "isinstance") (Hx.call_isP (a := a) (oe := oe) xc (hp rfl) hz2 hf) (by rfl) T.m_isinstance (by decide +kernel) (pa_cons (pv 0) (pa_cons (pe_glob (v := .ref _) rfl T.g_BadColumn rfl) pa_nil))) (pa_cons (pe_callB (id := "isinstance") (Hx.call_isP (a := a) (oe := oe) xc (hp rfl) hz2 hf) (by rfl) T.m_isinstance (by decide +kernel) (pa_cons (pv 0) (pa_cons (pe_glob (v := .ref _) rfl T.g_BadRow rfl) pa_nil))) (pa_cons (pe_callB (id := "isinstance") (Hx.call_isP (a := a) (oe := oe) xc (hp rfl) hz2 hf) (by rfl) T.m_isinstance (by decide +kernel) (pa_cons (pv 0) (pa_cons (pe_glob (v := .ref _) rfl T.g_BadArrow rfl) pa_nil))) pa_nil))))))
      (pss_cons (ps_set (i := 1) sc__law_kinds.nd rfl (.inl rfl) (pe_op op_cat (pv 1) (pe_lst (pa_cons (pe_callB (id := "isinstance") (Hx.call_isP (a := a) (oe := oe) xc (hp rfl) hz2 hf) (by rfl) T.m_isinstance (by decide +kernel) (pa_cons (pv 0) (pa_cons (pe_glob (v := .ref _) rfl T.g_BadDots rfl) pa_nil))) (pa_cons (pe_callB (id := "isinstance") (Hx.call_isP (a := a) (oe := oe) xc (hp rfl) hz2 hf) (by rfl) T.m_isinstance (by decide +kernel) (pa_cons (pv 0) (pa_cons (pe_glob (v := .ref _) rfl T.g_BadWay rfl) pa_nil))) (pa_cons (pe_callB (id := "isinstance") (Hx.call_isP (a := a) (oe := oe) xc (hp rfl) hz2 hf) (by rfl) T.m_isinstance (by decide +kernel) (pa_cons (pv 0) (pa_cons (pe_glob (v := .ref _) rfl T.g_NoCorner rfl) pa_nil))) pa_nil))))))
      (pss_one (ps_ret (pe_op op_cat (pv 1) (pe_lst (pa_cons (pe_callB (id := "isinstance") (Hx.call_isP (a := a) (oe := oe) xc (hp rfl) hz2 hf) (by rfl) T.m_isinstance (by decide +kernel) (pa_cons (pv 0) (pa_cons (pe_bltn (v := .ty "ValueError") (u := .type "ValueError") (by rfl) T.m_ValueError (by decide +kernel) rfl) pa_nil))) pa_nil)))))))), ?_⟩
    refine ⟨_, rfl, _, _, _, rfl, fun _ h => h, k0, _, rfl, _, _, _, rfl, fun _ h => h, k1, _, rfl, _, _, _, rfl, fun _ h => h, k2, by show 3 ≤ sizeLine; decide, fun p1 n1 => ?_⟩
    refine ⟨_, rfl, _, rfl, _, _, _, rfl, fun _ h => h, k3, _, rfl, _, _, _, rfl, fun _ h => h, k4, _, rfl, _, _, _, rfl, fun _ h => h, k5, by show 3 ≤ sizeLine; decide, fun p2 n2 => ?_⟩
    refine ⟨p1, p2, _, _, rfl, rfl, same_upd n2 _ _ upd_same, upd_same, by show 6 ≤ sizeLine; decide, fun p3 n3 => ?_⟩
    refine ⟨_, rfl, _, rfl, _, _, _, rfl, fun _ h => h, k6, _, rfl, _, _, _, rfl, fun _ h => h, k7, _, rfl, _, _, _, rfl, fun _ h => h, k8, by show 3 ≤ sizeLine; decide, fun p4 n4 => ?_⟩
    refine ⟨p3, p4, _, _, rfl, rfl, same_upd n4 _ _ upd_same, upd_same, by show 9 ≤ sizeLine; decide, fun p5 n5 => ?_⟩
    refine ⟨_, rfl, _, rfl, _, _, _, rfl, fun _ h => h, kv, by show 1 ≤ sizeLine; decide, fun p6 n6 => ?_⟩
    refine ⟨p5, p6, _, _, rfl, rfl, same_upd n6 _ _ upd_same, upd_same, by show 10 ≤ sizeLine; decide, fun p7 n7 => ?_⟩
    exact q _ p7 ((((((same_upd n1).trans (same_upd n2)).trans (same_upd n3)).trans (same_upd n4)).trans (same_upd n5)).trans (same_upd n6) |>.trans (same_upd n7)) upd_same
/-! ### a refusal -/
theorem dp_bools {H : Hp} : ∀ bs : List Bool, DpAll K H (bs.map V.bl) (bs.map PyData.bool)
  | [] => .nil
  | b :: r => .cons (.bl b) (dp_bools r)
theorem dpB {H : Hp} {a : Addr} {bs : List Bool} (h : H a = some (.lst (bs.map V.bl))) : Dp K H (.ref a) (.list (bs.map PyData.bool)) := .lst (.of h) (dp_bools bs)
theorem canLay_bools : ∀ bs : List Bool, PyData.canLayAll0 (bs.map PyData.bool) = true
  | [] => rfl
  | b :: r => by
    rw [List.map_cons, PyData.canLayAll0, canLay_bools r]
    rfl
theorem depth_bools : ∀ bs : List Bool, PyData.depthAll (bs.map PyData.bool) ≤ 1
  | [] => by decide
  | b :: r => by
    have h := depth_bools r
    rw [List.map_cons, PyData.depthAll]
    exact Nat.max_le.mpr ⟨by simp [PyData.depth], h⟩
theorem shapedB (bs : List Bool) : SeqAt.shaped (.list (bs.map PyData.bool)) = true := by
  have h := depth_bools bs
  unfold SeqAt.shaped
  rw [PyData.canLay0, canLay_bools, PyData.depth, decide_eq_true (show PyData.depthAll (bs.map PyData.bool) + 1 ≤ 64 by omega)]
  rfl
theorem eqv_bools : ∀ bs cs : List Bool, PyData.eqvAll (bs.map PyData.bool) (cs.map PyData.bool) = decide (bs = cs)
  | [], [] => rfl
  | [], _ :: _ => rfl
  | _ :: _, [] => rfl
  | b :: r, c :: q => by
    rw [List.map_cons, List.map_cons, PyData.eqvAll, eqv_bools r q]
    cases b <;> cases c <;> (by_cases z : r = q) <;> simp [z, PyData.eqv]
/-- a call of f with v is refused by the class that is due -/
def spRefused (P : Program) (w : World) (K : PySem.W.Frag) (mg : Str → Option Value) (base : Heap) (fa : Nat → Addr) : Sp := fun vs H Q _ => ∃ (f : Addr) (v : V) (n : Nat), n < 9 ∧ vs = [.ref f, v, .int n] ∧ Hx.AskR P w K mg base 6 H f v (fa (28 + n)) ∧ ∀ H', Same H H' → Q (.bl true) H'
def tsR (K : PySem.W.Frag) (fa : Nat → Addr) (a : Addr) (cls : Value) (d : Option Addr) : TS :=
  tRet (tOp (rEqD K) (tCallS (spKinds fa a cls d) (fun _ _ _ _ => False) (tCons (tVar 3) tNil)) (tOp rCat (tLc (iRng1 (tCons (tC (.int 9)) tNil)) (gName 4) tYes (tOp rEq (tVar 4) (tVar 2)) [4]) (tLst (tCons (tC (.bl true)) tNil))))
theorem takesF {X : Cx} : L2N.Takes X (fun _ _ _ _ => False) := fun _ _ x => by
  obtain ⟨_, _, _, _, _, _, _, _, _, _, _, _, _, _, _, _, z⟩ := x
  exact z.elim
theorem ok__law_refused (T : Txt K mg fa fd tk) : FnOk P w K mg base CX0 7 (fa 22) (fd 22) ["_law_ask", "_law_thing", "_law_due"] (spRefused P w K mg base fa) := by
  refine T.F__law_refused.ok sc__law_refused (fun vs H Q E h => ?_) (fun cdv A outer s H vs Q E hr h => ?_)
  · obtain ⟨f, v, n, _, rfl, _⟩ := h
    rfl
  · obtain ⟨f, v, n, hn, rfl, ask, q⟩ := h
    have hrh := L2H.roomH_of hr
    refine ⟨_, pss_cons (L2N.ps_try_as (i := 3) (c := .ref (fa 27)) (Wout := fun _ _ _ _ => False) (tb := fun W => tDrop (Hx.tAsk P w K mg base 6 0 W (tCons (tVar 1) tNil))) (ts := tsR K fa) rfl rfl sc__law_refused.nd rfl rfl ⟨rfl, by decide, .inl T.g_DotError⟩ takesF
      (fun W pn xe tkW pown => pss_one (ps_expr (Hx.pe_ask (i := 0) tkW hr rfl (Or.inl rfl) (pa_cons (pv 1) pa_nil))))
      (fun a oe cls d pn hz hf => pss_one (ps_ret (pe_cmpR (r := rEqD K) (op_eqD (by have := hrh.un; show _ < _; exact Nat.lt_of_le_of_lt (by show A.units + 3 + 64 ≤ A.units + 3 + 16 * 6 + 200; omega) this))
        (Hx.pe_callHp (p := (a, oe)) (ok__law_kinds T hz hf) (L2H.RoomH.mono (j := 1) (k := 6) ⟨hrh.dp, hrh.un⟩ (by decide)) ⟨rfl, by obtain ⟨vs, e⟩ := hf; exact ⟨vs, e, hz.2.2 vs e⟩⟩ List.mem_cons_self (by rfl) T.g__law_kinds T.F__law_kinds.kp T.b__law_kinds (fun _ _ _ _ _ _ _ h => h.elim) (pa_cons (pv 3) pa_nil))
        (pe_op op_cat (Hx.pe_lcH (own := [("_law_kind", 4)]) (g := gName 4) (tt := tYes) (te := tOp rEq (tVar 4) (tVar 2)) (by
            obtain ⟨vs, e⟩ := hf
            exact ⟨(a, oe), ⟨rfl, vs, e, hz.2.2 vs e⟩, List.mem_cons_self⟩) sc__law_refused.nd (L2H.pi_range1H (by rfl) T.m_range (pa_cons pe_int pa_nil)) (blkOk_by (own := [("_law_kind", 4)]) (N := ["_law_ask", "_law_thing", "_law_due", "_law_error", "_law_kind"]) (sc := (defScope s__law_refused)) (by decide +kernel))
            (fun _ _ _ _ _ => (pg_name (i := 4) sc__law_refused.nd rfl (Or.inl rfl))) (fun _ _ _ _ _ => pts_nil) (fun _ _ _ _ _ => pe_cmpR op_eq (pv 4) (pv 2) (nomark _))) (pe_lst (pa_cons pe_bl pa_nil))) (nomark _)))))
      (pss_one (ps_ret pe_bl)), ?_⟩
    refine ⟨f, v, fa (28 + n), rfl, ask, ⟨_, rfl, rfl, LamX.ExtN.refl H, fun H2 sm => ?_⟩⟩
    refine ⟨true, xm_all T hn, fun _ a na => ?_, fun z => nomatch z⟩
    refine ⟨_, rfl, n, hn, rfl, rfl, rfl, fun H3 l s3 hl => ?_⟩
    refine ⟨9, rfl, by decide, by decide, fun D nD => ?_⟩
    refine lc_it (walk_range (lo := 0) (n := 9)) (fun i H' => Same H3 H' ∧ H' D = some (.lst (((List.range i).map (fun k => decide (n = k))).map V.bl))) ⟨same_upd nD, upd_same⟩ (fun _ _ _ _ => True.intro) (fun i x H4 H5 hi hP hY => ?_) (fun H4 hP => ?_)
    · obtain ⟨s4, hD⟩ := hP
      obtain ⟨rfl, rfl⟩ := hY
      refine ⟨rfl, ?_⟩
      refine ⟨_, rfl, _, rfl, rfl, _, hD, ?_, fun y o h => ?_, ?_⟩
      · rw [List.length_map, List.length_map, List.length_range]
        exact small1000 (by omega)
      · rw [upd_ne (ne_of_none h nD)]
        exact s4 y o h
      · rw [upd_same, List.range_succ, List.map_append, List.map_append]
        have e1 : decide (V.int (0 + (i : Int)) = V.int (n : Int)) = decide (n = i) := by
          rw [Bool.eq_iff_iff, dec_vint, decide_eq_true_iff]
          omega
        rw [e1]
        rfl
    · obtain ⟨s4, hD⟩ := hP
      refine ⟨by show 1 ≤ sizeLine; decide, fun p np => ?_⟩
      refine ⟨D, p, _, _, rfl, rfl, same_upd np _ _ hD, upd_same, ?_, fun p2 np2 => ?_⟩
      · rw [List.length_map, List.length_map, List.length_range]
        show 9 + 1 ≤ sizeLine
        decide
      refine ⟨_, _, dpB (bs := kindsB n) (((s4.trans (same_upd np)).trans (same_upd np2)) _ _ hl), dpB (bs := kindsB n) ?_, shapedB _, shapedB _, ?_⟩
      · rw [upd_same]
        unfold kindsB
        rw [List.map_append]
        rfl
      · rw [PyData.eqv, eqv_bools, decide_eq_true rfl]
        exact q _ (((sm.trans s3).trans s4).trans (same_upd np) |>.trans (same_upd np2))
end
end Lw
namespace Lw
open PySem PySem.Spec PyProof.Rows L2 AD
section
variable {P : Program} {w : World} {K : PySem.W.Frag} {mg : Str → Option Value} {base : Heap}
variable {fa : Nat → Addr} {fd : Nat → FuncData} {tk : Nat → Tok}
/-! ### what is asked of all -/
/-- each ask refuses each thing by the class that is due -/
def spAll (P : Program) (w : World) (K : PySem.W.Frag) (mg : Str → Option Value) (base : Heap) (fa : Nat → Addr) : Sp := fun vs H Q _ => ∃ (la lt : Addr) (fs ts : List V) (n : Nat), n < 9 ∧ vs = [.ref la, .ref lt, .int n] ∧ H la = some (.lst fs) ∧ H lt = some (.lst ts) ∧ ts.length ≤ 1000 ∧
  (∀ x ∈ fs, ∃ f, x = .ref f ∧ ∀ v ∈ ts, Hx.AskR P w K mg base 6 H f v (fa (28 + n))) ∧ ∀ H', Same H H' → Q (.bl true) H'
theorem ok__law_all (T : Txt K mg fa fd tk) : FnOk P w K mg base CX0 8 (fa 23) (fd 23) ["_law_asks", "_law_things", "_law_due"] (spAll P w K mg base fa) := by
  refine T.F__law_all.ok sc__law_all (fun vs H Q E h => ?_) (fun cdv A outer s H vs Q E hr h => ?_)
  · obtain ⟨la, lt, fs, ts, n, _, rfl, _⟩ := h
    rfl
  · obtain ⟨la, lt, fs, ts, n, hn, rfl, hla, hlt, hl, ha, q⟩ := h
    refine ⟨_, (pss_cons (ps_for PassesOwn.never rfl (pi_list (pv 0)) (pg_name (i := 3) sc__law_all.nd rfl (.inr rfl)) (pss_one (ps_if (pt_not (pt_val (pe_callB (cr_all rfl) (by rfl) T.m_all (by decide +kernel) (pa_cons (pe_lc (own := [("_law_thing", 4)]) (g := gName 4) (tt := tYes) (by rfl) sc__law_all.nd (pi_list (pv 1)) (blkOk_by (own := [("_law_thing", 4)]) (N := ["_law_asks", "_law_things", "_law_due", "_law_ask", "_law_thing"]) (sc := (defScope s__law_all)) (by decide +kernel)) (fun _ _ _ _ _ => (pg_name (i := 4) sc__law_all.nd rfl (Or.inl rfl))) (fun _ _ _ _ _ => pts_nil) (fun _ _ _ _ _ => (pe_call (sp := spRefused P w K mg base fa) (ok__law_refused (P := P) (w := w) (base := base) T) (hr.mono (by decide)) (by rfl) T.g__law_refused T.F__law_refused.kp T.b__law_refused .nil pass0 (pa_cons (pv 3) (pa_cons (pv 4) (pa_cons (pv 2) pa_nil)))))) pa_nil)))) (pss_one (ps_ret pe_bl)) pss_nil)))
      (pss_one (ps_ret pe_bl))), ?_⟩
    refine ⟨_, rfl, la, rfl, ⟨_, .of hla⟩, ?_⟩
    refine for_it (walk_list (xs := fs)) (fun i σ H' => Same H H' ∧ ∃ y3 y4, σ = [some (.ref la), some (.ref lt), some (.int (n : Int)), y3, y4]) ⟨Same.refl _, none, none, rfl⟩ (fun i σ H' _ hP => .of (hP.1 _ _ hla)) (fun i x σ H2 H3 hi hP hY => ?_) (fun σ H2 hP => ?_)
    · obtain ⟨s2, y3, y4, rfl⟩ := hP
      obtain ⟨rfl, hx⟩ := hY
      obtain ⟨f, rfl, ak⟩ := ha x (List.mem_of_getElem? hx)
      refine ⟨_, rfl, lt, rfl, ⟨_, .of (s2 _ _ hlt)⟩, fun D nD => ?_⟩
      refine lc_it (walk_list (xs := ts)) (fun i H' => Same H3 H' ∧ H' D = some (.lst ((List.replicate i true).map V.bl))) ⟨same_upd nD, upd_same⟩ (fun i H' _ hP => .of ((s2.trans hP.1) _ _ hlt)) (fun i v H4 H5 hi hP hY => ?_) (fun H4 hP => ?_)
      · obtain ⟨s4, hD⟩ := hP
        obtain ⟨rfl, hv⟩ := hY
        refine ⟨rfl, ?_⟩
        refine ⟨_, rfl, _, rfl, _, rfl, f, v, n, hn, rfl, (ak v (List.mem_of_getElem? hv)).ext (extN_same (s2.trans s4)), fun H6 s6 => ⟨_, s6 _ _ hD, ?_, fun y o h => ?_, ?_⟩⟩
        · rw [List.length_map, List.length_replicate]
          exact small1000 (by omega)
        · rw [upd_ne (ne_of_none h nD)]
          exact s6 _ _ (s4 y o h)
        · rw [upd_same, List.replicate_succ', List.map_append]
          rfl
      · obtain ⟨s4, hD⟩ := hP
        refine ⟨D, _, rfl, .of hD, _, rfl, ?_⟩
        rw [show (List.replicate ts.length true).all id = true by simp]
        exact iteF ⟨s2.trans s4, _, _, rfl⟩
    · obtain ⟨s2, y3, y4, rfl⟩ := hP
      exact q _ s2
theorem nwB {H : Hp} {b : Bool} : NW K H (.bl b) := ⟨rfl, "bool", .base (.bl _), by decide⟩
theorem nwN {H : Hp} : NW K H .non := ⟨rfl, "NoneType", .base .non, by decide⟩
theorem nwS {H : Hp} {x : Str} : NW K H (.str x) := ⟨rfl, "str", .base (.str _), by decide⟩
theorem nwL {H : Hp} {a : Addr} {xs : List V} (h : H a = some (.lst xs)) : NW K H (.ref a) := ⟨rfl, "list", .base (.lst h), by decide⟩
theorem nwT {H : Hp} {a : Addr} {xs : List V} (h : H a = some (.tup xs)) : NW K H (.ref a) := ⟨rfl, "tuple", .base (.tup h), by decide⟩
theorem nwD {H : Hp} {a : Addr} {xs : List (Key × V)} (h : H a = some (.dK xs)) : NW K H (.ref a) := ⟨rfl, "dict", .base (.dK h), by decide⟩
/-- seven things that are no whole numbers -/
def spNoW (K : PySem.W.Frag) : Sp := fun vs H Q _ => vs = [] ∧ ∀ (H' : Hp) (a : Addr) (xs : List V), Same H H' → H' a = some (.lst xs) → xs.length = 7 → (∀ x ∈ xs, NW K H' x) → Q (.ref a) H'
theorem ok__law_no_wholes (T : Txt K mg fa fd tk) : FnOk P w K mg base CX0 1 (fa 24) (fd 24) [] (spNoW K) := by
  refine T.F__law_no_wholes.ok sc__law_no_wholes (fun vs H Q E h => ?_) (fun cdv A outer s H vs Q E hr h => ?_)
  · obtain ⟨rfl, _⟩ := h
    rfl
  · obtain ⟨rfl, q⟩ := h
    refine ⟨_, (pss_one (ps_ret (pe_lst (pa_cons pe_non (pa_cons pe_str (pa_cons pe_bl (pa_cons pe_bl (pa_cons (pe_lst (pa_cons pe_int pa_nil)) (pa_cons (pe_tup (pa_cons pe_int pa_nil)) (pa_cons pe_dnewK pa_nil)))))))))), ?_⟩
    refine ⟨by show 1 ≤ sizeLine; decide, fun l nl => ⟨by show 1 ≤ sizeLine; decide, fun t nt => fun d nd => ⟨by show 7 ≤ sizeLine; decide, fun a na => ?_⟩⟩⟩
    have s1 := same_upd (o := .lst [V.int 3]) nl
    have s2 := same_upd (o := .tup [V.int 3]) nt
    have s3 := same_upd (o := .dK []) nd
    have s4 := same_upd (o := .lst [V.non, V.str "3", V.bl true, V.bl false, V.ref l, V.ref t, V.ref d]) na
    refine q _ a _ (((s1.trans s2).trans s3).trans s4) upd_same rfl fun x hx => ?_
    simp only [List.mem_cons, List.not_mem_nil, or_false] at hx
    rcases hx with rfl | rfl | rfl | rfl | rfl | rfl | rfl
    · exact nwN
    · exact nwS
    · exact nwB
    · exact nwB
    · exact nwL (((s2.trans s3).trans s4) _ _ upd_same)
    · exact nwT ((s3.trans s4) _ _ upd_same)
    · exact nwD (s4 _ _ upd_same)
end
end Lw
namespace Lw
open PySem PySem.Spec PyProof.Rows L2 AD
section
variable {P : Program} {w : World} {K : PySem.W.Frag} {mg : Str → Option Value} {base : Heap}
variable {fa : Nat → Addr} {fd : Nat → FuncData} {tk : Nat → Tok}
/-- the lambdas' tables -/
def TL (P1 P2 : Addr) : List NdefX.NTab := [(P1, fun _ _ => (("_law_plans_right" : Str) ++ ".<locals>.") ++ "<lambda>"), (P2, fun _ _ => (("law" : Str) ++ ".<locals>.") ++ "<lambda>")]
theorem cO_ne {c : Addr} {q : Str} (ps : Array Value) : LamX.CodeO c q ≠ .tbl ps := fun z => by
  unfold LamX.CodeO at z
  cases z
def spPlans (P1 P2 : Addr) : Sp := fun vs H Q _ => ∃ m : Nat, vs = [.int m] ∧ NdefX.TabsN (TL P1 P2) H ∧ ∀ H', NdefX.TabsN (TL P1 P2) H' → LamX.ExtN H H' → Q (.bl true) H'
theorem ok__law_plans_right (T : Txt K mg fa fd tk) {cL P1 P2 : Addr} (hcd : (fd 25).code = .ref cL) (TB : LamX.TabB base mg cL P1) (n12 : P1 ≠ P2) : FnOk P w K mg base CX0 9 (fa 25) (fd 25) ["_law_more"] (spPlans P1 P2) := by
  have hTm : (P1, fun _ _ => (("_law_plans_right" : Str) ++ ".<locals>.") ++ "<lambda>") ∈ TL P1 P2 := List.mem_cons_self
  have hTu : ∀ p ∈ TL P1 P2, p.1 = P1 → p.2 = fun _ _ => (("_law_plans_right" : Str) ++ ".<locals>.") ++ "<lambda>" := fun p hp e => by
    simp only [TL, List.mem_cons, List.not_mem_nil, or_false] at hp
    rcases hp with rfl | rfl
    · rfl
    · exact absurd e.symm n12
  refine Hx.okC T.F__law_plans_right hcd sc__law_plans_right (fun vs H Q E h => ?_) (fun A outer s H vs Q E hr h => ?_)
  · obtain ⟨m, rfl, _⟩ := h
    rfl
  · obtain ⟨m, rfl, hT, q⟩ := h
    refine ⟨_, (pss_cons (ps_set (i := 1) sc__law_plans_right.nd rfl (.inl rfl) (pe_op op_cat (pe_call0 (ok__law_no_wholes T) (hr.mono (by decide)) (by rfl) T.g__law_no_wholes T.F__law_no_wholes.kp T.b__law_no_wholes .nil pass0) (pe_lst (pa_cons pe_int (pa_cons pe_int (pa_cons pe_int (pa_cons (pe_un un_neg pe_int) (pa_cons pe_int (pa_cons pe_int (pa_cons pe_int (pa_cons pe_int (pa_cons (pe_op op_mulB pe_int pe_int) (pa_cons pe_int (pa_cons (pe_op op_add pe_int (pv 0)) (pa_cons (pe_op op_sub (pe_un un_neg pe_int) (pv 0)) pa_nil)))))))))))))))
      (pss_cons (ps_set (i := 2) sc__law_plans_right.nd rfl (.inl rfl) (pe_lst (pa_cons (pe_glob (v := .ref _) rfl T.g_least_root rfl) (pa_cons (Hx.pe_lam0 ((("_law_plans_right" : Str) ++ ".<locals>.") ++ "<lambda>") TB rfl hTm rfl rfl hTu rfl (by decide +kernel)) (pa_cons (Hx.pe_lam0 ((("_law_plans_right" : Str) ++ ".<locals>.") ++ "<lambda>") TB rfl hTm rfl rfl hTu rfl (by decide +kernel)) pa_nil)))))
      (pss_cons (ps_set (i := 2) sc__law_plans_right.nd rfl (.inl rfl) (pe_op op_cat (pv 2) (pe_lst (pa_cons (Hx.pe_lam0 ((("_law_plans_right" : Str) ++ ".<locals>.") ++ "<lambda>") TB rfl hTm rfl rfl hTu rfl (by decide +kernel)) (pa_cons (Hx.pe_lam0 ((("_law_plans_right" : Str) ++ ".<locals>.") ++ "<lambda>") TB rfl hTm rfl rfl hTu rfl (by decide +kernel)) pa_nil)))))
      (pss_cons (ps_set (i := 2) sc__law_plans_right.nd rfl (.inl rfl) (pe_op op_cat (pv 2) (pe_lst (pa_cons (Hx.pe_lam0 ((("_law_plans_right" : Str) ++ ".<locals>.") ++ "<lambda>") TB rfl hTm rfl rfl hTu rfl (by decide +kernel)) (pa_cons (Hx.pe_lam0 ((("_law_plans_right" : Str) ++ ".<locals>.") ++ "<lambda>") TB rfl hTm rfl rfl hTu rfl (by decide +kernel)) pa_nil)))))
      (pss_cons (ps_if (PW.pt (pw_or (pt_not (pt_val (pe_call (sp := spAll P w K mg base fa) (ok__law_all (P := P) (w := w) (base := base) T) (hr.mono (by decide)) (by rfl) T.g__law_all T.F__law_all.kp T.b__law_all .nil pass0 (pa_cons (pv 2) (pa_cons (pv 1) (pa_cons pe_int pa_nil)))))) (pw_or1 (pt_not (pt_val (pe_call (sp := spAll P w K mg base fa) (ok__law_all (P := P) (w := w) (base := base) T) (hr.mono (by decide)) (by rfl) T.g__law_all T.F__law_all.kp T.b__law_all .nil pass0 (pa_cons (pe_op op_cat (pe_slice sl_list (pv 2) (po_some pe_int) (po_some pe_int)) (pe_slice sl_list (pv 2) (po_some pe_int) po_none)) (pa_cons (pe_lst (pa_cons pe_int (pa_cons pe_int (pa_cons pe_int pa_nil)))) (pa_cons pe_int pa_nil))))))))) (pss_one (ps_ret pe_bl)) pss_nil)
      (pss_cons (ps_set (i := 3) sc__law_plans_right.nd rfl (.inl rfl) (pe_op op_cat (pe_call0 (ok__law_no_wholes T) (hr.mono (by decide)) (by rfl) T.g__law_no_wholes T.F__law_no_wholes.kp T.b__law_no_wholes .nil pass0) (pe_lst (pa_cons pe_int (pa_cons pe_int (pa_cons pe_int (pa_cons pe_int (pa_cons pe_int (pa_cons pe_int (pa_cons pe_int (pa_cons (pe_un un_neg pe_int) (pa_cons (pe_op op_add pe_int (pv 0)) (pa_cons (pe_un un_neg (pv 0)) pa_nil)))))))))))))
      (pss_cons (ps_set (i := 2) sc__law_plans_right.nd rfl (.inl rfl) (pe_lst (pa_cons (Hx.pe_lam0 ((("_law_plans_right" : Str) ++ ".<locals>.") ++ "<lambda>") TB rfl hTm rfl rfl hTu rfl (by decide +kernel)) (pa_cons (Hx.pe_lam0 ((("_law_plans_right" : Str) ++ ".<locals>.") ++ "<lambda>") TB rfl hTm rfl rfl hTu rfl (by decide +kernel)) pa_nil))))
      (pss_cons (ps_set (i := 2) sc__law_plans_right.nd rfl (.inl rfl) (pe_op op_cat (pv 2) (pe_lst (pa_cons (Hx.pe_lam0 ((("_law_plans_right" : Str) ++ ".<locals>.") ++ "<lambda>") TB rfl hTm rfl rfl hTu rfl (by decide +kernel)) (pa_cons (Hx.pe_lam0 ((("_law_plans_right" : Str) ++ ".<locals>.") ++ "<lambda>") TB rfl hTm rfl rfl hTu rfl (by decide +kernel)) pa_nil)))))
      (pss_cons (ps_set (i := 2) sc__law_plans_right.nd rfl (.inl rfl) (pe_op op_cat (pv 2) (pe_lst (pa_cons (Hx.pe_lam0 ((("_law_plans_right" : Str) ++ ".<locals>.") ++ "<lambda>") TB rfl hTm rfl rfl hTu rfl (by decide +kernel)) (pa_cons (Hx.pe_lam0 ((("_law_plans_right" : Str) ++ ".<locals>.") ++ "<lambda>") TB rfl hTm rfl rfl hTu rfl (by decide +kernel)) pa_nil)))))
      (pss_cons (ps_if (pt_not (pt_val (pe_call (sp := spAll P w K mg base fa) (ok__law_all (P := P) (w := w) (base := base) T) (hr.mono (by decide)) (by rfl) T.g__law_all T.F__law_all.kp T.b__law_all .nil pass0 (pa_cons (pv 2) (pa_cons (pv 3) (pa_cons pe_int pa_nil)))))) (pss_one (ps_ret pe_bl)) pss_nil)
      (pss_cons (ps_if (pt_not (pt_val (pe_call (sp := spAll P w K mg base fa) (ok__law_all (P := P) (w := w) (base := base) T) (hr.mono (by decide)) (by rfl) T.g__law_all T.F__law_all.kp T.b__law_all .nil pass0 (pa_cons (pe_lst (pa_cons (Hx.pe_lam0 ((("_law_plans_right" : Str) ++ ".<locals>.") ++ "<lambda>") TB rfl hTm rfl rfl hTu rfl (by decide +kernel)) pa_nil)) (pa_cons (pe_op op_cat (pe_call0 (ok__law_no_wholes T) (hr.mono (by decide)) (by rfl) T.g__law_no_wholes T.F__law_no_wholes.kp T.b__law_no_wholes .nil pass0) (pe_lst (pa_cons pe_int (pa_cons pe_int (pa_cons (pe_un un_neg pe_int) (pa_cons (pe_op op_add pe_int (pv 0)) (pa_cons (pe_un un_neg (pv 0)) pa_nil))))))) (pa_cons pe_int pa_nil)))))) (pss_one (ps_ret pe_bl)) pss_nil)
      (pss_cons (ps_set (i := 2) sc__law_plans_right.nd rfl (.inl rfl) (pe_lst (pa_cons (Hx.pe_lam0 ((("_law_plans_right" : Str) ++ ".<locals>.") ++ "<lambda>") TB rfl hTm rfl rfl hTu rfl (by decide +kernel)) (pa_cons (Hx.pe_lam0 ((("_law_plans_right" : Str) ++ ".<locals>.") ++ "<lambda>") TB rfl hTm rfl rfl hTu rfl (by decide +kernel)) pa_nil))))
      (pss_cons (ps_set (i := 2) sc__law_plans_right.nd rfl (.inl rfl) (pe_op op_cat (pv 2) (pe_lst (pa_cons (Hx.pe_lam0 ((("_law_plans_right" : Str) ++ ".<locals>.") ++ "<lambda>") TB rfl hTm rfl rfl hTu rfl (by decide +kernel)) (pa_cons (Hx.pe_lam0 ((("_law_plans_right" : Str) ++ ".<locals>.") ++ "<lambda>") TB rfl hTm rfl rfl hTu rfl (by decide +kernel)) pa_nil)))))
      (pss_one (ps_ret (pe_call (sp := spAll P w K mg base fa) (ok__law_all (P := P) (w := w) (base := base) T) (hr.mono (by decide)) (by rfl) T.g__law_all T.F__law_all.kp T.b__law_all .nil pass0 (pa_cons (pv 2) (pa_cons (pe_call0 (ok__law_no_wholes T) (hr.mono (by decide)) (by rfl) T.g__law_no_wholes T.F__law_no_wholes.kp T.b__law_no_wholes .nil pass0) (pa_cons pe_int pa_nil))))))))))))))))))), ?_⟩
    refine ⟨rfl, fun H1 a1 xs1 s1 h1 l1 nw1 => ?_⟩
    refine ⟨_, rfl, _, _, rfl, rfl, mulL (by decide) (by decide), _, rfl, _, _, rfl, rfl, _, rfl, _, rfl, _, _, rfl, rfl, by show 12 ≤ sizeLine; decide, fun t2 w2 => ?_⟩
    have u2 := same_upd (o := .lst [V.int 0, V.int 1, V.int 2, V.int (-7), V.int 4, V.int 9, V.int 15, V.int 49, V.int (1997 * 2), V.int 2003, V.int (2003 + (m : Int)), V.int (-3 - (m : Int))]) w2
    have v2 : upd H1 t2 (.lst [V.int 0, V.int 1, V.int 2, V.int (-7), V.int 4, V.int 9, V.int 15, V.int 49, V.int (1997 * 2), V.int 2003, V.int (2003 + (m : Int)), V.int (-3 - (m : Int))]) t2 = some (.lst [V.int 0, V.int 1, V.int 2, V.int (-7), V.int 4, V.int 9, V.int 15, V.int 49, V.int (1997 * 2), V.int 2003, V.int (2003 + (m : Int)), V.int (-3 - (m : Int))]) := upd_same
    generalize upd H1 t2 (.lst [V.int 0, V.int 1, V.int 2, V.int (-7), V.int 4, V.int 9, V.int 15, V.int 49, V.int (1997 * 2), V.int 2003, V.int (2003 + (m : Int)), V.int (-3 - (m : Int))]) = G2 at u2 v2 ⊢
    refine ⟨a1, t2, xs1, [V.int 0, V.int 1, V.int 2, V.int (-7), V.int 4, V.int 9, V.int 15, V.int 49, V.int (1997 * 2), V.int 2003, V.int (2003 + (m : Int)), V.int (-3 - (m : Int))], rfl, rfl, (u2 _ _ (h1)), (v2), by rw [l1]; show 19 ≤ sizeLine; decide, fun t3 w3 => ?_⟩
    have u3 := same_upd (o := .lst (xs1 ++ [V.int 0, V.int 1, V.int 2, V.int (-7), V.int 4, V.int 9, V.int 15, V.int 49, V.int (1997 * 2), V.int 2003, V.int (2003 + (m : Int)), V.int (-3 - (m : Int))])) w3
    have v3 : upd G2 t3 (.lst (xs1 ++ [V.int 0, V.int 1, V.int 2, V.int (-7), V.int 4, V.int 9, V.int 15, V.int 49, V.int (1997 * 2), V.int 2003, V.int (2003 + (m : Int)), V.int (-3 - (m : Int))])) t3 = some (.lst (xs1 ++ [V.int 0, V.int 1, V.int 2, V.int (-7), V.int 4, V.int 9, V.int 15, V.int 49, V.int (1997 * 2), V.int 2003, V.int (2003 + (m : Int)), V.int (-3 - (m : Int))])) := upd_same
    generalize upd G2 t3 (.lst (xs1 ++ [V.int 0, V.int 1, V.int 2, V.int (-7), V.int 4, V.int 9, V.int 15, V.int 49, V.int (1997 * 2), V.int 2003, V.int (2003 + (m : Int)), V.int (-3 - (m : Int))])) = G3 at u3 v3 ⊢
    have bp : ∀ (H' : Hp), LamX.ExtN G3 H' → ∀ v ∈ xs1 ++ [V.int 0, V.int 1, V.int 2, V.int (-7), V.int 4, V.int 9, V.int 15, V.int 49, V.int (1997 * 2), V.int 2003, V.int (2003 + (m : Int)), V.int (-3 - (m : Int))], BadP K H' 2000 v := fun H' e v hv => by
      rcases List.mem_append.mp hv with h | h
      · exact .inl ((nw1 v h).ext ((((LamX.ExtN.refl _).trans (extN_same u2)).trans (extN_same u3)).trans e))
      · simp only [List.mem_cons, List.not_mem_nil, or_false] at h
        rcases h with rfl | rfl | rfl | rfl | rfl | rfl | rfl | rfl | rfl | rfl | rfl | rfl
        · exact .inr ⟨_, rfl, .inl (by decide)⟩
        · exact .inr ⟨_, rfl, .inl (by decide)⟩
        · exact .inr ⟨_, rfl, .inl (by decide)⟩
        · exact .inr ⟨_, rfl, .inl (by decide)⟩
        · exact .inr ⟨_, rfl, .inr (.inr ⟨by decide, by decide, by decide +kernel⟩)⟩
        · exact .inr ⟨_, rfl, .inr (.inr ⟨by decide, by decide, by decide +kernel⟩)⟩
        · exact .inr ⟨_, rfl, .inr (.inr ⟨by decide, by decide, by decide +kernel⟩)⟩
        · exact .inr ⟨_, rfl, .inr (.inr ⟨by decide, by decide, by decide +kernel⟩)⟩
        · exact .inr ⟨_, rfl, .inr (.inl (by decide))⟩
        · exact .inr ⟨_, rfl, .inr (.inl (by decide))⟩
        · exact .inr ⟨_, rfl, .inr (.inl (by show ((2000 : Nat) : Int) < 2003 + (m : Int); omega))⟩
        · exact .inr ⟨_, rfl, .inl (by omega)⟩
    have bq : ∀ (H' : Hp), LamX.ExtN G3 H' → ∀ v ∈ xs1 ++ [V.int 0, V.int 1, V.int 2, V.int (-7), V.int 4, V.int 9, V.int 15, V.int 49, V.int (1997 * 2), V.int 2003, V.int (2003 + (m : Int)), V.int (-3 - (m : Int))], BadP K H' 61 v := fun H' e v hv => by
      rcases List.mem_append.mp hv with h | h
      · exact .inl ((nw1 v h).ext ((((LamX.ExtN.refl _).trans (extN_same u2)).trans (extN_same u3)).trans e))
      · simp only [List.mem_cons, List.not_mem_nil, or_false] at h
        rcases h with rfl | rfl | rfl | rfl | rfl | rfl | rfl | rfl | rfl | rfl | rfl | rfl
        · exact .inr ⟨_, rfl, .inl (by decide)⟩
        · exact .inr ⟨_, rfl, .inl (by decide)⟩
        · exact .inr ⟨_, rfl, .inl (by decide)⟩
        · exact .inr ⟨_, rfl, .inl (by decide)⟩
        · exact .inr ⟨_, rfl, .inr (.inr ⟨by decide, by decide, by decide +kernel⟩)⟩
        · exact .inr ⟨_, rfl, .inr (.inr ⟨by decide, by decide, by decide +kernel⟩)⟩
        · exact .inr ⟨_, rfl, .inr (.inr ⟨by decide, by decide, by decide +kernel⟩)⟩
        · exact .inr ⟨_, rfl, .inr (.inr ⟨by decide, by decide, by decide +kernel⟩)⟩
        · exact .inr ⟨_, rfl, .inr (.inl (by decide))⟩
        · exact .inr ⟨_, rfl, .inr (.inl (by decide))⟩
        · exact .inr ⟨_, rfl, .inr (.inl (by show ((61 : Nat) : Int) < 2003 + (m : Int); omega))⟩
        · exact .inr ⟨_, rfl, .inl (by omega)⟩
    have A0 : ∀ (H' : Hp) (v : V), BadP K H' 2000 v → Hx.AskR P w K mg base 6 H' (fa 6) v (fa 28) := fun H' v b => (Hx.ask_fun T.F_least_root (xok_least_root T) T.b_least_root fun H1 e1 => ⟨v, rfl, b.ext e1, rfl, rfl, Same.refl _⟩).mono (by decide)
    refine ⟨(((hT.ext s1).ext u2).ext u3), fun f4 c4 G4 e4 n4 T4 nf4 hf4 hc4 => ?_⟩
    have A4 : ∀ (H' : Hp) (v : V), LamX.ExtN G4 H' → BadP K H' 2000 v → Hx.AskR P w K mg base 6 H' f4 v (fa 28) := fun H' v e b => Hx.ask_of (k := 5) (NdefX.nscope_by (by dsimp only; decide +kernel)) (fun _ _ us h => match us, h with | [_], _ => rfl) rfl (e _ _ hf4 Hx.lamO_ne) (e _ _ hc4 cO_ne) fun A outer s H1 hr e1 => ⟨_, (pe_callS (xok_is_root T) (hr.mono (by decide)) (by rfl) T.g_is_root T.F_is_root.kp T.b_is_root (L2N.passAt (L2N.takes_of rfl rfl rfl rfl)) (pa_cons (pv 0) (pa_cons pe_non pa_nil))), ⟨_, rfl, v, .non, rfl, .inl ⟨b.ext e1, rfl, rfl, Same.refl _⟩⟩⟩
    refine ⟨T4, fun f5 c5 G5 e5 n5 T5 nf5 hf5 hc5 => ?_⟩
    have A5 : ∀ (H' : Hp) (v : V), LamX.ExtN G5 H' → BadP K H' 2000 v → Hx.AskR P w K mg base 6 H' f5 v (fa 28) := fun H' v e b => Hx.ask_of (k := 5) (NdefX.nscope_by (by dsimp only; decide +kernel)) (fun _ _ us h => match us, h with | [_], _ => rfl) rfl (e _ _ hf5 Hx.lamO_ne) (e _ _ hc5 cO_ne) fun A outer s H1 hr e1 => ⟨_, (pe_callS (xok_row_of T) (hr.mono (by decide)) (by rfl) T.g_row_of T.F_row_of.kp T.b_row_of (L2N.passAt (L2N.takes_of rfl rfl rfl rfl)) (pa_cons (pv 0) (pa_cons pe_non (pa_cons pe_non (pa_cons pe_non pa_nil))))), ⟨_, rfl, v, .non, .non, .non, rfl, .inl ⟨_, .inl ⟨b.ext e1, rfl⟩, rfl, rfl, Same.refl _⟩⟩⟩
    refine ⟨by show 3 ≤ sizeLine; decide, fun t6 w6 => ?_⟩
    have u6 := same_upd (o := .lst [V.ref (fa 6), V.ref f4, V.ref f5]) w6
    have v6 : upd G5 t6 (.lst [V.ref (fa 6), V.ref f4, V.ref f5]) t6 = some (.lst [V.ref (fa 6), V.ref f4, V.ref f5]) := upd_same
    generalize upd G5 t6 (.lst [V.ref (fa 6), V.ref f4, V.ref f5]) = G6 at u6 v6 ⊢
    refine ⟨_, rfl, (T5.ext u6), fun f7 c7 G7 e7 n7 T7 nf7 hf7 hc7 => ?_⟩
    have A7 : ∀ (H' : Hp) (v : V), LamX.ExtN G7 H' → BadP K H' 2000 v → Hx.AskR P w K mg base 6 H' f7 v (fa 28) := fun H' v e b => Hx.ask_of (k := 5) (NdefX.nscope_by (by dsimp only; decide +kernel)) (fun _ _ us h => match us, h with | [_], _ => rfl) rfl (e _ _ hf7 Hx.lamO_ne) (e _ _ hc7 cO_ne) fun A outer s H1 hr e1 => ⟨_, (pe_callS (xok_column_of T) (hr.mono (by decide)) (by rfl) T.g_column_of T.F_column_of.kp T.b_column_of (L2N.passAt (L2N.takes_of rfl rfl rfl rfl)) (pa_cons (pv 0) (pa_cons pe_non (pa_cons pe_non (pa_cons pe_non pa_nil))))), ⟨_, rfl, v, .non, .non, .non, rfl, .inl ⟨_, .inl ⟨b.ext e1, rfl⟩, rfl, rfl, Same.refl _⟩⟩⟩
    refine ⟨T7, fun f8 c8 G8 e8 n8 T8 nf8 hf8 hc8 => ?_⟩
    have A8 : ∀ (H' : Hp) (v : V), LamX.ExtN G8 H' → BadP K H' 61 v → Hx.AskR P w K mg base 6 H' f8 v (fa 28) := fun H' v e b => Hx.ask_of (k := 5) (NdefX.nscope_by (by dsimp only; decide +kernel)) (fun _ _ us h => match us, h with | [_], _ => rfl) rfl (e _ _ hf8 Hx.lamO_ne) (e _ _ hc8 cO_ne) fun A outer s H1 hr e1 => ⟨_, (pe_callS (xok_dots_of T) (hr.mono (by decide)) (by rfl) T.g_dots_of T.F_dots_of.kp T.b_dots_of (L2N.passAt (L2N.takes_of rfl rfl rfl rfl)) (pa_cons (pv 0) (pa_cons pe_non (pa_cons pe_non pa_nil)))), ⟨_, rfl, v, .non, .non, rfl, _, .inl ⟨b.ext e1, rfl⟩, rfl, rfl, Same.refl _⟩⟩
    refine ⟨by show 2 ≤ sizeLine; decide, fun t9 w9 => ?_⟩
    have u9 := same_upd (o := .lst [V.ref f7, V.ref f8]) w9
    have v9 : upd G8 t9 (.lst [V.ref f7, V.ref f8]) t9 = some (.lst [V.ref f7, V.ref f8]) := upd_same
    generalize upd G8 t9 (.lst [V.ref f7, V.ref f8]) = G9 at u9 v9 ⊢
    refine ⟨t6, t9, [V.ref (fa 6), V.ref f4, V.ref f5], [V.ref f7, V.ref f8], rfl, rfl, (u9 _ _ (e8 _ _ (e7 _ _ (v6) (fun _ z => nomatch z)) (fun _ z => nomatch z))), (v9), by show 5 ≤ sizeLine; decide, fun t10 w10 => ?_⟩
    have u10 := same_upd (o := .lst ([V.ref (fa 6), V.ref f4, V.ref f5] ++ [V.ref f7, V.ref f8])) w10
    have v10 : upd G9 t10 (.lst ([V.ref (fa 6), V.ref f4, V.ref f5] ++ [V.ref f7, V.ref f8])) t10 = some (.lst [V.ref (fa 6), V.ref f4, V.ref f5, V.ref f7, V.ref f8]) := upd_same
    generalize upd G9 t10 (.lst ([V.ref (fa 6), V.ref f4, V.ref f5] ++ [V.ref f7, V.ref f8])) = G10 at u10 v10 ⊢
    refine ⟨_, rfl, ((T8.ext u9).ext u10), fun f11 c11 G11 e11 n11 T11 nf11 hf11 hc11 => ?_⟩
    have A11 : ∀ (H' : Hp) (v : V), LamX.ExtN G11 H' → BadP K H' 2000 v → Hx.AskR P w K mg base 6 H' f11 v (fa 28) := fun H' v e b => Hx.ask_of (k := 5) (NdefX.nscope_by (by dsimp only; decide +kernel)) (fun _ _ us h => match us, h with | [_], _ => rfl) rfl (e _ _ hf11 Hx.lamO_ne) (e _ _ hc11 cO_ne) fun A outer s H1 hr e1 => ⟨_, (pe_callS (xok_arrow_of T) (hr.mono (by decide)) (by rfl) T.g_arrow_of T.F_arrow_of.kp T.b_arrow_of (L2N.passAt (L2N.takes_of rfl rfl rfl rfl)) (pa_cons (pv 0) (pa_cons pe_non (pa_cons pe_non (pa_cons pe_non (pa_cons pe_non pa_nil)))))), ⟨_, rfl, v, .non, .non, .non, .non, rfl, .inl ⟨_, .inl ⟨b.ext e1, rfl⟩, rfl, rfl, Same.refl _⟩⟩⟩
    refine ⟨T11, fun f12 c12 G12 e12 n12 T12 nf12 hf12 hc12 => ?_⟩
    have A12 : ∀ (H' : Hp) (v : V), LamX.ExtN G12 H' → BadP K H' 61 v → Hx.AskR P w K mg base 6 H' f12 v (fa 28) := fun H' v e b => Hx.ask_of (k := 5) (NdefX.nscope_by (by dsimp only; decide +kernel)) (fun _ _ us h => match us, h with | [_], _ => rfl) rfl (e _ _ hf12 Hx.lamO_ne) (e _ _ hc12 cO_ne) fun A outer s H1 hr e1 => ⟨_, (pe_callS (xok_crossed T) (hr.mono (by decide)) (by rfl) T.g_crossed T.F_crossed.kp T.b_crossed (L2N.passAt (L2N.takes_of rfl rfl rfl rfl)) (pa_cons (pv 0) (pa_cons pe_non (pa_cons pe_non pa_nil)))), ⟨_, rfl, v, .non, .non, rfl, .inl ⟨b.ext e1, rfl, rfl, Same.refl _⟩⟩⟩
    refine ⟨by show 2 ≤ sizeLine; decide, fun t13 w13 => ?_⟩
    have u13 := same_upd (o := .lst [V.ref f11, V.ref f12]) w13
    have v13 : upd G12 t13 (.lst [V.ref f11, V.ref f12]) t13 = some (.lst [V.ref f11, V.ref f12]) := upd_same
    generalize upd G12 t13 (.lst [V.ref f11, V.ref f12]) = G13 at u13 v13 ⊢
    refine ⟨t10, t13, [V.ref (fa 6), V.ref f4, V.ref f5, V.ref f7, V.ref f8], [V.ref f11, V.ref f12], rfl, rfl, (u13 _ _ (e12 _ _ (e11 _ _ (v10) (fun _ z => nomatch z)) (fun _ z => nomatch z))), (v13), by show 7 ≤ sizeLine; decide, fun t14 w14 => ?_⟩
    have u14 := same_upd (o := .lst ([V.ref (fa 6), V.ref f4, V.ref f5, V.ref f7, V.ref f8] ++ [V.ref f11, V.ref f12])) w14
    have v14 : upd G13 t14 (.lst ([V.ref (fa 6), V.ref f4, V.ref f5, V.ref f7, V.ref f8] ++ [V.ref f11, V.ref f12])) t14 = some (.lst [V.ref (fa 6), V.ref f4, V.ref f5, V.ref f7, V.ref f8, V.ref f11, V.ref f12]) := upd_same
    generalize upd G13 t14 (.lst ([V.ref (fa 6), V.ref f4, V.ref f5, V.ref f7, V.ref f8] ++ [V.ref f11, V.ref f12])) = G14 at u14 v14 ⊢
    refine ⟨_, rfl, _, rfl, t14, t3, [V.ref (fa 6), V.ref f4, V.ref f5, V.ref f7, V.ref f8, V.ref f11, V.ref f12], (xs1 ++ [V.int 0, V.int 1, V.int 2, V.int (-7), V.int 4, V.int 9, V.int 15, V.int 49, V.int (1997 * 2), V.int 2003, V.int (2003 + (m : Int)), V.int (-3 - (m : Int))]), 0, by decide, rfl, (v14), (u14 _ _ (u13 _ _ (e12 _ _ (e11 _ _ (u10 _ _ (u9 _ _ (e8 _ _ (e7 _ _ (u6 _ _ (e5 _ _ (e4 _ _ (v3) (fun _ z => nomatch z)) (fun _ z => nomatch z))) (fun _ z => nomatch z)) (fun _ z => nomatch z)))) (fun _ z => nomatch z)) (fun _ z => nomatch z)))), by rw [List.length_append, l1]; show 19 ≤ 1000; decide, fun x hx => ?_, fun H15 s15 => ⟨_, rfl, iteF ?_⟩⟩
    · simp only [List.mem_cons, List.not_mem_nil, or_false] at hx
      rcases hx with rfl | rfl | rfl | rfl | rfl | rfl | rfl
      · exact ⟨_, rfl, fun v hv => A0 _ v (bp _ ((((((((((((LamX.ExtN.refl _).trans e4).trans e5).trans (extN_same u6)).trans e7).trans e8).trans (extN_same u9)).trans (extN_same u10)).trans e11).trans e12).trans (extN_same u13)).trans (extN_same u14)) v hv)⟩
      · exact ⟨_, rfl, fun v hv => A4 _ v (((((((((((LamX.ExtN.refl _).trans e5).trans (extN_same u6)).trans e7).trans e8).trans (extN_same u9)).trans (extN_same u10)).trans e11).trans e12).trans (extN_same u13)).trans (extN_same u14)) (bp _ ((((((((((((LamX.ExtN.refl _).trans e4).trans e5).trans (extN_same u6)).trans e7).trans e8).trans (extN_same u9)).trans (extN_same u10)).trans e11).trans e12).trans (extN_same u13)).trans (extN_same u14)) v hv)⟩
      · exact ⟨_, rfl, fun v hv => A5 _ v ((((((((((LamX.ExtN.refl _).trans (extN_same u6)).trans e7).trans e8).trans (extN_same u9)).trans (extN_same u10)).trans e11).trans e12).trans (extN_same u13)).trans (extN_same u14)) (bp _ ((((((((((((LamX.ExtN.refl _).trans e4).trans e5).trans (extN_same u6)).trans e7).trans e8).trans (extN_same u9)).trans (extN_same u10)).trans e11).trans e12).trans (extN_same u13)).trans (extN_same u14)) v hv)⟩
      · exact ⟨_, rfl, fun v hv => A7 _ v ((((((((LamX.ExtN.refl _).trans e8).trans (extN_same u9)).trans (extN_same u10)).trans e11).trans e12).trans (extN_same u13)).trans (extN_same u14)) (bp _ ((((((((((((LamX.ExtN.refl _).trans e4).trans e5).trans (extN_same u6)).trans e7).trans e8).trans (extN_same u9)).trans (extN_same u10)).trans e11).trans e12).trans (extN_same u13)).trans (extN_same u14)) v hv)⟩
      · exact ⟨_, rfl, fun v hv => A8 _ v (((((((LamX.ExtN.refl _).trans (extN_same u9)).trans (extN_same u10)).trans e11).trans e12).trans (extN_same u13)).trans (extN_same u14)) (bq _ ((((((((((((LamX.ExtN.refl _).trans e4).trans e5).trans (extN_same u6)).trans e7).trans e8).trans (extN_same u9)).trans (extN_same u10)).trans e11).trans e12).trans (extN_same u13)).trans (extN_same u14)) v hv)⟩
      · exact ⟨_, rfl, fun v hv => A11 _ v ((((LamX.ExtN.refl _).trans e12).trans (extN_same u13)).trans (extN_same u14)) (bp _ ((((((((((((LamX.ExtN.refl _).trans e4).trans e5).trans (extN_same u6)).trans e7).trans e8).trans (extN_same u9)).trans (extN_same u10)).trans e11).trans e12).trans (extN_same u13)).trans (extN_same u14)) v hv)⟩
      · exact ⟨_, rfl, fun v hv => A12 _ v (((LamX.ExtN.refl _).trans (extN_same u13)).trans (extN_same u14)) (bq _ ((((((((((((LamX.ExtN.refl _).trans e4).trans e5).trans (extN_same u6)).trans e7).trans e8).trans (extN_same u9)).trans (extN_same u10)).trans e11).trans e12).trans (extN_same u13)).trans (extN_same u14)) v hv)⟩
    refine ⟨_, rfl, 4, rfl, 5, rfl, t14, _, rfl, .of (s15 _ _ (v14)), fun t16 w16 => ?_⟩
    have u16 := same_upd (o := .lst (cutV [V.ref (fa 6), V.ref f4, V.ref f5, V.ref f7, V.ref f8, V.ref f11, V.ref f12] (some 4) (some 5))) w16
    have v16 : upd H15 t16 (.lst (cutV [V.ref (fa 6), V.ref f4, V.ref f5, V.ref f7, V.ref f8, V.ref f11, V.ref f12] (some 4) (some 5))) t16 = some (.lst [V.ref f8]) := upd_same
    generalize upd H15 t16 (.lst (cutV [V.ref (fa 6), V.ref f4, V.ref f5, V.ref f7, V.ref f8, V.ref f11, V.ref f12] (some 4) (some 5))) = G16 at u16 v16 ⊢
    refine ⟨_, rfl, 6, rfl, t14, _, rfl, .of (u16 _ _ (s15 _ _ (v14))), fun t17 w17 => ?_⟩
    have u17 := same_upd (o := .lst (cutV [V.ref (fa 6), V.ref f4, V.ref f5, V.ref f7, V.ref f8, V.ref f11, V.ref f12] (some 6) none)) w17
    have v17 : upd G16 t17 (.lst (cutV [V.ref (fa 6), V.ref f4, V.ref f5, V.ref f7, V.ref f8, V.ref f11, V.ref f12] (some 6) none)) t17 = some (.lst [V.ref f12]) := upd_same
    generalize upd G16 t17 (.lst (cutV [V.ref (fa 6), V.ref f4, V.ref f5, V.ref f7, V.ref f8, V.ref f11, V.ref f12] (some 6) none)) = G17 at u17 v17 ⊢
    refine ⟨t16, t17, [V.ref f8], [V.ref f12], rfl, rfl, (u17 _ _ (v16)), (v17), by show 2 ≤ sizeLine; decide, fun t18 w18 => ?_⟩
    have u18 := same_upd (o := .lst ([V.ref f8] ++ [V.ref f12])) w18
    have v18 : upd G17 t18 (.lst ([V.ref f8] ++ [V.ref f12])) t18 = some (.lst [V.ref f8, V.ref f12]) := upd_same
    generalize upd G17 t18 (.lst ([V.ref f8] ++ [V.ref f12])) = G18 at u18 v18 ⊢
    refine ⟨by show 3 ≤ sizeLine; decide, fun t19 w19 => ?_⟩
    have u19 := same_upd (o := .lst [V.int 67, V.int 97, V.int 1999]) w19
    have v19 : upd G18 t19 (.lst [V.int 67, V.int 97, V.int 1999]) t19 = some (.lst [V.int 67, V.int 97, V.int 1999]) := upd_same
    generalize upd G18 t19 (.lst [V.int 67, V.int 97, V.int 1999]) = G19 at u19 v19 ⊢
    have bg : ∀ (H' : Hp), ∀ v ∈ ([V.int 67, V.int 97, V.int 1999] : List V), BadP K H' 61 v := fun H' v hv => by
      simp only [List.mem_cons, List.not_mem_nil, or_false] at hv
      rcases hv with rfl | rfl | rfl
      · exact .inr ⟨_, rfl, .inr (.inl (by decide))⟩
      · exact .inr ⟨_, rfl, .inr (.inl (by decide))⟩
      · exact .inr ⟨_, rfl, .inr (.inl (by decide))⟩
    refine ⟨t18, t19, [V.ref f8, V.ref f12], [V.int 67, V.int 97, V.int 1999], 0, by decide, rfl, (u19 _ _ (v18)), (v19), by show 3 ≤ 1000; decide, fun x hx => ?_, fun H20 s20 => ⟨_, rfl, iteF ?_⟩⟩
    · simp only [List.mem_cons, List.not_mem_nil, or_false] at hx
      rcases hx with rfl | rfl
      · exact ⟨_, rfl, fun v hv => A8 _ v ((((((((((((LamX.ExtN.refl _).trans (extN_same u9)).trans (extN_same u10)).trans e11).trans e12).trans (extN_same u13)).trans (extN_same u14)).trans (extN_same s15)).trans (extN_same u16)).trans (extN_same u17)).trans (extN_same u18)).trans (extN_same u19)) (bg _ v hv)⟩
      · exact ⟨_, rfl, fun v hv => A12 _ v ((((((((LamX.ExtN.refl _).trans (extN_same u13)).trans (extN_same u14)).trans (extN_same s15)).trans (extN_same u16)).trans (extN_same u17)).trans (extN_same u18)).trans (extN_same u19)) (bg _ v hv)⟩
    refine ⟨rfl, fun H21 a21 xs21 s21 h21 l21 nw21 => ?_⟩
    refine ⟨_, rfl, _, rfl, _, _, rfl, rfl, _, rfl, _, rfl, by show 10 ≤ sizeLine; decide, fun t22 w22 => ?_⟩
    have u22 := same_upd (o := .lst [V.int 0, V.int 1, V.int 2, V.int 4, V.int 6, V.int 7, V.int 10, V.int (-1), V.int (7 + (m : Int)), V.int (-(m : Int))]) w22
    have v22 : upd H21 t22 (.lst [V.int 0, V.int 1, V.int 2, V.int 4, V.int 6, V.int 7, V.int 10, V.int (-1), V.int (7 + (m : Int)), V.int (-(m : Int))]) t22 = some (.lst [V.int 0, V.int 1, V.int 2, V.int 4, V.int 6, V.int 7, V.int 10, V.int (-1), V.int (7 + (m : Int)), V.int (-(m : Int))]) := upd_same
    generalize upd H21 t22 (.lst [V.int 0, V.int 1, V.int 2, V.int 4, V.int 6, V.int 7, V.int 10, V.int (-1), V.int (7 + (m : Int)), V.int (-(m : Int))]) = G22 at u22 v22 ⊢
    refine ⟨a21, t22, xs21, [V.int 0, V.int 1, V.int 2, V.int 4, V.int 6, V.int 7, V.int 10, V.int (-1), V.int (7 + (m : Int)), V.int (-(m : Int))], rfl, rfl, (u22 _ _ (h21)), (v22), by rw [l21]; show 17 ≤ sizeLine; decide, fun t23 w23 => ?_⟩
    have u23 := same_upd (o := .lst (xs21 ++ [V.int 0, V.int 1, V.int 2, V.int 4, V.int 6, V.int 7, V.int 10, V.int (-1), V.int (7 + (m : Int)), V.int (-(m : Int))])) w23
    have v23 : upd G22 t23 (.lst (xs21 ++ [V.int 0, V.int 1, V.int 2, V.int 4, V.int 6, V.int 7, V.int 10, V.int (-1), V.int (7 + (m : Int)), V.int (-(m : Int))])) t23 = some (.lst (xs21 ++ [V.int 0, V.int 1, V.int 2, V.int 4, V.int 6, V.int 7, V.int 10, V.int (-1), V.int (7 + (m : Int)), V.int (-(m : Int))])) := upd_same
    generalize upd G22 t23 (.lst (xs21 ++ [V.int 0, V.int 1, V.int 2, V.int 4, V.int 6, V.int 7, V.int 10, V.int (-1), V.int (7 + (m : Int)), V.int (-(m : Int))])) = G23 at u23 v23 ⊢
    have br : ∀ (H' : Hp), LamX.ExtN G23 H' → ∀ v ∈ xs21 ++ [V.int 0, V.int 1, V.int 2, V.int 4, V.int 6, V.int 7, V.int 10, V.int (-1), V.int (7 + (m : Int)), V.int (-(m : Int))], BadR K H' 7 v := fun H' e v hv => by
      rcases List.mem_append.mp hv with h | h
      · exact .inl ((nw21 v h).ext ((((LamX.ExtN.refl _).trans (extN_same u22)).trans (extN_same u23)).trans e))
      · simp only [List.mem_cons, List.not_mem_nil, or_false] at h
        rcases h with rfl | rfl | rfl | rfl | rfl | rfl | rfl | rfl | rfl | rfl
        · exact .inr ⟨_, rfl, .inl (by decide)⟩
        · exact .inr ⟨_, rfl, .inr (.inr (by decide +kernel))⟩
        · exact .inr ⟨_, rfl, .inr (.inr (by decide +kernel))⟩
        · exact .inr ⟨_, rfl, .inr (.inr (by decide +kernel))⟩
        · exact .inr ⟨_, rfl, .inr (.inr (by decide +kernel))⟩
        · exact .inr ⟨_, rfl, .inr (.inl (by decide))⟩
        · exact .inr ⟨_, rfl, .inr (.inl (by decide))⟩
        · exact .inr ⟨_, rfl, .inl (by decide)⟩
        · exact .inr ⟨_, rfl, .inr (.inl (by show ((7 : Nat) : Int) ≤ 7 + (m : Int); omega))⟩
        · exact .inr ⟨_, rfl, .inl (by omega)⟩
    refine ⟨(((((((((((T12.ext u13).ext u14).ext s15).ext u16).ext u17).ext u18).ext u19).ext s20).ext s21).ext u22).ext u23), fun f24 c24 G24 e24 n24 T24 nf24 hf24 hc24 => ?_⟩
    have A24 : ∀ (H' : Hp) (v : V), LamX.ExtN G24 H' → BadR K H' 7 v → Hx.AskR P w K mg base 6 H' f24 v (fa 29) := fun H' v e b => Hx.ask_of (k := 5) (NdefX.nscope_by (by dsimp only; decide +kernel)) (fun _ _ us h => match us, h with | [_], _ => rfl) rfl (e _ _ hf24 Hx.lamO_ne) (e _ _ hc24 cO_ne) fun A outer s H1 hr e1 => ⟨_, (pe_callS (xok_row_of T) (hr.mono (by decide)) (by rfl) T.g_row_of T.F_row_of.kp T.b_row_of (L2N.passAt (L2N.takes_of rfl rfl rfl rfl)) (pa_cons pe_int (pa_cons (pv 0) (pa_cons pe_non (pa_cons pe_non pa_nil))))), ⟨_, rfl, .int 7, v, .non, .non, rfl, .inl ⟨_, .inr ⟨7, rfl, root73.good, by decide, .inl ⟨b.ext e1, rfl⟩⟩, rfl, rfl, Same.refl _⟩⟩⟩
    refine ⟨T24, fun f25 c25 G25 e25 n25 T25 nf25 hf25 hc25 => ?_⟩
    have A25 : ∀ (H' : Hp) (v : V), LamX.ExtN G25 H' → BadR K H' 7 v → Hx.AskR P w K mg base 6 H' f25 v (fa 29) := fun H' v e b => Hx.ask_of (k := 5) (NdefX.nscope_by (by dsimp only; decide +kernel)) (fun _ _ us h => match us, h with | [_], _ => rfl) rfl (e _ _ hf25 Hx.lamO_ne) (e _ _ hc25 cO_ne) fun A outer s H1 hr e1 => ⟨_, (pe_callS (xok_column_of T) (hr.mono (by decide)) (by rfl) T.g_column_of T.F_column_of.kp T.b_column_of (L2N.passAt (L2N.takes_of rfl rfl rfl rfl)) (pa_cons pe_int (pa_cons (pv 0) (pa_cons pe_non (pa_cons pe_non pa_nil))))), ⟨_, rfl, .int 7, v, .non, .non, rfl, .inl ⟨_, .inr ⟨7, rfl, root73.good, by decide, .inl ⟨b.ext e1, rfl⟩⟩, rfl, rfl, Same.refl _⟩⟩⟩
    refine ⟨by show 2 ≤ sizeLine; decide, fun t26 w26 => ?_⟩
    have u26 := same_upd (o := .lst [V.ref f24, V.ref f25]) w26
    have v26 : upd G25 t26 (.lst [V.ref f24, V.ref f25]) t26 = some (.lst [V.ref f24, V.ref f25]) := upd_same
    generalize upd G25 t26 (.lst [V.ref f24, V.ref f25]) = G26 at u26 v26 ⊢
    refine ⟨_, rfl, (T25.ext u26), fun f27 c27 G27 e27 n27 T27 nf27 hf27 hc27 => ?_⟩
    have A27 : ∀ (H' : Hp) (v : V), LamX.ExtN G27 H' → BadR K H' 7 v → Hx.AskR P w K mg base 6 H' f27 v (fa 29) := fun H' v e b => Hx.ask_of (k := 5) (NdefX.nscope_by (by dsimp only; decide +kernel)) (fun _ _ us h => match us, h with | [_], _ => rfl) rfl (e _ _ hf27 Hx.lamO_ne) (e _ _ hc27 cO_ne) fun A outer s H1 hr e1 => ⟨_, (pe_callS (xok_arrow_of T) (hr.mono (by decide)) (by rfl) T.g_arrow_of T.F_arrow_of.kp T.b_arrow_of (L2N.passAt (L2N.takes_of rfl rfl rfl rfl)) (pa_cons pe_int (pa_cons (pv 0) (pa_cons pe_non (pa_cons pe_non (pa_cons pe_non pa_nil)))))), ⟨_, rfl, .int 7, v, .non, .non, .non, rfl, .inl ⟨_, .inr ⟨7, rfl, root73.good, by decide, .inl ⟨b.ext e1, rfl⟩⟩, rfl, rfl, Same.refl _⟩⟩⟩
    refine ⟨T27, fun f28 c28 G28 e28 n28 T28 nf28 hf28 hc28 => ?_⟩
    have A28 : ∀ (H' : Hp) (v : V), LamX.ExtN G28 H' → BadR K H' 7 v → Hx.AskR P w K mg base 6 H' f28 v (fa 29) := fun H' v e b => Hx.ask_of (k := 5) (NdefX.nscope_by (by dsimp only; decide +kernel)) (fun _ _ us h => match us, h with | [_], _ => rfl) rfl (e _ _ hf28 Hx.lamO_ne) (e _ _ hc28 cO_ne) fun A outer s H1 hr e1 => ⟨_, (pe_callS (xok_dots_of T) (hr.mono (by decide)) (by rfl) T.g_dots_of T.F_dots_of.kp T.b_dots_of (L2N.passAt (L2N.takes_of rfl rfl rfl rfl)) (pa_cons pe_int (pa_cons (pv 0) (pa_cons pe_non pa_nil)))), ⟨_, rfl, .int 7, v, .non, rfl, _, .inr ⟨7, rfl, root73.good, by decide, .inl ⟨b.ext e1, rfl⟩⟩, rfl, rfl, Same.refl _⟩⟩
    refine ⟨by show 2 ≤ sizeLine; decide, fun t29 w29 => ?_⟩
    have u29 := same_upd (o := .lst [V.ref f27, V.ref f28]) w29
    have v29 : upd G28 t29 (.lst [V.ref f27, V.ref f28]) t29 = some (.lst [V.ref f27, V.ref f28]) := upd_same
    generalize upd G28 t29 (.lst [V.ref f27, V.ref f28]) = G29 at u29 v29 ⊢
    refine ⟨t26, t29, [V.ref f24, V.ref f25], [V.ref f27, V.ref f28], rfl, rfl, (u29 _ _ (e28 _ _ (e27 _ _ (v26) (fun _ z => nomatch z)) (fun _ z => nomatch z))), (v29), by show 4 ≤ sizeLine; decide, fun t30 w30 => ?_⟩
    have u30 := same_upd (o := .lst ([V.ref f24, V.ref f25] ++ [V.ref f27, V.ref f28])) w30
    have v30 : upd G29 t30 (.lst ([V.ref f24, V.ref f25] ++ [V.ref f27, V.ref f28])) t30 = some (.lst [V.ref f24, V.ref f25, V.ref f27, V.ref f28]) := upd_same
    generalize upd G29 t30 (.lst ([V.ref f24, V.ref f25] ++ [V.ref f27, V.ref f28])) = G30 at u30 v30 ⊢
    refine ⟨_, rfl, ((T28.ext u29).ext u30), fun f31 c31 G31 e31 n31 T31 nf31 hf31 hc31 => ?_⟩
    have A31 : ∀ (H' : Hp) (v : V), LamX.ExtN G31 H' → BadR K H' 7 v → Hx.AskR P w K mg base 6 H' f31 v (fa 29) := fun H' v e b => Hx.ask_of (k := 5) (NdefX.nscope_by (by dsimp only; decide +kernel)) (fun _ _ us h => match us, h with | [_], _ => rfl) rfl (e _ _ hf31 Hx.lamO_ne) (e _ _ hc31 cO_ne) fun A outer s H1 hr e1 => ⟨_, (pe_callS (xok_crossed T) (hr.mono (by decide)) (by rfl) T.g_crossed T.F_crossed.kp T.b_crossed (L2N.passAt (L2N.takes_of rfl rfl rfl rfl)) (pa_cons pe_int (pa_cons (pv 0) (pa_cons pe_non pa_nil)))), ⟨_, rfl, .int 7, v, .non, rfl, .inr ⟨7, rfl, root73.good, by decide, .inl ⟨b.ext e1, rfl, rfl, Same.refl _⟩⟩⟩⟩
    refine ⟨T31, fun f32 c32 G32 e32 n32 T32 nf32 hf32 hc32 => ?_⟩
    have A32 : ∀ (H' : Hp) (v : V), LamX.ExtN G32 H' → BadR K H' 7 v → Hx.AskR P w K mg base 6 H' f32 v (fa 29) := fun H' v e b => Hx.ask_of (k := 5) (NdefX.nscope_by (by dsimp only; decide +kernel)) (fun _ _ us h => match us, h with | [_], _ => rfl) rfl (e _ _ hf32 Hx.lamO_ne) (e _ _ hc32 cO_ne) fun A outer s H1 hr e1 => ⟨_, (pe_callS (xok_crossed T) (hr.mono (by decide)) (by rfl) T.g_crossed T.F_crossed.kp T.b_crossed (L2N.passAt (L2N.takes_of rfl rfl rfl rfl)) (pa_cons pe_int (pa_cons pe_int (pa_cons (pv 0) pa_nil)))), ⟨_, rfl, .int 7, .int 3, v, rfl, .inr ⟨7, rfl, root73.good, by decide, .inr ⟨3, rfl, root73, by decide +kernel, b.ext e1, rfl, rfl, Same.refl _⟩⟩⟩⟩
    refine ⟨by show 2 ≤ sizeLine; decide, fun t33 w33 => ?_⟩
    have u33 := same_upd (o := .lst [V.ref f31, V.ref f32]) w33
    have v33 : upd G32 t33 (.lst [V.ref f31, V.ref f32]) t33 = some (.lst [V.ref f31, V.ref f32]) := upd_same
    generalize upd G32 t33 (.lst [V.ref f31, V.ref f32]) = G33 at u33 v33 ⊢
    refine ⟨t30, t33, [V.ref f24, V.ref f25, V.ref f27, V.ref f28], [V.ref f31, V.ref f32], rfl, rfl, (u33 _ _ (e32 _ _ (e31 _ _ (v30) (fun _ z => nomatch z)) (fun _ z => nomatch z))), (v33), by show 6 ≤ sizeLine; decide, fun t34 w34 => ?_⟩
    have u34 := same_upd (o := .lst ([V.ref f24, V.ref f25, V.ref f27, V.ref f28] ++ [V.ref f31, V.ref f32])) w34
    have v34 : upd G33 t34 (.lst ([V.ref f24, V.ref f25, V.ref f27, V.ref f28] ++ [V.ref f31, V.ref f32])) t34 = some (.lst [V.ref f24, V.ref f25, V.ref f27, V.ref f28, V.ref f31, V.ref f32]) := upd_same
    generalize upd G33 t34 (.lst ([V.ref f24, V.ref f25, V.ref f27, V.ref f28] ++ [V.ref f31, V.ref f32])) = G34 at u34 v34 ⊢
    refine ⟨_, rfl, _, rfl, t34, t23, [V.ref f24, V.ref f25, V.ref f27, V.ref f28, V.ref f31, V.ref f32], (xs21 ++ [V.int 0, V.int 1, V.int 2, V.int 4, V.int 6, V.int 7, V.int 10, V.int (-1), V.int (7 + (m : Int)), V.int (-(m : Int))]), 1, by decide, rfl, (v34), (u34 _ _ (u33 _ _ (e32 _ _ (e31 _ _ (u30 _ _ (u29 _ _ (e28 _ _ (e27 _ _ (u26 _ _ (e25 _ _ (e24 _ _ (v23) (fun _ z => nomatch z)) (fun _ z => nomatch z))) (fun _ z => nomatch z)) (fun _ z => nomatch z)))) (fun _ z => nomatch z)) (fun _ z => nomatch z)))), by rw [List.length_append, l21]; show 17 ≤ 1000; decide, fun x hx => ?_, fun H35 s35 => ⟨_, rfl, iteF ?_⟩⟩
    · simp only [List.mem_cons, List.not_mem_nil, or_false] at hx
      rcases hx with rfl | rfl | rfl | rfl | rfl | rfl
      · exact ⟨_, rfl, fun v hv => A24 _ v (((((((((((LamX.ExtN.refl _).trans e25).trans (extN_same u26)).trans e27).trans e28).trans (extN_same u29)).trans (extN_same u30)).trans e31).trans e32).trans (extN_same u33)).trans (extN_same u34)) (br _ ((((((((((((LamX.ExtN.refl _).trans e24).trans e25).trans (extN_same u26)).trans e27).trans e28).trans (extN_same u29)).trans (extN_same u30)).trans e31).trans e32).trans (extN_same u33)).trans (extN_same u34)) v hv)⟩
      · exact ⟨_, rfl, fun v hv => A25 _ v ((((((((((LamX.ExtN.refl _).trans (extN_same u26)).trans e27).trans e28).trans (extN_same u29)).trans (extN_same u30)).trans e31).trans e32).trans (extN_same u33)).trans (extN_same u34)) (br _ ((((((((((((LamX.ExtN.refl _).trans e24).trans e25).trans (extN_same u26)).trans e27).trans e28).trans (extN_same u29)).trans (extN_same u30)).trans e31).trans e32).trans (extN_same u33)).trans (extN_same u34)) v hv)⟩
      · exact ⟨_, rfl, fun v hv => A27 _ v ((((((((LamX.ExtN.refl _).trans e28).trans (extN_same u29)).trans (extN_same u30)).trans e31).trans e32).trans (extN_same u33)).trans (extN_same u34)) (br _ ((((((((((((LamX.ExtN.refl _).trans e24).trans e25).trans (extN_same u26)).trans e27).trans e28).trans (extN_same u29)).trans (extN_same u30)).trans e31).trans e32).trans (extN_same u33)).trans (extN_same u34)) v hv)⟩
      · exact ⟨_, rfl, fun v hv => A28 _ v (((((((LamX.ExtN.refl _).trans (extN_same u29)).trans (extN_same u30)).trans e31).trans e32).trans (extN_same u33)).trans (extN_same u34)) (br _ ((((((((((((LamX.ExtN.refl _).trans e24).trans e25).trans (extN_same u26)).trans e27).trans e28).trans (extN_same u29)).trans (extN_same u30)).trans e31).trans e32).trans (extN_same u33)).trans (extN_same u34)) v hv)⟩
      · exact ⟨_, rfl, fun v hv => A31 _ v ((((LamX.ExtN.refl _).trans e32).trans (extN_same u33)).trans (extN_same u34)) (br _ ((((((((((((LamX.ExtN.refl _).trans e24).trans e25).trans (extN_same u26)).trans e27).trans e28).trans (extN_same u29)).trans (extN_same u30)).trans e31).trans e32).trans (extN_same u33)).trans (extN_same u34)) v hv)⟩
      · exact ⟨_, rfl, fun v hv => A32 _ v (((LamX.ExtN.refl _).trans (extN_same u33)).trans (extN_same u34)) (br _ ((((((((((((LamX.ExtN.refl _).trans e24).trans e25).trans (extN_same u26)).trans e27).trans e28).trans (extN_same u29)).trans (extN_same u30)).trans e31).trans e32).trans (extN_same u33)).trans (extN_same u34)) v hv)⟩
    refine ⟨(((T32.ext u33).ext u34).ext s35), fun f36 c36 G36 e36 n36 T36 nf36 hf36 hc36 => ?_⟩
    have A36 : ∀ (H' : Hp) (v : V), LamX.ExtN G36 H' → BadN K H' 7 v → Hx.AskR P w K mg base 6 H' f36 v (fa 30) := fun H' v e b => Hx.ask_of (k := 5) (NdefX.nscope_by (by dsimp only; decide +kernel)) (fun _ _ us h => match us, h with | [_], _ => rfl) rfl (e _ _ hf36 Hx.lamO_ne) (e _ _ hc36 cO_ne) fun A outer s H1 hr e1 => ⟨_, (pe_callS (xok_is_root T) (hr.mono (by decide)) (by rfl) T.g_is_root T.F_is_root.kp T.b_is_root (L2N.passAt (L2N.takes_of rfl rfl rfl rfl)) (pa_cons pe_int (pa_cons (pv 0) pa_nil))), ⟨_, rfl, .int 7, v, rfl, .inr ⟨7, rfl, root73.good, b.ext e1, rfl, rfl, Same.refl _⟩⟩⟩
    refine ⟨by show 1 ≤ sizeLine; decide, fun t37 w37 => ?_⟩
    have u37 := same_upd (o := .lst [V.ref f36]) w37
    have v37 : upd G36 t37 (.lst [V.ref f36]) t37 = some (.lst [V.ref f36]) := upd_same
    generalize upd G36 t37 (.lst [V.ref f36]) = G37 at u37 v37 ⊢
    refine ⟨rfl, fun H38 a38 xs38 s38 h38 l38 nw38 => ?_⟩
    refine ⟨_, rfl, _, rfl, _, _, rfl, rfl, _, rfl, _, rfl, by show 5 ≤ sizeLine; decide, fun t39 w39 => ?_⟩
    have u39 := same_upd (o := .lst [V.int 0, V.int 7, V.int (-1), V.int (7 + (m : Int)), V.int (-(m : Int))]) w39
    have v39 : upd H38 t39 (.lst [V.int 0, V.int 7, V.int (-1), V.int (7 + (m : Int)), V.int (-(m : Int))]) t39 = some (.lst [V.int 0, V.int 7, V.int (-1), V.int (7 + (m : Int)), V.int (-(m : Int))]) := upd_same
    generalize upd H38 t39 (.lst [V.int 0, V.int 7, V.int (-1), V.int (7 + (m : Int)), V.int (-(m : Int))]) = G39 at u39 v39 ⊢
    refine ⟨a38, t39, xs38, [V.int 0, V.int 7, V.int (-1), V.int (7 + (m : Int)), V.int (-(m : Int))], rfl, rfl, (u39 _ _ (h38)), (v39), by rw [l38]; show 12 ≤ sizeLine; decide, fun t40 w40 => ?_⟩
    have u40 := same_upd (o := .lst (xs38 ++ [V.int 0, V.int 7, V.int (-1), V.int (7 + (m : Int)), V.int (-(m : Int))])) w40
    have v40 : upd G39 t40 (.lst (xs38 ++ [V.int 0, V.int 7, V.int (-1), V.int (7 + (m : Int)), V.int (-(m : Int))])) t40 = some (.lst (xs38 ++ [V.int 0, V.int 7, V.int (-1), V.int (7 + (m : Int)), V.int (-(m : Int))])) := upd_same
    generalize upd G39 t40 (.lst (xs38 ++ [V.int 0, V.int 7, V.int (-1), V.int (7 + (m : Int)), V.int (-(m : Int))])) = G40 at u40 v40 ⊢
    have bn : ∀ (H' : Hp), LamX.ExtN G40 H' → ∀ v ∈ xs38 ++ [V.int 0, V.int 7, V.int (-1), V.int (7 + (m : Int)), V.int (-(m : Int))], BadN K H' 7 v := fun H' e v hv => by
      rcases List.mem_append.mp hv with h | h
      · exact .inl ((nw38 v h).ext ((((LamX.ExtN.refl _).trans (extN_same u39)).trans (extN_same u40)).trans e))
      · simp only [List.mem_cons, List.not_mem_nil, or_false] at h
        rcases h with rfl | rfl | rfl | rfl | rfl
        · exact .inr ⟨_, rfl, .inl (by decide)⟩
        · exact .inr ⟨_, rfl, .inr (by decide)⟩
        · exact .inr ⟨_, rfl, .inl (by decide)⟩
        · exact .inr ⟨_, rfl, .inr (by show ((7 : Nat) : Int) ≤ 7 + (m : Int); omega)⟩
        · exact .inr ⟨_, rfl, .inl (by omega)⟩
    refine ⟨t37, t40, [V.ref f36], (xs38 ++ [V.int 0, V.int 7, V.int (-1), V.int (7 + (m : Int)), V.int (-(m : Int))]), 2, by decide, rfl, (u40 _ _ (u39 _ _ (s38 _ _ (v37)))), (v40), by rw [List.length_append, l38]; show 12 ≤ 1000; decide, fun x hx => ?_, fun H41 s41 => ⟨_, rfl, iteF ?_⟩⟩
    · simp only [List.mem_cons, List.not_mem_nil, or_false] at hx
      rcases hx with rfl
      · exact ⟨_, rfl, fun v hv => A36 _ v (((((LamX.ExtN.refl _).trans (extN_same u37)).trans (extN_same s38)).trans (extN_same u39)).trans (extN_same u40)) (bn _ (LamX.ExtN.refl _) v hv)⟩
    refine ⟨(((((T36.ext u37).ext s38).ext u39).ext u40).ext s41), fun f42 c42 G42 e42 n42 T42 nf42 hf42 hc42 => ?_⟩
    have A42 : ∀ (H' : Hp) (v : V), LamX.ExtN G42 H' → NW K H' v → Hx.AskR P w K mg base 6 H' f42 v (fa 30) := fun H' v e b => Hx.ask_of (k := 5) (NdefX.nscope_by (by dsimp only; decide +kernel)) (fun _ _ us h => match us, h with | [_], _ => rfl) rfl (e _ _ hf42 Hx.lamO_ne) (e _ _ hc42 cO_ne) fun A outer s H1 hr e1 => ⟨_, (pe_callS (xok_row_of T) (hr.mono (by decide)) (by rfl) T.g_row_of T.F_row_of.kp T.b_row_of (L2N.passAt (L2N.takes_of rfl rfl rfl rfl)) (pa_cons pe_int (pa_cons pe_int (pa_cons (pv 0) (pa_cons pe_non pa_nil))))), ⟨_, rfl, .int 7, .int 3, v, .non, rfl, .inl ⟨_, .inr ⟨7, rfl, root73.good, by decide, .inr ⟨3, rfl, root73, by decide +kernel, b.ext e1, rfl⟩⟩, rfl, rfl, Same.refl _⟩⟩⟩
    refine ⟨T42, fun f43 c43 G43 e43 n43 T43 nf43 hf43 hc43 => ?_⟩
    have A43 : ∀ (H' : Hp) (v : V), LamX.ExtN G43 H' → NW K H' v → Hx.AskR P w K mg base 6 H' f43 v (fa 30) := fun H' v e b => Hx.ask_of (k := 5) (NdefX.nscope_by (by dsimp only; decide +kernel)) (fun _ _ us h => match us, h with | [_], _ => rfl) rfl (e _ _ hf43 Hx.lamO_ne) (e _ _ hc43 cO_ne) fun A outer s H1 hr e1 => ⟨_, (pe_callS (xok_column_of T) (hr.mono (by decide)) (by rfl) T.g_column_of T.F_column_of.kp T.b_column_of (L2N.passAt (L2N.takes_of rfl rfl rfl rfl)) (pa_cons pe_int (pa_cons pe_int (pa_cons (pv 0) (pa_cons pe_non pa_nil))))), ⟨_, rfl, .int 7, .int 3, v, .non, rfl, .inl ⟨_, .inr ⟨7, rfl, root73.good, by decide, .inr ⟨3, rfl, root73, by decide +kernel, b.ext e1, rfl⟩⟩, rfl, rfl, Same.refl _⟩⟩⟩
    refine ⟨by show 2 ≤ sizeLine; decide, fun t44 w44 => ?_⟩
    have u44 := same_upd (o := .lst [V.ref f42, V.ref f43]) w44
    have v44 : upd G43 t44 (.lst [V.ref f42, V.ref f43]) t44 = some (.lst [V.ref f42, V.ref f43]) := upd_same
    generalize upd G43 t44 (.lst [V.ref f42, V.ref f43]) = G44 at u44 v44 ⊢
    refine ⟨_, rfl, (T43.ext u44), fun f45 c45 G45 e45 n45 T45 nf45 hf45 hc45 => ?_⟩
    have A45 : ∀ (H' : Hp) (v : V), LamX.ExtN G45 H' → NW K H' v → Hx.AskR P w K mg base 6 H' f45 v (fa 30) := fun H' v e b => Hx.ask_of (k := 5) (NdefX.nscope_by (by dsimp only; decide +kernel)) (fun _ _ us h => match us, h with | [_], _ => rfl) rfl (e _ _ hf45 Hx.lamO_ne) (e _ _ hc45 cO_ne) fun A outer s H1 hr e1 => ⟨_, (pe_callS (xok_arrow_of T) (hr.mono (by decide)) (by rfl) T.g_arrow_of T.F_arrow_of.kp T.b_arrow_of (L2N.passAt (L2N.takes_of rfl rfl rfl rfl)) (pa_cons pe_int (pa_cons pe_int (pa_cons (pv 0) (pa_cons pe_non (pa_cons pe_non pa_nil)))))), ⟨_, rfl, .int 7, .int 3, v, .non, .non, rfl, .inl ⟨_, .inr ⟨7, rfl, root73.good, by decide, .inr ⟨3, rfl, root73, by decide +kernel, b.ext e1, rfl⟩⟩, rfl, rfl, Same.refl _⟩⟩⟩
    refine ⟨T45, fun f46 c46 G46 e46 n46 T46 nf46 hf46 hc46 => ?_⟩
    have A46 : ∀ (H' : Hp) (v : V), LamX.ExtN G46 H' → NW K H' v → Hx.AskR P w K mg base 6 H' f46 v (fa 30) := fun H' v e b => Hx.ask_of (k := 5) (NdefX.nscope_by (by dsimp only; decide +kernel)) (fun _ _ us h => match us, h with | [_], _ => rfl) rfl (e _ _ hf46 Hx.lamO_ne) (e _ _ hc46 cO_ne) fun A outer s H1 hr e1 => ⟨_, (pe_callS (xok_dots_of T) (hr.mono (by decide)) (by rfl) T.g_dots_of T.F_dots_of.kp T.b_dots_of (L2N.passAt (L2N.takes_of rfl rfl rfl rfl)) (pa_cons pe_int (pa_cons pe_int (pa_cons (pv 0) pa_nil)))), ⟨_, rfl, .int 7, .int 3, v, rfl, _, .inr ⟨7, rfl, root73.good, by decide, .inr ⟨3, rfl, root73, by decide +kernel, b.ext e1, rfl⟩⟩, rfl, rfl, Same.refl _⟩⟩
    refine ⟨by show 2 ≤ sizeLine; decide, fun t47 w47 => ?_⟩
    have u47 := same_upd (o := .lst [V.ref f45, V.ref f46]) w47
    have v47 : upd G46 t47 (.lst [V.ref f45, V.ref f46]) t47 = some (.lst [V.ref f45, V.ref f46]) := upd_same
    generalize upd G46 t47 (.lst [V.ref f45, V.ref f46]) = G47 at u47 v47 ⊢
    refine ⟨t44, t47, [V.ref f42, V.ref f43], [V.ref f45, V.ref f46], rfl, rfl, (u47 _ _ (e46 _ _ (e45 _ _ (v44) (fun _ z => nomatch z)) (fun _ z => nomatch z))), (v47), by show 4 ≤ sizeLine; decide, fun t48 w48 => ?_⟩
    have u48 := same_upd (o := .lst ([V.ref f42, V.ref f43] ++ [V.ref f45, V.ref f46])) w48
    have v48 : upd G47 t48 (.lst ([V.ref f42, V.ref f43] ++ [V.ref f45, V.ref f46])) t48 = some (.lst [V.ref f42, V.ref f43, V.ref f45, V.ref f46]) := upd_same
    generalize upd G47 t48 (.lst ([V.ref f42, V.ref f43] ++ [V.ref f45, V.ref f46])) = G48 at u48 v48 ⊢
    refine ⟨_, rfl, rfl, fun H49 a49 xs49 s49 h49 l49 nw49 => ?_⟩
    refine ⟨t48, a49, [V.ref f42, V.ref f43, V.ref f45, V.ref f46], xs49, 2, by decide, rfl, (s49 _ _ (v48)), (h49), by rw [l49]; decide, fun x hx => ?_, fun H50 s50 => ?_⟩
    · simp only [List.mem_cons, List.not_mem_nil, or_false] at hx
      rcases hx with rfl | rfl | rfl | rfl
      · exact ⟨_, rfl, fun v hv => A42 _ v ((((((((LamX.ExtN.refl _).trans e43).trans (extN_same u44)).trans e45).trans e46).trans (extN_same u47)).trans (extN_same u48)).trans (extN_same s49)) (nw49 v hv)⟩
      · exact ⟨_, rfl, fun v hv => A43 _ v (((((((LamX.ExtN.refl _).trans (extN_same u44)).trans e45).trans e46).trans (extN_same u47)).trans (extN_same u48)).trans (extN_same s49)) (nw49 v hv)⟩
      · exact ⟨_, rfl, fun v hv => A45 _ v (((((LamX.ExtN.refl _).trans e46).trans (extN_same u47)).trans (extN_same u48)).trans (extN_same s49)) (nw49 v hv)⟩
      · exact ⟨_, rfl, fun v hv => A46 _ v ((((LamX.ExtN.refl _).trans (extN_same u47)).trans (extN_same u48)).trans (extN_same s49)) (nw49 v hv)⟩
    exact q _ ((((T46.ext u47).ext u48).ext s49).ext s50) (((((((((((((((((((((((((((((((((((((((((((((((((((LamX.ExtN.refl _).trans (extN_same s1)).trans (extN_same u2)).trans (extN_same u3)).trans e4).trans e5).trans (extN_same u6)).trans e7).trans e8).trans (extN_same u9)).trans (extN_same u10)).trans e11).trans e12).trans (extN_same u13)).trans (extN_same u14)).trans (extN_same s15)).trans (extN_same u16)).trans (extN_same u17)).trans (extN_same u18)).trans (extN_same u19)).trans (extN_same s20)).trans (extN_same s21)).trans (extN_same u22)).trans (extN_same u23)).trans e24).trans e25).trans (extN_same u26)).trans e27).trans e28).trans (extN_same u29)).trans (extN_same u30)).trans e31).trans e32).trans (extN_same u33)).trans (extN_same u34)).trans (extN_same s35)).trans e36).trans (extN_same u37)).trans (extN_same s38)).trans (extN_same u39)).trans (extN_same u40)).trans (extN_same s41)).trans e42).trans e43).trans (extN_same u44)).trans e45).trans e46).trans (extN_same u47)).trans (extN_same u48)).trans (extN_same s49)).trans (extN_same s50))
end
end Lw
namespace Lw
open PySem PySem.Spec PyProof.Rows L2 AD
section
variable {P : Program} {w : World} {K : PySem.W.Frag} {mg : Str → Option Value} {base : Heap}
variable {fa : Nat → Addr} {fd : Nat → FuncData} {tk : Nat → Tok}
/-! ### the law -/
theorem sqz {H : Hp} {a : Addr} {os : List Nat} (h : H a = some (.lst (nats os))) : SqL K H a ((zof os).map V.int) := .of (by rw [h, nats_ints]; rfl)
theorem no1999 : ∀ g, 1 ≤ g → g < 3 → rootB 1999 g = false := fun g h1 h2 => by
  have : g = 1 ∨ g = 2 := by omega
  rcases this with rfl | rfl
  · decide +kernel
  · decide +kernel
theorem two_all {H : Hp} {a b : V} (h1 : isInt a = true ∨ NW K H a) (h2 : isInt b = true ∨ NW K H b) : ∀ x ∈ [a, b], isInt x = true ∨ NW K H x := fun x hx => by
  simp only [List.mem_cons, List.not_mem_nil, or_false] at hx
  rcases hx with rfl | rfl
  · exact h1
  · exact h2
theorem not_perm3 (m : Nat) : ¬ [0, 1 + (m : Int), 1 + (m : Int)].Perm (zof (List.range [0, 1 + (m : Int), 1 + (m : Int)].length)) := fun z => by
  have e : zof (List.range [0, 1 + (m : Int), 1 + (m : Int)].length) = [0, 1, 2] := rfl
  rw [e] at z
  have h1 : (1 : Int) ∈ [0, 1 + (m : Int), 1 + (m : Int)] := z.symm.subset (by decide)
  have h2 : (2 : Int) ∈ [0, 1 + (m : Int), 1 + (m : Int)] := z.symm.subset (by decide)
  simp only [List.mem_cons, List.not_mem_nil, or_false] at h1 h2
  omega
theorem not_perm4 (m : Nat) : ¬ [2 + (m : Int), 1, 0, 2 + (m : Int)].Perm (zof (List.range [2 + (m : Int), 1, 0, 2 + (m : Int)].length)) := fun z => by
  have e : zof (List.range [2 + (m : Int), 1, 0, 2 + (m : Int)].length) = [0, 1, 2, 3] := rfl
  rw [e] at z
  have h1 : (2 : Int) ∈ [2 + (m : Int), 1, 0, 2 + (m : Int)] := z.symm.subset (by decide)
  have h2 : (3 : Int) ∈ [2 + (m : Int), 1, 0, 2 + (m : Int)] := z.symm.subset (by decide)
  simp only [List.mem_cons, List.not_mem_nil, or_false] at h1 h2
  omega
/-- a list that grows leaves the tables as they are -/
theorem tab_acc {T : List NdefX.NTab} {H : Hp} {D : Addr} {ys : List V} (h : NdefX.TabsN T H) (hD : ∃ xs, H D = some (.lst xs)) : NdefX.TabsN T (upd H D (.lst ys)) := fun p hp => by
  obtain ⟨xs, hD⟩ := hD
  obtain ⟨ps, h1, h2, h3⟩ := h p hp
  refine ⟨ps, by rw [upd_ne (ne_of h1 hD (by intro z; cases z))]; exact h1, h2, fun pos cv hc => ?_⟩
  obtain ⟨c, e1, e2⟩ := h3 pos cv hc
  exact ⟨c, e1, by rw [upd_ne (ne_of e2 hD (by intro z; unfold LamX.CodeO at z; cases z))]; exact e2⟩
theorem ext_acc {H H5 : Hp} {D : Addr} {o : HO} (s : LamX.ExtN H H5) (nD : H D = none) : LamX.ExtN H (upd H5 D o) := fun y o' h n => by
  rw [upd_ne (ne_of_none h nD)]
  exact s y o' h n
theorem ex_nat {x : Int} {p : V → Prop} (h0 : 0 ≤ x) (h : p (.int x)) : ∃ m : Nat, p (.int (m : Int)) := ⟨x.toNat, by rw [Int.toNat_of_nonneg h0]; exact h⟩
def spLaw (K : PySem.W.Frag) (P1 P2 : Addr) : Sp := fun vs H Q _ => ∃ (a : Addr) (ns : List Int), vs = [.ref a] ∧ SqL K H a (ns.map V.int) ∧ ns.length ≤ 63 ∧ NdefX.TabsN (TL P1 P2) H ∧ ∀ H', Q (.bl true) H'
theorem ok_law (T : Txt K mg fa fd tk) {c1 P1 cL P2 : Addr} (h1 : (fd 25).code = .ref c1) (B1 : LamX.TabB base mg c1 P1) (hcd : (fd 26).code = .ref cL) (TB : LamX.TabB base mg cL P2) (n12 : P1 ≠ P2) : FnOk P w K mg base CX0 10 (fa 26) (fd 26) ["_law_script"] (spLaw K P1 P2) := by
  have hTm : (P2, fun _ _ => (("law" : Str) ++ ".<locals>.") ++ "<lambda>") ∈ TL P1 P2 := List.mem_cons_of_mem _ List.mem_cons_self
  have hTu : ∀ p ∈ TL P1 P2, p.1 = P2 → p.2 = fun _ _ => (("law" : Str) ++ ".<locals>.") ++ "<lambda>" := fun p hp e => by
    simp only [TL, List.mem_cons, List.not_mem_nil, or_false] at hp
    rcases hp with rfl | rfl
    · exact absurd e n12
    · rfl
  refine Hx.okC T.F_law hcd sc_law (fun vs H Q E h => ?_) (fun A outer s H vs Q E hr h => ?_)
  · obtain ⟨a, ns, rfl, _⟩ := h
    rfl
  · obtain ⟨a, ns, rfl, hS, hlen, hT, q⟩ := h
    have hu := hr.units
    refine ⟨_, (pss_cons (ps_for PassesOwn.never rfl (pi_list (pe_op op_cat (pe_slice sl_list (pv 0) po_none (po_some pe_int)) (pe_lst (pa_cons (pe_callB call_len_seq (by rfl) T.m_len (by decide +kernel) (pa_cons (pv 0) pa_nil)) pa_nil)))) (pg_name (i := 1) sc_law.nd rfl (.inl rfl)) (C8.pss_cut (ps_set (i := 2) sc_law.nd rfl (.inr rfl) (pe_op op_mod (pe_callB call_abs (by rfl) T.m_abs (by decide +kernel) (pa_cons (pv 1) pa_nil)) (pe_op op_pow pe_int pe_int)))
      (pss_cons (ps_if (pt_not (pt_val (pe_call (ok__law_plans_right T h1 B1 n12) (hr.mono (by decide)) (by rfl) T.g__law_plans_right T.F__law_plans_right.kp T.b__law_plans_right .nil pass0 (pa_cons (pv 2) pa_nil)))) (pss_one (ps_ret pe_bl)) pss_nil)
      (pss_cons (ps_set (i := 3) sc_law.nd rfl (.inl rfl) (pe_op op_cat (pe_call0 (ok__law_no_wholes T) (hr.mono (by decide)) (by rfl) T.g__law_no_wholes T.F__law_no_wholes.kp T.b__law_no_wholes .nil pass0) (pe_lst (pa_cons (pe_un un_neg pe_int) (pa_cons pe_int (pa_cons (pe_op op_add pe_int (pv 2)) (pa_cons (pe_op op_sub (pe_un un_neg pe_int) (pv 2)) pa_nil)))))))
      (pss_cons (ps_if (pt_not (pt_val (Hx.pe_callC (i := 2) (y := "_law_more") (sp := spAll P w K mg base fa) (ok__law_all (P := P) (w := w) (base := base) T) (hr.mono (by decide)) (by rfl) T.g__law_all T.F__law_all.kp T.b__law_all rfl rfl rfl (pa_cons (pe_lst (pa_cons (Hx.pe_lam TB rfl hTm rfl hTu rfl (Hx.lf_of (esc := defScope s_law) (by decide +kernel))) pa_nil)) (pa_cons (pv 3) (pa_cons pe_int pa_nil)))))) (pss_one (ps_ret pe_bl)) pss_nil)
      (pss_cons (ps_if (pt_not (pt_val (Hx.pe_callC (i := 2) (y := "_law_more") (sp := spAll P w K mg base fa) (ok__law_all (P := P) (w := w) (base := base) T) (hr.mono (by decide)) (by rfl) T.g__law_all T.F__law_all.kp T.b__law_all rfl rfl rfl (pa_cons (pe_lst (pa_cons (Hx.pe_lam TB rfl hTm rfl hTu rfl (Hx.lf_of (esc := defScope s_law) (by decide +kernel))) pa_nil)) (pa_cons (pv 3) (pa_cons pe_int pa_nil)))))) (pss_one (ps_ret pe_bl)) pss_nil)
      (pss_cons (ps_set (i := 4) sc_law.nd rfl (.inl rfl) (pe_op op_cat (pe_call0 (ok__law_no_wholes T) (hr.mono (by decide)) (by rfl) T.g__law_no_wholes T.F__law_no_wholes.kp T.b__law_no_wholes .nil pass0) (pe_lst (pa_cons pe_int (pa_cons (pe_un un_neg pe_int) (pa_cons (pe_op op_sub (pe_un un_neg pe_int) (pv 2)) pa_nil))))))
      (pss_cons (ps_set (i := 5) sc_law.nd rfl (.inl rfl) (pe_lst (pa_cons (Hx.pe_lam0 ((("law" : Str) ++ ".<locals>.") ++ "<lambda>") TB rfl hTm rfl rfl hTu rfl (by decide +kernel)) (pa_cons (Hx.pe_lam0 ((("law" : Str) ++ ".<locals>.") ++ "<lambda>") TB rfl hTm rfl rfl hTu rfl (by decide +kernel)) pa_nil))))
      (pss_cons (ps_if (PW.pt (pw_or (pt_not (pt_val (pe_call (sp := spAll P w K mg base fa) (ok__law_all (P := P) (w := w) (base := base) T) (hr.mono (by decide)) (by rfl) T.g__law_all T.F__law_all.kp T.b__law_all .nil pass0 (pa_cons (pe_slice sl_list (pv 5) po_none (po_some pe_int)) (pa_cons (pe_op op_cat (pv 4) (pe_lst (pa_cons pe_int (pa_cons (pe_op op_add pe_int (pv 2)) pa_nil)))) (pa_cons pe_int pa_nil)))))) (pw_or1 (pt_not (pt_val (pe_call (sp := spAll P w K mg base fa) (ok__law_all (P := P) (w := w) (base := base) T) (hr.mono (by decide)) (by rfl) T.g__law_all T.F__law_all.kp T.b__law_all .nil pass0 (pa_cons (pe_slice sl_list (pv 5) (po_some pe_int) po_none) (pa_cons (pe_op op_cat (pv 4) (pe_lst (pa_cons pe_int (pa_cons (pe_op op_add pe_int (pv 2)) pa_nil)))) (pa_cons pe_int pa_nil))))))))) (pss_one (ps_ret pe_bl)) pss_nil)
      (pss_cons (ps_set (i := 6) sc_law.nd rfl (.inl rfl) (pe_lst (pa_cons pe_non (pa_cons (pe_tup pa_nil) (pa_cons (pe_tup (pa_cons pe_int (pa_cons pe_int pa_nil))) (pa_cons pe_str (pa_cons pe_dnewK (pa_cons pe_int (pa_cons (pe_lst pa_nil) (pa_cons (pe_lst (pa_cons pe_int pa_nil)) (pa_cons (pe_lst (pa_cons pe_int (pa_cons pe_int pa_nil))) (pa_cons (pe_lst (pa_cons pe_int (pa_cons pe_int pa_nil))) (pa_cons (pe_lst (pa_cons (pe_un un_neg pe_int) (pa_cons pe_int pa_nil))) (pa_cons (pe_lst (pa_cons pe_int (pa_cons pe_non pa_nil))) (pa_cons (pe_lst (pa_cons pe_bl (pa_cons pe_int pa_nil))) (pa_cons (pe_lst (pa_cons pe_str (pa_cons pe_int pa_nil))) pa_nil))))))))))))))))
      (pss_cons (ps_set (i := 6) sc_law.nd rfl (.inl rfl) (pe_op op_cat (pv 6) (pe_lst (pa_cons (pe_lst (pa_cons pe_int (pa_cons pe_int (pa_cons pe_int pa_nil)))) (pa_cons (pe_lst (pa_cons pe_int (pa_cons (pe_op op_add pe_int (pv 2)) (pa_cons (pe_op op_add pe_int (pv 2)) pa_nil)))) (pa_cons (pe_listRg rfl (by rfl) T.m_list (prg_1 (by rfl) T.m_range pe_int)) (pa_cons (pe_lst (pa_cons (pe_lst (pa_cons pe_int pa_nil)) (pa_cons pe_int pa_nil))) (pa_cons (pe_lst (pa_cons pe_int (pa_cons pe_bl pa_nil))) pa_nil))))))))
      (pss_cons (ps_expr (pe_bm PySem.F.plainAttrs_list PySem.F.slot_list_append PySem.F.type_list_append mt_append (pv 6) (pa_cons (pe_lst (pa_cons (pe_op op_add pe_int (pv 2)) (pa_cons pe_int (pa_cons pe_int (pa_cons (pe_op op_add pe_int (pv 2)) pa_nil))))) pa_nil)))
      (pss_cons (ps_if (pt_not (pt_val (pe_call (sp := spAll P w K mg base fa) (ok__law_all (P := P) (w := w) (base := base) T) (hr.mono (by decide)) (by rfl) T.g__law_all T.F__law_all.kp T.b__law_all .nil pass0 (pa_cons (pe_lst (pa_cons (pe_glob (v := .ref _) rfl T.g_judged rfl) (pa_cons (Hx.pe_lam0 ((("law" : Str) ++ ".<locals>.") ++ "<lambda>") TB rfl hTm rfl rfl hTu rfl (by decide +kernel)) (pa_cons (pe_glob (v := .ref _) rfl T.g_without_corner rfl) pa_nil)))) (pa_cons (pv 6) (pa_cons pe_int pa_nil)))))) (pss_one (ps_ret pe_bl)) pss_nil)
      (pss_cons (ps_set (i := 7) sc_law.nd rfl (.inl rfl) (pe_op op_cat (pe_call0 (ok__law_no_wholes T) (hr.mono (by decide)) (by rfl) T.g__law_no_wholes T.F__law_no_wholes.kp T.b__law_no_wholes .nil pass0) (pe_lst (pa_cons (pe_un un_neg pe_int) (pa_cons pe_int (pa_cons (pe_op op_add pe_int (pv 2)) (pa_cons (pe_op op_sub (pe_un un_neg pe_int) (pv 2)) pa_nil)))))))
      (pss_one (ps_if (pt_not (pt_val (pe_call (sp := spAll P w K mg base fa) (ok__law_all (P := P) (w := w) (base := base) T) (hr.mono (by decide)) (by rfl) T.g__law_all T.F__law_all.kp T.b__law_all .nil pass0 (pa_cons (pe_lst (pa_cons (Hx.pe_lam0 ((("law" : Str) ++ ".<locals>.") ++ "<lambda>") TB rfl hTm rfl rfl hTu rfl (by decide +kernel)) pa_nil)) (pa_cons (pv 7) (pa_cons pe_int pa_nil)))))) (pss_one (ps_ret pe_bl)) pss_nil))))))))))))))))
      (pss_cons (ps_if (pt_not (pt_val (pe_call (sp := spAll P w K mg base fa) (ok__law_all (P := P) (w := w) (base := base) T) (hr.mono (by decide)) (by rfl) T.g__law_all T.F__law_all.kp T.b__law_all .nil pass0 (pa_cons (pe_lst (pa_cons (pe_glob (v := .ref _) rfl T.g_without_corner rfl) pa_nil)) (pa_cons (pe_lst (pa_cons (pe_lst (pa_cons pe_int pa_nil)) (pa_cons (pe_lst (pa_cons pe_int (pa_cons pe_int pa_nil))) (pa_cons (pe_lst (pa_cons pe_int (pa_cons pe_int (pa_cons pe_int pa_nil)))) pa_nil)))) (pa_cons pe_int pa_nil)))))) (pss_one (ps_ret pe_bl)) pss_nil)
      (pss_one (ps_ret (pe_and (pe_cmpR (op_eqL hu) (pe_call (ok_without_corner T) (hr.mono (by decide)) (by rfl) T.g_without_corner T.F_without_corner.kp T.b_without_corner .nil pass0 (pa_cons (pe_lst (pa_cons pe_int (pa_cons pe_int pa_nil))) pa_nil)) (pe_lst (pa_cons pe_int pa_nil)) (nomark _)) (pe_and (pe_cmpR op_eq (pe_call (ok_least_root T) (hr.mono (by decide)) (by rfl) T.g_least_root T.F_least_root.kp T.b_least_root .nil pass0 (pa_cons pe_int pa_nil)) pe_int (nomark _)) (pe_one (pe_cmpR op_ge (pe_call (ok_arrow_of T) (hr.mono (by decide)) (by rfl) T.g_arrow_of T.F_arrow_of.kp T.b_arrow_of .nil pass0 (pa_cons pe_int (pa_cons pe_int (pa_cons pe_int (pa_cons pe_int (pa_cons pe_int pa_nil)))))) pe_int (nomark _))))))))), ?_⟩
    refine ⟨_, rfl, 5, rfl, a, _, rfl, hS, fun k1 n1 => ?_⟩
    have u1 := same_upd (o := .lst (cutV (ns.map V.int) none (some 5))) n1
    refine ⟨_, rfl, a, _, rfl, .inl (u1.seq hS), by show 1 ≤ sizeLine; decide, fun k2 n2 => ?_⟩
    have u2 := same_upd (o := .lst [V.int (((ns.map V.int).length : Nat) : Int)]) n2
    refine ⟨k1, k2, _, _, rfl, rfl, u2 _ _ upd_same, upd_same, ?_, fun k3 n3 => ⟨k3, rfl, ⟨_, .of upd_same⟩, ?_⟩⟩
    · have z := cutV_length (ns.map V.int) none (some 5)
      rw [List.length_map] at z
      exact Nat.le_of_lt (small1000 (by show _ + 1 ≤ 1000; omega))
    have u3 := same_upd (o := .lst (cutV (ns.map V.int) none (some 5) ++ [V.int (((ns.map V.int).length : Nat) : Int)])) n3
    have hint : ∀ x ∈ cutV (ns.map V.int) none (some 5) ++ [V.int (((ns.map V.int).length : Nat) : Int)], ∃ z : Int, x = .int z := fun x hx => by
      rcases List.mem_append.mp hx with h | h
      · obtain ⟨z, _, rfl⟩ := List.mem_map.mp (cutV_mem h)
        exact ⟨z, rfl⟩
      · rw [List.mem_singleton.mp h]
        exact ⟨_, rfl⟩
    refine for_it (walk_list (xs := cutV (ns.map V.int) none (some 5) ++ [V.int (((ns.map V.int).length : Nat) : Int)])) (fun i σ H' => NdefX.TabsN (TL P1 P2) H' ∧ H' k3 = some (.lst (cutV (ns.map V.int) none (some 5) ++ [V.int (((ns.map V.int).length : Nat) : Int)])) ∧ ∃ y1 y2 y3 y4 y5 y6 y7, σ = [some (.ref a), y1, y2, y3, y4, y5, y6, y7]) ⟨((hT.ext u1).ext u2).ext u3, upd_same, none, none, none, none, none, none, none, rfl⟩ (fun i σ H' _ hP => .of hP.2.1) (fun i x σ H3 H4 hi hP hY => ?_) (fun σ H2 hP => ?_)
    · obtain ⟨T4, hc3, y1, y2, y3, y4, y5, y6, y7, rfl⟩ := hP
      obtain ⟨rfl, hx⟩ := hY
      obtain ⟨z, rfl⟩ := hint x (List.mem_of_getElem? hx)
      refine ⟨fun σ' H' => H' = H4 ∧ ∃ m : Nat, σ' = [some (.ref a), some (.int z), some (.int (m : Int)), y3, y4, y5, y6, y7], ?_, fun σ' H5 hM => ?_⟩
      · exact ⟨_, rfl, z, rfl, _, _, rfl, rfl, ⟨by decide, by decide, by decide⟩, _, _, rfl, rfl, (show (0 : Int) < 10 ^ Int.toNat 20 by decide), rfl, ex_nat (p := fun v => _ = [some (.ref a), some (.int z), some v, y3, y4, y5, y6, y7]) (Int.emod_nonneg _ (show (10 : Int) ^ Int.toNat 20 ≠ 0 by decide)) rfl⟩
      obtain ⟨rfl, m, rfl⟩ := hM
      refine ⟨_, rfl, m, rfl, T4, fun H5 T5 e5 => ⟨_, rfl, iteF ?_⟩⟩
      refine ⟨rfl, fun H1 a1 xs1 s1 h1 l1 nw1 => ?_⟩
      refine ⟨_, rfl, _, rfl, _, _, rfl, rfl, _, rfl, _, rfl, _, _, rfl, rfl, by show 4 ≤ sizeLine; decide, fun t2 w2 => ?_⟩
      have u2 := same_upd (o := .lst [V.int (-1), V.int 6, V.int (6 + (m : Int)), V.int (-1 - (m : Int))]) w2
      have v2 : upd H1 t2 (.lst [V.int (-1), V.int 6, V.int (6 + (m : Int)), V.int (-1 - (m : Int))]) t2 = some (.lst [V.int (-1), V.int 6, V.int (6 + (m : Int)), V.int (-1 - (m : Int))]) := upd_same
      generalize upd H1 t2 (.lst [V.int (-1), V.int 6, V.int (6 + (m : Int)), V.int (-1 - (m : Int))]) = G2 at u2 v2 ⊢
      refine ⟨a1, t2, xs1, [V.int (-1), V.int 6, V.int (6 + (m : Int)), V.int (-1 - (m : Int))], rfl, rfl, (u2 _ _ (h1)), (v2), by rw [l1]; show 11 ≤ sizeLine; decide, fun t3 w3 => ?_⟩
      have u3 := same_upd (o := .lst (xs1 ++ [V.int (-1), V.int 6, V.int (6 + (m : Int)), V.int (-1 - (m : Int))])) w3
      have v3 : upd G2 t3 (.lst (xs1 ++ [V.int (-1), V.int 6, V.int (6 + (m : Int)), V.int (-1 - (m : Int))])) t3 = some (.lst (xs1 ++ [V.int (-1), V.int 6, V.int (6 + (m : Int)), V.int (-1 - (m : Int))])) := upd_same
      generalize upd G2 t3 (.lst (xs1 ++ [V.int (-1), V.int 6, V.int (6 + (m : Int)), V.int (-1 - (m : Int))])) = G3 at u3 v3 ⊢
      have bs : ∀ (H' : Hp), LamX.ExtN G3 H' → ∀ v ∈ xs1 ++ [V.int (-1), V.int 6, V.int (6 + (m : Int)), V.int (-1 - (m : Int))], BadC K H' 7 v := fun H' e v hv => by
        rcases List.mem_append.mp hv with h | h
        · exact .inl ((nw1 v h).ext ((((LamX.ExtN.refl _).trans (extN_same u2)).trans (extN_same u3)).trans e))
        · simp only [List.mem_cons, List.not_mem_nil, or_false] at h
          rcases h with rfl | rfl | rfl | rfl
          · exact .inr ⟨_, rfl, .inl (by decide)⟩
          · exact .inr ⟨_, rfl, .inr (by decide)⟩
          · exact .inr ⟨_, rfl, .inr (by show ((7 : Nat) : Int) - 1 ≤ 6 + (m : Int); omega)⟩
          · exact .inr ⟨_, rfl, .inl (by omega)⟩
      refine ⟨(((T5.ext s1).ext u2).ext u3), fun f4 c4 G4 e4 n4 T4 nf4 hf4 hc4 => ?_⟩
      refine ⟨by show 1 ≤ sizeLine; decide, fun t5 w5 => ?_⟩
      have u5 := same_upd (o := .lst [V.ref f4]) w5
      have v5 : upd G4 t5 (.lst [V.ref f4]) t5 = some (.lst [V.ref f4]) := upd_same
      generalize upd G4 t5 (.lst [V.ref f4]) = G5 at u5 v5 ⊢
      refine ⟨_, rfl, .int (m : Int), rfl, fun cc4 uu4 oo4 hl4 ru4 hd4 nc4 => ?_⟩
      have aa4 : ∀ v ∈ xs1 ++ [V.int (-1), V.int 6, V.int (6 + (m : Int)), V.int (-1 - (m : Int))], Hx.AskR P w K mg base 6 (upd G5 cc4 (Hx.PinO cc4 oo4)) f4 v (fa 31) := fun v hv => Hx.ask_cap (k := 5) (x := "_law_column") (y := "_law_more") (m := .int (m : Int)) (NdefX.nscope_by (by dsimp only; decide +kernel)) (fun _ _ us h => match us, h with | [_], _ => rfl) (congrArg (fun z => [(("_law_more" : Str), Option.getD z 0)]) hl4) (same_upd nc4 _ _ (u5 _ _ hf4)) (same_upd nc4 _ _ (u5 _ _ hc4)) upd_same hd4 ru4 fun A outer s H1 hr e1 => ⟨_, (pe_callS (xok_row_of T) (hr.mono (by decide)) (by rfl) T.g_row_of T.F_row_of.kp T.b_row_of (L2N.passAt (L2N.takes_of rfl rfl rfl rfl)) (pa_cons pe_int (pa_cons pe_int (pa_cons (pv 1) (pa_cons (pv 0) pa_nil))))), ⟨_, rfl, _, rfl, .int 7, .int 3, .int (m : Int), v, rfl, .inr ⟨7, ⟨3, _, rfl, rfl, rfl, root73, by decide +kernel, by decide⟩, (bs _ ((((LamX.ExtN.refl _).trans e4).trans (extN_same u5)).trans ((extN_same (Hx.same_dl (Same.refl _) nc4)).trans e1)) v hv), rfl, rfl, Same.refl _⟩⟩⟩
      refine ⟨t5, t3, [V.ref f4], xs1 ++ [V.int (-1), V.int 6, V.int (6 + (m : Int)), V.int (-1 - (m : Int))], 3, by decide, rfl, (same_upd nc4 _ _ (v5)), (same_upd nc4 _ _ (u5 _ _ (e4 _ _ (v3) (fun _ z => nomatch z)))), by rw [List.length_append, l1]; show 11 ≤ 1000; decide, fun x hx => ?_, fun H4 s4 => ⟨s4 _ _ upd_same, _, rfl, iteF ?_⟩⟩
      · rw [List.mem_singleton.mp hx]
        exact ⟨_, rfl, aa4⟩
      have sd4 := Hx.same_dl s4 nc4
      generalize Hx.dl H4 cc4 = Z4 at sd4 ⊢
      refine ⟨((T4.ext u5).ext sd4), fun f6 c6 G6 e6 n6 T6 nf6 hf6 hc6 => ?_⟩
      refine ⟨by show 1 ≤ sizeLine; decide, fun t7 w7 => ?_⟩
      have u7 := same_upd (o := .lst [V.ref f6]) w7
      have v7 : upd G6 t7 (.lst [V.ref f6]) t7 = some (.lst [V.ref f6]) := upd_same
      generalize upd G6 t7 (.lst [V.ref f6]) = G7 at u7 v7 ⊢
      refine ⟨_, rfl, .int (m : Int), rfl, fun cc6 uu6 oo6 hl6 ru6 hd6 nc6 => ?_⟩
      have aa6 : ∀ v ∈ xs1 ++ [V.int (-1), V.int 6, V.int (6 + (m : Int)), V.int (-1 - (m : Int))], Hx.AskR P w K mg base 6 (upd G7 cc6 (Hx.PinO cc6 oo6)) f6 v (fa 32) := fun v hv => Hx.ask_cap (k := 5) (x := "_law_row") (y := "_law_more") (m := .int (m : Int)) (NdefX.nscope_by (by dsimp only; decide +kernel)) (fun _ _ us h => match us, h with | [_], _ => rfl) (congrArg (fun z => [(("_law_more" : Str), Option.getD z 0)]) hl6) (same_upd nc6 _ _ (u7 _ _ hf6)) (same_upd nc6 _ _ (u7 _ _ hc6)) upd_same hd6 ru6 fun A outer s H1 hr e1 => ⟨_, (pe_callS (xok_column_of T) (hr.mono (by decide)) (by rfl) T.g_column_of T.F_column_of.kp T.b_column_of (L2N.passAt (L2N.takes_of rfl rfl rfl rfl)) (pa_cons pe_int (pa_cons pe_int (pa_cons (pe_un un_neg (pv 1)) (pa_cons (pv 0) pa_nil))))), ⟨_, rfl, _, rfl, _, rfl, .int 7, .int 3, .int (-(m : Int)), v, rfl, .inr ⟨7, ⟨3, _, rfl, rfl, rfl, root73, by decide +kernel, by decide⟩, (bs _ (((((((LamX.ExtN.refl _).trans e4).trans (extN_same u5)).trans (extN_same sd4)).trans e6).trans (extN_same u7)).trans ((extN_same (Hx.same_dl (Same.refl _) nc6)).trans e1)) v hv), rfl, rfl, Same.refl _⟩⟩⟩
      refine ⟨t7, t3, [V.ref f6], xs1 ++ [V.int (-1), V.int 6, V.int (6 + (m : Int)), V.int (-1 - (m : Int))], 4, by decide, rfl, (same_upd nc6 _ _ (v7)), (same_upd nc6 _ _ (u7 _ _ (e6 _ _ (sd4 _ _ (u5 _ _ (e4 _ _ (v3) (fun _ z => nomatch z)))) (fun _ z => nomatch z)))), by rw [List.length_append, l1]; show 11 ≤ 1000; decide, fun x hx => ?_, fun H6 s6 => ⟨s6 _ _ upd_same, _, rfl, iteF ?_⟩⟩
      · rw [List.mem_singleton.mp hx]
        exact ⟨_, rfl, aa6⟩
      have sd6 := Hx.same_dl s6 nc6
      generalize Hx.dl H6 cc6 = Z6 at sd6 ⊢
      refine ⟨rfl, fun H8 a8 xs8 s8 h8 l8 nw8 => ?_⟩
      refine ⟨_, rfl, _, rfl, _, rfl, _, _, rfl, rfl, by show 3 ≤ sizeLine; decide, fun t9 w9 => ?_⟩
      have u9 := same_upd (o := .lst [V.int 0, V.int (-1), V.int (-1 - (m : Int))]) w9
      have v9 : upd H8 t9 (.lst [V.int 0, V.int (-1), V.int (-1 - (m : Int))]) t9 = some (.lst [V.int 0, V.int (-1), V.int (-1 - (m : Int))]) := upd_same
      generalize upd H8 t9 (.lst [V.int 0, V.int (-1), V.int (-1 - (m : Int))]) = G9 at u9 v9 ⊢
      refine ⟨a8, t9, xs8, [V.int 0, V.int (-1), V.int (-1 - (m : Int))], rfl, rfl, (u9 _ _ (h8)), (v9), by rw [l8]; show 10 ≤ sizeLine; decide, fun t10 w10 => ?_⟩
      have u10 := same_upd (o := .lst (xs8 ++ [V.int 0, V.int (-1), V.int (-1 - (m : Int))])) w10
      have v10 : upd G9 t10 (.lst (xs8 ++ [V.int 0, V.int (-1), V.int (-1 - (m : Int))])) t10 = some (.lst (xs8 ++ [V.int 0, V.int (-1), V.int (-1 - (m : Int))])) := upd_same
      generalize upd G9 t10 (.lst (xs8 ++ [V.int 0, V.int (-1), V.int (-1 - (m : Int))])) = G10 at u10 v10 ⊢
      refine ⟨(((((T6.ext u7).ext sd6).ext s8).ext u9).ext u10), fun f11 c11 G11 e11 n11 T11 nf11 hf11 hc11 => ?_⟩
      have A11 : ∀ (H' : Hp) (v : V), LamX.ExtN G11 H' → (NW K H' v ∨ ∃ i : Int, v = .int i ∧ (i < 1 ∨ ((7 : Nat) : Int) - 2 < i)) → Hx.AskR P w K mg base 6 H' f11 v (fa 33) := fun H' v e b => Hx.ask_of (k := 5) (NdefX.nscope_by (by dsimp only; decide +kernel)) (fun _ _ us h => match us, h with | [_], _ => rfl) rfl (e _ _ hf11 Hx.lamO_ne) (e _ _ hc11 cO_ne) fun A outer s H1 hr e1 => ⟨_, (pe_callS (xok_arrow_of T) (hr.mono (by decide)) (by rfl) T.g_arrow_of T.F_arrow_of.kp T.b_arrow_of (L2N.passAt (L2N.takes_of rfl rfl rfl rfl)) (pa_cons pe_int (pa_cons pe_int (pa_cons pe_int (pa_cons (pv 0) (pa_cons pe_int pa_nil)))))), ⟨_, rfl, .int 7, .int 3, .int 0, v, .int 1, rfl, .inr ⟨7, ⟨3, _, rfl, rfl, rfl, root73, by decide +kernel, by decide⟩, .inl (b.imp (fun z => z.ext e1) id), rfl, rfl, Same.refl _⟩⟩⟩
      refine ⟨T11, fun f12 c12 G12 e12 n12 T12 nf12 hf12 hc12 => ?_⟩
      have A12 : ∀ (H' : Hp) (v : V), LamX.ExtN G12 H' → BadN K H' 7 v → Hx.AskR P w K mg base 6 H' f12 v (fa 33) := fun H' v e b => Hx.ask_of (k := 5) (NdefX.nscope_by (by dsimp only; decide +kernel)) (fun _ _ us h => match us, h with | [_], _ => rfl) rfl (e _ _ hf12 Hx.lamO_ne) (e _ _ hc12 cO_ne) fun A outer s H1 hr e1 => ⟨_, (pe_callS (xok_arrow_of T) (hr.mono (by decide)) (by rfl) T.g_arrow_of T.F_arrow_of.kp T.b_arrow_of (L2N.passAt (L2N.takes_of rfl rfl rfl rfl)) (pa_cons pe_int (pa_cons pe_int (pa_cons pe_int (pa_cons pe_int (pa_cons (pv 0) pa_nil)))))), ⟨_, rfl, .int 7, .int 3, .int 0, .int 1, v, rfl, .inr ⟨7, ⟨3, _, rfl, rfl, rfl, root73, by decide +kernel, by decide⟩, .inr ⟨⟨1, rfl, by decide, by decide⟩, b.ext e1⟩, rfl, rfl, Same.refl _⟩⟩⟩
      refine ⟨by show 2 ≤ sizeLine; decide, fun t13 w13 => ?_⟩
      have u13 := same_upd (o := .lst [V.ref f11, V.ref f12]) w13
      have v13 : upd G12 t13 (.lst [V.ref f11, V.ref f12]) t13 = some (.lst [V.ref f11, V.ref f12]) := upd_same
      generalize upd G12 t13 (.lst [V.ref f11, V.ref f12]) = G13 at u13 v13 ⊢
      refine ⟨_, rfl, 1, rfl, t13, _, rfl, .of (v13), fun t14 w14 => ?_⟩
      have u14 := same_upd (o := .lst (cutV [V.ref f11, V.ref f12] none (some 1))) w14
      have v14 : upd G13 t14 (.lst (cutV [V.ref f11, V.ref f12] none (some 1))) t14 = some (.lst [V.ref f11]) := upd_same
      generalize upd G13 t14 (.lst (cutV [V.ref f11, V.ref f12] none (some 1))) = G14 at u14 v14 ⊢
      refine ⟨_, rfl, _, rfl, _, _, rfl, rfl, by show 2 ≤ sizeLine; decide, fun t15 w15 => ?_⟩
      have u15 := same_upd (o := .lst [V.int 6, V.int (6 + (m : Int))]) w15
      have v15 : upd G14 t15 (.lst [V.int 6, V.int (6 + (m : Int))]) t15 = some (.lst [V.int 6, V.int (6 + (m : Int))]) := upd_same
      generalize upd G14 t15 (.lst [V.int 6, V.int (6 + (m : Int))]) = G15 at u15 v15 ⊢
      refine ⟨t10, t15, (xs8 ++ [V.int 0, V.int (-1), V.int (-1 - (m : Int))]), [V.int 6, V.int (6 + (m : Int))], rfl, rfl, (u15 _ _ (u14 _ _ (u13 _ _ (e12 _ _ (e11 _ _ (v10) (fun _ z => nomatch z)) (fun _ z => nomatch z))))), (v15), by rw [List.length_append, l8]; show 12 ≤ sizeLine; decide, fun t16 w16 => ?_⟩
      have u16 := same_upd (o := .lst ((xs8 ++ [V.int 0, V.int (-1), V.int (-1 - (m : Int))]) ++ [V.int 6, V.int (6 + (m : Int))])) w16
      have v16 : upd G15 t16 (.lst ((xs8 ++ [V.int 0, V.int (-1), V.int (-1 - (m : Int))]) ++ [V.int 6, V.int (6 + (m : Int))])) t16 = some (.lst ((xs8 ++ [V.int 0, V.int (-1), V.int (-1 - (m : Int))]) ++ [V.int 6, V.int (6 + (m : Int))])) := upd_same
      generalize upd G15 t16 (.lst ((xs8 ++ [V.int 0, V.int (-1), V.int (-1 - (m : Int))]) ++ [V.int 6, V.int (6 + (m : Int))])) = G16 at u16 v16 ⊢
      have ba6 : ∀ (H' : Hp), LamX.ExtN G16 H' → ∀ v ∈ (xs8 ++ [V.int 0, V.int (-1), V.int (-1 - (m : Int))]) ++ [V.int 6, V.int (6 + (m : Int))], (NW K H' v ∨ ∃ i : Int, v = .int i ∧ (i < 1 ∨ ((7 : Nat) : Int) - 2 < i)) := fun H' e v hv => by
        rcases List.mem_append.mp hv with h | h
        · rcases List.mem_append.mp h with h | h
          · exact .inl ((nw8 v h).ext ((((((((((LamX.ExtN.refl _).trans (extN_same u9)).trans (extN_same u10)).trans e11).trans e12).trans (extN_same u13)).trans (extN_same u14)).trans (extN_same u15)).trans (extN_same u16)).trans e))
          · simp only [List.mem_cons, List.not_mem_nil, or_false] at h
            rcases h with rfl | rfl | rfl
            · exact .inr ⟨_, rfl, .inl (by decide)⟩
            · exact .inr ⟨_, rfl, .inl (by decide)⟩
            · exact .inr ⟨_, rfl, .inl (by omega)⟩
        · simp only [List.mem_cons, List.not_mem_nil, or_false] at h
          rcases h with rfl | rfl
          · exact .inr ⟨_, rfl, .inr (by decide)⟩
          · exact .inr ⟨_, rfl, .inr (by show ((7 : Nat) : Int) - 2 < 6 + (m : Int); omega)⟩
      refine ⟨t14, t16, [V.ref f11], ((xs8 ++ [V.int 0, V.int (-1), V.int (-1 - (m : Int))]) ++ [V.int 6, V.int (6 + (m : Int))]), 5, by decide, rfl, (u16 _ _ (u15 _ _ (v14))), (v16), by rw [List.length_append, List.length_append, l8]; show 12 ≤ 1000; decide, fun x hx => ?_, fun H17 s17 => ⟨_, rfl, iteF ?_⟩⟩
      · simp only [List.mem_cons, List.not_mem_nil, or_false] at hx
        rcases hx with rfl
        · exact ⟨_, rfl, fun v hv => A11 _ v ((((((LamX.ExtN.refl _).trans e12).trans (extN_same u13)).trans (extN_same u14)).trans (extN_same u15)).trans (extN_same u16)) (ba6 _ (LamX.ExtN.refl _) v hv)⟩
      refine ⟨_, rfl, 1, rfl, t13, _, rfl, .of (s17 _ _ (u16 _ _ (u15 _ _ (u14 _ _ (v13))))), fun t18 w18 => ?_⟩
      have u18 := same_upd (o := .lst (cutV [V.ref f11, V.ref f12] (some 1) none)) w18
      have v18 : upd H17 t18 (.lst (cutV [V.ref f11, V.ref f12] (some 1) none)) t18 = some (.lst [V.ref f12]) := upd_same
      generalize upd H17 t18 (.lst (cutV [V.ref f11, V.ref f12] (some 1) none)) = G18 at u18 v18 ⊢
      refine ⟨_, rfl, _, rfl, _, _, rfl, rfl, by show 2 ≤ sizeLine; decide, fun t19 w19 => ?_⟩
      have u19 := same_upd (o := .lst [V.int 7, V.int (7 + (m : Int))]) w19
      have v19 : upd G18 t19 (.lst [V.int 7, V.int (7 + (m : Int))]) t19 = some (.lst [V.int 7, V.int (7 + (m : Int))]) := upd_same
      generalize upd G18 t19 (.lst [V.int 7, V.int (7 + (m : Int))]) = G19 at u19 v19 ⊢
      refine ⟨t10, t19, (xs8 ++ [V.int 0, V.int (-1), V.int (-1 - (m : Int))]), [V.int 7, V.int (7 + (m : Int))], rfl, rfl, (u19 _ _ (u18 _ _ (s17 _ _ (u16 _ _ (u15 _ _ (u14 _ _ (u13 _ _ (e12 _ _ (e11 _ _ (v10) (fun _ z => nomatch z)) (fun _ z => nomatch z))))))))), (v19), by rw [List.length_append, l8]; show 12 ≤ sizeLine; decide, fun t20 w20 => ?_⟩
      have u20 := same_upd (o := .lst ((xs8 ++ [V.int 0, V.int (-1), V.int (-1 - (m : Int))]) ++ [V.int 7, V.int (7 + (m : Int))])) w20
      have v20 : upd G19 t20 (.lst ((xs8 ++ [V.int 0, V.int (-1), V.int (-1 - (m : Int))]) ++ [V.int 7, V.int (7 + (m : Int))])) t20 = some (.lst ((xs8 ++ [V.int 0, V.int (-1), V.int (-1 - (m : Int))]) ++ [V.int 7, V.int (7 + (m : Int))])) := upd_same
      generalize upd G19 t20 (.lst ((xs8 ++ [V.int 0, V.int (-1), V.int (-1 - (m : Int))]) ++ [V.int 7, V.int (7 + (m : Int))])) = G20 at u20 v20 ⊢
      have ba7 : ∀ (H' : Hp), LamX.ExtN G20 H' → ∀ v ∈ (xs8 ++ [V.int 0, V.int (-1), V.int (-1 - (m : Int))]) ++ [V.int 7, V.int (7 + (m : Int))], BadN K H' 7 v := fun H' e v hv => by
        rcases List.mem_append.mp hv with h | h
        · rcases List.mem_append.mp h with h | h
          · exact .inl ((nw8 v h).ext ((((((((((((((LamX.ExtN.refl _).trans (extN_same u9)).trans (extN_same u10)).trans e11).trans e12).trans (extN_same u13)).trans (extN_same u14)).trans (extN_same u15)).trans (extN_same u16)).trans (extN_same s17)).trans (extN_same u18)).trans (extN_same u19)).trans (extN_same u20)).trans e))
          · simp only [List.mem_cons, List.not_mem_nil, or_false] at h
            rcases h with rfl | rfl | rfl
            · exact .inr ⟨_, rfl, .inl (by decide)⟩
            · exact .inr ⟨_, rfl, .inl (by decide)⟩
            · exact .inr ⟨_, rfl, .inl (by omega)⟩
        · simp only [List.mem_cons, List.not_mem_nil, or_false] at h
          rcases h with rfl | rfl
          · exact .inr ⟨_, rfl, .inr (by decide)⟩
          · exact .inr ⟨_, rfl, .inr (by show ((7 : Nat) : Int) ≤ 7 + (m : Int); omega)⟩
      refine ⟨t18, t20, [V.ref f12], ((xs8 ++ [V.int 0, V.int (-1), V.int (-1 - (m : Int))]) ++ [V.int 7, V.int (7 + (m : Int))]), 5, by decide, rfl, (u20 _ _ (u19 _ _ (v18))), (v20), by rw [List.length_append, List.length_append, l8]; show 12 ≤ 1000; decide, fun x hx => ?_, fun H21 s21 => ⟨_, rfl, iteF ?_⟩⟩
      · simp only [List.mem_cons, List.not_mem_nil, or_false] at hx
        rcases hx with rfl
        · exact ⟨_, rfl, fun v hv => A12 _ v (((((((((LamX.ExtN.refl _).trans (extN_same u13)).trans (extN_same u14)).trans (extN_same u15)).trans (extN_same u16)).trans (extN_same s17)).trans (extN_same u18)).trans (extN_same u19)).trans (extN_same u20)) (ba7 _ (LamX.ExtN.refl _) v hv)⟩
      refine ⟨by show 0 ≤ sizeLine; decide, fun t22 w22 => ?_⟩
      have u22 := same_upd (o := .tup []) w22
      have v22 : upd H21 t22 (.tup []) t22 = some (.tup []) := upd_same
      generalize upd H21 t22 (.tup []) = G22 at u22 v22 ⊢
      refine ⟨by show 2 ≤ sizeLine; decide, fun t23 w23 => ?_⟩
      have u23 := same_upd (o := .tup [V.int 0, V.int 1]) w23
      have v23 : upd G22 t23 (.tup [V.int 0, V.int 1]) t23 = some (.tup [V.int 0, V.int 1]) := upd_same
      generalize upd G22 t23 (.tup [V.int 0, V.int 1]) = G23 at u23 v23 ⊢
      refine fun t24 w24 => ?_
      have u24 := same_upd (o := .dK []) w24
      have v24 : upd G23 t24 (.dK []) t24 = some (.dK []) := upd_same
      generalize upd G23 t24 (.dK []) = G24 at u24 v24 ⊢
      refine ⟨by show 0 ≤ sizeLine; decide, fun t25 w25 => ?_⟩
      have u25 := same_upd (o := .lst []) w25
      have v25 : upd G24 t25 (.lst []) t25 = some (.lst []) := upd_same
      generalize upd G24 t25 (.lst []) = G25 at u25 v25 ⊢
      refine ⟨by show 1 ≤ sizeLine; decide, fun t26 w26 => ?_⟩
      have u26 := same_upd (o := .lst [V.int 1]) w26
      have v26 : upd G25 t26 (.lst [V.int 1]) t26 = some (.lst [V.int 1]) := upd_same
      generalize upd G25 t26 (.lst [V.int 1]) = G26 at u26 v26 ⊢
      refine ⟨by show 2 ≤ sizeLine; decide, fun t27 w27 => ?_⟩
      have u27 := same_upd (o := .lst [V.int 0, V.int 0]) w27
      have v27 : upd G26 t27 (.lst [V.int 0, V.int 0]) t27 = some (.lst [V.int 0, V.int 0]) := upd_same
      generalize upd G26 t27 (.lst [V.int 0, V.int 0]) = G27 at u27 v27 ⊢
      refine ⟨by show 2 ≤ sizeLine; decide, fun t28 w28 => ?_⟩
      have u28 := same_upd (o := .lst [V.int 0, V.int 2]) w28
      have v28 : upd G27 t28 (.lst [V.int 0, V.int 2]) t28 = some (.lst [V.int 0, V.int 2]) := upd_same
      generalize upd G27 t28 (.lst [V.int 0, V.int 2]) = G28 at u28 v28 ⊢
      refine ⟨_, rfl, by show 2 ≤ sizeLine; decide, fun t29 w29 => ?_⟩
      have u29 := same_upd (o := .lst [V.int (-1), V.int 0]) w29
      have v29 : upd G28 t29 (.lst [V.int (-1), V.int 0]) t29 = some (.lst [V.int (-1), V.int 0]) := upd_same
      generalize upd G28 t29 (.lst [V.int (-1), V.int 0]) = G29 at u29 v29 ⊢
      refine ⟨by show 2 ≤ sizeLine; decide, fun t30 w30 => ?_⟩
      have u30 := same_upd (o := .lst [V.int 0, V.non]) w30
      have v30 : upd G29 t30 (.lst [V.int 0, V.non]) t30 = some (.lst [V.int 0, V.non]) := upd_same
      generalize upd G29 t30 (.lst [V.int 0, V.non]) = G30 at u30 v30 ⊢
      refine ⟨by show 2 ≤ sizeLine; decide, fun t31 w31 => ?_⟩
      have u31 := same_upd (o := .lst [V.bl true, V.int 0]) w31
      have v31 : upd G30 t31 (.lst [V.bl true, V.int 0]) t31 = some (.lst [V.bl true, V.int 0]) := upd_same
      generalize upd G30 t31 (.lst [V.bl true, V.int 0]) = G31 at u31 v31 ⊢
      refine ⟨by show 2 ≤ sizeLine; decide, fun t32 w32 => ?_⟩
      have u32 := same_upd (o := .lst [V.str "0", V.int 1]) w32
      have v32 : upd G31 t32 (.lst [V.str "0", V.int 1]) t32 = some (.lst [V.str "0", V.int 1]) := upd_same
      generalize upd G31 t32 (.lst [V.str "0", V.int 1]) = G32 at u32 v32 ⊢
      refine ⟨by show 14 ≤ sizeLine; decide, fun t33 w33 => ?_⟩
      have u33 := same_upd (o := .lst [V.non, V.ref t22, V.ref t23, V.str "01", V.ref t24, V.int 5, V.ref t25, V.ref t26, V.ref t27, V.ref t28, V.ref t29, V.ref t30, V.ref t31, V.ref t32]) w33
      have v33 : upd G32 t33 (.lst [V.non, V.ref t22, V.ref t23, V.str "01", V.ref t24, V.int 5, V.ref t25, V.ref t26, V.ref t27, V.ref t28, V.ref t29, V.ref t30, V.ref t31, V.ref t32]) t33 = some (.lst [V.non, V.ref t22, V.ref t23, V.str "01", V.ref t24, V.int 5, V.ref t25, V.ref t26, V.ref t27, V.ref t28, V.ref t29, V.ref t30, V.ref t31, V.ref t32]) := upd_same
      generalize upd G32 t33 (.lst [V.non, V.ref t22, V.ref t23, V.str "01", V.ref t24, V.int 5, V.ref t25, V.ref t26, V.ref t27, V.ref t28, V.ref t29, V.ref t30, V.ref t31, V.ref t32]) = G33 at u33 v33 ⊢
      refine ⟨_, rfl, by show 3 ≤ sizeLine; decide, fun t34 w34 => ?_⟩
      have u34 := same_upd (o := .lst [V.int 0, V.int 1, V.int 3]) w34
      have v34 : upd G33 t34 (.lst [V.int 0, V.int 1, V.int 3]) t34 = some (.lst [V.int 0, V.int 1, V.int 3]) := upd_same
      generalize upd G33 t34 (.lst [V.int 0, V.int 1, V.int 3]) = G34 at u34 v34 ⊢
      refine ⟨_, rfl, _, _, rfl, rfl, _, rfl, _, _, rfl, rfl, by show 3 ≤ sizeLine; decide, fun t35 w35 => ?_⟩
      have u35 := same_upd (o := .lst [V.int 0, V.int (1 + (m : Int)), V.int (1 + (m : Int))]) w35
      have v35 : upd G34 t35 (.lst [V.int 0, V.int (1 + (m : Int)), V.int (1 + (m : Int))]) t35 = some (.lst [V.int 0, V.int (1 + (m : Int)), V.int (1 + (m : Int))]) := upd_same
      generalize upd G34 t35 (.lst [V.int 0, V.int (1 + (m : Int)), V.int (1 + (m : Int))]) = G35 at u35 v35 ⊢
      refine ⟨_, rfl, RgOk.of_le (by decide) (by decide) (by decide) (by decide), fun t36 w36 => ?_⟩
      have u36 := same_upd (o := .lst (rgV 0 61)) w36
      have v36 : upd G35 t36 (.lst (rgV 0 61)) t36 = some (.lst (rgV 0 61)) := upd_same
      generalize upd G35 t36 (.lst (rgV 0 61)) = G36 at u36 v36 ⊢
      refine ⟨by show 1 ≤ sizeLine; decide, fun t37 w37 => ?_⟩
      have u37 := same_upd (o := .lst [V.int 0]) w37
      have v37 : upd G36 t37 (.lst [V.int 0]) t37 = some (.lst [V.int 0]) := upd_same
      generalize upd G36 t37 (.lst [V.int 0]) = G37 at u37 v37 ⊢
      refine ⟨by show 2 ≤ sizeLine; decide, fun t38 w38 => ?_⟩
      have u38 := same_upd (o := .lst [V.ref t37, V.int 1]) w38
      have v38 : upd G37 t38 (.lst [V.ref t37, V.int 1]) t38 = some (.lst [V.ref t37, V.int 1]) := upd_same
      generalize upd G37 t38 (.lst [V.ref t37, V.int 1]) = G38 at u38 v38 ⊢
      refine ⟨by show 2 ≤ sizeLine; decide, fun t39 w39 => ?_⟩
      have u39 := same_upd (o := .lst [V.int 0, V.bl false]) w39
      have v39 : upd G38 t39 (.lst [V.int 0, V.bl false]) t39 = some (.lst [V.int 0, V.bl false]) := upd_same
      generalize upd G38 t39 (.lst [V.int 0, V.bl false]) = G39 at u39 v39 ⊢
      refine ⟨by show 5 ≤ sizeLine; decide, fun t40 w40 => ?_⟩
      have u40 := same_upd (o := .lst [V.ref t34, V.ref t35, V.ref t36, V.ref t38, V.ref t39]) w40
      have v40 : upd G39 t40 (.lst [V.ref t34, V.ref t35, V.ref t36, V.ref t38, V.ref t39]) t40 = some (.lst [V.ref t34, V.ref t35, V.ref t36, V.ref t38, V.ref t39]) := upd_same
      generalize upd G39 t40 (.lst [V.ref t34, V.ref t35, V.ref t36, V.ref t38, V.ref t39]) = G40 at u40 v40 ⊢
      refine ⟨t33, t40, [V.non, V.ref t22, V.ref t23, V.str "01", V.ref t24, V.int 5, V.ref t25, V.ref t26, V.ref t27, V.ref t28, V.ref t29, V.ref t30, V.ref t31, V.ref t32], [V.ref t34, V.ref t35, V.ref t36, V.ref t38, V.ref t39], rfl, rfl, (u40 _ _ (u39 _ _ (u38 _ _ (u37 _ _ (u36 _ _ (u35 _ _ (u34 _ _ (v33)))))))), (v40), by show 19 ≤ sizeLine; decide, fun t41 w41 => ?_⟩
      have u41 := same_upd (o := .lst ([V.non, V.ref t22, V.ref t23, V.str "01", V.ref t24, V.int 5, V.ref t25, V.ref t26, V.ref t27, V.ref t28, V.ref t29, V.ref t30, V.ref t31, V.ref t32] ++ [V.ref t34, V.ref t35, V.ref t36, V.ref t38, V.ref t39])) w41
      have v41 : upd G40 t41 (.lst ([V.non, V.ref t22, V.ref t23, V.str "01", V.ref t24, V.int 5, V.ref t25, V.ref t26, V.ref t27, V.ref t28, V.ref t29, V.ref t30, V.ref t31, V.ref t32] ++ [V.ref t34, V.ref t35, V.ref t36, V.ref t38, V.ref t39])) t41 = some (.lst [V.non, V.ref t22, V.ref t23, V.str "01", V.ref t24, V.int 5, V.ref t25, V.ref t26, V.ref t27, V.ref t28, V.ref t29, V.ref t30, V.ref t31, V.ref t32, V.ref t34, V.ref t35, V.ref t36, V.ref t38, V.ref t39]) := upd_same
      generalize upd G40 t41 (.lst ([V.non, V.ref t22, V.ref t23, V.str "01", V.ref t24, V.int 5, V.ref t25, V.ref t26, V.ref t27, V.ref t28, V.ref t29, V.ref t30, V.ref t31, V.ref t32] ++ [V.ref t34, V.ref t35, V.ref t36, V.ref t38, V.ref t39])) = G41 at u41 v41 ⊢
      refine ⟨_, rfl, .inl ⟨rfl, _, .of (v41)⟩, _, rfl, _, _, rfl, rfl, _, rfl, _, _, rfl, rfl, by show 4 ≤ sizeLine; decide, fun t42 w42 => ?_⟩
      have u42 := same_upd (o := .lst [V.int (2 + (m : Int)), V.int 1, V.int 0, V.int (2 + (m : Int))]) w42
      have v42 : upd G41 t42 (.lst [V.int (2 + (m : Int)), V.int 1, V.int 0, V.int (2 + (m : Int))]) t42 = some (.lst [V.int (2 + (m : Int)), V.int 1, V.int 0, V.int (2 + (m : Int))]) := upd_same
      generalize upd G41 t42 (.lst [V.int (2 + (m : Int)), V.int 1, V.int 0, V.int (2 + (m : Int))]) = G42 at u42 v42 ⊢
      have hd3 := (u42 _ _ (v41))
      have ex3 : LamX.ExtN _ G42 := (((LamX.ExtN.refl _).trans (extN_same u41)).trans (extN_same u42))
      have tb3 : NdefX.TabsN (TL P1 P2) G42 := ((((((((((((((((((((((((((((((T12.ext u13).ext u14).ext u15).ext u16).ext s17).ext u18).ext u19).ext u20).ext s21).ext u22).ext u23).ext u24).ext u25).ext u26).ext u27).ext u28).ext u29).ext u30).ext u31).ext u32).ext u33).ext u34).ext u35).ext u36).ext u37).ext u38).ext u39).ext u40).ext u41).ext u42)
      refine ⟨t41, [V.non, V.ref t22, V.ref t23, V.str "01", V.ref t24, V.int 5, V.ref t25, V.ref t26, V.ref t27, V.ref t28, V.ref t29, V.ref t30, V.ref t31, V.ref t32, V.ref t34, V.ref t35, V.ref t36, V.ref t38, V.ref t39], _, rfl, rfl, hd3, small1000 (by show 19 ≤ 1000; decide), ?_⟩
      have exA := ext_acc (o := .lst ([V.non, V.ref t22, V.ref t23, V.str "01", V.ref t24, V.int 5, V.ref t25, V.ref t26, V.ref t27, V.ref t28, V.ref t29, V.ref t30, V.ref t31, V.ref t32, V.ref t34, V.ref t35, V.ref t36, V.ref t38, V.ref t39] ++ [V.ref t42])) ex3 w41
      have tbA := tab_acc (ys := [V.non, V.ref t22, V.ref t23, V.str "01", V.ref t24, V.int 5, V.ref t25, V.ref t26, V.ref t27, V.ref t28, V.ref t29, V.ref t30, V.ref t31, V.ref t32, V.ref t34, V.ref t35, V.ref t36, V.ref t38, V.ref t39] ++ [V.ref t42]) tb3 ⟨_, hd3⟩
      have neA : t42 ≠ t41 := (ne_of_none v41 w42).symm
      have hA : upd G42 t41 (.lst ([V.non, V.ref t22, V.ref t23, V.str "01", V.ref t24, V.int 5, V.ref t25, V.ref t26, V.ref t27, V.ref t28, V.ref t29, V.ref t30, V.ref t31, V.ref t32, V.ref t34, V.ref t35, V.ref t36, V.ref t38, V.ref t39] ++ [V.ref t42])) t41 = some (.lst ([V.non, V.ref t22, V.ref t23, V.str "01", V.ref t24, V.int 5, V.ref t25, V.ref t26, V.ref t27, V.ref t28, V.ref t29, V.ref t30, V.ref t31, V.ref t32, V.ref t34, V.ref t35, V.ref t36, V.ref t38, V.ref t39] ++ [V.ref t42])) := upd_same
      have hB : upd G42 t41 (.lst ([V.non, V.ref t22, V.ref t23, V.str "01", V.ref t24, V.int 5, V.ref t25, V.ref t26, V.ref t27, V.ref t28, V.ref t29, V.ref t30, V.ref t31, V.ref t32, V.ref t34, V.ref t35, V.ref t36, V.ref t38, V.ref t39] ++ [V.ref t42])) t42 = some (.lst [V.int (2 + (m : Int)), V.int 1, V.int 0, V.int (2 + (m : Int))]) := (upd_ne neA).trans v42
      generalize upd G42 t41 (.lst ([V.non, V.ref t22, V.ref t23, V.str "01", V.ref t24, V.int 5, V.ref t25, V.ref t26, V.ref t27, V.ref t28, V.ref t29, V.ref t30, V.ref t31, V.ref t32, V.ref t34, V.ref t35, V.ref t36, V.ref t38, V.ref t39] ++ [V.ref t42])) = GA at exA tbA hA hB ⊢
      have bd : ∀ v ∈ ([V.non, V.ref t22, V.ref t23, V.str "01", V.ref t24, V.int 5, V.ref t25, V.ref t26, V.ref t27, V.ref t28, V.ref t29, V.ref t30, V.ref t31, V.ref t32, V.ref t34, V.ref t35, V.ref t36, V.ref t38, V.ref t39] ++ [V.ref t42]), BadD K GA v := fun v hv => by
        simp only [List.mem_append, List.mem_cons, List.not_mem_nil, or_false] at hv
        rcases hv with (rfl | rfl | rfl | rfl | rfl | rfl | rfl | rfl | rfl | rfl | rfl | rfl | rfl | rfl | rfl | rfl | rfl | rfl | rfl) | rfl
        · exact .inl ⟨"NoneType", .base .non, by decide⟩
        · exact .inl ⟨"tuple", .base (.tup (exA _ _ (u40 _ _ (u39 _ _ (u38 _ _ (u37 _ _ (u36 _ _ (u35 _ _ (u34 _ _ (u33 _ _ (u32 _ _ (u31 _ _ (u30 _ _ (u29 _ _ (u28 _ _ (u27 _ _ (u26 _ _ (u25 _ _ (u24 _ _ (u23 _ _ (v22))))))))))))))))))) (fun _ z => nomatch z))), by decide⟩
        · exact .inl ⟨"tuple", .base (.tup (exA _ _ (u40 _ _ (u39 _ _ (u38 _ _ (u37 _ _ (u36 _ _ (u35 _ _ (u34 _ _ (u33 _ _ (u32 _ _ (u31 _ _ (u30 _ _ (u29 _ _ (u28 _ _ (u27 _ _ (u26 _ _ (u25 _ _ (u24 _ _ (v23)))))))))))))))))) (fun _ z => nomatch z))), by decide⟩
        · exact .inl ⟨"str", .base (.str _), by decide⟩
        · exact .inl ⟨"dict", .base (.dK (exA _ _ (u40 _ _ (u39 _ _ (u38 _ _ (u37 _ _ (u36 _ _ (u35 _ _ (u34 _ _ (u33 _ _ (u32 _ _ (u31 _ _ (u30 _ _ (u29 _ _ (u28 _ _ (u27 _ _ (u26 _ _ (u25 _ _ (v24))))))))))))))))) (fun _ z => nomatch z))), by decide⟩
        · exact .inl ⟨"int", .base (.int _), by decide⟩
        · exact .inr ⟨t25, _, rfl, (exA _ _ (u40 _ _ (u39 _ _ (u38 _ _ (u37 _ _ (u36 _ _ (u35 _ _ (u34 _ _ (u33 _ _ (u32 _ _ (u31 _ _ (u30 _ _ (u29 _ _ (u28 _ _ (u27 _ _ (u26 _ _ (v25)))))))))))))))) (fun _ z => nomatch z)), .inl (.inl rfl)⟩
        · exact .inr ⟨t26, _, rfl, (exA _ _ (u40 _ _ (u39 _ _ (u38 _ _ (u37 _ _ (u36 _ _ (u35 _ _ (u34 _ _ (u33 _ _ (u32 _ _ (u31 _ _ (u30 _ _ (u29 _ _ (u28 _ _ (u27 _ _ (v26))))))))))))))) (fun _ z => nomatch z)), .inr (.inr ⟨[1], rfl, by decide, by decide, by decide +kernel⟩)⟩
        · exact .inr ⟨t27, _, rfl, (exA _ _ (u40 _ _ (u39 _ _ (u38 _ _ (u37 _ _ (u36 _ _ (u35 _ _ (u34 _ _ (u33 _ _ (u32 _ _ (u31 _ _ (u30 _ _ (u29 _ _ (u28 _ _ (v27)))))))))))))) (fun _ z => nomatch z)), .inr (.inr ⟨[0, 0], rfl, by decide, by decide, by decide +kernel⟩)⟩
        · exact .inr ⟨t28, _, rfl, (exA _ _ (u40 _ _ (u39 _ _ (u38 _ _ (u37 _ _ (u36 _ _ (u35 _ _ (u34 _ _ (u33 _ _ (u32 _ _ (u31 _ _ (u30 _ _ (u29 _ _ (v28))))))))))))) (fun _ z => nomatch z)), .inr (.inr ⟨[0, 2], rfl, by decide, by decide, by decide +kernel⟩)⟩
        · exact .inr ⟨t29, _, rfl, (exA _ _ (u40 _ _ (u39 _ _ (u38 _ _ (u37 _ _ (u36 _ _ (u35 _ _ (u34 _ _ (u33 _ _ (u32 _ _ (u31 _ _ (u30 _ _ (v29)))))))))))) (fun _ z => nomatch z)), .inr (.inr ⟨[(-1), 0], rfl, by decide, by decide, by decide +kernel⟩)⟩
        · exact .inr ⟨t30, _, rfl, (exA _ _ (u40 _ _ (u39 _ _ (u38 _ _ (u37 _ _ (u36 _ _ (u35 _ _ (u34 _ _ (u33 _ _ (u32 _ _ (u31 _ _ (v30))))))))))) (fun _ z => nomatch z)), .inr (.inl ⟨by show 1 ≤ 2; decide, by show 2 ≤ 60; decide, two_all (by exact .inl rfl) (by exact .inr nwN), V.non, List.mem_cons_of_mem _ List.mem_cons_self, rfl⟩)⟩
        · exact .inr ⟨t31, _, rfl, (exA _ _ (u40 _ _ (u39 _ _ (u38 _ _ (u37 _ _ (u36 _ _ (u35 _ _ (u34 _ _ (u33 _ _ (u32 _ _ (v31)))))))))) (fun _ z => nomatch z)), .inr (.inl ⟨by show 1 ≤ 2; decide, by show 2 ≤ 60; decide, two_all (by exact .inr nwB) (by exact .inl rfl), V.bl true, List.mem_cons_self, rfl⟩)⟩
        · exact .inr ⟨t32, _, rfl, (exA _ _ (u40 _ _ (u39 _ _ (u38 _ _ (u37 _ _ (u36 _ _ (u35 _ _ (u34 _ _ (u33 _ _ (v32))))))))) (fun _ z => nomatch z)), .inr (.inl ⟨by show 1 ≤ 2; decide, by show 2 ≤ 60; decide, two_all (by exact .inr nwS) (by exact .inl rfl), V.str "0", List.mem_cons_self, rfl⟩)⟩
        · exact .inr ⟨t34, _, rfl, (exA _ _ (u40 _ _ (u39 _ _ (u38 _ _ (u37 _ _ (u36 _ _ (u35 _ _ (v34))))))) (fun _ z => nomatch z)), .inr (.inr ⟨[0, 1, 3], rfl, by decide, by decide, by decide +kernel⟩)⟩
        · exact .inr ⟨t35, _, rfl, (exA _ _ (u40 _ _ (u39 _ _ (u38 _ _ (u37 _ _ (u36 _ _ (v35)))))) (fun _ z => nomatch z)), .inr (.inr ⟨[0, 1 + (m : Int), 1 + (m : Int)], rfl, by show 1 ≤ 3; decide, by show 3 ≤ 60; decide, not_perm3 m⟩)⟩
        · exact .inr ⟨t36, _, rfl, (exA _ _ (u40 _ _ (u39 _ _ (u38 _ _ (u37 _ _ (v36))))) (fun _ z => nomatch z)), .inl (.inr (by rw [show rgV 0 61 = nats (List.range 61) from rgV_nats 61, nats_len, List.length_range]; decide))⟩
        · exact .inr ⟨t38, _, rfl, (exA _ _ (u40 _ _ (u39 _ _ (v38))) (fun _ z => nomatch z)), .inr (.inl ⟨by show 1 ≤ 2; decide, by show 2 ≤ 60; decide, two_all (by exact .inr (nwL (exA _ _ (u40 _ _ (u39 _ _ (u38 _ _ (v37)))) (fun _ z => nomatch z)))) (by exact .inl rfl), V.ref t37, List.mem_cons_self, rfl⟩)⟩
        · exact .inr ⟨t39, _, rfl, (exA _ _ (u40 _ _ (v39)) (fun _ z => nomatch z)), .inr (.inl ⟨by show 1 ≤ 2; decide, by show 2 ≤ 60; decide, two_all (by exact .inl rfl) (by exact .inr nwB), V.bl false, List.mem_cons_of_mem _ List.mem_cons_self, rfl⟩)⟩
        · exact .inr ⟨t42, _, rfl, (hB), .inr (.inr ⟨[2 + (m : Int), 1, 0, 2 + (m : Int)], rfl, by show 1 ≤ 4; decide, by show 4 ≤ 60; decide, not_perm4 m⟩)⟩
      have AJ : ∀ (H' : Hp) (v : V), BadD K H' v → Hx.AskR P w K mg base 6 H' (fa 18) v (fa 34) := fun H' v b => (Hx.ask_fun T.F_judged (xok_judged T) T.b_judged fun H1 e1 => ⟨v, rfl, b.ext e1, fun H2 s2 => ⟨rfl, rfl, s2⟩⟩).mono (by decide)
      have AW : ∀ (H' : Hp) (v : V), BadD K H' v → Hx.AskR P w K mg base 6 H' (fa 20) v (fa 34) := fun H' v b => (Hx.ask_fun T.F_without_corner (xok_without_corner T) T.b_without_corner fun H1 e1 => ⟨v, rfl, .inl ⟨b.ext e1, fun H2 s2 => ⟨rfl, rfl, s2⟩⟩⟩).mono (by decide)
      refine ⟨tbA, fun f43 c43 G43 e43 n43 T43 nf43 hf43 hc43 => ?_⟩
      have A43 : ∀ (H' : Hp) (v : V), LamX.ExtN G43 H' → BadD K H' v → Hx.AskR P w K mg base 6 H' f43 v (fa 34) := fun H' v e b => Hx.ask_of (k := 5) (NdefX.nscope_by (by dsimp only; decide +kernel)) (fun _ _ us h => match us, h with | [_], _ => rfl) rfl (e _ _ hf43 Hx.lamO_ne) (e _ _ hc43 cO_ne) fun A outer s H1 hr e1 => ⟨_, (pe_callS (xok_turned T) (hr.mono (by decide)) (by rfl) T.g_turned T.F_turned.kp T.b_turned (L2N.passAt (L2N.takes_of rfl rfl rfl rfl)) (pa_cons (pv 0) (pa_cons pe_non pa_nil))), ⟨_, rfl, v, .non, rfl, .inl ⟨b.ext e1, fun H2 s2 => ⟨rfl, rfl, s2⟩⟩⟩⟩
      refine ⟨by show 3 ≤ sizeLine; decide, fun t44 w44 => ?_⟩
      have u44 := same_upd (o := .lst [V.ref (fa 18), V.ref f43, V.ref (fa 20)]) w44
      have v44 : upd G43 t44 (.lst [V.ref (fa 18), V.ref f43, V.ref (fa 20)]) t44 = some (.lst [V.ref (fa 18), V.ref f43, V.ref (fa 20)]) := upd_same
      generalize upd G43 t44 (.lst [V.ref (fa 18), V.ref f43, V.ref (fa 20)]) = G44 at u44 v44 ⊢
      refine ⟨_, rfl, t44, t41, [V.ref (fa 18), V.ref f43, V.ref (fa 20)], ([V.non, V.ref t22, V.ref t23, V.str "01", V.ref t24, V.int 5, V.ref t25, V.ref t26, V.ref t27, V.ref t28, V.ref t29, V.ref t30, V.ref t31, V.ref t32, V.ref t34, V.ref t35, V.ref t36, V.ref t38, V.ref t39] ++ [V.ref t42]), 6, by decide, rfl, (v44), (u44 _ _ (e43 _ _ (hA) (fun _ z => nomatch z))), by show 20 ≤ 1000; decide, fun x hx => ?_, fun H45 s45 => ⟨_, rfl, iteF ?_⟩⟩
      · simp only [List.mem_cons, List.not_mem_nil, or_false] at hx
        rcases hx with rfl | rfl | rfl
        · exact ⟨_, rfl, fun v hv => AJ _ v ((bd v hv).ext (((LamX.ExtN.refl _).trans e43).trans (extN_same u44)))⟩
        · exact ⟨_, rfl, fun v hv => A43 _ v ((LamX.ExtN.refl _).trans (extN_same u44)) ((bd v hv).ext (((LamX.ExtN.refl _).trans e43).trans (extN_same u44)))⟩
        · exact ⟨_, rfl, fun v hv => AW _ v ((bd v hv).ext (((LamX.ExtN.refl _).trans e43).trans (extN_same u44)))⟩
      refine ⟨rfl, fun H46 a46 xs46 s46 h46 l46 nw46 => ?_⟩
      refine ⟨_, rfl, _, rfl, _, _, rfl, rfl, _, rfl, _, rfl, _, _, rfl, rfl, by show 4 ≤ sizeLine; decide, fun t47 w47 => ?_⟩
      have u47 := same_upd (o := .lst [V.int (-1), V.int 8, V.int (8 + (m : Int)), V.int (-1 - (m : Int))]) w47
      have v47 : upd H46 t47 (.lst [V.int (-1), V.int 8, V.int (8 + (m : Int)), V.int (-1 - (m : Int))]) t47 = some (.lst [V.int (-1), V.int 8, V.int (8 + (m : Int)), V.int (-1 - (m : Int))]) := upd_same
      generalize upd H46 t47 (.lst [V.int (-1), V.int 8, V.int (8 + (m : Int)), V.int (-1 - (m : Int))]) = G47 at u47 v47 ⊢
      refine ⟨a46, t47, xs46, [V.int (-1), V.int 8, V.int (8 + (m : Int)), V.int (-1 - (m : Int))], rfl, rfl, (u47 _ _ (h46)), (v47), by rw [l46]; show 11 ≤ sizeLine; decide, fun t48 w48 => ?_⟩
      have u48 := same_upd (o := .lst (xs46 ++ [V.int (-1), V.int 8, V.int (8 + (m : Int)), V.int (-1 - (m : Int))])) w48
      have v48 : upd G47 t48 (.lst (xs46 ++ [V.int (-1), V.int 8, V.int (8 + (m : Int)), V.int (-1 - (m : Int))])) t48 = some (.lst (xs46 ++ [V.int (-1), V.int 8, V.int (8 + (m : Int)), V.int (-1 - (m : Int))])) := upd_same
      generalize upd G47 t48 (.lst (xs46 ++ [V.int (-1), V.int 8, V.int (8 + (m : Int)), V.int (-1 - (m : Int))])) = G48 at u48 v48 ⊢
      have bw : ∀ (H' : Hp), LamX.ExtN G48 H' → ∀ v ∈ xs46 ++ [V.int (-1), V.int 8, V.int (8 + (m : Int)), V.int (-1 - (m : Int))], BadWy K H' v := fun H' e v hv => by
        rcases List.mem_append.mp hv with h | h
        · exact .inl ((nw46 v h).ext ((((LamX.ExtN.refl _).trans (extN_same u47)).trans (extN_same u48)).trans e))
        · simp only [List.mem_cons, List.not_mem_nil, or_false] at h
          rcases h with rfl | rfl | rfl | rfl
          · exact .inr ⟨_, rfl, .inl (by decide)⟩
          · exact .inr ⟨_, rfl, .inr (by decide)⟩
          · exact .inr ⟨_, rfl, .inr (by omega)⟩
          · exact .inr ⟨_, rfl, .inl (by omega)⟩
      refine ⟨(((((T43.ext u44).ext s45).ext s46).ext u47).ext u48), fun f49 c49 G49 e49 n49 T49 nf49 hf49 hc49 => ?_⟩
      have A49 : ∀ (H' : Hp) (v : V), LamX.ExtN G49 H' → BadWy K H' v → Hx.AskR P w K mg base 6 H' f49 v (fa 35) := fun H' v e b => Hx.ask_of (k := 5) (NdefX.nscope_by (by dsimp only; decide +kernel)) (fun _ _ us h => match us, h with | [_], _ => rfl) rfl (e _ _ hf49 Hx.lamO_ne) (e _ _ hc49 cO_ne) fun A outer s H1 hr e1 => ⟨_, (pe_callS (xok_turned T) (hr.mono (by decide)) (by rfl) T.g_turned T.F_turned.kp T.b_turned (L2N.passAt (L2N.takes_of rfl rfl rfl rfl)) (pa_cons (pe_lst (pa_cons pe_int (pa_cons pe_int pa_nil))) (pa_cons (pv 0) pa_nil))), ⟨by show 2 ≤ sizeLine; decide, fun d nd => ⟨_, rfl, .ref d, v, rfl, .inr ⟨d, [1, 0], rfl, upd_same, perm_dots (n := 2) (by decide) (by decide) (by decide), (b.ext e1).ext (extN_same (same_upd nd)), fun H2 s2 => ⟨rfl, rfl, (same_upd nd).trans s2⟩⟩⟩⟩⟩
      refine ⟨by show 1 ≤ sizeLine; decide, fun t50 w50 => ?_⟩
      have u50 := same_upd (o := .lst [V.ref f49]) w50
      have v50 : upd G49 t50 (.lst [V.ref f49]) t50 = some (.lst [V.ref f49]) := upd_same
      generalize upd G49 t50 (.lst [V.ref f49]) = G50 at u50 v50 ⊢
      refine ⟨_, rfl, t50, t48, [V.ref f49], (xs46 ++ [V.int (-1), V.int 8, V.int (8 + (m : Int)), V.int (-1 - (m : Int))]), 7, by decide, rfl, (v50), (u50 _ _ (e49 _ _ (v48) (fun _ z => nomatch z))), by rw [List.length_append, l46]; show 11 ≤ 1000; decide, fun x hx => ?_, fun H51 s51 => ⟨_, rfl, iteF ?_⟩⟩
      · simp only [List.mem_cons, List.not_mem_nil, or_false] at hx
        rcases hx with rfl
        · exact ⟨_, rfl, fun v hv => A49 _ v ((LamX.ExtN.refl _).trans (extN_same u50)) (bw _ (((LamX.ExtN.refl _).trans e49).trans (extN_same u50)) v hv)⟩
      exact ⟨((T49.ext u50).ext s51), (s51 _ _ (u50 _ _ (e49 _ _ (u48 _ _ (u47 _ _ (s46 _ _ (s45 _ _ (u44 _ _ (e43 _ _ (exA _ _ (u40 _ _ (u39 _ _ (u38 _ _ (u37 _ _ (u36 _ _ (u35 _ _ (u34 _ _ (u33 _ _ (u32 _ _ (u31 _ _ (u30 _ _ (u29 _ _ (u28 _ _ (u27 _ _ (u26 _ _ (u25 _ _ (u24 _ _ (u23 _ _ (u22 _ _ (s21 _ _ (u20 _ _ (u19 _ _ (u18 _ _ (s17 _ _ (u16 _ _ (u15 _ _ (u14 _ _ (u13 _ _ (e12 _ _ (e11 _ _ (u10 _ _ (u9 _ _ (s8 _ _ (sd6 _ _ (u7 _ _ (e6 _ _ (sd4 _ _ (u5 _ _ (e4 _ _ (u3 _ _ (u2 _ _ (s1 _ _ (e5 _ _ (hc3) (fun _ z => nomatch z))))) (fun _ z => nomatch z)))) (fun _ z => nomatch z))))))) (fun _ z => nomatch z)) (fun _ z => nomatch z)))))))))))))))))))))))))))))) (fun _ z => nomatch z)) (fun _ z => nomatch z))))))) (fun _ z => nomatch z)))), _, _, _, _, _, _, _, rfl⟩
    obtain ⟨T2, _, y1, y2, y3, y4, y5, y6, y7, rfl⟩ := hP
    refine ⟨by show 1 ≤ sizeLine; decide, fun t1 w1 => ?_⟩
    have u1 := same_upd (o := .lst [V.ref (fa 20)]) w1
    have v1 : upd H2 t1 (.lst [V.ref (fa 20)]) t1 = some (.lst [V.ref (fa 20)]) := upd_same
    generalize upd H2 t1 (.lst [V.ref (fa 20)]) = G1 at u1 v1 ⊢
    refine ⟨by show 1 ≤ sizeLine; decide, fun t2 w2 => ?_⟩
    have u2 := same_upd (o := .lst [V.int 0]) w2
    have v2 : upd G1 t2 (.lst [V.int 0]) t2 = some (.lst (nats [0])) := upd_same
    generalize upd G1 t2 (.lst [V.int 0]) = G2 at u2 v2 ⊢
    refine ⟨by show 2 ≤ sizeLine; decide, fun t3 w3 => ?_⟩
    have u3 := same_upd (o := .lst [V.int 1, V.int 0]) w3
    have v3 : upd G2 t3 (.lst [V.int 1, V.int 0]) t3 = some (.lst (nats [1, 0])) := upd_same
    generalize upd G2 t3 (.lst [V.int 1, V.int 0]) = G3 at u3 v3 ⊢
    refine ⟨by show 3 ≤ sizeLine; decide, fun t4 w4 => ?_⟩
    have u4 := same_upd (o := .lst [V.int 2, V.int 0, V.int 1]) w4
    have v4 : upd G3 t4 (.lst [V.int 2, V.int 0, V.int 1]) t4 = some (.lst (nats [2, 0, 1])) := upd_same
    generalize upd G3 t4 (.lst [V.int 2, V.int 0, V.int 1]) = G4 at u4 v4 ⊢
    refine ⟨by show 3 ≤ sizeLine; decide, fun t5 w5 => ?_⟩
    have u5 := same_upd (o := .lst [V.ref t2, V.ref t3, V.ref t4]) w5
    have v5 : upd G4 t5 (.lst [V.ref t2, V.ref t3, V.ref t4]) t5 = some (.lst [V.ref t2, V.ref t3, V.ref t4]) := upd_same
    generalize upd G4 t5 (.lst [V.ref t2, V.ref t3, V.ref t4]) = G5 at u5 v5 ⊢
    have AN : ∀ v ∈ ([V.ref t2, V.ref t3, V.ref t4] : List V), Hx.AskR P w K mg base 6 G5 (fa 20) v (fa 36) := fun v hv => by
      simp only [List.mem_cons, List.not_mem_nil, or_false] at hv
      rcases hv with rfl | rfl | rfl
      · exact (Hx.ask_fun T.F_without_corner (xok_without_corner T) T.b_without_corner fun H1 e1 => ⟨_, rfl, .inr ⟨t2, 0, [], rfl, e1 _ _ (u5 _ _ (u4 _ _ (u3 _ _ (v2)))) (fun _ z => nomatch z), perm_dots (n := 1) (by decide) (by decide) (by decide), .inr rfl, fun H2 s2 => ⟨rfl, rfl, s2⟩⟩⟩).mono (by decide)
      · exact (Hx.ask_fun T.F_without_corner (xok_without_corner T) T.b_without_corner fun H1 e1 => ⟨_, rfl, .inr ⟨t3, 1, [0], rfl, e1 _ _ (u5 _ _ (u4 _ _ (v3))) (fun _ z => nomatch z), perm_dots (n := 2) (by decide) (by decide) (by decide), .inl (by decide), fun H2 s2 => ⟨rfl, rfl, s2⟩⟩⟩).mono (by decide)
      · exact (Hx.ask_fun T.F_without_corner (xok_without_corner T) T.b_without_corner fun H1 e1 => ⟨_, rfl, .inr ⟨t4, 2, [0, 1], rfl, e1 _ _ (u5 _ _ (v4)) (fun _ z => nomatch z), perm_dots (n := 3) (by decide) (by decide) (by decide), .inl (by decide), fun H2 s2 => ⟨rfl, rfl, s2⟩⟩⟩).mono (by decide)
    refine ⟨t1, t5, [V.ref (fa 20)], [V.ref t2, V.ref t3, V.ref t4], 8, by decide, rfl, (u5 _ _ (u4 _ _ (u3 _ _ (u2 _ _ (v1))))), (v5), by show 3 ≤ 1000; decide, fun x hx => ?_, fun H3 s3 => ⟨_, rfl, iteF ?_⟩⟩
    · rw [List.mem_singleton.mp hx]
      exact ⟨_, rfl, AN⟩
    refine ⟨by show 2 ≤ sizeLine; decide, fun l v => ⟨l, [1], rfl, upd_same, perm_dots (n := 2) (by decide) (by decide) (by decide), by decide, fun H4 d4 t4 m4 h4 => ⟨by show 1 ≤ sizeLine; decide, fun e4 w4 => ⟨d4, e4, zof ([1].map fun r => r - 1), [0], rfl, rfl, sqz (same_upd w4 _ _ h4), .of upd_same, ?_⟩⟩⟩⟩
    rw [decide_eq_true (show zof (([1] : List Nat).map fun r => r - 1) = [0] by decide +kernel)]
    refine ⟨_, rfl, iteT ?_⟩
    refine ⟨1999, 3, rfl, root1999.good, by decide, by decide, rb1999, no1999, rfl, _, rfl, iteT ?_⟩
    refine ⟨7, 3, 5, 6, 0, rfl, root73, by decide +kernel, by decide, by decide, by decide, by decide, fun c hc ec => ⟨_, _, rfl, rfl, ?_⟩⟩
    show Q (V.bl (decide ((0 : Int) ≤ (c : Int)))) _
    rw [decide_eq_true (show (0 : Int) ≤ (c : Int) by omega)]
    exact q _
end
end Lw
namespace Lw
open PySem PySem.Spec PyProof.Rows L2 AD
/-! ### what the top has written; the end -/
theorem all_mk {l : PySem.W.OpenLaw} {w : World} {K : PySem.W.Frag} {h : Heap} {mg : Str → Option Value} {fL f0 f1 f2 f3 f4 f5 f6 f7 f8 f9 f10 f11 f12 f13 f14 f15 f16 f17 f18 f19 f20 f21 f22 f23 f24 f25 f26 f27 f28 f29 f30 f31 f32 f33 f34 f35 f36 f37 f38 f39 : Addr}
    {od0 an0 od1 an1 od2 an2 od3 an3 od4 an4 od5 an5 od6 an6 od7 an7 od8 an8 od9 an9 od10 an10 od11 an11 od12 an12 od13 an13 od14 an14 od15 an15 od16 an16 od17 an17 od18 an18 od19 an19 od20 an20 od21 an21 od22 an22 od23 an23 od24 an24 od25 an25 od26 an26 : Option Addr} {sl0 sl1 sl2 sl3 sl4 sl5 sl6 sl7 sl8 sl9 sl10 sl11 sl12 sl13 sl14 sl15 sl16 sl17 sl18 sl19 sl20 sl21 sl22 sl23 sl24 sl25 sl26 : Array (Option Value)} {oc0 kV0 dc0 pm0 cd0 ct0 oc1 kV1 dc1 pm1 cd1 ct1 oc2 kV2 dc2 pm2 cd2 ct2 oc3 kV3 dc3 pm3 cd3 ct3 oc4 kV4 dc4 pm4 cd4 ct4 oc5 kV5 dc5 pm5 cd5 ct5 oc6 kV6 dc6 pm6 cd6 ct6 oc7 kV7 dc7 pm7 cd7 ct7 oc8 kV8 dc8 pm8 cd8 ct8 oc9 kV9 dc9 pm9 cd9 ct9 oc10 kV10 dc10 pm10 cd10 ct10 oc11 kV11 dc11 pm11 cd11 ct11 oc12 kV12 dc12 pm12 cd12 ct12 oc13 kV13 dc13 pm13 cd13 ct13 oc14 kV14 dc14 pm14 cd14 ct14 oc15 kV15 dc15 pm15 cd15 ct15 oc16 kV16 dc16 pm16 cd16 ct16 oc17 kV17 dc17 pm17 cd17 ct17 oc18 kV18 dc18 pm18 cd18 ct18 oc19 kV19 dc19 pm19 cd19 ct19 oc20 kV20 dc20 pm20 cd20 ct20 oc21 kV21 dc21 pm21 cd21 ct21 oc22 kV22 dc22 pm22 cd22 ct22 oc23 kV23 dc23 pm23 cd23 ct23 oc24 kV24 dc24 pm24 cd24 ct24 oc25 kV25 dc25 pm25 ct25 oc26 kV26 dc26 pm26 ct26 : Value} {t_MOST t_SMALL t_LONGEST : Tok}
    {q : Program} {ls : List Str} {mean : ExcName → Option Value} {mb : Str → Option Value} {cc25 PP25 : Addr} {occ25 : Value} {odc25 : Option Addr} {vsc25 : Array Value} {slc25 : Array (Option Value)} {cc26 PP26 : Addr} {occ26 : Value} {odc26 : Option Addr} {vsc26 : Array Value} {slc26 : Array (Option Value)} (TT : Top q ls mean mg mb h)
    (X : K.In h) (G : h.Ns mainGlobals mg) (hfa : mg "law" = some (.ref fL))
    (ca37 : PySem.W.nsIn K mainGlobals "Answer" = some (some (.ref f37)))
    (cm37 : PySem.W.makesIn K f37 = true)
    (ck37 : PySem.W.keepIn K (.ref f37) = true)
    (ci37 : PySem.W.findIn K (.ref f37) "__init__" = some (some (.builtin "object.__init__")))
    (cg37 : PySem.W.plainGet K f37 Str.empty = true)
    (ch37 : PySem.W.hasDictIn K f37 = true)
    (cp37 : PySem.W.plainOver K f37 = true)
    (cs37 : PySem.W.findIn K (.ref f37) "__setattr__" = some (some (.builtin "object.__setattr__")))
    (cc37 : PySem.W.findIn K (.ref f37) "__class__" = some (some (.builtin "object.__class__")))
    (cx37 : PySem.W.mroIn K f37 (.type "object") = some true)
    (cl37 : PySem.W.isClsIn K f37 = true)
    (ct37 : PySem.W.typeIn K (.ref f37) = some (.type "type"))
    (cu37_37 : PySem.W.subIn K (.ref f37) (.ref f37) = some true)
    (cu38_37 : PySem.W.subIn K (.ref f37) (.ref f38) = some false)
    (cu39_37 : PySem.W.subIn K (.ref f37) (.ref f39) = some false)
    (ca38 : PySem.W.nsIn K mainGlobals "Apart" = some (some (.ref f38)))
    (cm38 : PySem.W.makesIn K f38 = true)
    (ck38 : PySem.W.keepIn K (.ref f38) = true)
    (ci38 : PySem.W.findIn K (.ref f38) "__init__" = some (some (.builtin "object.__init__")))
    (cg38 : PySem.W.plainGet K f38 Str.empty = true)
    (ch38 : PySem.W.hasDictIn K f38 = true)
    (cp38 : PySem.W.plainOver K f38 = true)
    (cs38 : PySem.W.findIn K (.ref f38) "__setattr__" = some (some (.builtin "object.__setattr__")))
    (cc38 : PySem.W.findIn K (.ref f38) "__class__" = some (some (.builtin "object.__class__")))
    (cx38 : PySem.W.mroIn K f38 (.type "object") = some true)
    (cl38 : PySem.W.isClsIn K f38 = true)
    (ct38 : PySem.W.typeIn K (.ref f38) = some (.type "type"))
    (cu37_38 : PySem.W.subIn K (.ref f38) (.ref f37) = some true)
    (cu38_38 : PySem.W.subIn K (.ref f38) (.ref f38) = some true)
    (cu39_38 : PySem.W.subIn K (.ref f38) (.ref f39) = some false)
    (ca39 : PySem.W.nsIn K mainGlobals "Same" = some (some (.ref f39)))
    (cm39 : PySem.W.makesIn K f39 = true)
    (ck39 : PySem.W.keepIn K (.ref f39) = true)
    (cg39 : PySem.W.plainGet K f39 Str.empty = true)
    (ch39 : PySem.W.hasDictIn K f39 = true)
    (cp39 : PySem.W.plainOver K f39 = true)
    (cs39 : PySem.W.findIn K (.ref f39) "__setattr__" = some (some (.builtin "object.__setattr__")))
    (cc39 : PySem.W.findIn K (.ref f39) "__class__" = some (some (.builtin "object.__class__")))
    (cx39 : PySem.W.mroIn K f39 (.type "object") = some true)
    (cl39 : PySem.W.isClsIn K f39 = true)
    (ct39 : PySem.W.typeIn K (.ref f39) = some (.type "type"))
    (cn_first_39 : PySem.W.findIn K (.ref f39) "first" = some none)
    (cn_second_39 : PySem.W.findIn K (.ref f39) "second" = some none)
    (cn_across_39 : PySem.W.findIn K (.ref f39) "across" = some none)
    (cu37_39 : PySem.W.subIn K (.ref f39) (.ref f37) = some true)
    (cu38_39 : PySem.W.subIn K (.ref f39) (.ref f38) = some false)
    (cu39_39 : PySem.W.subIn K (.ref f39) (.ref f39) = some true)
    (ca27 : PySem.W.nsIn K mainGlobals "DotError" = some (some (.ref f27)))
    (xe27 : PySem.W.excIn K f27 [.type "ValueError", .type "Exception", .type "BaseException", .type "object"] "ValueError.__new__" = true)
    (xk27 : PySem.W.keepIn K (.ref f27) = true)
    (xb27 : PySem.W.subIn K (.ref f27) (.type "BaseException") = some true)
    (xv27 : PySem.W.subIn K (.ref f27) (.type "ValueError") = some true)
    (xt27 : PySem.W.typeIn K (.ref f27) = some (.type "type"))
    (xl27 : PySem.W.isClsIn K f27 = true)
    (xd27 : PySem.W.hasDictIn K f27 = true)
    (xg27 : PySem.W.findIn K (.ref f27) "__getattribute__" = some (some (.builtin "BaseException.__getattribute__")))
    (xh27 : PySem.W.findIn K (.ref f27) "__getattr__" = some none)
    (xc27 : PySem.W.findIn K (.ref f27) "__class__" = some (some (.builtin "object.__class__")))
    (xm27 : PySem.W.mroIn K f27 (.type "object") = some true)
    (xu27_27 : PySem.W.subIn K (.ref f27) (.ref f27) = some true)
    (xu28_27 : PySem.W.subIn K (.ref f27) (.ref f28) = some false)
    (xu29_27 : PySem.W.subIn K (.ref f27) (.ref f29) = some false)
    (xu30_27 : PySem.W.subIn K (.ref f27) (.ref f30) = some false)
    (xu31_27 : PySem.W.subIn K (.ref f27) (.ref f31) = some false)
    (xu32_27 : PySem.W.subIn K (.ref f27) (.ref f32) = some false)
    (xu33_27 : PySem.W.subIn K (.ref f27) (.ref f33) = some false)
    (xu34_27 : PySem.W.subIn K (.ref f27) (.ref f34) = some false)
    (xu35_27 : PySem.W.subIn K (.ref f27) (.ref f35) = some false)
    (xu36_27 : PySem.W.subIn K (.ref f27) (.ref f36) = some false)
    (ca28 : PySem.W.nsIn K mainGlobals "BadPrime" = some (some (.ref f28)))
    (xe28 : PySem.W.excIn K f28 [.type "ValueError", .type "Exception", .type "BaseException", .type "object"] "ValueError.__new__" = true)
    (xk28 : PySem.W.keepIn K (.ref f28) = true)
    (xb28 : PySem.W.subIn K (.ref f28) (.type "BaseException") = some true)
    (xv28 : PySem.W.subIn K (.ref f28) (.type "ValueError") = some true)
    (xt28 : PySem.W.typeIn K (.ref f28) = some (.type "type"))
    (xl28 : PySem.W.isClsIn K f28 = true)
    (xd28 : PySem.W.hasDictIn K f28 = true)
    (xg28 : PySem.W.findIn K (.ref f28) "__getattribute__" = some (some (.builtin "BaseException.__getattribute__")))
    (xh28 : PySem.W.findIn K (.ref f28) "__getattr__" = some none)
    (xc28 : PySem.W.findIn K (.ref f28) "__class__" = some (some (.builtin "object.__class__")))
    (xm28 : PySem.W.mroIn K f28 (.type "object") = some true)
    (xu27_28 : PySem.W.subIn K (.ref f28) (.ref f27) = some true)
    (xu28_28 : PySem.W.subIn K (.ref f28) (.ref f28) = some true)
    (xu29_28 : PySem.W.subIn K (.ref f28) (.ref f29) = some false)
    (xu30_28 : PySem.W.subIn K (.ref f28) (.ref f30) = some false)
    (xu31_28 : PySem.W.subIn K (.ref f28) (.ref f31) = some false)
    (xu32_28 : PySem.W.subIn K (.ref f28) (.ref f32) = some false)
    (xu33_28 : PySem.W.subIn K (.ref f28) (.ref f33) = some false)
    (xu34_28 : PySem.W.subIn K (.ref f28) (.ref f34) = some false)
    (xu35_28 : PySem.W.subIn K (.ref f28) (.ref f35) = some false)
    (xu36_28 : PySem.W.subIn K (.ref f28) (.ref f36) = some false)
    (ca29 : PySem.W.nsIn K mainGlobals "BadRoot" = some (some (.ref f29)))
    (xe29 : PySem.W.excIn K f29 [.type "ValueError", .type "Exception", .type "BaseException", .type "object"] "ValueError.__new__" = true)
    (xk29 : PySem.W.keepIn K (.ref f29) = true)
    (xb29 : PySem.W.subIn K (.ref f29) (.type "BaseException") = some true)
    (xv29 : PySem.W.subIn K (.ref f29) (.type "ValueError") = some true)
    (xt29 : PySem.W.typeIn K (.ref f29) = some (.type "type"))
    (xl29 : PySem.W.isClsIn K f29 = true)
    (xd29 : PySem.W.hasDictIn K f29 = true)
    (xg29 : PySem.W.findIn K (.ref f29) "__getattribute__" = some (some (.builtin "BaseException.__getattribute__")))
    (xh29 : PySem.W.findIn K (.ref f29) "__getattr__" = some none)
    (xc29 : PySem.W.findIn K (.ref f29) "__class__" = some (some (.builtin "object.__class__")))
    (xm29 : PySem.W.mroIn K f29 (.type "object") = some true)
    (xu27_29 : PySem.W.subIn K (.ref f29) (.ref f27) = some true)
    (xu28_29 : PySem.W.subIn K (.ref f29) (.ref f28) = some false)
    (xu29_29 : PySem.W.subIn K (.ref f29) (.ref f29) = some true)
    (xu30_29 : PySem.W.subIn K (.ref f29) (.ref f30) = some false)
    (xu31_29 : PySem.W.subIn K (.ref f29) (.ref f31) = some false)
    (xu32_29 : PySem.W.subIn K (.ref f29) (.ref f32) = some false)
    (xu33_29 : PySem.W.subIn K (.ref f29) (.ref f33) = some false)
    (xu34_29 : PySem.W.subIn K (.ref f29) (.ref f34) = some false)
    (xu35_29 : PySem.W.subIn K (.ref f29) (.ref f35) = some false)
    (xu36_29 : PySem.W.subIn K (.ref f29) (.ref f36) = some false)
    (ca30 : PySem.W.nsIn K mainGlobals "BadNumber" = some (some (.ref f30)))
    (xe30 : PySem.W.excIn K f30 [.type "ValueError", .type "Exception", .type "BaseException", .type "object"] "ValueError.__new__" = true)
    (xk30 : PySem.W.keepIn K (.ref f30) = true)
    (xb30 : PySem.W.subIn K (.ref f30) (.type "BaseException") = some true)
    (xv30 : PySem.W.subIn K (.ref f30) (.type "ValueError") = some true)
    (xt30 : PySem.W.typeIn K (.ref f30) = some (.type "type"))
    (xl30 : PySem.W.isClsIn K f30 = true)
    (xd30 : PySem.W.hasDictIn K f30 = true)
    (xg30 : PySem.W.findIn K (.ref f30) "__getattribute__" = some (some (.builtin "BaseException.__getattribute__")))
    (xh30 : PySem.W.findIn K (.ref f30) "__getattr__" = some none)
    (xc30 : PySem.W.findIn K (.ref f30) "__class__" = some (some (.builtin "object.__class__")))
    (xm30 : PySem.W.mroIn K f30 (.type "object") = some true)
    (xu27_30 : PySem.W.subIn K (.ref f30) (.ref f27) = some true)
    (xu28_30 : PySem.W.subIn K (.ref f30) (.ref f28) = some false)
    (xu29_30 : PySem.W.subIn K (.ref f30) (.ref f29) = some false)
    (xu30_30 : PySem.W.subIn K (.ref f30) (.ref f30) = some true)
    (xu31_30 : PySem.W.subIn K (.ref f30) (.ref f31) = some false)
    (xu32_30 : PySem.W.subIn K (.ref f30) (.ref f32) = some false)
    (xu33_30 : PySem.W.subIn K (.ref f30) (.ref f33) = some false)
    (xu34_30 : PySem.W.subIn K (.ref f30) (.ref f34) = some false)
    (xu35_30 : PySem.W.subIn K (.ref f30) (.ref f35) = some false)
    (xu36_30 : PySem.W.subIn K (.ref f30) (.ref f36) = some false)
    (ca31 : PySem.W.nsIn K mainGlobals "BadColumn" = some (some (.ref f31)))
    (xe31 : PySem.W.excIn K f31 [.type "ValueError", .type "Exception", .type "BaseException", .type "object"] "ValueError.__new__" = true)
    (xk31 : PySem.W.keepIn K (.ref f31) = true)
    (xb31 : PySem.W.subIn K (.ref f31) (.type "BaseException") = some true)
    (xv31 : PySem.W.subIn K (.ref f31) (.type "ValueError") = some true)
    (xt31 : PySem.W.typeIn K (.ref f31) = some (.type "type"))
    (xl31 : PySem.W.isClsIn K f31 = true)
    (xd31 : PySem.W.hasDictIn K f31 = true)
    (xg31 : PySem.W.findIn K (.ref f31) "__getattribute__" = some (some (.builtin "BaseException.__getattribute__")))
    (xh31 : PySem.W.findIn K (.ref f31) "__getattr__" = some none)
    (xc31 : PySem.W.findIn K (.ref f31) "__class__" = some (some (.builtin "object.__class__")))
    (xm31 : PySem.W.mroIn K f31 (.type "object") = some true)
    (xu27_31 : PySem.W.subIn K (.ref f31) (.ref f27) = some true)
    (xu28_31 : PySem.W.subIn K (.ref f31) (.ref f28) = some false)
    (xu29_31 : PySem.W.subIn K (.ref f31) (.ref f29) = some false)
    (xu30_31 : PySem.W.subIn K (.ref f31) (.ref f30) = some false)
    (xu31_31 : PySem.W.subIn K (.ref f31) (.ref f31) = some true)
    (xu32_31 : PySem.W.subIn K (.ref f31) (.ref f32) = some false)
    (xu33_31 : PySem.W.subIn K (.ref f31) (.ref f33) = some false)
    (xu34_31 : PySem.W.subIn K (.ref f31) (.ref f34) = some false)
    (xu35_31 : PySem.W.subIn K (.ref f31) (.ref f35) = some false)
    (xu36_31 : PySem.W.subIn K (.ref f31) (.ref f36) = some false)
    (ca32 : PySem.W.nsIn K mainGlobals "BadRow" = some (some (.ref f32)))
    (xe32 : PySem.W.excIn K f32 [.type "ValueError", .type "Exception", .type "BaseException", .type "object"] "ValueError.__new__" = true)
    (xk32 : PySem.W.keepIn K (.ref f32) = true)
    (xb32 : PySem.W.subIn K (.ref f32) (.type "BaseException") = some true)
    (xv32 : PySem.W.subIn K (.ref f32) (.type "ValueError") = some true)
    (xt32 : PySem.W.typeIn K (.ref f32) = some (.type "type"))
    (xl32 : PySem.W.isClsIn K f32 = true)
    (xd32 : PySem.W.hasDictIn K f32 = true)
    (xg32 : PySem.W.findIn K (.ref f32) "__getattribute__" = some (some (.builtin "BaseException.__getattribute__")))
    (xh32 : PySem.W.findIn K (.ref f32) "__getattr__" = some none)
    (xc32 : PySem.W.findIn K (.ref f32) "__class__" = some (some (.builtin "object.__class__")))
    (xm32 : PySem.W.mroIn K f32 (.type "object") = some true)
    (xu27_32 : PySem.W.subIn K (.ref f32) (.ref f27) = some true)
    (xu28_32 : PySem.W.subIn K (.ref f32) (.ref f28) = some false)
    (xu29_32 : PySem.W.subIn K (.ref f32) (.ref f29) = some false)
    (xu30_32 : PySem.W.subIn K (.ref f32) (.ref f30) = some false)
    (xu31_32 : PySem.W.subIn K (.ref f32) (.ref f31) = some false)
    (xu32_32 : PySem.W.subIn K (.ref f32) (.ref f32) = some true)
    (xu33_32 : PySem.W.subIn K (.ref f32) (.ref f33) = some false)
    (xu34_32 : PySem.W.subIn K (.ref f32) (.ref f34) = some false)
    (xu35_32 : PySem.W.subIn K (.ref f32) (.ref f35) = some false)
    (xu36_32 : PySem.W.subIn K (.ref f32) (.ref f36) = some false)
    (ca33 : PySem.W.nsIn K mainGlobals "BadArrow" = some (some (.ref f33)))
    (xe33 : PySem.W.excIn K f33 [.type "ValueError", .type "Exception", .type "BaseException", .type "object"] "ValueError.__new__" = true)
    (xk33 : PySem.W.keepIn K (.ref f33) = true)
    (xb33 : PySem.W.subIn K (.ref f33) (.type "BaseException") = some true)
    (xv33 : PySem.W.subIn K (.ref f33) (.type "ValueError") = some true)
    (xt33 : PySem.W.typeIn K (.ref f33) = some (.type "type"))
    (xl33 : PySem.W.isClsIn K f33 = true)
    (xd33 : PySem.W.hasDictIn K f33 = true)
    (xg33 : PySem.W.findIn K (.ref f33) "__getattribute__" = some (some (.builtin "BaseException.__getattribute__")))
    (xh33 : PySem.W.findIn K (.ref f33) "__getattr__" = some none)
    (xc33 : PySem.W.findIn K (.ref f33) "__class__" = some (some (.builtin "object.__class__")))
    (xm33 : PySem.W.mroIn K f33 (.type "object") = some true)
    (xu27_33 : PySem.W.subIn K (.ref f33) (.ref f27) = some true)
    (xu28_33 : PySem.W.subIn K (.ref f33) (.ref f28) = some false)
    (xu29_33 : PySem.W.subIn K (.ref f33) (.ref f29) = some false)
    (xu30_33 : PySem.W.subIn K (.ref f33) (.ref f30) = some false)
    (xu31_33 : PySem.W.subIn K (.ref f33) (.ref f31) = some false)
    (xu32_33 : PySem.W.subIn K (.ref f33) (.ref f32) = some false)
    (xu33_33 : PySem.W.subIn K (.ref f33) (.ref f33) = some true)
    (xu34_33 : PySem.W.subIn K (.ref f33) (.ref f34) = some false)
    (xu35_33 : PySem.W.subIn K (.ref f33) (.ref f35) = some false)
    (xu36_33 : PySem.W.subIn K (.ref f33) (.ref f36) = some false)
    (ca34 : PySem.W.nsIn K mainGlobals "BadDots" = some (some (.ref f34)))
    (xe34 : PySem.W.excIn K f34 [.type "ValueError", .type "Exception", .type "BaseException", .type "object"] "ValueError.__new__" = true)
    (xk34 : PySem.W.keepIn K (.ref f34) = true)
    (xb34 : PySem.W.subIn K (.ref f34) (.type "BaseException") = some true)
    (xv34 : PySem.W.subIn K (.ref f34) (.type "ValueError") = some true)
    (xt34 : PySem.W.typeIn K (.ref f34) = some (.type "type"))
    (xl34 : PySem.W.isClsIn K f34 = true)
    (xd34 : PySem.W.hasDictIn K f34 = true)
    (xg34 : PySem.W.findIn K (.ref f34) "__getattribute__" = some (some (.builtin "BaseException.__getattribute__")))
    (xh34 : PySem.W.findIn K (.ref f34) "__getattr__" = some none)
    (xc34 : PySem.W.findIn K (.ref f34) "__class__" = some (some (.builtin "object.__class__")))
    (xm34 : PySem.W.mroIn K f34 (.type "object") = some true)
    (xu27_34 : PySem.W.subIn K (.ref f34) (.ref f27) = some true)
    (xu28_34 : PySem.W.subIn K (.ref f34) (.ref f28) = some false)
    (xu29_34 : PySem.W.subIn K (.ref f34) (.ref f29) = some false)
    (xu30_34 : PySem.W.subIn K (.ref f34) (.ref f30) = some false)
    (xu31_34 : PySem.W.subIn K (.ref f34) (.ref f31) = some false)
    (xu32_34 : PySem.W.subIn K (.ref f34) (.ref f32) = some false)
    (xu33_34 : PySem.W.subIn K (.ref f34) (.ref f33) = some false)
    (xu34_34 : PySem.W.subIn K (.ref f34) (.ref f34) = some true)
    (xu35_34 : PySem.W.subIn K (.ref f34) (.ref f35) = some false)
    (xu36_34 : PySem.W.subIn K (.ref f34) (.ref f36) = some false)
    (ca35 : PySem.W.nsIn K mainGlobals "BadWay" = some (some (.ref f35)))
    (xe35 : PySem.W.excIn K f35 [.type "ValueError", .type "Exception", .type "BaseException", .type "object"] "ValueError.__new__" = true)
    (xk35 : PySem.W.keepIn K (.ref f35) = true)
    (xb35 : PySem.W.subIn K (.ref f35) (.type "BaseException") = some true)
    (xv35 : PySem.W.subIn K (.ref f35) (.type "ValueError") = some true)
    (xt35 : PySem.W.typeIn K (.ref f35) = some (.type "type"))
    (xl35 : PySem.W.isClsIn K f35 = true)
    (xd35 : PySem.W.hasDictIn K f35 = true)
    (xg35 : PySem.W.findIn K (.ref f35) "__getattribute__" = some (some (.builtin "BaseException.__getattribute__")))
    (xh35 : PySem.W.findIn K (.ref f35) "__getattr__" = some none)
    (xc35 : PySem.W.findIn K (.ref f35) "__class__" = some (some (.builtin "object.__class__")))
    (xm35 : PySem.W.mroIn K f35 (.type "object") = some true)
    (xu27_35 : PySem.W.subIn K (.ref f35) (.ref f27) = some true)
    (xu28_35 : PySem.W.subIn K (.ref f35) (.ref f28) = some false)
    (xu29_35 : PySem.W.subIn K (.ref f35) (.ref f29) = some false)
    (xu30_35 : PySem.W.subIn K (.ref f35) (.ref f30) = some false)
    (xu31_35 : PySem.W.subIn K (.ref f35) (.ref f31) = some false)
    (xu32_35 : PySem.W.subIn K (.ref f35) (.ref f32) = some false)
    (xu33_35 : PySem.W.subIn K (.ref f35) (.ref f33) = some false)
    (xu34_35 : PySem.W.subIn K (.ref f35) (.ref f34) = some false)
    (xu35_35 : PySem.W.subIn K (.ref f35) (.ref f35) = some true)
    (xu36_35 : PySem.W.subIn K (.ref f35) (.ref f36) = some false)
    (ca36 : PySem.W.nsIn K mainGlobals "NoCorner" = some (some (.ref f36)))
    (xe36 : PySem.W.excIn K f36 [.type "ValueError", .type "Exception", .type "BaseException", .type "object"] "ValueError.__new__" = true)
    (xk36 : PySem.W.keepIn K (.ref f36) = true)
    (xb36 : PySem.W.subIn K (.ref f36) (.type "BaseException") = some true)
    (xv36 : PySem.W.subIn K (.ref f36) (.type "ValueError") = some true)
    (xt36 : PySem.W.typeIn K (.ref f36) = some (.type "type"))
    (xl36 : PySem.W.isClsIn K f36 = true)
    (xd36 : PySem.W.hasDictIn K f36 = true)
    (xg36 : PySem.W.findIn K (.ref f36) "__getattribute__" = some (some (.builtin "BaseException.__getattribute__")))
    (xh36 : PySem.W.findIn K (.ref f36) "__getattr__" = some none)
    (xc36 : PySem.W.findIn K (.ref f36) "__class__" = some (some (.builtin "object.__class__")))
    (xm36 : PySem.W.mroIn K f36 (.type "object") = some true)
    (xu27_36 : PySem.W.subIn K (.ref f36) (.ref f27) = some true)
    (xu28_36 : PySem.W.subIn K (.ref f36) (.ref f28) = some false)
    (xu29_36 : PySem.W.subIn K (.ref f36) (.ref f29) = some false)
    (xu30_36 : PySem.W.subIn K (.ref f36) (.ref f30) = some false)
    (xu31_36 : PySem.W.subIn K (.ref f36) (.ref f31) = some false)
    (xu32_36 : PySem.W.subIn K (.ref f36) (.ref f32) = some false)
    (xu33_36 : PySem.W.subIn K (.ref f36) (.ref f33) = some false)
    (xu34_36 : PySem.W.subIn K (.ref f36) (.ref f34) = some false)
    (xu35_36 : PySem.W.subIn K (.ref f36) (.ref f35) = some false)
    (xu36_36 : PySem.W.subIn K (.ref f36) (.ref f36) = some true)
    (cy : PySem.W.specialIn K (.builtin "object.__class__") "__get__" = some (some (.builtin "getset_descriptor.__get__")))
    (cz : PySem.W.takesIn K (.builtin "object.__class__") = some true)
    (z_ValueError : PySem.W.nsIn K mainGlobals "ValueError" = some none)
    (z_abs : PySem.W.nsIn K mainGlobals "abs" = some none)
    (z_all : PySem.W.nsIn K mainGlobals "all" = some none)
    (z_bool : PySem.W.nsIn K mainGlobals "bool" = some none)
    (z_int : PySem.W.nsIn K mainGlobals "int" = some none)
    (z_isinstance : PySem.W.nsIn K mainGlobals "isinstance" = some none)
    (z_len : PySem.W.nsIn K mainGlobals "len" = some none)
    (z_list : PySem.W.nsIn K mainGlobals "list" = some none)
    (z_range : PySem.W.nsIn K mainGlobals "range" = some none)
    (z_sorted : PySem.W.nsIn K mainGlobals "sorted" = some none)
    (y_MOST : PySem.W.nsIn K mainGlobals "MOST" = some (some (.int 2000 t_MOST)))
    (y_SMALL : PySem.W.nsIn K mainGlobals "SMALL" = some (some (.int 61 t_SMALL)))
    (y_LONGEST : PySem.W.nsIn K mainGlobals "LONGEST" = some (some (.int 60 t_LONGEST)))
    (a0 : PySem.W.nsIn K mainGlobals "is_whole" = some (some (.ref f0)))
    (l0 : K.lookup f0 = some ⟨oc0, od0, .func (PySem.W.fnOf "is_whole" "is_whole" (defArgs s_is_whole) (defBody s_is_whole) (defScope s_is_whole) .none kV0 dc0 pm0 an0 cd0 ct0), sl0⟩)
    (c0 : PySem.W.codeIn K cd0 "is_whole" = true)
    (k0 : PySem.W.keepIn K (.ref f0) = true)
    (a1 : PySem.W.nsIn K mainGlobals "is_prime" = some (some (.ref f1)))
    (l1 : K.lookup f1 = some ⟨oc1, od1, .func (PySem.W.fnOf "is_prime" "is_prime" (defArgs s_is_prime) (defBody s_is_prime) (defScope s_is_prime) .none kV1 dc1 pm1 an1 cd1 ct1), sl1⟩)
    (c1 : PySem.W.codeIn K cd1 "is_prime" = true)
    (k1 : PySem.W.keepIn K (.ref f1) = true)
    (a2 : PySem.W.nsIn K mainGlobals "asked_prime" = some (some (.ref f2)))
    (l2 : K.lookup f2 = some ⟨oc2, od2, .func (PySem.W.fnOf "asked_prime" "asked_prime" (defArgs s_asked_prime) (defBody s_asked_prime) (defScope s_asked_prime) .none kV2 dc2 pm2 an2 cd2 ct2), sl2⟩)
    (c2 : PySem.W.codeIn K cd2 "asked_prime" = true)
    (k2 : PySem.W.keepIn K (.ref f2) = true)
    (a3 : PySem.W.nsIn K mainGlobals "power" = some (some (.ref f3)))
    (l3 : K.lookup f3 = some ⟨oc3, od3, .func (PySem.W.fnOf "power" "power" (defArgs s_power) (defBody s_power) (defScope s_power) .none kV3 dc3 pm3 an3 cd3 ct3), sl3⟩)
    (c3 : PySem.W.codeIn K cd3 "power" = true)
    (k3 : PySem.W.keepIn K (.ref f3) = true)
    (a4 : PySem.W.nsIn K mainGlobals "root_of" = some (some (.ref f4)))
    (l4 : K.lookup f4 = some ⟨oc4, od4, .func (PySem.W.fnOf "root_of" "root_of" (defArgs s_root_of) (defBody s_root_of) (defScope s_root_of) .none kV4 dc4 pm4 an4 cd4 ct4), sl4⟩)
    (c4 : PySem.W.codeIn K cd4 "root_of" = true)
    (k4 : PySem.W.keepIn K (.ref f4) = true)
    (a5 : PySem.W.nsIn K mainGlobals "is_root" = some (some (.ref f5)))
    (l5 : K.lookup f5 = some ⟨oc5, od5, .func (PySem.W.fnOf "is_root" "is_root" (defArgs s_is_root) (defBody s_is_root) (defScope s_is_root) .none kV5 dc5 pm5 an5 cd5 ct5), sl5⟩)
    (c5 : PySem.W.codeIn K cd5 "is_root" = true)
    (k5 : PySem.W.keepIn K (.ref f5) = true)
    (a6 : PySem.W.nsIn K mainGlobals "least_root" = some (some (.ref f6)))
    (l6 : K.lookup f6 = some ⟨oc6, od6, .func (PySem.W.fnOf "least_root" "least_root" (defArgs s_least_root) (defBody s_least_root) (defScope s_least_root) .none kV6 dc6 pm6 an6 cd6 ct6), sl6⟩)
    (c6 : PySem.W.codeIn K cd6 "least_root" = true)
    (k6 : PySem.W.keepIn K (.ref f6) = true)
    (a7 : PySem.W.nsIn K mainGlobals "asked_root" = some (some (.ref f7)))
    (l7 : K.lookup f7 = some ⟨oc7, od7, .func (PySem.W.fnOf "asked_root" "asked_root" (defArgs s_asked_root) (defBody s_asked_root) (defScope s_asked_root) .none kV7 dc7 pm7 an7 cd7 ct7), sl7⟩)
    (c7 : PySem.W.codeIn K cd7 "asked_root" = true)
    (k7 : PySem.W.keepIn K (.ref f7) = true)
    (a8 : PySem.W.nsIn K mainGlobals "asked_plan" = some (some (.ref f8)))
    (l8 : K.lookup f8 = some ⟨oc8, od8, .func (PySem.W.fnOf "asked_plan" "asked_plan" (defArgs s_asked_plan) (defBody s_asked_plan) (defScope s_asked_plan) .none kV8 dc8 pm8 an8 cd8 ct8), sl8⟩)
    (c8 : PySem.W.codeIn K cd8 "asked_plan" = true)
    (k8 : PySem.W.keepIn K (.ref f8) = true)
    (a9 : PySem.W.nsIn K mainGlobals "row_of" = some (some (.ref f9)))
    (l9 : K.lookup f9 = some ⟨oc9, od9, .func (PySem.W.fnOf "row_of" "row_of" (defArgs s_row_of) (defBody s_row_of) (defScope s_row_of) .none kV9 dc9 pm9 an9 cd9 ct9), sl9⟩)
    (c9 : PySem.W.codeIn K cd9 "row_of" = true)
    (k9 : PySem.W.keepIn K (.ref f9) = true)
    (a10 : PySem.W.nsIn K mainGlobals "found_column" = some (some (.ref f10)))
    (l10 : K.lookup f10 = some ⟨oc10, od10, .func (PySem.W.fnOf "found_column" "found_column" (defArgs s_found_column) (defBody s_found_column) (defScope s_found_column) .none kV10 dc10 pm10 an10 cd10 ct10), sl10⟩)
    (c10 : PySem.W.codeIn K cd10 "found_column" = true)
    (k10 : PySem.W.keepIn K (.ref f10) = true)
    (a11 : PySem.W.nsIn K mainGlobals "column_of" = some (some (.ref f11)))
    (l11 : K.lookup f11 = some ⟨oc11, od11, .func (PySem.W.fnOf "column_of" "column_of" (defArgs s_column_of) (defBody s_column_of) (defScope s_column_of) .none kV11 dc11 pm11 an11 cd11 ct11), sl11⟩)
    (c11 : PySem.W.codeIn K cd11 "column_of" = true)
    (k11 : PySem.W.keepIn K (.ref f11) = true)
    (a12 : PySem.W.nsIn K mainGlobals "arrow_of" = some (some (.ref f12)))
    (l12 : K.lookup f12 = some ⟨oc12, od12, .func (PySem.W.fnOf "arrow_of" "arrow_of" (defArgs s_arrow_of) (defBody s_arrow_of) (defScope s_arrow_of) .none kV12 dc12 pm12 an12 cd12 ct12), sl12⟩)
    (c12 : PySem.W.codeIn K cd12 "arrow_of" = true)
    (k12 : PySem.W.keepIn K (.ref f12) = true)
    (a13 : PySem.W.nsIn K mainGlobals "dots_of" = some (some (.ref f13)))
    (l13 : K.lookup f13 = some ⟨oc13, od13, .func (PySem.W.fnOf "dots_of" "dots_of" (defArgs s_dots_of) (defBody s_dots_of) (defScope s_dots_of) .none kV13 dc13 pm13 an13 cd13 ct13), sl13⟩)
    (c13 : PySem.W.codeIn K cd13 "dots_of" = true)
    (k13 : PySem.W.keepIn K (.ref f13) = true)
    (a14 : PySem.W.nsIn K mainGlobals "crossed" = some (some (.ref f14)))
    (l14 : K.lookup f14 = some ⟨oc14, od14, .func (PySem.W.fnOf "crossed" "crossed" (defArgs s_crossed) (defBody s_crossed) (defScope s_crossed) .none kV14 dc14 pm14 an14 cd14 ct14), sl14⟩)
    (c14 : PySem.W.codeIn K cd14 "crossed" = true)
    (k14 : PySem.W.keepIn K (.ref f14) = true)
    (a15 : PySem.W.nsIn K mainGlobals "first_same" = some (some (.ref f15)))
    (l15 : K.lookup f15 = some ⟨oc15, od15, .func (PySem.W.fnOf "first_same" "first_same" (defArgs s_first_same) (defBody s_first_same) (defScope s_first_same) .none kV15 dc15 pm15 an15 cd15 ct15), sl15⟩)
    (c15 : PySem.W.codeIn K cd15 "first_same" = true)
    (k15 : PySem.W.keepIn K (.ref f15) = true)
    (a16 : PySem.W.findIn K (.ref f39) "__init__" = some (some (.ref f16)))
    (i16 : PySem.W.isFn K (.ref f16) = true)
    (l16 : K.lookup f16 = some ⟨oc16, od16, .func (PySem.W.fnOf "__init__" "Same.__init__" (defArgs s_Same_init) (defBody s_Same_init) (defScope s_Same_init) .none kV16 dc16 pm16 an16 cd16 ct16), sl16⟩)
    (c16 : PySem.W.codeIn K cd16 "Same.__init__" = true)
    (k16 : PySem.W.keepIn K (.ref f16) = true)
    (a17 : PySem.W.nsIn K mainGlobals "asked_dots" = some (some (.ref f17)))
    (l17 : K.lookup f17 = some ⟨oc17, od17, .func (PySem.W.fnOf "asked_dots" "asked_dots" (defArgs s_asked_dots) (defBody s_asked_dots) (defScope s_asked_dots) .none kV17 dc17 pm17 an17 cd17 ct17), sl17⟩)
    (c17 : PySem.W.codeIn K cd17 "asked_dots" = true)
    (k17 : PySem.W.keepIn K (.ref f17) = true)
    (a18 : PySem.W.nsIn K mainGlobals "judged" = some (some (.ref f18)))
    (l18 : K.lookup f18 = some ⟨oc18, od18, .func (PySem.W.fnOf "judged" "judged" (defArgs s_judged) (defBody s_judged) (defScope s_judged) .none kV18 dc18 pm18 an18 cd18 ct18), sl18⟩)
    (c18 : PySem.W.codeIn K cd18 "judged" = true)
    (k18 : PySem.W.keepIn K (.ref f18) = true)
    (a19 : PySem.W.nsIn K mainGlobals "turned" = some (some (.ref f19)))
    (l19 : K.lookup f19 = some ⟨oc19, od19, .func (PySem.W.fnOf "turned" "turned" (defArgs s_turned) (defBody s_turned) (defScope s_turned) .none kV19 dc19 pm19 an19 cd19 ct19), sl19⟩)
    (c19 : PySem.W.codeIn K cd19 "turned" = true)
    (k19 : PySem.W.keepIn K (.ref f19) = true)
    (a20 : PySem.W.nsIn K mainGlobals "without_corner" = some (some (.ref f20)))
    (l20 : K.lookup f20 = some ⟨oc20, od20, .func (PySem.W.fnOf "without_corner" "without_corner" (defArgs s_without_corner) (defBody s_without_corner) (defScope s_without_corner) .none kV20 dc20 pm20 an20 cd20 ct20), sl20⟩)
    (c20 : PySem.W.codeIn K cd20 "without_corner" = true)
    (k20 : PySem.W.keepIn K (.ref f20) = true)
    (a21 : PySem.W.nsIn K mainGlobals "_law_kinds" = some (some (.ref f21)))
    (l21 : K.lookup f21 = some ⟨oc21, od21, .func (PySem.W.fnOf "_law_kinds" "_law_kinds" (defArgs s__law_kinds) (defBody s__law_kinds) (defScope s__law_kinds) .none kV21 dc21 pm21 an21 cd21 ct21), sl21⟩)
    (c21 : PySem.W.codeIn K cd21 "_law_kinds" = true)
    (k21 : PySem.W.keepIn K (.ref f21) = true)
    (a22 : PySem.W.nsIn K mainGlobals "_law_refused" = some (some (.ref f22)))
    (l22 : K.lookup f22 = some ⟨oc22, od22, .func (PySem.W.fnOf "_law_refused" "_law_refused" (defArgs s__law_refused) (defBody s__law_refused) (defScope s__law_refused) .none kV22 dc22 pm22 an22 cd22 ct22), sl22⟩)
    (c22 : PySem.W.codeIn K cd22 "_law_refused" = true)
    (k22 : PySem.W.keepIn K (.ref f22) = true)
    (a23 : PySem.W.nsIn K mainGlobals "_law_all" = some (some (.ref f23)))
    (l23 : K.lookup f23 = some ⟨oc23, od23, .func (PySem.W.fnOf "_law_all" "_law_all" (defArgs s__law_all) (defBody s__law_all) (defScope s__law_all) .none kV23 dc23 pm23 an23 cd23 ct23), sl23⟩)
    (c23 : PySem.W.codeIn K cd23 "_law_all" = true)
    (k23 : PySem.W.keepIn K (.ref f23) = true)
    (a24 : PySem.W.nsIn K mainGlobals "_law_no_wholes" = some (some (.ref f24)))
    (l24 : K.lookup f24 = some ⟨oc24, od24, .func (PySem.W.fnOf "_law_no_wholes" "_law_no_wholes" (defArgs s__law_no_wholes) (defBody s__law_no_wholes) (defScope s__law_no_wholes) .none kV24 dc24 pm24 an24 cd24 ct24), sl24⟩)
    (c24 : PySem.W.codeIn K cd24 "_law_no_wholes" = true)
    (k24 : PySem.W.keepIn K (.ref f24) = true)
    (a25 : PySem.W.nsIn K mainGlobals "_law_plans_right" = some (some (.ref f25)))
    (l25 : K.lookup f25 = some ⟨oc25, od25, .func (PySem.W.fnOf "_law_plans_right" "_law_plans_right" (defArgs s__law_plans_right) (defBody s__law_plans_right) (defScope s__law_plans_right) .none kV25 dc25 pm25 an25 (.ref cc25) ct25), sl25⟩)
    (c25 : PySem.W.codeIn K (.ref cc25) "_law_plans_right" = true)
    (k25 : PySem.W.keepIn K (.ref f25) = true)
    (tl25 : K.lookup cc25 = some ⟨occ25, odc25, .fields vsc25, slc25⟩)
    (tp25 : (vsc25[11]? : Option Value) = some (.ref PP25))
    (tn25 : K.lookup PP25 = none)
    (tr25 : ((recsOf q).find? (fun e => e.name == ("_law_plans_right" : Str))).isSome = true)
    (a26 : PySem.W.nsIn K mainGlobals "law" = some (some (.ref f26)))
    (l26 : K.lookup f26 = some ⟨oc26, od26, .func (PySem.W.fnOf "law" "law" (defArgs s_law) (defBody s_law) (defScope s_law) .none kV26 dc26 pm26 an26 (.ref cc26) ct26), sl26⟩)
    (c26 : PySem.W.codeIn K (.ref cc26) "law" = true)
    (k26 : PySem.W.keepIn K (.ref f26) = true)
    (tl26 : K.lookup cc26 = some ⟨occ26, odc26, .fields vsc26, slc26⟩)
    (tp26 : (vsc26[11]? : Option Value) = some (.ref PP26))
    (tn26 : K.lookup PP26 = none)
    (tr26 : ((recsOf q).find? (fun e => e.name == ("law" : Str))).isSome = true)
    (td25_26 : PP25 ≠ PP26)
    : LamX.LawAtS l w K CX0 10 63 "_law_script" mg fL h := by
  have e := hfa.symm.trans (PySem.W.mg_of X G a26)
  cases e
  have F0 := fun_mk (st := s_is_whole) l0 c0 k0
  have b0 := F0.binds (ps := ["thing"]) fun _ _ _ _ _ _ us hl => match us, hl with | [_], _ => rfl
  have F1 := fun_mk (st := s_is_prime) l1 c1 k1
  have b1 := F1.binds (ps := ["number"]) fun _ _ _ _ _ _ us hl => match us, hl with | [_], _ => rfl
  have F2 := fun_mk (st := s_asked_prime) l2 c2 k2
  have b2 := F2.binds (ps := ["prime", "most"]) fun _ _ _ _ _ _ us hl => match us, hl with | [_, _], _ => rfl
  have F3 := fun_mk (st := s_power) l3 c3 k3
  have b3 := F3.binds (ps := ["number", "times", "prime"]) fun _ _ _ _ _ _ us hl => match us, hl with | [_, _, _], _ => rfl
  have F4 := fun_mk (st := s_root_of) l4 c4 k4
  have b4 := F4.binds (ps := ["prime", "number"]) fun _ _ _ _ _ _ us hl => match us, hl with | [_, _], _ => rfl
  have F5 := fun_mk (st := s_is_root) l5 c5 k5
  have b5 := F5.binds (ps := ["prime", "number"]) fun _ _ _ _ _ _ us hl => match us, hl with | [_, _], _ => rfl
  have F6 := fun_mk (st := s_least_root) l6 c6 k6
  have b6 := F6.binds (ps := ["prime"]) fun _ _ _ _ _ _ us hl => match us, hl with | [_], _ => rfl
  have F7 := fun_mk (st := s_asked_root) l7 c7 k7
  have b7 := F7.binds (ps := ["prime", "root"]) fun _ _ _ _ _ _ us hl => match us, hl with | [_, _], _ => rfl
  have F8 := fun_mk (st := s_asked_plan) l8 c8 k8
  have b8 := F8.binds (ps := ["prime", "root", "begin", "most"]) fun _ _ _ _ _ _ us hl => match us, hl with | [_, _, _, _], _ => rfl
  have F9 := fun_mk (st := s_row_of) l9 c9 k9
  have b9 := F9.binds (ps := ["prime", "root", "begin", "column"]) fun _ _ _ _ _ _ us hl => match us, hl with | [_, _, _, _], _ => rfl
  have F10 := fun_mk (st := s_found_column) l10 c10 k10
  have b10 := F10.binds (ps := ["prime", "root", "begin", "row"]) fun _ _ _ _ _ _ us hl => match us, hl with | [_, _, _, _], _ => rfl
  have F11 := fun_mk (st := s_column_of) l11 c11 k11
  have b11 := F11.binds (ps := ["prime", "root", "begin", "row"]) fun _ _ _ _ _ _ us hl => match us, hl with | [_, _, _, _], _ => rfl
  have F12 := fun_mk (st := s_arrow_of) l12 c12 k12
  have b12 := F12.binds (ps := ["prime", "root", "begin", "across", "up"]) fun _ _ _ _ _ _ us hl => match us, hl with | [_, _, _, _, _], _ => rfl
  have F13 := fun_mk (st := s_dots_of) l13 c13 k13
  have b13 := F13.binds (ps := ["prime", "root", "begin"]) fun _ _ _ _ _ _ us hl => match us, hl with | [_, _, _], _ => rfl
  have F14 := fun_mk (st := s_crossed) l14 c14 k14
  have b14 := F14.binds (ps := ["prime", "root", "other"]) fun _ _ _ _ _ _ us hl => match us, hl with | [_, _, _], _ => rfl
  have F15 := fun_mk (st := s_first_same) l15 c15 k15
  have b15 := F15.binds (ps := ["dots"]) fun _ _ _ _ _ _ us hl => match us, hl with | [_], _ => rfl
  have F16 := fun_mk (st := s_Same_init) l16 c16 k16
  have b16 := F16.binds (ps := ["self", "first", "second", "across"]) fun _ _ _ _ _ _ us hl => match us, hl with | [_, _, _, _], _ => rfl
  have F17 := fun_mk (st := s_asked_dots) l17 c17 k17
  have b17 := F17.binds (ps := ["dots"]) fun _ _ _ _ _ _ us hl => match us, hl with | [_], _ => rfl
  have F18 := fun_mk (st := s_judged) l18 c18 k18
  have b18 := F18.binds (ps := ["dots"]) fun _ _ _ _ _ _ us hl => match us, hl with | [_], _ => rfl
  have F19 := fun_mk (st := s_turned) l19 c19 k19
  have b19 := F19.binds (ps := ["dots", "way"]) fun _ _ _ _ _ _ us hl => match us, hl with | [_, _], _ => rfl
  have F20 := fun_mk (st := s_without_corner) l20 c20 k20
  have b20 := F20.binds (ps := ["dots"]) fun _ _ _ _ _ _ us hl => match us, hl with | [_], _ => rfl
  have F21 := fun_mk (st := s__law_kinds) l21 c21 k21
  have b21 := F21.binds (ps := ["_law_error"]) fun _ _ _ _ _ _ us hl => match us, hl with | [_], _ => rfl
  have F22 := fun_mk (st := s__law_refused) l22 c22 k22
  have b22 := F22.binds (ps := ["_law_ask", "_law_thing", "_law_due"]) fun _ _ _ _ _ _ us hl => match us, hl with | [_, _, _], _ => rfl
  have F23 := fun_mk (st := s__law_all) l23 c23 k23
  have b23 := F23.binds (ps := ["_law_asks", "_law_things", "_law_due"]) fun _ _ _ _ _ _ us hl => match us, hl with | [_, _, _], _ => rfl
  have F24 := fun_mk (st := s__law_no_wholes) l24 c24 k24
  have b24 := F24.binds (ps := []) fun _ _ _ _ _ _ us hl => match us, hl with | [], _ => rfl
  have F25 := fun_mk (st := s__law_plans_right) l25 c25 k25
  have b25 := F25.binds (ps := ["_law_more"]) fun _ _ _ _ _ _ us hl => match us, hl with | [_], _ => rfl
  have F26 := fun_mk (st := s_law) l26 c26 k26
  have b26 := F26.binds (ps := ["_law_script"]) fun _ _ _ _ _ _ us hl => match us, hl with | [_], _ => rfl
  have T : Txt K mg (fun i => [f0, f1, f2, f3, f4, f5, f6, f7, f8, f9, f10, f11, f12, f13, f14, f15, f16, f17, f18, f19, f20, f21, f22, f23, f24, f25, fL, f27, f28, f29, f30, f31, f32, f33, f34, f35, f36, f37, f38, f39].getD i 0) (fun i => [PySem.W.fnOf "is_whole" "is_whole" (defArgs s_is_whole) (defBody s_is_whole) (defScope s_is_whole) .none kV0 dc0 pm0 an0 cd0 ct0,
      PySem.W.fnOf "is_prime" "is_prime" (defArgs s_is_prime) (defBody s_is_prime) (defScope s_is_prime) .none kV1 dc1 pm1 an1 cd1 ct1,
      PySem.W.fnOf "asked_prime" "asked_prime" (defArgs s_asked_prime) (defBody s_asked_prime) (defScope s_asked_prime) .none kV2 dc2 pm2 an2 cd2 ct2,
      PySem.W.fnOf "power" "power" (defArgs s_power) (defBody s_power) (defScope s_power) .none kV3 dc3 pm3 an3 cd3 ct3,
      PySem.W.fnOf "root_of" "root_of" (defArgs s_root_of) (defBody s_root_of) (defScope s_root_of) .none kV4 dc4 pm4 an4 cd4 ct4,
      PySem.W.fnOf "is_root" "is_root" (defArgs s_is_root) (defBody s_is_root) (defScope s_is_root) .none kV5 dc5 pm5 an5 cd5 ct5,
      PySem.W.fnOf "least_root" "least_root" (defArgs s_least_root) (defBody s_least_root) (defScope s_least_root) .none kV6 dc6 pm6 an6 cd6 ct6,
      PySem.W.fnOf "asked_root" "asked_root" (defArgs s_asked_root) (defBody s_asked_root) (defScope s_asked_root) .none kV7 dc7 pm7 an7 cd7 ct7,
      PySem.W.fnOf "asked_plan" "asked_plan" (defArgs s_asked_plan) (defBody s_asked_plan) (defScope s_asked_plan) .none kV8 dc8 pm8 an8 cd8 ct8,
      PySem.W.fnOf "row_of" "row_of" (defArgs s_row_of) (defBody s_row_of) (defScope s_row_of) .none kV9 dc9 pm9 an9 cd9 ct9,
      PySem.W.fnOf "found_column" "found_column" (defArgs s_found_column) (defBody s_found_column) (defScope s_found_column) .none kV10 dc10 pm10 an10 cd10 ct10,
      PySem.W.fnOf "column_of" "column_of" (defArgs s_column_of) (defBody s_column_of) (defScope s_column_of) .none kV11 dc11 pm11 an11 cd11 ct11,
      PySem.W.fnOf "arrow_of" "arrow_of" (defArgs s_arrow_of) (defBody s_arrow_of) (defScope s_arrow_of) .none kV12 dc12 pm12 an12 cd12 ct12,
      PySem.W.fnOf "dots_of" "dots_of" (defArgs s_dots_of) (defBody s_dots_of) (defScope s_dots_of) .none kV13 dc13 pm13 an13 cd13 ct13,
      PySem.W.fnOf "crossed" "crossed" (defArgs s_crossed) (defBody s_crossed) (defScope s_crossed) .none kV14 dc14 pm14 an14 cd14 ct14,
      PySem.W.fnOf "first_same" "first_same" (defArgs s_first_same) (defBody s_first_same) (defScope s_first_same) .none kV15 dc15 pm15 an15 cd15 ct15,
      PySem.W.fnOf "__init__" "Same.__init__" (defArgs s_Same_init) (defBody s_Same_init) (defScope s_Same_init) .none kV16 dc16 pm16 an16 cd16 ct16,
      PySem.W.fnOf "asked_dots" "asked_dots" (defArgs s_asked_dots) (defBody s_asked_dots) (defScope s_asked_dots) .none kV17 dc17 pm17 an17 cd17 ct17,
      PySem.W.fnOf "judged" "judged" (defArgs s_judged) (defBody s_judged) (defScope s_judged) .none kV18 dc18 pm18 an18 cd18 ct18,
      PySem.W.fnOf "turned" "turned" (defArgs s_turned) (defBody s_turned) (defScope s_turned) .none kV19 dc19 pm19 an19 cd19 ct19,
      PySem.W.fnOf "without_corner" "without_corner" (defArgs s_without_corner) (defBody s_without_corner) (defScope s_without_corner) .none kV20 dc20 pm20 an20 cd20 ct20,
      PySem.W.fnOf "_law_kinds" "_law_kinds" (defArgs s__law_kinds) (defBody s__law_kinds) (defScope s__law_kinds) .none kV21 dc21 pm21 an21 cd21 ct21,
      PySem.W.fnOf "_law_refused" "_law_refused" (defArgs s__law_refused) (defBody s__law_refused) (defScope s__law_refused) .none kV22 dc22 pm22 an22 cd22 ct22,
      PySem.W.fnOf "_law_all" "_law_all" (defArgs s__law_all) (defBody s__law_all) (defScope s__law_all) .none kV23 dc23 pm23 an23 cd23 ct23,
      PySem.W.fnOf "_law_no_wholes" "_law_no_wholes" (defArgs s__law_no_wholes) (defBody s__law_no_wholes) (defScope s__law_no_wholes) .none kV24 dc24 pm24 an24 cd24 ct24,
      PySem.W.fnOf "_law_plans_right" "_law_plans_right" (defArgs s__law_plans_right) (defBody s__law_plans_right) (defScope s__law_plans_right) .none kV25 dc25 pm25 an25 (.ref cc25) ct25,
      PySem.W.fnOf "law" "law" (defArgs s_law) (defBody s_law) (defScope s_law) .none kV26 dc26 pm26 an26 (.ref cc26) ct26].getD i (PySem.W.fnOf "is_whole" "is_whole" (defArgs s_is_whole) (defBody s_is_whole) (defScope s_is_whole) .none kV0 dc0 pm0 an0 cd0 ct0)) (fun i => [t_MOST, t_SMALL, t_LONGEST].getD i default) := {
    m_ValueError := PySem.W.mg_none_of X G z_ValueError
    m_abs := PySem.W.mg_none_of X G z_abs
    m_all := PySem.W.mg_none_of X G z_all
    m_bool := PySem.W.mg_none_of X G z_bool
    m_int := PySem.W.mg_none_of X G z_int
    m_isinstance := PySem.W.mg_none_of X G z_isinstance
    m_len := PySem.W.mg_none_of X G z_len
    m_list := PySem.W.mg_none_of X G z_list
    m_range := PySem.W.mg_none_of X G z_range
    m_sorted := PySem.W.mg_none_of X G z_sorted
    g_MOST := PySem.W.mg_of X G y_MOST
    g_SMALL := PySem.W.mg_of X G y_SMALL
    g_LONGEST := PySem.W.mg_of X G y_LONGEST
    g_Answer := PySem.W.mg_of X G ca37
    mk_Answer := ⟨cm37, ci37, ck37⟩
    in_Answer := ⟨⟨cg37, ch37, cp37, cs37⟩, cc37, cy, cz, cx37⟩
    ki_Answer_Answer := kit_own cl37 ct37 cu37_37 cu37_37
    ki_Answer_Apart := kit_own cl38 ct38 cu38_37 cu38_38
    ki_Answer_Same := kit_own cl39 ct39 cu39_37 cu39_39
    g_Apart := PySem.W.mg_of X G ca38
    mk_Apart := ⟨cm38, ci38, ck38⟩
    in_Apart := ⟨⟨cg38, ch38, cp38, cs38⟩, cc38, cy, cz, cx38⟩
    ki_Apart_Answer := kit_own cl37 ct37 cu37_38 cu37_37
    ki_Apart_Apart := kit_own cl38 ct38 cu38_38 cu38_38
    ki_Apart_Same := kit_own cl39 ct39 cu39_38 cu39_39
    g_Same := PySem.W.mg_of X G ca39
    mk_Same := ⟨cm39, a16, i16, ck39⟩
    in_Same := ⟨⟨cg39, ch39, cp39, cs39⟩, cc39, cy, cz, cx39⟩
    na_Same_first := cn_first_39
    na_Same_second := cn_second_39
    na_Same_across := cn_across_39
    ki_Same_Answer := kit_own cl37 ct37 cu37_39 cu37_37
    ki_Same_Apart := kit_own cl38 ct38 cu38_39 cu38_38
    ki_Same_Same := kit_own cl39 ct39 cu39_39 cu39_39
    g_DotError := PySem.W.mg_of X G ca27
    x_DotError := ⟨xe27, xk27, xb27, xv27, xt27, ⟨xg27, xh27, xb27, xd27, xc27, cy, cz, xm27⟩, PySem.W.exm_ref xb27 xd27 xt27 xu27_27⟩
    kx_DotError_DotError := kit_own xl27 xt27 xu27_27 xu27_27
    kx_DotError_BadPrime := kit_own xl28 xt28 xu28_27 xu28_28
    kx_DotError_BadRoot := kit_own xl29 xt29 xu29_27 xu29_29
    kx_DotError_BadNumber := kit_own xl30 xt30 xu30_27 xu30_30
    kx_DotError_BadColumn := kit_own xl31 xt31 xu31_27 xu31_31
    kx_DotError_BadRow := kit_own xl32 xt32 xu32_27 xu32_32
    kx_DotError_BadArrow := kit_own xl33 xt33 xu33_27 xu33_33
    kx_DotError_BadDots := kit_own xl34 xt34 xu34_27 xu34_34
    kx_DotError_BadWay := kit_own xl35 xt35 xu35_27 xu35_35
    kx_DotError_NoCorner := kit_own xl36 xt36 xu36_27 xu36_36
    g_BadPrime := PySem.W.mg_of X G ca28
    x_BadPrime := ⟨xe28, xk28, xb28, xv28, xt28, ⟨xg28, xh28, xb28, xd28, xc28, cy, cz, xm28⟩, PySem.W.exm_ref xb27 xd27 xt27 xu27_28⟩
    kx_BadPrime_DotError := kit_own xl27 xt27 xu27_28 xu27_27
    kx_BadPrime_BadPrime := kit_own xl28 xt28 xu28_28 xu28_28
    kx_BadPrime_BadRoot := kit_own xl29 xt29 xu29_28 xu29_29
    kx_BadPrime_BadNumber := kit_own xl30 xt30 xu30_28 xu30_30
    kx_BadPrime_BadColumn := kit_own xl31 xt31 xu31_28 xu31_31
    kx_BadPrime_BadRow := kit_own xl32 xt32 xu32_28 xu32_32
    kx_BadPrime_BadArrow := kit_own xl33 xt33 xu33_28 xu33_33
    kx_BadPrime_BadDots := kit_own xl34 xt34 xu34_28 xu34_34
    kx_BadPrime_BadWay := kit_own xl35 xt35 xu35_28 xu35_35
    kx_BadPrime_NoCorner := kit_own xl36 xt36 xu36_28 xu36_36
    g_BadRoot := PySem.W.mg_of X G ca29
    x_BadRoot := ⟨xe29, xk29, xb29, xv29, xt29, ⟨xg29, xh29, xb29, xd29, xc29, cy, cz, xm29⟩, PySem.W.exm_ref xb27 xd27 xt27 xu27_29⟩
    kx_BadRoot_DotError := kit_own xl27 xt27 xu27_29 xu27_27
    kx_BadRoot_BadPrime := kit_own xl28 xt28 xu28_29 xu28_28
    kx_BadRoot_BadRoot := kit_own xl29 xt29 xu29_29 xu29_29
    kx_BadRoot_BadNumber := kit_own xl30 xt30 xu30_29 xu30_30
    kx_BadRoot_BadColumn := kit_own xl31 xt31 xu31_29 xu31_31
    kx_BadRoot_BadRow := kit_own xl32 xt32 xu32_29 xu32_32
    kx_BadRoot_BadArrow := kit_own xl33 xt33 xu33_29 xu33_33
    kx_BadRoot_BadDots := kit_own xl34 xt34 xu34_29 xu34_34
    kx_BadRoot_BadWay := kit_own xl35 xt35 xu35_29 xu35_35
    kx_BadRoot_NoCorner := kit_own xl36 xt36 xu36_29 xu36_36
    g_BadNumber := PySem.W.mg_of X G ca30
    x_BadNumber := ⟨xe30, xk30, xb30, xv30, xt30, ⟨xg30, xh30, xb30, xd30, xc30, cy, cz, xm30⟩, PySem.W.exm_ref xb27 xd27 xt27 xu27_30⟩
    kx_BadNumber_DotError := kit_own xl27 xt27 xu27_30 xu27_27
    kx_BadNumber_BadPrime := kit_own xl28 xt28 xu28_30 xu28_28
    kx_BadNumber_BadRoot := kit_own xl29 xt29 xu29_30 xu29_29
    kx_BadNumber_BadNumber := kit_own xl30 xt30 xu30_30 xu30_30
    kx_BadNumber_BadColumn := kit_own xl31 xt31 xu31_30 xu31_31
    kx_BadNumber_BadRow := kit_own xl32 xt32 xu32_30 xu32_32
    kx_BadNumber_BadArrow := kit_own xl33 xt33 xu33_30 xu33_33
    kx_BadNumber_BadDots := kit_own xl34 xt34 xu34_30 xu34_34
    kx_BadNumber_BadWay := kit_own xl35 xt35 xu35_30 xu35_35
    kx_BadNumber_NoCorner := kit_own xl36 xt36 xu36_30 xu36_36
    g_BadColumn := PySem.W.mg_of X G ca31
    x_BadColumn := ⟨xe31, xk31, xb31, xv31, xt31, ⟨xg31, xh31, xb31, xd31, xc31, cy, cz, xm31⟩, PySem.W.exm_ref xb27 xd27 xt27 xu27_31⟩
    kx_BadColumn_DotError := kit_own xl27 xt27 xu27_31 xu27_27
    kx_BadColumn_BadPrime := kit_own xl28 xt28 xu28_31 xu28_28
    kx_BadColumn_BadRoot := kit_own xl29 xt29 xu29_31 xu29_29
    kx_BadColumn_BadNumber := kit_own xl30 xt30 xu30_31 xu30_30
    kx_BadColumn_BadColumn := kit_own xl31 xt31 xu31_31 xu31_31
    kx_BadColumn_BadRow := kit_own xl32 xt32 xu32_31 xu32_32
    kx_BadColumn_BadArrow := kit_own xl33 xt33 xu33_31 xu33_33
    kx_BadColumn_BadDots := kit_own xl34 xt34 xu34_31 xu34_34
    kx_BadColumn_BadWay := kit_own xl35 xt35 xu35_31 xu35_35
    kx_BadColumn_NoCorner := kit_own xl36 xt36 xu36_31 xu36_36
    g_BadRow := PySem.W.mg_of X G ca32
    x_BadRow := ⟨xe32, xk32, xb32, xv32, xt32, ⟨xg32, xh32, xb32, xd32, xc32, cy, cz, xm32⟩, PySem.W.exm_ref xb27 xd27 xt27 xu27_32⟩
    kx_BadRow_DotError := kit_own xl27 xt27 xu27_32 xu27_27
    kx_BadRow_BadPrime := kit_own xl28 xt28 xu28_32 xu28_28
    kx_BadRow_BadRoot := kit_own xl29 xt29 xu29_32 xu29_29
    kx_BadRow_BadNumber := kit_own xl30 xt30 xu30_32 xu30_30
    kx_BadRow_BadColumn := kit_own xl31 xt31 xu31_32 xu31_31
    kx_BadRow_BadRow := kit_own xl32 xt32 xu32_32 xu32_32
    kx_BadRow_BadArrow := kit_own xl33 xt33 xu33_32 xu33_33
    kx_BadRow_BadDots := kit_own xl34 xt34 xu34_32 xu34_34
    kx_BadRow_BadWay := kit_own xl35 xt35 xu35_32 xu35_35
    kx_BadRow_NoCorner := kit_own xl36 xt36 xu36_32 xu36_36
    g_BadArrow := PySem.W.mg_of X G ca33
    x_BadArrow := ⟨xe33, xk33, xb33, xv33, xt33, ⟨xg33, xh33, xb33, xd33, xc33, cy, cz, xm33⟩, PySem.W.exm_ref xb27 xd27 xt27 xu27_33⟩
    kx_BadArrow_DotError := kit_own xl27 xt27 xu27_33 xu27_27
    kx_BadArrow_BadPrime := kit_own xl28 xt28 xu28_33 xu28_28
    kx_BadArrow_BadRoot := kit_own xl29 xt29 xu29_33 xu29_29
    kx_BadArrow_BadNumber := kit_own xl30 xt30 xu30_33 xu30_30
    kx_BadArrow_BadColumn := kit_own xl31 xt31 xu31_33 xu31_31
    kx_BadArrow_BadRow := kit_own xl32 xt32 xu32_33 xu32_32
    kx_BadArrow_BadArrow := kit_own xl33 xt33 xu33_33 xu33_33
    kx_BadArrow_BadDots := kit_own xl34 xt34 xu34_33 xu34_34
    kx_BadArrow_BadWay := kit_own xl35 xt35 xu35_33 xu35_35
    kx_BadArrow_NoCorner := kit_own xl36 xt36 xu36_33 xu36_36
    g_BadDots := PySem.W.mg_of X G ca34
    x_BadDots := ⟨xe34, xk34, xb34, xv34, xt34, ⟨xg34, xh34, xb34, xd34, xc34, cy, cz, xm34⟩, PySem.W.exm_ref xb27 xd27 xt27 xu27_34⟩
    kx_BadDots_DotError := kit_own xl27 xt27 xu27_34 xu27_27
    kx_BadDots_BadPrime := kit_own xl28 xt28 xu28_34 xu28_28
    kx_BadDots_BadRoot := kit_own xl29 xt29 xu29_34 xu29_29
    kx_BadDots_BadNumber := kit_own xl30 xt30 xu30_34 xu30_30
    kx_BadDots_BadColumn := kit_own xl31 xt31 xu31_34 xu31_31
    kx_BadDots_BadRow := kit_own xl32 xt32 xu32_34 xu32_32
    kx_BadDots_BadArrow := kit_own xl33 xt33 xu33_34 xu33_33
    kx_BadDots_BadDots := kit_own xl34 xt34 xu34_34 xu34_34
    kx_BadDots_BadWay := kit_own xl35 xt35 xu35_34 xu35_35
    kx_BadDots_NoCorner := kit_own xl36 xt36 xu36_34 xu36_36
    g_BadWay := PySem.W.mg_of X G ca35
    x_BadWay := ⟨xe35, xk35, xb35, xv35, xt35, ⟨xg35, xh35, xb35, xd35, xc35, cy, cz, xm35⟩, PySem.W.exm_ref xb27 xd27 xt27 xu27_35⟩
    kx_BadWay_DotError := kit_own xl27 xt27 xu27_35 xu27_27
    kx_BadWay_BadPrime := kit_own xl28 xt28 xu28_35 xu28_28
    kx_BadWay_BadRoot := kit_own xl29 xt29 xu29_35 xu29_29
    kx_BadWay_BadNumber := kit_own xl30 xt30 xu30_35 xu30_30
    kx_BadWay_BadColumn := kit_own xl31 xt31 xu31_35 xu31_31
    kx_BadWay_BadRow := kit_own xl32 xt32 xu32_35 xu32_32
    kx_BadWay_BadArrow := kit_own xl33 xt33 xu33_35 xu33_33
    kx_BadWay_BadDots := kit_own xl34 xt34 xu34_35 xu34_34
    kx_BadWay_BadWay := kit_own xl35 xt35 xu35_35 xu35_35
    kx_BadWay_NoCorner := kit_own xl36 xt36 xu36_35 xu36_36
    g_NoCorner := PySem.W.mg_of X G ca36
    x_NoCorner := ⟨xe36, xk36, xb36, xv36, xt36, ⟨xg36, xh36, xb36, xd36, xc36, cy, cz, xm36⟩, PySem.W.exm_ref xb27 xd27 xt27 xu27_36⟩
    kx_NoCorner_DotError := kit_own xl27 xt27 xu27_36 xu27_27
    kx_NoCorner_BadPrime := kit_own xl28 xt28 xu28_36 xu28_28
    kx_NoCorner_BadRoot := kit_own xl29 xt29 xu29_36 xu29_29
    kx_NoCorner_BadNumber := kit_own xl30 xt30 xu30_36 xu30_30
    kx_NoCorner_BadColumn := kit_own xl31 xt31 xu31_36 xu31_31
    kx_NoCorner_BadRow := kit_own xl32 xt32 xu32_36 xu32_32
    kx_NoCorner_BadArrow := kit_own xl33 xt33 xu33_36 xu33_33
    kx_NoCorner_BadDots := kit_own xl34 xt34 xu34_36 xu34_34
    kx_NoCorner_BadWay := kit_own xl35 xt35 xu35_36 xu35_35
    kx_NoCorner_NoCorner := kit_own xl36 xt36 xu36_36 xu36_36
    g_is_whole := PySem.W.mg_of X G a0, F_is_whole := F0, b_is_whole := b0
    g_is_prime := PySem.W.mg_of X G a1, F_is_prime := F1, b_is_prime := b1
    g_asked_prime := PySem.W.mg_of X G a2, F_asked_prime := F2, b_asked_prime := b2
    g_power := PySem.W.mg_of X G a3, F_power := F3, b_power := b3
    g_root_of := PySem.W.mg_of X G a4, F_root_of := F4, b_root_of := b4
    g_is_root := PySem.W.mg_of X G a5, F_is_root := F5, b_is_root := b5
    g_least_root := PySem.W.mg_of X G a6, F_least_root := F6, b_least_root := b6
    g_asked_root := PySem.W.mg_of X G a7, F_asked_root := F7, b_asked_root := b7
    g_asked_plan := PySem.W.mg_of X G a8, F_asked_plan := F8, b_asked_plan := b8
    g_row_of := PySem.W.mg_of X G a9, F_row_of := F9, b_row_of := b9
    g_found_column := PySem.W.mg_of X G a10, F_found_column := F10, b_found_column := b10
    g_column_of := PySem.W.mg_of X G a11, F_column_of := F11, b_column_of := b11
    g_arrow_of := PySem.W.mg_of X G a12, F_arrow_of := F12, b_arrow_of := b12
    g_dots_of := PySem.W.mg_of X G a13, F_dots_of := F13, b_dots_of := b13
    g_crossed := PySem.W.mg_of X G a14, F_crossed := F14, b_crossed := b14
    g_first_same := PySem.W.mg_of X G a15, F_first_same := F15, b_first_same := b15
    F_Same_init := F16, b_Same_init := b16
    g_asked_dots := PySem.W.mg_of X G a17, F_asked_dots := F17, b_asked_dots := b17
    g_judged := PySem.W.mg_of X G a18, F_judged := F18, b_judged := b18
    g_turned := PySem.W.mg_of X G a19, F_turned := F19, b_turned := b19
    g_without_corner := PySem.W.mg_of X G a20, F_without_corner := F20, b_without_corner := b20
    g__law_kinds := PySem.W.mg_of X G a21, F__law_kinds := F21, b__law_kinds := b21
    g__law_refused := PySem.W.mg_of X G a22, F__law_refused := F22, b__law_refused := b22
    g__law_all := PySem.W.mg_of X G a23, F__law_all := F23, b__law_all := b23
    g__law_no_wholes := PySem.W.mg_of X G a24, F__law_no_wholes := F24, b__law_no_wholes := b24
    g__law_plans_right := PySem.W.mg_of X G a25, F__law_plans_right := F25, b__law_plans_right := b25
    g_law := PySem.W.mg_of X G a26, F_law := F26, b_law := b26
  }
  have tb25 : PySem.W.tabIn K "_law_plans_right" = some (cc25, PP25) := by
    simp only [PySem.W.tabIn, a25, l25, tl25, tp25]
  have hd25 := Hx.tab_at TT X tr25 tb25
  have tb26 : PySem.W.tabIn K "law" = some (cc26, PP26) := by
    simp only [PySem.W.tabIn, a26, l26, tl26, tp26]
  have hd26 := Hx.tab_at TT X tr26 tb26
  refine ⟨PySem.W.fnOf "law" "law" (defArgs s_law) (defBody s_law) (defScope s_law) .none kV26 dc26 pm26 an26 (.ref cc26) ct26, [(cc25, PP25), (cc26, PP26)], spLaw K PP25 PP26, fun p hp => ?_, fun p hp => ?_, fun p hp => ?_, fun s v => .of_eq rfl, fun H a ns hl hb hH hS => ⟨a, ns, rfl, hS, hl, fun p hp => ?_, fun _ => rfl⟩, fun base _ _ hTB => ?_⟩
  · simp only [List.mem_cons, List.not_mem_nil, or_false] at hp
    rcases hp with rfl | rfl
    · exact hd25.2
    · exact hd26.2
  · simp only [List.mem_cons, List.not_mem_nil, or_false] at hp
    rcases hp with rfl | rfl
    · exact tn25
    · exact tn26
  · simp only [List.mem_cons, List.not_mem_nil, or_false] at hp
    rcases hp with rfl | rfl
    · exact hd25.1
    · exact hd26.1
  · simp only [TL, List.mem_cons, List.not_mem_nil, or_false] at hp
    rcases hp with rfl | rfl
    · exact NdefX.TabN.nil (hH (cc25, PP25) (by simp))
    · exact NdefX.TabN.nil (hH (cc26, PP26) (by simp))
  · exact ok_law T rfl (hTB (cc25, PP25) (by simp)) rfl (hTB (cc26, PP26) (by simp)) td25_26
end Lw
open PySem PySem.W PyProof.Rows
set_option maxHeartbeats 0 in
theorem PySem.Challenge.cw_arrowdots_k08_refused_holds : PySem.Challenge.rw_arrowdots_k08_refused.Holds := by
  w_on; o_law; k_head; (case hw => w_witness2)
  k_fill
  refine Hx.walk_ofTT (l := PySem.Challenge.rw_arrowdots_k08_refused) (n := 63) (k := 10) (x := "_law_script") (CX := fun _ => L2.CX0) rfl (by decide) rfl ⟨rfl, by decide, by decide⟩ (fun w h Y => PySem.W.km_in_of Y) ?F (fun _ _ _ _ _ h => h)
  case F =>
    intro w mg mb mean ls fa h TT KX G hmg
    refine' Lw.all_mk TT KX G hmg ?ca37 ?cm37 ?ck37 ?ci37 ?cg37 ?ch37 ?cp37 ?cs37 ?cc37 ?cx37 ?cl37 ?ct37 ?cu37_37 ?cu38_37 ?cu39_37 ?ca38 ?cm38 ?ck38 ?ci38 ?cg38 ?ch38 ?cp38 ?cs38 ?cc38 ?cx38 ?cl38 ?ct38 ?cu37_38 ?cu38_38 ?cu39_38 ?ca39 ?cm39 ?ck39 ?cg39 ?ch39 ?cp39 ?cs39 ?cc39 ?cx39 ?cl39 ?ct39 ?cn_first_39 ?cn_second_39 ?cn_across_39 ?cu37_39 ?cu38_39 ?cu39_39 ?ca27 ?xe27 ?xk27 ?xb27 ?xv27 ?xt27 ?xl27 ?xd27 ?xg27 ?xh27 ?xc27 ?xm27 ?xu27_27 ?xu28_27 ?xu29_27 ?xu30_27 ?xu31_27 ?xu32_27 ?xu33_27 ?xu34_27 ?xu35_27 ?xu36_27 ?ca28 ?xe28 ?xk28 ?xb28 ?xv28 ?xt28 ?xl28 ?xd28 ?xg28 ?xh28 ?xc28 ?xm28 ?xu27_28 ?xu28_28 ?xu29_28 ?xu30_28 ?xu31_28 ?xu32_28 ?xu33_28 ?xu34_28 ?xu35_28 ?xu36_28 ?ca29 ?xe29 ?xk29 ?xb29 ?xv29 ?xt29 ?xl29 ?xd29 ?xg29 ?xh29 ?xc29 ?xm29 ?xu27_29 ?xu28_29 ?xu29_29 ?xu30_29 ?xu31_29 ?xu32_29 ?xu33_29 ?xu34_29 ?xu35_29 ?xu36_29 ?ca30 ?xe30 ?xk30 ?xb30 ?xv30 ?xt30 ?xl30 ?xd30 ?xg30 ?xh30 ?xc30 ?xm30 ?xu27_30 ?xu28_30 ?xu29_30 ?xu30_30 ?xu31_30 ?xu32_30 ?xu33_30 ?xu34_30 ?xu35_30 ?xu36_30 ?ca31 ?xe31 ?xk31 ?xb31 ?xv31 ?xt31 ?xl31 ?xd31 ?xg31 ?xh31 ?xc31 ?xm31 ?xu27_31 ?xu28_31 ?xu29_31 ?xu30_31 ?xu31_31 ?xu32_31 ?xu33_31 ?xu34_31 ?xu35_31 ?xu36_31 ?ca32 ?xe32 ?xk32 ?xb32 ?xv32 ?xt32 ?xl32 ?xd32 ?xg32 ?xh32 ?xc32 ?xm32 ?xu27_32 ?xu28_32 ?xu29_32 ?xu30_32 ?xu31_32 ?xu32_32 ?xu33_32 ?xu34_32 ?xu35_32 ?xu36_32 ?ca33 ?xe33 ?xk33 ?xb33 ?xv33 ?xt33 ?xl33 ?xd33 ?xg33 ?xh33 ?xc33 ?xm33 ?xu27_33 ?xu28_33 ?xu29_33 ?xu30_33 ?xu31_33 ?xu32_33 ?xu33_33 ?xu34_33 ?xu35_33 ?xu36_33 ?ca34 ?xe34 ?xk34 ?xb34 ?xv34 ?xt34 ?xl34 ?xd34 ?xg34 ?xh34 ?xc34 ?xm34 ?xu27_34 ?xu28_34 ?xu29_34 ?xu30_34 ?xu31_34 ?xu32_34 ?xu33_34 ?xu34_34 ?xu35_34 ?xu36_34 ?ca35 ?xe35 ?xk35 ?xb35 ?xv35 ?xt35 ?xl35 ?xd35 ?xg35 ?xh35 ?xc35 ?xm35 ?xu27_35 ?xu28_35 ?xu29_35 ?xu30_35 ?xu31_35 ?xu32_35 ?xu33_35 ?xu34_35 ?xu35_35 ?xu36_35 ?ca36 ?xe36 ?xk36 ?xb36 ?xv36 ?xt36 ?xl36 ?xd36 ?xg36 ?xh36 ?xc36 ?xm36 ?xu27_36 ?xu28_36 ?xu29_36 ?xu30_36 ?xu31_36 ?xu32_36 ?xu33_36 ?xu34_36 ?xu35_36 ?xu36_36 ?cy ?cz ?z_ValueError ?z_abs ?z_all ?z_bool ?z_int ?z_isinstance ?z_len ?z_list ?z_range ?z_sorted ?y_MOST ?y_SMALL ?y_LONGEST ?a0 ?l0 ?c0 ?k0 ?a1 ?l1 ?c1 ?k1 ?a2 ?l2 ?c2 ?k2 ?a3 ?l3 ?c3 ?k3 ?a4 ?l4 ?c4 ?k4 ?a5 ?l5 ?c5 ?k5 ?a6 ?l6 ?c6 ?k6 ?a7 ?l7 ?c7 ?k7 ?a8 ?l8 ?c8 ?k8 ?a9 ?l9 ?c9 ?k9 ?a10 ?l10 ?c10 ?k10 ?a11 ?l11 ?c11 ?k11 ?a12 ?l12 ?c12 ?k12 ?a13 ?l13 ?c13 ?k13 ?a14 ?l14 ?c14 ?k14 ?a15 ?l15 ?c15 ?k15 ?i16 ?a16 ?l16 ?c16 ?k16 ?a17 ?l17 ?c17 ?k17 ?a18 ?l18 ?c18 ?k18 ?a19 ?l19 ?c19 ?k19 ?a20 ?l20 ?c20 ?k20 ?a21 ?l21 ?c21 ?k21 ?a22 ?l22 ?c22 ?k22 ?a23 ?l23 ?c23 ?k23 ?a24 ?l24 ?c24 ?k24 ?a25 ?l25 ?c25 ?k25 ?tl25 ?tp25 ?tn25 ?tr25 ?a26 ?l26 ?c26 ?k26 ?tl26 ?tp26 ?tn26 ?tr26 ?td25_26
    (case ca37 => k_is)
    (case ca38 => k_is)
    (case ca39 => k_is)
    (case ca27 => k_is)
    (case ca28 => k_is)
    (case ca29 => k_is)
    (case ca30 => k_is)
    (case ca31 => k_is)
    (case ca32 => k_is)
    (case ca33 => k_is)
    (case ca34 => k_is)
    (case ca35 => k_is)
    (case ca36 => k_is)
    (case cm37 => k_is)
    (case ck37 => k_is)
    (case ci37 => k_is)
    (case cg37 => k_is)
    (case ch37 => k_is)
    (case cp37 => k_is)
    (case cs37 => k_is)
    (case cc37 => k_is)
    (case cx37 => k_is)
    (case cl37 => k_is)
    (case ct37 => k_is)
    (case cu37_37 => k_is)
    (case cu38_37 => k_is)
    (case cu39_37 => k_is)
    (case cm38 => k_is)
    (case ck38 => k_is)
    (case ci38 => k_is)
    (case cg38 => k_is)
    (case ch38 => k_is)
    (case cp38 => k_is)
    (case cs38 => k_is)
    (case cc38 => k_is)
    (case cx38 => k_is)
    (case cl38 => k_is)
    (case ct38 => k_is)
    (case cu37_38 => k_is)
    (case cu38_38 => k_is)
    (case cu39_38 => k_is)
    (case cm39 => k_is)
    (case ck39 => k_is)
    (case cg39 => k_is)
    (case ch39 => k_is)
    (case cp39 => k_is)
    (case cs39 => k_is)
    (case cc39 => k_is)
    (case cx39 => k_is)
    (case cl39 => k_is)
    (case ct39 => k_is)
    (case cn_first_39 => k_is)
    (case cn_second_39 => k_is)
    (case cn_across_39 => k_is)
    (case cu37_39 => k_is)
    (case cu38_39 => k_is)
    (case cu39_39 => k_is)
    (case xe27 => k_exc)
    (case xk27 => k_is)
    (case xb27 => k_is)
    (case xv27 => k_is)
    (case xt27 => k_is)
    (case xl27 => k_is)
    (case xd27 => k_is)
    (case xg27 => k_is)
    (case xh27 => k_is)
    (case xc27 => k_is)
    (case xm27 => k_is)
    (case xu27_27 => k_is)
    (case xu28_27 => k_is)
    (case xu29_27 => k_is)
    (case xu30_27 => k_is)
    (case xu31_27 => k_is)
    (case xu32_27 => k_is)
    (case xu33_27 => k_is)
    (case xu34_27 => k_is)
    (case xu35_27 => k_is)
    (case xu36_27 => k_is)
    (case xe28 => k_exc)
    (case xk28 => k_is)
    (case xb28 => k_is)
    (case xv28 => k_is)
    (case xt28 => k_is)
    (case xl28 => k_is)
    (case xd28 => k_is)
    (case xg28 => k_is)
    (case xh28 => k_is)
    (case xc28 => k_is)
    (case xm28 => k_is)
    (case xu27_28 => k_is)
    (case xu28_28 => k_is)
    (case xu29_28 => k_is)
    (case xu30_28 => k_is)
    (case xu31_28 => k_is)
    (case xu32_28 => k_is)
    (case xu33_28 => k_is)
    (case xu34_28 => k_is)
    (case xu35_28 => k_is)
    (case xu36_28 => k_is)
    (case xe29 => k_exc)
    (case xk29 => k_is)
    (case xb29 => k_is)
    (case xv29 => k_is)
    (case xt29 => k_is)
    (case xl29 => k_is)
    (case xd29 => k_is)
    (case xg29 => k_is)
    (case xh29 => k_is)
    (case xc29 => k_is)
    (case xm29 => k_is)
    (case xu27_29 => k_is)
    (case xu28_29 => k_is)
    (case xu29_29 => k_is)
    (case xu30_29 => k_is)
    (case xu31_29 => k_is)
    (case xu32_29 => k_is)
    (case xu33_29 => k_is)
    (case xu34_29 => k_is)
    (case xu35_29 => k_is)
    (case xu36_29 => k_is)
    (case xe30 => k_exc)
    (case xk30 => k_is)
    (case xb30 => k_is)
    (case xv30 => k_is)
    (case xt30 => k_is)
    (case xl30 => k_is)
    (case xd30 => k_is)
    (case xg30 => k_is)
    (case xh30 => k_is)
    (case xc30 => k_is)
    (case xm30 => k_is)
    (case xu27_30 => k_is)
    (case xu28_30 => k_is)
    (case xu29_30 => k_is)
    (case xu30_30 => k_is)
    (case xu31_30 => k_is)
    (case xu32_30 => k_is)
    (case xu33_30 => k_is)
    (case xu34_30 => k_is)
    (case xu35_30 => k_is)
    (case xu36_30 => k_is)
    (case xe31 => k_exc)
    (case xk31 => k_is)
    (case xb31 => k_is)
    (case xv31 => k_is)
    (case xt31 => k_is)
    (case xl31 => k_is)
    (case xd31 => k_is)
    (case xg31 => k_is)
    (case xh31 => k_is)
    (case xc31 => k_is)
    (case xm31 => k_is)
    (case xu27_31 => k_is)
    (case xu28_31 => k_is)
    (case xu29_31 => k_is)
    (case xu30_31 => k_is)
    (case xu31_31 => k_is)
    (case xu32_31 => k_is)
    (case xu33_31 => k_is)
    (case xu34_31 => k_is)
    (case xu35_31 => k_is)
    (case xu36_31 => k_is)
    (case xe32 => k_exc)
    (case xk32 => k_is)
    (case xb32 => k_is)
    (case xv32 => k_is)
    (case xt32 => k_is)
    (case xl32 => k_is)
    (case xd32 => k_is)
    (case xg32 => k_is)
    (case xh32 => k_is)
    (case xc32 => k_is)
    (case xm32 => k_is)
    (case xu27_32 => k_is)
    (case xu28_32 => k_is)
    (case xu29_32 => k_is)
    (case xu30_32 => k_is)
    (case xu31_32 => k_is)
    (case xu32_32 => k_is)
    (case xu33_32 => k_is)
    (case xu34_32 => k_is)
    (case xu35_32 => k_is)
    (case xu36_32 => k_is)
    (case xe33 => k_exc)
    (case xk33 => k_is)
    (case xb33 => k_is)
    (case xv33 => k_is)
    (case xt33 => k_is)
    (case xl33 => k_is)
    (case xd33 => k_is)
    (case xg33 => k_is)
    (case xh33 => k_is)
    (case xc33 => k_is)
    (case xm33 => k_is)
    (case xu27_33 => k_is)
    (case xu28_33 => k_is)
    (case xu29_33 => k_is)
    (case xu30_33 => k_is)
    (case xu31_33 => k_is)
    (case xu32_33 => k_is)
    (case xu33_33 => k_is)
    (case xu34_33 => k_is)
    (case xu35_33 => k_is)
    (case xu36_33 => k_is)
    (case xe34 => k_exc)
    (case xk34 => k_is)
    (case xb34 => k_is)
    (case xv34 => k_is)
    (case xt34 => k_is)
    (case xl34 => k_is)
    (case xd34 => k_is)
    (case xg34 => k_is)
    (case xh34 => k_is)
    (case xc34 => k_is)
    (case xm34 => k_is)
    (case xu27_34 => k_is)
    (case xu28_34 => k_is)
    (case xu29_34 => k_is)
    (case xu30_34 => k_is)
    (case xu31_34 => k_is)
    (case xu32_34 => k_is)
    (case xu33_34 => k_is)
    (case xu34_34 => k_is)
    (case xu35_34 => k_is)
    (case xu36_34 => k_is)
    (case xe35 => k_exc)
    (case xk35 => k_is)
    (case xb35 => k_is)
    (case xv35 => k_is)
    (case xt35 => k_is)
    (case xl35 => k_is)
    (case xd35 => k_is)
    (case xg35 => k_is)
    (case xh35 => k_is)
    (case xc35 => k_is)
    (case xm35 => k_is)
    (case xu27_35 => k_is)
    (case xu28_35 => k_is)
    (case xu29_35 => k_is)
    (case xu30_35 => k_is)
    (case xu31_35 => k_is)
    (case xu32_35 => k_is)
    (case xu33_35 => k_is)
    (case xu34_35 => k_is)
    (case xu35_35 => k_is)
    (case xu36_35 => k_is)
    (case xe36 => k_exc)
    (case xk36 => k_is)
    (case xb36 => k_is)
    (case xv36 => k_is)
    (case xt36 => k_is)
    (case xl36 => k_is)
    (case xd36 => k_is)
    (case xg36 => k_is)
    (case xh36 => k_is)
    (case xc36 => k_is)
    (case xm36 => k_is)
    (case xu27_36 => k_is)
    (case xu28_36 => k_is)
    (case xu29_36 => k_is)
    (case xu30_36 => k_is)
    (case xu31_36 => k_is)
    (case xu32_36 => k_is)
    (case xu33_36 => k_is)
    (case xu34_36 => k_is)
    (case xu35_36 => k_is)
    (case xu36_36 => k_is)
    (case cy => k_is)
    (case cz => k_is)
    (case z_ValueError => k_is)
    (case z_abs => k_is)
    (case z_all => k_is)
    (case z_bool => k_is)
    (case z_int => k_is)
    (case z_isinstance => k_is)
    (case z_len => k_is)
    (case z_list => k_is)
    (case z_range => k_is)
    (case z_sorted => k_is)
    (case y_MOST => k_is)
    (case y_SMALL => k_is)
    (case y_LONGEST => k_is)
    (case a0 => k_is)
    (case l0 => k_is)
    (case c0 => k_is)
    (case k0 => k_is)
    (case a1 => k_is)
    (case l1 => k_is)
    (case c1 => k_is)
    (case k1 => k_is)
    (case a2 => k_is)
    (case l2 => k_is)
    (case c2 => k_is)
    (case k2 => k_is)
    (case a3 => k_is)
    (case l3 => k_is)
    (case c3 => k_is)
    (case k3 => k_is)
    (case a4 => k_is)
    (case l4 => k_is)
    (case c4 => k_is)
    (case k4 => k_is)
    (case a5 => k_is)
    (case l5 => k_is)
    (case c5 => k_is)
    (case k5 => k_is)
    (case a6 => k_is)
    (case l6 => k_is)
    (case c6 => k_is)
    (case k6 => k_is)
    (case a7 => k_is)
    (case l7 => k_is)
    (case c7 => k_is)
    (case k7 => k_is)
    (case a8 => k_is)
    (case l8 => k_is)
    (case c8 => k_is)
    (case k8 => k_is)
    (case a9 => k_is)
    (case l9 => k_is)
    (case c9 => k_is)
    (case k9 => k_is)
    (case a10 => k_is)
    (case l10 => k_is)
    (case c10 => k_is)
    (case k10 => k_is)
    (case a11 => k_is)
    (case l11 => k_is)
    (case c11 => k_is)
    (case k11 => k_is)
    (case a12 => k_is)
    (case l12 => k_is)
    (case c12 => k_is)
    (case k12 => k_is)
    (case a13 => k_is)
    (case l13 => k_is)
    (case c13 => k_is)
    (case k13 => k_is)
    (case a14 => k_is)
    (case l14 => k_is)
    (case c14 => k_is)
    (case k14 => k_is)
    (case a15 => k_is)
    (case l15 => k_is)
    (case c15 => k_is)
    (case k15 => k_is)
    (case i16 => k_is)
    (case a16 => k_is)
    (case l16 => k_is)
    (case c16 => k_is)
    (case k16 => k_is)
    (case a17 => k_is)
    (case l17 => k_is)
    (case c17 => k_is)
    (case k17 => k_is)
    (case a18 => k_is)
    (case l18 => k_is)
    (case c18 => k_is)
    (case k18 => k_is)
    (case a19 => k_is)
    (case l19 => k_is)
    (case c19 => k_is)
    (case k19 => k_is)
    (case a20 => k_is)
    (case l20 => k_is)
    (case c20 => k_is)
    (case k20 => k_is)
    (case a21 => k_is)
    (case l21 => k_is)
    (case c21 => k_is)
    (case k21 => k_is)
    (case a22 => k_is)
    (case l22 => k_is)
    (case c22 => k_is)
    (case k22 => k_is)
    (case a23 => k_is)
    (case l23 => k_is)
    (case c23 => k_is)
    (case k23 => k_is)
    (case a24 => k_is)
    (case l24 => k_is)
    (case c24 => k_is)
    (case k24 => k_is)
    (case a25 => k_is)
    (case l25 => k_is)
    (case c25 => k_is)
    (case k25 => k_is)
    (case tl25 => k_is)
    (case tp25 => rfl)
    (case tn25 => kernel_rfl)
    (case tr25 => kernel_rfl)
    (case a26 => k_is)
    (case l26 => k_is)
    (case c26 => k_is)
    (case k26 => k_is)
    (case tl26 => k_is)
    (case tp26 => rfl)
    (case tn26 => kernel_rfl)
    (case tr26 => kernel_rfl)
    (case td25_26 => decide)
