import PyProof.Rows.All
import Wide.All
import OpenK.AllK
import Wide.FinOn
import HandS.ForMost
import HandS.Wide
import HandS.IsInst
import HandS.Style
import HandS.Conv
import HandS.EndBits
import HandS.More
import HandS.Codes
import HandS.Walk
import HandS.CallRecv
import HandS.HotCalls
import HandS.EndTab
import HandS.Nested
import HandS.ExcIs
import HandS.ExcCtx
import HandS.WordsExc
import PySem.Challenge.RW_arrowdots_k09_whole_known
set_option Elab.async false
set_option linter.all false
set_option maxRecDepth 100000
set_option maxHeartbeats 4000000
namespace Hx
open PySem PySem.Spec PyProof.Rows L2 L2H
/-! ### a comprehension in an except suite (over what goes there: L2H.PIH) -/
section
variable {X : Cx} {pins : List (Addr × Obj)} {σ : L2.St} {H : Hp} {s : Shared}
/-- one more pin -/
theorem inv_pin {p : Addr × Obj} (I : Inv X pins σ H s) (h : s.heap.get? p.1 = some p.2 ∧ H p.1 = none ∧ p.1 ≠ X.env.locals ∧ p.1 ∉ X.fs ∧ ∀ v, p.2.data ≠ .cell v) : Inv X (p :: pins) σ H s :=
  ⟨I.ok, I.os, I.bare, I.base, I.loc, I.cell, I.free, I.freeC, fun q hq => by
    rcases List.mem_append.mp hq with z | z
    · exact I.pin q (List.mem_append_left _ z)
    · rcases List.mem_cons.mp z with z | z
      · rw [z]; exact h
      · exact I.pin q (List.mem_append_right _ z), I.hok, I.len⟩
theorem thnG {α : Type} {M : Model} {A : Around} {m : Sem α} {Q Q' : α → Shared → Prop} {E : Value → Shared → Prop} (h : wpAny M A m Q (fun _ _ => False) s) (k : ∀ a s', Q a s' → Q' a s') : wpAny M A m Q' E s :=
  wpAny_mono h k fun _ _ z => z.elim
theorem pe_lcH {elt tg iter : Expr} {ifs : List Expr} {scope : Scope} {own : List (Str × Nat)} {pos : Pos} {wi : TI} {g : TG} {tt : TT} {te : TE} (hc : HotC X) (hN : X.N.Nodup) (hi : PIH X tg iter wi) (ok : BlkOk X.N X.env.scope scope own)
    (hg : ∀ (s : Shared) (H : Hp) (C : Addr) (cl : List (Str × Addr)) (fp : List Addr), PG (X.blk s H scope (compEnvC scope cl C X.env) fp) tg g) (ht : ∀ (s : Shared) (H : Hp) (C : Addr) (cl : List (Str × Addr)) (fp : List Addr), PTs (X.blk s H scope (compEnvC scope cl C X.env) fp) ifs tt)
    (he : ∀ (s : Shared) (H : Hp) (C : Addr) (cl : List (Str × Addr)) (fp : List Addr), PE (X.blk s H scope (compEnvC scope cl C X.env) fp) elt te) (hs : ∀ x, foldedSetIterable iter X.env x = pure x := by intro _; rfl) :
    PE X (.ListComp elt [⟨tg, iter, ifs, 0⟩] scope pos) (tLc wi g tt te (own.map (·.2))) := by
  refine ⟨fun pins s σ H Q I h => ?_⟩
  rw [eval_ListComp]
  obtain ⟨p, hot, hp⟩ := hc
  have hfree : ∀ y ∈ scope.names, y.2 = .free → ∃ c, X.env.cells.lookup y.1 = some c := fun y hy e => by
    rcases ok.free y hy e with k | k
    · exact I.ok.has _ (.inl k)
    · exact I.ok.has _ (.inr k)
  refine wpAny_comprehension_free rfl hs (closure_ok hfree) ok.kind (fun y hy e => by rw [ok.uniq y hy, e])
    (thn (hi.run pins s σ H _ I h) fun xv s1 hx => thn hx fun itv s2 h2 => ?_)
  obtain ⟨it, fp, tn, J, H2, e, I2, T, st2, f2, q⟩ := h2
  subst e
  refine wpAny_newObj_type (newEnv_comp ?_) (by show 0 ≤ sizeLine; decide)
  generalize hD : s2.heap.objs.size = D
  have hDn : H2 D = none := I2.hok.fresh (Nat.le_of_eq hD)
  obtain ⟨W, ⟨m0, w0⟩, turn⟩ := q D hDn
  generalize hs3 : ({ s2 with heap := s2.heap.push { cls := .type "list", data := .seq ([] : List Value).toArray } } : Shared) = s3
  have I3 : Inv X pins σ (upd H2 D (.lst [])) s3 := by
    rw [← hs3]
    refine I2.laid (t' := s2.toks) (fun b o e => Heap.get?_push_of_some _ e) (Nat.le_of_eq hD) ⟨Nat.zero_le _, [], 0, .nil, ?_⟩
    rw [← hD]
    exact Heap.get?_push_size _ rfl
  have h3 : s3.heap = s2.heap.push { cls := .type "list", data := .seq ([] : List Value).toArray } := by rw [← hs3]
  have f3 : ∀ b ∈ fp, FpOk X pins (upd H2 D (.lst [])) b ∧ b < s3.heap.objs.size := fun b hb => by
    obtain ⟨o, e, _⟩ := T.obj _ _ st2 b hb
    have hlt := Heap.lt_size e
    refine ⟨⟨?_, (f2 b hb).2⟩, by rw [h3, Heap.size_push]; exact Nat.lt_succ_of_lt hlt⟩
    rw [upd_ne (by rw [← hD]; exact Nat.ne_of_lt hlt)]
    exact (f2 b hb).1
  have st3 : tn 0 s3.heap := T.keep _ _ _ st2 fun b _ o e => by rw [h3]; exact Heap.get?_push_of_some _ e
  have I4 := block_start I3 ok hN f3
  have pin3 := I3.pin p (List.mem_append_left _ hp)
  have pg := hg s3 (upd H2 D (.lst [])) s3.heap.objs.size (cellsFrom (s3.heap.objs.size + 1) scope.names (cloFrom X.env.cells scope.names [])) fp
  have pt := ht s3 (upd H2 D (.lst [])) s3.heap.objs.size (cellsFrom (s3.heap.objs.size + 1) scope.names (cloFrom X.env.cells scope.names [])) fp
  have pe := he s3 (upd H2 D (.lst [])) s3.heap.objs.size (cellsFrom (s3.heap.objs.size + 1) scope.names (cloFrom X.env.cells scope.names [])) fp
  show codeAny _ _ (.compStart (.ListComp elt [⟨tg, iter, ifs, 0⟩] scope pos) 0 (.ref it) (.ref D) (compEnvC scope (cellsFrom (s3.heap.objs.size + 1) scope.names (cloFrom X.env.cells scope.names [])) s3.heap.objs.size X.env)) _ { s3 with heap := pushCells (s3.heap.push { cls := .type "dict", data := .dict #[] }) scope.names }
  have nfp : ∀ b ∈ fp, (upd H2 D (.lst [])) b = none := fun b hb => (f3 b hb).1.1
  have pin4 : ({ s3 with heap := pushCells (s3.heap.push { cls := .type "dict", data := .dict #[] }) scope.names } : Shared).heap.get? p.1 = some p.2 := pushCells_keeps _ _ _ _ (Heap.get?_push_of_some _ pin3.1)
  have pinS : p.1 < s3.heap.objs.size := Heap.lt_size pin3.1
  generalize hce : compEnvC scope (cellsFrom (s3.heap.objs.size + 1) scope.names (cloFrom X.env.cells scope.names [])) s3.heap.objs.size X.env = ce at I4 pg pt pe ⊢
  have cL : ce.locals = s3.heap.objs.size := by subst hce; rfl
  generalize hH3 : upd H2 D (.lst []) = H3 at I3 I4 pg pt pe w0 nfp f3 pin3
  generalize hs4 : ({ s3 with heap := pushCells (s3.heap.push { cls := .type "dict", data := .dict #[] }) scope.names } : Shared) = s4 at I4 pin4 ⊢
  have st4 : tn 0 s4.heap := T.keep _ _ _ st3 fun b _ o e => by rw [← hs4]; exact pushCells_keeps _ _ _ _ (Heap.get?_push_of_some _ e)
  have I4' : Inv (X.blk s3 H3 scope ce fp) [p] (wipe σ (own.map (·.2))) H3 s4 := inv_pin I4 ⟨pin4, pin3.2.1, by show p.1 ≠ ce.locals; rw [cL]; exact Nat.ne_of_lt pinS, fun hm => (List.mem_cons.mp (I3.stkSub p.1 hm)).elim pin3.2.2.1 pin3.2.2.2.1, pin3.2.2.2.2⟩
  have stat : ∀ {σ' : L2.St} {H' : Hp} {s' : Shared}, Inv (X.blk s3 H3 scope ce fp) [p] σ' H' s' → (∀ b ∈ fp, H' b = none) → ∀ b ∈ fp, FpOk (X.blk s3 H3 scope ce fp) [p] H' b := fun {σ' H' s'} I' hn b hb =>
    ⟨hn b hb, (I'.ok.exf b hb).1, I'.ok.exfs b hb, .inl hb, fun x c e => (I'.ok.exf b hb).2 x c e, fun q hq => by
      have eq : q = p := by simpa using (show q ∈ ([] : List (Addr × Obj)) ++ [p] from hq)
      rw [eq]
      exact (f3 b hb).1.2.2.2.2.2 p (List.mem_append_left _ hp)⟩
  let Xt : Cx := (X.blk s3 H3 scope ce fp).tr ([] ++ [p]) (fun _ _ => False)
  have hotT : HotC Xt := ⟨p, hot, List.mem_append_right _ (List.mem_singleton.mpr rfl)⟩
  have statT : ∀ {H' : Hp}, (∀ b ∈ fp, FpOk (X.blk s3 H3 scope ce fp) [p] H' b) → ∀ b ∈ fp, FpOk Xt [] H' b := fun {H'} hn b hb => by
    obtain ⟨a1, a2, a3, a4, a5, a6⟩ := hn b hb
    exact ⟨a1, a2, a3, a4, a5, fun q hq => a6 q (by rw [List.append_nil] at hq; exact hq)⟩
  have loop : codeAny (model X.prog X.w) X.A (.compLoop (.ListComp elt [⟨tg, iter, ifs, 0⟩] scope pos) 0 (.ref it) (.ref D) ce) (compPost (model X.prog X.w) X.A X.xe none (EP X pins σ Q) (.ref D) s3.heap.objs.size) s4 := by
    refine compLoop_any (fun n s' => ∃ i H', Inv (X.blk s3 H3 scope ce fp) [p] (wipe σ (own.map (·.2))) H' s' ∧ tn i s'.heap ∧ (∀ b ∈ fp, H' b = none) ∧ W i n H') ?_ m0 ⟨0, H3, I4', st4, nfp, w0⟩
    rintro n s5 ⟨i, H5, I5, st5, n5, w5⟩
    rcases turn i n H5 w5 with ⟨stop, qq⟩ | ⟨go, Nx, hNx, step⟩
    · have td := T.done Xt rfl rfl rfl hotT i [] s5 _ H5 (fun _ _ => False) (I5.toTry _) (statT (stat I5 n5)) st5 stop
      refine thnG td fun r s6 ⟨hr, I6'⟩ => ?_
      have I6 := I6'.ofTry (X := X.blk s3 H3 scope ce fp) (pins := [p]) I5.ok
      subst hr
      have I7 : Inv X pins σ H5 s6 := I3.call' (ch := fp) I6.os I6.base I6.hok I6.bare fun b hb => ⟨(f3 b hb).1.2.2.2.1, (f3 b hb).1.2.1, (f3 b hb).1.2.2.2.2.1, (f3 b hb).1.2.2.2.2.2⟩
      have nC : H5 s3.heap.objs.size = none := by
        have z : H5 ce.locals = none := I6.free
        rw [cL] at z
        exact z
      obtain ⟨m, hn, _⟩ := I6.loc
      have hn : s6.heap.Ns ce.locals m := hn
      rw [cL] at hn
      have f := I3.fpOk (Nat.le_refl _) nC
      refine ⟨m, hn, fun h'' sb => ?_⟩
      obtain ⟨g0, g1, g2, g3, g4, g5⟩ := f
      exact ⟨.ref D, H5, I7.turned (t' := s6.toks) (fun b o hb e => (sb.2 b hb).trans e) g0 g1 g3 g4 g5, rfl, qq⟩
    · have ti := T.item Xt rfl rfl rfl hotT i [] s5 _ H5 (fun _ _ => False) (I5.toTry _) (statT (stat I5 n5)) st5 go
      refine thnG ti fun r s6 ⟨u, hr, h6⟩ => ?_
      subst hr
      refine thnG h6 fun _ s7 ⟨x, H7, I7', r7, y7, st7, n7⟩ => ?_
      have I7 := I7'.ofTry (X := X.blk s3 H3 scope ce fp) (pins := [p]) I5.ok
      have J7 := I7.pinned (stat I7 n7) (T.obj _ _ st7)
      refine thnG (pg.run _ s7 _ H7 x u _ J7 r7 (step x H7 y7)) fun _ s8 ⟨σ8, H8, I8, hw8, q8⟩ => ?_
      refine thnG (pt.run _ s8 σ8 H8 _ I8 q8) fun b s9 ⟨H9, I9, q9⟩ => ?_
      have fin : ∀ {s' : Shared} {H' : Hp}, Inv (X.blk s3 H3 scope ce fp) ([p] ++ pinsAt fp s7.heap) σ8 H' s' → Nx H' → ∃ m, m < n ∧ ∃ i H', Inv (X.blk s3 H3 scope ce fp) [p] (wipe σ (own.map (·.2))) H' s' ∧ tn i s'.heap ∧ (∀ b ∈ fp, H' b = none) ∧ W i m H' := fun {s' H'} I' nx => by
        obtain ⟨m', hm, w'⟩ := hNx H' nx
        have pin' : ∀ b ∈ fp, ∀ o, s7.heap.get? b = some o → s'.heap.get? b = some o ∧ H' b = none := fun b hb o e =>
          let z := I'.pin (b, o) (List.mem_append_right _ (List.mem_append_right _ (mem_pinsAt hb e)))
          ⟨z.1, z.2.1⟩
        have hl : (wipe σ (own.map (·.2))).length = σ8.length := by rw [← hw8, wipe_length]
        refine ⟨m', hm, i + 1, H', (I'.unpinned (pins := [p])).weak hl (fun j v e => ?_), T.keep _ _ _ st7 fun b hb o e => (pin' b hb o e).1, fun b hb => ?_, w'⟩
        · rw [← hw8] at e
          exact (wipe_some e).1
        · obtain ⟨o, e, _⟩ := T.obj _ _ st7 b hb
          exact (pin' b hb o e).2
      cases b with
      | false =>
        simp only [Bool.false_eq_true, if_false] at q9 ⊢
        exact fin I9 q9
      | true =>
        simp only [if_true] at q9 ⊢
        refine thnG (pe.run _ s9 σ8 H9 _ I9 q9) fun z s10 ⟨yv, H10, I10, r10, acc, hD10, hz10, nx⟩ => ?_
        exact app_ok (X := X.blk s3 H3 scope ce fp) I10 hD10 hz10 r10 fun s11 I11 => fin I11 nx
  exact codeAny_compStart_list loop (T.self X.A 0 _ _ _ st4 loop)
end
end Hx
namespace Hx
open PySem PySem.Spec PyProof.Rows L2 L2H HotX
/-! ### a def called in an except suite, which is told the exception that is handled -/
structure FnHp (P : Program) (w : World) (K : PySem.W.Frag) (mg : Str → Option Value) (base : Heap) (CX : CXT) (k : Nat) (f : Addr) (fd : FuncData) (ps : List Str) (p : Addr × Obj) (sp : Sp) : Prop where
  len : ∀ vs H Q E, sp vs H Q E → vs.length = ps.length
  run : ∀ (A : Around) (outer : List Env) (s : Shared) (H : Hp) (args : Args) (us : List Value) (vs : List V) (Q : VK) (E : XK), RoomH k A → Hot1 A p → PinOk outer H s p → Env0 P w K mg base A outer s H → BindsTo s fd args (ps.zip us) → Vals vs us → sp vs H Q E →
    codeAny (model P w) A (.call (.ref f) args) (CR CX outer P w H s Q E) s
theorem fn_ofHp {CX : CXT} {P : Program} {w : World} {K : PySem.W.Frag} {mg : Str → Option Value} {base : Heap} {k : Nat} {f : Addr} {name qual : Str} {params : Arguments} {body : List Stmt} {scope : Scope} {dV kV doc pm cdv ct oc : Value} {an od : Option Addr}
    {osl : Array (Option Value)} {N ps : List Str} {p : Addr × Obj} {sp : Sp} (lk : K.lookup f = some ⟨oc, od, .func (PySem.W.fnOf name qual params body scope dV kV doc pm an cdv ct), osl⟩) (hcd : PySem.W.codeIn K cdv qual = true) (S : FnScope N ps scope)
    (len : ∀ vs H Q E, sp vs H Q E → vs.length = ps.length)
    (hbody : ∀ (A : Around) (outer : List Env) (s : Shared) (H : Hp) (vs : List V) (Q : VK) (E : XK), Hot1 A p → RoomH k (A.deeper (envOfC qual scope s.heap.objs.size f cdv)) → sp vs H Q E →
      ∃ t, PSs (cxH CX P w K mg base N qual scope f cdv A outer s H E p) body t ∧ t { nx := fun _ H' => Q .non H', rt := Q } (L2.start N vs) H) :
    FnHp P w K mg base CX (k + 1) f (PySem.W.fnOf name qual params body scope dV kV doc pm an cdv ct) ps p sp := by
  refine ⟨len, fun A outer s H args us vs Q E hr hot hpin e0 hb r hsp => ?_⟩
  have hl := len _ _ _ _ hsp
  have st : ∀ b o, base.get? b = some o → s.heap.get? b = some o := fun b o e => (e0.bs b o e).1
  have KX : K.In s.heap := e0.mod.kin.keeps st
  have hkind : ∀ y ∈ ps.zip us, scope.names.lookup y.1 = some .local ∨ (scope.names.lookup y.1 = some .cell ∧ ((cellsFrom (s.heap.objs.size + 1) scope.names []).lookup y.1).isSome = true) := fun ⟨n, v⟩ hy =>
    (S.par n (List.of_mem_zip hy).1).imp id fun q => ⟨q, PySem.W.cellsFrom_some _ _ _ (.inl q)⟩
  refine codeAny_call_function hr.depth (KX _ _ lk) rfl S.co S.gen rfl (PySem.W.codeRec_of KX hcd) (hb _ _ _ _ ?_)
  refine wpAny_newFunctionEnv_cells S.kind hkind fun env he s1 x => ?_
  subst he
  refine ⟨(e0.mod.nolimit.keeps st).keeps x.toInCall.keep, codeAny_func ?_⟩
  obtain ⟨t, ht, hq⟩ := hbody A outer s H vs Q E hot (hr.deeper _) hsp
  refine wpAny_mono (ht.run [] s1 (L2.start N vs) H _ (inv_startH S hpin e0 hl r x) hq) (fun fl s' hs => ?_) fun e s' hs => hs
  cases fl with
  | ret u =>
    obtain ⟨v, σ', H', J, rv, q⟩ := hs
    exact ⟨v, H', J.os, J.bare, J.base, J.hok, rv, q⟩
  | next =>
    obtain ⟨σ', H', J, q⟩ := hs
    exact ⟨V.non, H', J.os, J.bare, J.base, J.hok, rfl, q⟩
  | brk =>
    obtain ⟨_, _, _, q⟩ := hs
    exact False.elim q
  | cont =>
    obtain ⟨_, _, _, q⟩ := hs
    exact False.elim q
section
variable {X : Cx} {CX : CXT} {k : Nat} {f : Addr} {fd : FuncData} {ps : List Str} {sp : Sp} {E : L2.St → XK} {x : Str} {q pos : Pos} {e : Expr} {es : List Expr} {t : TA} {p : Addr × Obj}
theorem pe_callHp (F : FnHp X.prog X.w X.K X.mg X.base CX k f fd ps p sp) (hr : RoomH k X.A) (hot : Hot1 X.A p) (hp : p ∈ X.pn) (hg : Gl X x) (hm : X.mg x = some (.ref f)) (hk : PySem.W.keepIn X.K (.ref f) = true) (hb : L2.Binds X.K fd ps []) (hx : ∀ σ, PassesAt CX X σ (E σ))
    (ha : PA X (e :: es) t) (hdb : (x == ("__debug__" : Str)) = false := by decide) (he : starEach (e :: es) X.env = (false, eval e X.env) :: starEach es X.env := by rfl) (hpl : (backTo pos (starEach es X.env)).any (·.1) = false := by rfl) :
    PE X (.Call (.Name x q) (e :: es) [] pos) (tCallS sp E t) := by
  refine ⟨fun pins s σ H Q I h => ?_⟩
  refine wpAny_Call_Name_kw (ld_glob I hg hm ?_ hdb)
  refine PySem.W.callWith_K (h₀ := X.base) I.ok.mod.kin hk (thn (ha.run pos pins s σ H _ I h) fun us s1 ⟨vs, H1, I1, r, q⟩ => ⟨I1.kIn, ?_⟩) he hpl
  have hl : us.length = ps.length := by rw [← r.length]; exact F.len _ _ _ _ q
  have b := hb s1 us I1.kIn (by rw [List.append_nil]; exact hl)
  rw [List.append_nil] at b
  have P1 := I1.pin p (List.mem_append_left _ hp)
  refine wpAny_call (codeAny_mono (F.run X.A X.stack s1 H1 ⟨us, []⟩ us vs Q (E σ) hr hot ⟨P1.1, P1.2.1, fun hm => (List.mem_cons.mp (I1.stkSub p.1 hm)).elim P1.2.2.1 P1.2.2.2.1, P1.2.2.2.2⟩ I1.env0 b r q) fun r s' hq => ?_)
  cases r with
  | error e => exact hx σ pins H1 s1 e s' I1 hq
  | ok fl =>
    cases fl with
    | ret u => exact I1.after hq
    | next => exact False.elim hq
    | brk => exact False.elim hq
    | cont => exact False.elim hq
/-- isinstance(e, c), e an exception that is pinned -/
theorem call_isP {a D : Addr} {oe : Obj} (C : ExcC X.K D) (hp : (a, oe) ∈ X.pn) (hz : oe.cls = .ref D ∧ oe.dict = none) (hf : ∃ vs, oe.data = .fields vs) : CallR X (.builtin "isinstance") (rIsE X.K D a) := by
  intro pins s σ H xs us Q I r h
  obtain ⟨c, cv, b, rfl, hcv, e, q⟩ := h
  cases r with
  | cons rx rr =>
    cases rr with
    | cons rt rr =>
      cases rr
      cases rx
      have ec := hcv _ rt
      subst ec
      obtain ⟨hget, _⟩ := I.pin (a, oe) (List.mem_append_left _ hp)
      obtain ⟨vs, hv⟩ := hf
      have J : PySem.W.InstAt s.heap a oe D none := by
        obtain ⟨oc, od, oda, osl⟩ := oe
        obtain ⟨h1, h2⟩ := hz
        dsimp only at h1 h2 hv
        subst h1 h2 hv
        exact ⟨hget, rfl, rfl, trivial⟩
      exact PySem.W.kia_one (PySem.W.handS_kitx_exc C.hg C.hk C.hs C.hd C.ha C.hn C.ht C.hm) I.kIn J e (fun z => nomatch z) fun tk => ⟨.bl b, H, I.kept (t' := tk) fun _ _ z => z, rfl, q⟩
end
end Hx
namespace Hx
open PySem PySem.Spec PyProof.Rows L2 LamX NdefX
/-! ### lambdas as values -/
/-- its words, the cells that it captured, its code object -/
structure LF where
  qual : Str
  params : Arguments
  body : Expr
  scope : Scope
  cl : List (Str × Addr)
  c : Addr
abbrev LF.fd (F : LF) (pm ctv : Value) : FuncData := PySem.W.kla_fn "<lambda>" F.qual F.params F.body F.scope F.cl pm (.ref F.c) ctv
/-- the object at f is the lambda F -/
def LamO (f : Addr) (F : LF) : HO := .ext fun h => ∃ (od : Option Addr) (sl : Array (Option Value)) (pm ctv : Value), h.get? f = some (⟨.type "function", od, .func (F.fd pm ctv), sl⟩ : Obj)
theorem lamO_ne {f : Addr} {F : LF} (ps : Array Value) : LamO f F ≠ .tbl ps := fun z => by
  unfold LamO at z
  cases z
theorem lamO_at {P : Program} {w : World} {H : Hp} {h : Heap} {f : Addr} {F : LF} (hok : HOk P w H h) (e : H f = some (LamO f F)) : ∃ (od : Option Addr) (sl : Array (Option Value)) (pm ctv : Value), h.get? f = some (⟨.type "function", od, .func (F.fd pm ctv), sl⟩ : Obj) := by
  obtain ⟨z, _, _⟩ := hok f _ e
  exact z
section
variable {X : Cx} {pins : List (Addr × Obj)} {σ : L2.St} {H : Hp} {s : Shared}
theorem inv_lam {F : LF} {t' : Nat} {pm ctv : Value} (I : Inv X pins σ H s) :
    Inv X pins σ (upd H s.heap.objs.size (LamO s.heap.objs.size F)) { s with heap := s.heap.push { cls := .type "function", data := .func (F.fd pm ctv) }, toks := t' } := by
  refine I.laid (a := s.heap.objs.size) (fun b u e => Heap.get?_push_of_some _ e) (Nat.le_refl _) ?_
  have e : (s.heap.push ({ cls := .type "function", data := .func (F.fd pm ctv) } : Obj)).get? s.heap.objs.size = some ({ cls := .type "function", data := .func (F.fd pm ctv) } : Obj) := Heap.get?_push_size _ rfl
  exact ⟨⟨_, _, pm, ctv, e⟩, ⟨_, e⟩, fun h1 h2 ⟨od, sl, p, t, z⟩ st => ⟨od, sl, p, t, st _ z⟩⟩
end
/-- the reading of a lambda: a new function object is known; tables grow -/
def tLamV (T : List NTab) (mk : Addr → LF) : TE := fun _ H Q => TabsN T H ∧ ∀ (f c' : Addr) (H1 : Hp), ExtN H H1 → (∀ b, H1 b = Option.none → H b = Option.none) → TabsN T H1 → H f = none → H1 f = some (LamO f (mk c')) → H1 c' = some (CodeO c' (mk c').qual) → Q (.ref f) H1
theorem pe_lam {X : Cx} {T : List NTab} {nm : Nat → Nat → Str} {c P : Addr} {params : Arguments} {body : Expr} {scope : Scope} {pos : Pos} (TB : TabB X.base X.mg c P) (hcode : X.env.code = .ref c) (hm : (P, nm) ∈ T) (hn : nm pos.line pos.col = X.env.qual ++ "<lambda>") (hu : ∀ p ∈ T, p.1 = P → p.2 = nm)
    (hdef : defaultsOf params X.env = ([], [])) (hfree : ∀ y ∈ scope.names, y.2 = .free → X.env.scope.names.lookup y.1 = some .cell ∨ X.env.scope.names.lookup y.1 = some .free) :
    PE X (.Lambda params body scope pos) (tLamV T fun c' => ⟨X.env.qual ++ "<lambda>", params, body, scope, cloFrom X.env.cells scope.names [], c'⟩) := by
  refine ⟨fun pins s σ H Q I h => ?_⟩
  obtain ⟨hT, h⟩ := h
  have hfr : ∀ y ∈ scope.names, y.2 = .free → ∃ c, X.env.cells.lookup y.1 = some c := fun y hy e => (hfree y hy e).elim (fun z => I.ok.has _ (.inl z)) fun z => I.ok.has _ (.inr z)
  obtain ⟨ps, hP, ht, ha⟩ := (show TabN H P nm from hT _ hm)
  have bP : s.heap.BuiltinsAt X.mg P := TB.bm.keeps I.bk
  have hP' : s.heap.get? P = some { cls := .none, data := .fields ps } := I.hok P _ hP
  refine PySem.W.kla_eval hdef ?_
  have fin : ∀ (f c' : Addr) (H1 : Hp) (s' : Shared), Inv X pins σ H1 s' → ExtN H H1 → (∀ b, H1 b = Option.none → H b = Option.none) → TabsN T H1 → H f = none → H1 f = some (LamO f ⟨X.env.qual ++ "<lambda>", params, body, scope, cloFrom X.env.cells scope.names [], c'⟩) → H1 c' = some (CodeO c' (X.env.qual ++ "<lambda>")) → EP X pins σ Q (.ref f) s' :=
    fun f c' H1 s' I1 e1 e2 e3 e4 e5 e6 => ⟨.ref f, H1, I1, rfl, h f c' H1 e1 e2 e3 e4 e5 e6⟩
  cases hc : codeAmong pos ps.toList with
  | none =>
    refine PySem.W.kla_makeFunction (mg := X.mg) (c := c) (P := P) (ps := ps) (closure_ok hfr) I.ok.glob (I.mod.glob.keeps I.bk) hcode (TB.code.keeps I.bk) hP' ht hc TB.gP bP fun c' ctv h' tk hx hge hlt hrec htb => ?_
    obtain ⟨c2, oc, vs, t, e2, hoc, hd, hv⟩ := hrec
    cases e2
    have nC : H c' = none := I.hok.fresh hge
    have I1 := inv_table (t' := tk) (more := #[rawInt pos.line, rawInt pos.col, .ref c']) (h' := h') I hP (fun b o hb e => hx b o hb e) htb hge ⟨oc, vs, t, hoc, hd, hv⟩
    have hE : ExtN H (upd (upd H P (.tbl (ps ++ #[rawInt pos.line, rawInt pos.col, .ref c']))) c' (CodeO c' (X.env.qual ++ "<lambda>"))) := fun b o e n => by
      rw [upd_ne (ne_of_none e nC), upd_ne (fun z => n ps (Option.some.inj (e.symm.trans (by rw [z]; exact hP))))]
      exact e
    have eL : (ps ++ #[rawInt pos.line, rawInt pos.col, .ref c']).toList = ps.toList ++ [rawInt pos.line, rawInt pos.col, .ref c'] := by simp
    have T1 : TabsN T (upd (upd H P (.tbl (ps ++ #[rawInt pos.line, rawInt pos.col, .ref c']))) c' (CodeO c' (X.env.qual ++ "<lambda>"))) := fun p hp => by
      by_cases hb : p.1 = P
      · rw [hu p hp hb, hb]
        refine ⟨_, by rw [upd_ne (ne_of_none hP nC), upd_same], by rw [eL]; exact PySem.TriplesOk_snoc _ _ _ _ ht, fun p' cv hcv => ?_⟩
        rw [eL] at hcv
        rcases among_app2 _ ht hcv with z | ⟨z, z1, z2⟩
        · obtain ⟨c0, e1, e2⟩ := ha p' cv z
          exact ⟨c0, e1, hE _ _ e2 codeO_ne⟩
        · refine ⟨c', z, ?_⟩
          rw [← z1, ← z2, hn]
          exact upd_same
      · obtain ⟨ps', a1, a2, a3⟩ := hT p hp
        refine ⟨ps', by rw [upd_ne (ne_of_none a1 nC), upd_ne hb]; exact a1, a2, fun p' cv hcv => ?_⟩
        obtain ⟨c0, e1, e2⟩ := a3 p' cv hcv
        exact ⟨c0, e1, hE _ _ e2 codeO_ne⟩
    have nF := I1.hok.fresh (Nat.le_refl _)
    have I2 := inv_lam (F := ⟨X.env.qual ++ "<lambda>", params, body, scope, cloFrom X.env.cells scope.names [], c'⟩) (t' := tk) (pm := (X.mg "__name__").getD .none) (ctv := ctv) I1
    refine fin h'.objs.size c' _ _ I2 (fun b o e n => ?_) (fun b e => upd_none (upd_none (upd_none e))) (T1.ext fun b o e => ?_) (I.hok.fresh (Nat.le_trans hge (Nat.le_of_lt hlt))) upd_same ?_
    · have e1 := hE b o e n
      exact (upd_ne (ne_of_none e1 nF)).trans e1
    · exact (upd_ne (ne_of_none e nF)).trans e
    · exact (upd_ne (Nat.ne_of_lt hlt)).trans upd_same
  | some cv =>
    obtain ⟨c', e, hco⟩ := ha pos cv hc
    subst e
    rw [hn] at hco
    refine PySem.W.kla_makeFunctionHit (mg := X.mg) (c := c) (P := P) (ps := ps) (closure_ok hfr) I.ok.glob (I.mod.glob.keeps I.bk) hcode (TB.code.keeps I.bk) hP' ht hc bP fun ctv h' tk hx hsz => ?_
    have I1 : Inv X pins σ H { s with heap := h', toks := tk } := I.kept hx
    have nF : H h'.objs.size = none := I1.hok.fresh (Nat.le_refl _)
    have I2 := inv_lam (F := ⟨X.env.qual ++ "<lambda>", params, body, scope, cloFrom X.env.cells scope.names [], c'⟩) (t' := tk) (pm := (X.mg "__name__").getD .none) (ctv := ctv) I1
    refine fin h'.objs.size c' _ _ I2 (fun b o e n => ?_) (fun b e => upd_none e) (hT.ext fun b o e => ?_) nF upd_same ?_
    · exact (upd_ne (ne_of_none e nF)).trans e
    · exact (upd_ne (ne_of_none e nF)).trans e
    · exact (upd_ne (ne_of_none hco nF)).trans hco
end Hx
namespace Hx
open PySem PySem.Spec PyProof.Rows L2 LamX NdefX
/-! ### a lambda called -/
abbrev LF.nf (F : LF) : NF := ⟨"<lambda>", F.qual, F.params, [], F.scope, F.cl, F.c⟩
/-- the promise of the lambda F at f: sp ws, ws what its captured cells hold at the call -/
structure LOk (P : Program) (w : World) (K : PySem.W.Frag) (mg : Str → Option Value) (base : Heap) (CX : CXT) (k : Nat) (f : Addr) (F : LF) (ps fr : List Str) (sp : List (Option V) → Sp) : Prop where
  len : ∀ ws vs H Q E, sp ws vs H Q E → vs.length = ps.length
  run : ∀ (A : Around) (outer : List Env) (s : Shared) (H : Hp) (us : List Value) (vs : List V) (ws : List (Option V)) (Q : VK) (E : XK), Room k A → Env0 P w K mg base A outer s H → H f = some (LamO f F) → H F.c = some (CodeO F.c F.qual) →
    CellsAt F.cl fr ws s.heap H → Vals vs us → sp ws vs H Q E → codeAny (model P w) A (.call (.ref f) ⟨us, []⟩) (CR CX outer P w H s Q E) s
section
variable {CX : CXT} {P : Program} {w : World} {K : PySem.W.Frag} {mg : Str → Option Value} {base : Heap} {N ps fr : List Str} {F : LF} {f : Addr} {k j : Nat} {sp sp' : List (Option V) → Sp}
theorem lok_of (S : NScope N ps fr F.scope) (hb : ∀ (pm ctv : Value) (us : List Value), us.length = ps.length → bindArgs (F.fd pm ctv) ⟨us, []⟩ = pure (ps.zip us)) (len : ∀ ws vs H Q E, sp ws vs H Q E → vs.length = ps.length)
    (hbody : ∀ (A : Around) (outer : List Env) (s : Shared) (H : Hp) (vs : List V) (ws : List (Option V)) (Q : VK) (E : XK), Room k (A.deeper (envF F.nf f s.heap.objs.size)) → ws.length = fr.length → sp ws vs H Q E →
      ∃ t, PE (ncx CX P w K mg base N F.nf f A outer s H E) F.body t ∧ t (startF N vs ws) H Q) :
    LOk P w K mg base CX (k + 1) f F ps fr sp := by
  refine ⟨len, fun A outer s H us vs ws Q E hr e0 hf hc C r hsp => ?_⟩
  have hl := len _ _ _ _ _ hsp
  have lim : s.heap.NoLimit := e0.mod.nolimit.keeps fun b o e => (e0.bs b o e).1
  obtain ⟨od, sl, pm, ctv, ho⟩ := lamO_at e0.hok hf
  refine PySem.W.kla_callFunE hr.depth ho rfl S.co S.gen rfl (codeO_at e0.hok hc) ?_
  rw [hb pm ctv us (by rw [← r.length]; exact hl)]
  refine wpAny_pure (wpAny_newFunctionEnv S.nocell (fun ⟨n, _⟩ hy => S.par n (List.of_mem_zip hy).1) (fun h₁ hns hsb => ⟨lim.fresh _ hsb, ?_⟩) S.kind)
  show codeAny _ _ (.expr F.body (envF F.nf f s.heap.objs.size)) _ _
  have kp : ∀ b o, s.heap.get? b = some o → h₁.get? b = some o := fun b o e => hsb.extBut b o (Nat.ne_of_lt (Heap.lt_size e)) (Heap.get?_push_of_some _ e)
  obtain ⟨t, ht, hq⟩ := hbody A outer s H vs ws Q E (hr.deeper _) C.len hsp
  have I : Inv (ncx CX P w K mg base N F.nf f A outer s H E) [] (startF N vs ws) H { s with heap := h₁, toks := s.toks + (ps.zip us).length } := inv_startN S hr.hd e0 hl r C hns kp
  refine PySem.W.kla_codeExpr (wpAny_mono (ht.run [] _ (startF N vs ws) H _ I hq) (fun v s' hs => ?_) fun e s' hs => hs)
  obtain ⟨v', H', J, rv, q⟩ := hs
  exact ⟨v', H', J.os, J.bare, J.base, J.hok, rv, q⟩
end
/-! ### what can be asked with one thing: a call of it raises -/
/-- a call of what stands at f, with v, raises C; whatever else is tracked by then -/
structure AskR (P : Program) (w : World) (K : PySem.W.Frag) (mg : Str → Option Value) (base : Heap) (k : Nat) (H : Hp) (f : Addr) (v : V) (C : Addr) : Prop where
  at_ : ∀ (H1 : Hp) (h : Heap), ExtN H H1 → HOk P w H1 h → K.In h → PySem.W.FnAt f h
  run : ∀ (A : Around) (outer : List Env) (s : Shared) (H1 : Hp) (u : Value), Room k A → Env0 P w K mg base A outer s H1 → ExtN H H1 → RelV v u →
    codeAny (model P w) A (.call (.ref f) ⟨[u], []⟩) (CR (L2N.CX P w) outer P w H1 s (fun _ _ => False) (fun cls d H2 => cls = .ref C ∧ d = none ∧ Same H1 H2)) s
section
variable {P : Program} {w : World} {K : PySem.W.Frag} {mg : Str → Option Value} {base : Heap} {k : Nat} {H : Hp} {f C : Addr} {v : V}
theorem AskR.ext {H' : Hp} (a : AskR P w K mg base k H f v C) (e : ExtN H H') : AskR P w K mg base k H' f v C :=
  ⟨fun H1 h e1 => a.at_ H1 h (e.trans e1), fun A outer s H1 u hr e0 e1 => a.run A outer s H1 u hr e0 (e.trans e1)⟩
theorem AskR.mono {j : Nat} (a : AskR P w K mg base j H f v C) (h : j ≤ k) : AskR P w K mg base k H f v C :=
  ⟨a.at_, fun A outer s H1 u hr => a.run A outer s H1 u (hr.mono h)⟩
/-- by a lambda that captures nothing -/
theorem ask_lam {F : LF} {x : Str} {sp : Sp} (o : LOk P w K mg base (L2N.CX P w) k f F [x] [] (fun _ => sp)) (hcl : F.cl = []) (hf : H f = some (LamO f F)) (hc : H F.c = some (CodeO F.c F.qual))
    (h : ∀ H1, ExtN H H1 → sp [v] H1 (fun _ _ => False) (fun cls d H2 => cls = .ref C ∧ d = none ∧ Same H1 H2)) : AskR P w K mg base k H f v C := by
  refine ⟨fun H1 hp e1 hok _ => ?_, fun A outer s H1 u hr e0 e1 ru => ?_⟩
  · obtain ⟨od, sl, pm, ctv, ho⟩ := lamO_at hok (e1 _ _ hf lamO_ne)
    exact ⟨_, od, _, sl, ho⟩
  · refine o.run A outer s H1 [u] [v] [] _ _ hr e0 (e1 _ _ hf lamO_ne) (e1 _ _ hc codeO_ne) ⟨rfl, fun y c e => ?_, fun x y c e => ?_, fun i y e => ?_⟩ (.cons ru .nil) (h H1 e1)
    · rw [hcl] at e; cases e
    · rw [hcl] at e; cases e
    · cases e
/-- by a def of the module -/
theorem ask_def {fd : FuncData} {x : Str} {sp : Sp} {oc : Value} {od : Option Addr} {osl : Array (Option Value)} (o : FnOk P w K mg base (L2N.CX P w) k f fd [x] sp) (lk : K.lookup f = some ⟨oc, od, .func fd, osl⟩) (hb : L2.Binds K fd [x] [])
    (h : ∀ H1, ExtN H H1 → sp [v] H1 (fun _ _ => False) (fun cls d H2 => cls = .ref C ∧ d = none ∧ Same H1 H2)) : AskR P w K mg base k H f v C := by
  refine ⟨fun H1 hp e1 hok KX => ⟨_, _, _, _, KX _ _ lk⟩, fun A outer s H1 u hr e0 e1 ru => ?_⟩
  have KX : K.In s.heap := e0.mod.kin.keeps fun b o e => (e0.bs b o e).1
  exact o.run A outer s H1 ⟨[u], []⟩ [u] [v] _ _ hr e0 (hb s [u] KX rfl) (.cons ru .nil) (h H1 e1)
end
end Hx
namespace Hx
open PySem PySem.Spec PyProof.Rows L2 LamX NdefX
/-! ### ask(thing), ask a local name: it raises -/
def tAsk (P : Program) (w : World) (K : PySem.W.Frag) (mg : Str → Option Value) (base : Heap) (k i : Nat) (W : WX) (t : TA) : TE := fun σ H _ => ∃ f v C, σ[i]? = some (some (.ref f)) ∧ AskR P w K mg base k H f v C ∧
  t σ H fun vs H1 => vs = [v] ∧ ExtN H H1 ∧ ∀ H2, Same H1 H2 → W (.ref C) none σ H2
theorem pe_ask {X : Cx} {W : WX} {k i : Nat} {x : Str} {e : Expr} {t : TA} {p pos : Pos} (tk : L2N.Takes X W) (hr : Room k X.A) (hN : X.N[i]? = some x) (hv : Vis X.env.scope x) (ha : PA X [e] t)
    (hd : (x == ("__debug__" : Str)) = false := by decide) (hcd : (x == ("__classdict__" : Str)) = false := by decide)
    (he : starEach [e] X.env = (false, eval e X.env) :: starEach [] X.env := by rfl) (hpl : (backTo pos (starEach [] X.env)).any (·.1) = false := by rfl) :
    PE X (.Call (.Name x p) [e] [] pos) (tAsk X.prog X.w X.K X.mg X.base k i W t) := by
  refine ⟨fun pins s σ H Q I h => ?_⟩
  obtain ⟨f, v, C, hs, ask, ht⟩ := h
  refine wpAny_Call_Name_kw (thn ((pe_var (pos := p) hN hv hd hcd).run pins s σ H (fun v H1 => v = .ref f ∧ H1 = H) I ⟨.ref f, hs, rfl, rfl⟩) fun u s1 ⟨v1, H1, I1, r1, q1⟩ => ?_)
  obtain ⟨ev, eH⟩ := q1
  subst ev
  rw [eH] at I1
  obtain rfl : u = Value.ref f := r1
  refine PySem.W.callWith_F (first := []) (ask.at_ H _ (ExtN.refl H) I1.hok I1.kIn) (thn (ha.run pos pins s1 σ H _ I1 ht) fun us s2 ⟨vs, H2, I2, r, e1, e2, hW⟩ => ⟨ask.at_ H2 _ e2 I2.hok I2.kIn, ?_⟩) he hpl
  subst e1
  obtain ⟨u, rfl, ru⟩ : ∃ u, us = [u] ∧ RelV v u := by
    cases r with
    | cons ru rr =>
      cases rr
      exact ⟨_, rfl, ru⟩
  · show wpAny _ _ (call (.ref f) [u]) _ _ _
    refine wpAny_call (codeAny_mono (ask.run X.A X.stack s2 H2 u hr I2.env0 e2 ru) fun r s' hq => ?_)
    cases r with
    | error e =>
      refine tk e s' (L2N.XE.of_call I2 (fun cls d H' hE => ?_) hq)
      obtain ⟨rfl, rfl, sm⟩ := hE
      exact hW H' sm
    | ok fl =>
      cases fl with
      | ret u =>
        obtain ⟨_, _, _, _, _, _, _, z⟩ := hq
        exact z.elim
      | next => exact False.elim hq
      | brk => exact False.elim hq
      | cont => exact False.elim hq
/-- what is never reached -/
theorem ps_nev {X : Cx} {st : Stmt} : PS X st (fun _ _ _ => False) := ⟨fun _ _ _ _ _ _ h => h.elim⟩
theorem pss_nev {X : Cx} {ss : List Stmt} : PSs X ss (fun _ _ _ => False) := ⟨fun _ _ _ _ _ _ h => h.elim⟩
theorem pe_nev {X : Cx} {e : Expr} : PE X e (fun _ _ _ => False) := ⟨fun _ _ _ _ _ _ h => h.elim⟩
end Hx
namespace Hx
open PySem PySem.Spec PyProof.Rows L2 L2H LamX NdefX
section
variable {P : Program} {w : World} {K : PySem.W.Frag} {mg : Str → Option Value} {base : Heap}
/-- as Fun.ok, for a def called in an except suite, told the handled exception -/
theorem okHp {x qual : Str} {st : Stmt} {f : Addr} {fd : FuncData} {N ps : List Str} {k : Nat} {p : Addr × Obj} {sp : Sp} (F : L2.Fun K x qual st f fd) (S : FnScope N ps (defScope st)) (len : ∀ vs H Q E, sp vs H Q E → vs.length = ps.length)
    (hbody : ∀ (cdv : Value) (A : Around) (outer : List Env) (s : Shared) (H : Hp) (vs : List V) (Q : VK) (E : XK), Hot1 A p → RoomH k (A.deeper (envOfC qual (defScope st) s.heap.objs.size f cdv)) → sp vs H Q E →
      ∃ t, PSs (cxH CX0 P w K mg base N qual (defScope st) f cdv A outer s H E p) (defBody st) t ∧ t { nx := fun _ H' => Q .non H', rt := Q } (start N vs) H) : FnHp P w K mg base CX0 (k + 1) f fd ps p sp := by
  obtain ⟨oc, od, kV, doc, pm, an, cdv, ct, osl, rfl, lk, hcd⟩ := F.ex
  exact fn_ofHp lk hcd S len fun A outer s H vs Q E hot hr hsp => hbody cdv A outer s H vs Q E hot hr hsp
/-- as Fun.okX, the exceptions' contexts are None -/
theorem okN {x qual : Str} {st : Stmt} {f : Addr} {fd : FuncData} {N ps : List Str} {k : Nat} {sp : Sp} (F : L2.Fun K x qual st f fd) (S : FnScope N ps (defScope st)) (len : ∀ vs H Q E, sp vs H Q E → vs.length = ps.length)
    (hbody : ∀ (cdv : Value) (A : Around) (outer : List Env) (s : Shared) (H : Hp) (vs : List V) (Q : VK) (E : XK), Room k (A.deeper (envOfC qual (defScope st) s.heap.objs.size f cdv)) → sp vs H Q E →
      ∃ t, PSs (cxOf (L2N.CX P w) P w K mg base N qual (defScope st) f cdv A outer s H E) (defBody st) t ∧ t { nx := fun _ H' => Q .non H', rt := Q } (start N vs) H) : FnOk P w K mg base (L2N.CX P w) (k + 1) f fd ps sp := by
  obtain ⟨oc, od, kV, doc, pm, an, cdv, ct, osl, rfl, lk, hcd⟩ := F.ex
  exact fn_of lk hcd S len fun A outer s H vs Q E hr hsp => hbody cdv A outer s H vs Q E hr hsp
/-- as Fun.ok, the code object known -/
theorem okC {x qual : Str} {st : Stmt} {f : Addr} {fd : FuncData} {N ps : List Str} {k : Nat} {sp : Sp} {cd : Value} (F : L2.Fun K x qual st f fd) (hcode : fd.code = cd) (S : FnScope N ps (defScope st)) (len : ∀ vs H Q E, sp vs H Q E → vs.length = ps.length)
    (hbody : ∀ (A : Around) (outer : List Env) (s : Shared) (H : Hp) (vs : List V) (Q : VK) (E : XK), Room k (A.deeper (envOfC qual (defScope st) s.heap.objs.size f cd)) → sp vs H Q E →
      ∃ t, PSs (cxOf CX0 P w K mg base N qual (defScope st) f cd A outer s H E).nox (defBody st) t ∧ t { nx := fun _ H' => Q .non H', rt := Q } (start N vs) H) : FnOk P w K mg base CX0 (k + 1) f fd ps sp := by
  obtain ⟨oc, od, kV, doc, pm, an, cdv, ct, osl, rfl, lk, hcd⟩ := F.ex
  have e : cdv = cd := hcode
  subst e
  refine fn_of lk hcd S len fun A outer s H vs Q E hr hsp => ?_
  obtain ⟨t, h, q⟩ := hbody A outer s H vs Q E hr hsp
  exact ⟨t, h.nox, q⟩
end
theorem kit_bt {K : PySem.W.Frag} {C : Addr} {n : String} {b : Bool} (h : PySem.W.kitCls K (.ref C) (.type n) = some b) : PySem.W.kitOne K (.ref C) (.type n) = some b := by
  unfold PySem.W.kitOne
  rw [if_neg (by intro z; cases eq_of_beq z)]
  exact h
end Hx
namespace Hx
open PySem PySem.Spec PyProof.Rows L2 LamX NdefX
/-! ### lambdas: what they may capture; a call that raises, by the body's reading; the end with tables -/
def lfB (sc esc : Scope) : Bool := sc.names.all fun y => !decide (y.2 = .free) || decide (esc.names.lookup y.1 = some .cell) || decide (esc.names.lookup y.1 = some .free)
theorem lf_of {sc esc : Scope} (h : lfB sc esc = true) : ∀ y ∈ sc.names, y.2 = .free → esc.names.lookup y.1 = some .cell ∨ esc.names.lookup y.1 = some .free := fun y hy e => by
  have z := List.all_eq_true.mp h y hy
  simp only [Bool.or_eq_true, Bool.not_eq_true', decide_eq_true_eq, decide_eq_false_iff_not] at z
  rcases z with (z | z) | z
  · exact absurd e z
  · exact .inl z
  · exact .inr z
section
variable {P : Program} {w : World} {K : PySem.W.Frag} {mg : Str → Option Value} {base : Heap} {k : Nat} {H : Hp} {f C : Addr} {v : V}
theorem ask_of {F : LF} {x : Str} (S : NScope [x] [x] [] F.scope) (hb : ∀ (pm ctv : Value) (us : List Value), us.length = 1 → bindArgs (F.fd pm ctv) ⟨us, []⟩ = pure ([x].zip us)) (hcl : F.cl = []) (hf : H f = some (LamO f F)) (hc : H F.c = some (CodeO F.c F.qual))
    (hbody : ∀ (A : Around) (outer : List Env) (s : Shared) (H1 : Hp), Room k (A.deeper (envF F.nf f s.heap.objs.size)) → ExtN H H1 →
      ∃ t, PE (ncx (L2N.CX P w) P w K mg base [x] F.nf f A outer s H1 (fun cls d H2 => cls = .ref C ∧ d = none ∧ Same H1 H2)) F.body t ∧ t [some v] H1 (fun _ _ => False)) : AskR P w K mg base (k + 1) H f v C := by
  let sp : Sp := fun vs H1 Q E => vs = [v] ∧ ExtN H H1 ∧ Q = (fun _ _ => False) ∧ E = (fun cls d H2 => cls = .ref C ∧ d = none ∧ Same H1 H2)
  have o : LOk P w K mg base (L2N.CX P w) (k + 1) f F [x] [] (fun _ => sp) := lok_of S hb (fun ws vs H Q E h => by rw [h.1]; rfl) fun A outer s H1 vs ws Q E hr hw h => by
    obtain ⟨e1, e2, e3, e4⟩ := h
    subst e1 e3 e4
    have e5 : ws = [] := List.eq_nil_of_length_eq_zero hw
    subst e5
    exact hbody A outer s H1 hr e2
  exact ask_lam o hcl hf hc fun H1 e => ⟨rfl, e, rfl, rfl⟩
end
/-- as LamX.walk_ofTs; the top is handed on -/
theorem walk_ofTT {l : PySem.W.OpenLaw} {n k : Nat} {q : Program} {loose : List Str} {XP : (Str → Option Value) → Heap → Prop} {YP : World → Heap → Prop} {d : DefRec} {K : Params → PySem.W.Frag} {CX : World → CXT} {x : Str}
    (hn : l.most = some n) (hn2 : n ≤ sizeLine) (hdf : d.params.defaults = []) (hr : Room k callerA) (hY : ∀ (w : World) (h : Heap), YP w h → (K w.params).In h)
    (F : ∀ (w : World) (mg mb : Str → Option Value) (mean : ExcName → Option Value) (ls : List Str) (fa : Addr) (h : Heap), Top q ls mean mg mb h → (K w.params).In h → h.Ns mainGlobals mg → mg d.name = some (.ref fa) → LawAtS l w (K w.params) (CX w) k n x mg fa h)
    (hCX : ∀ (w : World) (H : Hp) (s : Shared) (e : Value) (s' : Shared), CX w [] H s (fun _ _ _ => False) e s' → False) :
    PySem.W.WalkO q loose XP YP l.row.toRowW d [] (fun f vs => PySem.call f vs) := by
  refine Att.attach_callB hn hdf fun w s₀ s₁ mg mb fa o pm cd doc a vs ns G Y ho hd hcd hmg hobj hints hlen hbits hg => ?_
  have KX := hY w _ Y
  obtain ⟨fd, cs, sp, hT, nT, C, hb, hsp, hF⟩ := F w mg mb _ _ fa _ G.T KX G.T.g hmg
  exact law_callTs KX G.T.g G.T.b G.T.builtins G.T.nolimit hg hT nT C G.T.bmain hobj hints (Nat.le_trans hlen hn2) hr hF hb (fun H hH hS => hsp H a ns hlen hbits hH hS) fun H e s' => hCX w H s₁ e s'
/-- a def of the top: its code object, its table -/
theorem tab_at {q : Program} {ls : List Str} {mean : ExcName → Option Value} {mg mb : Str → Option Value} {h : Heap} {K : PySem.W.Frag} {x : Str} {c P : Addr} (T : Top q ls mean mg mb h) (X : K.In h) (hr : ((recsOf q).find? (fun e => e.name == x)).isSome = true) (ht : PySem.W.tabIn K x = some (c, P)) :
    PySem.W.CodeHd h c P ∧ h.get? P = some { cls := .none, data := .fields #[] } := by
  obtain ⟨d, e⟩ := Option.isSome_iff_exists.mp hr
  exact PySem.W.tab_of T X e ht
end Hx
namespace AD
/-! ### the loops as plain functions -/
def plenAux (p g : Nat) : Nat → Nat → Nat → Nat
  | 0, _, n => n
  | f + 1, x, n => match Nat.beq x 1 with
    | true => n
    | false => plenAux p g f (x * g % p) (n + 1)
/-- how many powers there are to 1 -/
def plen (p g : Nat) : Nat := plenAux p g (p - 1) (g % p) 1
def stripN (a : Nat) : Nat → Nat → Nat
  | 0, left => left
  | f + 1, left => match Nat.beq (left % a) 0 with
    | true => stripN a f (left / a)
    | false => left
def rootLoop (p g : Nat) : Nat → Nat → Nat → Bool
  | 0, _, _ => true
  | f + 1, left, a => match Nat.ble left 1 with
    | true => true
    | false => match Nat.beq (left % a) 0 with
      | true => match Nat.beq (g ^ ((p - 1) / a) % p) 1 with
        | true => false
        | false => rootLoop p g f (stripN a left left) (a + 1)
      | false => rootLoop p g f left (a + 1)
def rootB (p g : Nat) : Bool := rootLoop p g p (p - 1) 2
def primeLoop (n : Nat) : Nat → Nat → Bool
  | 0, _ => true
  | f + 1, a => match Nat.ble (a * a) n with
    | false => true
    | true => match Nat.beq (n % a) 0 with
      | true => false
      | false => primeLoop n f (a + 1)
def primeB (n : Nat) : Bool := primeLoop n n 2
def allTo (f : Nat → Bool) : Nat → Bool
  | 0 => true
  | n + 1 => match f n with
    | true => allTo f n
    | false => false
theorem allTo_at {f : Nat → Bool} : ∀ {n : Nat}, allTo f n = true → ∀ i, i < n → f i = true
  | 0, _, i, h => absurd h (Nat.not_lt_zero i)
  | n + 1, e, i, h => by
    unfold allTo at e
    cases q : f n with
    | false => rw [q] at e; cases e
    | true =>
      rw [q] at e
      by_cases z : i = n
      · rw [z]; exact q
      · exact allTo_at e i (by omega)
def ferB (p : Nat) : Bool := allTo (fun x => Nat.beq ((x + 1) ^ (p - 1) % p) 1) (p - 1)
def rtB (p : Nat) : Bool := allTo (fun x => rootB p (x + 1) == Nat.beq (plen p (x + 1)) (p - 1)) (p - 1)

/-- what is known of a prime -/
structure Good (p : Nat) : Prop where
  lo : 3 ≤ p
  hi : p ≤ 2000
  pr : primeB p = true
  fer : ferB p = true

theorem Good.fer1 {p x : Nat} (G : Good p) (h1 : 1 ≤ x) (h2 : x < p) : x ^ (p - 1) % p = 1 := by
  have h := allTo_at G.fer (x - 1) (by omega)
  have e : x - 1 + 1 = x := by omega
  rw [e] at h
  exact Nat.eq_of_beq_eq_true h
theorem rt_of {p g : Nat} (h : rtB p = true) (h1 : 1 ≤ g) (h2 : g < p) : rootB p g = decide (plen p g = p - 1) := by
  have h := allTo_at h (g - 1) (by omega)
  have e : g - 1 + 1 = g := by omega
  rw [e] at h
  rw [eq_of_beq h]
  by_cases z : plen p g = p - 1
  · rw [decide_eq_true z, z]; exact Nat.beq_refl _
  · rw [decide_eq_false z]
    cases q : Nat.beq (plen p g) (p - 1) with
    | false => rfl
    | true => exact absurd (Nat.eq_of_beq_eq_true q) z

/-! ### how many powers -/
theorem plenAux_spec (p g : Nat) : ∀ (f n : Nat), ∃ m, plenAux p g f (g ^ n % p) n = m ∧ n ≤ m ∧ m ≤ n + f ∧ (∀ k, n ≤ k → k < m → g ^ k % p ≠ 1) ∧ (m < n + f → g ^ m % p = 1)
  | 0, n => ⟨n, rfl, Nat.le_refl _, Nat.le_refl _, fun k h1 h2 => by omega, fun h => by omega⟩
  | f + 1, n => by
    unfold plenAux
    cases q : Nat.beq (g ^ n % p) 1 with
    | true => exact ⟨n, rfl, Nat.le_refl _, by omega, fun k h1 h2 => by omega, fun _ => Nat.eq_of_beq_eq_true q⟩
    | false =>
      have e : g ^ n % p * g % p = g ^ (n + 1) % p := by rw [Nat.pow_succ, Nat.mod_mul_mod]
      show ∃ m, plenAux p g f (g ^ n % p * g % p) (n + 1) = m ∧ _
      rw [e]
      obtain ⟨m, h0, h1, h2, h3, h4⟩ := plenAux_spec p g f (n + 1)
      refine ⟨m, h0, by omega, by omega, fun k k1 k2 => ?_, fun h => h4 (by omega)⟩
      by_cases z : k = n
      · subst z
        intro y
        rw [y] at q
        cases q
      · exact h3 k (by omega) k2
theorem plen_spec (p g : Nat) (hp : 1 ≤ p) : 1 ≤ plen p g ∧ plen p g ≤ p ∧ (∀ k, 1 ≤ k → k < plen p g → g ^ k % p ≠ 1) ∧ (plen p g < p → g ^ plen p g % p = 1) := by
  obtain ⟨m, h0, h1, h2, h3, h4⟩ := plenAux_spec p g (p - 1) 1
  rw [Nat.pow_one] at h0
  have e : plen p g = m := h0
  rw [e]
  exact ⟨h1, by omega, h3, fun h => h4 (by omega)⟩
theorem plen_unique {p g n : Nat} (hp : 1 ≤ p) (h1 : 1 ≤ n) (h2 : n ≤ p) (h3 : ∀ k, 1 ≤ k → k < n → g ^ k % p ≠ 1) (h4 : g ^ n % p = 1 ∨ n = p) : plen p g = n := by
  obtain ⟨a1, a2, a3, a4⟩ := plen_spec p g hp
  rcases Nat.lt_trichotomy (plen p g) n with h | h | h
  · exact absurd (a4 (by omega)) (h3 _ a1 h)
  · exact h
  · rcases h4 with z | z
    · exact absurd z (a3 n h1 h)
    · omega

/-! ### what is left by a prime -/
theorem Good.ferm {p x : Nat} (G : Good p) (h : x % p ≠ 0) : x ^ (p - 1) % p = 1 := by
  have lo := G.lo
  rw [Nat.pow_mod]
  exact G.fer1 (by omega) (Nat.mod_lt _ (by omega))
/-- the last but one power is what makes 1 of a number -/
theorem Good.inv {p x : Nat} (G : Good p) (h : x % p ≠ 0) : x ^ (p - 2) * x % p = 1 := by
  have lo := G.lo
  rw [← Nat.pow_succ, show (p - 2).succ = p - 1 by omega]
  exact G.ferm h
theorem mul_left_mod {p a b : Nat} (c : Nat) (h : a % p = b % p) : c * a % p = c * b % p := by
  rw [Nat.mul_mod, h, ← Nat.mul_mod]
theorem mul_right_mod {p a b : Nat} (c : Nat) (h : a % p = b % p) : a * c % p = b * c % p := by
  rw [Nat.mul_mod, h, ← Nat.mul_mod]
theorem Good.cancel {p x a b : Nat} (G : Good p) (h : x % p ≠ 0) (e : x * a % p = x * b % p) : a % p = b % p := by
  have lo := G.lo
  have k : ∀ c, x ^ (p - 2) * (x * c) % p = c % p := fun c => by
    rw [← Nat.mul_assoc, Nat.mul_mod, G.inv h, Nat.one_mul, Nat.mod_mod]
  have z := mul_left_mod (x ^ (p - 2)) e
  rw [k, k] at z
  exact z
theorem Good.mul_ne {p a b : Nat} (G : Good p) (ha : a % p ≠ 0) (hb : b % p ≠ 0) : a * b % p ≠ 0 := fun z => by
  have e : a * b % p = a * 0 % p := by rw [z, Nat.mul_zero, Nat.zero_mod]
  exact hb (by rw [G.cancel ha e, Nat.zero_mod])
theorem Good.pow_ne {p g : Nat} (G : Good p) (hg : g % p ≠ 0) : ∀ n, g ^ n % p ≠ 0
  | 0 => by
    have lo := G.lo
    rw [Nat.pow_zero, Nat.mod_eq_of_lt (by omega)]
    exact Nat.one_ne_zero
  | n + 1 => by
    rw [Nat.pow_succ]
    exact G.mul_ne (G.pow_ne hg n) hg
theorem Good.pow_pos {p g : Nat} (G : Good p) (hg : g % p ≠ 0) (n : Nat) : 1 ≤ g ^ n % p := Nat.pos_of_ne_zero (G.pow_ne hg n)

theorem Good.plen_le {p g : Nat} (G : Good p) (h1 : 1 ≤ g) (h2 : g < p) : plen p g ≤ p - 1 := by
  have lo := G.lo
  obtain ⟨a1, a2, a3, a4⟩ := plen_spec p g (by omega)
  rcases Nat.lt_or_ge (p - 1) (plen p g) with z | z
  · exact absurd (G.fer1 h1 h2) (a3 (p - 1) (by omega) z)
  · exact z
/-! ### a root -/
/-- a root of a prime -/
structure Root (p g : Nat) : Prop where
  good : Good p
  one : 1 ≤ g
  lt : g < p
  len : plen p g = p - 1
theorem Root.ne {p g : Nat} (R : Root p g) : g % p ≠ 0 := by
  have h := R.one
  rw [Nat.mod_eq_of_lt R.lt]
  omega
theorem Root.per {p g : Nat} (R : Root p g) (n : Nat) : g ^ (n % (p - 1)) % p = g ^ n % p := by
  have lo := R.good.lo
  conv => rhs; rw [← Nat.div_add_mod n (p - 1), Nat.pow_add, Nat.pow_mul, Nat.mul_mod, Nat.pow_mod, R.good.ferm R.ne, Nat.one_pow, ← Nat.mul_mod, Nat.one_mul]
theorem Root.inj0 {p g i d : Nat} (R : Root p g) (hd : 1 ≤ d) (hd2 : d < p - 1) : g ^ i % p ≠ g ^ (i + d) % p := fun e => by
  have lo := R.good.lo
  rw [Nat.pow_add] at e
  have e1 : g ^ i * 1 % p = g ^ i * g ^ d % p := by rw [Nat.mul_one]; exact e
  have e2 := R.good.cancel (R.good.pow_ne R.ne i) e1
  rw [Nat.mod_eq_of_lt (show 1 < p by omega)] at e2
  exact (plen_spec p g (by omega)).2.2.1 d hd (by rw [R.len]; omega) e2.symm
theorem Root.inj {p g i j : Nat} (R : Root p g) (hi : i < p - 1) (hj : j < p - 1) (e : g ^ i % p = g ^ j % p) : i = j := by
  rcases Nat.lt_trichotomy i j with h | h | h
  · exact absurd (by rw [show i + (j - i) = j by omega]; exact e) (R.inj0 (i := i) (d := j - i) (by omega) (by omega))
  · exact h
  · exact absurd (by rw [show j + (i - j) = i by omega]; exact e.symm) (R.inj0 (i := j) (d := i - j) (by omega) (by omega))
/-- equal powers: the numbers differ by a multiple of one less than the prime -/
theorem Root.injm {p g i j : Nat} (R : Root p g) (e : g ^ i % p = g ^ j % p) : i % (p - 1) = j % (p - 1) := by
  have lo := R.good.lo
  rw [← R.per i, ← R.per j] at e
  exact R.inj (Nat.mod_lt _ (by omega)) (Nat.mod_lt _ (by omega)) e

/-! ### as many places as things -/
theorem nodup_len : ∀ (n : Nat) (l : List Nat), l.Nodup → (∀ x ∈ l, x < n) → l.length ≤ n
  | 0, l, _, h => by
    cases l with
    | nil => exact Nat.le_refl _
    | cons x r => exact absurd (h x (List.mem_cons_self ..)) (Nat.not_lt_zero x)
  | n + 1, l, hn, h => by
    have h1 : (l.erase n).Nodup := hn.erase n
    have h2 := nodup_len n (l.erase n) h1 fun x hx => by
      have a := h x (List.mem_of_mem_erase hx)
      have b : x ≠ n := fun e => by
        subst e
        exact (List.Nodup.mem_erase_iff hn).mp hx |>.1 rfl
      omega
    have h3 := List.length_erase (a := n) (l := l)
    rw [h3] at h2
    split at h2 <;> omega
theorem nodup_full {n : Nat} {l : List Nat} (hn : l.Nodup) (h : ∀ x ∈ l, x < n) (hl : l.length = n) {x : Nat} (hx : x < n) : x ∈ l := by
  by_cases m : x ∈ l
  · exact m
  · have h1 : (x :: l).Nodup := List.nodup_cons.mpr ⟨m, hn⟩
    have h2 := nodup_len n (x :: l) h1 fun y hy => by
      rcases List.mem_cons.mp hy with e | e
      · rw [e]; exact hx
      · exact h y e
    rw [List.length_cons] at h2
    omega
theorem map_nodup {α β : Type} {f : α → β} : ∀ {l : List α}, l.Nodup → (∀ x ∈ l, ∀ y ∈ l, f x = f y → x = y) → (l.map f).Nodup
  | [], _, _ => List.nodup_nil
  | a :: r, h, hi => by
    obtain ⟨h1, h2⟩ := List.nodup_cons.mp h
    refine List.nodup_cons.mpr ⟨fun m => ?_, map_nodup h2 fun x hx y hy => hi x (List.mem_cons_of_mem _ hx) y (List.mem_cons_of_mem _ hy)⟩
    obtain ⟨b, hb, e⟩ := List.mem_map.mp m
    have z := hi b (List.mem_cons_of_mem _ hb) a (List.mem_cons_self ..) e
    rw [z] at hb
    exact h1 hb
/-- every number from 1 to below the prime is a power -/
theorem Root.onto {p g x : Nat} (R : Root p g) (h1 : 1 ≤ x) (h2 : x < p) : ∃ k, k < p - 1 ∧ g ^ k % p = x := by
  have lo := R.good.lo
  let l := (List.range (p - 1)).map fun k => g ^ k % p - 1
  have hn : l.Nodup := map_nodup List.nodup_range fun i hi j hj e => by
    have a := R.good.pow_pos R.ne i
    have b := R.good.pow_pos R.ne j
    exact R.inj (List.mem_range.mp hi) (List.mem_range.mp hj) (by omega)
  have hb : ∀ y ∈ l, y < p - 1 := fun y hy => by
    obtain ⟨k, hk, e⟩ := List.mem_map.mp hy
    have a := R.good.pow_pos R.ne k
    have b := Nat.mod_lt (g ^ k) (show p > 0 by omega)
    omega
  have hm := nodup_full hn hb (by rw [List.length_map, List.length_range]) (x := x - 1) (by omega)
  obtain ⟨k, hk, e⟩ := List.mem_map.mp hm
  have a := R.good.pow_pos R.ne k
  exact ⟨k, List.mem_range.mp hk, by omega⟩
end AD
namespace AD
/-! ### the law's primes -/
def PS0 : List Nat := [3, 5, 7, 11, 13, 17, 19, 23, 29, 31, 37, 41, 43, 47, 53, 59, 61]
def PG0 : List Nat := [97, 101, 257, 331, 499]
def lrAux (p : Nat) : Nat → Nat → Nat
  | 0, g => g
  | f + 1, g => match Nat.beq (plen p g) (p - 1) with
    | true => g
    | false => lrAux p f (g + 1)
/-- the least root -/
def lr (p : Nat) : Nat := lrAux p p 1
def goodB (p : Nat) : Bool := Nat.ble 3 p && (Nat.ble p 2000 && (primeB p && ferB p))
def lrB (p : Nat) : Bool := Nat.ble 1 (lr p) && (Nat.blt (lr p) p && (Nat.beq (plen p (lr p)) (p - 1) && allTo (fun x => !Nat.beq (plen p (x + 1)) (p - 1)) (lr p - 1)))
theorem good_of {p : Nat} (h : goodB p = true) : Good p := by
  unfold goodB at h
  simp only [Bool.and_eq_true] at h
  exact ⟨Nat.le_of_ble_eq_true h.1, Nat.le_of_ble_eq_true h.2.1, h.2.2.1, h.2.2.2⟩
theorem lr_of {p : Nat} (G : Good p) (h : lrB p = true) : Root p (lr p) ∧ ∀ g, 1 ≤ g → g < lr p → plen p g ≠ p - 1 := by
  unfold lrB at h
  simp only [Bool.and_eq_true] at h
  refine ⟨⟨G, Nat.le_of_ble_eq_true h.1, Nat.le_of_ble_eq_true h.2.1, Nat.eq_of_beq_eq_true h.2.2.1⟩, fun g g1 g2 z => ?_⟩
  have k := allTo_at h.2.2.2 (g - 1) (by omega)
  have e : g - 1 + 1 = g := by omega
  rw [e, z] at k
  rw [show Nat.beq (p - 1) (p - 1) = true from Nat.beq_refl _] at k
  cases k
theorem good_all : (PS0 ++ PG0).all (fun p => goodB p && lrB p) = true := by decide +kernel
theorem rt_all : (PS0 ++ PG0).all (fun p => rtB p) = true := by decide +kernel
theorem good71 : (goodB 71 && lrB 71) = true := by decide +kernel
theorem rt71 : rtB 71 = true := by decide +kernel
/-- what is known of a law's prime -/
structure Prm (p : Nat) : Prop where
  good : Good p
  rt : rtB p = true
  root : Root p (lr p)
  least : ∀ g, 1 ≤ g → g < lr p → plen p g ≠ p - 1
theorem prm_mk {p : Nat} (h1 : (goodB p && lrB p) = true) (h2 : rtB p = true) : Prm p := by
  rw [Bool.and_eq_true] at h1
  have G := good_of h1.1
  obtain ⟨a, b⟩ := lr_of G h1.2
  exact ⟨G, h2, a, b⟩
theorem prm_in {p : Nat} (h : p ∈ PS0 ++ PG0) : Prm p := prm_mk (List.all_eq_true.mp good_all p h) (List.all_eq_true.mp rt_all p h)
theorem prm71 : Prm 71 := prm_mk good71 rt71
theorem Prm.rootB {p g : Nat} (P : Prm p) (h1 : 1 ≤ g) (h2 : g < p) : rootB p g = decide (plen p g = p - 1) := rt_of P.rt h1 h2
theorem Root.rootB {p g : Nat} (R : Root p g) (P : Prm p) : AD.rootB p g = true := by
  rw [P.rootB R.one R.lt]
  exact decide_eq_true R.len
theorem Prm.lroot {p : Nat} (P : Prm p) : AD.rootB p (lr p) = true := P.root.rootB P
theorem Prm.lnot {p g : Nat} (P : Prm p) (h1 : 1 ≤ g) (h2 : g < lr p) : AD.rootB p g = false := by
  have h3 := P.root.lt
  rw [P.rootB h1 (by omega)]
  exact decide_eq_false (P.least g h1 h2)
end AD
namespace AD
/-! ### a plan's rows -/
/-- what is left of a beginning -/
def be (p : Nat) (b : Int) : Nat := (b % ((p : Int) - 1)).toNat
/-- one more than the row of a column -/
def rowA (p g : Nat) (b : Int) (c : Nat) : Nat := g ^ (be p b + c) % p
theorem be_cast {p : Nat} (hp : 3 ≤ p) (b : Int) : ((be p b : Nat) : Int) = b % ((p : Int) - 1) := by
  unfold be
  exact Int.toNat_of_nonneg (Int.emod_nonneg _ (by omega))
theorem be_lt {p : Nat} (hp : 3 ≤ p) (b : Int) : be p b < p - 1 := by
  have h := be_cast hp b
  have h2 := Int.emod_lt_of_pos b (show (0 : Int) < (p : Int) - 1 by omega)
  omega
theorem be_add {p : Nat} (hp : 3 ≤ p) (b : Int) (c : Nat) : be p (b + c) = (be p b + c) % (p - 1) := by
  have h := be_cast hp (b + c)
  have h2 := be_cast hp b
  have e : ((p - 1 : Nat) : Int) = (p : Int) - 1 := by omega
  have h3 : (((be p b + c) % (p - 1) : Nat) : Int) = (b + c) % ((p : Int) - 1) := by
    rw [Int.natCast_emod, e, Int.natCast_add, h2, Int.emod_add_emod]
  omega
theorem be_per {p : Nat} (b : Int) : be p (b + p - 1) = be p b := by
  unfold be
  rw [show b + (p : Int) - 1 = b + ((p : Int) - 1) by omega, Int.add_emod_right]
theorem Root.row_be {p g : Nat} (R : Root p g) (b : Int) (c : Nat) : g ^ be p (b + c) % p = rowA p g b c := by
  rw [be_add R.good.lo, R.per]
  rfl
theorem Root.row_pos {p g : Nat} (R : Root p g) (b : Int) (c : Nat) : 1 ≤ rowA p g b c := R.good.pow_pos R.ne _
theorem Root.row_lt {p g : Nat} (R : Root p g) (b : Int) (c : Nat) : rowA p g b c < p := Nat.mod_lt _ (by have := R.good.lo; omega)
theorem rowA_per {p g : Nat} (b : Int) (c : Nat) : rowA p g (b + p - 1) c = rowA p g b c := by
  unfold rowA
  rw [be_per]
theorem Root.row_next {p g : Nat} (R : Root p g) (b : Int) {c : Nat} (h : 1 ≤ c) : rowA p g (b + 1) (c - 1) = rowA p g b c := by
  rw [← R.row_be, ← R.row_be]
  rw [show b + 1 + ((c - 1 : Nat) : Int) = b + (c : Int) by omega]
theorem Root.row_inj {p g c d : Nat} {b : Int} (R : Root p g) (hc : c < p - 1) (hd : d < p - 1) (e : rowA p g b c = rowA p g b d) : c = d := by
  have h := R.injm e
  have lo := R.good.lo
  rcases Nat.lt_trichotomy c d with z | z | z
  · exact absurd (by rw [Nat.add_assoc, show c + (d - c) = d by omega]; exact e) (R.inj0 (i := be p b + c) (d := d - c) (by omega) (by omega))
  · exact z
  · exact absurd (by rw [Nat.add_assoc, show d + (c - d) = c by omega]; exact e.symm) (R.inj0 (i := be p b + d) (d := c - d) (by omega) (by omega))
/-- each row has its column -/
theorem Root.row_onto {p g x : Nat} (R : Root p g) (b : Int) (h1 : 1 ≤ x) (h2 : x < p) : ∃ c, c < p - 1 ∧ rowA p g b c = x := by
  obtain ⟨k, hk, e⟩ := R.onto h1 h2
  have lo := R.good.lo
  have hb := be_lt lo b
  refine ⟨(k + (p - 1) - be p b) % (p - 1), Nat.mod_lt _ (by omega), ?_⟩
  unfold rowA
  rw [← R.per (be p b + _), Nat.add_mod_mod, show be p b + (k + (p - 1) - be p b) = k + (p - 1) by omega, Nat.add_mod_right, R.per]
  exact e
/-- the rows, each once -/
def rowsN (p g : Nat) (b : Int) : List Nat := (List.range (p - 1)).map fun c => rowA p g b c - 1
def rowsI (p g : Nat) (b : Int) : List Int := (List.range (p - 1)).map fun c => ((rowA p g b c : Nat) : Int) - 1
theorem rowsI_len (p g : Nat) (b : Int) : (rowsI p g b).length = p - 1 := by unfold rowsI; rw [List.length_map, List.length_range]
theorem rowsI_at {p g c : Nat} {b : Int} (h : c < p - 1) : (rowsI p g b)[c]? = some (((rowA p g b c : Nat) : Int) - 1) := by
  unfold rowsI
  rw [List.getElem?_map, List.getElem?_range h]
  rfl
theorem Root.rows_nodup {p g : Nat} (R : Root p g) (b : Int) : (rowsN p g b).Nodup := map_nodup List.nodup_range fun i hi j hj e => by
  have a := R.row_pos b i
  have c := R.row_pos b j
  exact R.row_inj (b := b) (List.mem_range.mp hi) (List.mem_range.mp hj) (by omega)
/-- a list of n numbers below n, each once, is the first n in some order -/
theorem perm_range : ∀ (n : Nat) (l : List Nat), l.Nodup → (∀ x ∈ l, x < n) → l.length = n → l.Perm (List.range n)
  | n, l, h1, h2, h3 => by
    refine (List.perm_ext_iff_of_nodup h1 List.nodup_range).mpr fun x => ⟨fun h => List.mem_range.mpr (h2 x h), fun h => nodup_full h1 h2 h3 (List.mem_range.mp h)⟩
theorem Root.rows_perm {p g : Nat} (R : Root p g) (b : Int) : (rowsN p g b).Perm (List.range (p - 1)) := by
  refine perm_range _ _ (R.rows_nodup b) (fun x hx => ?_) (by unfold rowsN; rw [List.length_map, List.length_range])
  obtain ⟨c, hc, e⟩ := List.mem_map.mp hx
  have h1 := R.row_pos b c
  have h2 := R.row_lt b c
  omega
theorem Root.rowsI_eq {p g : Nat} (R : Root p g) (b : Int) : rowsI p g b = (rowsN p g b).map fun n : Nat => (n : Int) := by
  unfold rowsI rowsN
  rw [List.map_map]
  refine List.map_congr_left fun c _ => ?_
  have h := R.row_pos b c
  show ((rowA p g b c : Nat) : Int) - 1 = ((rowA p g b c - 1 : Nat) : Int)
  omega
/-- sorted numbers in one order only -/
theorem sorted_unique : ∀ {l m : List Int}, l.Perm m → l.Pairwise (· ≤ ·) → m.Pairwise (· ≤ ·) → l = m := fun h1 h2 h3 =>
  h1.eq_of_pairwise (fun a b _ _ hab hba => Int.le_antisymm hab hba) h2 h3
theorem range_sorted (n : Nat) : ((List.range n).map fun i : Nat => (i : Int)).Pairwise (· ≤ ·) := by
  rw [List.pairwise_map]
  refine List.Pairwise.imp (fun h => ?_) List.pairwise_lt_range
  omega
/-- a turn of the first n numbers, sorted -/
theorem sorted_range {l : List Int} {m : List Nat} {n : Nat} (h1 : l.Perm (m.map fun i : Nat => (i : Int))) (h2 : m.Perm (List.range n)) (h3 : l.Pairwise (· ≤ ·)) : l = (List.range n).map fun i : Nat => (i : Int) :=
  sorted_unique (h1.trans (h2.map _)) h3 (range_sorted n)
end AD
namespace AD
theorem root1999 : Root 1999 3 := ⟨good_of (by decide +kernel), by decide, by decide, by decide +kernel⟩
theorem rb1999 : rootB 1999 3 = true := by decide +kernel
theorem root_lr {p g : Nat} (P : Prm p) (h : lr p = g) : Root p g := by
  rw [← h]
  exact P.root
theorem root73 : Root 7 3 := root_lr (prm_in (by decide)) (by decide +kernel)
theorem root32 : Root 3 2 := root_lr (prm_in (by decide)) (by decide +kernel)
end AD
namespace AD
/-! ### arrows counted around -/
theorem modsub {p a b : Nat} : ((a : Int) - (b : Int)) % (p : Int) = 0 ↔ a % p = b % p := by
  rw [← Int.emod_eq_emod_iff_emod_sub_eq_zero]
  constructor
  · intro h
    have h2 : ((a % p : Nat) : Int) = ((b % p : Nat) : Int) := by rw [Int.natCast_emod, Int.natCast_emod, h]
    exact Int.ofNat_inj.mp h2
  · intro h
    rw [← Int.natCast_emod, ← Int.natCast_emod, h]
theorem add_cancel_mod {p a b : Nat} (x : Nat) : (a + x) % p = (b + x) % p ↔ a % p = b % p := by
  rw [← modsub, ← modsub]
  rw [show (((a + x : Nat) : Int) - ((b + x : Nat) : Int)) = (a : Int) - (b : Int) by omega]
/-- what is to be the power of the column that is told -/
def tgt (p g d u : Nat) : Nat := u * ((g ^ d % p - 1) ^ (p - 2) % p) % p
theorem Root.apart_ne {p g d : Nat} (R : Root p g) (h1 : 1 ≤ d) (h2 : d ≤ p - 2) : (g ^ d % p - 1) % p ≠ 0 := by
  have lo := R.good.lo
  have a := R.good.pow_pos R.ne d
  have b := Nat.mod_lt (g ^ d) (show p > 0 by omega)
  have c : g ^ d % p ≠ 1 := (plen_spec p g (by omega)).2.2.1 d h1 (by rw [R.len]; omega)
  rw [Nat.mod_eq_of_lt (by omega)]
  omega
theorem Root.tgt_lt {p g d u : Nat} (R : Root p g) : tgt p g d u < p := Nat.mod_lt _ (by have := R.good.lo; omega)
theorem Root.tgt_pos {p g d u : Nat} (R : Root p g) (h1 : 1 ≤ d) (h2 : d ≤ p - 2) (u1 : 1 ≤ u) (u2 : u < p) : 1 ≤ tgt p g d u := by
  have lo := R.good.lo
  have a := R.apart_ne h1 h2
  have b : u % p ≠ 0 := by rw [Nat.mod_eq_of_lt u2]; omega
  refine Nat.pos_of_ne_zero ?_
  unfold tgt
  rw [Nat.mul_mod_mod]
  exact R.good.mul_ne b (R.good.pow_ne a _)
theorem Root.row_add {p g : Nat} (b : Int) (c d : Nat) : rowA p g b (c + d) = rowA p g b c * (g ^ d % p) % p := by
  unfold rowA
  rw [← Nat.add_assoc, Nat.pow_add, Nat.mul_mod]
theorem Root.row_mod {p g : Nat} (R : Root p g) (b : Int) (c : Nat) : rowA p g b (c % (p - 1)) = rowA p g b c := by
  unfold rowA
  rw [← R.per, Nat.add_mod_mod, R.per]
/-- the dot so far across is so far up, just at the column that is told -/
theorem Root.hit {p g d u c : Nat} {b : Int} (R : Root p g) (h1 : 1 ≤ d) (h2 : d ≤ p - 2) :
    ((((rowA p g b ((c + d) % (p - 1)) : Nat) : Int) - 1) - (((rowA p g b c : Nat) : Int) - 1) - (u : Int)) % (p : Int) = 0 ↔ rowA p g b c = tgt p g d u := by
  have lo := R.good.lo
  have a := R.apart_ne h1 h2
  have x1 := R.row_pos b c
  have x2 := R.row_lt b c
  rw [R.row_mod, Root.row_add]
  have hA := R.good.pow_pos R.ne d
  have eA : g ^ d % p = (g ^ d % p - 1) + 1 := by omega
  generalize hap : g ^ d % p - 1 = ap at *
  generalize hx : rowA p g b c = x at *
  have e1 : (((x * (g ^ d % p) % p : Nat) : Int) - 1) - ((x : Int) - 1) - (u : Int) = ((x * (g ^ d % p) % p : Nat) : Int) - ((u + x : Nat) : Int) := by omega
  rw [e1, modsub, Nat.mod_mod, eA, Nat.mul_add, Nat.mul_one, add_cancel_mod]
  have hi := R.good.inv a
  have e2 : tgt p g d u = u * (ap ^ (p - 2)) % p := by
    unfold tgt
    rw [hap, Nat.mul_mod_mod]
  rw [e2]
  constructor
  · intro h
    have h3 := mul_right_mod (ap ^ (p - 2)) h
    rw [Nat.mul_assoc, Nat.mul_comm ap, Nat.mul_mod, hi, Nat.mul_one, Nat.mod_mod, Nat.mod_eq_of_lt x2] at h3
    exact h3
  · intro h
    rw [h, Nat.mod_mul_mod, Nat.mul_assoc, Nat.mul_mod, hi, Nat.mul_one, Nat.mod_mod]
/-- the told column -/
theorem Root.hit_col {p g d u c c0 : Nat} {b : Int} (R : Root p g) (h1 : 1 ≤ d) (h2 : d ≤ p - 2) (hc : c < p - 1) (h0 : c0 < p - 1) (e : rowA p g b c0 = tgt p g d u) :
    ((((rowA p g b ((c + d) % (p - 1)) : Nat) : Int) - 1) - (((rowA p g b c : Nat) : Int) - 1) - (u : Int)) % (p : Int) = 0 ↔ c = c0 := by
  rw [R.hit h1 h2, ← e]
  exact ⟨fun h => R.row_inj hc h0 h, fun h => by rw [h]⟩
end AD
namespace AD
/-! ### how many different ones -/
section
variable {α : Type} [DecidableEq α]
theorem sub_len : ∀ {B A : List α}, B.Nodup → (∀ x ∈ B, x ∈ A) → B.length ≤ A.length
  | [], _, _, _ => Nat.zero_le _
  | b :: r, A, h, hs => by
    obtain ⟨h1, h2⟩ := List.nodup_cons.mp h
    have hb := hs b (List.mem_cons_self ..)
    have ih := sub_len (A := A.erase b) h2 fun x hx => by
      have ne : x ≠ b := fun e => h1 (e ▸ hx)
      exact (List.mem_erase_of_ne ne).mpr (hs x (List.mem_cons_of_mem _ hx))
    have hl := List.length_erase_of_mem hb
    have hp := List.length_pos_of_mem hb
    rw [List.length_cons]
    omega
theorem twice : ∀ {A : List α}, ¬ A.Nodup → ∃ a ∈ A, a ∈ A.erase a
  | [], h => absurd List.nodup_nil h
  | a :: r, h => by
    by_cases m : a ∈ r
    · exact ⟨a, List.mem_cons_self .., by rw [List.erase_cons_head]; exact m⟩
    · have h2 : ¬ r.Nodup := fun z => h (List.nodup_cons.mpr ⟨m, z⟩)
      obtain ⟨b, hb, hb2⟩ := twice h2
      refine ⟨b, List.mem_cons_of_mem _ hb, ?_⟩
      have ne : a ≠ b := fun e => m (e ▸ hb)
      rw [List.erase_cons_tail (by simpa using ne)]
      exact List.mem_cons_of_mem _ hb2
/-- B: those of A, each once -/
theorem once_len {A B : List α} (h1 : B.Nodup) (h2 : ∀ x ∈ B, x ∈ A) (h3 : ∀ x ∈ A, x ∈ B) : B.length ≤ A.length ∧ (B.length = A.length ↔ A.Nodup) := by
  have hle := sub_len h1 h2
  refine ⟨hle, fun e => ?_, fun h => Nat.le_antisymm hle (sub_len h h3)⟩
  by_cases z : A.Nodup
  · exact z
  · obtain ⟨a, ha, ha2⟩ := twice z
    have h4 := sub_len (A := A.erase a) h1 fun x hx => by
      by_cases y : x = a
      · rw [y]; exact ha2
      · exact (List.mem_erase_of_ne y).mpr (h2 x hx)
    have hl := List.length_erase_of_mem ha
    have hp := List.length_pos_of_mem ha
    omega
end
/-! ### arrows -/
/-- how far up the dot so far across is -/
def up (ns : List Int) (c d : Nat) : Int := ns.getD (c + d) 0 - ns.getD c 0
/-- no two arrows are alike -/
def Apt (ns : List Int) : Prop := ∀ d i j, 1 ≤ d → i < j → j + d < ns.length → up ns i d ≠ up ns j d
/-- all arrows, in turn -/
def arrowsTo (ns : List Int) (n one : Nat) : List (List Int) := (List.range' (one + 1) (n - (one + 1))).map fun other : Nat => [(other : Int) - (one : Int), ns.getD other 0 - ns.getD one 0]
def arrows (ns : List Int) : List (List Int) := (List.range ns.length).flatMap fun one => arrowsTo ns ns.length one
theorem nodup_flatMap {α β : Type} {f : α → List β} : ∀ {l : List α}, l.Nodup → (∀ a ∈ l, (f a).Nodup) → (∀ a ∈ l, ∀ b ∈ l, a ≠ b → ∀ x, x ∈ f a → x ∉ f b) → (l.flatMap f).Nodup
  | [], _, _, _ => List.nodup_nil
  | a :: r, h, h1, h2 => by
    obtain ⟨k1, k2⟩ := List.nodup_cons.mp h
    rw [List.flatMap_cons]
    refine List.nodup_append.mpr ⟨h1 a (List.mem_cons_self ..), nodup_flatMap k2 (fun b hb => h1 b (List.mem_cons_of_mem _ hb)) (fun b hb c hc => h2 b (List.mem_cons_of_mem _ hb) c (List.mem_cons_of_mem _ hc)), ?_⟩
    intro x hx y hy e
    subst e
    obtain ⟨b, hb, hxb⟩ := List.mem_flatMap.mp hy
    exact h2 a (List.mem_cons_self ..) b (List.mem_cons_of_mem _ hb) (fun e => k1 (e ▸ hb)) x hx hxb
theorem mem_arrowsTo {ns : List Int} {n one : Nat} {x : List Int} : x ∈ arrowsTo ns n one ↔ ∃ d, 1 ≤ d ∧ one + d < n ∧ x = [(d : Int), up ns one d] := by
  unfold arrowsTo
  rw [List.mem_map]
  constructor
  · rintro ⟨o, ho, rfl⟩
    rw [List.mem_range'_1] at ho
    refine ⟨o - one, by omega, by omega, ?_⟩
    unfold up
    rw [show one + (o - one) = o by omega, show ((o - one : Nat) : Int) = (o : Int) - (one : Int) by omega]
  · rintro ⟨d, h1, h2, rfl⟩
    refine ⟨one + d, List.mem_range'_1.mpr (by omega), ?_⟩
    unfold up
    rw [show ((one + d : Nat) : Int) - (one : Int) = (d : Int) by omega]
theorem arrows_apt (ns : List Int) : (arrows ns).Nodup ↔ Apt ns := by
  constructor
  · intro h d i j h1 h2 h3 e
    unfold arrows at h
    have hi : [(d : Int), up ns i d] ∈ arrowsTo ns ns.length i := mem_arrowsTo.mpr ⟨d, h1, by omega, rfl⟩
    have hj : [(d : Int), up ns i d] ∈ arrowsTo ns ns.length j := mem_arrowsTo.mpr ⟨d, h1, h3, by rw [e]⟩
    -- split the list at i and j
    have key : ∀ (l : List Nat) (f : Nat → List (List Int)) (i j : Nat) (x : List Int), (l.flatMap f).Nodup → l.Pairwise (· < ·) → i ∈ l → j ∈ l → i < j → x ∈ f i → x ∈ f j → False := by
      intro l
      induction l with
      | nil => intro f i j x _ _ hi; exact absurd hi (List.not_mem_nil)
      | cons a r ih =>
        intro f i j x hn hp hi hj hij xi xj
        rw [List.flatMap_cons] at hn
        obtain ⟨n1, n2, n3⟩ := List.nodup_append.mp hn
        obtain ⟨p1, p2⟩ := List.pairwise_cons.mp hp
        rcases List.mem_cons.mp hj with ej | ej
        · rcases List.mem_cons.mp hi with ei | ei
          · omega
          · have := p1 i ei
            omega
        · rcases List.mem_cons.mp hi with ei | ei
          · subst ei
            exact n3 x xi x (List.mem_flatMap.mpr ⟨j, ej, xj⟩) rfl
          · exact ih f i j x n2 p2 ei ej hij xi xj
    exact key _ _ i j _ h List.pairwise_lt_range (List.mem_range.mpr (by omega)) (List.mem_range.mpr (by omega)) h2 hi hj
  · intro h
    refine nodup_flatMap List.nodup_range (fun one _ => ?_) fun a ha b hb hab x xa xb => ?_
    · unfold arrowsTo
      refine map_nodup (List.nodup_range' 1) fun x _ y _ e => ?_
      have := (List.cons.inj e).1
      omega
    · obtain ⟨d, d1, d2, rfl⟩ := mem_arrowsTo.mp xa
      obtain ⟨d', _, d2', e⟩ := mem_arrowsTo.mp xb
      have e1 := (List.cons.inj e).1
      have e2 := (List.cons.inj (List.cons.inj e).2).1
      have e3 : d = d' := by omega
      subst e3
      rcases Nat.lt_or_ge a b with z | z
      · exact h d a b d1 z (by omega) e2
      · exact h d b a d1 (by omega) (by omega) e2.symm
end AD
namespace AD
theorem arrowsTo_len (ns : List Int) (n one : Nat) : (arrowsTo ns n one).length = n - (one + 1) := by
  unfold arrowsTo
  rw [List.length_map, List.length_range']
theorem arrowsTo_at {ns : List Int} {n one j : Nat} (h : j < n - (one + 1)) : (arrowsTo ns n one)[j]? = some [((one + 1 + j : Nat) : Int) - (one : Int), ns.getD (one + 1 + j) 0 - ns.getD one 0] := by
  unfold arrowsTo
  rw [List.getElem?_map, List.getElem?_range' h, Nat.one_mul]
  rfl
def tri (n : Nat) : Nat := ((List.range n).map fun one => n - (one + 1)).sum
theorem arrows_len (ns : List Int) : (arrows ns).length = tri ns.length := by
  unfold arrows tri
  rw [List.length_flatMap]
  congr 1
  exact List.map_congr_left fun one _ => arrowsTo_len ns _ one
theorem tri9 : ∀ n, n ≤ 9 → tri n < 64 := by decide +kernel
theorem tri60 : ∀ n, n ≤ 60 → tri n < 2000 := by decide +kernel
theorem flat_succ {β : Type} (f : Nat → List β) (i : Nat) : (List.range (i + 1)).flatMap f = (List.range i).flatMap f ++ f i := by
  rw [List.range_succ, List.flatMap_append, List.flatMap_singleton]
/-- a thing put in somewhere -/
theorem insert_perm {α : Type} (l : List α) (i : Nat) (x : α) : (l.take i ++ [x] ++ l.drop i).Perm (x :: l) := by
  have h : (l.take i ++ ([x] ++ l.drop i)).Perm ([x] ++ (l.take i ++ l.drop i)) := by
    rw [← List.append_assoc, ← List.append_assoc]
    exact List.Perm.append_right _ List.perm_append_comm
  rw [List.append_assoc]
  rw [List.take_append_drop] at h
  exact h
theorem range_snoc_perm {l : List Nat} {n i : Nat} (h : l.Perm (List.range n)) : (l.take i ++ [n] ++ l.drop i).Perm (List.range (n + 1)) := by
  refine (insert_perm l i n).trans ?_
  rw [List.range_succ]
  exact (List.Perm.cons n h).trans (List.perm_append_comm (l₁ := [n]))
end AD
namespace AD
/-! ### crossed: two roots whose powers come to 1 together -/
/-- the rows by two roots -/
structure Cross (p g h : Nat) (l : List Nat) : Prop where
  len : l.length = p - 2
  at1 : ∀ c r, l[c]? = some r → r < p - 2 ∧ (g ^ (c + 1) + h ^ (r + 1)) % p = 1
theorem mod_dvd {p x : Nat} (hp : 3 ≤ p) (h : x % p = 1) : (p : Int) ∣ (x : Int) - 1 := by
  refine ⟨((x / p : Nat) : Int), ?_⟩
  have e := Nat.div_add_mod x p
  rw [h] at e
  have e2 : (x : Int) = (p : Int) * ((x / p : Nat) : Int) + 1 := by exact_mod_cast e.symm
  omega
theorem dvd_mod {p x y : Nat} (h : (p : Int) ∣ (x : Int) - (y : Int)) : x % p = y % p := modsub.mp (Int.emod_eq_zero_of_dvd h)
theorem Good.dvd_mul {p : Nat} (G : Good p) {x y : Int} (h : (p : Int) ∣ x * y) : (p : Int) ∣ x ∨ (p : Int) ∣ y := by
  have h1 : p ∣ x.natAbs * y.natAbs := by
    have := Int.natAbs_dvd_natAbs.mpr h
    rw [Int.natAbs_mul] at this
    exact this
  by_cases a : x.natAbs % p = 0
  · exact .inl (Int.natAbs_dvd_natAbs.mp (Nat.dvd_of_mod_eq_zero a))
  · by_cases b : y.natAbs % p = 0
    · exact .inr (Int.natAbs_dvd_natAbs.mp (Nat.dvd_of_mod_eq_zero b))
    · exact absurd (Nat.mod_eq_zero_of_dvd h1) (G.mul_ne a b)
theorem Root.inj1 {p g i j : Nat} (R : Root p g) (hi : i < p - 2) (hj : j < p - 2) (e : (p : Int) ∣ ((g ^ (i + 1) : Nat) : Int) - ((g ^ (j + 1) : Nat) : Int)) : i = j := by
  have h := R.inj (i := i + 1) (j := j + 1) (by omega) (by omega) (dvd_mod e)
  omega
theorem sum_dvd {p x y : Nat} (hp : 3 ≤ p) (h : (x + y) % p = 1) : (p : Int) ∣ (x : Int) + (y : Int) - 1 := by
  have h2 := mod_dvd hp h
  rw [Int.natCast_add] at h2
  exact h2
theorem Cross.lt {p g h : Nat} {l : List Nat} (X : Cross p g h l) {c : Nat} {r : Nat} (e : l[c]? = some r) : c < p - 2 := by
  have h1 := (List.getElem?_eq_some_iff.mp e).1
  have := X.len
  omega
/-- there is but one -/
theorem Cross.unique {p g h : Nat} {l m : List Nat} (R : Root p h) (X : Cross p g h l) (Y : Cross p g h m) : l = m := by
  have lo := R.good.lo
  refine List.ext_getElem (by rw [X.len, Y.len]) fun c c1 c2 => ?_
  obtain ⟨a1, a2⟩ := X.at1 c _ (List.getElem?_eq_getElem c1)
  obtain ⟨b1, b2⟩ := Y.at1 c _ (List.getElem?_eq_getElem c2)
  obtain ⟨x, hx⟩ := sum_dvd lo a2
  obtain ⟨y, hy⟩ := sum_dvd lo b2
  exact R.inj1 a1 b1 ⟨x - y, by grind⟩
/-- with the roots exchanged rows and columns are -/
theorem Cross.back {p g h : Nat} {l m : List Nat} (Rg : Root p g) (X : Cross p g h l) (Y : Cross p h g m) {c r : Nat} (e : l[c]? = some r) : m[r]? = some c := by
  have lo := Rg.good.lo
  obtain ⟨a1, a2⟩ := X.at1 c _ e
  have hc := X.lt e
  have hr : r < m.length := by rw [Y.len]; exact a1
  rw [List.getElem?_eq_getElem hr]
  obtain ⟨b1, b2⟩ := Y.at1 r _ (List.getElem?_eq_getElem hr)
  obtain ⟨x, hx⟩ := sum_dvd lo a2
  obtain ⟨y, hy⟩ := sum_dvd lo b2
  exact congrArg some (Rg.inj1 b1 hc ⟨y - x, by grind⟩)
theorem Cross.inj {p g h : Nat} {l : List Nat} (R : Root p g) (X : Cross p g h l) {c d r : Nat} (e : l[c]? = some r) (f : l[d]? = some r) : c = d := by
  have lo := R.good.lo
  obtain ⟨x, hx⟩ := sum_dvd lo (X.at1 c _ e).2
  obtain ⟨y, hy⟩ := sum_dvd lo (X.at1 d _ f).2
  exact R.inj1 (X.lt e) (X.lt f) ⟨x - y, by grind⟩
theorem nodup_of_at {l : List Nat} (h : ∀ i j r : Nat, l[i]? = some r → l[j]? = some r → i = j) : l.Nodup := by
  refine List.pairwise_iff_getElem.mpr fun i j hi hj hij e => ?_
  have h1 := List.getElem?_eq_getElem hj
  have h2 := List.getElem?_eq_getElem hi
  rw [e] at h2
  have := h i j _ h2 h1
  omega
theorem Cross.perm {p g h : Nat} {l : List Nat} (R : Root p g) (X : Cross p g h l) : l.Perm (List.range (p - 2)) := by
  refine perm_range _ _ (nodup_of_at fun i j r => X.inj R) (fun x hx => ?_) X.len
  obtain ⟨c, hc⟩ := List.mem_iff_getElem?.mp hx
  exact (X.at1 c x hc).1
theorem getD_zof {l : List Nat} {c : Nat} (h : c < l.length) : (l.map fun n : Nat => (n : Int)).getD c 0 = (l[c] : Int) := by
  rw [List.getD_eq_getElem?_getD, List.getElem?_map, List.getElem?_eq_getElem h]
  rfl
theorem alg1 {p gd ga hA hB hU hF f x1 x2 : Int} (y1 : gd * ga + hA - 1 = p * x1) (y2 : ga + hB - 1 = p * x2) (e : hB * hU = hA * hF) (hf : hF - 1 = p * f) : p ∣ (gd - hU) * ga - 1 + hU :=
  ⟨x1 + hA * f - hU * x2, by grind⟩
theorem alg2 {p a b c d : Int} (h1 : p ∣ a * b - 1 + d) (h2 : p ∣ a * c - 1 + d) : p ∣ a * (b - c) := by
  obtain ⟨x, hx⟩ := h1
  obtain ⟨y, hy⟩ := h2
  exact ⟨x - y, by grind⟩
theorem alg3 {p g u a : Int} (h1 : p ∣ (g - u) * a - 1 + u) (h2 : p ∣ g - u) : p ∣ g - 1 := by
  obtain ⟨x, hx⟩ := h1
  obtain ⟨y, hy⟩ := h2
  exact ⟨x - y * a + y, by grind⟩
/-- crossed dots are apart -/
theorem Cross.apt {p g h : Nat} {l : List Nat} (Rg : Root p g) (Rh : Root p h) (X : Cross p g h l) : Apt (l.map fun n : Nat => (n : Int)) := by
  intro d i j d1 hij hjd e
  have lo := Rg.good.lo
  rw [List.length_map] at hjd
  unfold up at e
  rw [getD_zof (show i + d < l.length by omega), getD_zof (show i < l.length by omega), getD_zof (show j + d < l.length by omega), getD_zof (show j < l.length by omega)] at e
  have hl := X.len
  obtain ⟨a1, a2⟩ := X.at1 (i + d) _ (List.getElem?_eq_getElem (show i + d < l.length by omega))
  obtain ⟨b1, b2⟩ := X.at1 i _ (List.getElem?_eq_getElem (show i < l.length by omega))
  obtain ⟨c1, c2⟩ := X.at1 (j + d) _ (List.getElem?_eq_getElem (show j + d < l.length by omega))
  obtain ⟨e1, e2⟩ := X.at1 j _ (List.getElem?_eq_getElem (show j < l.length by omega))
  generalize l[i + d]'(by omega) = A at *
  generalize l[i]'(by omega) = B at *
  generalize l[j + d]'(by omega) = C at *
  generalize l[j]'(by omega) = E at *
  -- how far up, around
  obtain ⟨u, hu1, hu2⟩ : ∃ u : Nat, B + 1 + u = A + 1 + (p - 1) ∧ E + 1 + u = C + 1 + (p - 1) := ⟨A + (p - 1) - B, by omega, by omega⟩
  obtain ⟨f, hf⟩ := mod_dvd lo (Rh.good.ferm Rh.ne)
  have p1 : h ^ (B + 1) * h ^ u = h ^ (A + 1) * h ^ (p - 1) := by rw [← Nat.pow_add, ← Nat.pow_add, hu1]
  have p2 : h ^ (E + 1) * h ^ u = h ^ (C + 1) * h ^ (p - 1) := by rw [← Nat.pow_add, ← Nat.pow_add, hu2]
  have q1 : g ^ (i + d + 1) = g ^ d * g ^ (i + 1) := by rw [← Nat.pow_add]; congr 1; omega
  have q2 : g ^ (j + d + 1) = g ^ d * g ^ (j + 1) := by rw [← Nat.pow_add]; congr 1; omega
  rw [q1] at a2
  rw [q2] at c2
  obtain ⟨x1, y1⟩ := sum_dvd lo a2
  obtain ⟨x2, y2⟩ := sum_dvd lo b2
  obtain ⟨x3, y3⟩ := sum_dvd lo c2
  obtain ⟨x4, y4⟩ := sum_dvd lo e2
  rw [Int.natCast_mul] at y1 y3
  have p1' : ((h ^ (B + 1) : Nat) : Int) * ((h ^ u : Nat) : Int) = ((h ^ (A + 1) : Nat) : Int) * ((h ^ (p - 1) : Nat) : Int) := by exact_mod_cast p1
  have p2' : ((h ^ (E + 1) : Nat) : Int) * ((h ^ u : Nat) : Int) = ((h ^ (C + 1) : Nat) : Int) * ((h ^ (p - 1) : Nat) : Int) := by exact_mod_cast p2
  generalize hGa : ((g ^ (i + 1) : Nat) : Int) = ga at *
  generalize hGc : ((g ^ (j + 1) : Nat) : Int) = gc at *
  generalize hG : ((g ^ d : Nat) : Int) = gd at *
  generalize ((h ^ u : Nat) : Int) = hU at *
  generalize ((h ^ (B + 1) : Nat) : Int) = hB at *
  generalize ((h ^ (A + 1) : Nat) : Int) = hA at *
  generalize ((h ^ (C + 1) : Nat) : Int) = hC at *
  generalize ((h ^ (E + 1) : Nat) : Int) = hE at *
  generalize ((h ^ (p - 1) : Nat) : Int) = hF at *
  have k1 := alg1 y1 y2 p1' hf
  have k2 := alg1 y3 y4 p2' hf
  rcases Rg.good.dvd_mul (alg2 k1 k2) with k4 | k4
  · have k5 : (p : Int) ∣ gd - ((1 : Nat) : Int) := alg3 k1 k4
    rw [← hG] at k5
    have k6 := dvd_mod k5
    rw [Nat.mod_eq_of_lt (show 1 < p by omega)] at k6
    exact (plen_spec p g (by omega)).2.2.1 d d1 (by rw [Rg.len]; omega) k6
  · rw [← hGa, ← hGc] at k4
    have := Rg.inj1 (show i < p - 2 by omega) (show j < p - 2 by omega) k4
    omega
theorem Root.cross_z {p g c : Nat} (Rg : Root p g) (hc : 1 ≤ c) (hc2 : c < p - 1) : 0 ≤ (1 - ((g ^ c % p : Nat) : Int)) % (p : Int) - 1 ∧ (1 - ((g ^ c % p : Nat) : Int)) % (p : Int) - 1 < (p : Int) - 1 := by
  have lo := Rg.good.lo
  have x1 := Rg.good.pow_pos Rg.ne c
  have x2 := Nat.mod_lt (g ^ c) (show p > 0 by omega)
  have x3 : g ^ c % p ≠ 1 := (plen_spec p g (by omega)).2.2.1 c hc (by rw [Rg.len]; omega)
  rw [← Int.add_emod_right, Int.emod_eq_of_lt (by omega) (by omega)]
  omega
/-- the column that found_column tells -/
theorem Root.cross_at {p g h c r : Nat} (Rg : Root p g) (Rh : Root p h) (hc : 1 ≤ c) (hc2 : c < p - 1) (hr : r < p - 1) (e : ((rowA p h 1 r : Nat) : Int) = (1 - ((g ^ c % p : Nat) : Int)) % (p : Int)) : r < p - 2 ∧ (g ^ c + h ^ (r + 1)) % p = 1 := by
  have lo := Rg.good.lo
  have b1 : be p 1 = 1 := by
    have := be_cast lo 1
    rw [Int.emod_eq_of_lt (by decide) (show (1 : Int) < (p : Int) - 1 by omega)] at this
    omega
  unfold rowA at e
  rw [b1, Nat.add_comm 1 r] at e
  have x1 := Rg.good.pow_pos Rg.ne c
  have x2 := Nat.mod_lt (g ^ c) (show p > 0 by omega)
  have x3 : g ^ c % p ≠ 1 := (plen_spec p g (by omega)).2.2.1 c hc (by rw [Rg.len]; omega)
  have x4 : (1 - ((g ^ c % p : Nat) : Int)) % (p : Int) = (p : Int) + 1 - ((g ^ c % p : Nat) : Int) := by
    rw [← Int.add_emod_right, Int.emod_eq_of_lt (by omega) (by omega)]
    omega
  rw [x4] at e
  have x5 : h ^ (r + 1) % p + g ^ c % p = p + 1 := by omega
  constructor
  · rcases Nat.lt_or_ge r (p - 2) with z | z
    · exact z
    · have z2 : r + 1 = p - 1 := by omega
      rw [z2, Rh.good.ferm Rh.ne] at x5
      omega
  · rw [Nat.add_mod, Nat.add_comm, x5, Nat.add_mod_left, Nat.mod_eq_of_lt (by omega)]
end AD
namespace AD
/-! ### dots turned: where each comes -/
/-- where a dot comes -/
def pl (n w c r : Nat) : Nat × Nat :=
  let a := if 4 ≤ w then r else c
  let b := if 4 ≤ w then c else r
  (if w % 2 = 1 then n - 1 - a else a, if w / 2 % 2 = 1 then n - 1 - b else b)
/-- the way back -/
def bk (w : Nat) : Nat := [0, 1, 2, 3, 4, 6, 5, 7].getD w 0
/-- m: the dots l, turned -/
structure Turn (n w : Nat) (l m : List Nat) : Prop where
  len : m.length = n
  to : ∀ c r, l[c]? = some r → m[(pl n w c r).1]? = some (pl n w c r).2
/-- rows of a board, each once -/
structure Brd (n : Nat) (l : List Nat) : Prop where
  len : l.length = n
  pm : l.Perm (List.range n)
section
variable {n w : Nat} {l m : List Nat}
theorem Brd.lt (B : Brd n l) {c r : Nat} (h : l[c]? = some r) : c < n ∧ r < n := by
  have h1 := (List.getElem?_eq_some_iff.mp h).1
  have h2 := List.mem_range.mp (B.pm.mem_iff.mp (List.mem_of_getElem? h))
  have := B.len
  omega
theorem Brd.nodup (B : Brd n l) : l.Nodup := B.pm.nodup_iff.mpr List.nodup_range
theorem Brd.inj (B : Brd n l) {c d r : Nat} (h1 : l[c]? = some r) (h2 : l[d]? = some r) : c = d := by
  obtain ⟨a1, a2⟩ := List.getElem?_eq_some_iff.mp h1
  obtain ⟨b1, b2⟩ := List.getElem?_eq_some_iff.mp h2
  exact (List.getElem_inj B.nodup).mp (a2.trans b2.symm)
theorem Brd.onto (B : Brd n l) {r : Nat} (h : r < n) : ∃ c : Nat, l[c]? = some r :=
  List.mem_iff_getElem?.mp ((B.pm.mem_iff (a := r)).mpr (List.mem_range.mpr h))
theorem Brd.col (B : Brd n l) {c : Nat} (h : c < n) : ∃ r, l[c]? = some r :=
  ⟨_, List.getElem?_eq_getElem (by rw [B.len]; exact h)⟩
theorem pl_lt {c r : Nat} (h1 : c < n) (h2 : r < n) : (pl n w c r).1 < n ∧ (pl n w c r).2 < n := by
  unfold pl
  constructor <;> dsimp only <;> repeat' split
  all_goals omega
theorem pl_back {c r : Nat} (hw : w < 8) (h1 : c < n) (h2 : r < n) : pl n (bk w) (pl n w c r).1 (pl n w c r).2 = (c, r) := by
  have hw' : w = 0 ∨ w = 1 ∨ w = 2 ∨ w = 3 ∨ w = 4 ∨ w = 5 ∨ w = 6 ∨ w = 7 := by omega
  rcases hw' with rfl | rfl | rfl | rfl | rfl | rfl | rfl | rfl <;> simp [pl, bk] <;> omega
theorem bk_lt (hw : w < 8) : bk w < 8 := by
  have hw' : w = 0 ∨ w = 1 ∨ w = 2 ∨ w = 3 ∨ w = 4 ∨ w = 5 ∨ w = 6 ∨ w = 7 := by omega
  rcases hw' with rfl | rfl | rfl | rfl | rfl | rfl | rfl | rfl <;> decide
/-- each column of the turned board is some dot's -/
theorem Brd.hit (B : Brd n l) {c' : Nat} (h : c' < n) : ∃ c r : Nat, l[c]? = some r ∧ (pl n w c r).1 = c' := by
  unfold pl
  by_cases h4 : 4 ≤ w
  · simp only [if_pos h4]
    by_cases h2 : w % 2 = 1
    · simp only [if_pos h2]
      obtain ⟨c, hc⟩ := B.onto (r := n - 1 - c') (by omega)
      exact ⟨c, _, hc, by omega⟩
    · simp only [if_neg h2]
      obtain ⟨c, hc⟩ := B.onto h
      exact ⟨c, _, hc, rfl⟩
  · simp only [if_neg h4]
    by_cases h2 : w % 2 = 1
    · simp only [if_pos h2]
      obtain ⟨r, hr⟩ := B.col (c := n - 1 - c') (by omega)
      exact ⟨_, r, hr, by omega⟩
    · simp only [if_neg h2]
      obtain ⟨r, hr⟩ := B.col h
      exact ⟨_, r, hr, rfl⟩
/-- each dot of the turned board is some dot's -/
theorem Turn.from (T : Turn n w l m) (B : Brd n l) {c' r' : Nat} (h : m[c']? = some r') : ∃ c r, l[c]? = some r ∧ pl n w c r = (c', r') := by
  have hc : c' < n := by
    have := (List.getElem?_eq_some_iff.mp h).1
    have := T.len
    omega
  obtain ⟨c, r, h1, h2⟩ := B.hit (w := w) hc
  have h3 := T.to c r h1
  rw [h2, h] at h3
  exact ⟨c, r, h1, Prod.ext h2 (Option.some.inj h3).symm⟩
theorem Turn.unique {m' : List Nat} (T : Turn n w l m) (U : Turn n w l m') (B : Brd n l) : m = m' := by
  refine List.ext_getElem? fun c' => ?_
  rcases Nat.lt_or_ge c' n with z | z
  · obtain ⟨c, r, h1, h2⟩ := B.hit (w := w) z
    rw [← h2, T.to c r h1, U.to c r h1]
  · rw [List.getElem?_eq_none (by rw [T.len]; exact z), List.getElem?_eq_none (by rw [U.len]; exact z)]
theorem pl_inj {c r d s : Nat} (hw : w < 8) (h1 : c < n) (h2 : r < n) (h3 : d < n) (h4 : s < n) (e : pl n w c r = pl n w d s) : c = d ∧ r = s := by
  have a := pl_back hw h1 h2
  rw [e, pl_back hw h3 h4] at a
  exact ⟨(congrArg Prod.fst a).symm, (congrArg Prod.snd a).symm⟩
theorem Turn.brd (T : Turn n w l m) (B : Brd n l) (hw : w < 8) : Brd n m := by
  refine ⟨T.len, perm_range _ _ (nodup_of_at fun i j r h1 h2 => ?_) (fun x hx => ?_) T.len⟩
  · obtain ⟨c, s, a1, a2⟩ := T.from B h1
    obtain ⟨d, t, b1, b2⟩ := T.from B h2
    have e := (congrArg Prod.snd a2).trans (congrArg Prod.snd b2).symm
    obtain ⟨c1, s1⟩ := B.lt a1
    obtain ⟨d1, t1⟩ := B.lt b1
    have k : c = d ∧ s = t := by
      unfold pl at e
      dsimp only at e
      by_cases h4 : 4 ≤ w
      · simp only [if_pos h4] at e
        have z : c = d := by
          split at e <;> omega
        subst z
        exact ⟨rfl, Option.some.inj (a1.symm.trans b1)⟩
      · simp only [if_neg h4] at e
        have z : s = t := by
          split at e <;> omega
        subst z
        exact ⟨B.inj a1 b1, rfl⟩
    rw [k.1, k.2, b2] at a2
    exact (congrArg Prod.fst a2).symm
  · obtain ⟨c', h⟩ := List.mem_iff_getElem?.mp hx
    obtain ⟨c, r, a1, a2⟩ := T.from B h
    obtain ⟨c1, r1⟩ := B.lt a1
    have := (pl_lt (w := w) c1 r1).2
    rw [a2] at this
    exact this
/-- turned back -/
theorem Turn.back (T : Turn n w l m) (B : Brd n l) (hw : w < 8) : Turn n (bk w) m l := by
  refine ⟨B.len, fun c' r' h => ?_⟩
  obtain ⟨c, r, a1, a2⟩ := T.from B h
  obtain ⟨c1, r1⟩ := B.lt a1
  have e := pl_back hw c1 r1
  rw [a2] at e
  rw [show pl n (bk w) c' r' = (c, r) from e]
  exact a1
/-! ### alike arrows, from any dot to any -/
def AptP (l : List Nat) : Prop := ∀ c1 r1 c2 r2 c3 r3 c4 r4 : Nat, l[c1]? = some r1 → l[c2]? = some r2 → l[c3]? = some r3 → l[c4]? = some r4 → (c2 : Int) - c1 = (c4 : Int) - c3 → (r2 : Int) - r1 = (r4 : Int) - r3 → c1 ≠ c2 → c1 = c3
theorem up_at {i d a b : Nat} (h1 : l[i]? = some a) (h2 : l[i + d]? = some b) : up (l.map fun k : Nat => (k : Int)) i d = (b : Int) - a := by
  unfold up
  rw [List.getD_eq_getElem?_getD, List.getD_eq_getElem?_getD, List.getElem?_map, List.getElem?_map, h1, h2]
  rfl
theorem aptP_iff : Apt (l.map fun k : Nat => (k : Int)) ↔ AptP l := by
  constructor
  · intro A
    have key : ∀ c1 r1 c2 r2 c3 r3 c4 r4 : Nat, l[c1]? = some r1 → l[c2]? = some r2 → l[c3]? = some r3 → l[c4]? = some r4 → (c2 : Int) - c1 = (c4 : Int) - c3 → (r2 : Int) - r1 = (r4 : Int) - r3 → c1 < c2 → c1 < c3 → False := by
      intro c1 r1 c2 r2 c3 r3 c4 r4 h1 h2 h3 h4 e1 e2 z1 z2
      have h4' : c4 = c3 + (c2 - c1) := by omega
      have h2' : c2 = c1 + (c2 - c1) := by omega
      have l4 := (List.getElem?_eq_some_iff.mp h4).1
      refine A (c2 - c1) c1 c3 (by omega) z2 (by rw [List.length_map]; omega) ?_
      rw [up_at h1 (by rw [← h2']; exact h2), up_at h3 (by rw [← h4']; exact h4), e2]
    intro c1 r1 c2 r2 c3 r3 c4 r4 h1 h2 h3 h4 e1 e2 ne
    rcases Nat.lt_trichotomy c1 c3 with z | z | z
    · rcases Nat.lt_or_ge c1 c2 with y | y
      · exact (key c1 r1 c2 r2 c3 r3 c4 r4 h1 h2 h3 h4 e1 e2 y z).elim
      · exact (key c2 r2 c1 r1 c4 r4 c3 r3 h2 h1 h4 h3 (by omega) (by omega) (by omega) (by omega)).elim
    · exact z
    · rcases Nat.lt_or_ge c1 c2 with y | y
      · exact (key c3 r3 c4 r4 c1 r1 c2 r2 h3 h4 h1 h2 (by omega) (by omega) (by omega) (by omega)).elim
      · exact (key c4 r4 c3 r3 c2 r2 c1 r1 h4 h3 h2 h1 (by omega) (by omega) (by omega) (by omega)).elim
  · intro A d i j h1 h2 h3 e
    rw [List.length_map] at h3
    have g : ∀ c, c < l.length → l[c]? = some (l.getD c 0) := fun c h => by
      rw [List.getD_eq_getElem?_getD, List.getElem?_eq_getElem h]
      rfl
    have a1 := g i (by omega)
    have a2 := g (i + d) (by omega)
    have a3 := g j (by omega)
    have a4 := g (j + d) (by omega)
    rw [up_at a1 a2, up_at a3 a4] at e
    have := A i _ (i + d) _ j _ (j + d) _ a1 a2 a3 a4 (by omega) e (by omega)
    omega
theorem Turn.apt1 (T : Turn n w l m) (B : Brd n l) (A : AptP l) : AptP m := by
  intro c1 r1 c2 r2 c3 r3 c4 r4 h1 h2 h3 h4 e1 e2 ne
  obtain ⟨a1, b1, p1, q1⟩ := T.from B h1
  obtain ⟨a2, b2, p2, q2⟩ := T.from B h2
  obtain ⟨a3, b3, p3, q3⟩ := T.from B h3
  obtain ⟨a4, b4, p4, q4⟩ := T.from B h4
  obtain ⟨x1, y1⟩ := B.lt p1
  obtain ⟨x2, y2⟩ := B.lt p2
  obtain ⟨x3, y3⟩ := B.lt p3
  obtain ⟨x4, y4⟩ := B.lt p4
  have k : a1 = a3 := by
    refine A a1 b1 a2 b2 a3 b3 a4 b4 p1 p2 p3 p4 ?_ ?_ ?_
    · unfold pl at q1 q2 q3 q4
      simp only [Prod.mk.injEq] at q1 q2 q3 q4
      by_cases h4 : 4 ≤ w
      · simp only [if_pos h4] at q1 q2 q3 q4
        split at q1 <;> split at q1 <;> simp_all <;> omega
      · simp only [if_neg h4] at q1 q2 q3 q4
        split at q1 <;> split at q1 <;> simp_all <;> omega
    · unfold pl at q1 q2 q3 q4
      simp only [Prod.mk.injEq] at q1 q2 q3 q4
      by_cases h4 : 4 ≤ w
      · simp only [if_pos h4] at q1 q2 q3 q4
        split at q1 <;> split at q1 <;> simp_all <;> omega
      · simp only [if_neg h4] at q1 q2 q3 q4
        split at q1 <;> split at q1 <;> simp_all <;> omega
    · intro z
      subst z
      have z2 := Option.some.inj (p1.symm.trans p2)
      rw [z2, q2] at q1
      exact ne (congrArg Prod.fst q1).symm
  subst k
  have z2 := Option.some.inj (p1.symm.trans p3)
  rw [z2, q3] at q1
  exact (congrArg Prod.fst q1).symm
/-- as many alike arrows or none as ahead -/
theorem Turn.apt (T : Turn n w l m) (B : Brd n l) (hw : w < 8) : Apt (m.map fun k : Nat => (k : Int)) ↔ Apt (l.map fun k : Nat => (k : Int)) := by
  rw [aptP_iff, aptP_iff]
  exact ⟨fun h => (T.back B hw).apt1 (T.brd B hw) h, fun h => T.apt1 B h⟩
/-! ### how they are turned -/
def inv (n : Nat) (l : List Nat) : List Nat := (List.range n).map fun r => l.idxOf r
def t0 (n w : Nat) (l : List Nat) : List Nat := if 4 ≤ w then inv n l else l
def t1 (n w : Nat) (l : List Nat) : List Nat := if w % 2 = 1 then (t0 n w l).reverse else t0 n w l
def t2 (n w : Nat) (l : List Nat) : List Nat := if w / 2 % 2 = 1 then (t1 n w l).map (fun r => n - 1 - r) else t1 n w l
theorem Brd.idx (B : Brd n l) {c r : Nat} (h : l[c]? = some r) : l.idxOf r = c := by
  obtain ⟨a1, a2⟩ := List.getElem?_eq_some_iff.mp h
  rw [← a2]
  exact List.Nodup.idxOf_getElem B.nodup c a1
theorem t0_len (B : Brd n l) : (t0 n w l).length = n := by
  unfold t0 inv
  split
  · rw [List.length_map, List.length_range]
  · exact B.len
theorem t1_len (B : Brd n l) : (t1 n w l).length = n := by
  unfold t1
  split
  · rw [List.length_reverse, t0_len B]
  · exact t0_len B
theorem t2_turn (B : Brd n l) : Turn n w l (t2 n w l) := by
  refine ⟨?_, fun c r h => ?_⟩
  · unfold t2
    split
    · rw [List.length_map, t1_len B]
    · exact t1_len B
  · obtain ⟨c1, r1⟩ := B.lt h
    have e0 : (t0 n w l)[if 4 ≤ w then r else c]? = some (if 4 ≤ w then c else r) := by
      unfold t0 inv
      by_cases h4 : 4 ≤ w
      · rw [if_pos h4, if_pos h4, if_pos h4, List.getElem?_map, List.getElem?_range r1]
        show some (l.idxOf r) = some c
        rw [B.idx h]
      · rw [if_neg h4, if_neg h4, if_neg h4]
        exact h
    have lta : (if 4 ≤ w then r else c) < n := by split <;> omega
    unfold t2 t1 pl
    dsimp only
    generalize (if 4 ≤ w then r else c) = a at *
    generalize (if 4 ≤ w then c else r) = b at *
    have e1 : (if w % 2 = 1 then (t0 n w l).reverse else t0 n w l)[if w % 2 = 1 then n - 1 - a else a]? = some b := by
      by_cases h2 : w % 2 = 1
      · rw [if_pos h2, if_pos h2, List.getElem?_reverse (by rw [t0_len B]; omega), t0_len B, show n - 1 - (n - 1 - a) = a by omega]
        exact e0
      · rw [if_neg h2, if_neg h2]
        exact e0
    by_cases h3 : w / 2 % 2 = 1
    · rw [if_pos h3, if_pos h3, List.getElem?_map, e1]
      rfl
    · rw [if_neg h3, if_neg h3]
      exact e1
/-! ### the first column and row taken off -/
theorem Brd.cut {t : List Nat} (B : Brd n (0 :: t)) : Brd (n - 1) (t.map fun r => r - 1) := by
  have hl := B.len
  rw [List.length_cons] at hl
  obtain ⟨k1, k2⟩ := List.nodup_cons.mp B.nodup
  have hne : ∀ x ∈ t, x ≠ 0 := fun x hx e => k1 (e ▸ hx)
  refine ⟨by rw [List.length_map]; omega, perm_range _ _ (map_nodup k2 fun x hx y hy e => ?_) (fun x hx => ?_) (by rw [List.length_map]; omega)⟩
  · have := hne x hx
    have := hne y hy
    omega
  · obtain ⟨y, hy, e⟩ := List.mem_map.mp hx
    have h1 := hne y hy
    have h2 := List.mem_range.mp (B.pm.mem_iff.mp (List.mem_cons_of_mem 0 hy))
    omega
theorem Brd.cut_apt {t : List Nat} (B : Brd n (0 :: t)) (A : Apt ((0 :: t).map fun k : Nat => (k : Int))) : Apt ((t.map fun r => r - 1).map fun k : Nat => (k : Int)) := by
  rw [aptP_iff] at A ⊢
  obtain ⟨k1, k2⟩ := List.nodup_cons.mp B.nodup
  have hne : ∀ x ∈ t, x ≠ 0 := fun x hx e => k1 (e ▸ hx)
  have g : ∀ c r, (t.map fun r => r - 1)[c]? = some r → (0 :: t)[c + 1]? = some (r + 1) := fun c r h => by
    rw [List.getElem?_map] at h
    cases e : t[c]? with
    | none => rw [e] at h; cases h
    | some x =>
      rw [e] at h
      have h1 : x - 1 = r := Option.some.inj h
      have h2 := hne x (List.mem_of_getElem? e)
      rw [List.getElem?_cons_succ, e]
      congr 1
      omega
  intro c1 r1 c2 r2 c3 r3 c4 r4 h1 h2 h3 h4 e1 e2 ne
  have := A _ _ _ _ _ _ _ _ (g _ _ h1) (g _ _ h2) (g _ _ h3) (g _ _ h4) (by omega) (by omega) (by omega)
  omega
end
end AD
namespace Lw
open PySem PySem.Spec PyProof.Rows L2 AD
section
variable {P : Program} {w : World} {K : PySem.W.Frag} {mg : Str → Option Value} {base : Heap}
variable {fa : Nat → Addr} {fd : Nat → FuncData} {tk : Nat → Tok}
/-! ### classes of the text -/
/-- a class whose making is object's own -/
structure MkP (K : PySem.W.Frag) (C : Addr) : Prop where
  mks : PySem.W.makesIn K C = true
  ini : PySem.W.findIn K (.ref C) "__init__" = some (some (.builtin "object.__init__"))
  kp : PySem.W.keepIn K (.ref C) = true
/-- what isinstance asks of an instance of it -/
structure InsF (K : PySem.W.Frag) (C : Addr) : Prop where
  cl : Cls K C
  f1 : PySem.W.findIn K (.ref C) "__class__" = some (some (.builtin "object.__class__"))
  f2 : PySem.W.specialIn K (.builtin "object.__class__") "__get__" = some (some (.builtin "getset_descriptor.__get__"))
  f3 : PySem.W.takesIn K (.builtin "object.__class__") = some true
  f4 : PySem.W.mroIn K C (.type "object") = some true
theorem InsF.ty {C a dx : Addr} {H : Hp} {fs : List (Str × V)} (i : InsF K C) (h : H a = some (.ins C dx fs)) : TyX K H (.ref a) (.ref C) := .base (.ins h i.cl i.f1 i.f2 i.f3 i.f4)
theorem kit_own {t : Value} {C : Addr} {b : Bool} (h1 : PySem.W.isClsIn K C = true) (h2 : PySem.W.typeIn K (.ref C) = some (.type "type")) (h3 : PySem.W.subIn K t (.ref C) = some b) (h4 : PySem.W.subIn K (.ref C) (.ref C) = some true) : PySem.W.kitOne K t (.ref C) = some b := by
  unfold PySem.W.kitOne
  by_cases e : (t == Value.ref C) = true
  · rw [if_pos e]
    have e' : t = .ref C := eq_of_beq e
    rw [e', h4] at h3
    exact h3
  · rw [if_neg e]
    have h5 : ((PySem.W.clsIn K C).isSome && PySem.W.typeIn K (.ref C) == some (.type "type")) = true := by
      rw [h2, show (PySem.W.clsIn K C).isSome = true from h1]
      rfl
    show (if ((PySem.W.clsIn K C).isSome && PySem.W.typeIn K (.ref C) == some (.type "type")) = true then PySem.W.subIn K t (.ref C) else none) = some b
    rw [if_pos h5]
    exact h3
/-- C(), C without an own __init__: a new instance -/
def tMakeP (C : Addr) : TE := fun _ H Q => ∀ x dx, H x = none → H dx = none → dx ≠ x → Q (.ref x) (upd (upd H dx (.own x)) x (.ins C dx []))
theorem pe_makeP {X : Cx} {C : Addr} {x : Str} {p pos : Pos} (M : MkP X.K C) (hg : Gl X x) (hm : X.mg x = some (.ref C)) (hdb : (x == ("__debug__" : Str)) = false := by decide) :
    PE X (.Call (.Name x p) [] [] pos) (tMakeP C) := by
  refine ⟨fun pins s σ H Q I h => wpAny_Call_Name_kw (ld_glob I hg hm ?_ hdb)⟩
  refine PySem.W.callWith_K0 I.kIn M.kp (wpAny_call (make_map0 I.kIn M.mks M.ini (fun v => PySem.W.Looks.of_pure (PySem.W.oi_bind v)) ?_))
  have J := Inv.made (C := C) I
  have Y := PySem.W.makes_of (M := model X.prog X.w) I.kIn M.mks
  obtain ⟨_, _, _, e, _⟩ := J.hok _ _ upd_same
  have t1 : PySem.W.Looks (model X.prog X.w) ((s.heap.push PySem.W.emptyDict).push (PySem.W.instObj C s.heap.objs.size)) (typeOf (.ref (s.heap.objs.size + 1))) (.ref C) := (PySem.W.Looks.ld e).andThen .now
  have t2 : PySem.W.Looks (model X.prog X.w) ((s.heap.push PySem.W.emptyDict).push (PySem.W.instObj C s.heap.objs.size)) (isInstance (.ref (s.heap.objs.size + 1)) (.type "object")) true :=
    t1.andThen (Y.top.keeps fun b o q => Heap.get?_push_of_some _ (Heap.get?_push_of_some _ q))
  refine codeAny_call_builtin PySem.W.oi_plain PySem.W.entry_oi (PySem.W.check_slot (rest := []) (kw := []) PySem.W.oi_kind PySem.W.oi_split t2 (PySem.W.oi_args _) ?_)
  rw [PySem.W.oi_run]
  exact wpAny_pure ⟨rfl, ⟨.ref (s.heap.objs.size + 1), _, J, rfl, h _ _ (I.hok.fresh (Nat.le_succ _)) (I.hok.fresh (Nat.le_refl _)) (Nat.ne_of_lt (Nat.lt_succ_self _))⟩⟩
end
end Lw
namespace Lw
open PySem PySem.Spec PyProof.Rows L2 AD
section
variable {P : Program} {w : World} {K : PySem.W.Frag} {mg : Str → Option Value} {base : Heap}
variable {fa : Nat → Addr} {fd : Nat → FuncData} {tk : Nat → Tok}
/-! ### the exception classes of the text -/
structure XcF (K : PySem.W.Frag) (C D : Addr) : Prop where
  ex : PySem.W.excIn K C [.type "ValueError", .type "Exception", .type "BaseException", .type "object"] "ValueError.__new__" = true
  kp : PySem.W.keepIn K (.ref C) = true
  b : PySem.W.subIn K (.ref C) (.type "BaseException") = some true
  v : PySem.W.subIn K (.ref C) (.type "ValueError") = some true
  t : PySem.W.typeIn K (.ref C) = some (.type "type")
  ec : ExcC K C
  em : PySem.W.exmOne K (.ref C) (.ref D) = some true
theorem XcF.kv {C D : Addr} (x : XcF K C D) : PySem.W.kitOne K (.ref C) (.type "ValueError") = some true := Hx.kit_bt (by
  show (if PySem.W.kitMeta "ValueError" = true then PySem.W.subIn K (.ref C) (.type "ValueError") else none) = some true
  rw [if_pos (show PySem.W.kitMeta "ValueError" = true by decide +kernel)]
  exact x.v)
end
end Lw
namespace Lw
open PySem PySem.Spec PyProof.Rows L2 AD
def topS (i : Nat) : Stmt := PySem.Challenge.pw_arrowdots_k09_whole_known.main.body.getD i (.Pass ⟨0, 0, 0, 0⟩)
abbrev s_is_whole : Stmt := topS 14
abbrev s_is_prime : Stmt := topS 15
abbrev s_asked_prime : Stmt := topS 16
abbrev s_power : Stmt := topS 17
abbrev s_root_of : Stmt := topS 18
abbrev s_is_root : Stmt := topS 19
abbrev s_least_root : Stmt := topS 20
abbrev s_asked_root : Stmt := topS 21
abbrev s_asked_plan : Stmt := topS 23
abbrev s_row_of : Stmt := topS 24
abbrev s_found_column : Stmt := topS 25
abbrev s_column_of : Stmt := topS 26
abbrev s_arrow_of : Stmt := topS 27
abbrev s_dots_of : Stmt := topS 28
abbrev s_crossed : Stmt := topS 29
abbrev s_first_same : Stmt := topS 32
abbrev s_Apart_shows : Stmt := inClass (topS 33) 0
abbrev s_Same_init : Stmt := inClass (topS 34) 0
abbrev s_Same_shows : Stmt := inClass (topS 34) 1
abbrev s_asked_dots : Stmt := topS 37
abbrev s_judged : Stmt := topS 38
abbrev s_turned : Stmt := topS 39
abbrev s_without_corner : Stmt := topS 40
abbrev s__law_kinds : Stmt := topS 42
abbrev s__law_refused : Stmt := topS 43
abbrev s__law_plain : Stmt := topS 44
abbrev s__law_truths : Stmt := topS 45
abbrev s__law_known_right : Stmt := topS 46
abbrev s__law_dots_right : Stmt := topS 47
abbrev s__law_bad_right : Stmt := topS 48
abbrev s__law_has_no_corner : Stmt := topS 49
abbrev s__law_promises_right : Stmt := topS 50
abbrev s__law_more_promises : Stmt := topS 51
abbrev s_law : Stmt := topS 52
theorem sc_is_whole : FnScope ["thing"] ["thing"] (defScope s_is_whole) :=
  ⟨rfl, rfl, rfl, by decide +kernel, rfl, by decide +kernel, by decide +kernel⟩
theorem sc_is_prime : FnScope ["number", "at"] ["number"] (defScope s_is_prime) :=
  ⟨rfl, rfl, rfl, by decide +kernel, rfl, by decide +kernel, by decide +kernel⟩
theorem sc_asked_prime : FnScope ["prime", "most"] ["prime", "most"] (defScope s_asked_prime) :=
  ⟨rfl, rfl, rfl, by decide +kernel, rfl, by decide +kernel, by decide +kernel⟩
theorem sc_power : FnScope ["number", "times", "prime", "found"] ["number", "times", "prime"] (defScope s_power) :=
  ⟨rfl, rfl, rfl, by decide +kernel, rfl, by decide +kernel, by decide +kernel⟩
theorem sc_root_of : FnScope ["prime", "number", "many", "left", "at"] ["prime", "number"] (defScope s_root_of) :=
  ⟨rfl, rfl, rfl, by decide +kernel, rfl, by decide +kernel, by decide +kernel⟩
theorem sc_is_root : FnScope ["prime", "number"] ["prime", "number"] (defScope s_is_root) :=
  ⟨rfl, rfl, rfl, by decide +kernel, rfl, by decide +kernel, by decide +kernel⟩
theorem sc_least_root : FnScope ["prime", "number"] ["prime"] (defScope s_least_root) :=
  ⟨rfl, rfl, rfl, by decide +kernel, rfl, by decide +kernel, by decide +kernel⟩
theorem sc_asked_root : FnScope ["prime", "root"] ["prime", "root"] (defScope s_asked_root) :=
  ⟨rfl, rfl, rfl, by decide +kernel, rfl, by decide +kernel, by decide +kernel⟩
theorem sc_asked_plan : FnScope ["prime", "root", "begin", "most"] ["prime", "root", "begin", "most"] (defScope s_asked_plan) :=
  ⟨rfl, rfl, rfl, by decide +kernel, rfl, by decide +kernel, by decide +kernel⟩
theorem sc_row_of : FnScope ["prime", "root", "begin", "column"] ["prime", "root", "begin", "column"] (defScope s_row_of) :=
  ⟨rfl, rfl, rfl, by decide +kernel, rfl, by decide +kernel, by decide +kernel⟩
theorem sc_found_column : FnScope ["prime", "root", "begin", "row", "at", "column"] ["prime", "root", "begin", "row"] (defScope s_found_column) :=
  ⟨rfl, rfl, rfl, by decide +kernel, rfl, by decide +kernel, by decide +kernel⟩
theorem sc_column_of : FnScope ["prime", "root", "begin", "row"] ["prime", "root", "begin", "row"] (defScope s_column_of) :=
  ⟨rfl, rfl, rfl, by decide +kernel, rfl, by decide +kernel, by decide +kernel⟩
theorem sc_arrow_of : FnScope ["prime", "root", "begin", "across", "up", "apart"] ["prime", "root", "begin", "across", "up"] (defScope s_arrow_of) :=
  ⟨rfl, rfl, rfl, by decide +kernel, rfl, by decide +kernel, by decide +kernel⟩
theorem sc_dots_of : FnScope ["prime", "root", "begin", "column"] ["prime", "root", "begin"] (defScope s_dots_of) :=
  ⟨rfl, rfl, rfl, by decide +kernel, rfl, by decide +kernel, by decide +kernel⟩
theorem sc_crossed : FnScope ["prime", "root", "other", "found", "column"] ["prime", "root", "other"] (defScope s_crossed) :=
  ⟨rfl, rfl, rfl, by decide +kernel, rfl, by decide +kernel, by decide +kernel⟩
theorem sc_first_same : FnScope ["dots", "across", "seen", "column", "up"] ["dots"] (defScope s_first_same) :=
  ⟨rfl, rfl, rfl, by decide +kernel, rfl, by decide +kernel, by decide +kernel⟩
theorem sc_Apart_shows : FnScope ["self", "dots"] ["self", "dots"] (defScope s_Apart_shows) :=
  ⟨rfl, rfl, rfl, by decide +kernel, rfl, by decide +kernel, by decide +kernel⟩
theorem sc_Same_init : FnScope ["self", "first", "second", "across"] ["self", "first", "second", "across"] (defScope s_Same_init) :=
  ⟨rfl, rfl, rfl, by decide +kernel, rfl, by decide +kernel, by decide +kernel⟩
theorem sc_Same_shows : FnScope ["self", "dots", "one"] ["self", "dots"] (defScope s_Same_shows) :=
  ⟨rfl, rfl, rfl, by decide +kernel, rfl, by decide +kernel, by decide +kernel⟩
theorem sc_asked_dots : FnScope ["dots", "row"] ["dots"] (defScope s_asked_dots) :=
  ⟨rfl, rfl, rfl, by decide +kernel, rfl, by decide +kernel, by decide +kernel⟩
theorem sc_judged : FnScope ["dots", "found"] ["dots"] (defScope s_judged) :=
  ⟨rfl, rfl, rfl, by decide +kernel, rfl, by decide +kernel, by decide +kernel⟩
theorem sc_turned : FnScope ["dots", "way", "found", "row"] ["dots", "way"] (defScope s_turned) :=
  ⟨rfl, rfl, rfl, by decide +kernel, rfl, by decide +kernel, by decide +kernel⟩
theorem sc_without_corner : FnScope ["dots", "row"] ["dots"] (defScope s_without_corner) :=
  ⟨rfl, rfl, rfl, by decide +kernel, rfl, by decide +kernel, by decide +kernel⟩
theorem sc__law_kinds : FnScope ["_law_error", "_law_found"] ["_law_error"] (defScope s__law_kinds) :=
  ⟨rfl, rfl, rfl, by decide +kernel, rfl, by decide +kernel, by decide +kernel⟩
theorem sc__law_refused : FnScope ["_law_ask", "_law_thing", "_law_due", "_law_error", "_law_kind"] ["_law_ask", "_law_thing", "_law_due"] (defScope s__law_refused) :=
  ⟨rfl, rfl, rfl, by decide +kernel, rfl, by decide +kernel, by decide +kernel⟩
theorem sc__law_plain : FnScope ["_law_thing", "_law_one"] ["_law_thing"] (defScope s__law_plain) :=
  ⟨rfl, rfl, rfl, by decide +kernel, rfl, by decide +kernel, by decide +kernel⟩
theorem sc__law_truths : FnScope ["_law_things", "_law_one"] ["_law_things"] (defScope s__law_truths) :=
  ⟨rfl, rfl, rfl, by decide +kernel, rfl, by decide +kernel, by decide +kernel⟩
theorem sc__law_known_right : FnScope ["_law_far", "_law_rows", "_law_prime", "_law_root", "_law_last", "_law_found"] ["_law_far"] (defScope s__law_known_right) :=
  ⟨rfl, rfl, rfl, by decide +kernel, rfl, by decide +kernel, by decide +kernel⟩
theorem sc__law_dots_right : FnScope ["_law_told", "_law_shown", "_law_dots", "_law_way", "_law_found", "_law_cut", "_law_bad"] [] (defScope s__law_dots_right) :=
  ⟨rfl, rfl, rfl, by decide +kernel, rfl, by decide +kernel, by decide +kernel⟩
theorem sc__law_bad_right : FnScope ["_law_whole", "_law_rows", "_law_spot", "_law_bad", "_law_row", "_law_asks", "_law_ask"] ["_law_whole"] (defScope s__law_bad_right) :=
  ⟨rfl, rfl, rfl, by decide +kernel, rfl, by decide +kernel, by decide +kernel⟩
theorem sc__law_has_no_corner : FnScope ["_law_dots", "_law_error"] ["_law_dots"] (defScope s__law_has_no_corner) :=
  ⟨rfl, rfl, rfl, by decide +kernel, rfl, by decide +kernel, by decide +kernel⟩
theorem sc__law_promises_right : FnScope ["_law_up", "_law_column", "_law_cases", "_law_first", "_law_second", "_law_across", "_law_due", "_law_prime", "_law_row"] [] (defScope s__law_promises_right) :=
  ⟨rfl, rfl, rfl, by decide +kernel, rfl, by decide +kernel, by decide +kernel⟩
theorem sc__law_more_promises : FnScope ["_law_ways", "_law_way"] [] (defScope s__law_more_promises) :=
  ⟨rfl, rfl, rfl, by decide +kernel, rfl, by decide +kernel, by decide +kernel⟩
theorem sc_law : FnScope ["_law_script", "_law_whole"] ["_law_script"] (defScope s_law) :=
  ⟨rfl, rfl, rfl, by decide +kernel, rfl, by decide +kernel, by decide +kernel⟩
/-- what stands behind the top: the names left to Python, the constants, the defs -/
structure Txt (K : PySem.W.Frag) (mg : Str → Option Value) (fa : Nat → Addr) (fd : Nat → FuncData) (tk : Nat → Tok) : Prop where
  m_ValueError : mg "ValueError" = none
  m_abs : mg "abs" = none
  m_all : mg "all" = none
  m_bool : mg "bool" = none
  m_int : mg "int" = none
  m_isinstance : mg "isinstance" = none
  m_len : mg "len" = none
  m_list : mg "list" = none
  m_range : mg "range" = none
  m_sorted : mg "sorted" = none
  m_str : mg "str" = none
  m_sum : mg "sum" = none
  m_tuple : mg "tuple" = none
  g_MOST : mg "MOST" = some (.int 2000 (tk 0))
  g_SMALL : mg "SMALL" = some (.int 61 (tk 1))
  g_LONGEST : mg "LONGEST" = some (.int 60 (tk 2))
  g_Answer : mg "Answer" = some (.ref (fa 44))
  mk_Answer : MkP K (fa 44)
  in_Answer : InsF K (fa 44)
  ki_Answer_Answer : PySem.W.kitOne K (.ref (fa 44)) (.ref (fa 44)) = some true
  ki_Answer_Apart : PySem.W.kitOne K (.ref (fa 44)) (.ref (fa 45)) = some false
  ki_Answer_Same : PySem.W.kitOne K (.ref (fa 44)) (.ref (fa 46)) = some false
  g_Apart : mg "Apart" = some (.ref (fa 45))
  mk_Apart : MkP K (fa 45)
  in_Apart : InsF K (fa 45)
  me_Apart_shows : Meth K (fa 45) "shows" (fa 16)
  ki_Apart_Answer : PySem.W.kitOne K (.ref (fa 45)) (.ref (fa 44)) = some true
  ki_Apart_Apart : PySem.W.kitOne K (.ref (fa 45)) (.ref (fa 45)) = some true
  ki_Apart_Same : PySem.W.kitOne K (.ref (fa 45)) (.ref (fa 46)) = some false
  g_Same : mg "Same" = some (.ref (fa 46))
  mk_Same : Mk K (fa 46) (fa 17)
  in_Same : InsF K (fa 46)
  me_Same_shows : Meth K (fa 46) "shows" (fa 18)
  na_Same_first : NoAttr K (fa 46) "first"
  na_Same_second : NoAttr K (fa 46) "second"
  na_Same_across : NoAttr K (fa 46) "across"
  ki_Same_Answer : PySem.W.kitOne K (.ref (fa 46)) (.ref (fa 44)) = some true
  ki_Same_Apart : PySem.W.kitOne K (.ref (fa 46)) (.ref (fa 45)) = some false
  ki_Same_Same : PySem.W.kitOne K (.ref (fa 46)) (.ref (fa 46)) = some true
  g_DotError : mg "DotError" = some (.ref (fa 34))
  x_DotError : XcF K (fa 34) (fa 34)
  kx_DotError_DotError : PySem.W.kitOne K (.ref (fa 34)) (.ref (fa 34)) = some true
  kx_DotError_BadPrime : PySem.W.kitOne K (.ref (fa 34)) (.ref (fa 35)) = some false
  kx_DotError_BadRoot : PySem.W.kitOne K (.ref (fa 34)) (.ref (fa 36)) = some false
  kx_DotError_BadNumber : PySem.W.kitOne K (.ref (fa 34)) (.ref (fa 37)) = some false
  kx_DotError_BadColumn : PySem.W.kitOne K (.ref (fa 34)) (.ref (fa 38)) = some false
  kx_DotError_BadRow : PySem.W.kitOne K (.ref (fa 34)) (.ref (fa 39)) = some false
  kx_DotError_BadArrow : PySem.W.kitOne K (.ref (fa 34)) (.ref (fa 40)) = some false
  kx_DotError_BadDots : PySem.W.kitOne K (.ref (fa 34)) (.ref (fa 41)) = some false
  kx_DotError_BadWay : PySem.W.kitOne K (.ref (fa 34)) (.ref (fa 42)) = some false
  kx_DotError_NoCorner : PySem.W.kitOne K (.ref (fa 34)) (.ref (fa 43)) = some false
  g_BadPrime : mg "BadPrime" = some (.ref (fa 35))
  x_BadPrime : XcF K (fa 35) (fa 34)
  kx_BadPrime_DotError : PySem.W.kitOne K (.ref (fa 35)) (.ref (fa 34)) = some true
  kx_BadPrime_BadPrime : PySem.W.kitOne K (.ref (fa 35)) (.ref (fa 35)) = some true
  kx_BadPrime_BadRoot : PySem.W.kitOne K (.ref (fa 35)) (.ref (fa 36)) = some false
  kx_BadPrime_BadNumber : PySem.W.kitOne K (.ref (fa 35)) (.ref (fa 37)) = some false
  kx_BadPrime_BadColumn : PySem.W.kitOne K (.ref (fa 35)) (.ref (fa 38)) = some false
  kx_BadPrime_BadRow : PySem.W.kitOne K (.ref (fa 35)) (.ref (fa 39)) = some false
  kx_BadPrime_BadArrow : PySem.W.kitOne K (.ref (fa 35)) (.ref (fa 40)) = some false
  kx_BadPrime_BadDots : PySem.W.kitOne K (.ref (fa 35)) (.ref (fa 41)) = some false
  kx_BadPrime_BadWay : PySem.W.kitOne K (.ref (fa 35)) (.ref (fa 42)) = some false
  kx_BadPrime_NoCorner : PySem.W.kitOne K (.ref (fa 35)) (.ref (fa 43)) = some false
  g_BadRoot : mg "BadRoot" = some (.ref (fa 36))
  x_BadRoot : XcF K (fa 36) (fa 34)
  kx_BadRoot_DotError : PySem.W.kitOne K (.ref (fa 36)) (.ref (fa 34)) = some true
  kx_BadRoot_BadPrime : PySem.W.kitOne K (.ref (fa 36)) (.ref (fa 35)) = some false
  kx_BadRoot_BadRoot : PySem.W.kitOne K (.ref (fa 36)) (.ref (fa 36)) = some true
  kx_BadRoot_BadNumber : PySem.W.kitOne K (.ref (fa 36)) (.ref (fa 37)) = some false
  kx_BadRoot_BadColumn : PySem.W.kitOne K (.ref (fa 36)) (.ref (fa 38)) = some false
  kx_BadRoot_BadRow : PySem.W.kitOne K (.ref (fa 36)) (.ref (fa 39)) = some false
  kx_BadRoot_BadArrow : PySem.W.kitOne K (.ref (fa 36)) (.ref (fa 40)) = some false
  kx_BadRoot_BadDots : PySem.W.kitOne K (.ref (fa 36)) (.ref (fa 41)) = some false
  kx_BadRoot_BadWay : PySem.W.kitOne K (.ref (fa 36)) (.ref (fa 42)) = some false
  kx_BadRoot_NoCorner : PySem.W.kitOne K (.ref (fa 36)) (.ref (fa 43)) = some false
  g_BadNumber : mg "BadNumber" = some (.ref (fa 37))
  x_BadNumber : XcF K (fa 37) (fa 34)
  kx_BadNumber_DotError : PySem.W.kitOne K (.ref (fa 37)) (.ref (fa 34)) = some true
  kx_BadNumber_BadPrime : PySem.W.kitOne K (.ref (fa 37)) (.ref (fa 35)) = some false
  kx_BadNumber_BadRoot : PySem.W.kitOne K (.ref (fa 37)) (.ref (fa 36)) = some false
  kx_BadNumber_BadNumber : PySem.W.kitOne K (.ref (fa 37)) (.ref (fa 37)) = some true
  kx_BadNumber_BadColumn : PySem.W.kitOne K (.ref (fa 37)) (.ref (fa 38)) = some false
  kx_BadNumber_BadRow : PySem.W.kitOne K (.ref (fa 37)) (.ref (fa 39)) = some false
  kx_BadNumber_BadArrow : PySem.W.kitOne K (.ref (fa 37)) (.ref (fa 40)) = some false
  kx_BadNumber_BadDots : PySem.W.kitOne K (.ref (fa 37)) (.ref (fa 41)) = some false
  kx_BadNumber_BadWay : PySem.W.kitOne K (.ref (fa 37)) (.ref (fa 42)) = some false
  kx_BadNumber_NoCorner : PySem.W.kitOne K (.ref (fa 37)) (.ref (fa 43)) = some false
  g_BadColumn : mg "BadColumn" = some (.ref (fa 38))
  x_BadColumn : XcF K (fa 38) (fa 34)
  kx_BadColumn_DotError : PySem.W.kitOne K (.ref (fa 38)) (.ref (fa 34)) = some true
  kx_BadColumn_BadPrime : PySem.W.kitOne K (.ref (fa 38)) (.ref (fa 35)) = some false
  kx_BadColumn_BadRoot : PySem.W.kitOne K (.ref (fa 38)) (.ref (fa 36)) = some false
  kx_BadColumn_BadNumber : PySem.W.kitOne K (.ref (fa 38)) (.ref (fa 37)) = some false
  kx_BadColumn_BadColumn : PySem.W.kitOne K (.ref (fa 38)) (.ref (fa 38)) = some true
  kx_BadColumn_BadRow : PySem.W.kitOne K (.ref (fa 38)) (.ref (fa 39)) = some false
  kx_BadColumn_BadArrow : PySem.W.kitOne K (.ref (fa 38)) (.ref (fa 40)) = some false
  kx_BadColumn_BadDots : PySem.W.kitOne K (.ref (fa 38)) (.ref (fa 41)) = some false
  kx_BadColumn_BadWay : PySem.W.kitOne K (.ref (fa 38)) (.ref (fa 42)) = some false
  kx_BadColumn_NoCorner : PySem.W.kitOne K (.ref (fa 38)) (.ref (fa 43)) = some false
  g_BadRow : mg "BadRow" = some (.ref (fa 39))
  x_BadRow : XcF K (fa 39) (fa 34)
  kx_BadRow_DotError : PySem.W.kitOne K (.ref (fa 39)) (.ref (fa 34)) = some true
  kx_BadRow_BadPrime : PySem.W.kitOne K (.ref (fa 39)) (.ref (fa 35)) = some false
  kx_BadRow_BadRoot : PySem.W.kitOne K (.ref (fa 39)) (.ref (fa 36)) = some false
  kx_BadRow_BadNumber : PySem.W.kitOne K (.ref (fa 39)) (.ref (fa 37)) = some false
  kx_BadRow_BadColumn : PySem.W.kitOne K (.ref (fa 39)) (.ref (fa 38)) = some false
  kx_BadRow_BadRow : PySem.W.kitOne K (.ref (fa 39)) (.ref (fa 39)) = some true
  kx_BadRow_BadArrow : PySem.W.kitOne K (.ref (fa 39)) (.ref (fa 40)) = some false
  kx_BadRow_BadDots : PySem.W.kitOne K (.ref (fa 39)) (.ref (fa 41)) = some false
  kx_BadRow_BadWay : PySem.W.kitOne K (.ref (fa 39)) (.ref (fa 42)) = some false
  kx_BadRow_NoCorner : PySem.W.kitOne K (.ref (fa 39)) (.ref (fa 43)) = some false
  g_BadArrow : mg "BadArrow" = some (.ref (fa 40))
  x_BadArrow : XcF K (fa 40) (fa 34)
  kx_BadArrow_DotError : PySem.W.kitOne K (.ref (fa 40)) (.ref (fa 34)) = some true
  kx_BadArrow_BadPrime : PySem.W.kitOne K (.ref (fa 40)) (.ref (fa 35)) = some false
  kx_BadArrow_BadRoot : PySem.W.kitOne K (.ref (fa 40)) (.ref (fa 36)) = some false
  kx_BadArrow_BadNumber : PySem.W.kitOne K (.ref (fa 40)) (.ref (fa 37)) = some false
  kx_BadArrow_BadColumn : PySem.W.kitOne K (.ref (fa 40)) (.ref (fa 38)) = some false
  kx_BadArrow_BadRow : PySem.W.kitOne K (.ref (fa 40)) (.ref (fa 39)) = some false
  kx_BadArrow_BadArrow : PySem.W.kitOne K (.ref (fa 40)) (.ref (fa 40)) = some true
  kx_BadArrow_BadDots : PySem.W.kitOne K (.ref (fa 40)) (.ref (fa 41)) = some false
  kx_BadArrow_BadWay : PySem.W.kitOne K (.ref (fa 40)) (.ref (fa 42)) = some false
  kx_BadArrow_NoCorner : PySem.W.kitOne K (.ref (fa 40)) (.ref (fa 43)) = some false
  g_BadDots : mg "BadDots" = some (.ref (fa 41))
  x_BadDots : XcF K (fa 41) (fa 34)
  kx_BadDots_DotError : PySem.W.kitOne K (.ref (fa 41)) (.ref (fa 34)) = some true
  kx_BadDots_BadPrime : PySem.W.kitOne K (.ref (fa 41)) (.ref (fa 35)) = some false
  kx_BadDots_BadRoot : PySem.W.kitOne K (.ref (fa 41)) (.ref (fa 36)) = some false
  kx_BadDots_BadNumber : PySem.W.kitOne K (.ref (fa 41)) (.ref (fa 37)) = some false
  kx_BadDots_BadColumn : PySem.W.kitOne K (.ref (fa 41)) (.ref (fa 38)) = some false
  kx_BadDots_BadRow : PySem.W.kitOne K (.ref (fa 41)) (.ref (fa 39)) = some false
  kx_BadDots_BadArrow : PySem.W.kitOne K (.ref (fa 41)) (.ref (fa 40)) = some false
  kx_BadDots_BadDots : PySem.W.kitOne K (.ref (fa 41)) (.ref (fa 41)) = some true
  kx_BadDots_BadWay : PySem.W.kitOne K (.ref (fa 41)) (.ref (fa 42)) = some false
  kx_BadDots_NoCorner : PySem.W.kitOne K (.ref (fa 41)) (.ref (fa 43)) = some false
  g_BadWay : mg "BadWay" = some (.ref (fa 42))
  x_BadWay : XcF K (fa 42) (fa 34)
  kx_BadWay_DotError : PySem.W.kitOne K (.ref (fa 42)) (.ref (fa 34)) = some true
  kx_BadWay_BadPrime : PySem.W.kitOne K (.ref (fa 42)) (.ref (fa 35)) = some false
  kx_BadWay_BadRoot : PySem.W.kitOne K (.ref (fa 42)) (.ref (fa 36)) = some false
  kx_BadWay_BadNumber : PySem.W.kitOne K (.ref (fa 42)) (.ref (fa 37)) = some false
  kx_BadWay_BadColumn : PySem.W.kitOne K (.ref (fa 42)) (.ref (fa 38)) = some false
  kx_BadWay_BadRow : PySem.W.kitOne K (.ref (fa 42)) (.ref (fa 39)) = some false
  kx_BadWay_BadArrow : PySem.W.kitOne K (.ref (fa 42)) (.ref (fa 40)) = some false
  kx_BadWay_BadDots : PySem.W.kitOne K (.ref (fa 42)) (.ref (fa 41)) = some false
  kx_BadWay_BadWay : PySem.W.kitOne K (.ref (fa 42)) (.ref (fa 42)) = some true
  kx_BadWay_NoCorner : PySem.W.kitOne K (.ref (fa 42)) (.ref (fa 43)) = some false
  g_NoCorner : mg "NoCorner" = some (.ref (fa 43))
  x_NoCorner : XcF K (fa 43) (fa 34)
  kx_NoCorner_DotError : PySem.W.kitOne K (.ref (fa 43)) (.ref (fa 34)) = some true
  kx_NoCorner_BadPrime : PySem.W.kitOne K (.ref (fa 43)) (.ref (fa 35)) = some false
  kx_NoCorner_BadRoot : PySem.W.kitOne K (.ref (fa 43)) (.ref (fa 36)) = some false
  kx_NoCorner_BadNumber : PySem.W.kitOne K (.ref (fa 43)) (.ref (fa 37)) = some false
  kx_NoCorner_BadColumn : PySem.W.kitOne K (.ref (fa 43)) (.ref (fa 38)) = some false
  kx_NoCorner_BadRow : PySem.W.kitOne K (.ref (fa 43)) (.ref (fa 39)) = some false
  kx_NoCorner_BadArrow : PySem.W.kitOne K (.ref (fa 43)) (.ref (fa 40)) = some false
  kx_NoCorner_BadDots : PySem.W.kitOne K (.ref (fa 43)) (.ref (fa 41)) = some false
  kx_NoCorner_BadWay : PySem.W.kitOne K (.ref (fa 43)) (.ref (fa 42)) = some false
  kx_NoCorner_NoCorner : PySem.W.kitOne K (.ref (fa 43)) (.ref (fa 43)) = some true
  g_is_whole : mg "is_whole" = some (.ref (fa 0))
  F_is_whole : Fun K "is_whole" "is_whole" s_is_whole (fa 0) (fd 0)
  b_is_whole : Binds K (fd 0) ["thing"] []
  g_is_prime : mg "is_prime" = some (.ref (fa 1))
  F_is_prime : Fun K "is_prime" "is_prime" s_is_prime (fa 1) (fd 1)
  b_is_prime : Binds K (fd 1) ["number"] []
  g_asked_prime : mg "asked_prime" = some (.ref (fa 2))
  F_asked_prime : Fun K "asked_prime" "asked_prime" s_asked_prime (fa 2) (fd 2)
  b_asked_prime : Binds K (fd 2) ["prime", "most"] []
  g_power : mg "power" = some (.ref (fa 3))
  F_power : Fun K "power" "power" s_power (fa 3) (fd 3)
  b_power : Binds K (fd 3) ["number", "times", "prime"] []
  g_root_of : mg "root_of" = some (.ref (fa 4))
  F_root_of : Fun K "root_of" "root_of" s_root_of (fa 4) (fd 4)
  b_root_of : Binds K (fd 4) ["prime", "number"] []
  g_is_root : mg "is_root" = some (.ref (fa 5))
  F_is_root : Fun K "is_root" "is_root" s_is_root (fa 5) (fd 5)
  b_is_root : Binds K (fd 5) ["prime", "number"] []
  g_least_root : mg "least_root" = some (.ref (fa 6))
  F_least_root : Fun K "least_root" "least_root" s_least_root (fa 6) (fd 6)
  b_least_root : Binds K (fd 6) ["prime"] []
  g_asked_root : mg "asked_root" = some (.ref (fa 7))
  F_asked_root : Fun K "asked_root" "asked_root" s_asked_root (fa 7) (fd 7)
  b_asked_root : Binds K (fd 7) ["prime", "root"] []
  g_asked_plan : mg "asked_plan" = some (.ref (fa 8))
  F_asked_plan : Fun K "asked_plan" "asked_plan" s_asked_plan (fa 8) (fd 8)
  b_asked_plan : Binds K (fd 8) ["prime", "root", "begin", "most"] []
  g_row_of : mg "row_of" = some (.ref (fa 9))
  F_row_of : Fun K "row_of" "row_of" s_row_of (fa 9) (fd 9)
  b_row_of : Binds K (fd 9) ["prime", "root", "begin", "column"] []
  g_found_column : mg "found_column" = some (.ref (fa 10))
  F_found_column : Fun K "found_column" "found_column" s_found_column (fa 10) (fd 10)
  b_found_column : Binds K (fd 10) ["prime", "root", "begin", "row"] []
  g_column_of : mg "column_of" = some (.ref (fa 11))
  F_column_of : Fun K "column_of" "column_of" s_column_of (fa 11) (fd 11)
  b_column_of : Binds K (fd 11) ["prime", "root", "begin", "row"] []
  g_arrow_of : mg "arrow_of" = some (.ref (fa 12))
  F_arrow_of : Fun K "arrow_of" "arrow_of" s_arrow_of (fa 12) (fd 12)
  b_arrow_of : Binds K (fd 12) ["prime", "root", "begin", "across", "up"] []
  g_dots_of : mg "dots_of" = some (.ref (fa 13))
  F_dots_of : Fun K "dots_of" "dots_of" s_dots_of (fa 13) (fd 13)
  b_dots_of : Binds K (fd 13) ["prime", "root", "begin"] []
  g_crossed : mg "crossed" = some (.ref (fa 14))
  F_crossed : Fun K "crossed" "crossed" s_crossed (fa 14) (fd 14)
  b_crossed : Binds K (fd 14) ["prime", "root", "other"] []
  g_first_same : mg "first_same" = some (.ref (fa 15))
  F_first_same : Fun K "first_same" "first_same" s_first_same (fa 15) (fd 15)
  b_first_same : Binds K (fd 15) ["dots"] []
  F_Apart_shows : Fun K "shows" "Apart.shows" s_Apart_shows (fa 16) (fd 16)
  b_Apart_shows : Binds K (fd 16) ["self", "dots"] []
  F_Same_init : Fun K "__init__" "Same.__init__" s_Same_init (fa 17) (fd 17)
  b_Same_init : Binds K (fd 17) ["self", "first", "second", "across"] []
  F_Same_shows : Fun K "shows" "Same.shows" s_Same_shows (fa 18) (fd 18)
  b_Same_shows : Binds K (fd 18) ["self", "dots"] []
  g_asked_dots : mg "asked_dots" = some (.ref (fa 19))
  F_asked_dots : Fun K "asked_dots" "asked_dots" s_asked_dots (fa 19) (fd 19)
  b_asked_dots : Binds K (fd 19) ["dots"] []
  g_judged : mg "judged" = some (.ref (fa 20))
  F_judged : Fun K "judged" "judged" s_judged (fa 20) (fd 20)
  b_judged : Binds K (fd 20) ["dots"] []
  g_turned : mg "turned" = some (.ref (fa 21))
  F_turned : Fun K "turned" "turned" s_turned (fa 21) (fd 21)
  b_turned : Binds K (fd 21) ["dots", "way"] []
  g_without_corner : mg "without_corner" = some (.ref (fa 22))
  F_without_corner : Fun K "without_corner" "without_corner" s_without_corner (fa 22) (fd 22)
  b_without_corner : Binds K (fd 22) ["dots"] []
  g__law_kinds : mg "_law_kinds" = some (.ref (fa 23))
  F__law_kinds : Fun K "_law_kinds" "_law_kinds" s__law_kinds (fa 23) (fd 23)
  b__law_kinds : Binds K (fd 23) ["_law_error"] []
  g__law_refused : mg "_law_refused" = some (.ref (fa 24))
  F__law_refused : Fun K "_law_refused" "_law_refused" s__law_refused (fa 24) (fd 24)
  b__law_refused : Binds K (fd 24) ["_law_ask", "_law_thing", "_law_due"] []
  g__law_plain : mg "_law_plain" = some (.ref (fa 25))
  F__law_plain : Fun K "_law_plain" "_law_plain" s__law_plain (fa 25) (fd 25)
  b__law_plain : Binds K (fd 25) ["_law_thing"] []
  g__law_truths : mg "_law_truths" = some (.ref (fa 26))
  F__law_truths : Fun K "_law_truths" "_law_truths" s__law_truths (fa 26) (fd 26)
  b__law_truths : Binds K (fd 26) ["_law_things"] []
  g__law_known_right : mg "_law_known_right" = some (.ref (fa 27))
  F__law_known_right : Fun K "_law_known_right" "_law_known_right" s__law_known_right (fa 27) (fd 27)
  b__law_known_right : Binds K (fd 27) ["_law_far"] []
  g__law_dots_right : mg "_law_dots_right" = some (.ref (fa 28))
  F__law_dots_right : Fun K "_law_dots_right" "_law_dots_right" s__law_dots_right (fa 28) (fd 28)
  b__law_dots_right : Binds K (fd 28) [] []
  g__law_bad_right : mg "_law_bad_right" = some (.ref (fa 29))
  F__law_bad_right : Fun K "_law_bad_right" "_law_bad_right" s__law_bad_right (fa 29) (fd 29)
  b__law_bad_right : Binds K (fd 29) ["_law_whole"] []
  g__law_has_no_corner : mg "_law_has_no_corner" = some (.ref (fa 30))
  F__law_has_no_corner : Fun K "_law_has_no_corner" "_law_has_no_corner" s__law_has_no_corner (fa 30) (fd 30)
  b__law_has_no_corner : Binds K (fd 30) ["_law_dots"] []
  g__law_promises_right : mg "_law_promises_right" = some (.ref (fa 31))
  F__law_promises_right : Fun K "_law_promises_right" "_law_promises_right" s__law_promises_right (fa 31) (fd 31)
  b__law_promises_right : Binds K (fd 31) [] []
  g__law_more_promises : mg "_law_more_promises" = some (.ref (fa 32))
  F__law_more_promises : Fun K "_law_more_promises" "_law_more_promises" s__law_more_promises (fa 32) (fd 32)
  b__law_more_promises : Binds K (fd 32) [] []
  g_law : mg "law" = some (.ref (fa 33))
  F_law : Fun K "law" "law" s_law (fa 33) (fd 33)
  b_law : Binds K (fd 33) ["_law_script"] []
section
variable {P : Program} {w : World} {K : PySem.W.Frag} {mg : Str → Option Value} {base : Heap}
variable {fa : Nat → Addr} {fd : Nat → FuncData} {tk : Nat → Tok}
end
end Lw
namespace Lw
open PySem PySem.Spec PyProof.Rows L2 AD
section
variable {P : Program} {w : World} {K : PySem.W.Frag} {mg : Str → Option Value} {base : Heap}
variable {fa : Nat → Addr} {fd : Nat → FuncData} {tk : Nat → Tok}
/-! ### small things -/
theorem op_mulB {X : Cx} : OpR X (binaryOp .Mult) (rI IntMulOk fun i j => .int (i * j)) :=
  opI fun _ _ _ _ _ _ _ hc q => mul_int q hc
theorem mulL {i j : Int} (h1 : -(2 ^ 64) < i) (h2 : i < 2 ^ 64) : IntMulOk i j := .of_left (intBits_le_64 h1 h2)
theorem mulR {i j : Int} (h1 : -(2 ^ 64) < j) (h2 : j < 2 ^ 64) : IntMulOk i j := .of_right (intBits_le_64 h1 h2)
theorem same_upd {H : Hp} {p : Addr} {o : HO} (h : H p = none) : Same H (upd H p o) := fun b x e => by
  rw [upd_ne (ne_of_none e h)]
  exact e
theorem dec_vint {i j : Int} : (decide (V.int i = V.int j) = true) = (i = j) := by
  apply propext
  rw [decide_eq_true_iff]
  exact ⟨fun e => V.int.inj e, fun e => by rw [e]⟩
theorem dF {c : Prop} [Decidable c] (e : ¬ (decide c = true)) : ¬ c := fun h => e (decide_eq_true h)
theorem dT {c : Prop} [Decidable c] (e : decide c = true) : c := of_decide_eq_true e
theorem z2 : (0 : Int) < 2 := by decide
theorem dp_ints {K : PySem.W.Frag} {H : Hp} : ∀ ns : List Int, DpAll K H (ns.map V.int) (ns.map PyData.int)
  | [] => .nil
  | n :: r => .cons (.int n) (dp_ints r)
theorem dp_list {K : PySem.W.Frag} {H : Hp} {a : Addr} {ns : List Int} (h : SqL K H a (ns.map V.int)) : Dp K H (.ref a) (.list (ns.map PyData.int)) := .lst h (dp_ints ns)
theorem eqv_ints : ∀ ns ms : List Int, PyData.eqvAll (ns.map PyData.int) (ms.map PyData.int) = decide (ns = ms)
  | [], [] => rfl
  | [], _ :: _ => rfl
  | _ :: _, [] => rfl
  | n :: r, m :: q => by
    rw [List.map_cons, List.map_cons, PyData.eqvAll, eqv_ints r q, PyData.eqv]
    by_cases e : n = m
    · subst e
      by_cases z : r = q
      · subst z; simp
      · simp [z]
    · simp [e]
theorem canLay_ints : ∀ ns : List Int, PyData.canLayAll0 (ns.map PyData.int) = true
  | [] => rfl
  | n :: r => by
    rw [List.map_cons, PyData.canLayAll0, canLay_ints r]
    rfl
theorem depth_ints : ∀ ns : List Int, PyData.depthAll (ns.map PyData.int) ≤ 1
  | [] => by decide
  | n :: r => by
    have h := depth_ints r
    rw [List.map_cons, PyData.depthAll]
    exact Nat.max_le.mpr ⟨by simp [PyData.depth], h⟩
theorem shaped_list (ns : List Int) : SeqAt.shaped (.list (ns.map PyData.int)) = true := by
  have h := depth_ints ns
  unfold SeqAt.shaped
  rw [PyData.canLay0, canLay_ints, PyData.depth, decide_eq_true (show PyData.depthAll (ns.map PyData.int) + 1 ≤ 64 by omega)]
  rfl
/-- two lists of ints -/
def rEqL (K : PySem.W.Frag) : R2 := fun x y H Q => ∃ (a b : Addr) (ns ms : List Int), x = .ref a ∧ y = .ref b ∧ SqL K H a (ns.map V.int) ∧ SqL K H b (ms.map V.int) ∧ Q (.bl (decide (ns = ms))) H
def rNeL (K : PySem.W.Frag) : R2 := fun x y H Q => ∃ (a b : Addr) (ns ms : List Int), x = .ref a ∧ y = .ref b ∧ SqL K H a (ns.map V.int) ∧ SqL K H b (ms.map V.int) ∧ Q (.bl (!decide (ns = ms))) H
theorem op_eqL {X : Cx} (hu : X.A.units + 64 < cLine) : OpR X (compareOp .Eq) (rEqL X.K) := by
  intro pins s σ H x y u v Q I rx ry h
  obtain ⟨a, b, ns, ms, rfl, rfl, ha, hb, q⟩ := h
  exact op_eqD hu pins s σ H _ _ u v Q I rx ry ⟨_, _, dp_list ha, dp_list hb, shaped_list ns, shaped_list ms, by rw [PyData.eqv, eqv_ints]; exact q⟩
theorem op_neL {X : Cx} (hu : X.A.units + 64 < cLine) : OpR X (compareOp .NotEq) (rNeL X.K) := by
  intro pins s σ H x y u v Q I rx ry h
  obtain ⟨a, b, ns, ms, rfl, rfl, ha, hb, q⟩ := h
  exact op_neD hu pins s σ H _ _ u v Q I rx ry ⟨_, _, dp_list ha, dp_list hb, shaped_list ns, shaped_list ms, by rw [PyData.eqv, eqv_ints]; exact q⟩
theorem cutV_mem {xs : List V} {lo hi : Option Int} {v : V} (h : v ∈ cutV xs lo hi) : v ∈ xs := by
  unfold cutV at h
  exact List.mem_of_mem_drop (List.mem_of_mem_take h)
/-- the first k of a list of ints -/
theorem cutV_to (ns : List Int) (k : Nat) : cutV (ns.map V.int) none (some (k : Int)) = (ns.take k).map V.int := by
  unfold cutV
  rw [HT.sIx_none, HT.sIx_nat, List.drop_zero, Nat.sub_zero, List.length_map, ← List.map_take, ← List.take_eq_take_min]
/-- two readings of one expression: either will do -/
theorem pe_alt {X : Cx} {e : Expr} {t u : TE} (h : PE X e t) (k : PE X e u) : PE X e (fun σ H Q => t σ H Q ∨ u σ H Q) :=
  ⟨fun pins s σ H Q I hw => hw.elim (h.run pins s σ H Q I) (k.run pins s σ H Q I)⟩
/-- len of a list or a tuple -/
def rLenS0 (K : PySem.W.Frag) : List V → Hp → VK → Prop := fun xs H Q => ∃ p ys, xs = [.ref p] ∧ (SqL K H p ys ∨ SqT K H p ys) ∧ Q (.int (ys.length : Nat)) H
end
end Lw
namespace Lw
open PySem PySem.Spec PyProof.Rows L2 AD
section
variable {P : Program} {w : World} {K : PySem.W.Frag} {mg : Str → Option Value} {base : Heap}
variable {fa : Nat → Addr} {fd : Nat → FuncData} {tk : Nat → Tok}
/-! ### power -/
def spPower : Sp := fun vs H Q _ => ∃ a t p : Nat, vs = [.int a, .int t, .int p] ∧ 2 ≤ p ∧ p ≤ 2000 ∧ a ≤ 2000 ∧ Q (.int ((a ^ t % p : Nat) : Int)) H
theorem pow_step0 {p f a t : Nat} (h : t % 2 = 0) : f * (a * a % p) ^ (t / 2) % p = f * a ^ t % p := by
  have e : t = 2 * (t / 2) := by omega
  conv => rhs; rw [e, Nat.pow_mul, Nat.pow_two, Nat.mul_mod, Nat.pow_mod, ← Nat.mul_mod]
theorem pow_step1 {p f a t : Nat} (h : t % 2 = 1) : (f * a % p) * (a * a % p) ^ (t / 2) % p = f * a ^ t % p := by
  have e : t = 2 * (t / 2) + 1 := by omega
  conv => rhs; rw [e, Nat.pow_succ, Nat.pow_mul, Nat.pow_two, Nat.mul_comm _ a, ← Nat.mul_assoc, Nat.mul_mod, Nat.pow_mod, ← Nat.mul_mod]
  rw [Nat.mul_mod, Nat.pow_mod, Nat.mod_mod, Nat.mod_mod, ← Nat.mul_mod]
theorem ok_power (T : Txt K mg fa fd tk) : FnOk P w K mg base CX0 1 (fa 3) (fd 3) ["number", "times", "prime"] spPower := by
  refine T.F_power.ok sc_power (fun vs H Q E h => ?_) (fun cdv A outer s H vs Q E hr h => ?_)
  · obtain ⟨a, t, p, rfl, _⟩ := h
    rfl
  · obtain ⟨a, t, p, rfl, hp, hp2, ha, q⟩ := h
    refine ⟨_, (pss_cons (ps_set (i := 3) sc_power.nd rfl (.inl rfl) pe_int)
      (pss_cons (ps_while PassesOwn.never (pt_cmpR op_gt (pv 1) pe_int (nomark _)) (pss_cons (ps_if (pt_cmpR op_eq (pe_op op_mod (pv 1) pe_int) pe_int (nomark _)) (pss_one (ps_set (i := 3) sc_power.nd rfl (.inl rfl) (pe_op op_mod (pe_op op_mulB (pv 3) (pv 0)) (pv 2)))) pss_nil)
      (pss_cons (ps_set (i := 0) sc_power.nd rfl (.inl rfl) (pe_op op_mod (pe_op op_mulB (pv 0) (pv 0)) (pv 2)))
      (pss_one (ps_set (i := 1) sc_power.nd rfl (.inl rfl) (pe_op op_fdiv (pv 1) pe_int))))))
      (pss_one (ps_ret (pv 3))))), ?_⟩
    refine ⟨fun m σ H' => H' = H ∧ ∃ a' f' : Nat, σ = [some (.int a'), some (.int m), some (.int p), some (.int f')] ∧ a' ≤ 2000 ∧ f' < p ∧ f' * a' ^ m % p = a ^ t % p, ⟨t, rfl, a, 1, rfl, ha, by omega, by rw [Nat.one_mul]⟩, fun m σ H' hW => ?_⟩
    obtain ⟨rfl, a', f', rfl, ha', hf', he⟩ := hW
    refine ⟨_, rfl, _, _, rfl, rfl, _, rfl, ite2 (fun e => ?_) (fun e => ?_)⟩
    · have hm : 0 < m := by have := of_decide_eq_true e; omega
      refine ⟨fun σ' H'' => ∃ m', m' < m ∧ H'' = H' ∧ ∃ a' f' : Nat, σ' = [some (.int a'), some (.int m'), some (.int p), some (.int f')] ∧ a' ≤ 2000 ∧ f' < p ∧ f' * a' ^ m' % p = a ^ t % p, fun _ _ h => h, ?_⟩
      refine ⟨_, rfl, _, _, rfl, rfl, z2, rfl, _, rfl, ite2 (fun e2 => ?_) (fun e2 => ?_)⟩
      · rw [dec_vint] at e2
        refine ⟨_, rfl, _, rfl, _, _, rfl, rfl, mulL (by omega) (by omega), _, rfl, _, _, rfl, rfl, by omega, ?_⟩
        refine ⟨_, rfl, _, rfl, _, _, rfl, rfl, mulL (by omega) (by omega), _, rfl, _, _, rfl, rfl, by omega, ?_⟩
        refine ⟨_, rfl, _, _, rfl, rfl, ⟨by decide, by decide⟩, ?_⟩
        refine ⟨m / 2, by omega, rfl, a' * a' % p, f' * a' % p, ?_, ?_, ?_, ?_⟩
        · simp
        · have := Nat.mod_lt (a' * a') (show p > 0 by omega); omega
        · exact Nat.mod_lt _ (by omega)
        · rw [pow_step1 (by omega), he]
      · rw [dec_vint] at e2
        refine ⟨_, rfl, _, rfl, _, _, rfl, rfl, mulL (by omega) (by omega), _, rfl, _, _, rfl, rfl, by omega, ?_⟩
        refine ⟨_, rfl, _, _, rfl, rfl, ⟨by decide, by decide⟩, ?_⟩
        refine ⟨m / 2, by omega, rfl, a' * a' % p, f', ?_, ?_, hf', ?_⟩
        · simp
        · have := Nat.mod_lt (a' * a') (show p > 0 by omega); omega
        · rw [pow_step0 (by omega), he]
    · have hm : m = 0 := by
        have := dF e
        omega
      subst hm
      rw [Nat.pow_zero, Nat.mul_one, Nat.mod_eq_of_lt hf'] at he
      subst he
      exact ⟨_, rfl, q⟩
end
end Lw
namespace Lw
open PySem PySem.Spec PyProof.Rows L2 AD
section
variable {P : Program} {w : World} {K : PySem.W.Frag} {mg : Str → Option Value} {base : Heap}
variable {fa : Nat → Addr} {fd : Nat → FuncData} {tk : Nat → Tok}
/-! ### is_whole, is_prime, asked_prime -/
/-- an int, or a thing of these kinds that is none -/
def spWhole (K : PySem.W.Frag) : Sp := fun vs H Q _ => ∃ v, vs = [v] ∧ ((∃ i, v = .int i ∧ Q (.bl true) H) ∨ ∃ n, TyX K H v (.type n) ∧ n ∈ ["NoneType", "str", "list", "tuple", "dict", "bool"] ∧ Q (.bl false) H)
theorem ok_is_whole (T : Txt K mg fa fd tk) : FnOk P w K mg base CX0 1 (fa 0) (fd 0) ["thing"] (spWhole K) := by
  refine T.F_is_whole.ok sc_is_whole (fun vs H Q E h => ?_) (fun cdv A outer s H vs Q E hr h => ?_)
  · obtain ⟨v, rfl, _⟩ := h
    rfl
  · obtain ⟨v, rfl, h⟩ := h
    refine ⟨_, (pss_one (ps_ret (pe_and (pe_callB call_isi (by rfl) T.m_isinstance (by decide +kernel) (pa_cons (pv 0) (pa_cons (pe_bltn (v := .ty "int") (u := .type "int") (by rfl) T.m_int (by decide +kernel) rfl) pa_nil))) (pe_one (pe_not (pe_callB call_isi (by rfl) T.m_isinstance (by decide +kernel) (pa_cons (pv 0) (pa_cons (pe_bltn (v := .ty "bool") (u := .type "bool") (by rfl) T.m_bool (by decide +kernel) rfl) pa_nil)))))))), ?_⟩
    rcases h with ⟨i, rfl, q⟩ | ⟨n, ty, hn, q⟩
    · refine ⟨_, rfl, _, _, _, _, true, rfl, .ty _, .base (.int _), kit_ty (by decide +kernel), true, rfl, iteT ?_⟩
      exact ⟨_, rfl, _, _, _, _, false, rfl, .ty _, .base (.int _), kit_ty (by decide +kernel), false, rfl, q⟩
    · simp only [List.mem_cons, List.not_mem_nil, or_false] at hn
      rcases hn with rfl | rfl | rfl | rfl | rfl | rfl
      · exact ⟨_, rfl, _, _, _, _, false, rfl, .ty _, ty, kit_ty (by decide +kernel), false, rfl, iteF q⟩
      · exact ⟨_, rfl, _, _, _, _, false, rfl, .ty _, ty, kit_ty (by decide +kernel), false, rfl, iteF q⟩
      · exact ⟨_, rfl, _, _, _, _, false, rfl, .ty _, ty, kit_ty (by decide +kernel), false, rfl, iteF q⟩
      · exact ⟨_, rfl, _, _, _, _, false, rfl, .ty _, ty, kit_ty (by decide +kernel), false, rfl, iteF q⟩
      · exact ⟨_, rfl, _, _, _, _, false, rfl, .ty _, ty, kit_ty (by decide +kernel), false, rfl, iteF q⟩
      · refine ⟨_, rfl, _, _, _, _, true, rfl, .ty _, ty, kit_ty (by decide +kernel), true, rfl, iteT ?_⟩
        exact ⟨_, rfl, _, _, _, _, true, rfl, .ty _, ty, kit_ty (by decide +kernel), true, rfl, q⟩
def spIsPrime : Sp := fun vs H Q _ => ∃ n : Nat, vs = [.int n] ∧ 2 ≤ n ∧ n ≤ 2000 ∧ Q (.bl (primeB n)) H
theorem ok_is_prime (T : Txt K mg fa fd tk) : FnOk P w K mg base CX0 1 (fa 1) (fd 1) ["number"] spIsPrime := by
  refine T.F_is_prime.ok sc_is_prime (fun vs H Q E h => ?_) (fun cdv A outer s H vs Q E hr h => ?_)
  · obtain ⟨v, rfl, _⟩ := h
    rfl
  · obtain ⟨n, rfl, hn, hn2, q⟩ := h
    refine ⟨_, (pss_cons (ps_set (i := 1) sc_is_prime.nd rfl (.inl rfl) pe_int)
      (pss_cons (ps_while PassesOwn.never (pt_cmpR op_le (pe_op op_mulB (pv 1) (pv 1)) (pv 0) (nomark _)) (pss_cons (ps_if (pt_cmpR op_eq (pe_op op_mod (pv 0) (pv 1)) pe_int (nomark _)) (pss_one (ps_ret pe_bl)) pss_nil)
      (pss_one (ps_set (i := 1) sc_is_prime.nd rfl (.inl rfl) (pe_op op_add (pv 1) pe_int)))))
      (pss_one (ps_ret pe_bl)))), ?_⟩
    refine ⟨fun m σ H' => H' = H ∧ ∃ a : Nat, σ = [some (.int n), some (.int a)] ∧ 2 ≤ a ∧ m + a = n + 2 ∧ primeLoop n m a = primeB n, ⟨n, rfl, 2, rfl, by omega, by omega, rfl⟩, fun m σ H' hW => ?_⟩
    obtain ⟨rfl, a, rfl, ha, hm, he⟩ := hW
    have hml : IntMulOk (a : Int) a := mulL (by omega) (by omega)
    refine ⟨_, rfl, _, rfl, _, _, rfl, rfl, hml, _, rfl, _, _, rfl, rfl, _, rfl, ite2 (fun e => ?_) (fun e => ?_)⟩
    · have e1 : a * a ≤ n := by have h := dT e; exact_mod_cast h
      have e2 : a ≤ n := Nat.le_trans (Nat.le_mul_of_pos_left a (by omega)) e1
      obtain ⟨k, rfl⟩ : ∃ k, m = k + 1 := ⟨m - 1, by omega⟩
      unfold primeLoop at he
      rw [Nat.ble_eq_true_of_le e1] at he
      refine ⟨fun σ' H'' => ∃ m', m' < k + 1 ∧ H'' = H' ∧ ∃ a : Nat, σ' = [some (.int n), some (.int a)] ∧ 2 ≤ a ∧ m' + a = n + 2 ∧ primeLoop n m' a = primeB n, fun _ _ h => h, ?_⟩
      refine ⟨_, rfl, _, rfl, _, _, rfl, rfl, by omega, rfl, _, rfl, ite2 (fun e3 => ?_) (fun e3 => ?_)⟩
      · rw [dec_vint] at e3
        have e4 : n % a = 0 := by omega
        rw [e4] at he
        rw [← he] at q
        exact q
      · rw [dec_vint] at e3
        have e4 : ¬ n % a = 0 := by omega
        have e5 : Nat.beq (n % a) 0 = false := by
          cases z : Nat.beq (n % a) 0 with
          | false => rfl
          | true => exact absurd (Nat.eq_of_beq_eq_true z) e4
        rw [e5] at he
        exact ⟨_, rfl, _, _, rfl, rfl, k, by omega, rfl, a + 1, rfl, by omega, by omega, he⟩
    · have e1 : ¬ a * a ≤ n := by have h := dF e; exact_mod_cast h
      have e5 : Nat.ble (a * a) n = false := by
        cases z : Nat.ble (a * a) n with
        | false => rfl
        | true => exact absurd (Nat.le_of_ble_eq_true z) e1
      have e6 : primeB n = true := by
        cases m with
        | zero => exact he.symm
        | succ k =>
          unfold primeLoop at he
          rw [e5] at he
          exact he.symm
      rw [e6] at q
      exact q
/-- a prime that is due: nothing is raised -/
def spAskedPrime : Sp := fun vs H Q _ => ∃ p m : Nat, vs = [.int p, .int m] ∧ Good p ∧ p ≤ m ∧ Q .non H
theorem ok_asked_prime (T : Txt K mg fa fd tk) : FnOk P w K mg base CX0 2 (fa 2) (fd 2) ["prime", "most"] spAskedPrime := by
  refine T.F_asked_prime.ok sc_asked_prime (fun vs H Q E h => ?_) (fun cdv A outer s H vs Q E hr h => ?_)
  · obtain ⟨p, m, rfl, _⟩ := h
    rfl
  · obtain ⟨p, m, rfl, G, hm, q⟩ := h
    have lo := G.lo
    have hi := G.hi
    refine ⟨_, (pss_one (ps_if (PW.pt (pw_or (pt_not (pt_val (pe_call (ok_is_whole T) (hr.mono (by decide)) (by rfl) T.g_is_whole T.F_is_whole.kp T.b_is_whole .nil pass0 (pa_cons (pv 0) pa_nil)))) (pw_or (pt_not (pt_chain op_le op_le pe_int (pv 0) (pv 1))) (pw_or1 (pt_not (pt_val (pe_call (ok_is_prime T) (hr.mono (by decide)) (by rfl) T.g_is_prime T.F_is_prime.kp T.b_is_prime .nil pass0 (pa_cons (pv 0) pa_nil)))))))) (pss_one ps_never) pss_nil)), ?_⟩
    refine ⟨_, rfl, _, rfl, .inl ⟨_, rfl, _, rfl, iteF ?_⟩⟩
    refine ⟨_, rfl, _, _, rfl, rfl, _, rfl, ?_⟩
    rw [decide_eq_true (show (3 : Int) ≤ p by omega)]
    refine iteT ⟨_, rfl, _, _, rfl, rfl, _, rfl, ?_⟩
    rw [decide_eq_true (show (p : Int) ≤ m by omega)]
    refine iteF ⟨_, rfl, p, rfl, by omega, by omega, _, rfl, ?_⟩
    rw [G.pr]
    exact iteF q
end
end Lw
namespace Lw
open PySem PySem.Spec PyProof.Rows L2 AD
section
variable {P : Program} {w : World} {K : PySem.W.Frag} {mg : Str → Option Value} {base : Heap}
variable {fa : Nat → Addr} {fd : Nat → FuncData} {tk : Nat → Tok}
/-! ### root_of, is_root, least_root -/
theorem beqF {a b : Nat} (h : ¬ a = b) : Nat.beq a b = false := by
  cases z : Nat.beq a b with
  | false => rfl
  | true => exact absurd (Nat.eq_of_beq_eq_true z) h
theorem bleF {a b : Nat} (h : ¬ a ≤ b) : Nat.ble a b = false := by
  cases z : Nat.ble a b with
  | false => rfl
  | true => exact absurd (Nat.le_of_ble_eq_true z) h
/-- what is stripped off leaves a divisor -/
theorem stripN_dvd (a : Nat) : ∀ (f left : Nat), stripN a f left ∣ left
  | 0, left => Nat.dvd_refl _
  | f + 1, left => by
    unfold stripN
    cases z : Nat.beq (left % a) 0 with
    | false => exact Nat.dvd_refl _
    | true =>
      have e : left % a = 0 := Nat.eq_of_beq_eq_true z
      exact Nat.dvd_trans (stripN_dvd a f (left / a)) (Nat.div_dvd_of_dvd (Nat.dvd_of_mod_eq_zero e))
theorem stripN_end {a f left : Nat} (h : ¬ left % a = 0) : stripN a f left = left := by
  cases f with
  | zero => rfl
  | succ f => unfold stripN; rw [beqF h]
theorem stripN_step {a f left : Nat} (h : left % a = 0) : stripN a (f + 1) left = stripN a f (left / a) := by
  rw [stripN, h]
def spRootOf : Sp := fun vs H Q _ => ∃ p g : Nat, vs = [.int p, .int g] ∧ 3 ≤ p ∧ p ≤ 2000 ∧ g < p ∧ Q (.bl (rootB p g)) H
theorem ok_root_of (T : Txt K mg fa fd tk) : FnOk P w K mg base CX0 2 (fa 4) (fd 4) ["prime", "number"] spRootOf := by
  refine T.F_root_of.ok sc_root_of (fun vs H Q E h => ?_) (fun cdv A outer s H vs Q E hr h => ?_)
  · obtain ⟨p, g, rfl, _⟩ := h
    rfl
  · obtain ⟨p, g, rfl, hp, hp2, hg, q⟩ := h
    refine ⟨_, (pss_cons (ps_set (i := 2) sc_root_of.nd rfl (.inl rfl) (pe_op op_sub (pv 0) pe_int))
      (pss_cons (ps_par (i := 3) (j := 4) (by rfl) sc_root_of.nd rfl rfl (by decide) rfl rfl (pa_cons (pv 2) (pa_cons pe_int pa_nil)) (by rfl))
      (pss_cons (ps_while PassesOwn.never (pt_cmpR op_gt (pv 3) pe_int (nomark _)) (pss_cons (ps_if (pt_cmpR op_eq (pe_op op_mod (pv 3) (pv 4)) pe_int (nomark _)) (pss_cons (ps_if (pt_cmpR op_eq (pe_call (ok_power T) (hr.mono (by decide)) (by rfl) T.g_power T.F_power.kp T.b_power .nil pass0 (pa_cons (pv 1) (pa_cons (pe_op op_fdiv (pv 2) (pv 4)) (pa_cons (pv 0) pa_nil)))) pe_int (nomark _)) (pss_one (ps_ret pe_bl)) pss_nil)
      (pss_one (ps_while PassesOwn.never (pt_cmpR op_eq (pe_op op_mod (pv 3) (pv 4)) pe_int (nomark _)) (pss_one (ps_set (i := 3) sc_root_of.nd rfl (.inl rfl) (pe_op op_fdiv (pv 3) (pv 4))))))) pss_nil)
      (pss_one (ps_set (i := 4) sc_root_of.nd rfl (.inl rfl) (pe_op op_add (pv 4) pe_int)))))
      (pss_one (ps_ret pe_bl))))), ?_⟩
    refine ⟨_, rfl, _, _, rfl, rfl, ?_⟩
    refine ⟨_, rfl, _, _, rfl, ?_⟩
    let W : Nat → L2.St → Hp → Prop := fun m σ H' => H' = H ∧ ∃ l a : Nat, σ = [some (.int p), some (.int g), some (.int ((p : Int) - 1)), some (.int l), some (.int a)] ∧ 1 ≤ l ∧ l ≤ p - 1 ∧ 2 ≤ a ∧ a ≤ p ∧ (∀ d, 2 ≤ d → d < a → ¬ l % d = 0) ∧ m + a = p + 2 ∧ rootLoop p g m l a = rootB p g
    refine ⟨W, ⟨p, rfl, p - 1, 2, ?_, by omega, by omega, by omega, by omega, fun d h1 h2 => by omega, by omega, rfl⟩, fun m σ H' hW => ?_⟩
    · have e : ((p - 1 : Nat) : Int) = (p : Int) - 1 := by omega
      rw [e]
      rfl
    obtain ⟨rfl, l, a, rfl, hl, hl2, ha, hap, hd, hm, he⟩ := hW
    refine ⟨_, rfl, _, _, rfl, rfl, _, rfl, ite2 (fun e => ?_) (fun e => ?_)⟩
    · have e1 : 1 < l := by have h := dT e; omega
      have hal : a ≤ l := by
        rcases Nat.lt_or_ge l a with z | z
        · exact absurd (Nat.mod_self l) (hd l (by omega) z)
        · exact z
      obtain ⟨k, rfl⟩ : ∃ k, m = k + 1 := ⟨m - 1, by omega⟩
      unfold rootLoop at he
      rw [bleF (show ¬ l ≤ 1 by omega)] at he
      refine ⟨fun σ' H'' => ∃ m', m' < k + 1 ∧ W m' σ' H'', fun _ _ h => h, ?_⟩
      refine ⟨_, rfl, _, rfl, _, _, rfl, rfl, by omega, rfl, _, rfl, ite2 (fun e3 => ?_) (fun e3 => ?_)⟩
      · rw [dec_vint] at e3
        have e4 : l % a = 0 := by omega
        rw [e4] at he
        refine ⟨_, rfl, _, rfl, _, rfl, _, _, rfl, rfl, ⟨by omega, by omega⟩, _, rfl, g, (p - 1) / a, p, ?_, by omega, by omega, by omega, rfl, _, rfl, ite2 (fun e5 => ?_) (fun e5 => ?_)⟩
        · have e : ((p : Int) - 1) / (a : Int) = (((p - 1) / a : Nat) : Int) := by
            rw [Int.natCast_ediv, show ((p - 1 : Nat) : Int) = (p : Int) - 1 by omega]
          show [V.int (g : Int), V.int (((p : Int) - 1) / (a : Int)), V.int (p : Int)] = _
          rw [e]
        · rw [dec_vint] at e5
          have e6 : g ^ ((p - 1) / a) % p = 1 := by omega
          rw [e6] at he
          rw [← he] at q
          exact q
        · rw [dec_vint] at e5
          have e6 : ¬ g ^ ((p - 1) / a) % p = 1 := by omega
          rw [beqF e6] at he
          -- while left % at == 0
          refine ⟨fun m2 σ' H'' => H'' = H' ∧ ∃ l2 : Nat, σ' = [some (.int p), some (.int g), some (.int ((p : Int) - 1)), some (.int l2), some (.int a)] ∧ 1 ≤ l2 ∧ l2 ∣ l ∧ l2 ≤ m2 ∧ stripN a m2 l2 = stripN a l l, ⟨l, rfl, l, rfl, hl, Nat.dvd_refl _, by omega, rfl⟩, fun m2 σ' H'' hW2 => ?_⟩
          obtain ⟨rfl, l2, rfl, h21, h22, h23, h24⟩ := hW2
          refine ⟨_, rfl, _, rfl, _, _, rfl, rfl, by omega, rfl, _, rfl, ite2 (fun e7 => ?_) (fun e7 => ?_)⟩
          · rw [dec_vint] at e7
            have e8 : l2 % a = 0 := by omega
            obtain ⟨k2, rfl⟩ : ∃ k2, m2 = k2 + 1 := ⟨m2 - 1, by omega⟩
            rw [stripN_step e8] at h24
            have hal2 : a ≤ l2 := Nat.le_of_dvd (by omega) (Nat.dvd_of_mod_eq_zero e8)
            have hdl : l2 / a < l2 := Nat.div_lt_self (by omega) (by omega)
            refine ⟨fun σ' H2 => ∃ m', m' < k2 + 1 ∧ H2 = H'' ∧ ∃ l2 : Nat, σ' = [some (.int p), some (.int g), some (.int ((p : Int) - 1)), some (.int l2), some (.int a)] ∧ 1 ≤ l2 ∧ l2 ∣ l ∧ l2 ≤ m' ∧ stripN a m' l2 = stripN a l l, fun _ _ h => h, ?_⟩
            refine ⟨_, rfl, _, rfl, _, _, rfl, rfl, ⟨by omega, by omega⟩, ?_⟩
            refine ⟨k2, by omega, rfl, l2 / a, rfl, ?_, Nat.dvd_trans (Nat.div_dvd_of_dvd (Nat.dvd_of_mod_eq_zero e8)) h22, by omega, h24⟩
            exact Nat.div_pos hal2 (by omega)
          · rw [dec_vint] at e7
            have e8 : ¬ l2 % a = 0 := by omega
            rw [stripN_end e8] at h24
            have hle : l2 ≤ l := Nat.le_of_dvd (by omega) h22
            refine ⟨_, rfl, _, _, rfl, rfl, k, by omega, rfl, l2, a + 1, rfl, h21, by omega, by omega, by omega, fun d d1 d2 z => ?_, by omega, ?_⟩
            · by_cases y : d = a
              · subst y
                exact e8 z
              · exact hd d d1 (by omega) (Nat.mod_eq_zero_of_dvd (Nat.dvd_trans (Nat.dvd_of_mod_eq_zero z) h22))
            · rw [h24]
              exact he
      · rw [dec_vint] at e3
        have e4 : ¬ l % a = 0 := by omega
        rw [beqF e4] at he
        refine ⟨_, rfl, _, _, rfl, rfl, k, by omega, rfl, l, a + 1, rfl, hl, hl2, by omega, by omega, fun d d1 d2 => ?_, by omega, he⟩
        by_cases y : d = a
        · subst y
          exact e4
        · exact hd d d1 (by omega)
    · have e1 : l ≤ 1 := by have h := dF e; omega
      have e6 : rootB p g = true := by
        cases m with
        | zero => exact he.symm
        | succ k =>
          unfold rootLoop at he
          rw [Nat.ble_eq_true_of_le e1] at he
          exact he.symm
      rw [e6] at q
      exact q
def spIsRoot : Sp := fun vs H Q _ => ∃ p g : Nat, vs = [.int p, .int g] ∧ Good p ∧ 1 ≤ g ∧ g < p ∧ Q (.bl (rootB p g)) H
theorem ok_is_root (T : Txt K mg fa fd tk) : FnOk P w K mg base CX0 3 (fa 5) (fd 5) ["prime", "number"] spIsRoot := by
  refine T.F_is_root.ok sc_is_root (fun vs H Q E h => ?_) (fun cdv A outer s H vs Q E hr h => ?_)
  · obtain ⟨p, g, rfl, _⟩ := h
    rfl
  · obtain ⟨p, g, rfl, G, hg, hg2, q⟩ := h
    have lo := G.lo
    have hi := G.hi
    refine ⟨_, (pss_cons (ps_expr (pe_call (ok_asked_prime T) (hr.mono (by decide)) (by rfl) T.g_asked_prime T.F_asked_prime.kp T.b_asked_prime .nil pass0 (pa_cons (pv 0) (pa_cons (pe_glob (v := .int 2000) rfl T.g_MOST ⟨_, rfl⟩) pa_nil))))
      (pss_cons (ps_if (PW.pt (pw_or (pt_not (pt_val (pe_call (ok_is_whole T) (hr.mono (by decide)) (by rfl) T.g_is_whole T.F_is_whole.kp T.b_is_whole .nil pass0 (pa_cons (pv 1) pa_nil)))) (pw_or1 (pt_not (pt_chain op_le op_lt pe_int (pv 1) (pv 0)))))) (pss_one ps_never) pss_nil)
      (pss_one (ps_ret (pe_call (ok_root_of T) (hr.mono (by decide)) (by rfl) T.g_root_of T.F_root_of.kp T.b_root_of .nil pass0 (pa_cons (pv 0) (pa_cons (pv 1) pa_nil))))))), ?_⟩
    refine ⟨_, rfl, p, 2000, rfl, G, hi, ?_⟩
    refine ⟨_, rfl, _, rfl, .inl ⟨_, rfl, _, rfl, iteF ?_⟩⟩
    refine ⟨_, rfl, _, _, rfl, rfl, _, rfl, ?_⟩
    rw [decide_eq_true (show (1 : Int) ≤ g by omega)]
    refine iteT ⟨_, rfl, _, _, rfl, rfl, _, rfl, ?_⟩
    rw [decide_eq_true (show (g : Int) < p by omega)]
    refine iteF ?_
    exact ⟨_, rfl, _, rfl, p, g, rfl, lo, hi, hg2, q⟩
def spLeast : Sp := fun vs H Q _ => ∃ p r : Nat, vs = [.int p] ∧ Good p ∧ 1 ≤ r ∧ r < p ∧ rootB p r = true ∧ (∀ g, 1 ≤ g → g < r → rootB p g = false) ∧ Q (.int r) H
theorem ok_least_root (T : Txt K mg fa fd tk) : FnOk P w K mg base CX0 3 (fa 6) (fd 6) ["prime"] spLeast := by
  refine T.F_least_root.ok sc_least_root (fun vs H Q E h => ?_) (fun cdv A outer s H vs Q E hr h => ?_)
  · obtain ⟨p, r, rfl, _⟩ := h
    rfl
  · obtain ⟨p, r, rfl, G, hr1, hr2, hrt, hno, q⟩ := h
    have lo := G.lo
    have hi := G.hi
    refine ⟨_, (pss_cons (ps_expr (pe_call (ok_asked_prime T) (hr.mono (by decide)) (by rfl) T.g_asked_prime T.F_asked_prime.kp T.b_asked_prime .nil pass0 (pa_cons (pv 0) (pa_cons (pe_glob (v := .int 2000) rfl T.g_MOST ⟨_, rfl⟩) pa_nil))))
      (pss_cons (ps_set (i := 1) sc_least_root.nd rfl (.inl rfl) pe_int)
      (pss_cons (ps_while PassesOwn.never (pt_not (pt_val (pe_call (ok_root_of T) (hr.mono (by decide)) (by rfl) T.g_root_of T.F_root_of.kp T.b_root_of .nil pass0 (pa_cons (pv 0) (pa_cons (pv 1) pa_nil))))) (pss_one (ps_set (i := 1) sc_least_root.nd rfl (.inl rfl) (pe_op op_add (pv 1) pe_int))))
      (pss_one (ps_ret (pv 1)))))), ?_⟩
    refine ⟨_, rfl, p, 2000, rfl, G, hi, ?_⟩
    refine ⟨fun m σ H' => H' = H ∧ ∃ a : Nat, σ = [some (.int p), some (.int a)] ∧ 1 ≤ a ∧ a ≤ r ∧ m + a = r, ⟨r - 1, rfl, 1, rfl, by omega, by omega, by omega⟩, fun m σ H' hW => ?_⟩
    obtain ⟨rfl, a, rfl, ha, har, hm⟩ := hW
    refine ⟨_, rfl, _, rfl, p, a, rfl, lo, hi, by omega, _, rfl, ?_⟩
    by_cases z : a = r
    · subst z
      rw [hrt]
      exact iteF ⟨_, rfl, q⟩
    · rw [hno a ha (by omega)]
      refine iteT ⟨fun σ' H'' => ∃ m', m' < m ∧ H'' = H' ∧ ∃ a : Nat, σ' = [some (.int p), some (.int a)] ∧ 1 ≤ a ∧ a ≤ r ∧ m' + a = r, fun _ _ h => h, ?_⟩
      exact ⟨_, rfl, _, _, rfl, rfl, m - 1, by omega, rfl, a + 1, rfl, by omega, by omega, by omega⟩
end
end Lw
namespace Lw
open PySem PySem.Spec PyProof.Rows L2 AD
section
variable {P : Program} {w : World} {K : PySem.W.Frag} {mg : Str → Option Value} {base : Heap}
variable {fa : Nat → Addr} {fd : Nat → FuncData} {tk : Nat → Tok}
/-! ### lists of numbers -/
/-- a list of numbers from 0 on -/
def nats (l : List Nat) : List V := l.map fun n : Nat => V.int (n : Int)
theorem nats_at {l : List Nat} {i : Nat} {x : V} (h : (nats l)[i]? = some x) : ∃ n ∈ l, x = .int (n : Int) := by
  unfold nats at h
  rw [List.getElem?_map] at h
  cases e : l[i]? with
  | none => rw [e] at h; cases h
  | some n =>
    rw [e] at h
    exact ⟨n, List.mem_of_getElem? e, (Option.some.inj h).symm⟩
theorem ints_at {l : List Int} {c : Nat} {z : Int} (h : l[c]? = some z) : atI (l.map V.int) (c : Int) = some (.int z) := by
  refine atI_nat ?_
  rw [List.getElem?_map, h]
  rfl
theorem nats_ints (l : List Nat) : nats l = (l.map fun n : Nat => (n : Int)).map V.int := by
  unfold nats
  rw [List.map_map]
  rfl
theorem rgV_nats (n : Nat) : rgV 0 (n : Int) = nats (List.range n) := by
  unfold rgV nats
  rw [show ((n : Int) - 0).toNat = n by omega]
  refine List.map_congr_left fun i _ => ?_
  rw [Int.zero_add]
theorem iteN {A B : Prop} {a b : V} (h : a = b) (q : B) : if (!decide (a = b)) = true then A else B := iteNS h q
end
end Lw
namespace Lw
open PySem PySem.Spec PyProof.Rows L2 AD
section
variable {P : Program} {w : World} {K : PySem.W.Frag} {mg : Str → Option Value} {base : Heap}
variable {fa : Nat → Addr} {fd : Nat → FuncData} {tk : Nat → Tok}
/-! ### asked_root, asked_plan, row_of, found_column, column_of, dots_of -/
def spAskedRoot : Sp := fun vs H Q _ => ∃ p g : Nat, vs = [.int p, .int g] ∧ Root p g ∧ rootB p g = true ∧ Q .non H
theorem ok_asked_root (T : Txt K mg fa fd tk) : FnOk P w K mg base CX0 3 (fa 7) (fd 7) ["prime", "root"] spAskedRoot := by
  refine T.F_asked_root.ok sc_asked_root (fun vs H Q E h => ?_) (fun cdv A outer s H vs Q E hr h => ?_)
  · obtain ⟨p, m, rfl, _⟩ := h
    rfl
  · obtain ⟨p, g, rfl, R, hB, q⟩ := h
    have lo := R.good.lo
    have hi := R.good.hi
    have g1 := R.one
    have g2 := R.lt
    refine ⟨_, (pss_one (ps_if (PW.pt (pw_or (pt_not (pt_val (pe_call (ok_is_whole T) (hr.mono (by decide)) (by rfl) T.g_is_whole T.F_is_whole.kp T.b_is_whole .nil pass0 (pa_cons (pv 1) pa_nil)))) (pw_or (pt_not (pt_chain op_le op_lt pe_int (pv 1) (pv 0))) (pw_or1 (pt_not (pt_val (pe_call (ok_root_of T) (hr.mono (by decide)) (by rfl) T.g_root_of T.F_root_of.kp T.b_root_of .nil pass0 (pa_cons (pv 0) (pa_cons (pv 1) pa_nil))))))))) (pss_one ps_never) pss_nil)), ?_⟩
    refine ⟨_, rfl, _, rfl, .inl ⟨_, rfl, _, rfl, iteF ?_⟩⟩
    refine ⟨_, rfl, _, _, rfl, rfl, _, rfl, ?_⟩
    rw [decide_eq_true (show (1 : Int) ≤ g by omega)]
    refine iteT ⟨_, rfl, _, _, rfl, rfl, _, rfl, ?_⟩
    rw [decide_eq_true (show (g : Int) < p by omega)]
    refine iteF ⟨_, rfl, _, rfl, p, g, rfl, lo, hi, g2, _, rfl, ?_⟩
    rw [hB]
    exact iteF q
def spAskedPlan : Sp := fun vs H Q _ => ∃ (p g m : Nat) (b : Int), vs = [.int p, .int g, .int b, .int m] ∧ Root p g ∧ rootB p g = true ∧ p ≤ m ∧ Q .non H
theorem ok_asked_plan (T : Txt K mg fa fd tk) : FnOk P w K mg base CX0 4 (fa 8) (fd 8) ["prime", "root", "begin", "most"] spAskedPlan := by
  refine T.F_asked_plan.ok sc_asked_plan (fun vs H Q E h => ?_) (fun cdv A outer s H vs Q E hr h => ?_)
  · obtain ⟨p, g, m, b, rfl, _⟩ := h
    rfl
  · obtain ⟨p, g, m, b, rfl, R, hB, hm, q⟩ := h
    refine ⟨_, (pss_cons (ps_expr (pe_call (ok_asked_prime T) (hr.mono (by decide)) (by rfl) T.g_asked_prime T.F_asked_prime.kp T.b_asked_prime .nil pass0 (pa_cons (pv 0) (pa_cons (pv 3) pa_nil))))
      (pss_cons (ps_expr (pe_call (ok_asked_root T) (hr.mono (by decide)) (by rfl) T.g_asked_root T.F_asked_root.kp T.b_asked_root .nil pass0 (pa_cons (pv 0) (pa_cons (pv 1) pa_nil))))
      (pss_one (ps_if (pt_not (pt_val (pe_call (ok_is_whole T) (hr.mono (by decide)) (by rfl) T.g_is_whole T.F_is_whole.kp T.b_is_whole .nil pass0 (pa_cons (pv 2) pa_nil)))) (pss_one ps_never) pss_nil)))), ?_⟩
    refine ⟨_, rfl, _, rfl, p, m, rfl, R.good, hm, ?_⟩
    refine ⟨_, rfl, _, rfl, p, g, rfl, R, hB, ?_⟩
    exact ⟨_, rfl, _, rfl, .inl ⟨_, rfl, _, rfl, iteF q⟩⟩
/-- the tuple's second place: what power is asked for -/
theorem pow_arg {p g : Nat} {b : Int} (hp : 3 ≤ p) : [V.int (g : Int), V.int (b % ((p : Int) - 1)), V.int (p : Int)] = [V.int ((g : Nat) : Int), V.int ((be p b : Nat) : Int), V.int ((p : Nat) : Int)] := by
  rw [be_cast hp]
def spRowOf : Sp := fun vs H Q _ => ∃ (p g c : Nat) (b : Int), vs = [.int p, .int g, .int b, .int c] ∧ Root p g ∧ rootB p g = true ∧ c < p - 1 ∧ Q (.int ((rowA p g b c : Nat) - 1)) H
theorem ok_row_of (T : Txt K mg fa fd tk) : FnOk P w K mg base CX0 5 (fa 9) (fd 9) ["prime", "root", "begin", "column"] spRowOf := by
  refine T.F_row_of.ok sc_row_of (fun vs H Q E h => ?_) (fun cdv A outer s H vs Q E hr h => ?_)
  · obtain ⟨p, g, c, b, rfl, _⟩ := h
    rfl
  · obtain ⟨p, g, c, b, rfl, R, hB, hc, q⟩ := h
    have lo := R.good.lo
    have hi := R.good.hi
    have g2 := R.lt
    refine ⟨_, (pss_cons (ps_expr (pe_call (ok_asked_plan T) (hr.mono (by decide)) (by rfl) T.g_asked_plan T.F_asked_plan.kp T.b_asked_plan .nil pass0 (pa_cons (pv 0) (pa_cons (pv 1) (pa_cons (pv 2) (pa_cons (pe_glob (v := .int 2000) rfl T.g_MOST ⟨_, rfl⟩) pa_nil))))))
      (pss_cons (ps_if (PW.pt (pw_or (pt_not (pt_val (pe_call (ok_is_whole T) (hr.mono (by decide)) (by rfl) T.g_is_whole T.F_is_whole.kp T.b_is_whole .nil pass0 (pa_cons (pv 3) pa_nil)))) (pw_or1 (pt_not (pt_chain op_le op_lt pe_int (pv 3) (pe_op op_sub (pv 0) pe_int)))))) (pss_one ps_never) pss_nil)
      (pss_one (ps_ret (pe_op op_sub (pe_call (ok_power T) (hr.mono (by decide)) (by rfl) T.g_power T.F_power.kp T.b_power .nil pass0 (pa_cons (pv 1) (pa_cons (pe_op op_mod (pe_op op_add (pv 2) (pv 3)) (pe_op op_sub (pv 0) pe_int)) (pa_cons (pv 0) pa_nil)))) pe_int))))), ?_⟩
    refine ⟨_, rfl, _, rfl, _, rfl, p, g, 2000, b, rfl, R, hB, hi, ?_⟩
    refine ⟨_, rfl, _, rfl, .inl ⟨_, rfl, _, rfl, iteF ?_⟩⟩
    refine ⟨_, rfl, _, _, rfl, rfl, _, rfl, ?_⟩
    rw [decide_eq_true (show (0 : Int) ≤ c by omega)]
    refine iteT ⟨_, rfl, _, _, rfl, rfl, _, _, rfl, rfl, _, rfl, ?_⟩
    rw [decide_eq_true (show (c : Int) < (p : Int) - 1 by omega)]
    refine iteF ?_
    refine ⟨_, rfl, _, rfl, _, rfl, _, _, rfl, rfl, _, rfl, _, _, rfl, rfl, _, _, rfl, rfl, (show (0 : Int) < (p : Int) - 1 by omega), _, rfl, g, be p (b + c), p, pow_arg lo, by omega, hi, by omega, _, _, rfl, rfl, ?_⟩
    rw [R.row_be]
    exact q
def spFound : Sp := fun vs H Q _ => ∃ (p g : Nat) (b z : Int), vs = [.int p, .int g, .int b, .int z] ∧ Root p g ∧ 0 ≤ z ∧ z < (p : Int) - 1 ∧ ∀ c : Nat, c < p - 1 → ((rowA p g b c : Nat) : Int) = z + 1 → Q (.int c) H
theorem ok_found_column (T : Txt K mg fa fd tk) : FnOk P w K mg base CX0 2 (fa 10) (fd 10) ["prime", "root", "begin", "row"] spFound := by
  refine T.F_found_column.ok sc_found_column (fun vs H Q E h => ?_) (fun cdv A outer s H vs Q E hr h => ?_)
  · obtain ⟨p, g, b, z, rfl, _⟩ := h
    rfl
  · obtain ⟨p, g, b, z, rfl, R, z0, z1, q⟩ := h
    have lo := R.good.lo
    have hi := R.good.hi
    have g2 := R.lt
    obtain ⟨c, hc, ec⟩ := R.row_onto b (show 1 ≤ (z + 1).toNat by omega) (show (z + 1).toNat < p by omega)
    refine ⟨_, (pss_cons (ps_set (i := 4) sc_found_column.nd rfl (.inl rfl) (pe_call (ok_power T) (hr.mono (by decide)) (by rfl) T.g_power T.F_power.kp T.b_power .nil pass0 (pa_cons (pv 1) (pa_cons (pe_op op_mod (pv 2) (pe_op op_sub (pv 0) pe_int)) (pa_cons (pv 0) pa_nil)))))
      (pss_cons (ps_set (i := 5) sc_found_column.nd rfl (.inl rfl) pe_int)
      (pss_cons (ps_while PassesOwn.never (pt_cmpR op_ne (pv 4) (pe_op op_add (pv 3) pe_int) (nomark _)) (pss_cons (ps_set (i := 4) sc_found_column.nd rfl (.inl rfl) (pe_op op_mod (pe_op op_mulB (pv 4) (pv 1)) (pv 0)))
      (pss_one (ps_set (i := 5) sc_found_column.nd rfl (.inl rfl) (pe_op op_add (pv 5) pe_int)))))
      (pss_one (ps_ret (pv 5)))))), ?_⟩
    refine ⟨_, rfl, _, rfl, _, rfl, _, _, rfl, rfl, _, _, rfl, rfl, (show (0 : Int) < (p : Int) - 1 by omega), _, rfl, g, be p b, p, pow_arg lo, by omega, hi, by omega, ?_⟩
    let W : Nat → L2.St → Hp → Prop := fun m σ H' => H' = H ∧ ∃ k : Nat, σ = [some (.int p), some (.int g), some (.int b), some (.int z), some (.int ((rowA p g b k : Nat) : Int)), some (.int k)] ∧ k + m = c
    refine ⟨W, ⟨c, rfl, 0, rfl, by omega⟩, fun m σ H' hW => ?_⟩
    obtain ⟨rfl, k, rfl, hk⟩ := hW
    refine ⟨_, rfl, _, rfl, _, _, rfl, rfl, rfl, _, rfl, ite2 (fun e => ?_) (fun e => ?_)⟩
    · have hm : m ≠ 0 := fun y => by
        have e1 : k = c := by omega
        rw [e1, ec, show (((z + 1).toNat : Nat) : Int) = z + 1 by omega, decide_eq_true rfl] at e
        cases e
      have hlt := R.row_lt b k
      refine ⟨fun σ' H'' => ∃ m', m' < m ∧ W m' σ' H'', fun _ _ h => h, ?_⟩
      refine ⟨_, rfl, _, rfl, _, _, rfl, rfl, mulL (by omega) (by omega), _, rfl, _, _, rfl, rfl, (show (0 : Int) < p by omega), ?_⟩
      refine ⟨_, rfl, _, _, rfl, rfl, m - 1, by omega, rfl, k + 1, ?_, by omega⟩
      have e9 : rowA p g b (k + 1) = rowA p g b k * g % p := by
        unfold rowA
        rw [← Nat.add_assoc, Nat.pow_succ, Nat.mod_mul_mod]
      rw [e9]
      rfl
    · have e1 : ((rowA p g b k : Nat) : Int) = z + 1 := by
        by_cases y : ((rowA p g b k : Nat) : Int) = z + 1
        · exact y
        · refine absurd ?_ e
          rw [Bool.not_eq_true', decide_eq_false_iff_not]
          intro y2
          exact y (V.int.inj y2)
      exact ⟨_, rfl, q k (by omega) e1⟩
def spColumnOf : Sp := fun vs H Q _ => ∃ (p g : Nat) (b z : Int), vs = [.int p, .int g, .int b, .int z] ∧ Root p g ∧ rootB p g = true ∧ 0 ≤ z ∧ z < (p : Int) - 1 ∧ ∀ c : Nat, c < p - 1 → ((rowA p g b c : Nat) : Int) = z + 1 → Q (.int c) H
theorem ok_column_of (T : Txt K mg fa fd tk) : FnOk P w K mg base CX0 5 (fa 11) (fd 11) ["prime", "root", "begin", "row"] spColumnOf := by
  refine T.F_column_of.ok sc_column_of (fun vs H Q E h => ?_) (fun cdv A outer s H vs Q E hr h => ?_)
  · obtain ⟨p, g, b, z, rfl, _⟩ := h
    rfl
  · obtain ⟨p, g, b, z, rfl, R, hB, z0, z1, q⟩ := h
    have hi := R.good.hi
    refine ⟨_, (pss_cons (ps_expr (pe_call (ok_asked_plan T) (hr.mono (by decide)) (by rfl) T.g_asked_plan T.F_asked_plan.kp T.b_asked_plan .nil pass0 (pa_cons (pv 0) (pa_cons (pv 1) (pa_cons (pv 2) (pa_cons (pe_glob (v := .int 2000) rfl T.g_MOST ⟨_, rfl⟩) pa_nil))))))
      (pss_cons (ps_if (PW.pt (pw_or (pt_not (pt_val (pe_call (ok_is_whole T) (hr.mono (by decide)) (by rfl) T.g_is_whole T.F_is_whole.kp T.b_is_whole .nil pass0 (pa_cons (pv 3) pa_nil)))) (pw_or1 (pt_not (pt_chain op_le op_lt pe_int (pv 3) (pe_op op_sub (pv 0) pe_int)))))) (pss_one ps_never) pss_nil)
      (pss_one (ps_ret (pe_call (ok_found_column T) (hr.mono (by decide)) (by rfl) T.g_found_column T.F_found_column.kp T.b_found_column .nil pass0 (pa_cons (pv 0) (pa_cons (pv 1) (pa_cons (pv 2) (pa_cons (pv 3) pa_nil))))))))), ?_⟩
    refine ⟨_, rfl, _, rfl, _, rfl, p, g, 2000, b, rfl, R, hB, hi, ?_⟩
    refine ⟨_, rfl, _, rfl, .inl ⟨_, rfl, _, rfl, iteF ?_⟩⟩
    refine ⟨_, rfl, _, _, rfl, rfl, _, rfl, ?_⟩
    rw [decide_eq_true z0]
    refine iteT ⟨_, rfl, _, _, rfl, rfl, _, _, rfl, rfl, _, rfl, ?_⟩
    rw [decide_eq_true z1]
    refine iteF ?_
    exact ⟨_, rfl, _, rfl, _, rfl, _, rfl, p, g, b, z, rfl, R, z0, z1, q⟩
/-- all dots: a new list -/
def spDotsOf : Sp := fun vs H Q _ => ∃ (p g : Nat) (b : Int), vs = [.int p, .int g, .int b] ∧ Root p g ∧ rootB p g = true ∧ p ≤ 61 ∧ ∀ (H' : Hp) (a : Addr), Same H H' → H a = none → H' a = some (.lst ((rowsI p g b).map V.int)) → Q (.ref a) H'
theorem ok_dots_of (T : Txt K mg fa fd tk) : FnOk P w K mg base CX0 5 (fa 13) (fd 13) ["prime", "root", "begin"] spDotsOf := by
  refine T.F_dots_of.ok sc_dots_of (fun vs H Q E h => ?_) (fun cdv A outer s H vs Q E hr h => ?_)
  · obtain ⟨p, g, b, rfl, _⟩ := h
    rfl
  · obtain ⟨p, g, b, rfl, R, hB, hp, q⟩ := h
    have lo := R.good.lo
    have g2 := R.lt
    refine ⟨_, (pss_cons (ps_expr (pe_call (ok_asked_plan T) (hr.mono (by decide)) (by rfl) T.g_asked_plan T.F_asked_plan.kp T.b_asked_plan .nil pass0 (pa_cons (pv 0) (pa_cons (pv 1) (pa_cons (pv 2) (pa_cons (pe_glob (v := .int 61) rfl T.g_SMALL ⟨_, rfl⟩) pa_nil))))))
      (pss_one (ps_ret (pe_lc (own := [("column", 3)]) (g := gName 3) (tt := tYes) (by rfl) sc_dots_of.nd (pi_range1 (by rfl) T.m_range (pa_cons (pe_op op_sub (pv 0) pe_int) pa_nil)) (blkOk_by (own := [("column", 3)]) (N := ["prime", "root", "begin", "column"]) (sc := (defScope s_dots_of)) (by decide +kernel)) (fun _ _ _ _ _ => (pg_name (i := 3) sc_dots_of.nd rfl (Or.inl rfl))) (fun _ _ _ _ _ => pts_nil) (fun _ _ _ _ _ => (pe_op op_sub (pe_call (ok_power T) (hr.mono (by decide)) (by rfl) T.g_power T.F_power.kp T.b_power .nil pass0 (pa_cons (pv 1) (pa_cons (pe_op op_mod (pe_op op_add (pv 2) (pv 3)) (pe_op op_sub (pv 0) pe_int)) (pa_cons (pv 0) pa_nil)))) pe_int)))))), ?_⟩
    refine ⟨_, rfl, _, rfl, _, rfl, p, g, 61, b, rfl, R, hB, hp, ?_⟩
    refine ⟨_, rfl, _, _, rfl, rfl, _, rfl, by omega, by omega, fun D nD => ?_⟩
    refine lc_it (walk_range (lo := 0) (n := ((p : Int) - 1).toNat)) (fun i H' => Same H H' ∧ H' D = some (.lst (((rowsI p g b).take i).map V.int))) ⟨same_upd nD, upd_same⟩ (fun _ _ _ _ => True.intro) (fun i x H4 H5 hi hP hY => ?_) (fun H4 hP => ?_)
    · obtain ⟨sm, hD⟩ := hP
      obtain ⟨rfl, rfl⟩ := hY
      refine ⟨rfl, ?_⟩
      have hi2 : i < p - 1 := by omega
      refine ⟨_, rfl, _, rfl, _, rfl, _, _, rfl, rfl, _, rfl, _, _, rfl, rfl, _, _, rfl, rfl, (show (0 : Int) < (p : Int) - 1 by omega), _, rfl, g, be p (b + i), p, ?_, by omega, by omega, by omega, _, _, rfl, rfl, _, hD, ?_, ?_, ?_⟩
      · show [V.int (g : Int), V.int ((b + (0 + (i : Int))) % ((p : Int) - 1)), V.int (p : Int)] = _
        rw [Int.zero_add]
        exact pow_arg lo
      · rw [List.length_map, List.length_take]
        exact Nat.lt_of_le_of_lt (Nat.min_le_left _ _) (Nat.lt_of_lt_of_le (show i < 100 by omega) (by decide))
      · intro x o h
        rw [upd_ne (ne_of_none h nD)]
        exact sm x o h
      · rw [upd_same, List.take_add_one, rowsI_at hi2, List.map_append, R.row_be]
        rfl
    · obtain ⟨sm, hD⟩ := hP
      rw [List.take_of_length_le (by rw [rowsI_len]; omega)] at hD
      exact q _ D sm nD hD
end
end Lw
namespace Lw
open PySem PySem.Spec PyProof.Rows L2 AD
section
variable {P : Program} {w : World} {K : PySem.W.Frag} {mg : Str → Option Value} {base : Heap}
variable {fa : Nat → Addr} {fd : Nat → FuncData} {tk : Nat → Tok}
/-! ### arrow_of -/
def spArrow : Sp := fun vs H Q _ => ∃ (p g d u : Nat) (b : Int), vs = [.int p, .int g, .int b, .int d, .int u] ∧ Root p g ∧ rootB p g = true ∧ 1 ≤ d ∧ d ≤ p - 2 ∧ 1 ≤ u ∧ u < p ∧ ∀ c : Nat, c < p - 1 → rowA p g b c = tgt p g d u → Q (.int c) H
theorem ok_arrow_of (T : Txt K mg fa fd tk) : FnOk P w K mg base CX0 5 (fa 12) (fd 12) ["prime", "root", "begin", "across", "up"] spArrow := by
  refine T.F_arrow_of.ok sc_arrow_of (fun vs H Q E h => ?_) (fun cdv A outer s H vs Q E hr h => ?_)
  · obtain ⟨p, g, d, u, b, rfl, _⟩ := h
    rfl
  · obtain ⟨p, g, d, u, b, rfl, R, hB, d1, d2, u1, u2, q⟩ := h
    have lo := R.good.lo
    have hi := R.good.hi
    have g2 := R.lt
    have t1 := R.tgt_pos d1 d2 u1 u2
    have t2 : tgt p g d u < p := R.tgt_lt
    have a1 := R.good.pow_pos R.ne d
    have a2 := Nat.mod_lt (g ^ d) (show p > 0 by omega)
    refine ⟨_, (pss_cons (ps_expr (pe_call (ok_asked_plan T) (hr.mono (by decide)) (by rfl) T.g_asked_plan T.F_asked_plan.kp T.b_asked_plan .nil pass0 (pa_cons (pv 0) (pa_cons (pv 1) (pa_cons (pv 2) (pa_cons (pe_glob (v := .int 2000) rfl T.g_MOST ⟨_, rfl⟩) pa_nil))))))
      (pss_cons (ps_if (PW.pt (pw_or (pt_not (pt_val (pe_call (ok_is_whole T) (hr.mono (by decide)) (by rfl) T.g_is_whole T.F_is_whole.kp T.b_is_whole .nil pass0 (pa_cons (pv 3) pa_nil)))) (pw_or (pt_not (pt_chain op_le op_le pe_int (pv 3) (pe_op op_sub (pv 0) pe_int))) (pw_or (pt_not (pt_val (pe_call (ok_is_whole T) (hr.mono (by decide)) (by rfl) T.g_is_whole T.F_is_whole.kp T.b_is_whole .nil pass0 (pa_cons (pv 4) pa_nil)))) (pw_or1 (pt_not (pt_chain op_le op_lt pe_int (pv 4) (pv 0)))))))) (pss_one ps_never) pss_nil)
      (pss_cons (ps_set (i := 5) sc_arrow_of.nd rfl (.inl rfl) (pe_op op_sub (pe_call (ok_power T) (hr.mono (by decide)) (by rfl) T.g_power T.F_power.kp T.b_power .nil pass0 (pa_cons (pv 1) (pa_cons (pv 3) (pa_cons (pv 0) pa_nil)))) pe_int))
      (pss_one (ps_ret (pe_call (ok_found_column T) (hr.mono (by decide)) (by rfl) T.g_found_column T.F_found_column.kp T.b_found_column .nil pass0 (pa_cons (pv 0) (pa_cons (pv 1) (pa_cons (pv 2) (pa_cons (pe_op op_sub (pe_op op_mod (pe_op op_mulB (pv 4) (pe_call (ok_power T) (hr.mono (by decide)) (by rfl) T.g_power T.F_power.kp T.b_power .nil pass0 (pa_cons (pv 5) (pa_cons (pe_op op_sub (pv 0) pe_int) (pa_cons (pv 0) pa_nil))))) (pv 0)) pe_int) pa_nil)))))))))), ?_⟩
    refine ⟨_, rfl, _, rfl, _, rfl, p, g, 2000, b, rfl, R, hB, hi, ?_⟩
    refine ⟨_, rfl, _, rfl, .inl ⟨_, rfl, _, rfl, iteF ?_⟩⟩
    refine ⟨_, rfl, _, _, rfl, rfl, _, rfl, ?_⟩
    rw [decide_eq_true (show (1 : Int) ≤ d by omega)]
    refine iteT ⟨_, rfl, _, _, rfl, rfl, _, _, rfl, rfl, _, rfl, ?_⟩
    rw [decide_eq_true (show (d : Int) ≤ (p : Int) - 2 by omega)]
    refine iteF ⟨_, rfl, _, rfl, .inl ⟨_, rfl, _, rfl, iteF ?_⟩⟩
    refine ⟨_, rfl, _, _, rfl, rfl, _, rfl, ?_⟩
    rw [decide_eq_true (show (1 : Int) ≤ u by omega)]
    refine iteT ⟨_, rfl, _, _, rfl, rfl, _, rfl, ?_⟩
    rw [decide_eq_true (show (u : Int) < p by omega)]
    refine iteF ?_
    -- apart
    refine ⟨_, rfl, _, rfl, _, rfl, g, d, p, rfl, by omega, hi, by omega, _, _, rfl, rfl, ?_⟩
    refine ⟨_, rfl, _, rfl, _, rfl, _, rfl, _, rfl, _, rfl, _, _, rfl, rfl, _, rfl, g ^ d % p - 1, p - 2, p, ?_, by omega, hi, by omega, ?_⟩
    · show [V.int (((g ^ d % p : Nat) : Int) - 1), V.int ((p : Int) - 2), V.int (p : Int)] = [V.int ((g ^ d % p - 1 : Nat) : Int), V.int ((p - 2 : Nat) : Int), V.int (p : Int)]
      rw [show ((g ^ d % p - 1 : Nat) : Int) = ((g ^ d % p : Nat) : Int) - 1 by omega, show ((p - 2 : Nat) : Int) = (p : Int) - 2 by omega]
    have et : ((u : Int) * (((g ^ d % p - 1) ^ (p - 2) % p : Nat) : Int)) % (p : Int) = ((tgt p g d u : Nat) : Int) := rfl
    refine ⟨_, _, rfl, rfl, mulL (by omega) (by omega), _, rfl, _, _, rfl, rfl, (show (0 : Int) < p by omega), _, _, rfl, rfl, p, g, b, ((tgt p g d u : Nat) : Int) - 1, rfl, R, by omega, by omega, fun c hc ec => q c hc (by omega)⟩
/-! ### the law's look at an arrow -/
theorem filter_range {n c : Nat} (h : c < n) : (List.range n).filter (fun i => decide (i = c)) = [c] := by
  induction n with
  | zero => omega
  | succ n ih =>
    rw [List.range_succ, List.filter_append]
    by_cases e : c = n
    · subst e
      have h0 : (List.range c).filter (fun i => decide (i = c)) = [] := by
        rw [List.filter_eq_nil_iff]
        intro i hi
        have := List.mem_range.mp hi
        simp
        omega
      rw [h0]
      simp
    · rw [ih (by omega)]
      have : ¬ n = c := fun z => e z.symm
      simp [this]
end
end Lw
namespace Lw
open PySem PySem.Spec PyProof.Rows L2 AD
section
variable {P : Program} {w : World} {K : PySem.W.Frag} {mg : Str → Option Value} {base : Heap}
variable {fa : Nat → Addr} {fd : Nat → FuncData} {tk : Nat → Tok}
/-! ### what is refused: primes, roots, plans -/
theorem TyOf.ext {H H' : Hp} {v : V} {t : Value} (e : LamX.ExtN H H') (h : TyOf K H v t) : TyOf K H' v t := by
  cases h with
  | non => exact .non
  | bl b => exact .bl b
  | int i => exact .int i
  | str y => exact .str y
  | flt y => exact .flt y
  | lst ea => exact .lst (e _ _ ea (fun _ z => nomatch z))
  | frz ea => exact .frz (e _ _ ea (fun _ z => nomatch z))
  | tup ea => exact .tup (e _ _ ea (fun _ z => nomatch z))
  | dK ea => exact .dK (e _ _ ea (fun _ z => nomatch z))
  | dT ea => exact .dT (e _ _ ea (fun _ z => nomatch z))
  | ins ea a b c d f => exact .ins (e _ _ ea (fun _ z => nomatch z)) a b c d f
theorem TyX.ext {H H' : Hp} {v : V} {t : Value} (e : LamX.ExtN H H') (h : TyX K H v t) : TyX K H' v t := by
  cases h with
  | base b => exact .base (TyOf.ext e b)
  | byt b => exact .byt b
  | set ea => exact .set (e _ _ ea (fun _ z => nomatch z))
  | kList a b => exact .kList a b
  | kTuple a b => exact .kTuple a b
  | kDict a b => exact .kDict a b
  | fTuple ea => exact .fTuple (e _ _ ea (fun _ z => nomatch z))
  | fDict ea => exact .fDict (e _ _ ea (fun _ z => nomatch z))
theorem extN_same {H H' : Hp} (s : Same H H') : LamX.ExtN H H' := fun b o h _ => s b o h
def isInt : V → Bool
  | .int _ => true
  | _ => false
/-- no whole number -/
def NW (K : PySem.W.Frag) (H : Hp) (v : V) : Prop := isInt v = false ∧ ∃ n, TyX K H v (.type n) ∧ n ∈ ["NoneType", "str", "list", "tuple", "dict", "bool"]
theorem NW.ext {H H' : Hp} {v : V} (e : LamX.ExtN H H') (h : NW K H v) : NW K H' v := by
  obtain ⟨a, n, b, c⟩ := h
  exact ⟨a, n, TyX.ext e b, c⟩
/-- no prime that is due -/
def BadP (K : PySem.W.Frag) (H : Hp) (m : Nat) (v : V) : Prop := NW K H v ∨ ∃ i : Int, v = .int i ∧ (i < 3 ∨ (m : Int) < i ∨ (3 ≤ i ∧ i ≤ 2000 ∧ primeB i.toNat = false))
theorem BadP.ext {H H' : Hp} {m : Nat} {v : V} (e : LamX.ExtN H H') (h : BadP K H m v) : BadP K H' m v := h.imp (fun z => z.ext e) id
def spAskedPrimeX (K : PySem.W.Frag) (C : Addr) : Sp := fun vs H _ E => ∃ (v : V) (m : Nat), vs = [v, .int m] ∧ BadP K H m v ∧ E (.ref C) none H
theorem xok_asked_prime (T : Txt K mg fa fd tk) : FnOk P w K mg base (L2N.CX P w) 2 (fa 2) (fd 2) ["prime", "most"] (spAskedPrimeX K (fa 35)) := by
  refine Hx.okN T.F_asked_prime sc_asked_prime (fun vs H Q E h => ?_) (fun cdv A outer s H vs Q E hr h => ?_)
  · obtain ⟨v, m, rfl, _⟩ := h
    rfl
  · obtain ⟨v, m, rfl, hv, q⟩ := h
    have tk := L2N.takes_of (X := cxOf (L2N.CX P w) P w K mg base ["prime", "most"] "asked_prime" (defScope s_asked_prime) (fa 2) cdv A outer s H E) rfl rfl rfl rfl
    refine ⟨_, (pss_one (ps_if (PW.pt (pw_or (pt_not (pt_val (pe_call (ok_is_whole T) (hr.mono (by decide)) (by rfl) T.g_is_whole T.F_is_whole.kp T.b_is_whole .nil pass0 (pa_cons (pv 0) pa_nil)))) (pw_or (pt_not (pt_chain op_le op_le pe_int (pv 0) (pv 1))) (pw_or1 (pt_not (pt_val (pe_call (ok_is_prime T) (hr.mono (by decide)) (by rfl) T.g_is_prime T.F_is_prime.kp T.b_is_prime .nil pass0 (pa_cons (pv 0) pa_nil)))))))) (pss_one (L2N.ps_raise rfl tk (L2N.pmk_own PySem.F.excBase_ValueError T.x_BadPrime.ex T.g_BadPrime T.x_BadPrime.kp (raises_own T.x_BadPrime.b T.x_BadPrime.t) (by rfl)))) pss_nil)), ?_⟩
    rcases hv with ⟨_, n, ty, hn⟩ | ⟨i, rfl, hi⟩
    · exact ⟨_, rfl, _, rfl, .inr ⟨n, ty, hn, _, rfl, iteT q⟩⟩
    · refine ⟨_, rfl, _, rfl, .inl ⟨_, rfl, _, rfl, iteF ?_⟩⟩
      refine ⟨_, rfl, _, _, rfl, rfl, _, rfl, ite2 (fun e => ?_) (fun e => ?_)⟩
      · have i3 : 3 ≤ i := dT e
        refine ⟨_, rfl, _, _, rfl, rfl, _, rfl, ?_⟩
        by_cases im : i ≤ (m : Int)
        · have hp : 3 ≤ i ∧ i ≤ 2000 ∧ primeB i.toNat = false := by
            rcases hi with z | z | z
            · omega
            · omega
            · exact z
          rw [decide_eq_true im]
          refine iteF ⟨_, rfl, i.toNat, ?_, by omega, by omega, _, rfl, ?_⟩
          · rw [show ((i.toNat : Nat) : Int) = i by omega]
            rfl
          rw [hp.2.2]
          exact iteT q
        · rw [decide_eq_false im]
          exact iteT q
      · exact ⟨_, rfl, iteT q⟩
/-- no number from 1 to below the prime -/
def BadN (K : PySem.W.Frag) (H : Hp) (p : Nat) (v : V) : Prop := NW K H v ∨ ∃ i : Int, v = .int i ∧ (i < 1 ∨ (p : Int) ≤ i)
theorem BadN.ext {H H' : Hp} {m : Nat} {v : V} (e : LamX.ExtN H H') (h : BadN K H m v) : BadN K H' m v := h.imp (fun z => z.ext e) id
def spIsRootX (K : PySem.W.Frag) (CP CN : Addr) : Sp := fun vs H _ E => ∃ v u : V, vs = [v, u] ∧ ((BadP K H 2000 v ∧ E (.ref CP) none H) ∨ ∃ p : Nat, v = .int p ∧ Good p ∧ BadN K H p u ∧ E (.ref CN) none H)
theorem xok_is_root (T : Txt K mg fa fd tk) : FnOk P w K mg base (L2N.CX P w) 3 (fa 5) (fd 5) ["prime", "number"] (spIsRootX K (fa 35) (fa 37)) := by
  refine Hx.okN T.F_is_root sc_is_root (fun vs H Q E h => ?_) (fun cdv A outer s H vs Q E hr h => ?_)
  · obtain ⟨v, m, rfl, _⟩ := h
    rfl
  · obtain ⟨v, u, rfl, h⟩ := h
    have tk := L2N.takes_of (X := cxOf (L2N.CX P w) P w K mg base ["prime", "number"] "is_root" (defScope s_is_root) (fa 5) cdv A outer s H E) rfl rfl rfl rfl
    refine ⟨_, (pss_cons (ps_expr (pe_alt (pe_callS (xok_asked_prime T) (hr.mono (by decide)) (by rfl) T.g_asked_prime T.F_asked_prime.kp T.b_asked_prime (L2N.passAt tk) (pa_cons (pv 0) (pa_cons (pe_glob (v := .int 2000) rfl T.g_MOST ⟨_, rfl⟩) pa_nil))) (pe_call (ok_asked_prime T) (hr.mono (by decide)) (by rfl) T.g_asked_prime T.F_asked_prime.kp T.b_asked_prime .nil pass0 (pa_cons (pv 0) (pa_cons (pe_glob (v := .int 2000) rfl T.g_MOST ⟨_, rfl⟩) pa_nil)))))
      (pss_cons (ps_if (PW.pt (pw_or (pt_not (pt_val (pe_call (ok_is_whole T) (hr.mono (by decide)) (by rfl) T.g_is_whole T.F_is_whole.kp T.b_is_whole .nil pass0 (pa_cons (pv 1) pa_nil)))) (pw_or1 (pt_not (pt_chain op_le op_lt pe_int (pv 1) (pv 0)))))) (pss_one (L2N.ps_raise rfl tk (L2N.pmk_own PySem.F.excBase_ValueError T.x_BadNumber.ex T.g_BadNumber T.x_BadNumber.kp (raises_own T.x_BadNumber.b T.x_BadNumber.t) (by rfl)))) pss_nil)
      Hx.pss_nev)), ?_⟩
    rcases h with ⟨hv, q⟩ | ⟨p, rfl, G, hu, q⟩
    · exact .inl ⟨_, rfl, v, 2000, rfl, hv, q⟩
    · have lo := G.lo
      refine .inr ⟨_, rfl, p, 2000, rfl, G, G.hi, ?_⟩
      rcases hu with ⟨_, n, ty, hn⟩ | ⟨i, rfl, hi⟩
      · exact ⟨_, rfl, _, rfl, .inr ⟨n, ty, hn, _, rfl, iteT q⟩⟩
      · refine ⟨_, rfl, _, rfl, .inl ⟨_, rfl, _, rfl, iteF ?_⟩⟩
        refine ⟨_, rfl, _, _, rfl, rfl, _, rfl, ite2 (fun e => ?_) (fun e => ?_)⟩
        · have i1 : 1 ≤ i := dT e
          refine ⟨_, rfl, _, _, rfl, rfl, _, rfl, ?_⟩
          rw [decide_eq_false (show ¬ i < (p : Int) by omega)]
          exact iteT q
        · exact ⟨_, rfl, iteT q⟩
def spLeastX (K : PySem.W.Frag) (CP : Addr) : Sp := fun vs H _ E => ∃ v : V, vs = [v] ∧ BadP K H 2000 v ∧ E (.ref CP) none H
theorem xok_least_root (T : Txt K mg fa fd tk) : FnOk P w K mg base (L2N.CX P w) 3 (fa 6) (fd 6) ["prime"] (spLeastX K (fa 35)) := by
  refine Hx.okN T.F_least_root sc_least_root (fun vs H Q E h => ?_) (fun cdv A outer s H vs Q E hr h => ?_)
  · obtain ⟨v, rfl, _⟩ := h
    rfl
  · obtain ⟨v, rfl, hv, q⟩ := h
    have tk := L2N.takes_of (X := cxOf (L2N.CX P w) P w K mg base ["prime", "number"] "least_root" (defScope s_least_root) (fa 6) cdv A outer s H E) rfl rfl rfl rfl
    exact ⟨_, (pss_cons (ps_expr (pe_alt (pe_callS (xok_asked_prime T) (hr.mono (by decide)) (by rfl) T.g_asked_prime T.F_asked_prime.kp T.b_asked_prime (L2N.passAt tk) (pa_cons (pv 0) (pa_cons (pe_glob (v := .int 2000) rfl T.g_MOST ⟨_, rfl⟩) pa_nil))) (pe_call (ok_asked_prime T) (hr.mono (by decide)) (by rfl) T.g_asked_prime T.F_asked_prime.kp T.b_asked_prime .nil pass0 (pa_cons (pv 0) (pa_cons (pe_glob (v := .int 2000) rfl T.g_MOST ⟨_, rfl⟩) pa_nil)))))
      Hx.pss_nev), .inl ⟨_, rfl, v, 2000, rfl, hv, q⟩⟩
/-- no root of the prime -/
def BadR (K : PySem.W.Frag) (H : Hp) (p : Nat) (v : V) : Prop := NW K H v ∨ ∃ i : Int, v = .int i ∧ (i < 1 ∨ (p : Int) ≤ i ∨ rootB p i.toNat = false)
theorem BadR.ext {H H' : Hp} {m : Nat} {v : V} (e : LamX.ExtN H H') (h : BadR K H m v) : BadR K H' m v := h.imp (fun z => z.ext e) id
def spAskedRootX (K : PySem.W.Frag) (C : Addr) : Sp := fun vs H _ E => ∃ (v : V) (p : Nat), vs = [.int p, v] ∧ Good p ∧ BadR K H p v ∧ E (.ref C) none H
theorem xok_asked_root (T : Txt K mg fa fd tk) : FnOk P w K mg base (L2N.CX P w) 3 (fa 7) (fd 7) ["prime", "root"] (spAskedRootX K (fa 36)) := by
  refine Hx.okN T.F_asked_root sc_asked_root (fun vs H Q E h => ?_) (fun cdv A outer s H vs Q E hr h => ?_)
  · obtain ⟨v, m, rfl, _⟩ := h
    rfl
  · obtain ⟨v, p, rfl, G, hv, q⟩ := h
    have lo := G.lo
    have hi := G.hi
    have tk := L2N.takes_of (X := cxOf (L2N.CX P w) P w K mg base ["prime", "root"] "asked_root" (defScope s_asked_root) (fa 7) cdv A outer s H E) rfl rfl rfl rfl
    refine ⟨_, (pss_one (ps_if (PW.pt (pw_or (pt_not (pt_val (pe_call (ok_is_whole T) (hr.mono (by decide)) (by rfl) T.g_is_whole T.F_is_whole.kp T.b_is_whole .nil pass0 (pa_cons (pv 1) pa_nil)))) (pw_or (pt_not (pt_chain op_le op_lt pe_int (pv 1) (pv 0))) (pw_or1 (pt_not (pt_val (pe_call (ok_root_of T) (hr.mono (by decide)) (by rfl) T.g_root_of T.F_root_of.kp T.b_root_of .nil pass0 (pa_cons (pv 0) (pa_cons (pv 1) pa_nil))))))))) (pss_one (L2N.ps_raise rfl tk (L2N.pmk_own PySem.F.excBase_ValueError T.x_BadRoot.ex T.g_BadRoot T.x_BadRoot.kp (raises_own T.x_BadRoot.b T.x_BadRoot.t) (by rfl)))) pss_nil)), ?_⟩
    rcases hv with ⟨_, n, ty, hn⟩ | ⟨i, rfl, hi⟩
    · exact ⟨_, rfl, _, rfl, .inr ⟨n, ty, hn, _, rfl, iteT q⟩⟩
    · refine ⟨_, rfl, _, rfl, .inl ⟨_, rfl, _, rfl, iteF ?_⟩⟩
      refine ⟨_, rfl, _, _, rfl, rfl, _, rfl, ite2 (fun e => ?_) (fun e => ?_)⟩
      · have i1 : 1 ≤ i := dT e
        refine ⟨_, rfl, _, _, rfl, rfl, _, rfl, ?_⟩
        by_cases im : i < (p : Int)
        · have hp : rootB p i.toNat = false := by
            rcases hi with z | z | z
            · omega
            · omega
            · exact z
          rw [decide_eq_true im]
          refine iteF ⟨_, rfl, _, rfl, p, i.toNat, ?_, by omega, by omega, by omega, _, rfl, ?_⟩
          · rw [show ((i.toNat : Nat) : Int) = i by omega]
            rfl
          rw [hp]
          exact iteT q
        · rw [decide_eq_false im]
          exact iteT q
      · exact ⟨_, rfl, iteT q⟩
/-- no plan: of which class the refusal is -/
def BadPlan (K : PySem.W.Frag) (fa : Nat → Addr) (H : Hp) (m : Nat) (v u b : V) (C : Addr) : Prop := (BadP K H m v ∧ C = fa 35) ∨ ∃ p : Nat, v = .int p ∧ Good p ∧ p ≤ m ∧
  ((BadR K H p u ∧ C = fa 36) ∨ ∃ g : Nat, u = .int g ∧ Root p g ∧ rootB p g = true ∧ NW K H b ∧ C = fa 37)
theorem BadPlan.ext {H H' : Hp} {m : Nat} {v u b : V} {C : Addr} (e : LamX.ExtN H H') (h : BadPlan K fa H m v u b C) : BadPlan K fa H' m v u b C := by
  rcases h with ⟨h, q⟩ | ⟨p, a1, a2, a3, ⟨h, q⟩ | ⟨g, b1, b2, b3, b4, b5⟩⟩
  · exact .inl ⟨h.ext e, q⟩
  · exact .inr ⟨p, a1, a2, a3, .inl ⟨h.ext e, q⟩⟩
  · exact .inr ⟨p, a1, a2, a3, .inr ⟨g, b1, b2, b3, b4.ext e, b5⟩⟩
def spAskedPlanX (K : PySem.W.Frag) (fa : Nat → Addr) : Sp := fun vs H _ E => ∃ (v u b : V) (m : Nat) (C : Addr), vs = [v, u, b, .int m] ∧ BadPlan K fa H m v u b C ∧ E (.ref C) none H
theorem xok_asked_plan (T : Txt K mg fa fd tk) : FnOk P w K mg base (L2N.CX P w) 4 (fa 8) (fd 8) ["prime", "root", "begin", "most"] (spAskedPlanX K fa) := by
  refine Hx.okN T.F_asked_plan sc_asked_plan (fun vs H Q E h => ?_) (fun cdv A outer s H vs Q E hr h => ?_)
  · obtain ⟨v, u, b, m, C, rfl, _⟩ := h
    rfl
  · obtain ⟨v, u, b, m, C, rfl, hv, q⟩ := h
    have tk := L2N.takes_of (X := cxOf (L2N.CX P w) P w K mg base ["prime", "root", "begin", "most"] "asked_plan" (defScope s_asked_plan) (fa 8) cdv A outer s H E) rfl rfl rfl rfl
    refine ⟨_, (pss_cons (ps_expr (pe_alt (pe_callS (xok_asked_prime T) (hr.mono (by decide)) (by rfl) T.g_asked_prime T.F_asked_prime.kp T.b_asked_prime (L2N.passAt tk) (pa_cons (pv 0) (pa_cons (pv 3) pa_nil))) (pe_call (ok_asked_prime T) (hr.mono (by decide)) (by rfl) T.g_asked_prime T.F_asked_prime.kp T.b_asked_prime .nil pass0 (pa_cons (pv 0) (pa_cons (pv 3) pa_nil)))))
      (pss_cons (ps_expr (pe_alt (pe_callS (xok_asked_root T) (hr.mono (by decide)) (by rfl) T.g_asked_root T.F_asked_root.kp T.b_asked_root (L2N.passAt tk) (pa_cons (pv 0) (pa_cons (pv 1) pa_nil))) (pe_call (ok_asked_root T) (hr.mono (by decide)) (by rfl) T.g_asked_root T.F_asked_root.kp T.b_asked_root .nil pass0 (pa_cons (pv 0) (pa_cons (pv 1) pa_nil)))))
      (pss_one (ps_if (pt_not (pt_val (pe_call (ok_is_whole T) (hr.mono (by decide)) (by rfl) T.g_is_whole T.F_is_whole.kp T.b_is_whole .nil pass0 (pa_cons (pv 2) pa_nil)))) (pss_one (L2N.ps_raise rfl tk (L2N.pmk_own PySem.F.excBase_ValueError T.x_BadNumber.ex T.g_BadNumber T.x_BadNumber.kp (raises_own T.x_BadNumber.b T.x_BadNumber.t) (by rfl)))) pss_nil)))), ?_⟩
    rcases hv with ⟨h, rfl⟩ | ⟨p, rfl, G, hm, ⟨h, rfl⟩ | ⟨g, rfl, R, hB, ⟨_, n, ty, hn⟩, rfl⟩⟩
    · exact .inl ⟨_, rfl, _, rfl, v, m, rfl, h, q⟩
    · exact .inr ⟨_, rfl, _, rfl, p, m, rfl, G, hm, .inl ⟨_, rfl, _, rfl, u, p, rfl, G, h, q⟩⟩
    · exact .inr ⟨_, rfl, _, rfl, p, m, rfl, G, hm, .inr ⟨_, rfl, _, rfl, p, g, rfl, R, hB, ⟨_, rfl, _, rfl, .inr ⟨n, ty, hn, _, rfl, iteT q⟩⟩⟩⟩
/-- a plan that is due -/
def IsPlan (m : Nat) (v u b : V) (p : Nat) : Prop := ∃ (g : Nat) (z : Int), v = .int p ∧ u = .int g ∧ b = .int z ∧ Root p g ∧ rootB p g = true ∧ p ≤ m
/-- no place of the board -/
def BadC (K : PySem.W.Frag) (H : Hp) (p : Nat) (v : V) : Prop := NW K H v ∨ ∃ i : Int, v = .int i ∧ (i < 0 ∨ (p : Int) - 1 ≤ i)
theorem BadC.ext {H H' : Hp} {m : Nat} {v : V} (e : LamX.ExtN H H') (h : BadC K H m v) : BadC K H' m v := h.imp (fun z => z.ext e) id
def spRowOfX (K : PySem.W.Frag) (fa : Nat → Addr) : Sp := fun vs H _ E => ∃ v u b c : V, vs = [v, u, b, c] ∧ ((∃ C, BadPlan K fa H 2000 v u b C ∧ E (.ref C) none H) ∨ ∃ p, IsPlan 2000 v u b p ∧ BadC K H p c ∧ E (.ref (fa 38)) none H)
theorem xok_row_of (T : Txt K mg fa fd tk) : FnOk P w K mg base (L2N.CX P w) 5 (fa 9) (fd 9) ["prime", "root", "begin", "column"] (spRowOfX K fa) := by
  refine Hx.okN T.F_row_of sc_row_of (fun vs H Q E h => ?_) (fun cdv A outer s H vs Q E hr h => ?_)
  · obtain ⟨v, u, b, c, rfl, _⟩ := h
    rfl
  · obtain ⟨v, u, b, c, rfl, h⟩ := h
    have tk := L2N.takes_of (X := cxOf (L2N.CX P w) P w K mg base ["prime", "root", "begin", "column"] "row_of" (defScope s_row_of) (fa 9) cdv A outer s H E) rfl rfl rfl rfl
    refine ⟨_, (pss_cons (ps_expr (pe_alt (pe_callS (xok_asked_plan T) (hr.mono (by decide)) (by rfl) T.g_asked_plan T.F_asked_plan.kp T.b_asked_plan (L2N.passAt tk) (pa_cons (pv 0) (pa_cons (pv 1) (pa_cons (pv 2) (pa_cons (pe_glob (v := .int 2000) rfl T.g_MOST ⟨_, rfl⟩) pa_nil))))) (pe_call (ok_asked_plan T) (hr.mono (by decide)) (by rfl) T.g_asked_plan T.F_asked_plan.kp T.b_asked_plan .nil pass0 (pa_cons (pv 0) (pa_cons (pv 1) (pa_cons (pv 2) (pa_cons (pe_glob (v := .int 2000) rfl T.g_MOST ⟨_, rfl⟩) pa_nil)))))))
      (pss_cons (ps_if (PW.pt (pw_or (pt_not (pt_val (pe_call (ok_is_whole T) (hr.mono (by decide)) (by rfl) T.g_is_whole T.F_is_whole.kp T.b_is_whole .nil pass0 (pa_cons (pv 3) pa_nil)))) (pw_or1 (pt_not (pt_chain op_le op_lt pe_int (pv 3) (pe_op op_sub (pv 0) pe_int)))))) (pss_one (L2N.ps_raise rfl tk (L2N.pmk_own PySem.F.excBase_ValueError T.x_BadColumn.ex T.g_BadColumn T.x_BadColumn.kp (raises_own T.x_BadColumn.b T.x_BadColumn.t) (by rfl)))) pss_nil)
      Hx.pss_nev)), ?_⟩
    rcases h with ⟨C, h, q⟩ | ⟨p, ⟨g, z, rfl, rfl, rfl, R, hB, hm⟩, hc, q⟩
    · exact .inl ⟨_, rfl, _, rfl, _, rfl, v, u, b, 2000, C, rfl, h, q⟩
    · refine .inr ⟨_, rfl, _, rfl, _, rfl, p, g, 2000, z, rfl, R, hB, hm, ?_⟩
      rcases hc with ⟨_, n, ty, hn⟩ | ⟨i, rfl, hi⟩
      · exact ⟨_, rfl, _, rfl, .inr ⟨n, ty, hn, _, rfl, iteT q⟩⟩
      · refine ⟨_, rfl, _, rfl, .inl ⟨_, rfl, _, rfl, iteF ?_⟩⟩
        refine ⟨_, rfl, _, _, rfl, rfl, _, rfl, ite2 (fun e => ?_) (fun e => ?_)⟩
        · have i1 : 0 ≤ i := dT e
          refine ⟨_, rfl, _, _, rfl, rfl, _, _, rfl, rfl, _, rfl, ?_⟩
          rw [decide_eq_false (show ¬ i < (p : Int) - 1 by omega)]
          exact iteT q
        · exact ⟨_, rfl, iteT q⟩
def spColumnOfX (K : PySem.W.Frag) (fa : Nat → Addr) : Sp := fun vs H _ E => ∃ v u b c : V, vs = [v, u, b, c] ∧ ((∃ C, BadPlan K fa H 2000 v u b C ∧ E (.ref C) none H) ∨ ∃ p, IsPlan 2000 v u b p ∧ BadC K H p c ∧ E (.ref (fa 39)) none H)
theorem xok_column_of (T : Txt K mg fa fd tk) : FnOk P w K mg base (L2N.CX P w) 5 (fa 11) (fd 11) ["prime", "root", "begin", "row"] (spColumnOfX K fa) := by
  refine Hx.okN T.F_column_of sc_column_of (fun vs H Q E h => ?_) (fun cdv A outer s H vs Q E hr h => ?_)
  · obtain ⟨v, u, b, c, rfl, _⟩ := h
    rfl
  · obtain ⟨v, u, b, c, rfl, h⟩ := h
    have tk := L2N.takes_of (X := cxOf (L2N.CX P w) P w K mg base ["prime", "root", "begin", "row"] "column_of" (defScope s_column_of) (fa 11) cdv A outer s H E) rfl rfl rfl rfl
    refine ⟨_, (pss_cons (ps_expr (pe_alt (pe_callS (xok_asked_plan T) (hr.mono (by decide)) (by rfl) T.g_asked_plan T.F_asked_plan.kp T.b_asked_plan (L2N.passAt tk) (pa_cons (pv 0) (pa_cons (pv 1) (pa_cons (pv 2) (pa_cons (pe_glob (v := .int 2000) rfl T.g_MOST ⟨_, rfl⟩) pa_nil))))) (pe_call (ok_asked_plan T) (hr.mono (by decide)) (by rfl) T.g_asked_plan T.F_asked_plan.kp T.b_asked_plan .nil pass0 (pa_cons (pv 0) (pa_cons (pv 1) (pa_cons (pv 2) (pa_cons (pe_glob (v := .int 2000) rfl T.g_MOST ⟨_, rfl⟩) pa_nil)))))))
      (pss_cons (ps_if (PW.pt (pw_or (pt_not (pt_val (pe_call (ok_is_whole T) (hr.mono (by decide)) (by rfl) T.g_is_whole T.F_is_whole.kp T.b_is_whole .nil pass0 (pa_cons (pv 3) pa_nil)))) (pw_or1 (pt_not (pt_chain op_le op_lt pe_int (pv 3) (pe_op op_sub (pv 0) pe_int)))))) (pss_one (L2N.ps_raise rfl tk (L2N.pmk_own PySem.F.excBase_ValueError T.x_BadRow.ex T.g_BadRow T.x_BadRow.kp (raises_own T.x_BadRow.b T.x_BadRow.t) (by rfl)))) pss_nil)
      Hx.pss_nev)), ?_⟩
    rcases h with ⟨C, h, q⟩ | ⟨p, ⟨g, z, rfl, rfl, rfl, R, hB, hm⟩, hc, q⟩
    · exact .inl ⟨_, rfl, _, rfl, _, rfl, v, u, b, 2000, C, rfl, h, q⟩
    · refine .inr ⟨_, rfl, _, rfl, _, rfl, p, g, 2000, z, rfl, R, hB, hm, ?_⟩
      rcases hc with ⟨_, n, ty, hn⟩ | ⟨i, rfl, hi⟩
      · exact ⟨_, rfl, _, rfl, .inr ⟨n, ty, hn, _, rfl, iteT q⟩⟩
      · refine ⟨_, rfl, _, rfl, .inl ⟨_, rfl, _, rfl, iteF ?_⟩⟩
        refine ⟨_, rfl, _, _, rfl, rfl, _, rfl, ite2 (fun e => ?_) (fun e => ?_)⟩
        · have i1 : 0 ≤ i := dT e
          refine ⟨_, rfl, _, _, rfl, rfl, _, _, rfl, rfl, _, rfl, ?_⟩
          rw [decide_eq_false (show ¬ i < (p : Int) - 1 by omega)]
          exact iteT q
        · exact ⟨_, rfl, iteT q⟩
/-- no arrow -/
def BadA (K : PySem.W.Frag) (H : Hp) (p : Nat) (v u : V) : Prop := (NW K H v ∨ ∃ i : Int, v = .int i ∧ (i < 1 ∨ (p : Int) - 2 < i)) ∨ ((∃ i : Int, v = .int i ∧ 1 ≤ i ∧ i ≤ (p : Int) - 2) ∧ BadN K H p u)
theorem BadA.ext {H H' : Hp} {m : Nat} {v u : V} (e : LamX.ExtN H H') (h : BadA K H m v u) : BadA K H' m v u := h.imp (fun z => z.imp (fun y => y.ext e) id) fun z => ⟨z.1, z.2.ext e⟩
def spArrowX (K : PySem.W.Frag) (fa : Nat → Addr) : Sp := fun vs H _ E => ∃ v u b c d : V, vs = [v, u, b, c, d] ∧ ((∃ C, BadPlan K fa H 2000 v u b C ∧ E (.ref C) none H) ∨ ∃ p, IsPlan 2000 v u b p ∧ BadA K H p c d ∧ E (.ref (fa 40)) none H)
theorem xok_arrow_of (T : Txt K mg fa fd tk) : FnOk P w K mg base (L2N.CX P w) 5 (fa 12) (fd 12) ["prime", "root", "begin", "across", "up"] (spArrowX K fa) := by
  refine Hx.okN T.F_arrow_of sc_arrow_of (fun vs H Q E h => ?_) (fun cdv A outer s H vs Q E hr h => ?_)
  · obtain ⟨v, u, b, c, d, rfl, _⟩ := h
    rfl
  · obtain ⟨v, u, b, c, d, rfl, h⟩ := h
    have tk := L2N.takes_of (X := cxOf (L2N.CX P w) P w K mg base ["prime", "root", "begin", "across", "up", "apart"] "arrow_of" (defScope s_arrow_of) (fa 12) cdv A outer s H E) rfl rfl rfl rfl
    refine ⟨_, (pss_cons (ps_expr (pe_alt (pe_callS (xok_asked_plan T) (hr.mono (by decide)) (by rfl) T.g_asked_plan T.F_asked_plan.kp T.b_asked_plan (L2N.passAt tk) (pa_cons (pv 0) (pa_cons (pv 1) (pa_cons (pv 2) (pa_cons (pe_glob (v := .int 2000) rfl T.g_MOST ⟨_, rfl⟩) pa_nil))))) (pe_call (ok_asked_plan T) (hr.mono (by decide)) (by rfl) T.g_asked_plan T.F_asked_plan.kp T.b_asked_plan .nil pass0 (pa_cons (pv 0) (pa_cons (pv 1) (pa_cons (pv 2) (pa_cons (pe_glob (v := .int 2000) rfl T.g_MOST ⟨_, rfl⟩) pa_nil)))))))
      (pss_cons (ps_if (PW.pt (pw_or (pt_not (pt_val (pe_call (ok_is_whole T) (hr.mono (by decide)) (by rfl) T.g_is_whole T.F_is_whole.kp T.b_is_whole .nil pass0 (pa_cons (pv 3) pa_nil)))) (pw_or (pt_not (pt_chain op_le op_le pe_int (pv 3) (pe_op op_sub (pv 0) pe_int))) (pw_or (pt_not (pt_val (pe_call (ok_is_whole T) (hr.mono (by decide)) (by rfl) T.g_is_whole T.F_is_whole.kp T.b_is_whole .nil pass0 (pa_cons (pv 4) pa_nil)))) (pw_or1 (pt_not (pt_chain op_le op_lt pe_int (pv 4) (pv 0)))))))) (pss_one (L2N.ps_raise rfl tk (L2N.pmk_own PySem.F.excBase_ValueError T.x_BadArrow.ex T.g_BadArrow T.x_BadArrow.kp (raises_own T.x_BadArrow.b T.x_BadArrow.t) (by rfl)))) pss_nil)
      Hx.pss_nev)), ?_⟩
    rcases h with ⟨C, h, q⟩ | ⟨p, ⟨g, z, rfl, rfl, rfl, R, hB, hm⟩, hc, q⟩
    · exact .inl ⟨_, rfl, _, rfl, _, rfl, v, u, b, 2000, C, rfl, h, q⟩
    · refine .inr ⟨_, rfl, _, rfl, _, rfl, p, g, 2000, z, rfl, R, hB, hm, ?_⟩
      rcases hc with (⟨_, n, ty, hn⟩ | ⟨i, rfl, hi⟩) | ⟨⟨i, rfl, i1, i2⟩, hd⟩
      · exact ⟨_, rfl, _, rfl, .inr ⟨n, ty, hn, _, rfl, iteT q⟩⟩
      · refine ⟨_, rfl, _, rfl, .inl ⟨_, rfl, _, rfl, iteF ?_⟩⟩
        refine ⟨_, rfl, _, _, rfl, rfl, _, rfl, ite2 (fun e => ?_) (fun e => ?_)⟩
        · have i1 : 1 ≤ i := dT e
          refine ⟨_, rfl, _, _, rfl, rfl, _, _, rfl, rfl, _, rfl, ?_⟩
          rw [decide_eq_false (show ¬ i ≤ (p : Int) - 2 by omega)]
          exact iteT q
        · exact ⟨_, rfl, iteT q⟩
      · refine ⟨_, rfl, _, rfl, .inl ⟨_, rfl, _, rfl, iteF ?_⟩⟩
        refine ⟨_, rfl, _, _, rfl, rfl, _, rfl, ?_⟩
        rw [decide_eq_true i1]
        refine iteT ⟨_, rfl, _, _, rfl, rfl, _, _, rfl, rfl, _, rfl, ?_⟩
        rw [decide_eq_true i2]
        refine iteF ?_
        rcases hd with ⟨_, n, ty, hn⟩ | ⟨i, rfl, hi⟩
        · exact ⟨_, rfl, _, rfl, .inr ⟨n, ty, hn, _, rfl, iteT q⟩⟩
        · refine ⟨_, rfl, _, rfl, .inl ⟨_, rfl, _, rfl, iteF ?_⟩⟩
          refine ⟨_, rfl, _, _, rfl, rfl, _, rfl, ite2 (fun e => ?_) (fun e => ?_)⟩
          · have i1 : 1 ≤ i := dT e
            refine ⟨_, rfl, _, _, rfl, rfl, _, rfl, ?_⟩
            rw [decide_eq_false (show ¬ i < (p : Int) by omega)]
            exact iteT q
          · exact ⟨_, rfl, iteT q⟩
def spDotsOfX (K : PySem.W.Frag) (fa : Nat → Addr) : Sp := fun vs H _ E => ∃ v u b : V, vs = [v, u, b] ∧ ∃ C, BadPlan K fa H 61 v u b C ∧ E (.ref C) none H
theorem xok_dots_of (T : Txt K mg fa fd tk) : FnOk P w K mg base (L2N.CX P w) 5 (fa 13) (fd 13) ["prime", "root", "begin"] (spDotsOfX K fa) := by
  refine Hx.okN T.F_dots_of sc_dots_of (fun vs H Q E h => ?_) (fun cdv A outer s H vs Q E hr h => ?_)
  · obtain ⟨v, u, b, rfl, _⟩ := h
    rfl
  · obtain ⟨v, u, b, rfl, C, h, q⟩ := h
    have tk := L2N.takes_of (X := cxOf (L2N.CX P w) P w K mg base ["prime", "root", "begin", "column"] "dots_of" (defScope s_dots_of) (fa 13) cdv A outer s H E) rfl rfl rfl rfl
    exact ⟨_, (pss_cons (ps_expr (pe_alt (pe_callS (xok_asked_plan T) (hr.mono (by decide)) (by rfl) T.g_asked_plan T.F_asked_plan.kp T.b_asked_plan (L2N.passAt tk) (pa_cons (pv 0) (pa_cons (pv 1) (pa_cons (pv 2) (pa_cons (pe_glob (v := .int 61) rfl T.g_SMALL ⟨_, rfl⟩) pa_nil))))) (pe_call (ok_asked_plan T) (hr.mono (by decide)) (by rfl) T.g_asked_plan T.F_asked_plan.kp T.b_asked_plan .nil pass0 (pa_cons (pv 0) (pa_cons (pv 1) (pa_cons (pv 2) (pa_cons (pe_glob (v := .int 61) rfl T.g_SMALL ⟨_, rfl⟩) pa_nil)))))))
      Hx.pss_nev), .inl ⟨_, rfl, _, rfl, _, rfl, v, u, b, 61, C, rfl, h, q⟩⟩
def spCrossedX (K : PySem.W.Frag) (fa : Nat → Addr) : Sp := fun vs H _ E => ∃ v u b : V, vs = [v, u, b] ∧ ((BadP K H 61 v ∧ E (.ref (fa 35)) none H) ∨ ∃ p : Nat, v = .int p ∧ Good p ∧ p ≤ 61 ∧ ((BadR K H p u ∧ E (.ref (fa 36)) none H) ∨
  ∃ g : Nat, u = .int g ∧ Root p g ∧ rootB p g = true ∧ BadR K H p b ∧ E (.ref (fa 36)) none H))
theorem xok_crossed (T : Txt K mg fa fd tk) : FnOk P w K mg base (L2N.CX P w) 4 (fa 14) (fd 14) ["prime", "root", "other"] (spCrossedX K fa) := by
  refine Hx.okN T.F_crossed sc_crossed (fun vs H Q E h => ?_) (fun cdv A outer s H vs Q E hr h => ?_)
  · obtain ⟨v, u, b, rfl, _⟩ := h
    rfl
  · obtain ⟨v, u, b, rfl, h⟩ := h
    have tk := L2N.takes_of (X := cxOf (L2N.CX P w) P w K mg base ["prime", "root", "other", "found", "column"] "crossed" (defScope s_crossed) (fa 14) cdv A outer s H E) rfl rfl rfl rfl
    refine ⟨_, (pss_cons (ps_expr (pe_alt (pe_callS (xok_asked_prime T) (hr.mono (by decide)) (by rfl) T.g_asked_prime T.F_asked_prime.kp T.b_asked_prime (L2N.passAt tk) (pa_cons (pv 0) (pa_cons (pe_glob (v := .int 61) rfl T.g_SMALL ⟨_, rfl⟩) pa_nil))) (pe_call (ok_asked_prime T) (hr.mono (by decide)) (by rfl) T.g_asked_prime T.F_asked_prime.kp T.b_asked_prime .nil pass0 (pa_cons (pv 0) (pa_cons (pe_glob (v := .int 61) rfl T.g_SMALL ⟨_, rfl⟩) pa_nil)))))
      (pss_cons (ps_expr (pe_alt (pe_callS (xok_asked_root T) (hr.mono (by decide)) (by rfl) T.g_asked_root T.F_asked_root.kp T.b_asked_root (L2N.passAt tk) (pa_cons (pv 0) (pa_cons (pv 1) pa_nil))) (pe_call (ok_asked_root T) (hr.mono (by decide)) (by rfl) T.g_asked_root T.F_asked_root.kp T.b_asked_root .nil pass0 (pa_cons (pv 0) (pa_cons (pv 1) pa_nil)))))
      (pss_cons (ps_expr (pe_alt (pe_callS (xok_asked_root T) (hr.mono (by decide)) (by rfl) T.g_asked_root T.F_asked_root.kp T.b_asked_root (L2N.passAt tk) (pa_cons (pv 0) (pa_cons (pv 2) pa_nil))) (pe_call (ok_asked_root T) (hr.mono (by decide)) (by rfl) T.g_asked_root T.F_asked_root.kp T.b_asked_root .nil pass0 (pa_cons (pv 0) (pa_cons (pv 2) pa_nil)))))
      Hx.pss_nev))), ?_⟩
    rcases h with ⟨h, q⟩ | ⟨p, rfl, G, hm, ⟨h, q⟩ | ⟨g, rfl, R, hB, h, q⟩⟩
    · exact .inl ⟨_, rfl, v, 61, rfl, h, q⟩
    · exact .inr ⟨_, rfl, p, 61, rfl, G, hm, .inl ⟨_, rfl, _, rfl, u, p, rfl, G, h, q⟩⟩
    · exact .inr ⟨_, rfl, p, 61, rfl, G, hm, .inr ⟨_, rfl, _, rfl, p, g, rfl, R, hB, .inl ⟨_, rfl, _, rfl, b, p, rfl, G, h, q⟩⟩⟩
end
end Lw
namespace Lw
open PySem PySem.Spec PyProof.Rows L2 AD
section
variable {P : Program} {w : World} {K : PySem.W.Frag} {mg : Str → Option Value} {base : Heap}
variable {fa : Nat → Addr} {fd : Nat → FuncData} {tk : Nat → Tok}
/-! ### first_same -/
theorem getD_at {ns : List Int} {c : Nat} (h : c < ns.length) : ns[c]? = some (ns.getD c 0) := by
  rw [List.getD_eq_getElem?_getD, List.getElem?_eq_getElem h]
  rfl
theorem atD {ns : List Int} {c : Nat} (h : c < ns.length) : atI (ns.map V.int) (c : Int) = some (.int (ns.getD c 0)) := by
  refine atI_nat ?_
  rw [List.getElem?_map, getD_at h]
  rfl
theorem putK_len (kvs : List (Key × V)) (k : Key) (v : V) : (putK kvs k v).length ≤ kvs.length + 1 := by
  unfold putK
  split
  · rw [List.length_map]; omega
  · rw [List.length_append]; exact Nat.le_refl _
def spFirst (K : PySem.W.Frag) : Sp := fun vs H Q _ => ∃ (a : Addr) (ns : List Int), vs = [.ref a] ∧ SqL K H a (ns.map V.int) ∧ ns.length ≤ 1000 ∧ (∀ H', Apt ns → Same H H' → Q .non H') ∧
  ∀ (i j d : Nat) (H' : Hp) (t : Addr), 1 ≤ d → i < j → j + d < ns.length → up ns i d = up ns j d → Same H H' → H' t = some (.tup [.int i, .int j, .int d]) → Q (.ref t) H'
theorem ok_first_same (T : Txt K mg fa fd tk) : FnOk P w K mg base CX0 1 (fa 15) (fd 15) ["dots"] (spFirst K) := by
  refine T.F_first_same.ok sc_first_same (fun vs H Q E h => ?_) (fun cdv A outer s H vs Q E hr h => ?_)
  · obtain ⟨a, ns, rfl, _⟩ := h
    rfl
  · obtain ⟨a, ns, rfl, hS, hn, q0, q1⟩ := h
    have hu1 := hu_of hr
    refine ⟨_, (pss_cons (ps_for PassesOwn.never rfl (pi_range2 (by rfl) T.m_range (pa_cons pe_int (pa_cons (pe_callB call_len_seq (by rfl) T.m_len (by decide +kernel) (pa_cons (pv 0) pa_nil)) pa_nil))) (pg_name (i := 1) sc_first_same.nd rfl (.inl rfl)) (pss_cons (ps_set (i := 2) sc_first_same.nd rfl (.inl rfl) pe_dnewK)
      (pss_one (ps_for PassesOwn.never rfl (pi_range1 (by rfl) T.m_range (pa_cons (pe_op op_sub (pe_callB call_len_seq (by rfl) T.m_len (by decide +kernel) (pa_cons (pv 0) pa_nil)) (pv 1)) pa_nil)) (pg_name (i := 3) sc_first_same.nd rfl (.inl rfl)) (pss_cons (ps_set (i := 4) sc_first_same.nd rfl (.inl rfl) (pe_op op_sub (pe_ix ix_list (pv 0) (pe_op op_add (pv 3) (pv 1)) (fun _ _ => rfl)) (pe_ix ix_list (pv 0) (pv 3) (fun _ _ => rfl))))
      (pss_cons (ps_if (pt_cmp (pc_din hu1 (pv 4) (pv 2))) (pss_one (ps_ret (pe_tup (pa_cons (pe_dget hu1 (pv 2) (pv 4) (fun _ _ => rfl)) (pa_cons (pv 3) (pa_cons (pv 1) pa_nil)))))) pss_nil)
      (pss_one (ps_dput hu1 (pv 2) (pv 4) (pv 3) rfl))))))))
      (pss_one (ps_ret pe_non))), ?_⟩
    have hlen : ((ns.map V.int).length : Int) = (ns.length : Int) := by rw [List.length_map]
    refine ⟨_, rfl, a, _, rfl, .inl hS, 1, _, rfl, ⟨by decide, by decide, by omega, by omega⟩, ?_⟩
    refine for_it (walk_range (lo := 1) (n := (((ns.map V.int).length : Int) - 1).toNat)) (fun i σ H' => Same H H' ∧ (∀ d i' j, 1 ≤ d → d < i + 1 → i' < j → j + d < ns.length → up ns i' d ≠ up ns j d) ∧ ∃ y1 y2 y3 y4, σ = [some (.ref a), y1, y2, y3, y4]) ⟨Same.refl H, fun d i' j d1 d2 => by omega, none, none, none, none, rfl⟩ (fun _ _ _ _ _ => True.intro) (fun i x σ H2 H3 hi hP hY => ?_) (fun σ H2 hP => ?_)
    · obtain ⟨sm, hap, y1, y2, y3, y4, rfl⟩ := hP
      obtain ⟨rfl, rfl⟩ := hY
      have hi2 : i + 1 < ns.length := by omega
      refine fun sd nsd => ?_
      have hS3 := (sm.trans (same_upd (o := .dK []) nsd)).seq hS
      refine ⟨_, rfl, a, _, rfl, .inl hS3, _, rfl, _, _, rfl, rfl, _, rfl, by omega, by omega, ?_⟩
      refine for_it (walk_range (lo := 0) (n := (((ns.map V.int).length : Int) - (1 + (i : Int))).toNat)) (fun c σ H' => Same H H' ∧ (∃ kvs, H' sd = some (.dK kvs) ∧ kvs.length ≤ c ∧ (∀ u v, valV kvs (Sum.inl u) = some v → ∃ k : Nat, k < c ∧ v = .int k ∧ up ns k (i + 1) = u) ∧ (∀ k, k < c → (valV kvs (Sum.inl (up ns k (i + 1)))).isSome = true)) ∧ (∀ k j, k < j → j < c → up ns k (i + 1) ≠ up ns j (i + 1)) ∧ ∃ y3 y4, σ = [some (.ref a), some (.int (1 + (i : Int))), some (.ref sd), y3, y4])
        ⟨sm.trans (same_upd nsd), ⟨[], upd_same, Nat.le_refl _, fun u v e => (nomatch e), fun k hk => absurd hk (Nat.not_lt_zero k)⟩, fun k j _ hj => absurd hj (Nat.not_lt_zero j), y3, y4, rfl⟩ (fun _ _ _ _ _ => True.intro) (fun c x σ H4 H5 hc hP hY => ?_) (fun σ H4 hP => ?_)
      · obtain ⟨s4, ⟨kvs, hsd, hkl, hk1, hk2⟩, hdis, w3, w4, rfl⟩ := hP
        obtain ⟨rfl, rfl⟩ := hY
        have hS4 := s4.seq hS
        have hc2 : c + (i + 1) < ns.length := by omega
        have a1 : atI (ns.map V.int) (0 + (c : Int) + (1 + (i : Int))) = some (.int (ns.getD (c + (i + 1)) 0)) := by
          rw [show (0 : Int) + (c : Int) + (1 + (i : Int)) = ((c + (i + 1) : Nat) : Int) by omega]
          exact atD hc2
        have a2 : atI (ns.map V.int) (0 + (c : Int)) = some (.int (ns.getD c 0)) := by
          rw [Int.zero_add]
          exact atD (by omega)
        refine ⟨_, rfl, _, rfl, _, rfl, _, _, rfl, rfl, a, _, _, _, rfl, rfl, hS4, a1, _, rfl, _, rfl, a, _, _, _, rfl, rfl, hS4, a2, _, _, rfl, rfl, ?_⟩
        have hg : DGet H5 sd (.int (up ns c (i + 1))) (valV kvs (Sum.inl (up ns c (i + 1)))) := DGet.k (k := Sum.inl (up ns c (i + 1))) hsd
        refine ⟨_, rfl, _, rfl, sd, _, rfl, hg, _, rfl, ?_⟩
        cases ev : valV kvs (Sum.inl (up ns c (i + 1))) with
        | some v =>
          rw [ev] at hg
          obtain ⟨k, hk, rfl, hup⟩ := hk1 _ _ ev
          refine iteT ⟨_, rfl, _, rfl, sd, _, rfl, hg, _, rfl, _, rfl, by show 3 ≤ sizeLine; decide, fun t nt => ?_⟩
          refine q1 k c (i + 1) _ t (by omega) hk hc2 hup (s4.trans (same_upd nt)) ?_
          rw [upd_same, show ((i + 1 : Nat) : Int) = 1 + (i : Int) by omega]
          show some (HO.tup [V.int (k : Int), V.int (0 + (c : Int)), V.int (1 + (i : Int))]) = _
          rw [Int.zero_add]
        | none =>
          have hnew : ∀ k, k < c → up ns k (i + 1) ≠ up ns c (i + 1) := fun k hk e => by
            have h := hk2 k hk
            rw [e, ev] at h
            cases h
          refine iteF ⟨_, rfl, _, rfl, _, rfl, sd, _, rfl, DPut.k (k := Sum.inl (up ns c (i + 1))) hsd (small1000 (by omega)), ?_⟩
          refine ⟨fun x o h => ?_, ⟨_, upd_same, ?_, fun u v e => ?_, fun k hk => ?_⟩, fun k j hkj hj => ?_, _, _, rfl⟩
          · by_cases z : x = sd
            · subst z
              exact absurd ((sm x o h).symm.trans nsd) (by simp)
            · rw [upd_ne z]
              exact s4 x o h
          · exact Nat.le_trans (putK_len _ _ _) (by omega)
          · rw [valV_put] at e
            by_cases z : (Sum.inl u : Key) = Sum.inl (up ns c (i + 1))
            · rw [if_pos z] at e
              refine ⟨c, by omega, ?_, (Sum.inl.inj z).symm⟩
              have e2 : V.int (0 + (c : Int)) = v := Option.some.inj e
              rw [← e2, Int.zero_add]
            · rw [if_neg z] at e
              obtain ⟨k, hk, r⟩ := hk1 u v e
              exact ⟨k, by omega, r⟩
          · rw [valV_put]
            by_cases z : k = c
            · rw [z, if_pos rfl]
              rfl
            · split
              · rfl
              · exact hk2 k (by omega)
          · by_cases z : j = c
            · rw [z]
              exact hnew k (by omega)
            · exact hdis k j hkj (by omega)
      · obtain ⟨s4, hkv, hdis, w3, w4, rfl⟩ := hP
        refine ⟨s4, fun d k j d1 d2 hkj hjd => ?_, _, _, _, _, rfl⟩
        by_cases z : d = i + 1
        · subst z
          exact hdis k j hkj (by omega)
        · exact hap d k j d1 (by omega) hkj hjd
    · obtain ⟨sm, hap, y1, y2, y3, y4, rfl⟩ := hP
      exact q0 H2 (fun d i j d1 hij hjd => hap d i j d1 (by omega) hij hjd) sm
/-! ### answers -/
/-- an Apart's own word -/
def spApShows (K : PySem.W.Frag) : Sp := fun vs H Q _ => ∃ (x a : Addr) (ns : List Int), vs = [.ref x, .ref a] ∧ SqL K H a (ns.map V.int) ∧ ns.length ≤ 1000 ∧ ∀ (b : Bool) (H' : Hp), (b = true ↔ Apt ns) → Same H H' → Q (.bl b) H'
theorem not_apt {ns : List Int} {i j d : Nat} (h1 : 1 ≤ d) (h2 : i < j) (h3 : j + d < ns.length) (e : up ns i d = up ns j d) : ¬ Apt ns := fun h => h d i j h1 h2 h3 e
theorem ok_Apart_shows (T : Txt K mg fa fd tk) : FnOk P w K mg base CX0 2 (fa 16) (fd 16) ["self", "dots"] (spApShows K) := by
  refine T.F_Apart_shows.ok sc_Apart_shows (fun vs H Q E h => ?_) (fun cdv A outer s H vs Q E hr h => ?_)
  · obtain ⟨x, a, ns, rfl, _⟩ := h
    rfl
  · obtain ⟨x, a, ns, rfl, hS, hn, q⟩ := h
    refine ⟨_, (pss_one (ps_ret (pe_cmpR op_isN (pe_call (ok_first_same T) (hr.mono (by decide)) (by rfl) T.g_first_same T.F_first_same.kp T.b_first_same .nil pass0 (pa_cons (pv 1) pa_nil)) pe_non (nomark _)))), ?_⟩
    refine ⟨_, rfl, a, ns, rfl, hS, hn, fun H' ap s1 => ⟨rfl, q true H' ⟨fun _ => ap, fun _ => rfl⟩ s1⟩, fun i j d H' t h1 h2 h3 e s1 _ => ⟨rfl, q false H' ⟨fun z => (nomatch z), fun z => absurd z (not_apt h1 h2 h3 e)⟩ s1⟩⟩
/-- a Same with these fields -/
def IsSame (H : Hp) (C x : Addr) (i j d : Int) : Prop := ∃ dx, H x = some (.ins C dx [("first", .int i), ("second", .int j), ("across", .int d)])
def spSameInit (C : Addr) : Sp := fun vs H Q _ => ∃ (x dx : Addr) (i j d : Int), vs = [.ref x, .int i, .int j, .int d] ∧ H x = some (.ins C dx []) ∧ Q .non (upd H x (.ins C dx [("first", .int i), ("second", .int j), ("across", .int d)]))
theorem ok_Same_init (T : Txt K mg fa fd tk) : FnOk P w K mg base CX0 1 (fa 17) (fd 17) ["self", "first", "second", "across"] (spSameInit (fa 46)) := by
  refine T.F_Same_init.ok sc_Same_init (fun vs H Q E h => ?_) (fun cdv A outer s H vs Q E hr h => ?_)
  · obtain ⟨x, dx, i, j, d, rfl, _⟩ := h
    rfl
  · obtain ⟨x, dx, i, j, d, rfl, hx, q⟩ := h
    refine ⟨_, (pss_cons (ps_fld (pv 0) (pv 1) rfl)
      (pss_cons (ps_fld (pv 0) (pv 2) rfl)
      (pss_one (ps_fld (pv 0) (pv 3) rfl)))), ?_⟩
    refine ⟨_, rfl, _, rfl, x, _, dx, _, rfl, hx, T.in_Same.cl, T.na_Same_first, by show 0 < 1000; decide, ?_⟩
    refine ⟨_, rfl, _, rfl, x, _, dx, _, rfl, upd_same, T.in_Same.cl, T.na_Same_second, by show 1 < 1000; decide, ?_⟩
    rw [upd_upd]
    refine ⟨_, rfl, _, rfl, x, _, dx, _, rfl, upd_same, T.in_Same.cl, T.na_Same_across, by show 2 < 1000; decide, ?_⟩
    rw [upd_upd]
    exact q
/-- whether what a Same tells is so -/
def Sow (ns : List Int) (i j d : Int) : Prop := 0 ≤ i ∧ i < j ∧ 1 ≤ d ∧ d < (ns.length : Int) - j ∧ up ns i.toNat d.toNat = up ns j.toNat d.toNat
def spSaShows (K : PySem.W.Frag) (C : Addr) : Sp := fun vs H Q _ => ∃ (x a : Addr) (ns : List Int) (i j d : Int), vs = [.ref x, .ref a] ∧ IsSame H C x i j d ∧ SqL K H a (ns.map V.int) ∧ ns.length ≤ 1000 ∧ ∀ b : Bool, (b = true ↔ Sow ns i j d) → Q (.bl b) H
theorem atDI {ns : List Int} {c d : Int} (h0 : 0 ≤ c) (h1 : 0 ≤ d) (h : c + d < (ns.length : Int)) : atI (ns.map V.int) (c + d) = some (.int (ns.getD (c.toNat + d.toNat) 0)) := by
  have e : c + d = ((c.toNat + d.toNat : Nat) : Int) := by omega
  rw [e]
  exact atD (by omega)
theorem atDJ {ns : List Int} {c : Int} (h0 : 0 ≤ c) (h : c < (ns.length : Int)) : atI (ns.map V.int) c = some (.int (ns.getD c.toNat 0)) := by
  have e : c = ((c.toNat : Nat) : Int) := by omega
  rw [e]
  exact atD (by omega)
theorem ok_Same_shows (T : Txt K mg fa fd tk) : FnOk P w K mg base CX0 1 (fa 18) (fd 18) ["self", "dots"] (spSaShows K (fa 46)) := by
  refine T.F_Same_shows.ok sc_Same_shows (fun vs H Q E h => ?_) (fun cdv A outer s H vs Q E hr h => ?_)
  · obtain ⟨x, a, ns, i, j, d, rfl, _⟩ := h
    rfl
  · obtain ⟨x, a, ns, i, j, d, rfl, ⟨dx, hx⟩, hS, hn, q⟩ := h
    have c := T.in_Same.cl
    have n1 := T.na_Same_first
    have n2 := T.na_Same_second
    have n3 := T.na_Same_across
    have hlen : ((ns.map V.int).length : Int) = (ns.length : Int) := by rw [List.length_map]
    refine ⟨_, (pss_cons (ps_if (PW.pt (pw_or (pt_not (pt_chain op_le op_lt pe_int (pe_fld (pv 0) rfl) (pe_fld (pv 0) rfl))) (pw_or1 (pt_not (pt_chain op_le op_lt pe_int (pe_fld (pv 0) rfl) (pe_op op_sub (pe_callB call_len_seq (by rfl) T.m_len (by decide +kernel) (pa_cons (pv 1) pa_nil)) (pe_fld (pv 0) rfl))))))) (pss_one (ps_ret pe_bl)) pss_nil)
      (pss_cons (ps_set (i := 2) sc_Same_shows.nd rfl (.inl rfl) (pe_op op_sub (pe_ix ix_list (pv 1) (pe_op op_add (pe_fld (pv 0) rfl) (pe_fld (pv 0) rfl)) (fun _ _ => rfl)) (pe_ix ix_list (pv 1) (pe_fld (pv 0) rfl) (fun _ _ => rfl))))
      (pss_one (ps_ret (pe_cmpR op_eq (pv 2) (pe_op op_sub (pe_ix ix_list (pv 1) (pe_op op_add (pe_fld (pv 0) rfl) (pe_fld (pv 0) rfl)) (fun _ _ => rfl)) (pe_ix ix_list (pv 1) (pe_fld (pv 0) rfl) (fun _ _ => rfl))) (nomark _)))))), ?_⟩
    have no : ¬ Sow ns i j d → Q (.bl false) H := fun z => q false ⟨fun y => (nomatch y), fun y => absurd y z⟩
    refine ⟨_, rfl, x, _, dx, _, _, rfl, hx, c, n1, rfl, _, _, rfl, rfl, _, rfl, ite2 (fun e1 => ?_) (fun e1 => ?_)⟩
    · have i0 := dT e1
      refine ⟨_, rfl, x, _, dx, _, _, rfl, hx, c, n2, rfl, _, _, rfl, rfl, _, rfl, ?_⟩
      by_cases hij : i < j
      · rw [decide_eq_true hij]
        refine iteF ⟨_, rfl, x, _, dx, _, _, rfl, hx, c, n3, rfl, _, _, rfl, rfl, _, rfl, ite2 (fun e2 => ?_) (fun e2 => ?_)⟩
        · have d1 := dT e2
          refine ⟨_, rfl, a, _, rfl, .inl hS, _, rfl, x, _, dx, _, _, rfl, hx, c, n2, rfl, _, _, rfl, rfl, _, _, rfl, rfl, _, rfl, ?_⟩
          by_cases hd : d < (ns.length : Int) - j
          · rw [hlen, decide_eq_true hd]
            refine iteF ?_
            refine ⟨_, rfl, _, rfl, x, _, dx, _, _, rfl, hx, c, n1, rfl, _, rfl, x, _, dx, _, _, rfl, hx, c, n3, rfl, _, _, rfl, rfl, a, _, _, _, rfl, rfl, hS, atDI i0 (by omega) (by omega), _, rfl, _, rfl, x, _, dx, _, _, rfl, hx, c, n1, rfl, a, _, _, _, rfl, rfl, hS, atDJ i0 (by omega), _, _, rfl, rfl, ?_⟩
            refine ⟨_, rfl, _, rfl, _, rfl, x, _, dx, _, _, rfl, hx, c, n2, rfl, _, rfl, x, _, dx, _, _, rfl, hx, c, n3, rfl, _, _, rfl, rfl, a, _, _, _, rfl, rfl, hS, atDI (by omega) (by omega) (by omega), _, rfl, _, rfl, x, _, dx, _, _, rfl, hx, c, n2, rfl, a, _, _, _, rfl, rfl, hS, atDJ (by omega) (by omega), _, _, rfl, rfl, rfl, ?_⟩
            refine q _ ?_
            rw [dec_vint]
            exact ⟨fun z => ⟨i0, hij, d1, hd, z⟩, fun z => z.2.2.2.2⟩
          · rw [hlen, decide_eq_false hd]
            exact iteT (no fun z => hd z.2.2.2.1)
        · exact ⟨_, rfl, iteT (no fun z => dF e2 z.2.2.1)⟩
      · rw [decide_eq_false hij]
        exact iteT (no fun z => hij z.2.1)
    · exact ⟨_, rfl, iteT (no fun z => dF e1 z.1)⟩
end
end Lw
namespace Lw
open PySem PySem.Spec PyProof.Rows L2 AD
section
variable {P : Program} {w : World} {K : PySem.W.Frag} {mg : Str → Option Value} {base : Heap}
variable {fa : Nat → Addr} {fd : Nat → FuncData} {tk : Nat → Tok}
/-! ### asked_dots, judged -/
theorem nats_len (l : List Nat) : (nats l).length = l.length := by unfold nats; rw [List.length_map]
def zof (l : List Nat) : List Int := l.map fun n : Nat => (n : Int)
theorem zof_len (l : List Nat) : (zof l).length = l.length := by unfold zof; rw [List.length_map]
/-- rows of a board, each once -/
structure Dots (os : List Nat) : Prop where
  pm : os.Perm (List.range os.length)
  lo : 1 ≤ os.length
  hi : os.length ≤ 60
def spAskedDots : Sp := fun vs H Q _ => ∃ (a : Addr) (os : List Nat), vs = [.ref a] ∧ H a = some (.lst (nats os)) ∧ Dots os ∧ ∀ H', Same H H' → Q .non H'
theorem ok_asked_dots (T : Txt K mg fa fd tk) : FnOk P w K mg base CX0 2 (fa 19) (fd 19) ["dots"] spAskedDots := by
  refine T.F_asked_dots.ok sc_asked_dots (fun vs H Q E h => ?_) (fun cdv A outer s H vs Q E hr h => ?_)
  · obtain ⟨a, os, rfl, _⟩ := h
    rfl
  · obtain ⟨a, os, rfl, ha, D, q⟩ := h
    have hu := hr.units
    have d1 := D.lo
    have d2 := D.hi
    refine ⟨_, (pss_cons (ps_if (PW.pt (pw_or (pt_not (pt_val (pe_callB call_isi (by rfl) T.m_isinstance (by decide +kernel) (pa_cons (pv 0) (pa_cons (pe_bltn (v := .ty "list") (u := .type "list") (by rfl) T.m_list (by decide +kernel) rfl) pa_nil))))) (pw_or (pt_not (pt_chain op_le op_le pe_int (pe_callB call_len_seq (by rfl) T.m_len (by decide +kernel) (pa_cons (pv 0) pa_nil)) (pe_glob (v := .int 60) rfl T.g_LONGEST ⟨_, rfl⟩))) (pw_or1 (pt_not (pt_val (pe_callB (cr_all rfl) (by rfl) T.m_all (by decide +kernel) (pa_cons (pe_lc (own := [("row", 1)]) (g := gName 1) (tt := tYes) (by rfl) sc_asked_dots.nd (pi_list (pv 0)) (blkOk_by (own := [("row", 1)]) (N := ["dots", "row"]) (sc := (defScope s_asked_dots)) (by decide +kernel)) (fun _ _ _ _ _ => (pg_name (i := 1) sc_asked_dots.nd rfl (Or.inl rfl))) (fun _ _ _ _ _ => pts_nil) (fun _ _ _ _ _ => (pe_call (ok_is_whole T) (hr.mono (by decide)) (by rfl) T.g_is_whole T.F_is_whole.kp T.b_is_whole .nil pass0 (pa_cons (pv 1) pa_nil)))) pa_nil)))))))) (pss_one ps_never) pss_nil)
      (pss_one (ps_if (pt_cmpR (op_neL hu) (pe_callB cr_sorted (by rfl) T.m_sorted (by decide +kernel) (pa_cons (pv 0) pa_nil)) (pe_listRg rfl (by rfl) T.m_list (prg_1 (by rfl) T.m_range (pe_callB call_len_seq (by rfl) T.m_len (by decide +kernel) (pa_cons (pv 0) pa_nil)))) (nomark _)) (pss_one ps_never) pss_nil))), ?_⟩
    refine ⟨_, rfl, _, _, _, _, true, rfl, .ty _, .base (.lst ha), kit_ty (by decide +kernel), true, rfl, iteF ?_⟩
    refine ⟨_, rfl, a, _, rfl, .inl (.of ha), _, _, rfl, rfl, _, rfl, ?_⟩
    rw [nats_len, decide_eq_true (show (1 : Int) ≤ (os.length : Int) by omega)]
    refine iteT ⟨_, _, rfl, rfl, _, rfl, ?_⟩
    rw [decide_eq_true (show (os.length : Int) ≤ 60 by omega)]
    refine iteF ?_
    refine ⟨_, rfl, a, rfl, ⟨_, .of ha⟩, fun D1 nD => ?_⟩
    have neD : a ≠ D1 := ne_of_none ha nD
    refine lc_it (walk_list (xs := nats os)) (fun i H' => Same H H' ∧ H' D1 = some (.lst ((List.replicate i true).map V.bl))) ⟨same_upd nD, upd_same⟩ (fun i H' _ hP => .of (hP.1 _ _ ha)) (fun i x H4 H5 hi hP hY => ?_) (fun H4 hP => ?_)
    · obtain ⟨sm, hD⟩ := hP
      obtain ⟨rfl, hx⟩ := hY
      obtain ⟨n, hn, rfl⟩ := nats_at hx
      rw [nats_len] at hi
      refine ⟨rfl, ?_⟩
      refine ⟨_, rfl, _, rfl, .inl ⟨_, rfl, _, hD, ?_, fun x o h => ?_, ?_⟩⟩
      · rw [List.length_map, List.length_replicate]
        exact small1000 (by omega)
      · rw [upd_ne (ne_of_none h nD)]
        exact sm x o h
      · rw [upd_same, List.replicate_succ', List.map_append]
        rfl
    · obtain ⟨sm, hD⟩ := hP
      refine ⟨D1, _, rfl, .of hD, _, rfl, ?_⟩
      rw [show (List.replicate (nats os).length true).all id = true by simp]
      refine iteF ?_
      have ha4 := sm _ _ ha
      refine ⟨_, rfl, a, zof os, rfl, .of (by rw [ha4, nats_ints]; rfl), by rw [zof_len]; omega, fun ns' p pm so np => ?_⟩
      have s1 := same_upd (o := .lst (ns'.map V.int)) np
      have e1 : ns' = zof (List.range os.length) := sorted_range pm D.pm so
      refine ⟨_, rfl, a, _, rfl, .inl (.of (s1 _ _ ha4)), _, rfl, RgOk.of_le (by omega) (by rw [nats_len]; omega) (by omega) (by omega), fun p2 np2 => ?_⟩
      refine ⟨p, p2, ns', zof (List.range os.length), rfl, rfl, .of (same_upd np2 _ _ upd_same), .of ?_, _, rfl, ?_⟩
      · rw [upd_same, nats_len, rgV_nats, nats_ints]
        rfl
      rw [decide_eq_true e1]
      exact iteF (q _ ((sm.trans s1).trans (same_upd np2)))
def spJudged (CA CS : Addr) : Sp := fun vs H Q _ => ∃ (a : Addr) (os : List Nat), vs = [.ref a] ∧ H a = some (.lst (nats os)) ∧ Dots os ∧
  (∀ (H' : Hp) (x dx : Addr), Apt (zof os) → Same H H' → H' x = some (.ins CA dx []) → Q (.ref x) H') ∧
  ∀ (i j d : Nat) (H' : Hp) (x : Addr), 1 ≤ d → i < j → j + d < os.length → up (zof os) i d = up (zof os) j d → Same H H' → IsSame H' CS x i j d → Q (.ref x) H'
theorem same_made {H : Hp} {x dx : Addr} {o : HO} (nx : H x = none) (nd : H dx = none) : Same H (upd (upd H dx (.own x)) x o) := fun b u e => by
  rw [upd_ne (ne_of_none e nx), upd_ne (ne_of_none e nd)]
  exact e
theorem ok_judged (T : Txt K mg fa fd tk) : FnOk P w K mg base CX0 3 (fa 20) (fd 20) ["dots"] (spJudged (fa 45) (fa 46)) := by
  refine T.F_judged.ok sc_judged (fun vs H Q E h => ?_) (fun cdv A outer s H vs Q E hr h => ?_)
  · obtain ⟨a, os, rfl, _⟩ := h
    rfl
  · obtain ⟨a, os, rfl, ha, D, q0, q1⟩ := h
    have d2 := D.hi
    refine ⟨_, (pss_cons (ps_expr (pe_call (ok_asked_dots T) (hr.mono (by decide)) (by rfl) T.g_asked_dots T.F_asked_dots.kp T.b_asked_dots .nil pass0 (pa_cons (pv 0) pa_nil)))
      (pss_cons (ps_set (i := 1) sc_judged.nd rfl (.inl rfl) (pe_call (ok_first_same T) (hr.mono (by decide)) (by rfl) T.g_first_same T.F_first_same.kp T.b_first_same .nil pass0 (pa_cons (pv 0) pa_nil)))
      (pss_one (ps_ret (pe_ifExp (pt_cmpR op_isN (pv 1) pe_non (nomark _)) (pe_makeP T.mk_Apart (by rfl) T.g_Apart) (pe_make T.mk_Same (ok_Same_init T) (hr.mono (by decide)) (by rfl) T.g_Same T.b_Same_init .nil pass0 (pa_cons (pe_ix ix_tup (pv 1) pe_int (fun _ _ => rfl)) (pa_cons (pe_ix ix_tup (pv 1) pe_int (fun _ _ => rfl)) (pa_cons (pe_ix ix_tup (pv 1) pe_int (fun _ _ => rfl)) pa_nil))))))))), ?_⟩
    refine ⟨_, rfl, a, os, rfl, ha, D, fun H1 s1 => ?_⟩
    have ha1 := s1 _ _ ha
    refine ⟨_, rfl, a, zof os, rfl, .of (by rw [ha1, nats_ints]; rfl), by rw [zof_len]; omega, fun H2 ap s2 => ?_, fun i j d H2 t h1 h2 h3 e s2 ht => ?_⟩
    · refine ⟨_, rfl, rfl, _, rfl, ?_⟩
      refine iteT fun x dx nx nd ne => ?_
      exact q0 _ x dx ap ((s1.trans s2).trans (same_made nx nd)) upd_same
    · rw [zof_len] at h3
      refine ⟨_, rfl, rfl, _, rfl, ?_⟩
      refine iteF ?_
      have hq : SqT K H2 t [.int i, .int j, .int d] := .of ht
      refine ⟨_, rfl, t, _, _, _, rfl, rfl, hq, atI_nat (j := 0) rfl, _, rfl, t, _, _, _, rfl, rfl, hq, atI_nat (j := 1) rfl, _, rfl, t, _, _, _, rfl, rfl, hq, atI_nat (j := 2) rfl, fun x dx nx nd ne => ⟨x, dx, i, j, d, rfl, upd_same, rfl, ?_⟩⟩
      rw [upd_upd]
      exact q1 i j d _ x h1 h2 h3 e ((s1.trans s2).trans (same_made nx nd)) ⟨dx, upd_same⟩
end
end Lw
namespace Lw
open PySem PySem.Spec PyProof.Rows L2 AD
section
variable {P : Program} {w : World} {K : PySem.W.Frag} {mg : Str → Option Value} {base : Heap}
variable {fa : Nat → Addr} {fd : Nat → FuncData} {tk : Nat → Tok}
/-! ### dots, more -/
theorem deq {b c : Bool} {p : Prop} (h1 : b = true ↔ p) (h2 : c = true ↔ p) : b = c := by
  rw [Bool.eq_iff_iff, h1, h2]
theorem bt_of {b : Bool} {p : Prop} (h : b = true ↔ p) (hp : p) : b = true := h.mpr hp
theorem bf_of {b : Bool} {p : Prop} (h : b = true ↔ p) (hp : ¬ p) : b = false := by
  cases b with
  | false => rfl
  | true => exact absurd (h.mp rfl) hp
theorem Dots.tri {os : List Nat} (D : Dots os) : (arrows (zof os)).length < 2000 := by
  rw [arrows_len, zof_len]
  exact tri60 _ D.hi
theorem Dots.swap {os : List Nat} (D : Dots os) {i j : Nat} (hi : i < os.length) (hj : j < os.length) : Dots ((os.set i os[j]).set j os[i]) := by
  have h := List.set_set_perm (as := os) hi hj
  have hl : ((os.set i os[j]).set j os[i]).length = os.length := by rw [List.length_set, List.length_set]
  exact ⟨by rw [hl]; exact h.trans D.pm, by rw [hl]; exact D.lo, by rw [hl]; exact D.hi⟩
theorem nats_set (l : List Nat) (i n : Nat) : (nats l).set i (V.int (n : Int)) = nats (l.set i n) := by
  unfold nats
  rw [List.map_set]
theorem nats_get {l : List Nat} {i : Nat} (h : i < l.length) : (nats l)[i]? = some (V.int ((l[i] : Nat) : Int)) := by
  unfold nats
  rw [List.getElem?_map, List.getElem?_eq_getElem h]
  rfl
theorem ixN_nat {n i : Nat} (h : i < n) : ixN n (i : Int) = some i := by
  unfold ixN
  rw [if_pos (by omega), if_pos (by omega), Int.toNat_natCast]
theorem ixN_last {n : Nat} (h : 1 ≤ n) : ixN n (-1) = some (n - 1) := by
  unfold ixN
  rw [if_neg (by decide), if_pos (by omega), show (-1 + (n : Int)).toNat = n - 1 by omega]
theorem nats_last {l : List Nat} (h : 1 ≤ l.length) : atI (nats l) (-1) = some (V.int ((l[l.length - 1] : Nat) : Int)) := by
  unfold atI
  rw [nats_len, ixN_last h]
  exact nats_get (by omega)
/-- a list that holds dots -/
def DotsAt (H : Hp) (v : V) : Prop := ∃ (l : Addr) (os : List Nat), v = .ref l ∧ H l = some (.lst (nats os)) ∧ Dots os
theorem DotsAt.same {H H' : Hp} {v : V} (s : Same H H') (h : DotsAt H v) : DotsAt H' v := by
  obtain ⟨l, os, e, hl, r⟩ := h
  exact ⟨l, os, e, s _ _ hl, r⟩
theorem DotsAt.mk {H : Hp} {l : Addr} {os : List Nat} (hl : H l = some (.lst (nats os))) (D : Dots os) : DotsAt H (.ref l) := ⟨l, os, rfl, hl, D⟩
theorem rows_dots {p g : Nat} (R : Root p g) (b : Int) (hp : p ≤ 61) : Dots (rowsN p g b) := by
  have lo := R.good.lo
  have hl : (rowsN p g b).length = p - 1 := by unfold rowsN; rw [List.length_map, List.length_range]
  exact ⟨by rw [hl]; exact R.rows_perm b, by omega, by omega⟩
theorem rows_nats {p g : Nat} (R : Root p g) (b : Int) : (rowsI p g b).map V.int = nats (rowsN p g b) := by
  rw [nats_ints, R.rowsI_eq]
theorem rows_zof {p g : Nat} (R : Root p g) (b : Int) : zof (rowsN p g b) = rowsI p g b := (R.rowsI_eq b).symm
theorem range_dots {n : Nat} (h1 : 1 ≤ n) (h2 : n ≤ 60) : Dots (List.range n) := by
  have hl : (List.range n).length = n := List.length_range
  exact ⟨by rw [hl], by omega, by omega⟩
theorem perm_dots {os : List Nat} {n : Nat} (h : os.Perm (List.range n)) (h1 : 1 ≤ n) (h2 : n ≤ 60) : Dots os := by
  have hl : os.length = n := by rw [h.length_eq, List.length_range]
  exact ⟨by rw [hl]; exact h, by omega, by omega⟩
theorem atI_nats {l : List Nat} {i : Nat} (h : i < l.length) : atI (nats l) (i : Int) = some (V.int ((l[i] : Nat) : Int)) := atI_nat (nats_get h)
theorem cutV_last (xs : List V) (x : V) : cutV (xs ++ [x]) none (some (-1)) = xs := by
  unfold cutV
  rw [HT.sIx_none, List.drop_zero, Nat.sub_zero]
  have e : HT.sIx (xs ++ [x]).length (xs ++ [x]).length (some (-1)) = xs.length := by
    show (if (-1 : Int) < 0 then (-1 + ((xs ++ [x]).length : Int)).toNat else min (-1 : Int).toNat (xs ++ [x]).length) = _
    rw [if_pos (by decide), List.length_append]
    show (-1 + ((xs.length + 1 : Nat) : Int)).toNat = _
    omega
  rw [e, List.take_left]
end
end Lw
namespace Lw
open PySem PySem.Spec PyProof.Rows L2 AD
section
variable {P : Program} {w : World} {K : PySem.W.Frag} {mg : Str → Option Value} {base : Heap}
variable {fa : Nat → Addr} {fd : Nat → FuncData} {tk : Nat → Tok}
/-! ### crossed -/
def spCrossed : Sp := fun vs H Q _ => ∃ p g h : Nat, vs = [.int p, .int g, .int h] ∧ Root p g ∧ Root p h ∧ rootB p g = true ∧ rootB p h = true ∧ p ≤ 61 ∧ ∀ (H' : Hp) (a : Addr) (l : List Nat), Cross p g h l → Same H H' → H a = none → H' a = some (.lst (nats l)) → Q (.ref a) H'
theorem snoc_at {l : List Nat} {x c r : Nat} (h : (l ++ [x])[c]? = some r) : l[c]? = some r ∨ (c = l.length ∧ r = x) := by
  rcases Nat.lt_or_ge c l.length with z | z
  · rw [List.getElem?_append_left z] at h
    exact .inl h
  · rw [List.getElem?_append_right z] at h
    by_cases y : c = l.length
    · subst y
      rw [Nat.sub_self] at h
      exact .inr ⟨rfl, (Option.some.inj h).symm⟩
    · obtain ⟨k, hk⟩ : ∃ k, c - l.length = k + 1 := ⟨c - l.length - 1, by omega⟩
      rw [hk] at h
      cases h
theorem ok_crossed (T : Txt K mg fa fd tk) : FnOk P w K mg base CX0 4 (fa 14) (fd 14) ["prime", "root", "other"] spCrossed := by
  refine T.F_crossed.ok sc_crossed (fun vs H Q E h => ?_) (fun cdv A outer s H vs Q E hr h => ?_)
  · obtain ⟨p, g, h, rfl, _⟩ := h
    rfl
  · obtain ⟨p, g, h, rfl, Rg, Rh, hg, hh, hp, q⟩ := h
    have lo := Rg.good.lo
    have g2 := Rg.lt
    have h2 := Rh.lt
    refine ⟨_, (pss_cons (ps_expr (pe_call (ok_asked_prime T) (hr.mono (by decide)) (by rfl) T.g_asked_prime T.F_asked_prime.kp T.b_asked_prime .nil pass0 (pa_cons (pv 0) (pa_cons (pe_glob (v := .int 61) rfl T.g_SMALL ⟨_, rfl⟩) pa_nil))))
      (pss_cons (ps_expr (pe_call (ok_asked_root T) (hr.mono (by decide)) (by rfl) T.g_asked_root T.F_asked_root.kp T.b_asked_root .nil pass0 (pa_cons (pv 0) (pa_cons (pv 1) pa_nil))))
      (pss_cons (ps_expr (pe_call (ok_asked_root T) (hr.mono (by decide)) (by rfl) T.g_asked_root T.F_asked_root.kp T.b_asked_root .nil pass0 (pa_cons (pv 0) (pa_cons (pv 2) pa_nil))))
      (pss_cons (ps_set (i := 3) sc_crossed.nd rfl (.inl rfl) (pe_lst pa_nil))
      (pss_cons (ps_for PassesOwn.never rfl (pi_range2 (by rfl) T.m_range (pa_cons pe_int (pa_cons (pe_op op_sub (pv 0) pe_int) pa_nil))) (pg_name (i := 4) sc_crossed.nd rfl (.inl rfl)) (pss_one (ps_expr (pe_bm PySem.F.plainAttrs_list PySem.F.slot_list_append PySem.F.type_list_append mt_append (pv 3) (pa_cons (pe_call (ok_found_column T) (hr.mono (by decide)) (by rfl) T.g_found_column T.F_found_column.kp T.b_found_column .nil pass0 (pa_cons (pv 0) (pa_cons (pv 2) (pa_cons pe_int (pa_cons (pe_op op_sub (pe_op op_mod (pe_op op_sub pe_int (pe_call (ok_power T) (hr.mono (by decide)) (by rfl) T.g_power T.F_power.kp T.b_power .nil pass0 (pa_cons (pv 1) (pa_cons (pv 4) (pa_cons (pv 0) pa_nil))))) (pv 0)) pe_int) pa_nil))))) pa_nil)))))
      (pss_one (ps_ret (pv 3)))))))), ?_⟩
    refine ⟨_, rfl, p, 61, rfl, Rg.good, hp, ?_⟩
    refine ⟨_, rfl, _, rfl, p, g, rfl, Rg, hg, ?_⟩
    refine ⟨_, rfl, _, rfl, p, h, rfl, Rh, hh, ?_⟩
    refine ⟨Nat.zero_le _, fun l nl => ?_⟩
    refine ⟨_, rfl, _, _, rfl, rfl, 1, _, rfl, ⟨by decide, by decide, by omega, by omega⟩, ?_⟩
    refine for_it (walk_range (lo := 1) (n := ((p : Int) - 1 - 1).toNat)) (fun i σ H' => Same H H' ∧ (∃ os : List Nat, os.length = i ∧ (∀ c r, os[c]? = some r → r < p - 2 ∧ (g ^ (c + 1) + h ^ (r + 1)) % p = 1) ∧ H' l = some (.lst (nats os))) ∧ ∃ y4, σ = [some (.int p), some (.int g), some (.int h), some (.ref l), y4]) ⟨same_upd nl, ⟨[], rfl, fun c r e => (nomatch e), upd_same⟩, none, rfl⟩ (fun _ _ _ _ _ => True.intro) (fun i x σ H2 H3 hi hP hY => ?_) (fun σ H2 hP => ?_)
    · obtain ⟨sm, ⟨os, hol, hat, hl⟩, y4, rfl⟩ := hP
      obtain ⟨rfl, rfl⟩ := hY
      have hi2 : i + 1 < p - 1 := by omega
      obtain ⟨z0, z1⟩ := Rg.cross_z (c := i + 1) (by omega) hi2
      refine ⟨_, rfl, .inl ⟨rfl, _, .of hl⟩, _, rfl, _, rfl, _, rfl, _, rfl, _, rfl, g, i + 1, p, ?_, by omega, by omega, by omega, _, _, rfl, rfl, _, rfl, _, _, rfl, rfl, (show (0 : Int) < p by omega), _, _, rfl, rfl, p, h, 1, _, rfl, Rh, z0, z1, fun r r1 r2 => ?_⟩
      · show [V.int (g : Int), V.int (1 + (i : Int)), V.int (p : Int)] = _
        rw [show 1 + (i : Int) = ((i + 1 : Nat) : Int) by omega]
      obtain ⟨k1, k2⟩ := Rg.cross_at Rh (c := i + 1) (r := r) (by omega) hi2 r1 (by omega)
      refine ⟨l, _, _, rfl, rfl, hl, ?_, fun x o e => ?_, ⟨os ++ [r], ?_, fun c r' e => ?_, ?_⟩, _, rfl⟩
      · rw [nats_len, hol]
        exact small1000 (by omega)
      · rw [upd_ne (ne_of_none e nl)]
        exact sm x o e
      · rw [List.length_append, hol]
        rfl
      · rcases snoc_at e with z | ⟨rfl, rfl⟩
        · exact hat c r' z
        · rw [hol]
          exact ⟨k1, k2⟩
      · rw [upd_same]
        unfold nats
        rw [List.map_append]
        rfl
    · obtain ⟨sm, ⟨os, hol, hat, hl⟩, y4, rfl⟩ := hP
      exact ⟨_, rfl, q _ l os ⟨by omega, hat⟩ sm nl hl⟩
theorem Cross.dots {p g h : Nat} {l : List Nat} (R : Root p g) (X : Cross p g h l) (hp : p ≤ 61) : Dots l := by
  have lo := R.good.lo
  have hl := X.len
  exact ⟨by rw [hl]; exact X.perm R, by omega, by omega⟩
end
end Lw
namespace Lw
open PySem PySem.Spec PyProof.Rows L2 AD
section
variable {P : Program} {w : World} {K : PySem.W.Frag} {mg : Str → Option Value} {base : Heap}
variable {fa : Nat → Addr} {fd : Nat → FuncData} {tk : Nat → Tok}
/-! ### turned, without_corner -/
section
variable {X : Cx} {o e : Expr} {es : List Expr} {to : TE} {t : TA} {name : Str} {apos cpos : Pos} {T id : String} {r : V → List V → Hp → VK → Prop}
theorem pe_bmK {K : PySem.W.Frag} (hK : X.K = K) (pa : PlainAttrs T) (slot : Slot T name id) (hty : typeOf (.builtin id) = pure (.type "method_descriptor")) (hm : MtR X id r) (ho : PE X o to) (ha : PA X (e :: es) t)
    (hbase : attributeBase o name X.env (eval o X.env) = eval o X.env := by rfl)
    (hfew : ((backTo cpos (starEach (e :: es) X.env)).all (fun x => !x.1) && (backToKw cpos (keywordEach [] X.env)).all (fun x => x.1.isSome)
      && decide ((e :: es).length + ([] : List Keyword).length + (if ([] : List Keyword).isEmpty then 0 else 1) < 30)) = true := by rfl)
    (hline : (apos.endLine == cpos.line) = true := by rfl) (hs : starEach (e :: es) X.env = (false, eval e X.env) :: starEach es X.env := by rfl) (hplain : (backTo cpos (starEach es X.env)).any (·.1) = false := by rfl) :
    PE X (.Call (.Attribute o name apos) (e :: es) [] cpos) (tBM K T r to t) := by
  subst hK
  exact pe_bm pa slot hty hm ho ha hbase hfew hline hs hplain
end
theorem Dots.brd {os : List Nat} (D : Dots os) : Brd os.length os := ⟨rfl, D.pm⟩
theorem brd_dots {n : Nat} {os : List Nat} (B : Brd n os) (h1 : 1 ≤ n) (h2 : n ≤ 60) : Dots os := by
  have hl := B.len
  exact ⟨by rw [hl]; exact B.pm, by omega, by omega⟩
theorem nats_flat (l : List Nat) : (nats l).all flatV = true := by
  unfold nats
  rw [List.all_eq_true]
  intro x hx
  obtain ⟨n, _, rfl⟩ := List.mem_map.mp hx
  rfl
theorem nats_snoc (l : List Nat) (n : Nat) : nats l ++ [V.int (n : Int)] = nats (l ++ [n]) := by
  unfold nats
  rw [List.map_append]
  rfl
theorem nats_rev (l : List Nat) : (nats l).reverse = nats l.reverse := by
  unfold nats
  rw [List.map_reverse]
theorem inv_at {n i : Nat} {l : List Nat} (h : i < n) : (inv n l)[i]? = some (l.idxOf i) := by
  unfold inv
  rw [List.getElem?_map, List.getElem?_range h]
  rfl
def spTurned : Sp := fun vs H Q _ => ∃ (a : Addr) (l : List Nat) (w : Nat), vs = [.ref a, .int w] ∧ H a = some (.lst (nats l)) ∧ Dots l ∧ w < 8 ∧ ∀ (H' : Hp) (b : Addr), Same H H' → H b = none → H' b = some (.lst (nats (t2 l.length w l))) → Q (.ref b) H'
theorem ok_turned (T : Txt K mg fa fd tk) : FnOk P w K mg base CX0 3 (fa 21) (fd 21) ["dots", "way"] spTurned := by
  refine T.F_turned.ok sc_turned (fun vs H Q E h => ?_) (fun cdv A outer s H vs Q E hr h => ?_)
  · obtain ⟨a, l, w, rfl, _⟩ := h
    rfl
  · obtain ⟨a, l, w, rfl, ha, D, hw, q⟩ := h
    have d2 := D.hi
    have B := D.brd
    refine ⟨_, (pss_cons (ps_expr (pe_call (ok_asked_dots T) (hr.mono (by decide)) (by rfl) T.g_asked_dots T.F_asked_dots.kp T.b_asked_dots .nil pass0 (pa_cons (pv 0) pa_nil)))
      (pss_cons (ps_if (PW.pt (pw_or (pt_not (pt_val (pe_call (ok_is_whole T) (hr.mono (by decide)) (by rfl) T.g_is_whole T.F_is_whole.kp T.b_is_whole .nil pass0 (pa_cons (pv 1) pa_nil)))) (pw_or1 (pt_not (pt_chain op_le op_le pe_int (pv 1) pe_int))))) (pss_one ps_never) pss_nil)
      (C8.pss_cut (ps_set (i := 2) sc_turned.nd rfl (.inl rfl) (pe_ifExp (pt_cmpR op_ge (pv 1) pe_int (nomark _)) (pe_lc (own := [("row", 3)]) (g := gName 3) (tt := tYes) (by rfl) sc_turned.nd (pi_range1 (by rfl) T.m_range (pa_cons (pe_callB call_len_seq (by rfl) T.m_len (by decide +kernel) (pa_cons (pv 0) pa_nil)) pa_nil)) (blkOk_by (own := [("row", 3)]) (N := ["dots", "way", "found", "row"]) (sc := (defScope s_turned)) (by decide +kernel)) (fun _ _ _ _ _ => (pg_name (i := 3) sc_turned.nd rfl (Or.inl rfl))) (fun _ _ _ _ _ => pts_nil) (fun _ _ _ _ _ => (pe_bmK (K := K) (r := rIndex K) rfl PySem.F.plainAttrs_list PySem.F.slot_list_index PySem.F.type_list_index mt_index (pv 0) (pa_cons (pv 3) pa_nil)))) (pe_callTy call_list_of (by rfl) T.m_list (by decide +kernel) (pa_cons (pv 0) pa_nil))))
      (C8.pss_cut (ps_if (pt_cmpR op_eq (pe_op op_mod (pv 1) pe_int) pe_int (nomark _)) (pss_one (ps_set (i := 2) sc_turned.nd rfl (.inl rfl) (pe_revL (pv 2)))) pss_nil)
      (C8.pss_cut (ps_if (pt_cmpR op_eq (pe_op op_mod (pe_op op_fdiv (pv 1) pe_int) pe_int) pe_int (nomark _)) (pss_one (ps_setLc (i := 2) (own := [("row", 3)]) (g := gName 3) (tt := tYes) (by rfl) sc_turned.nd rfl rfl (sw_true rfl rfl rfl (by decide +kernel)) (pi_list (pv 2)) (blkOk_by (own := [("row", 3)]) (N := ["dots", "way", "found", "row"]) (sc := (defScope s_turned)) (by decide +kernel)) (fun _ _ _ _ _ => (pg_name (i := 3) sc_turned.nd rfl (Or.inl rfl))) (fun _ _ _ _ _ => pts_nil) (fun _ _ _ _ _ => (pe_op op_sub (pe_op op_sub (pe_callB (id := "len") (r := rLenS0 K) call_len_seq (by rfl) T.m_len (by decide +kernel) (pa_cons (pv 0) pa_nil)) pe_int) (pv 3))))) pss_nil)
      (pss_one (ps_ret (pv 2)))))))), ?_⟩
    refine ⟨_, rfl, a, l, rfl, ha, D, fun H1 s1 => ?_⟩
    have ha1 := s1 _ _ ha
    refine ⟨_, rfl, _, rfl, .inl ⟨_, rfl, _, rfl, iteF ?_⟩⟩
    refine ⟨_, rfl, _, _, rfl, rfl, _, rfl, ?_⟩
    rw [decide_eq_true (show (0 : Int) ≤ (w : Int) by omega)]
    refine iteT ⟨_, _, rfl, rfl, _, rfl, ?_⟩
    rw [decide_eq_true (show (w : Int) ≤ 7 by omega)]
    refine iteF ?_
    -- found
    refine ⟨fun σ' H' => ∃ b, Same H H' ∧ H b = none ∧ H' b = some (.lst (nats (t0 l.length w l))) ∧ σ' = [some (.ref a), some (.int (w : Int)), some (.ref b), none], ?_, fun σ' H2 hM => ?_⟩
    · refine ⟨_, rfl, _, _, rfl, rfl, _, rfl, ite2 (fun e => ?_) (fun e => ?_)⟩
      · have e4 : 4 ≤ w := by have h := dT e; omega
        refine ⟨_, rfl, a, _, rfl, .inl (.of ha1), _, rfl, by omega, by rw [nats_len]; omega, fun D1 nD => ?_⟩
        refine lc_it (walk_range (lo := 0) (n := (((nats l).length : Nat) : Int).toNat)) (fun i H' => Same H1 H' ∧ H' D1 = some (.lst (nats ((inv l.length l).take i)))) ⟨same_upd nD, upd_same⟩ (fun _ _ _ _ => True.intro) (fun i x H4 H5 hi hP hY => ?_) (fun H4 hP => ?_)
        · obtain ⟨sm, hD⟩ := hP
          obtain ⟨rfl, rfl⟩ := hY
          have hi2 : i < l.length := by rw [nats_len] at hi; omega
          have ha4 := sm _ _ ha1
          obtain ⟨c, hc⟩ := B.onto hi2
          have hix := B.idx hc
          refine ⟨rfl, ?_⟩
          refine ⟨_, rfl, .inl ⟨rfl, _, .of ha4⟩, _, rfl, a, nats l, .int (0 + (i : Int)), l.idxOf i, .int (i : Int), rfl, rfl, .of ha4, rfl, nats_flat l, ?_, ?_, fun m z' hm hz => ?_, _, hD, ?_, fun x o h => ?_, ?_⟩
          · rw [hix]
            unfold nats
            rw [List.getElem?_map, hc]
            rfl
          · show ((i : Int) == 0 + (i : Int)) = true
            rw [Int.zero_add]
            exact beq_self_eq_true _
          · unfold nats at hz
            rw [List.getElem?_map] at hz
            cases ez : l[m]? with
            | none => rw [ez] at hz; cases hz
            | some v =>
              rw [ez] at hz
              have e9 : V.int ((v : Nat) : Int) = z' := Option.some.inj hz
              rw [← e9]
              show (((v : Nat) : Int) == 0 + (i : Int)) = false
              refine beq_eq_false_iff_ne.mpr fun y => ?_
              have e8 : v = i := by omega
              rw [e8] at ez
              have := B.inj ez hc
              omega
          · rw [nats_len, List.length_take]
            exact small1000 (by omega)
          · rw [upd_ne (ne_of_none h nD)]
            exact sm x o h
          · rw [upd_same, nats_snoc, List.take_add_one, inv_at hi2]
            rfl
        · obtain ⟨sm, hD⟩ := hP
          refine ⟨D1, s1.trans sm, s1.free nD, ?_, rfl⟩
          rw [hD]
          unfold t0
          rw [if_pos e4, List.take_of_length_le (by unfold inv; rw [List.length_map, List.length_range, nats_len]; omega)]
      · have e4 : ¬ 4 ≤ w := by have h := dF e; omega
        refine ⟨_, rfl, a, _, rfl, .inl (.of ha1), fun b nb => ⟨b, s1.trans (same_upd nb), s1.free nb, ?_, rfl⟩⟩
        rw [upd_same]
        unfold t0
        rw [if_neg e4]
    obtain ⟨b, s2, nb, hb, rfl⟩ := hM
    -- the other way about
    refine ⟨fun σ' H' => ∃ b, Same H H' ∧ H b = none ∧ H' b = some (.lst (nats (t1 l.length w l))) ∧ σ' = [some (.ref a), some (.int (w : Int)), some (.ref b), none], ?_, fun σ' H3 hM => ?_⟩
    · refine ⟨_, rfl, _, _, rfl, rfl, z2, rfl, _, rfl, ite2 (fun e => ?_) (fun e => ?_)⟩
      · rw [dec_vint] at e
        refine ⟨_, rfl, b, _, rfl, .of hb, fun c nc => ⟨c, s2.trans (same_upd nc), s2.free nc, ?_, rfl⟩⟩
        rw [upd_same, nats_rev]
        unfold t1
        rw [if_pos (by omega)]
      · rw [dec_vint] at e
        refine ⟨b, s2, nb, ?_, rfl⟩
        rw [hb]
        unfold t1
        rw [if_neg (by omega)]
    obtain ⟨b1, s3, nb1, hb1, rfl⟩ := hM
    have hlen := t1_len (w := w) B
    have hlt : ∀ x ∈ t1 l.length w l, x < l.length := by
      intro x hx
      obtain ⟨c, hc⟩ := List.mem_iff_getElem?.mp hx
      have h0 : x ∈ t0 l.length w l := by
        unfold t1 at hx
        split at hx
        · exact List.mem_reverse.mp hx
        · exact hx
      unfold t0 at h0
      split at h0
      · unfold inv at h0
        obtain ⟨r, hr, rfl⟩ := List.mem_map.mp h0
        obtain ⟨c, hc⟩ := B.onto (List.mem_range.mp hr)
        rw [B.idx hc]
        exact (B.lt hc).1
      · obtain ⟨c, hc⟩ := List.mem_iff_getElem?.mp h0
        exact (B.lt hc).2
    -- upside down
    refine ⟨fun σ' H' => ∃ b y, Same H H' ∧ H b = none ∧ H' b = some (.lst (nats (t2 l.length w l))) ∧ σ' = [some (.ref a), some (.int (w : Int)), some (.ref b), y], ?_, fun σ' H4 hM => ?_⟩
    · refine ⟨_, rfl, _, _, rfl, rfl, ⟨by decide, by decide⟩, _, _, rfl, rfl, z2, rfl, _, rfl, ite2 (fun e => ?_) (fun e => ?_)⟩
      · rw [dec_vint] at e
        refine ⟨_, rfl, b1, rfl, ⟨_, .of hb1⟩, fun D1 nD => ?_⟩
        refine lc_it (walk_list (xs := nats (t1 l.length w l))) (fun i H' => Same H3 H' ∧ H' D1 = some (.lst (nats (((t1 l.length w l).take i).map fun r => l.length - 1 - r)))) ⟨same_upd nD, upd_same⟩ (fun i H' _ hP => .of (hP.1 _ _ hb1)) (fun i x H4 H5 hi hP hY => ?_) (fun H4 hP => ?_)
        · obtain ⟨sm, hD⟩ := hP
          obtain ⟨rfl, hx⟩ := hY
          rw [nats_len] at hi
          rw [nats_get hi] at hx
          cases hx
          have hv := hlt _ (List.getElem_mem hi)
          refine ⟨rfl, ?_⟩
          refine ⟨_, rfl, a, _, rfl, .inl (.of ((s3.trans sm) _ _ ha)), _, _, rfl, rfl, _, rfl, _, _, rfl, rfl, _, hD, ?_, fun x o h => ?_, ?_⟩
          · rw [nats_len, List.length_map, List.length_take]
            exact small1000 (by omega)
          · rw [upd_ne (ne_of_none h nD)]
            exact sm x o h
          · rw [upd_same, nats_len]
            dsimp only
            rw [show ((l.length : Nat) : Int) - 1 - (((t1 l.length w l)[i] : Nat) : Int) = ((l.length - 1 - (t1 l.length w l)[i] : Nat) : Int) by omega, nats_snoc, List.take_add_one, List.getElem?_eq_getElem hi, List.map_append]
            rfl
        · obtain ⟨sm, hD⟩ := hP
          refine ⟨D1, _, s3.trans sm, s3.free nD, ?_, rfl⟩
          rw [hD, List.take_of_length_le (by rw [nats_len]; omega)]
          unfold t2
          rw [if_pos (by omega)]
      · rw [dec_vint] at e
        refine ⟨b1, _, s3, nb1, ?_, rfl⟩
        rw [hb1]
        unfold t2
        rw [if_neg (by omega)]
    obtain ⟨b2, y, s4, nb2, hb2, rfl⟩ := hM
    exact ⟨_, rfl, q _ b2 s4 nb2 hb2⟩
theorem cutV_from1 (x : V) (xs : List V) : cutV (x :: xs) (some 1) none = xs := by
  unfold cutV
  rw [HT.sIx_none, show (1 : Int) = ((1 : Nat) : Int) from rfl, HT.sIx_nat, List.length_cons, show min 1 (xs.length + 1) = 1 by omega]
  show List.take (xs.length + 1 - 1) xs = xs
  rw [Nat.add_sub_cancel, List.take_length]
def spWithout : Sp := fun vs H Q _ => ∃ (a : Addr) (t : List Nat), vs = [.ref a] ∧ H a = some (.lst (nats (0 :: t))) ∧ Dots (0 :: t) ∧ 1 ≤ t.length ∧ ∀ (H' : Hp) (b : Addr), Same H H' → H b = none → H' b = some (.lst (nats (t.map fun r => r - 1))) → Q (.ref b) H'
theorem Dots.pos {t : List Nat} (D : Dots (0 :: t)) : ∀ x ∈ t, 1 ≤ x := fun x hx => by
  obtain ⟨k1, _⟩ := List.nodup_cons.mp D.brd.nodup
  have : x ≠ 0 := fun e => k1 (e ▸ hx)
  omega
theorem ok_without_corner (T : Txt K mg fa fd tk) : FnOk P w K mg base CX0 3 (fa 22) (fd 22) ["dots"] spWithout := by
  refine T.F_without_corner.ok sc_without_corner (fun vs H Q E h => ?_) (fun cdv A outer s H vs Q E hr h => ?_)
  · obtain ⟨a, t, rfl, _⟩ := h
    rfl
  · obtain ⟨a, t, rfl, ha, D, ht, q⟩ := h
    have d2 := D.hi
    rw [List.length_cons] at d2
    refine ⟨_, (pss_cons (ps_expr (pe_call (ok_asked_dots T) (hr.mono (by decide)) (by rfl) T.g_asked_dots T.F_asked_dots.kp T.b_asked_dots .nil pass0 (pa_cons (pv 0) pa_nil)))
      (pss_cons (ps_if (PW.pt (pw_or (pt_cmpR op_ne (pe_ix ix_list (pv 0) pe_int (fun _ _ => rfl)) pe_int (nomark _)) (pw_or1 (pt_cmpR op_eq (pe_callB call_len_seq (by rfl) T.m_len (by decide +kernel) (pa_cons (pv 0) pa_nil)) pe_int (nomark _))))) (pss_one ps_never) pss_nil)
      (pss_one (ps_ret (pe_lc (own := [("row", 1)]) (g := gName 1) (tt := tYes) (by rfl) sc_without_corner.nd (pi_list (pe_slice sl_list (pv 0) (po_some pe_int) po_none)) (blkOk_by (own := [("row", 1)]) (N := ["dots", "row"]) (sc := (defScope s_without_corner)) (by decide +kernel)) (fun _ _ _ _ _ => (pg_name (i := 1) sc_without_corner.nd rfl (Or.inl rfl))) (fun _ _ _ _ _ => pts_nil) (fun _ _ _ _ _ => (pe_op op_sub (pv 1) pe_int))))))), ?_⟩
    refine ⟨_, rfl, a, _, rfl, ha, D, fun H1 s1 => ?_⟩
    have ha1 := s1 _ _ ha
    refine ⟨_, rfl, a, _, _, _, rfl, rfl, .of ha1, atI_nat (j := 0) rfl, rfl, _, rfl, iteN rfl ?_⟩
    refine ⟨_, rfl, a, _, rfl, .inl (.of ha1), rfl, _, rfl, ite2 (fun e => ?_) (fun _ => ?_)⟩
    · exfalso
      rw [dec_vint, nats_len, List.length_cons] at e
      omega
    refine ⟨_, rfl, 1, rfl, a, _, rfl, .of ha1, fun c nc => ?_⟩
    have hc : upd H1 c (.lst (cutV (nats (0 :: t)) (some 1) none)) c = some (.lst (nats t)) := by
      rw [upd_same]
      exact congrArg (fun z => some (HO.lst z)) (cutV_from1 _ _)
    refine ⟨c, rfl, ⟨_, .of hc⟩, fun D1 nD => ?_⟩
    have sC := same_upd (o := .lst (cutV (nats (0 :: t)) (some 1) none)) nc
    generalize upd H1 c (.lst (cutV (nats (0 :: t)) (some 1) none)) = H2 at *
    refine lc_it (walk_list (xs := nats t)) (fun i H' => Same H2 H' ∧ H' D1 = some (.lst (nats ((t.take i).map fun r => r - 1)))) ⟨same_upd nD, upd_same⟩ (fun i H' _ hP => .of (hP.1 _ _ hc)) (fun i x H4 H5 hi hP hY => ?_) (fun H4 hP => ?_)
    · obtain ⟨sm, hD⟩ := hP
      obtain ⟨rfl, hx⟩ := hY
      rw [nats_len] at hi
      rw [nats_get hi] at hx
      cases hx
      have hv := D.pos _ (List.getElem_mem hi)
      refine ⟨rfl, ?_⟩
      refine ⟨_, rfl, _, _, rfl, rfl, _, hD, ?_, fun x o h => ?_, ?_⟩
      · rw [nats_len, List.length_map, List.length_take]
        exact small1000 (by omega)
      · rw [upd_ne (ne_of_none h nD)]
        exact sm x o h
      · rw [upd_same]
        dsimp only
        rw [show ((t[i] : Nat) : Int) - 1 = ((t[i] - 1 : Nat) : Int) by omega, nats_snoc, List.take_add_one, List.getElem?_eq_getElem hi, List.map_append]
        rfl
    · obtain ⟨sm, hD⟩ := hP
      rw [List.take_of_length_le (by rw [nats_len]; omega)] at hD
      exact q _ D1 ((s1.trans sC).trans sm) ((s1.trans sC).free nD) hD
end
end Lw
namespace Lw
open PySem PySem.Spec PyProof.Rows L2 AD
section
variable {P : Program} {w : World} {K : PySem.W.Frag} {mg : Str → Option Value} {base : Heap}
variable {fa : Nat → Addr} {fd : Nat → FuncData} {tk : Nat → Tok}
/-! ### what is refused: dots, ways, corners -/
theorem take_snoc {α : Type} {l : List α} {i : Nat} {x : α} (h : l[i]? = some x) : l.take (i + 1) = l.take i ++ [x] := by
  rw [List.take_add_one, h]
  rfl
/-- no dots of a board -/
def BadD (K : PySem.W.Frag) (H : Hp) (v : V) : Prop := (∃ n, TyX K H v (.type n) ∧ n ∈ ["NoneType", "str", "tuple", "dict", "int", "bool"]) ∨ ∃ (a : Addr) (xs : List V), v = .ref a ∧ H a = some (.lst xs) ∧
  ((xs.length = 0 ∨ 60 < xs.length) ∨ (1 ≤ xs.length ∧ xs.length ≤ 60 ∧ (∀ x ∈ xs, isInt x = true ∨ NW K H x) ∧ ∃ x ∈ xs, isInt x = false) ∨
    ∃ ns : List Int, xs = ns.map V.int ∧ 1 ≤ ns.length ∧ ns.length ≤ 60 ∧ ¬ ns.Perm (zof (List.range ns.length)))
theorem BadD.ext {H H' : Hp} {v : V} (e : LamX.ExtN H H') (h : BadD K H v) : BadD K H' v := by
  rcases h with ⟨n, a, b⟩ | ⟨a, xs, rfl, ha, h⟩
  · exact .inl ⟨n, TyX.ext e a, b⟩
  · refine .inr ⟨a, xs, rfl, e _ _ ha (fun _ z => nomatch z), ?_⟩
    rcases h with h | ⟨h1, h2, h3, h4⟩ | h
    · exact .inl h
    · exact .inr (.inl ⟨h1, h2, fun x hx => (h3 x hx).imp id fun z => z.ext e, h4⟩)
    · exact .inr (.inr h)
theorem isInt_of {x : V} (h : isInt x = true) : ∃ i, x = .int i := by
  cases x with
  | int i => exact ⟨i, rfl⟩
  | _ => cases h
theorem map_isInt (ns : List Int) : (ns.map V.int).map isInt = List.replicate ns.length true := by
  rw [List.map_map]
  induction ns with
  | nil => rfl
  | cons n r ih => rw [List.map_cons, ih]; rfl
def spAskedDotsX (K : PySem.W.Frag) (C : Addr) : Sp := fun vs H _ E => ∃ v : V, vs = [v] ∧ BadD K H v ∧ ∀ H', Same H H' → E (.ref C) none H'
theorem xok_asked_dots (T : Txt K mg fa fd tk) : FnOk P w K mg base (L2N.CX P w) 2 (fa 19) (fd 19) ["dots"] (spAskedDotsX K (fa 41)) := by
  refine Hx.okN T.F_asked_dots sc_asked_dots (fun vs H Q E h => ?_) (fun cdv A outer s H vs Q E hr h => ?_)
  · obtain ⟨v, rfl, _⟩ := h
    rfl
  · obtain ⟨v, rfl, hv, q⟩ := h
    have hu := hr.units
    have tk := L2N.takes_of (X := cxOf (L2N.CX P w) P w K mg base ["dots", "row"] "asked_dots" (defScope s_asked_dots) (fa 19) cdv A outer s H E) rfl rfl rfl rfl
    refine ⟨_, (pss_cons (ps_if (PW.pt (pw_or (pt_not (pt_val (pe_callB call_isi (by rfl) T.m_isinstance (by decide +kernel) (pa_cons (pv 0) (pa_cons (pe_bltn (v := .ty "list") (u := .type "list") (by rfl) T.m_list (by decide +kernel) rfl) pa_nil))))) (pw_or (pt_not (pt_chain op_le op_le pe_int (pe_callB call_len_seq (by rfl) T.m_len (by decide +kernel) (pa_cons (pv 0) pa_nil)) (pe_glob (v := .int 60) rfl T.g_LONGEST ⟨_, rfl⟩))) (pw_or1 (pt_not (pt_val (pe_callB (cr_all rfl) (by rfl) T.m_all (by decide +kernel) (pa_cons (pe_lc (own := [("row", 1)]) (g := gName 1) (tt := tYes) (by rfl) sc_asked_dots.nd (pi_list (pv 0)) (blkOk_by (own := [("row", 1)]) (N := ["dots", "row"]) (sc := (defScope s_asked_dots)) (by decide +kernel)) (fun _ _ _ _ _ => (pg_name (i := 1) sc_asked_dots.nd rfl (Or.inl rfl))) (fun _ _ _ _ _ => pts_nil) (fun _ _ _ _ _ => (pe_call (ok_is_whole T) (hr.mono (by decide)) (by rfl) T.g_is_whole T.F_is_whole.kp T.b_is_whole .nil pass0 (pa_cons (pv 1) pa_nil)))) pa_nil)))))))) (pss_one (L2N.ps_raise rfl tk (L2N.pmk_own PySem.F.excBase_ValueError T.x_BadDots.ex T.g_BadDots T.x_BadDots.kp (raises_own T.x_BadDots.b T.x_BadDots.t) (by rfl)))) pss_nil)
      (pss_one (ps_if (pt_cmpR (op_neL hu) (pe_callB cr_sorted (by rfl) T.m_sorted (by decide +kernel) (pa_cons (pv 0) pa_nil)) (pe_listRg rfl (by rfl) T.m_list (prg_1 (by rfl) T.m_range (pe_callB call_len_seq (by rfl) T.m_len (by decide +kernel) (pa_cons (pv 0) pa_nil)))) (nomark _)) (pss_one (L2N.ps_raise rfl tk (L2N.pmk_own PySem.F.excBase_ValueError T.x_BadDots.ex T.g_BadDots T.x_BadDots.kp (raises_own T.x_BadDots.b T.x_BadDots.t) (by rfl)))) pss_nil))), ?_⟩
    rcases hv with ⟨n, ty, hn⟩ | ⟨a, xs, rfl, ha, hx⟩
    · simp only [List.mem_cons, List.not_mem_nil, or_false] at hn
      rcases hn with rfl | rfl | rfl | rfl | rfl | rfl
      all_goals exact ⟨_, rfl, _, _, _, _, false, rfl, .ty _, ty, kit_ty (by decide +kernel), false, rfl, iteT (q _ (Same.refl _))⟩
    refine ⟨_, rfl, _, _, _, _, true, rfl, .ty _, .base (.lst ha), kit_ty (by decide +kernel), true, rfl, iteF ?_⟩
    refine ⟨_, rfl, a, _, rfl, .inl (.of ha), _, _, rfl, rfl, _, rfl, ite2 (fun e => ?_) (fun e => ?_)⟩
    · have l1 : (1 : Int) ≤ (xs.length : Int) := dT e
      refine ⟨_, _, rfl, rfl, _, rfl, ?_⟩
      by_cases l2 : (xs.length : Int) ≤ 60
      · have hx2 : ((∀ x ∈ xs, isInt x = true ∨ NW K H x) ∧ ∃ x ∈ xs, isInt x = false) ∨ ∃ ns : List Int, xs = ns.map V.int ∧ ¬ ns.Perm (zof (List.range ns.length)) := by
          rcases hx with z | ⟨_, _, z⟩ | ⟨ns, z1, _, _, z2⟩
          · omega
          · exact .inl z
          · exact .inr ⟨ns, z1, z2⟩
        have hel : ∀ x ∈ xs, isInt x = true ∨ NW K H x := by
          rcases hx2 with z | ⟨ns, z1, _⟩
          · exact z.1
          · intro x h
            rw [z1] at h
            obtain ⟨i, _, rfl⟩ := List.mem_map.mp h
            exact .inl rfl
        rw [decide_eq_true l2]
        refine iteF ?_
        refine ⟨_, rfl, a, rfl, ⟨_, .of ha⟩, fun D1 nD => ?_⟩
        refine lc_it (walk_list (xs := xs)) (fun i H' => Same H H' ∧ H' D1 = some (.lst (((xs.take i).map isInt).map V.bl))) ⟨same_upd nD, upd_same⟩ (fun i H' _ hP => .of (hP.1 _ _ ha)) (fun i x H4 H5 hi hP hY => ?_) (fun H4 hP => ?_)
        · obtain ⟨sm, hD⟩ := hP
          obtain ⟨rfl, hxi⟩ := hY
          refine ⟨rfl, ?_⟩
          have fin : ∀ b, isInt x = b → ∃ ys, H5 D1 = some (.lst ys) ∧ ys.length < sizeLine ∧ Same H (upd H5 D1 (.lst (ys ++ [.bl b]))) ∧ upd H5 D1 (.lst (ys ++ [.bl b])) D1 = some (.lst (((xs.take (i + 1)).map isInt).map V.bl)) := fun b hb => by
            refine ⟨_, hD, ?_, fun y o h => ?_, ?_⟩
            · rw [List.length_map, List.length_map, List.length_take]
              exact small1000 (by omega)
            · rw [upd_ne (ne_of_none h nD)]
              exact sm y o h
            · rw [upd_same, take_snoc hxi, List.map_append, List.map_append, ← hb]
              rfl
          rcases hel x (List.mem_of_getElem? hxi) with h | h
          · obtain ⟨j, rfl⟩ := isInt_of h
            exact ⟨_, rfl, _, rfl, .inl ⟨_, rfl, fin true h⟩⟩
          · obtain ⟨h0, n, ty, hn⟩ := h.ext (extN_same sm)
            exact ⟨_, rfl, _, rfl, .inr ⟨n, ty, hn, fin false h0⟩⟩
        · obtain ⟨sm, hD⟩ := hP
          rw [List.take_of_length_le (Nat.le_refl _)] at hD
          refine ⟨D1, _, rfl, .of hD, _, rfl, ?_⟩
          rcases hx2 with ⟨_, x, hx, h0⟩ | ⟨ns, rfl, hp⟩
          · rw [show (xs.map isInt).all id = false by
              rw [List.all_eq_false]
              exact ⟨false, List.mem_map.mpr ⟨x, hx, h0⟩, by decide⟩]
            exact iteT (q _ sm)
          · rw [map_isInt, show (List.replicate ns.length true).all id = true by simp]
            refine iteF ?_
            have ha4 := sm _ _ ha
            rw [List.length_map] at l1 l2
            refine ⟨_, rfl, a, ns, rfl, .of ha4, by omega, fun ns' p pm so np => ?_⟩
            have s1 := same_upd (o := .lst (ns'.map V.int)) np
            have e1 : ¬ ns' = zof (List.range ns.length) := fun z => hp (by rw [← z]; exact pm.symm)
            refine ⟨_, rfl, a, _, rfl, .inl (.of (s1 _ _ ha4)), _, rfl, RgOk.of_le (by omega) (by rw [List.length_map]; omega) (by omega) (by omega), fun p2 np2 => ?_⟩
            refine ⟨p, p2, ns', zof (List.range ns.length), rfl, rfl, .of (same_upd np2 _ _ upd_same), .of ?_, _, rfl, ?_⟩
            · rw [upd_same, List.length_map, rgV_nats, nats_ints]
              rfl
            rw [decide_eq_false e1]
            exact iteT (q _ ((sm.trans s1).trans (same_upd np2)))
      · rw [decide_eq_false l2]
        exact iteT (q _ (Same.refl _))
    · exact ⟨_, rfl, iteT (q _ (Same.refl _))⟩
theorem xok_judged (T : Txt K mg fa fd tk) : FnOk P w K mg base (L2N.CX P w) 3 (fa 20) (fd 20) ["dots"] (spAskedDotsX K (fa 41)) := by
  refine Hx.okN T.F_judged sc_judged (fun vs H Q E h => ?_) (fun cdv A outer s H vs Q E hr h => ?_)
  · obtain ⟨v, rfl, _⟩ := h
    rfl
  · obtain ⟨v, rfl, hv, q⟩ := h
    have tk := L2N.takes_of (X := cxOf (L2N.CX P w) P w K mg base ["dots", "found"] "judged" (defScope s_judged) (fa 20) cdv A outer s H E) rfl rfl rfl rfl
    exact ⟨_, (pss_cons (ps_expr (pe_alt (pe_callS (xok_asked_dots T) (hr.mono (by decide)) (by rfl) T.g_asked_dots T.F_asked_dots.kp T.b_asked_dots (L2N.passAt tk) (pa_cons (pv 0) pa_nil)) (pe_call (ok_asked_dots T) (hr.mono (by decide)) (by rfl) T.g_asked_dots T.F_asked_dots.kp T.b_asked_dots .nil pass0 (pa_cons (pv 0) pa_nil))))
      Hx.pss_nev), .inl ⟨_, rfl, v, rfl, hv, q⟩⟩
/-- no way to turn -/
def BadWy (K : PySem.W.Frag) (H : Hp) (v : V) : Prop := NW K H v ∨ ∃ i : Int, v = .int i ∧ (i < 0 ∨ 7 < i)
theorem BadWy.ext {H H' : Hp} {v : V} (e : LamX.ExtN H H') (h : BadWy K H v) : BadWy K H' v := h.imp (fun z => z.ext e) id
def spTurnedX (K : PySem.W.Frag) (fa : Nat → Addr) : Sp := fun vs H _ E => ∃ v u : V, vs = [v, u] ∧ ((BadD K H v ∧ ∀ H', Same H H' → E (.ref (fa 41)) none H') ∨
  ∃ (a : Addr) (os : List Nat), v = .ref a ∧ H a = some (.lst (nats os)) ∧ Dots os ∧ BadWy K H u ∧ ∀ H', Same H H' → E (.ref (fa 42)) none H')
theorem xok_turned (T : Txt K mg fa fd tk) : FnOk P w K mg base (L2N.CX P w) 3 (fa 21) (fd 21) ["dots", "way"] (spTurnedX K fa) := by
  refine Hx.okN T.F_turned sc_turned (fun vs H Q E h => ?_) (fun cdv A outer s H vs Q E hr h => ?_)
  · obtain ⟨v, u, rfl, _⟩ := h
    rfl
  · obtain ⟨v, u, rfl, h⟩ := h
    have tk := L2N.takes_of (X := cxOf (L2N.CX P w) P w K mg base ["dots", "way", "found", "row"] "turned" (defScope s_turned) (fa 21) cdv A outer s H E) rfl rfl rfl rfl
    refine ⟨_, (pss_cons (ps_expr (pe_alt (pe_callS (xok_asked_dots T) (hr.mono (by decide)) (by rfl) T.g_asked_dots T.F_asked_dots.kp T.b_asked_dots (L2N.passAt tk) (pa_cons (pv 0) pa_nil)) (pe_call (ok_asked_dots T) (hr.mono (by decide)) (by rfl) T.g_asked_dots T.F_asked_dots.kp T.b_asked_dots .nil pass0 (pa_cons (pv 0) pa_nil))))
      (pss_cons (ps_if (PW.pt (pw_or (pt_not (pt_val (pe_call (ok_is_whole T) (hr.mono (by decide)) (by rfl) T.g_is_whole T.F_is_whole.kp T.b_is_whole .nil pass0 (pa_cons (pv 1) pa_nil)))) (pw_or1 (pt_not (pt_chain op_le op_le pe_int (pv 1) pe_int))))) (pss_one (L2N.ps_raise rfl tk (L2N.pmk_own PySem.F.excBase_ValueError T.x_BadWay.ex T.g_BadWay T.x_BadWay.kp (raises_own T.x_BadWay.b T.x_BadWay.t) (by rfl)))) pss_nil)
      Hx.pss_nev)), ?_⟩
    rcases h with ⟨hv, q⟩ | ⟨a, os, rfl, ha, D, hu, q⟩
    · exact .inl ⟨_, rfl, v, rfl, hv, q⟩
    · refine .inr ⟨_, rfl, a, os, rfl, ha, D, fun H1 s1 => ?_⟩
      rcases hu.ext (extN_same s1) with ⟨_, n, ty, hn⟩ | ⟨i, rfl, hi⟩
      · exact ⟨_, rfl, _, rfl, .inr ⟨n, ty, hn, _, rfl, iteT (q _ s1)⟩⟩
      · refine ⟨_, rfl, _, rfl, .inl ⟨_, rfl, _, rfl, iteF ?_⟩⟩
        refine ⟨_, rfl, _, _, rfl, rfl, _, rfl, ite2 (fun e => ?_) (fun e => ?_)⟩
        · have i1 : 0 ≤ i := dT e
          refine ⟨_, _, rfl, rfl, _, rfl, ?_⟩
          rw [decide_eq_false (show ¬ i ≤ 7 by omega)]
          exact iteT (q _ s1)
        · exact ⟨_, rfl, iteT (q _ s1)⟩
def spWithoutX (K : PySem.W.Frag) (fa : Nat → Addr) : Sp := fun vs H _ E => ∃ v : V, vs = [v] ∧ ((BadD K H v ∧ ∀ H', Same H H' → E (.ref (fa 41)) none H') ∨
  ∃ (a : Addr) (o : Nat) (os : List Nat), v = .ref a ∧ H a = some (.lst (nats (o :: os))) ∧ Dots (o :: os) ∧ (o ≠ 0 ∨ os = []) ∧ ∀ H', Same H H' → E (.ref (fa 43)) none H')
theorem xok_without_corner (T : Txt K mg fa fd tk) : FnOk P w K mg base (L2N.CX P w) 3 (fa 22) (fd 22) ["dots"] (spWithoutX K fa) := by
  refine Hx.okN T.F_without_corner sc_without_corner (fun vs H Q E h => ?_) (fun cdv A outer s H vs Q E hr h => ?_)
  · obtain ⟨v, rfl, _⟩ := h
    rfl
  · obtain ⟨v, rfl, h⟩ := h
    have tk := L2N.takes_of (X := cxOf (L2N.CX P w) P w K mg base ["dots", "row"] "without_corner" (defScope s_without_corner) (fa 22) cdv A outer s H E) rfl rfl rfl rfl
    refine ⟨_, (pss_cons (ps_expr (pe_alt (pe_callS (xok_asked_dots T) (hr.mono (by decide)) (by rfl) T.g_asked_dots T.F_asked_dots.kp T.b_asked_dots (L2N.passAt tk) (pa_cons (pv 0) pa_nil)) (pe_call (ok_asked_dots T) (hr.mono (by decide)) (by rfl) T.g_asked_dots T.F_asked_dots.kp T.b_asked_dots .nil pass0 (pa_cons (pv 0) pa_nil))))
      (pss_cons (ps_if (PW.pt (pw_or (pt_cmpR op_ne (pe_ix ix_list (pv 0) pe_int (fun _ _ => rfl)) pe_int (nomark _)) (pw_or1 (pt_cmpR op_eq (pe_callB call_len_seq (by rfl) T.m_len (by decide +kernel) (pa_cons (pv 0) pa_nil)) pe_int (nomark _))))) (pss_one (L2N.ps_raise rfl tk (L2N.pmk_own PySem.F.excBase_ValueError T.x_NoCorner.ex T.g_NoCorner T.x_NoCorner.kp (raises_own T.x_NoCorner.b T.x_NoCorner.t) (by rfl)))) pss_nil)
      Hx.pss_nev)), ?_⟩
    rcases h with ⟨hv, q⟩ | ⟨a, o, os, rfl, ha, D, ho, q⟩
    · exact .inl ⟨_, rfl, v, rfl, hv, q⟩
    · refine .inr ⟨_, rfl, a, o :: os, rfl, ha, D, fun H1 s1 => ?_⟩
      have ha1 := s1 _ _ ha
      refine ⟨_, rfl, a, _, _, _, rfl, rfl, .of ha1, atI_nat (j := 0) rfl, rfl, _, rfl, ite2 (fun e => ?_) (fun e => ?_)⟩
      · exact q _ s1
      · have e0 : o = 0 := by
          by_cases z : o = 0
          · exact z
          · refine absurd ?_ e
            rw [Bool.not_eq_true', decide_eq_false_iff_not]
            intro y
            have := V.int.inj y
            omega
        have e1 : os = [] := ho.resolve_left fun z => z e0
        subst e1
        refine ⟨_, rfl, a, _, rfl, .inl (.of ha1), rfl, _, rfl, ite2 (fun e => ?_) (fun e2 => ?_)⟩
        · exact q _ s1
        · exact absurd (decide_eq_true rfl) e2
end
end Lw
namespace Lw
open PySem PySem.Spec PyProof.Rows L2 AD
section
variable {P : Program} {w : World} {K : PySem.W.Frag} {mg : Str → Option Value} {base : Heap}
variable {fa : Nat → Addr} {fd : Nat → FuncData} {tk : Nat → Tok}
/-! ### which class a refusal is of -/
theorem kx_all (T : Txt K mg fa fd tk) : ∀ {n j : Nat}, n < 9 → j < 9 → PySem.W.kitOne K (.ref (fa (35 + n))) (.ref (fa (35 + j))) = some (decide (n = j))
  | 0, 0, _, _ => T.kx_BadPrime_BadPrime
  | 0, 1, _, _ => T.kx_BadPrime_BadRoot
  | 0, 2, _, _ => T.kx_BadPrime_BadNumber
  | 0, 3, _, _ => T.kx_BadPrime_BadColumn
  | 0, 4, _, _ => T.kx_BadPrime_BadRow
  | 0, 5, _, _ => T.kx_BadPrime_BadArrow
  | 0, 6, _, _ => T.kx_BadPrime_BadDots
  | 0, 7, _, _ => T.kx_BadPrime_BadWay
  | 0, 8, _, _ => T.kx_BadPrime_NoCorner
  | 1, 0, _, _ => T.kx_BadRoot_BadPrime
  | 1, 1, _, _ => T.kx_BadRoot_BadRoot
  | 1, 2, _, _ => T.kx_BadRoot_BadNumber
  | 1, 3, _, _ => T.kx_BadRoot_BadColumn
  | 1, 4, _, _ => T.kx_BadRoot_BadRow
  | 1, 5, _, _ => T.kx_BadRoot_BadArrow
  | 1, 6, _, _ => T.kx_BadRoot_BadDots
  | 1, 7, _, _ => T.kx_BadRoot_BadWay
  | 1, 8, _, _ => T.kx_BadRoot_NoCorner
  | 2, 0, _, _ => T.kx_BadNumber_BadPrime
  | 2, 1, _, _ => T.kx_BadNumber_BadRoot
  | 2, 2, _, _ => T.kx_BadNumber_BadNumber
  | 2, 3, _, _ => T.kx_BadNumber_BadColumn
  | 2, 4, _, _ => T.kx_BadNumber_BadRow
  | 2, 5, _, _ => T.kx_BadNumber_BadArrow
  | 2, 6, _, _ => T.kx_BadNumber_BadDots
  | 2, 7, _, _ => T.kx_BadNumber_BadWay
  | 2, 8, _, _ => T.kx_BadNumber_NoCorner
  | 3, 0, _, _ => T.kx_BadColumn_BadPrime
  | 3, 1, _, _ => T.kx_BadColumn_BadRoot
  | 3, 2, _, _ => T.kx_BadColumn_BadNumber
  | 3, 3, _, _ => T.kx_BadColumn_BadColumn
  | 3, 4, _, _ => T.kx_BadColumn_BadRow
  | 3, 5, _, _ => T.kx_BadColumn_BadArrow
  | 3, 6, _, _ => T.kx_BadColumn_BadDots
  | 3, 7, _, _ => T.kx_BadColumn_BadWay
  | 3, 8, _, _ => T.kx_BadColumn_NoCorner
  | 4, 0, _, _ => T.kx_BadRow_BadPrime
  | 4, 1, _, _ => T.kx_BadRow_BadRoot
  | 4, 2, _, _ => T.kx_BadRow_BadNumber
  | 4, 3, _, _ => T.kx_BadRow_BadColumn
  | 4, 4, _, _ => T.kx_BadRow_BadRow
  | 4, 5, _, _ => T.kx_BadRow_BadArrow
  | 4, 6, _, _ => T.kx_BadRow_BadDots
  | 4, 7, _, _ => T.kx_BadRow_BadWay
  | 4, 8, _, _ => T.kx_BadRow_NoCorner
  | 5, 0, _, _ => T.kx_BadArrow_BadPrime
  | 5, 1, _, _ => T.kx_BadArrow_BadRoot
  | 5, 2, _, _ => T.kx_BadArrow_BadNumber
  | 5, 3, _, _ => T.kx_BadArrow_BadColumn
  | 5, 4, _, _ => T.kx_BadArrow_BadRow
  | 5, 5, _, _ => T.kx_BadArrow_BadArrow
  | 5, 6, _, _ => T.kx_BadArrow_BadDots
  | 5, 7, _, _ => T.kx_BadArrow_BadWay
  | 5, 8, _, _ => T.kx_BadArrow_NoCorner
  | 6, 0, _, _ => T.kx_BadDots_BadPrime
  | 6, 1, _, _ => T.kx_BadDots_BadRoot
  | 6, 2, _, _ => T.kx_BadDots_BadNumber
  | 6, 3, _, _ => T.kx_BadDots_BadColumn
  | 6, 4, _, _ => T.kx_BadDots_BadRow
  | 6, 5, _, _ => T.kx_BadDots_BadArrow
  | 6, 6, _, _ => T.kx_BadDots_BadDots
  | 6, 7, _, _ => T.kx_BadDots_BadWay
  | 6, 8, _, _ => T.kx_BadDots_NoCorner
  | 7, 0, _, _ => T.kx_BadWay_BadPrime
  | 7, 1, _, _ => T.kx_BadWay_BadRoot
  | 7, 2, _, _ => T.kx_BadWay_BadNumber
  | 7, 3, _, _ => T.kx_BadWay_BadColumn
  | 7, 4, _, _ => T.kx_BadWay_BadRow
  | 7, 5, _, _ => T.kx_BadWay_BadArrow
  | 7, 6, _, _ => T.kx_BadWay_BadDots
  | 7, 7, _, _ => T.kx_BadWay_BadWay
  | 7, 8, _, _ => T.kx_BadWay_NoCorner
  | 8, 0, _, _ => T.kx_NoCorner_BadPrime
  | 8, 1, _, _ => T.kx_NoCorner_BadRoot
  | 8, 2, _, _ => T.kx_NoCorner_BadNumber
  | 8, 3, _, _ => T.kx_NoCorner_BadColumn
  | 8, 4, _, _ => T.kx_NoCorner_BadRow
  | 8, 5, _, _ => T.kx_NoCorner_BadArrow
  | 8, 6, _, _ => T.kx_NoCorner_BadDots
  | 8, 7, _, _ => T.kx_NoCorner_BadWay
  | 8, 8, _, _ => T.kx_NoCorner_NoCorner
  | 0, _ + 9, _, h => absurd h (by omega)
  | 1, _ + 9, _, h => absurd h (by omega)
  | 2, _ + 9, _, h => absurd h (by omega)
  | 3, _ + 9, _, h => absurd h (by omega)
  | 4, _ + 9, _, h => absurd h (by omega)
  | 5, _ + 9, _, h => absurd h (by omega)
  | 6, _ + 9, _, h => absurd h (by omega)
  | 7, _ + 9, _, h => absurd h (by omega)
  | 8, _ + 9, _, h => absurd h (by omega)
  | _ + 9, _, h, _ => absurd h (by omega)
theorem xc_all (T : Txt K mg fa fd tk) : ∀ {n : Nat}, n < 9 → ExcC K (fa (35 + n))
  | 0, _ => T.x_BadPrime.ec
  | 1, _ => T.x_BadRoot.ec
  | 2, _ => T.x_BadNumber.ec
  | 3, _ => T.x_BadColumn.ec
  | 4, _ => T.x_BadRow.ec
  | 5, _ => T.x_BadArrow.ec
  | 6, _ => T.x_BadDots.ec
  | 7, _ => T.x_BadWay.ec
  | 8, _ => T.x_NoCorner.ec
  | _ + 9, h => absurd h (by omega)
theorem kv_all (T : Txt K mg fa fd tk) : ∀ {n : Nat}, n < 9 → PySem.W.kitOne K (.ref (fa (35 + n))) (.type "ValueError") = some true
  | 0, _ => T.x_BadPrime.kv
  | 1, _ => T.x_BadRoot.kv
  | 2, _ => T.x_BadNumber.kv
  | 3, _ => T.x_BadColumn.kv
  | 4, _ => T.x_BadRow.kv
  | 5, _ => T.x_BadArrow.kv
  | 6, _ => T.x_BadDots.kv
  | 7, _ => T.x_BadWay.kv
  | 8, _ => T.x_NoCorner.kv
  | _ + 9, h => absurd h (by omega)
theorem xm_all (T : Txt K mg fa fd tk) : ∀ {n : Nat}, n < 9 → PySem.W.exmOne K (.ref (fa (35 + n))) (.ref (fa 34)) = some true
  | 0, _ => T.x_BadPrime.em
  | 1, _ => T.x_BadRoot.em
  | 2, _ => T.x_BadNumber.em
  | 3, _ => T.x_BadColumn.em
  | 4, _ => T.x_BadRow.em
  | 5, _ => T.x_BadArrow.em
  | 6, _ => T.x_BadDots.em
  | 7, _ => T.x_BadWay.em
  | 8, _ => T.x_NoCorner.em
  | _ + 9, h => absurd h (by omega)
def kindsB (n : Nat) : List Bool := (List.range 9).map (fun k => decide (n = k)) ++ [true]
def kindsV (n : Nat) : List V := (kindsB n).map V.bl
def spKinds (fa : Nat → Addr) (a : Addr) (cls : Value) (d : Option Addr) : Sp := fun vs H Q _ => ∃ n : Nat, n < 9 ∧ vs = [.ref a] ∧ cls = .ref (fa (35 + n)) ∧ d = none ∧ ∀ (H' : Hp) (l : Addr), Same H H' → H' l = some (.lst (kindsV n)) → Q (.ref l) H'
theorem ok__law_kinds (T : Txt K mg fa fd tk) {a : Addr} {oe : Obj} {cls : Value} {d : Option Addr} (hz : L2N.Zn cls d oe) (hf : ∃ vs, oe.data = .fields vs) :
    Hx.FnHp P w K mg base CX0 1 (fa 23) (fd 23) ["_law_error"] (a, oe) (spKinds fa a cls d) := by
  refine Hx.okHp T.F__law_kinds sc__law_kinds (fun vs H Q E h => ?_) (fun cdv A outer s H vs Q E hot hr h => ?_)
  · obtain ⟨n, _, rfl, _⟩ := h
    rfl
  · obtain ⟨n, hn, rfl, rfl, rfl, q⟩ := h
    have xc : ExcC K (fa (35 + n)) := xc_all T hn
    have hz2 : oe.cls = .ref (fa (35 + n)) ∧ oe.dict = none := ⟨hz.1, hz.2.1⟩
    have hp : ∀ {X : Cx}, X.pn = [(a, oe)] → (a, oe) ∈ X.pn := fun {X} e => by rw [e]; exact List.mem_singleton.mpr rfl
    have k0 := kx_all T hn (show 0 < 9 by decide)
    have k1 := kx_all T hn (show 1 < 9 by decide)
    have k2 := kx_all T hn (show 2 < 9 by decide)
    have k3 := kx_all T hn (show 3 < 9 by decide)
    have k4 := kx_all T hn (show 4 < 9 by decide)
    have k5 := kx_all T hn (show 5 < 9 by decide)
    have k6 := kx_all T hn (show 6 < 9 by decide)
    have k7 := kx_all T hn (show 7 < 9 by decide)
    have k8 := kx_all T hn (show 8 < 9 by decide)
    have kv := kv_all T hn
    refine ⟨_, (pss_cons (ps_set (i := 1) sc__law_kinds.nd rfl (.inl rfl) (pe_lst (pa_cons (pe_callB (id := "isinstance") (Hx.call_isP (a := a) (oe := oe) xc (hp rfl) hz2 hf) (by rfl) T.m_isinstance (by decide +kernel) (pa_cons (pv 0) (pa_cons (pe_glob (v := .ref _) rfl T.g_BadPrime rfl) pa_nil))) (pa_cons (pe_callB (id := "isinstance") (Hx.call_isP (a := a) (oe := oe) xc (hp rfl) hz2 hf) (by rfl) T.m_isinstance (by decide +kernel) (pa_cons (pv 0) (pa_cons (pe_glob (v := .ref _) rfl T.g_BadRoot rfl) pa_nil))) (pa_cons (pe_callB (id := "isinstance") (Hx.call_isP (a := a) (oe := oe) xc (hp rfl) hz2 hf) (by rfl) T.m_isinstance (by decide +kernel) (pa_cons (pv 0) (pa_cons (pe_glob (v := .ref _) rfl T.g_BadNumber rfl) pa_nil))) pa_nil)))))
      (pss_cons (ps_set (i := 1) sc__law_kinds.nd rfl (.inl rfl) (pe_op op_cat (pv 1) (pe_lst (pa_cons (pe_callB (id := "isinstance") (Hx.call_isP (a := a) (oe := oe) xc (hp rfl) hz2 hf) (by rfl) T.m_isinstance (by decide +kernel) (pa_cons (pv 0) (pa_cons (pe_glob (v := .ref _) rfl T.g_BadColumn rfl) pa_nil))) (pa_cons (pe_callB (id := "isinstance") (Hx.call_isP (a := a) (oe := oe) xc (hp rfl) hz2 hf) (by rfl) T.m_isinstance (by decide +kernel) (pa_cons (pv 0) (pa_cons (pe_glob (v := .ref _) rfl T.g_BadRow rfl) pa_nil))) (pa_cons (pe_callB (id := "isinstance") (Hx.call_isP (a := a) (oe := oe) xc (hp rfl) hz2 hf) (by rfl) T.m_isinstance (by decide +kernel) (pa_cons (pv 0) (pa_cons (pe_glob (v := .ref _) rfl T.g_BadArrow rfl) pa_nil))) pa_nil))))))
      (pss_cons (ps_set (i := 1) sc__law_kinds.nd rfl (.inl rfl) (pe_op op_cat (pv 1) (pe_lst (pa_cons (pe_callB (id := "isinstance") (Hx.call_isP (a := a) (oe := oe) xc (hp rfl) hz2 hf) (by rfl) T.m_isinstance (by decide +kernel) (pa_cons (pv 0) (pa_cons (pe_glob (v := .ref _) rfl T.g_BadDots rfl) pa_nil))) (pa_cons (pe_callB (id := "isinstance") (Hx.call_isP (a := a) (oe := oe) xc (hp rfl) hz2 hf) (by rfl) T.m_isinstance (by decide +kernel) (pa_cons (pv 0) (pa_cons (pe_glob (v := .ref _) rfl T.g_BadWay rfl) pa_nil))) (pa_cons (pe_callB (id := "isinstance") (Hx.call_isP (a := a) (oe := oe) xc (hp rfl) hz2 hf) (by rfl) T.m_isinstance (by decide +kernel) (pa_cons (pv 0) (pa_cons (pe_glob (v := .ref _) rfl T.g_NoCorner rfl) pa_nil))) pa_nil))))))
      (pss_one (ps_ret (pe_op op_cat (pv 1) (pe_lst (pa_cons (pe_callB (id := "isinstance") (Hx.call_isP (a := a) (oe := oe) xc (hp rfl) hz2 hf) (by rfl) T.m_isinstance (by decide +kernel) (pa_cons (pv 0) (pa_cons (pe_bltn (v := .ty "ValueError") (u := .type "ValueError") (by rfl) T.m_ValueError (by decide +kernel) rfl) pa_nil))) pa_nil)))))))), ?_⟩
    refine ⟨_, rfl, _, _, _, rfl, fun _ h => h, k0, _, rfl, _, _, _, rfl, fun _ h => h, k1, _, rfl, _, _, _, rfl, fun _ h => h, k2, by show 3 ≤ sizeLine; decide, fun p1 n1 => ?_⟩
    refine ⟨_, rfl, _, rfl, _, _, _, rfl, fun _ h => h, k3, _, rfl, _, _, _, rfl, fun _ h => h, k4, _, rfl, _, _, _, rfl, fun _ h => h, k5, by show 3 ≤ sizeLine; decide, fun p2 n2 => ?_⟩
    refine ⟨p1, p2, _, _, rfl, rfl, same_upd n2 _ _ upd_same, upd_same, by show 6 ≤ sizeLine; decide, fun p3 n3 => ?_⟩
    refine ⟨_, rfl, _, rfl, _, _, _, rfl, fun _ h => h, k6, _, rfl, _, _, _, rfl, fun _ h => h, k7, _, rfl, _, _, _, rfl, fun _ h => h, k8, by show 3 ≤ sizeLine; decide, fun p4 n4 => ?_⟩
    refine ⟨p3, p4, _, _, rfl, rfl, same_upd n4 _ _ upd_same, upd_same, by show 9 ≤ sizeLine; decide, fun p5 n5 => ?_⟩
    refine ⟨_, rfl, _, rfl, _, _, _, rfl, fun _ h => h, kv, by show 1 ≤ sizeLine; decide, fun p6 n6 => ?_⟩
    refine ⟨p5, p6, _, _, rfl, rfl, same_upd n6 _ _ upd_same, upd_same, by show 10 ≤ sizeLine; decide, fun p7 n7 => ?_⟩
    exact q _ p7 ((((((same_upd n1).trans (same_upd n2)).trans (same_upd n3)).trans (same_upd n4)).trans (same_upd n5)).trans (same_upd n6) |>.trans (same_upd n7)) upd_same
/-! ### a refusal -/
theorem dp_bools {H : Hp} : ∀ bs : List Bool, DpAll K H (bs.map V.bl) (bs.map PyData.bool)
  | [] => .nil
  | b :: r => .cons (.bl b) (dp_bools r)
theorem dpB {H : Hp} {a : Addr} {bs : List Bool} (h : H a = some (.lst (bs.map V.bl))) : Dp K H (.ref a) (.list (bs.map PyData.bool)) := .lst (.of h) (dp_bools bs)
theorem canLay_bools : ∀ bs : List Bool, PyData.canLayAll0 (bs.map PyData.bool) = true
  | [] => rfl
  | b :: r => by
    rw [List.map_cons, PyData.canLayAll0, canLay_bools r]
    rfl
theorem depth_bools : ∀ bs : List Bool, PyData.depthAll (bs.map PyData.bool) ≤ 1
  | [] => by decide
  | b :: r => by
    have h := depth_bools r
    rw [List.map_cons, PyData.depthAll]
    exact Nat.max_le.mpr ⟨by simp [PyData.depth], h⟩
theorem shapedB (bs : List Bool) : SeqAt.shaped (.list (bs.map PyData.bool)) = true := by
  have h := depth_bools bs
  unfold SeqAt.shaped
  rw [PyData.canLay0, canLay_bools, PyData.depth, decide_eq_true (show PyData.depthAll (bs.map PyData.bool) + 1 ≤ 64 by omega)]
  rfl
theorem eqv_bools : ∀ bs cs : List Bool, PyData.eqvAll (bs.map PyData.bool) (cs.map PyData.bool) = decide (bs = cs)
  | [], [] => rfl
  | [], _ :: _ => rfl
  | _ :: _, [] => rfl
  | b :: r, c :: q => by
    rw [List.map_cons, List.map_cons, PyData.eqvAll, eqv_bools r q]
    cases b <;> cases c <;> (by_cases z : r = q) <;> simp [z, PyData.eqv]
/-- a call of f with v is refused by the class that is due -/
def spRefused (P : Program) (w : World) (K : PySem.W.Frag) (mg : Str → Option Value) (base : Heap) (fa : Nat → Addr) : Sp := fun vs H Q _ => ∃ (f : Addr) (v : V) (n : Nat), n < 9 ∧ vs = [.ref f, v, .int n] ∧ Hx.AskR P w K mg base 6 H f v (fa (35 + n)) ∧ ∀ H', Same H H' → Q (.bl true) H'
def tsR (K : PySem.W.Frag) (fa : Nat → Addr) (a : Addr) (cls : Value) (d : Option Addr) : TS :=
  tRet (tOp (rEqD K) (tCallS (spKinds fa a cls d) (fun _ _ _ _ => False) (tCons (tVar 3) tNil)) (tOp rCat (tLc (iRng1 (tCons (tC (.int 9)) tNil)) (gName 4) tYes (tOp rEq (tVar 4) (tVar 2)) [4]) (tLst (tCons (tC (.bl true)) tNil))))
theorem takesF {X : Cx} : L2N.Takes X (fun _ _ _ _ => False) := fun _ _ x => by
  obtain ⟨_, _, _, _, _, _, _, _, _, _, _, _, _, _, _, _, z⟩ := x
  exact z.elim
theorem ok__law_refused (T : Txt K mg fa fd tk) : FnOk P w K mg base CX0 7 (fa 24) (fd 24) ["_law_ask", "_law_thing", "_law_due"] (spRefused P w K mg base fa) := by
  refine T.F__law_refused.ok sc__law_refused (fun vs H Q E h => ?_) (fun cdv A outer s H vs Q E hr h => ?_)
  · obtain ⟨f, v, n, _, rfl, _⟩ := h
    rfl
  · obtain ⟨f, v, n, hn, rfl, ask, q⟩ := h
    have hrh := L2H.roomH_of hr
    refine ⟨_, pss_cons (L2N.ps_try_as (i := 3) (c := .ref (fa 34)) (Wout := fun _ _ _ _ => False) (tb := fun W => tDrop (Hx.tAsk P w K mg base 6 0 W (tCons (tVar 1) tNil))) (ts := tsR K fa) rfl rfl sc__law_refused.nd rfl rfl ⟨rfl, by decide, .inl T.g_DotError⟩ takesF
      (fun W pn xe tkW pown => pss_one (ps_expr (Hx.pe_ask (i := 0) tkW hr rfl (Or.inl rfl) (pa_cons (pv 1) pa_nil))))
      (fun a oe cls d pn hz hf => pss_one (ps_ret (pe_cmpR (r := rEqD K) (op_eqD (by have := hrh.un; show _ < _; exact Nat.lt_of_le_of_lt (by show A.units + 3 + 64 ≤ A.units + 3 + 16 * 6 + 200; omega) this))
        (Hx.pe_callHp (p := (a, oe)) (ok__law_kinds T hz hf) (L2H.RoomH.mono (j := 1) (k := 6) ⟨hrh.dp, hrh.un⟩ (by decide)) ⟨rfl, by obtain ⟨vs, e⟩ := hf; exact ⟨vs, e, hz.2.2 vs e⟩⟩ List.mem_cons_self (by rfl) T.g__law_kinds T.F__law_kinds.kp T.b__law_kinds (fun _ _ _ _ _ _ _ h => h.elim) (pa_cons (pv 3) pa_nil))
        (pe_op op_cat (Hx.pe_lcH (own := [("_law_kind", 4)]) (g := gName 4) (tt := tYes) (te := tOp rEq (tVar 4) (tVar 2)) (by
            obtain ⟨vs, e⟩ := hf
            exact ⟨(a, oe), ⟨rfl, vs, e, hz.2.2 vs e⟩, List.mem_cons_self⟩) sc__law_refused.nd (L2H.pi_range1H (by rfl) T.m_range (pa_cons pe_int pa_nil)) (blkOk_by (own := [("_law_kind", 4)]) (N := ["_law_ask", "_law_thing", "_law_due", "_law_error", "_law_kind"]) (sc := (defScope s__law_refused)) (by decide +kernel))
            (fun _ _ _ _ _ => (pg_name (i := 4) sc__law_refused.nd rfl (Or.inl rfl))) (fun _ _ _ _ _ => pts_nil) (fun _ _ _ _ _ => pe_cmpR op_eq (pv 4) (pv 2) (nomark _))) (pe_lst (pa_cons pe_bl pa_nil))) (nomark _)))))
      (pss_one (ps_ret pe_bl)), ?_⟩
    refine ⟨f, v, fa (35 + n), rfl, ask, ⟨_, rfl, rfl, LamX.ExtN.refl H, fun H2 sm => ?_⟩⟩
    refine ⟨true, xm_all T hn, fun _ a na => ?_, fun z => nomatch z⟩
    refine ⟨_, rfl, n, hn, rfl, rfl, rfl, fun H3 l s3 hl => ?_⟩
    refine ⟨9, rfl, by decide, by decide, fun D nD => ?_⟩
    refine lc_it (walk_range (lo := 0) (n := 9)) (fun i H' => Same H3 H' ∧ H' D = some (.lst (((List.range i).map (fun k => decide (n = k))).map V.bl))) ⟨same_upd nD, upd_same⟩ (fun _ _ _ _ => True.intro) (fun i x H4 H5 hi hP hY => ?_) (fun H4 hP => ?_)
    · obtain ⟨s4, hD⟩ := hP
      obtain ⟨rfl, rfl⟩ := hY
      refine ⟨rfl, ?_⟩
      refine ⟨_, rfl, _, rfl, rfl, _, hD, ?_, fun y o h => ?_, ?_⟩
      · rw [List.length_map, List.length_map, List.length_range]
        exact small1000 (by omega)
      · rw [upd_ne (ne_of_none h nD)]
        exact s4 y o h
      · rw [upd_same, List.range_succ, List.map_append, List.map_append]
        have e1 : decide (V.int (0 + (i : Int)) = V.int (n : Int)) = decide (n = i) := by
          rw [Bool.eq_iff_iff, dec_vint, decide_eq_true_iff]
          omega
        rw [e1]
        rfl
    · obtain ⟨s4, hD⟩ := hP
      refine ⟨by show 1 ≤ sizeLine; decide, fun p np => ?_⟩
      refine ⟨D, p, _, _, rfl, rfl, same_upd np _ _ hD, upd_same, ?_, fun p2 np2 => ?_⟩
      · rw [List.length_map, List.length_map, List.length_range]
        show 9 + 1 ≤ sizeLine
        decide
      refine ⟨_, _, dpB (bs := kindsB n) (((s4.trans (same_upd np)).trans (same_upd np2)) _ _ hl), dpB (bs := kindsB n) ?_, shapedB _, shapedB _, ?_⟩
      · rw [upd_same]
        unfold kindsB
        rw [List.map_append]
        rfl
      · rw [PyData.eqv, eqv_bools, decide_eq_true rfl]
        exact q _ (((sm.trans s3).trans s4).trans (same_upd np) |>.trans (same_upd np2))
end
end Lw
namespace Hx
open PySem PySem.Spec PyProof.Rows L2 LamX NdefX
/-! ### a lambda that captures nothing, its name told outright (for comprehensions) -/
def nfB (sc : Scope) : Bool := sc.names.all fun y => !decide (y.2 = .free)
theorem nf_of {sc : Scope} (h : nfB sc = true) {y : Str × NameKind} (hy : y ∈ sc.names) (e : y.2 = .free) : False := by
  have z := List.all_eq_true.mp h y hy
  rw [decide_eq_true e] at z
  cases z
theorem clo_nil {cells : List (Str × Addr)} {sc : Scope} (h : nfB sc = true) : cloFrom cells sc.names [] = [] := by
  rw [List.eq_nil_iff_forall_not_mem]
  intro p hp
  rcases cloFrom_mem (n := p.1) (c := p.2) hp with z | z
  · cases z
  · exact nf_of h z.1 rfl
theorem pe_lam0 {X : Cx} {T : List NTab} {nm : Nat → Nat → Str} {c P : Addr} {params : Arguments} {body : Expr} {scope : Scope} {pos : Pos} (q : Str) (TB : TabB X.base X.mg c P) (hcode : X.env.code = .ref c) (hm : (P, nm) ∈ T) (hq : X.env.qual ++ "<lambda>" = q) (hn : nm pos.line pos.col = q) (hu : ∀ p ∈ T, p.1 = P → p.2 = nm)
    (hdef : defaultsOf params X.env = ([], [])) (hf : nfB scope = true) : PE X (.Lambda params body scope pos) (tLamV T fun c' => ⟨q, params, body, scope, [], c'⟩) := by
  subst hq
  have h := pe_lam (X := X) (T := T) (nm := nm) (params := params) (body := body) (scope := scope) (pos := pos) TB hcode hm hn hu hdef fun y hy e => (nf_of hf hy e).elim
  rw [clo_nil hf] at h
  exact h
end Hx
namespace Lw
open PySem PySem.Spec PyProof.Rows L2 AD
section
variable {P : Program} {w : World} {K : PySem.W.Frag} {mg : Str → Option Value} {base : Heap}
variable {fa : Nat → Addr} {fd : Nat → FuncData} {tk : Nat → Tok}
/-! ### what is plain, truths -/
def plainV : Nat → Hp → V → Prop
  | 0, _, v => ∃ i, v = .int i
  | n + 1, H, v => (∃ i, v = .int i) ∨ ∃ (a : Addr) (xs : List V), v = .ref a ∧ H a = some (.lst xs) ∧ xs.length ≤ 1000 ∧ ∀ x ∈ xs, plainV n H x
theorem plainV.same {H H' : Hp} (s : Same H H') : ∀ {n : Nat} {v : V}, plainV n H v → plainV n H' v
  | 0, _, h => h
  | n + 1, _, h => h.imp id fun ⟨a, xs, e, ha, hl, hx⟩ => ⟨a, xs, e, s _ _ ha, hl, fun x h => plainV.same s (hx x h)⟩
def spPlain (n : Nat) : Sp := fun vs H Q _ => ∃ v, vs = [v] ∧ plainV n H v ∧ ∀ H', Same H H' → Q (.bl true) H'
theorem ok_plain0 (T : Txt K mg fa fd tk) : FnOk P w K mg base CX0 1 (fa 25) (fd 25) ["_law_thing"] (spPlain 0) := by
  refine T.F__law_plain.ok sc__law_plain (fun vs H Q E h => ?_) (fun cdv A outer s H vs Q E hr h => ?_)
  · obtain ⟨v, rfl, _⟩ := h
    rfl
  · obtain ⟨v, rfl, ⟨i, rfl⟩, q⟩ := h
    refine ⟨_, (pss_cons (ps_if (PW.pt (pw_or (pt_val (pe_callB call_isi (by rfl) T.m_isinstance (by decide +kernel) (pa_cons (pv 0) (pa_cons (pe_bltn (v := .ty "list") (u := .type "list") (by rfl) T.m_list (by decide +kernel) rfl) pa_nil)))) (pw_or1 (pt_val (pe_callB call_isi (by rfl) T.m_isinstance (by decide +kernel) (pa_cons (pv 0) (pa_cons (pe_bltn (v := .ty "tuple") (u := .type "tuple") (by rfl) T.m_tuple (by decide +kernel) rfl) pa_nil))))))) (pss_one (ps_ret Hx.pe_nev)) pss_nil)
      (pss_one (ps_ret (pe_or (pe_cmpR op_isN (pv 0) pe_non (nomark _)) (pe_or (pe_callB call_isi (by rfl) T.m_isinstance (by decide +kernel) (pa_cons (pv 0) (pa_cons (pe_bltn (v := .ty "str") (u := .type "str") (by rfl) T.m_str (by decide +kernel) rfl) pa_nil))) (pe_one (pe_and (pe_callB call_isi (by rfl) T.m_isinstance (by decide +kernel) (pa_cons (pv 0) (pa_cons (pe_bltn (v := .ty "int") (u := .type "int") (by rfl) T.m_int (by decide +kernel) rfl) pa_nil))) (pe_one (pe_not (pe_callB call_isi (by rfl) T.m_isinstance (by decide +kernel) (pa_cons (pv 0) (pa_cons (pe_bltn (v := .ty "bool") (u := .type "bool") (by rfl) T.m_bool (by decide +kernel) rfl) pa_nil)))))))))))), ?_⟩
    refine ⟨_, rfl, _, _, _, _, false, rfl, .ty _, .base (.int _), kit_ty (by decide +kernel), false, rfl, iteF ?_⟩
    refine ⟨_, rfl, _, _, _, _, false, rfl, .ty _, .base (.int _), kit_ty (by decide +kernel), false, rfl, iteF ?_⟩
    refine ⟨_, rfl, rfl, _, rfl, iteF ?_⟩
    refine ⟨_, rfl, _, _, _, _, false, rfl, .ty _, .base (.int _), kit_ty (by decide +kernel), _, rfl, iteF ?_⟩
    refine ⟨_, rfl, _, _, _, _, true, rfl, .ty _, .base (.int _), kit_ty (by decide +kernel), _, rfl, iteT ?_⟩
    exact ⟨_, rfl, _, _, _, _, false, rfl, .ty _, .base (.int _), kit_ty (by decide +kernel), _, rfl, q _ (Same.refl _)⟩
theorem ok_plainS (T : Txt K mg fa fd tk) {k n : Nat} (o : FnOk P w K mg base CX0 k (fa 25) (fd 25) ["_law_thing"] (spPlain n)) : FnOk P w K mg base CX0 (k + 1) (fa 25) (fd 25) ["_law_thing"] (spPlain (n + 1)) := by
  refine T.F__law_plain.ok sc__law_plain (fun vs H Q E h => ?_) (fun cdv A outer s H vs Q E hr h => ?_)
  · obtain ⟨v, rfl, _⟩ := h
    rfl
  · obtain ⟨v, rfl, hv, q⟩ := h
    refine ⟨_, (pss_cons (ps_if (PW.pt (pw_or (pt_val (pe_callB call_isi (by rfl) T.m_isinstance (by decide +kernel) (pa_cons (pv 0) (pa_cons (pe_bltn (v := .ty "list") (u := .type "list") (by rfl) T.m_list (by decide +kernel) rfl) pa_nil)))) (pw_or1 (pt_val (pe_callB call_isi (by rfl) T.m_isinstance (by decide +kernel) (pa_cons (pv 0) (pa_cons (pe_bltn (v := .ty "tuple") (u := .type "tuple") (by rfl) T.m_tuple (by decide +kernel) rfl) pa_nil))))))) (pss_one (ps_ret (pe_callB (cr_all rfl) (by rfl) T.m_all (by decide +kernel) (pa_cons (pe_lc (own := [("_law_one", 1)]) (g := gName 1) (tt := tYes) (by rfl) sc__law_plain.nd (pi_list (pv 0)) (blkOk_by (own := [("_law_one", 1)]) (N := ["_law_thing", "_law_one"]) (sc := (defScope s__law_plain)) (by decide +kernel)) (fun _ _ _ _ _ => (pg_name (i := 1) sc__law_plain.nd rfl (Or.inl rfl))) (fun _ _ _ _ _ => pts_nil) (fun _ _ _ _ _ => (pe_call (sp := spPlain n) o hr (by rfl) T.g__law_plain T.F__law_plain.kp T.b__law_plain .nil pass0 (pa_cons (pv 1) pa_nil)))) pa_nil)))) pss_nil)
      (pss_one (ps_ret (pe_or (pe_cmpR op_isN (pv 0) pe_non (nomark _)) (pe_or (pe_callB call_isi (by rfl) T.m_isinstance (by decide +kernel) (pa_cons (pv 0) (pa_cons (pe_bltn (v := .ty "str") (u := .type "str") (by rfl) T.m_str (by decide +kernel) rfl) pa_nil))) (pe_one (pe_and (pe_callB call_isi (by rfl) T.m_isinstance (by decide +kernel) (pa_cons (pv 0) (pa_cons (pe_bltn (v := .ty "int") (u := .type "int") (by rfl) T.m_int (by decide +kernel) rfl) pa_nil))) (pe_one (pe_not (pe_callB call_isi (by rfl) T.m_isinstance (by decide +kernel) (pa_cons (pv 0) (pa_cons (pe_bltn (v := .ty "bool") (u := .type "bool") (by rfl) T.m_bool (by decide +kernel) rfl) pa_nil)))))))))))), ?_⟩
    rcases hv with ⟨i, rfl⟩ | ⟨a, xs, rfl, ha, hl, hx⟩
    · refine ⟨_, rfl, _, _, _, _, false, rfl, .ty _, .base (.int _), kit_ty (by decide +kernel), false, rfl, iteF ?_⟩
      refine ⟨_, rfl, _, _, _, _, false, rfl, .ty _, .base (.int _), kit_ty (by decide +kernel), false, rfl, iteF ?_⟩
      refine ⟨_, rfl, rfl, _, rfl, iteF ?_⟩
      refine ⟨_, rfl, _, _, _, _, false, rfl, .ty _, .base (.int _), kit_ty (by decide +kernel), _, rfl, iteF ?_⟩
      refine ⟨_, rfl, _, _, _, _, true, rfl, .ty _, .base (.int _), kit_ty (by decide +kernel), _, rfl, iteT ?_⟩
      exact ⟨_, rfl, _, _, _, _, false, rfl, .ty _, .base (.int _), kit_ty (by decide +kernel), _, rfl, q _ (Same.refl _)⟩
    · refine ⟨_, rfl, _, _, _, _, true, rfl, .ty _, .base (.lst ha), kit_ty (by decide +kernel), true, rfl, iteT ?_⟩
      refine ⟨_, rfl, a, rfl, ⟨_, .of ha⟩, fun D nD => ?_⟩
      refine lc_it (walk_list (xs := xs)) (fun i H' => Same H H' ∧ H' D = some (.lst ((List.replicate i true).map V.bl))) ⟨same_upd nD, upd_same⟩ (fun i H' _ hP => .of (hP.1 _ _ ha)) (fun i x H4 H5 hi hP hY => ?_) (fun H4 hP => ?_)
      · obtain ⟨s4, hD⟩ := hP
        obtain ⟨rfl, hxi⟩ := hY
        refine ⟨rfl, ?_⟩
        refine ⟨_, rfl, x, rfl, (hx x (List.mem_of_getElem? hxi)).same s4, fun H6 s6 => ⟨_, s6 _ _ hD, ?_, fun y o h => ?_, ?_⟩⟩
        · rw [List.length_map, List.length_replicate]
          exact small1000 (by omega)
        · rw [upd_ne (ne_of_none h nD)]
          exact s6 _ _ (s4 y o h)
        · rw [upd_same, List.replicate_succ', List.map_append]
          rfl
      · obtain ⟨s4, hD⟩ := hP
        refine ⟨D, _, rfl, .of hD, ?_⟩
        rw [show (List.replicate xs.length true).all id = true by simp]
        exact q _ s4
theorem ok__law_plain (T : Txt K mg fa fd tk) : FnOk P w K mg base CX0 3 (fa 25) (fd 25) ["_law_thing"] (spPlain 2) := ok_plainS T (ok_plainS T (ok_plain0 T))
def spTruths : Sp := fun vs H Q _ => ∃ (a : Addr) (bs : List Bool), vs = [.ref a] ∧ H a = some (.lst (bs.map V.bl)) ∧ bs.length ≤ 100 ∧ ∀ H', Same H H' → Q (.bl true) H'
theorem ok__law_truths (T : Txt K mg fa fd tk) : FnOk P w K mg base CX0 1 (fa 26) (fd 26) ["_law_things"] spTruths := by
  refine T.F__law_truths.ok sc__law_truths (fun vs H Q E h => ?_) (fun cdv A outer s H vs Q E hr h => ?_)
  · obtain ⟨a, bs, rfl, _⟩ := h
    rfl
  · obtain ⟨a, bs, rfl, ha, hl, q⟩ := h
    refine ⟨_, (pss_one (ps_ret (pe_callB (cr_all rfl) (by rfl) T.m_all (by decide +kernel) (pa_cons (pe_lc (own := [("_law_one", 1)]) (g := gName 1) (tt := tYes) (by rfl) sc__law_truths.nd (pi_list (pv 0)) (blkOk_by (own := [("_law_one", 1)]) (N := ["_law_things", "_law_one"]) (sc := (defScope s__law_truths)) (by decide +kernel)) (fun _ _ _ _ _ => (pg_name (i := 1) sc__law_truths.nd rfl (Or.inl rfl))) (fun _ _ _ _ _ => pts_nil) (fun _ _ _ _ _ => (pe_callB (id := "isinstance") (r := rIsi K) call_isi (by rfl) T.m_isinstance (by decide +kernel) (pa_cons (pv 1) (pa_cons (pe_bltn (v := .ty "bool") (u := .type "bool") (by rfl) T.m_bool (by decide +kernel) rfl) pa_nil))))) pa_nil)))), ?_⟩
    refine ⟨_, rfl, a, rfl, ⟨_, .of ha⟩, fun D nD => ?_⟩
    refine lc_it (walk_list (xs := bs.map V.bl)) (fun i H' => Same H H' ∧ H' D = some (.lst ((List.replicate i true).map V.bl))) ⟨same_upd nD, upd_same⟩ (fun i H' _ hP => .of (hP.1 _ _ ha)) (fun i x H4 H5 hi hP hY => ?_) (fun H4 hP => ?_)
    · obtain ⟨s4, hD⟩ := hP
      obtain ⟨rfl, hxi⟩ := hY
      obtain ⟨b, _, rfl⟩ := List.mem_map.mp (List.mem_of_getElem? hxi)
      rw [List.length_map] at hi
      refine ⟨rfl, ?_⟩
      refine ⟨_, rfl, _, _, _, _, true, rfl, .ty _, .base (.bl _), kit_ty (by decide +kernel), _, hD, ?_, fun y o h => ?_, ?_⟩
      · rw [List.length_map, List.length_replicate]
        exact small1000 (by omega)
      · rw [upd_ne (ne_of_none h nD)]
        exact s4 y o h
      · rw [upd_same, List.replicate_succ', List.map_append]
        rfl
    · obtain ⟨s4, hD⟩ := hP
      refine ⟨D, _, rfl, .of hD, ?_⟩
      rw [show (List.replicate (bs.map V.bl).length true).all id = true by simp]
      exact q _ s4
/-! ### a board without a corner to cut -/
theorem pe_when {X : Cx} {e : Expr} {t : TE} {p : Prop} (h : p → PE X e t) : PE X e (fun σ H Q => p ∧ t σ H Q) := ⟨fun pins s σ H Q I ⟨hp, ht⟩ => (h hp).run pins s σ H Q I ht⟩
def spNoCorner : Sp := fun vs H Q _ => ∃ (a : Addr) (o : Nat) (os : List Nat), vs = [.ref a] ∧ H a = some (.lst (nats (o :: os))) ∧ Dots (o :: os) ∧ (o ≠ 0 ∨ os = []) ∧ ∀ H', Same H H' → Q (.bl true) H'
theorem ok__law_has_no_corner (T : Txt K mg fa fd tk) : FnOk P w K mg base CX0 4 (fa 30) (fd 30) ["_law_dots"] spNoCorner := by
  refine T.F__law_has_no_corner.ok sc__law_has_no_corner (fun vs H Q E h => ?_) (fun cdv A outer s H vs Q E hr h => ?_)
  · obtain ⟨a, o, os, rfl, _⟩ := h
    rfl
  · obtain ⟨a, o, os, rfl, ha, D, ho, q⟩ := h
    refine ⟨_, pss_one (L2N.ps_try_as (i := 1) (c := .ref (fa 34)) (Wout := fun _ _ _ _ => False) (tb := fun W => tSeq (tDrop (tCallS (spWithoutX K fa) (WE W) (tCons (tVar 0) tNil))) (tRet (tC (.bl false))))
      (ts := fun a cls d => tRet (fun σ H Q => (cls = .ref (fa 43) ∧ d = none) ∧ tCons (tVar 1) (tCons (tC (.ref (fa 43))) tNil) σ H fun xs H1 => rIsE K (fa 43) a xs H1 Q)) rfl rfl sc__law_has_no_corner.nd rfl rfl ⟨rfl, by decide, .inl T.g_DotError⟩ takesF
      (fun W pn xe tkW pown => pss_cons (ps_expr (pe_callS (xok_without_corner T) (hr.mono (by decide)) (by rfl) T.g_without_corner T.F_without_corner.kp T.b_without_corner (L2N.passAt tkW) (pa_cons (pv 0) pa_nil))) (pss_one (ps_ret pe_bl)))
      (fun a oe cls d pn hz hf => pss_one (ps_ret (pe_when fun hc => by
        obtain ⟨rfl, rfl⟩ := hc
        exact pe_callB (id := "isinstance") (r := rIsE K (fa 43) a) (call_isE T.x_NoCorner.ec hz.zc hf) (by rfl) T.m_isinstance (by decide +kernel) (pa_cons (pv 1) (pa_cons (pe_glob (v := .ref _) (by rfl) T.g_NoCorner rfl) pa_nil)))))), ?_⟩
    refine ⟨_, rfl, _, rfl, .inr ⟨a, o, os, rfl, ha, D, ho, fun H1 s1 => ?_⟩⟩
    refine ⟨true, T.x_NoCorner.em, fun _ a' na => ?_, fun z => nomatch z⟩
    exact ⟨⟨rfl, rfl⟩, _, rfl, _, _, _, rfl, fun _ h => h, T.kx_NoCorner_NoCorner, q _ s1⟩
end
end Lw
namespace Lw
open PySem PySem.Spec PyProof.Rows L2 AD
section
variable {P : Program} {w : World} {K : PySem.W.Frag} {mg : Str → Option Value} {base : Heap}
variable {fa : Nat → Addr} {fd : Nat → FuncData} {tk : Nat → Tok}
/-! ### small facts for fixed numbers -/
theorem sqz {H : Hp} {a : Addr} {os : List Nat} (h : H a = some (.lst (nats os))) : SqL K H a ((zof os).map V.int) := .of (by rw [h, nats_ints]; rfl)
def crossB (p g h : Nat) (l : List Nat) : Bool := (List.range l.length).all fun c => match l[c]? with
  | some r => decide (r < p - 2) && decide ((g ^ (c + 1) + h ^ (r + 1)) % p = 1)
  | none => true
theorem cross_by {p g h : Nat} {l : List Nat} (hb : crossB p g h l = true) : ∀ c r, l[c]? = some r → r < p - 2 ∧ (g ^ (c + 1) + h ^ (r + 1)) % p = 1 := fun c r e => by
  have z := List.all_eq_true.mp hb c (List.mem_range.mpr (List.getElem?_eq_some_iff.mp e).1)
  rw [e] at z
  simpa using z
def aptB (ns : List Int) : Bool := (List.range ns.length).all fun d => (List.range ns.length).all fun i => (List.range ns.length).all fun j => !decide (1 ≤ d) || (!decide (i < j) || (!decide (j + d < ns.length) || !decide (up ns i d = up ns j d)))
theorem apt_by {ns : List Int} (h : aptB ns = true) : Apt ns := fun d i j d1 hij hjd e => by
  have z := List.all_eq_true.mp (List.all_eq_true.mp (List.all_eq_true.mp h d (List.mem_range.mpr (by omega))) i (List.mem_range.mpr (by omega))) j (List.mem_range.mpr (by omega))
  rw [decide_eq_true d1, decide_eq_true hij, decide_eq_true hjd, decide_eq_true e] at z
  cases z
theorem same_acc {H H5 : Hp} {D : Addr} {o : HO} (s : Same H H5) (nD : H D = none) : Same H (upd H5 D o) := fun y o' h => by
  rw [upd_ne (ne_of_none h nD)]
  exact s y o' h
/-- a prime, its least root -/
structure LQ (p r : Nat) : Prop where
  root : Root p r
  rb : rootB p r = true
  no : ∀ g, 1 ≤ g → g < r → rootB p g = false
theorem lq_of {p r : Nat} (P : Prm p) (h : lr p = r) : LQ p r := by
  rw [← h]
  exact ⟨P.root, P.lroot, fun _ h1 h2 => P.lnot h1 h2⟩
theorem nwB {H : Hp} {b : Bool} : NW K H (.bl b) := ⟨rfl, "bool", .base (.bl _), by decide⟩
theorem nwN {H : Hp} : NW K H .non := ⟨rfl, "NoneType", .base .non, by decide⟩
theorem nwS {H : Hp} {x : Str} : NW K H (.str x) := ⟨rfl, "str", .base (.str _), by decide⟩
theorem lq_by {p r : Nat} (h1 : goodB p = true) (h2 : (Nat.ble 1 r && Nat.blt r p) = true) (h3 : plen p r = p - 1) (h4 : rootB p r = true) (h5 : ∀ g, g < r → 1 ≤ g → rootB p g = false) : LQ p r := by
  rw [Bool.and_eq_true] at h2
  exact ⟨⟨good_of h1, Nat.le_of_ble_eq_true h2.1, Nat.le_of_ble_eq_true h2.2, h3⟩, h4, fun g a b => h5 g b a⟩
theorem rowsI_be {p g : Nat} {b b' : Int} (h : be p b = be p b') : rowsI p g b = rowsI p g b' := by
  unfold rowsI rowA
  rw [h]
theorem be_four (G : Int) : be 5 (-4 * G) = be 5 0 := by
  unfold be
  show ((-4 * G) % 4).toNat = 0
  omega
theorem be_four' (G : Int) : be 5 (4 * G) = be 5 0 := by
  unfold be
  show ((4 * G) % 4).toNat = 0
  omega
theorem lq32 : LQ 3 2 := lq_of (prm_in (by decide)) (by decide +kernel)
theorem lq52 : LQ 5 2 := lq_of (prm_in (by decide)) (by decide +kernel)
theorem lq73 : LQ 7 3 := lq_of (prm_in (by decide)) (by decide +kernel)
theorem lq112 : LQ 11 2 := lq_of (prm_in (by decide)) (by decide +kernel)
theorem lq132 : LQ 13 2 := lq_of (prm_in (by decide)) (by decide +kernel)
theorem lq173 : LQ 17 3 := lq_of (prm_in (by decide)) (by decide +kernel)
theorem lq235 : LQ 23 5 := lq_of (prm_in (by decide)) (by decide +kernel)
theorem lq416 : LQ 41 6 := lq_of (prm_in (by decide)) (by decide +kernel)
theorem lq717 : LQ 71 7 := lq_of prm71 (by decide +kernel)
theorem lq19119 : LQ 191 19 := lq_by (by decide +kernel) (by decide) (by decide +kernel) (by decide +kernel) (by decide +kernel)
theorem lq40921 : LQ 409 21 := lq_by (by decide +kernel) (by decide) (by decide +kernel) (by decide +kernel) (by decide +kernel)
theorem lq19993 : LQ 1999 3 := ⟨root1999, rb1999, fun g h1 h2 => by
  have : g = 1 ∨ g = 2 := by omega
  rcases this with rfl | rfl
  · decide +kernel
  · decide +kernel⟩
theorem root52 : Root 5 2 := lq52.root
theorem root612 : Root 61 2 := root_lr (prm_in (by decide)) (by decide +kernel)
/-- lists of lists of numbers -/
theorem dp_lists {H : Hp} : ∀ {xs : List V} {ls : List (List Nat)}, Paired (fun x os => ∃ a, x = V.ref a ∧ H a = some (.lst (nats os))) xs ls → DpAll K H xs (ls.map fun os => PyData.list ((zof os).map PyData.int))
  | _, _, .nil => .nil
  | _, _, .cons ⟨a, e, h⟩ r => by
    subst e
    exact .cons (dp_list (sqz h)) (dp_lists r)
theorem paired_of {H : Hp} : ∀ {xs : List V} {ls : List (List Nat)}, xs.length = ls.length → (∀ (k : Nat) (os : List Nat), ls[k]? = some os → ∃ a : Addr, xs[k]? = some (V.ref a) ∧ H a = some (HO.lst (nats os))) → Paired (fun x os => ∃ a, x = V.ref a ∧ H a = some (.lst (nats os))) xs ls
  | [], [], _, _ => .nil
  | [], _ :: _, h, _ => absurd h (by simp)
  | _ :: _, [], h, _ => absurd h (by simp)
  | x :: xs, os :: ls, h, hk => by
    obtain ⟨a, e, ha⟩ := hk 0 os rfl
    refine .cons ⟨a, Option.some.inj e, ha⟩ (paired_of (by simpa using h) fun k o hko => hk (k + 1) o hko)
def spYes : Sp := fun vs H Q _ => vs = [] ∧ ∀ H', Same H H' → Q (.bl true) H'
end
end Lw
namespace Lw
open PySem PySem.Spec PyProof.Rows L2 AD
section
variable {P : Program} {w : World} {K : PySem.W.Frag} {mg : Str → Option Value} {base : Heap}
variable {fa : Nat → Addr} {fd : Nat → FuncData} {tk : Nat → Tok}
theorem ok__law_more_promises (T : Txt K mg fa fd tk) : FnOk P w K mg base CX0 5 (fa 32) (fd 32) [] spYes := by
  refine T.F__law_more_promises.ok sc__law_more_promises (fun vs H Q E h => ?_) (fun cdv A outer s H vs Q E hr h => ?_)
  · obtain ⟨rfl, _⟩ := h
    rfl
  · obtain ⟨rfl, q⟩ := h
    have hu := hr.units
    refine ⟨_, (pss_cons (ps_if (PW.pt (pw_or (pt_not (pt_val (pe_callB call_isi (by rfl) T.m_isinstance (by decide +kernel) (pa_cons (pe_call (ok_judged T) (hr.mono (by decide)) (by rfl) T.g_judged T.F_judged.kp T.b_judged .nil pass0 (pa_cons (pe_lst (pa_cons pe_int (pa_cons pe_int (pa_cons pe_int (pa_cons pe_int pa_nil))))) pa_nil)) (pa_cons (pe_glob (v := .ref _) rfl T.g_Apart rfl) pa_nil))))) (pw_or1 (pt_not (pt_val (pe_callB call_isi (by rfl) T.m_isinstance (by decide +kernel) (pa_cons (pe_call (ok_judged T) (hr.mono (by decide)) (by rfl) T.g_judged T.F_judged.kp T.b_judged .nil pass0 (pa_cons (pe_lst (pa_cons pe_int (pa_cons pe_int (pa_cons pe_int pa_nil)))) pa_nil)) (pa_cons (pe_glob (v := .ref _) rfl T.g_Same rfl) pa_nil)))))))) (pss_one (ps_ret pe_bl)) pss_nil)
      (pss_cons (ps_if (pt_not (pt_val (pe_callB call_isi (by rfl) T.m_isinstance (by decide +kernel) (pa_cons (pe_call (ok_judged T) (hr.mono (by decide)) (by rfl) T.g_judged T.F_judged.kp T.b_judged .nil pass0 (pa_cons (pe_lst (pa_cons pe_int pa_nil)) pa_nil)) (pa_cons (pe_glob (v := .ref _) rfl T.g_Apart rfl) pa_nil))))) (pss_one (ps_ret pe_bl)) pss_nil)
      (pss_cons (ps_if (PW.pt (pw_or (pt_not (pt_val (pe_meth (pe_makeP T.mk_Apart (by rfl) T.g_Apart) T.in_Apart.cl T.me_Apart_shows (ok_Apart_shows T) (hr.mono (by decide)) T.b_Apart_shows .nil pass0 (pa_cons (pe_lst (pa_cons pe_int (pa_cons pe_int (pa_cons pe_int (pa_cons pe_int pa_nil))))) pa_nil) (ht := mcall_of (abase_call (by decide)) (fun _ => rfl))))) (pw_or (pt_val (pe_meth (pe_makeP T.mk_Apart (by rfl) T.g_Apart) T.in_Apart.cl T.me_Apart_shows (ok_Apart_shows T) (hr.mono (by decide)) T.b_Apart_shows .nil pass0 (pa_cons (pe_lst (pa_cons pe_int (pa_cons pe_int (pa_cons pe_int pa_nil)))) pa_nil) (ht := mcall_of (abase_call (by decide)) (fun _ => rfl)))) (pw_or1 (pt_val (pe_meth (pe_make T.mk_Same (ok_Same_init T) (hr.mono (by decide)) (by rfl) T.g_Same T.b_Same_init .nil pass0 (pa_cons pe_int (pa_cons pe_int (pa_cons pe_int pa_nil)))) T.in_Same.cl T.me_Same_shows (ok_Same_shows T) (hr.mono (by decide)) T.b_Same_shows .nil pass0 (pa_cons (pe_lst (pa_cons pe_int (pa_cons pe_int (pa_cons pe_int (pa_cons pe_int pa_nil))))) pa_nil))))))) (pss_one (ps_ret pe_bl)) pss_nil)
      (pss_cons (ps_setLc (i := 0) (own := [("_law_way", 1)]) (g := gName 1) (tt := tYes) (by rfl) sc__law_more_promises.nd rfl rfl (sw_true rfl rfl rfl (by decide +kernel)) (pi_range1 (by rfl) T.m_range (pa_cons pe_int pa_nil)) (blkOk_by (own := [("_law_way", 1)]) (N := ["_law_ways", "_law_way"]) (sc := (defScope s__law_more_promises)) (by decide +kernel)) (fun _ _ _ _ _ => (pg_name (i := 1) sc__law_more_promises.nd rfl (Or.inl rfl))) (fun _ _ _ _ _ => pts_nil) (fun _ _ _ _ _ => (pe_call (ok_turned T) (hr.mono (by decide)) (by rfl) T.g_turned T.F_turned.kp T.b_turned .nil pass0 (pa_cons (pe_lst (pa_cons pe_int (pa_cons pe_int (pa_cons pe_int pa_nil)))) (pa_cons (pv 1) pa_nil)))))
      (pss_cons (ps_if (pt_cmpR (op_neD hu) (pv 0) (pe_lst (pa_cons (pe_lst (pa_cons pe_int (pa_cons pe_int (pa_cons pe_int pa_nil)))) (pa_cons (pe_lst (pa_cons pe_int (pa_cons pe_int (pa_cons pe_int pa_nil)))) (pa_cons (pe_lst (pa_cons pe_int (pa_cons pe_int (pa_cons pe_int pa_nil)))) (pa_cons (pe_lst (pa_cons pe_int (pa_cons pe_int (pa_cons pe_int pa_nil)))) (pa_cons (pe_lst (pa_cons pe_int (pa_cons pe_int (pa_cons pe_int pa_nil)))) (pa_cons (pe_lst (pa_cons pe_int (pa_cons pe_int (pa_cons pe_int pa_nil)))) (pa_cons (pe_lst (pa_cons pe_int (pa_cons pe_int (pa_cons pe_int pa_nil)))) (pa_cons (pe_lst (pa_cons pe_int (pa_cons pe_int (pa_cons pe_int pa_nil)))) pa_nil))))))))) (nomark _)) (pss_one (ps_ret pe_bl)) pss_nil)
      (pss_cons (ps_if (PW.pt (pw_or (pt_cmpR (op_neL hu) (pe_call (ok_turned T) (hr.mono (by decide)) (by rfl) T.g_turned T.F_turned.kp T.b_turned .nil pass0 (pa_cons (pe_lst (pa_cons pe_int (pa_cons pe_int (pa_cons pe_int (pa_cons pe_int pa_nil))))) (pa_cons pe_int pa_nil))) (pe_lst (pa_cons pe_int (pa_cons pe_int (pa_cons pe_int (pa_cons pe_int pa_nil))))) (nomark _)) (pw_or (pt_cmpR (op_neL hu) (pe_call (ok_turned T) (hr.mono (by decide)) (by rfl) T.g_turned T.F_turned.kp T.b_turned .nil pass0 (pa_cons (pe_lst (pa_cons pe_int (pa_cons pe_int (pa_cons pe_int (pa_cons pe_int pa_nil))))) (pa_cons pe_int pa_nil))) (pe_lst (pa_cons pe_int (pa_cons pe_int (pa_cons pe_int (pa_cons pe_int pa_nil))))) (nomark _)) (pw_or1 (pt_cmpR (op_neL hu) (pe_call (ok_turned T) (hr.mono (by decide)) (by rfl) T.g_turned T.F_turned.kp T.b_turned .nil pass0 (pa_cons (pe_lst (pa_cons pe_int pa_nil)) (pa_cons pe_int pa_nil))) (pe_lst (pa_cons pe_int pa_nil)) (nomark _)))))) (pss_one (ps_ret pe_bl)) pss_nil)
      (pss_cons (ps_if (pt_not (pt_cmpR (op_eqL hu) (pe_call (ok_without_corner T) (hr.mono (by decide)) (by rfl) T.g_without_corner T.F_without_corner.kp T.b_without_corner .nil pass0 (pa_cons (pe_lst (pa_cons pe_int (pa_cons pe_int (pa_cons pe_int pa_nil)))) pa_nil)) (pe_lst (pa_cons pe_int (pa_cons pe_int pa_nil))) (nomark _))) (pss_one (ps_ret pe_bl)) pss_nil)
      (pss_cons (ps_if (pt_not (pt_cmpR (op_eqL hu) (pe_call (ok_without_corner T) (hr.mono (by decide)) (by rfl) T.g_without_corner T.F_without_corner.kp T.b_without_corner .nil pass0 (pa_cons (pe_lst (pa_cons pe_int (pa_cons pe_int pa_nil))) pa_nil)) (pe_lst (pa_cons pe_int pa_nil)) (nomark _))) (pss_one (ps_ret pe_bl)) pss_nil)
      (pss_cons (ps_if (pt_not (pt_val (pe_call (ok__law_has_no_corner T) (hr.mono (by decide)) (by rfl) T.g__law_has_no_corner T.F__law_has_no_corner.kp T.b__law_has_no_corner .nil pass0 (pa_cons (pe_lst (pa_cons pe_int (pa_cons pe_int pa_nil))) pa_nil)))) (pss_one (ps_ret pe_bl)) pss_nil)
      (pss_one (ps_ret (pe_call (ok__law_has_no_corner T) (hr.mono (by decide)) (by rfl) T.g__law_has_no_corner T.F__law_has_no_corner.kp T.b__law_has_no_corner .nil pass0 (pa_cons (pe_lst (pa_cons pe_int pa_nil)) pa_nil))))))))))))), ?_⟩
    have s0 := Same.refl H
    refine ⟨by show 4 ≤ sizeLine; decide, fun l1 v1 => ⟨l1, [0, 1, 3, 2], rfl, upd_same, perm_dots (n := 4) (by decide) (by decide) (by decide), fun H1 x1 y1 a1 t1 h1 => ?_, fun i j d H' x j1 j2 j3 e t h => absurd e (apt_by (ns := zof [0, 1, 3, 2]) (by decide +kernel) d i j j1 j2 j3)⟩⟩
    refine ⟨_, _, _, _, true, rfl, .own _, T.in_Apart.ty h1, T.ki_Apart_Apart, true, rfl, iteF ?_⟩
    have z2 := (s0.trans (same_upd (o := .lst [V.int 0, V.int 1, V.int 3, V.int 2]) v1)).trans t1
    refine ⟨by show 3 ≤ sizeLine; decide, fun l3 v3 => ⟨l3, [0, 1, 2], rfl, upd_same, perm_dots (n := 3) (by decide) (by decide) (by decide), fun H' x y a t h => absurd a (not_apt (ns := zof [0, 1, 2]) (i := 0) (j := 1) (d := 1) (by decide) (by decide) (by decide) (by decide)), fun i3 j3 d3 H3 x3 a3 b3 c3 e3 t3 h3 => ?_⟩⟩
    obtain ⟨y3, h3⟩ := h3
    refine ⟨_, _, _, _, true, rfl, .own _, T.in_Same.ty h3, T.ki_Same_Same, true, rfl, iteF ?_⟩
    have z4 := (z2.trans (same_upd (o := .lst [V.int 0, V.int 1, V.int 2]) v3)).trans t3
    refine ⟨by show 1 ≤ sizeLine; decide, fun l5 v5 => ⟨l5, [0], rfl, upd_same, perm_dots (n := 1) (by decide) (by decide) (by decide), fun H5 x5 y5 a5 t5 h5 => ?_, fun i j d H' x j1 j2 j3 e t h => absurd e (apt_by (ns := zof [0]) (by decide +kernel) d i j j1 j2 j3)⟩⟩
    refine ⟨_, _, _, _, true, rfl, .own _, T.in_Apart.ty h5, T.ki_Apart_Apart, true, rfl, iteF ?_⟩
    have z6 := (z4.trans (same_upd (o := .lst [V.int 0]) v5)).trans t5
    refine fun x7 y7 f7 g7 e7 => ⟨x7, y7, [], rfl, upd_same, rfl, by show 4 ≤ sizeLine; decide, fun l7 v7 => ⟨x7, l7, [0, 1, 3, 2], rfl, .of upd_same, by decide, fun b7 H7 h7 t7 => ?_⟩⟩
    obtain rfl : b7 = true := bt_of h7 (apt_by (by decide +kernel))
    refine ⟨_, rfl, iteF ?_⟩
    have z8 := ((z6.trans (same_made (o := .ins (fa 45) y7 []) f7 g7)).trans (same_upd (o := .lst [V.int 0, V.int 1, V.int 3, V.int 2]) v7)).trans t7
    refine fun x9 y9 f9 g9 e9 => ⟨x9, y9, [], rfl, upd_same, rfl, by show 3 ≤ sizeLine; decide, fun l9 v9 => ⟨x9, l9, [2, 1, 0], rfl, .of upd_same, by decide, fun b9 H9 h9 t9 => ?_⟩⟩
    obtain rfl : b9 = false := bf_of h9 (not_apt (i := 0) (j := 1) (d := 1) (by decide) (by decide) (by decide) (by decide))
    refine ⟨_, rfl, iteF ?_⟩
    have z10 := ((z8.trans (same_made (o := .ins (fa 45) y9 []) f9 g9)).trans (same_upd (o := .lst [V.int 2, V.int 1, V.int 0]) v9)).trans t9
    refine fun x11 y11 f11 g11 e11 => ⟨x11, y11, 0, 2, 2, rfl, upd_same, rfl, ?_⟩
    rw [upd_upd]
    refine ⟨x11, y11, _, rfl, upd_same, rfl, by show 4 ≤ sizeLine; decide, fun l11 v11 => ⟨x11, l11, [0, 1, 2, 3], 0, 2, 2, rfl, ⟨y11, same_upd v11 _ _ upd_same⟩, .of upd_same, by decide, fun b11 h11 => ?_⟩⟩
    obtain rfl : b11 = false := bf_of h11 (by unfold Sow; decide)
    refine ⟨_, rfl, iteF ?_⟩
    have z12 := (z10.trans (same_made (o := .ins (fa 46) y11 [("first", .int 0), ("second", .int 2), ("across", .int 2)]) f11 g11)).trans (same_upd (o := .lst [V.int 0, V.int 1, V.int 2, V.int 3]) v11)
    refine ⟨8, rfl, by decide, by decide, fun D nD => ?_⟩
    have fD := z12.free nD
    let ok8 : Nat → Hp → Prop := fun i H' => Same H H' ∧ ∃ xs : List V, H' D = some (.lst xs) ∧ xs.length = i ∧ ∀ k, k < i → ∃ r, xs[k]? = some (.ref r) ∧ r ≠ D ∧ H' r = some (.lst (nats (t2 3 k [1, 2, 0])))
    refine lc_it (walk_range (lo := 0) (n := 8)) ok8 ⟨z12.trans (same_upd nD), [], upd_same, rfl, fun k hk => absurd hk (Nat.not_lt_zero k)⟩ (fun _ _ _ _ => True.intro) (fun i x H8 H9 hi hP hY => ?_) (fun H8 hP => ?_)
    · obtain ⟨s8, xs, hD, hl, hx⟩ := hP
      obtain ⟨rfl, rfl⟩ := hY
      refine ⟨rfl, ?_⟩
      refine ⟨by show 3 ≤ sizeLine; decide, fun l1 w1 => ⟨_, rfl, l1, [1, 2, 0], i, by show [V.ref l1, V.int (0 + (i : Int))] = _; rw [Int.zero_add], upd_same, perm_dots (n := 3) (by decide) (by decide) (by decide), hi, fun H10 b10 s10 n10 h10 => ?_⟩⟩
      have s11 := (same_upd (o := .lst [V.int 1, V.int 2, V.int 0]) w1).trans s10
      have hD10 := s11 _ _ hD
      have ne10 : b10 ≠ D := fun z => by rw [z] at n10; exact absurd (((same_upd w1) _ _ hD).symm.trans n10) (by simp)
      refine ⟨xs, hD10, small1000 (by omega), same_acc (s8.trans s11) fD, xs ++ [.ref b10], upd_same, by rw [List.length_append, hl]; rfl, fun k hk => ?_⟩
      by_cases z : k = i
      · rw [z]
        exact ⟨b10, by rw [List.getElem?_append_right (by omega), hl, Nat.sub_self]; rfl, ne10, by rw [upd_ne ne10]; exact h10⟩
      · obtain ⟨r, r1, r2, r3⟩ := hx k (by omega)
        exact ⟨r, by rw [List.getElem?_append_left (by omega)]; exact r1, r2, by rw [upd_ne r2]; exact s11 _ _ r3⟩
    obtain ⟨s8, xs, hD, hl, hx⟩ := hP
    refine ⟨_, rfl, by show 3 ≤ sizeLine; decide, fun t13 w13 => ?_⟩
    have u13 := same_upd (o := .lst [V.int 1, V.int 2, V.int 0]) w13
    have v13 : upd H8 t13 (.lst [V.int 1, V.int 2, V.int 0]) t13 = some (.lst (nats [1, 2, 0])) := upd_same
    generalize upd H8 t13 (.lst [V.int 1, V.int 2, V.int 0]) = G13 at u13 v13 ⊢
    refine ⟨by show 3 ≤ sizeLine; decide, fun t14 w14 => ?_⟩
    have u14 := same_upd (o := .lst [V.int 0, V.int 2, V.int 1]) w14
    have v14 : upd G13 t14 (.lst [V.int 0, V.int 2, V.int 1]) t14 = some (.lst (nats [0, 2, 1])) := upd_same
    generalize upd G13 t14 (.lst [V.int 0, V.int 2, V.int 1]) = G14 at u14 v14 ⊢
    refine ⟨by show 3 ≤ sizeLine; decide, fun t15 w15 => ?_⟩
    have u15 := same_upd (o := .lst [V.int 1, V.int 0, V.int 2]) w15
    have v15 : upd G14 t15 (.lst [V.int 1, V.int 0, V.int 2]) t15 = some (.lst (nats [1, 0, 2])) := upd_same
    generalize upd G14 t15 (.lst [V.int 1, V.int 0, V.int 2]) = G15 at u15 v15 ⊢
    refine ⟨by show 3 ≤ sizeLine; decide, fun t16 w16 => ?_⟩
    have u16 := same_upd (o := .lst [V.int 2, V.int 0, V.int 1]) w16
    have v16 : upd G15 t16 (.lst [V.int 2, V.int 0, V.int 1]) t16 = some (.lst (nats [2, 0, 1])) := upd_same
    generalize upd G15 t16 (.lst [V.int 2, V.int 0, V.int 1]) = G16 at u16 v16 ⊢
    refine ⟨by show 3 ≤ sizeLine; decide, fun t17 w17 => ?_⟩
    have u17 := same_upd (o := .lst [V.int 2, V.int 0, V.int 1]) w17
    have v17 : upd G16 t17 (.lst [V.int 2, V.int 0, V.int 1]) t17 = some (.lst (nats [2, 0, 1])) := upd_same
    generalize upd G16 t17 (.lst [V.int 2, V.int 0, V.int 1]) = G17 at u17 v17 ⊢
    refine ⟨by show 3 ≤ sizeLine; decide, fun t18 w18 => ?_⟩
    have u18 := same_upd (o := .lst [V.int 1, V.int 0, V.int 2]) w18
    have v18 : upd G17 t18 (.lst [V.int 1, V.int 0, V.int 2]) t18 = some (.lst (nats [1, 0, 2])) := upd_same
    generalize upd G17 t18 (.lst [V.int 1, V.int 0, V.int 2]) = G18 at u18 v18 ⊢
    refine ⟨by show 3 ≤ sizeLine; decide, fun t19 w19 => ?_⟩
    have u19 := same_upd (o := .lst [V.int 0, V.int 2, V.int 1]) w19
    have v19 : upd G18 t19 (.lst [V.int 0, V.int 2, V.int 1]) t19 = some (.lst (nats [0, 2, 1])) := upd_same
    generalize upd G18 t19 (.lst [V.int 0, V.int 2, V.int 1]) = G19 at u19 v19 ⊢
    refine ⟨by show 3 ≤ sizeLine; decide, fun t20 w20 => ?_⟩
    have u20 := same_upd (o := .lst [V.int 1, V.int 2, V.int 0]) w20
    have v20 : upd G19 t20 (.lst [V.int 1, V.int 2, V.int 0]) t20 = some (.lst (nats [1, 2, 0])) := upd_same
    generalize upd G19 t20 (.lst [V.int 1, V.int 2, V.int 0]) = G20 at u20 v20 ⊢
    refine ⟨by show 8 ≤ sizeLine; decide, fun t21 w21 => ?_⟩
    have u21 := same_upd (o := .lst [V.ref t13, V.ref t14, V.ref t15, V.ref t16, V.ref t17, V.ref t18, V.ref t19, V.ref t20]) w21
    have v21 : upd G20 t21 (.lst [V.ref t13, V.ref t14, V.ref t15, V.ref t16, V.ref t17, V.ref t18, V.ref t19, V.ref t20]) t21 = some (.lst [V.ref t13, V.ref t14, V.ref t15, V.ref t16, V.ref t17, V.ref t18, V.ref t19, V.ref t20]) := upd_same
    generalize upd G20 t21 (.lst [V.ref t13, V.ref t14, V.ref t15, V.ref t16, V.ref t17, V.ref t18, V.ref t19, V.ref t20]) = G21 at u21 v21 ⊢
    have s9 := ((((((((((Same.refl H8).trans u13).trans u14).trans u15).trans u16).trans u17).trans u18).trans u19).trans u20).trans u21)
    have dA : Dp K G21 (.ref D) (.list ([[1, 2, 0], [0, 2, 1], [1, 0, 2], [2, 0, 1], [2, 0, 1], [1, 0, 2], [0, 2, 1], [1, 2, 0]].map fun os => PyData.list ((zof os).map PyData.int))) := .lst (.of (s9 _ _ hD)) (dp_lists (paired_of hl fun k os hk => by
      have hk8 : k < 8 := (List.getElem?_eq_some_iff.mp hk).1
      obtain ⟨r, r1, _, r3⟩ := hx k hk8
      refine ⟨r, r1, (s9 _ _ r3).trans ?_⟩
      rcases (show k = 0 ∨ k = 1 ∨ k = 2 ∨ k = 3 ∨ k = 4 ∨ k = 5 ∨ k = 6 ∨ k = 7 by omega) with rfl | rfl | rfl | rfl | rfl | rfl | rfl | rfl
      · rw [← Option.some.inj hk]; exact congrArg (fun z => some (HO.lst (nats z))) (by decide +kernel)
      · rw [← Option.some.inj hk]; exact congrArg (fun z => some (HO.lst (nats z))) (by decide +kernel)
      · rw [← Option.some.inj hk]; exact congrArg (fun z => some (HO.lst (nats z))) (by decide +kernel)
      · rw [← Option.some.inj hk]; exact congrArg (fun z => some (HO.lst (nats z))) (by decide +kernel)
      · rw [← Option.some.inj hk]; exact congrArg (fun z => some (HO.lst (nats z))) (by decide +kernel)
      · rw [← Option.some.inj hk]; exact congrArg (fun z => some (HO.lst (nats z))) (by decide +kernel)
      · rw [← Option.some.inj hk]; exact congrArg (fun z => some (HO.lst (nats z))) (by decide +kernel)
      · rw [← Option.some.inj hk]; exact congrArg (fun z => some (HO.lst (nats z))) (by decide +kernel)
      ))
    have dB : Dp K G21 (.ref t21) (.list ([[1, 2, 0], [0, 2, 1], [1, 0, 2], [2, 0, 1], [2, 0, 1], [1, 0, 2], [0, 2, 1], [1, 2, 0]].map fun os => PyData.list ((zof os).map PyData.int))) := .lst (.of v21) (dp_lists (.cons ⟨t13, rfl, u21 _ _ (u20 _ _ (u19 _ _ (u18 _ _ (u17 _ _ (u16 _ _ (u15 _ _ (u14 _ _ (v13))))))))⟩ (.cons ⟨t14, rfl, u21 _ _ (u20 _ _ (u19 _ _ (u18 _ _ (u17 _ _ (u16 _ _ (u15 _ _ (v14)))))))⟩ (.cons ⟨t15, rfl, u21 _ _ (u20 _ _ (u19 _ _ (u18 _ _ (u17 _ _ (u16 _ _ (v15))))))⟩ (.cons ⟨t16, rfl, u21 _ _ (u20 _ _ (u19 _ _ (u18 _ _ (u17 _ _ (v16)))))⟩ (.cons ⟨t17, rfl, u21 _ _ (u20 _ _ (u19 _ _ (u18 _ _ (v17))))⟩ (.cons ⟨t18, rfl, u21 _ _ (u20 _ _ (u19 _ _ (v18)))⟩ (.cons ⟨t19, rfl, u21 _ _ (u20 _ _ (v19))⟩ (.cons ⟨t20, rfl, u21 _ _ (v20)⟩ (.nil))))))))))
    refine ⟨_, _, dA, dB, by decide +kernel, by decide +kernel, _, rfl, ?_⟩
    rw [show PyData.eqv (.list ([[1, 2, 0], [0, 2, 1], [1, 0, 2], [2, 0, 1], [2, 0, 1], [1, 0, 2], [0, 2, 1], [1, 2, 0]].map fun os => PyData.list ((zof os).map PyData.int))) (.list ([[1, 2, 0], [0, 2, 1], [1, 0, 2], [2, 0, 1], [2, 0, 1], [1, 0, 2], [0, 2, 1], [1, 2, 0]].map fun os => PyData.list ((zof os).map PyData.int))) = true by decide +kernel]
    refine iteF ?_
    have z22 := s8.trans s9
    refine ⟨by show 4 ≤ sizeLine; decide, fun l23 v23 => ⟨l23, [0, 1, 3, 2], 1, rfl, upd_same, perm_dots (n := 4) (by decide) (by decide) (by decide), by decide, fun H23 d23 t23 m23 h23 => ⟨by show 4 ≤ sizeLine; decide, fun e23 w23 => ⟨d23, e23, zof (t2 4 1 [0, 1, 3, 2]), [2, 3, 1, 0], rfl, rfl, sqz (same_upd w23 _ _ h23), .of upd_same, _, rfl, ?_⟩⟩⟩⟩
    rw [decide_eq_true (show zof (t2 4 1 [0, 1, 3, 2]) = [2, 3, 1, 0] by decide +kernel)]
    refine iteF ?_
    have z24 := ((z22.trans (same_upd (o := .lst [V.int 0, V.int 1, V.int 3, V.int 2]) v23)).trans t23).trans (same_upd (o := .lst [V.int 2, V.int 3, V.int 1, V.int 0]) w23)
    refine ⟨by show 4 ≤ sizeLine; decide, fun l25 v25 => ⟨l25, [0, 1, 3, 2], 2, rfl, upd_same, perm_dots (n := 4) (by decide) (by decide) (by decide), by decide, fun H25 d25 t25 m25 h25 => ⟨by show 4 ≤ sizeLine; decide, fun e25 w25 => ⟨d25, e25, zof (t2 4 2 [0, 1, 3, 2]), [3, 2, 0, 1], rfl, rfl, sqz (same_upd w25 _ _ h25), .of upd_same, _, rfl, ?_⟩⟩⟩⟩
    rw [decide_eq_true (show zof (t2 4 2 [0, 1, 3, 2]) = [3, 2, 0, 1] by decide +kernel)]
    refine iteF ?_
    have z26 := ((z24.trans (same_upd (o := .lst [V.int 0, V.int 1, V.int 3, V.int 2]) v25)).trans t25).trans (same_upd (o := .lst [V.int 3, V.int 2, V.int 0, V.int 1]) w25)
    refine ⟨by show 1 ≤ sizeLine; decide, fun l27 v27 => ⟨l27, [0], 7, rfl, upd_same, perm_dots (n := 1) (by decide) (by decide) (by decide), by decide, fun H27 d27 t27 m27 h27 => ⟨by show 1 ≤ sizeLine; decide, fun e27 w27 => ⟨d27, e27, zof (t2 1 7 [0]), [0], rfl, rfl, sqz (same_upd w27 _ _ h27), .of upd_same, _, rfl, ?_⟩⟩⟩⟩
    rw [decide_eq_true (show zof (t2 1 7 [0]) = [0] by decide +kernel)]
    refine iteF ?_
    have z28 := ((z26.trans (same_upd (o := .lst [V.int 0]) v27)).trans t27).trans (same_upd (o := .lst [V.int 0]) w27)
    refine ⟨by show 3 ≤ sizeLine; decide, fun l29 v29 => ⟨l29, [2, 1], rfl, upd_same, perm_dots (n := 3) (by decide) (by decide) (by decide), by decide, fun H29 d29 t29 m29 h29 => ⟨by show 2 ≤ sizeLine; decide, fun e29 w29 => ⟨d29, e29, zof ([2, 1].map fun r => r - 1), [1, 0], rfl, rfl, sqz (same_upd w29 _ _ h29), .of upd_same, _, rfl, ?_⟩⟩⟩⟩
    rw [decide_eq_true (show zof (([2, 1] : List Nat).map fun r => r - 1) = [1, 0] by decide +kernel)]
    refine iteF ?_
    have z30 := ((z28.trans (same_upd (o := .lst [V.int 0, V.int 2, V.int 1]) v29)).trans t29).trans (same_upd (o := .lst [V.int 1, V.int 0]) w29)
    refine ⟨by show 2 ≤ sizeLine; decide, fun l31 v31 => ⟨l31, [1], rfl, upd_same, perm_dots (n := 2) (by decide) (by decide) (by decide), by decide, fun H31 d31 t31 m31 h31 => ⟨by show 1 ≤ sizeLine; decide, fun e31 w31 => ⟨d31, e31, zof ([1].map fun r => r - 1), [0], rfl, rfl, sqz (same_upd w31 _ _ h31), .of upd_same, _, rfl, ?_⟩⟩⟩⟩
    rw [decide_eq_true (show zof (([1] : List Nat).map fun r => r - 1) = [0] by decide +kernel)]
    refine iteF ?_
    have z32 := ((z30.trans (same_upd (o := .lst [V.int 0, V.int 1]) v31)).trans t31).trans (same_upd (o := .lst [V.int 0]) w31)
    refine ⟨by show 2 ≤ sizeLine; decide, fun l33 v33 => ⟨l33, 1, [0], rfl, upd_same, perm_dots (n := 2) (by decide) (by decide) (by decide), .inl (by decide), fun H33 t33 => ⟨_, rfl, iteF ?_⟩⟩⟩
    have z34 := (z32.trans (same_upd (o := .lst [V.int 1, V.int 0]) v33)).trans t33
    exact ⟨by show 1 ≤ sizeLine; decide, fun l35 v35 => ⟨l35, 0, [], rfl, upd_same, perm_dots (n := 1) (by decide) (by decide) (by decide), .inr rfl, fun H35 t35 => q _ ((z34.trans (same_upd v35)).trans t35)⟩⟩
end
end Lw
namespace Lw
open PySem PySem.Spec PyProof.Rows L2 AD
section
variable {P : Program} {w : World} {K : PySem.W.Frag} {mg : Str → Option Value} {base : Heap}
variable {fa : Nat → Addr} {fd : Nat → FuncData} {tk : Nat → Tok}
theorem ok__law_promises_right (T : Txt K mg fa fd tk) : FnOk P w K mg base CX0 6 (fa 31) (fd 31) [] spYes := by
  refine T.F__law_promises_right.ok sc__law_promises_right (fun vs H Q E h => ?_) (fun cdv A outer s H vs Q E hr h => ?_)
  · obtain ⟨rfl, _⟩ := h
    rfl
  · obtain ⟨rfl, q⟩ := h
    have hu := hr.units
    refine ⟨_, (pss_cons (ps_if (pt_cmpR (op_neD hu) (pe_lst (pa_cons (pe_call (ok_is_root T) (hr.mono (by decide)) (by rfl) T.g_is_root T.F_is_root.kp T.b_is_root .nil pass0 (pa_cons pe_int (pa_cons pe_int pa_nil))) (pa_cons (pe_call (ok_is_root T) (hr.mono (by decide)) (by rfl) T.g_is_root T.F_is_root.kp T.b_is_root .nil pass0 (pa_cons pe_int (pa_cons pe_int pa_nil))) (pa_cons (pe_call (ok_is_root T) (hr.mono (by decide)) (by rfl) T.g_is_root T.F_is_root.kp T.b_is_root .nil pass0 (pa_cons pe_int (pa_cons pe_int pa_nil))) (pa_cons (pe_call (ok_is_root T) (hr.mono (by decide)) (by rfl) T.g_is_root T.F_is_root.kp T.b_is_root .nil pass0 (pa_cons pe_int (pa_cons pe_int pa_nil))) pa_nil))))) (pe_lst (pa_cons pe_bl (pa_cons pe_bl (pa_cons pe_bl (pa_cons pe_bl pa_nil))))) (nomark _)) (pss_one (ps_ret pe_bl)) pss_nil)
      (pss_cons (ps_if (pt_cmpR (op_neL hu) (pe_lc (own := [("_law_prime", 7)]) (g := gName 7) (tt := tYes) (by rfl) sc__law_promises_right.nd (pi_tup (pe_tup (pa_cons pe_int (pa_cons pe_int (pa_cons pe_int pa_nil))))) (blkOk_by (own := [("_law_prime", 7)]) (N := ["_law_up", "_law_column", "_law_cases", "_law_first", "_law_second", "_law_across", "_law_due", "_law_prime", "_law_row"]) (sc := (defScope s__law_promises_right)) (by decide +kernel)) (fun _ _ _ _ _ => (pg_name (i := 7) sc__law_promises_right.nd rfl (Or.inl rfl))) (fun _ _ _ _ _ => pts_nil) (fun _ _ _ _ _ => (pe_call (ok_least_root T) (hr.mono (by decide)) (by rfl) T.g_least_root T.F_least_root.kp T.b_least_root .nil pass0 (pa_cons (pv 7) pa_nil)))) (pe_lst (pa_cons pe_int (pa_cons pe_int (pa_cons pe_int pa_nil)))) (nomark _)) (pss_one (ps_ret pe_bl)) pss_nil)
      (pss_cons (ps_if (PW.pt (pw_or (pt_cmpR (op_neL hu) (pe_call (ok_dots_of T) (hr.mono (by decide)) (by rfl) T.g_dots_of T.F_dots_of.kp T.b_dots_of .nil pass0 (pa_cons pe_int (pa_cons pe_int (pa_cons pe_int pa_nil)))) (pe_lst (pa_cons pe_int (pa_cons pe_int (pa_cons pe_int (pa_cons pe_int pa_nil))))) (nomark _)) (pw_or1 (pt_cmpR (op_neL hu) (pe_call (ok_dots_of T) (hr.mono (by decide)) (by rfl) T.g_dots_of T.F_dots_of.kp T.b_dots_of .nil pass0 (pa_cons pe_int (pa_cons pe_int (pa_cons (pe_un un_neg pe_int) pa_nil)))) (pe_lst (pa_cons pe_int (pa_cons pe_int (pa_cons pe_int (pa_cons pe_int pa_nil))))) (nomark _))))) (pss_one (ps_ret pe_bl)) pss_nil)
      (pss_cons (ps_if (PW.pt (pw_or (pt_cmpR (op_neL hu) (pe_call (ok_dots_of T) (hr.mono (by decide)) (by rfl) T.g_dots_of T.F_dots_of.kp T.b_dots_of .nil pass0 (pa_cons pe_int (pa_cons pe_int (pa_cons (pe_op op_pow pe_int pe_int) pa_nil)))) (pe_lst (pa_cons pe_int (pa_cons pe_int (pa_cons pe_int (pa_cons pe_int pa_nil))))) (nomark _)) (pw_or1 (pt_cmpR (op_neL hu) (pe_call (ok_dots_of T) (hr.mono (by decide)) (by rfl) T.g_dots_of T.F_dots_of.kp T.b_dots_of .nil pass0 (pa_cons pe_int (pa_cons pe_int (pa_cons pe_int pa_nil)))) (pe_lst (pa_cons pe_int (pa_cons pe_int pa_nil))) (nomark _))))) (pss_one (ps_ret pe_bl)) pss_nil)
      (pss_cons (ps_if (pt_cmpR (op_neL hu) (pe_lc (own := [("_law_column", 1)]) (g := gName 1) (tt := tYes) (by rfl) sc__law_promises_right.nd (pi_range1 (by rfl) T.m_range (pa_cons pe_int pa_nil)) (blkOk_by (own := [("_law_column", 1)]) (N := ["_law_up", "_law_column", "_law_cases", "_law_first", "_law_second", "_law_across", "_law_due", "_law_prime", "_law_row"]) (sc := (defScope s__law_promises_right)) (by decide +kernel)) (fun _ _ _ _ _ => (pg_name (i := 1) sc__law_promises_right.nd rfl (Or.inl rfl))) (fun _ _ _ _ _ => pts_nil) (fun _ _ _ _ _ => (pe_call (ok_row_of T) (hr.mono (by decide)) (by rfl) T.g_row_of T.F_row_of.kp T.b_row_of .nil pass0 (pa_cons pe_int (pa_cons pe_int (pa_cons (pe_un un_neg pe_int) (pa_cons (pv 1) pa_nil))))))) (pe_lst (pa_cons pe_int (pa_cons pe_int (pa_cons pe_int (pa_cons pe_int pa_nil))))) (nomark _)) (pss_one (ps_ret pe_bl)) pss_nil)
      (pss_cons (ps_if (pt_cmpR (op_neL hu) (pe_lc (own := [("_law_row", 8)]) (g := gName 8) (tt := tYes) (by rfl) sc__law_promises_right.nd (pi_range1 (by rfl) T.m_range (pa_cons pe_int pa_nil)) (blkOk_by (own := [("_law_row", 8)]) (N := ["_law_up", "_law_column", "_law_cases", "_law_first", "_law_second", "_law_across", "_law_due", "_law_prime", "_law_row"]) (sc := (defScope s__law_promises_right)) (by decide +kernel)) (fun _ _ _ _ _ => (pg_name (i := 8) sc__law_promises_right.nd rfl (Or.inl rfl))) (fun _ _ _ _ _ => pts_nil) (fun _ _ _ _ _ => (pe_call (ok_column_of T) (hr.mono (by decide)) (by rfl) T.g_column_of T.F_column_of.kp T.b_column_of .nil pass0 (pa_cons pe_int (pa_cons pe_int (pa_cons pe_int (pa_cons (pv 8) pa_nil))))))) (pe_lst (pa_cons pe_int (pa_cons pe_int (pa_cons pe_int (pa_cons pe_int pa_nil))))) (nomark _)) (pss_one (ps_ret pe_bl)) pss_nil)
      (pss_cons (ps_if (PW.pt (pw_or (pt_cmpR (op_neL hu) (pe_lc (own := [("_law_up", 0)]) (g := gName 0) (tt := tYes) (by rfl) sc__law_promises_right.nd (pi_tup (pe_tup (pa_cons pe_int (pa_cons pe_int pa_nil)))) (blkOk_by (own := [("_law_up", 0)]) (N := ["_law_up", "_law_column", "_law_cases", "_law_first", "_law_second", "_law_across", "_law_due", "_law_prime", "_law_row"]) (sc := (defScope s__law_promises_right)) (by decide +kernel)) (fun _ _ _ _ _ => (pg_name (i := 0) sc__law_promises_right.nd rfl (Or.inl rfl))) (fun _ _ _ _ _ => pts_nil) (fun _ _ _ _ _ => (pe_call (ok_arrow_of T) (hr.mono (by decide)) (by rfl) T.g_arrow_of T.F_arrow_of.kp T.b_arrow_of .nil pass0 (pa_cons pe_int (pa_cons pe_int (pa_cons pe_int (pa_cons pe_int (pa_cons (pv 0) pa_nil)))))))) (pe_lst (pa_cons pe_int (pa_cons pe_int pa_nil))) (nomark _)) (pw_or1 (pt_cmpR (op_neL hu) (pe_call (ok_crossed T) (hr.mono (by decide)) (by rfl) T.g_crossed T.F_crossed.kp T.b_crossed .nil pass0 (pa_cons pe_int (pa_cons pe_int (pa_cons pe_int pa_nil)))) (pe_lst (pa_cons pe_int (pa_cons pe_int (pa_cons pe_int pa_nil)))) (nomark _))))) (pss_one (ps_ret pe_bl)) pss_nil)
      (pss_cons (ps_if (pt_cmpR (op_neL hu) (pe_call (ok_crossed T) (hr.mono (by decide)) (by rfl) T.g_crossed T.F_crossed.kp T.b_crossed .nil pass0 (pa_cons pe_int (pa_cons pe_int (pa_cons pe_int pa_nil)))) (pe_lst (pa_cons pe_int pa_nil)) (nomark _)) (pss_one (ps_ret pe_bl)) pss_nil)
      (pss_cons (ps_for PassesOwn.never rfl (pi_range2 (by rfl) T.m_range (pa_cons pe_int (pa_cons pe_int pa_nil))) (pg_name (i := 0) sc__law_promises_right.nd rfl (.inl rfl)) (pss_cons (ps_set (i := 1) sc__law_promises_right.nd rfl (.inl rfl) (pe_call (ok_arrow_of T) (hr.mono (by decide)) (by rfl) T.g_arrow_of T.F_arrow_of.kp T.b_arrow_of .nil pass0 (pa_cons pe_int (pa_cons pe_int (pa_cons pe_int (pa_cons pe_int (pa_cons (pv 0) pa_nil)))))))
      (pss_one (ps_if (pt_cmpR op_ne (pe_op op_mod (pe_op op_sub (pe_op op_sub (pe_ix ix_list (pe_lst (pa_cons pe_int (pa_cons pe_int (pa_cons pe_int (pa_cons pe_int pa_nil))))) (pe_op op_mod (pe_op op_add (pv 1) pe_int) pe_int) (fun _ _ => rfl)) (pe_ix ix_list (pe_lst (pa_cons pe_int (pa_cons pe_int (pa_cons pe_int (pa_cons pe_int pa_nil))))) (pv 1) (fun _ _ => rfl))) (pv 0)) pe_int) pe_int (nomark _)) (pss_one (ps_ret pe_bl)) pss_nil))))
      (pss_cons (ps_set (i := 2) sc__law_promises_right.nd rfl (.inl rfl) (pe_lst (pa_cons (pe_tup (pa_cons pe_int (pa_cons pe_int (pa_cons pe_int (pa_cons pe_bl pa_nil))))) (pa_cons (pe_tup (pa_cons pe_int (pa_cons pe_int (pa_cons pe_int (pa_cons pe_bl pa_nil))))) (pa_cons (pe_tup (pa_cons pe_int (pa_cons pe_int (pa_cons pe_int (pa_cons pe_bl pa_nil))))) (pa_cons (pe_tup (pa_cons pe_int (pa_cons pe_int (pa_cons pe_int (pa_cons pe_bl pa_nil))))) (pa_cons (pe_tup (pa_cons pe_int (pa_cons pe_int (pa_cons pe_int (pa_cons pe_bl pa_nil))))) pa_nil)))))))
      (pss_cons (ps_set (i := 2) sc__law_promises_right.nd rfl (.inl rfl) (pe_op op_cat (pv 2) (pe_lst (pa_cons (pe_tup (pa_cons pe_int (pa_cons pe_int (pa_cons (pe_un un_neg pe_int) (pa_cons pe_bl pa_nil))))) (pa_cons (pe_tup (pa_cons pe_int (pa_cons pe_int (pa_cons pe_int (pa_cons pe_bl pa_nil))))) (pa_cons (pe_tup (pa_cons (pe_un un_neg pe_int) (pa_cons pe_int (pa_cons pe_int (pa_cons pe_bl pa_nil))))) pa_nil))))))
      (pss_cons (ps_for PassesOwn.never rfl (pi_list (pv 2)) (pg_tup rfl (pgs_cons (pg_name (i := 3) sc__law_promises_right.nd rfl (.inl rfl)) (pgs_cons (pg_name (i := 4) sc__law_promises_right.nd rfl (.inl rfl)) (pgs_cons (pg_name (i := 5) sc__law_promises_right.nd rfl (.inl rfl)) (pgs_cons (pg_name (i := 6) sc__law_promises_right.nd rfl (.inl rfl)) pgs_nil))))) (pss_one (ps_if (pt_cmpR op_ne (pe_meth (pe_make T.mk_Same (ok_Same_init T) (hr.mono (by decide)) (by rfl) T.g_Same T.b_Same_init .nil pass0 (pa_cons (pv 3) (pa_cons (pv 4) (pa_cons (pv 5) pa_nil)))) T.in_Same.cl T.me_Same_shows (ok_Same_shows T) (hr.mono (by decide)) T.b_Same_shows .nil pass0 (pa_cons (pe_lst (pa_cons pe_int (pa_cons pe_int (pa_cons pe_int pa_nil)))) pa_nil)) (pv 6) (nomark _)) (pss_one (ps_ret pe_bl)) pss_nil)))
      (pss_one (ps_ret (pe_call0 (ok__law_more_promises T) (hr.mono (by decide)) (by rfl) T.g__law_more_promises T.F__law_more_promises.kp T.b__law_more_promises .nil pass0))))))))))))))), ?_⟩
    have s0 := Same.refl H
    refine ⟨3, 1, rfl, root32.good, by decide, by decide, 3, 2, rfl, root32.good, by decide, by decide, 5, 2, rfl, root52.good, by decide, by decide, 5, 4, rfl, root52.good, by decide, by decide, by show 4 ≤ sizeLine; decide, fun l1 w1 => ⟨by show 4 ≤ sizeLine; decide, fun l2 w2 => ⟨_, _, dpB (bs := [rootB 3 1, rootB 3 2, rootB 5 2, rootB 5 4]) (same_upd w2 _ _ upd_same), dpB (bs := [false, true, true, false]) upd_same, shapedB _, shapedB _, _, rfl, ?_⟩⟩⟩
    rw [PyData.eqv, eqv_bools, decide_eq_true (show [rootB 3 1, rootB 3 2, rootB 5 2, rootB 5 4] = [false, true, true, false] by decide +kernel)]
    refine iteF ?_
    have z2 := (s0.trans (same_upd (o := .lst ([rootB 3 1, rootB 3 2, rootB 5 2, rootB 5 4].map V.bl)) w1)).trans (same_upd (o := .lst ([false, true, true, false].map V.bl)) w2)
    refine ⟨by show 3 ≤ sizeLine; decide, fun t3 w3 => ⟨t3, rfl, ⟨_, .of upd_same⟩, fun D3 nD3 => ?_⟩⟩
    have z4 := z2.trans (same_upd (o := .tup [V.int 3, V.int 5, V.int 7]) w3)
    have eD3 : t3 ≠ D3 := ne_of_none upd_same nD3
    have fD3 := z4.free nD3
    refine lc_it (walk_tup (xs := [V.int 3, V.int 5, V.int 7])) (fun i H' => Same H H' ∧ H' t3 = some (.tup [V.int 3, V.int 5, V.int 7]) ∧ H' D3 = some (.lst (([2, 2, 3].take i).map V.int))) ⟨z4.trans (same_upd nD3), same_upd nD3 _ _ upd_same, upd_same⟩ (fun i H' _ hP => .of hP.2.1) (fun i x H8 H9 hi hP hY => ?_) (fun H8 hP => ?_)
    · obtain ⟨s8, ht, hD⟩ := hP
      obtain ⟨rfl, hx⟩ := hY
      refine ⟨rfl, ?_⟩
      have hi2 : i < 3 := hi
      rcases (show i = 0 ∨ i = 1 ∨ i = 2 by omega) with rfl | rfl | rfl
      · obtain rfl : x = V.int 3 := (Option.some.inj hx).symm
        refine ⟨_, rfl, 3, 2, rfl, lq32.root.good, by decide, by decide, lq32.rb, lq32.no, _, hD, small1000 (by decide), same_acc s8 fD3, (upd_ne eD3).trans ht, upd_same⟩
      · obtain rfl : x = V.int 5 := (Option.some.inj hx).symm
        refine ⟨_, rfl, 5, 2, rfl, lq52.root.good, by decide, by decide, lq52.rb, lq52.no, _, hD, small1000 (by decide), same_acc s8 fD3, (upd_ne eD3).trans ht, upd_same⟩
      · obtain rfl : x = V.int 7 := (Option.some.inj hx).symm
        refine ⟨_, rfl, 7, 3, rfl, lq73.root.good, by decide, by decide, lq73.rb, lq73.no, _, hD, small1000 (by decide), same_acc s8 fD3, (upd_ne eD3).trans ht, upd_same⟩
    obtain ⟨q3, _, hD3⟩ := hP
    refine ⟨by show 3 ≤ sizeLine; decide, fun e3 v3 => ⟨D3, e3, [2, 2, 3], [2, 2, 3], rfl, rfl, .of (same_upd v3 _ _ hD3), .of upd_same, _, rfl, ?_⟩⟩
    rw [decide_eq_true rfl]
    refine iteF ?_
    have z5 := q3.trans (same_upd (o := .lst [V.int 2, V.int 2, V.int 3]) v3)
    refine ⟨5, 2, 0, rfl, root52, by decide +kernel, by decide, fun H6 d6 t6 m6 h6 => ⟨by show 4 ≤ sizeLine; decide, fun e6 w6 => ⟨d6, e6, rowsI 5 2 0, [0, 1, 3, 2], rfl, rfl, .of (same_upd w6 _ _ h6), .of upd_same, _, rfl, ?_⟩⟩⟩
    rw [decide_eq_true (show rowsI 5 2 0 = [0, 1, 3, 2] by decide +kernel)]
    refine iteF ?_
    have z7 := (z5.trans t6).trans (same_upd (o := .lst [V.int 0, V.int 1, V.int 3, V.int 2]) w6)
    refine ⟨_, rfl, 5, 2, (-1), rfl, root52, by decide +kernel, by decide, fun H8 d8 t8 m8 h8 => ⟨by show 4 ≤ sizeLine; decide, fun e8 w8 => ⟨d8, e8, rowsI 5 2 (-1), [2, 0, 1, 3], rfl, rfl, .of (same_upd w8 _ _ h8), .of upd_same, _, rfl, ?_⟩⟩⟩
    rw [decide_eq_true (show rowsI 5 2 (-1) = [2, 0, 1, 3] by decide +kernel)]
    refine iteF ?_
    have z9 := (z7.trans t8).trans (same_upd (o := .lst [V.int 2, V.int 0, V.int 1, V.int 3]) w8)
    refine ⟨_, _, rfl, rfl, ⟨by decide, by decide, by decide⟩, 5, 2, (10 ^ Int.toNat 30), rfl, root52, by decide +kernel, by decide, fun H10 d10 t10 m10 h10 => ⟨by show 4 ≤ sizeLine; decide, fun e10 w10 => ⟨d10, e10, rowsI 5 2 (10 ^ Int.toNat 30), [0, 1, 3, 2], rfl, rfl, .of (same_upd w10 _ _ h10), .of upd_same, _, rfl, ?_⟩⟩⟩
    rw [decide_eq_true (show rowsI 5 2 (10 ^ Int.toNat 30) = [0, 1, 3, 2] by decide +kernel)]
    refine iteF ?_
    have z11 := (z9.trans t10).trans (same_upd (o := .lst [V.int 0, V.int 1, V.int 3, V.int 2]) w10)
    refine ⟨3, 2, 0, rfl, root32, by decide +kernel, by decide, fun H12 d12 t12 m12 h12 => ⟨by show 2 ≤ sizeLine; decide, fun e12 w12 => ⟨d12, e12, rowsI 3 2 0, [0, 1], rfl, rfl, .of (same_upd w12 _ _ h12), .of upd_same, _, rfl, ?_⟩⟩⟩
    rw [decide_eq_true (show rowsI 3 2 0 = [0, 1] by decide +kernel)]
    refine iteF ?_
    have z13 := (z11.trans t12).trans (same_upd (o := .lst [V.int 0, V.int 1]) w12)
    refine ⟨4, rfl, by decide, by decide, fun D14 nD14 => ?_⟩
    have fD14 := z13.free nD14
    refine lc_it (walk_range (lo := 0) (n := 4)) (fun i H' => Same H H' ∧ H' D14 = some (.lst (([2, 0, 1, 3].take i).map V.int))) ⟨z13.trans (same_upd nD14), upd_same⟩ (fun _ _ _ _ => True.intro) (fun i x H8 H9 hi hP hY => ?_) (fun H8 hP => ?_)
    · obtain ⟨s8, hD⟩ := hP
      obtain ⟨rfl, hx⟩ := hY
      refine ⟨rfl, ?_⟩
      have hi2 : i < 4 := hi
      rcases (show i = 0 ∨ i = 1 ∨ i = 2 ∨ i = 3 by omega) with rfl | rfl | rfl | rfl
      · subst hx
        refine ⟨_, rfl, _, rfl, 5, 2, 0, (-1), rfl, root52, by decide +kernel, by decide, _, hD, small1000 (by decide), same_acc s8 fD14, ?_⟩
        rw [upd_same]
        show some (HO.lst ([] ++ [V.int (((rowA 5 2 (-1) 0 : Nat) : Int) - 1)])) = _
        rw [show ((rowA 5 2 (-1) 0 : Nat) : Int) - 1 = 2 by decide +kernel]
        rfl
      · subst hx
        refine ⟨_, rfl, _, rfl, 5, 2, 1, (-1), rfl, root52, by decide +kernel, by decide, _, hD, small1000 (by decide), same_acc s8 fD14, ?_⟩
        rw [upd_same]
        show some (HO.lst ([V.int 2] ++ [V.int (((rowA 5 2 (-1) 1 : Nat) : Int) - 1)])) = _
        rw [show ((rowA 5 2 (-1) 1 : Nat) : Int) - 1 = 0 by decide +kernel]
        rfl
      · subst hx
        refine ⟨_, rfl, _, rfl, 5, 2, 2, (-1), rfl, root52, by decide +kernel, by decide, _, hD, small1000 (by decide), same_acc s8 fD14, ?_⟩
        rw [upd_same]
        show some (HO.lst ([V.int 2, V.int 0] ++ [V.int (((rowA 5 2 (-1) 2 : Nat) : Int) - 1)])) = _
        rw [show ((rowA 5 2 (-1) 2 : Nat) : Int) - 1 = 1 by decide +kernel]
        rfl
      · subst hx
        refine ⟨_, rfl, _, rfl, 5, 2, 3, (-1), rfl, root52, by decide +kernel, by decide, _, hD, small1000 (by decide), same_acc s8 fD14, ?_⟩
        rw [upd_same]
        show some (HO.lst ([V.int 2, V.int 0, V.int 1] ++ [V.int (((rowA 5 2 (-1) 3 : Nat) : Int) - 1)])) = _
        rw [show ((rowA 5 2 (-1) 3 : Nat) : Int) - 1 = 3 by decide +kernel]
        rfl
    obtain ⟨q14, hD14⟩ := hP
    refine ⟨by show 4 ≤ sizeLine; decide, fun e14 v14 => ⟨D14, e14, [2, 0, 1, 3], [2, 0, 1, 3], rfl, rfl, .of (same_upd v14 _ _ hD14), .of upd_same, _, rfl, ?_⟩⟩
    rw [decide_eq_true rfl]
    refine iteF ?_
    have z15 := q14.trans (same_upd (o := .lst [V.int 2, V.int 0, V.int 1, V.int 3]) v14)
    refine ⟨4, rfl, by decide, by decide, fun D16 nD16 => ?_⟩
    have fD16 := z15.free nD16
    refine lc_it (walk_range (lo := 0) (n := 4)) (fun i H' => Same H H' ∧ H' D16 = some (.lst (([0, 1, 3, 2].take i).map V.int))) ⟨z15.trans (same_upd nD16), upd_same⟩ (fun _ _ _ _ => True.intro) (fun i x H8 H9 hi hP hY => ?_) (fun H8 hP => ?_)
    · obtain ⟨s8, hD⟩ := hP
      obtain ⟨rfl, hx⟩ := hY
      refine ⟨rfl, ?_⟩
      have hi2 : i < 4 := hi
      rcases (show i = 0 ∨ i = 1 ∨ i = 2 ∨ i = 3 by omega) with rfl | rfl | rfl | rfl
      · subst hx
        refine ⟨_, rfl, 5, 2, 0, 0, rfl, root52, by decide +kernel, by decide, by decide, fun c hc ec => ?_⟩
        obtain rfl : c = 0 := root52.row_inj (b := 0) hc (by decide) (by have h0 : rowA 5 2 0 0 = 1 := (by decide +kernel); omega)
        exact ⟨_, hD, small1000 (by decide), same_acc s8 fD16, upd_same⟩
      · subst hx
        refine ⟨_, rfl, 5, 2, 0, 1, rfl, root52, by decide +kernel, by decide, by decide, fun c hc ec => ?_⟩
        obtain rfl : c = 1 := root52.row_inj (b := 0) hc (by decide) (by have h0 : rowA 5 2 0 1 = 2 := (by decide +kernel); omega)
        exact ⟨_, hD, small1000 (by decide), same_acc s8 fD16, upd_same⟩
      · subst hx
        refine ⟨_, rfl, 5, 2, 0, 2, rfl, root52, by decide +kernel, by decide, by decide, fun c hc ec => ?_⟩
        obtain rfl : c = 3 := root52.row_inj (b := 0) hc (by decide) (by have h0 : rowA 5 2 0 3 = 3 := (by decide +kernel); omega)
        exact ⟨_, hD, small1000 (by decide), same_acc s8 fD16, upd_same⟩
      · subst hx
        refine ⟨_, rfl, 5, 2, 0, 3, rfl, root52, by decide +kernel, by decide, by decide, fun c hc ec => ?_⟩
        obtain rfl : c = 2 := root52.row_inj (b := 0) hc (by decide) (by have h0 : rowA 5 2 0 2 = 4 := (by decide +kernel); omega)
        exact ⟨_, hD, small1000 (by decide), same_acc s8 fD16, upd_same⟩
    obtain ⟨q16, hD16⟩ := hP
    refine ⟨by show 4 ≤ sizeLine; decide, fun e16 v16 => ⟨D16, e16, [0, 1, 3, 2], [0, 1, 3, 2], rfl, rfl, .of (same_upd v16 _ _ hD16), .of upd_same, _, rfl, ?_⟩⟩
    rw [decide_eq_true rfl]
    refine iteF ?_
    have z17 := q16.trans (same_upd (o := .lst [V.int 0, V.int 1, V.int 3, V.int 2]) v16)
    refine ⟨by show 2 ≤ sizeLine; decide, fun t18 w18 => ⟨t18, rfl, ⟨_, .of upd_same⟩, fun D18 nD18 => ?_⟩⟩
    have z19 := z17.trans (same_upd (o := .tup [V.int 1, V.int 2]) w18)
    have eD18 : t18 ≠ D18 := ne_of_none upd_same nD18
    have fD18 := z19.free nD18
    refine lc_it (walk_tup (xs := [V.int 1, V.int 2])) (fun i H' => Same H H' ∧ H' t18 = some (.tup [V.int 1, V.int 2]) ∧ H' D18 = some (.lst (([0, 1].take i).map V.int))) ⟨z19.trans (same_upd nD18), same_upd nD18 _ _ upd_same, upd_same⟩ (fun i H' _ hP => .of hP.2.1) (fun i x H8 H9 hi hP hY => ?_) (fun H8 hP => ?_)
    · obtain ⟨s8, ht, hD⟩ := hP
      obtain ⟨rfl, hx⟩ := hY
      refine ⟨rfl, ?_⟩
      have hi2 : i < 2 := hi
      rcases (show i = 0 ∨ i = 1 by omega) with rfl | rfl
      · obtain rfl : x = V.int 1 := (Option.some.inj hx).symm
        refine ⟨_, rfl, 3, 2, 1, 1, 0, rfl, root32, by decide +kernel, by decide, by decide, by decide, by decide, fun c hc ec => ?_⟩
        obtain rfl : c = 0 := root32.row_inj (b := 0) hc (by decide) (ec.trans (by decide +kernel))
        exact ⟨_, hD, small1000 (by decide), same_acc s8 fD18, (upd_ne eD18).trans ht, upd_same⟩
      · obtain rfl : x = V.int 2 := (Option.some.inj hx).symm
        refine ⟨_, rfl, 3, 2, 1, 2, 0, rfl, root32, by decide +kernel, by decide, by decide, by decide, by decide, fun c hc ec => ?_⟩
        obtain rfl : c = 1 := root32.row_inj (b := 0) hc (by decide) (ec.trans (by decide +kernel))
        exact ⟨_, hD, small1000 (by decide), same_acc s8 fD18, (upd_ne eD18).trans ht, upd_same⟩
    obtain ⟨q18, _, hD18⟩ := hP
    refine ⟨by show 2 ≤ sizeLine; decide, fun e18 v18 => ⟨D18, e18, [0, 1], [0, 1], rfl, rfl, .of (same_upd v18 _ _ hD18), .of upd_same, _, rfl, ?_⟩⟩
    rw [decide_eq_true rfl]
    refine iteF ?_
    have z20 := q18.trans (same_upd (o := .lst [V.int 0, V.int 1]) v18)
    refine ⟨5, 2, 2, rfl, root52, root52, by decide +kernel, by decide +kernel, by decide, fun H21 d21 l21 c21 t21 m21 h21 => ⟨by show 3 ≤ sizeLine; decide, fun e21 w21 => ⟨d21, e21, zof l21, [1, 0, 2], rfl, rfl, sqz (same_upd w21 _ _ h21), .of upd_same, _, rfl, ?_⟩⟩⟩
    rw [decide_eq_true (show zof l21 = [1, 0, 2] by rw [Cross.unique root52 c21 (m := [1, 0, 2]) ⟨by decide, cross_by (by decide +kernel)⟩]; rfl)]
    refine iteF ?_
    have z22 := (z20.trans t21).trans (same_upd (o := .lst [V.int 1, V.int 0, V.int 2]) w21)
    refine ⟨3, 2, 2, rfl, root32, root32, by decide +kernel, by decide +kernel, by decide, fun H23 d23 l23 c23 t23 m23 h23 => ⟨by show 1 ≤ sizeLine; decide, fun e23 w23 => ⟨d23, e23, zof l23, [0], rfl, rfl, sqz (same_upd w23 _ _ h23), .of upd_same, _, rfl, ?_⟩⟩⟩
    rw [decide_eq_true (show zof l23 = [0] by rw [Cross.unique root32 c23 (m := [0]) ⟨by decide, cross_by (by decide +kernel)⟩]; rfl)]
    refine iteF ?_
    have z24 := (z22.trans t23).trans (same_upd (o := .lst [V.int 0]) w23)
    refine ⟨1, 5, rfl, ⟨by decide, by decide, by decide, by decide⟩, ?_⟩
    refine for_it (walk_range (lo := 1) (n := 4)) (fun i σ H' => Same H H' ∧ ∃ y0 y1, σ = [y0, y1, none, none, none, none, none, none, none]) ⟨z24, none, none, rfl⟩ (fun _ _ _ _ _ => True.intro) (fun i x σ H2 H3 hi hP hY => ?_) (fun σ H2 hP => ?_)
    · obtain ⟨s2, y0, y1, rfl⟩ := hP
      obtain ⟨rfl, rfl⟩ := hY
      rcases (show i = 0 ∨ i = 1 ∨ i = 2 ∨ i = 3 by omega) with rfl | rfl | rfl | rfl
      · refine ⟨_, rfl, 5, 2, 3, 1, 0, rfl, root52, by decide +kernel, by decide, by decide, by decide, by decide, fun c hc ec => ?_⟩
        obtain rfl : c = 3 := root52.row_inj (b := 0) hc (by decide) (ec.trans (by decide +kernel))
        refine ⟨by show 4 ≤ sizeLine; decide, fun l1 w1 => ⟨_, rfl, _, _, rfl, rfl, _, _, rfl, rfl, (show (0 : Int) < 4 by decide), l1, _, _, _, rfl, rfl, .of upd_same, atI_nat (j := 2) rfl, by show 4 ≤ sizeLine; decide, fun l2 w2 => ⟨_, rfl, l2, _, _, _, rfl, rfl, .of upd_same, atI_nat (j := 3) rfl, _, _, rfl, rfl, _, rfl, _, _, rfl, rfl, _, _, rfl, rfl, (show (0 : Int) < 5 by decide), rfl, _, rfl, iteN rfl ?_⟩⟩⟩
        exact ⟨(s2.trans (same_upd w1)).trans (same_upd w2), _, _, rfl⟩
      · refine ⟨_, rfl, 5, 2, 3, 2, 0, rfl, root52, by decide +kernel, by decide, by decide, by decide, by decide, fun c hc ec => ?_⟩
        obtain rfl : c = 0 := root52.row_inj (b := 0) hc (by decide) (ec.trans (by decide +kernel))
        refine ⟨by show 4 ≤ sizeLine; decide, fun l1 w1 => ⟨_, rfl, _, _, rfl, rfl, _, _, rfl, rfl, (show (0 : Int) < 4 by decide), l1, _, _, _, rfl, rfl, .of upd_same, atI_nat (j := 3) rfl, by show 4 ≤ sizeLine; decide, fun l2 w2 => ⟨_, rfl, l2, _, _, _, rfl, rfl, .of upd_same, atI_nat (j := 0) rfl, _, _, rfl, rfl, _, rfl, _, _, rfl, rfl, _, _, rfl, rfl, (show (0 : Int) < 5 by decide), rfl, _, rfl, iteN rfl ?_⟩⟩⟩
        exact ⟨(s2.trans (same_upd w1)).trans (same_upd w2), _, _, rfl⟩
      · refine ⟨_, rfl, 5, 2, 3, 3, 0, rfl, root52, by decide +kernel, by decide, by decide, by decide, by decide, fun c hc ec => ?_⟩
        obtain rfl : c = 2 := root52.row_inj (b := 0) hc (by decide) (ec.trans (by decide +kernel))
        refine ⟨by show 4 ≤ sizeLine; decide, fun l1 w1 => ⟨_, rfl, _, _, rfl, rfl, _, _, rfl, rfl, (show (0 : Int) < 4 by decide), l1, _, _, _, rfl, rfl, .of upd_same, atI_nat (j := 1) rfl, by show 4 ≤ sizeLine; decide, fun l2 w2 => ⟨_, rfl, l2, _, _, _, rfl, rfl, .of upd_same, atI_nat (j := 2) rfl, _, _, rfl, rfl, _, rfl, _, _, rfl, rfl, _, _, rfl, rfl, (show (0 : Int) < 5 by decide), rfl, _, rfl, iteN rfl ?_⟩⟩⟩
        exact ⟨(s2.trans (same_upd w1)).trans (same_upd w2), _, _, rfl⟩
      · refine ⟨_, rfl, 5, 2, 3, 4, 0, rfl, root52, by decide +kernel, by decide, by decide, by decide, by decide, fun c hc ec => ?_⟩
        obtain rfl : c = 1 := root52.row_inj (b := 0) hc (by decide) (ec.trans (by decide +kernel))
        refine ⟨by show 4 ≤ sizeLine; decide, fun l1 w1 => ⟨_, rfl, _, _, rfl, rfl, _, _, rfl, rfl, (show (0 : Int) < 4 by decide), l1, _, _, _, rfl, rfl, .of upd_same, atI_nat (j := 0) rfl, by show 4 ≤ sizeLine; decide, fun l2 w2 => ⟨_, rfl, l2, _, _, _, rfl, rfl, .of upd_same, atI_nat (j := 1) rfl, _, _, rfl, rfl, _, rfl, _, _, rfl, rfl, _, _, rfl, rfl, (show (0 : Int) < 5 by decide), rfl, _, rfl, iteN rfl ?_⟩⟩⟩
        exact ⟨(s2.trans (same_upd w1)).trans (same_upd w2), _, _, rfl⟩
    obtain ⟨s2, y0, y1, rfl⟩ := hP
    refine ⟨by show 4 ≤ sizeLine; decide, fun t25 w25 => ?_⟩
    have u25 := same_upd (o := .tup [V.int 0, V.int 1, V.int 1, V.bl true]) w25
    have v25 : upd H2 t25 (.tup [V.int 0, V.int 1, V.int 1, V.bl true]) t25 = some (.tup [V.int 0, V.int 1, V.int 1, V.bl true]) := upd_same
    generalize upd H2 t25 (.tup [V.int 0, V.int 1, V.int 1, V.bl true]) = G25 at u25 v25 ⊢
    refine ⟨by show 4 ≤ sizeLine; decide, fun t26 w26 => ?_⟩
    have u26 := same_upd (o := .tup [V.int 0, V.int 1, V.int 2, V.bl false]) w26
    have v26 : upd G25 t26 (.tup [V.int 0, V.int 1, V.int 2, V.bl false]) t26 = some (.tup [V.int 0, V.int 1, V.int 2, V.bl false]) := upd_same
    generalize upd G25 t26 (.tup [V.int 0, V.int 1, V.int 2, V.bl false]) = G26 at u26 v26 ⊢
    refine ⟨by show 4 ≤ sizeLine; decide, fun t27 w27 => ?_⟩
    have u27 := same_upd (o := .tup [V.int 0, V.int 0, V.int 1, V.bl false]) w27
    have v27 : upd G26 t27 (.tup [V.int 0, V.int 0, V.int 1, V.bl false]) t27 = some (.tup [V.int 0, V.int 0, V.int 1, V.bl false]) := upd_same
    generalize upd G26 t27 (.tup [V.int 0, V.int 0, V.int 1, V.bl false]) = G27 at u27 v27 ⊢
    refine ⟨by show 4 ≤ sizeLine; decide, fun t28 w28 => ?_⟩
    have u28 := same_upd (o := .tup [V.int 1, V.int 0, V.int 1, V.bl false]) w28
    have v28 : upd G27 t28 (.tup [V.int 1, V.int 0, V.int 1, V.bl false]) t28 = some (.tup [V.int 1, V.int 0, V.int 1, V.bl false]) := upd_same
    generalize upd G27 t28 (.tup [V.int 1, V.int 0, V.int 1, V.bl false]) = G28 at u28 v28 ⊢
    refine ⟨by show 4 ≤ sizeLine; decide, fun t29 w29 => ?_⟩
    have u29 := same_upd (o := .tup [V.int 0, V.int 1, V.int 0, V.bl false]) w29
    have v29 : upd G28 t29 (.tup [V.int 0, V.int 1, V.int 0, V.bl false]) t29 = some (.tup [V.int 0, V.int 1, V.int 0, V.bl false]) := upd_same
    generalize upd G28 t29 (.tup [V.int 0, V.int 1, V.int 0, V.bl false]) = G29 at u29 v29 ⊢
    refine ⟨by show 5 ≤ sizeLine; decide, fun t30 w30 => ?_⟩
    have u30 := same_upd (o := .lst [V.ref t25, V.ref t26, V.ref t27, V.ref t28, V.ref t29]) w30
    have v30 : upd G29 t30 (.lst [V.ref t25, V.ref t26, V.ref t27, V.ref t28, V.ref t29]) t30 = some (.lst [V.ref t25, V.ref t26, V.ref t27, V.ref t28, V.ref t29]) := upd_same
    generalize upd G29 t30 (.lst [V.ref t25, V.ref t26, V.ref t27, V.ref t28, V.ref t29]) = G30 at u30 v30 ⊢
    refine ⟨_, rfl, _, rfl, by show 4 ≤ sizeLine; decide, fun t31 w31 => ?_⟩
    have u31 := same_upd (o := .tup [V.int 0, V.int 1, V.int (-1), V.bl false]) w31
    have v31 : upd G30 t31 (.tup [V.int 0, V.int 1, V.int (-1), V.bl false]) t31 = some (.tup [V.int 0, V.int 1, V.int (-1), V.bl false]) := upd_same
    generalize upd G30 t31 (.tup [V.int 0, V.int 1, V.int (-1), V.bl false]) = G31 at u31 v31 ⊢
    refine ⟨by show 4 ≤ sizeLine; decide, fun t32 w32 => ?_⟩
    have u32 := same_upd (o := .tup [V.int 0, V.int 2, V.int 1, V.bl false]) w32
    have v32 : upd G31 t32 (.tup [V.int 0, V.int 2, V.int 1, V.bl false]) t32 = some (.tup [V.int 0, V.int 2, V.int 1, V.bl false]) := upd_same
    generalize upd G31 t32 (.tup [V.int 0, V.int 2, V.int 1, V.bl false]) = G32 at u32 v32 ⊢
    refine ⟨_, rfl, by show 4 ≤ sizeLine; decide, fun t33 w33 => ?_⟩
    have u33 := same_upd (o := .tup [V.int (-1), V.int 1, V.int 1, V.bl false]) w33
    have v33 : upd G32 t33 (.tup [V.int (-1), V.int 1, V.int 1, V.bl false]) t33 = some (.tup [V.int (-1), V.int 1, V.int 1, V.bl false]) := upd_same
    generalize upd G32 t33 (.tup [V.int (-1), V.int 1, V.int 1, V.bl false]) = G33 at u33 v33 ⊢
    refine ⟨by show 3 ≤ sizeLine; decide, fun t34 w34 => ?_⟩
    have u34 := same_upd (o := .lst [V.ref t31, V.ref t32, V.ref t33]) w34
    have v34 : upd G33 t34 (.lst [V.ref t31, V.ref t32, V.ref t33]) t34 = some (.lst [V.ref t31, V.ref t32, V.ref t33]) := upd_same
    generalize upd G33 t34 (.lst [V.ref t31, V.ref t32, V.ref t33]) = G34 at u34 v34 ⊢
    refine ⟨t30, t34, _, _, rfl, rfl, u34 _ _ (u33 _ _ (u32 _ _ (u31 _ _ (v30)))), v34, by show 8 ≤ sizeLine; decide, fun t35 w35 => ?_⟩
    have u35 := same_upd (o := .lst ([V.ref t25, V.ref t26, V.ref t27, V.ref t28, V.ref t29] ++ [V.ref t31, V.ref t32, V.ref t33])) w35
    have v35 : upd G34 t35 (.lst ([V.ref t25, V.ref t26, V.ref t27, V.ref t28, V.ref t29] ++ [V.ref t31, V.ref t32, V.ref t33])) t35 = some (.lst [V.ref t25, V.ref t26, V.ref t27, V.ref t28, V.ref t29, V.ref t31, V.ref t32, V.ref t33]) := upd_same
    generalize upd G34 t35 (.lst ([V.ref t25, V.ref t26, V.ref t27, V.ref t28, V.ref t29] ++ [V.ref t31, V.ref t32, V.ref t33])) = G35 at u35 v35 ⊢
    have z36 := (((((((((((s2.trans u25).trans u26).trans u27).trans u28).trans u29).trans u30).trans u31).trans u32).trans u33).trans u34).trans u35)
    have k25 := u35 _ _ (u34 _ _ (u33 _ _ (u32 _ _ (u31 _ _ (u30 _ _ (u29 _ _ (u28 _ _ (u27 _ _ (u26 _ _ (v25))))))))))
    have k26 := u35 _ _ (u34 _ _ (u33 _ _ (u32 _ _ (u31 _ _ (u30 _ _ (u29 _ _ (u28 _ _ (u27 _ _ (v26)))))))))
    have k27 := u35 _ _ (u34 _ _ (u33 _ _ (u32 _ _ (u31 _ _ (u30 _ _ (u29 _ _ (u28 _ _ (v27))))))))
    have k28 := u35 _ _ (u34 _ _ (u33 _ _ (u32 _ _ (u31 _ _ (u30 _ _ (u29 _ _ (v28)))))))
    have k29 := u35 _ _ (u34 _ _ (u33 _ _ (u32 _ _ (u31 _ _ (u30 _ _ (v29))))))
    have k31 := u35 _ _ (u34 _ _ (u33 _ _ (u32 _ _ (v31))))
    have k32 := u35 _ _ (u34 _ _ (u33 _ _ (v32)))
    have k33 := u35 _ _ (u34 _ _ (v33))
    refine ⟨_, rfl, t35, rfl, ⟨_, .of v35⟩, ?_⟩
    refine for_it (walk_list (xs := [V.ref t25, V.ref t26, V.ref t27, V.ref t28, V.ref t29, V.ref t31, V.ref t32, V.ref t33])) (fun i σ H' => Same G35 H' ∧ ∃ y3 y4 y5 y6, σ = [y0, y1, some (.ref t35), y3, y4, y5, y6, none, none]) ⟨Same.refl _, none, none, none, none, rfl⟩ (fun i σ H' _ hP => .of (hP.1 _ _ v35)) (fun i x σ H3 H4 hi hP hY => ?_) (fun σ H3 hP => ?_)
    · obtain ⟨s3, y3, y4, y5, y6, rfl⟩ := hP
      obtain ⟨rfl, hx⟩ := hY
      have hi2 : i < 8 := hi
      rcases (show i = 0 ∨ i = 1 ∨ i = 2 ∨ i = 3 ∨ i = 4 ∨ i = 5 ∨ i = 6 ∨ i = 7 by omega) with rfl | rfl | rfl | rfl | rfl | rfl | rfl | rfl
      · obtain rfl : x = V.ref t25 := (Option.some.inj hx).symm
        refine ⟨t25, _, rfl, .of (s3 _ _ k25), rfl, _, _, rfl, _, _, rfl, _, _, rfl, _, _, rfl, rfl, ?_⟩
        refine ⟨_, rfl, _, rfl, _, rfl, fun x1001 y1001 f1001 g1001 e1001 => ⟨x1001, y1001, 0, 1, 1, rfl, upd_same, rfl, ?_⟩⟩
        rw [upd_upd]
        refine ⟨x1001, y1001, _, rfl, upd_same, rfl, by show 3 ≤ sizeLine; decide, fun l1001 v1001 => ⟨x1001, l1001, [0, 1, 2], 0, 1, 1, rfl, ⟨y1001, same_upd v1001 _ _ upd_same⟩, .of upd_same, by decide, fun b1001 h1001 => ?_⟩⟩
        obtain rfl : b1001 = true := bt_of h1001 (by unfold Sow; decide)
        refine ⟨_, rfl, rfl, _, rfl, iteN rfl ?_⟩
        have z1002 := (s3.trans (same_made (o := .ins (fa 46) y1001 [("first", .int 0), ("second", .int 1), ("across", .int 1)]) f1001 g1001)).trans (same_upd (o := .lst [V.int 0, V.int 1, V.int 2]) v1001)
        exact ⟨z1002, _, _, _, _, rfl⟩
      · obtain rfl : x = V.ref t26 := (Option.some.inj hx).symm
        refine ⟨t26, _, rfl, .of (s3 _ _ k26), rfl, _, _, rfl, _, _, rfl, _, _, rfl, _, _, rfl, rfl, ?_⟩
        refine ⟨_, rfl, _, rfl, _, rfl, fun x1001 y1001 f1001 g1001 e1001 => ⟨x1001, y1001, 0, 1, 2, rfl, upd_same, rfl, ?_⟩⟩
        rw [upd_upd]
        refine ⟨x1001, y1001, _, rfl, upd_same, rfl, by show 3 ≤ sizeLine; decide, fun l1001 v1001 => ⟨x1001, l1001, [0, 1, 2], 0, 1, 2, rfl, ⟨y1001, same_upd v1001 _ _ upd_same⟩, .of upd_same, by decide, fun b1001 h1001 => ?_⟩⟩
        obtain rfl : b1001 = false := bf_of h1001 (by unfold Sow; decide)
        refine ⟨_, rfl, rfl, _, rfl, iteN rfl ?_⟩
        have z1002 := (s3.trans (same_made (o := .ins (fa 46) y1001 [("first", .int 0), ("second", .int 1), ("across", .int 2)]) f1001 g1001)).trans (same_upd (o := .lst [V.int 0, V.int 1, V.int 2]) v1001)
        exact ⟨z1002, _, _, _, _, rfl⟩
      · obtain rfl : x = V.ref t27 := (Option.some.inj hx).symm
        refine ⟨t27, _, rfl, .of (s3 _ _ k27), rfl, _, _, rfl, _, _, rfl, _, _, rfl, _, _, rfl, rfl, ?_⟩
        refine ⟨_, rfl, _, rfl, _, rfl, fun x1001 y1001 f1001 g1001 e1001 => ⟨x1001, y1001, 0, 0, 1, rfl, upd_same, rfl, ?_⟩⟩
        rw [upd_upd]
        refine ⟨x1001, y1001, _, rfl, upd_same, rfl, by show 3 ≤ sizeLine; decide, fun l1001 v1001 => ⟨x1001, l1001, [0, 1, 2], 0, 0, 1, rfl, ⟨y1001, same_upd v1001 _ _ upd_same⟩, .of upd_same, by decide, fun b1001 h1001 => ?_⟩⟩
        obtain rfl : b1001 = false := bf_of h1001 (by unfold Sow; decide)
        refine ⟨_, rfl, rfl, _, rfl, iteN rfl ?_⟩
        have z1002 := (s3.trans (same_made (o := .ins (fa 46) y1001 [("first", .int 0), ("second", .int 0), ("across", .int 1)]) f1001 g1001)).trans (same_upd (o := .lst [V.int 0, V.int 1, V.int 2]) v1001)
        exact ⟨z1002, _, _, _, _, rfl⟩
      · obtain rfl : x = V.ref t28 := (Option.some.inj hx).symm
        refine ⟨t28, _, rfl, .of (s3 _ _ k28), rfl, _, _, rfl, _, _, rfl, _, _, rfl, _, _, rfl, rfl, ?_⟩
        refine ⟨_, rfl, _, rfl, _, rfl, fun x1001 y1001 f1001 g1001 e1001 => ⟨x1001, y1001, 1, 0, 1, rfl, upd_same, rfl, ?_⟩⟩
        rw [upd_upd]
        refine ⟨x1001, y1001, _, rfl, upd_same, rfl, by show 3 ≤ sizeLine; decide, fun l1001 v1001 => ⟨x1001, l1001, [0, 1, 2], 1, 0, 1, rfl, ⟨y1001, same_upd v1001 _ _ upd_same⟩, .of upd_same, by decide, fun b1001 h1001 => ?_⟩⟩
        obtain rfl : b1001 = false := bf_of h1001 (by unfold Sow; decide)
        refine ⟨_, rfl, rfl, _, rfl, iteN rfl ?_⟩
        have z1002 := (s3.trans (same_made (o := .ins (fa 46) y1001 [("first", .int 1), ("second", .int 0), ("across", .int 1)]) f1001 g1001)).trans (same_upd (o := .lst [V.int 0, V.int 1, V.int 2]) v1001)
        exact ⟨z1002, _, _, _, _, rfl⟩
      · obtain rfl : x = V.ref t29 := (Option.some.inj hx).symm
        refine ⟨t29, _, rfl, .of (s3 _ _ k29), rfl, _, _, rfl, _, _, rfl, _, _, rfl, _, _, rfl, rfl, ?_⟩
        refine ⟨_, rfl, _, rfl, _, rfl, fun x1001 y1001 f1001 g1001 e1001 => ⟨x1001, y1001, 0, 1, 0, rfl, upd_same, rfl, ?_⟩⟩
        rw [upd_upd]
        refine ⟨x1001, y1001, _, rfl, upd_same, rfl, by show 3 ≤ sizeLine; decide, fun l1001 v1001 => ⟨x1001, l1001, [0, 1, 2], 0, 1, 0, rfl, ⟨y1001, same_upd v1001 _ _ upd_same⟩, .of upd_same, by decide, fun b1001 h1001 => ?_⟩⟩
        obtain rfl : b1001 = false := bf_of h1001 (by unfold Sow; decide)
        refine ⟨_, rfl, rfl, _, rfl, iteN rfl ?_⟩
        have z1002 := (s3.trans (same_made (o := .ins (fa 46) y1001 [("first", .int 0), ("second", .int 1), ("across", .int 0)]) f1001 g1001)).trans (same_upd (o := .lst [V.int 0, V.int 1, V.int 2]) v1001)
        exact ⟨z1002, _, _, _, _, rfl⟩
      · obtain rfl : x = V.ref t31 := (Option.some.inj hx).symm
        refine ⟨t31, _, rfl, .of (s3 _ _ k31), rfl, _, _, rfl, _, _, rfl, _, _, rfl, _, _, rfl, rfl, ?_⟩
        refine ⟨_, rfl, _, rfl, _, rfl, fun x1001 y1001 f1001 g1001 e1001 => ⟨x1001, y1001, 0, 1, (-1), rfl, upd_same, rfl, ?_⟩⟩
        rw [upd_upd]
        refine ⟨x1001, y1001, _, rfl, upd_same, rfl, by show 3 ≤ sizeLine; decide, fun l1001 v1001 => ⟨x1001, l1001, [0, 1, 2], 0, 1, (-1), rfl, ⟨y1001, same_upd v1001 _ _ upd_same⟩, .of upd_same, by decide, fun b1001 h1001 => ?_⟩⟩
        obtain rfl : b1001 = false := bf_of h1001 (by unfold Sow; decide)
        refine ⟨_, rfl, rfl, _, rfl, iteN rfl ?_⟩
        have z1002 := (s3.trans (same_made (o := .ins (fa 46) y1001 [("first", .int 0), ("second", .int 1), ("across", .int (-1))]) f1001 g1001)).trans (same_upd (o := .lst [V.int 0, V.int 1, V.int 2]) v1001)
        exact ⟨z1002, _, _, _, _, rfl⟩
      · obtain rfl : x = V.ref t32 := (Option.some.inj hx).symm
        refine ⟨t32, _, rfl, .of (s3 _ _ k32), rfl, _, _, rfl, _, _, rfl, _, _, rfl, _, _, rfl, rfl, ?_⟩
        refine ⟨_, rfl, _, rfl, _, rfl, fun x1001 y1001 f1001 g1001 e1001 => ⟨x1001, y1001, 0, 2, 1, rfl, upd_same, rfl, ?_⟩⟩
        rw [upd_upd]
        refine ⟨x1001, y1001, _, rfl, upd_same, rfl, by show 3 ≤ sizeLine; decide, fun l1001 v1001 => ⟨x1001, l1001, [0, 1, 2], 0, 2, 1, rfl, ⟨y1001, same_upd v1001 _ _ upd_same⟩, .of upd_same, by decide, fun b1001 h1001 => ?_⟩⟩
        obtain rfl : b1001 = false := bf_of h1001 (by unfold Sow; decide)
        refine ⟨_, rfl, rfl, _, rfl, iteN rfl ?_⟩
        have z1002 := (s3.trans (same_made (o := .ins (fa 46) y1001 [("first", .int 0), ("second", .int 2), ("across", .int 1)]) f1001 g1001)).trans (same_upd (o := .lst [V.int 0, V.int 1, V.int 2]) v1001)
        exact ⟨z1002, _, _, _, _, rfl⟩
      · obtain rfl : x = V.ref t33 := (Option.some.inj hx).symm
        refine ⟨t33, _, rfl, .of (s3 _ _ k33), rfl, _, _, rfl, _, _, rfl, _, _, rfl, _, _, rfl, rfl, ?_⟩
        refine ⟨_, rfl, _, rfl, _, rfl, fun x1001 y1001 f1001 g1001 e1001 => ⟨x1001, y1001, (-1), 1, 1, rfl, upd_same, rfl, ?_⟩⟩
        rw [upd_upd]
        refine ⟨x1001, y1001, _, rfl, upd_same, rfl, by show 3 ≤ sizeLine; decide, fun l1001 v1001 => ⟨x1001, l1001, [0, 1, 2], (-1), 1, 1, rfl, ⟨y1001, same_upd v1001 _ _ upd_same⟩, .of upd_same, by decide, fun b1001 h1001 => ?_⟩⟩
        obtain rfl : b1001 = false := bf_of h1001 (by unfold Sow; decide)
        refine ⟨_, rfl, rfl, _, rfl, iteN rfl ?_⟩
        have z1002 := (s3.trans (same_made (o := .ins (fa 46) y1001 [("first", .int (-1)), ("second", .int 1), ("across", .int 1)]) f1001 g1001)).trans (same_upd (o := .lst [V.int 0, V.int 1, V.int 2]) v1001)
        exact ⟨z1002, _, _, _, _, rfl⟩
    obtain ⟨s3, y3, y4, y5, y6, rfl⟩ := hP
    exact ⟨rfl, fun H5 s5 => q _ ((z36.trans s3).trans s5)⟩
end
end Lw
namespace Lw
open PySem PySem.Spec PyProof.Rows L2 AD
section
variable {P : Program} {w : World} {K : PySem.W.Frag} {mg : Str → Option Value} {base : Heap}
variable {fa : Nat → Addr} {fd : Nat → FuncData} {tk : Nat → Tok}
/-- the lambdas' tables -/
def TL (P1 P2 P3 : Addr) : List NdefX.NTab := [(P1, fun _ _ => (("_law_known_right" : Str) ++ ".<locals>.") ++ "<lambda>"), (P2, fun _ _ => (("_law_dots_right" : Str) ++ ".<locals>.") ++ "<lambda>"), (P3, fun _ _ => (("_law_bad_right" : Str) ++ ".<locals>.") ++ "<lambda>")]
def spKnown (P1 P2 P3 : Addr) : Sp := fun vs H Q _ => ∃ z : Int, vs = [.int z] ∧ 0 ≤ z ∧ NdefX.TabsN (TL P1 P2 P3) H ∧ ∀ H', NdefX.TabsN (TL P1 P2 P3) H' → Q (.bl true) H'
theorem ok__law_known_right (T : Txt K mg fa fd tk) {cL P1 P2 P3 : Addr} (hcd : (fd 27).code = .ref cL) (TB : LamX.TabB base mg cL P1) (n12 : P1 ≠ P2) (n13 : P1 ≠ P3) : FnOk P w K mg base CX0 8 (fa 27) (fd 27) ["_law_far"] (spKnown P1 P2 P3) := by
  have hTm : (P1, fun _ _ => (("_law_known_right" : Str) ++ ".<locals>.") ++ "<lambda>") ∈ TL P1 P2 P3 := List.mem_cons_self
  have hTu : ∀ p ∈ TL P1 P2 P3, p.1 = P1 → p.2 = fun _ _ => (("_law_known_right" : Str) ++ ".<locals>.") ++ "<lambda>" := fun p hp e => by
    simp only [TL, List.mem_cons, List.not_mem_nil, or_false] at hp
    rcases hp with rfl | rfl | rfl
    · rfl
    · exact absurd e.symm n12
    · exact absurd e.symm n13
  refine Hx.okC T.F__law_known_right hcd sc__law_known_right (fun vs H Q E h => ?_) (fun A outer s H vs Q E hr h => ?_)
  · obtain ⟨z, rfl, _⟩ := h
    rfl
  · obtain ⟨z, rfl, z0, hT, q⟩ := h
    have hu := hr.units
    refine ⟨_, (pss_cons (ps_if (PW.pt (pw_or (pt_cmpR (op_neL hu) (pe_call (ok_dots_of T) (hr.mono (by decide)) (by rfl) T.g_dots_of T.F_dots_of.kp T.b_dots_of .nil pass0 (pa_cons pe_int (pa_cons pe_int (pa_cons pe_int pa_nil)))) (pe_lst (pa_cons pe_int (pa_cons pe_int (pa_cons pe_int (pa_cons pe_int pa_nil))))) (nomark _)) (pw_or (pt_cmpR (op_neL hu) (pe_call (ok_crossed T) (hr.mono (by decide)) (by rfl) T.g_crossed T.F_crossed.kp T.b_crossed .nil pass0 (pa_cons pe_int (pa_cons pe_int (pa_cons pe_int pa_nil)))) (pe_lst (pa_cons pe_int (pa_cons pe_int (pa_cons pe_int pa_nil)))) (nomark _)) (pw_or1 (pt_cmpR (op_neL hu) (pe_call (ok_crossed T) (hr.mono (by decide)) (by rfl) T.g_crossed T.F_crossed.kp T.b_crossed .nil pass0 (pa_cons pe_int (pa_cons pe_int (pa_cons pe_int pa_nil)))) (pe_lst (pa_cons pe_int (pa_cons pe_int (pa_cons pe_int (pa_cons pe_int (pa_cons pe_int pa_nil)))))) (nomark _)))))) (pss_one (ps_ret pe_bl)) pss_nil)
      (pss_cons (ps_if (PW.pt (pw_or (pt_cmpR (op_neL hu) (pe_call (ok_crossed T) (hr.mono (by decide)) (by rfl) T.g_crossed T.F_crossed.kp T.b_crossed .nil pass0 (pa_cons pe_int (pa_cons pe_int (pa_cons pe_int pa_nil)))) (pe_lst (pa_cons pe_int pa_nil)) (nomark _)) (pw_or (pt_cmpR (op_neL hu) (pe_call (ok_dots_of T) (hr.mono (by decide)) (by rfl) T.g_dots_of T.F_dots_of.kp T.b_dots_of .nil pass0 (pa_cons pe_int (pa_cons pe_int (pa_cons (pe_op op_mulB pe_int (pv 0)) pa_nil)))) (pe_lst (pa_cons pe_int (pa_cons pe_int (pa_cons pe_int (pa_cons pe_int pa_nil))))) (nomark _)) (pw_or1 (pt_cmpR (op_neL hu) (pe_call (ok_dots_of T) (hr.mono (by decide)) (by rfl) T.g_dots_of T.F_dots_of.kp T.b_dots_of .nil pass0 (pa_cons pe_int (pa_cons pe_int (pa_cons (pe_op op_mulB (pe_un un_neg pe_int) (pv 0)) pa_nil)))) (pe_lst (pa_cons pe_int (pa_cons pe_int (pa_cons pe_int (pa_cons pe_int pa_nil))))) (nomark _)))))) (pss_one (ps_ret pe_bl)) pss_nil)
      (pss_cons (ps_set (i := 1) sc__law_known_right.nd rfl (.inl rfl) (pe_lst (pa_cons (pe_tup (pa_cons pe_int (pa_cons pe_int pa_nil))) (pa_cons (pe_tup (pa_cons pe_int (pa_cons pe_int pa_nil))) (pa_cons (pe_tup (pa_cons pe_int (pa_cons pe_int pa_nil))) (pa_cons (pe_tup (pa_cons pe_int (pa_cons pe_int pa_nil))) (pa_cons (pe_tup (pa_cons pe_int (pa_cons pe_int pa_nil))) (pa_cons (pe_tup (pa_cons pe_int (pa_cons pe_int pa_nil))) (pa_cons (pe_tup (pa_cons pe_int (pa_cons pe_int pa_nil))) (pa_cons (pe_tup (pa_cons pe_int (pa_cons pe_int pa_nil))) (pa_cons (pe_tup (pa_cons pe_int (pa_cons pe_int pa_nil))) (pa_cons (pe_tup (pa_cons pe_int (pa_cons pe_int pa_nil))) (pa_cons (pe_tup (pa_cons pe_int (pa_cons pe_int pa_nil))) pa_nil)))))))))))))
      (pss_cons (ps_for PassesOwn.never rfl (pi_list (pv 1)) (pg_tup rfl (pgs_cons (pg_name (i := 2) sc__law_known_right.nd rfl (.inl rfl)) (pgs_cons (pg_name (i := 3) sc__law_known_right.nd rfl (.inl rfl)) pgs_nil))) (pss_one (ps_if (PW.pt (pw_or (pt_cmpR op_ne (pe_call (ok_least_root T) (hr.mono (by decide)) (by rfl) T.g_least_root T.F_least_root.kp T.b_least_root .nil pass0 (pa_cons (pv 2) pa_nil)) (pv 3) (nomark _)) (pw_or (pt_cmpR op_notBl (pe_call (ok_is_root T) (hr.mono (by decide)) (by rfl) T.g_is_root T.F_is_root.kp T.b_is_root .nil pass0 (pa_cons (pv 2) (pa_cons (pv 3) pa_nil))) pe_bl (nomark _)) (pw_or1 (pt_cmpR op_notBl (pe_call (ok_is_root T) (hr.mono (by decide)) (by rfl) T.g_is_root T.F_is_root.kp T.b_is_root .nil pass0 (pa_cons (pv 2) (pa_cons pe_int pa_nil))) pe_bl (nomark _)))))) (pss_one (ps_ret pe_bl)) pss_nil)))
      (pss_cons (ps_for PassesOwn.never rfl (pi_list (pe_lst (pa_cons pe_int (pa_cons pe_int (pa_cons pe_int (pa_cons pe_int (pa_cons pe_int (pa_cons pe_int (pa_cons pe_int (pa_cons pe_int (pa_cons pe_int (pa_cons pe_int (pa_cons pe_bl (pa_cons (pe_un un_neg pe_int) (pa_cons pe_non pa_nil))))))))))))))) (pg_name (i := 2) sc__law_known_right.nd rfl (.inl rfl)) (pss_one (ps_if (pt_not (pt_val (pe_call (sp := spRefused P w K mg base fa) (ok__law_refused (P := P) (w := w) (base := base) T) (hr.mono (by decide)) (by rfl) T.g__law_refused T.F__law_refused.kp T.b__law_refused .nil pass0 (pa_cons (Hx.pe_lam0 ((("_law_known_right" : Str) ++ ".<locals>.") ++ "<lambda>") TB rfl hTm rfl rfl hTu rfl (by decide +kernel)) (pa_cons (pv 2) (pa_cons pe_int pa_nil)))))) (pss_one (ps_ret pe_bl)) pss_nil)))
      (pss_cons (ps_set (i := 4) sc__law_known_right.nd rfl (.inl rfl) (pe_call (ok_least_root T) (hr.mono (by decide)) (by rfl) T.g_least_root T.F_least_root.kp T.b_least_root .nil pass0 (pa_cons pe_int pa_nil)))
      (pss_cons (ps_if (PW.pt (pw_or (pt_cmpR op_notBl (pe_call (ok_is_root T) (hr.mono (by decide)) (by rfl) T.g_is_root T.F_is_root.kp T.b_is_root .nil pass0 (pa_cons pe_int (pa_cons (pv 4) pa_nil))) pe_bl (nomark _)) (pw_or1 (pt_not (pt_val (pe_call (sp := spRefused P w K mg base fa) (ok__law_refused (P := P) (w := w) (base := base) T) (hr.mono (by decide)) (by rfl) T.g__law_refused T.F__law_refused.kp T.b__law_refused .nil pass0 (pa_cons (Hx.pe_lam0 ((("_law_known_right" : Str) ++ ".<locals>.") ++ "<lambda>") TB rfl hTm rfl rfl hTu rfl (by decide +kernel)) (pa_cons pe_int (pa_cons pe_int pa_nil))))))))) (pss_one (ps_ret pe_bl)) pss_nil)
      (pss_cons (ps_if (pt_cmpR op_ne (pe_callB call_len_seq (by rfl) T.m_len (by decide +kernel) (pa_cons (pe_call (ok_dots_of T) (hr.mono (by decide)) (by rfl) T.g_dots_of T.F_dots_of.kp T.b_dots_of .nil pass0 (pa_cons pe_int (pa_cons pe_int (pa_cons (pv 0) pa_nil)))) pa_nil)) pe_int (nomark _)) (pss_one (ps_ret pe_bl)) pss_nil)
      (pss_cons (ps_set (i := 5) sc__law_known_right.nd rfl (.inl rfl) (pe_lst (pa_cons (pe_call (ok_dots_of T) (hr.mono (by decide)) (by rfl) T.g_dots_of T.F_dots_of.kp T.b_dots_of .nil pass0 (pa_cons pe_int (pa_cons pe_int (pa_cons (pv 0) pa_nil)))) (pa_cons (pe_call (ok_crossed T) (hr.mono (by decide)) (by rfl) T.g_crossed T.F_crossed.kp T.b_crossed .nil pass0 (pa_cons pe_int (pa_cons pe_int (pa_cons pe_int pa_nil)))) (pa_cons (pv 4) (pa_cons (pe_call (ok_row_of T) (hr.mono (by decide)) (by rfl) T.g_row_of T.F_row_of.kp T.b_row_of .nil pass0 (pa_cons pe_int (pa_cons (pv 4) (pa_cons (pe_op op_pow pe_int pe_int) (pa_cons pe_int pa_nil))))) pa_nil))))))
      (pss_cons (ps_set (i := 5) sc__law_known_right.nd rfl (.inl rfl) (pe_op op_cat (pv 5) (pe_lst (pa_cons (pe_call (ok_column_of T) (hr.mono (by decide)) (by rfl) T.g_column_of T.F_column_of.kp T.b_column_of .nil pass0 (pa_cons pe_int (pa_cons pe_int (pa_cons (pv 0) (pa_cons pe_int pa_nil))))) pa_nil))))
      (pss_one (ps_ret (pe_and (pe_call (ok__law_plain T) (hr.mono (by decide)) (by rfl) T.g__law_plain T.F__law_plain.kp T.b__law_plain .nil pass0 (pa_cons (pe_op op_cat (pv 5) (pe_lst (pa_cons (pe_call (ok_arrow_of T) (hr.mono (by decide)) (by rfl) T.g_arrow_of T.F_arrow_of.kp T.b_arrow_of .nil pass0 (pa_cons pe_int (pa_cons pe_int (pa_cons (pv 0) (pa_cons pe_int (pa_cons pe_int pa_nil)))))) pa_nil))) pa_nil)) (pe_and (pe_cmpR op_eq (pe_call (ok_column_of T) (hr.mono (by decide)) (by rfl) T.g_column_of T.F_column_of.kp T.b_column_of .nil pass0 (pa_cons pe_int (pa_cons pe_int (pa_cons pe_int (pa_cons pe_int pa_nil))))) pe_int (nomark _)) (pe_one (pe_cmpR op_eq (pe_call (ok_row_of T) (hr.mono (by decide)) (by rfl) T.g_row_of T.F_row_of.kp T.b_row_of .nil pass0 (pa_cons pe_int (pa_cons pe_int (pa_cons pe_int (pa_cons pe_int pa_nil))))) pe_int (nomark _))))))))))))))))), ?_⟩
    have s0 := Same.refl H
    refine ⟨5, 2, 0, rfl, root52, by decide +kernel, by decide, fun H1 d1 t1 m1 h1 => ⟨by show 4 ≤ sizeLine; decide, fun e1 w1 => ⟨d1, e1, rowsI 5 2 0, [0, 1, 3, 2], rfl, rfl, .of (same_upd w1 _ _ h1), .of upd_same, _, rfl, ?_⟩⟩⟩
    rw [decide_eq_true (show rowsI 5 2 0 = [0, 1, 3, 2] by decide +kernel)]
    refine iteF ?_
    have z2 := (s0.trans t1).trans (same_upd (o := .lst [V.int 0, V.int 1, V.int 3, V.int 2]) w1)
    refine ⟨5, 2, 2, rfl, root52, root52, by decide +kernel, by decide +kernel, by decide, fun H3 d3 l3 c3 t3 m3 h3 => ⟨by show 3 ≤ sizeLine; decide, fun e3 w3 => ⟨d3, e3, zof l3, [1, 0, 2], rfl, rfl, sqz (same_upd w3 _ _ h3), .of upd_same, _, rfl, ?_⟩⟩⟩
    rw [decide_eq_true (show zof l3 = [1, 0, 2] by rw [Cross.unique root52 c3 (m := [1, 0, 2]) ⟨by decide, cross_by (by decide +kernel)⟩]; rfl)]
    refine iteF ?_
    have z4 := (z2.trans t3).trans (same_upd (o := .lst [V.int 1, V.int 0, V.int 2]) w3)
    refine ⟨7, 3, 3, rfl, root73, root73, by decide +kernel, by decide +kernel, by decide, fun H5 d5 l5 c5 t5 m5 h5 => ⟨by show 5 ≤ sizeLine; decide, fun e5 w5 => ⟨d5, e5, zof l5, [4, 2, 1, 3, 0], rfl, rfl, sqz (same_upd w5 _ _ h5), .of upd_same, _, rfl, ?_⟩⟩⟩
    rw [decide_eq_true (show zof l5 = [4, 2, 1, 3, 0] by rw [Cross.unique root73 c5 (m := [4, 2, 1, 3, 0]) ⟨by decide, cross_by (by decide +kernel)⟩]; rfl)]
    refine iteF ?_
    have z6 := (z4.trans t5).trans (same_upd (o := .lst [V.int 4, V.int 2, V.int 1, V.int 3, V.int 0]) w5)
    refine ⟨3, 2, 2, rfl, root32, root32, by decide +kernel, by decide +kernel, by decide, fun H7 d7 l7 c7 t7 m7 h7 => ⟨by show 1 ≤ sizeLine; decide, fun e7 w7 => ⟨d7, e7, zof l7, [0], rfl, rfl, sqz (same_upd w7 _ _ h7), .of upd_same, _, rfl, ?_⟩⟩⟩
    rw [decide_eq_true (show zof l7 = [0] by rw [Cross.unique root32 c7 (m := [0]) ⟨by decide, cross_by (by decide +kernel)⟩]; rfl)]
    refine iteF ?_
    have z8 := (z6.trans t7).trans (same_upd (o := .lst [V.int 0]) w7)
    refine ⟨_, rfl, _, _, rfl, rfl, mulL (by decide) (by decide), 5, 2, (4 * z), rfl, root52, by decide +kernel, by decide, fun H9 d9 t9 m9 h9 => ⟨by show 4 ≤ sizeLine; decide, fun e9 w9 => ⟨d9, e9, rowsI 5 2 (4 * z), [0, 1, 3, 2], rfl, rfl, .of (same_upd w9 _ _ h9), .of upd_same, _, rfl, ?_⟩⟩⟩
    rw [decide_eq_true (show rowsI 5 2 (4 * z) = [0, 1, 3, 2] by rw [rowsI_be (b' := 0) (be_four' z)]; decide +kernel)]
    refine iteF ?_
    have z10 := (z8.trans t9).trans (same_upd (o := .lst [V.int 0, V.int 1, V.int 3, V.int 2]) w9)
    refine ⟨_, rfl, _, rfl, _, _, rfl, rfl, mulL (by decide) (by decide), 5, 2, (-4 * z), rfl, root52, by decide +kernel, by decide, fun H11 d11 t11 m11 h11 => ⟨by show 4 ≤ sizeLine; decide, fun e11 w11 => ⟨d11, e11, rowsI 5 2 (-4 * z), [0, 1, 3, 2], rfl, rfl, .of (same_upd w11 _ _ h11), .of upd_same, _, rfl, ?_⟩⟩⟩
    rw [decide_eq_true (show rowsI 5 2 (-4 * z) = [0, 1, 3, 2] by rw [rowsI_be (b' := 0) (be_four z)]; decide +kernel)]
    refine iteF ?_
    have z12 := (z10.trans t11).trans (same_upd (o := .lst [V.int 0, V.int 1, V.int 3, V.int 2]) w11)
    have sQ := z12
    generalize upd H11 e11 (.lst [V.int 0, V.int 1, V.int 3, V.int 2]) = G at sQ ⊢
    refine ⟨by show 2 ≤ sizeLine; decide, fun t13 w13 => ?_⟩
    have u13 := same_upd (o := .tup [V.int 3, V.int 2]) w13
    have v13 : upd G t13 (.tup [V.int 3, V.int 2]) t13 = some (.tup [V.int 3, V.int 2]) := upd_same
    generalize upd G t13 (.tup [V.int 3, V.int 2]) = G13 at u13 v13 ⊢
    refine ⟨by show 2 ≤ sizeLine; decide, fun t14 w14 => ?_⟩
    have u14 := same_upd (o := .tup [V.int 5, V.int 2]) w14
    have v14 : upd G13 t14 (.tup [V.int 5, V.int 2]) t14 = some (.tup [V.int 5, V.int 2]) := upd_same
    generalize upd G13 t14 (.tup [V.int 5, V.int 2]) = G14 at u14 v14 ⊢
    refine ⟨by show 2 ≤ sizeLine; decide, fun t15 w15 => ?_⟩
    have u15 := same_upd (o := .tup [V.int 7, V.int 3]) w15
    have v15 : upd G14 t15 (.tup [V.int 7, V.int 3]) t15 = some (.tup [V.int 7, V.int 3]) := upd_same
    generalize upd G14 t15 (.tup [V.int 7, V.int 3]) = G15 at u15 v15 ⊢
    refine ⟨by show 2 ≤ sizeLine; decide, fun t16 w16 => ?_⟩
    have u16 := same_upd (o := .tup [V.int 11, V.int 2]) w16
    have v16 : upd G15 t16 (.tup [V.int 11, V.int 2]) t16 = some (.tup [V.int 11, V.int 2]) := upd_same
    generalize upd G15 t16 (.tup [V.int 11, V.int 2]) = G16 at u16 v16 ⊢
    refine ⟨by show 2 ≤ sizeLine; decide, fun t17 w17 => ?_⟩
    have u17 := same_upd (o := .tup [V.int 13, V.int 2]) w17
    have v17 : upd G16 t17 (.tup [V.int 13, V.int 2]) t17 = some (.tup [V.int 13, V.int 2]) := upd_same
    generalize upd G16 t17 (.tup [V.int 13, V.int 2]) = G17 at u17 v17 ⊢
    refine ⟨by show 2 ≤ sizeLine; decide, fun t18 w18 => ?_⟩
    have u18 := same_upd (o := .tup [V.int 17, V.int 3]) w18
    have v18 : upd G17 t18 (.tup [V.int 17, V.int 3]) t18 = some (.tup [V.int 17, V.int 3]) := upd_same
    generalize upd G17 t18 (.tup [V.int 17, V.int 3]) = G18 at u18 v18 ⊢
    refine ⟨by show 2 ≤ sizeLine; decide, fun t19 w19 => ?_⟩
    have u19 := same_upd (o := .tup [V.int 23, V.int 5]) w19
    have v19 : upd G18 t19 (.tup [V.int 23, V.int 5]) t19 = some (.tup [V.int 23, V.int 5]) := upd_same
    generalize upd G18 t19 (.tup [V.int 23, V.int 5]) = G19 at u19 v19 ⊢
    refine ⟨by show 2 ≤ sizeLine; decide, fun t20 w20 => ?_⟩
    have u20 := same_upd (o := .tup [V.int 41, V.int 6]) w20
    have v20 : upd G19 t20 (.tup [V.int 41, V.int 6]) t20 = some (.tup [V.int 41, V.int 6]) := upd_same
    generalize upd G19 t20 (.tup [V.int 41, V.int 6]) = G20 at u20 v20 ⊢
    refine ⟨by show 2 ≤ sizeLine; decide, fun t21 w21 => ?_⟩
    have u21 := same_upd (o := .tup [V.int 71, V.int 7]) w21
    have v21 : upd G20 t21 (.tup [V.int 71, V.int 7]) t21 = some (.tup [V.int 71, V.int 7]) := upd_same
    generalize upd G20 t21 (.tup [V.int 71, V.int 7]) = G21 at u21 v21 ⊢
    refine ⟨by show 2 ≤ sizeLine; decide, fun t22 w22 => ?_⟩
    have u22 := same_upd (o := .tup [V.int 191, V.int 19]) w22
    have v22 : upd G21 t22 (.tup [V.int 191, V.int 19]) t22 = some (.tup [V.int 191, V.int 19]) := upd_same
    generalize upd G21 t22 (.tup [V.int 191, V.int 19]) = G22 at u22 v22 ⊢
    refine ⟨by show 2 ≤ sizeLine; decide, fun t23 w23 => ?_⟩
    have u23 := same_upd (o := .tup [V.int 409, V.int 21]) w23
    have v23 : upd G22 t23 (.tup [V.int 409, V.int 21]) t23 = some (.tup [V.int 409, V.int 21]) := upd_same
    generalize upd G22 t23 (.tup [V.int 409, V.int 21]) = G23 at u23 v23 ⊢
    refine ⟨by show 11 ≤ sizeLine; decide, fun t24 w24 => ?_⟩
    have u24 := same_upd (o := .lst [V.ref t13, V.ref t14, V.ref t15, V.ref t16, V.ref t17, V.ref t18, V.ref t19, V.ref t20, V.ref t21, V.ref t22, V.ref t23]) w24
    have v24 : upd G23 t24 (.lst [V.ref t13, V.ref t14, V.ref t15, V.ref t16, V.ref t17, V.ref t18, V.ref t19, V.ref t20, V.ref t21, V.ref t22, V.ref t23]) t24 = some (.lst [V.ref t13, V.ref t14, V.ref t15, V.ref t16, V.ref t17, V.ref t18, V.ref t19, V.ref t20, V.ref t21, V.ref t22, V.ref t23]) := upd_same
    generalize upd G23 t24 (.lst [V.ref t13, V.ref t14, V.ref t15, V.ref t16, V.ref t17, V.ref t18, V.ref t19, V.ref t20, V.ref t21, V.ref t22, V.ref t23]) = G24 at u24 v24 ⊢
    have z25 := ((((((((((((sQ.trans u13).trans u14).trans u15).trans u16).trans u17).trans u18).trans u19).trans u20).trans u21).trans u22).trans u23).trans u24)
    have k13 := u24 _ _ (u23 _ _ (u22 _ _ (u21 _ _ (u20 _ _ (u19 _ _ (u18 _ _ (u17 _ _ (u16 _ _ (u15 _ _ (u14 _ _ (v13)))))))))))
    have k14 := u24 _ _ (u23 _ _ (u22 _ _ (u21 _ _ (u20 _ _ (u19 _ _ (u18 _ _ (u17 _ _ (u16 _ _ (u15 _ _ (v14))))))))))
    have k15 := u24 _ _ (u23 _ _ (u22 _ _ (u21 _ _ (u20 _ _ (u19 _ _ (u18 _ _ (u17 _ _ (u16 _ _ (v15)))))))))
    have k16 := u24 _ _ (u23 _ _ (u22 _ _ (u21 _ _ (u20 _ _ (u19 _ _ (u18 _ _ (u17 _ _ (v16))))))))
    have k17 := u24 _ _ (u23 _ _ (u22 _ _ (u21 _ _ (u20 _ _ (u19 _ _ (u18 _ _ (v17)))))))
    have k18 := u24 _ _ (u23 _ _ (u22 _ _ (u21 _ _ (u20 _ _ (u19 _ _ (v18))))))
    have k19 := u24 _ _ (u23 _ _ (u22 _ _ (u21 _ _ (u20 _ _ (v19)))))
    have k20 := u24 _ _ (u23 _ _ (u22 _ _ (u21 _ _ (v20))))
    have k21 := u24 _ _ (u23 _ _ (u22 _ _ (v21)))
    have k22 := u24 _ _ (u23 _ _ (v22))
    have k23 := u24 _ _ (v23)
    refine ⟨_, rfl, t24, rfl, ⟨_, .of v24⟩, ?_⟩
    refine for_it (walk_list (xs := [V.ref t13, V.ref t14, V.ref t15, V.ref t16, V.ref t17, V.ref t18, V.ref t19, V.ref t20, V.ref t21, V.ref t22, V.ref t23])) (fun i σ H' => Same G24 H' ∧ ∃ y2 y3, σ = [some (.int z), some (.ref t24), y2, y3, none, none]) ⟨Same.refl _, none, none, rfl⟩ (fun i σ H' _ hP => .of (hP.1 _ _ v24)) (fun i x σ H3 H4 hi hP hY => ?_) (fun σ H3 hP => ?_)
    · obtain ⟨s3, y2, y3, rfl⟩ := hP
      obtain ⟨rfl, hx⟩ := hY
      have hi2 : i < 11 := hi
      rcases (show i = 0 ∨ i = 1 ∨ i = 2 ∨ i = 3 ∨ i = 4 ∨ i = 5 ∨ i = 6 ∨ i = 7 ∨ i = 8 ∨ i = 9 ∨ i = 10 by omega) with rfl | rfl | rfl | rfl | rfl | rfl | rfl | rfl | rfl | rfl | rfl
      · obtain rfl : x = V.ref t13 := (Option.some.inj hx).symm
        refine ⟨t13, _, rfl, .of (s3 _ _ k13), rfl, _, _, rfl, _, _, rfl, rfl, ?_⟩
        refine ⟨_, rfl, 3, 2, rfl, lq32.root.good, by decide, by decide, lq32.rb, lq32.no, _, rfl, rfl, _, rfl, iteN rfl ?_⟩
        refine ⟨_, rfl, _, rfl, 3, 2, rfl, lq32.root.good, by decide, by decide, _, _, rfl, rfl, _, rfl, ?_⟩
        rw [lq32.rb]
        refine iteF ⟨_, rfl, 3, 1, rfl, lq32.root.good, by decide, by decide, _, _, rfl, rfl, _, rfl, ?_⟩
        rw [show rootB 3 1 = false from lq32.no 1 (by decide) (by decide)]
        exact iteF ⟨s3, _, _, rfl⟩
      · obtain rfl : x = V.ref t14 := (Option.some.inj hx).symm
        refine ⟨t14, _, rfl, .of (s3 _ _ k14), rfl, _, _, rfl, _, _, rfl, rfl, ?_⟩
        refine ⟨_, rfl, 5, 2, rfl, lq52.root.good, by decide, by decide, lq52.rb, lq52.no, _, rfl, rfl, _, rfl, iteN rfl ?_⟩
        refine ⟨_, rfl, _, rfl, 5, 2, rfl, lq52.root.good, by decide, by decide, _, _, rfl, rfl, _, rfl, ?_⟩
        rw [lq52.rb]
        refine iteF ⟨_, rfl, 5, 1, rfl, lq52.root.good, by decide, by decide, _, _, rfl, rfl, _, rfl, ?_⟩
        rw [show rootB 5 1 = false from lq52.no 1 (by decide) (by decide)]
        exact iteF ⟨s3, _, _, rfl⟩
      · obtain rfl : x = V.ref t15 := (Option.some.inj hx).symm
        refine ⟨t15, _, rfl, .of (s3 _ _ k15), rfl, _, _, rfl, _, _, rfl, rfl, ?_⟩
        refine ⟨_, rfl, 7, 3, rfl, lq73.root.good, by decide, by decide, lq73.rb, lq73.no, _, rfl, rfl, _, rfl, iteN rfl ?_⟩
        refine ⟨_, rfl, _, rfl, 7, 3, rfl, lq73.root.good, by decide, by decide, _, _, rfl, rfl, _, rfl, ?_⟩
        rw [lq73.rb]
        refine iteF ⟨_, rfl, 7, 1, rfl, lq73.root.good, by decide, by decide, _, _, rfl, rfl, _, rfl, ?_⟩
        rw [show rootB 7 1 = false from lq73.no 1 (by decide) (by decide)]
        exact iteF ⟨s3, _, _, rfl⟩
      · obtain rfl : x = V.ref t16 := (Option.some.inj hx).symm
        refine ⟨t16, _, rfl, .of (s3 _ _ k16), rfl, _, _, rfl, _, _, rfl, rfl, ?_⟩
        refine ⟨_, rfl, 11, 2, rfl, lq112.root.good, by decide, by decide, lq112.rb, lq112.no, _, rfl, rfl, _, rfl, iteN rfl ?_⟩
        refine ⟨_, rfl, _, rfl, 11, 2, rfl, lq112.root.good, by decide, by decide, _, _, rfl, rfl, _, rfl, ?_⟩
        rw [lq112.rb]
        refine iteF ⟨_, rfl, 11, 1, rfl, lq112.root.good, by decide, by decide, _, _, rfl, rfl, _, rfl, ?_⟩
        rw [show rootB 11 1 = false from lq112.no 1 (by decide) (by decide)]
        exact iteF ⟨s3, _, _, rfl⟩
      · obtain rfl : x = V.ref t17 := (Option.some.inj hx).symm
        refine ⟨t17, _, rfl, .of (s3 _ _ k17), rfl, _, _, rfl, _, _, rfl, rfl, ?_⟩
        refine ⟨_, rfl, 13, 2, rfl, lq132.root.good, by decide, by decide, lq132.rb, lq132.no, _, rfl, rfl, _, rfl, iteN rfl ?_⟩
        refine ⟨_, rfl, _, rfl, 13, 2, rfl, lq132.root.good, by decide, by decide, _, _, rfl, rfl, _, rfl, ?_⟩
        rw [lq132.rb]
        refine iteF ⟨_, rfl, 13, 1, rfl, lq132.root.good, by decide, by decide, _, _, rfl, rfl, _, rfl, ?_⟩
        rw [show rootB 13 1 = false from lq132.no 1 (by decide) (by decide)]
        exact iteF ⟨s3, _, _, rfl⟩
      · obtain rfl : x = V.ref t18 := (Option.some.inj hx).symm
        refine ⟨t18, _, rfl, .of (s3 _ _ k18), rfl, _, _, rfl, _, _, rfl, rfl, ?_⟩
        refine ⟨_, rfl, 17, 3, rfl, lq173.root.good, by decide, by decide, lq173.rb, lq173.no, _, rfl, rfl, _, rfl, iteN rfl ?_⟩
        refine ⟨_, rfl, _, rfl, 17, 3, rfl, lq173.root.good, by decide, by decide, _, _, rfl, rfl, _, rfl, ?_⟩
        rw [lq173.rb]
        refine iteF ⟨_, rfl, 17, 1, rfl, lq173.root.good, by decide, by decide, _, _, rfl, rfl, _, rfl, ?_⟩
        rw [show rootB 17 1 = false from lq173.no 1 (by decide) (by decide)]
        exact iteF ⟨s3, _, _, rfl⟩
      · obtain rfl : x = V.ref t19 := (Option.some.inj hx).symm
        refine ⟨t19, _, rfl, .of (s3 _ _ k19), rfl, _, _, rfl, _, _, rfl, rfl, ?_⟩
        refine ⟨_, rfl, 23, 5, rfl, lq235.root.good, by decide, by decide, lq235.rb, lq235.no, _, rfl, rfl, _, rfl, iteN rfl ?_⟩
        refine ⟨_, rfl, _, rfl, 23, 5, rfl, lq235.root.good, by decide, by decide, _, _, rfl, rfl, _, rfl, ?_⟩
        rw [lq235.rb]
        refine iteF ⟨_, rfl, 23, 1, rfl, lq235.root.good, by decide, by decide, _, _, rfl, rfl, _, rfl, ?_⟩
        rw [show rootB 23 1 = false from lq235.no 1 (by decide) (by decide)]
        exact iteF ⟨s3, _, _, rfl⟩
      · obtain rfl : x = V.ref t20 := (Option.some.inj hx).symm
        refine ⟨t20, _, rfl, .of (s3 _ _ k20), rfl, _, _, rfl, _, _, rfl, rfl, ?_⟩
        refine ⟨_, rfl, 41, 6, rfl, lq416.root.good, by decide, by decide, lq416.rb, lq416.no, _, rfl, rfl, _, rfl, iteN rfl ?_⟩
        refine ⟨_, rfl, _, rfl, 41, 6, rfl, lq416.root.good, by decide, by decide, _, _, rfl, rfl, _, rfl, ?_⟩
        rw [lq416.rb]
        refine iteF ⟨_, rfl, 41, 1, rfl, lq416.root.good, by decide, by decide, _, _, rfl, rfl, _, rfl, ?_⟩
        rw [show rootB 41 1 = false from lq416.no 1 (by decide) (by decide)]
        exact iteF ⟨s3, _, _, rfl⟩
      · obtain rfl : x = V.ref t21 := (Option.some.inj hx).symm
        refine ⟨t21, _, rfl, .of (s3 _ _ k21), rfl, _, _, rfl, _, _, rfl, rfl, ?_⟩
        refine ⟨_, rfl, 71, 7, rfl, lq717.root.good, by decide, by decide, lq717.rb, lq717.no, _, rfl, rfl, _, rfl, iteN rfl ?_⟩
        refine ⟨_, rfl, _, rfl, 71, 7, rfl, lq717.root.good, by decide, by decide, _, _, rfl, rfl, _, rfl, ?_⟩
        rw [lq717.rb]
        refine iteF ⟨_, rfl, 71, 1, rfl, lq717.root.good, by decide, by decide, _, _, rfl, rfl, _, rfl, ?_⟩
        rw [show rootB 71 1 = false from lq717.no 1 (by decide) (by decide)]
        exact iteF ⟨s3, _, _, rfl⟩
      · obtain rfl : x = V.ref t22 := (Option.some.inj hx).symm
        refine ⟨t22, _, rfl, .of (s3 _ _ k22), rfl, _, _, rfl, _, _, rfl, rfl, ?_⟩
        refine ⟨_, rfl, 191, 19, rfl, lq19119.root.good, by decide, by decide, lq19119.rb, lq19119.no, _, rfl, rfl, _, rfl, iteN rfl ?_⟩
        refine ⟨_, rfl, _, rfl, 191, 19, rfl, lq19119.root.good, by decide, by decide, _, _, rfl, rfl, _, rfl, ?_⟩
        rw [lq19119.rb]
        refine iteF ⟨_, rfl, 191, 1, rfl, lq19119.root.good, by decide, by decide, _, _, rfl, rfl, _, rfl, ?_⟩
        rw [show rootB 191 1 = false from lq19119.no 1 (by decide) (by decide)]
        exact iteF ⟨s3, _, _, rfl⟩
      · obtain rfl : x = V.ref t23 := (Option.some.inj hx).symm
        refine ⟨t23, _, rfl, .of (s3 _ _ k23), rfl, _, _, rfl, _, _, rfl, rfl, ?_⟩
        refine ⟨_, rfl, 409, 21, rfl, lq40921.root.good, by decide, by decide, lq40921.rb, lq40921.no, _, rfl, rfl, _, rfl, iteN rfl ?_⟩
        refine ⟨_, rfl, _, rfl, 409, 21, rfl, lq40921.root.good, by decide, by decide, _, _, rfl, rfl, _, rfl, ?_⟩
        rw [lq40921.rb]
        refine iteF ⟨_, rfl, 409, 1, rfl, lq40921.root.good, by decide, by decide, _, _, rfl, rfl, _, rfl, ?_⟩
        rw [show rootB 409 1 = false from lq40921.no 1 (by decide) (by decide)]
        exact iteF ⟨s3, _, _, rfl⟩
    obtain ⟨s3, y2, y3, rfl⟩ := hP
    have z26 := z25.trans s3
    have T3 : NdefX.TabsN (TL P1 P2 P3) H3 := hT.ext z26
    refine ⟨_, rfl, by show 13 ≤ sizeLine; decide, fun l5 w5 => ⟨l5, rfl, ⟨_, .of upd_same⟩, ?_⟩⟩
    have T5 := T3.ext (same_upd (o := .lst [V.int 1, V.int 9, V.int 341, V.int 561, V.int 1681, V.int 1729, V.int 1763, V.int 1849, V.int 2, V.int 2003, V.bl true, V.int (-7), V.non]) w5)
    have bad : ∀ x ∈ ([V.int 1, V.int 9, V.int 341, V.int 561, V.int 1681, V.int 1729, V.int 1763, V.int 1849, V.int 2, V.int 2003, V.bl true, V.int (-7), V.non] : List V), ∀ H' : Hp, BadP K H' 2000 x := fun x hx H' => by
      simp only [List.mem_cons, List.not_mem_nil, or_false] at hx
      rcases hx with rfl | rfl | rfl | rfl | rfl | rfl | rfl | rfl | rfl | rfl | rfl | rfl | rfl
      · exact .inr ⟨_, rfl, .inl (by decide)⟩
      · exact .inr ⟨_, rfl, .inr (.inr ⟨by decide, by decide, by decide +kernel⟩)⟩
      · exact .inr ⟨_, rfl, .inr (.inr ⟨by decide, by decide, by decide +kernel⟩)⟩
      · exact .inr ⟨_, rfl, .inr (.inr ⟨by decide, by decide, by decide +kernel⟩)⟩
      · exact .inr ⟨_, rfl, .inr (.inr ⟨by decide, by decide, by decide +kernel⟩)⟩
      · exact .inr ⟨_, rfl, .inr (.inr ⟨by decide, by decide, by decide +kernel⟩)⟩
      · exact .inr ⟨_, rfl, .inr (.inr ⟨by decide, by decide, by decide +kernel⟩)⟩
      · exact .inr ⟨_, rfl, .inr (.inr ⟨by decide, by decide, by decide +kernel⟩)⟩
      · exact .inr ⟨_, rfl, .inl (by decide)⟩
      · exact .inr ⟨_, rfl, .inr (.inl (by decide))⟩
      · exact .inl nwB
      · exact .inr ⟨_, rfl, .inl (by decide)⟩
      · exact .inl nwN
    refine for_it (walk_list (xs := [V.int 1, V.int 9, V.int 341, V.int 561, V.int 1681, V.int 1729, V.int 1763, V.int 1849, V.int 2, V.int 2003, V.bl true, V.int (-7), V.non])) (fun i σ H' => NdefX.TabsN (TL P1 P2 P3) H' ∧ H' l5 = some (.lst [V.int 1, V.int 9, V.int 341, V.int 561, V.int 1681, V.int 1729, V.int 1763, V.int 1849, V.int 2, V.int 2003, V.bl true, V.int (-7), V.non]) ∧ ∃ y2 y3, σ = [some (.int z), some (.ref t24), y2, y3, none, none]) ⟨T5, upd_same, y2, y3, rfl⟩ (fun i σ H' _ hP => .of hP.2.1) (fun i x σ H4 H5 hi hP hY => ?_) (fun σ H4 hP => ?_)
    · obtain ⟨T6, h6, y2, y3, rfl⟩ := hP
      obtain ⟨rfl, hx⟩ := hY
      have bx := bad x (List.mem_of_getElem? hx)
      refine ⟨T6, fun f c H6 e6 n6 T7 nf hf hc => ⟨_, rfl, f, x, 0, by decide, rfl, ?_, fun H7 s7 => ⟨_, rfl, iteF ⟨T7.ext s7, s7 _ _ (e6 _ _ h6 (fun _ z => nomatch z)), _, _, rfl⟩⟩⟩⟩
      have a0 : Hx.AskR P w K mg base 6 H6 f (x) (fa 35) := Hx.ask_of (k := 5) (NdefX.nscope_by (by dsimp only; decide +kernel)) (fun _ _ us h => match us, h with | [_], _ => rfl) rfl hf hc fun A outer s H1 hr e1 => ⟨_, (pe_callS (xok_least_root T) (hr.mono (by decide)) (by rfl) T.g_least_root T.F_least_root.kp T.b_least_root (L2N.passAt (L2N.takes_of rfl rfl rfl rfl)) (pa_cons (pv 0) pa_nil)), ⟨_, rfl, x, rfl, bx _, rfl, rfl, Same.refl _⟩⟩
      exact a0
    obtain ⟨T6, h6, y2, y3, rfl⟩ := hP
    refine ⟨1999, 3, rfl, lq19993.root.good, by decide, by decide, lq19993.rb, lq19993.no, ?_⟩
    refine ⟨_, rfl, 1999, 3, rfl, lq19993.root.good, by decide, by decide, _, _, rfl, rfl, _, rfl, ?_⟩
    rw [lq19993.rb]
    refine iteF ⟨T6, fun f c H6 e6 n6 T7 nf hf hc => ?_⟩
    have a1 : Hx.AskR P w K mg base 6 H6 f (V.int 67) (fa 35) := Hx.ask_of (k := 5) (NdefX.nscope_by (by dsimp only; decide +kernel)) (fun _ _ us h => match us, h with | [_], _ => rfl) rfl hf hc fun A outer s H1 hr e1 => ⟨_, (pe_callS (xok_dots_of T) (hr.mono (by decide)) (by rfl) T.g_dots_of T.F_dots_of.kp T.b_dots_of (L2N.passAt (L2N.takes_of rfl rfl rfl rfl)) (pa_cons (pv 0) (pa_cons pe_non (pa_cons pe_non pa_nil)))), ⟨_, rfl, .int 67, .non, .non, rfl, _, .inl ⟨.inr ⟨67, rfl, .inr (.inl (by decide))⟩, rfl⟩, rfl, rfl, Same.refl _⟩⟩
    refine ⟨f, .int 67, 0, by decide, rfl, a1, fun H7 s7 => ⟨_, rfl, iteF ?_⟩⟩
    have T8 := T7.ext s7
    refine ⟨_, rfl, 61, 2, z, rfl, root612, by decide +kernel, by decide, fun H8 d8 s8 n8 h8 => ⟨d8, _, rfl, .inl (.of h8), rfl, _, rfl, iteN ?_ ?_⟩⟩
    · rw [List.length_map, rowsI_len]
      rfl
    have T9 := T8.ext s8
    refine ⟨_, rfl, 61, 2, z, rfl, root612, by decide +kernel, by decide, fun H9 d9 s9 n9 h9 => ?_⟩
    refine ⟨61, 2, 2, rfl, root612, root612, by decide +kernel, by decide +kernel, by decide, fun H10 d10 l10 c10 s10 n10 h10 => ?_⟩
    refine ⟨_, rfl, _, rfl, _, _, rfl, rfl, ⟨by decide, by decide, by decide⟩, 1999, 3, 0, _, rfl, root1999, rb1999, by decide, by show 4 ≤ sizeLine; decide, fun d11 n11 => ?_⟩
    have s11 := same_upd (o := .lst [V.ref d9, V.ref d10, V.int 3, V.int (((rowA 1999 3 (10 ^ Int.toNat 30) 0 : Nat) : Int) - 1)]) n11
    have h11 : upd H10 d11 (.lst [V.ref d9, V.ref d10, V.int 3, V.int (((rowA 1999 3 (10 ^ Int.toNat 30) 0 : Nat) : Int) - 1)]) d11 = some (.lst [V.ref d9, V.ref d10, V.int 3, V.int (((rowA 1999 3 (10 ^ Int.toNat 30) 0 : Nat) : Int) - 1)]) := upd_same
    generalize upd H10 d11 (.lst [V.ref d9, V.ref d10, V.int 3, V.int (((rowA 1999 3 (10 ^ Int.toNat 30) 0 : Nat) : Int) - 1)]) = H11 at s11 h11 ⊢
    generalize ((rowA 1999 3 (10 ^ Int.toNat 30) 0 : Nat) : Int) - 1 = r1 at h11 ⊢
    refine ⟨_, rfl, _, rfl, 5, 2, z, 0, rfl, root52, by decide +kernel, by decide, by decide, fun c12 hc12 _ => ?_⟩
    refine ⟨by show 1 ≤ sizeLine; decide, fun d12 n12 => ⟨d11, d12, _, _, rfl, rfl, same_upd n12 _ _ h11, upd_same, by show 5 ≤ sizeLine; decide, fun d13 n13 => ?_⟩⟩
    have s13 := (same_upd (o := .lst [V.int (c12 : Int)]) n12).trans (same_upd (o := .lst [V.ref d9, V.ref d10, V.int 3, V.int r1, V.int (c12 : Int)]) n13)
    refine ⟨_, rfl, _, rfl, 5, 2, 1, 1, z, rfl, root52, by decide +kernel, by decide, by decide, by decide, by decide, fun c14 hc14 _ => ?_⟩
    refine ⟨by show 1 ≤ sizeLine; decide, fun d14 n14 => ⟨d13, d14, [V.ref d9, V.ref d10, V.int 3, V.int r1, V.int (c12 : Int)], _, rfl, rfl, same_upd n14 _ _ upd_same, upd_same, by show 6 ≤ sizeLine; decide, fun d15 n15 => ?_⟩⟩
    have s15 := (s13.trans (same_upd (o := .lst [V.int (c14 : Int)]) n14)).trans (same_upd (o := .lst [V.ref d9, V.ref d10, V.int 3, V.int r1, V.int (c12 : Int), V.int (c14 : Int)]) n15)
    have k9 := ((s10.trans s11).trans s15) _ _ h9
    have k10 := (s11.trans s15) _ _ h10
    refine ⟨.ref d15, rfl, .inr ⟨d15, [V.ref d9, V.ref d10, V.int 3, V.int r1, V.int (c12 : Int), V.int (c14 : Int)], rfl, upd_same, by show 6 ≤ 1000; decide, fun x hx => ?_⟩, fun H16 s16 => ?_⟩
    · simp only [List.mem_cons, List.not_mem_nil, or_false] at hx
      rcases hx with rfl | rfl | rfl | rfl | rfl | rfl
      · exact .inr ⟨d9, _, rfl, k9, by rw [List.length_map, rowsI_len]; decide, fun x hx => by obtain ⟨i, _, rfl⟩ := List.mem_map.mp hx; exact ⟨i, rfl⟩⟩
      · exact .inr ⟨d10, _, rfl, k10, by rw [nats_len, c10.len]; decide, fun x hx => by obtain ⟨i, _, rfl⟩ := List.mem_map.mp hx; exact ⟨_, rfl⟩⟩
      · exact .inl ⟨_, rfl⟩
      · exact .inl ⟨_, rfl⟩
      · exact .inl ⟨_, rfl⟩
      · exact .inl ⟨_, rfl⟩
    have TZ := (((((T9.ext s9).ext s10).ext s11).ext s15).ext s16)
    refine ⟨_, rfl, iteT ?_⟩
    refine ⟨5, 2, 0, 3, rfl, root52, by decide +kernel, by decide, by decide, fun c hc ec => ?_⟩
    obtain rfl : c = 2 := root52.row_inj (b := 0) hc (by decide) (by have h0 : rowA 5 2 0 2 = 4 := (by decide +kernel); omega)
    refine ⟨rfl, _, rfl, iteT ?_⟩
    refine ⟨5, 2, 2, 0, rfl, root52, by decide +kernel, by decide, rfl, ?_⟩
    rw [show decide (V.int (((rowA 5 2 0 2 : Nat) : Int) - 1) = V.int 3) = true by rw [show ((rowA 5 2 0 2 : Nat) : Int) - 1 = 3 by decide +kernel]; exact decide_eq_true rfl]
    exact q _ TZ
end
end Lw
namespace Lw
open PySem PySem.Spec PyProof.Rows L2 AD
section
variable {P : Program} {w : World} {K : PySem.W.Frag} {mg : Str → Option Value} {base : Heap}
variable {fa : Nat → Addr} {fd : Nat → FuncData} {tk : Nat → Tok}
theorem one_turn : ∀ i, i < 8 → zof (t2 1 i [0]) = [0] := by decide +kernel
theorem three_turn : ∀ i, i < 8 → (t2 3 i [2, 0, 1]).Perm (List.range 3) ∧ (t2 3 i [2, 0, 1]).length = 3 := by decide +kernel
/-- a list that grows leaves the tables as they are -/
theorem tab_acc {T : List NdefX.NTab} {H : Hp} {D : Addr} {ys : List V} (h : NdefX.TabsN T H) (hD : ∃ xs, H D = some (.lst xs)) : NdefX.TabsN T (upd H D (.lst ys)) := fun p hp => by
  obtain ⟨xs, hD⟩ := hD
  obtain ⟨ps, h1, h2, h3⟩ := h p hp
  refine ⟨ps, by rw [upd_ne (ne_of h1 hD (by intro z; cases z))]; exact h1, h2, fun pos cv hc => ?_⟩
  obtain ⟨c, e1, e2⟩ := h3 pos cv hc
  exact ⟨c, e1, by rw [upd_ne (ne_of e2 hD (by intro z; unfold LamX.CodeO at z; cases z))]; exact e2⟩
theorem ext_acc {H H5 : Hp} {D : Addr} {o : HO} (s : LamX.ExtN H H5) (nD : H D = none) : LamX.ExtN H (upd H5 D o) := fun y o' h n => by
  rw [upd_ne (ne_of_none h nD)]
  exact s y o' h n
def spDotsR (P1 P2 P3 : Addr) : Sp := fun vs H Q _ => vs = [] ∧ NdefX.TabsN (TL P1 P2 P3) H ∧ ∀ H', NdefX.TabsN (TL P1 P2 P3) H' → Q (.bl true) H'
theorem ok__law_dots_right (T : Txt K mg fa fd tk) {cL P1 P2 P3 : Addr} (hcd : (fd 28).code = .ref cL) (TB : LamX.TabB base mg cL P2) (n12 : P1 ≠ P2) (n23 : P2 ≠ P3) : FnOk P w K mg base CX0 8 (fa 28) (fd 28) [] (spDotsR P1 P2 P3) := by
  have hTm : (P2, fun _ _ => (("_law_dots_right" : Str) ++ ".<locals>.") ++ "<lambda>") ∈ TL P1 P2 P3 := List.mem_cons_of_mem _ List.mem_cons_self
  have hTu : ∀ p ∈ TL P1 P2 P3, p.1 = P2 → p.2 = fun _ _ => (("_law_dots_right" : Str) ++ ".<locals>.") ++ "<lambda>" := fun p hp e => by
    simp only [TL, List.mem_cons, List.not_mem_nil, or_false] at hp
    rcases hp with rfl | rfl | rfl
    · exact absurd e n12
    · rfl
    · exact absurd e.symm n23
  refine Hx.okC T.F__law_dots_right hcd sc__law_dots_right (fun vs H Q E h => ?_) (fun A outer s H vs Q E hr h => ?_)
  · obtain ⟨rfl, _⟩ := h
    rfl
  · obtain ⟨rfl, hT, q⟩ := h
    have hu := hr.units
    refine ⟨_, (pss_cons (ps_if (PW.pt (pw_or (pt_not (pt_val (pe_callB call_isi (by rfl) T.m_isinstance (by decide +kernel) (pa_cons (pe_call (ok_judged T) (hr.mono (by decide)) (by rfl) T.g_judged T.F_judged.kp T.b_judged .nil pass0 (pa_cons (pe_lst (pa_cons pe_int pa_nil)) pa_nil)) (pa_cons (pe_glob (v := .ref _) rfl T.g_Apart rfl) pa_nil))))) (pw_or1 (pt_not (pt_val (pe_callB call_isi (by rfl) T.m_isinstance (by decide +kernel) (pa_cons (pe_call (ok_judged T) (hr.mono (by decide)) (by rfl) T.g_judged T.F_judged.kp T.b_judged .nil pass0 (pa_cons (pe_lst (pa_cons pe_int (pa_cons pe_int pa_nil))) pa_nil)) (pa_cons (pe_glob (v := .ref _) rfl T.g_Apart rfl) pa_nil)))))))) (pss_one (ps_ret pe_bl)) pss_nil)
      (pss_cons (ps_if (pt_not (pt_val (pe_callB call_isi (by rfl) T.m_isinstance (by decide +kernel) (pa_cons (pe_call (ok_judged T) (hr.mono (by decide)) (by rfl) T.g_judged T.F_judged.kp T.b_judged .nil pass0 (pa_cons (pe_lst (pa_cons pe_int (pa_cons pe_int (pa_cons pe_int pa_nil)))) pa_nil)) (pa_cons (pe_glob (v := .ref _) rfl T.g_Same rfl) pa_nil))))) (pss_one (ps_ret pe_bl)) pss_nil)
      (pss_cons (ps_set (i := 0) sc__law_dots_right.nd rfl (.inl rfl) (pe_call (ok_judged T) (hr.mono (by decide)) (by rfl) T.g_judged T.F_judged.kp T.b_judged .nil pass0 (pa_cons (pe_lst (pa_cons pe_int (pa_cons pe_int (pa_cons pe_int pa_nil)))) pa_nil)))
      (pss_cons (ps_set (i := 1) sc__law_dots_right.nd rfl (.inl rfl) (pe_lst (pa_cons (pe_meth (pv 0) T.in_Same.cl T.me_Same_shows (ok_Same_shows T) (hr.mono (by decide)) T.b_Same_shows .nil pass0 (pa_cons (pe_lst (pa_cons pe_int (pa_cons pe_int (pa_cons pe_int pa_nil)))) pa_nil)) (pa_cons (pe_meth (pe_makeP T.mk_Apart (by rfl) T.g_Apart) T.in_Apart.cl T.me_Apart_shows (ok_Apart_shows T) (hr.mono (by decide)) T.b_Apart_shows .nil pass0 (pa_cons (pe_lst (pa_cons pe_int (pa_cons pe_int (pa_cons pe_int pa_nil)))) pa_nil) (ht := mcall_of (abase_call (by decide)) (fun _ => rfl))) (pa_cons (pe_meth (pe_make T.mk_Same (ok_Same_init T) (hr.mono (by decide)) (by rfl) T.g_Same T.b_Same_init .nil pass0 (pa_cons pe_int (pa_cons pe_int (pa_cons pe_int pa_nil)))) T.in_Same.cl T.me_Same_shows (ok_Same_shows T) (hr.mono (by decide)) T.b_Same_shows .nil pass0 (pa_cons (pe_lst (pa_cons pe_int (pa_cons pe_int (pa_cons pe_int pa_nil)))) pa_nil)) pa_nil)))))
      (pss_cons (ps_set (i := 1) sc__law_dots_right.nd rfl (.inl rfl) (pe_op op_cat (pv 1) (pe_lst (pa_cons (pe_meth (pe_make T.mk_Same (ok_Same_init T) (hr.mono (by decide)) (by rfl) T.g_Same T.b_Same_init .nil pass0 (pa_cons pe_int (pa_cons pe_int (pa_cons pe_int pa_nil)))) T.in_Same.cl T.me_Same_shows (ok_Same_shows T) (hr.mono (by decide)) T.b_Same_shows .nil pass0 (pa_cons (pe_lst (pa_cons pe_int (pa_cons pe_int (pa_cons pe_int pa_nil)))) pa_nil)) pa_nil))))
      (pss_cons (ps_if (PW.pt (pw_or (pt_not (pt_val (pe_call (ok__law_truths T) (hr.mono (by decide)) (by rfl) T.g__law_truths T.F__law_truths.kp T.b__law_truths .nil pass0 (pa_cons (pv 1) pa_nil)))) (pw_or1 (pt_cmpR (op_neD hu) (pv 1) (pe_lst (pa_cons pe_bl (pa_cons pe_bl (pa_cons pe_bl (pa_cons pe_bl pa_nil))))) (nomark _))))) (pss_one (ps_ret pe_bl)) pss_nil)
      (pss_cons (ps_if (pt_not (pt_val (pe_call (ok__law_plain T) (hr.mono (by decide)) (by rfl) T.g__law_plain T.F__law_plain.kp T.b__law_plain .nil pass0 (pa_cons (pe_lst (pa_cons (pe_fld (pv 0) rfl) (pa_cons (pe_fld (pv 0) rfl) (pa_cons (pe_fld (pv 0) rfl) pa_nil)))) pa_nil)))) (pss_one (ps_ret pe_bl)) pss_nil)
      (pss_cons (ps_if (PW.pt (pw_or (pt_val (pe_meth (pe_make T.mk_Same (ok_Same_init T) (hr.mono (by decide)) (by rfl) T.g_Same T.b_Same_init .nil pass0 (pa_cons pe_int (pa_cons pe_int (pa_cons pe_int pa_nil)))) T.in_Same.cl T.me_Same_shows (ok_Same_shows T) (hr.mono (by decide)) T.b_Same_shows .nil pass0 (pa_cons (pe_lst (pa_cons pe_int (pa_cons pe_int (pa_cons pe_int pa_nil)))) pa_nil))) (pw_or (pt_val (pe_meth (pe_make T.mk_Same (ok_Same_init T) (hr.mono (by decide)) (by rfl) T.g_Same T.b_Same_init .nil pass0 (pa_cons pe_int (pa_cons pe_int (pa_cons pe_int pa_nil)))) T.in_Same.cl T.me_Same_shows (ok_Same_shows T) (hr.mono (by decide)) T.b_Same_shows .nil pass0 (pa_cons (pe_lst (pa_cons pe_int (pa_cons pe_int (pa_cons pe_int pa_nil)))) pa_nil))) (pw_or1 (pt_val (pe_meth (pe_make T.mk_Same (ok_Same_init T) (hr.mono (by decide)) (by rfl) T.g_Same T.b_Same_init .nil pass0 (pa_cons (pe_un un_neg pe_int) (pa_cons pe_int (pa_cons pe_int pa_nil)))) T.in_Same.cl T.me_Same_shows (ok_Same_shows T) (hr.mono (by decide)) T.b_Same_shows .nil pass0 (pa_cons (pe_lst (pa_cons pe_int (pa_cons pe_int (pa_cons pe_int pa_nil)))) pa_nil))))))) (pss_one (ps_ret pe_bl)) pss_nil)
      (pss_cons (ps_if (pt_val (pe_meth (pe_make T.mk_Same (ok_Same_init T) (hr.mono (by decide)) (by rfl) T.g_Same T.b_Same_init .nil pass0 (pa_cons pe_int (pa_cons pe_int (pa_cons pe_int pa_nil)))) T.in_Same.cl T.me_Same_shows (ok_Same_shows T) (hr.mono (by decide)) T.b_Same_shows .nil pass0 (pa_cons (pe_lst (pa_cons pe_int (pa_cons pe_int (pa_cons pe_int pa_nil)))) pa_nil))) (pss_one (ps_ret pe_bl)) pss_nil)
      (pss_cons (ps_set (i := 2) sc__law_dots_right.nd rfl (.inr rfl) (pe_lst (pa_cons pe_int (pa_cons pe_int (pa_cons pe_int pa_nil)))))
      (pss_cons (ps_for PassesOwn.never rfl (pi_range1 (by rfl) T.m_range (pa_cons pe_int pa_nil)) (pg_name (i := 3) sc__law_dots_right.nd rfl (.inl rfl)) (pss_cons (ps_if (PW.pt (pw_or (pt_cmpR (op_neL hu) (pe_call (ok_turned T) (hr.mono (by decide)) (by rfl) T.g_turned T.F_turned.kp T.b_turned .nil pass0 (pa_cons (pe_lst (pa_cons pe_int pa_nil)) (pa_cons (pv 3) pa_nil))) (pe_lst (pa_cons pe_int pa_nil)) (nomark _)) (pw_or1 (pt_cmpR (op_neL hu) (pe_callB cr_sorted (by rfl) T.m_sorted (by decide +kernel) (pa_cons (pe_call (ok_turned T) (hr.mono (by decide)) (by rfl) T.g_turned T.F_turned.kp T.b_turned .nil pass0 (pa_cons (pv 2) (pa_cons (pv 3) pa_nil))) pa_nil)) (pe_lst (pa_cons pe_int (pa_cons pe_int (pa_cons pe_int pa_nil)))) (nomark _))))) (pss_one (ps_ret pe_bl)) pss_nil)
      (pss_cons (ps_set (i := 4) sc__law_dots_right.nd rfl (.inl rfl) (pe_call (ok_turned T) (hr.mono (by decide)) (by rfl) T.g_turned T.F_turned.kp T.b_turned .nil pass0 (pa_cons (pv 2) (pa_cons (pv 3) pa_nil))))
      (pss_cons (ps_expr (pe_bm PySem.F.plainAttrs_list PySem.F.slot_list_append PySem.F.type_list_append mt_append (pv 4) (pa_cons pe_int pa_nil)))
      (pss_one (ps_if (PW.pt (pw_or (pt_cmpR (op_neL hu) (pv 2) (pe_lst (pa_cons pe_int (pa_cons pe_int (pa_cons pe_int pa_nil)))) (nomark _)) (pw_or1 (pt_cmpR op_ne (pe_callB call_len_seq (by rfl) T.m_len (by decide +kernel) (pa_cons (pe_call (ok_turned T) (hr.mono (by decide)) (by rfl) T.g_turned T.F_turned.kp T.b_turned .nil pass0 (pa_cons (pv 2) (pa_cons (pv 3) pa_nil))) pa_nil)) pe_int (nomark _))))) (pss_one (ps_ret pe_bl)) pss_nil))))))
      (pss_cons (ps_if (pt_cmpR (op_neD hu) (pe_lc (own := [("_law_way", 3)]) (g := gName 3) (tt := tYes) (by rfl) sc__law_dots_right.nd (pi_tup (pe_tup (pa_cons pe_int (pa_cons pe_int (pa_cons pe_int (pa_cons pe_int pa_nil)))))) (blkOk_by (own := [("_law_way", 3)]) (N := ["_law_told", "_law_shown", "_law_dots", "_law_way", "_law_found", "_law_cut", "_law_bad"]) (sc := (defScope s__law_dots_right)) (by decide +kernel)) (fun _ _ _ _ _ => (pg_name (i := 3) sc__law_dots_right.nd rfl (Or.inl rfl))) (fun _ _ _ _ _ => pts_nil) (fun _ _ _ _ _ => (pe_call (ok_turned T) (hr.mono (by decide)) (by rfl) T.g_turned T.F_turned.kp T.b_turned .nil pass0 (pa_cons (pv 2) (pa_cons (pv 3) pa_nil))))) (pe_lst (pa_cons (pe_lst (pa_cons pe_int (pa_cons pe_int (pa_cons pe_int pa_nil)))) (pa_cons (pe_lst (pa_cons pe_int (pa_cons pe_int (pa_cons pe_int pa_nil)))) (pa_cons (pe_lst (pa_cons pe_int (pa_cons pe_int (pa_cons pe_int pa_nil)))) (pa_cons (pe_lst (pa_cons pe_int (pa_cons pe_int (pa_cons pe_int pa_nil)))) pa_nil))))) (nomark _)) (pss_one (ps_ret pe_bl)) pss_nil)
      (pss_cons (ps_set (i := 5) sc__law_dots_right.nd rfl (.inl rfl) (pe_call (ok_without_corner T) (hr.mono (by decide)) (by rfl) T.g_without_corner T.F_without_corner.kp T.b_without_corner .nil pass0 (pa_cons (pe_lst (pa_cons pe_int (pa_cons pe_int (pa_cons pe_int pa_nil)))) pa_nil)))
      (pss_cons (ps_expr (pe_bm PySem.F.plainAttrs_list PySem.F.slot_list_append PySem.F.type_list_append mt_append (pv 5) (pa_cons pe_int pa_nil)))
      (pss_cons (ps_if (PW.pt (pw_or (pt_cmpR (op_neL hu) (pe_call (ok_without_corner T) (hr.mono (by decide)) (by rfl) T.g_without_corner T.F_without_corner.kp T.b_without_corner .nil pass0 (pa_cons (pe_lst (pa_cons pe_int (pa_cons pe_int (pa_cons pe_int pa_nil)))) pa_nil)) (pe_lst (pa_cons pe_int (pa_cons pe_int pa_nil))) (nomark _)) (pw_or1 (pt_cmpR (op_neL hu) (pe_call (ok_without_corner T) (hr.mono (by decide)) (by rfl) T.g_without_corner T.F_without_corner.kp T.b_without_corner .nil pass0 (pa_cons (pe_lst (pa_cons pe_int (pa_cons pe_int pa_nil))) pa_nil)) (pe_lst (pa_cons pe_int pa_nil)) (nomark _))))) (pss_one (ps_ret pe_bl)) pss_nil)
      (pss_one (ps_ret (pe_callB (cr_all rfl) (by rfl) T.m_all (by decide +kernel) (pa_cons (pe_lc (own := [("_law_bad", 6)]) (g := gName 6) (tt := tYes) (by rfl) sc__law_dots_right.nd (pi_list (pe_lst (pa_cons (pe_lst (pa_cons pe_int pa_nil)) (pa_cons (pe_lst (pa_cons pe_int (pa_cons pe_int pa_nil))) (pa_cons (pe_lst (pa_cons pe_int (pa_cons pe_int (pa_cons pe_int pa_nil)))) pa_nil))))) (blkOk_by (own := [("_law_bad", 6)]) (N := ["_law_told", "_law_shown", "_law_dots", "_law_way", "_law_found", "_law_cut", "_law_bad"]) (sc := (defScope s__law_dots_right)) (by decide +kernel)) (fun _ _ _ _ _ => (pg_name (i := 6) sc__law_dots_right.nd rfl (Or.inl rfl))) (fun _ _ _ _ _ => pts_nil) (fun _ _ _ _ _ => (pe_call (sp := spRefused P w K mg base fa) (ok__law_refused (P := P) (w := w) (base := base) T) (hr.mono (by decide)) (by rfl) T.g__law_refused T.F__law_refused.kp T.b__law_refused .nil pass0 (pa_cons (Hx.pe_lam0 ((("_law_dots_right" : Str) ++ ".<locals>.") ++ "<lambda>") TB rfl hTm rfl rfl hTu rfl (by decide +kernel)) (pa_cons (pv 6) (pa_cons pe_int pa_nil)))))) pa_nil))))))))))))))))))), ?_⟩
    have s0 := Same.refl H
    refine ⟨by show 1 ≤ sizeLine; decide, fun l1 v1 => ⟨l1, [0], rfl, upd_same, perm_dots (n := 1) (by decide) (by decide) (by decide), fun H1 x1 y1 a1 t1 h1 => ?_, fun i j d H' x j1 j2 j3 e t h => absurd e (apt_by (ns := zof [0]) (by decide +kernel) d i j j1 j2 j3)⟩⟩
    refine ⟨_, _, _, _, true, rfl, .own _, T.in_Apart.ty h1, T.ki_Apart_Apart, true, rfl, iteF ?_⟩
    have z2 := (s0.trans (same_upd (o := .lst [V.int 0]) v1)).trans t1
    refine ⟨by show 2 ≤ sizeLine; decide, fun l3 v3 => ⟨l3, [0, 1], rfl, upd_same, perm_dots (n := 2) (by decide) (by decide) (by decide), fun H3 x3 y3 a3 t3 h3 => ?_, fun i j d H' x j1 j2 j3 e t h => absurd e (apt_by (ns := zof [0, 1]) (by decide +kernel) d i j j1 j2 j3)⟩⟩
    refine ⟨_, _, _, _, true, rfl, .own _, T.in_Apart.ty h3, T.ki_Apart_Apart, true, rfl, iteF ?_⟩
    have z4 := (z2.trans (same_upd (o := .lst [V.int 0, V.int 1]) v3)).trans t3
    refine ⟨by show 3 ≤ sizeLine; decide, fun l5 v5 => ⟨l5, [0, 1, 2], rfl, upd_same, perm_dots (n := 3) (by decide) (by decide) (by decide), fun H' x y a t h => absurd a (not_apt (ns := zof [0, 1, 2]) (i := 0) (j := 1) (d := 1) (by decide) (by decide) (by decide) (by decide)), fun i5 j5 d5 H5 x5 a5 b5 c5 e5 t5 h5 => ?_⟩⟩
    obtain ⟨y5, h5⟩ := h5
    refine ⟨_, _, _, _, true, rfl, .own _, T.in_Same.ty h5, T.ki_Same_Same, true, rfl, iteF ?_⟩
    have z6 := (z4.trans (same_upd (o := .lst [V.int 0, V.int 1, V.int 2]) v5)).trans t5
    refine ⟨by show 3 ≤ sizeLine; decide, fun l7 v7 => ⟨l7, [0, 1, 2], rfl, upd_same, perm_dots (n := 3) (by decide) (by decide) (by decide), fun H' x y a t h => absurd a (not_apt (ns := zof [0, 1, 2]) (i := 0) (j := 1) (d := 1) (by decide) (by decide) (by decide) (by decide)), fun i0 j0 d0 HT x0 a0 b0 c0 e0 t0 h0 => ?_⟩⟩
    obtain ⟨y0, h0⟩ := h0
    have ijd : i0 = 0 ∧ j0 = 1 ∧ d0 = 1 := by have c1 : j0 + d0 < 3 := c0; omega
    obtain ⟨rfl, rfl, rfl⟩ := ijd
    have z8 := (z6.trans (same_upd (o := .lst [V.int 0, V.int 1, V.int 2]) v7)).trans t0
    refine ⟨_, rfl, x0, y0, _, rfl, h0, rfl, by show 3 ≤ sizeLine; decide, fun l9 v9 => ⟨x0, l9, [0, 1, 2], 0, 1, 1, rfl, ⟨y0, same_upd v9 _ _ h0⟩, .of upd_same, by decide, fun b9 k9 => ?_⟩⟩
    obtain rfl : b9 = true := bt_of k9 (by unfold Sow; decide)
    have r9 := same_upd (o := .lst [V.int 0, V.int 1, V.int 2]) v9
    refine fun x10 y10 f10 g10 e10 => ⟨x10, y10, [], rfl, upd_same, rfl, by show 3 ≤ sizeLine; decide, fun l10 v10 => ⟨x10, l10, [0, 1, 2], rfl, .of upd_same, by decide, fun b10 H10 h10 t10 => ?_⟩⟩
    obtain rfl : b10 = false := bf_of h10 (not_apt (i := 0) (j := 1) (d := 1) (by decide) (by decide) (by decide) (by decide))
    have z11 := ((r9.trans (same_made (o := .ins (fa 45) y10 []) f10 g10)).trans (same_upd (o := .lst [V.int 0, V.int 1, V.int 2]) v10)).trans t10
    refine fun x12 y12 f12 g12 e12 => ⟨x12, y12, 0, 1, 1, rfl, upd_same, rfl, ?_⟩
    rw [upd_upd]
    refine ⟨x12, y12, _, rfl, upd_same, rfl, by show 3 ≤ sizeLine; decide, fun l12 v12 => ⟨x12, l12, [0, 1, 2], 0, 1, 1, rfl, ⟨y12, same_upd v12 _ _ upd_same⟩, .of upd_same, by decide, fun b12 h12 => ?_⟩⟩
    obtain rfl : b12 = true := bt_of h12 (by unfold Sow; decide)
    refine ⟨by show 3 ≤ sizeLine; decide, fun sh1 nsh1 => ?_⟩
    have z13 := (z11.trans (same_made (o := .ins (fa 46) y12 [("first", .int 0), ("second", .int 1), ("across", .int 1)]) f12 g12)).trans (same_upd (o := .lst [V.int 0, V.int 1, V.int 2]) v12)
    have z14 := z13.trans (same_upd (o := .lst [V.bl true, V.bl false, V.bl true]) nsh1)
    refine ⟨_, rfl, fun x15 y15 f15 g15 e15 => ⟨x15, y15, 0, 2, 1, rfl, upd_same, rfl, ?_⟩⟩
    rw [upd_upd]
    have r15 := same_made (o := .ins (fa 46) y15 [("first", .int 0), ("second", .int 2), ("across", .int 1)]) f15 g15
    refine ⟨x15, y15, _, rfl, upd_same, rfl, by show 3 ≤ sizeLine; decide, fun l15 v15 => ⟨x15, l15, [0, 1, 2], 0, 2, 1, rfl, ⟨y15, same_upd v15 _ _ upd_same⟩, .of upd_same, by decide, fun b15 h15 => ?_⟩⟩
    obtain rfl : b15 = false := bf_of h15 (by unfold Sow; decide)
    have r15' := r15.trans (same_upd (o := .lst [V.int 0, V.int 1, V.int 2]) v15)
    refine ⟨by show 1 ≤ sizeLine; decide, fun sh2 nsh2 => ⟨sh1, sh2, _, _, rfl, rfl, (r15'.trans (same_upd nsh2)) _ _ upd_same, upd_same, by show 4 ≤ sizeLine; decide, fun sh3 nsh3 => ?_⟩⟩
    have z16 := ((z14.trans r15').trans (same_upd (o := .lst [V.bl false]) nsh2)).trans (same_upd (o := .lst [V.bl true, V.bl false, V.bl true, V.bl false]) nsh3)
    refine ⟨_, rfl, sh3, [true, false, true, false], rfl, upd_same, by decide, fun H17 t17 => ⟨_, rfl, iteF ?_⟩⟩
    refine ⟨_, rfl, by show 4 ≤ sizeLine; decide, fun l17 v17 => ⟨_, _, dpB (bs := [true, false, true, false]) ((t17.trans (same_upd v17)) _ _ upd_same), dpB (bs := [true, false, true, false]) upd_same, shapedB _, shapedB _, _, rfl, ?_⟩⟩
    rw [PyData.eqv, eqv_bools, decide_eq_true rfl]
    refine iteF ?_
    have z18 := (z16.trans t17).trans (same_upd (o := .lst [V.bl true, V.bl false, V.bl true, V.bl false]) v17)
    have hx0 := z18 _ _ h0
    have cS := T.in_Same.cl
    refine ⟨_, rfl, x0, _, y0, _, _, rfl, hx0, cS, T.na_Same_first, rfl, _, rfl, x0, _, y0, _, _, rfl, hx0, cS, T.na_Same_second, rfl, _, rfl, x0, _, y0, _, _, rfl, hx0, cS, T.na_Same_across, rfl, by show 3 ≤ sizeLine; decide, fun l19 v19 => ⟨.ref l19, rfl, .inr ⟨l19, _, rfl, upd_same, by show 3 ≤ 1000; decide, fun x hx => ?_⟩, fun H19 t19 => ⟨_, rfl, iteF ?_⟩⟩⟩
    · simp only [List.mem_cons, List.not_mem_nil, or_false] at hx
      rcases hx with rfl | rfl | rfl
      · exact .inl ⟨_, rfl⟩
      · exact .inl ⟨_, rfl⟩
      · exact .inl ⟨_, rfl⟩
    have z20 := (z18.trans (same_upd (o := .lst [V.int ((0 : Nat) : Int), V.int ((1 : Nat) : Int), V.int ((1 : Nat) : Int)]) v19)).trans t19
    refine fun x21 y21 f21 g21 e21 => ⟨x21, y21, 1, 0, 1, rfl, upd_same, rfl, ?_⟩
    rw [upd_upd]
    refine ⟨x21, y21, _, rfl, upd_same, rfl, by show 3 ≤ sizeLine; decide, fun l21 v21 => ⟨x21, l21, [0, 1, 2], 1, 0, 1, rfl, ⟨y21, same_upd v21 _ _ upd_same⟩, .of upd_same, by decide, fun b21 h21 => ?_⟩⟩
    obtain rfl : b21 = false := bf_of h21 (by unfold Sow; decide)
    refine ⟨_, rfl, iteF ?_⟩
    have z22 := (z20.trans (same_made (o := .ins (fa 46) y21 [("first", .int 1), ("second", .int 0), ("across", .int 1)]) f21 g21)).trans (same_upd (o := .lst [V.int 0, V.int 1, V.int 2]) v21)
    refine fun x23 y23 f23 g23 e23 => ⟨x23, y23, 0, 1, 2, rfl, upd_same, rfl, ?_⟩
    rw [upd_upd]
    refine ⟨x23, y23, _, rfl, upd_same, rfl, by show 3 ≤ sizeLine; decide, fun l23 v23 => ⟨x23, l23, [0, 1, 2], 0, 1, 2, rfl, ⟨y23, same_upd v23 _ _ upd_same⟩, .of upd_same, by decide, fun b23 h23 => ?_⟩⟩
    obtain rfl : b23 = false := bf_of h23 (by unfold Sow; decide)
    refine ⟨_, rfl, iteF ?_⟩
    have z24 := (z22.trans (same_made (o := .ins (fa 46) y23 [("first", .int 0), ("second", .int 1), ("across", .int 2)]) f23 g23)).trans (same_upd (o := .lst [V.int 0, V.int 1, V.int 2]) v23)
    refine ⟨_, rfl, fun x25 y25 f25 g25 e25 => ⟨x25, y25, (-1), 0, 1, rfl, upd_same, rfl, ?_⟩⟩
    rw [upd_upd]
    refine ⟨x25, y25, _, rfl, upd_same, rfl, by show 3 ≤ sizeLine; decide, fun l25 v25 => ⟨x25, l25, [0, 1, 2], (-1), 0, 1, rfl, ⟨y25, same_upd v25 _ _ upd_same⟩, .of upd_same, by decide, fun b25 h25 => ?_⟩⟩
    obtain rfl : b25 = false := bf_of h25 (by unfold Sow; decide)
    refine ⟨_, rfl, iteF ?_⟩
    have z26 := (z24.trans (same_made (o := .ins (fa 46) y25 [("first", .int (-1)), ("second", .int 0), ("across", .int 1)]) f25 g25)).trans (same_upd (o := .lst [V.int 0, V.int 1, V.int 2]) v25)
    refine fun x27 y27 f27 g27 e27 => ⟨x27, y27, 0, 0, 1, rfl, upd_same, rfl, ?_⟩
    rw [upd_upd]
    refine ⟨x27, y27, _, rfl, upd_same, rfl, by show 3 ≤ sizeLine; decide, fun l27 v27 => ⟨x27, l27, [0, 1, 2], 0, 0, 1, rfl, ⟨y27, same_upd v27 _ _ upd_same⟩, .of upd_same, by decide, fun b27 h27 => ?_⟩⟩
    obtain rfl : b27 = false := bf_of h27 (by unfold Sow; decide)
    refine ⟨_, rfl, iteF ?_⟩
    have z28 := (z26.trans (same_made (o := .ins (fa 46) y27 [("first", .int 0), ("second", .int 0), ("across", .int 1)]) f27 g27)).trans (same_upd (o := .lst [V.int 0, V.int 1, V.int 2]) v27)
    refine ⟨by show 3 ≤ sizeLine; decide, fun dl ndl => ?_⟩
    have sD := (z8.trans z28).trans (same_upd (o := .lst [V.int 2, V.int 0, V.int 1]) ndl)
    refine ⟨8, rfl, by decide, by decide, ?_⟩
    refine for_it (walk_range (lo := 0) (n := 8)) (fun i σ H' => Same H H' ∧ H' dl = some (.lst (nats [2, 0, 1])) ∧ ∃ y3 y4, σ = [some (.ref x0), some (.ref sh3), some (.ref dl), y3, y4, none, none]) ⟨sD, upd_same, none, none, rfl⟩ (fun _ _ _ _ _ => True.intro) (fun i x σ H2 H3 hi hP hY => ?_) (fun σ H2 hP => ?_)
    · obtain ⟨s2, hdl, y3, y4, rfl⟩ := hP
      obtain ⟨rfl, rfl⟩ := hY
      have D3 : Dots [2, 0, 1] := perm_dots (n := 3) (by decide) (by decide) (by decide)
      refine ⟨by show 1 ≤ sizeLine; decide, fun l1 w1 => ⟨_, rfl, l1, [0], i, by show [V.ref l1, V.int (0 + (i : Int))] = _; rw [Int.zero_add], upd_same, perm_dots (n := 1) (by decide) (by decide) (by decide), hi, fun H4 b4 s4 n4 h4 => ?_⟩⟩
      refine ⟨by show 1 ≤ sizeLine; decide, fun l2 w2 => ⟨b4, l2, zof (t2 1 i [0]), [0], rfl, rfl, sqz (same_upd w2 _ _ h4), .of upd_same, _, rfl, ?_⟩⟩
      rw [decide_eq_true (show zof (t2 1 i [0]) = [0] from one_turn i hi)]
      refine iteF ?_
      have s5 := ((same_upd (o := .lst [V.int 0]) w1).trans s4).trans (same_upd (o := .lst [V.int 0]) w2)
      refine ⟨_, rfl, _, rfl, dl, [2, 0, 1], i, by show [V.ref dl, V.int (0 + (i : Int))] = _; rw [Int.zero_add], s5 _ _ hdl, D3, hi, fun H6 b6 s6 n6 h6 => ?_⟩
      have ht3 := three_turn i hi
      refine ⟨b6, zof (t2 3 i [2, 0, 1]), rfl, sqz h6, by rw [zof_len, show (t2 3 i [2, 0, 1]).length = 3 from ht3.2]; decide, fun ns' p pm so np => ?_⟩
      refine ⟨by show 3 ≤ sizeLine; decide, fun l3 w3 => ⟨p, l3, ns', [0, 1, 2], rfl, rfl, .of (same_upd w3 _ _ upd_same), .of upd_same, _, rfl, ?_⟩⟩
      have e3 : ns' = [0, 1, 2] := sorted_range (n := 3) pm ht3.1 so
      rw [decide_eq_true e3]
      refine iteF ?_
      have s7 := ((s5.trans s6).trans (same_upd (o := .lst (ns'.map V.int)) np)).trans (same_upd (o := .lst [V.int 0, V.int 1, V.int 2]) w3)
      have hdl7 := s7 _ _ hdl
      refine ⟨_, rfl, _, rfl, dl, [2, 0, 1], i, by show [V.ref dl, V.int (0 + (i : Int))] = _; rw [Int.zero_add], hdl7, D3, hi, fun H8 b8 s8 n8 h8 => ?_⟩
      refine ⟨_, rfl, .inl ⟨rfl, _, .of h8⟩, b8, _, _, rfl, rfl, h8, ?_, ?_⟩
      · rw [nats_len]
        exact small1000 (by rw [show (t2 [2, 0, 1].length i [2, 0, 1]).length = 3 from ht3.2]; decide)
      have s9 : Same H (upd H8 b8 (.lst (nats (t2 3 i [2, 0, 1]) ++ [V.int 9]))) := same_acc ((s2.trans s7).trans s8) ((s2.trans s7).free n8)
      have nb : dl ≠ b8 := ne_of_none hdl7 n8
      have hdl9 : upd H8 b8 (.lst (nats (t2 3 i [2, 0, 1]) ++ [V.int 9])) dl = some (.lst (nats [2, 0, 1])) := (upd_ne nb).trans (s8 _ _ hdl7)
      generalize upd H8 b8 (.lst (nats (t2 3 i [2, 0, 1]) ++ [V.int 9])) = H9 at s9 hdl9 ⊢
      refine ⟨_, rfl, by show 3 ≤ sizeLine; decide, fun l4 w4 => ⟨dl, l4, [2, 0, 1], [2, 0, 1], rfl, rfl, .of (same_upd w4 _ _ hdl9), .of upd_same, _, rfl, ?_⟩⟩
      rw [decide_eq_true rfl]
      refine iteF ?_
      have s10 := same_upd (o := .lst [V.int 2, V.int 0, V.int 1]) w4
      refine ⟨_, rfl, _, rfl, dl, [2, 0, 1], i, by show [V.ref dl, V.int (0 + (i : Int))] = _; rw [Int.zero_add], s10 _ _ hdl9, D3, hi, fun H11 b11 s11 n11 h11 => ?_⟩
      refine ⟨b11, _, rfl, .inl (.of h11), rfl, _, rfl, iteN ?_ ?_⟩
      · rw [nats_len, show (t2 [2, 0, 1].length i [2, 0, 1]).length = 3 from ht3.2]
        rfl
      · exact ⟨(s9.trans s10).trans s11, (s10.trans s11) _ _ hdl9, _, _, rfl⟩
    obtain ⟨s2, hdl, y3, y4, rfl⟩ := hP
    refine ⟨by show 4 ≤ sizeLine; decide, fun tw wtw => ⟨tw, rfl, ⟨_, .of upd_same⟩, fun D nD => ?_⟩⟩
    have stw := same_upd (o := .tup [V.int 0, V.int 1, V.int 2, V.int 4]) wtw
    have htw : upd H2 tw (.tup [V.int 0, V.int 1, V.int 2, V.int 4]) tw = some (.tup [V.int 0, V.int 1, V.int 2, V.int 4]) := upd_same
    generalize upd H2 tw (.tup [V.int 0, V.int 1, V.int 2, V.int 4]) = HW at stw htw nD ⊢
    have eD : tw ≠ D := ne_of_none htw nD
    have fD := (s2.trans stw).free nD
    have dlD : dl ≠ D := ne_of_none (stw _ _ hdl) nD
    refine lc_it (walk_tup (xs := [V.int 0, V.int 1, V.int 2, V.int 4])) (fun i H' => Same H H' ∧ H' tw = some (.tup [V.int 0, V.int 1, V.int 2, V.int 4]) ∧ H' dl = some (.lst (nats [2, 0, 1])) ∧ ∃ xs : List V, H' D = some (.lst xs) ∧ xs.length = i ∧ ∀ k w, k < i → [0, 1, 2, 4][k]? = some w → ∃ r, xs[k]? = some (.ref r) ∧ r ≠ D ∧ H' r = some (.lst (nats (t2 3 w [2, 0, 1])))) ⟨(s2.trans stw).trans (same_upd nD), same_upd nD _ _ htw, same_upd nD _ _ (stw _ _ hdl), [], upd_same, rfl, fun k w hk => absurd hk (Nat.not_lt_zero k)⟩ (fun i H' _ hP => .of hP.2.1) (fun i x H8 H9 hi hP hY => ?_) (fun H8 hP => ?_)
    · obtain ⟨s8, ht8, hd8, xs, hD, hl, hx⟩ := hP
      obtain ⟨rfl, hxi⟩ := hY
      have hi4 : i < 4 := hi
      obtain ⟨w, hw8, hwi, rfl⟩ : ∃ w : Nat, w < 8 ∧ [0, 1, 2, 4][i]? = some w ∧ x = .int (w : Int) := by
        rcases (show i = 0 ∨ i = 1 ∨ i = 2 ∨ i = 3 by omega) with rfl | rfl | rfl | rfl
        · exact ⟨0, by decide, rfl, (Option.some.inj hxi).symm⟩
        · exact ⟨1, by decide, rfl, (Option.some.inj hxi).symm⟩
        · exact ⟨2, by decide, rfl, (Option.some.inj hxi).symm⟩
        · exact ⟨4, by decide, rfl, (Option.some.inj hxi).symm⟩
      refine ⟨rfl, ?_⟩
      refine ⟨_, rfl, _, rfl, dl, [2, 0, 1], w, rfl, hd8, perm_dots (n := 3) (by decide) (by decide) (by decide), hw8, fun H10 b10 s10 n10 h10 => ?_⟩
      have ne10 : b10 ≠ D := fun z => by rw [z, hD] at n10; cases n10
      refine ⟨xs, s10 _ _ hD, small1000 (by omega), same_acc (s8.trans s10) fD, (upd_ne eD).trans (s10 _ _ ht8), (upd_ne dlD).trans (s10 _ _ hd8), xs ++ [.ref b10], upd_same, by rw [List.length_append, hl]; rfl, fun k w' hk hkw => ?_⟩
      by_cases z : k = i
      · rw [z, hwi] at hkw
        cases hkw
        rw [z]
        exact ⟨b10, by rw [List.getElem?_append_right (by omega), hl, Nat.sub_self]; rfl, ne10, by rw [upd_ne ne10]; exact h10⟩
      · obtain ⟨r, r1, r2, r3⟩ := hx k w' (by omega) hkw
        exact ⟨r, by rw [List.getElem?_append_left (by omega)]; exact r1, r2, by rw [upd_ne r2]; exact s10 _ _ r3⟩
    obtain ⟨s8, _, _, xs, hD, hl, hx⟩ := hP
    refine ⟨by show 3 ≤ sizeLine; decide, fun t30 w30 => ?_⟩
    have u30 := same_upd (o := .lst [V.int 2, V.int 0, V.int 1]) w30
    have v30 : upd H8 t30 (.lst [V.int 2, V.int 0, V.int 1]) t30 = some (.lst (nats [2, 0, 1])) := upd_same
    generalize upd H8 t30 (.lst [V.int 2, V.int 0, V.int 1]) = G30 at u30 v30 ⊢
    refine ⟨by show 3 ≤ sizeLine; decide, fun t31 w31 => ?_⟩
    have u31 := same_upd (o := .lst [V.int 1, V.int 0, V.int 2]) w31
    have v31 : upd G30 t31 (.lst [V.int 1, V.int 0, V.int 2]) t31 = some (.lst (nats [1, 0, 2])) := upd_same
    generalize upd G30 t31 (.lst [V.int 1, V.int 0, V.int 2]) = G31 at u31 v31 ⊢
    refine ⟨by show 3 ≤ sizeLine; decide, fun t32 w32 => ?_⟩
    have u32 := same_upd (o := .lst [V.int 0, V.int 2, V.int 1]) w32
    have v32 : upd G31 t32 (.lst [V.int 0, V.int 2, V.int 1]) t32 = some (.lst (nats [0, 2, 1])) := upd_same
    generalize upd G31 t32 (.lst [V.int 0, V.int 2, V.int 1]) = G32 at u32 v32 ⊢
    refine ⟨by show 3 ≤ sizeLine; decide, fun t33 w33 => ?_⟩
    have u33 := same_upd (o := .lst [V.int 1, V.int 2, V.int 0]) w33
    have v33 : upd G32 t33 (.lst [V.int 1, V.int 2, V.int 0]) t33 = some (.lst (nats [1, 2, 0])) := upd_same
    generalize upd G32 t33 (.lst [V.int 1, V.int 2, V.int 0]) = G33 at u33 v33 ⊢
    refine ⟨by show 4 ≤ sizeLine; decide, fun t34 w34 => ?_⟩
    have u34 := same_upd (o := .lst [V.ref t30, V.ref t31, V.ref t32, V.ref t33]) w34
    have v34 : upd G33 t34 (.lst [V.ref t30, V.ref t31, V.ref t32, V.ref t33]) t34 = some (.lst [V.ref t30, V.ref t31, V.ref t32, V.ref t33]) := upd_same
    generalize upd G33 t34 (.lst [V.ref t30, V.ref t31, V.ref t32, V.ref t33]) = G34 at u34 v34 ⊢
    have s9 := ((((((Same.refl H8).trans u30).trans u31).trans u32).trans u33).trans u34)
    have dA : Dp K G34 (.ref D) (.list ([[2, 0, 1], [1, 0, 2], [0, 2, 1], [1, 2, 0]].map fun os => PyData.list ((zof os).map PyData.int))) := .lst (.of (s9 _ _ hD)) (dp_lists (paired_of hl fun k os hk => by
      have hk8 : k < 4 := (List.getElem?_eq_some_iff.mp hk).1
      rcases (show k = 0 ∨ k = 1 ∨ k = 2 ∨ k = 3 by omega) with rfl | rfl | rfl | rfl
      · obtain ⟨r, r1, _, r3⟩ := hx 0 0 (by decide) rfl
        exact ⟨r, r1, (s9 _ _ r3).trans (by rw [← Option.some.inj hk]; exact congrArg (fun z => some (HO.lst (nats z))) (by decide +kernel))⟩
      · obtain ⟨r, r1, _, r3⟩ := hx 1 1 (by decide) rfl
        exact ⟨r, r1, (s9 _ _ r3).trans (by rw [← Option.some.inj hk]; exact congrArg (fun z => some (HO.lst (nats z))) (by decide +kernel))⟩
      · obtain ⟨r, r1, _, r3⟩ := hx 2 2 (by decide) rfl
        exact ⟨r, r1, (s9 _ _ r3).trans (by rw [← Option.some.inj hk]; exact congrArg (fun z => some (HO.lst (nats z))) (by decide +kernel))⟩
      · obtain ⟨r, r1, _, r3⟩ := hx 3 4 (by decide) rfl
        exact ⟨r, r1, (s9 _ _ r3).trans (by rw [← Option.some.inj hk]; exact congrArg (fun z => some (HO.lst (nats z))) (by decide +kernel))⟩
      ))
    have dB : Dp K G34 (.ref t34) (.list ([[2, 0, 1], [1, 0, 2], [0, 2, 1], [1, 2, 0]].map fun os => PyData.list ((zof os).map PyData.int))) := .lst (.of v34) (dp_lists (.cons ⟨t30, rfl, u34 _ _ (u33 _ _ (u32 _ _ (u31 _ _ (v30))))⟩ (.cons ⟨t31, rfl, u34 _ _ (u33 _ _ (u32 _ _ (v31)))⟩ (.cons ⟨t32, rfl, u34 _ _ (u33 _ _ (v32))⟩ (.cons ⟨t33, rfl, u34 _ _ (v33)⟩ (.nil))))))
    refine ⟨_, _, dA, dB, by decide +kernel, by decide +kernel, _, rfl, ?_⟩
    rw [show PyData.eqv (.list ([[2, 0, 1], [1, 0, 2], [0, 2, 1], [1, 2, 0]].map fun os => PyData.list ((zof os).map PyData.int))) (.list ([[2, 0, 1], [1, 0, 2], [0, 2, 1], [1, 2, 0]].map fun os => PyData.list ((zof os).map PyData.int))) = true by decide +kernel]
    refine iteF ?_
    have z35 := s8.trans s9
    refine ⟨by show 3 ≤ sizeLine; decide, fun l36 v36 => ⟨l36, [2, 1], rfl, upd_same, perm_dots (n := 3) (by decide) (by decide) (by decide), by decide, fun H36 d36 t36 m36 h36 => ?_⟩⟩
    have sC := (z35.trans (same_upd (o := .lst [V.int 0, V.int 2, V.int 1]) v36)).trans t36
    refine ⟨_, rfl, .inl ⟨rfl, _, .of h36⟩, d36, _, _, rfl, rfl, h36, small1000 (by decide), ?_⟩
    have sE : Same H (upd H36 d36 (.lst (nats [1, 0] ++ [V.int 9]))) := same_acc sC ((z35.trans (same_upd (o := .lst [V.int 0, V.int 2, V.int 1]) v36)).free m36)
    refine ⟨by show 3 ≤ sizeLine; decide, fun l37 v37 => ⟨l37, [2, 1], rfl, upd_same, perm_dots (n := 3) (by decide) (by decide) (by decide), by decide, fun H37 d37 t37 m37 h37 => ⟨by show 2 ≤ sizeLine; decide, fun e37 w37 => ⟨d37, e37, zof ([2, 1].map fun r => r - 1), [1, 0], rfl, rfl, sqz (same_upd w37 _ _ h37), .of upd_same, _, rfl, ?_⟩⟩⟩⟩
    rw [decide_eq_true (show zof (([2, 1] : List Nat).map fun r => r - 1) = [1, 0] by decide +kernel)]
    refine iteF ?_
    have z38 := ((sE.trans (same_upd (o := .lst [V.int 0, V.int 2, V.int 1]) v37)).trans t37).trans (same_upd (o := .lst [V.int 1, V.int 0]) w37)
    refine ⟨by show 2 ≤ sizeLine; decide, fun l39 v39 => ⟨l39, [1], rfl, upd_same, perm_dots (n := 2) (by decide) (by decide) (by decide), by decide, fun H39 d39 t39 m39 h39 => ⟨by show 1 ≤ sizeLine; decide, fun e39 w39 => ⟨d39, e39, zof ([1].map fun r => r - 1), [0], rfl, rfl, sqz (same_upd w39 _ _ h39), .of upd_same, _, rfl, ?_⟩⟩⟩⟩
    rw [decide_eq_true (show zof (([1] : List Nat).map fun r => r - 1) = [0] by decide +kernel)]
    refine iteF ?_
    have z40 := ((z38.trans (same_upd (o := .lst [V.int 0, V.int 1]) v39)).trans t39).trans (same_upd (o := .lst [V.int 0]) w39)
    have sF := z40
    generalize upd H39 e39 (.lst [V.int 0]) = G at sF ⊢
    refine ⟨by show 1 ≤ sizeLine; decide, fun t41 w41 => ?_⟩
    have u41 := same_upd (o := .lst [V.int 0]) w41
    have v41 : upd G t41 (.lst [V.int 0]) t41 = some (.lst (nats [0])) := upd_same
    generalize upd G t41 (.lst [V.int 0]) = G41 at u41 v41 ⊢
    refine ⟨by show 2 ≤ sizeLine; decide, fun t42 w42 => ?_⟩
    have u42 := same_upd (o := .lst [V.int 1, V.int 0]) w42
    have v42 : upd G41 t42 (.lst [V.int 1, V.int 0]) t42 = some (.lst (nats [1, 0])) := upd_same
    generalize upd G41 t42 (.lst [V.int 1, V.int 0]) = G42 at u42 v42 ⊢
    refine ⟨by show 3 ≤ sizeLine; decide, fun t43 w43 => ?_⟩
    have u43 := same_upd (o := .lst [V.int 2, V.int 0, V.int 1]) w43
    have v43 : upd G42 t43 (.lst [V.int 2, V.int 0, V.int 1]) t43 = some (.lst (nats [2, 0, 1])) := upd_same
    generalize upd G42 t43 (.lst [V.int 2, V.int 0, V.int 1]) = G43 at u43 v43 ⊢
    refine ⟨by show 3 ≤ sizeLine; decide, fun t44 w44 => ?_⟩
    have u44 := same_upd (o := .lst [V.ref t41, V.ref t42, V.ref t43]) w44
    have v44 : upd G43 t44 (.lst [V.ref t41, V.ref t42, V.ref t43]) t44 = some (.lst [V.ref t41, V.ref t42, V.ref t43]) := upd_same
    generalize upd G43 t44 (.lst [V.ref t41, V.ref t42, V.ref t43]) = G44 at u44 v44 ⊢
    have TF : NdefX.TabsN (TL P1 P2 P3) G44 := hT.ext ((((sF.trans u41).trans u42).trans u43).trans u44)
    have c41 := u44 _ _ (u43 _ _ (u42 _ _ (v41)))
    have c42 := u44 _ _ (u43 _ _ (v42))
    have c43 := u44 _ _ (v43)
    refine ⟨t44, rfl, ⟨_, .of v44⟩, fun D nD => ?_⟩
    have sND := same_upd (o := .lst []) nD
    refine lc_it (walk_list (xs := [V.ref t41, V.ref t42, V.ref t43])) (fun i H' => NdefX.TabsN (TL P1 P2 P3) H' ∧ LamX.ExtN G44 H' ∧ H' D = some (.lst ((List.replicate i true).map V.bl))) ⟨TF.ext sND, extN_same sND, upd_same⟩ (fun i H' _ hP => .of (hP.2.1 _ _ v44 (fun _ z => nomatch z))) (fun i x H12 H13 hi hP hY => ?_) (fun H12 hP => ?_)
    · obtain ⟨T12, e12, hD⟩ := hP
      obtain ⟨rfl, hx⟩ := hY
      have hi3 : i < 3 := hi
      refine ⟨rfl, T12, fun f c H14 e14 n14 T14 nf hf hc => ⟨_, rfl, ?_⟩⟩
      obtain ⟨a, o, os, rfl, ha, Dt, ho⟩ : ∃ (a : Addr) (o : Nat) (os : List Nat), x = .ref a ∧ G44 a = some (.lst (nats (o :: os))) ∧ Dots (o :: os) ∧ (o ≠ 0 ∨ os = []) := by
        rcases (show i = 0 ∨ i = 1 ∨ i = 2 by omega) with rfl | rfl | rfl
        · exact ⟨t41, 0, [], (Option.some.inj hx).symm, c41, perm_dots (n := 1) (by decide) (by decide) (by decide), .inr rfl⟩
        · exact ⟨t42, 1, [0], (Option.some.inj hx).symm, c42, perm_dots (n := 2) (by decide) (by decide) (by decide), .inl (by decide)⟩
        · exact ⟨t43, 2, [0, 1], (Option.some.inj hx).symm, c43, perm_dots (n := 3) (by decide) (by decide) (by decide), .inl (by decide)⟩
      have ha14 := e14 _ _ (e12 _ _ ha (fun _ z => nomatch z)) (fun _ z => nomatch z)
      have a0 : Hx.AskR P w K mg base 6 H14 f (V.ref a) (fa 43) := Hx.ask_of (k := 5) (NdefX.nscope_by (by dsimp only; decide +kernel)) (fun _ _ us h => match us, h with | [_], _ => rfl) rfl hf hc fun A outer s H1 hr e1 => ⟨_, (pe_callS (xok_without_corner T) (hr.mono (by decide)) (by rfl) T.g_without_corner T.F_without_corner.kp T.b_without_corner (L2N.passAt (L2N.takes_of rfl rfl rfl rfl)) (pa_cons (pv 0) pa_nil)), ⟨_, rfl, .ref a, rfl, .inr ⟨a, o, os, rfl, e1 _ _ ha14 (fun _ z => nomatch z), Dt, ho, fun H2 s2 => ⟨rfl, rfl, s2⟩⟩⟩⟩
      refine ⟨f, .ref a, 8, by decide, rfl, a0, fun H15 s15 => ⟨_, s15 _ _ (e14 _ _ hD (fun _ z => nomatch z)), ?_, tab_acc (T14.ext s15) ?_, ?_, ?_⟩⟩
      · rw [List.length_map, List.length_replicate]
        exact small1000 (by omega)
      · exact ⟨_, s15 _ _ (e14 _ _ hD (fun _ z => nomatch z))⟩
      · exact ext_acc ((e12.trans e14).trans (extN_same s15)) nD
      · rw [upd_same, List.replicate_succ', List.map_append]
        rfl
    obtain ⟨T12, e12, hD⟩ := hP
    exact ⟨D, _, rfl, .of hD, q _ T12⟩
end
end Lw
namespace Lw
open PySem PySem.Spec PyProof.Rows L2 AD
section
variable {P : Program} {w : World} {K : PySem.W.Frag} {mg : Str → Option Value} {base : Heap}
variable {fa : Nat → Addr} {fd : Nat → FuncData} {tk : Nat → Tok}
def R60 : List V := nats (List.range 60)
theorem R60_len : R60.length = 60 := by unfold R60; rw [nats_len, List.length_range]
theorem dots1 : Dots [0] := ⟨List.Perm.refl _, by decide, by decide⟩
theorem cut_to (xs : List V) (k : Nat) : cutV xs none (some (k : Int)) = xs.take k := by
  unfold cutV
  rw [HT.sIx_none, HT.sIx_nat, List.drop_zero, Nat.sub_zero, ← List.take_eq_take_min]
theorem cut_from (xs : List V) (k : Nat) (h : k ≤ xs.length) : cutV xs (some (k : Int)) none = xs.drop k := by
  unfold cutV
  rw [HT.sIx_none, HT.sIx_nat, Nat.min_eq_left h, List.take_of_length_le (by rw [List.length_drop]; exact Nat.le_refl _)]
theorem spot_at {sp : Nat} (h : sp < 60) : ∃ b : Nat, b ≠ sp ∧ atI R60 ((sp : Int) - 1) = some (.int (b : Int)) := by
  by_cases z : sp = 0
  · subst z
    exact ⟨59, by decide, rfl⟩
  · refine ⟨sp - 1, by omega, ?_⟩
    rw [show (sp : Int) - 1 = ((sp - 1 : Nat) : Int) by omega]
    unfold R60
    rw [atI_nats (by rw [List.length_range]; omega), List.getElem_range]
/-- sixty rows, one of them bad -/
theorem bad_row {H : Hp} {sp : Nat} {b : V} {a : Addr} (hsp : sp < 60) (hb : (∃ i : Int, b = .int i ∧ i ≠ (sp : Int)) ∨ NW K H b) (ha : H a = some (.lst ((cutV R60 none (some (sp : Int)) ++ [b]) ++ cutV R60 (some ((sp : Int) + 1)) none))) : BadD K H (.ref a) := by
  have h60 : R60.length = 60 := R60_len
  rw [cut_to, show ((sp : Int) + 1) = ((sp + 1 : Nat) : Int) by omega, cut_from _ _ (by rw [h60]; omega)] at ha
  have hlen : ((R60.take sp ++ [b]) ++ R60.drop (sp + 1)).length = 60 := by
    rw [List.length_append, List.length_append, List.length_take, List.length_drop, h60]
    show min sp 60 + 1 + (60 - (sp + 1)) = 60
    omega
  have hint : ∀ x ∈ R60, isInt x = true := fun x hx => by
    unfold R60 nats at hx
    obtain ⟨n, _, rfl⟩ := List.mem_map.mp hx
    rfl
  refine .inr ⟨a, _, rfl, ha, ?_⟩
  rcases hb with ⟨i, rfl, hi⟩ | hb
  · have hR : R60 = (zof (List.range 60)).map V.int := nats_ints _
    have e1 : (R60.take sp ++ [V.int i]) ++ R60.drop (sp + 1) = (((zof (List.range 60)).take sp ++ [i]) ++ (zof (List.range 60)).drop (sp + 1)).map V.int := by
      rw [List.map_append, List.map_append, List.map_take, List.map_drop, ← hR]
      rfl
    refine .inr (.inr ⟨_, e1, ?_, ?_, fun pm => ?_⟩)
    · have h := hlen
      rw [e1, List.length_map] at h
      omega
    · have h := hlen
      rw [e1, List.length_map] at h
      omega
    · have hl : (((zof (List.range 60)).take sp ++ [i]) ++ (zof (List.range 60)).drop (sp + 1)).length = 60 := by
        have h := hlen
        rw [e1, List.length_map] at h
        exact h
      rw [hl] at pm
      have hm : ((sp : Nat) : Int) ∈ zof (List.range 60) := List.mem_map.mpr ⟨sp, List.mem_range.mpr hsp, rfl⟩
      have hz : ∀ (k : Nat) (x : Int), (zof (List.range 60))[k]? = some x → x = (k : Int) := fun k x hk => by
        unfold zof at hk
        rw [List.getElem?_map] at hk
        cases e : (List.range 60)[k]? with
        | none => rw [e] at hk; cases hk
        | some y =>
          rw [e] at hk
          have h1 := List.getElem?_eq_some_iff.mp e
          obtain ⟨h2, h3⟩ := h1
          rw [List.getElem_range] at h3
          rw [h3]
          exact (Option.some.inj hk).symm
      rcases List.mem_append.mp (pm.symm.subset hm) with h | h
      · rcases List.mem_append.mp h with h | h
        · obtain ⟨k, hk⟩ := List.mem_iff_getElem?.mp h
          have hk1 : k < sp := by
            have := (List.getElem?_eq_some_iff.mp hk).1
            rw [List.length_take] at this
            omega
          rw [List.getElem?_take_of_lt hk1] at hk
          have := hz _ _ hk
          omega
        · exact hi (List.mem_singleton.mp h).symm
      · obtain ⟨k, hk⟩ := List.mem_iff_getElem?.mp h
        rw [List.getElem?_drop] at hk
        have := hz _ _ hk
        omega
  · refine .inr (.inl ⟨by omega, by omega, fun x hx => ?_, b, ?_, hb.1⟩)
    · rcases List.mem_append.mp hx with h | h
      · rcases List.mem_append.mp h with h | h
        · exact .inl (hint x (List.mem_of_mem_take h))
        · rw [List.mem_singleton.mp h]
          exact .inr hb
      · exact .inl (hint x (List.mem_of_mem_drop h))
    · exact List.mem_append_left _ (List.mem_append_right _ (List.mem_singleton.mpr rfl))
theorem ok__law_bad_right (T : Txt K mg fa fd tk) {cL P1 P2 P3 : Addr} (hcd : (fd 29).code = .ref cL) (TB : LamX.TabB base mg cL P3) (n13 : P1 ≠ P3) (n23 : P2 ≠ P3) : FnOk P w K mg base CX0 8 (fa 29) (fd 29) ["_law_whole"] (spKnown P1 P2 P3) := by
  have hTm : (P3, fun _ _ => (("_law_bad_right" : Str) ++ ".<locals>.") ++ "<lambda>") ∈ TL P1 P2 P3 := List.mem_cons_of_mem _ (List.mem_cons_of_mem _ List.mem_cons_self)
  have hTu : ∀ p ∈ TL P1 P2 P3, p.1 = P3 → p.2 = fun _ _ => (("_law_bad_right" : Str) ++ ".<locals>.") ++ "<lambda>" := fun p hp e => by
    simp only [TL, List.mem_cons, List.not_mem_nil, or_false] at hp
    rcases hp with rfl | rfl | rfl
    · exact absurd e n13
    · exact absurd e n23
    · rfl
  refine Hx.okC T.F__law_bad_right hcd sc__law_bad_right (fun vs H Q E h => ?_) (fun A outer s H vs Q E hr h => ?_)
  · obtain ⟨z, rfl, _⟩ := h
    rfl
  · obtain ⟨z, rfl, z0, hT, q⟩ := h
    have hu := hr.units
    refine ⟨_, (pss_cons (ps_set (i := 1) sc__law_bad_right.nd rfl (.inl rfl) (pe_listRg rfl (by rfl) T.m_list (prg_1 (by rfl) T.m_range pe_int)))
      (pss_cons (ps_for PassesOwn.never rfl (pi_list (pe_lst (pa_cons (pe_op op_mod (pv 0) pe_int) (pa_cons pe_int (pa_cons pe_int pa_nil))))) (pg_name (i := 2) sc__law_bad_right.nd rfl (.inl rfl)) (pss_one (ps_for PassesOwn.never rfl (pi_list (pe_lst (pa_cons (pe_ix ix_list (pv 1) (pe_op op_sub (pv 2) pe_int) (fun _ _ => rfl)) (pa_cons (pe_un un_neg pe_int) (pa_cons pe_int (pa_cons pe_bl (pa_cons pe_non (pa_cons pe_str pa_nil)))))))) (pg_name (i := 3) sc__law_bad_right.nd rfl (.inl rfl)) (pss_cons (ps_set (i := 4) sc__law_bad_right.nd rfl (.inr rfl) (pe_op op_cat (pe_op op_cat (pe_slice sl_list (pv 1) po_none (po_some (pv 2))) (pe_lst (pa_cons (pv 3) pa_nil))) (pe_slice sl_list (pv 1) (po_some (pe_op op_add (pv 2) pe_int)) po_none)))
      (pss_cons (ps_set (i := 5) sc__law_bad_right.nd rfl (.inl rfl) (pe_lst (pa_cons (Hx.pe_lam0 ((("_law_bad_right" : Str) ++ ".<locals>.") ++ "<lambda>") TB rfl hTm rfl rfl hTu rfl (by decide +kernel)) (pa_cons (Hx.pe_lam0 ((("_law_bad_right" : Str) ++ ".<locals>.") ++ "<lambda>") TB rfl hTm rfl rfl hTu rfl (by decide +kernel)) (pa_cons (Hx.pe_lam0 ((("_law_bad_right" : Str) ++ ".<locals>.") ++ "<lambda>") TB rfl hTm rfl rfl hTu rfl (by decide +kernel)) pa_nil)))))
      (pss_one (ps_if (pt_not (pt_val (pe_callB (cr_all rfl) (by rfl) T.m_all (by decide +kernel) (pa_cons (pe_lc (own := [("_law_ask", 6)]) (g := gName 6) (tt := tYes) (by rfl) sc__law_bad_right.nd (pi_list (pv 5)) (blkOk_by (own := [("_law_ask", 6)]) (N := ["_law_whole", "_law_rows", "_law_spot", "_law_bad", "_law_row", "_law_asks", "_law_ask"]) (sc := (defScope s__law_bad_right)) (by decide +kernel)) (fun _ _ _ _ _ => (pg_name (i := 6) sc__law_bad_right.nd rfl (Or.inl rfl))) (fun _ _ _ _ _ => pts_nil) (fun _ _ _ _ _ => (pe_call (sp := spRefused P w K mg base fa) (ok__law_refused (P := P) (w := w) (base := base) T) (hr.mono (by decide)) (by rfl) T.g__law_refused T.F__law_refused.kp T.b__law_refused .nil pass0 (pa_cons (pv 6) (pa_cons (pv 4) (pa_cons pe_int pa_nil)))))) pa_nil)))) (pss_one (ps_ret pe_bl)) pss_nil)))))))
      (pss_cons (ps_if (pt_not (pt_val (pe_call (sp := spRefused P w K mg base fa) (ok__law_refused (P := P) (w := w) (base := base) T) (hr.mono (by decide)) (by rfl) T.g__law_refused T.F__law_refused.kp T.b__law_refused .nil pass0 (pa_cons (Hx.pe_lam0 ((("_law_bad_right" : Str) ++ ".<locals>.") ++ "<lambda>") TB rfl hTm rfl rfl hTu rfl (by decide +kernel)) (pa_cons (pe_listRg rfl (by rfl) T.m_list (prg_1 (by rfl) T.m_range pe_int)) (pa_cons pe_int pa_nil)))))) (pss_one (ps_ret pe_bl)) pss_nil)
      (pss_cons (ps_if (pt_not (pt_val (pe_call (sp := spRefused P w K mg base fa) (ok__law_refused (P := P) (w := w) (base := base) T) (hr.mono (by decide)) (by rfl) T.g__law_refused T.F__law_refused.kp T.b__law_refused .nil pass0 (pa_cons (Hx.pe_lam0 ((("_law_bad_right" : Str) ++ ".<locals>.") ++ "<lambda>") TB rfl hTm rfl rfl hTu rfl (by decide +kernel)) (pa_cons pe_int (pa_cons pe_int pa_nil)))))) (pss_one (ps_ret pe_bl)) pss_nil)
      (pss_cons (ps_for PassesOwn.never rfl (pi_list (pe_lst (pa_cons pe_bl (pa_cons pe_non (pa_cons pe_str (pa_cons pe_int (pa_cons pe_int (pa_cons pe_int pa_nil)))))))) (pg_name (i := 3) sc__law_bad_right.nd rfl (.inl rfl)) (pss_one (ps_if (pt_not (pt_val (pe_call (sp := spRefused P w K mg base fa) (ok__law_refused (P := P) (w := w) (base := base) T) (hr.mono (by decide)) (by rfl) T.g__law_refused T.F__law_refused.kp T.b__law_refused .nil pass0 (pa_cons (Hx.pe_lam0 ((("_law_bad_right" : Str) ++ ".<locals>.") ++ "<lambda>") TB rfl hTm rfl rfl hTu rfl (by decide +kernel)) (pa_cons (pv 3) (pa_cons pe_int pa_nil)))))) (pss_one (ps_ret pe_bl)) pss_nil)))
      (pss_cons (ps_for PassesOwn.never rfl (pi_list (pe_lst (pa_cons pe_bl (pa_cons pe_non (pa_cons pe_str pa_nil))))) (pg_name (i := 3) sc__law_bad_right.nd rfl (.inl rfl)) (pss_cons (ps_if (pt_not (pt_val (pe_call (sp := spRefused P w K mg base fa) (ok__law_refused (P := P) (w := w) (base := base) T) (hr.mono (by decide)) (by rfl) T.g__law_refused T.F__law_refused.kp T.b__law_refused .nil pass0 (pa_cons (Hx.pe_lam0 ((("_law_bad_right" : Str) ++ ".<locals>.") ++ "<lambda>") TB rfl hTm rfl rfl hTu rfl (by decide +kernel)) (pa_cons (pv 3) (pa_cons pe_int pa_nil)))))) (pss_one (ps_ret pe_bl)) pss_nil)
      (pss_one (ps_if (pt_not (pt_val (pe_call (sp := spRefused P w K mg base fa) (ok__law_refused (P := P) (w := w) (base := base) T) (hr.mono (by decide)) (by rfl) T.g__law_refused T.F__law_refused.kp T.b__law_refused .nil pass0 (pa_cons (Hx.pe_lam0 ((("_law_bad_right" : Str) ++ ".<locals>.") ++ "<lambda>") TB rfl hTm rfl rfl hTu rfl (by decide +kernel)) (pa_cons (pv 3) (pa_cons pe_int pa_nil)))))) (pss_one (ps_ret pe_bl)) pss_nil))))
      (pss_cons (ps_for PassesOwn.never rfl (pi_list (pe_lst (pa_cons pe_bl (pa_cons (pe_un un_neg pe_int) (pa_cons pe_int (pa_cons pe_non pa_nil)))))) (pg_name (i := 3) sc__law_bad_right.nd rfl (.inl rfl)) (pss_cons (ps_if (pt_not (pt_val (pe_call (sp := spRefused P w K mg base fa) (ok__law_refused (P := P) (w := w) (base := base) T) (hr.mono (by decide)) (by rfl) T.g__law_refused T.F__law_refused.kp T.b__law_refused .nil pass0 (pa_cons (Hx.pe_lam0 ((("_law_bad_right" : Str) ++ ".<locals>.") ++ "<lambda>") TB rfl hTm rfl rfl hTu rfl (by decide +kernel)) (pa_cons (pv 3) (pa_cons pe_int pa_nil)))))) (pss_one (ps_ret pe_bl)) pss_nil)
      (pss_one (ps_if (pt_not (pt_val (pe_call (sp := spRefused P w K mg base fa) (ok__law_refused (P := P) (w := w) (base := base) T) (hr.mono (by decide)) (by rfl) T.g__law_refused T.F__law_refused.kp T.b__law_refused .nil pass0 (pa_cons (Hx.pe_lam0 ((("_law_bad_right" : Str) ++ ".<locals>.") ++ "<lambda>") TB rfl hTm rfl rfl hTu rfl (by decide +kernel)) (pa_cons (pv 3) (pa_cons pe_int pa_nil)))))) (pss_one (ps_ret pe_bl)) pss_nil))))
      (pss_cons (ps_for PassesOwn.never rfl (pi_list (pe_lst (pa_cons pe_bl (pa_cons pe_int (pa_cons pe_int (pa_cons pe_non pa_nil)))))) (pg_name (i := 3) sc__law_bad_right.nd rfl (.inl rfl)) (pss_one (ps_if (pt_not (pt_val (pe_call (sp := spRefused P w K mg base fa) (ok__law_refused (P := P) (w := w) (base := base) T) (hr.mono (by decide)) (by rfl) T.g__law_refused T.F__law_refused.kp T.b__law_refused .nil pass0 (pa_cons (Hx.pe_lam0 ((("_law_bad_right" : Str) ++ ".<locals>.") ++ "<lambda>") TB rfl hTm rfl rfl hTu rfl (by decide +kernel)) (pa_cons (pv 3) (pa_cons pe_int pa_nil)))))) (pss_one (ps_ret pe_bl)) pss_nil)))
      (pss_cons (ps_for PassesOwn.never rfl (pi_list (pe_lst (pa_cons pe_bl (pa_cons pe_int (pa_cons pe_int (pa_cons pe_non pa_nil)))))) (pg_name (i := 3) sc__law_bad_right.nd rfl (.inl rfl)) (pss_cons (ps_if (pt_not (pt_val (pe_call (sp := spRefused P w K mg base fa) (ok__law_refused (P := P) (w := w) (base := base) T) (hr.mono (by decide)) (by rfl) T.g__law_refused T.F__law_refused.kp T.b__law_refused .nil pass0 (pa_cons (Hx.pe_lam0 ((("_law_bad_right" : Str) ++ ".<locals>.") ++ "<lambda>") TB rfl hTm rfl rfl hTu rfl (by decide +kernel)) (pa_cons (pv 3) (pa_cons pe_int pa_nil)))))) (pss_one (ps_ret pe_bl)) pss_nil)
      (pss_one (ps_if (pt_not (pt_val (pe_call (sp := spRefused P w K mg base fa) (ok__law_refused (P := P) (w := w) (base := base) T) (hr.mono (by decide)) (by rfl) T.g__law_refused T.F__law_refused.kp T.b__law_refused .nil pass0 (pa_cons (Hx.pe_lam0 ((("_law_bad_right" : Str) ++ ".<locals>.") ++ "<lambda>") TB rfl hTm rfl rfl hTu rfl (by decide +kernel)) (pa_cons (pv 3) (pa_cons pe_int pa_nil)))))) (pss_one (ps_ret pe_bl)) pss_nil))))
      (pss_one (ps_ret (pe_callB call_isi (by rfl) T.m_isinstance (by decide +kernel) (pa_cons (pe_call (ok_judged T) (hr.mono (by decide)) (by rfl) T.g_judged T.F_judged.kp T.b_judged .nil pass0 (pa_cons (pv 1) pa_nil)) (pa_cons (pe_glob (v := .ref _) rfl T.g_Same rfl) pa_nil)))))))))))))), ?_⟩
    refine ⟨_, rfl, RgOk.of_le (by decide) (by decide) (by decide) (by decide), fun rl nrl => ?_⟩
    have u0 := same_upd (o := .lst (rgV 0 60)) nrl
    have hrl : upd H rl (.lst (rgV 0 60)) rl = some (.lst R60) := by rw [upd_same]; exact congrArg (fun y => some (HO.lst y)) (rgV_nats 60)
    generalize upd H rl (.lst (rgV 0 60)) = H0 at u0 hrl ⊢
    have T0 : NdefX.TabsN (TL P1 P2 P3) H0 := hT.ext u0
    refine ⟨_, rfl, _, _, rfl, rfl, (show (0 : Int) < 60 by decide), by show 3 ≤ sizeLine; decide, fun l0 nl0 => ⟨l0, rfl, ⟨_, .of upd_same⟩, ?_⟩⟩
    have u1 := same_upd (o := .lst [V.int (z % 60), V.int 59, V.int 0]) nl0
    refine for_it (walk_list (xs := [V.int (z % 60), V.int 59, V.int 0])) (fun i σ H' => NdefX.TabsN (TL P1 P2 P3) H' ∧ H' rl = some (.lst R60) ∧ H' l0 = some (.lst [V.int (z % 60), V.int 59, V.int 0]) ∧ ∃ y2 y3 y4 y5 y6, σ = [some (.int z), some (.ref rl), y2, y3, y4, y5, y6]) ⟨T0.ext u1, u1 _ _ hrl, upd_same, none, none, none, none, none, rfl⟩ (fun i σ H' _ hP => .of hP.2.2.1) (fun i x σ H2 H3 hi hP hY => ?_) (fun σ H2 hP => ?_)
    · obtain ⟨T2, hrl2, hl2, y2, y3, y4, y5, y6, rfl⟩ := hP
      obtain ⟨rfl, hx⟩ := hY
      obtain ⟨sp, hsp, rfl⟩ : ∃ sp : Nat, sp < 60 ∧ x = .int (sp : Int) := by
        have hi3 : i < 3 := hi
        rcases (show i = 0 ∨ i = 1 ∨ i = 2 by omega) with rfl | rfl | rfl
        · have z1 := Int.emod_nonneg z (show (60 : Int) ≠ 0 by decide)
          have z2 := Int.emod_lt_of_pos z (show (0 : Int) < 60 by decide)
          exact ⟨(z % 60).toNat, by omega, by rw [Int.toNat_of_nonneg z1]; exact (Option.some.inj hx).symm⟩
        · exact ⟨59, by decide, (Option.some.inj hx).symm⟩
        · exact ⟨0, by decide, (Option.some.inj hx).symm⟩
      obtain ⟨b0, hb0, ab0⟩ := spot_at hsp
      refine ⟨_, rfl, _, rfl, _, _, rfl, rfl, rl, _, _, _, rfl, rfl, .of hrl2, ab0, _, rfl, by show 6 ≤ sizeLine; decide, fun l1 nl1 => ⟨l1, rfl, ⟨_, .of upd_same⟩, ?_⟩⟩
      have u2 := same_upd (o := .lst [V.int (b0 : Int), V.int (-1), V.int 60, V.bl true, V.non, V.str "1"]) nl1
      have bad : ∀ x ∈ ([V.int (b0 : Int), V.int (-1), V.int 60, V.bl true, V.non, V.str "1"] : List V), ∀ H' : Hp, (∃ i : Int, x = .int i ∧ i ≠ (sp : Int)) ∨ NW K H' x := fun x hx H' => by
        simp only [List.mem_cons, List.not_mem_nil, or_false] at hx
        rcases hx with rfl | rfl | rfl | rfl | rfl | rfl
        · exact .inl ⟨_, rfl, by omega⟩
        · exact .inl ⟨_, rfl, by omega⟩
        · exact .inl ⟨_, rfl, by omega⟩
        · exact .inr nwB
        · exact .inr nwN
        · exact .inr nwS
      refine for_it (walk_list (xs := [V.int (b0 : Int), V.int (-1), V.int 60, V.bl true, V.non, V.str "1"])) (fun i σ H' => NdefX.TabsN (TL P1 P2 P3) H' ∧ H' rl = some (.lst R60) ∧ H' l0 = some (.lst [V.int (z % 60), V.int 59, V.int 0]) ∧ H' l1 = some (.lst [V.int (b0 : Int), V.int (-1), V.int 60, V.bl true, V.non, V.str "1"]) ∧ ∃ y3 y4 y5 y6, σ = [some (.int z), some (.ref rl), some (.int (sp : Int)), y3, y4, y5, y6]) ⟨T2.ext u2, u2 _ _ hrl2, u2 _ _ hl2, upd_same, y3, y4, y5, y6, rfl⟩ (fun i σ H' _ hP => .of hP.2.2.2.1) (fun i x σ H4 H5 hi hP hY => ?_) (fun σ H4 hP => ?_)
      · obtain ⟨T4, hrl4, hl4, hl5, y3, y4, y5, y6, rfl⟩ := hP
        obtain ⟨rfl, hx⟩ := hY
        have bx := bad x (List.mem_of_getElem? hx)
        refine ⟨_, rfl, _, rfl, (sp : Int), rfl, rl, _, rfl, .of hrl4, fun c1 nc1 => ?_⟩
        have v1 := same_upd (o := .lst (cutV R60 none (some (sp : Int)))) nc1
        refine ⟨_, rfl, by show 1 ≤ sizeLine; decide, fun c2 nc2 => ?_⟩
        have v2 := same_upd (o := .lst [x]) nc2
        refine ⟨c1, c2, _, _, rfl, rfl, v2 _ _ upd_same, upd_same, ?_, fun c3 nc3 => ?_⟩
        · have := cutV_length R60 none (some (sp : Int))
          have h60 : R60.length = 60 := R60_len
          exact Nat.le_of_lt (small1000 (by rw [h60] at this; show _ + 1 ≤ 1000; omega))
        have v3 := same_upd (o := .lst (cutV R60 none (some (sp : Int)) ++ [x])) nc3
        refine ⟨_, rfl, _, rfl, _, _, rfl, rfl, (sp : Int) + 1, rfl, rl, _, rfl, .of (((v1.trans v2).trans v3) _ _ hrl4), fun c4 nc4 => ?_⟩
        have v4 := same_upd (o := .lst (cutV R60 (some ((sp : Int) + 1)) none)) nc4
        refine ⟨c3, c4, _, _, rfl, rfl, v4 _ _ upd_same, upd_same, ?_, fun c5 nc5 => ?_⟩
        · have h1 := cutV_length R60 none (some (sp : Int))
          have h2 := cutV_length R60 (some ((sp : Int) + 1)) none
          have h60 : R60.length = 60 := R60_len
          rw [List.length_append]
          exact Nat.le_of_lt (small1000 (by rw [h60] at h1 h2; show _ + 1 + _ ≤ 1000; omega))
        have v5 := same_upd (o := .lst ((cutV R60 none (some (sp : Int)) ++ [x]) ++ cutV R60 (some ((sp : Int) + 1)) none)) nc5
        have hrow : _ = some (HO.lst _) := upd_same (H := upd (upd (upd (upd H5 c1 (.lst (cutV R60 none (some (sp : Int))))) c2 (.lst [x])) c3 (.lst (cutV R60 none (some (sp : Int)) ++ [x]))) c4 (.lst (cutV R60 (some ((sp : Int) + 1)) none))) (a := c5) (o := .lst ((cutV R60 none (some (sp : Int)) ++ [x]) ++ cutV R60 (some ((sp : Int) + 1)) none))
        have v6 := (((v1.trans v2).trans v3).trans v4).trans v5
        generalize upd (upd (upd (upd (upd H5 c1 (.lst (cutV R60 none (some (sp : Int))))) c2 (.lst [x])) c3 (.lst (cutV R60 none (some (sp : Int)) ++ [x]))) c4 (.lst (cutV R60 (some ((sp : Int) + 1)) none))) c5 (.lst ((cutV R60 none (some (sp : Int)) ++ [x]) ++ cutV R60 (some ((sp : Int) + 1)) none)) = H6 at v6 hrow ⊢
        have bd : ∀ H', LamX.ExtN H6 H' → BadD K H' (.ref c5) := fun H' e => bad_row hsp (bx H') (e _ _ hrow (fun _ z => nomatch z))
        refine ⟨T4.ext v6, fun f1 d1 H7 e7 n7 T7 nf1 hf1 hc1 => ⟨T7, fun f2 d2 H8 e8 n8 T8 nf2 hf2 hc2 => ⟨T8, fun f3 d3 H9 e9 n9 T9 nf3 hf3 hc3 => ⟨by show 3 ≤ sizeLine; decide, fun la nla => ?_⟩⟩⟩⟩
        have a1 : Hx.AskR P w K mg base 6 H7 f1 (V.ref c5) (fa 41) := Hx.ask_of (k := 5) (NdefX.nscope_by (by dsimp only; decide +kernel)) (fun _ _ us h => match us, h with | [_], _ => rfl) rfl hf1 hc1 fun A outer s H1 hr e1 => ⟨_, (pe_callS (xok_judged T) (hr.mono (by decide)) (by rfl) T.g_judged T.F_judged.kp T.b_judged (L2N.passAt (L2N.takes_of rfl rfl rfl rfl)) (pa_cons (pv 0) pa_nil)), ⟨_, rfl, .ref c5, rfl, bd _ (e7.trans e1), fun H2 s2 => ⟨rfl, rfl, s2⟩⟩⟩
        have a2 : Hx.AskR P w K mg base 6 H8 f2 (V.ref c5) (fa 41) := Hx.ask_of (k := 5) (NdefX.nscope_by (by dsimp only; decide +kernel)) (fun _ _ us h => match us, h with | [_], _ => rfl) rfl hf2 hc2 fun A outer s H1 hr e1 => ⟨_, (pe_callS (xok_turned T) (hr.mono (by decide)) (by rfl) T.g_turned T.F_turned.kp T.b_turned (L2N.passAt (L2N.takes_of rfl rfl rfl rfl)) (pa_cons (pv 0) (pa_cons pe_non pa_nil))), ⟨_, rfl, .ref c5, .non, rfl, .inl ⟨bd _ ((e7.trans e8).trans e1), fun H2 s2 => ⟨rfl, rfl, s2⟩⟩⟩⟩
        have a3 : Hx.AskR P w K mg base 6 H9 f3 (V.ref c5) (fa 41) := Hx.ask_of (k := 5) (NdefX.nscope_by (by dsimp only; decide +kernel)) (fun _ _ us h => match us, h with | [_], _ => rfl) rfl hf3 hc3 fun A outer s H1 hr e1 => ⟨_, (pe_callS (xok_without_corner T) (hr.mono (by decide)) (by rfl) T.g_without_corner T.F_without_corner.kp T.b_without_corner (L2N.passAt (L2N.takes_of rfl rfl rfl rfl)) (pa_cons (pv 0) pa_nil)), ⟨_, rfl, .ref c5, rfl, .inl ⟨bd _ (((e7.trans e8).trans e9).trans e1), fun H2 s2 => ⟨rfl, rfl, s2⟩⟩⟩⟩
        have vL := same_upd (o := .lst [V.ref f1, V.ref f2, V.ref f3]) nla
        have hla : upd H9 la (.lst [V.ref f1, V.ref f2, V.ref f3]) la = some (.lst [V.ref f1, V.ref f2, V.ref f3]) := upd_same
        have eL := (((extN_same v6).trans e7).trans e8).trans (e9.trans (extN_same vL))
        have b1 := ((a1.ext e8).ext e9).ext (extN_same vL)
        have b2 := (a2.ext e9).ext (extN_same vL)
        have b3 := a3.ext (extN_same vL)
        have TL9 := T9.ext vL
        generalize upd H9 la (.lst [V.ref f1, V.ref f2, V.ref f3]) = H10 at vL hla eL b1 b2 b3 TL9 ⊢
        refine ⟨_, rfl, la, rfl, ⟨_, .of hla⟩, fun D nD => ?_⟩
        refine lc_it (walk_list (xs := [V.ref f1, V.ref f2, V.ref f3])) (fun i H' => Same H10 H' ∧ H' D = some (.lst ((List.replicate i true).map V.bl))) ⟨same_upd nD, upd_same⟩ (fun i H' _ hP => .of (hP.1 _ _ hla)) (fun i x H11 H12 hi hP hY => ?_) (fun H11 hP => ?_)
        · obtain ⟨s11, hD⟩ := hP
          obtain ⟨rfl, hx⟩ := hY
          have hi3 : i < 3 := hi
          obtain ⟨f, rfl, ak⟩ : ∃ f, x = .ref f ∧ Hx.AskR P w K mg base 6 H10 f (.ref c5) (fa 41) := by
            rcases (show i = 0 ∨ i = 1 ∨ i = 2 by omega) with rfl | rfl | rfl
            · exact ⟨f1, (Option.some.inj hx).symm, b1⟩
            · exact ⟨f2, (Option.some.inj hx).symm, b2⟩
            · exact ⟨f3, (Option.some.inj hx).symm, b3⟩
          refine ⟨rfl, ?_⟩
          refine ⟨_, rfl, _, rfl, f, .ref c5, 6, by decide, rfl, ak.ext (extN_same s11), fun H13 s13 => ⟨_, s13 _ _ hD, ?_, same_acc (s11.trans s13) nD, ?_⟩⟩
          · rw [List.length_map, List.length_replicate]
            exact small1000 (by omega)
          · rw [upd_same, List.replicate_succ', List.map_append]
            rfl
        · obtain ⟨s11, hD⟩ := hP
          have eZ := eL.trans (extN_same s11)
          exact ⟨D, _, rfl, .of hD, _, rfl, iteF ⟨TL9.ext s11, eZ _ _ hrl4 (fun _ z => nomatch z), eZ _ _ hl4 (fun _ z => nomatch z), eZ _ _ hl5 (fun _ z => nomatch z), _, _, _, _, rfl⟩⟩
      · obtain ⟨T4, hrl4, hl4, hl5, y3, y4, y5, y6, rfl⟩ := hP
        exact ⟨T4, hrl4, hl4, _, _, _, _, _, rfl⟩
    obtain ⟨T2, hrl2, _, y2, y3, y4, y5, y6, rfl⟩ := hP
    refine ⟨T2, fun f c H3 e3 n3 T3 nf hf hc => ⟨_, rfl, RgOk.of_le (by decide) (by decide) (by decide) (by decide), fun l61 n61 => ?_⟩⟩
    have v61 := same_upd (o := .lst (rgV 0 61)) n61
    have h61 : upd H3 l61 (.lst (rgV 0 61)) l61 = some (.lst (rgV 0 61)) := upd_same
    generalize upd H3 l61 (.lst (rgV 0 61)) = H4 at v61 h61 ⊢
    have a3 : Hx.AskR P w K mg base 6 H4 f (V.ref l61) (fa 41) := Hx.ask_of (k := 5) (NdefX.nscope_by (by dsimp only; decide +kernel)) (fun _ _ us h => match us, h with | [_], _ => rfl) rfl (v61 _ _ hf) (v61 _ _ hc) fun A outer s H1 hr e1 => ⟨_, (pe_callS (xok_judged T) (hr.mono (by decide)) (by rfl) T.g_judged T.F_judged.kp T.b_judged (L2N.passAt (L2N.takes_of rfl rfl rfl rfl)) (pa_cons (pv 0) pa_nil)), ⟨_, rfl, .ref l61, rfl, .inr ⟨l61, _, rfl, e1 _ _ h61 (fun _ z => nomatch z), .inl (.inr (by show 60 < (rgV 0 61).length; rw [show rgV 0 61 = nats (List.range 61) from rgV_nats 61, nats_len, List.length_range]; decide))⟩, fun H2 s2 => ⟨rfl, rfl, s2⟩⟩⟩
    refine ⟨f, .ref l61, 6, by decide, rfl, a3, fun H5 s5 => ⟨_, rfl, iteF ?_⟩⟩
    have T5 := (T3.ext v61).ext s5
    have hrl5 := s5 _ _ (v61 _ _ (e3 _ _ hrl2 (fun _ z => nomatch z)))
    refine ⟨T5, fun f c H6 e6 n6 T6 nf hf hc => ?_⟩
    have a4 : Hx.AskR P w K mg base 6 H6 f (V.int 8) (fa 42) := Hx.ask_of (k := 5) (NdefX.nscope_by (by dsimp only; decide +kernel)) (fun _ _ us h => match us, h with | [_], _ => rfl) rfl hf hc fun A outer s H1 hr e1 => ⟨_, (pe_callS (xok_turned T) (hr.mono (by decide)) (by rfl) T.g_turned T.F_turned.kp T.b_turned (L2N.passAt (L2N.takes_of rfl rfl rfl rfl)) (pa_cons (pe_lst (pa_cons pe_int pa_nil)) (pa_cons (pv 0) pa_nil))), ⟨by show 1 ≤ sizeLine; decide, fun d nd => ⟨_, rfl, .ref d, .int 8, rfl, .inr ⟨d, [0], rfl, upd_same, dots1, .inr ⟨8, rfl, .inr (by decide)⟩, fun H2 s2 => ⟨rfl, rfl, (same_upd nd).trans s2⟩⟩⟩⟩⟩
    refine ⟨f, .int 8, 7, by decide, rfl, a4, fun H7 s7 => ⟨_, rfl, iteF ?_⟩⟩
    have T7 := T6.ext s7
    have hrl7 := s7 _ _ (e6 _ _ hrl5 (fun _ z => nomatch z))
    refine ⟨by show 6 ≤ sizeLine; decide, fun l101 w101 => ⟨l101, rfl, ⟨_, .of upd_same⟩, ?_⟩⟩
    have u101 := same_upd (o := .lst [V.bl true, V.non, V.str "2", V.int 1, V.int 4, V.int 0]) w101
    have bad101 : ∀ x ∈ ([V.bl true, V.non, V.str "2", V.int 1, V.int 4, V.int 0] : List V), ∀ H' : Hp, BadR K H' 5 x := fun x hx H' => by
      simp only [List.mem_cons, List.not_mem_nil, or_false] at hx
      rcases hx with rfl | rfl | rfl | rfl | rfl | rfl
      · exact .inl nwB
      · exact .inl nwN
      · exact .inl nwS
      · exact .inr ⟨_, rfl, .inr (.inr (by decide +kernel))⟩
      · exact .inr ⟨_, rfl, .inr (.inr (by decide +kernel))⟩
      · exact .inr ⟨_, rfl, .inl (by decide)⟩
    refine for_it (walk_list (xs := [V.bl true, V.non, V.str "2", V.int 1, V.int 4, V.int 0])) (fun i σ H' => NdefX.TabsN (TL P1 P2 P3) H' ∧ H' rl = some (.lst R60) ∧ H' l101 = some (.lst [V.bl true, V.non, V.str "2", V.int 1, V.int 4, V.int 0]) ∧ ∃ y3, σ = [some (.int z), some (.ref rl), y2, y3, y4, y5, y6]) ⟨T7.ext u101, u101 _ _ hrl7, upd_same, y3, rfl⟩ (fun i σ H' _ hP => .of hP.2.2.1) (fun i x σ HA HB hi hP hY => ?_) (fun σ HA hP => ?_)
    · obtain ⟨TA, hA, hB, y3, rfl⟩ := hP
      obtain ⟨rfl, hx⟩ := hY
      have bx := bad101 x (List.mem_of_getElem? hx)
      refine ⟨TA, fun f c HC0 eC0 nC0 TC0 nf hf hc => ⟨_, rfl, f, x, 1, by decide, rfl, ?_, fun HD0 sD0 => ⟨_, rfl, iteF ?_⟩⟩⟩
      · have a0 : Hx.AskR P w K mg base 6 HC0 f (x) (fa 36) := Hx.ask_of (k := 5) (NdefX.nscope_by (by dsimp only; decide +kernel)) (fun _ _ us h => match us, h with | [_], _ => rfl) rfl hf hc fun A outer s H1 hr e1 => ⟨_, (pe_callS (xok_row_of T) (hr.mono (by decide)) (by rfl) T.g_row_of T.F_row_of.kp T.b_row_of (L2N.passAt (L2N.takes_of rfl rfl rfl rfl)) (pa_cons pe_int (pa_cons (pv 0) (pa_cons pe_non (pa_cons pe_non pa_nil))))), ⟨_, rfl, .int 5, x, .non, .non, rfl, .inl ⟨_, .inr ⟨5, rfl, root52.good, by decide, .inl ⟨bx _, rfl⟩⟩, rfl, rfl, Same.refl _⟩⟩⟩
        exact a0
      have TD0 := TC0.ext sD0
      have hA0 := sD0 _ _ (eC0 _ _ hA (fun _ z => nomatch z))
      have hB0 := sD0 _ _ (eC0 _ _ hB (fun _ z => nomatch z))
      exact ⟨TD0, hA0, hB0, _, rfl⟩
    obtain ⟨TZ101, hZ101, _, y3, rfl⟩ := hP
    refine ⟨by show 3 ≤ sizeLine; decide, fun l102 w102 => ⟨l102, rfl, ⟨_, .of upd_same⟩, ?_⟩⟩
    have u102 := same_upd (o := .lst [V.bl true, V.non, V.str "0"]) w102
    have bad102 : ∀ x ∈ ([V.bl true, V.non, V.str "0"] : List V), ∀ H' : Hp, NW K H' x := fun x hx H' => by
      simp only [List.mem_cons, List.not_mem_nil, or_false] at hx
      rcases hx with rfl | rfl | rfl
      · exact nwB
      · exact nwN
      · exact nwS
    refine for_it (walk_list (xs := [V.bl true, V.non, V.str "0"])) (fun i σ H' => NdefX.TabsN (TL P1 P2 P3) H' ∧ H' rl = some (.lst R60) ∧ H' l102 = some (.lst [V.bl true, V.non, V.str "0"]) ∧ ∃ y3, σ = [some (.int z), some (.ref rl), y2, y3, y4, y5, y6]) ⟨TZ101.ext u102, u102 _ _ hZ101, upd_same, y3, rfl⟩ (fun i σ H' _ hP => .of hP.2.2.1) (fun i x σ HA HB hi hP hY => ?_) (fun σ HA hP => ?_)
    · obtain ⟨TA, hA, hB, y3, rfl⟩ := hP
      obtain ⟨rfl, hx⟩ := hY
      have bx := bad102 x (List.mem_of_getElem? hx)
      refine ⟨TA, fun f c HC0 eC0 nC0 TC0 nf hf hc => ⟨_, rfl, f, x, 2, by decide, rfl, ?_, fun HD0 sD0 => ⟨_, rfl, iteF ?_⟩⟩⟩
      · have a0 : Hx.AskR P w K mg base 6 HC0 f (x) (fa 37) := Hx.ask_of (k := 5) (NdefX.nscope_by (by dsimp only; decide +kernel)) (fun _ _ us h => match us, h with | [_], _ => rfl) rfl hf hc fun A outer s H1 hr e1 => ⟨_, (pe_callS (xok_row_of T) (hr.mono (by decide)) (by rfl) T.g_row_of T.F_row_of.kp T.b_row_of (L2N.passAt (L2N.takes_of rfl rfl rfl rfl)) (pa_cons pe_int (pa_cons pe_int (pa_cons (pv 0) (pa_cons pe_non pa_nil))))), ⟨_, rfl, .int 5, .int 2, x, .non, rfl, .inl ⟨_, .inr ⟨5, rfl, root52.good, by decide, .inr ⟨2, rfl, root52, by decide +kernel, bx _, rfl⟩⟩, rfl, rfl, Same.refl _⟩⟩⟩
        exact a0
      have TD0 := TC0.ext sD0
      have hA0 := sD0 _ _ (eC0 _ _ hA (fun _ z => nomatch z))
      have hB0 := sD0 _ _ (eC0 _ _ hB (fun _ z => nomatch z))
      refine ⟨TD0, fun f c HC1 eC1 nC1 TC1 nf hf hc => ⟨_, rfl, f, x, 7, by decide, rfl, ?_, fun HD1 sD1 => ⟨_, rfl, iteF ?_⟩⟩⟩
      · have a0 : Hx.AskR P w K mg base 6 HC1 f (x) (fa 42) := Hx.ask_of (k := 5) (NdefX.nscope_by (by dsimp only; decide +kernel)) (fun _ _ us h => match us, h with | [_], _ => rfl) rfl hf hc fun A outer s H1 hr e1 => ⟨_, (pe_callS (xok_turned T) (hr.mono (by decide)) (by rfl) T.g_turned T.F_turned.kp T.b_turned (L2N.passAt (L2N.takes_of rfl rfl rfl rfl)) (pa_cons (pe_lst (pa_cons pe_int pa_nil)) (pa_cons (pv 0) pa_nil))), ⟨by show 1 ≤ sizeLine; decide, fun d nd => ⟨_, rfl, .ref d, x, rfl, .inr ⟨d, [0], rfl, upd_same, dots1, .inl (bx _), fun H2 s2 => ⟨rfl, rfl, (same_upd nd).trans s2⟩⟩⟩⟩⟩
        exact a0
      have TD1 := TC1.ext sD1
      have hA1 := sD1 _ _ (eC1 _ _ hA0 (fun _ z => nomatch z))
      have hB1 := sD1 _ _ (eC1 _ _ hB0 (fun _ z => nomatch z))
      exact ⟨TD1, hA1, hB1, _, rfl⟩
    obtain ⟨TZ102, hZ102, _, y3, rfl⟩ := hP
    refine ⟨_, rfl, by show 4 ≤ sizeLine; decide, fun l103 w103 => ⟨l103, rfl, ⟨_, .of upd_same⟩, ?_⟩⟩
    have u103 := same_upd (o := .lst [V.bl true, V.int (-1), V.int 4, V.non]) w103
    have bad103 : ∀ x ∈ ([V.bl true, V.int (-1), V.int 4, V.non] : List V), ∀ H' : Hp, BadC K H' 5 x := fun x hx H' => by
      simp only [List.mem_cons, List.not_mem_nil, or_false] at hx
      rcases hx with rfl | rfl | rfl | rfl
      · exact .inl nwB
      · exact .inr ⟨_, rfl, .inl (by decide)⟩
      · exact .inr ⟨_, rfl, .inr (by decide)⟩
      · exact .inl nwN
    refine for_it (walk_list (xs := [V.bl true, V.int (-1), V.int 4, V.non])) (fun i σ H' => NdefX.TabsN (TL P1 P2 P3) H' ∧ H' rl = some (.lst R60) ∧ H' l103 = some (.lst [V.bl true, V.int (-1), V.int 4, V.non]) ∧ ∃ y3, σ = [some (.int z), some (.ref rl), y2, y3, y4, y5, y6]) ⟨TZ102.ext u103, u103 _ _ hZ102, upd_same, y3, rfl⟩ (fun i σ H' _ hP => .of hP.2.2.1) (fun i x σ HA HB hi hP hY => ?_) (fun σ HA hP => ?_)
    · obtain ⟨TA, hA, hB, y3, rfl⟩ := hP
      obtain ⟨rfl, hx⟩ := hY
      have bx := bad103 x (List.mem_of_getElem? hx)
      refine ⟨TA, fun f c HC0 eC0 nC0 TC0 nf hf hc => ⟨_, rfl, f, x, 3, by decide, rfl, ?_, fun HD0 sD0 => ⟨_, rfl, iteF ?_⟩⟩⟩
      · have a0 : Hx.AskR P w K mg base 6 HC0 f (x) (fa 38) := Hx.ask_of (k := 5) (NdefX.nscope_by (by dsimp only; decide +kernel)) (fun _ _ us h => match us, h with | [_], _ => rfl) rfl hf hc fun A outer s H1 hr e1 => ⟨_, (pe_callS (xok_row_of T) (hr.mono (by decide)) (by rfl) T.g_row_of T.F_row_of.kp T.b_row_of (L2N.passAt (L2N.takes_of rfl rfl rfl rfl)) (pa_cons pe_int (pa_cons pe_int (pa_cons pe_int (pa_cons (pv 0) pa_nil))))), ⟨_, rfl, .int 5, .int 2, .int 0, x, rfl, .inr ⟨5, ⟨2, 0, rfl, rfl, rfl, root52, by decide +kernel, by decide⟩, bx _, rfl, rfl, Same.refl _⟩⟩⟩
        exact a0
      have TD0 := TC0.ext sD0
      have hA0 := sD0 _ _ (eC0 _ _ hA (fun _ z => nomatch z))
      have hB0 := sD0 _ _ (eC0 _ _ hB (fun _ z => nomatch z))
      refine ⟨TD0, fun f c HC1 eC1 nC1 TC1 nf hf hc => ⟨_, rfl, f, x, 4, by decide, rfl, ?_, fun HD1 sD1 => ⟨_, rfl, iteF ?_⟩⟩⟩
      · have a0 : Hx.AskR P w K mg base 6 HC1 f (x) (fa 39) := Hx.ask_of (k := 5) (NdefX.nscope_by (by dsimp only; decide +kernel)) (fun _ _ us h => match us, h with | [_], _ => rfl) rfl hf hc fun A outer s H1 hr e1 => ⟨_, (pe_callS (xok_column_of T) (hr.mono (by decide)) (by rfl) T.g_column_of T.F_column_of.kp T.b_column_of (L2N.passAt (L2N.takes_of rfl rfl rfl rfl)) (pa_cons pe_int (pa_cons pe_int (pa_cons pe_int (pa_cons (pv 0) pa_nil))))), ⟨_, rfl, .int 5, .int 2, .int 0, x, rfl, .inr ⟨5, ⟨2, 0, rfl, rfl, rfl, root52, by decide +kernel, by decide⟩, bx _, rfl, rfl, Same.refl _⟩⟩⟩
        exact a0
      have TD1 := TC1.ext sD1
      have hA1 := sD1 _ _ (eC1 _ _ hA0 (fun _ z => nomatch z))
      have hB1 := sD1 _ _ (eC1 _ _ hB0 (fun _ z => nomatch z))
      exact ⟨TD1, hA1, hB1, _, rfl⟩
    obtain ⟨TZ103, hZ103, _, y3, rfl⟩ := hP
    refine ⟨by show 4 ≤ sizeLine; decide, fun l104 w104 => ⟨l104, rfl, ⟨_, .of upd_same⟩, ?_⟩⟩
    have u104 := same_upd (o := .lst [V.bl true, V.int 0, V.int 4, V.non]) w104
    have bad104 : ∀ x ∈ ([V.bl true, V.int 0, V.int 4, V.non] : List V), ∀ H' : Hp, (NW K H' x ∨ ∃ i : Int, x = .int i ∧ (i < 1 ∨ ((5 : Nat) : Int) - 2 < i)) := fun x hx H' => by
      simp only [List.mem_cons, List.not_mem_nil, or_false] at hx
      rcases hx with rfl | rfl | rfl | rfl
      · exact .inl nwB
      · exact .inr ⟨_, rfl, .inl (by decide)⟩
      · exact .inr ⟨_, rfl, .inr (by decide)⟩
      · exact .inl nwN
    refine for_it (walk_list (xs := [V.bl true, V.int 0, V.int 4, V.non])) (fun i σ H' => NdefX.TabsN (TL P1 P2 P3) H' ∧ H' rl = some (.lst R60) ∧ H' l104 = some (.lst [V.bl true, V.int 0, V.int 4, V.non]) ∧ ∃ y3, σ = [some (.int z), some (.ref rl), y2, y3, y4, y5, y6]) ⟨TZ103.ext u104, u104 _ _ hZ103, upd_same, y3, rfl⟩ (fun i σ H' _ hP => .of hP.2.2.1) (fun i x σ HA HB hi hP hY => ?_) (fun σ HA hP => ?_)
    · obtain ⟨TA, hA, hB, y3, rfl⟩ := hP
      obtain ⟨rfl, hx⟩ := hY
      have bx := bad104 x (List.mem_of_getElem? hx)
      refine ⟨TA, fun f c HC0 eC0 nC0 TC0 nf hf hc => ⟨_, rfl, f, x, 5, by decide, rfl, ?_, fun HD0 sD0 => ⟨_, rfl, iteF ?_⟩⟩⟩
      · have a0 : Hx.AskR P w K mg base 6 HC0 f (x) (fa 40) := Hx.ask_of (k := 5) (NdefX.nscope_by (by dsimp only; decide +kernel)) (fun _ _ us h => match us, h with | [_], _ => rfl) rfl hf hc fun A outer s H1 hr e1 => ⟨_, (pe_callS (xok_arrow_of T) (hr.mono (by decide)) (by rfl) T.g_arrow_of T.F_arrow_of.kp T.b_arrow_of (L2N.passAt (L2N.takes_of rfl rfl rfl rfl)) (pa_cons pe_int (pa_cons pe_int (pa_cons pe_int (pa_cons (pv 0) (pa_cons pe_int pa_nil)))))), ⟨_, rfl, .int 5, .int 2, .int 0, x, .int 1, rfl, .inr ⟨5, ⟨2, 0, rfl, rfl, rfl, root52, by decide +kernel, by decide⟩, .inl (bx _), rfl, rfl, Same.refl _⟩⟩⟩
        exact a0
      have TD0 := TC0.ext sD0
      have hA0 := sD0 _ _ (eC0 _ _ hA (fun _ z => nomatch z))
      have hB0 := sD0 _ _ (eC0 _ _ hB (fun _ z => nomatch z))
      exact ⟨TD0, hA0, hB0, _, rfl⟩
    obtain ⟨TZ104, hZ104, _, y3, rfl⟩ := hP
    refine ⟨by show 4 ≤ sizeLine; decide, fun l105 w105 => ⟨l105, rfl, ⟨_, .of upd_same⟩, ?_⟩⟩
    have u105 := same_upd (o := .lst [V.bl true, V.int 0, V.int 5, V.non]) w105
    have bad105 : ∀ x ∈ ([V.bl true, V.int 0, V.int 5, V.non] : List V), ∀ H' : Hp, BadN K H' 5 x := fun x hx H' => by
      simp only [List.mem_cons, List.not_mem_nil, or_false] at hx
      rcases hx with rfl | rfl | rfl | rfl
      · exact .inl nwB
      · exact .inr ⟨_, rfl, .inl (by decide)⟩
      · exact .inr ⟨_, rfl, .inr (by decide)⟩
      · exact .inl nwN
    refine for_it (walk_list (xs := [V.bl true, V.int 0, V.int 5, V.non])) (fun i σ H' => NdefX.TabsN (TL P1 P2 P3) H' ∧ H' rl = some (.lst R60) ∧ H' l105 = some (.lst [V.bl true, V.int 0, V.int 5, V.non]) ∧ ∃ y3, σ = [some (.int z), some (.ref rl), y2, y3, y4, y5, y6]) ⟨TZ104.ext u105, u105 _ _ hZ104, upd_same, y3, rfl⟩ (fun i σ H' _ hP => .of hP.2.2.1) (fun i x σ HA HB hi hP hY => ?_) (fun σ HA hP => ?_)
    · obtain ⟨TA, hA, hB, y3, rfl⟩ := hP
      obtain ⟨rfl, hx⟩ := hY
      have bx := bad105 x (List.mem_of_getElem? hx)
      refine ⟨TA, fun f c HC0 eC0 nC0 TC0 nf hf hc => ⟨_, rfl, f, x, 5, by decide, rfl, ?_, fun HD0 sD0 => ⟨_, rfl, iteF ?_⟩⟩⟩
      · have a0 : Hx.AskR P w K mg base 6 HC0 f (x) (fa 40) := Hx.ask_of (k := 5) (NdefX.nscope_by (by dsimp only; decide +kernel)) (fun _ _ us h => match us, h with | [_], _ => rfl) rfl hf hc fun A outer s H1 hr e1 => ⟨_, (pe_callS (xok_arrow_of T) (hr.mono (by decide)) (by rfl) T.g_arrow_of T.F_arrow_of.kp T.b_arrow_of (L2N.passAt (L2N.takes_of rfl rfl rfl rfl)) (pa_cons pe_int (pa_cons pe_int (pa_cons pe_int (pa_cons pe_int (pa_cons (pv 0) pa_nil)))))), ⟨_, rfl, .int 5, .int 2, .int 0, .int 1, x, rfl, .inr ⟨5, ⟨2, 0, rfl, rfl, rfl, root52, by decide +kernel, by decide⟩, .inr ⟨⟨1, rfl, by decide, by decide⟩, bx _⟩, rfl, rfl, Same.refl _⟩⟩⟩
        exact a0
      have TD0 := TC0.ext sD0
      have hA0 := sD0 _ _ (eC0 _ _ hA (fun _ z => nomatch z))
      have hB0 := sD0 _ _ (eC0 _ _ hB (fun _ z => nomatch z))
      refine ⟨TD0, fun f c HC1 eC1 nC1 TC1 nf hf hc => ⟨_, rfl, f, x, 2, by decide, rfl, ?_, fun HD1 sD1 => ⟨_, rfl, iteF ?_⟩⟩⟩
      · have a0 : Hx.AskR P w K mg base 6 HC1 f (x) (fa 37) := Hx.ask_of (k := 5) (NdefX.nscope_by (by dsimp only; decide +kernel)) (fun _ _ us h => match us, h with | [_], _ => rfl) rfl hf hc fun A outer s H1 hr e1 => ⟨_, (pe_callS (xok_is_root T) (hr.mono (by decide)) (by rfl) T.g_is_root T.F_is_root.kp T.b_is_root (L2N.passAt (L2N.takes_of rfl rfl rfl rfl)) (pa_cons pe_int (pa_cons (pv 0) pa_nil))), ⟨_, rfl, .int 5, x, rfl, .inr ⟨5, rfl, root52.good, bx _, rfl, rfl, Same.refl _⟩⟩⟩
        exact a0
      have TD1 := TC1.ext sD1
      have hA1 := sD1 _ _ (eC1 _ _ hA0 (fun _ z => nomatch z))
      have hB1 := sD1 _ _ (eC1 _ _ hB0 (fun _ z => nomatch z))
      exact ⟨TD1, hA1, hB1, _, rfl⟩
    obtain ⟨TZ105, hZ105, _, y3, rfl⟩ := hP
    refine ⟨_, rfl, rl, List.range 60, rfl, hZ105, range_dots (by decide) (by decide), fun H' x y a t h => absurd a (not_apt (ns := zof (List.range 60)) (i := 0) (j := 1) (d := 1) (by decide) (by decide) (by decide) (by decide +kernel)), fun i0 j0 d0 HT x0 a0 b0 c0 e0 t0 h0 => ?_⟩
    obtain ⟨y0, h0⟩ := h0
    exact ⟨_, _, _, _, true, rfl, .own _, T.in_Same.ty h0, T.ki_Same_Same, q _ (TZ105.ext t0)⟩
end
end Lw
namespace Lw
open PySem PySem.Spec PyProof.Rows L2 AD
section
variable {P : Program} {w : World} {K : PySem.W.Frag} {mg : Str → Option Value} {base : Heap}
variable {fa : Nat → Addr} {fd : Nat → FuncData} {tk : Nat → Tok}
/-! ### the law -/
def spLaw (K : PySem.W.Frag) (P1 P2 P3 : Addr) : Sp := fun vs H Q _ => ∃ (a : Addr) (ns : List Int), vs = [.ref a] ∧ SqL K H a (ns.map V.int) ∧ ns.length ≤ 63 ∧ NdefX.TabsN (TL P1 P2 P3) H ∧ ∀ H', Q (.bl true) H'
theorem ok_law (T : Txt K mg fa fd tk) {c1 P1 c2 P2 c3 P3 : Addr} (h1 : (fd 27).code = .ref c1) (B1 : LamX.TabB base mg c1 P1) (h2 : (fd 28).code = .ref c2) (B2 : LamX.TabB base mg c2 P2) (h3 : (fd 29).code = .ref c3) (B3 : LamX.TabB base mg c3 P3)
    (n12 : P1 ≠ P2) (n13 : P1 ≠ P3) (n23 : P2 ≠ P3) : FnOk P w K mg base CX0 9 (fa 33) (fd 33) ["_law_script"] (spLaw K P1 P2 P3) := by
  refine T.F_law.ok sc_law (fun vs H Q E h => ?_) (fun cdv A outer s H vs Q E hr h => ?_)
  · obtain ⟨a, ns, rfl, _⟩ := h
    rfl
  · obtain ⟨a, ns, rfl, hS, hlen, hT, q⟩ := h
    refine ⟨_, (pss_cons (ps_if (pt_not (pt_val (pe_call0 (ok__law_promises_right T) (hr.mono (by decide)) (by rfl) T.g__law_promises_right T.F__law_promises_right.kp T.b__law_promises_right .nil pass0))) (pss_one (ps_ret pe_bl)) pss_nil)
      (C8.pss_cut (ps_set (i := 1) sc_law.nd rfl (.inl rfl) (pe_callB call_abs (by rfl) T.m_abs (by decide +kernel) (pa_cons (pe_callB (cr_sum rfl) (by rfl) T.m_sum (by decide +kernel) (pa_cons (pe_slice sl_list (pv 0) po_none (po_some pe_int)) pa_nil)) pa_nil)))
      (pss_one (ps_ret (pe_and (pe_call (ok__law_known_right T h1 B1 n12 n13) (hr.mono (by decide)) (by rfl) T.g__law_known_right T.F__law_known_right.kp T.b__law_known_right .nil pass0 (pa_cons (pv 1) pa_nil)) (pe_and (pe_call0 (ok__law_dots_right T h2 B2 n12 n23) (hr.mono (by decide)) (by rfl) T.g__law_dots_right T.F__law_dots_right.kp T.b__law_dots_right .nil pass0) (pe_one (pe_call (ok__law_bad_right T h3 B3 n13 n23) (hr.mono (by decide)) (by rfl) T.g__law_bad_right T.F__law_bad_right.kp T.b__law_bad_right .nil pass0 (pa_cons (pv 1) pa_nil))))))))), ?_⟩
    refine ⟨rfl, fun H1 s1 => ⟨_, rfl, iteF ?_⟩⟩
    refine ⟨fun σ' H' => NdefX.TabsN (TL P1 P2 P3) H' ∧ ∃ N : Int, 0 ≤ N ∧ σ' = [some (.ref a), some (.int N)], ?_, fun σ' H2 hM => ?_⟩
    · refine ⟨_, rfl, 63, rfl, a, _, rfl, s1.seq hS, fun sl nsl => ?_⟩
      refine ⟨sl, ns, rfl, .of ?_, _, rfl, (hT.ext s1).ext (same_upd nsl), _, ?_, rfl⟩
      · rw [upd_same, show (63 : Int) = ((63 : Nat) : Int) from rfl, cutV_to, List.take_of_length_le hlen]
      · split <;> omega
    obtain ⟨T2, N, hN, rfl⟩ := hM
    exact ⟨_, rfl, N, rfl, hN, T2, fun H3 T3 => ⟨_, rfl, iteT ⟨rfl, T3, fun H4 T4 => ⟨_, rfl, iteT ⟨_, rfl, N, rfl, hN, T4, fun H5 _ => q _⟩⟩⟩⟩⟩
end
end Lw
namespace Lw
open PySem PySem.Spec PyProof.Rows L2 AD
/-! ### what the top has written; the end -/
theorem all_mk {l : PySem.W.OpenLaw} {w : World} {K : PySem.W.Frag} {h : Heap} {mg : Str → Option Value} {fL f0 f1 f2 f3 f4 f5 f6 f7 f8 f9 f10 f11 f12 f13 f14 f15 f16 f17 f18 f19 f20 f21 f22 f23 f24 f25 f26 f27 f28 f29 f30 f31 f32 f33 f34 f35 f36 f37 f38 f39 f40 f41 f42 f43 f44 f45 f46 : Addr}
    {od0 an0 od1 an1 od2 an2 od3 an3 od4 an4 od5 an5 od6 an6 od7 an7 od8 an8 od9 an9 od10 an10 od11 an11 od12 an12 od13 an13 od14 an14 od15 an15 od16 an16 od17 an17 od18 an18 od19 an19 od20 an20 od21 an21 od22 an22 od23 an23 od24 an24 od25 an25 od26 an26 od27 an27 od28 an28 od29 an29 od30 an30 od31 an31 od32 an32 od33 an33 : Option Addr} {sl0 sl1 sl2 sl3 sl4 sl5 sl6 sl7 sl8 sl9 sl10 sl11 sl12 sl13 sl14 sl15 sl16 sl17 sl18 sl19 sl20 sl21 sl22 sl23 sl24 sl25 sl26 sl27 sl28 sl29 sl30 sl31 sl32 sl33 : Array (Option Value)} {oc0 kV0 dc0 pm0 cd0 ct0 oc1 kV1 dc1 pm1 cd1 ct1 oc2 kV2 dc2 pm2 cd2 ct2 oc3 kV3 dc3 pm3 cd3 ct3 oc4 kV4 dc4 pm4 cd4 ct4 oc5 kV5 dc5 pm5 cd5 ct5 oc6 kV6 dc6 pm6 cd6 ct6 oc7 kV7 dc7 pm7 cd7 ct7 oc8 kV8 dc8 pm8 cd8 ct8 oc9 kV9 dc9 pm9 cd9 ct9 oc10 kV10 dc10 pm10 cd10 ct10 oc11 kV11 dc11 pm11 cd11 ct11 oc12 kV12 dc12 pm12 cd12 ct12 oc13 kV13 dc13 pm13 cd13 ct13 oc14 kV14 dc14 pm14 cd14 ct14 oc15 kV15 dc15 pm15 cd15 ct15 oc16 kV16 dc16 pm16 cd16 ct16 oc17 kV17 dc17 pm17 cd17 ct17 oc18 kV18 dc18 pm18 cd18 ct18 oc19 kV19 dc19 pm19 cd19 ct19 oc20 kV20 dc20 pm20 cd20 ct20 oc21 kV21 dc21 pm21 cd21 ct21 oc22 kV22 dc22 pm22 cd22 ct22 oc23 kV23 dc23 pm23 cd23 ct23 oc24 kV24 dc24 pm24 cd24 ct24 oc25 kV25 dc25 pm25 cd25 ct25 oc26 kV26 dc26 pm26 cd26 ct26 oc27 kV27 dc27 pm27 ct27 oc28 kV28 dc28 pm28 ct28 oc29 kV29 dc29 pm29 ct29 oc30 kV30 dc30 pm30 cd30 ct30 oc31 kV31 dc31 pm31 cd31 ct31 oc32 kV32 dc32 pm32 cd32 ct32 oc33 kV33 dc33 pm33 cd33 ct33 : Value} {t_MOST t_SMALL t_LONGEST : Tok}
    {q : Program} {ls : List Str} {mean : ExcName → Option Value} {mb : Str → Option Value} {cc27 PP27 : Addr} {occ27 : Value} {odc27 : Option Addr} {vsc27 : Array Value} {slc27 : Array (Option Value)} {cc28 PP28 : Addr} {occ28 : Value} {odc28 : Option Addr} {vsc28 : Array Value} {slc28 : Array (Option Value)} {cc29 PP29 : Addr} {occ29 : Value} {odc29 : Option Addr} {vsc29 : Array Value} {slc29 : Array (Option Value)} (TT : Top q ls mean mg mb h)
    (X : K.In h) (G : h.Ns mainGlobals mg) (hfa : mg "law" = some (.ref fL))
    (ca44 : PySem.W.nsIn K mainGlobals "Answer" = some (some (.ref f44)))
    (cm44 : PySem.W.makesIn K f44 = true)
    (ck44 : PySem.W.keepIn K (.ref f44) = true)
    (ci44 : PySem.W.findIn K (.ref f44) "__init__" = some (some (.builtin "object.__init__")))
    (cg44 : PySem.W.plainGet K f44 Str.empty = true)
    (ch44 : PySem.W.hasDictIn K f44 = true)
    (cp44 : PySem.W.plainOver K f44 = true)
    (cs44 : PySem.W.findIn K (.ref f44) "__setattr__" = some (some (.builtin "object.__setattr__")))
    (cc44 : PySem.W.findIn K (.ref f44) "__class__" = some (some (.builtin "object.__class__")))
    (cx44 : PySem.W.mroIn K f44 (.type "object") = some true)
    (cl44 : PySem.W.isClsIn K f44 = true)
    (ct44 : PySem.W.typeIn K (.ref f44) = some (.type "type"))
    (cu44_44 : PySem.W.subIn K (.ref f44) (.ref f44) = some true)
    (cu45_44 : PySem.W.subIn K (.ref f44) (.ref f45) = some false)
    (cu46_44 : PySem.W.subIn K (.ref f44) (.ref f46) = some false)
    (ca45 : PySem.W.nsIn K mainGlobals "Apart" = some (some (.ref f45)))
    (cm45 : PySem.W.makesIn K f45 = true)
    (ck45 : PySem.W.keepIn K (.ref f45) = true)
    (ci45 : PySem.W.findIn K (.ref f45) "__init__" = some (some (.builtin "object.__init__")))
    (cg45 : PySem.W.plainGet K f45 Str.empty = true)
    (ch45 : PySem.W.hasDictIn K f45 = true)
    (cp45 : PySem.W.plainOver K f45 = true)
    (cs45 : PySem.W.findIn K (.ref f45) "__setattr__" = some (some (.builtin "object.__setattr__")))
    (cc45 : PySem.W.findIn K (.ref f45) "__class__" = some (some (.builtin "object.__class__")))
    (cx45 : PySem.W.mroIn K f45 (.type "object") = some true)
    (cl45 : PySem.W.isClsIn K f45 = true)
    (ct45 : PySem.W.typeIn K (.ref f45) = some (.type "type"))
    (cu44_45 : PySem.W.subIn K (.ref f45) (.ref f44) = some true)
    (cu45_45 : PySem.W.subIn K (.ref f45) (.ref f45) = some true)
    (cu46_45 : PySem.W.subIn K (.ref f45) (.ref f46) = some false)
    (ca46 : PySem.W.nsIn K mainGlobals "Same" = some (some (.ref f46)))
    (cm46 : PySem.W.makesIn K f46 = true)
    (ck46 : PySem.W.keepIn K (.ref f46) = true)
    (cg46 : PySem.W.plainGet K f46 Str.empty = true)
    (ch46 : PySem.W.hasDictIn K f46 = true)
    (cp46 : PySem.W.plainOver K f46 = true)
    (cs46 : PySem.W.findIn K (.ref f46) "__setattr__" = some (some (.builtin "object.__setattr__")))
    (cc46 : PySem.W.findIn K (.ref f46) "__class__" = some (some (.builtin "object.__class__")))
    (cx46 : PySem.W.mroIn K f46 (.type "object") = some true)
    (cl46 : PySem.W.isClsIn K f46 = true)
    (ct46 : PySem.W.typeIn K (.ref f46) = some (.type "type"))
    (cn_first_46 : PySem.W.findIn K (.ref f46) "first" = some none)
    (cn_second_46 : PySem.W.findIn K (.ref f46) "second" = some none)
    (cn_across_46 : PySem.W.findIn K (.ref f46) "across" = some none)
    (cu44_46 : PySem.W.subIn K (.ref f46) (.ref f44) = some true)
    (cu45_46 : PySem.W.subIn K (.ref f46) (.ref f45) = some false)
    (cu46_46 : PySem.W.subIn K (.ref f46) (.ref f46) = some true)
    (ca34 : PySem.W.nsIn K mainGlobals "DotError" = some (some (.ref f34)))
    (xe34 : PySem.W.excIn K f34 [.type "ValueError", .type "Exception", .type "BaseException", .type "object"] "ValueError.__new__" = true)
    (xk34 : PySem.W.keepIn K (.ref f34) = true)
    (xb34 : PySem.W.subIn K (.ref f34) (.type "BaseException") = some true)
    (xv34 : PySem.W.subIn K (.ref f34) (.type "ValueError") = some true)
    (xt34 : PySem.W.typeIn K (.ref f34) = some (.type "type"))
    (xl34 : PySem.W.isClsIn K f34 = true)
    (xd34 : PySem.W.hasDictIn K f34 = true)
    (xg34 : PySem.W.findIn K (.ref f34) "__getattribute__" = some (some (.builtin "BaseException.__getattribute__")))
    (xh34 : PySem.W.findIn K (.ref f34) "__getattr__" = some none)
    (xc34 : PySem.W.findIn K (.ref f34) "__class__" = some (some (.builtin "object.__class__")))
    (xm34 : PySem.W.mroIn K f34 (.type "object") = some true)
    (xu34_34 : PySem.W.subIn K (.ref f34) (.ref f34) = some true)
    (xu35_34 : PySem.W.subIn K (.ref f34) (.ref f35) = some false)
    (xu36_34 : PySem.W.subIn K (.ref f34) (.ref f36) = some false)
    (xu37_34 : PySem.W.subIn K (.ref f34) (.ref f37) = some false)
    (xu38_34 : PySem.W.subIn K (.ref f34) (.ref f38) = some false)
    (xu39_34 : PySem.W.subIn K (.ref f34) (.ref f39) = some false)
    (xu40_34 : PySem.W.subIn K (.ref f34) (.ref f40) = some false)
    (xu41_34 : PySem.W.subIn K (.ref f34) (.ref f41) = some false)
    (xu42_34 : PySem.W.subIn K (.ref f34) (.ref f42) = some false)
    (xu43_34 : PySem.W.subIn K (.ref f34) (.ref f43) = some false)
    (ca35 : PySem.W.nsIn K mainGlobals "BadPrime" = some (some (.ref f35)))
    (xe35 : PySem.W.excIn K f35 [.type "ValueError", .type "Exception", .type "BaseException", .type "object"] "ValueError.__new__" = true)
    (xk35 : PySem.W.keepIn K (.ref f35) = true)
    (xb35 : PySem.W.subIn K (.ref f35) (.type "BaseException") = some true)
    (xv35 : PySem.W.subIn K (.ref f35) (.type "ValueError") = some true)
    (xt35 : PySem.W.typeIn K (.ref f35) = some (.type "type"))
    (xl35 : PySem.W.isClsIn K f35 = true)
    (xd35 : PySem.W.hasDictIn K f35 = true)
    (xg35 : PySem.W.findIn K (.ref f35) "__getattribute__" = some (some (.builtin "BaseException.__getattribute__")))
    (xh35 : PySem.W.findIn K (.ref f35) "__getattr__" = some none)
    (xc35 : PySem.W.findIn K (.ref f35) "__class__" = some (some (.builtin "object.__class__")))
    (xm35 : PySem.W.mroIn K f35 (.type "object") = some true)
    (xu34_35 : PySem.W.subIn K (.ref f35) (.ref f34) = some true)
    (xu35_35 : PySem.W.subIn K (.ref f35) (.ref f35) = some true)
    (xu36_35 : PySem.W.subIn K (.ref f35) (.ref f36) = some false)
    (xu37_35 : PySem.W.subIn K (.ref f35) (.ref f37) = some false)
    (xu38_35 : PySem.W.subIn K (.ref f35) (.ref f38) = some false)
    (xu39_35 : PySem.W.subIn K (.ref f35) (.ref f39) = some false)
    (xu40_35 : PySem.W.subIn K (.ref f35) (.ref f40) = some false)
    (xu41_35 : PySem.W.subIn K (.ref f35) (.ref f41) = some false)
    (xu42_35 : PySem.W.subIn K (.ref f35) (.ref f42) = some false)
    (xu43_35 : PySem.W.subIn K (.ref f35) (.ref f43) = some false)
    (ca36 : PySem.W.nsIn K mainGlobals "BadRoot" = some (some (.ref f36)))
    (xe36 : PySem.W.excIn K f36 [.type "ValueError", .type "Exception", .type "BaseException", .type "object"] "ValueError.__new__" = true)
    (xk36 : PySem.W.keepIn K (.ref f36) = true)
    (xb36 : PySem.W.subIn K (.ref f36) (.type "BaseException") = some true)
    (xv36 : PySem.W.subIn K (.ref f36) (.type "ValueError") = some true)
    (xt36 : PySem.W.typeIn K (.ref f36) = some (.type "type"))
    (xl36 : PySem.W.isClsIn K f36 = true)
    (xd36 : PySem.W.hasDictIn K f36 = true)
    (xg36 : PySem.W.findIn K (.ref f36) "__getattribute__" = some (some (.builtin "BaseException.__getattribute__")))
    (xh36 : PySem.W.findIn K (.ref f36) "__getattr__" = some none)
    (xc36 : PySem.W.findIn K (.ref f36) "__class__" = some (some (.builtin "object.__class__")))
    (xm36 : PySem.W.mroIn K f36 (.type "object") = some true)
    (xu34_36 : PySem.W.subIn K (.ref f36) (.ref f34) = some true)
    (xu35_36 : PySem.W.subIn K (.ref f36) (.ref f35) = some false)
    (xu36_36 : PySem.W.subIn K (.ref f36) (.ref f36) = some true)
    (xu37_36 : PySem.W.subIn K (.ref f36) (.ref f37) = some false)
    (xu38_36 : PySem.W.subIn K (.ref f36) (.ref f38) = some false)
    (xu39_36 : PySem.W.subIn K (.ref f36) (.ref f39) = some false)
    (xu40_36 : PySem.W.subIn K (.ref f36) (.ref f40) = some false)
    (xu41_36 : PySem.W.subIn K (.ref f36) (.ref f41) = some false)
    (xu42_36 : PySem.W.subIn K (.ref f36) (.ref f42) = some false)
    (xu43_36 : PySem.W.subIn K (.ref f36) (.ref f43) = some false)
    (ca37 : PySem.W.nsIn K mainGlobals "BadNumber" = some (some (.ref f37)))
    (xe37 : PySem.W.excIn K f37 [.type "ValueError", .type "Exception", .type "BaseException", .type "object"] "ValueError.__new__" = true)
    (xk37 : PySem.W.keepIn K (.ref f37) = true)
    (xb37 : PySem.W.subIn K (.ref f37) (.type "BaseException") = some true)
    (xv37 : PySem.W.subIn K (.ref f37) (.type "ValueError") = some true)
    (xt37 : PySem.W.typeIn K (.ref f37) = some (.type "type"))
    (xl37 : PySem.W.isClsIn K f37 = true)
    (xd37 : PySem.W.hasDictIn K f37 = true)
    (xg37 : PySem.W.findIn K (.ref f37) "__getattribute__" = some (some (.builtin "BaseException.__getattribute__")))
    (xh37 : PySem.W.findIn K (.ref f37) "__getattr__" = some none)
    (xc37 : PySem.W.findIn K (.ref f37) "__class__" = some (some (.builtin "object.__class__")))
    (xm37 : PySem.W.mroIn K f37 (.type "object") = some true)
    (xu34_37 : PySem.W.subIn K (.ref f37) (.ref f34) = some true)
    (xu35_37 : PySem.W.subIn K (.ref f37) (.ref f35) = some false)
    (xu36_37 : PySem.W.subIn K (.ref f37) (.ref f36) = some false)
    (xu37_37 : PySem.W.subIn K (.ref f37) (.ref f37) = some true)
    (xu38_37 : PySem.W.subIn K (.ref f37) (.ref f38) = some false)
    (xu39_37 : PySem.W.subIn K (.ref f37) (.ref f39) = some false)
    (xu40_37 : PySem.W.subIn K (.ref f37) (.ref f40) = some false)
    (xu41_37 : PySem.W.subIn K (.ref f37) (.ref f41) = some false)
    (xu42_37 : PySem.W.subIn K (.ref f37) (.ref f42) = some false)
    (xu43_37 : PySem.W.subIn K (.ref f37) (.ref f43) = some false)
    (ca38 : PySem.W.nsIn K mainGlobals "BadColumn" = some (some (.ref f38)))
    (xe38 : PySem.W.excIn K f38 [.type "ValueError", .type "Exception", .type "BaseException", .type "object"] "ValueError.__new__" = true)
    (xk38 : PySem.W.keepIn K (.ref f38) = true)
    (xb38 : PySem.W.subIn K (.ref f38) (.type "BaseException") = some true)
    (xv38 : PySem.W.subIn K (.ref f38) (.type "ValueError") = some true)
    (xt38 : PySem.W.typeIn K (.ref f38) = some (.type "type"))
    (xl38 : PySem.W.isClsIn K f38 = true)
    (xd38 : PySem.W.hasDictIn K f38 = true)
    (xg38 : PySem.W.findIn K (.ref f38) "__getattribute__" = some (some (.builtin "BaseException.__getattribute__")))
    (xh38 : PySem.W.findIn K (.ref f38) "__getattr__" = some none)
    (xc38 : PySem.W.findIn K (.ref f38) "__class__" = some (some (.builtin "object.__class__")))
    (xm38 : PySem.W.mroIn K f38 (.type "object") = some true)
    (xu34_38 : PySem.W.subIn K (.ref f38) (.ref f34) = some true)
    (xu35_38 : PySem.W.subIn K (.ref f38) (.ref f35) = some false)
    (xu36_38 : PySem.W.subIn K (.ref f38) (.ref f36) = some false)
    (xu37_38 : PySem.W.subIn K (.ref f38) (.ref f37) = some false)
    (xu38_38 : PySem.W.subIn K (.ref f38) (.ref f38) = some true)
    (xu39_38 : PySem.W.subIn K (.ref f38) (.ref f39) = some false)
    (xu40_38 : PySem.W.subIn K (.ref f38) (.ref f40) = some false)
    (xu41_38 : PySem.W.subIn K (.ref f38) (.ref f41) = some false)
    (xu42_38 : PySem.W.subIn K (.ref f38) (.ref f42) = some false)
    (xu43_38 : PySem.W.subIn K (.ref f38) (.ref f43) = some false)
    (ca39 : PySem.W.nsIn K mainGlobals "BadRow" = some (some (.ref f39)))
    (xe39 : PySem.W.excIn K f39 [.type "ValueError", .type "Exception", .type "BaseException", .type "object"] "ValueError.__new__" = true)
    (xk39 : PySem.W.keepIn K (.ref f39) = true)
    (xb39 : PySem.W.subIn K (.ref f39) (.type "BaseException") = some true)
    (xv39 : PySem.W.subIn K (.ref f39) (.type "ValueError") = some true)
    (xt39 : PySem.W.typeIn K (.ref f39) = some (.type "type"))
    (xl39 : PySem.W.isClsIn K f39 = true)
    (xd39 : PySem.W.hasDictIn K f39 = true)
    (xg39 : PySem.W.findIn K (.ref f39) "__getattribute__" = some (some (.builtin "BaseException.__getattribute__")))
    (xh39 : PySem.W.findIn K (.ref f39) "__getattr__" = some none)
    (xc39 : PySem.W.findIn K (.ref f39) "__class__" = some (some (.builtin "object.__class__")))
    (xm39 : PySem.W.mroIn K f39 (.type "object") = some true)
    (xu34_39 : PySem.W.subIn K (.ref f39) (.ref f34) = some true)
    (xu35_39 : PySem.W.subIn K (.ref f39) (.ref f35) = some false)
    (xu36_39 : PySem.W.subIn K (.ref f39) (.ref f36) = some false)
    (xu37_39 : PySem.W.subIn K (.ref f39) (.ref f37) = some false)
    (xu38_39 : PySem.W.subIn K (.ref f39) (.ref f38) = some false)
    (xu39_39 : PySem.W.subIn K (.ref f39) (.ref f39) = some true)
    (xu40_39 : PySem.W.subIn K (.ref f39) (.ref f40) = some false)
    (xu41_39 : PySem.W.subIn K (.ref f39) (.ref f41) = some false)
    (xu42_39 : PySem.W.subIn K (.ref f39) (.ref f42) = some false)
    (xu43_39 : PySem.W.subIn K (.ref f39) (.ref f43) = some false)
    (ca40 : PySem.W.nsIn K mainGlobals "BadArrow" = some (some (.ref f40)))
    (xe40 : PySem.W.excIn K f40 [.type "ValueError", .type "Exception", .type "BaseException", .type "object"] "ValueError.__new__" = true)
    (xk40 : PySem.W.keepIn K (.ref f40) = true)
    (xb40 : PySem.W.subIn K (.ref f40) (.type "BaseException") = some true)
    (xv40 : PySem.W.subIn K (.ref f40) (.type "ValueError") = some true)
    (xt40 : PySem.W.typeIn K (.ref f40) = some (.type "type"))
    (xl40 : PySem.W.isClsIn K f40 = true)
    (xd40 : PySem.W.hasDictIn K f40 = true)
    (xg40 : PySem.W.findIn K (.ref f40) "__getattribute__" = some (some (.builtin "BaseException.__getattribute__")))
    (xh40 : PySem.W.findIn K (.ref f40) "__getattr__" = some none)
    (xc40 : PySem.W.findIn K (.ref f40) "__class__" = some (some (.builtin "object.__class__")))
    (xm40 : PySem.W.mroIn K f40 (.type "object") = some true)
    (xu34_40 : PySem.W.subIn K (.ref f40) (.ref f34) = some true)
    (xu35_40 : PySem.W.subIn K (.ref f40) (.ref f35) = some false)
    (xu36_40 : PySem.W.subIn K (.ref f40) (.ref f36) = some false)
    (xu37_40 : PySem.W.subIn K (.ref f40) (.ref f37) = some false)
    (xu38_40 : PySem.W.subIn K (.ref f40) (.ref f38) = some false)
    (xu39_40 : PySem.W.subIn K (.ref f40) (.ref f39) = some false)
    (xu40_40 : PySem.W.subIn K (.ref f40) (.ref f40) = some true)
    (xu41_40 : PySem.W.subIn K (.ref f40) (.ref f41) = some false)
    (xu42_40 : PySem.W.subIn K (.ref f40) (.ref f42) = some false)
    (xu43_40 : PySem.W.subIn K (.ref f40) (.ref f43) = some false)
    (ca41 : PySem.W.nsIn K mainGlobals "BadDots" = some (some (.ref f41)))
    (xe41 : PySem.W.excIn K f41 [.type "ValueError", .type "Exception", .type "BaseException", .type "object"] "ValueError.__new__" = true)
    (xk41 : PySem.W.keepIn K (.ref f41) = true)
    (xb41 : PySem.W.subIn K (.ref f41) (.type "BaseException") = some true)
    (xv41 : PySem.W.subIn K (.ref f41) (.type "ValueError") = some true)
    (xt41 : PySem.W.typeIn K (.ref f41) = some (.type "type"))
    (xl41 : PySem.W.isClsIn K f41 = true)
    (xd41 : PySem.W.hasDictIn K f41 = true)
    (xg41 : PySem.W.findIn K (.ref f41) "__getattribute__" = some (some (.builtin "BaseException.__getattribute__")))
    (xh41 : PySem.W.findIn K (.ref f41) "__getattr__" = some none)
    (xc41 : PySem.W.findIn K (.ref f41) "__class__" = some (some (.builtin "object.__class__")))
    (xm41 : PySem.W.mroIn K f41 (.type "object") = some true)
    (xu34_41 : PySem.W.subIn K (.ref f41) (.ref f34) = some true)
    (xu35_41 : PySem.W.subIn K (.ref f41) (.ref f35) = some false)
    (xu36_41 : PySem.W.subIn K (.ref f41) (.ref f36) = some false)
    (xu37_41 : PySem.W.subIn K (.ref f41) (.ref f37) = some false)
    (xu38_41 : PySem.W.subIn K (.ref f41) (.ref f38) = some false)
    (xu39_41 : PySem.W.subIn K (.ref f41) (.ref f39) = some false)
    (xu40_41 : PySem.W.subIn K (.ref f41) (.ref f40) = some false)
    (xu41_41 : PySem.W.subIn K (.ref f41) (.ref f41) = some true)
    (xu42_41 : PySem.W.subIn K (.ref f41) (.ref f42) = some false)
    (xu43_41 : PySem.W.subIn K (.ref f41) (.ref f43) = some false)
    (ca42 : PySem.W.nsIn K mainGlobals "BadWay" = some (some (.ref f42)))
    (xe42 : PySem.W.excIn K f42 [.type "ValueError", .type "Exception", .type "BaseException", .type "object"] "ValueError.__new__" = true)
    (xk42 : PySem.W.keepIn K (.ref f42) = true)
    (xb42 : PySem.W.subIn K (.ref f42) (.type "BaseException") = some true)
    (xv42 : PySem.W.subIn K (.ref f42) (.type "ValueError") = some true)
    (xt42 : PySem.W.typeIn K (.ref f42) = some (.type "type"))
    (xl42 : PySem.W.isClsIn K f42 = true)
    (xd42 : PySem.W.hasDictIn K f42 = true)
    (xg42 : PySem.W.findIn K (.ref f42) "__getattribute__" = some (some (.builtin "BaseException.__getattribute__")))
    (xh42 : PySem.W.findIn K (.ref f42) "__getattr__" = some none)
    (xc42 : PySem.W.findIn K (.ref f42) "__class__" = some (some (.builtin "object.__class__")))
    (xm42 : PySem.W.mroIn K f42 (.type "object") = some true)
    (xu34_42 : PySem.W.subIn K (.ref f42) (.ref f34) = some true)
    (xu35_42 : PySem.W.subIn K (.ref f42) (.ref f35) = some false)
    (xu36_42 : PySem.W.subIn K (.ref f42) (.ref f36) = some false)
    (xu37_42 : PySem.W.subIn K (.ref f42) (.ref f37) = some false)
    (xu38_42 : PySem.W.subIn K (.ref f42) (.ref f38) = some false)
    (xu39_42 : PySem.W.subIn K (.ref f42) (.ref f39) = some false)
    (xu40_42 : PySem.W.subIn K (.ref f42) (.ref f40) = some false)
    (xu41_42 : PySem.W.subIn K (.ref f42) (.ref f41) = some false)
    (xu42_42 : PySem.W.subIn K (.ref f42) (.ref f42) = some true)
    (xu43_42 : PySem.W.subIn K (.ref f42) (.ref f43) = some false)
    (ca43 : PySem.W.nsIn K mainGlobals "NoCorner" = some (some (.ref f43)))
    (xe43 : PySem.W.excIn K f43 [.type "ValueError", .type "Exception", .type "BaseException", .type "object"] "ValueError.__new__" = true)
    (xk43 : PySem.W.keepIn K (.ref f43) = true)
    (xb43 : PySem.W.subIn K (.ref f43) (.type "BaseException") = some true)
    (xv43 : PySem.W.subIn K (.ref f43) (.type "ValueError") = some true)
    (xt43 : PySem.W.typeIn K (.ref f43) = some (.type "type"))
    (xl43 : PySem.W.isClsIn K f43 = true)
    (xd43 : PySem.W.hasDictIn K f43 = true)
    (xg43 : PySem.W.findIn K (.ref f43) "__getattribute__" = some (some (.builtin "BaseException.__getattribute__")))
    (xh43 : PySem.W.findIn K (.ref f43) "__getattr__" = some none)
    (xc43 : PySem.W.findIn K (.ref f43) "__class__" = some (some (.builtin "object.__class__")))
    (xm43 : PySem.W.mroIn K f43 (.type "object") = some true)
    (xu34_43 : PySem.W.subIn K (.ref f43) (.ref f34) = some true)
    (xu35_43 : PySem.W.subIn K (.ref f43) (.ref f35) = some false)
    (xu36_43 : PySem.W.subIn K (.ref f43) (.ref f36) = some false)
    (xu37_43 : PySem.W.subIn K (.ref f43) (.ref f37) = some false)
    (xu38_43 : PySem.W.subIn K (.ref f43) (.ref f38) = some false)
    (xu39_43 : PySem.W.subIn K (.ref f43) (.ref f39) = some false)
    (xu40_43 : PySem.W.subIn K (.ref f43) (.ref f40) = some false)
    (xu41_43 : PySem.W.subIn K (.ref f43) (.ref f41) = some false)
    (xu42_43 : PySem.W.subIn K (.ref f43) (.ref f42) = some false)
    (xu43_43 : PySem.W.subIn K (.ref f43) (.ref f43) = some true)
    (cy : PySem.W.specialIn K (.builtin "object.__class__") "__get__" = some (some (.builtin "getset_descriptor.__get__")))
    (cz : PySem.W.takesIn K (.builtin "object.__class__") = some true)
    (z_ValueError : PySem.W.nsIn K mainGlobals "ValueError" = some none)
    (z_abs : PySem.W.nsIn K mainGlobals "abs" = some none)
    (z_all : PySem.W.nsIn K mainGlobals "all" = some none)
    (z_bool : PySem.W.nsIn K mainGlobals "bool" = some none)
    (z_int : PySem.W.nsIn K mainGlobals "int" = some none)
    (z_isinstance : PySem.W.nsIn K mainGlobals "isinstance" = some none)
    (z_len : PySem.W.nsIn K mainGlobals "len" = some none)
    (z_list : PySem.W.nsIn K mainGlobals "list" = some none)
    (z_range : PySem.W.nsIn K mainGlobals "range" = some none)
    (z_sorted : PySem.W.nsIn K mainGlobals "sorted" = some none)
    (z_str : PySem.W.nsIn K mainGlobals "str" = some none)
    (z_sum : PySem.W.nsIn K mainGlobals "sum" = some none)
    (z_tuple : PySem.W.nsIn K mainGlobals "tuple" = some none)
    (y_MOST : PySem.W.nsIn K mainGlobals "MOST" = some (some (.int 2000 t_MOST)))
    (y_SMALL : PySem.W.nsIn K mainGlobals "SMALL" = some (some (.int 61 t_SMALL)))
    (y_LONGEST : PySem.W.nsIn K mainGlobals "LONGEST" = some (some (.int 60 t_LONGEST)))
    (a0 : PySem.W.nsIn K mainGlobals "is_whole" = some (some (.ref f0)))
    (l0 : K.lookup f0 = some ⟨oc0, od0, .func (PySem.W.fnOf "is_whole" "is_whole" (defArgs s_is_whole) (defBody s_is_whole) (defScope s_is_whole) .none kV0 dc0 pm0 an0 cd0 ct0), sl0⟩)
    (c0 : PySem.W.codeIn K cd0 "is_whole" = true)
    (k0 : PySem.W.keepIn K (.ref f0) = true)
    (a1 : PySem.W.nsIn K mainGlobals "is_prime" = some (some (.ref f1)))
    (l1 : K.lookup f1 = some ⟨oc1, od1, .func (PySem.W.fnOf "is_prime" "is_prime" (defArgs s_is_prime) (defBody s_is_prime) (defScope s_is_prime) .none kV1 dc1 pm1 an1 cd1 ct1), sl1⟩)
    (c1 : PySem.W.codeIn K cd1 "is_prime" = true)
    (k1 : PySem.W.keepIn K (.ref f1) = true)
    (a2 : PySem.W.nsIn K mainGlobals "asked_prime" = some (some (.ref f2)))
    (l2 : K.lookup f2 = some ⟨oc2, od2, .func (PySem.W.fnOf "asked_prime" "asked_prime" (defArgs s_asked_prime) (defBody s_asked_prime) (defScope s_asked_prime) .none kV2 dc2 pm2 an2 cd2 ct2), sl2⟩)
    (c2 : PySem.W.codeIn K cd2 "asked_prime" = true)
    (k2 : PySem.W.keepIn K (.ref f2) = true)
    (a3 : PySem.W.nsIn K mainGlobals "power" = some (some (.ref f3)))
    (l3 : K.lookup f3 = some ⟨oc3, od3, .func (PySem.W.fnOf "power" "power" (defArgs s_power) (defBody s_power) (defScope s_power) .none kV3 dc3 pm3 an3 cd3 ct3), sl3⟩)
    (c3 : PySem.W.codeIn K cd3 "power" = true)
    (k3 : PySem.W.keepIn K (.ref f3) = true)
    (a4 : PySem.W.nsIn K mainGlobals "root_of" = some (some (.ref f4)))
    (l4 : K.lookup f4 = some ⟨oc4, od4, .func (PySem.W.fnOf "root_of" "root_of" (defArgs s_root_of) (defBody s_root_of) (defScope s_root_of) .none kV4 dc4 pm4 an4 cd4 ct4), sl4⟩)
    (c4 : PySem.W.codeIn K cd4 "root_of" = true)
    (k4 : PySem.W.keepIn K (.ref f4) = true)
    (a5 : PySem.W.nsIn K mainGlobals "is_root" = some (some (.ref f5)))
    (l5 : K.lookup f5 = some ⟨oc5, od5, .func (PySem.W.fnOf "is_root" "is_root" (defArgs s_is_root) (defBody s_is_root) (defScope s_is_root) .none kV5 dc5 pm5 an5 cd5 ct5), sl5⟩)
    (c5 : PySem.W.codeIn K cd5 "is_root" = true)
    (k5 : PySem.W.keepIn K (.ref f5) = true)
    (a6 : PySem.W.nsIn K mainGlobals "least_root" = some (some (.ref f6)))
    (l6 : K.lookup f6 = some ⟨oc6, od6, .func (PySem.W.fnOf "least_root" "least_root" (defArgs s_least_root) (defBody s_least_root) (defScope s_least_root) .none kV6 dc6 pm6 an6 cd6 ct6), sl6⟩)
    (c6 : PySem.W.codeIn K cd6 "least_root" = true)
    (k6 : PySem.W.keepIn K (.ref f6) = true)
    (a7 : PySem.W.nsIn K mainGlobals "asked_root" = some (some (.ref f7)))
    (l7 : K.lookup f7 = some ⟨oc7, od7, .func (PySem.W.fnOf "asked_root" "asked_root" (defArgs s_asked_root) (defBody s_asked_root) (defScope s_asked_root) .none kV7 dc7 pm7 an7 cd7 ct7), sl7⟩)
    (c7 : PySem.W.codeIn K cd7 "asked_root" = true)
    (k7 : PySem.W.keepIn K (.ref f7) = true)
    (a8 : PySem.W.nsIn K mainGlobals "asked_plan" = some (some (.ref f8)))
    (l8 : K.lookup f8 = some ⟨oc8, od8, .func (PySem.W.fnOf "asked_plan" "asked_plan" (defArgs s_asked_plan) (defBody s_asked_plan) (defScope s_asked_plan) .none kV8 dc8 pm8 an8 cd8 ct8), sl8⟩)
    (c8 : PySem.W.codeIn K cd8 "asked_plan" = true)
    (k8 : PySem.W.keepIn K (.ref f8) = true)
    (a9 : PySem.W.nsIn K mainGlobals "row_of" = some (some (.ref f9)))
    (l9 : K.lookup f9 = some ⟨oc9, od9, .func (PySem.W.fnOf "row_of" "row_of" (defArgs s_row_of) (defBody s_row_of) (defScope s_row_of) .none kV9 dc9 pm9 an9 cd9 ct9), sl9⟩)
    (c9 : PySem.W.codeIn K cd9 "row_of" = true)
    (k9 : PySem.W.keepIn K (.ref f9) = true)
    (a10 : PySem.W.nsIn K mainGlobals "found_column" = some (some (.ref f10)))
    (l10 : K.lookup f10 = some ⟨oc10, od10, .func (PySem.W.fnOf "found_column" "found_column" (defArgs s_found_column) (defBody s_found_column) (defScope s_found_column) .none kV10 dc10 pm10 an10 cd10 ct10), sl10⟩)
    (c10 : PySem.W.codeIn K cd10 "found_column" = true)
    (k10 : PySem.W.keepIn K (.ref f10) = true)
    (a11 : PySem.W.nsIn K mainGlobals "column_of" = some (some (.ref f11)))
    (l11 : K.lookup f11 = some ⟨oc11, od11, .func (PySem.W.fnOf "column_of" "column_of" (defArgs s_column_of) (defBody s_column_of) (defScope s_column_of) .none kV11 dc11 pm11 an11 cd11 ct11), sl11⟩)
    (c11 : PySem.W.codeIn K cd11 "column_of" = true)
    (k11 : PySem.W.keepIn K (.ref f11) = true)
    (a12 : PySem.W.nsIn K mainGlobals "arrow_of" = some (some (.ref f12)))
    (l12 : K.lookup f12 = some ⟨oc12, od12, .func (PySem.W.fnOf "arrow_of" "arrow_of" (defArgs s_arrow_of) (defBody s_arrow_of) (defScope s_arrow_of) .none kV12 dc12 pm12 an12 cd12 ct12), sl12⟩)
    (c12 : PySem.W.codeIn K cd12 "arrow_of" = true)
    (k12 : PySem.W.keepIn K (.ref f12) = true)
    (a13 : PySem.W.nsIn K mainGlobals "dots_of" = some (some (.ref f13)))
    (l13 : K.lookup f13 = some ⟨oc13, od13, .func (PySem.W.fnOf "dots_of" "dots_of" (defArgs s_dots_of) (defBody s_dots_of) (defScope s_dots_of) .none kV13 dc13 pm13 an13 cd13 ct13), sl13⟩)
    (c13 : PySem.W.codeIn K cd13 "dots_of" = true)
    (k13 : PySem.W.keepIn K (.ref f13) = true)
    (a14 : PySem.W.nsIn K mainGlobals "crossed" = some (some (.ref f14)))
    (l14 : K.lookup f14 = some ⟨oc14, od14, .func (PySem.W.fnOf "crossed" "crossed" (defArgs s_crossed) (defBody s_crossed) (defScope s_crossed) .none kV14 dc14 pm14 an14 cd14 ct14), sl14⟩)
    (c14 : PySem.W.codeIn K cd14 "crossed" = true)
    (k14 : PySem.W.keepIn K (.ref f14) = true)
    (a15 : PySem.W.nsIn K mainGlobals "first_same" = some (some (.ref f15)))
    (l15 : K.lookup f15 = some ⟨oc15, od15, .func (PySem.W.fnOf "first_same" "first_same" (defArgs s_first_same) (defBody s_first_same) (defScope s_first_same) .none kV15 dc15 pm15 an15 cd15 ct15), sl15⟩)
    (c15 : PySem.W.codeIn K cd15 "first_same" = true)
    (k15 : PySem.W.keepIn K (.ref f15) = true)
    (a16 : PySem.W.findIn K (.ref f45) "shows" = some (some (.ref f16)))
    (i16 : PySem.W.isFn K (.ref f16) = true)
    (l16 : K.lookup f16 = some ⟨oc16, od16, .func (PySem.W.fnOf "shows" "Apart.shows" (defArgs s_Apart_shows) (defBody s_Apart_shows) (defScope s_Apart_shows) .none kV16 dc16 pm16 an16 cd16 ct16), sl16⟩)
    (c16 : PySem.W.codeIn K cd16 "Apart.shows" = true)
    (k16 : PySem.W.keepIn K (.ref f16) = true)
    (a17 : PySem.W.findIn K (.ref f46) "__init__" = some (some (.ref f17)))
    (i17 : PySem.W.isFn K (.ref f17) = true)
    (l17 : K.lookup f17 = some ⟨oc17, od17, .func (PySem.W.fnOf "__init__" "Same.__init__" (defArgs s_Same_init) (defBody s_Same_init) (defScope s_Same_init) .none kV17 dc17 pm17 an17 cd17 ct17), sl17⟩)
    (c17 : PySem.W.codeIn K cd17 "Same.__init__" = true)
    (k17 : PySem.W.keepIn K (.ref f17) = true)
    (a18 : PySem.W.findIn K (.ref f46) "shows" = some (some (.ref f18)))
    (i18 : PySem.W.isFn K (.ref f18) = true)
    (l18 : K.lookup f18 = some ⟨oc18, od18, .func (PySem.W.fnOf "shows" "Same.shows" (defArgs s_Same_shows) (defBody s_Same_shows) (defScope s_Same_shows) .none kV18 dc18 pm18 an18 cd18 ct18), sl18⟩)
    (c18 : PySem.W.codeIn K cd18 "Same.shows" = true)
    (k18 : PySem.W.keepIn K (.ref f18) = true)
    (a19 : PySem.W.nsIn K mainGlobals "asked_dots" = some (some (.ref f19)))
    (l19 : K.lookup f19 = some ⟨oc19, od19, .func (PySem.W.fnOf "asked_dots" "asked_dots" (defArgs s_asked_dots) (defBody s_asked_dots) (defScope s_asked_dots) .none kV19 dc19 pm19 an19 cd19 ct19), sl19⟩)
    (c19 : PySem.W.codeIn K cd19 "asked_dots" = true)
    (k19 : PySem.W.keepIn K (.ref f19) = true)
    (a20 : PySem.W.nsIn K mainGlobals "judged" = some (some (.ref f20)))
    (l20 : K.lookup f20 = some ⟨oc20, od20, .func (PySem.W.fnOf "judged" "judged" (defArgs s_judged) (defBody s_judged) (defScope s_judged) .none kV20 dc20 pm20 an20 cd20 ct20), sl20⟩)
    (c20 : PySem.W.codeIn K cd20 "judged" = true)
    (k20 : PySem.W.keepIn K (.ref f20) = true)
    (a21 : PySem.W.nsIn K mainGlobals "turned" = some (some (.ref f21)))
    (l21 : K.lookup f21 = some ⟨oc21, od21, .func (PySem.W.fnOf "turned" "turned" (defArgs s_turned) (defBody s_turned) (defScope s_turned) .none kV21 dc21 pm21 an21 cd21 ct21), sl21⟩)
    (c21 : PySem.W.codeIn K cd21 "turned" = true)
    (k21 : PySem.W.keepIn K (.ref f21) = true)
    (a22 : PySem.W.nsIn K mainGlobals "without_corner" = some (some (.ref f22)))
    (l22 : K.lookup f22 = some ⟨oc22, od22, .func (PySem.W.fnOf "without_corner" "without_corner" (defArgs s_without_corner) (defBody s_without_corner) (defScope s_without_corner) .none kV22 dc22 pm22 an22 cd22 ct22), sl22⟩)
    (c22 : PySem.W.codeIn K cd22 "without_corner" = true)
    (k22 : PySem.W.keepIn K (.ref f22) = true)
    (a23 : PySem.W.nsIn K mainGlobals "_law_kinds" = some (some (.ref f23)))
    (l23 : K.lookup f23 = some ⟨oc23, od23, .func (PySem.W.fnOf "_law_kinds" "_law_kinds" (defArgs s__law_kinds) (defBody s__law_kinds) (defScope s__law_kinds) .none kV23 dc23 pm23 an23 cd23 ct23), sl23⟩)
    (c23 : PySem.W.codeIn K cd23 "_law_kinds" = true)
    (k23 : PySem.W.keepIn K (.ref f23) = true)
    (a24 : PySem.W.nsIn K mainGlobals "_law_refused" = some (some (.ref f24)))
    (l24 : K.lookup f24 = some ⟨oc24, od24, .func (PySem.W.fnOf "_law_refused" "_law_refused" (defArgs s__law_refused) (defBody s__law_refused) (defScope s__law_refused) .none kV24 dc24 pm24 an24 cd24 ct24), sl24⟩)
    (c24 : PySem.W.codeIn K cd24 "_law_refused" = true)
    (k24 : PySem.W.keepIn K (.ref f24) = true)
    (a25 : PySem.W.nsIn K mainGlobals "_law_plain" = some (some (.ref f25)))
    (l25 : K.lookup f25 = some ⟨oc25, od25, .func (PySem.W.fnOf "_law_plain" "_law_plain" (defArgs s__law_plain) (defBody s__law_plain) (defScope s__law_plain) .none kV25 dc25 pm25 an25 cd25 ct25), sl25⟩)
    (c25 : PySem.W.codeIn K cd25 "_law_plain" = true)
    (k25 : PySem.W.keepIn K (.ref f25) = true)
    (a26 : PySem.W.nsIn K mainGlobals "_law_truths" = some (some (.ref f26)))
    (l26 : K.lookup f26 = some ⟨oc26, od26, .func (PySem.W.fnOf "_law_truths" "_law_truths" (defArgs s__law_truths) (defBody s__law_truths) (defScope s__law_truths) .none kV26 dc26 pm26 an26 cd26 ct26), sl26⟩)
    (c26 : PySem.W.codeIn K cd26 "_law_truths" = true)
    (k26 : PySem.W.keepIn K (.ref f26) = true)
    (a27 : PySem.W.nsIn K mainGlobals "_law_known_right" = some (some (.ref f27)))
    (l27 : K.lookup f27 = some ⟨oc27, od27, .func (PySem.W.fnOf "_law_known_right" "_law_known_right" (defArgs s__law_known_right) (defBody s__law_known_right) (defScope s__law_known_right) .none kV27 dc27 pm27 an27 (.ref cc27) ct27), sl27⟩)
    (c27 : PySem.W.codeIn K (.ref cc27) "_law_known_right" = true)
    (k27 : PySem.W.keepIn K (.ref f27) = true)
    (tl27 : K.lookup cc27 = some ⟨occ27, odc27, .fields vsc27, slc27⟩)
    (tp27 : (vsc27[11]? : Option Value) = some (.ref PP27))
    (tn27 : K.lookup PP27 = none)
    (tr27 : ((recsOf q).find? (fun e => e.name == ("_law_known_right" : Str))).isSome = true)
    (a28 : PySem.W.nsIn K mainGlobals "_law_dots_right" = some (some (.ref f28)))
    (l28 : K.lookup f28 = some ⟨oc28, od28, .func (PySem.W.fnOf "_law_dots_right" "_law_dots_right" (defArgs s__law_dots_right) (defBody s__law_dots_right) (defScope s__law_dots_right) .none kV28 dc28 pm28 an28 (.ref cc28) ct28), sl28⟩)
    (c28 : PySem.W.codeIn K (.ref cc28) "_law_dots_right" = true)
    (k28 : PySem.W.keepIn K (.ref f28) = true)
    (tl28 : K.lookup cc28 = some ⟨occ28, odc28, .fields vsc28, slc28⟩)
    (tp28 : (vsc28[11]? : Option Value) = some (.ref PP28))
    (tn28 : K.lookup PP28 = none)
    (tr28 : ((recsOf q).find? (fun e => e.name == ("_law_dots_right" : Str))).isSome = true)
    (a29 : PySem.W.nsIn K mainGlobals "_law_bad_right" = some (some (.ref f29)))
    (l29 : K.lookup f29 = some ⟨oc29, od29, .func (PySem.W.fnOf "_law_bad_right" "_law_bad_right" (defArgs s__law_bad_right) (defBody s__law_bad_right) (defScope s__law_bad_right) .none kV29 dc29 pm29 an29 (.ref cc29) ct29), sl29⟩)
    (c29 : PySem.W.codeIn K (.ref cc29) "_law_bad_right" = true)
    (k29 : PySem.W.keepIn K (.ref f29) = true)
    (tl29 : K.lookup cc29 = some ⟨occ29, odc29, .fields vsc29, slc29⟩)
    (tp29 : (vsc29[11]? : Option Value) = some (.ref PP29))
    (tn29 : K.lookup PP29 = none)
    (tr29 : ((recsOf q).find? (fun e => e.name == ("_law_bad_right" : Str))).isSome = true)
    (a30 : PySem.W.nsIn K mainGlobals "_law_has_no_corner" = some (some (.ref f30)))
    (l30 : K.lookup f30 = some ⟨oc30, od30, .func (PySem.W.fnOf "_law_has_no_corner" "_law_has_no_corner" (defArgs s__law_has_no_corner) (defBody s__law_has_no_corner) (defScope s__law_has_no_corner) .none kV30 dc30 pm30 an30 cd30 ct30), sl30⟩)
    (c30 : PySem.W.codeIn K cd30 "_law_has_no_corner" = true)
    (k30 : PySem.W.keepIn K (.ref f30) = true)
    (a31 : PySem.W.nsIn K mainGlobals "_law_promises_right" = some (some (.ref f31)))
    (l31 : K.lookup f31 = some ⟨oc31, od31, .func (PySem.W.fnOf "_law_promises_right" "_law_promises_right" (defArgs s__law_promises_right) (defBody s__law_promises_right) (defScope s__law_promises_right) .none kV31 dc31 pm31 an31 cd31 ct31), sl31⟩)
    (c31 : PySem.W.codeIn K cd31 "_law_promises_right" = true)
    (k31 : PySem.W.keepIn K (.ref f31) = true)
    (a32 : PySem.W.nsIn K mainGlobals "_law_more_promises" = some (some (.ref f32)))
    (l32 : K.lookup f32 = some ⟨oc32, od32, .func (PySem.W.fnOf "_law_more_promises" "_law_more_promises" (defArgs s__law_more_promises) (defBody s__law_more_promises) (defScope s__law_more_promises) .none kV32 dc32 pm32 an32 cd32 ct32), sl32⟩)
    (c32 : PySem.W.codeIn K cd32 "_law_more_promises" = true)
    (k32 : PySem.W.keepIn K (.ref f32) = true)
    (a33 : PySem.W.nsIn K mainGlobals "law" = some (some (.ref f33)))
    (l33 : K.lookup f33 = some ⟨oc33, od33, .func (PySem.W.fnOf "law" "law" (defArgs s_law) (defBody s_law) (defScope s_law) .none kV33 dc33 pm33 an33 cd33 ct33), sl33⟩)
    (c33 : PySem.W.codeIn K cd33 "law" = true)
    (k33 : PySem.W.keepIn K (.ref f33) = true)
    (td27_28 : PP27 ≠ PP28)
    (td27_29 : PP27 ≠ PP29)
    (td28_29 : PP28 ≠ PP29)
    : LamX.LawAtS l w K CX0 9 63 "_law_script" mg fL h := by
  have e := hfa.symm.trans (PySem.W.mg_of X G a33)
  cases e
  have F0 := fun_mk (st := s_is_whole) l0 c0 k0
  have b0 := F0.binds (ps := ["thing"]) fun _ _ _ _ _ _ us hl => match us, hl with | [_], _ => rfl
  have F1 := fun_mk (st := s_is_prime) l1 c1 k1
  have b1 := F1.binds (ps := ["number"]) fun _ _ _ _ _ _ us hl => match us, hl with | [_], _ => rfl
  have F2 := fun_mk (st := s_asked_prime) l2 c2 k2
  have b2 := F2.binds (ps := ["prime", "most"]) fun _ _ _ _ _ _ us hl => match us, hl with | [_, _], _ => rfl
  have F3 := fun_mk (st := s_power) l3 c3 k3
  have b3 := F3.binds (ps := ["number", "times", "prime"]) fun _ _ _ _ _ _ us hl => match us, hl with | [_, _, _], _ => rfl
  have F4 := fun_mk (st := s_root_of) l4 c4 k4
  have b4 := F4.binds (ps := ["prime", "number"]) fun _ _ _ _ _ _ us hl => match us, hl with | [_, _], _ => rfl
  have F5 := fun_mk (st := s_is_root) l5 c5 k5
  have b5 := F5.binds (ps := ["prime", "number"]) fun _ _ _ _ _ _ us hl => match us, hl with | [_, _], _ => rfl
  have F6 := fun_mk (st := s_least_root) l6 c6 k6
  have b6 := F6.binds (ps := ["prime"]) fun _ _ _ _ _ _ us hl => match us, hl with | [_], _ => rfl
  have F7 := fun_mk (st := s_asked_root) l7 c7 k7
  have b7 := F7.binds (ps := ["prime", "root"]) fun _ _ _ _ _ _ us hl => match us, hl with | [_, _], _ => rfl
  have F8 := fun_mk (st := s_asked_plan) l8 c8 k8
  have b8 := F8.binds (ps := ["prime", "root", "begin", "most"]) fun _ _ _ _ _ _ us hl => match us, hl with | [_, _, _, _], _ => rfl
  have F9 := fun_mk (st := s_row_of) l9 c9 k9
  have b9 := F9.binds (ps := ["prime", "root", "begin", "column"]) fun _ _ _ _ _ _ us hl => match us, hl with | [_, _, _, _], _ => rfl
  have F10 := fun_mk (st := s_found_column) l10 c10 k10
  have b10 := F10.binds (ps := ["prime", "root", "begin", "row"]) fun _ _ _ _ _ _ us hl => match us, hl with | [_, _, _, _], _ => rfl
  have F11 := fun_mk (st := s_column_of) l11 c11 k11
  have b11 := F11.binds (ps := ["prime", "root", "begin", "row"]) fun _ _ _ _ _ _ us hl => match us, hl with | [_, _, _, _], _ => rfl
  have F12 := fun_mk (st := s_arrow_of) l12 c12 k12
  have b12 := F12.binds (ps := ["prime", "root", "begin", "across", "up"]) fun _ _ _ _ _ _ us hl => match us, hl with | [_, _, _, _, _], _ => rfl
  have F13 := fun_mk (st := s_dots_of) l13 c13 k13
  have b13 := F13.binds (ps := ["prime", "root", "begin"]) fun _ _ _ _ _ _ us hl => match us, hl with | [_, _, _], _ => rfl
  have F14 := fun_mk (st := s_crossed) l14 c14 k14
  have b14 := F14.binds (ps := ["prime", "root", "other"]) fun _ _ _ _ _ _ us hl => match us, hl with | [_, _, _], _ => rfl
  have F15 := fun_mk (st := s_first_same) l15 c15 k15
  have b15 := F15.binds (ps := ["dots"]) fun _ _ _ _ _ _ us hl => match us, hl with | [_], _ => rfl
  have F16 := fun_mk (st := s_Apart_shows) l16 c16 k16
  have b16 := F16.binds (ps := ["self", "dots"]) fun _ _ _ _ _ _ us hl => match us, hl with | [_, _], _ => rfl
  have F17 := fun_mk (st := s_Same_init) l17 c17 k17
  have b17 := F17.binds (ps := ["self", "first", "second", "across"]) fun _ _ _ _ _ _ us hl => match us, hl with | [_, _, _, _], _ => rfl
  have F18 := fun_mk (st := s_Same_shows) l18 c18 k18
  have b18 := F18.binds (ps := ["self", "dots"]) fun _ _ _ _ _ _ us hl => match us, hl with | [_, _], _ => rfl
  have F19 := fun_mk (st := s_asked_dots) l19 c19 k19
  have b19 := F19.binds (ps := ["dots"]) fun _ _ _ _ _ _ us hl => match us, hl with | [_], _ => rfl
  have F20 := fun_mk (st := s_judged) l20 c20 k20
  have b20 := F20.binds (ps := ["dots"]) fun _ _ _ _ _ _ us hl => match us, hl with | [_], _ => rfl
  have F21 := fun_mk (st := s_turned) l21 c21 k21
  have b21 := F21.binds (ps := ["dots", "way"]) fun _ _ _ _ _ _ us hl => match us, hl with | [_, _], _ => rfl
  have F22 := fun_mk (st := s_without_corner) l22 c22 k22
  have b22 := F22.binds (ps := ["dots"]) fun _ _ _ _ _ _ us hl => match us, hl with | [_], _ => rfl
  have F23 := fun_mk (st := s__law_kinds) l23 c23 k23
  have b23 := F23.binds (ps := ["_law_error"]) fun _ _ _ _ _ _ us hl => match us, hl with | [_], _ => rfl
  have F24 := fun_mk (st := s__law_refused) l24 c24 k24
  have b24 := F24.binds (ps := ["_law_ask", "_law_thing", "_law_due"]) fun _ _ _ _ _ _ us hl => match us, hl with | [_, _, _], _ => rfl
  have F25 := fun_mk (st := s__law_plain) l25 c25 k25
  have b25 := F25.binds (ps := ["_law_thing"]) fun _ _ _ _ _ _ us hl => match us, hl with | [_], _ => rfl
  have F26 := fun_mk (st := s__law_truths) l26 c26 k26
  have b26 := F26.binds (ps := ["_law_things"]) fun _ _ _ _ _ _ us hl => match us, hl with | [_], _ => rfl
  have F27 := fun_mk (st := s__law_known_right) l27 c27 k27
  have b27 := F27.binds (ps := ["_law_far"]) fun _ _ _ _ _ _ us hl => match us, hl with | [_], _ => rfl
  have F28 := fun_mk (st := s__law_dots_right) l28 c28 k28
  have b28 := F28.binds (ps := []) fun _ _ _ _ _ _ us hl => match us, hl with | [], _ => rfl
  have F29 := fun_mk (st := s__law_bad_right) l29 c29 k29
  have b29 := F29.binds (ps := ["_law_whole"]) fun _ _ _ _ _ _ us hl => match us, hl with | [_], _ => rfl
  have F30 := fun_mk (st := s__law_has_no_corner) l30 c30 k30
  have b30 := F30.binds (ps := ["_law_dots"]) fun _ _ _ _ _ _ us hl => match us, hl with | [_], _ => rfl
  have F31 := fun_mk (st := s__law_promises_right) l31 c31 k31
  have b31 := F31.binds (ps := []) fun _ _ _ _ _ _ us hl => match us, hl with | [], _ => rfl
  have F32 := fun_mk (st := s__law_more_promises) l32 c32 k32
  have b32 := F32.binds (ps := []) fun _ _ _ _ _ _ us hl => match us, hl with | [], _ => rfl
  have F33 := fun_mk (st := s_law) l33 c33 k33
  have b33 := F33.binds (ps := ["_law_script"]) fun _ _ _ _ _ _ us hl => match us, hl with | [_], _ => rfl
  have T : Txt K mg (fun i => [f0, f1, f2, f3, f4, f5, f6, f7, f8, f9, f10, f11, f12, f13, f14, f15, f16, f17, f18, f19, f20, f21, f22, f23, f24, f25, f26, f27, f28, f29, f30, f31, f32, fL, f34, f35, f36, f37, f38, f39, f40, f41, f42, f43, f44, f45, f46].getD i 0) (fun i => [PySem.W.fnOf "is_whole" "is_whole" (defArgs s_is_whole) (defBody s_is_whole) (defScope s_is_whole) .none kV0 dc0 pm0 an0 cd0 ct0,
      PySem.W.fnOf "is_prime" "is_prime" (defArgs s_is_prime) (defBody s_is_prime) (defScope s_is_prime) .none kV1 dc1 pm1 an1 cd1 ct1,
      PySem.W.fnOf "asked_prime" "asked_prime" (defArgs s_asked_prime) (defBody s_asked_prime) (defScope s_asked_prime) .none kV2 dc2 pm2 an2 cd2 ct2,
      PySem.W.fnOf "power" "power" (defArgs s_power) (defBody s_power) (defScope s_power) .none kV3 dc3 pm3 an3 cd3 ct3,
      PySem.W.fnOf "root_of" "root_of" (defArgs s_root_of) (defBody s_root_of) (defScope s_root_of) .none kV4 dc4 pm4 an4 cd4 ct4,
      PySem.W.fnOf "is_root" "is_root" (defArgs s_is_root) (defBody s_is_root) (defScope s_is_root) .none kV5 dc5 pm5 an5 cd5 ct5,
      PySem.W.fnOf "least_root" "least_root" (defArgs s_least_root) (defBody s_least_root) (defScope s_least_root) .none kV6 dc6 pm6 an6 cd6 ct6,
      PySem.W.fnOf "asked_root" "asked_root" (defArgs s_asked_root) (defBody s_asked_root) (defScope s_asked_root) .none kV7 dc7 pm7 an7 cd7 ct7,
      PySem.W.fnOf "asked_plan" "asked_plan" (defArgs s_asked_plan) (defBody s_asked_plan) (defScope s_asked_plan) .none kV8 dc8 pm8 an8 cd8 ct8,
      PySem.W.fnOf "row_of" "row_of" (defArgs s_row_of) (defBody s_row_of) (defScope s_row_of) .none kV9 dc9 pm9 an9 cd9 ct9,
      PySem.W.fnOf "found_column" "found_column" (defArgs s_found_column) (defBody s_found_column) (defScope s_found_column) .none kV10 dc10 pm10 an10 cd10 ct10,
      PySem.W.fnOf "column_of" "column_of" (defArgs s_column_of) (defBody s_column_of) (defScope s_column_of) .none kV11 dc11 pm11 an11 cd11 ct11,
      PySem.W.fnOf "arrow_of" "arrow_of" (defArgs s_arrow_of) (defBody s_arrow_of) (defScope s_arrow_of) .none kV12 dc12 pm12 an12 cd12 ct12,
      PySem.W.fnOf "dots_of" "dots_of" (defArgs s_dots_of) (defBody s_dots_of) (defScope s_dots_of) .none kV13 dc13 pm13 an13 cd13 ct13,
      PySem.W.fnOf "crossed" "crossed" (defArgs s_crossed) (defBody s_crossed) (defScope s_crossed) .none kV14 dc14 pm14 an14 cd14 ct14,
      PySem.W.fnOf "first_same" "first_same" (defArgs s_first_same) (defBody s_first_same) (defScope s_first_same) .none kV15 dc15 pm15 an15 cd15 ct15,
      PySem.W.fnOf "shows" "Apart.shows" (defArgs s_Apart_shows) (defBody s_Apart_shows) (defScope s_Apart_shows) .none kV16 dc16 pm16 an16 cd16 ct16,
      PySem.W.fnOf "__init__" "Same.__init__" (defArgs s_Same_init) (defBody s_Same_init) (defScope s_Same_init) .none kV17 dc17 pm17 an17 cd17 ct17,
      PySem.W.fnOf "shows" "Same.shows" (defArgs s_Same_shows) (defBody s_Same_shows) (defScope s_Same_shows) .none kV18 dc18 pm18 an18 cd18 ct18,
      PySem.W.fnOf "asked_dots" "asked_dots" (defArgs s_asked_dots) (defBody s_asked_dots) (defScope s_asked_dots) .none kV19 dc19 pm19 an19 cd19 ct19,
      PySem.W.fnOf "judged" "judged" (defArgs s_judged) (defBody s_judged) (defScope s_judged) .none kV20 dc20 pm20 an20 cd20 ct20,
      PySem.W.fnOf "turned" "turned" (defArgs s_turned) (defBody s_turned) (defScope s_turned) .none kV21 dc21 pm21 an21 cd21 ct21,
      PySem.W.fnOf "without_corner" "without_corner" (defArgs s_without_corner) (defBody s_without_corner) (defScope s_without_corner) .none kV22 dc22 pm22 an22 cd22 ct22,
      PySem.W.fnOf "_law_kinds" "_law_kinds" (defArgs s__law_kinds) (defBody s__law_kinds) (defScope s__law_kinds) .none kV23 dc23 pm23 an23 cd23 ct23,
      PySem.W.fnOf "_law_refused" "_law_refused" (defArgs s__law_refused) (defBody s__law_refused) (defScope s__law_refused) .none kV24 dc24 pm24 an24 cd24 ct24,
      PySem.W.fnOf "_law_plain" "_law_plain" (defArgs s__law_plain) (defBody s__law_plain) (defScope s__law_plain) .none kV25 dc25 pm25 an25 cd25 ct25,
      PySem.W.fnOf "_law_truths" "_law_truths" (defArgs s__law_truths) (defBody s__law_truths) (defScope s__law_truths) .none kV26 dc26 pm26 an26 cd26 ct26,
      PySem.W.fnOf "_law_known_right" "_law_known_right" (defArgs s__law_known_right) (defBody s__law_known_right) (defScope s__law_known_right) .none kV27 dc27 pm27 an27 (.ref cc27) ct27,
      PySem.W.fnOf "_law_dots_right" "_law_dots_right" (defArgs s__law_dots_right) (defBody s__law_dots_right) (defScope s__law_dots_right) .none kV28 dc28 pm28 an28 (.ref cc28) ct28,
      PySem.W.fnOf "_law_bad_right" "_law_bad_right" (defArgs s__law_bad_right) (defBody s__law_bad_right) (defScope s__law_bad_right) .none kV29 dc29 pm29 an29 (.ref cc29) ct29,
      PySem.W.fnOf "_law_has_no_corner" "_law_has_no_corner" (defArgs s__law_has_no_corner) (defBody s__law_has_no_corner) (defScope s__law_has_no_corner) .none kV30 dc30 pm30 an30 cd30 ct30,
      PySem.W.fnOf "_law_promises_right" "_law_promises_right" (defArgs s__law_promises_right) (defBody s__law_promises_right) (defScope s__law_promises_right) .none kV31 dc31 pm31 an31 cd31 ct31,
      PySem.W.fnOf "_law_more_promises" "_law_more_promises" (defArgs s__law_more_promises) (defBody s__law_more_promises) (defScope s__law_more_promises) .none kV32 dc32 pm32 an32 cd32 ct32,
      PySem.W.fnOf "law" "law" (defArgs s_law) (defBody s_law) (defScope s_law) .none kV33 dc33 pm33 an33 cd33 ct33].getD i (PySem.W.fnOf "is_whole" "is_whole" (defArgs s_is_whole) (defBody s_is_whole) (defScope s_is_whole) .none kV0 dc0 pm0 an0 cd0 ct0)) (fun i => [t_MOST, t_SMALL, t_LONGEST].getD i default) := {
    m_ValueError := PySem.W.mg_none_of X G z_ValueError
    m_abs := PySem.W.mg_none_of X G z_abs
    m_all := PySem.W.mg_none_of X G z_all
    m_bool := PySem.W.mg_none_of X G z_bool
    m_int := PySem.W.mg_none_of X G z_int
    m_isinstance := PySem.W.mg_none_of X G z_isinstance
    m_len := PySem.W.mg_none_of X G z_len
    m_list := PySem.W.mg_none_of X G z_list
    m_range := PySem.W.mg_none_of X G z_range
    m_sorted := PySem.W.mg_none_of X G z_sorted
    m_str := PySem.W.mg_none_of X G z_str
    m_sum := PySem.W.mg_none_of X G z_sum
    m_tuple := PySem.W.mg_none_of X G z_tuple
    g_MOST := PySem.W.mg_of X G y_MOST
    g_SMALL := PySem.W.mg_of X G y_SMALL
    g_LONGEST := PySem.W.mg_of X G y_LONGEST
    g_Answer := PySem.W.mg_of X G ca44
    mk_Answer := ⟨cm44, ci44, ck44⟩
    in_Answer := ⟨⟨cg44, ch44, cp44, cs44⟩, cc44, cy, cz, cx44⟩
    ki_Answer_Answer := kit_own cl44 ct44 cu44_44 cu44_44
    ki_Answer_Apart := kit_own cl45 ct45 cu45_44 cu45_45
    ki_Answer_Same := kit_own cl46 ct46 cu46_44 cu46_46
    g_Apart := PySem.W.mg_of X G ca45
    mk_Apart := ⟨cm45, ci45, ck45⟩
    in_Apart := ⟨⟨cg45, ch45, cp45, cs45⟩, cc45, cy, cz, cx45⟩
    me_Apart_shows := ⟨a16, i16, k16⟩
    ki_Apart_Answer := kit_own cl44 ct44 cu44_45 cu44_44
    ki_Apart_Apart := kit_own cl45 ct45 cu45_45 cu45_45
    ki_Apart_Same := kit_own cl46 ct46 cu46_45 cu46_46
    g_Same := PySem.W.mg_of X G ca46
    mk_Same := ⟨cm46, a17, i17, ck46⟩
    in_Same := ⟨⟨cg46, ch46, cp46, cs46⟩, cc46, cy, cz, cx46⟩
    me_Same_shows := ⟨a18, i18, k18⟩
    na_Same_first := cn_first_46
    na_Same_second := cn_second_46
    na_Same_across := cn_across_46
    ki_Same_Answer := kit_own cl44 ct44 cu44_46 cu44_44
    ki_Same_Apart := kit_own cl45 ct45 cu45_46 cu45_45
    ki_Same_Same := kit_own cl46 ct46 cu46_46 cu46_46
    g_DotError := PySem.W.mg_of X G ca34
    x_DotError := ⟨xe34, xk34, xb34, xv34, xt34, ⟨xg34, xh34, xb34, xd34, xc34, cy, cz, xm34⟩, PySem.W.exm_ref xb34 xd34 xt34 xu34_34⟩
    kx_DotError_DotError := kit_own xl34 xt34 xu34_34 xu34_34
    kx_DotError_BadPrime := kit_own xl35 xt35 xu35_34 xu35_35
    kx_DotError_BadRoot := kit_own xl36 xt36 xu36_34 xu36_36
    kx_DotError_BadNumber := kit_own xl37 xt37 xu37_34 xu37_37
    kx_DotError_BadColumn := kit_own xl38 xt38 xu38_34 xu38_38
    kx_DotError_BadRow := kit_own xl39 xt39 xu39_34 xu39_39
    kx_DotError_BadArrow := kit_own xl40 xt40 xu40_34 xu40_40
    kx_DotError_BadDots := kit_own xl41 xt41 xu41_34 xu41_41
    kx_DotError_BadWay := kit_own xl42 xt42 xu42_34 xu42_42
    kx_DotError_NoCorner := kit_own xl43 xt43 xu43_34 xu43_43
    g_BadPrime := PySem.W.mg_of X G ca35
    x_BadPrime := ⟨xe35, xk35, xb35, xv35, xt35, ⟨xg35, xh35, xb35, xd35, xc35, cy, cz, xm35⟩, PySem.W.exm_ref xb34 xd34 xt34 xu34_35⟩
    kx_BadPrime_DotError := kit_own xl34 xt34 xu34_35 xu34_34
    kx_BadPrime_BadPrime := kit_own xl35 xt35 xu35_35 xu35_35
    kx_BadPrime_BadRoot := kit_own xl36 xt36 xu36_35 xu36_36
    kx_BadPrime_BadNumber := kit_own xl37 xt37 xu37_35 xu37_37
    kx_BadPrime_BadColumn := kit_own xl38 xt38 xu38_35 xu38_38
    kx_BadPrime_BadRow := kit_own xl39 xt39 xu39_35 xu39_39
    kx_BadPrime_BadArrow := kit_own xl40 xt40 xu40_35 xu40_40
    kx_BadPrime_BadDots := kit_own xl41 xt41 xu41_35 xu41_41
    kx_BadPrime_BadWay := kit_own xl42 xt42 xu42_35 xu42_42
    kx_BadPrime_NoCorner := kit_own xl43 xt43 xu43_35 xu43_43
    g_BadRoot := PySem.W.mg_of X G ca36
    x_BadRoot := ⟨xe36, xk36, xb36, xv36, xt36, ⟨xg36, xh36, xb36, xd36, xc36, cy, cz, xm36⟩, PySem.W.exm_ref xb34 xd34 xt34 xu34_36⟩
    kx_BadRoot_DotError := kit_own xl34 xt34 xu34_36 xu34_34
    kx_BadRoot_BadPrime := kit_own xl35 xt35 xu35_36 xu35_35
    kx_BadRoot_BadRoot := kit_own xl36 xt36 xu36_36 xu36_36
    kx_BadRoot_BadNumber := kit_own xl37 xt37 xu37_36 xu37_37
    kx_BadRoot_BadColumn := kit_own xl38 xt38 xu38_36 xu38_38
    kx_BadRoot_BadRow := kit_own xl39 xt39 xu39_36 xu39_39
    kx_BadRoot_BadArrow := kit_own xl40 xt40 xu40_36 xu40_40
    kx_BadRoot_BadDots := kit_own xl41 xt41 xu41_36 xu41_41
    kx_BadRoot_BadWay := kit_own xl42 xt42 xu42_36 xu42_42
    kx_BadRoot_NoCorner := kit_own xl43 xt43 xu43_36 xu43_43
    g_BadNumber := PySem.W.mg_of X G ca37
    x_BadNumber := ⟨xe37, xk37, xb37, xv37, xt37, ⟨xg37, xh37, xb37, xd37, xc37, cy, cz, xm37⟩, PySem.W.exm_ref xb34 xd34 xt34 xu34_37⟩
    kx_BadNumber_DotError := kit_own xl34 xt34 xu34_37 xu34_34
    kx_BadNumber_BadPrime := kit_own xl35 xt35 xu35_37 xu35_35
    kx_BadNumber_BadRoot := kit_own xl36 xt36 xu36_37 xu36_36
    kx_BadNumber_BadNumber := kit_own xl37 xt37 xu37_37 xu37_37
    kx_BadNumber_BadColumn := kit_own xl38 xt38 xu38_37 xu38_38
    kx_BadNumber_BadRow := kit_own xl39 xt39 xu39_37 xu39_39
    kx_BadNumber_BadArrow := kit_own xl40 xt40 xu40_37 xu40_40
    kx_BadNumber_BadDots := kit_own xl41 xt41 xu41_37 xu41_41
    kx_BadNumber_BadWay := kit_own xl42 xt42 xu42_37 xu42_42
    kx_BadNumber_NoCorner := kit_own xl43 xt43 xu43_37 xu43_43
    g_BadColumn := PySem.W.mg_of X G ca38
    x_BadColumn := ⟨xe38, xk38, xb38, xv38, xt38, ⟨xg38, xh38, xb38, xd38, xc38, cy, cz, xm38⟩, PySem.W.exm_ref xb34 xd34 xt34 xu34_38⟩
    kx_BadColumn_DotError := kit_own xl34 xt34 xu34_38 xu34_34
    kx_BadColumn_BadPrime := kit_own xl35 xt35 xu35_38 xu35_35
    kx_BadColumn_BadRoot := kit_own xl36 xt36 xu36_38 xu36_36
    kx_BadColumn_BadNumber := kit_own xl37 xt37 xu37_38 xu37_37
    kx_BadColumn_BadColumn := kit_own xl38 xt38 xu38_38 xu38_38
    kx_BadColumn_BadRow := kit_own xl39 xt39 xu39_38 xu39_39
    kx_BadColumn_BadArrow := kit_own xl40 xt40 xu40_38 xu40_40
    kx_BadColumn_BadDots := kit_own xl41 xt41 xu41_38 xu41_41
    kx_BadColumn_BadWay := kit_own xl42 xt42 xu42_38 xu42_42
    kx_BadColumn_NoCorner := kit_own xl43 xt43 xu43_38 xu43_43
    g_BadRow := PySem.W.mg_of X G ca39
    x_BadRow := ⟨xe39, xk39, xb39, xv39, xt39, ⟨xg39, xh39, xb39, xd39, xc39, cy, cz, xm39⟩, PySem.W.exm_ref xb34 xd34 xt34 xu34_39⟩
    kx_BadRow_DotError := kit_own xl34 xt34 xu34_39 xu34_34
    kx_BadRow_BadPrime := kit_own xl35 xt35 xu35_39 xu35_35
    kx_BadRow_BadRoot := kit_own xl36 xt36 xu36_39 xu36_36
    kx_BadRow_BadNumber := kit_own xl37 xt37 xu37_39 xu37_37
    kx_BadRow_BadColumn := kit_own xl38 xt38 xu38_39 xu38_38
    kx_BadRow_BadRow := kit_own xl39 xt39 xu39_39 xu39_39
    kx_BadRow_BadArrow := kit_own xl40 xt40 xu40_39 xu40_40
    kx_BadRow_BadDots := kit_own xl41 xt41 xu41_39 xu41_41
    kx_BadRow_BadWay := kit_own xl42 xt42 xu42_39 xu42_42
    kx_BadRow_NoCorner := kit_own xl43 xt43 xu43_39 xu43_43
    g_BadArrow := PySem.W.mg_of X G ca40
    x_BadArrow := ⟨xe40, xk40, xb40, xv40, xt40, ⟨xg40, xh40, xb40, xd40, xc40, cy, cz, xm40⟩, PySem.W.exm_ref xb34 xd34 xt34 xu34_40⟩
    kx_BadArrow_DotError := kit_own xl34 xt34 xu34_40 xu34_34
    kx_BadArrow_BadPrime := kit_own xl35 xt35 xu35_40 xu35_35
    kx_BadArrow_BadRoot := kit_own xl36 xt36 xu36_40 xu36_36
    kx_BadArrow_BadNumber := kit_own xl37 xt37 xu37_40 xu37_37
    kx_BadArrow_BadColumn := kit_own xl38 xt38 xu38_40 xu38_38
    kx_BadArrow_BadRow := kit_own xl39 xt39 xu39_40 xu39_39
    kx_BadArrow_BadArrow := kit_own xl40 xt40 xu40_40 xu40_40
    kx_BadArrow_BadDots := kit_own xl41 xt41 xu41_40 xu41_41
    kx_BadArrow_BadWay := kit_own xl42 xt42 xu42_40 xu42_42
    kx_BadArrow_NoCorner := kit_own xl43 xt43 xu43_40 xu43_43
    g_BadDots := PySem.W.mg_of X G ca41
    x_BadDots := ⟨xe41, xk41, xb41, xv41, xt41, ⟨xg41, xh41, xb41, xd41, xc41, cy, cz, xm41⟩, PySem.W.exm_ref xb34 xd34 xt34 xu34_41⟩
    kx_BadDots_DotError := kit_own xl34 xt34 xu34_41 xu34_34
    kx_BadDots_BadPrime := kit_own xl35 xt35 xu35_41 xu35_35
    kx_BadDots_BadRoot := kit_own xl36 xt36 xu36_41 xu36_36
    kx_BadDots_BadNumber := kit_own xl37 xt37 xu37_41 xu37_37
    kx_BadDots_BadColumn := kit_own xl38 xt38 xu38_41 xu38_38
    kx_BadDots_BadRow := kit_own xl39 xt39 xu39_41 xu39_39
    kx_BadDots_BadArrow := kit_own xl40 xt40 xu40_41 xu40_40
    kx_BadDots_BadDots := kit_own xl41 xt41 xu41_41 xu41_41
    kx_BadDots_BadWay := kit_own xl42 xt42 xu42_41 xu42_42
    kx_BadDots_NoCorner := kit_own xl43 xt43 xu43_41 xu43_43
    g_BadWay := PySem.W.mg_of X G ca42
    x_BadWay := ⟨xe42, xk42, xb42, xv42, xt42, ⟨xg42, xh42, xb42, xd42, xc42, cy, cz, xm42⟩, PySem.W.exm_ref xb34 xd34 xt34 xu34_42⟩
    kx_BadWay_DotError := kit_own xl34 xt34 xu34_42 xu34_34
    kx_BadWay_BadPrime := kit_own xl35 xt35 xu35_42 xu35_35
    kx_BadWay_BadRoot := kit_own xl36 xt36 xu36_42 xu36_36
    kx_BadWay_BadNumber := kit_own xl37 xt37 xu37_42 xu37_37
    kx_BadWay_BadColumn := kit_own xl38 xt38 xu38_42 xu38_38
    kx_BadWay_BadRow := kit_own xl39 xt39 xu39_42 xu39_39
    kx_BadWay_BadArrow := kit_own xl40 xt40 xu40_42 xu40_40
    kx_BadWay_BadDots := kit_own xl41 xt41 xu41_42 xu41_41
    kx_BadWay_BadWay := kit_own xl42 xt42 xu42_42 xu42_42
    kx_BadWay_NoCorner := kit_own xl43 xt43 xu43_42 xu43_43
    g_NoCorner := PySem.W.mg_of X G ca43
    x_NoCorner := ⟨xe43, xk43, xb43, xv43, xt43, ⟨xg43, xh43, xb43, xd43, xc43, cy, cz, xm43⟩, PySem.W.exm_ref xb34 xd34 xt34 xu34_43⟩
    kx_NoCorner_DotError := kit_own xl34 xt34 xu34_43 xu34_34
    kx_NoCorner_BadPrime := kit_own xl35 xt35 xu35_43 xu35_35
    kx_NoCorner_BadRoot := kit_own xl36 xt36 xu36_43 xu36_36
    kx_NoCorner_BadNumber := kit_own xl37 xt37 xu37_43 xu37_37
    kx_NoCorner_BadColumn := kit_own xl38 xt38 xu38_43 xu38_38
    kx_NoCorner_BadRow := kit_own xl39 xt39 xu39_43 xu39_39
    kx_NoCorner_BadArrow := kit_own xl40 xt40 xu40_43 xu40_40
    kx_NoCorner_BadDots := kit_own xl41 xt41 xu41_43 xu41_41
    kx_NoCorner_BadWay := kit_own xl42 xt42 xu42_43 xu42_42
    kx_NoCorner_NoCorner := kit_own xl43 xt43 xu43_43 xu43_43
    g_is_whole := PySem.W.mg_of X G a0, F_is_whole := F0, b_is_whole := b0
    g_is_prime := PySem.W.mg_of X G a1, F_is_prime := F1, b_is_prime := b1
    g_asked_prime := PySem.W.mg_of X G a2, F_asked_prime := F2, b_asked_prime := b2
    g_power := PySem.W.mg_of X G a3, F_power := F3, b_power := b3
    g_root_of := PySem.W.mg_of X G a4, F_root_of := F4, b_root_of := b4
    g_is_root := PySem.W.mg_of X G a5, F_is_root := F5, b_is_root := b5
    g_least_root := PySem.W.mg_of X G a6, F_least_root := F6, b_least_root := b6
    g_asked_root := PySem.W.mg_of X G a7, F_asked_root := F7, b_asked_root := b7
    g_asked_plan := PySem.W.mg_of X G a8, F_asked_plan := F8, b_asked_plan := b8
    g_row_of := PySem.W.mg_of X G a9, F_row_of := F9, b_row_of := b9
    g_found_column := PySem.W.mg_of X G a10, F_found_column := F10, b_found_column := b10
    g_column_of := PySem.W.mg_of X G a11, F_column_of := F11, b_column_of := b11
    g_arrow_of := PySem.W.mg_of X G a12, F_arrow_of := F12, b_arrow_of := b12
    g_dots_of := PySem.W.mg_of X G a13, F_dots_of := F13, b_dots_of := b13
    g_crossed := PySem.W.mg_of X G a14, F_crossed := F14, b_crossed := b14
    g_first_same := PySem.W.mg_of X G a15, F_first_same := F15, b_first_same := b15
    F_Apart_shows := F16, b_Apart_shows := b16
    F_Same_init := F17, b_Same_init := b17
    F_Same_shows := F18, b_Same_shows := b18
    g_asked_dots := PySem.W.mg_of X G a19, F_asked_dots := F19, b_asked_dots := b19
    g_judged := PySem.W.mg_of X G a20, F_judged := F20, b_judged := b20
    g_turned := PySem.W.mg_of X G a21, F_turned := F21, b_turned := b21
    g_without_corner := PySem.W.mg_of X G a22, F_without_corner := F22, b_without_corner := b22
    g__law_kinds := PySem.W.mg_of X G a23, F__law_kinds := F23, b__law_kinds := b23
    g__law_refused := PySem.W.mg_of X G a24, F__law_refused := F24, b__law_refused := b24
    g__law_plain := PySem.W.mg_of X G a25, F__law_plain := F25, b__law_plain := b25
    g__law_truths := PySem.W.mg_of X G a26, F__law_truths := F26, b__law_truths := b26
    g__law_known_right := PySem.W.mg_of X G a27, F__law_known_right := F27, b__law_known_right := b27
    g__law_dots_right := PySem.W.mg_of X G a28, F__law_dots_right := F28, b__law_dots_right := b28
    g__law_bad_right := PySem.W.mg_of X G a29, F__law_bad_right := F29, b__law_bad_right := b29
    g__law_has_no_corner := PySem.W.mg_of X G a30, F__law_has_no_corner := F30, b__law_has_no_corner := b30
    g__law_promises_right := PySem.W.mg_of X G a31, F__law_promises_right := F31, b__law_promises_right := b31
    g__law_more_promises := PySem.W.mg_of X G a32, F__law_more_promises := F32, b__law_more_promises := b32
    g_law := PySem.W.mg_of X G a33, F_law := F33, b_law := b33
  }
  have tb27 : PySem.W.tabIn K "_law_known_right" = some (cc27, PP27) := by
    simp only [PySem.W.tabIn, a27, l27, tl27, tp27]
  have hd27 := Hx.tab_at TT X tr27 tb27
  have tb28 : PySem.W.tabIn K "_law_dots_right" = some (cc28, PP28) := by
    simp only [PySem.W.tabIn, a28, l28, tl28, tp28]
  have hd28 := Hx.tab_at TT X tr28 tb28
  have tb29 : PySem.W.tabIn K "_law_bad_right" = some (cc29, PP29) := by
    simp only [PySem.W.tabIn, a29, l29, tl29, tp29]
  have hd29 := Hx.tab_at TT X tr29 tb29
  refine ⟨PySem.W.fnOf "law" "law" (defArgs s_law) (defBody s_law) (defScope s_law) .none kV33 dc33 pm33 an33 cd33 ct33, [(cc27, PP27), (cc28, PP28), (cc29, PP29)], spLaw K PP27 PP28 PP29, fun p hp => ?_, fun p hp => ?_, fun p hp => ?_, fun s v => .of_eq rfl, fun H a ns hl hb hH hS => ⟨a, ns, rfl, hS, hl, fun p hp => ?_, fun _ => rfl⟩, fun base _ _ hTB => ?_⟩
  · simp only [List.mem_cons, List.not_mem_nil, or_false] at hp
    rcases hp with rfl | rfl | rfl
    · exact hd27.2
    · exact hd28.2
    · exact hd29.2
  · simp only [List.mem_cons, List.not_mem_nil, or_false] at hp
    rcases hp with rfl | rfl | rfl
    · exact tn27
    · exact tn28
    · exact tn29
  · simp only [List.mem_cons, List.not_mem_nil, or_false] at hp
    rcases hp with rfl | rfl | rfl
    · exact hd27.1
    · exact hd28.1
    · exact hd29.1
  · simp only [TL, List.mem_cons, List.not_mem_nil, or_false] at hp
    rcases hp with rfl | rfl | rfl
    · exact NdefX.TabN.nil (hH (cc27, PP27) (by simp))
    · exact NdefX.TabN.nil (hH (cc28, PP28) (by simp))
    · exact NdefX.TabN.nil (hH (cc29, PP29) (by simp))
  · exact ok_law T rfl (hTB (cc27, PP27) (by simp)) rfl (hTB (cc28, PP28) (by simp)) rfl (hTB (cc29, PP29) (by simp)) td27_28 td27_29 td28_29
end Lw
open PySem PySem.W PyProof.Rows
set_option maxHeartbeats 0 in
theorem PySem.Challenge.cw_arrowdots_k09_whole_known_holds : PySem.Challenge.rw_arrowdots_k09_whole_known.Holds := by
  w_on; o_law; k_head; (case hw => w_witness2)
  k_fill
  refine Hx.walk_ofTT (l := PySem.Challenge.rw_arrowdots_k09_whole_known) (n := 63) (k := 9) (x := "_law_script") (CX := fun _ => L2.CX0) rfl (by decide) rfl ⟨rfl, by decide, by decide⟩ (fun w h Y => PySem.W.km_in_of Y) ?F (fun _ _ _ _ _ h => h)
  case F =>
    intro w mg mb mean ls fa h TT KX G hmg
    refine' Lw.all_mk TT KX G hmg ?ca44 ?cm44 ?ck44 ?ci44 ?cg44 ?ch44 ?cp44 ?cs44 ?cc44 ?cx44 ?cl44 ?ct44 ?cu44_44 ?cu45_44 ?cu46_44 ?ca45 ?cm45 ?ck45 ?ci45 ?cg45 ?ch45 ?cp45 ?cs45 ?cc45 ?cx45 ?cl45 ?ct45 ?cu44_45 ?cu45_45 ?cu46_45 ?ca46 ?cm46 ?ck46 ?cg46 ?ch46 ?cp46 ?cs46 ?cc46 ?cx46 ?cl46 ?ct46 ?cn_first_46 ?cn_second_46 ?cn_across_46 ?cu44_46 ?cu45_46 ?cu46_46 ?ca34 ?xe34 ?xk34 ?xb34 ?xv34 ?xt34 ?xl34 ?xd34 ?xg34 ?xh34 ?xc34 ?xm34 ?xu34_34 ?xu35_34 ?xu36_34 ?xu37_34 ?xu38_34 ?xu39_34 ?xu40_34 ?xu41_34 ?xu42_34 ?xu43_34 ?ca35 ?xe35 ?xk35 ?xb35 ?xv35 ?xt35 ?xl35 ?xd35 ?xg35 ?xh35 ?xc35 ?xm35 ?xu34_35 ?xu35_35 ?xu36_35 ?xu37_35 ?xu38_35 ?xu39_35 ?xu40_35 ?xu41_35 ?xu42_35 ?xu43_35 ?ca36 ?xe36 ?xk36 ?xb36 ?xv36 ?xt36 ?xl36 ?xd36 ?xg36 ?xh36 ?xc36 ?xm36 ?xu34_36 ?xu35_36 ?xu36_36 ?xu37_36 ?xu38_36 ?xu39_36 ?xu40_36 ?xu41_36 ?xu42_36 ?xu43_36 ?ca37 ?xe37 ?xk37 ?xb37 ?xv37 ?xt37 ?xl37 ?xd37 ?xg37 ?xh37 ?xc37 ?xm37 ?xu34_37 ?xu35_37 ?xu36_37 ?xu37_37 ?xu38_37 ?xu39_37 ?xu40_37 ?xu41_37 ?xu42_37 ?xu43_37 ?ca38 ?xe38 ?xk38 ?xb38 ?xv38 ?xt38 ?xl38 ?xd38 ?xg38 ?xh38 ?xc38 ?xm38 ?xu34_38 ?xu35_38 ?xu36_38 ?xu37_38 ?xu38_38 ?xu39_38 ?xu40_38 ?xu41_38 ?xu42_38 ?xu43_38 ?ca39 ?xe39 ?xk39 ?xb39 ?xv39 ?xt39 ?xl39 ?xd39 ?xg39 ?xh39 ?xc39 ?xm39 ?xu34_39 ?xu35_39 ?xu36_39 ?xu37_39 ?xu38_39 ?xu39_39 ?xu40_39 ?xu41_39 ?xu42_39 ?xu43_39 ?ca40 ?xe40 ?xk40 ?xb40 ?xv40 ?xt40 ?xl40 ?xd40 ?xg40 ?xh40 ?xc40 ?xm40 ?xu34_40 ?xu35_40 ?xu36_40 ?xu37_40 ?xu38_40 ?xu39_40 ?xu40_40 ?xu41_40 ?xu42_40 ?xu43_40 ?ca41 ?xe41 ?xk41 ?xb41 ?xv41 ?xt41 ?xl41 ?xd41 ?xg41 ?xh41 ?xc41 ?xm41 ?xu34_41 ?xu35_41 ?xu36_41 ?xu37_41 ?xu38_41 ?xu39_41 ?xu40_41 ?xu41_41 ?xu42_41 ?xu43_41 ?ca42 ?xe42 ?xk42 ?xb42 ?xv42 ?xt42 ?xl42 ?xd42 ?xg42 ?xh42 ?xc42 ?xm42 ?xu34_42 ?xu35_42 ?xu36_42 ?xu37_42 ?xu38_42 ?xu39_42 ?xu40_42 ?xu41_42 ?xu42_42 ?xu43_42 ?ca43 ?xe43 ?xk43 ?xb43 ?xv43 ?xt43 ?xl43 ?xd43 ?xg43 ?xh43 ?xc43 ?xm43 ?xu34_43 ?xu35_43 ?xu36_43 ?xu37_43 ?xu38_43 ?xu39_43 ?xu40_43 ?xu41_43 ?xu42_43 ?xu43_43 ?cy ?cz ?z_ValueError ?z_abs ?z_all ?z_bool ?z_int ?z_isinstance ?z_len ?z_list ?z_range ?z_sorted ?z_str ?z_sum ?z_tuple ?y_MOST ?y_SMALL ?y_LONGEST ?a0 ?l0 ?c0 ?k0 ?a1 ?l1 ?c1 ?k1 ?a2 ?l2 ?c2 ?k2 ?a3 ?l3 ?c3 ?k3 ?a4 ?l4 ?c4 ?k4 ?a5 ?l5 ?c5 ?k5 ?a6 ?l6 ?c6 ?k6 ?a7 ?l7 ?c7 ?k7 ?a8 ?l8 ?c8 ?k8 ?a9 ?l9 ?c9 ?k9 ?a10 ?l10 ?c10 ?k10 ?a11 ?l11 ?c11 ?k11 ?a12 ?l12 ?c12 ?k12 ?a13 ?l13 ?c13 ?k13 ?a14 ?l14 ?c14 ?k14 ?a15 ?l15 ?c15 ?k15 ?i16 ?a16 ?l16 ?c16 ?k16 ?i17 ?a17 ?l17 ?c17 ?k17 ?i18 ?a18 ?l18 ?c18 ?k18 ?a19 ?l19 ?c19 ?k19 ?a20 ?l20 ?c20 ?k20 ?a21 ?l21 ?c21 ?k21 ?a22 ?l22 ?c22 ?k22 ?a23 ?l23 ?c23 ?k23 ?a24 ?l24 ?c24 ?k24 ?a25 ?l25 ?c25 ?k25 ?a26 ?l26 ?c26 ?k26 ?a27 ?l27 ?c27 ?k27 ?tl27 ?tp27 ?tn27 ?tr27 ?a28 ?l28 ?c28 ?k28 ?tl28 ?tp28 ?tn28 ?tr28 ?a29 ?l29 ?c29 ?k29 ?tl29 ?tp29 ?tn29 ?tr29 ?a30 ?l30 ?c30 ?k30 ?a31 ?l31 ?c31 ?k31 ?a32 ?l32 ?c32 ?k32 ?a33 ?l33 ?c33 ?k33 ?td27_28 ?td27_29 ?td28_29
    (case ca44 => k_is)
    (case ca45 => k_is)
    (case ca46 => k_is)
    (case ca34 => k_is)
    (case ca35 => k_is)
    (case ca36 => k_is)
    (case ca37 => k_is)
    (case ca38 => k_is)
    (case ca39 => k_is)
    (case ca40 => k_is)
    (case ca41 => k_is)
    (case ca42 => k_is)
    (case ca43 => k_is)
    (case cm44 => k_is)
    (case ck44 => k_is)
    (case ci44 => k_is)
    (case cg44 => k_is)
    (case ch44 => k_is)
    (case cp44 => k_is)
    (case cs44 => k_is)
    (case cc44 => k_is)
    (case cx44 => k_is)
    (case cl44 => k_is)
    (case ct44 => k_is)
    (case cu44_44 => k_is)
    (case cu45_44 => k_is)
    (case cu46_44 => k_is)
    (case cm45 => k_is)
    (case ck45 => k_is)
    (case ci45 => k_is)
    (case cg45 => k_is)
    (case ch45 => k_is)
    (case cp45 => k_is)
    (case cs45 => k_is)
    (case cc45 => k_is)
    (case cx45 => k_is)
    (case cl45 => k_is)
    (case ct45 => k_is)
    (case cu44_45 => k_is)
    (case cu45_45 => k_is)
    (case cu46_45 => k_is)
    (case cm46 => k_is)
    (case ck46 => k_is)
    (case cg46 => k_is)
    (case ch46 => k_is)
    (case cp46 => k_is)
    (case cs46 => k_is)
    (case cc46 => k_is)
    (case cx46 => k_is)
    (case cl46 => k_is)
    (case ct46 => k_is)
    (case cn_first_46 => k_is)
    (case cn_second_46 => k_is)
    (case cn_across_46 => k_is)
    (case cu44_46 => k_is)
    (case cu45_46 => k_is)
    (case cu46_46 => k_is)
    (case xe34 => k_exc)
    (case xk34 => k_is)
    (case xb34 => k_is)
    (case xv34 => k_is)
    (case xt34 => k_is)
    (case xl34 => k_is)
    (case xd34 => k_is)
    (case xg34 => k_is)
    (case xh34 => k_is)
    (case xc34 => k_is)
    (case xm34 => k_is)
    (case xu34_34 => k_is)
    (case xu35_34 => k_is)
    (case xu36_34 => k_is)
    (case xu37_34 => k_is)
    (case xu38_34 => k_is)
    (case xu39_34 => k_is)
    (case xu40_34 => k_is)
    (case xu41_34 => k_is)
    (case xu42_34 => k_is)
    (case xu43_34 => k_is)
    (case xe35 => k_exc)
    (case xk35 => k_is)
    (case xb35 => k_is)
    (case xv35 => k_is)
    (case xt35 => k_is)
    (case xl35 => k_is)
    (case xd35 => k_is)
    (case xg35 => k_is)
    (case xh35 => k_is)
    (case xc35 => k_is)
    (case xm35 => k_is)
    (case xu34_35 => k_is)
    (case xu35_35 => k_is)
    (case xu36_35 => k_is)
    (case xu37_35 => k_is)
    (case xu38_35 => k_is)
    (case xu39_35 => k_is)
    (case xu40_35 => k_is)
    (case xu41_35 => k_is)
    (case xu42_35 => k_is)
    (case xu43_35 => k_is)
    (case xe36 => k_exc)
    (case xk36 => k_is)
    (case xb36 => k_is)
    (case xv36 => k_is)
    (case xt36 => k_is)
    (case xl36 => k_is)
    (case xd36 => k_is)
    (case xg36 => k_is)
    (case xh36 => k_is)
    (case xc36 => k_is)
    (case xm36 => k_is)
    (case xu34_36 => k_is)
    (case xu35_36 => k_is)
    (case xu36_36 => k_is)
    (case xu37_36 => k_is)
    (case xu38_36 => k_is)
    (case xu39_36 => k_is)
    (case xu40_36 => k_is)
    (case xu41_36 => k_is)
    (case xu42_36 => k_is)
    (case xu43_36 => k_is)
    (case xe37 => k_exc)
    (case xk37 => k_is)
    (case xb37 => k_is)
    (case xv37 => k_is)
    (case xt37 => k_is)
    (case xl37 => k_is)
    (case xd37 => k_is)
    (case xg37 => k_is)
    (case xh37 => k_is)
    (case xc37 => k_is)
    (case xm37 => k_is)
    (case xu34_37 => k_is)
    (case xu35_37 => k_is)
    (case xu36_37 => k_is)
    (case xu37_37 => k_is)
    (case xu38_37 => k_is)
    (case xu39_37 => k_is)
    (case xu40_37 => k_is)
    (case xu41_37 => k_is)
    (case xu42_37 => k_is)
    (case xu43_37 => k_is)
    (case xe38 => k_exc)
    (case xk38 => k_is)
    (case xb38 => k_is)
    (case xv38 => k_is)
    (case xt38 => k_is)
    (case xl38 => k_is)
    (case xd38 => k_is)
    (case xg38 => k_is)
    (case xh38 => k_is)
    (case xc38 => k_is)
    (case xm38 => k_is)
    (case xu34_38 => k_is)
    (case xu35_38 => k_is)
    (case xu36_38 => k_is)
    (case xu37_38 => k_is)
    (case xu38_38 => k_is)
    (case xu39_38 => k_is)
    (case xu40_38 => k_is)
    (case xu41_38 => k_is)
    (case xu42_38 => k_is)
    (case xu43_38 => k_is)
    (case xe39 => k_exc)
    (case xk39 => k_is)
    (case xb39 => k_is)
    (case xv39 => k_is)
    (case xt39 => k_is)
    (case xl39 => k_is)
    (case xd39 => k_is)
    (case xg39 => k_is)
    (case xh39 => k_is)
    (case xc39 => k_is)
    (case xm39 => k_is)
    (case xu34_39 => k_is)
    (case xu35_39 => k_is)
    (case xu36_39 => k_is)
    (case xu37_39 => k_is)
    (case xu38_39 => k_is)
    (case xu39_39 => k_is)
    (case xu40_39 => k_is)
    (case xu41_39 => k_is)
    (case xu42_39 => k_is)
    (case xu43_39 => k_is)
    (case xe40 => k_exc)
    (case xk40 => k_is)
    (case xb40 => k_is)
    (case xv40 => k_is)
    (case xt40 => k_is)
    (case xl40 => k_is)
    (case xd40 => k_is)
    (case xg40 => k_is)
    (case xh40 => k_is)
    (case xc40 => k_is)
    (case xm40 => k_is)
    (case xu34_40 => k_is)
    (case xu35_40 => k_is)
    (case xu36_40 => k_is)
    (case xu37_40 => k_is)
    (case xu38_40 => k_is)
    (case xu39_40 => k_is)
    (case xu40_40 => k_is)
    (case xu41_40 => k_is)
    (case xu42_40 => k_is)
    (case xu43_40 => k_is)
    (case xe41 => k_exc)
    (case xk41 => k_is)
    (case xb41 => k_is)
    (case xv41 => k_is)
    (case xt41 => k_is)
    (case xl41 => k_is)
    (case xd41 => k_is)
    (case xg41 => k_is)
    (case xh41 => k_is)
    (case xc41 => k_is)
    (case xm41 => k_is)
    (case xu34_41 => k_is)
    (case xu35_41 => k_is)
    (case xu36_41 => k_is)
    (case xu37_41 => k_is)
    (case xu38_41 => k_is)
    (case xu39_41 => k_is)
    (case xu40_41 => k_is)
    (case xu41_41 => k_is)
    (case xu42_41 => k_is)
    (case xu43_41 => k_is)
    (case xe42 => k_exc)
    (case xk42 => k_is)
    (case xb42 => k_is)
    (case xv42 => k_is)
    (case xt42 => k_is)
    (case xl42 => k_is)
    (case xd42 => k_is)
    (case xg42 => k_is)
    (case xh42 => k_is)
    (case xc42 => k_is)
    (case xm42 => k_is)
    (case xu34_42 => k_is)
    (case xu35_42 => k_is)
    (case xu36_42 => k_is)
    (case xu37_42 => k_is)
    (case xu38_42 => k_is)
    (case xu39_42 => k_is)
    (case xu40_42 => k_is)
    (case xu41_42 => k_is)
    (case xu42_42 => k_is)
    (case xu43_42 => k_is)
    (case xe43 => k_exc)
    (case xk43 => k_is)
    (case xb43 => k_is)
    (case xv43 => k_is)
    (case xt43 => k_is)
    (case xl43 => k_is)
    (case xd43 => k_is)
    (case xg43 => k_is)
    (case xh43 => k_is)
    (case xc43 => k_is)
    (case xm43 => k_is)
    (case xu34_43 => k_is)
    (case xu35_43 => k_is)
    (case xu36_43 => k_is)
    (case xu37_43 => k_is)
    (case xu38_43 => k_is)
    (case xu39_43 => k_is)
    (case xu40_43 => k_is)
    (case xu41_43 => k_is)
    (case xu42_43 => k_is)
    (case xu43_43 => k_is)
    (case cy => k_is)
    (case cz => k_is)
    (case z_ValueError => k_is)
    (case z_abs => k_is)
    (case z_all => k_is)
    (case z_bool => k_is)
    (case z_int => k_is)
    (case z_isinstance => k_is)
    (case z_len => k_is)
    (case z_list => k_is)
    (case z_range => k_is)
    (case z_sorted => k_is)
    (case z_str => k_is)
    (case z_sum => k_is)
    (case z_tuple => k_is)
    (case y_MOST => k_is)
    (case y_SMALL => k_is)
    (case y_LONGEST => k_is)
    (case a0 => k_is)
    (case l0 => k_is)
    (case c0 => k_is)
    (case k0 => k_is)
    (case a1 => k_is)
    (case l1 => k_is)
    (case c1 => k_is)
    (case k1 => k_is)
    (case a2 => k_is)
    (case l2 => k_is)
    (case c2 => k_is)
    (case k2 => k_is)
    (case a3 => k_is)
    (case l3 => k_is)
    (case c3 => k_is)
    (case k3 => k_is)
    (case a4 => k_is)
    (case l4 => k_is)
    (case c4 => k_is)
    (case k4 => k_is)
    (case a5 => k_is)
    (case l5 => k_is)
    (case c5 => k_is)
    (case k5 => k_is)
    (case a6 => k_is)
    (case l6 => k_is)
    (case c6 => k_is)
    (case k6 => k_is)
    (case a7 => k_is)
    (case l7 => k_is)
    (case c7 => k_is)
    (case k7 => k_is)
    (case a8 => k_is)
    (case l8 => k_is)
    (case c8 => k_is)
    (case k8 => k_is)
    (case a9 => k_is)
    (case l9 => k_is)
    (case c9 => k_is)
    (case k9 => k_is)
    (case a10 => k_is)
    (case l10 => k_is)
    (case c10 => k_is)
    (case k10 => k_is)
    (case a11 => k_is)
    (case l11 => k_is)
    (case c11 => k_is)
    (case k11 => k_is)
    (case a12 => k_is)
    (case l12 => k_is)
    (case c12 => k_is)
    (case k12 => k_is)
    (case a13 => k_is)
    (case l13 => k_is)
    (case c13 => k_is)
    (case k13 => k_is)
    (case a14 => k_is)
    (case l14 => k_is)
    (case c14 => k_is)
    (case k14 => k_is)
    (case a15 => k_is)
    (case l15 => k_is)
    (case c15 => k_is)
    (case k15 => k_is)
    (case i16 => k_is)
    (case a16 => k_is)
    (case l16 => k_is)
    (case c16 => k_is)
    (case k16 => k_is)
    (case i17 => k_is)
    (case a17 => k_is)
    (case l17 => k_is)
    (case c17 => k_is)
    (case k17 => k_is)
    (case i18 => k_is)
    (case a18 => k_is)
    (case l18 => k_is)
    (case c18 => k_is)
    (case k18 => k_is)
    (case a19 => k_is)
    (case l19 => k_is)
    (case c19 => k_is)
    (case k19 => k_is)
    (case a20 => k_is)
    (case l20 => k_is)
    (case c20 => k_is)
    (case k20 => k_is)
    (case a21 => k_is)
    (case l21 => k_is)
    (case c21 => k_is)
    (case k21 => k_is)
    (case a22 => k_is)
    (case l22 => k_is)
    (case c22 => k_is)
    (case k22 => k_is)
    (case a23 => k_is)
    (case l23 => k_is)
    (case c23 => k_is)
    (case k23 => k_is)
    (case a24 => k_is)
    (case l24 => k_is)
    (case c24 => k_is)
    (case k24 => k_is)
    (case a25 => k_is)
    (case l25 => k_is)
    (case c25 => k_is)
    (case k25 => k_is)
    (case a26 => k_is)
    (case l26 => k_is)
    (case c26 => k_is)
    (case k26 => k_is)
    (case a27 => k_is)
    (case l27 => k_is)
    (case c27 => k_is)
    (case k27 => k_is)
    (case tl27 => k_is)
    (case tp27 => rfl)
    (case tn27 => kernel_rfl)
    (case tr27 => kernel_rfl)
    (case a28 => k_is)
    (case l28 => k_is)
    (case c28 => k_is)
    (case k28 => k_is)
    (case tl28 => k_is)
    (case tp28 => rfl)
    (case tn28 => kernel_rfl)
    (case tr28 => kernel_rfl)
    (case a29 => k_is)
    (case l29 => k_is)
    (case c29 => k_is)
    (case k29 => k_is)
    (case tl29 => k_is)
    (case tp29 => rfl)
    (case tn29 => kernel_rfl)
    (case tr29 => kernel_rfl)
    (case a30 => k_is)
    (case l30 => k_is)
    (case c30 => k_is)
    (case k30 => k_is)
    (case a31 => k_is)
    (case l31 => k_is)
    (case c31 => k_is)
    (case k31 => k_is)
    (case a32 => k_is)
    (case l32 => k_is)
    (case c32 => k_is)
    (case k32 => k_is)
    (case a33 => k_is)
    (case l33 => k_is)
    (case c33 => k_is)
    (case k33 => k_is)
    (case td27_28 => decide)
    (case td27_29 => decide)
    (case td28_29 => decide)
