import PyProof.Rows.All
import Wide.All
import OpenK.AllK
import Wide.FinOn
import HandS.ForMost
import HandS.ForExc
import HandS.Zip
import HandS.ExcIs
import KE.GoesRaise
import HandS.Codes
import PySem.Challenge.RW_sideloom_k50_whole_row_of_reads
set_option Elab.async false
set_option linter.all false
set_option maxRecDepth 100000
set_option maxHeartbeats 5000000
/-! Three rules of my own for law k50: a raise out of a list comprehension; an exception kept under another name behind its suite; isinstance of it. -/
namespace K50
open PySem PySem.Spec PyProof.Rows L2 PySem.HandSPX
abbrev St := L2.St
/-! ### 1. an exception in flight, over a smaller ground -/
section
variable {M : Model} {A : Around} {E : Value → Shared → Prop} {s' : Shared} {B B' h h' : Heap} {env cenv : Env} {outer l : List Env} {e L C : Addr} {Z : Obj → Prop} {m : Str → Option Value} {fl : Value}
theorem none_sub {b : Addr} (k : ∀ b o, B'.get? b = some o → B.get? b = some o) (n : B.get? b = none) : B'.get? b = none := by
  cases q : B'.get? b with
  | none => rfl
  | some o => exact absurd ((k b o q).symm.trans n) (fun z => nomatch z)
theorem flying_sub (f : FlyingZ B l e Z h) (k : ∀ b o, B'.get? b = some o → B.get? b = some o) : FlyingZ B' l e Z h := by
  obtain ⟨st, hn, fr, oe, vs, T, oT, ts, he, hz, hd, h1, hT, rest⟩ := f
  exact ⟨fun b o q => st b o (k b o q), none_sub k hn, funFrames_none fr fun b hb => none_sub k (fr.mem hb).1, oe, vs, T, oT, ts, he, hz, hd, h1, none_sub k hT, rest⟩
theorem traced_but (t : TracedZ h B e Z fl) (hn : h.Ns C m) (sb : Heap.SameBut C h h') : TracedZ h' B e Z fl := by
  obtain ⟨oe, vs, T, oT, ts, he, hz, hd, h1, hT, hTe, gT, dT, h3⟩ := t
  obtain ⟨oC, es, ep, gC, dC, _⟩ := hn
  have apart : ∀ {b : Addr} {o : Obj} {xs : Array Value}, h.get? b = some o → o.data = .fields xs → b ≠ C := fun {b o xs} g d z => by
    subst z
    cases (g.symm.trans gC)
    cases (d.symm.trans dC)
  exact ⟨oe, vs, T, oT, ts, (sb.2 e (apart he hd)).trans he, hz, hd, h1, hT, hTe, (sb.2 T (apart gT dT)).trans gT, dT, h3⟩
/-- what the block of a comprehension owes when its element let an exception out that the def's frame has noted -/
theorem fails_held (hf : cenv.frame = some L) (hC : B.get? cenv.locals = none) (hn : s'.heap.Ns cenv.locals m) (hh : HeldZ B l e Z L s'.heap)
    (hQ : ∀ h2, HeldZ B l e Z L h2 → (∀ b o, b ≠ cenv.locals → s'.heap.get? b = some o → (∀ vs, o.data ≠ .fields vs) → ∃ sl, h2.get? b = some { o with slots := sl }) → E (.ref e) { s' with heap := h2 }) :
    CompFails M A E cenv (Value.ref e) s' := by
  refine ⟨m, hn, fun g mg hg sb => ?_⟩
  obtain ⟨st, hb, fr, tr⟩ := hh
  have held : HeldZ B l e Z L g :=
    ⟨fun b o q => (sb.2 b fun z => by rw [z, hC] at q; cases q).trans (st b o q), hb, Heap.FunFrames.sameBut sb hg fr, traced_but tr hn sb⟩
  obtain ⟨oe, vs, T, oT, ts, he, hz, hd, h1, rest⟩ := held.2.2.2
  unfold PySem.passOn
  refine wpAny_bind ?_
  refine wpAny_field he hd h1 ?_
  rw [if_neg (show ¬ ((Value.ref T == Value.none) = true) by simp), hf]
  refine wpAny_bind (setFlight_onZ held fun h2 held2 up => wpAny_throw (hQ h2 held2 fun b o nb q nf => up b o ((sb.2 b nb).trans q) nf))
end
/-! ### 2. [elt for x in ..] whose element may raise -/
section
variable {X : Cx}
/-- the context of the block, with a wish of its own -/
abbrev bx (X : Cx) (s : Shared) (H : Hp) (scope : Scope) (ce : Env) (fp : List Addr) (xe : Value → Shared → Prop) : Cx := (X.blk s H scope ce fp).wish xe
/-- a call in the element let an exception out: the def's own wish is met -/
theorem blk_out {pins pins' : List (Addr × Obj)} {σ σ' : St} {H3 H' : Hp} {s3 s' s'' : Shared} {scope : Scope} {C : Addr} {cl : List (Str × Addr)} {fp : List Addr} {xe : Value → Shared → Prop} {E : XK} {u : Value}
    (hs : X.stack = X.env :: X.outer) (hf : X.env.frame = some X.env.locals) (tk : Takes X (fun cls d _ H => E cls d H)) (hC : C = s3.heap.objs.size)
    (I3 : Inv X pins σ H3 s3) (f3 : ∀ b ∈ fp, FpOk X pins H3 b ∧ b < s3.heap.objs.size) (J : Inv (bx X s3 H3 scope (compEnvC scope cl C X.env) fp xe) pins' σ' H' s') (c : L2.CX X.prog X.w X.stack H' s' E u s'') :
    notedBy (model X.prog X.w) X.A (compEnvC scope cl C X.env) (CompFails (model X.prog X.w) X.A X.xe (compEnvC scope cl C X.env)) u s'' := by
  obtain ⟨a, B, H2, cls, d, rfl, fl, hok, ub, na, os, ag, hE⟩ := c
  have hfr : X.A.frames = some (X.env :: X.outer) := by rw [I3.ok.frames, hs]
  have cL : (compEnvC scope cl C X.env).locals = C := rfl
  have cF : (compEnvC scope cl C X.env).frame = X.env.frame := rfl
  have jfree : H' C = none := J.free
  obtain ⟨m, jns, _⟩ := J.loc
  have jns : s'.heap.Ns C m := jns
  -- the block's names are in no frame
  have nfr : C ∉ frs X.stack := fun hm => by
    obtain ⟨_, o, ho, _⟩ := I3.stack.mem hm
    exact absurd (Heap.lt_size ho) (by rw [hC]; exact Nat.lt_irrefl _)
  have old : ∀ b o, s3.heap.get? b = some o → b ≠ C := fun b o q z => absurd (Heap.lt_size q) (by rw [z, hC]; exact Nat.lt_irrefl _)
  -- the ground without the block
  obtain ⟨G, g1, g2⟩ := restrict B fun b => decide (b ≠ C)
  have gsub : ∀ b o, G.get? b = some o → B.get? b = some o := fun b o q => by
    by_cases z : b = C
    · rw [z, g2 C (by simp)] at q; cases q
    · rw [← g1 b (decide_eq_true z)]; exact q
  have gof : ∀ b o, b ≠ C → B.get? b = some o → G.get? b = some o := fun b o z q => by rw [g1 b (decide_eq_true z)]; exact q
  have gC : G.get? C = none := g2 C (by simp)
  have flG : FlyingZ G (X.env :: X.outer) a (Zc cls d) s''.heap := by rw [← hs]; exact flying_sub fl gsub
  have ns'' : s''.heap.Ns C m := by
    obtain ⟨o, es, ep, ho, r⟩ := jns
    exact ⟨o, es, ep, fl.1 C o (ub.keep C o ho jfree nfr), r⟩
  show wpAny _ _ (noteFrame (.ref a) (compEnvC scope cl C X.env)) _ _ s''
  rw [noteFrame_env _ cF]
  refine looks_onZ Zc.steady hfr hf flG fun h1 hd1 up1 => ?_
  refine fails_held (l := X.env :: X.outer) (L := X.env.locals) (cF.trans hf) gC (ns''.upToSlots up1) hd1 fun h2 hd2 up2 => ?_
  have st2 : G.StaysIn h2 := hd2.1
  have slots : ∀ b o, b ∈ frs X.stack → s''.heap.get? b = some o → (∀ vs, o.data ≠ .fields vs) → ∃ sl, h2.get? b = some { o with slots := sl } := fun b o hb q nf => by
    obtain ⟨sl, q1⟩ := up1 b o q nf
    obtain ⟨sl2, q2⟩ := up2 b _ (fun z => nfr ((show b = C from z) ▸ hb)) q1 nf
    exact ⟨sl2, q2⟩
  -- the state of the def as it is now, without the exception
  obtain ⟨F, f1, f2⟩ := restrict h2 fun b => (G.get? b).isSome || decide (b ∈ frs X.stack)
  have fG : ∀ b o, G.get? b = some o → F.get? b = some o := fun b o q => by
    rw [f1 b (by simp [q])]
    exact st2 b o q
  have fF : ∀ b, b ∈ frs X.stack → F.get? b = h2.get? b := fun b hb => f1 b (by simp [hb])
  have fo : ∀ b o, F.get? b = some o → h2.get? b = some o ∧ ((G.get? b).isSome = true ∨ b ∈ frs X.stack) := fun b o q => by
    cases z : ((G.get? b).isSome || decide (b ∈ frs X.stack)) with
    | false => rw [f2 b z] at q; cases q
    | true =>
      rw [f1 b z] at q
      exact ⟨q, by simpa [Bool.or_eq_true] using z⟩
  have frame : ∀ b o, b ∈ frs X.stack → s3.heap.get? b = some o → ∃ sl, F.get? b = some { o with slots := sl } := fun b o hb q => by
    obtain ⟨_, o1, q1, nf⟩ := I3.stack.mem hb
    rw [q] at q1
    cases q1
    obtain ⟨sl, e1⟩ := J.base.slot b o q (I3.stkFree b hb) hb fun z => by
      rcases List.mem_cons.mp (I3.stkSub b hb) with y | y
      · exact (f3 b z).1.2.1 y
      · exact (f3 b z).1.2.2.1 y
    obtain ⟨sl2, e2⟩ := ub.slot b _ e1 hb
    obtain ⟨sl3, e3⟩ := slots b _ hb e2 nf
    exact ⟨sl3, by rw [fF b hb]; exact e3⟩
  have un : Un (frs X.stack) fp H3 H2 s3.heap F :=
    { keep := fun b o q n hb hx => fG b o (gof b o (old b o q) (ub.keep b o (J.base.keep b o q n hb hx) (J.base.free b o q n hx) hb))
      slot := fun b o q n hb hx => frame b o hb q
      free := fun b o q n hx => by
        obtain ⟨o1, e1⟩ := J.base.there b o q hx
        exact ub.free b o1 e1 (J.base.free b o q n hx)
      there := fun b o q hx => by
        by_cases hb : b ∈ frs X.stack
        · obtain ⟨sl, e1⟩ := frame b o hb q
          exact ⟨_, e1⟩
        · obtain ⟨o1, e1⟩ := J.base.there b o q hx
          obtain ⟨o2, e2⟩ := ub.there b o1 e1 hb
          exact ⟨o2, fG b o2 (gof b o2 (old b o q) e2)⟩
      tups := fun b xs q => ub.tups b xs (J.base.tups b xs q)
      frzs := fun b o xs q => ub.frzs b o xs (J.base.frzs b o xs q)
      tbls := fun b ps q => by
        obtain ⟨m1, e1⟩ := J.base.tbls b ps q
        obtain ⟨more, told⟩ := ub.tbls b _ e1
        exact ⟨m1 ++ more, by rw [told, Array.append_assoc]⟩ }
  have free2 : H2 C = none := by
    obtain ⟨o, _, _, ho, _⟩ := jns
    exact ub.free C o ho jfree
  have hokG : HOk X.prog X.w H2 G := fun b o q => (hok b o q).stay (fun c v hc r => gof c v (fun z => by
    rcases hc with y | y
    · rw [z] at y; rw [← y, free2] at q; cases q
    · rw [z, free2] at y; cases y) r) (fun _ r => r) fun _ _ r => r
  have K : Inv X pins σ H2 { s3 with heap := F, gens := s''.gens, drawn := s''.drawn, toks := s''.toks } :=
    I3.call un (hokG.kept fG) ag fun b hb => ⟨(f3 b hb).1.2.2.2.1, (f3 b hb).1.2.1, (f3 b hb).1.2.2.2.2.1, (f3 b hb).1.2.2.2.2.2⟩
  refine tk _ _ ⟨a, G, _, pins, σ, H2, cls, d, rfl, K, fun b o q hb => ?_, Heap.UpToSlots.of_keeps fun b o q => (fo b o q).1, .inr (.inr (by rw [hs]; exact hd2)), na, ?_, ag, hE⟩
  · obtain ⟨q1, q2⟩ := fo b o q
    rcases q2 with q2 | q2
    · obtain ⟨o', e'⟩ := Option.isSome_iff_exists.mp q2
      have z := st2 b o' e'
      rw [q1] at z
      cases z
      exact e'
    · exact absurd q2 hb
  · exact os.trans J.os
end
end K50
namespace K50
open PySem PySem.Spec PyProof.Rows L2 PySem.HandSPX
section
variable {X : Cx}
/-- name = [elt for tg in iter] on one line, the name a local; what the element lets out leaves the def (E) -/
theorem ps_setLcX {i : Nat} {y : Str} {py : Pos} {elt tg iter : Expr} {scope : Scope} {own : List (Str × Nat)} {pos spos : Pos} {wi : TI} {g : TG} {te : TE} {E : XK}
    (hc : X.calm = true) (hs : X.stack = X.env :: X.outer) (hf : X.env.frame = some X.env.locals) (tk : Takes X (fun cls d _ H => E cls d H))
    (hN : X.N.Nodup) (hy : X.N[i]? = some y) (hyl : X.env.scope.names.lookup y = some .local) (used : swapsWith (.ListComp elt [⟨tg, iter, [], 0⟩] scope pos) (some (.Name y py)) spos.line X.env = pure true)
    (hi : PI X tg iter wi) (ok : BlkOk X.N X.env.scope scope own)
    (hg : ∀ (s : Shared) (H : Hp) (C : Addr) (cl : List (Str × Addr)) (fp : List Addr), PG (X.blk s H scope (compEnvC scope cl C X.env) fp) tg g)
    (he : ∀ (s : Shared) (H : Hp) (C : Addr) (cl : List (Str × Addr)) (fp : List Addr) (xe : Value → Shared → Prop), (∀ σ, PassesAt (L2.CX X.prog X.w) (bx X s H scope (compEnvC scope cl C X.env) fp xe) σ E) → PE (bx X s H scope (compEnvC scope cl C X.env) fp xe) elt te)
    (hfs : ∀ x, foldedSetIterable iter X.env x = pure x := by intro _; rfl) :
    PS X (.Assign [.Name y py] (.ListComp elt [⟨tg, iter, [], 0⟩] scope pos) spos) (tAsg (tLc wi g tYes te (own.map (·.2))) (gName i)) := by
  refine ⟨fun pins s0 σ H D I h => ?_⟩
  have caught : ∀ z ∈ scope.names, z.2 = .free → ∃ c, X.env.cells.lookup z.1 = some c := fun z hz e => (ok.free z hz e).elim (fun k => I.ok.has _ (.inl k)) fun k => I.ok.has _ (.inr k)
  rw [exec_Assign_Name_used _ _ _ _ used]
  refine wpAny_bind ?_
  refine wpAny_standAt ?_
  refine wpAny_bind ?_
  show wpAny _ X.A (do let _ ← comprehension (.ListComp elt [⟨tg, iter, [], 0⟩] scope pos) scope X.env (firstIterPos [⟨tg, iter, [], 0⟩] pos) (newList []) false (eval iter X.env) (some (assign (.Name y py) X.env))) _ _ s0
  have h : tLc wi g tYes te (own.map (·.2)) σ H (fun x H1 => D.nx (σ.set i (some x)) H1) := h
  refine wpAny_bind (thn (comprehension_at (Q := fun _ s' => SP X pins D .next s') rfl hfs (closure_ok caught) ok.kind (fun z hz e => by rw [ok.uniq z hz, e])
    (thn (hi.run pins s0 σ H _ I h) fun xv s1 h1 => thn h1 fun itv s2 h2 => ?_)) fun _ s' q => wpAny_pure (wpAny_pure q))
  obtain ⟨it, fp, tn, J, H2, rfl, Kit, T, live2, apart2, q⟩ := h2
  have line : 0 ≤ sizeLine := by decide
  refine wpAny_newObj_type (newEnv_comp ?_) line
  obtain ⟨Dl, Dl_at⟩ : ∃ Dl, Dl = s2.heap.objs.size := ⟨_, rfl⟩
  rw [← Dl_at]
  have fresh : H2 Dl = none := Kit.hok.fresh (Nat.le_of_eq Dl_at.symm)
  obtain ⟨W, ⟨fuel, won⟩, turn⟩ := q Dl fresh
  obtain ⟨s3, s3_is⟩ : ∃ s3 : Shared, s3 = { s2 with heap := s2.heap.push { cls := .type "list", data := .seq ([] : List Value).toArray } } := ⟨_, rfl⟩
  have Klst : Inv X pins σ (upd H2 Dl (.lst [])) s3 := by
    rw [s3_is]
    exact Kit.laid (t' := s2.toks) (fun b o e => Heap.get?_push_of_some _ e) (Nat.le_of_eq Dl_at.symm) ⟨Nat.zero_le _, [], 0, .nil, by rw [Dl_at]; exact Heap.get?_push_size _ rfl⟩
  have small : ∀ b ∈ fp, b < s2.heap.objs.size := fun b hb => let ⟨_, e, _⟩ := T.obj _ _ live2 b hb; Heap.lt_size e
  have apart3 : ∀ b ∈ fp, FpOk X pins (upd H2 Dl (.lst [])) b ∧ b < s3.heap.objs.size := fun b hb =>
    ⟨⟨by rw [upd_ne (by rw [Dl_at]; exact Nat.ne_of_lt (small b hb))]; exact (apart2 b hb).1, (apart2 b hb).2⟩, by rw [s3_is]; show b < (s2.heap.push _).objs.size; rw [Heap.size_push]; exact Nat.lt_succ_of_lt (small b hb)⟩
  have live3 : tn 0 s3.heap := T.keep _ _ _ live2 fun b _ o e => by rw [s3_is]; exact Heap.get?_push_of_some _ e
  have Kblk := block_start Klst ok hN apart3
  obtain ⟨cl, cl_is⟩ : ∃ cl, cl = cellsFrom (s3.heap.objs.size + 1) scope.names (cloFrom X.env.cells scope.names []) := ⟨_, rfl⟩
  obtain ⟨C, C_at⟩ : ∃ C, C = s3.heap.objs.size := ⟨_, rfl⟩
  rw [← cl_is] at Kblk
  obtain ⟨s4, s4_is⟩ : ∃ s4 : Shared, s4 = { s3 with heap := pushCells (s3.heap.push { cls := .type "dict", data := .dict #[] }) scope.names } := ⟨_, rfl⟩
  rw [← s4_is, ← C_at] at Kblk
  have live4 : tn 0 s4.heap := T.keep _ _ _ live3 fun b _ o e => by rw [s4_is]; exact pushCells_keeps _ _ _ _ (Heap.get?_push_of_some _ e)
  obtain ⟨H3, H3_is⟩ : ∃ H3, H3 = upd H2 Dl (.lst []) := ⟨_, rfl⟩
  rw [← H3_is] at Klst Kblk won apart3
  obtain ⟨xe, hxe⟩ : ∃ xe, xe = notedBy (model X.prog X.w) X.A (compEnvC scope cl C X.env) (CompFails (model X.prog X.w) X.A X.xe (compEnvC scope cl C X.env)) := ⟨_, rfl⟩
  have elem := he s3 H3 C cl fp xe fun σ' pins' H' s' e s'' K c => by
    rw [hxe]
    exact blk_out hs hf tk C_at Klst apart3 K c
  have aim := hg s3 H3 C cl fp
  have good : ∀ {σ' : St} {H' : Hp} {s' : Shared}, Inv (X.blk s3 H3 scope (compEnvC scope cl C X.env) fp) [] σ' H' s' → (∀ b ∈ fp, H' b = none) → ∀ b ∈ fp, FpOk (X.blk s3 H3 scope (compEnvC scope cl C X.env) fp) [] H' b := fun K hn b hb =>
    ⟨hn b hb, (K.ok.exf b hb).1, K.ok.exfs b hb, .inl hb, fun x c e => (K.ok.exf b hb).2 x c e, fun p hp => nomatch (show p ∈ ([] : List (Addr × Obj)) from hp)⟩
  have loop : codeAny (model X.prog X.w) X.A (.compLoop (.ListComp elt [⟨tg, iter, [], 0⟩] scope pos) 0 (.ref it) (.ref Dl) (compEnvC scope cl C X.env))
      (compEnds (model X.prog X.w) X.A X.xe (some (assign (.Name y py) X.env)) (fun _ s' => SP X pins D .next s') (.ref Dl) (compEnvC scope cl C X.env)) s4 := by
    refine compLoop_any (fun n s' => ∃ i H', Inv (X.blk s3 H3 scope (compEnvC scope cl C X.env) fp) [] (wipe σ (own.map (·.2))) H' s' ∧ tn i s'.heap ∧ (∀ b ∈ fp, H' b = none) ∧ W i n H') ?_ fuel ⟨0, H3, Kblk, live4, fun b hb => (apart3 b hb).1.1, won⟩
    rintro n s5 ⟨j, H5, Kturn, live5, bare5, won5⟩
    rcases turn j n H5 won5 with ⟨stop, qq⟩ | ⟨go, Nx, hNx, step⟩
    · refine thnF (T.done (X.blk s3 H3 scope (compEnvC scope cl C X.env) fp) rfl rfl rfl hc j [] s5 _ H5 (fun _ _ => False) Kturn (good Kturn bare5) live5 stop) fun r s6 ⟨hr, Kpull⟩ => ?_
      subst hr
      have Kpin : Inv X pins σ H5 s6 := Klst.call' (ch := fp) Kpull.os Kpull.base Kpull.hok Kpull.bare fun b hb => ⟨(apart3 b hb).1.2.2.2.1, (apart3 b hb).1.2.1, (apart3 b hb).1.2.2.2.2.1, (apart3 b hb).1.2.2.2.2.2⟩
      have nC : H5 C = none := Kpull.free
      obtain ⟨m, hn, _⟩ := Kpull.loc
      have hn : s6.heap.Ns C m := hn
      obtain ⟨_, v1, v2, v3, v4, v5⟩ := Klst.fpOk (b := C) (Nat.le_of_eq C_at.symm) nC
      show wpAny _ _ (assign (.Name y py) X.env (.ref Dl)) _ _ _
      refine wpAny_assign_Name (store_ok2 (v := V.ref Dl) Kpin hN hy (.inl hyl) rfl (fun s8 Kput ⟨b, sb, hb⟩ => ?_) (.inr hyl))
      have nb : C ≠ b := by
        rcases hb with z | z
        · rw [z]; exact v1
        · exact fun e => v4 y b z e.symm
      exact ⟨m, hn.sameBut sb nb, fun h9 sb9 => ⟨_, H5, Kput.turned (t' := s8.toks) (fun c o hc' e => (sb9.2 c hc').trans e) nC v1 v3 v4 v5, qq⟩⟩
    · refine thnF (T.item (X.blk s3 H3 scope (compEnvC scope cl C X.env) fp) rfl rfl rfl hc j [] s5 _ H5 (fun _ _ => False) Kturn (good Kturn bare5) live5 go) fun r s6 ⟨u, hr, h6⟩ => ?_
      subst hr
      refine thnF h6 fun _ s7 ⟨x, H7, Kpin, r7, y7, live7, bare7⟩ => ?_
      have Kpinned := Kpin.pinned (good Kpin bare7) (T.obj _ _ live7)
      refine thnF (aim.run _ s7 _ H7 x u _ Kpinned r7 (step x H7 y7)) fun _ s8 ⟨σ8, H8, Kput, hw8, q8⟩ => ?_
      refine wpAny_tests_nil ?_
      have q8 : te σ8 H8 fun yv H4 => ∃ acc, H4 Dl = some (.lst acc) ∧ acc.length < sizeLine ∧ Nx (upd H4 Dl (.lst (acc ++ [yv]))) := q8
      have more := elem.run _ s8 σ8 H8 _ (Kput.wish xe) q8
      rw [if_pos rfl]
      refine wpAny_mono more (fun z s9 ⟨yv, H9, Kelt, r9, acc, hD9, hz9, nx⟩ => ?_) (fun e s9 z => by
        have z : xe e s9 := z
        rw [hxe] at z
        exact z)
      refine app_ok (X := X.blk s3 H3 scope (compEnvC scope cl C X.env) fp) Kelt.unwish hD9 hz9 r9 fun s10 Kapp => ?_
      obtain ⟨m', hm, w'⟩ := hNx _ nx
      have pin' : ∀ b ∈ fp, ∀ o, s7.heap.get? b = some o → s10.heap.get? b = some o ∧ (upd H9 Dl (.lst (acc ++ [yv]))) b = none := fun b hb o e =>
        let z := Kapp.pin (b, o) (List.mem_append_right _ (List.mem_append_right _ (mem_pinsAt hb e)))
        ⟨z.1, z.2.1⟩
      refine ⟨m', hm, j + 1, _, (Kapp.unpinned (pins := [])).weak (by rw [← hw8, wipe_length]) (fun k v e => ?_), T.keep _ _ _ live7 fun b hb o e => (pin' b hb o e).1, fun b hb => ?_, w'⟩
      · rw [← hw8] at e
        exact (wipe_some e).1
      · obtain ⟨o, e, _⟩ := T.obj _ _ live7 b hb
        exact (pin' b hb o e).2
  have fin := codeAny_compStart_list loop (T.self X.A 0 _ _ _ live4 loop)
  rw [cl_is, C_at, s4_is, s3_is] at fin
  exact fin
end
end K50
namespace K50
open PySem PySem.Spec PyProof.Rows L2 PySem.HandSPX
/-- an exception that was caught and is kept: its class, its own dict -/
def ExH (cls : Value) (d : Option Addr) (a : Addr) : HO := .ext fun h => ∃ (oe : Obj) (vs : Array Value), h.get? a = some oe ∧ Zc cls d oe ∧ oe.data = .fields vs
theorem exH_ok {P : Program} {w : World} {H : Hp} {h : Heap} {a : Addr} {cls : Value} {d : Option Addr} {oe : Obj} {vs : Array Value} (e : h.get? a = some oe) (z : Zc cls d oe) (q : oe.data = .fields vs) : ObjOk P w H h a (ExH cls d a) :=
  ⟨⟨oe, vs, e, z, q⟩, ⟨oe, e⟩, fun _ _ ⟨o, v, g, r⟩ k => ⟨o, v, k o g, r⟩⟩
section
variable {X : Cx} {pins : List (Addr × Obj)} {σ : St} {H : Hp} {s : Shared} {a : Addr} {o : HO}
/-- an object that came since the entry is looked after from here on -/
theorem track (I : Inv X pins σ H s) (na : H a = none) (n0 : X.s_0.heap.get? a = none) (nL : a ≠ X.env.locals) (nC : ∀ x c, X.env.cells.lookup x = some c → c ≠ a) (nP : ∀ p ∈ X.pn ++ pins, p.1 ≠ a)
    (new : ObjOk X.prog X.w (upd H a o) s.heap a o) : Inv X pins σ (upd H a o) s :=
  { I with
    base := { I.base with
      free := fun b u q n hx => by
        rw [upd_ne (fun z => by rw [z, n0] at q; cases q)]
        exact I.base.free b u q n hx
      tups := fun b xs q => by
        have r := I.base.tups b xs q
        rw [upd_ne (ne_of_none r na)]
        exact r
      frzs := fun b u xs q => by
        have r := I.base.frzs b u xs q
        rw [upd_ne (ne_of_none r na)]
        exact r
      tbls := fun b ps q => by
        obtain ⟨m, r⟩ := I.base.tbls b ps q
        exact ⟨m, by rw [upd_ne (ne_of_none r na)]; exact r⟩ }
    free := by
      rw [upd_ne (Ne.symm nL)]
      exact I.free
    freeC := fun x c e => by
      rw [upd_ne (nC x c e)]
      exact I.freeC x c e
    pin := fun p hp => by
      obtain ⟨e, n, r⟩ := I.pin p hp
      exact ⟨e, by rw [upd_ne (nP p hp)]; exact n, r⟩
    hok := fun b u e => by
      by_cases hb : b = a
      · subst hb
        rw [upd_same] at e
        cases e
        exact new
      · rw [upd_ne hb] at e
        exact (I.hok b u e).stay (fun c v _ q => q) (fun c q => by rw [upd_ne (ne_of_none q na)]; exact q) fun c xs q => by rw [upd_ne (ne_of_none q na)]; exact q }
end
/-- what «except x as n: suite» wishes of the body's exception, the exception kept behind it -/
def wKept (K : PySem.W.Frag) (c : Value) (i : Nat) (ts : Addr → Value → Option Addr → TS) (D : Ends) : WX := fun cls d σ H =>
  PySem.W.exmOne K cls c = some true ∧ ∀ a, H a = none → ts a cls d { nx := fun σ' H' => D.nx (σ'.set i none) (upd H' a (ExH cls d a)), rt := fun _ _ => False } (σ.set i (some (.ref a))) H
section
variable {X : Cx} {x n : Str} {c : Value} {i : Nat} {body suite : List Stmt} {st₀ : Stmt} {np pos pos' : Pos} {tb : WX → TS} {ts : Addr → Value → Option Addr → TS}
theorem ps_try_kept (hs : X.stack = X.env :: X.outer) (hf : X.env.frame = some X.env.locals) (hex : X.ex = []) (hN : X.N.Nodup) (hi : X.N[i]? = some n) (hln : X.env.kindOf n = some .local) (hc : Names X x c)
    (hb : ∀ (W : WX) (pn : List (Addr × Obj)) (xe : Value → Shared → Prop), Takes (X.tr pn xe) W → PassesOwn (model X.prog X.w) X.A X.env xe → PSs (X.tr pn xe) body (tb W))
    (hsu : ∀ (a : Addr) (oe : Obj) (cls : Value) (d : Option Addr) (pn : List (Addr × Obj)), PSs (X.suite a ((a, oe) :: pn)) (st₀ :: suite) (ts a cls d)) :
    PS X (.Try body [.ExceptHandler (some (.Name x np)) (some n) (st₀ :: suite) pos'] [] [] pos) (fun D σ H => tb (wKept X.K c i ts D) D σ H) := by
  refine ⟨fun pins s σ H D I h => ?_⟩
  have ok := I.ok
  have frames : X.A.frames = some (X.env :: X.outer) := by rw [ok.frames, hs]
  refine wpAny_Try_except (wpAny_mono ((hb (wKept X.K c i ts D) (X.pn ++ pins) (fun ev s₁ => wpAny (model X.prog X.w) X.A (noteFrame ev X.env) (fun _ s₂ => wpAny (model X.prog X.w) X.A (setFlight ev none) (fun _ s₃ =>
    wpAny (model X.prog X.w) X.A (handleBy ev X.env [.ExceptHandler (some (.Name x np)) (some n) (st₀ :: suite) pos']) (SP X pins D) X.xe s₃) X.xe s₂) X.xe s₁) (fun u s' xx => ?_) PassesOwn.looking).run [] s σ H D (I.toTry _) h) (fun f s1 res => ?_) fun _ _ z => z)
  · obtain ⟨a, B, sI, pins', σ', H', cls, d, rfl, Kbody, newB, up, sky, na, os, ag, fits, hyes⟩ := xx
    have Kcaught : Inv X pins σ' H' sI := Kbody.ofTry ok
    have vacant : B.get? a = none := by
      rcases sky with z | z | z
      · exact z.2.1
      · exact z.2.1
      · exact z.2.1
    show wpAny (model X.prog X.w) X.A (noteFrame (Value.ref a) X.env) _ _ s'
    refine Sky.land Zc.steady frames hf (by rw [← hs]; exact sky) fun heapN flyN grewN => ?_
    have Knoted : Inv X pins σ' H' { s' with heap := heapN } := Kcaught.landed newB flyN.1 (up.trans grewN) os ag
    obtain ⟨objN, fldN, atN, clsN, datN⟩ := flyN.there
    have noFrame : a ∉ frs (X.env :: X.outer) := fun fits => by
      obtain ⟨_, o', e', hnf⟩ := flyN.2.2.1.mem fits
      exact hnf fldN (by rw [atN] at e'; cases e'; exact datN)
    have noLocals : a ≠ X.env.locals := fun z => noFrame (List.mem_filterMap.mpr ⟨X.env, List.mem_cons_self, by rw [hf, z]⟩)
    have noOuter : a ∉ X.fs := fun fits => by
      obtain ⟨ev, he, res⟩ := List.mem_filterMap.mp fits
      exact noFrame (List.mem_filterMap.mpr ⟨ev, List.mem_cons_of_mem _ he, res⟩)
    have nst : a ∉ frs X.stack := by rw [hs]; exact noFrame
    have young : X.s_0.heap.get? a = none := by
      cases res : X.s_0.heap.get? a with
      | none => rfl
      | some ob =>
        obtain ⟨o1, e1⟩ := Kcaught.base.there a ob res (by rw [hex]; exact fun z => nomatch z)
        exact absurd ((newB a o1 e1 nst).symm.trans vacant) (fun z => nomatch z)
    have noPin : ∀ p ∈ X.pn ++ pins, p.1 ≠ a := fun p hp z => by
      obtain ⟨ev, _⟩ := Kcaught.pin p hp
      rw [z] at ev
      exact absurd ((newB a p.2 ev nst).symm.trans vacant) (fun z => nomatch z)
    have Ksuite := Knoted.suite atN datN na noLocals noOuter
    refine wpAny_handleBy_cons (codeAny_handlers_test ?_) (by intro res; cases res)
    have lookT : PySem.W.Looks (model X.prog X.w) heapN (typeOf (.ref a)) cls := fun A Q E s k res => wpAny_typeOf_ref (k _ _ atN) (by rw [clsN.1]; exact res)
    have lookM := PySem.W.exm_one (M := model X.prog X.w) Knoted.kIn lookT fits
    have seen : ∀ {Q : Value → Shared → Prop} {E : Value → Shared → Prop}, Q c { s' with heap := heapN } → wpAny (model X.prog X.w) (X.A.mark (some (.ref a))) (eval (.Name x np) X.env) Q E { s' with heap := heapN } := fun {Q E} res => by
      obtain ⟨hg, hdbg, fits | ⟨fits, hv, hnn⟩⟩ := hc
      · exact ld_glob (X := X.suite a ((a, objN) :: (X.pn ++ pins))) Ksuite hg fits res hdbg
      · exact ld_blt (X := X.suite a ((a, objN) :: (X.pn ++ pins))) Ksuite hg fits hv res hnn hdbg
    refine seen (lookM.here (codeAny_handlers_suite_as ?_))
    refine lands_againZ flyN fun heapB flyB grewB => ?_
    have Kbound : Inv X pins σ' H' { s' with heap := heapB } := Kcaught.landed newB flyB.1 ((up.trans grewN).trans grewB) os ag
    obtain ⟨objB, fldB, atB, clsB, datB⟩ := flyB.there
    refine store_ok (X := X.suite a ((a, objB) :: (X.pn ++ pins))) (v := .ref a) (Kbound.suite atB datB na noLocals noOuter) hN hi (.inl hln) rfl (fun s5 Kinto => ?_) (.inr hln)
    refine wpAny_mono ((hsu a objB cls d (X.pn ++ pins)).run [] s5 _ H' _ Kinto (hyes a na)) (fun f s6 q6 => ?_) fun _ _ z => False.elim z
    cases f with
    | brk => exact let ⟨_, _, _, z⟩ := q6; False.elim z
    | cont => exact let ⟨_, _, _, z⟩ := q6; False.elim z
    | ret u => exact let ⟨_, _, _, _, _, z⟩ := q6; False.elim z
    | next =>
      obtain ⟨σ6, H6, Kthrough, q6⟩ := q6
      refine gone_ok (X := X.suite a ((a, objB) :: (X.pn ++ pins))) Kthrough hN hi hln fun s7 Kgone => ?_
      obtain ⟨e7, n7, _⟩ := Kgone.pin (a, objB) (List.mem_append_left _ List.mem_cons_self)
      have Kdone := Kgone.unsuite ok
      refine ⟨_, _, track Kdone n7 young noLocals (fun y b ev z => ?_) noPin (exH_ok e7 clsB datB), q6⟩
      obtain ⟨v, ob, g, r⟩ := Kdone.cell y b ev
      rw [z, e7] at g
      cases g
      rw [datB] at r
      cases r
  · cases f with
    | next => exact let ⟨_, _, K, z⟩ := res; wpAny_execs_nil ⟨_, _, K.ofTry ok, z⟩
    | brk => exact let ⟨_, _, K, z⟩ := res; ⟨_, _, K.ofTry ok, z⟩
    | cont => exact let ⟨_, _, K, z⟩ := res; ⟨_, _, K.ofTry ok, z⟩
    | ret u => exact let ⟨_, _, _, K, r, z⟩ := res; ⟨_, _, _, K.ofTry ok, r, z⟩
/-- isinstance(e, c), e such a kept exception -/
def rIsH (K : PySem.W.Frag) : List V → Hp → VK → Prop := fun xs H Q => ∃ (a D : Addr) (c : V) (cv : Value) (b : Bool), xs = [.ref a, c] ∧ H a = some (ExH (.ref D) none a) ∧ (∀ u, RelV c u → u = cv) ∧ ExcC K D ∧ PySem.W.kitOne K (.ref D) cv = some b ∧ Q (.bl b) H
theorem call_isH : CallR X (.builtin "isinstance") (rIsH X.K) := by
  intro pins s σ H xs gone Q Know rel wish
  obtain ⟨a, D, c, cv, b, rfl, hH, hcv, C, e, q⟩ := wish
  obtain ⟨first, second, rfl, r1, r2⟩ := vals2 rel
  cases (show first = Value.ref a from r1)
  cases hcv _ r2
  obtain ⟨⟨⟨oc, od, oda, osl⟩, vs, hget, ⟨h1, h2⟩, hv⟩, _, _⟩ := (show ObjOk X.prog X.w H s.heap a (ExH (.ref D) none a) from Know.hok a _ hH)
  dsimp only at h1 h2 hv
  subst h1 h2 hv
  have inst : PySem.W.InstAt s.heap a _ D none := ⟨hget, rfl, rfl, trivial⟩
  exact PySem.W.kia_one (PySem.W.handS_kitx_exc C.hg C.hk C.hs C.hd C.ha C.hn C.ht C.hm) Know.kIn inst e (fun z => nomatch z) fun tk => ⟨.bl b, H, Know.kept (t' := tk) fun _ _ z => z, rfl, q⟩
end
end K50
set_option linter.all false
set_option maxHeartbeats 5000000
namespace K50
/-! ### the mirror: what the program's trees are worth, in plain Lean -/
/-- the two faults of a read: outside its store; not written yet -/
inductive Bad where
  | stuck | late
  deriving DecidableEq
abbrev Res := Except Bad (Int × Int)
abbrev Sto := List (List (Option Int))
def wrapZ (n : Int) : Int := (n - (-9223372036854775808)) % 18446744073709551616 + (-9223372036854775808)
def rd (l : List (Option Int)) (p : Int) : Except Bad Int :=
  if p < 0 ∨ (l.length : Int) ≤ p then .error .stuck else match l[p.toNat]? with
    | some (some v) => .ok v
    | _ => .error .late
inductive Tr where
  | num (n : Int)
  | read (k p g : Int)
  | fetch (k far : Int) (t : Tr)
  | pick (t u v : Tr)
  | add (t u : Tr)
def Tr.depth : Tr → Nat
  | .num _ => 0
  | .read _ _ _ => 0
  | .fetch _ _ t => t.depth + 1
  | .pick t u v => max t.depth (max u.depth v.depth) + 1
  | .add t u => max t.depth u.depth + 1
def two (a b : Res) (f : Int × Int → Int × Int → Int × Int) : Res := match a with
  | .error e => .error e
  | .ok x => match b with
    | .error e => .error e
    | .ok y => .ok (f x y)
def ev (S : Sto) : Tr → Res
  | .num n => .ok (n, 0)
  | .read k p _ => match rd (S.getD k.toNat []) p with
    | .error e => .error e
    | .ok v => .ok (v, 0)
  | .fetch k far t => match ev S t with
    | .error e => .error e
    | .ok x => match rd (S.getD k.toNat []) (far + x.1 % 3 * 2) with
      | .error e => .error e
      | .ok v => .ok (v, 1 + x.2)
  | .pick t u v => match ev S t with
    | .error e => .error e
    | .ok x => match ev S u with
      | .error e => .error e
      | .ok y => match ev S v with
        | .error e => .error e
        | .ok z => .ok (if x.1 = 0 then z.1 else y.1, 1 + (x.2 + (y.2 + z.2)))
  | .add t u => match ev S t with
    | .error e => .error e
    | .ok x => match ev S u with
      | .error e => .error e
      | .ok y => .ok (wrapZ (x.1 + y.1), 1 + (x.2 + y.2))
/-- the fold of an add over n turns, each worth r -/
def foldN (r : Res) : Nat → Res
  | 0 => .ok (0, 0)
  | n + 1 => match foldN r n with
    | .error e => .error e
    | .ok m => match r with
      | .error e => .error e
      | .ok x => .ok (wrapZ (m.1 + x.1), m.2 + (1 + x.2))
/-! ### the law's own trees -/
def spotZ (c : Int) : Int := if c % 23 = 5 then -1 - c / 23 % 40 else if c % 23 = 9 then 23 + c / 23 % 40 else c / 23 % 23
def storeZ (c : Int) : Int := if c % 23 = 13 then 1 else 2 * (c / 529 % 2)
def leafT (c g : Int) : Tr := if c / 1058 % 4 = 1 then .fetch (2 - 2 * (c / 4000 % 2)) (spotZ (c / 8 % 1152921504606846976)) (.read (storeZ c) (spotZ c) g) else .read (storeZ c) (spotZ c) g
def branchT (c g : Int) : Tr := if c / 9000 % 3 = 1 then .pick (leafT c g) (leafT (c / 13 + 1) g) (leafT (c / 17 + 2) g) else leafT c g
def rowT (c : Int) (i : Nat) : Tr := branchT (c % 1000000000000000000000000) (1 + (i : Int) % 2)
def rowsT (ns : List Int) : List Tr := (ns.take 60).mapIdx fun i c => rowT c i
def hung (ts : List Tr) (left : Bool) : Tr := match ts with
  | [] => .num 7
  | t :: r => if left then r.foldl .add t else (t :: r).dropLast.foldr .add ((t :: r).getLastD t)
def cellZ (ns : List Int) (j : Nat) : Int := if 0 < ns.length then ns.getD (j % ns.length) 0 else j
def st0 (ns : List Int) (j : Nat) : Option Int := some ((cellZ ns j + j * j * j) % 18446744073709551616 - 9223372036854775808)
def st1 (ns : List Int) (j : Nat) : Option Int := if (cellZ ns j + j) % 5 = 2 then none else some ((cellZ ns j * 48271 + j) % 18446744073709551616 - 9223372036854775808)
def st2 (ns : List Int) (j : Nat) : Option Int := some (cellZ ns j % 7 - 3)
def stoZ (ns : List Int) : Sto := [(List.range 23).map (st0 ns), (List.range 23).map (st1 ns), (List.range 23).map (st2 ns)]
/-! ### the plain law -/
def firstBad : List Res → Option Bad
  | [] => none
  | .error e :: _ => some e
  | .ok _ :: r => firstBad r
def sumV : List Res → Int
  | [] => 0
  | .error _ :: r => sumV r
  | .ok x :: r => x.1 + sumV r
def sumC : List Res → Int
  | [] => 0
  | .error _ :: r => sumC r
  | .ok x :: r => x.2 + sumC r
theorem firstBad_app : ∀ (a b : List Res), firstBad (a ++ b) = match firstBad a with | some e => some e | none => firstBad b
  | [], b => rfl
  | .error e :: a, b => rfl
  | .ok x :: a, b => firstBad_app a b
theorem sumV_app : ∀ (a b : List Res), sumV (a ++ b) = sumV a + sumV b
  | [], b => by simp [sumV]
  | .error e :: a, b => sumV_app a b
  | .ok x :: a, b => by
    have h := sumV_app a b
    show x.1 + sumV (a ++ b) = x.1 + sumV a + sumV b
    omega
theorem sumC_app : ∀ (a b : List Res), sumC (a ++ b) = sumC a + sumC b
  | [], b => by simp [sumC]
  | .error e :: a, b => sumC_app a b
  | .ok x :: a, b => by
    have h := sumC_app a b
    show x.2 + sumC (a ++ b) = x.2 + sumC a + sumC b
    omega
theorem wrap_eq {a b : Int} (h : a % 18446744073709551616 = b % 18446744073709551616) : wrapZ a = wrapZ b := by
  unfold wrapZ
  omega
theorem wrap_mod (a : Int) : wrapZ a % 18446744073709551616 = a % 18446744073709551616 := by
  unfold wrapZ
  omega
/-- hung to the left -/
theorem ev_left (S : Sto) : ∀ (r : List Tr) (t : Tr), (∀ e, ev S t = .error e → ev S (r.foldl .add t) = .error e) ∧
    ∀ x, ev S t = .ok x → (∀ e, firstBad (r.map (ev S)) = some e → ev S (r.foldl .add t) = .error e) ∧
      (firstBad (r.map (ev S)) = none → ∃ y, ev S (r.foldl .add t) = .ok (y, x.2 + sumC (r.map (ev S)) + r.length) ∧ y % 18446744073709551616 = (x.1 + sumV (r.map (ev S))) % 18446744073709551616)
  | [], t => by
    refine ⟨fun e h => h, fun x h => ⟨fun e q => (nomatch q), fun _ => ⟨x.1, ?_, ?_⟩⟩⟩
    · show ev S t = _
      rw [h]
      show Except.ok x = Except.ok (x.1, x.2 + 0 + ((0 : Nat) : Int))
      simp
    · show _ = (x.1 + 0) % _
      simp
  | u :: r, t => by
    obtain ⟨h1, h2⟩ := ev_left S r (.add t u)
    refine ⟨fun e h => h1 e (by simp only [ev, h]), fun x h => ?_⟩
    cases hu : ev S u with
    | error e' =>
      have q : ev S (.add t u) = .error e' := by simp only [ev, h, hu]
      refine ⟨fun e z => ?_, fun z => ?_⟩
      · have z' : some e' = some e := by rw [List.map_cons, hu] at z; exact z
        cases z'
        exact h1 _ q
      · rw [List.map_cons, hu] at z
        exact (nomatch (show some e' = none from z))
    | ok y =>
      have q : ev S (.add t u) = .ok (wrapZ (x.1 + y.1), 1 + (x.2 + y.2)) := by simp only [ev, h, hu]
      obtain ⟨a, b⟩ := h2 _ q
      rw [List.map_cons, hu]
      refine ⟨fun e z => a e z, fun z => ?_⟩
      obtain ⟨v, e1, e2⟩ := b z
      refine ⟨v, ?_, ?_⟩
      · rw [List.foldl_cons, e1]
        congr 2
        show 1 + (x.2 + y.2) + sumC (r.map (ev S)) + (r.length : Int) = x.2 + (y.2 + sumC (r.map (ev S))) + ((r.length + 1 : Nat) : Int)
        omega
      · have w := wrap_mod (x.1 + y.1)
        show v % _ = (x.1 + (y.1 + sumV (r.map (ev S)))) % _
        have e2' : v % 18446744073709551616 = (wrapZ (x.1 + y.1) + sumV (r.map (ev S))) % 18446744073709551616 := e2
        omega
/-- hung to the right -/
theorem ev_right (S : Sto) (l : Tr) : ∀ (D : List Tr), (∀ e, firstBad ((D ++ [l]).map (ev S)) = some e → ev S (D.foldr .add l) = .error e) ∧
    (firstBad ((D ++ [l]).map (ev S)) = none → ∃ y, ev S (D.foldr .add l) = .ok (y, sumC ((D ++ [l]).map (ev S)) + D.length) ∧ y % 18446744073709551616 = sumV ((D ++ [l]).map (ev S)) % 18446744073709551616)
  | [] => by
    show (∀ e, firstBad [ev S l] = some e → ev S l = .error e) ∧ (firstBad [ev S l] = none → ∃ y, ev S l = .ok (y, sumC [ev S l] + ((0 : Nat) : Int)) ∧ y % _ = sumV [ev S l] % _)
    cases h : ev S l with
    | error e' => exact ⟨fun e z => by cases (show some e' = some e from z); rfl, fun z => nomatch (show some e' = none from z)⟩
    | ok x =>
      refine ⟨fun e z => (nomatch (show none = some e from z)), fun _ => ⟨x.1, ?_, ?_⟩⟩
      · show Except.ok x = Except.ok (x.1, x.2 + 0 + ((0 : Nat) : Int))
        simp
      · show _ = (x.1 + 0) % _
        simp
  | d :: D => by
    obtain ⟨h1, h2⟩ := ev_right S l D
    rw [List.cons_append, List.map_cons, List.foldr_cons]
    cases hd : ev S d with
    | error e' =>
      refine ⟨fun e z => ?_, fun z => nomatch (show some e' = none from z)⟩
      cases (show some e' = some e from z)
      simp only [ev, hd]
    | ok x =>
      refine ⟨fun e z => ?_, fun z => ?_⟩
      · have q := h1 e z
        simp only [ev, hd, q]
      · obtain ⟨v, e1, e2⟩ := h2 z
        refine ⟨wrapZ (x.1 + v), ?_, ?_⟩
        · simp only [ev, hd, e1]
          congr 2
          show 1 + (x.2 + (sumC ((D ++ [l]).map (ev S)) + (D.length : Int))) = x.2 + sumC ((D ++ [l]).map (ev S)) + ((D.length + 1 : Nat) : Int)
          omega
        · have w := wrap_mod (x.1 + v)
          show _ = (x.1 + sumV ((D ++ [l]).map (ev S))) % _
          omega
theorem split_last (t : Tr) (r : List Tr) : (t :: r).dropLast ++ [(t :: r).getLastD t] = t :: r := by
  have h := List.dropLast_concat_getLast (l := t :: r) (by simp)
  have e : (t :: r).getLastD t = (t :: r).getLast (by simp) := by simp [List.getLastD_eq_getLast?, List.getLast?_eq_getLast]
  rw [e]
  exact h
/-- what a hung row is worth -/
theorem ev_hung (S : Sto) (t : Tr) (r : List Tr) (left : Bool) : (∀ e, firstBad ((t :: r).map (ev S)) = some e → ev S (hung (t :: r) left) = .error e) ∧
    (firstBad ((t :: r).map (ev S)) = none → ∃ y, ev S (hung (t :: r) left) = .ok (y, sumC ((t :: r).map (ev S)) + r.length) ∧ y % 18446744073709551616 = sumV ((t :: r).map (ev S)) % 18446744073709551616) := by
  cases left with
  | true =>
    show (∀ e, firstBad ((t :: r).map (ev S)) = some e → ev S (r.foldl .add t) = .error e) ∧ (firstBad ((t :: r).map (ev S)) = none → ∃ y, ev S (r.foldl .add t) = _ ∧ _)
    obtain ⟨h1, h2⟩ := ev_left S r t
    rw [List.map_cons]
    cases h : ev S t with
    | error e' =>
      refine ⟨fun e z => ?_, fun z => nomatch (show some e' = none from z)⟩
      cases (show some e' = some e from z)
      exact h1 _ h
    | ok x => exact h2 x h
  | false =>
    show (∀ e, firstBad ((t :: r).map (ev S)) = some e → ev S ((t :: r).dropLast.foldr .add ((t :: r).getLastD t)) = .error e) ∧ (firstBad ((t :: r).map (ev S)) = none → ∃ y, ev S ((t :: r).dropLast.foldr .add ((t :: r).getLastD t)) = _ ∧ _)
    have h := ev_right S ((t :: r).getLastD t) (t :: r).dropLast
    rw [split_last t r] at h
    have hl : (t :: r).dropLast.length = r.length := by simp
    rw [hl] at h
    exact h
theorem foldN_bad {r : Res} {e : Bad} (h : r = .error e) : ∀ n, foldN r (n + 1) = .error e
  | 0 => by
    subst h
    rfl
  | n + 1 => by
    have q := foldN_bad h n
    show (match foldN r (n + 1) with | .error e => Except.error e | .ok m => match r with | .error e => .error e | .ok x => .ok (wrapZ (m.1 + x.1), m.2 + (1 + x.2))) = _
    rw [q]
theorem foldN_ok {r : Res} {x : Int × Int} (h : r = .ok x) : ∀ n : Nat, ∃ m, foldN r n = .ok (m, n * (1 + x.2)) ∧ m % 18446744073709551616 = (n * x.1) % 18446744073709551616 ∧ (0 < n → m = wrapZ (n * x.1))
  | 0 => ⟨0, by show Except.ok (0, 0) = _; simp, by simp, fun z => absurd z (by omega)⟩
  | n + 1 => by
    obtain ⟨m, e1, e2, _⟩ := foldN_ok h n
    have ex : (((n + 1 : Nat) : Int)) * x.1 = n * x.1 + x.1 := by rw [Int.natCast_add, Int.add_mul]; simp
    have ec : (((n + 1 : Nat) : Int)) * (1 + x.2) = n * (1 + x.2) + (1 + x.2) := by rw [Int.natCast_add, Int.add_mul]; simp
    have w := wrap_mod (m + x.1)
    have w2 : wrapZ (m + x.1) = wrapZ (n * x.1 + x.1) := wrap_eq (by omega)
    refine ⟨wrapZ (m + x.1), ?_, by rw [ex]; omega, fun _ => by rw [ex]; exact w2⟩
    show (match foldN r n with | .error e => Except.error e | .ok m => match r with | .error e => .error e | .ok x => .ok (wrapZ (m.1 + x.1), m.2 + (1 + x.2))) = _
    rw [e1]
    subst h
    rw [ec]
/-- the whole law, without the program: what is found is what is asked -/
theorem whole_bad {S : Sto} {ts : List Tr} {e : Bad} (left : Bool) (n : Nat) (h : firstBad (ts.map (ev S)) = some e) : foldN (ev S (hung ts left)) (n + 1) = .error e := by
  cases ts with
  | nil => exact (nomatch (show none = some e from h))
  | cons t r => exact foldN_bad ((ev_hung S t r left).1 e h) n
theorem whole_ok {S : Sto} {ts : List Tr} (left : Bool) (n : Nat) (h : firstBad (ts.map (ev S)) = none) :
    foldN (ev S (hung ts left)) (n + 1) = .ok (wrapZ ((if ts.length = 0 then 7 else sumV (ts.map (ev S))) * ((n + 1 : Nat) : Int)), ((n + 1 : Nat) : Int) * (1 + sumC (ts.map (ev S)) + (if 0 < (ts.length : Int) - 1 then (ts.length : Int) - 1 else 0))) := by
  have key : ∀ y c v k : Int, ev S (hung ts left) = .ok (y, c) → y % 18446744073709551616 = v % 18446744073709551616 → 1 + c = k →
      foldN (ev S (hung ts left)) (n + 1) = .ok (wrapZ (v * ((n + 1 : Nat) : Int)), ((n + 1 : Nat) : Int) * k) := fun y c v k q1 q2 q3 => by
    obtain ⟨m, e1, _, e3⟩ := foldN_ok q1 (n + 1)
    rw [e1, e3 (by omega), ← q3]
    congr 2
    refine wrap_eq ?_
    rw [Int.mul_comm]
    show (y * ((n + 1 : Nat) : Int)) % _ = _
    rw [Int.mul_emod, q2, ← Int.mul_emod]
  cases ts with
  | nil => exact key 7 0 7 _ rfl rfl (by simp [sumC])
  | cons t r =>
    obtain ⟨y, e1, e2⟩ := (ev_hung S t r left).2 h
    refine key y _ _ _ e1 ?_ ?_
    · rw [if_neg (by simp)]
      exact e2
    · have hl : (((t :: r).length : Nat) : Int) - 1 = r.length := by rw [List.length_cons]; omega
      rw [hl]
      have : (if 0 < (r.length : Int) then (r.length : Int) else 0) = r.length := by
        by_cases z : 0 < (r.length : Int)
        · rw [if_pos z]
        · rw [if_neg z]; omega
      rw [this]
      omega
end K50
namespace K50
open PySem PySem.Spec PyProof.Rows L2 PySem.HandSPX
/-! ### the text by places -/
def top (i : Nat) : Stmt := PySem.Challenge.pw_sideloom_k50_whole_row_of_reads.main.body.getD i (.Pass ⟨0, 0, 0, 0⟩)
abbrev sWrapped : Stmt := top 8
abbrev sTwice : Stmt := top 10
abbrev sWorked : Stmt := top 11
abbrev sNeutral : Stmt := top 12
abbrev sFree : Stmt := top 14
abbrev sInner : Stmt := top 15
abbrev sSpotAt : Stmt := top 16
abbrev sReadAt : Stmt := top 17
abbrev sFolded : Stmt := top 18
abbrev sReck : Stmt := top 19
abbrev sStores : Stmt := top 21
abbrev sSpot : Stmt := top 22
abbrev sStore : Stmt := top 23
abbrev sOutcome : Stmt := top 24
abbrev sLeaf : Stmt := top 25
abbrev sBranch : Stmt := top 26
abbrev sHung : Stmt := top 27
abbrev sAsked : Stmt := top 28
abbrev sLaw : Stmt := top 29
/-- a def as the top left it: its text, how it is bound, where its name leads -/
structure Def (K : PySem.W.Frag) (mg : Str → Option Value) (name : Str) (st : Stmt) (ps : List Str) (f : Addr) (fd : FuncData) : Prop where
  F : Fun K name name st f fd
  b : Binds K fd ps []
  g : mg name = some (.ref f)
theorem yes {c : Bool} {A B : Prop} (hc : c = true) (h : A) : if c = true then A else B := by
  rw [if_pos hc]
  exact h
theorem no {c : Bool} {A B : Prop} (hc : c = false) (h : B) : if c = true then A else B := by
  rw [hc, if_neg Bool.false_ne_true]
  exact h
theorem e64 : (2 : Int) ^ (64 : Int).toNat = 18446744073709551616 := by decide
theorem e63 : (2 : Int) ^ (63 : Int).toNat = 9223372036854775808 := by decide
theorem e60 : (2 : Int) ^ (60 : Int).toNat = 1152921504606846976 := by decide
theorem e24 : (10 : Int) ^ (24 : Int).toNat = 1000000000000000000000000 := by decide
theorem cp64 : CPow 2 64 := ⟨by decide, by decide, by decide⟩
theorem cp63 : CPow 2 63 := ⟨by decide, by decide, by decide⟩
theorem cp60 : CPow 2 60 := ⟨by decide, by decide, by decide⟩
theorem cp24 : CPow 10 24 := ⟨by decide, by decide, by decide⟩
section
variable {P : Program} {w : World} {K : PySem.W.Frag} {mg : Str → Option Value} {base : Heap}
/-! ### numbers -/
def spWrapped : Sp := fun vs H Q _ => ∃ n : Int, vs = [.int n] ∧ Q (.int (wrapZ n)) H
theorem scWrapped : FnScope ["n"] ["n"] (defScope sWrapped) := ⟨rfl, rfl, rfl, by decide +kernel, rfl, by decide +kernel, by decide +kernel⟩
theorem ok_wrapped {f : Addr} {fd : FuncData} {tL : Tok} (F : Fun K "wrapped" "wrapped" sWrapped f fd) (gL : mg "LOW" = some (.int (-9223372036854775808) tL)) : FnOk P w K mg base CX0 1 f fd ["n"] spWrapped := by
  refine F.ok scWrapped (fun vs H Q E h => ?_) (fun cdv A outer s H vs Q E hr h => ?_)
  · obtain ⟨n, rfl, _⟩ := h
    rfl
  obtain ⟨n, rfl, k⟩ := h
  refine ⟨_, pss_one (ps_ret (pe_op op_add (pe_op op_mod (pe_op op_sub (pv 0) (pe_glob (v := .int (-9223372036854775808)) rfl gL ⟨_, rfl⟩)) (pe_op op_pow pe_int pe_int)) (pe_glob (v := .int (-9223372036854775808)) rfl gL ⟨_, rfl⟩))), ?_⟩
  refine ⟨_, rfl, _, _, rfl, rfl, 2, 64, rfl, rfl, cp64, _, _, rfl, rfl, (by rw [e64]; show (0 : Int) < 18446744073709551616; decide), _, _, rfl, rfl, ?_⟩
  rw [e64]
  exact k
def spWorked : Sp := fun vs H Q _ => ∃ x y : Int, vs = [.str "add", .int x, .int y] ∧ Q (.int (wrapZ (x + y))) H
theorem scWorked : FnScope ["word", "x", "y"] ["word", "x", "y"] (defScope sWorked) := ⟨rfl, rfl, rfl, by decide +kernel, rfl, by decide +kernel, by decide +kernel⟩
theorem ok_worked {f fW : Addr} {fd fdW : FuncData} (F : Fun K "worked" "worked" sWorked f fd) (DW : Def K mg "wrapped" sWrapped ["n"] fW fdW) (GW : FnOk P w K mg base CX0 1 fW fdW ["n"] spWrapped) : FnOk P w K mg base CX0 2 f fd ["word", "x", "y"] spWorked := by
  refine F.ok scWorked (fun vs H Q E h => ?_) (fun cdv A outer s H vs Q E hr h => ?_)
  · obtain ⟨x, y, rfl, _⟩ := h
    rfl
  obtain ⟨x, y, rfl, k⟩ := h
  refine ⟨_, pss_cons (ps_if (pt_cmpR op_eq (pv 0) pe_str (nomark _)) (pss_one (ps_ret (pe_call GW hr rfl DW.g DW.F.kp DW.b .nil pass0 (pa_cons (pe_op op_add (pv 1) (pv 2)) pa_nil)))) pss_nil) pss_never, ?_⟩
  refine ⟨_, rfl, rfl, _, rfl, yes (by decide +kernel) ?_⟩
  exact ⟨_, rfl, _, rfl, _, _, rfl, rfl, _, rfl, k⟩
theorem same_new {H : Hp} {p : Addr} (h : H p = none) (o : HO) : Same H (upd H p o) := fun b u q => by
  rw [upd_ne (ne_of_none q h)]
  exact q
def spTwice : Sp := fun vs H Q _ => ∃ x y : Int, vs = [.str "add", .int x, .int y] ∧ ∀ H', Same H H' → Q (.int (wrapZ (x + y))) H'
theorem scTwice : FnScope ["word", "x", "y"] ["word", "x", "y"] (defScope sTwice) := ⟨rfl, rfl, rfl, by decide +kernel, rfl, by decide +kernel, by decide +kernel⟩
theorem ok_twice {f fW : Addr} {fd fdW : FuncData} (F : Fun K "twice" "twice" sTwice f fd) (DW : Def K mg "worked" sWorked ["word", "x", "y"] fW fdW) (GW : FnOk P w K mg base CX0 2 fW fdW ["word", "x", "y"] spWorked) : FnOk P w K mg base CX0 3 f fd ["word", "x", "y"] spTwice := by
  refine F.ok scTwice (fun vs H Q E h => ?_) (fun cdv A outer s H vs Q E hr h => ?_)
  · obtain ⟨x, y, rfl, _⟩ := h
    rfl
  obtain ⟨x, y, rfl, k⟩ := h
  refine ⟨_, pss_cons (ps_if (pt_cmpR op_in_seq (pv 0) (pe_tup (pa_cons pe_str (pa_cons pe_str (pa_cons pe_str (pa_cons pe_str (pa_cons pe_str pa_nil)))))) rfl) (pss_one (ps_ret (pe_call GW hr rfl DW.g DW.F.kp DW.b .nil pass0 (pa_cons (pv 0) (pa_cons (pv 1) (pa_cons (pv 2) pa_nil)))))) pss_nil) pss_never, ?_⟩
  refine ⟨_, rfl, (by show 5 ≤ sizeLine; decide), fun p hp => ?_⟩
  refine ⟨p, _, rfl, .inr (SqT.of upd_same), rfl, rfl, _, rfl, yes (by decide +kernel) ?_⟩
  exact ⟨_, rfl, _, rfl, _, rfl, _, _, rfl, k _ (same_new hp _)⟩
def spNeutral : Sp := fun vs H Q _ => vs = [.str "add"] ∧ ∀ H', Same H H' → Q (.int 0) H'
theorem scNeutral : FnScope ["word"] ["word"] (defScope sNeutral) := ⟨rfl, rfl, rfl, by decide +kernel, rfl, by decide +kernel, by decide +kernel⟩
theorem ok_neutral {f : Addr} {fd : FuncData} (F : Fun K "neutral" "neutral" sNeutral f fd) : FnOk P w K mg base CX0 1 f fd ["word"] spNeutral := by
  refine F.ok scNeutral (fun vs H Q E h => ?_) (fun cdv A outer s H vs Q E hr h => ?_)
  · obtain ⟨rfl, _⟩ := h
    rfl
  obtain ⟨rfl, k⟩ := h
  refine ⟨_, pss_cons (ps_if (pt_cmpR op_in_seq (pv 0) (pe_tup (pa_cons pe_str (pa_cons pe_str (pa_cons pe_str pa_nil)))) rfl) (pss_one (ps_ret pe_int)) pss_nil) pss_never, ?_⟩
  refine ⟨_, rfl, (by show 3 ≤ sizeLine; decide), fun p hp => ?_⟩
  refine ⟨p, _, rfl, .inr (SqT.of upd_same), rfl, rfl, _, rfl, yes (by decide +kernel) ?_⟩
  exact k _ (same_new hp _)
/-! ### trees on the heap -/
def freeW (k : Str) : Bool := inV (.str k) [.str "num", .str "index", .str "read"]
def spFree : Sp := fun vs H Q _ => ∃ (p : Addr) (k : Str) (xs : List V), vs = [.ref p] ∧ H p = some (.tup (.str k :: xs)) ∧ ∀ H', Same H H' → Q (.bl (freeW k)) H'
theorem scFree : FnScope ["tree"] ["tree"] (defScope sFree) := ⟨rfl, rfl, rfl, by decide +kernel, rfl, by decide +kernel, by decide +kernel⟩
theorem ok_free {f : Addr} {fd : FuncData} (F : Fun K "is_free" "is_free" sFree f fd) : FnOk P w K mg base CX0 1 f fd ["tree"] spFree := by
  refine F.ok scFree (fun vs H Q E h => ?_) (fun cdv A outer s H vs Q E hr h => ?_)
  · obtain ⟨p, k, xs, rfl, _⟩ := h
    rfl
  obtain ⟨p, kd, xs, rfl, hp, k⟩ := h
  refine ⟨_, pss_one (ps_ret (pe_cmpR op_in_seq (pe_ix ix_tup (pv 0) pe_int (fun _ _ => rfl)) (pe_tup (pa_cons pe_str (pa_cons pe_str (pa_cons pe_str pa_nil)))) rfl)), ?_⟩
  refine ⟨_, rfl, p, _, 0, _, rfl, rfl, SqT.of hp, atI_nat (j := 0) rfl, (by show 3 ≤ sizeLine; decide), fun q hq => ?_⟩
  exact ⟨q, _, rfl, .inr (SqT.of upd_same), rfl, rfl, k _ (same_new hq _)⟩
/-- the trees straight within a tree that is not free -/
inductive Kids : List V → List V → Prop where
  | fetch (a b c d e t : V) : Kids [.str "fetch", a, b, c, d, e, t] [t]
  | pick (t u v : V) : Kids [.str "pick", t, u, v] [t, u, v]
  | pair (a t u : V) : Kids [.str "pair", a, t, u] [t, u]
def spInner : Sp := fun vs H Q _ => ∃ (p : Addr) (xs kids : List V), vs = [.ref p] ∧ H p = some (.tup xs) ∧ Kids xs kids ∧ ∀ H' q, Same H H' → H' q = some (.tup kids) → Q (.ref q) H'
theorem scInner : FnScope ["tree"] ["tree"] (defScope sInner) := ⟨rfl, rfl, rfl, by decide +kernel, rfl, by decide +kernel, by decide +kernel⟩
theorem ok_inner {f fF : Addr} {fd fdF : FuncData} (F : Fun K "inner_trees" "inner_trees" sInner f fd) (DF : Def K mg "is_free" sFree ["tree"] fF fdF) (GF : FnOk P w K mg base CX0 1 fF fdF ["tree"] spFree) : FnOk P w K mg base CX0 2 f fd ["tree"] spInner := by
  refine F.ok scInner (fun vs H Q E h => ?_) (fun cdv A outer s H vs Q E hr h => ?_)
  · obtain ⟨p, xs, kids, rfl, _⟩ := h
    rfl
  obtain ⟨p, xs, kids, rfl, hp, hk, k⟩ := h
  refine ⟨_, pss_cons (ps_if (pt_val (pe_call GF hr rfl DF.g DF.F.kp DF.b .nil pass0 (pa_cons (pv 0) pa_nil))) pss_never pss_nil)
    (pss_cons (ps_if (pt_cmpR op_eq (pe_ix ix_tup (pv 0) pe_int (fun _ _ => rfl)) pe_str (nomark _)) pss_never pss_nil)
    (pss_cons (ps_if (pt_cmpR op_eq (pe_ix ix_tup (pv 0) pe_int (fun _ _ => rfl)) pe_str (nomark _)) (pss_one (ps_ret (pe_tup (pa_cons (pe_ix ix_tup (pv 0) pe_int (fun _ _ => rfl)) (pa_cons (pe_ix ix_tup (pv 0) pe_int (fun _ _ => rfl)) pa_nil))))) pss_nil)
    (pss_cons (ps_if (pt_cmpR op_eq (pe_ix ix_tup (pv 0) pe_int (fun _ _ => rfl)) pe_str (nomark _)) (pss_one (ps_ret (pe_tup (pa_cons (pe_ix ix_tup (pv 0) pe_int (fun _ _ => rfl)) (pa_cons (pe_ix ix_tup (pv 0) pe_int (fun _ _ => rfl)) (pa_cons (pe_ix ix_tup (pv 0) pe_int (fun _ _ => rfl)) pa_nil)))))) pss_nil)
    (pss_cons (ps_if (pt_cmpR op_eq (pe_ix ix_tup (pv 0) pe_int (fun _ _ => rfl)) pe_str (nomark _)) (pss_one (ps_ret (pe_tup (pa_cons (pe_ix ix_tup (pv 0) pe_int (fun _ _ => rfl)) pa_nil)))) pss_nil)
    pss_never)))), ?_⟩
  cases hk with
  | fetch a b c d e t =>
    refine ⟨_, rfl, p, _, _, rfl, hp, fun H1 s1 => ?_⟩
    have h1 := s1 _ _ hp
    refine ⟨_, rfl, no (by decide +kernel) ?_⟩
    refine ⟨_, rfl, p, _, 0, _, rfl, rfl, SqT.of h1, rfl, rfl, _, rfl, no (by decide +kernel) ?_⟩
    refine ⟨_, rfl, p, _, 0, _, rfl, rfl, SqT.of h1, rfl, rfl, _, rfl, no (by decide +kernel) ?_⟩
    refine ⟨_, rfl, p, _, 0, _, rfl, rfl, SqT.of h1, rfl, rfl, _, rfl, no (by decide +kernel) ?_⟩
    refine ⟨_, rfl, p, _, 0, _, rfl, rfl, SqT.of h1, rfl, rfl, _, rfl, yes (by decide +kernel) ?_⟩
    exact ⟨_, rfl, p, _, 6, _, rfl, rfl, SqT.of h1, rfl, (by show 1 ≤ sizeLine; decide), fun q hq => k _ q (s1.trans (same_new hq _)) upd_same⟩
  | pick t u v =>
    refine ⟨_, rfl, p, _, _, rfl, hp, fun H1 s1 => ?_⟩
    have h1 := s1 _ _ hp
    refine ⟨_, rfl, no (by decide +kernel) ?_⟩
    refine ⟨_, rfl, p, _, 0, _, rfl, rfl, SqT.of h1, rfl, rfl, _, rfl, no (by decide +kernel) ?_⟩
    refine ⟨_, rfl, p, _, 0, _, rfl, rfl, SqT.of h1, rfl, rfl, _, rfl, no (by decide +kernel) ?_⟩
    refine ⟨_, rfl, p, _, 0, _, rfl, rfl, SqT.of h1, rfl, rfl, _, rfl, yes (by decide +kernel) ?_⟩
    exact ⟨_, rfl, p, _, 1, _, rfl, rfl, SqT.of h1, rfl, _, rfl, p, _, 2, _, rfl, rfl, SqT.of h1, rfl, _, rfl, p, _, 3, _, rfl, rfl, SqT.of h1, rfl, (by show 3 ≤ sizeLine; decide), fun q hq => k _ q (s1.trans (same_new hq _)) upd_same⟩
  | pair a t u =>
    refine ⟨_, rfl, p, _, _, rfl, hp, fun H1 s1 => ?_⟩
    have h1 := s1 _ _ hp
    refine ⟨_, rfl, no (by decide +kernel) ?_⟩
    refine ⟨_, rfl, p, _, 0, _, rfl, rfl, SqT.of h1, rfl, rfl, _, rfl, no (by decide +kernel) ?_⟩
    refine ⟨_, rfl, p, _, 0, _, rfl, rfl, SqT.of h1, rfl, rfl, _, rfl, yes (by decide +kernel) ?_⟩
    exact ⟨_, rfl, p, _, 2, _, rfl, rfl, SqT.of h1, rfl, _, rfl, p, _, 3, _, rfl, rfl, SqT.of h1, rfl, (by show 2 ≤ sizeLine; decide), fun q hq => k _ q (s1.trans (same_new hq _)) upd_same⟩
end
end K50
namespace K50
open PySem PySem.Spec PyProof.Rows L2 PySem.HandSPX
/-- what the top says of an own class of error -/
structure ExcT (K : PySem.W.Frag) (mg : Str → Option Value) (name : Str) (C : Addr) : Prop where
  g : mg name = some (.ref C)
  x : PySem.W.excIn K C [.type "ValueError", .type "Exception", .type "BaseException", .type "object"] "ValueError.__new__" = true
  k : PySem.W.keepIn K (.ref C) = true
  b : PySem.W.subIn K (.ref C) (.type "BaseException") = some true
  t : PySem.W.typeIn K (.ref C) = some (.type "type")
def optV : Option Int → V
  | some n => .int n
  | none => .non
theorem same_tup {K : PySem.W.Frag} {H H' : Hp} {a : Addr} {xs : List V} (s : Same H H') (h : H a = some (.tup xs)) : SqT K H' a xs := SqT.of (s _ _ h)
theorem small23 {n : Nat} (h : n = 23) : n ≤ sizeLine := by
  subst h
  decide
section
variable {P : Program} {w : World} {K : PySem.W.Frag} {mg : Str → Option Value} {base : Heap} {CS CN : Addr}
/-! ### a spot -/
def part (x a y b : Int) : Nat → Int
  | 0 => 0
  | 1 => x * a
  | _ => x * a + y * b
def spSpotAt : Sp := fun vs H Q _ => ∃ (s x y a b : Int) (ps pa : Addr), vs = [.int s, .ref ps, .ref pa] ∧ H ps = some (.tup [.int a, .int b]) ∧ H pa = some (.tup [.int x, .int y]) ∧ (-(2 ^ 64) < x ∧ x < 2 ^ 64) ∧ (-(2 ^ 64) < y ∧ y < 2 ^ 64) ∧
  ∀ H', Same H H' → Q (.int (s + x * a + y * b)) H'
theorem scSpotAt : FnScope ["start", "strides", "at", "spot", "far", "stride"] ["start", "strides", "at"] (defScope sSpotAt) := ⟨rfl, rfl, rfl, by decide +kernel, rfl, by decide +kernel, by decide +kernel⟩
theorem ok_spotAt {f : Addr} {fd : FuncData} (F : Fun K "spot_at" "spot_at" sSpotAt f fd) (mz : mg "zip" = none) : FnOk P w K mg base CX0 1 f fd ["start", "strides", "at"] spSpotAt := by
  refine F.ok scSpotAt (fun vs H Q E h => ?_) (fun cdv A outer s H vs Q E hr h => ?_)
  · obtain ⟨s, x, y, a, b, ps, pa, rfl, _⟩ := h
    rfl
  obtain ⟨s0, x, y, a, b, ps, pa, rfl, hps, hpa, bx, by', k⟩ := h
  refine ⟨_, pss_cons (ps_set (i := 3) scSpotAt.nd rfl (.inl rfl) (pv 0))
    (pss_cons (ps_for PassesOwn.never rfl (RZ.pi_zipA rfl mz (pa_cons (pv 2) (pa_cons (pv 1) pa_nil)))
        (pg_tup rfl (pgs_cons (pg_name (i := 4) scSpotAt.nd rfl (.inl rfl)) (pgs_cons (pg_name (i := 5) scSpotAt.nd rfl (.inl rfl)) pgs_nil)))
        (pss_one (ps_aug (i := 3) scSpotAt.nd rfl (.inl rfl) (pe_op op_mul (pv 4) (pv 5)) ip_add)))
    (pss_one (ps_ret (pv 3)))), ?_⟩
  refine ⟨_, rfl, _, rfl, _, rfl, pa, ps, _, _, rfl, .inr ⟨SqT.of hpa, SqT.of hps, RZ.for_zipT (K := K) (a := pa) (b := ps) (xs := [.int x, .int y]) (ys := [.int a, .int b]) rfl
    (fun i σ H' => ∃ v4 v5 : Option V, σ = [some (.int s0), some (.ref ps), some (.ref pa), some (.int (s0 + part x a y b i)), v4, v5] ∧ Same H H')
    ⟨none, none, by show _ = [_, _, _, some (V.int (s0 + 0)), _, _]; rw [Int.add_zero]; rfl, Same.refl H⟩ (fun i σ H' ⟨_, _, _, s1⟩ => ⟨same_tup s1 hpa, same_tup s1 hps⟩) ?_ ?_⟩⟩
  · rintro i u v T σ H' hu hv ⟨v4, v5, rfl, s1⟩ hT
    match i, hu, hv with
    | 0, hu, hv =>
      cases hu
      cases hv
      refine ⟨T, _, rfl, SqT.of upd_same, rfl, _, _, rfl, _, _, rfl, rfl, ?_⟩
      refine ⟨_, rfl, _, rfl, _, rfl, _, _, rfl, rfl, .inl bx, _, _, rfl, rfl, some (.int x), some (.int a), ?_, s1.trans (same_new hT _)⟩
      show [_, _, _, some (V.int (s0 + 0 + x * a)), _, _] = [_, _, _, some (V.int (s0 + x * a)), _, _]
      rw [Int.add_zero]
    | 1, hu, hv =>
      cases hu
      cases hv
      refine ⟨T, _, rfl, SqT.of upd_same, rfl, _, _, rfl, _, _, rfl, rfl, ?_⟩
      refine ⟨_, rfl, _, rfl, _, rfl, _, _, rfl, rfl, .inl by', _, _, rfl, rfl, some (.int y), some (.int b), ?_, s1.trans (same_new hT _)⟩
      show [_, _, _, some (V.int (s0 + x * a + y * b)), _, _] = [_, _, _, some (V.int (s0 + (x * a + y * b))), _, _]
      rw [← Int.add_assoc]
    | i + 2, hu, _ => exact nomatch (show (none : Option V) = some u from hu)
  · rintro σ H' ⟨v4, v5, rfl, s1⟩
    refine ⟨_, rfl, ?_⟩
    have q := k H' s1
    rw [Int.add_assoc] at q
    exact q
/-! ### a read -/
def spReadAt (CS CN : Addr) : Sp := fun vs H Q E => ∃ (p : Addr) (l : List (Option Int)) (n : Int), vs = [.ref p, .int n] ∧ H p = some (.lst (l.map optV)) ∧
  (∀ v, rd l n = .ok v → Q (.int v) H) ∧ (rd l n = .error .stuck → E (.ref CS) none H) ∧ (rd l n = .error .late → E (.ref CN) none H)
theorem scReadAt : FnScope ["store", "spot"] ["store", "spot"] (defScope sReadAt) := ⟨rfl, rfl, rfl, by decide +kernel, rfl, by decide +kernel, by decide +kernel⟩
theorem rd_in {l : List (Option Int)} {n : Int} (h0 : ¬ n < 0) (h1 : ¬ (l.length : Int) ≤ n) : rd l n = match l[n.toNat]? with | some (some v) => .ok v | _ => .error .late := by
  unfold rd
  rw [if_neg (by omega)]
  all_goals (rcases l[n.toNat]? with _ | (_ | v) <;> rfl)
theorem ok_readAt {f : Addr} {fd : FuncData} (F : Fun K "read_at" "read_at" sReadAt f fd) (ml : mg "len" = none) (TS : ExcT K mg "Stuck" CS) (TN : ExcT K mg "NotReady" CN) : FnOk P w K mg base (L2.CX P w) 1 f fd ["store", "spot"] (spReadAt CS CN) := by
  refine F.okX scReadAt (fun vs H Q E h => ?_) (fun cdv A outer s H vs Q E hr h => ?_)
  · obtain ⟨p, l, n, rfl, _⟩ := h
    rfl
  obtain ⟨p, l, n, rfl, hp, kOk, kS, kN⟩ := h
  refine ⟨_, pss_cons (ps_if (PW.pt (pw_or (pt_cmpR op_lt (pv 1) pe_int (nomark _)) (pw_or1 (pt_cmpR op_ge (pv 1) (pe_callB call_len_seq rfl ml PySem.boot_len (pa_cons (pv 0) pa_nil)) (nomark _)))))
      (pss_one (ps_raise (W := fun cls d _ H => E cls d H) rfl (takes_of rfl rfl rfl rfl) (pmk_own PySem.F.excBase_ValueError TS.x TS.g TS.k (raises_own TS.b TS.t) (by exact rfl)))) pss_nil)
    (pss_cons (ps_if (pt_cmpR op_isN (pe_ix ix_list (pv 0) (pv 1) (fun _ _ => rfl)) pe_non (nomark _))
      (pss_one (ps_raise (W := fun cls d _ H => E cls d H) rfl (takes_of rfl rfl rfl rfl) (pmk_own PySem.F.excBase_ValueError TN.x TN.g TN.k (raises_own TN.b TN.t) (by exact rfl)))) pss_nil)
    (pss_one (ps_ret (pe_ix ix_list (pv 0) (pv 1) (fun _ _ => rfl))))), ?_⟩
  have hl : (l.map optV).length = l.length := List.length_map _
  refine ⟨_, rfl, _, _, rfl, rfl, _, rfl, ?_⟩
  by_cases h0 : n < 0
  · refine yes (decide_eq_true h0) (yes rfl ?_)
    exact kS (by unfold rd; rw [if_pos (.inl h0)])
  refine no (decide_eq_false h0) ?_
  refine ⟨_, rfl, _, rfl, p, _, rfl, .inl (SqL.of hp), _, _, rfl, rfl, _, rfl, ?_⟩
  rw [hl]
  by_cases h1 : (l.length : Int) ≤ n
  · refine yes (decide_eq_true h1) ?_
    exact kS (by unfold rd; rw [if_pos (.inr h1)])
  refine no (decide_eq_false h1) ?_
  have hr' := rd_in h0 h1
  have hlt : n.toNat < l.length := by omega
  have hat : atI (l.map optV) n = some (optV l[n.toNat]) := at_of (j := n.toNat) (by omega) (by rw [List.getElem?_map, List.getElem?_eq_getElem hlt] <;> rfl)
  rw [List.getElem?_eq_getElem hlt] at hr'
  refine ⟨_, rfl, _, rfl, p, _, n, _, rfl, rfl, SqL.of hp, hat, rfl, _, rfl, ?_⟩
  cases hv : l[n.toNat] with
  | none =>
    rw [hv] at hr'
    exact yes (by decide +kernel) (kN hr')
  | some v =>
    rw [hv] at hr' hat
    refine no (decide_eq_false (fun z => nomatch z)) ?_
    exact ⟨_, rfl, _, rfl, p, _, n, _, rfl, rfl, SqL.of hp, hat, kOk v hr'⟩
end
end K50
namespace K50
open PySem PySem.Spec PyProof.Rows L2 PySem.HandSPX
/-! ### the stores and the trees on the heap -/
structure StAt (H : Hp) (ps : Addr) (S : Sto) : Prop where
  ex : ∃ qs : List Addr, H ps = some (.lst (qs.map V.ref)) ∧ qs.length = 3 ∧ S.length = 3 ∧ ∀ (i : Nat) (q : Addr) (l : List (Option Int)), qs[i]? = some q → S[i]? = some l → H q = some (.lst (l.map optV)) ∧ l.length = 23
theorem StAt.mono {H H' : Hp} {ps : Addr} {S : Sto} (h : StAt H ps S) (s : Same H H') : StAt H' ps S := by
  obtain ⟨qs, h1, h2, h3, h4⟩ := h.ex
  exact ⟨qs, s _ _ h1, h2, h3, fun i q l a b => ⟨s _ _ (h4 i q l a b).1, (h4 i q l a b).2⟩⟩
theorem StAt.get {H : Hp} {ps : Addr} {S : Sto} (h : StAt H ps S) {k : Int} (h0 : 0 ≤ k) (h3 : k < 3) :
    ∃ (xs : List V) (q : Addr), H ps = some (.lst xs) ∧ atI xs k = some (.ref q) ∧ H q = some (.lst ((S.getD k.toNat []).map optV)) ∧ (S.getD k.toNat []).length = 23 := by
  obtain ⟨qs, h1, h2, h4, h5⟩ := h.ex
  have a : k.toNat < qs.length := by omega
  have b : k.toNat < S.length := by omega
  have e1 := List.getElem?_eq_getElem a
  have e2 := List.getElem?_eq_getElem b
  have e3 : S.getD k.toNat [] = S[k.toNat] := by simp [List.getD, e2]
  have z := h5 k.toNat _ _ e1 e2
  rw [← e3] at z
  exact ⟨_, qs[k.toNat], h1, at_of (j := k.toNat) (by omega) (by rw [List.getElem?_map, e1] <;> rfl), z.1, z.2⟩
inductive TreeAt (H : Hp) : V → Tr → Prop where
  | num {p : Addr} {n : Int} (h : H p = some (.tup [.str "num", .int n])) : TreeAt H (.ref p) (.num n)
  | read {p q : Addr} {k s g : Int} (h : H p = some (.tup [.str "read", .int k, .int (s - g), .ref q])) (hq : H q = some (.tup [.int g, .int 0])) (h0 : 0 ≤ k) (h3 : k < 3) : TreeAt H (.ref p) (.read k s g)
  | fetch {p z : Addr} {k far : Int} {v : V} {t : Tr} (h : H p = some (.tup [.str "fetch", .int k, .int far, .int 2, .int 3, .ref z, v])) (hz : H z = some (.tup [.int 0, .int 0])) (h0 : 0 ≤ k) (h3 : k < 3) (c : TreeAt H v t) : TreeAt H (.ref p) (.fetch k far t)
  | pick {p : Addr} {x y z : V} {t u v : Tr} (h : H p = some (.tup [.str "pick", x, y, z])) (c1 : TreeAt H x t) (c2 : TreeAt H y u) (c3 : TreeAt H z v) : TreeAt H (.ref p) (.pick t u v)
  | add {p : Addr} {x y : V} {t u : Tr} (h : H p = some (.tup [.str "pair", .str "add", x, y])) (c1 : TreeAt H x t) (c2 : TreeAt H y u) : TreeAt H (.ref p) (.add t u)
theorem TreeAt.mono {H H' : Hp} {v : V} {T : Tr} (h : TreeAt H v T) (s : Same H H') : TreeAt H' v T := by
  induction h with
  | num h => exact .num (s _ _ h)
  | read h hq h0 h3 => exact .read (s _ _ h) (s _ _ hq) h0 h3
  | fetch h hz h0 h3 _ ih => exact .fetch (s _ _ h) (s _ _ hz) h0 h3 ih
  | pick h _ _ _ i1 i2 i3 => exact .pick (s _ _ h) i1 i2 i3
  | add h _ _ i1 i2 => exact .add (s _ _ h) i1 i2
/-- a tree that holds others: its items, the others as they stand, the others -/
inductive Mid (H : Hp) : List V → List V → List Tr → Tr → Prop where
  | fetch {z : Addr} {k far : Int} {v : V} {t : Tr} (hz : H z = some (.tup [.int 0, .int 0])) (h0 : 0 ≤ k) (h3 : k < 3) : Mid H [.str "fetch", .int k, .int far, .int 2, .int 3, .ref z, v] [v] [t] (.fetch k far t)
  | pick {x y z : V} {t u v : Tr} : Mid H [.str "pick", x, y, z] [x, y, z] [t, u, v] (.pick t u v)
  | add {x y : V} {t u : Tr} : Mid H [.str "pair", .str "add", x, y] [x, y] [t, u] (.add t u)
theorem Mid.kids {H : Hp} {xs kv : List V} {Ts : List Tr} {T : Tr} (m : Mid H xs kv Ts T) : Kids xs kv := by
  cases m with
  | fetch _ _ _ => exact .fetch ..
  | pick => exact .pick ..
  | add => exact .pair ..
/-- none of the words that are asked ahead of the others -/
theorem Mid.head {H : Hp} {xs kv : List V} {Ts : List Tr} {T : Tr} (m : Mid H xs kv Ts T) : ∃ kd : Str, xs[0]? = some (.str kd) ∧ decide (V.str kd = V.str "num") = false ∧ decide (V.str kd = V.str "index") = false ∧ decide (V.str kd = V.str "read") = false ∧
    decide (V.str kd = V.str "fold") = false ∧ decide (V.str kd = V.str "each") = false := by
  cases m with
  | fetch _ _ _ => exact ⟨_, rfl, by decide +kernel, by decide +kernel, by decide +kernel, by decide +kernel, by decide +kernel⟩
  | pick => exact ⟨_, rfl, by decide +kernel, by decide +kernel, by decide +kernel, by decide +kernel, by decide +kernel⟩
  | add => exact ⟨_, rfl, by decide +kernel, by decide +kernel, by decide +kernel, by decide +kernel, by decide +kernel⟩
theorem Mid.mono {H H' : Hp} {xs kv : List V} {Ts : List Tr} {T : Tr} (m : Mid H xs kv Ts T) (s : Same H H') : Mid H' xs kv Ts T := by
  cases m with
  | fetch hz h0 h3 => exact .fetch (s _ _ hz) h0 h3
  | pick => exact .pick
  | add => exact .add
theorem Mid.deep {H : Hp} {xs kv : List V} {Ts : List Tr} {T : Tr} (m : Mid H xs kv Ts T) {n : Nat} (h : T.depth < n + 1) : ∀ t ∈ Ts, t.depth < n := by
  cases m with
  | fetch _ _ _ =>
    intro t ht
    cases List.mem_singleton.mp ht
    simp only [Tr.depth] at h
    omega
  | pick =>
    intro t ht
    simp only [Tr.depth] at h
    simp only [List.mem_cons, List.not_mem_nil, or_false] at ht
    rcases ht with rfl | rfl | rfl <;> omega
  | add =>
    intro t ht
    simp only [Tr.depth] at h
    simp only [List.mem_cons, List.not_mem_nil, or_false] at ht
    rcases ht with rfl | rfl <;> omega
theorem tree_cases {H : Hp} {v : V} {T : Tr} (h : TreeAt H v T) : ∃ p, v = .ref p ∧ ((∃ n, T = .num n ∧ H p = some (.tup [.str "num", .int n])) ∨
    (∃ k s g q, T = .read k s g ∧ H p = some (.tup [.str "read", .int k, .int (s - g), .ref q]) ∧ H q = some (.tup [.int g, .int 0]) ∧ 0 ≤ k ∧ k < 3) ∨
    ∃ xs kv Ts, H p = some (.tup xs) ∧ Mid H xs kv Ts T ∧ Paired (TreeAt H) kv Ts) := by
  cases h with
  | num h => exact ⟨_, rfl, .inl ⟨_, rfl, h⟩⟩
  | read h hq h0 h3 => exact ⟨_, rfl, .inr (.inl ⟨_, _, _, _, rfl, h, hq, h0, h3⟩)⟩
  | fetch h hz h0 h3 c => exact ⟨_, rfl, .inr (.inr ⟨_, _, _, h, .fetch hz h0 h3, .cons c .nil⟩)⟩
  | pick h c1 c2 c3 => exact ⟨_, rfl, .inr (.inr ⟨_, _, _, h, .pick, .cons c1 (.cons c2 (.cons c3 .nil))⟩)⟩
  | add h c1 c2 => exact ⟨_, rfl, .inr (.inr ⟨_, _, _, h, .add, .cons c1 (.cons c2 .nil)⟩)⟩
/-! ### a row of trees, one behind the other -/
def evs (S : Sto) : List Tr → Except Bad (List (Int × Int))
  | [] => .ok []
  | t :: r => match ev S t with
    | .error e => .error e
    | .ok x => match evs S r with
      | .error e => .error e
      | .ok xs => .ok (x :: xs)
theorem evs_snoc_ok (S : Sto) {t : Tr} {x : Int × Int} (ht : ev S t = .ok x) : ∀ {A : List Tr} {xs : List (Int × Int)}, evs S A = .ok xs → evs S (A ++ [t]) = .ok (xs ++ [x])
  | [], xs, h => by
    cases (show (Except.ok [] : Except Bad (List (Int × Int))) = .ok xs from h)
    simp [evs, ht]
  | a :: A, xs, h => by
    cases ha : ev S a with
    | error e => simp [evs, ha] at h
    | ok y =>
      cases hA : evs S A with
      | error e => simp [evs, ha, hA] at h
      | ok ys =>
        simp only [evs, ha, hA, Except.ok.injEq] at h
        have ih := evs_snoc_ok S ht hA
        subst h
        simp [evs, ha, ih]
theorem evs_bad (S : Sto) {t : Tr} {e : Bad} (ht : ev S t = .error e) (B : List Tr) : ∀ {A : List Tr} {xs : List (Int × Int)}, evs S A = .ok xs → evs S (A ++ t :: B) = .error e
  | [], xs, h => by simp [evs, ht]
  | a :: A, xs, h => by
    cases ha : ev S a with
    | error e => simp [evs, ha] at h
    | ok y =>
      cases hA : evs S A with
      | error e => simp [evs, ha, hA] at h
      | ok ys =>
        have ih := evs_bad S ht B hA
        simp [evs, ha, ih]
theorem Mid.bad {H : Hp} {xs kv : List V} {Ts : List Tr} {T : Tr} (m : Mid H xs kv Ts T) {S : Sto} {e : Bad} (h : evs S Ts = .error e) : ev S T = .error e := by
  cases m with
  | fetch _ _ _ =>
    rename_i t _ _ _
    cases ht : ev S t with
    | error e' => simp [evs, ht] at h; simp [ev, ht, h]
    | ok x => simp [evs, ht] at h
  | pick =>
    rename_i t u v
    cases ht : ev S t with
    | error e' => simp [evs, ht] at h; simp [ev, ht, h]
    | ok x =>
      cases hu : ev S u with
      | error e' => simp [evs, ht, hu] at h; simp [ev, ht, hu, h]
      | ok y =>
        cases hv : ev S v with
        | error e' => simp [evs, ht, hu, hv] at h; simp [ev, ht, hu, hv, h]
        | ok z => simp [evs, ht, hu, hv] at h
  | add =>
    rename_i t u
    cases ht : ev S t with
    | error e' => simp [evs, ht] at h; simp [ev, ht, h]
    | ok x =>
      cases hu : ev S u with
      | error e' => simp [evs, ht, hu] at h; simp [ev, ht, hu, h]
      | ok y => simp [evs, ht, hu] at h
end K50
namespace K50
open PySem PySem.Spec PyProof.Rows L2 PySem.HandSPX
/-- what is wanted of a reckoning worth r -/
def Aim (CS CN : Addr) (H : Hp) (Q : VK) (E : XK) (r : Res) : Prop := match r with
  | .ok x => ∀ H' p, Same H H' → H' p = some (.tup [.int x.1, .int x.2]) → Q (.ref p) H'
  | .error .stuck => ∀ H', Same H H' → E (.ref CS) none H'
  | .error .late => ∀ H', Same H H' → E (.ref CN) none H'
theorem Aim.bad {CS CN : Addr} {H H' : Hp} {Q Q' : VK} {E : XK} {e : Bad} (h : Aim CS CN H Q E (.error e)) (s : Same H H') : Aim CS CN H' Q' E (.error e) := by
  cases e with
  | stuck => exact fun H2 s2 => h H2 (s.trans s2)
  | late => exact fun H2 s2 => h H2 (s.trans s2)
def spReck (CS CN : Addr) (n : Nat) : Sp := fun vs H Q E => ∃ (v : V) (T : Tr) (pa ps : Addr) (kk : Int) (S : Sto), vs = [v, .ref pa, .ref ps] ∧ TreeAt H v T ∧ T.depth < n ∧ H pa = some (.tup [.int 1, .int kk]) ∧ (-(2 ^ 64) < kk ∧ kk < 2 ^ 64) ∧ StAt H ps S ∧ Aim CS CN H Q E (ev S T)
/-- all that the defs of this program are worth, as far as reckoned leans on them -/
structure Low (P : Program) (w : World) (K : PySem.W.Frag) (mg : Str → Option Value) (base : Heap) (CS CN fI fT fSp fR : Addr) (dI dT dSp dR : FuncData) : Prop where
  I : Def K mg "inner_trees" sInner ["tree"] fI dI
  T : Def K mg "twice" sTwice ["word", "x", "y"] fT dT
  Sp : Def K mg "spot_at" sSpotAt ["start", "strides", "at"] fSp dSp
  R : Def K mg "read_at" sReadAt ["store", "spot"] fR dR
  gI : FnOk P w K mg base CX0 2 fI dI ["tree"] spInner
  gT : FnOk P w K mg base CX0 3 fT dT ["word", "x", "y"] spTwice
  gSp : FnOk P w K mg base CX0 1 fSp dSp ["start", "strides", "at"] spSpotAt
  gR : FnOk P w K mg base (L2.CX P w) 1 fR dR ["store", "spot"] (spReadAt CS CN)
  sum : mg "sum" = none
theorem rd_aim {CS CN : Addr} {H H' : Hp} {Q : VK} {E : XK} {l : List (Option Int)} {n c : Int} (s : Same H H')
    (h : Aim CS CN H Q E (match rd l n with | .error e => .error e | .ok v => .ok (v, c))) :
    (∀ v, rd l n = .ok v → ∀ H2 p, Same H' H2 → H2 p = some (.tup [.int v, .int c]) → Q (.ref p) H2) ∧ (rd l n = .error .stuck → E (.ref CS) none H') ∧ (rd l n = .error .late → E (.ref CN) none H') := by
  refine ⟨fun v e H2 p s2 hp => ?_, fun e => ?_, fun e => ?_⟩
  · rw [e] at h
    exact h H2 p (s.trans s2) hp
  · rw [e] at h
    exact h H' s
  · rw [e] at h
    exact h H' s
theorem pair_get {α β : Type} {F : α → β → Prop} : ∀ {l : List α} {m : List β} {i : Nat} {x : α}, Paired F l m → l[i]? = some x → ∃ y, m[i]? = some y ∧ F x y
  | _, _, i, x, .nil, h => by simp at h
  | _, _, 0, x, .cons f _, h => by
    simp at h
    subst h
    exact ⟨_, rfl, f⟩
  | _, _, i + 1, x, .cons _ t, h => by
    obtain ⟨y, h1, h2⟩ := pair_get (i := i) (x := x) t (by simpa using h)
    exact ⟨y, by simpa using h1, h2⟩
theorem take_one {α : Type} {l : List α} {i : Nat} {x : α} (h : l[i]? = some x) : l.take (i + 1) = l.take i ++ [x] := by
  rw [List.take_succ, h]
  rfl
theorem cut_at {α : Type} {l : List α} {i : Nat} {x : α} (h : l[i]? = some x) : l = l.take i ++ x :: l.drop (i + 1) := by
  obtain ⟨inside, it⟩ := List.getElem?_eq_some_iff.mp h
  have q := List.drop_eq_getElem_cons inside
  rw [it] at q
  rw [← q, List.take_append_drop]
theorem Mid.small {H : Hp} {xs kv : List V} {Ts : List Tr} {T : Tr} (m : Mid H xs kv Ts T) : kv.length ≤ 3 := by
  cases m <;> simp
/-- the results of a row of reckonings, as they stand -/
def ResAt (H : Hp) : List Addr → List (Int × Int) → Prop := Paired fun q x => H q = some (.tup [.int x.1, .int x.2])
theorem ResAt.mono {H H' : Hp} {qs : List Addr} {rs : List (Int × Int)} (h : ResAt H qs rs) (s : Same H H') : ResAt H' qs rs := Paired.mapP h fun _ _ z => s _ _ z
theorem same_upd {H H' : Hp} {D : Addr} {o : HO} (s : Same H H') (n : H D = none) : Same H (upd H' D o) := fun b u q => by
  rw [upd_ne (ne_of_none q n)]
  exact s b u q
theorem ResAt.upd {H : Hp} {D : Addr} {xs : List V} {o : HO} {qs : List Addr} {rs : List (Int × Int)} (h : ResAt H qs rs) (hD : H D = some (.lst xs)) : ResAt (L2.upd H D o) qs rs :=
  Paired.mapP h fun a b z => by
    have z' : H a = some (.tup [.int b.1, .int b.2]) := z
    show L2.upd H D o a = some (.tup [.int b.1, .int b.2])
    rw [upd_ne (ne_of z' hD (fun q => nomatch q))]
    exact z'
theorem evs_cons {S : Sto} {t : Tr} {r : List Tr} {rs : List (Int × Int)} (h : evs S (t :: r) = .ok rs) : ∃ x xs, rs = x :: xs ∧ ev S t = .ok x ∧ evs S r = .ok xs := by
  cases ht : ev S t with
  | error e => simp [evs, ht] at h
  | ok x =>
    cases hr : evs S r with
    | error e => simp [evs, ht, hr] at h
    | ok xs => exact ⟨x, xs, by simp only [evs, ht, hr, Except.ok.injEq] at h; exact h.symm, rfl, rfl⟩
theorem evs_nil {S : Sto} {rs : List (Int × Int)} (h : evs S [] = .ok rs) : rs = [] := by
  cases (show (Except.ok [] : Except Bad (List (Int × Int))) = .ok rs from h)
  rfl
theorem ResAt.cons {H : Hp} {x : Int × Int} {qs : List Addr} {rs : List (Int × Int)} (h : ResAt H qs (x :: rs)) : ∃ q qr, qs = q :: qr ∧ H q = some (.tup [.int x.1, .int x.2]) ∧ ResAt H qr rs := by
  cases h with
  | cons here rest => exact ⟨_, _, rfl, here, rest⟩
theorem three_small {n : Nat} (h : n ≤ 3) : n < sizeLine := Nat.lt_of_le_of_lt h (by decide)
section
variable {P : Program} {w : World} {K : PySem.W.Frag} {mg : Str → Option Value} {base : Heap} {CS CN fI fT fSp fR : Addr} {dI dT dSp dR : FuncData}
abbrev nReck : List Str := ["tree", "at", "stores", "kind", "parts", "calls", "spot", "part"]
theorem scReck : FnScope ["tree", "at", "stores", "kind", "parts", "calls", "spot", "part"] ["tree", "at", "stores"] (defScope sReck) := ⟨rfl, rfl, rfl, by decide +kernel, rfl, by decide +kernel, by decide +kernel⟩
theorem reck_none {f : Addr} {fd : FuncData} {k : Nat} : FnOk P w K mg base (L2.CX P w) k f fd ["tree", "at", "stores"] (spReck CS CN 0) := by
  have no : ∀ vs H Q E, ¬ spReck CS CN 0 vs H Q E := fun vs H Q E h => by
    obtain ⟨_, _, _, _, _, _, _, _, h, _⟩ := h
    exact (Nat.not_lt_zero _ h).elim
  exact ⟨fun vs H Q E h => absurd h (no vs H Q E), fun A outer s H args us vs Q E _ _ _ _ h => absurd h (no vs H Q E)⟩
theorem reck_step {f : Addr} {fd : FuncData} {n : Nat} (L : Low P w K mg base CS CN fI fT fSp fR dI dT dSp dR) (D : Def K mg "reckoned" sReck ["tree", "at", "stores"] f fd) (G : FnOk P w K mg base (L2.CX P w) (n + 3) f fd ["tree", "at", "stores"] (spReck CS CN n)) :
    FnOk P w K mg base (L2.CX P w) (n + 4) f fd ["tree", "at", "stores"] (spReck CS CN (n + 1)) := by
  refine D.F.okX scReck (fun vs H Q E h => ?_) (fun cdv A outer s H vs Q E hr h => ?_)
  · obtain ⟨v, T, pa, ps, kk, S, rfl, _⟩ := h
    rfl
  obtain ⟨v, T, pa, ps, kk, S, rfl, hT, hdep, hpa, hkk, hS, aim⟩ := h
  have hr1 : Room 1 _ := hr.mono (by omega)
  have hr2 : Room 2 _ := hr.mono (by omega)
  have hr3 : Room 3 _ := hr.mono (by omega)
  have r1 : Room (n + 3) _ := hr
  refine ⟨_, pss_cons (ps_set (i := 3) scReck.nd rfl (.inl rfl) (pe_ix ix_tup (pv 0) pe_int (fun _ _ => rfl)))
    (pss_cons (ps_if (pt_cmpR op_eq (pv 3) pe_str (nomark _)) (pss_one (ps_ret (pe_tup (pa_cons (pe_ix ix_tup (pv 0) pe_int (fun _ _ => rfl)) (pa_cons pe_int pa_nil))))) pss_nil)
    (pss_cons (ps_if (pt_cmpR op_eq (pv 3) pe_str (nomark _)) pss_never pss_nil)
    (pss_cons (ps_if (pt_cmpR op_eq (pv 3) pe_str (nomark _)) (pss_one (ps_ret (pe_tup (pa_cons
        (pe_call L.gR hr1 rfl L.R.g L.R.F.kp L.R.b .nil (passes_call (W := fun cls d _ H => E cls d H) (takes_of rfl rfl rfl rfl) (fun _ _ _ _ h => h)) (pa_cons (pe_ix ix_list (pv 2) (pe_ix ix_tup (pv 0) pe_int (fun _ _ => rfl)) (fun _ _ => rfl))
          (pa_cons (pe_call L.gSp hr1 rfl L.Sp.g L.Sp.F.kp L.Sp.b .nil pass0 (pa_cons (pe_ix ix_tup (pv 0) pe_int (fun _ _ => rfl)) (pa_cons (pe_ix ix_tup (pv 0) pe_int (fun _ _ => rfl)) (pa_cons (pv 1) pa_nil)))) pa_nil)))
        (pa_cons pe_int pa_nil))))) pss_nil)
    (pss_cons (ps_if (pt_cmpR op_eq (pv 3) pe_str (nomark _)) pss_never pss_nil)
    (pss_cons (ps_setLcX (i := 4) (own := [("part", 7)]) (g := gName 7) (E := E) rfl rfl rfl (takes_of rfl rfl rfl rfl) scReck.nd rfl rfl (sw_true rfl rfl rfl (by decide +kernel))
        (pi_tup (pe_call L.gI hr2 rfl L.I.g L.I.F.kp L.I.b .nil pass0 (pa_cons (pv 0) pa_nil)))
        (blkOk_by (N := nReck) (own := [("part", 7)]) (sc := defScope sReck) (by decide +kernel))
        (fun _ _ _ _ _ => pg_name (i := 7) scReck.nd rfl (Or.inl rfl))
        (fun _ _ _ _ _ xe hx => pe_callS (E := fun _ => E) G r1 rfl D.g D.F.kp D.b hx (pa_cons (pv 7) (pa_cons (pv 1) (pa_cons (pv 2) pa_nil)))))
    (pss_cons (ps_set (i := 5) scReck.nd rfl (.inl rfl) (pe_op op_add pe_int (pe_callB (cr_sum rfl) rfl L.sum (by decide +kernel) (pa_cons
        (pe_lc (own := [("part", 7)]) (g := gName 7) (tt := tYes) (te := tOp (rIxT K) (tVar 7) (tC (.int 1))) rfl scReck.nd (pi_list (pv 4)) (blkOk_by (N := nReck) (own := [("part", 7)]) (sc := defScope sReck) (by decide +kernel))
          (fun _ _ _ _ _ => pg_name (i := 7) scReck.nd rfl (Or.inl rfl)) (fun _ _ _ _ _ => pts_nil) (fun _ _ _ _ _ => pe_ix (r := rIxT K) ix_tup (pv 7) pe_int (fun _ _ => rfl))) pa_nil))))
    (pss_cons (ps_if (pt_cmpR op_eq (pv 3) pe_str (nomark _)) pss_never pss_nil)
    (pss_cons (ps_if (pt_cmpR op_eq (pv 3) pe_str (nomark _)) (pss_one (ps_ret (pe_tup (pa_cons (pe_call L.gT hr3 rfl L.T.g L.T.F.kp L.T.b .nil pass0 (pa_cons (pe_ix ix_tup (pv 0) pe_int (fun _ _ => rfl)) (pa_cons (pe_ix ix_tup (pe_ix ix_list (pv 4) pe_int (fun _ _ => rfl)) pe_int (fun _ _ => rfl)) (pa_cons (pe_ix ix_tup (pe_ix ix_list (pv 4) pe_int (fun _ _ => rfl)) pe_int (fun _ _ => rfl)) pa_nil)))) (pa_cons (pv 5) pa_nil))))) pss_nil)
    (pss_cons (ps_if (pt_cmpR op_eq (pv 3) pe_str (nomark _))
        (pss_cons (ps_if (pt_cmpR op_ne (pe_ix ix_tup (pe_ix ix_list (pv 4) pe_int (fun _ _ => rfl)) pe_int (fun _ _ => rfl)) pe_int (nomark _)) (pss_one (ps_ret (pe_tup (pa_cons (pe_ix ix_tup (pe_ix ix_list (pv 4) pe_int (fun _ _ => rfl)) pe_int (fun _ _ => rfl)) (pa_cons (pv 5) pa_nil))))) pss_nil)
        (pss_one (ps_ret (pe_tup (pa_cons (pe_ix ix_tup (pe_ix ix_list (pv 4) pe_int (fun _ _ => rfl)) pe_int (fun _ _ => rfl)) (pa_cons (pv 5) pa_nil)))))) pss_nil)
    (pss_cons (ps_set (i := 6) scReck.nd rfl (.inl rfl) (pe_op op_add
        (pe_call L.gSp hr1 rfl L.Sp.g L.Sp.F.kp L.Sp.b .nil pass0 (pa_cons (pe_ix ix_tup (pv 0) pe_int (fun _ _ => rfl)) (pa_cons (pe_ix ix_tup (pv 0) pe_int (fun _ _ => rfl)) (pa_cons (pv 1) pa_nil))))
        (pe_op op_mul (pe_op op_mod (pe_ix ix_tup (pe_ix ix_list (pv 4) pe_int (fun _ _ => rfl)) pe_int (fun _ _ => rfl)) (pe_ix ix_tup (pv 0) pe_int (fun _ _ => rfl))) (pe_ix ix_tup (pv 0) pe_int (fun _ _ => rfl)))))
    (pss_one (ps_ret (pe_tup (pa_cons (pe_call L.gR hr1 rfl L.R.g L.R.F.kp L.R.b .nil (passes_call (W := fun cls d _ H => E cls d H) (takes_of rfl rfl rfl rfl) (fun _ _ _ _ h => h)) (pa_cons (pe_ix ix_list (pv 2) (pe_ix ix_tup (pv 0) pe_int (fun _ _ => rfl)) (fun _ _ => rfl)) (pa_cons (pv 6) pa_nil))) (pa_cons (pv 5) pa_nil))))))))))))))), ?_⟩
  obtain ⟨p, rfl, cs⟩ := tree_cases hT
  rcases cs with ⟨z, rfl, hp⟩ | ⟨k, s0, g, q, rfl, hp, hq, h0, h3⟩ | ⟨xs, kv, Ts, hp, m, hk⟩
  · refine ⟨_, rfl, p, _, 0, _, rfl, rfl, SqT.of hp, rfl, ?_⟩
    refine ⟨_, rfl, rfl, _, rfl, yes (by decide +kernel) ?_⟩
    exact ⟨_, rfl, p, _, 1, _, rfl, rfl, SqT.of hp, rfl, (by show 2 ≤ sizeLine; decide), fun q hq => aim _ q (same_new hq _) upd_same⟩
  · refine ⟨_, rfl, p, _, 0, _, rfl, rfl, SqT.of hp, rfl, ?_⟩
    refine ⟨_, rfl, rfl, _, rfl, no (by decide +kernel) ?_⟩
    refine ⟨_, rfl, rfl, _, rfl, no (by decide +kernel) ?_⟩
    refine ⟨_, rfl, rfl, _, rfl, yes (by decide +kernel) ?_⟩
    obtain ⟨ys, r, hps, hat, hr', hlen⟩ := hS.get h0 h3
    refine ⟨_, rfl, _, rfl, p, _, 1, _, rfl, rfl, SqT.of hp, rfl, ps, _, k, _, rfl, rfl, SqL.of hps, hat, ?_⟩
    refine ⟨_, rfl, p, _, 2, _, rfl, rfl, SqT.of hp, rfl, _, rfl, p, _, 3, _, rfl, rfl, SqT.of hp, rfl, _, rfl, s0 - g, 1, kk, g, 0, q, pa, rfl, hq, hpa, ⟨by decide, by decide⟩, hkk, fun H1 s1 => ?_⟩
    have e : s0 - g + 1 * g + kk * 0 = s0 := by omega
    rw [e]
    obtain ⟨a1, a2, a3⟩ := rd_aim s1 (n := s0) (c := 0) aim
    exact ⟨r, _, s0, rfl, s1 _ _ hr', fun v hv => ⟨(by show 2 ≤ sizeLine; decide), fun t ht => a1 v hv _ t (same_new ht _) upd_same⟩, a2, a3⟩
  obtain ⟨kd, h0, d1, d2, d3, d4, d5⟩ := m.head
  refine ⟨_, rfl, p, _, 0, _, rfl, rfl, SqT.of hp, atI_nat (j := 0) h0, ?_⟩
  refine ⟨_, rfl, rfl, _, rfl, no d1 ?_⟩
  refine ⟨_, rfl, rfl, _, rfl, no d2 ?_⟩
  refine ⟨_, rfl, rfl, _, rfl, no d3 ?_⟩
  refine ⟨_, rfl, rfl, _, rfl, no d4 ?_⟩
  have hkl : kv.length = Ts.length := hk.length
  refine ⟨_, rfl, p, xs, kv, rfl, hp, m.kids, fun H1 q s1 hq1 => ?_⟩
  refine ⟨q, rfl, ⟨_, SqT.of hq1⟩, fun Dl hDl => lc_tup (K := K) (a := q) (xs := kv)
    (fun i H' => ∃ (rs : List (Int × Int)) (qs : List Addr), evs S (Ts.take i) = .ok rs ∧ Same H1 H' ∧ H' Dl = some (.lst (qs.map V.ref)) ∧ ResAt H' qs rs ∧ qs.length = i)
    ⟨[], [], rfl, same_new hDl _, upd_same, .nil, rfl⟩ (fun i H' _ ⟨_, _, _, s2, _⟩ => same_tup s2 hq1) ?_ ?_⟩
  · rintro i x H' hx ⟨rs, qs, he, s2, hD, pr, hl⟩
    obtain ⟨t, ht, hTt⟩ := pair_get hk hx
    have hi : i < kv.length := (List.getElem?_eq_some_iff.mp hx).1
    have s12 := s1.trans s2
    refine ⟨rfl, ?_⟩
    dsimp only [tYes]
    rw [if_pos rfl]
    refine ⟨_, rfl, _, rfl, _, rfl, x, t, pa, ps, kk, S, rfl, hTt.mono s12, m.deep hdep t (List.mem_of_getElem? ht), s12 _ _ hpa, hkk, hS.mono s12, ?_⟩
    cases hev : ev S t with
    | error e =>
      have b1 := evs_bad S hev (Ts.drop (i + 1)) he
      rw [← cut_at ht] at b1
      rw [m.bad b1] at aim
      exact aim.bad s12
    | ok r =>
      intro H2 q2 s3 hq2
      have sz : (qs.map V.ref).length < sizeLine := by
        rw [List.length_map, hl]
        exact three_small (Nat.le_trans (Nat.le_of_lt hi) m.small)
      refine ⟨_, s3 _ _ hD, sz, rs ++ [r], qs ++ [q2], ?_, same_upd (s2.trans s3) hDl, ?_, ?_, ?_⟩
      · rw [take_one ht]
        exact evs_snoc_ok S hev he
      · rw [upd_same, List.map_append]
        rfl
      · exact ResAt.upd (Paired.snoc (pr.mono s3) hq2) (s3 _ _ hD)
      · rw [List.length_append, hl]
        rfl
  rintro H' ⟨rs, qs, he, s2, hD, pr, hl⟩
  rw [hkl, List.take_length] at he
  have s12 := s1.trans s2
  have prl : qs.length = rs.length := pr.length
  refine ⟨_, rfl, Dl, rfl, ⟨_, SqL.of hD⟩, fun D2 hD2 => lc_list (K := K) (a := Dl) (xs := qs.map V.ref)
    (fun i H2 => Same H' H2 ∧ H2 D2 = some (.lst ((rs.take i).map fun x => V.int x.2)))
    ⟨same_new hD2 _, upd_same⟩ (fun i H2 _ ⟨s3, _⟩ => SqL.of (s3 _ _ hD)) ?_ ?_⟩
  · rintro i x H2 hx ⟨s3, h2⟩
    obtain ⟨qi, hqi, rfl⟩ : ∃ qi, qs[i]? = some qi ∧ x = V.ref qi := by
      rw [List.getElem?_map] at hx
      cases e : qs[i]? with
      | none => rw [e] at hx; cases hx
      | some z => rw [e] at hx; exact ⟨z, rfl, (Option.some.inj hx).symm⟩
    obtain ⟨r, hr', hqr⟩ := pair_get pr hqi
    have hi : i < qs.length := (List.getElem?_eq_some_iff.mp hqi).1
    refine ⟨rfl, ?_⟩
    dsimp only [tYes]
    rw [if_pos rfl]
    refine ⟨_, rfl, qi, _, 1, _, rfl, rfl, SqT.of (s3 _ _ hqr), rfl, _, h2, ?_, same_upd s3 hD2, ?_⟩
    · rw [List.length_map, List.length_take]
      exact three_small (Nat.le_trans (Nat.min_le_left _ _) (Nat.le_trans (Nat.le_of_lt (by omega)) m.small))
    · rw [upd_same, take_one hr', List.map_append]
      rfl
  rintro H2 ⟨s3, h2⟩
  rw [List.length_map, prl, List.take_length] at h2
  have hns : (rs.map fun x => V.int x.2) = (rs.map (·.2)).map V.int := by
    rw [List.map_map]
    rfl
  rw [hns] at h2
  have hp2 := s3 _ _ (s12 _ _ hp)
  have hD2' := s3 _ _ hD
  have pr2 := pr.mono s3
  have s13 := s12.trans s3
  have aim2 : ∀ x, ev S T = .ok x → ∀ H3 p, Same H2 H3 → H3 p = some (.tup [.int x.1, .int x.2]) → Q (.ref p) H3 := fun x e H3 r s hr3 => by
    rw [e] at aim
    exact aim H3 r (s13.trans s) hr3
  refine ⟨D2, rs.map (·.2), rfl, SqL.of h2, _, _, rfl, rfl, ?_⟩
  refine ⟨_, rfl, rfl, _, rfl, no d5 ?_⟩
  have hpa2 := s13 _ _ hpa
  have hS2 := hS.mono s13
  clear h2 hns pr hD hp hpa hS s1 s2 s3 s12 hk hT
  cases m with
  | add =>
    cases h0
    obtain ⟨a, r1', rfl, e1, he⟩ := evs_cons he
    obtain ⟨b, r2', rfl, e2, he⟩ := evs_cons he
    cases evs_nil he
    obtain ⟨q1, qr, rfl, g1, pr2⟩ := pr2.cons
    obtain ⟨q2, qr, rfl, g2, pr2⟩ := pr2.cons
    refine ⟨_, rfl, rfl, _, rfl, yes (by decide +kernel) ?_⟩
    refine ⟨_, rfl, p, _, 1, _, rfl, rfl, SqT.of hp2, rfl, _, rfl, Dl, _, 0, _, rfl, rfl, SqL.of hD2', atI_nat (j := 0) rfl, q1, _, 0, _, rfl, rfl, SqT.of g1, rfl,
      _, rfl, Dl, _, 1, _, rfl, rfl, SqL.of hD2', atI_nat (j := 1) rfl, q2, _, 0, _, rfl, rfl, SqT.of g2, rfl, a.1, b.1, rfl, fun H3 s3 => ?_⟩
    refine ⟨_, rfl, (by show 2 ≤ sizeLine; decide), fun q hq => aim2 (wrapZ (a.1 + b.1), 1 + (a.2 + b.2)) (by simp only [ev, e1, e2]) _ q (s3.trans (same_new hq _)) ?_⟩
    rw [upd_same]
    show some (HO.tup [V.int (wrapZ (a.1 + b.1)), V.int (1 + [a.2, b.2].sum)]) = some (HO.tup [V.int (wrapZ (a.1 + b.1)), V.int (1 + (a.2 + b.2))])
    simp
  | pick =>
    cases h0
    obtain ⟨a, r1', rfl, e1, he⟩ := evs_cons he
    obtain ⟨b, r2', rfl, e2, he⟩ := evs_cons he
    obtain ⟨c, r3', rfl, e3, he⟩ := evs_cons he
    cases evs_nil he
    obtain ⟨q1, qr, rfl, g1, pr2⟩ := pr2.cons
    obtain ⟨q2, qr, rfl, g2, pr2⟩ := pr2.cons
    obtain ⟨q3, qr, rfl, g3, pr2⟩ := pr2.cons
    have hs : 1 + [a.2, b.2, c.2].sum = 1 + (a.2 + (b.2 + c.2)) := by simp
    refine ⟨_, rfl, rfl, _, rfl, no (by decide +kernel) ?_⟩
    refine ⟨_, rfl, rfl, _, rfl, yes (by decide +kernel) ?_⟩
    refine ⟨_, rfl, Dl, _, 0, _, rfl, rfl, SqL.of hD2', atI_nat (j := 0) rfl, q1, _, 0, _, rfl, rfl, SqT.of g1, rfl, rfl, _, rfl, ?_⟩
    by_cases z : a.1 = 0
    · refine no (by rw [decide_eq_true (congrArg V.int z)]; rfl) ?_
      refine ⟨_, rfl, Dl, _, 2, _, rfl, rfl, SqL.of hD2', atI_nat (j := 2) rfl, q3, _, 0, _, rfl, rfl, SqT.of g3, rfl, _, rfl, (by show 2 ≤ sizeLine; decide), fun q hq => aim2 (c.1, 1 + (a.2 + (b.2 + c.2))) (by simp only [ev, e1, e2, e3]; rw [if_pos z]) _ q (same_new hq _) ?_⟩
      rw [upd_same]
      show some (HO.tup [V.int c.1, V.int (1 + [a.2, b.2, c.2].sum)]) = some (HO.tup [V.int c.1, V.int (1 + (a.2 + (b.2 + c.2)))])
      rw [hs]
    · refine yes (by rw [decide_eq_false (fun q => z (V.int.inj q))]; rfl) ?_
      refine ⟨_, rfl, Dl, _, 1, _, rfl, rfl, SqL.of hD2', atI_nat (j := 1) rfl, q2, _, 0, _, rfl, rfl, SqT.of g2, rfl, _, rfl, (by show 2 ≤ sizeLine; decide), fun q hq => aim2 (b.1, 1 + (a.2 + (b.2 + c.2))) (by simp only [ev, e1, e2, e3]; rw [if_neg z]) _ q (same_new hq _) ?_⟩
      rw [upd_same]
      show some (HO.tup [V.int b.1, V.int (1 + [a.2, b.2, c.2].sum)]) = some (HO.tup [V.int b.1, V.int (1 + (a.2 + (b.2 + c.2)))])
      rw [hs]
  | fetch hz h0' h3' =>
    rename_i z k far v t
    cases h0
    obtain ⟨a, r1', rfl, e1, he⟩ := evs_cons he
    cases evs_nil he
    obtain ⟨q1, qr, rfl, g1, pr2⟩ := pr2.cons
    have aimF : Aim CS CN H Q E (match rd (S.getD k.toNat []) (far + a.1 % 3 * 2) with | .error e => .error e | .ok v => .ok (v, 1 + a.2)) := by
      simp only [ev, e1] at aim
      exact aim
    have hs : 1 + [a.2].sum = 1 + a.2 := by simp
    refine ⟨_, rfl, rfl, _, rfl, no (by decide +kernel) ?_⟩
    refine ⟨_, rfl, rfl, _, rfl, no (by decide +kernel) ?_⟩
    refine ⟨_, rfl, p, _, 2, _, rfl, rfl, SqT.of hp2, rfl, _, rfl, p, _, 5, _, rfl, rfl, SqT.of hp2, rfl, _, rfl, far, 1, kk, 0, 0, z, pa, rfl, s13 _ _ hz, hpa2, ⟨by decide, by decide⟩, hkk, fun H3 s3 => ?_⟩
    have s14 := s13.trans s3
    have hp3 := s3 _ _ hp2
    obtain ⟨ys, r, hps, hat, hr', hlen⟩ := (hS2.mono s3).get h0' h3'
    refine ⟨_, rfl, Dl, _, 0, _, rfl, rfl, SqL.of (s3 _ _ hD2'), atI_nat (j := 0) rfl, q1, _, 0, _, rfl, rfl, SqT.of (s3 _ _ g1), rfl, _, rfl, p, _, 4, _, rfl, rfl, SqT.of hp3, rfl, _, _, rfl, rfl, (by show (0 : Int) < 3; decide), _, rfl, p, _, 3, _, rfl, rfl, SqT.of hp3, rfl,
      _, _, rfl, rfl, .inr ⟨by decide, by decide⟩, _, _, rfl, rfl, ?_⟩
    refine ⟨_, rfl, _, rfl, p, _, 1, _, rfl, rfl, SqT.of hp3, rfl, ps, _, k, _, rfl, rfl, SqL.of hps, hat, _, rfl, ?_⟩
    have e : far + 1 * 0 + kk * 0 + a.1 % 3 * 2 = far + a.1 % 3 * 2 := by omega
    rw [← e] at aimF
    obtain ⟨b1, b2, b3⟩ := rd_aim s14 (n := far + 1 * 0 + kk * 0 + a.1 % 3 * 2) (c := 1 + a.2) aimF
    refine ⟨r, _, far + 1 * 0 + kk * 0 + a.1 % 3 * 2, rfl, hr', fun v hv => ⟨_, rfl, (by show 2 ≤ sizeLine; decide), fun q hq => b1 v hv _ q (same_new hq _) ?_⟩, b2, b3⟩
    rw [upd_same]
    show some (HO.tup [V.int v, V.int (1 + [a.2].sum)]) = some (HO.tup [V.int v, V.int (1 + a.2)])
    rw [hs]
end
end K50
namespace K50
open PySem PySem.Spec PyProof.Rows L2 PySem.HandSPX
/-- a fold of adds over the tree T, at (1,) -/
def spFold (CS CN : Addr) (n : Nat) : Sp := fun vs H Q E => ∃ (p pa ps : Addr) (v : V) (T : Tr) (many : Nat) (S : Sto), vs = [.ref p, .ref pa, .ref ps] ∧ H p = some (.tup [.str "fold", .str "add", .int many, v]) ∧ TreeAt H v T ∧ T.depth < n ∧ many ≤ 3 ∧
  H pa = some (.tup [.int 1]) ∧ StAt H ps S ∧ Aim CS CN H Q E (foldN (ev S T) many)
theorem foldN_lt {r : Res} {e : Bad} (h : r = .error e) {i n : Nat} (hi : i < n) : foldN r n = .error e := by
  obtain ⟨least, rfl⟩ : ∃ least, n = least + 1 := ⟨n - 1, by omega⟩
  exact foldN_bad h least
section
variable {P : Program} {w : World} {K : PySem.W.Frag} {mg : Str → Option Value} {base : Heap} {CS CN fI fT fSp fR : Addr} {dI dT dSp dR : FuncData}
theorem reck_all {f : Addr} {fd : FuncData} (L : Low P w K mg base CS CN fI fT fSp fR dI dT dSp dR) (D : Def K mg "reckoned" sReck ["tree", "at", "stores"] f fd) : ∀ n, FnOk P w K mg base (L2.CX P w) (n + 3) f fd ["tree", "at", "stores"] (spReck CS CN n)
  | 0 => reck_none
  | n + 1 => reck_step L D (reck_all L D n)
theorem scFolded : FnScope ["tree", "at", "stores", "made", "calls", "k", "part"] ["tree", "at", "stores"] (defScope sFolded) := ⟨rfl, rfl, rfl, by decide +kernel, rfl, by decide +kernel, by decide +kernel⟩
theorem ok_folded {f fN fK : Addr} {fd dN dK : FuncData} {n : Nat} (L : Low P w K mg base CS CN fI fT fSp fR dI dT dSp dR) (F : Fun K "folded_at" "folded_at" sFolded f fd) (DN : Def K mg "neutral" sNeutral ["word"] fN dN) (GN : FnOk P w K mg base CX0 1 fN dN ["word"] spNeutral)
    (DK : Def K mg "reckoned" sReck ["tree", "at", "stores"] fK dK) (GK : FnOk P w K mg base (L2.CX P w) (n + 3) fK dK ["tree", "at", "stores"] (spReck CS CN n)) (mr : mg "range" = none) :
    FnOk P w K mg base (L2.CX P w) (n + 4) f fd ["tree", "at", "stores"] (spFold CS CN n) := by
  refine F.okX scFolded (fun vs H Q E h => ?_) (fun cdv A outer s H vs Q E hr h => ?_)
  · obtain ⟨p, pa, ps, v, T, many, S, rfl, _⟩ := h
    rfl
  obtain ⟨p, pa, ps, v, T, many, S, rfl, hp, hT, hdep, hm, hpa, hS, aim⟩ := h
  have hr1 : Room 1 _ := hr.mono (by omega)
  have hr3 : Room 3 _ := hr.mono (by omega)
  refine ⟨_, pss_cons (ps_set (i := 3) scFolded.nd rfl (.inl rfl) (pe_call GN hr1 rfl DN.g DN.F.kp DN.b .nil pass0 (pa_cons (pe_ix ix_tup (pv 0) pe_int (fun _ _ => rfl)) pa_nil)))
    (pss_cons (ps_set (i := 4) scFolded.nd rfl (.inl rfl) pe_int)
    (pss_cons (ps_for (passes_of rfl) rfl (pi_range1 rfl mr (pa_cons (pe_ix ix_tup (pv 0) pe_int (fun _ _ => rfl)) pa_nil)) (pg_name (i := 5) scFolded.nd rfl (.inl rfl))
      (pss_cons (ps_set (i := 6) scFolded.nd rfl (.inl rfl) (pe_call GK hr rfl DK.g DK.F.kp DK.b .nil (passes_call (W := fun cls d _ H => E cls d H) (takes_of rfl rfl rfl rfl) (fun _ _ _ _ h => h))
          (pa_cons (pe_ix ix_tup (pv 0) pe_int (fun _ _ => rfl)) (pa_cons (pe_op op_catT (pv 1) (pe_tup (pa_cons (pv 5) pa_nil))) (pa_cons (pv 2) pa_nil)))))
      (pss_cons (ps_set (i := 3) scFolded.nd rfl (.inl rfl) (pe_call L.gT hr3 rfl L.T.g L.T.F.kp L.T.b .nil pass0 (pa_cons (pe_ix ix_tup (pv 0) pe_int (fun _ _ => rfl)) (pa_cons (pv 3) (pa_cons (pe_ix ix_tup (pv 6) pe_int (fun _ _ => rfl)) pa_nil)))))
      (pss_one (ps_aug (i := 4) scFolded.nd rfl (.inl rfl) (pe_op op_add pe_int (pe_ix ix_tup (pv 6) pe_int (fun _ _ => rfl))) ip_add)))))
    (pss_one (ps_ret (pe_tup (pa_cons (pv 3) (pa_cons (pv 4) pa_nil))))))), ?_⟩
  refine ⟨_, rfl, p, _, 1, _, rfl, rfl, SqT.of hp, rfl, rfl, fun H1 s1 => ?_⟩
  have hp1 := s1 _ _ hp
  refine ⟨_, rfl, p, _, 2, _, rfl, rfl, SqT.of hp1, rfl, many, rfl, by omega, by omega, for_range (lo := 0) (n := (many : Int).toNat)
    (fun i σ H' => ∃ (m c : Int) (v5 v6 : Option V), foldN (ev S T) i = .ok (m, c) ∧ σ = [some (.ref p), some (.ref pa), some (.ref ps), some (.int m), some (.int c), v5, v6] ∧ Same H H')
    ⟨0, 0, none, none, rfl, rfl, s1⟩ ?_ ?_⟩
  · rintro i σ H' hi ⟨m, c, v5, v6, hf, rfl, s2⟩
    have hi' : i < many := by omega
    have hp2 := s2 _ _ hp
    refine ⟨_, rfl, p, _, 3, _, rfl, rfl, SqT.of hp2, rfl, _, rfl, _, rfl, (by show 1 ≤ sizeLine; decide), fun t ht => ?_⟩
    have s3 := s2.trans (same_new ht (.tup [.int (0 + (i : Int))]))
    refine ⟨pa, t, _, _, rfl, rfl, SqT.of (s3 _ _ hpa), SqT.of upd_same, (fun z => nomatch z), (by show 2 ≤ sizeLine; decide), (fun z => nomatch z), fun _ u hu => ?_⟩
    have s4 := s3.trans (same_new hu (.tup ([.int 1] ++ [.int (0 + (i : Int))])))
    refine ⟨_, rfl, v, T, u, ps, 0 + (i : Int), S, rfl, hT.mono s4, hdep, upd_same, ⟨by omega, by omega⟩, hS.mono s4, ?_⟩
    cases hev : ev S T with
    | error e =>
      rw [hev] at aim
      rw [foldN_lt rfl (Nat.lt_of_le_of_lt (Nat.zero_le i) hi')] at aim
      exact aim.bad s4
    | ok r =>
      intro H2 q s5 hq
      have s6 := s4.trans s5
      have hp3 := s6 _ _ hp
      refine ⟨_, rfl, p, _, 1, _, rfl, rfl, SqT.of hp3, rfl, _, rfl, _, rfl, q, _, 0, _, rfl, rfl, SqT.of hq, rfl, m, r.1, rfl, fun H3 s7 => ?_⟩
      refine ⟨_, rfl, _, rfl, q, _, 1, _, rfl, rfl, SqT.of (s7 _ _ hq), rfl, _, _, rfl, rfl, _, _, rfl, rfl, wrapZ (m + r.1), c + (1 + r.2), _, _, ?_, rfl, s6.trans s7⟩
      simp only [hev] at hf
      simp only [foldN, hf]
  · rintro σ H' ⟨m, c, v5, v6, hf, rfl, s2⟩
    have e : (many : Int).toNat = many := by omega
    rw [e] at hf
    rw [hf] at aim
    exact ⟨_, rfl, _, rfl, (by show 2 ≤ sizeLine; decide), fun q hq => aim _ q (s2.trans (same_new hq _)) upd_same⟩
theorem reck_top {f fF : Addr} {fd dF : FuncData} {n : Nat} (F : Fun K "reckoned" "reckoned" sReck f fd) (DF : Def K mg "folded_at" sFolded ["tree", "at", "stores"] fF dF) (GF : FnOk P w K mg base (L2.CX P w) (n + 4) fF dF ["tree", "at", "stores"] (spFold CS CN n)) :
    FnOk P w K mg base (L2.CX P w) (n + 5) f fd ["tree", "at", "stores"] (spFold CS CN n) := by
  refine F.okX scReck (fun vs H Q E h => ?_) (fun cdv A outer s H vs Q E hr h => ?_)
  · obtain ⟨p, pa, ps, v, T, many, S, rfl, _⟩ := h
    rfl
  obtain ⟨p, pa, ps, v, T, many, S, rfl, hp, rest⟩ := h
  refine ⟨_, pss_cons (ps_set (i := 3) scReck.nd rfl (.inl rfl) (pe_ix ix_tup (pv 0) pe_int (fun _ _ => rfl)))
    (pss_cons (ps_if (pt_cmpR op_eq (pv 3) pe_str (nomark _)) pss_never pss_nil)
    (pss_cons (ps_if (pt_cmpR op_eq (pv 3) pe_str (nomark _)) pss_never pss_nil)
    (pss_cons (ps_if (pt_cmpR op_eq (pv 3) pe_str (nomark _)) pss_never pss_nil)
    (pss_cons (ps_if (pt_cmpR op_eq (pv 3) pe_str (nomark _)) (pss_one (ps_ret (pe_call GF hr rfl DF.g DF.F.kp DF.b .nil (passes_call (W := fun cls d _ H => E cls d H) (takes_of rfl rfl rfl rfl) (fun _ _ _ _ h => h)) (pa_cons (pv 0) (pa_cons (pv 1) (pa_cons (pv 2) pa_nil)))))) pss_nil)
    pss_never)))), ?_⟩
  refine ⟨_, rfl, p, _, 0, _, rfl, rfl, SqT.of hp, rfl, ?_⟩
  refine ⟨_, rfl, rfl, _, rfl, no (by decide +kernel) ?_⟩
  refine ⟨_, rfl, rfl, _, rfl, no (by decide +kernel) ?_⟩
  refine ⟨_, rfl, rfl, _, rfl, no (by decide +kernel) ?_⟩
  refine ⟨_, rfl, rfl, _, rfl, yes (by decide +kernel) ?_⟩
  exact ⟨_, rfl, _, rfl, _, rfl, p, pa, ps, v, T, many, S, rfl, hp, rest⟩
end
end K50
namespace K50
open PySem PySem.Spec PyProof.Rows L2 PySem.HandSPX
def wordB : Bad → Str
  | .stuck => "outside"
  | .late => "not yet"
def wordR : Res → Str
  | .ok _ => ""
  | .error e => wordB e
def wordD : Except Bad Int → Str
  | .ok _ => ""
  | .error e => wordB e
theorem wordB_ne (e : Bad) : decide (V.str (wordB e) = V.str "") = false := by cases e <;> decide +kernel
theorem int_ne {a b : Int} (h : ¬ a = b) : decide (V.int a = V.int b) = false := decide_eq_false fun q => h (V.int.inj q)
theorem int_eq {a b : Int} (h : a = b) : decide (V.int a = V.int b) = true := decide_eq_true (congrArg V.int h)
section
variable {P : Program} {w : World} {K : PySem.W.Frag} {mg : Str → Option Value} {base : Heap}
def spSpot : Sp := fun vs H Q _ => ∃ c : Int, vs = [.int c] ∧ Q (.int (spotZ c)) H
theorem scSpot : FnScope ["cell", "way"] ["cell"] (defScope sSpot) := ⟨rfl, rfl, rfl, by decide +kernel, rfl, by decide +kernel, by decide +kernel⟩
theorem ok_spot {f : Addr} {fd : FuncData} (F : Fun K "_law_spot" "_law_spot" sSpot f fd) : FnOk P w K mg base CX0 1 f fd ["cell"] spSpot := by
  refine F.ok scSpot (fun vs H Q E h => ?_) (fun cdv A outer s H vs Q E hr h => ?_)
  · obtain ⟨c, rfl, _⟩ := h
    rfl
  obtain ⟨c, rfl, k⟩ := h
  refine ⟨_, pss_cons (ps_set (i := 1) scSpot.nd rfl (.inl rfl) (pe_op op_mod (pv 0) pe_int))
    (pss_cons (ps_if (pt_cmpR op_eq (pv 1) pe_int (nomark _)) (pss_one (ps_ret (pe_op op_sub (pe_un un_neg pe_int) (pe_op op_mod (pe_op op_fdiv (pv 0) pe_int) pe_int)))) pss_nil)
    (pss_cons (ps_if (pt_cmpR op_eq (pv 1) pe_int (nomark _)) (pss_one (ps_ret (pe_op op_add pe_int (pe_op op_mod (pe_op op_fdiv (pv 0) pe_int) pe_int)))) pss_nil)
    (pss_one (ps_ret (pe_op op_mod (pe_op op_fdiv (pv 0) pe_int) pe_int))))), ?_⟩
  have d23 : (0 : Int) < 23 := by decide
  have d40 : (0 : Int) < 40 := by decide
  have c23 : CDiv c 23 := ⟨by decide, by decide⟩
  refine ⟨_, rfl, _, _, rfl, rfl, d23, ?_⟩
  refine ⟨_, rfl, rfl, _, rfl, ?_⟩
  unfold spotZ at k
  by_cases h5 : c % 23 = 5
  · rw [if_pos h5] at k
    exact yes (int_eq h5) ⟨_, rfl, _, rfl, _, _, rfl, rfl, c23, _, _, rfl, rfl, d40, _, _, rfl, rfl, k⟩
  rw [if_neg h5] at k
  refine no (int_ne h5) ?_
  refine ⟨_, rfl, rfl, _, rfl, ?_⟩
  by_cases h9 : c % 23 = 9
  · rw [if_pos h9] at k
    exact yes (int_eq h9) ⟨_, rfl, _, _, rfl, rfl, c23, _, _, rfl, rfl, d40, _, _, rfl, rfl, k⟩
  rw [if_neg h9] at k
  exact no (int_ne h9) ⟨_, rfl, _, _, rfl, rfl, c23, _, _, rfl, rfl, d23, k⟩
def spStore : Sp := fun vs H Q _ => ∃ c : Int, vs = [.int c] ∧ Q (.int (storeZ c)) H
theorem scStore : FnScope ["cell"] ["cell"] (defScope sStore) := ⟨rfl, rfl, rfl, by decide +kernel, rfl, by decide +kernel, by decide +kernel⟩
theorem ok_store {f : Addr} {fd : FuncData} (F : Fun K "_law_store" "_law_store" sStore f fd) : FnOk P w K mg base CX0 1 f fd ["cell"] spStore := by
  refine F.ok scStore (fun vs H Q E h => ?_) (fun cdv A outer s H vs Q E hr h => ?_)
  · obtain ⟨c, rfl, _⟩ := h
    rfl
  obtain ⟨c, rfl, k⟩ := h
  refine ⟨_, pss_cons (ps_if (pt_cmpR op_eq (pe_op op_mod (pv 0) pe_int) pe_int (nomark _)) (pss_one (ps_ret pe_int)) pss_nil)
    (pss_one (ps_ret (pe_op op_mul pe_int (pe_op op_mod (pe_op op_fdiv (pv 0) pe_int) pe_int)))), ?_⟩
  have d23 : (0 : Int) < 23 := by decide
  have d2 : (0 : Int) < 2 := by decide
  refine ⟨_, rfl, _, _, rfl, rfl, d23, rfl, _, rfl, ?_⟩
  unfold storeZ at k
  by_cases h : c % 23 = 13
  · rw [if_pos h] at k
    exact yes (int_eq h) k
  rw [if_neg h] at k
  exact no (int_ne h) ⟨_, rfl, _, _, rfl, rfl, ⟨by decide, by decide⟩, _, _, rfl, rfl, d2, _, _, rfl, rfl, .inl ⟨by decide, by decide⟩, k⟩
theorem rd_cases {l : List (Option Int)} {n : Int} (h0 : ¬ n < 0) (h1 : ¬ (l.length : Int) ≤ n) : ∃ o, atI (l.map optV) n = some (optV o) ∧ rd l n = match o with | some v => .ok v | none => .error .late := by
  have hlt : n.toNat < l.length := by omega
  refine ⟨l[n.toNat], at_of (j := n.toNat) (by omega) (by rw [List.getElem?_map, List.getElem?_eq_getElem hlt] <;> rfl), ?_⟩
  rw [rd_in h0 h1, List.getElem?_eq_getElem hlt]
  cases l[n.toNat] <;> rfl
theorem rd_at {l : List (Option Int)} {n v : Int} (h : rd l n = .ok v) : atI (l.map optV) n = some (.int v) := by
  by_cases h0 : n < 0
  · unfold rd at h
    rw [if_pos (.inl h0)] at h
    cases h
  by_cases h1 : (l.length : Int) ≤ n
  · unfold rd at h
    rw [if_pos (.inr h1)] at h
    cases h
  obtain ⟨o, h2, h3⟩ := rd_cases h0 h1
  rw [h3] at h
  cases o with
  | none => cases h
  | some u =>
    cases h
    exact h2
def spOutcome : Sp := fun vs H Q _ => ∃ (ps : Addr) (S : Sto) (k n : Int) (wd : Str), vs = [.ref ps, .int k, .int n] ∧ StAt H ps S ∧ 0 ≤ k ∧ k < 3 ∧ wordD (rd (S.getD k.toNat []) n) = wd ∧ Q (.str wd) H
theorem scOutcome : FnScope ["stores", "store", "spot"] ["stores", "store", "spot"] (defScope sOutcome) := ⟨rfl, rfl, rfl, by decide +kernel, rfl, by decide +kernel, by decide +kernel⟩
theorem ok_outcome {f : Addr} {fd : FuncData} (F : Fun K "_law_outcome" "_law_outcome" sOutcome f fd) : FnOk P w K mg base CX0 1 f fd ["stores", "store", "spot"] spOutcome := by
  refine F.ok scOutcome (fun vs H Q E h => ?_) (fun cdv A outer s H vs Q E hr h => ?_)
  · obtain ⟨ps, S, k, n, wd, rfl, _⟩ := h
    rfl
  obtain ⟨ps, S, k, n, wd, rfl, hS, h0, h3, rfl, kq⟩ := h
  refine ⟨_, pss_cons (ps_if (PW.pt (pw_or (pt_cmpR op_lt (pv 2) pe_int (nomark _)) (pw_or1 (pt_cmpR op_gt (pv 2) pe_int (nomark _))))) (pss_one (ps_ret pe_str)) pss_nil)
    (pss_cons (ps_if (pt_cmpR op_isN (pe_ix ix_list (pe_ix ix_list (pv 0) (pv 1) (fun _ _ => rfl)) (pv 2) (fun _ _ => rfl)) pe_non (nomark _)) (pss_one (ps_ret pe_str)) pss_nil)
    (pss_one (ps_ret pe_str))), ?_⟩
  obtain ⟨ys, r, hps, hat, hr', hlen⟩ := hS.get h0 h3
  refine ⟨_, rfl, _, _, rfl, rfl, _, rfl, ?_⟩
  by_cases n0 : n < 0
  · refine yes (decide_eq_true n0) (yes rfl ?_)
    unfold rd at kq
    rw [if_pos (.inl n0)] at kq
    exact kq
  refine no (decide_eq_false n0) ?_
  refine ⟨_, rfl, _, _, rfl, rfl, _, rfl, ?_⟩
  by_cases n1 : 22 < n
  · refine yes (decide_eq_true n1) ?_
    unfold rd at kq
    rw [if_pos (.inr (by omega))] at kq
    exact kq
  refine no (decide_eq_false n1) ?_
  obtain ⟨o, a1, a2⟩ := rd_cases (l := S.getD k.toNat []) n0 (by omega)
  refine ⟨_, rfl, _, rfl, ps, _, k, _, rfl, rfl, SqL.of hps, hat, _, rfl, r, _, n, _, rfl, rfl, SqL.of hr', a1, rfl, _, rfl, ?_⟩
  rw [a2] at kq
  cases o with
  | none => exact yes (by decide +kernel) kq
  | some v => exact no (decide_eq_false (fun z => nomatch z)) kq
end
end K50
namespace K50
open PySem PySem.Spec PyProof.Rows L2 PySem.HandSPX
/-- one of the law's rows: the tree, how it goes, its number and calls where it goes well -/
def RowAt (H : Hp) (q : Addr) (v : V) (T : Tr) (r : Res) : Prop := ∃ n d : Int, H q = some (.tup [v, .str (wordR r), .int n, .int d]) ∧ TreeAt H v T ∧ ∀ x, r = .ok x → n = x.1 ∧ d = x.2
theorem RowAt.mono {H H' : Hp} {q : Addr} {v : V} {T : Tr} {r : Res} (h : RowAt H q v T r) (s : Same H H') : RowAt H' q v T r := by
  obtain ⟨n, d, h1, h2, h3⟩ := h
  exact ⟨n, d, s _ _ h1, h2.mono s, h3⟩
def spRow (tr : Int → Int → Tr) : Sp := fun vs H Q _ => ∃ (c g : Int) (ps : Addr) (S : Sto), vs = [.int c, .ref ps, .int g] ∧ StAt H ps S ∧ ∀ H' q v, Same H H' → RowAt H' q v (tr c g) (ev S (tr c g)) → Q (.ref q) H'
theorem store_in (c : Int) : 0 ≤ storeZ c ∧ storeZ c < 3 := by
  unfold storeZ
  by_cases h : c % 23 = 13
  · rw [if_pos h]
    omega
  · rw [if_neg h]
    omega
structure Leafs (P : Program) (w : World) (K : PySem.W.Frag) (mg : Str → Option Value) (base : Heap) (fP fS fO : Addr) (dP dS dO : FuncData) : Prop where
  dfP : Def K mg "_law_spot" sSpot ["cell"] fP dP
  dfS : Def K mg "_law_store" sStore ["cell"] fS dS
  dfO : Def K mg "_law_outcome" sOutcome ["stores", "store", "spot"] fO dO
  gP : FnOk P w K mg base CX0 1 fP dP ["cell"] spSpot
  gS : FnOk P w K mg base CX0 1 fS dS ["cell"] spStore
  gO : FnOk P w K mg base CX0 1 fO dO ["stores", "store", "spot"] spOutcome
section
variable {P : Program} {w : World} {K : PySem.W.Frag} {mg : Str → Option Value} {base : Heap} {fP fS fO : Addr} {dP dS dO : FuncData}
theorem scLeaf : FnScope ["cell", "stores", "grown", "store", "spot", "tree", "word", "number", "far", "other"] ["cell", "stores", "grown"] (defScope sLeaf) := ⟨rfl, rfl, rfl, by decide +kernel, rfl, by decide +kernel, by decide +kernel⟩
theorem ok_leaf {f : Addr} {fd : FuncData} (F : Fun K "_law_leaf" "_law_leaf" sLeaf f fd) (L : Leafs P w K mg base fP fS fO dP dS dO) : FnOk P w K mg base CX0 2 f fd ["cell", "stores", "grown"] (spRow leafT) := by
  refine F.ok scLeaf (fun vs H Q E h => ?_) (fun cdv A outer s H vs Q E hr h => ?_)
  · obtain ⟨c, g, ps, S, rfl, _⟩ := h
    rfl
  obtain ⟨c, g, ps, S, rfl, hS, k⟩ := h
  refine ⟨_, pss_cons (ps_set (i := 3) scLeaf.nd rfl (.inl rfl) (pe_call L.gS hr rfl L.dfS.g L.dfS.F.kp L.dfS.b .nil pass0 (pa_cons (pv 0) pa_nil)))
    (pss_cons (ps_set (i := 4) scLeaf.nd rfl (.inl rfl) (pe_call L.gP hr rfl L.dfP.g L.dfP.F.kp L.dfP.b .nil pass0 (pa_cons (pv 0) pa_nil)))
    (pss_cons (ps_set (i := 5) scLeaf.nd rfl (.inl rfl) (pe_tup (pa_cons pe_str (pa_cons (pv 3) (pa_cons (pe_op op_sub (pv 4) (pv 2)) (pa_cons (pe_tup (pa_cons (pv 2) (pa_cons pe_int pa_nil))) pa_nil))))))
    (pss_cons (ps_set (i := 6) scLeaf.nd rfl (.inl rfl) (pe_call L.gO hr rfl L.dfO.g L.dfO.F.kp L.dfO.b .nil pass0 (pa_cons (pv 1) (pa_cons (pv 3) (pa_cons (pv 4) pa_nil)))))
    (pss_cons (ps_set (i := 7) scLeaf.nd rfl (.inl rfl) pe_int)
    (pss_cons (ps_if (pt_cmpR op_eq (pv 6) pe_str (nomark _)) (pss_one (ps_set (i := 7) scLeaf.nd rfl (.inl rfl) (pe_ix ix_list (pe_ix ix_list (pv 1) (pv 3) (fun _ _ => rfl)) (pv 4) (fun _ _ => rfl)))) pss_nil)
    (pss_cons (ps_if (pt_cmpR op_ne (pe_op op_mod (pe_op op_fdiv (pv 0) pe_int) pe_int) pe_int (nomark _)) (pss_one (ps_ret (pe_tup (pa_cons (pv 5) (pa_cons (pv 6) (pa_cons (pv 7) (pa_cons pe_int pa_nil))))))) pss_nil)
    (pss_cons (ps_set (i := 8) scLeaf.nd rfl (.inl rfl) (pe_call L.gP hr rfl L.dfP.g L.dfP.F.kp L.dfP.b .nil pass0 (pa_cons (pe_op op_mod (pe_op op_fdiv (pv 0) pe_int) (pe_op op_pow pe_int pe_int)) pa_nil)))
    (pss_cons (ps_set (i := 9) scLeaf.nd rfl (.inl rfl) (pe_op op_sub pe_int (pe_op op_mul pe_int (pe_op op_mod (pe_op op_fdiv (pv 0) pe_int) pe_int))))
    (pss_cons (ps_set (i := 5) scLeaf.nd rfl (.inl rfl) (pe_tup (pa_cons pe_str (pa_cons (pv 9) (pa_cons (pv 8) (pa_cons pe_int (pa_cons pe_int (pa_cons (pe_tup (pa_cons pe_int (pa_cons pe_int pa_nil))) (pa_cons (pv 5) pa_nil)))))))))
    (pss_cons (ps_if (pt_cmpR op_ne (pv 6) pe_str (nomark _)) (pss_one (ps_ret (pe_tup (pa_cons (pv 5) (pa_cons (pv 6) (pa_cons pe_int (pa_cons pe_int pa_nil))))))) pss_nil)
    (pss_cons (ps_set (i := 8) scLeaf.nd rfl (.inl rfl) (pe_op op_add (pv 8) (pe_op op_mul pe_int (pe_op op_mod (pv 7) pe_int))))
    (pss_cons (ps_set (i := 6) scLeaf.nd rfl (.inl rfl) (pe_call L.gO hr rfl L.dfO.g L.dfO.F.kp L.dfO.b .nil pass0 (pa_cons (pv 1) (pa_cons (pv 9) (pa_cons (pv 8) pa_nil)))))
    (pss_cons (ps_if (pt_cmpR op_ne (pv 6) pe_str (nomark _)) (pss_one (ps_ret (pe_tup (pa_cons (pv 5) (pa_cons (pv 6) (pa_cons pe_int (pa_cons pe_int pa_nil))))))) pss_nil)
    (pss_one (ps_ret (pe_tup (pa_cons (pv 5) (pa_cons pe_str (pa_cons (pe_ix ix_list (pe_ix ix_list (pv 1) (pv 9) (fun _ _ => rfl)) (pv 8) (fun _ _ => rfl)) (pa_cons pe_int pa_nil)))))))))))))))))))), ?_⟩
  obtain ⟨k0, k3⟩ := store_in c
  refine ⟨_, rfl, c, rfl, _, rfl, c, rfl, ?_⟩
  refine ⟨_, rfl, _, rfl, _, rfl, _, _, rfl, rfl, _, rfl, (by show 2 ≤ sizeLine; decide), fun q hq => ⟨(by show 4 ≤ sizeLine; decide), fun t ht => ?_⟩⟩
  generalize hH1 : upd (upd H q (.tup [.int g, .int 0])) t (.tup [.str "read", .int (storeZ c), .int (spotZ c - g), .ref q]) = H1
  have s1 : Same H H1 := by
    rw [← hH1]
    exact (same_new hq _).trans (same_new ht _)
  have T1 : TreeAt H1 (.ref t) (.read (storeZ c) (spotZ c) g) := by
    rw [← hH1]
    refine .read (q := q) upd_same ?_ k0 k3
    rw [upd_ne (ne_of_none upd_same ht), upd_same]
  have hS1 := hS.mono s1
  obtain ⟨ys, r, hps, hat, hr', hlen⟩ := hS1.get k0 k3
  have c1058 : CDiv c 1058 := ⟨by decide, by decide⟩
  have d4 : (0 : Int) < 4 := by decide
  have d2 : (0 : Int) < 2 := by decide
  have d3 : (0 : Int) < 3 := by decide
  cases hR : rd (S.getD (storeZ c).toNat []) (spotZ c) with
  | error e =>
    refine ⟨_, rfl, _, rfl, _, rfl, ps, S, storeZ c, spotZ c, wordB e, rfl, hS1, k0, k3, (by rw [hR]; rfl), ?_⟩
    refine ⟨_, rfl, rfl, _, rfl, no (wordB_ne e) ?_⟩
    refine ⟨_, rfl, _, _, rfl, rfl, c1058, _, _, rfl, rfl, d4, rfl, _, rfl, ?_⟩
    by_cases hf : c / 1058 % 4 = 1
    · refine no (by rw [int_eq hf]; rfl) ?_
      have hL : leafT c g = .fetch (2 - 2 * (c / 4000 % 2)) (spotZ (c / 8 % 1152921504606846976)) (.read (storeZ c) (spotZ c) g) := if_pos hf
      refine ⟨_, rfl, _, _, rfl, rfl, ⟨by decide, by decide⟩, 2, 60, rfl, rfl, cp60, _, _, rfl, rfl, (by rw [e60]; show (0 : Int) < 1152921504606846976; decide), c / 8 % 1152921504606846976, (by rw [← e60]; rfl), ?_⟩
      refine ⟨_, rfl, _, _, rfl, rfl, ⟨by decide, by decide⟩, _, _, rfl, rfl, d2, _, _, rfl, rfl, .inl ⟨by decide, by decide⟩, _, _, rfl, rfl, ?_⟩
      refine ⟨_, rfl, _, rfl, (by show 2 ≤ sizeLine; decide), fun z hz => ⟨_, rfl, (by show 7 ≤ sizeLine; decide), fun t2 ht2 => ?_⟩⟩
      generalize hH2 : upd (upd H1 z (.tup [.int 0, .int 0])) t2 (.tup [.str "fetch", .int (2 - 2 * (c / 4000 % 2)), .int (spotZ (c / 8 % 1152921504606846976)), .int 2, .int 3, .ref z, .ref t]) = H2
      have s2 : Same H1 H2 := by
        rw [← hH2]
        exact (same_new hz _).trans (same_new ht2 _)
      have T2 : TreeAt H2 (.ref t2) (leafT c g) := by
        rw [hL]
        refine .fetch (z := z) (v := .ref t) ?_ ?_ (by omega) (by omega) (T1.mono s2)
        · rw [← hH2]
          exact upd_same
        · rw [← hH2, upd_ne (ne_of_none upd_same ht2), upd_same]
      have hE : ev S (leafT c g) = .error e := by
        rw [hL]
        simp only [ev, hR]
      refine ⟨_, rfl, rfl, _, rfl, yes (by rw [wordB_ne]; rfl) ?_⟩
      refine ⟨_, rfl, _, rfl, (by show 4 ≤ sizeLine; decide), fun q2 hq2 => k _ q2 (.ref t2) (s1.trans (s2.trans (same_new hq2 _))) ?_⟩
      rw [hE]
      exact ⟨0, 1, upd_same, T2.mono (same_new hq2 _), fun x hx => nomatch hx⟩
    · refine yes (by rw [int_ne hf]; rfl) ?_
      have hL : leafT c g = .read (storeZ c) (spotZ c) g := if_neg hf
      have hE : ev S (leafT c g) = .error e := by
        rw [hL]
        simp only [ev, hR]
      refine ⟨_, rfl, _, rfl, _, rfl, (by show 4 ≤ sizeLine; decide), fun q2 hq2 => k _ q2 (.ref t) (s1.trans (same_new hq2 _)) ?_⟩
      rw [hE, hL]
      exact ⟨0, 0, upd_same, T1.mono (same_new hq2 _), fun x hx => nomatch hx⟩
  | ok v =>
    refine ⟨_, rfl, _, rfl, _, rfl, ps, S, storeZ c, spotZ c, "", rfl, hS1, k0, k3, (by rw [hR]; rfl), ?_⟩
    refine ⟨_, rfl, rfl, _, rfl, yes (by decide +kernel) ?_⟩
    refine ⟨_, rfl, _, rfl, ps, _, _, _, rfl, rfl, SqL.of hps, hat, _, rfl, r, _, _, _, rfl, rfl, SqL.of hr', rd_at hR, ?_⟩
    refine ⟨_, rfl, _, _, rfl, rfl, c1058, _, _, rfl, rfl, d4, rfl, _, rfl, ?_⟩
    by_cases hf : c / 1058 % 4 = 1
    · refine no (by rw [int_eq hf]; rfl) ?_
      have hL : leafT c g = .fetch (2 - 2 * (c / 4000 % 2)) (spotZ (c / 8 % 1152921504606846976)) (.read (storeZ c) (spotZ c) g) := if_pos hf
      refine ⟨_, rfl, _, _, rfl, rfl, ⟨by decide, by decide⟩, 2, 60, rfl, rfl, cp60, _, _, rfl, rfl, (by rw [e60]; show (0 : Int) < 1152921504606846976; decide), c / 8 % 1152921504606846976, (by rw [← e60]; rfl), ?_⟩
      refine ⟨_, rfl, _, _, rfl, rfl, ⟨by decide, by decide⟩, _, _, rfl, rfl, d2, _, _, rfl, rfl, .inl ⟨by decide, by decide⟩, _, _, rfl, rfl, ?_⟩
      refine ⟨_, rfl, _, rfl, (by show 2 ≤ sizeLine; decide), fun z hz => ⟨_, rfl, (by show 7 ≤ sizeLine; decide), fun t2 ht2 => ?_⟩⟩
      generalize hH2 : upd (upd H1 z (.tup [.int 0, .int 0])) t2 (.tup [.str "fetch", .int (2 - 2 * (c / 4000 % 2)), .int (spotZ (c / 8 % 1152921504606846976)), .int 2, .int 3, .ref z, .ref t]) = H2
      have s2 : Same H1 H2 := by
        rw [← hH2]
        exact (same_new hz _).trans (same_new ht2 _)
      have T2 : TreeAt H2 (.ref t2) (leafT c g) := by
        rw [hL]
        refine .fetch (z := z) (v := .ref t) ?_ ?_ (by omega) (by omega) (T1.mono s2)
        · rw [← hH2]
          exact upd_same
        · rw [← hH2, upd_ne (ne_of_none upd_same ht2), upd_same]
      refine ⟨_, rfl, rfl, _, rfl, no (by decide +kernel) ?_⟩
      refine ⟨_, rfl, _, rfl, _, _, rfl, rfl, d3, _, _, rfl, rfl, .inl ⟨by decide, by decide⟩, _, _, rfl, rfl, ?_⟩
      have o0 : 0 ≤ 2 - 2 * (c / 4000 % 2) := by omega
      have o3 : 2 - 2 * (c / 4000 % 2) < 3 := by omega
      have hS2 := hS1.mono s2
      obtain ⟨ys2, r2, hps2, hat2, hr2, hlen2⟩ := hS2.get o0 o3
      have ef : spotZ (c / 8 % 1152921504606846976) + v % 3 * 2 = spotZ (c / 8 % 1152921504606846976) + 2 * (v % 3) := by omega
      cases hR2 : rd (S.getD (2 - 2 * (c / 4000 % 2)).toNat []) (spotZ (c / 8 % 1152921504606846976) + 2 * (v % 3)) with
      | error e =>
        have hE : ev S (leafT c g) = .error e := by
          rw [hL]
          simp only [ev, hR]
          rw [ef, hR2]
        refine ⟨_, rfl, _, rfl, _, rfl, ps, S, _, _, wordB e, rfl, hS2, o0, o3, (by rw [hR2]; rfl), ?_⟩
        refine ⟨_, rfl, rfl, _, rfl, yes (by rw [wordB_ne]; rfl) ?_⟩
        refine ⟨_, rfl, _, rfl, (by show 4 ≤ sizeLine; decide), fun q2 hq2 => k _ q2 (.ref t2) (s1.trans (s2.trans (same_new hq2 _))) ?_⟩
        rw [hE]
        exact ⟨0, 1, upd_same, T2.mono (same_new hq2 _), fun x hx => nomatch hx⟩
      | ok u =>
        have hE : ev S (leafT c g) = .ok (u, 1 + 0) := by
          rw [hL]
          simp only [ev, hR]
          rw [ef, hR2]
        refine ⟨_, rfl, _, rfl, _, rfl, ps, S, _, _, "", rfl, hS2, o0, o3, (by rw [hR2]; rfl), ?_⟩
        refine ⟨_, rfl, rfl, _, rfl, no (by decide +kernel) ?_⟩
        refine ⟨_, rfl, _, rfl, _, rfl, ps, _, _, _, rfl, rfl, SqL.of hps2, hat2, _, rfl, r2, _, _, _, rfl, rfl, SqL.of hr2, rd_at hR2, (by show 4 ≤ sizeLine; decide), fun q2 hq2 => k _ q2 (.ref t2) (s1.trans (s2.trans (same_new hq2 _))) ?_⟩
        rw [hE]
        exact ⟨u, 1, upd_same, T2.mono (same_new hq2 _), fun x hx => by cases hx; exact ⟨rfl, rfl⟩⟩
    · refine yes (by rw [int_ne hf]; rfl) ?_
      have hL : leafT c g = .read (storeZ c) (spotZ c) g := if_neg hf
      have hE : ev S (leafT c g) = .ok (v, 0) := by
        rw [hL]
        simp only [ev, hR]
      refine ⟨_, rfl, _, rfl, _, rfl, (by show 4 ≤ sizeLine; decide), fun q2 hq2 => k _ q2 (.ref t) (s1.trans (same_new hq2 _)) ?_⟩
      rw [hE, hL]
      exact ⟨v, 0, upd_same, T1.mono (same_new hq2 _), fun x hx => by cases hx; exact ⟨rfl, rfl⟩⟩
end
end K50
namespace K50
open PySem PySem.Spec PyProof.Rows L2 PySem.HandSPX
section
variable {P : Program} {w : World} {K : PySem.W.Frag} {mg : Str → Option Value} {base : Heap}
theorem scBranch : FnScope ["cell", "stores", "grown", "one", "two", "three", "tree", "part", "number"] ["cell", "stores", "grown"] (defScope sBranch) := ⟨rfl, rfl, rfl, by decide +kernel, rfl, by decide +kernel, by decide +kernel⟩
theorem ok_branch {f fL : Addr} {fd dL : FuncData} (F : Fun K "_law_branch" "_law_branch" sBranch f fd) (DL : Def K mg "_law_leaf" sLeaf ["cell", "stores", "grown"] fL dL) (GL : FnOk P w K mg base CX0 2 fL dL ["cell", "stores", "grown"] (spRow leafT)) :
    FnOk P w K mg base CX0 3 f fd ["cell", "stores", "grown"] (spRow branchT) := by
  refine F.ok scBranch (fun vs H Q E h => ?_) (fun cdv A outer s H vs Q E hr h => ?_)
  · obtain ⟨c, g, ps, S, rfl, _⟩ := h
    rfl
  obtain ⟨c, g, ps, S, rfl, hS, k⟩ := h
  refine ⟨_, pss_cons (ps_set (i := 3) scBranch.nd rfl (.inl rfl) (pe_call GL hr rfl DL.g DL.F.kp DL.b .nil pass0 (pa_cons (pv 0) (pa_cons (pv 1) (pa_cons (pv 2) pa_nil)))))
    (pss_cons (ps_if (pt_cmpR op_ne (pe_op op_mod (pe_op op_fdiv (pv 0) pe_int) pe_int) pe_int (nomark _)) (pss_one (ps_ret (pv 3))) pss_nil)
    (pss_cons (ps_set (i := 4) scBranch.nd rfl (.inl rfl) (pe_call GL hr rfl DL.g DL.F.kp DL.b .nil pass0 (pa_cons (pe_op op_add (pe_op op_fdiv (pv 0) pe_int) pe_int) (pa_cons (pv 1) (pa_cons (pv 2) pa_nil)))))
    (pss_cons (ps_set (i := 5) scBranch.nd rfl (.inl rfl) (pe_call GL hr rfl DL.g DL.F.kp DL.b .nil pass0 (pa_cons (pe_op op_add (pe_op op_fdiv (pv 0) pe_int) pe_int) (pa_cons (pv 1) (pa_cons (pv 2) pa_nil)))))
    (pss_cons (ps_set (i := 6) scBranch.nd rfl (.inl rfl) (pe_tup (pa_cons pe_str (pa_cons (pe_ix ix_tup (pv 3) pe_int (fun _ _ => rfl)) (pa_cons (pe_ix ix_tup (pv 4) pe_int (fun _ _ => rfl)) (pa_cons (pe_ix ix_tup (pv 5) pe_int (fun _ _ => rfl)) pa_nil))))))
    (pss_cons (ps_for PassesOwn.never rfl (pi_list (pe_lst (pa_cons (pv 3) (pa_cons (pv 4) (pa_cons (pv 5) pa_nil))))) (pg_name (i := 7) scBranch.nd rfl (.inl rfl))
        (pss_one (ps_if (pt_cmpR op_ne (pe_ix ix_tup (pv 7) pe_int (fun _ _ => rfl)) pe_str (nomark _)) (pss_one (ps_ret (pe_tup (pa_cons (pv 6) (pa_cons (pe_ix ix_tup (pv 7) pe_int (fun _ _ => rfl)) (pa_cons pe_int (pa_cons pe_int pa_nil))))))) pss_nil)))
    (pss_cons (ps_set (i := 8) scBranch.nd rfl (.inl rfl) (pe_ix ix_tup (pv 5) pe_int (fun _ _ => rfl)))
    (pss_cons (ps_if (pt_cmpR op_ne (pe_ix ix_tup (pv 3) pe_int (fun _ _ => rfl)) pe_int (nomark _)) (pss_one (ps_set (i := 8) scBranch.nd rfl (.inl rfl) (pe_ix ix_tup (pv 4) pe_int (fun _ _ => rfl)))) pss_nil)
    (pss_one (ps_ret (pe_tup (pa_cons (pv 6) (pa_cons pe_str (pa_cons (pv 8) (pa_cons (pe_op op_add (pe_op op_add (pe_op op_add pe_int (pe_ix ix_tup (pv 3) pe_int (fun _ _ => rfl))) (pe_ix ix_tup (pv 4) pe_int (fun _ _ => rfl))) (pe_ix ix_tup (pv 5) pe_int (fun _ _ => rfl))) pa_nil)))))))))))))), ?_⟩
  have d3 : (0 : Int) < 3 := by decide
  refine ⟨_, rfl, _, rfl, _, rfl, c, g, ps, S, rfl, hS, fun H1 q1 v1 s1 R1 => ?_⟩
  refine ⟨_, rfl, _, _, rfl, rfl, ⟨by decide, by decide⟩, _, _, rfl, rfl, d3, rfl, _, rfl, ?_⟩
  by_cases hb : c / 9000 % 3 = 1
  case neg =>
    refine yes (by rw [int_ne hb]; rfl) ?_
    have e : branchT c g = leafT c g := if_neg hb
    exact ⟨_, rfl, k H1 q1 v1 s1 (by rw [e]; exact R1)⟩
  refine no (by rw [int_eq hb]; rfl) ?_
  have eB : branchT c g = .pick (leafT c g) (leafT (c / 13 + 1) g) (leafT (c / 17 + 2) g) := if_pos hb
  rw [eB] at k
  refine ⟨_, rfl, _, _, rfl, rfl, ⟨by decide, by decide⟩, _, _, rfl, rfl, _, rfl, _, rfl, c / 13 + 1, g, ps, S, rfl, hS.mono s1, fun H2 q2 v2 s2 R2 => ?_⟩
  refine ⟨_, rfl, _, _, rfl, rfl, ⟨by decide, by decide⟩, _, _, rfl, rfl, _, rfl, _, rfl, c / 17 + 2, g, ps, S, rfl, (hS.mono s1).mono s2, fun H3 q3 v3 s3 R3 => ?_⟩
  replace R1 := (R1.mono s2).mono s3
  replace R2 := R2.mono s3
  generalize leafT c g = T1 at R1 k
  generalize leafT (c / 13 + 1) g = T2 at R2 k
  generalize leafT (c / 17 + 2) g = T3 at R3 k
  obtain ⟨n1, m1, g1, t1, x1⟩ := R1
  obtain ⟨n2, m2, g2, t2, x2⟩ := R2
  obtain ⟨n3, m3, g3, t3, x3⟩ := R3
  generalize e1 : ev S T1 = r1 at g1 x1
  generalize e2 : ev S T2 = r2 at g2 x2
  generalize e3 : ev S T3 = r3 at g3 x3
  refine ⟨_, rfl, q1, _, 0, _, rfl, rfl, SqT.of g1, rfl, _, rfl, q2, _, 0, _, rfl, rfl, SqT.of g2, rfl, _, rfl, q3, _, 0, _, rfl, rfl, SqT.of g3, rfl, (by show 4 ≤ sizeLine; decide), fun t ht => ?_⟩
  have s4 := same_new ht (.tup [.str "pick", v1, v2, v3])
  have TT : TreeAt (upd H3 t (.tup [.str "pick", v1, v2, v3])) (.ref t) (.pick T1 T2 T3) := .pick upd_same (t1.mono s4) (t2.mono s4) (t3.mono s4)
  generalize upd H3 t (.tup [.str "pick", v1, v2, v3]) = H4 at s4 TT
  have s04 : Same H H4 := ((s1.trans s2).trans s3).trans s4
  refine ⟨_, rfl, _, rfl, _, rfl, (by show 3 ≤ sizeLine; decide), fun l hl => ?_⟩
  have s5 := same_new hl (.lst [.ref q1, .ref q2, .ref q3])
  refine ⟨l, rfl, ⟨_, SqL.of upd_same⟩, for_list (K := K) (a := l) (xs := [.ref q1, .ref q2, .ref q3])
    (fun i σ H' => ∃ v7 v8 : Option V, σ = [some (.int c), some (.ref ps), some (.int g), some (.ref q1), some (.ref q2), some (.ref q3), some (.ref t), v7, v8] ∧ Same H4 H' ∧ H' l = some (.lst [.ref q1, .ref q2, .ref q3]) ∧
      (0 < i → ∃ x, r1 = .ok x) ∧ (1 < i → ∃ x, r2 = .ok x) ∧ (2 < i → ∃ x, r3 = .ok x))
    ⟨none, none, rfl, s5, upd_same, fun z => absurd z (by omega), fun z => absurd z (by omega), fun z => absurd z (by omega)⟩ (fun i σ H' _ ⟨_, _, _, _, h, _⟩ => SqL.of h) ?_ ?_⟩
  · rintro i x σ H' hx ⟨v7, v8, rfl, s6, hl6, y1, y2, y3⟩
    have fin : ∀ (e : Bad), ev S (.pick T1 T2 T3) = .error e → ∀ q9, H' q9 = none → Q (.ref q9) (upd H' q9 (.tup [.ref t, .str (wordB e), .int 0, .int 0])) := fun e he q9 h9 => by
      refine k _ q9 (.ref t) (s04.trans (s6.trans (same_new h9 _))) ?_
      rw [he]
      exact ⟨0, 0, upd_same, TT.mono (s6.trans (same_new h9 _)), fun x hx => nomatch hx⟩
    have s46 := s4.trans s6
    match i, hx with
    | 0, hx =>
      cases hx
      refine ⟨_, rfl, q1, _, 1, _, rfl, rfl, SqT.of (s46 _ _ g1), rfl, rfl, _, rfl, ?_⟩
      cases r1 with
      | error e =>
        refine yes (by show (!decide (V.str (wordB e) = V.str "")) = true; rw [wordB_ne]; rfl) ?_
        exact ⟨_, rfl, _, rfl, q1, _, 1, _, rfl, rfl, SqT.of (s46 _ _ g1), rfl, (by show 4 ≤ sizeLine; decide), fin e (by simp only [ev, e1])⟩
      | ok x => exact no (by show (!decide (V.str "" = V.str "")) = false; decide +kernel) ⟨_, _, rfl, s6, hl6, fun _ => ⟨x, rfl⟩, fun z => absurd z (by omega), fun z => absurd z (by omega)⟩
    | 1, hx =>
      cases hx
      obtain ⟨a, rfl⟩ := y1 (by omega)
      refine ⟨_, rfl, q2, _, 1, _, rfl, rfl, SqT.of (s46 _ _ g2), rfl, rfl, _, rfl, ?_⟩
      cases r2 with
      | error e =>
        refine yes (by show (!decide (V.str (wordB e) = V.str "")) = true; rw [wordB_ne]; rfl) ?_
        exact ⟨_, rfl, _, rfl, q2, _, 1, _, rfl, rfl, SqT.of (s46 _ _ g2), rfl, (by show 4 ≤ sizeLine; decide), fin e (by simp only [ev, e1, e2])⟩
      | ok x => exact no (by show (!decide (V.str "" = V.str "")) = false; decide +kernel) ⟨_, _, rfl, s6, hl6, fun _ => ⟨a, rfl⟩, fun _ => ⟨x, rfl⟩, fun z => absurd z (by omega)⟩
    | 2, hx =>
      cases hx
      obtain ⟨a, rfl⟩ := y1 (by omega)
      obtain ⟨b, rfl⟩ := y2 (by omega)
      refine ⟨_, rfl, q3, _, 1, _, rfl, rfl, SqT.of (s46 _ _ g3), rfl, rfl, _, rfl, ?_⟩
      cases r3 with
      | error e =>
        refine yes (by show (!decide (V.str (wordB e) = V.str "")) = true; rw [wordB_ne]; rfl) ?_
        exact ⟨_, rfl, _, rfl, q3, _, 1, _, rfl, rfl, SqT.of (s46 _ _ g3), rfl, (by show 4 ≤ sizeLine; decide), fin e (by simp only [ev, e1, e2, e3])⟩
      | ok x => exact no (by show (!decide (V.str "" = V.str "")) = false; decide +kernel) ⟨_, _, rfl, s6, hl6, fun _ => ⟨a, rfl⟩, fun _ => ⟨b, rfl⟩, fun _ => ⟨x, rfl⟩⟩
    | i + 3, hx => exact nomatch (show (none : Option V) = some x from hx)
  · rintro σ H' ⟨v7, v8, rfl, s6, hl6, y1, y2, y3⟩
    obtain ⟨a, rfl⟩ := y1 (by show 0 < 3; omega)
    obtain ⟨b, rfl⟩ := y2 (by show 1 < 3; omega)
    obtain ⟨d, rfl⟩ := y3 (by show 2 < 3; omega)
    have s46 := s4.trans s6
    obtain ⟨ea, ea'⟩ := x1 a rfl
    obtain ⟨eb, eb'⟩ := x2 b rfl
    obtain ⟨ed, ed'⟩ := x3 d rfl
    have G1 := s46 _ _ g1
    have G2 := s46 _ _ g2
    have G3 := s46 _ _ g3
    have hE : ev S (.pick T1 T2 T3) = .ok (if a.1 = 0 then d.1 else b.1, 1 + (a.2 + (b.2 + d.2))) := by simp only [ev, e1, e2, e3]
    refine ⟨_, rfl, q3, _, 2, _, rfl, rfl, SqT.of G3, rfl, ?_⟩
    refine ⟨_, rfl, q1, _, 2, _, rfl, rfl, SqT.of G1, rfl, rfl, _, rfl, ?_⟩
    by_cases z : n1 = 0
    · refine no (by rw [int_eq z]; rfl) ?_
      refine ⟨_, rfl, _, rfl, _, rfl, q1, _, 3, _, rfl, rfl, SqT.of G1, rfl, _, _, rfl, rfl, _, rfl, q2, _, 3, _, rfl, rfl, SqT.of G2, rfl, _, _, rfl, rfl, _, rfl, q3, _, 3, _, rfl, rfl, SqT.of G3, rfl, _, _, rfl, rfl, (by show 4 ≤ sizeLine; decide), fun q9 h9 => ?_⟩
      refine k _ q9 (.ref t) (s04.trans (s6.trans (same_new h9 _))) ?_
      rw [hE, if_pos (by omega)]
      exact ⟨n3, 1 + m1 + m2 + m3, upd_same, TT.mono (s6.trans (same_new h9 _)), fun x hx => by cases hx; exact ⟨ed, by show _ = 1 + (a.2 + (b.2 + d.2)); omega⟩⟩
    · refine yes (by rw [int_ne z]; rfl) ?_
      refine ⟨_, rfl, q2, _, 2, _, rfl, rfl, SqT.of G2, rfl, ?_⟩
      refine ⟨_, rfl, _, rfl, _, rfl, q1, _, 3, _, rfl, rfl, SqT.of G1, rfl, _, _, rfl, rfl, _, rfl, q2, _, 3, _, rfl, rfl, SqT.of G2, rfl, _, _, rfl, rfl, _, rfl, q3, _, 3, _, rfl, rfl, SqT.of G3, rfl, _, _, rfl, rfl, (by show 4 ≤ sizeLine; decide), fun q9 h9 => ?_⟩
      refine k _ q9 (.ref t) (s04.trans (s6.trans (same_new h9 _))) ?_
      rw [hE, if_neg (by omega)]
      exact ⟨n2, 1 + m1 + m2 + m3, upd_same, TT.mono (s6.trans (same_new h9 _)), fun x hx => by cases hx; exact ⟨eb, by show _ = 1 + (a.2 + (b.2 + d.2)); omega⟩⟩
end
end K50
namespace K50
open PySem PySem.Spec PyProof.Rows L2 PySem.HandSPX
/-- a loop over reversed(list), the list left as it is -/
theorem for_back {K : PySem.W.Frag} {a : Addr} {xs : List V} {g : TG} {tb : TS} {D : Ends} {σ : St} {H : Hp} (Pv : Nat → St → Hp → Prop) (h0 : Pv 0 σ H) (hl : ∀ i σ H, i ≤ xs.length → Pv i σ H → SqL K H a xs)
    (hs : ∀ i x σ H, i < xs.length → xs[xs.length - 1 - i]? = some x → Pv i σ H → g x σ H fun σ2 H2 => tb { D with nx := Pv (i + 1), ct := Pv (i + 1), bk := D.nx } σ2 H2) (hd : ∀ σ H, Pv xs.length σ H → D.nx σ H) :
    ∃ W : Nat → Nat → St → Hp → Prop, (∃ left, W 0 left σ H) ∧ ∀ i m σ H, W i m σ H →
      ((Itv K a xs.length).stop i H ∧ D.nx σ H) ∨ ((Itv K a xs.length).go i H ∧ ∃ N : St → Hp → Prop, (∀ σ' H', N σ' H' → ∃ m', m' < m ∧ W (i + 1) m' σ' H') ∧ ∀ x H', (Itv K a xs.length).yld i H x H' → g x σ H' fun σ2 H2 => tb { D with nx := N, ct := N, bk := D.nx } σ2 H2) := by
  refine ⟨fun done left σ H => left = xs.length - done ∧ done ≤ xs.length ∧ Pv done σ H, ⟨xs.length, by simp, Nat.zero_le _, h0⟩, ?_⟩
  rintro i m σ H ⟨rfl, hi, p⟩
  have q := hl i σ H hi p
  by_cases hlt : i < xs.length
  · have hx : xs[xs.length - 1 - i]? = some (xs[xs.length - 1 - i]'(by omega)) := List.getElem?_eq_getElem (by omega)
    refine .inr ⟨⟨hlt, xs, _, q, hx⟩, Pv (i + 1), fun σ' H' p' => ⟨xs.length - (i + 1), by omega, rfl, hlt, p'⟩, fun x H' y => ?_⟩
    obtain ⟨rfl, y⟩ := y
    exact hs i x σ _ hlt (y xs q) p
  · obtain rfl : i = xs.length := by omega
    exact Or.inl ⟨Nat.le_refl _, hd σ H p⟩
theorem cut_tail (x : V) (r : List V) : cutV (x :: r) (some 1) none = r := by
  unfold cutV
  have e := HT.sIx_nat (x :: r).length 0 1
  have e' : HT.sIx (x :: r).length 0 (some 1) = 1 := by
    refine Eq.trans e ?_
    simp
  rw [e', HT.sIx_none]
  simp
theorem cut_last (xs : List V) : cutV xs none (some (-1)) = xs.dropLast := by
  unfold cutV
  have e : HT.sIx xs.length xs.length (some (-1)) = xs.length - 1 := by
    show (if (-1 : Int) < 0 then ((-1 : Int) + (xs.length : Int)).toNat else min (-1 : Int).toNat xs.length) = xs.length - 1
    rw [if_pos (by decide)]
    omega
  rw [e, HT.sIx_none, List.dropLast_eq_take]
  simp
def spHung : Sp := fun vs H Q _ => ∃ (l : Addr) (left : Bool) (tv : List V) (Ts : List Tr), vs = [.ref l, .bl left] ∧ H l = some (.lst tv) ∧ Paired (TreeAt H) tv Ts ∧ ∀ H' v, Same H H' → TreeAt H' v (hung Ts left) → Q v H'
theorem pair_tree {H H' : Hp} {tv : List V} {Ts : List Tr} (h : Paired (TreeAt H) tv Ts) (s : Same H H') : Paired (TreeAt H') tv Ts := Paired.mapP h fun _ _ z => z.mono s
theorem paired_last {α β : Type} {F : α → β → Prop} : ∀ {l : List α} {m : List β} {x : α} {y : β}, Paired F (x :: l) (y :: m) → ∃ a b, (x :: l).getLast? = some a ∧ (y :: m).getLastD y = b ∧ F a b ∧ Paired F (x :: l).dropLast (y :: m).dropLast
  | _, _, x, y, .cons f .nil => ⟨x, y, rfl, rfl, f, .nil⟩
  | _, _, x, y, .cons f (.cons (a := x') (b := y') g t) => by
    obtain ⟨a, b, h1, h2, h3, h4⟩ := paired_last (.cons g t)
    refine ⟨a, b, ?_, ?_, h3, .cons f h4⟩
    · rw [List.getLast?_cons_cons]
      exact h1
    · rw [← h2]
      simp [List.getLastD_eq_getLast?, List.getLast?_cons_cons, List.getLast?_cons]
section
variable {P : Program} {w : World} {K : PySem.W.Frag} {mg : Str → Option Value} {base : Heap}
theorem scHung : FnScope ["rows", "left", "tree", "row"] ["rows", "left"] (defScope sHung) := ⟨rfl, rfl, rfl, by decide +kernel, rfl, by decide +kernel, by decide +kernel⟩
theorem ok_hung {f : Addr} {fd : FuncData} (F : Fun K "_law_hung" "_law_hung" sHung f fd) (ml : mg "len" = none) (mv : mg "reversed" = none) : FnOk P w K mg base CX0 1 f fd ["rows", "left"] spHung := by
  refine F.ok scHung (fun vs H Q E h => ?_) (fun cdv A outer s H vs Q E hr h => ?_)
  · obtain ⟨l, left, tv, Ts, rfl, _⟩ := h
    rfl
  obtain ⟨l, left, tv, Ts, rfl, hl, pr, k⟩ := h
  refine ⟨_, pss_cons (ps_if (pt_cmpR op_eq (pe_callB call_len_seq rfl ml PySem.boot_len (pa_cons (pv 0) pa_nil)) pe_int (nomark _)) (pss_one (ps_ret (pe_tup (pa_cons pe_str (pa_cons pe_int pa_nil))))) pss_nil)
    (pss_cons (ps_if (pt_val (pv 1))
      (pss_cons (ps_set (i := 2) scHung.nd rfl (.inl rfl) (pe_ix ix_list (pv 0) pe_int (fun _ _ => rfl)))
      (pss_cons (ps_for PassesOwn.never rfl (pi_list (pe_slice sl_list (pv 0) (po_some pe_int) po_none)) (pg_name (i := 3) scHung.nd rfl (.inl rfl))
        (pss_one (ps_set (i := 2) scHung.nd rfl (.inl rfl) (pe_tup (pa_cons pe_str (pa_cons pe_str (pa_cons (pv 2) (pa_cons (pv 3) pa_nil))))))))
      (pss_one (ps_ret (pv 2))))) pss_nil)
    (pss_cons (ps_set (i := 2) scHung.nd rfl (.inl rfl) (pe_ix ix_list (pv 0) (pe_un un_neg pe_int) (fun _ _ => rfl)))
    (pss_cons (ps_for PassesOwn.never rfl (pi_reversed rfl mv (pa_cons (pe_slice sl_list (pv 0) po_none (po_some (pe_un un_neg pe_int))) pa_nil)) (pg_name (i := 3) scHung.nd rfl (.inl rfl))
        (pss_one (ps_set (i := 2) scHung.nd rfl (.inl rfl) (pe_tup (pa_cons pe_str (pa_cons pe_str (pa_cons (pv 3) (pa_cons (pv 2) pa_nil))))))))
    (pss_one (ps_ret (pv 2)))))), ?_⟩
  refine ⟨_, rfl, l, _, rfl, .inl (SqL.of hl), rfl, _, rfl, ?_⟩
  cases pr with
  | nil =>
    refine yes (by decide +kernel) ?_
    exact ⟨(by show 2 ≤ sizeLine; decide), fun q hq => k _ (.ref q) (same_new hq _) (.num upd_same)⟩
  | @cons x t r rT hx hr' =>
  refine no (int_ne (by rw [List.length_cons]; omega)) ?_
  refine ⟨_, rfl, left, rfl, ?_⟩
  cases left with
  | true =>
    refine yes rfl ?_
    refine ⟨_, rfl, l, _, 0, _, rfl, rfl, SqL.of hl, atI_nat (j := 0) rfl, ?_⟩
    refine ⟨_, rfl, 1, rfl, l, _, rfl, SqL.of hl, fun p hp => ?_⟩
    have s1 := same_new hp (.lst (cutV (x :: r) (some 1) none))
    have h1 : (upd H p (.lst (cutV (x :: r) (some 1) none))) p = some (.lst r) := by rw [cut_tail]; exact upd_same
    generalize upd H p (.lst (cutV (x :: r) (some 1) none)) = H1 at s1 h1
    refine ⟨p, rfl, ⟨_, SqL.of h1⟩, for_list (K := K) (a := p) (xs := r)
      (fun i σ H' => ∃ (v : V) (v3 : Option V), σ = [some (.ref l), some (.bl true), some v, v3] ∧ Same H1 H' ∧ TreeAt H' v ((rT.take i).foldl .add t))
      ⟨x, none, rfl, Same.refl _, hx.mono s1⟩ (fun i σ H' _ ⟨_, _, _, s2, _⟩ => SqL.of (s2 _ _ h1)) ?_ ?_⟩
    · rintro i y σ H' hy ⟨v, v3, rfl, s2, hv⟩
      obtain ⟨u, hu, hyu⟩ := pair_get hr' hy
      refine ⟨_, rfl, _, rfl, (by show 4 ≤ sizeLine; decide), fun q hq => ⟨.ref q, _, rfl, s2.trans (same_new hq _), ?_⟩⟩
      rw [take_one hu, List.foldl_append]
      exact .add upd_same (hv.mono (same_new hq _)) (hyu.mono (s1.trans (s2.trans (same_new hq _))))
    · rintro σ H' ⟨v, v3, rfl, s2, hv⟩
      rw [hr'.length, List.take_length] at hv
      exact ⟨_, rfl, k H' v (s1.trans s2) hv⟩
  | false =>
    refine no rfl ?_
    obtain ⟨a, b, ha, hb, hab, hdl⟩ := paired_last (.cons hx hr')
    have hsplit : (x :: r).dropLast ++ [a] = x :: r := by
      have z := List.dropLast_concat_getLast (l := x :: r) (by simp)
      have z2 : (x :: r).getLast (by simp) = a := by
        rw [List.getLast?_eq_getLast (by simp)] at ha
        exact Option.some.inj ha
      rw [z2] at z
      exact z
    have hat : atI (x :: r) (-1) = some a := by
      rw [← hsplit]
      exact atI_last _ a
    refine ⟨_, rfl, 1, rfl, l, _, -1, _, rfl, rfl, SqL.of hl, hat, ?_⟩
    refine ⟨_, rfl, 1, rfl, -1, rfl, l, _, rfl, SqL.of hl, fun p hp => ?_⟩
    have s1 := same_new hp (.lst (cutV (x :: r) none (some (-1))))
    have h1 : (upd H p (.lst (cutV (x :: r) none (some (-1))))) p = some (.lst (x :: r).dropLast) := by rw [cut_last]; exact upd_same
    generalize upd H p (.lst (cutV (x :: r) none (some (-1)))) = H1 at s1 h1
    generalize (x :: r).dropLast = dl at h1 hdl hsplit
    have hD : (t :: rT).dropLast.length = dl.length := hdl.length.symm
    have hfin : hung (t :: rT) false = (t :: rT).dropLast.foldr .add b := by
      show (t :: rT).dropLast.foldr .add ((t :: rT).getLastD t) = _
      rw [hb]
    rw [hfin] at k
    generalize (t :: rT).dropLast = D at k hdl hD
    refine ⟨p, dl, rfl, SqL.of h1, for_back (K := K) (a := p) (xs := dl)
      (fun i σ H' => ∃ (v : V) (v3 : Option V), σ = [some (.ref l), some (.bl false), some v, v3] ∧ Same H1 H' ∧ TreeAt H' v ((D.drop (dl.length - i)).foldr .add b))
      ⟨a, none, rfl, Same.refl _, by rw [Nat.sub_zero, ← hD, List.drop_length]; exact hab.mono s1⟩ (fun i σ H' _ ⟨_, _, _, s2, _⟩ => SqL.of (s2 _ _ h1)) ?_ ?_⟩
    · rintro i y σ H' hi hy ⟨v, v3, rfl, s2, hv⟩
      obtain ⟨u, hu, hyu⟩ := pair_get hdl hy
      obtain ⟨hlt, hu'⟩ := List.getElem?_eq_some_iff.mp hu
      have e1 : D.drop (dl.length - (i + 1)) = u :: D.drop (dl.length - i) := by
        have z := List.drop_eq_getElem_cons hlt
        rw [hu'] at z
        have e2 : dl.length - (i + 1) = dl.length - 1 - i := by omega
        have e3 : dl.length - i = dl.length - 1 - i + 1 := by omega
        rw [e2, e3]
        exact z
      refine ⟨_, rfl, _, rfl, (by show 4 ≤ sizeLine; decide), fun q hq => ⟨.ref q, _, rfl, s2.trans (same_new hq _), ?_⟩⟩
      rw [e1, List.foldr_cons]
      exact .add upd_same (hyu.mono (s1.trans (s2.trans (same_new hq _)))) (hv.mono (same_new hq _))
    · rintro σ H' ⟨v, v3, rfl, s2, hv⟩
      rw [Nat.sub_self, List.drop_zero] at hv
      exact ⟨_, rfl, k H' v (s1.trans s2) hv⟩
end
end K50
namespace K50
open PySem PySem.Spec PyProof.Rows L2 PySem.HandSPX
/-- the two errors that may come, their class above, what isinstance tells of them -/
structure ErrT (K : PySem.W.Frag) (mg : Str → Option Value) (CL CS CN : Addr) : Prop where
  S : ExcT K mg "Stuck" CS
  N : ExcT K mg "NotReady" CN
  gL : mg "LoomError" = some (.ref CL)
  mV : mg "ValueError" = none
  mI : mg "isinstance" = none
  cS : ExcC K CS
  cN : ExcC K CN
  eS : PySem.W.exmOne K (.ref CS) (.ref CL) = some true
  eN : PySem.W.exmOne K (.ref CN) (.ref CL) = some true
  sV : PySem.W.kitOne K (.ref CS) (.type "ValueError") = some true
  nV : PySem.W.kitOne K (.ref CN) (.type "ValueError") = some true
  sS : PySem.W.kitOne K (.ref CS) (.ref CS) = some true
  sN : PySem.W.kitOne K (.ref CS) (.ref CN) = some false
  nS : PySem.W.kitOne K (.ref CN) (.ref CS) = some false
  nN : PySem.W.kitOne K (.ref CN) (.ref CN) = some true
def FoundAt (H : Hp) (q : Addr) (r : Res) : Prop := match r with
  | .ok x => ∃ t, H q = some (.tup [.str "told", .ref t]) ∧ H t = some (.tup [.int x.1, .int x.2])
  | .error e => H q = some (.tup [.str "refused", .str (wordB e)])
def spAsked (n : Nat) : Sp := fun vs H Q _ => ∃ (p ps : Addr) (v : V) (T : Tr) (many : Nat) (S : Sto), vs = [.ref p, .ref ps] ∧ H p = some (.tup [.str "fold", .str "add", .int many, v]) ∧ TreeAt H v T ∧ T.depth < n ∧ many ≤ 3 ∧ StAt H ps S ∧
  ∀ H' q, Same H H' → FoundAt H' q (foldN (ev S T) many) → Q (.ref q) H'
theorem same_ex {H H' : Hp} {a : Addr} {o : HO} (s : Same H H') (n : H' a = none) : Same H (upd H' a o) := s.trans (same_new n o)
section
variable {P : Program} {w : World} {K : PySem.W.Frag} {mg : Str → Option Value} {base : Heap} {CL CS CN : Addr}
theorem scAsked : FnScope ["tree", "stores", "e", "found"] ["tree", "stores"] (defScope sAsked) := ⟨rfl, rfl, rfl, by decide +kernel, rfl, by decide +kernel, by decide +kernel⟩
theorem ok_asked {f fK : Addr} {fd dK : FuncData} {n : Nat} (F : Fun K "_law_asked" "_law_asked" sAsked f fd) (DK : Def K mg "reckoned" sReck ["tree", "at", "stores"] fK dK) (GK : FnOk P w K mg base (L2.CX P w) (n + 5) fK dK ["tree", "at", "stores"] (spFold CS CN n)) (T : ErrT K mg CL CS CN) :
    FnOk P w K mg base CX0 (n + 6) f fd ["tree", "stores"] (spAsked n) := by
  refine F.ok scAsked (fun vs H Q E h => ?_) (fun cdv A outer s H vs Q E hr h => ?_)
  · obtain ⟨p, ps, v, T, many, S, rfl, _⟩ := h
    rfl
  obtain ⟨p, ps, v, tr, many, S, rfl, hp, hT, hdep, hm, hS, k⟩ := h
  refine ⟨_, pss_cons (ps_try_kept (i := 2) (c := .ref CL)
        (tb := fun W => tRet (tTup (tCons (tC (.str "told")) (tCons (tCallS (spFold CS CN n) (WE W) (tCons (tVar 0) (tCons (tTup (tCons (tC (.int 1)) tNil)) (tCons (tVar 1) tNil)))) tNil))))
        (ts := fun _ _ _ => tAsg (tVar 2) (gName 3)) rfl rfl rfl scAsked.nd rfl rfl ⟨rfl, by decide, .inl T.gL⟩
        (fun W pn xe tk _ => pss_one (ps_ret (pe_tup (pa_cons pe_str (pa_cons (pe_callS GK hr rfl DK.g DK.F.kp DK.b (fun σ => passAt tk σ) (pa_cons (pv 0) (pa_cons (pe_tup (pa_cons pe_int pa_nil)) (pa_cons (pv 1) pa_nil)))) pa_nil)))))
        (fun a oe cls d pn => pss_one (ps_set (i := 3) scAsked.nd rfl (.inl rfl) (pv 2))))
    (pss_cons (ps_if (pt_not (pt_val (pe_callB call_isH (by rfl) T.mI (by decide +kernel) (pa_cons (pv 3) (pa_cons (pe_bltn (v := .ty "ValueError") rfl T.mV (by decide +kernel) rfl) pa_nil))))) (pss_one (ps_ret (pe_tup (pa_cons pe_str (pa_cons pe_str pa_nil))))) pss_nil)
    (pss_cons (ps_if (PW.pt (pw_and (pt_val (pe_callB call_isH (by rfl) T.mI (by decide +kernel) (pa_cons (pv 3) (pa_cons (pe_glob (v := .ref CS) rfl T.S.g rfl) pa_nil))))
        (pw_and1 (pt_not (pt_val (pe_callB call_isH (by rfl) T.mI (by decide +kernel) (pa_cons (pv 3) (pa_cons (pe_glob (v := .ref CN) rfl T.N.g rfl) pa_nil)))))))) (pss_one (ps_ret (pe_tup (pa_cons pe_str (pa_cons pe_str pa_nil))))) pss_nil)
    (pss_cons (ps_if (PW.pt (pw_and (pt_val (pe_callB call_isH (by rfl) T.mI (by decide +kernel) (pa_cons (pv 3) (pa_cons (pe_glob (v := .ref CN) rfl T.N.g rfl) pa_nil))))
        (pw_and1 (pt_not (pt_val (pe_callB call_isH (by rfl) T.mI (by decide +kernel) (pa_cons (pv 3) (pa_cons (pe_glob (v := .ref CS) rfl T.S.g rfl) pa_nil)))))))) (pss_one (ps_ret (pe_tup (pa_cons pe_str (pa_cons pe_str pa_nil))))) pss_nil)
    (pss_one (ps_ret (pe_tup (pa_cons pe_str (pa_cons pe_str pa_nil)))))))), ?_⟩
  refine ⟨_, rfl, (by show 1 ≤ sizeLine; decide), fun t ht => ?_⟩
  have s1 := same_new ht (.tup [.int 1])
  refine ⟨_, rfl, p, t, ps, v, tr, many, S, rfl, s1 _ _ hp, hT.mono s1, hdep, hm, upd_same, hS.mono s1, ?_⟩
  cases hr2 : foldN (ev S tr) many with
  | ok x =>
    rw [hr2] at k
    exact fun H2 q s2 hq => ⟨(by show 2 ≤ sizeLine; decide), fun u hu => k _ u (s1.trans (s2.trans (same_new hu _))) ⟨q, upd_same, same_new hu _ _ _ hq⟩⟩
  | error e =>
    rw [hr2] at k
    cases e with
    | stuck =>
      intro H2 s2
      refine ⟨T.eS, fun a ha => ⟨_, rfl, ?_⟩⟩
      have s3 : Same H (upd H2 a (ExH (.ref CS) none a)) := same_ex (s1.trans s2) ha
      refine ⟨_, rfl, a, CS, .ty "ValueError", .type "ValueError", true, rfl, upd_same, fun u h => h, T.cS, T.sV, true, rfl, no rfl ?_⟩
      refine ⟨_, rfl, a, CS, .ref CS, .ref CS, true, rfl, upd_same, fun u h => h, T.cS, T.sS, true, rfl, yes rfl ?_⟩
      refine ⟨_, rfl, a, CS, .ref CN, .ref CN, false, rfl, upd_same, fun u h => h, T.cS, T.sN, false, rfl, yes rfl ?_⟩
      exact ⟨(by show 2 ≤ sizeLine; decide), fun u hu => k _ u (s3.trans (same_new hu _)) upd_same⟩
    | late =>
      intro H2 s2
      refine ⟨T.eN, fun a ha => ⟨_, rfl, ?_⟩⟩
      have s3 : Same H (upd H2 a (ExH (.ref CN) none a)) := same_ex (s1.trans s2) ha
      refine ⟨_, rfl, a, CN, .ty "ValueError", .type "ValueError", true, rfl, upd_same, fun u h => h, T.cN, T.nV, true, rfl, no rfl ?_⟩
      refine ⟨_, rfl, a, CN, .ref CS, .ref CS, false, rfl, upd_same, fun u h => h, T.cN, T.nS, false, rfl, no rfl (no rfl ?_)⟩
      refine ⟨_, rfl, a, CN, .ref CN, .ref CN, true, rfl, upd_same, fun u h => h, T.cN, T.nN, true, rfl, yes rfl ?_⟩
      refine ⟨_, rfl, a, CN, .ref CS, .ref CS, false, rfl, upd_same, fun u h => h, T.cN, T.nS, false, rfl, yes rfl ?_⟩
      exact ⟨(by show 2 ≤ sizeLine; decide), fun u hu => k _ u (s3.trans (same_new hu _)) upd_same⟩
end
end K50
namespace K50
open PySem PySem.Spec PyProof.Rows L2 PySem.HandSPX
def rowV (f : Nat → Option Int) (i : Nat) : List V := (List.range i).map fun j => optV (f j)
theorem rowV_more (f : Nat → Option Int) (i : Nat) : rowV f (i + 1) = rowV f i ++ [optV (f i)] := by
  unfold rowV
  rw [List.range_succ, List.map_append]
  rfl
theorem rowV_len (f : Nat → Option Int) (i : Nat) : (rowV f i).length = i := by simp [rowV]
theorem set_end (xs : List V) (v y : V) : (xs ++ [v]).set xs.length y = xs ++ [y] := by simp [List.set_append]
def spStores (K : PySem.W.Frag) : Sp := fun vs H Q _ => ∃ (a : Addr) (ns : List Int), vs = [.ref a] ∧ SqL K H a (ns.map V.int) ∧ ∀ H' ps, Same H H' → StAt H' ps (stoZ ns) → Q (.ref ps) H'
theorem v0 (ns : List Int) (i : Nat) : [V.int ((cellZ ns i + (i : Int) * i * i) % 2 ^ (64 : Int).toNat - 2 ^ (63 : Int).toNat)] = [optV (st0 ns i)] := by
  rw [e64, e63]
  rfl
theorem v1 (ns : List Int) (i : Nat) (h : ¬ (cellZ ns i + i) % 5 = 2) : V.int ((cellZ ns i * 48271 + (i : Int)) % 2 ^ (64 : Int).toNat - 2 ^ (63 : Int).toNat) = optV (st1 ns i) := by
  rw [e64, e63]
  unfold st1
  rw [if_neg h]
  rfl
theorem v1n (ns : List Int) (i : Nat) (h : (cellZ ns i + i) % 5 = 2) : V.non = optV (st1 ns i) := by
  unfold st1
  rw [if_pos h]
  rfl
theorem row_small {i : Nat} (h : i < 23) : i < sizeLine := Nat.lt_trans h (by decide)
section
variable {P : Program} {w : World} {K : PySem.W.Frag} {mg : Str → Option Value} {base : Heap}
theorem scStores : FnScope ["script", "stores", "j", "cell"] ["script"] (defScope sStores) := ⟨rfl, rfl, rfl, by decide +kernel, rfl, by decide +kernel, by decide +kernel⟩
theorem ok_stores {f : Addr} {fd : FuncData} (F : Fun K "_law_stores" "_law_stores" sStores f fd) (ml : mg "len" = none) (mr : mg "range" = none) : FnOk P w K mg base CX0 1 f fd ["script"] (spStores K) := by
  refine F.ok scStores (fun vs H Q E h => ?_) (fun cdv A outer s H vs Q E hr h => ?_)
  · obtain ⟨a, ns, rfl, _⟩ := h
    rfl
  obtain ⟨a, ns, rfl, hS, k⟩ := h
  refine ⟨_, pss_cons (ps_set (i := 1) scStores.nd rfl (.inl rfl) (pe_lst (pa_cons (pe_lst pa_nil) (pa_cons (pe_lst pa_nil) (pa_cons (pe_lst pa_nil) pa_nil)))))
    (pss_cons (ps_for PassesOwn.never rfl (pi_range1 rfl mr (pa_cons pe_int pa_nil)) (pg_name (i := 2) scStores.nd rfl (.inl rfl))
      (pss_cons (ps_set (i := 3) scStores.nd rfl (.inl rfl) (pv 2))
      (C8.pss_cut (ps_if (pt_cmpR op_gt (pe_callB call_len_seq rfl ml PySem.boot_len (pa_cons (pv 0) pa_nil)) pe_int (nomark _))
          (pss_one (ps_set (i := 3) scStores.nd rfl (.inl rfl) (pe_ix ix_list (pv 0) (pe_op op_mod (pv 2) (pe_callB call_len_seq rfl ml PySem.boot_len (pa_cons (pv 0) pa_nil))) (fun _ _ => rfl)))) pss_nil)
      (pss_cons (ps_expr (pe_bm PySem.F.plainAttrs_list PySem.F.slot_list_append PySem.F.type_list_append mt_append (pe_ix ix_list (pv 1) pe_int (fun _ _ => rfl))
          (pa_cons (pe_op op_sub (pe_op op_mod (pe_op op_add (pv 3) (pe_op op_mul (pe_op op_mul (pv 2) (pv 2)) (pv 2))) (pe_op op_pow pe_int pe_int)) (pe_op op_pow pe_int pe_int)) pa_nil)))
      (pss_cons (ps_expr (pe_bm PySem.F.plainAttrs_list PySem.F.slot_list_append PySem.F.type_list_append mt_append (pe_ix ix_list (pv 1) pe_int (fun _ _ => rfl))
          (pa_cons (pe_op op_sub (pe_op op_mod (pe_op op_add (pe_op op_mul (pv 3) pe_int) (pv 2)) (pe_op op_pow pe_int pe_int)) (pe_op op_pow pe_int pe_int)) pa_nil)))
      (pss_cons (ps_expr (pe_bm PySem.F.plainAttrs_list PySem.F.slot_list_append PySem.F.type_list_append mt_append (pe_ix ix_list (pv 1) pe_int (fun _ _ => rfl))
          (pa_cons (pe_op op_sub (pe_op op_mod (pv 3) pe_int) pe_int) pa_nil)))
      (pss_one (ps_if (pt_cmpR op_eq (pe_op op_mod (pe_op op_add (pv 3) (pv 2)) pe_int) pe_int (nomark _))
          (pss_one (ps_asg pe_non (pg_sub (pe_ix ix_list (pv 1) pe_int (fun _ _ => rfl)) (pv 2) set_list))) pss_nil))))))))
    (pss_one (ps_ret (pv 1)))), ?_⟩
  have z0 : 0 ≤ sizeLine := Nat.zero_le _
  refine ⟨z0, fun q0 h0 => ⟨z0, fun q1 h1 => ⟨z0, fun q2 h2 => ⟨(by show 3 ≤ sizeLine; decide), fun ps hps => ?_⟩⟩⟩⟩
  have n10 : q1 ≠ q0 := Ne.symm (ne_of_none upd_same h1)
  have n20 : q2 ≠ q0 := fun e => by rw [e, upd_ne (Ne.symm n10), upd_same] at h2; cases h2
  have n21 : q2 ≠ q1 := Ne.symm (ne_of_none upd_same h2)
  have np2 : ps ≠ q2 := Ne.symm (ne_of_none upd_same hps)
  have np1 : ps ≠ q1 := fun e => by rw [e, upd_ne (Ne.symm n21), upd_same] at hps; cases hps
  have np0 : ps ≠ q0 := fun e => by rw [e, upd_ne (Ne.symm n20), upd_ne (Ne.symm n10), upd_same] at hps; cases hps
  have g1 : H q1 = none := by rw [upd_ne n10] at h1; exact h1
  have g2 : H q2 = none := by rw [upd_ne n21, upd_ne n20] at h2; exact h2
  have gp : H ps = none := by rw [upd_ne np2, upd_ne np1, upd_ne np0] at hps; exact hps
  refine ⟨23, rfl, by decide, by decide, for_range (lo := 0) (n := 23)
    (fun i σ H' => ∃ v2 v3 : Option V, σ = [some (.ref a), some (.ref ps), v2, v3] ∧ Same H H' ∧ H' ps = some (.lst [.ref q0, .ref q1, .ref q2]) ∧ H' q0 = some (.lst (rowV (st0 ns) i)) ∧ H' q1 = some (.lst (rowV (st1 ns) i)) ∧ H' q2 = some (.lst (rowV (st2 ns) i)))
    ⟨none, none, rfl, same_upd (same_upd (same_upd (same_upd (Same.refl H) h0) g1) g2) gp, upd_same, ?_, ?_, ?_⟩ ?_ ?_⟩
  · rw [upd_ne (Ne.symm np0), upd_ne (Ne.symm n20), upd_ne (Ne.symm n10), upd_same]
    rfl
  · rw [upd_ne (Ne.symm np1), upd_ne (Ne.symm n21), upd_same]
    rfl
  · rw [upd_ne (Ne.symm np2), upd_same]
    rfl
  · rintro i σ H1 hi ⟨v2, v3, rfl, s1, gps, gq0, gq1, gq2⟩
    have eI : (0 : Int) + (i : Int) = i := Int.zero_add _
    rw [eI]
    have hS1 := s1.seq hS
    refine ⟨_, rfl, (fun σ' H' => σ' = [some (.ref a), some (.ref ps), some (.int (i : Int)), some (.int (cellZ ns i))] ∧ H' = H1), ?_, ?_⟩
    · refine ⟨_, rfl, a, _, rfl, .inl hS1, _, _, rfl, rfl, _, rfl, ?_⟩
      have hl : (ns.map V.int).length = ns.length := List.length_map _
      by_cases z : 0 < ns.length
      · refine yes (decide_eq_true (by rw [hl]; omega)) ?_
        have hm : i % ns.length < ns.length := Nat.mod_lt _ z
        have ec : cellZ ns i = ns[i % ns.length] := by
          unfold cellZ
          rw [if_pos z]
          simp [List.getD, List.getElem?_eq_getElem hm]
        refine ⟨_, rfl, _, rfl, _, rfl, a, _, rfl, .inl hS1, _, _, rfl, rfl, (by rw [hl]; show (0 : Int) < _; omega), a, _, _, V.int (cellZ ns i), rfl, rfl, hS1, ?_, rfl, rfl⟩
        rw [hl]
        refine at_of (j := i % ns.length) (by omega) ?_
        rw [List.getElem?_map, List.getElem?_eq_getElem hm, ec]
        rfl
      · refine no (decide_eq_false (by rw [hl]; omega)) ?_
        have ec : cellZ ns i = i := by
          unfold cellZ
          rw [if_neg z]
        refine ⟨?_, rfl⟩
        rw [ec]
        rfl
    · rintro σ' H' ⟨rfl, rfl⟩
      have p64 : (0 : Int) < (2 : Int) ^ (64 : Int).toNat := by rw [e64]; decide
      have bi : -(2 ^ 64) < (i : Int) ∧ (i : Int) < 2 ^ 64 := ⟨by omega, by omega⟩
      refine ⟨_, rfl, ps, _, 0, _, rfl, rfl, SqL.of gps, atI_nat (j := 0) rfl, .inl ⟨rfl, _, SqL.of gq0⟩, ?_⟩
      refine ⟨_, rfl, _, rfl, _, rfl, _, _, rfl, rfl, .inl bi, _, rfl, _, _, rfl, rfl, .inr bi, _, _, rfl, rfl, 2, 64, rfl, rfl, cp64, _, _, rfl, rfl, p64, 2, 63, rfl, rfl, cp63, _, _, rfl, rfl, ?_⟩
      refine ⟨q0, _, optV (st0 ns i), rfl, v0 ns i, gq0, (by rw [rowV_len]; exact row_small hi), ?_⟩
      have sA : Same H (upd H' q0 (.lst (rowV (st0 ns) i ++ [optV (st0 ns i)]))) := same_upd s1 h0
      have a0 : (upd H' q0 (.lst (rowV (st0 ns) i ++ [optV (st0 ns i)]))) q0 = some (.lst (rowV (st0 ns) (i + 1))) := by rw [rowV_more]; exact upd_same
      have a1 : (upd H' q0 (.lst (rowV (st0 ns) i ++ [optV (st0 ns i)]))) q1 = some (.lst (rowV (st1 ns) i)) := by rw [upd_ne n10]; exact gq1
      have a2 : (upd H' q0 (.lst (rowV (st0 ns) i ++ [optV (st0 ns i)]))) q2 = some (.lst (rowV (st2 ns) i)) := by rw [upd_ne n20]; exact gq2
      have ap : (upd H' q0 (.lst (rowV (st0 ns) i ++ [optV (st0 ns i)]))) ps = some (.lst [.ref q0, .ref q1, .ref q2]) := by rw [upd_ne np0]; exact gps
      generalize upd H' q0 (.lst (rowV (st0 ns) i ++ [optV (st0 ns i)])) = HA at sA a0 a1 a2 ap
      refine ⟨_, rfl, ps, _, 1, _, rfl, rfl, SqL.of ap, atI_nat (j := 1) rfl, .inl ⟨rfl, _, SqL.of a1⟩, ?_⟩
      refine ⟨_, rfl, _, _, rfl, rfl, .inr ⟨by decide, by decide⟩, _, rfl, _, _, rfl, rfl, 2, 64, rfl, rfl, cp64, _, _, rfl, rfl, p64, 2, 63, rfl, rfl, cp63, _, _, rfl, rfl, ?_⟩
      obtain ⟨w1, hw1⟩ : ∃ w1, w1 = V.int ((cellZ ns i * 48271 + (i : Int)) % 2 ^ (64 : Int).toNat - 2 ^ (63 : Int).toNat) := ⟨_, rfl⟩
      refine ⟨q1, _, w1, rfl, congrArg (fun v => [v]) hw1.symm, a1, (by rw [rowV_len]; exact row_small hi), ?_⟩
      have sB : Same H (upd HA q1 (.lst (rowV (st1 ns) i ++ [w1]))) := same_upd sA g1
      have b0 : (upd HA q1 (.lst (rowV (st1 ns) i ++ [w1]))) q0 = some (.lst (rowV (st0 ns) (i + 1))) := by rw [upd_ne (Ne.symm n10)]; exact a0
      have b1 : (upd HA q1 (.lst (rowV (st1 ns) i ++ [w1]))) q1 = some (.lst (rowV (st1 ns) i ++ [w1])) := upd_same
      have b2 : (upd HA q1 (.lst (rowV (st1 ns) i ++ [w1]))) q2 = some (.lst (rowV (st2 ns) i)) := by rw [upd_ne n21]; exact a2
      have bp : (upd HA q1 (.lst (rowV (st1 ns) i ++ [w1]))) ps = some (.lst [.ref q0, .ref q1, .ref q2]) := by rw [upd_ne np1]; exact ap
      generalize upd HA q1 (.lst (rowV (st1 ns) i ++ [w1])) = HB at sB b0 b1 b2 bp
      refine ⟨_, rfl, ps, _, 2, _, rfl, rfl, SqL.of bp, atI_nat (j := 2) rfl, .inl ⟨rfl, _, SqL.of b2⟩, ?_⟩
      refine ⟨_, rfl, _, _, rfl, rfl, (by show (0 : Int) < 7; decide), _, _, rfl, rfl, ?_⟩
      refine ⟨q2, _, optV (st2 ns i), rfl, rfl, b2, (by rw [rowV_len]; exact row_small hi), ?_⟩
      have sC : Same H (upd HB q2 (.lst (rowV (st2 ns) i ++ [optV (st2 ns i)]))) := same_upd sB g2
      have c0 : (upd HB q2 (.lst (rowV (st2 ns) i ++ [optV (st2 ns i)]))) q0 = some (.lst (rowV (st0 ns) (i + 1))) := by rw [upd_ne (Ne.symm n20)]; exact b0
      have c1 : (upd HB q2 (.lst (rowV (st2 ns) i ++ [optV (st2 ns i)]))) q1 = some (.lst (rowV (st1 ns) i ++ [w1])) := by rw [upd_ne (Ne.symm n21)]; exact b1
      have c2 : (upd HB q2 (.lst (rowV (st2 ns) i ++ [optV (st2 ns i)]))) q2 = some (.lst (rowV (st2 ns) (i + 1))) := by rw [rowV_more]; exact upd_same
      have cp : (upd HB q2 (.lst (rowV (st2 ns) i ++ [optV (st2 ns i)]))) ps = some (.lst [.ref q0, .ref q1, .ref q2]) := by rw [upd_ne np2]; exact bp
      generalize upd HB q2 (.lst (rowV (st2 ns) i ++ [optV (st2 ns i)])) = HC at sC c0 c1 c2 cp
      refine ⟨_, rfl, _, rfl, _, _, rfl, rfl, _, _, rfl, rfl, (by show (0 : Int) < 5; decide), rfl, _, rfl, ?_⟩
      by_cases z : (cellZ ns i + (i : Int)) % 5 = 2
      · refine yes (int_eq z) ?_
        refine ⟨_, rfl, ps, _, 1, _, rfl, rfl, SqL.of cp, atI_nat (j := 1) rfl, _, rfl, q1, _, (i : Int), i, rfl, rfl, c1, ?_, ?_⟩
        · rw [List.length_append, rowV_len]
          unfold ixN
          rw [if_pos (by omega), if_pos (by show (i : Int) < ((i + 1 : Nat) : Int); omega)]
          rfl
        have e1 : (rowV (st1 ns) i ++ [w1]).set i V.non = rowV (st1 ns) (i + 1) := by
          have e := set_end (rowV (st1 ns) i) w1 V.non
          rw [rowV_len] at e
          rw [e, rowV_more, ← v1n ns i z]
        rw [e1]
        refine ⟨_, _, rfl, same_upd sC g1, ?_, ?_, upd_same, ?_⟩
        · rw [upd_ne np1]; exact cp
        · rw [upd_ne (Ne.symm n10)]; exact c0
        · rw [upd_ne n21]; exact c2
      · refine no (int_ne z) ?_
        refine ⟨_, _, rfl, sC, cp, c0, ?_, c2⟩
        rw [c1, hw1, v1 ns i z, rowV_more]
  · rintro σ H' ⟨v2, v3, rfl, s1, gps, gq0, gq1, gq2⟩
    refine ⟨_, rfl, k H' ps s1 ⟨[q0, q1, q2], gps, rfl, rfl, fun i q l hq hl => ?_⟩⟩
    have rw' : ∀ f : Nat → Option Int, rowV f 23 = ((List.range 23).map f).map optV := fun f => by
      unfold rowV
      rw [List.map_map]
      rfl
    match i, hq, hl with
    | 0, hq, hl =>
      cases hq
      cases hl
      exact ⟨by rw [← rw']; exact gq0, by simp⟩
    | 1, hq, hl =>
      cases hq
      cases hl
      exact ⟨by rw [← rw']; exact gq1, by simp⟩
    | 2, hq, hl =>
      cases hq
      cases hl
      exact ⟨by rw [← rw']; exact gq2, by simp⟩
    | i + 3, hq, _ => exact nomatch (show (none : Option Addr) = some q from hq)
end
end K50
namespace K50
open PySem PySem.Spec PyProof.Rows L2 PySem.HandSPX
/-! ### the stores as data, for == -/
def dat : Option Int → PyData
  | none => .none
  | some n => .int n
def datRow (l : List (Option Int)) : PyData := .list (l.map dat)
def datSto (S : Sto) : PyData := .list (S.map datRow)
theorem dat_lay (o : Option Int) : (dat o).canLay0 = true := by cases o <;> simp [dat, PyData.canLay0]
theorem dat_deep (o : Option Int) : (dat o).depth = 0 := by cases o <;> simp [dat, PyData.depth]
theorem dats_lay : ∀ l : List (Option Int), PyData.canLayAll0 (l.map dat) = true
  | [] => by rw [List.map_nil]; simp [PyData.canLayAll0]
  | o :: l => by
    rw [List.map_cons]
    simp [PyData.canLayAll0, dat_lay o, dats_lay l]
theorem dats_deep : ∀ l : List (Option Int), PyData.depthAll (l.map dat) = 0
  | [] => by rw [List.map_nil]; simp [PyData.depthAll]
  | o :: l => by
    rw [List.map_cons]
    simp [PyData.depthAll, dat_deep o, dats_deep l]
theorem row_lay (l : List (Option Int)) : (datRow l).canLay0 = true := by simp [datRow, PyData.canLay0, dats_lay]
theorem row_deep (l : List (Option Int)) : (datRow l).depth = 1 := by simp [datRow, PyData.depth, dats_deep]
theorem rows_lay : ∀ S : Sto, PyData.canLayAll0 (S.map datRow) = true
  | [] => by rw [List.map_nil]; simp [PyData.canLayAll0]
  | o :: l => by
    rw [List.map_cons]
    simp [PyData.canLayAll0, row_lay o, rows_lay l]
theorem rows_deep : ∀ S : Sto, PyData.depthAll (S.map datRow) ≤ 1
  | [] => by rw [List.map_nil]; simp [PyData.depthAll]
  | o :: l => by
    have h := rows_deep l
    rw [List.map_cons]
    simp [PyData.depthAll, row_deep o, h]
theorem sto_lay (S : Sto) : (datSto S).canLay0 = true := by simp [datSto, PyData.canLay0, rows_lay]
theorem sto_shaped (S : Sto) : SeqAt.shaped (datSto S) = true := by
  have h := rows_deep S
  have d : (datSto S).depth ≤ 64 := by
    have e : (datSto S).depth = PyData.depthAll (S.map datRow) + 1 := by simp [datSto, PyData.depth]
    omega
  unfold SeqAt.shaped
  rw [sto_lay, decide_eq_true d]
  rfl
theorem dp_opt {K : PySem.W.Frag} {H : Hp} (o : Option Int) : Dp K H (optV o) (dat o) := by
  cases o with
  | none => exact .non
  | some n => exact .int n
theorem dp_opts {K : PySem.W.Frag} {H : Hp} : ∀ l : List (Option Int), DpAll K H (l.map optV) (l.map dat)
  | [] => .nil
  | o :: l => .cons (dp_opt o) (dp_opts l)
theorem dp_rows {K : PySem.W.Frag} {H : Hp} : ∀ (qs : List Addr) (S : Sto), qs.length = S.length → (∀ (i : Nat) (q : Addr) (l : List (Option Int)), qs[i]? = some q → S[i]? = some l → H q = some (.lst (l.map optV)) ∧ l.length = 23) → DpAll K H (qs.map V.ref) (S.map datRow)
  | [], [], _, _ => .nil
  | q :: qs, l :: S, h, k => .cons (.lst (SqL.of (k 0 q l rfl rfl).1) (dp_opts l)) (dp_rows qs S (by simpa using h) fun i q' l' a b => k (i + 1) q' l' a b)
  | [], _ :: _, len, _ => by simp at len
  | _ :: _, [], len, _ => by simp at len
theorem StAt.dp {K : PySem.W.Frag} {H : Hp} {ps : Addr} {S : Sto} (h : StAt H ps S) : Dp K H (.ref ps) (datSto S) := by
  obtain ⟨qs, h1, h2, h3, h4⟩ := h.ex
  exact .lst (SqL.of h1) (dp_rows qs S (by omega) h4)
/-! ### depths -/
theorem leaf_deep (c g : Int) : (leafT c g).depth ≤ 1 := by
  unfold leafT
  by_cases h : c / 1058 % 4 = 1
  · rw [if_pos h]
    simp [Tr.depth]
  · rw [if_neg h]
    simp [Tr.depth]
theorem branch_deep (c g : Int) : (branchT c g).depth ≤ 2 := by
  unfold branchT
  by_cases h : c / 9000 % 3 = 1
  · rw [if_pos h]
    have h1 := leaf_deep c g
    have h2 := leaf_deep (c / 13 + 1) g
    have h3 := leaf_deep (c / 17 + 2) g
    simp only [Tr.depth]
    omega
  · rw [if_neg h]
    have h1 := leaf_deep c g
    omega
theorem left_deep : ∀ (r : List Tr) (t : Tr) (m : Nat), t.depth ≤ m → (∀ u ∈ r, u.depth ≤ 2) → 2 ≤ m → (r.foldl .add t).depth ≤ m + r.length
  | [], t, m, h, _, _ => by simpa using h
  | u :: r, t, m, h, hr, h2 => by
    have hu := hr u List.mem_cons_self
    have ih := left_deep r (.add t u) (m + 1) (by simp only [Tr.depth]; omega) (fun x hx => hr x (List.mem_cons_of_mem _ hx)) (by omega)
    rw [List.foldl_cons]
    rw [List.length_cons]
    omega
theorem right_deep (l : Tr) (hl : l.depth ≤ 2) : ∀ (D : List Tr), (∀ u ∈ D, u.depth ≤ 2) → (D.foldr .add l).depth ≤ 2 + D.length
  | [], _ => by simpa using hl
  | u :: D, h => by
    have hu := h u List.mem_cons_self
    have ih := right_deep l hl D (fun x hx => h x (List.mem_cons_of_mem _ hx))
    rw [List.foldr_cons, List.length_cons]
    simp only [Tr.depth]
    omega
theorem hung_deep (ts : List Tr) (left : Bool) (h : ∀ u ∈ ts, u.depth ≤ 2) (hl : ts.length ≤ 60) : (hung ts left).depth < 64 := by
  cases ts with
  | nil => simp [hung, Tr.depth]
  | cons t r =>
    have hl' : r.length + 1 ≤ 60 := by simpa using hl
    cases left with
    | true =>
      have q := left_deep r t 2 (h t List.mem_cons_self) (fun x hx => h x (List.mem_cons_of_mem _ hx)) (Nat.le_refl _)
      show (r.foldl .add t).depth < 64
      omega
    | false =>
      have hm : (t :: r).getLastD t ∈ t :: r := by
        have z := split_last t r
        have y : (t :: r).getLastD t ∈ (t :: r).dropLast ++ [(t :: r).getLastD t] := by simp
        rw [z] at y
        exact y
      have q := right_deep ((t :: r).getLastD t) (h _ hm) (t :: r).dropLast (fun u hu => h u (List.dropLast_subset _ hu))
      have e : (t :: r).dropLast.length = r.length := by simp
      show ((t :: r).dropLast.foldr .add ((t :: r).getLastD t)).depth < 64
      omega
theorem rows_at {ns : List Int} {i : Nat} {c : Int} (h : (ns.take 60)[i]? = some c) : (rowsT ns)[i]? = some (rowT c i) := by
  unfold rowsT
  rw [List.getElem?_mapIdx, h]
  rfl
theorem rows_len (ns : List Int) : (rowsT ns).length = (ns.take 60).length := by simp [rowsT]
theorem rows_deep2 {ns : List Int} : ∀ u ∈ rowsT ns, u.depth ≤ 2 := fun u hu => by
  unfold rowsT at hu
  obtain ⟨i, hi, e⟩ := List.mem_mapIdx.mp hu
  rw [← e]
  exact branch_deep _ _
/-! ### how the law goes on behind a row -/
def wordO : Option Bad → Str
  | none => ""
  | some e => wordB e
theorem cut_sixty (ns : List Int) : cutV (ns.map V.int) none (some 60) = (ns.take 60).map V.int := by
  unfold cutV
  have e : HT.sIx (ns.map V.int).length (ns.map V.int).length (some 60) = min 60 ns.length := by
    refine Eq.trans (HT.sIx_nat (ns.map V.int).length (ns.map V.int).length 60) ?_
    rw [List.length_map]
  rw [e, HT.sIx_none, List.drop_zero, Nat.sub_zero, ← List.map_take]
  congr 1
  rcases Nat.le_total 60 ns.length with h | h
  · rw [Nat.min_eq_left h]
  · rw [Nat.min_eq_right h, List.take_of_length_le (Nat.le_refl _), List.take_of_length_le h]
/-- the trees stay where a list is written -/
theorem TreeAt.write {H : Hp} {l : Addr} {xs : List V} {o : HO} (hl : H l = some (.lst xs)) {v : V} {T : Tr} (h : TreeAt H v T) : TreeAt (upd H l o) v T := by
  have st : ∀ {p : Addr} {ys : List V}, H p = some (.tup ys) → (upd H l o) p = some (.tup ys) := fun {p ys} z => by
    rw [upd_ne (ne_of z hl (fun q => nomatch q))]
    exact z
  induction h with
  | num h => exact .num (st h)
  | read h hq h0 h3 => exact .read (st h) (st hq) h0 h3
  | fetch h hz h0 h3 _ ih => exact .fetch (st h) (st hz) h0 h3 ih
  | pick h _ _ _ i1 i2 i3 => exact .pick (st h) i1 i2 i3
  | add h _ _ i1 i2 => exact .add (st h) i1 i2
theorem firstBad_one (r : Res) : wordO (firstBad [r]) = wordR r := by cases r <;> rfl
end K50
namespace K50
open PySem PySem.Spec PyProof.Rows L2 PySem.HandSPX
theorem pair_eq {a b c d : Int} (h : a = c) (g : b = d) : some (HO.tup [V.int a, V.int b]) = some (HO.tup [V.int c, V.int d]) := by rw [h, g]
def spLaw (K : PySem.W.Frag) : Sp := fun vs H Q _ => ∃ (a : Addr) (ns : List Int), vs = [.ref a] ∧ SqL K H a (ns.map V.int) ∧ ∀ H', Q (.bl true) H'
/-- what the law leans on -/
structure High (P : Program) (w : World) (K : PySem.W.Frag) (mg : Str → Option Value) (base : Heap) (fS fB fH fA : Addr) (dS dB dH dA : FuncData) : Prop where
  S : Def K mg "_law_stores" sStores ["script"] fS dS
  B : Def K mg "_law_branch" sBranch ["cell", "stores", "grown"] fB dB
  Hg : Def K mg "_law_hung" sHung ["rows", "left"] fH dH
  A : Def K mg "_law_asked" sAsked ["tree", "stores"] fA dA
  gS : FnOk P w K mg base CX0 1 fS dS ["script"] (spStores K)
  gB : FnOk P w K mg base CX0 3 fB dB ["cell", "stores", "grown"] (spRow branchT)
  gH : FnOk P w K mg base CX0 1 fH dH ["rows", "left"] spHung
  gA : FnOk P w K mg base CX0 70 fA dA ["tree", "stores"] (spAsked 64)
  len : mg "len" = none
  list : mg "list" = none
  max : mg "max" = none
section
variable {P : Program} {w : World} {K : PySem.W.Frag} {mg : Str → Option Value} {base : Heap} {fS fB fH fA : Addr} {dS dB dH dA : FuncData}
theorem scLaw : FnScope ["script", "stores", "rows", "first", "total", "calls", "cell", "tree", "word", "number", "one", "many", "found"] ["script"] (defScope sLaw) := ⟨rfl, rfl, rfl, by decide +kernel, rfl, by decide +kernel, by decide +kernel⟩
theorem ok_law {f : Addr} {fd : FuncData} (F : Fun K "law" "law" sLaw f fd) (L : High P w K mg base fS fB fH fA dS dB dH dA) : FnOk P w K mg base CX0 71 f fd ["script"] (spLaw K) := by
  refine F.ok scLaw (fun vs H Q E h => ?_) (fun cdv A outer s H vs Q E hr h => ?_)
  · obtain ⟨a, ns, rfl, _⟩ := h
    rfl
  obtain ⟨a, ns, rfl, hS, k⟩ := h
  have hr1 : Room 1 _ := hr.mono (by decide)
  have hr3 : Room 3 _ := hr.mono (by decide)
  refine ⟨_, pss_cons (ps_set (i := 1) scLaw.nd rfl (.inl rfl) (pe_call L.gS hr1 rfl L.S.g L.S.F.kp L.S.b .nil pass0 (pa_cons (pv 0) pa_nil)))
    (pss_cons (ps_set (i := 2) scLaw.nd rfl (.inl rfl) (pe_lst pa_nil))
    (pss_cons (ps_set (i := 3) scLaw.nd rfl (.inl rfl) pe_str)
    (pss_cons (ps_set (i := 4) scLaw.nd rfl (.inl rfl) pe_int)
    (pss_cons (ps_set (i := 5) scLaw.nd rfl (.inl rfl) pe_int)
    (pss_cons (ps_for PassesOwn.never rfl (pi_list (pe_slice sl_list (pv 0) po_none (po_some pe_int))) (pg_name (i := 6) scLaw.nd rfl (.inl rfl))
      (pss_cons (ps_asg (pe_call L.gB hr3 rfl L.B.g L.B.F.kp L.B.b .nil pass0 (pa_cons (pe_op op_mod (pv 6) (pe_op op_pow pe_int pe_int)) (pa_cons (pv 1) (pa_cons (pe_op op_add pe_int (pe_op op_mod (pe_callB call_len_seq rfl L.len PySem.boot_len (pa_cons (pv 2) pa_nil)) pe_int)) pa_nil))))
          (pg_tup rfl (pgs_cons (pg_name (i := 7) scLaw.nd rfl (.inl rfl)) (pgs_cons (pg_name (i := 8) scLaw.nd rfl (.inl rfl)) (pgs_cons (pg_name (i := 9) scLaw.nd rfl (.inl rfl)) (pgs_cons (pg_name (i := 10) scLaw.nd rfl (.inl rfl)) pgs_nil))))))
      (pss_cons (ps_expr (pe_bm PySem.F.plainAttrs_list PySem.F.slot_list_append PySem.F.type_list_append mt_append (pv 2) (pa_cons (pv 7) pa_nil)))
      (C8.pss_cut (ps_if (pt_cmpR op_eq (pv 3) pe_str (nomark _)) (pss_one (ps_set (i := 3) scLaw.nd rfl (.inl rfl) (pv 8))) pss_nil)
      (pss_cons (ps_set (i := 4) scLaw.nd rfl (.inl rfl) (pe_op op_add (pv 4) (pv 9)))
      (pss_one (ps_set (i := 5) scLaw.nd rfl (.inl rfl) (pe_op op_add (pv 5) (pv 10)))))))))
    (C8.pss_cut (ps_if (pt_cmpR op_eq (pe_callB call_len_seq rfl L.len PySem.boot_len (pa_cons (pv 2) pa_nil)) pe_int (nomark _)) (pss_one (ps_set (i := 4) scLaw.nd rfl (.inl rfl) pe_int)) pss_nil)
    (pss_cons (ps_set (i := 11) scLaw.nd rfl (.inl rfl) (pe_op op_add pe_int (pe_op op_mod (pe_op op_fdiv (pe_callB call_len_seq rfl L.len PySem.boot_len (pa_cons (pv 0) pa_nil)) pe_int) pe_int)))
    (pss_cons (ps_set (i := 7) scLaw.nd rfl (.inl rfl) (pe_tup (pa_cons pe_str (pa_cons pe_str (pa_cons (pv 11) (pa_cons
        (pe_call L.gH hr1 rfl L.Hg.g L.Hg.F.kp L.Hg.b .nil pass0 (pa_cons (pe_callTy call_list_of (by rfl) L.list (by decide +kernel) (pa_cons (pv 2) pa_nil)) (pa_cons (pe_cmpR op_eq (pe_op op_mod (pe_callB call_len_seq rfl L.len PySem.boot_len (pa_cons (pv 0) pa_nil)) pe_int) pe_int (nomark _)) pa_nil))) pa_nil))))))
    (pss_cons (ps_set (i := 12) scLaw.nd rfl (.inl rfl) (pe_call L.gA hr rfl L.A.g L.A.F.kp L.A.b .nil pass0 (pa_cons (pv 7) (pa_cons (pv 1) pa_nil))))
    (pss_cons (ps_if (pt_cmpR (op_neD hr.units) (pv 1) (pe_call L.gS hr1 rfl L.S.g L.S.F.kp L.S.b .nil pass0 (pa_cons (pv 0) pa_nil)) (nomark _)) (pss_one (ps_ret pe_bl)) pss_nil)
    (pss_cons (ps_if (pt_cmpR op_ne (pv 3) pe_str (nomark _)) (pss_one (ps_ret (pe_cmpR (op_eqD hr.units) (pv 12) (pe_tup (pa_cons pe_str (pa_cons (pv 3) pa_nil))) (nomark _)))) pss_nil)
    (pss_cons (ps_set (i := 5) scLaw.nd rfl (.inl rfl) (pe_op op_mul (pv 11) (pe_op op_add (pe_op op_add pe_int (pv 5)) (pe_callB (call_max2 rfl) (by rfl) L.max (by decide +kernel) (pa_cons pe_int (pa_cons (pe_op op_sub (pe_callB call_len_seq rfl L.len PySem.boot_len (pa_cons (pv 2) pa_nil)) pe_int) pa_nil))))))
    (pss_cons (ps_set (i := 4) scLaw.nd rfl (.inl rfl) (pe_op op_sub (pe_op op_mod (pe_op op_add (pe_op op_mul (pv 4) (pv 11)) (pe_op op_pow pe_int pe_int)) (pe_op op_pow pe_int pe_int)) (pe_op op_pow pe_int pe_int)))
    (pss_one (ps_ret (pe_cmpR (op_eqD hr.units) (pv 12) (pe_tup (pa_cons pe_str (pa_cons (pe_tup (pa_cons (pv 4) (pa_cons (pv 5) pa_nil))) pa_nil))) (nomark _))))))))))))))))), ?_⟩
  generalize hSS : stoZ ns = S
  refine ⟨_, rfl, a, ns, rfl, hS, fun Hs ps ss hst => ?_⟩
  rw [hSS] at hst
  refine ⟨Nat.zero_le _, fun l hl => ?_⟩
  have hS1 := ss.seq hS
  have sl := ss.trans (same_new hl (.lst []))
  refine ⟨_, rfl, 60, rfl, a, _, rfl, sl.seq hS, fun p hp => ?_⟩
  have npl : p ≠ l := fun e => by rw [e, upd_same] at hp; cases hp
  have fp : Hs p = none := by rw [upd_ne npl] at hp; exact hp
  have sB : Same Hs (upd (upd Hs l (.lst [])) p (.lst (cutV (ns.map V.int) none (some 60)))) := (same_new hl _).trans (same_new hp _)
  have bp : (upd (upd Hs l (.lst [])) p (.lst (cutV (ns.map V.int) none (some 60)))) p = some (.lst ((ns.take 60).map V.int)) := by rw [cut_sixty]; exact upd_same
  have bl : (upd (upd Hs l (.lst [])) p (.lst (cutV (ns.map V.int) none (some 60)))) l = some (.lst []) := by rw [upd_ne (Ne.symm npl), upd_same]
  generalize upd (upd Hs l (.lst [])) p (.lst (cutV (ns.map V.int) none (some 60))) = HB at sB bp bl
  have d2 : (0 : Int) < 2 := by decide
  have d3 : (0 : Int) < 3 := by decide
  refine ⟨p, rfl, ⟨_, SqL.of bp⟩, for_list (K := K) (a := p) (xs := (ns.take 60).map V.int)
    (fun i σ H' => ∃ (tv : List V) (tot cal : Int) (v6 v7 v8 v9 v10 : Option V), σ = [some (.ref a), some (.ref ps), some (.ref l), some (.str (wordO (firstBad (((rowsT ns).take i).map (ev S))))), some (.int tot), some (.int cal), v6, v7, v8, v9, v10, none, none] ∧
      Same Hs H' ∧ H' p = some (.lst ((ns.take 60).map V.int)) ∧ H' l = some (.lst tv) ∧ Paired (TreeAt H') tv ((rowsT ns).take i) ∧
      (firstBad (((rowsT ns).take i).map (ev S)) = none → tot = sumV (((rowsT ns).take i).map (ev S)) ∧ cal = sumC (((rowsT ns).take i).map (ev S))))
    ⟨[], 0, 0, none, none, none, none, none, rfl, sB, bp, bl, .nil, fun _ => ⟨rfl, rfl⟩⟩ (fun i σ H' _ ⟨_, _, _, _, _, _, _, _, _, _, h, _⟩ => SqL.of h) ?_ ?_⟩
  · rintro i x σ H' hx ⟨tv, tot, cal, v6, v7, v8, v9, v10, rfl, s1, gp, gl, pr, hsum⟩
    obtain ⟨c, hc, rfl⟩ : ∃ c, (ns.take 60)[i]? = some c ∧ x = V.int c := by
      rw [List.getElem?_map] at hx
      cases e : (ns.take 60)[i]? with
      | none => rw [e] at hx; cases hx
      | some z => rw [e] at hx; exact ⟨z, rfl, (Option.some.inj hx).symm⟩
    have hrow := rows_at hc
    have hi : i < (rowsT ns).length := (List.getElem?_eq_some_iff.mp hrow).1
    have tvl : tv.length = i := by
      rw [pr.length, List.length_take]
      omega
    have hi60 : i < 60 := by
      rw [rows_len, List.length_take] at hi
      omega
    have p24 : (0 : Int) < (10 : Int) ^ (24 : Int).toNat := by rw [e24]; decide
    have next : ((rowsT ns).take (i + 1)).map (ev S) = ((rowsT ns).take i).map (ev S) ++ [ev S (rowT c i)] := by
      rw [take_one hrow, List.map_append]
      rfl
    refine ⟨_, rfl, 10, 24, rfl, rfl, cp24, _, _, rfl, rfl, p24, _, rfl, _, rfl, l, _, rfl, .inl (SqL.of gl), _, _, rfl, rfl, d2, _, _, rfl, rfl, c % 1000000000000000000000000, 1 + (i : Int) % 2, ps, S, ?_, hst.mono s1, fun H1 q v s2 R1 => ?_⟩
    · rw [← e24, ← tvl]
      rfl
    have eT : branchT (c % 1000000000000000000000000) (1 + (i : Int) % 2) = rowT c i := rfl
    rw [eT] at R1
    obtain ⟨n, d, hq, hv, hx1⟩ := R1
    generalize ev S (rowT c i) = r at hq hx1 next
    have gl1 := s2 _ _ gl
    refine ⟨q, _, rfl, SqT.of hq, rfl, _, _, rfl, _, _, rfl, _, _, rfl, _, _, rfl, rfl, ?_⟩
    refine ⟨_, rfl, .inl ⟨rfl, _, SqL.of gl1⟩, _, rfl, l, _, _, rfl, rfl, gl1, (by rw [tvl]; exact Nat.lt_trans hi60 (by decide)), ?_⟩
    have s3 : Same Hs (upd H1 l (.lst (tv ++ [v]))) := same_upd (s1.trans s2) hl
    have gp3 : (upd H1 l (.lst (tv ++ [v]))) p = some (.lst ((ns.take 60).map V.int)) := by rw [upd_ne npl]; exact s2 _ _ gp
    have gl3 : (upd H1 l (.lst (tv ++ [v]))) l = some (.lst (tv ++ [v])) := upd_same
    have pr3 : Paired (TreeAt (upd H1 l (.lst (tv ++ [v])))) (tv ++ [v]) ((rowsT ns).take (i + 1)) := by
      rw [take_one hrow]
      exact Paired.snoc (Paired.mapP pr fun _ _ z => TreeAt.write gl1 (z.mono s2)) (TreeAt.write gl1 hv)
    generalize upd H1 l (.lst (tv ++ [v])) = H3 at s3 gp3 gl3 pr3
    refine ⟨fun σ' H4 => σ' = [some (.ref a), some (.ref ps), some (.ref l), some (.str (wordO (firstBad (((rowsT ns).take (i + 1)).map (ev S))))), some (.int tot), some (.int cal), some (.int c), some v, some (.str (wordR r)), some (.int n), some (.int d), none, none] ∧ H4 = H3, ?_, ?_⟩
    · refine ⟨_, rfl, rfl, _, rfl, ?_⟩
      rw [next, firstBad_app]
      cases firstBad (((rowsT ns).take i).map (ev S)) with
      | none =>
        refine yes (by decide +kernel) ⟨_, rfl, ?_, rfl⟩
        show _ = [_, _, _, some (V.str (wordO (firstBad [r]))), _, _, _, _, _, _, _, _, _]
        rw [firstBad_one]
        rfl
      | some e => exact no (wordB_ne e) ⟨rfl, rfl⟩
    · rintro σ' H4 ⟨rfl, rfl⟩
      refine ⟨_, rfl, _, rfl, _, _, rfl, rfl, _, rfl, _, rfl, _, _, rfl, rfl, tv ++ [v], tot + n, cal + d, _, _, _, _, _, rfl, s3, gp3, gl3, pr3, fun hnone => ?_⟩
      rw [next, firstBad_app] at hnone
      rw [next, sumV_app, sumC_app]
      cases ho : firstBad (((rowsT ns).take i).map (ev S)) with
      | some e =>
        rw [ho] at hnone
        cases hnone
      | none =>
        rw [ho] at hnone
        obtain ⟨q1, q2⟩ := hsum ho
        cases r with
        | error e => cases hnone
        | ok x =>
          obtain ⟨x1, x2⟩ := hx1 x rfl
          refine ⟨?_, ?_⟩
          · show tot + n = _ + (x.1 + 0)
            omega
          · show cal + d = _ + (x.2 + 0)
            omega
  · rintro σ H' ⟨tv, tot, cal, v6, v7, v8, v9, v10, hσ, s1, gp, gl, pr, hsum⟩
    have etk : (rowsT ns).take ((ns.take 60).map V.int).length = rowsT ns := by rw [List.length_map, ← rows_len, List.take_length]
    rw [etk] at hσ pr hsum
    have hl60 : (rowsT ns).length ≤ 60 := by
      rw [rows_len, List.length_take]
      omega
    have hdeep := rows_deep2 (ns := ns)
    generalize rowsT ns = Ts at hσ pr hsum hl60 hdeep
    clear etk gp
    subst hσ
    have tvl : tv.length = Ts.length := pr.length
    have hS2 := s1.seq hS1
    refine ⟨fun σ' H4 => σ' = [some (.ref a), some (.ref ps), some (.ref l), some (.str (wordO (firstBad (Ts.map (ev S))))), some (.int (if Ts.length = 0 then 7 else tot)), some (.int cal), v6, v7, v8, v9, v10, none, none] ∧ H4 = H', ?_, ?_⟩
    · refine ⟨_, rfl, l, _, rfl, .inl (SqL.of gl), rfl, _, rfl, ?_⟩
      by_cases z : Ts.length = 0
      · refine yes (int_eq (by omega)) ⟨?_, rfl⟩
        rw [if_pos z]
        rfl
      · refine no (int_ne (by omega)) ⟨?_, rfl⟩
        rw [if_neg z]
    rintro σ' H4 ⟨rfl, rfl⟩
    have em : 1 + (((ns.map V.int).length : Nat) : Int) / 2 % 3 = ((ns.length / 2 % 3 + 1 : Nat) : Int) := by
      rw [List.length_map]
      omega
    have hm3 : ns.length / 2 % 3 + 1 ≤ 3 := by omega
    generalize ns.length / 2 % 3 = mn at em hm3
    refine ⟨_, rfl, a, _, rfl, .inl hS2, _, _, rfl, rfl, ⟨by decide, by decide⟩, _, _, rfl, rfl, d3, _, _, rfl, rfl, ?_⟩
    refine ⟨_, rfl, _, rfl, l, _, rfl, .inl (SqL.of gl), fun l2 hl2 => ?_⟩
    have s2 := same_new hl2 (.lst tv)
    refine ⟨_, rfl, a, _, rfl, .inl (s2.seq hS2), _, _, rfl, rfl, d2, rfl, l2, _, tv, Ts, rfl, upd_same, pair_tree pr s2, fun H5 vt s5 ht5 => ⟨(by show 4 ≤ sizeLine; decide), fun pt hpt => ?_⟩⟩
    generalize hleft : decide (V.int ((((ns.map V.int).length : Nat) : Int) % 2) = V.int 0) = left at ht5
    have hdp := hung_deep Ts left hdeep hl60
    have hpt' : (upd H5 pt (.tup [.str "fold", .str "add", .int (1 + (((ns.map V.int).length : Nat) : Int) / 2 % 3), vt])) pt = some (.tup [.str "fold", .str "add", .int ((mn + 1 : Nat) : Int), vt]) := by
      rw [upd_same, em]
    have s05 : Same H4 H5 := s2.trans s5
    have s6 := same_new hpt (.tup [.str "fold", .str "add", .int (1 + (((ns.map V.int).length : Nat) : Int) / 2 % 3), vt])
    generalize upd H5 pt (.tup [.str "fold", .str "add", .int (1 + (((ns.map V.int).length : Nat) : Int) / 2 % 3), vt]) = H6 at hpt' s6
    have s06 := s05.trans s6
    refine ⟨_, rfl, _, rfl, pt, ps, vt, hung Ts left, mn + 1, S, rfl, hpt', ht5.mono s6, hdp, hm3, (hst.mono s1).mono s06, fun H7 qf s7 found => ?_⟩
    have s07 := s06.trans s7
    refine ⟨_, rfl, _, rfl, a, ns, rfl, s07.seq hS2, fun H8 ps2 s8 st8 => ?_⟩
    rw [hSS] at st8
    have s08 := s07.trans s8
    have dpA : Dp K H8 (.ref ps) (datSto S) := ((hst.mono s1).mono s08).dp
    have erefl := SeqAt.eqv_refl (datSto S) (sto_lay S)
    refine ⟨datSto S, datSto S, dpA, st8.dp, sto_shaped S, sto_shaped S, _, rfl, no (by rw [erefl]; rfl) ?_⟩
    have gl8 := s08 _ _ gl
    refine ⟨_, rfl, rfl, _, rfl, ?_⟩
    cases hfb : firstBad (Ts.map (ev S)) with
    | some e =>
      have wb := whole_bad left mn hfb
      rw [wb] at found
      have f8 := s8 _ _ (show H7 qf = some (.tup [.str "refused", .str (wordB e)]) from found)
      refine yes (by show (!decide (V.str (wordB e) = V.str "")) = true; rw [wordB_ne]; rfl) ?_
      refine ⟨_, rfl, _, rfl, (by show 2 ≤ sizeLine; decide), fun u hu => ?_⟩
      have sh : SeqAt.shaped (.tuple [.str "refused", .str (wordB e)]) = true := by cases e <;> decide +kernel
      have er := SeqAt.eqv_refl _ (SeqAt.canLay_of_shaped sh)
      refine ⟨.tuple [.str "refused", .str (wordB e)], .tuple [.str "refused", .str (wordB e)], .tup (SqT.of (same_new hu _ _ _ f8)) (.cons (.str _) (.cons (.str _) .nil)), .tup (SqT.of upd_same) (.cons (.str _) (.cons (.str _) .nil)), sh, sh, ?_⟩
      show Q (.bl (PyData.eqv (.tuple [.str "refused", .str (wordB e)]) (.tuple [.str "refused", .str (wordB e)]))) _
      rw [er]
      exact k _
    | none =>
      have wo := whole_ok left mn hfb
      rw [wo] at found
      obtain ⟨t0, f1, f2⟩ := (show ∃ t, H7 qf = some (.tup [.str "told", .ref t]) ∧ H7 t = some (.tup [.int _, .int _]) from found)
      obtain ⟨q1, q2⟩ := hsum hfb
      have g1 := s8 _ _ f1
      have g2 := s8 _ _ f2
      refine no (by show (!decide (V.str "" = V.str "")) = false; decide +kernel) ?_
      have p64 : (0 : Int) < (2 : Int) ^ (64 : Int).toNat := by rw [e64]; decide
      have bm : -(2 ^ 64) < 1 + (((ns.map V.int).length : Nat) : Int) / 2 % 3 ∧ 1 + (((ns.map V.int).length : Nat) : Int) / 2 % 3 < 2 ^ 64 := by
        rw [em]
        exact ⟨by omega, by omega⟩
      refine ⟨_, rfl, _, rfl, _, _, rfl, rfl, _, rfl, l, _, rfl, .inl (SqL.of gl8), _, _, rfl, rfl, _, _, rfl, _, _, rfl, rfl, _, _, rfl, rfl, .inl bm, ?_⟩
      refine ⟨_, rfl, _, rfl, _, _, rfl, rfl, .inr bm, 2, 63, rfl, rfl, cp63, _, _, rfl, rfl, 2, 64, rfl, rfl, cp64, _, _, rfl, rfl, p64, 2, 63, rfl, rfl, cp63, _, _, rfl, rfl, ?_⟩
      refine ⟨_, rfl, _, rfl, _, rfl, (by show 2 ≤ sizeLine; decide), fun u hu => ⟨(by show 2 ≤ sizeLine; decide), fun w hw => ?_⟩⟩
      have ev1 : ((if Ts.length = 0 then 7 else tot) * (1 + (((ns.map V.int).length : Nat) : Int) / 2 % 3) + 2 ^ (63 : Int).toNat) % 2 ^ (64 : Int).toNat - 2 ^ (63 : Int).toNat =
          wrapZ ((if Ts.length = 0 then 7 else sumV (Ts.map (ev S))) * ((mn + 1 : Nat) : Int)) := by
        rw [e63, e64, em, q1]
        generalize (if Ts.length = 0 then 7 else sumV (Ts.map (ev S))) * ((mn + 1 : Nat) : Int) = y
        unfold wrapZ
        omega
      have ev2 : (1 + (((ns.map V.int).length : Nat) : Int) / 2 % 3) * (1 + cal + (if ((tv.length : Nat) : Int) - 1 > 0 then ((tv.length : Nat) : Int) - 1 else 0)) =
          ((mn + 1 : Nat) : Int) * (1 + sumC (Ts.map (ev S)) + (if 0 < (Ts.length : Int) - 1 then (Ts.length : Int) - 1 else 0)) := by
        rw [em, q2, tvl]
      have sh : ∀ x y : Int, SeqAt.shaped (.tuple [.str "told", .tuple [.int x, .int y]]) = true := fun x y => by
        simp [SeqAt.shaped, PyData.canLay0, PyData.canLayAll0, PyData.depth, PyData.depthAll]
        decide +kernel
      have mk : ∀ (x y : Int) (Hx : Hp), Q (.bl (PyData.eqv (.tuple [.str "told", .tuple [.int x, .int y]]) (.tuple [.str "told", .tuple [.int x, .int y]]))) Hx := fun x y Hx => by
        rw [SeqAt.eqv_refl _ (SeqAt.canLay_of_shaped (sh x y))]
        exact k Hx
      refine ⟨.tuple [.str "told", .tuple [.int _, .int _]], .tuple [.str "told", .tuple [.int _, .int _]], .tup (SqT.of (same_new hw _ _ _ (same_new hu _ _ _ g1))) (.cons (.str _) (.cons (.tup (SqT.of (same_new hw _ _ _ (same_new hu _ _ _ g2))) (.cons (.int _) (.cons (.int _) .nil))) .nil)),
        .tup (SqT.of upd_same) (.cons (.str _) (.cons (.tup (SqT.of ((upd_ne (ne_of_none upd_same hw)).trans (upd_same.trans (pair_eq ev1 ev2)))) (.cons (.int _) (.cons (.int _) .nil))) .nil)), sh _ _, sh _ _, mk _ _ _⟩
end
end K50
namespace K50
open PySem PySem.Spec PyProof.Rows L2 PySem.HandSPX
/-! ### what the top has left -/
def FnIn (K : PySem.W.Frag) (name : Str) (st : Stmt) (f : Addr) : Prop := (∃ (oc : Value) (od : Option Addr) (kV doc pm : Value) (an : Option Addr) (cdv ct : Value) (osl : Array (Option Value)),
  K.lookup f = some ⟨oc, od, .func (PySem.W.fnOf name name (defArgs st) (defBody st) (defScope st) .none kV doc pm an cdv ct), osl⟩ ∧ PySem.W.codeIn K cdv name = true) ∧ PySem.W.keepIn K (.ref f) = true
theorem def_of {K : PySem.W.Frag} {h : Heap} {mg : Str → Option Value} {name : Str} {st : Stmt} {ps : List Str} {f : Addr} (X : K.In h) (G : h.Ns mainGlobals mg) (a : PySem.W.nsIn K mainGlobals name = some (some (.ref f))) (H : FnIn K name st f)
    (hb : ∀ (kV doc pm : Value) (an : Option Addr) (cdv ct : Value) (us : List Value), us.length = ps.length → bindArgs (PySem.W.fnOf name name (defArgs st) (defBody st) (defScope st) .none kV doc pm an cdv ct) ⟨us, []⟩ = pure (ps.zip us)) :
    ∃ fd : FuncData, Def K mg name st ps f fd := by
  obtain ⟨⟨oc, od, kV, doc, pm, an, cdv, ct, osl, l, c⟩, k⟩ := H
  have F := fun_mk (st := st) l c k
  exact ⟨_, F, F.binds hb, PySem.W.mg_of X G a⟩
theorem kit_self {K : PySem.W.Frag} {C : Addr} : PySem.W.kitOne K (.ref C) (.ref C) = some true := by
  unfold PySem.W.kitOne
  rw [if_pos (by simp)]
theorem kit_not {K : PySem.W.Frag} {A C : Addr} (hc : PySem.W.isClsIn K C = true) (ht : PySem.W.typeIn K (.ref C) = some (.type "type")) (hs : PySem.W.subIn K (.ref C) (.ref C) = some true) (h : PySem.W.subIn K (.ref A) (.ref C) = some false) : PySem.W.kitOne K (.ref A) (.ref C) = some false := by
  have ne : A ≠ C := fun e => by
    rw [e, hs] at h
    cases h
  have e2 : ((PySem.W.clsIn K C).isSome && PySem.W.typeIn K (.ref C) == some (.type "type")) = true := by
    have hc' : (PySem.W.clsIn K C).isSome = true := hc
    rw [hc', ht]
    rfl
  unfold PySem.W.kitOne
  rw [if_neg (by simpa using ne)]
  show (if ((PySem.W.clsIn K C).isSome && PySem.W.typeIn K (.ref C) == some (.type "type")) = true then PySem.W.subIn K (.ref A) (.ref C) else none) = some false
  rw [if_pos e2]
  exact h
theorem kit_built {K : PySem.W.Frag} {A : Addr} (h : PySem.W.subIn K (.ref A) (.type "ValueError") = some true) : PySem.W.kitOne K (.ref A) (.type "ValueError") = some true := by
  unfold PySem.W.kitOne
  rw [if_neg (fun z => by have q := beq_iff_eq.mp z; cases q)]
  show (if PySem.W.kitMeta "ValueError" = true then PySem.W.subIn K (.ref A) (.type "ValueError") else none) = some true
  rw [if_pos (by decide +kernel)]
  exact h
/-- the facts of one of the two errors -/
structure ErrIn (K : PySem.W.Frag) (C CL : Addr) : Prop where
  x : PySem.W.excIn K C [.type "ValueError", .type "Exception", .type "BaseException", .type "object"] "ValueError.__new__" = true
  k : PySem.W.keepIn K (.ref C) = true
  b : PySem.W.subIn K (.ref C) (.type "BaseException") = some true
  t : PySem.W.typeIn K (.ref C) = some (.type "type")
  sL : PySem.W.subIn K (.ref C) (.ref CL) = some true
  i : PySem.W.isClsIn K C = true
  s : PySem.W.subIn K (.ref C) (.ref C) = some true
  v : PySem.W.subIn K (.ref C) (.type "ValueError") = some true
  hg : PySem.W.findIn K (.ref C) "__getattribute__" = some (some (.builtin "BaseException.__getattribute__"))
  hk : PySem.W.findIn K (.ref C) "__getattr__" = some none
  own : PySem.W.hasDictIn K C = true
  aim : PySem.W.findIn K (.ref C) "__class__" = some (some (.builtin "object.__class__"))
  get : PySem.W.specialIn K (.builtin "object.__class__") "__get__" = some (some (.builtin "getset_descriptor.__get__"))
  fit : PySem.W.takesIn K (.builtin "object.__class__") = some true
  rank : PySem.W.mroIn K C (.type "object") = some true
theorem ErrIn.exc {K : PySem.W.Frag} {C CL : Addr} (h : ErrIn K C CL) : ExcC K C := ⟨h.hg, h.hk, h.b, h.own, h.aim, h.get, h.fit, h.rank⟩
theorem all_mk {P : Program} {w : World} {K : PySem.W.Frag} {h : Heap} {mg : Str → Option Value} {fa f1 f2 f3 f4 f5 f6 f7 f8 f9 f10 f11 f12 f13 f14 f15 f16 f17 f18 f19 CL CS CN : Addr} {tL : Tok} {od1 an1 od2 an2 od3 an3 od4 an4 od5 an5 od6 an6 od7 an7 od8 an8 od9 an9 od10 an10 od11 an11 od12 an12 od13 an13 od14 an14 od15 an15 od16 an16 od17 an17 od18 an18 od19 an19 : Option Addr} {sl1 sl2 sl3 sl4 sl5 sl6 sl7 sl8 sl9 sl10 sl11 sl12 sl13 sl14 sl15 sl16 sl17 sl18 sl19 : Array (Option Value)} {oc1 kV1 dc1 pm1 cd1 ct1 oc2 kV2 dc2 pm2 cd2 ct2 oc3 kV3 dc3 pm3 cd3 ct3 oc4 kV4 dc4 pm4 cd4 ct4 oc5 kV5 dc5 pm5 cd5 ct5 oc6 kV6 dc6 pm6 cd6 ct6 oc7 kV7 dc7 pm7 cd7 ct7 oc8 kV8 dc8 pm8 cd8 ct8 oc9 kV9 dc9 pm9 cd9 ct9 oc10 kV10 dc10 pm10 cd10 ct10 oc11 kV11 dc11 pm11 cd11 ct11 oc12 kV12 dc12 pm12 cd12 ct12 oc13 kV13 dc13 pm13 cd13 ct13 oc14 kV14 dc14 pm14 cd14 ct14 oc15 kV15 dc15 pm15 cd15 ct15 oc16 kV16 dc16 pm16 cd16 ct16 oc17 kV17 dc17 pm17 cd17 ct17 oc18 kV18 dc18 pm18 cd18 ct18 oc19 kV19 dc19 pm19 cd19 ct19 : Value} (X : K.In h) (G : h.Ns mainGlobals mg) (hfa : mg "law" = some (.ref fa))
    (a1 : PySem.W.nsIn K mainGlobals "wrapped" = some (some (.ref f1))) (l1 : K.lookup f1 = some ⟨oc1, od1, .func (PySem.W.fnOf "wrapped" "wrapped" (defArgs sWrapped) (defBody sWrapped) (defScope sWrapped) .none kV1 dc1 pm1 an1 cd1 ct1), sl1⟩) (c1 : PySem.W.codeIn K cd1 "wrapped" = true) (k1 : PySem.W.keepIn K (.ref f1) = true)
    (a2 : PySem.W.nsIn K mainGlobals "worked" = some (some (.ref f2))) (l2 : K.lookup f2 = some ⟨oc2, od2, .func (PySem.W.fnOf "worked" "worked" (defArgs sWorked) (defBody sWorked) (defScope sWorked) .none kV2 dc2 pm2 an2 cd2 ct2), sl2⟩) (c2 : PySem.W.codeIn K cd2 "worked" = true) (k2 : PySem.W.keepIn K (.ref f2) = true)
    (a3 : PySem.W.nsIn K mainGlobals "twice" = some (some (.ref f3))) (l3 : K.lookup f3 = some ⟨oc3, od3, .func (PySem.W.fnOf "twice" "twice" (defArgs sTwice) (defBody sTwice) (defScope sTwice) .none kV3 dc3 pm3 an3 cd3 ct3), sl3⟩) (c3 : PySem.W.codeIn K cd3 "twice" = true) (k3 : PySem.W.keepIn K (.ref f3) = true)
    (a4 : PySem.W.nsIn K mainGlobals "neutral" = some (some (.ref f4))) (l4 : K.lookup f4 = some ⟨oc4, od4, .func (PySem.W.fnOf "neutral" "neutral" (defArgs sNeutral) (defBody sNeutral) (defScope sNeutral) .none kV4 dc4 pm4 an4 cd4 ct4), sl4⟩) (c4 : PySem.W.codeIn K cd4 "neutral" = true) (k4 : PySem.W.keepIn K (.ref f4) = true)
    (a5 : PySem.W.nsIn K mainGlobals "is_free" = some (some (.ref f5))) (l5 : K.lookup f5 = some ⟨oc5, od5, .func (PySem.W.fnOf "is_free" "is_free" (defArgs sFree) (defBody sFree) (defScope sFree) .none kV5 dc5 pm5 an5 cd5 ct5), sl5⟩) (c5 : PySem.W.codeIn K cd5 "is_free" = true) (k5 : PySem.W.keepIn K (.ref f5) = true)
    (a6 : PySem.W.nsIn K mainGlobals "inner_trees" = some (some (.ref f6))) (l6 : K.lookup f6 = some ⟨oc6, od6, .func (PySem.W.fnOf "inner_trees" "inner_trees" (defArgs sInner) (defBody sInner) (defScope sInner) .none kV6 dc6 pm6 an6 cd6 ct6), sl6⟩) (c6 : PySem.W.codeIn K cd6 "inner_trees" = true) (k6 : PySem.W.keepIn K (.ref f6) = true)
    (a7 : PySem.W.nsIn K mainGlobals "spot_at" = some (some (.ref f7))) (l7 : K.lookup f7 = some ⟨oc7, od7, .func (PySem.W.fnOf "spot_at" "spot_at" (defArgs sSpotAt) (defBody sSpotAt) (defScope sSpotAt) .none kV7 dc7 pm7 an7 cd7 ct7), sl7⟩) (c7 : PySem.W.codeIn K cd7 "spot_at" = true) (k7 : PySem.W.keepIn K (.ref f7) = true)
    (a8 : PySem.W.nsIn K mainGlobals "read_at" = some (some (.ref f8))) (l8 : K.lookup f8 = some ⟨oc8, od8, .func (PySem.W.fnOf "read_at" "read_at" (defArgs sReadAt) (defBody sReadAt) (defScope sReadAt) .none kV8 dc8 pm8 an8 cd8 ct8), sl8⟩) (c8 : PySem.W.codeIn K cd8 "read_at" = true) (k8 : PySem.W.keepIn K (.ref f8) = true)
    (a9 : PySem.W.nsIn K mainGlobals "folded_at" = some (some (.ref f9))) (l9 : K.lookup f9 = some ⟨oc9, od9, .func (PySem.W.fnOf "folded_at" "folded_at" (defArgs sFolded) (defBody sFolded) (defScope sFolded) .none kV9 dc9 pm9 an9 cd9 ct9), sl9⟩) (c9 : PySem.W.codeIn K cd9 "folded_at" = true) (k9 : PySem.W.keepIn K (.ref f9) = true)
    (a10 : PySem.W.nsIn K mainGlobals "reckoned" = some (some (.ref f10))) (l10 : K.lookup f10 = some ⟨oc10, od10, .func (PySem.W.fnOf "reckoned" "reckoned" (defArgs sReck) (defBody sReck) (defScope sReck) .none kV10 dc10 pm10 an10 cd10 ct10), sl10⟩) (c10 : PySem.W.codeIn K cd10 "reckoned" = true) (k10 : PySem.W.keepIn K (.ref f10) = true)
    (a11 : PySem.W.nsIn K mainGlobals "_law_stores" = some (some (.ref f11))) (l11 : K.lookup f11 = some ⟨oc11, od11, .func (PySem.W.fnOf "_law_stores" "_law_stores" (defArgs sStores) (defBody sStores) (defScope sStores) .none kV11 dc11 pm11 an11 cd11 ct11), sl11⟩) (c11 : PySem.W.codeIn K cd11 "_law_stores" = true) (k11 : PySem.W.keepIn K (.ref f11) = true)
    (a12 : PySem.W.nsIn K mainGlobals "_law_spot" = some (some (.ref f12))) (l12 : K.lookup f12 = some ⟨oc12, od12, .func (PySem.W.fnOf "_law_spot" "_law_spot" (defArgs sSpot) (defBody sSpot) (defScope sSpot) .none kV12 dc12 pm12 an12 cd12 ct12), sl12⟩) (c12 : PySem.W.codeIn K cd12 "_law_spot" = true) (k12 : PySem.W.keepIn K (.ref f12) = true)
    (a13 : PySem.W.nsIn K mainGlobals "_law_store" = some (some (.ref f13))) (l13 : K.lookup f13 = some ⟨oc13, od13, .func (PySem.W.fnOf "_law_store" "_law_store" (defArgs sStore) (defBody sStore) (defScope sStore) .none kV13 dc13 pm13 an13 cd13 ct13), sl13⟩) (c13 : PySem.W.codeIn K cd13 "_law_store" = true) (k13 : PySem.W.keepIn K (.ref f13) = true)
    (a14 : PySem.W.nsIn K mainGlobals "_law_outcome" = some (some (.ref f14))) (l14 : K.lookup f14 = some ⟨oc14, od14, .func (PySem.W.fnOf "_law_outcome" "_law_outcome" (defArgs sOutcome) (defBody sOutcome) (defScope sOutcome) .none kV14 dc14 pm14 an14 cd14 ct14), sl14⟩) (c14 : PySem.W.codeIn K cd14 "_law_outcome" = true) (k14 : PySem.W.keepIn K (.ref f14) = true)
    (a15 : PySem.W.nsIn K mainGlobals "_law_leaf" = some (some (.ref f15))) (l15 : K.lookup f15 = some ⟨oc15, od15, .func (PySem.W.fnOf "_law_leaf" "_law_leaf" (defArgs sLeaf) (defBody sLeaf) (defScope sLeaf) .none kV15 dc15 pm15 an15 cd15 ct15), sl15⟩) (c15 : PySem.W.codeIn K cd15 "_law_leaf" = true) (k15 : PySem.W.keepIn K (.ref f15) = true)
    (a16 : PySem.W.nsIn K mainGlobals "_law_branch" = some (some (.ref f16))) (l16 : K.lookup f16 = some ⟨oc16, od16, .func (PySem.W.fnOf "_law_branch" "_law_branch" (defArgs sBranch) (defBody sBranch) (defScope sBranch) .none kV16 dc16 pm16 an16 cd16 ct16), sl16⟩) (c16 : PySem.W.codeIn K cd16 "_law_branch" = true) (k16 : PySem.W.keepIn K (.ref f16) = true)
    (a17 : PySem.W.nsIn K mainGlobals "_law_hung" = some (some (.ref f17))) (l17 : K.lookup f17 = some ⟨oc17, od17, .func (PySem.W.fnOf "_law_hung" "_law_hung" (defArgs sHung) (defBody sHung) (defScope sHung) .none kV17 dc17 pm17 an17 cd17 ct17), sl17⟩) (c17 : PySem.W.codeIn K cd17 "_law_hung" = true) (k17 : PySem.W.keepIn K (.ref f17) = true)
    (a18 : PySem.W.nsIn K mainGlobals "_law_asked" = some (some (.ref f18))) (l18 : K.lookup f18 = some ⟨oc18, od18, .func (PySem.W.fnOf "_law_asked" "_law_asked" (defArgs sAsked) (defBody sAsked) (defScope sAsked) .none kV18 dc18 pm18 an18 cd18 ct18), sl18⟩) (c18 : PySem.W.codeIn K cd18 "_law_asked" = true) (k18 : PySem.W.keepIn K (.ref f18) = true)
    (a19 : PySem.W.nsIn K mainGlobals "law" = some (some (.ref f19))) (l19 : K.lookup f19 = some ⟨oc19, od19, .func (PySem.W.fnOf "law" "law" (defArgs sLaw) (defBody sLaw) (defScope sLaw) .none kV19 dc19 pm19 an19 cd19 ct19), sl19⟩) (c19 : PySem.W.codeIn K cd19 "law" = true) (k19 : PySem.W.keepIn K (.ref f19) = true)
    (aW : PySem.W.nsIn K mainGlobals "LOW" = some (some (.int (-9223372036854775808) tL))) (aL : PySem.W.nsIn K mainGlobals "LoomError" = some (some (.ref CL))) (aS : PySem.W.nsIn K mainGlobals "Stuck" = some (some (.ref CS))) (aN : PySem.W.nsIn K mainGlobals "NotReady" = some (some (.ref CN)))
    (eS : ErrIn K CS CL) (eN : ErrIn K CN CL) (bL : PySem.W.subIn K (.ref CL) (.type "BaseException") = some true) (dL : PySem.W.hasDictIn K CL = true) (yL : PySem.W.typeIn K (.ref CL) = some (.type "type"))
    (sn : PySem.W.subIn K (.ref CS) (.ref CN) = some false) (ns : PySem.W.subIn K (.ref CN) (.ref CS) = some false)
    (z1 : PySem.W.nsIn K mainGlobals "len" = some none)
    (z2 : PySem.W.nsIn K mainGlobals "zip" = some none)
    (z3 : PySem.W.nsIn K mainGlobals "range" = some none)
    (z4 : PySem.W.nsIn K mainGlobals "sum" = some none)
    (z5 : PySem.W.nsIn K mainGlobals "reversed" = some none)
    (z6 : PySem.W.nsIn K mainGlobals "list" = some none)
    (z7 : PySem.W.nsIn K mainGlobals "max" = some none)
    (z8 : PySem.W.nsIn K mainGlobals "isinstance" = some none)
    (z9 : PySem.W.nsIn K mainGlobals "ValueError" = some none)
    : ∃ fd : FuncData, (∀ (s : Shared) (v : Value), BindsTo s fd ⟨[v], []⟩ [("script", v)]) ∧ ∀ base : Heap, K.In base → base.Ns mainGlobals mg → FnOk P w K mg base CX0 71 fa fd ["script"] (spLaw K) := by
  have e := hfa.symm.trans (PySem.W.mg_of X G a19)
  cases e
  obtain ⟨d1, D1⟩ := def_of (ps := ["n"]) X G a1 ⟨⟨_, _, _, _, _, _, _, _, _, l1, c1⟩, k1⟩ fun _ _ _ _ _ _ us hl => match us, hl with | [_], _ => rfl
  obtain ⟨d2, D2⟩ := def_of (ps := ["word", "x", "y"]) X G a2 ⟨⟨_, _, _, _, _, _, _, _, _, l2, c2⟩, k2⟩ fun _ _ _ _ _ _ us hl => match us, hl with | [_, _, _], _ => rfl
  obtain ⟨d3, D3⟩ := def_of (ps := ["word", "x", "y"]) X G a3 ⟨⟨_, _, _, _, _, _, _, _, _, l3, c3⟩, k3⟩ fun _ _ _ _ _ _ us hl => match us, hl with | [_, _, _], _ => rfl
  obtain ⟨d4, D4⟩ := def_of (ps := ["word"]) X G a4 ⟨⟨_, _, _, _, _, _, _, _, _, l4, c4⟩, k4⟩ fun _ _ _ _ _ _ us hl => match us, hl with | [_], _ => rfl
  obtain ⟨d5, D5⟩ := def_of (ps := ["tree"]) X G a5 ⟨⟨_, _, _, _, _, _, _, _, _, l5, c5⟩, k5⟩ fun _ _ _ _ _ _ us hl => match us, hl with | [_], _ => rfl
  obtain ⟨d6, D6⟩ := def_of (ps := ["tree"]) X G a6 ⟨⟨_, _, _, _, _, _, _, _, _, l6, c6⟩, k6⟩ fun _ _ _ _ _ _ us hl => match us, hl with | [_], _ => rfl
  obtain ⟨d7, D7⟩ := def_of (ps := ["start", "strides", "at"]) X G a7 ⟨⟨_, _, _, _, _, _, _, _, _, l7, c7⟩, k7⟩ fun _ _ _ _ _ _ us hl => match us, hl with | [_, _, _], _ => rfl
  obtain ⟨d8, D8⟩ := def_of (ps := ["store", "spot"]) X G a8 ⟨⟨_, _, _, _, _, _, _, _, _, l8, c8⟩, k8⟩ fun _ _ _ _ _ _ us hl => match us, hl with | [_, _], _ => rfl
  obtain ⟨d9, D9⟩ := def_of (ps := ["tree", "at", "stores"]) X G a9 ⟨⟨_, _, _, _, _, _, _, _, _, l9, c9⟩, k9⟩ fun _ _ _ _ _ _ us hl => match us, hl with | [_, _, _], _ => rfl
  obtain ⟨d10, D10⟩ := def_of (ps := ["tree", "at", "stores"]) X G a10 ⟨⟨_, _, _, _, _, _, _, _, _, l10, c10⟩, k10⟩ fun _ _ _ _ _ _ us hl => match us, hl with | [_, _, _], _ => rfl
  obtain ⟨d11, D11⟩ := def_of (ps := ["script"]) X G a11 ⟨⟨_, _, _, _, _, _, _, _, _, l11, c11⟩, k11⟩ fun _ _ _ _ _ _ us hl => match us, hl with | [_], _ => rfl
  obtain ⟨d12, D12⟩ := def_of (ps := ["cell"]) X G a12 ⟨⟨_, _, _, _, _, _, _, _, _, l12, c12⟩, k12⟩ fun _ _ _ _ _ _ us hl => match us, hl with | [_], _ => rfl
  obtain ⟨d13, D13⟩ := def_of (ps := ["cell"]) X G a13 ⟨⟨_, _, _, _, _, _, _, _, _, l13, c13⟩, k13⟩ fun _ _ _ _ _ _ us hl => match us, hl with | [_], _ => rfl
  obtain ⟨d14, D14⟩ := def_of (ps := ["stores", "store", "spot"]) X G a14 ⟨⟨_, _, _, _, _, _, _, _, _, l14, c14⟩, k14⟩ fun _ _ _ _ _ _ us hl => match us, hl with | [_, _, _], _ => rfl
  obtain ⟨d15, D15⟩ := def_of (ps := ["cell", "stores", "grown"]) X G a15 ⟨⟨_, _, _, _, _, _, _, _, _, l15, c15⟩, k15⟩ fun _ _ _ _ _ _ us hl => match us, hl with | [_, _, _], _ => rfl
  obtain ⟨d16, D16⟩ := def_of (ps := ["cell", "stores", "grown"]) X G a16 ⟨⟨_, _, _, _, _, _, _, _, _, l16, c16⟩, k16⟩ fun _ _ _ _ _ _ us hl => match us, hl with | [_, _, _], _ => rfl
  obtain ⟨d17, D17⟩ := def_of (ps := ["rows", "left"]) X G a17 ⟨⟨_, _, _, _, _, _, _, _, _, l17, c17⟩, k17⟩ fun _ _ _ _ _ _ us hl => match us, hl with | [_, _], _ => rfl
  obtain ⟨d18, D18⟩ := def_of (ps := ["tree", "stores"]) X G a18 ⟨⟨_, _, _, _, _, _, _, _, _, l18, c18⟩, k18⟩ fun _ _ _ _ _ _ us hl => match us, hl with | [_, _], _ => rfl
  obtain ⟨d19, D19⟩ := def_of (ps := ["script"]) X G a19 ⟨⟨_, _, _, _, _, _, _, _, _, l19, c19⟩, k19⟩ fun _ _ _ _ _ _ us hl => match us, hl with | [_], _ => rfl
  have m1 := PySem.W.mg_none_of X G z1
  have m2 := PySem.W.mg_none_of X G z2
  have m3 := PySem.W.mg_none_of X G z3
  have m4 := PySem.W.mg_none_of X G z4
  have m5 := PySem.W.mg_none_of X G z5
  have m6 := PySem.W.mg_none_of X G z6
  have m7 := PySem.W.mg_none_of X G z7
  have m8 := PySem.W.mg_none_of X G z8
  have m9 := PySem.W.mg_none_of X G z9
  have gL := PySem.W.mg_of X G aW
  have TS : ExcT K mg "Stuck" CS := ⟨PySem.W.mg_of X G aS, eS.x, eS.k, eS.b, eS.t⟩
  have TN : ExcT K mg "NotReady" CN := ⟨PySem.W.mg_of X G aN, eN.x, eN.k, eN.b, eN.t⟩
  have T : ErrT K mg CL CS CN := ⟨TS, TN, PySem.W.mg_of X G aL, m9, m8, eS.exc, eN.exc, PySem.W.exm_ref bL dL yL eS.sL, PySem.W.exm_ref bL dL yL eN.sL, kit_built eS.v, kit_built eN.v, kit_self, kit_not eN.i eN.t eN.s sn, kit_not eS.i eS.t eS.s ns, kit_self⟩
  refine ⟨d19, fun s v => ?_, fun base _ _ => ?_⟩
  · obtain ⟨oc, od, kV, doc, pm, an, cdv, ct, osl, rfl, _⟩ := D19.F.ex
    exact .of_eq rfl
  have g1 := ok_wrapped (P := P) (w := w) (base := base) D1.F gL
  have g2 := ok_worked D2.F D1 g1
  have g3 := ok_twice D3.F D2 g2
  have g4 := ok_neutral (P := P) (w := w) (mg := mg) (base := base) D4.F
  have g5 := ok_free (P := P) (w := w) (mg := mg) (base := base) D5.F
  have g6 := ok_inner D6.F D5 g5
  have g7 := ok_spotAt (P := P) (w := w) (base := base) D7.F m2
  have g8 := ok_readAt (P := P) (w := w) (base := base) D8.F m1 TS TN
  have Lo : Low P w K mg base CS CN f6 f3 f7 f8 d6 d3 d7 d8 := ⟨D6, D3, D7, D8, g6, g3, g7, g8, m4⟩
  have g9 := ok_folded Lo D9.F D4 g4 D10 (reck_all Lo D10 64) m3
  have g10 := reck_top D10.F D9 g9
  have g11 := ok_stores (P := P) (w := w) (base := base) D11.F m1 m3
  have g12 := ok_spot (P := P) (w := w) (mg := mg) (base := base) D12.F
  have g13 := ok_store (P := P) (w := w) (mg := mg) (base := base) D13.F
  have g14 := ok_outcome (P := P) (w := w) (mg := mg) (base := base) D14.F
  have g15 := ok_leaf D15.F (⟨D12, D13, D14, g12, g13, g14⟩ : Leafs P w K mg base f12 f13 f14 d12 d13 d14)
  have g16 := ok_branch D16.F D15 g15
  have g17 := ok_hung (P := P) (w := w) (base := base) D17.F m1 m5
  have g18 := ok_asked D18.F D10 g10 T
  exact ok_law D19.F (⟨D11, D16, D17, D18, g11, g16, g17, g18, m1, m6, m7⟩ : High P w K mg base f11 f16 f17 f18 d11 d16 d17 d18)
/-- the law row's walk -/
theorem walk {l : PySem.W.OpenLaw} {q : Program} {loose : List Str} {XP : (Str → Option Value) → Heap → Prop} {YP : World → Heap → Prop} {d : DefRec} {K : Params → PySem.W.Frag} (hn : l.most = some 63) (hdf : d.params.defaults = [])
    (hY : ∀ (w : World) (h : Heap), YP w h → (K w.params).In h)
    (F : ∀ (w : World) (mg : Str → Option Value) (fa : Addr) (h : Heap), (K w.params).In h → h.Ns mainGlobals mg → mg d.name = some (.ref fa) →
      ∃ fd : FuncData, (∀ (s : Shared) (u : Value), BindsTo s fd ⟨[u], []⟩ [("script", u)]) ∧ ∀ base : Heap, (K w.params).In base → base.Ns mainGlobals mg → FnOk l.prog w (K w.params) mg base CX0 71 fa fd ["script"] (spLaw (K w.params))) :
    PySem.W.WalkO q loose XP YP l.row.toRowW d [] (fun f vs => PySem.call f vs) :=
  L2.walk_of (n := 63) (k := 71) (x := "script") (CX := fun _ => CX0) (sp := fun w => spLaw (K w.params)) hn (by decide) hdf ⟨rfl, by decide, by decide⟩ hY F (fun _ _ a ns hl _ hS => ⟨a, ns, rfl, hS, fun _ => rfl⟩) fun _ _ _ _ _ z => z
end K50
open PySem PySem.W PyProof.Rows
set_option maxRecDepth 100000 in
set_option maxHeartbeats 0 in
theorem PySem.Challenge.cw_sideloom_k50_whole_row_of_reads_holds : PySem.Challenge.rw_sideloom_k50_whole_row_of_reads.Holds := by
  w_on; o_law; k_head; (case hw => w_witness2)
  k_fill
  refine K50.walk (l := PySem.Challenge.rw_sideloom_k50_whole_row_of_reads) rfl rfl (fun w h Y => PySem.W.kIn_of Y) ?F
  case F =>
    intro w mg fa h KX G hmg
    refine' K50.all_mk KX G hmg ?a1 ?l1 ?c1 ?k1 ?a2 ?l2 ?c2 ?k2 ?a3 ?l3 ?c3 ?k3 ?a4 ?l4 ?c4 ?k4 ?a5 ?l5 ?c5 ?k5 ?a6 ?l6 ?c6 ?k6 ?a7 ?l7 ?c7 ?k7 ?a8 ?l8 ?c8 ?k8 ?a9 ?l9 ?c9 ?k9 ?a10 ?l10 ?c10 ?k10 ?a11 ?l11 ?c11 ?k11 ?a12 ?l12 ?c12 ?k12 ?a13 ?l13 ?c13 ?k13 ?a14 ?l14 ?c14 ?k14 ?a15 ?l15 ?c15 ?k15 ?a16 ?l16 ?c16 ?k16 ?a17 ?l17 ?c17 ?k17 ?a18 ?l18 ?c18 ?k18 ?a19 ?l19 ?c19 ?k19 ?aW ?aL ?aS ?aN ?eS ?eN ?bL ?dL ?yL ?sn ?ns ?z1 ?z2 ?z3 ?z4 ?z5 ?z6 ?z7 ?z8 ?z9
    (case a1 => k_is); (case l1 => k_is); (case c1 => k_is); (case k1 => k_is)
    (case a2 => k_is); (case l2 => k_is); (case c2 => k_is); (case k2 => k_is)
    (case a3 => k_is); (case l3 => k_is); (case c3 => k_is); (case k3 => k_is)
    (case a4 => k_is); (case l4 => k_is); (case c4 => k_is); (case k4 => k_is)
    (case a5 => k_is); (case l5 => k_is); (case c5 => k_is); (case k5 => k_is)
    (case a6 => k_is); (case l6 => k_is); (case c6 => k_is); (case k6 => k_is)
    (case a7 => k_is); (case l7 => k_is); (case c7 => k_is); (case k7 => k_is)
    (case a8 => k_is); (case l8 => k_is); (case c8 => k_is); (case k8 => k_is)
    (case a9 => k_is); (case l9 => k_is); (case c9 => k_is); (case k9 => k_is)
    (case a10 => k_is); (case l10 => k_is); (case c10 => k_is); (case k10 => k_is)
    (case a11 => k_is); (case l11 => k_is); (case c11 => k_is); (case k11 => k_is)
    (case a12 => k_is); (case l12 => k_is); (case c12 => k_is); (case k12 => k_is)
    (case a13 => k_is); (case l13 => k_is); (case c13 => k_is); (case k13 => k_is)
    (case a14 => k_is); (case l14 => k_is); (case c14 => k_is); (case k14 => k_is)
    (case a15 => k_is); (case l15 => k_is); (case c15 => k_is); (case k15 => k_is)
    (case a16 => k_is); (case l16 => k_is); (case c16 => k_is); (case k16 => k_is)
    (case a17 => k_is); (case l17 => k_is); (case c17 => k_is); (case k17 => k_is)
    (case a18 => k_is); (case l18 => k_is); (case c18 => k_is); (case k18 => k_is)
    (case a19 => k_is); (case l19 => k_is); (case c19 => k_is); (case k19 => k_is)
    (case aW => k_is); (case aL => k_is); (case aS => k_is); (case aN => k_is)
    (case eS => refine' ⟨?eS_x, ?eS_k, ?eS_b, ?eS_t, ?eS_sL, ?eS_i, ?eS_s, ?eS_v, ?eS_hg, ?eS_hk, ?eS_hd, ?eS_ha, ?eS_hn, ?eS_ht, ?eS_hm⟩; (case eS_x => k_exc); (case eS_s => first | rfl | k_is); (all_goals k_is))
    (case eN => refine' ⟨?eN_x, ?eN_k, ?eN_b, ?eN_t, ?eN_sL, ?eN_i, ?eN_s, ?eN_v, ?eN_hg, ?eN_hk, ?eN_hd, ?eN_ha, ?eN_hn, ?eN_ht, ?eN_hm⟩; (case eN_x => k_exc); (case eN_s => first | rfl | k_is); (all_goals k_is))
    (case bL => k_is); (case dL => k_is); (case yL => k_is); (case sn => k_is); (case ns => k_is)
    (case z1 => k_is); (case z2 => k_is); (case z3 => k_is); (case z4 => k_is); (case z5 => k_is); (case z6 => k_is); (case z7 => k_is); (case z8 => k_is); (case z9 => k_is)
#print axioms PySem.Challenge.cw_sideloom_k50_whole_row_of_reads_holds
