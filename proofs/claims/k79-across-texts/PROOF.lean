import PyProof.Rows.All
import Wide.All
import OpenK.AllK
import Wide.FinOn
import HandS.ForMost
import HandS.ForExc
import HandS.AnyAll
import HandS.GenOver
import PyProof.GenQ
import HandS.TupLe
import HandS.SortOrd
import HandS.Wide
import HandS.TupAny
import HandS.TupMul
import HandS.Style
import HandS.Deep
import HandS.Text
import HandS.Star
import HandS.Conv
import HandS.IsInst
import HandS.Gcd
import HandS.SortInts
import HandS.FStr
import HandS.RevTup
import HandS.Codes
import HandS.SetFor
import HandS.WordsExc
import HandS.ReplaceLit
import HandS.TupSets
import HandS.Head0
import HandS.Head1
import HandS.Head2
import HandS.HeadEnd
import HandS.HeadHook1
import HandS.HeadHook2
import HandS.HeadHook3
import HandS.HeadHook4
import HandS.HeadWalk
import PyProof.StrLawsReplace
import PyProof.StrLawsTight
import PyProof.StrLawsJoin
import PySem.Challenge.RW_foescome_k79_across_texts
set_option Elab.async false
set_option linter.all false
set_option maxRecDepth 100000
set_option maxHeartbeats 2000000
/-! Dy2: any, all, sum of a generator expression whose element, tests and target are walked by the layer's rules (calls within are allowed). -/
namespace Dy
open PySem PySem.Spec PyProof.Rows L2

/-- the context of a generator expression's body -/
abbrev gcx (X : Cx) (s : Shared) (H : Hp) (cenv : Env) (A : Around) (fp : List Addr) : Cx :=
  { X with A := A, s_0 := s, H_0 := H, env := cenv, outer := X.stack, stack := cenv :: X.stack, ex := fp, fn := fun _ => false, calm := true, pn := [], xe := fun _ _ => False }

/-- what the consumer does while the generator sleeps: its own objects Ss may change -/
structure Slp (Ss : List Addr) (s s' : Shared) : Prop where
  os : s'.os = s.os
  bare : AllBare s'.gens
  keep : ∀ b o, b ∉ Ss → s.heap.get? b = some o → s'.heap.get? b = some o
  own : ∀ b ∈ Ss, ∃ o, s'.heap.get? b = some o ∧ ∀ v, o.data ≠ .cell v

structure SsOk (G : Cx) (gp : List (Addr × Obj)) (Ss : List Addr) : Prop where
  lo : ∀ b ∈ Ss, G.s_0.heap.objs.size ≤ b
  nL : ∀ b ∈ Ss, b ≠ G.env.locals
  nF : ∀ b ∈ Ss, b ∉ G.fs
  nC : ∀ b ∈ Ss, ∀ x c, G.env.cells.lookup x = some c → c ≠ b
  nP : ∀ b ∈ Ss, ∀ p ∈ G.pn ++ gp, p.1 ≠ b

theorem slept {G : Cx} {gp : List (Addr × Obj)} {Ss : List Addr} {σ : L2.St} {H : Hp} {s s' : Shared} {h0 : Heap} (I : Inv G (gp ++ pinsAt Ss h0) σ H s) (ok : SsOk G gp Ss) (hH : ∀ b ∈ Ss, H b = none) (z : Slp Ss s s') : Inv G (gp ++ pinsAt Ss s'.heap) σ H s' := by
  obtain ⟨hh, g, d, t, o⟩ := s'
  have ho : o = s.os := z.os
  subst ho
  have I0 : Inv G gp σ H s := I.pins_of fun p hp => I.pin p (List.mem_append_right _ (List.mem_append_left _ hp))
  have nt : ∀ b u, H b = some u → b ∉ Ss := fun b u e hb => by rw [hH b hb] at e; cases e
  have J : Inv G gp σ H { s with heap := hh, gens := g, drawn := d, toks := t } := by
    refine I0.step (g' := g) (t' := t) (d' := d) (ch := Ss) (fun b hb => ⟨.inr (ok.lo b hb), ok.nL b hb, fun x c e => ok.nC b hb x c e, fun p hp => ok.nP b hb p hp⟩)
      (fun b ob _ _ hc q _ => z.keep b ob hc q) (fun b ob _ _ hc q _ => ⟨ob.slots, z.keep b ob hc q⟩) (fun _ _ _ _ n => n) (fun b ob hc q => ⟨ob, z.keep b ob hc q⟩)
      (fun _ _ q => q) (fun _ _ _ q => q) (fun b ps q => ⟨#[], by rw [q]; simp⟩) (fun m hm => ?_) (fun b u q => ?_) z.bare
    · obtain ⟨ob, es, ep, hob, r⟩ := hm
      exact ⟨ob, es, ep, z.keep _ ob (fun hc => ok.nL _ hc rfl) hob, r⟩
    · refine (I0.hok b u q).stay (fun c v hc y => z.keep c v ?_ y) (fun _ y => y) fun _ _ y => y
      rcases hc with y | y
      · rw [y]; exact nt b u q
      · exact nt c _ y
  refine J.pins_of fun p hp => ?_
  rcases List.mem_append.mp hp with hp | hp
  · exact J.pin p (List.mem_append.mpr (.inr hp))
  · obtain ⟨hb, e⟩ := of_pinsAt hp
    refine ⟨e, hH _ hb, ok.nL _ hb, ok.nF _ hb, fun v q => ?_⟩
    obtain ⟨o', e', nc⟩ := z.own _ hb
    have e2 : hh.get? p.1 = some p.2 := e
    have e3 : hh.get? p.1 = some o' := e'
    rw [e2] at e3; cases e3
    exact nc v q

/-- a generator expression's protocol: at a yield -/
def GYd (G : Cx) (gp : List (Addr × Obj)) (Ss : List Addr) (σw : L2.St) (N0 : Nat) (cons : Nat → V → Hp → (Hp → Prop) → Prop) : Protocol := fun n s0 v s kap =>
  ∃ (y : V) (H : Hp) (Nx : Hp → Prop), Inv G (gp ++ pinsAt Ss s0.heap) σw H s ∧ RelV y v ∧ cons (N0 - 1 - n) y H Nx ∧ ∀ s', Slp Ss s s' → Nx H → kap (.send .none) s'
def GRt (G : Cx) (gp : List (Addr × Obj)) (Ss : List Addr) (σw : L2.St) (N0 : Nat) (fin : Nat → Hp → Prop) : GenEnd := fun n s0 r s =>
  r = .ok .next ∧ ∃ H, Inv G (gp ++ pinsAt Ss s0.heap) σw H s ∧ fin (N0 - n) H

/-- the reading of the loop: W by the turn, the yields so far, a measure -/
def GTurn (J : It) (g : TG) (tt : TT) (te : TE) (vs : List Nat) (σ : L2.St) (cons : Nat → V → Hp → (Hp → Prop) → Prop) (fin : Nat → Hp → Prop) (W : Nat → Nat → Nat → Hp → Prop) : Prop :=
  ∀ i j m H, W i j m H → (J.stop i H ∧ fin j H) ∨ (J.go i H ∧ ∃ Nx Ny : Hp → Prop, (∀ H', Nx H' → ∃ m', m' < m ∧ W (i + 1) j m' H') ∧ (∀ H', Ny H' → ∃ m', m' < m ∧ W (i + 1) (j + 1) m' H') ∧
    ∀ x H', J.yld i H x H' → g x (wipe σ vs) H' fun σ2 H2 => wipe σ2 vs = wipe σ vs ∧ tt σ2 H2 fun b H3 => if b = true then te σ2 H3 fun y H4 => cons j y H4 Ny else Nx H3)

section
variable {X : Cx} {s4 : Shared} {H4 : Hp} {cenv : Env} {fp : List Addr} {elt tg iter : Expr} {ifs : List Expr} {scope : Scope} {pos : Pos} {it : Addr} {A1 : Around}
theorem gen_loop {gp : List (Addr × Obj)} {Ss : List Addr} {σ : L2.St} {vs : List Nat} {N0 : Nat} {J : It} {g : TG} {tt : TT} {te : TE} {cons : Nat → V → Hp → (Hp → Prop) → Prop} {fin : Nat → Hp → Prop} {W : Nat → Nat → Nat → Hp → Prop} {tn : Nat → Heap → Prop}
    (hco : cenv.scope.isCoroutine = false) (T : Turn X.prog X.w X.K tg J fp it tn)
    (ok : SsOk (gcx X s4 H4 cenv (A1.over (.compLoop (.GeneratorExp elt [⟨tg, iter, ifs, 0⟩] scope pos) 0 (.ref it) .none cenv) []) fp) gp Ss)
    (nfS : ∀ b ∈ fp, b ∉ Ss) (nfG : ∀ b ∈ fp, ∀ p ∈ gp, p.1 ≠ b)
    (hg : PG (gcx X s4 H4 cenv (A1.over (.compLoop (.GeneratorExp elt [⟨tg, iter, ifs, 0⟩] scope pos) 0 (.ref it) .none cenv) []) fp) tg g)
    (ht : PTs (gcx X s4 H4 cenv (A1.over (.compLoop (.GeneratorExp elt [⟨tg, iter, ifs, 0⟩] scope pos) 0 (.ref it) .none cenv) []) fp) ifs tt)
    (he : PE (gcx X s4 H4 cenv (A1.over (.compLoop (.GeneratorExp elt [⟨tg, iter, ifs, 0⟩] scope pos) 0 (.ref it) .none cenv) []) fp) elt te)
    (turn : GTurn J g tt te vs σ cons fin W) : ∀ (m n i j : Nat) (s0 s : Shared) (H : Hp), n + j = N0 → m < n → (∀ b ∈ Ss, ∃ o, s0.heap.get? b = some o) → W i j m H →
      Inv (gcx X s4 H4 cenv (A1.over (.compLoop (.GeneratorExp elt [⟨tg, iter, ifs, 0⟩] scope pos) 0 (.ref it) .none cenv) []) fp) (gp ++ pinsAt Ss s0.heap) (wipe σ vs) H s → tn i s.heap → (∀ b ∈ fp, H b = none) →
      Seg (model X.prog X.w) A1 (GRt (gcx X s4 H4 cenv (A1.over (.compLoop (.GeneratorExp elt [⟨tg, iter, ifs, 0⟩] scope pos) 0 (.ref it) .none cenv) []) fp) gp Ss (wipe σ vs) N0 fin)
        (GYd (gcx X s4 H4 cenv (A1.over (.compLoop (.GeneratorExp elt [⟨tg, iter, ifs, 0⟩] scope pos) 0 (.ref it) .none cenv) []) fp) gp Ss (wipe σ vs) N0 cons) n s0
        (.compLoop (.GeneratorExp elt [⟨tg, iter, ifs, 0⟩] scope pos) 0 (.ref it) .none cenv)
        ((model X.prog X.w).den (.compLoop (.GeneratorExp elt [⟨tg, iter, ifs, 0⟩] scope pos) 0 (.ref it) .none cenv)) [] s := by
  generalize hG : gcx X s4 H4 cenv (A1.over (.compLoop (.GeneratorExp elt [⟨tg, iter, ifs, 0⟩] scope pos) 0 (.ref it) .none cenv) []) fp = G at ok hg ht he ⊢
  have gA : A1.over (.compLoop (.GeneratorExp elt [⟨tg, iter, ifs, 0⟩] scope pos) 0 (.ref it) .none cenv) [] = G.A := by rw [← hG]
  have gP : G.prog = X.prog := by rw [← hG]
  have gW : G.w = X.w := by rw [← hG]
  have gK : G.K = X.K := by rw [← hG]
  have gc : G.calm = true := by rw [← hG]
  have gex : G.ex = fp := by rw [← hG]
  have gen : G.env = cenv := by rw [← hG]
  have gxe : G.xe = fun _ _ => False := by rw [← hG]
  have gpn : G.pn = [] := by rw [← hG]
  have stat : ∀ {pins : List (Addr × Obj)} {σ' : L2.St} {H' : Hp} {s' : Shared}, Inv G pins σ' H' s' → (∀ b ∈ fp, H' b = none) → (∀ p ∈ pins, p.1 ∉ fp) → ∀ b ∈ fp, FpOk G pins H' b := fun {pins σ' H' s'} I' hn hp b hb => by
    have hx : b ∈ G.ex := by rw [gex]; exact hb
    refine ⟨hn b hb, (I'.ok.exf b hx).1, I'.ok.exfs b hx, .inl hx, fun x c e => (I'.ok.exf b hx).2 x c e, fun p hpp z => ?_⟩
    rw [gpn, List.nil_append] at hpp
    exact hp p hpp (by rw [z]; exact hb)
  have pinsOk : ∀ (h : Heap) (p : Addr × Obj), p ∈ gp ++ pinsAt Ss h → p.1 ∉ fp := fun h p hp hb => by
    rcases List.mem_append.mp hp with hp | hp
    · exact nfG _ hb p hp rfl
    · exact nfS _ hb (of_pinsAt hp).1
  intro m
  induction m using Nat.strongRecOn with
  | ind m ih =>
  intro n i j s0 s H hnj hmn hS0 hW I st hfp
  show Seg _ A1 _ _ n s0 _ ((compTurn (.GeneratorExp elt [⟨tg, iter, ifs, 0⟩] scope pos) 0 (.ref it) .none cenv).onRaise (leaving cenv)) [] s
  rw [compTurn_gen, Sem.onRaise_eq_wrap]
  refine seg_bind_wrap (wpAny_standAt ?_)
  refine seg_bind_wrap ?_
  rw [gA]
  rcases turn i j m H hW with ⟨stop, qf⟩ | ⟨go, Nx, Ny, hNx, hNy, step⟩
  · have td := T.done G gP gW gK gc i _ s _ H (fun _ _ => False) I (stat I hfp (pinsOk _)) st stop
    refine thnF td fun r s6 ⟨hr, I6⟩ => ?_
    subst hr
    refine seg_end (.ok .next) ⟨rfl, H, I6, ?_⟩
    have e : N0 - n = j := by omega
    rw [e]
    exact qf
  · have ti := T.item G gP gW gK gc i _ s _ H (fun _ _ => False) I (stat I hfp (pinsOk _)) st go
    refine thnF ti fun r s6 ⟨u, hr, h6⟩ => ?_
    subst hr
    refine seg_bind_wrap ?_
    rw [gA]
    refine thnF h6 fun _ s7 ⟨x, H7, I7, r7, y7, st7, n7⟩ => ?_
    have I7' := I7.pinned (stat I7 n7 (pinsOk _)) (T.obj _ _ st7)
    refine seg_bind_wrap ?_
    rw [gA]
    have pgr := hg.run _ s7 _ H7 x u _ I7' r7 (step x H7 y7)
    rw [gP, gW, gxe, gen] at pgr
    refine thnF pgr fun _ s8 ⟨σ8, H8, I8, hw8, q8⟩ => ?_
    refine seg_bind_wrap ?_
    rw [gA]
    have ptr := ht.run _ s8 σ8 H8 _ I8 q8
    rw [gP, gW, gxe, gen] at ptr
    refine thnF ptr fun b s9 ⟨H9, I9, q9⟩ => ?_
    have hl : (wipe σ vs).length = σ8.length := by rw [← hw8, wipe_length]
    -- the turn's end
    have fine : ∀ {s' : Shared} {H' : Hp}, Inv G ((gp ++ pinsAt Ss s0.heap) ++ pinsAt fp s7.heap) σ8 H' s' → Inv G (gp ++ pinsAt Ss s0.heap) (wipe σ vs) H' s' ∧ tn (i + 1) s'.heap ∧ ∀ b ∈ fp, H' b = none := fun {s' H'} I' => by
      have pin' : ∀ b ∈ fp, ∀ o, s7.heap.get? b = some o → s'.heap.get? b = some o ∧ H' b = none := fun b hb o e =>
        let z := I'.pin (b, o) (List.mem_append_right _ (List.mem_append_right _ (mem_pinsAt hb e)))
        ⟨z.1, z.2.1⟩
      refine ⟨(I'.unpinned (pins := gp ++ pinsAt Ss s0.heap)).weak hl (fun jj v e => ?_), T.keep _ _ _ st7 fun b hb o e => (pin' b hb o e).1, fun b hb => ?_⟩
      · rw [← hw8] at e
        exact (wipe_some e).1
      · obtain ⟨o, e, _⟩ := T.obj _ _ st7 b hb
        exact (pin' b hb o e).2
    cases b with
    | false =>
      simp only [Bool.false_eq_true, if_false] at q9 ⊢
      obtain ⟨J1, J2, J3⟩ := fine I9
      obtain ⟨m', hm, w'⟩ := hNx H9 q9
      exact seg_again rfl (ih m' hm n (i + 1) j s0 s9 H9 hnj (by omega) hS0 w' J1 J2 J3)
    | true =>
      simp only [if_true] at q9 ⊢
      have hy : ∀ v, yieldOut cenv v = yieldValue v := fun v => by simp only [yieldOut, hco, Bool.false_eq_true, if_false]
      simp only [hy]
      rw [Sem.bind_eq_wrap', Sem.bind_eq_wrap', Sem.wrap_wrap, Sem.wrap_wrap]
      refine seg_wrap ?_
      rw [gA]
      have per := he.run _ s9 σ8 H9 _ I9 q9
      rw [gP, gW, gxe, gen] at per
      refine thnF per fun z s10 ⟨yv, H10, I10, r10, q10⟩ => ?_
      obtain ⟨J1, J2, J3⟩ := fine I10
      obtain ⟨n', rfl⟩ : ∃ n', n = n' + 1 := ⟨n - 1, by omega⟩
      refine seg_at (seg_yield rfl rfl rfl ⟨yv, H10, Ny, J1, r10, ?_, fun s' zz ny => ?_⟩)
      · have e : N0 - 1 - n' = j := by omega
        rw [e]
        exact q10
      · obtain ⟨m', hm, w'⟩ := hNy H10 ny
        have hS : ∀ b ∈ Ss, H10 b = none := fun b hb => by
          obtain ⟨o, e⟩ := hS0 b hb
          exact (J1.pin (b, o) (List.mem_append_right _ (List.mem_append_right _ (mem_pinsAt hb e)))).2.1
        refine seg_again rfl (ih m' hm n' (i + 1) (j + 1) s' s' H10 (by omega) (by omega) (fun b hb => let ⟨o, e, _⟩ := zz.own b hb; ⟨o, e⟩) w' (slept J1 ok hS zz) (T.keep _ _ _ J2 fun b hb o e => zz.keep b o (nfS b hb) e) J3)
end
end Dy
set_option Elab.async false
set_option linter.all false
set_option maxRecDepth 100000
set_option maxHeartbeats 2000000
namespace Dy
open PySem PySem.Spec PyProof.Rows L2

section
variable {X : Cx} {pins : List (Addr × Obj)} {σ : L2.St} {elt tg iter : Expr} {ifs : List Expr} {scope : Scope} {pos : Pos}

theorem gen_start {s4 : Shared} {H4 : Hp} {cenv : Env} {fp : List Addr} {it : Addr} {A1 : Around} {gp : List (Addr × Obj)} {Ss : List Addr} {vs : List Nat} {N0 : Nat} {J : It} {g : TG} {tt : TT} {te : TE} {cons : Nat → V → Hp → (Hp → Prop) → Prop} {fin : Nat → Hp → Prop} {W : Nat → Nat → Nat → Hp → Prop} {tn : Nat → Heap → Prop}
    (hco : cenv.scope.isCoroutine = false) (T : Turn X.prog X.w X.K tg J fp it tn)
    (ok : SsOk (gcx X s4 H4 cenv (A1.over (.compLoop (.GeneratorExp elt [⟨tg, iter, ifs, 0⟩] scope pos) 0 (.ref it) .none cenv) []) fp) gp Ss)
    (nfS : ∀ b ∈ fp, b ∉ Ss) (nfG : ∀ b ∈ fp, ∀ p ∈ gp, p.1 ≠ b)
    (hg : PG (gcx X s4 H4 cenv (A1.over (.compLoop (.GeneratorExp elt [⟨tg, iter, ifs, 0⟩] scope pos) 0 (.ref it) .none cenv) []) fp) tg g)
    (ht : PTs (gcx X s4 H4 cenv (A1.over (.compLoop (.GeneratorExp elt [⟨tg, iter, ifs, 0⟩] scope pos) 0 (.ref it) .none cenv) []) fp) ifs tt)
    (he : PE (gcx X s4 H4 cenv (A1.over (.compLoop (.GeneratorExp elt [⟨tg, iter, ifs, 0⟩] scope pos) 0 (.ref it) .none cenv) []) fp) elt te)
    (turn : GTurn J g tt te vs σ cons fin W) {m n : Nat} {s : Shared} {H : Hp} (hn : n = N0) (hmn : m < n) (hS0 : ∀ b ∈ Ss, ∃ o, s.heap.get? b = some o) (hW : W 0 0 m H)
    (I : Inv (gcx X s4 H4 cenv (A1.over (.compLoop (.GeneratorExp elt [⟨tg, iter, ifs, 0⟩] scope pos) 0 (.ref it) .none cenv) []) fp) (gp ++ pinsAt Ss s.heap) (wipe σ vs) H s) (st : tn 0 s.heap) (hfp : ∀ b ∈ fp, H b = none) :
    (GenState.fresh (.compStart (.GeneratorExp elt [⟨tg, iter, ifs, 0⟩] scope pos) 0 (.ref it) .none cenv)).Goes (model X.prog X.w) A1
      (GRt (gcx X s4 H4 cenv (A1.over (.compLoop (.GeneratorExp elt [⟨tg, iter, ifs, 0⟩] scope pos) 0 (.ref it) .none cenv) []) fp) gp Ss (wipe σ vs) N0 fin)
      (GYd (gcx X s4 H4 cenv (A1.over (.compLoop (.GeneratorExp elt [⟨tg, iter, ifs, 0⟩] scope pos) 0 (.ref it) .none cenv) []) fp) gp Ss (wipe σ vs) N0 cons) n (.send .none) s := by
  have loop := gen_loop (pos := pos) hco T ok nfS nfG hg ht he turn m n 0 0 s s H (by omega) hmn hS0 hW I st hfp
  refine ⟨rfl, ?_⟩
  show Seg _ A1 _ _ n s _ ((compStart (.GeneratorExp elt [⟨tg, iter, ifs, 0⟩] scope pos) 0 (.ref it) .none cenv).onRaise (leaving cenv)) [] s
  unfold compStart
  rw [Sem.onRaise_eq_wrap]
  show Seg _ A1 _ _ n s _ ((ask >>= _).wrap _ _ _ _) [] s
  refine seg_bind_wrap (wpAny_askSetting ?_)
  split
  · exact seg_again rfl loop
  · refine seg_bind_wrap (wpAny_rule ?_)
    show Seg _ A1 _ _ n s _ ((standAt iter.pos >>= _).wrap _ _ _ _) [] s
    exact seg_bind_wrap (wpAny_standAt (seg_bind_wrap (T.self _ 0 _ _ _ st (seg_again rfl loop))))

/-- what stands when a generator expression has been made -/
structure GPk (X : Cx) (pins : List (Addr × Obj)) (σ : L2.St) (own : List Nat) (scope : Scope) (e tg : Expr) (J : It) (H : Hp) (a : Addr) (s5 : Shared) : Prop where
  ex : ∃ (s4 : Shared) (code : Value) (fp : List Addr) (it : Addr) (tn : Nat → Heap → Prop) (go : Obj),
    Inv X pins σ H s4 ∧ (∀ b ∈ fp, FpOk X pins H b ∧ b < s4.heap.objs.size) ∧ Turn X.prog X.w X.K tg J fp it tn ∧ tn 0 s5.heap ∧
    (∀ A' : Around, A'.handled = none → A'.frames = some (genEnv scope (cloFrom X.env.cells scope.names []) s4.heap.objs.size code builtinsNs X.env :: X.stack) →
      Inv (gcx X s4 H (genEnv scope (cloFrom X.env.cells scope.names []) s4.heap.objs.size code builtinsNs X.env) A' fp) [(a, go)] (wipe σ own) H s5) ∧
    s5.gens[s4.gens.size]? = some (.fresh (.compStart e 0 (.ref it) .none (genEnv scope (cloFrom X.env.cells scope.names []) s4.heap.objs.size code builtinsNs X.env))) ∧
    s5.heap.get? a = some go ∧ s5.heap.IsGen a s4.gens.size ∧ s5.heap.NoLimit ∧ s4.heap.objs.size < a ∧ s5.heap.objs.size = a + 1

theorem gen_make {c P : Addr} {own : List (Str × Nat)} {wi : TI} {k : Nat} {H : Hp} {s : Shared} {R : It → Hp → Prop} {Q' : Value → Shared → Prop}
    (hr : Room k X.A) (hcl : X.calm = true) (TB : GxR.TabB X.base X.mg c P) (hcode : X.env.code = .ref c) (ok : BlkOk X.N X.env.scope scope own) (hN : X.N.Nodup) (hco : scope.isCoroutine = false) (hcell : ∀ y ∈ scope.names, y.2 ≠ .cell)
    (hdot : scope.names.lookup (".0" : Str) = some NameKind.local) (hi : PI X tg iter wi) (hs : ∀ v, genFold iter X.env v = pure v) (I : Inv X pins σ H s)
    (h : wi σ H fun J H1 => GxR.TabG H1 P ∧ ∀ H2, GxR.Tabbed P H1 H2 → R J H2)
    (hQ : ∀ J H2 a s5, R J H2 → GPk X pins σ (own.map (·.2)) scope (.GeneratorExp elt [⟨tg, iter, ifs, 0⟩] scope pos) tg J H2 a s5 → Q' (.ref a) s5) :
    wpAny (model X.prog X.w) X.A (eval (.GeneratorExp elt [⟨tg, iter, ifs, 0⟩] scope pos) X.env) Q' X.xe s := by
  have hfree : ∀ y ∈ scope.names, y.2 = .free → ∃ c, X.env.cells.lookup y.1 = some c := fun y hy e => by
    rcases ok.free y hy e with k | k
    · exact I.ok.has _ (.inl k)
    · exact I.ok.has _ (.inr k)
  refine wpAny_GeneratorExp_make hco (closure_ok hfree) hcell hdot ok.kind (by have := hr.dp; omega) ?_ hs
  refine thn (hi.run pins s σ H _ I h) fun xv s1 hx => thn hx fun itv s2 h2 => ?_
  obtain ⟨it, fp, tn, J, H1, rfl, I1, T, st1, f1, ⟨ps, hP, ht⟩, q⟩ := h2
  have hPs : s2.heap.get? P = some { cls := .none, data := .fields ps } := I1.hok P _ hP
  have cd : PySem.W.CodeHd s2.heap c P := TB.code.keeps fun b u e => I1.bk b u e
  obtain ⟨bm, ob, e1, e2, e3, e4, e5, e6, e7, e8⟩ := TB.bm
  have hcP : cStatics ≠ P := fun e => by
    obtain ⟨_, hns, _⟩ := I1.nolimit
    obtain ⟨o', es, ep, ho, hd, _⟩ := hns
    rw [e, hPs] at ho
    cases ho
    cases hd
  have nfP : ∀ b ∈ fp, b ≠ P := fun b hb z => by
    have := (f1 b hb).1
    rw [z, hP] at this; cases this
  refine ⟨I1.nolimit, ?_⟩
  have cont : ∀ (code : Value) (h3 : Heap) (tk : Nat) (ps' : Array Value), Heap.ExtBut P s2.heap h3 → s2.heap.objs.size ≤ h3.objs.size → h3.get? P = some { cls := .none, data := .fields ps' } → (∃ more, ps' = ps ++ more) → TriplesOk ps'.toList →
      wpAny (model X.prog X.w) X.A (builtinsFor X.env.globals X.env.builtins) (fun bi s₄ => ∀ h', h'.Ns s₄.heap.objs.size (fun y => if y = ".0" then some (Value.ref it) else none) → Heap.SameBut s₄.heap.objs.size (s₄.heap.push { cls := .type "frame", data := .dict #[] }) h' →
          Q' (.ref h'.objs.size) { s₄ with
            gens := s₄.gens.push (.fresh (.compStart (.GeneratorExp elt [⟨tg, iter, ifs, 0⟩] scope pos) 0 (.ref it) .none (genEnv scope (cloFrom X.env.cells scope.names []) s₄.heap.objs.size code bi X.env))),
            toks := s₄.toks + 1 + 1 + 1,
            heap := h'.push { cls := .type "generator", data := .fields #[.int s₄.gens.size 0, .str "<genexpr>" (s₄.toks + 1), .str (X.env.qual ++ "<genexpr>") (s₄.toks + 1 + 1)] } }) X.xe { s2 with heap := h3, toks := tk } := by
    intro code h3 tk ps' hx hsz hP3 hmore ht3
    obtain ⟨more, hmore⟩ := hmore
    have keep3 : ∀ b u, b ≠ P → s2.heap.get? b = some u → h3.get? b = some u := fun b u hb e => hx b u hb e
    refine wpAny_builtinsFor (m := X.mg) (by rw [I1.ok.glob]; exact (I1.mod.glob.keeps I1.bk).extBut hx TB.gP) e1 e2 (keep3 _ _ e4 (I1.bk _ _ e5)) e6 e7 e8 ?_
    intro h' hn' hs'
    have I4 : Inv X pins σ (upd H1 P (.tbl (ps ++ more))) { s2 with heap := h3, toks := tk } :=
      GxR.inv_tab (more := more) (h' := h3) (g' := s2.gens) (d' := s2.drawn) (t' := tk) I1 hP keep3 (by rw [← hmore]; exact hP3) I1.bare
    have tb : GxR.Tabbed P H1 (upd H1 P (.tbl (ps ++ more))) := ⟨⟨ps ++ more, upd_same, by rw [← hmore]; exact ht3⟩, fun b hb => upd_ne hb⟩
    generalize hH2 : upd H1 P (.tbl (ps ++ more)) = H2 at I4 tb
    have lim3 : h3.NoLimit := I1.nolimit.extBut hx hcP
    have hsz' : h'.objs.size = h3.objs.size + 1 := by rw [hs'.1, Heap.size_push]
    have kp : ∀ b o, h3.get? b = some o → h'.get? b = some o := fun b o e => hs'.extBut b o (Nat.ne_of_lt (Heap.lt_size e)) (Heap.get?_push_of_some _ e)
    have kp5 : ∀ (go : Obj) b o, h3.get? b = some o → (h'.push go).get? b = some o := fun go b o e => Heap.get?_push_of_some _ (kp b o e)
    have f4 : ∀ b ∈ fp, FpOk X pins H2 b ∧ b < h3.objs.size := fun b hb => by
      obtain ⟨o, e, _⟩ := T.obj _ _ st1 b hb
      refine ⟨⟨?_, (f1 b hb).2⟩, Heap.lt_size (keep3 b o (nfP b hb) e)⟩
      rw [tb.2 b (nfP b hb)]
      exact (f1 b hb).1
    have st3 : tn 0 h3 := T.keep _ _ _ st1 fun b hb o e => keep3 b o (nfP b hb) e
    generalize hgo : ({ cls := .type "generator", data := .fields #[.int s2.gens.size 0, .str "<genexpr>" (tk + 1), .str (X.env.qual ++ "<genexpr>") (tk + 1 + 1)] } : Obj) = go
    have hat : (h'.push go).get? h'.objs.size = some go := Heap.get?_push_size _ (by rw [← hgo]; rfl)
    refine hQ J H2 _ _ (q H2 tb) ⟨{ s2 with heap := h3, toks := tk }, code, fp, it, tn, go, I4, f4, T, T.keep _ _ _ st3 fun b _ o e => kp5 go b o e, ?_, Array.getElem?_push_size .., hat, ⟨go, _, _, hat, by rw [← hgo], by rw [← hgo], by rw [← hgo]⟩, lim3.keeps fun b o e => kp5 go b o e, ?_, by rw [Heap.size_push]⟩
    · intro A' hA' hfr
      have cm : ∀ {y c}, (cloFrom X.env.cells scope.names []).lookup y = some c → X.env.cells.lookup y = some c := fun {y c} e => by
        rcases cloFrom_mem (PySem.mem_of_lookup e) with hm | ⟨h1, h2⟩
        · cases hm
        · obtain ⟨c1, hc⟩ := hfree _ h1 rfl
          have hc : X.env.cells.lookup y = some c1 := hc
          have e2 : c = c1 := by rw [h2, hc]; rfl
          rw [e2]
          exact hc
      have look : ∀ {y}, scope.names.lookup y = some .free → ∃ c, (cloFrom X.env.cells scope.names []).lookup y = some c := fun {y} hl => by
        have hy : (y, NameKind.free) ∈ scope.names := PySem.mem_of_lookup hl
        exact mem_lookup (cloFrom_has (cells := X.env.cells) (acc := []) hy)
      have celt : ∀ {y c}, X.env.cells.lookup y = some c → c < h3.objs.size := fun {y c} e => by
        obtain ⟨v, z⟩ := I4.cell y c e
        exact z.lt
      refine ⟨⟨I4.ok.mod, ok.kind, I4.ok.glob, rfl, Nat.le_refl _, fun x y c a b => I4.ok.inj x y c (cm a) (cm b), fun x hx' => ?_, fun x c hf => Bool.noConfusion hf, fun _ => hA', hfr, .inr ⟨rfl, rfl⟩, fun b hb => ⟨?_, fun x c e z => ?_⟩, I4.bs, Nat.le_trans I4.ok.bsz I4.sz, fun b o e hb => ?_, fun b hb z => ?_, I4.stack, I4.stkFree⟩,
        rfl, I4.bare.push rfl, Un.kept (kp5 go), ⟨_, hn'.push _, fun i y v e1' e2' e3' => ?_⟩, fun x c e => ?_, I4.hok.fresh (Nat.le_refl _), fun x c e => I4.freeC x c (cm e), fun p hp => ?_, I4.hok.kept (kp5 go), by rw [wipe_length]; exact I4.len⟩
      · have hx' : scope.names.lookup x = some .cell ∨ scope.names.lookup x = some .free := hx'
        rcases hx' with z | z
        · exact absurd rfl (hcell _ (PySem.mem_of_lookup z))
        · exact look z
      · show b ≠ h3.objs.size
        exact Nat.ne_of_lt (f4 b hb).2
      · exact (f4 b hb).1.2.2.2.2.1 x c (cm e) z
      · rcases (f4 b hb).1.2.2.2.1 with z | z
        · exact I4.ok.noex b o e z
        · exact absurd (Nat.lt_of_lt_of_le (Heap.lt_size e) (Nat.le_trans I4.ok.bsz z)) (Nat.lt_irrefl _)
      · rcases List.mem_cons.mp (I4.stkSub b z) with z | z
        · exact (f4 b hb).1.2.1 z
        · exact (f4 b hb).1.2.2.1 z
      · obtain ⟨e2'', hne⟩ := wipe_some e2'
        have hfr' : scope.names.lookup y = some .free := by
          have e3'' : scope.names.lookup y = some .local ∨ scope.names.lookup y = some .cell ∨ scope.names.lookup y = some .free := e3'
          have no : ∀ k, scope.names.lookup y = some k → ¬ (k = .local ∨ k = .cell) := fun k hk hh => by
            rcases ok.own _ (PySem.mem_of_lookup hk) hh with e' | e'
            · obtain ⟨p, hp, hpy⟩ := List.mem_map.mp e'
              have e3 := ok.ix p hp
              have e9 : p.1 = y := hpy
              rw [e9] at e3
              exact hne (List.mem_map.mpr ⟨p, hp, nodup_ix hN e3 e1'⟩)
            · exact e' (List.mem_of_getElem? e1')
          rcases e3'' with z | z | z
          · exact absurd (.inl rfl) (no _ z)
          · exact absurd (.inr rfl) (no _ z)
          · exact z
        obtain ⟨m, hnm, hl⟩ := I4.loc
        have hvis : Vis X.env.scope y := (ok.free _ (PySem.mem_of_lookup hfr') rfl).elim (fun k => .inr (.inl k)) (fun k => .inr (.inr k))
        obtain ⟨w', r, qq⟩ := hl i y v e1' e2'' hvis
        obtain ⟨cc, hcc⟩ := look hfr'
        refine ⟨w', r, .inr ⟨.inr hfr', cc, hcc, ?_⟩⟩
        have c1 := cm hcc
        rcases qq with ⟨k', _⟩ | ⟨_, c3, e', z⟩
        · have k' : X.env.scope.names.lookup y = some .local := k'
          rcases ok.free _ (PySem.mem_of_lookup hfr') rfl with k2 | k2 <;> rw [show X.env.scope.names.lookup y = _ from k2] at k' <;> cases k'
        · rw [c1] at e'
          cases e'
          exact z.keeps (kp5 go)
      · obtain ⟨v, z⟩ := I4.cell x c (cm e)
        exact ⟨v, z.keeps (kp5 go)⟩
      · have hp : p = (h'.objs.size, go) := by
          have : p ∈ ([] : List (Addr × Obj)) ++ [(h'.objs.size, go)] := hp
          simpa using this
        rw [hp]
        refine ⟨hat, ?_, ?_, ?_, fun v z => ?_⟩
        · exact I4.hok.fresh (show h3.objs.size ≤ h'.objs.size by omega)
        · show h'.objs.size ≠ h3.objs.size
          omega
        · intro z
          have z : h'.objs.size ∈ frs X.stack := z
          rcases List.mem_cons.mp (I4.stkSub _ z) with z | z
          · have h1 : X.env.locals < h3.objs.size := I4.lt
            rw [← z] at h1
            have h2 : (h'.objs.size : Nat) = h3.objs.size + 1 := hsz'
            exact absurd (show (h'.objs.size : Nat) < (h3.objs.size : Nat) from h1) (by omega)
          · exact I4.nofs (show h3.objs.size ≤ h'.objs.size by omega) z
        · rw [← hgo] at z
          cases z
    · show h3.objs.size < h'.objs.size
      omega
  cases hf : codeAmong pos ps.toList with
  | none =>
    refine wpAny_genexprCodeX hcode (cd.code hPs ht) (cd.tab hPs) hf fun c' h' tk hx hge hlt hco' _ htab' _ => ?_
    obtain ⟨o1, vs, f1, tf, fl, tg, inF, tx, tt, op, _, _, _, _, _, _, _, _, _, htr, _⟩ := hco'
    exact cont _ h' tk _ hx (Nat.le_trans hge (Nat.le_of_lt hlt)) htab'.2 ⟨_, rfl⟩ htr
  | some cv =>
    refine wpAny_genexprCode_hit hcode (cd.code hPs ht) hf ?_
    exact cont cv s2.heap s2.toks ps (Heap.ExtBut.refl _ _) (Nat.le_refl _) hPs ⟨#[], by simp⟩ ht
end
end Dy
set_option Elab.async false
set_option linter.all false
set_option maxRecDepth 100000
set_option maxHeartbeats 2000000
namespace Dy
open PySem PySem.Spec PyProof.Rows L2

theorem inv_gens {G : Cx} {pins : List (Addr × Obj)} {σ : L2.St} {H : Hp} {s s' : Shared} (I : Inv G pins σ H s) (ho : s'.os = s.os) (hk : ∀ b o, s.heap.get? b = some o → s'.heap.get? b = some o) (hb : AllBare s'.gens) : Inv G pins σ H s' :=
  I.call' (ch := []) ho (Un.kept hk) (I.hok.kept hk) hb (fun _ z => nomatch z)

theorem setGen_get {s : Shared} {g : Nat} {gs : GenState} (h : g + 1 ≤ s.gens.size) : (s.setGen g gs).gens[g]? = some gs := by
  have h' : g < s.gens.size := h
  simp [Shared.setGen, h']
theorem setGen_bare {s : Shared} {g : Nat} {gs : GenState} (h : AllBare s.gens) (hb : gs.bare = true) : AllBare (s.setGen g gs).gens := by
  intro y hy
  obtain ⟨i, hi, rfl⟩ := Array.mem_iff_getElem.mp hy
  by_cases e : i = g
  · subst e
    have : (s.setGen i gs).gens[i]? = some gs := by
      have hi' : i < s.gens.size := by simpa [Shared.setGen] using hi
      simp [Shared.setGen, hi']
    rw [Array.getElem?_eq_getElem hi] at this
    rw [Option.some.inj this]
    exact hb
  · have hi' : i < s.gens.size := by simpa [Shared.setGen] using hi
    have e2 : (s.setGen g gs).gens[i] = s.gens[i] := by
      simp only [Shared.setGen]
      rw [Array.getElem_setIfInBounds_ne hi' (Ne.symm e)]
    rw [e2]
    exact h _ (Array.getElem_mem hi')

section
variable {prog : Program} {w : World} {A : Around} {E : Value → Shared → Prop}
theorem gen_pyNext {G : Cx} {a : Addr} {g n N0 : Nat} {go : Obj} {Ss : List Addr} {σw : L2.St} {cons : Nat → V → Hp → (Hp → Prop) → Prop} {fin : Nat → Hp → Prop} {s : Shared} {gs : GenState} {Q : Option Value → Shared → Prop}
    (hh : A.handled = none) (hroom : A.depth < recursionLimit) (hgen : s.heap.IsGen a g) (lim : s.heap.NoLimit) (hgs : s.gens[g]? = some gs)
    (hgo : gs.Goes (model prog w) A.in1 (GRt G [(a, go)] Ss σw N0 fin) (GYd G [(a, go)] Ss σw N0 cons) n (.send .none) (s.setGen g .running))
    (hY : ∀ v y H Nx s1 gs', RelV y v → cons (N0 - 1 - (n - 1)) y H Nx → Inv G ([(a, go)] ++ pinsAt Ss s.heap) σw H s1 → s1.gens[g]? = some gs' →
      (∀ s', Slp Ss s1 s' → Nx H → ∃ m, n = m + 1 ∧ gs'.Goes (model prog w) A.in1 (GRt G [(a, go)] Ss σw N0 fin) (GYd G [(a, go)] Ss σw N0 cons) m (.send .none) s') → Q (some v) s1)
    (hF : ∀ H s1, Inv G ([(a, go)] ++ pinsAt Ss s.heap) σw H s1 → fin (N0 - n) H → Q none s1) : wpAny (model prog w) A (pyNext (.ref a)) Q E s := by
  have hlt : g + 1 ≤ s.gens.size := (Array.getElem?_eq_some_iff.mp hgs).1
  refine GenW.wpAny_gsz (n := g + 1) hlt ?_
  refine wpAny_pyNext_genexpQ (P := fun n s0 s1 => ∃ H, Inv G ([(a, go)] ++ pinsAt Ss s0.heap) σw H s1 ∧ fin (N0 - n) H) hh lim hroom hgen hgs hgo (fun v s1 gs' hb hv hsz => ?_) (fun s1 hp h' hk hsz => ?_)
  · obtain ⟨y, H, Nx, I, r, hc, hkap⟩ := hv
    have hsz' : g + 1 ≤ s1.gens.size := by rw [← GenW.setGen_size s1 g gs']; exact hsz
    have I2 : Inv G ([(a, go)] ++ pinsAt Ss s.heap) σw H (s1.setGen g gs') := inv_gens I rfl (fun _ _ e => e) (setGen_bare I.bare hb)
    refine hY v y H Nx _ gs' r hc I2 (setGen_get hsz') fun s' z nx => ?_
    have z2 : Slp Ss s1 s' := ⟨z.os, z.bare, z.keep, z.own⟩
    have hk := hkap s' z2 nx
    cases n with
    | zero => exact hk.elim
    | succ m => exact ⟨m, rfl, hk⟩
  · obtain ⟨H, I, hf⟩ := hp
    exact hF H _ (inv_gens I rfl hk (setGen_bare I.bare rfl)) hf

/-- any, all: the first truth that stops -/
theorem any_loop {G : Cx} {a : Addr} {g N0 : Nat} {go : Obj} {σw : L2.St} {stopAt : Bool} {Qs Qe : Hp → Prop} {R : Result → Shared → Prop} {nm : String}
    (hnm : (stopAt = true ∧ nm = "any.loop") ∨ (stopAt = false ∧ nm = "all.loop"))
    (hh : A.handled = none) (hroom : A.depth < recursionLimit) (hgen : ∀ (h : Heap), h.get? a = some go → h.IsGen a g)
    (hQs : ∀ H s', Inv G [(a, go)] σw H s' → Qs H → R (.ok (.ret (.bool stopAt))) s') (hQe : ∀ H s', Inv G [(a, go)] σw H s' → Qe H → R (.ok (.ret (.bool (!stopAt)))) s') :
    ∀ (n : Nat) (s : Shared) (gs : GenState), s.heap.get? a = some go → s.heap.NoLimit → AllBare s.gens → s.gens[g]? = some gs →
      (∀ s', Slp [] s s' → gs.Goes (model prog w) A.in1.in1 (GRt G [(a, go)] [] σw N0 (fun _ H => Qe H)) (GYd G [(a, go)] [] σw N0 (fun _ y H Nx => ∃ k, y = .bl k ∧ if k = stopAt then Qs H else Nx H)) n (.send .none) s') →
      codeAny (model prog w) A (.builtin nm ⟨[.ref a], []⟩) R s := by
  intro n
  induction n using Nat.strongRecOn with
  | ind n ih =>
  intro s gs hat lim hbare hgs hgo
  have hrun : Slp [] s (s.setGen g .running) := ⟨rfl, setGen_bare hbare rfl, fun _ _ _ e => e, fun _ hb => nomatch hb⟩
  have key := fun {Q : Option Value → Shared → Prop} {E : Value → Shared → Prop} => gen_pyNext (E := E) (Q := Q) (A := A.in1) (s := s) (gs := gs) hh hroom (hgen _ hat) lim hgs (hgo _ hrun)
  have e0 : ([(a, go)] ++ pinsAt [] s.heap : List (Addr × Obj)) = [(a, go)] := rfl
  rcases hnm with ⟨rfl, rfl⟩ | ⟨rfl, rfl⟩
  · refine codeAny_builtin F.entry_any_loop ?_
    rw [Around.under_plainId F.plain_any_loop _]
    show wpAny _ A.in1 (pyNext (.ref a) >>= _) _ _ s
    refine wpAny_bind (key (fun v y H Nx s1 gs' r hc I hgs' hgo' => ?_) (fun H s1 I hf => ?_))
    · rw [e0] at I
      obtain ⟨k, rfl, hk⟩ := hc
      obtain rfl : v = Value.bool k := r
      refine wpAny_bind (wpAny_holding (wpAny_truthy_bool ?_))
      refine wpAny_bind (wpAny_letGo ?_)
      cases k with
      | false =>
        simp only [Bool.false_eq_true, if_false] at hk ⊢
        obtain ⟨m, rfl, _⟩ := hgo' s1 ⟨rfl, I.bare, fun _ _ _ e => e, fun _ hb => nomatch hb⟩ hk
        refine wpAny_pure ⟨plainId_quiet F.plain_any_loop _, ih m (by omega) s1 gs' (I.pin (a, go) (List.mem_append_right _ List.mem_cons_self)).1 I.nolimit I.bare hgs' fun s' z => ?_⟩
        obtain ⟨m', e, hm⟩ := hgo' s' z hk
        have e' : m = m' := by omega
        rw [e']
        exact hm
      | true =>
        simp only [if_true] at hk ⊢
        exact wpAny_bind (wpAny_rule (wpAny_pure (hQs H s1 I hk)))
    · rw [e0] at I
      exact wpAny_bind (wpAny_rule (wpAny_pure (hQe H s1 I hf)))
  · refine codeAny_builtin F.entry_all_loop ?_
    rw [Around.under_plainId F.plain_all_loop _]
    show wpAny _ A.in1 (pyNext (.ref a) >>= _) _ _ s
    refine wpAny_bind (key (fun v y H Nx s1 gs' r hc I hgs' hgo' => ?_) (fun H s1 I hf => ?_))
    · rw [e0] at I
      obtain ⟨k, rfl, hk⟩ := hc
      obtain rfl : v = Value.bool k := r
      refine wpAny_bind (wpAny_holding (wpAny_truthy_bool ?_))
      refine wpAny_bind (wpAny_letGo ?_)
      cases k with
      | true =>
        simp only [Bool.true_eq_false, if_false, if_true] at hk ⊢
        obtain ⟨m, rfl, _⟩ := hgo' s1 ⟨rfl, I.bare, fun _ _ _ e => e, fun _ hb => nomatch hb⟩ hk
        refine wpAny_pure ⟨plainId_quiet F.plain_all_loop _, ih m (by omega) s1 gs' (I.pin (a, go) (List.mem_append_right _ List.mem_cons_self)).1 I.nolimit I.bare hgs' fun s' z => ?_⟩
        obtain ⟨m', e, hm⟩ := hgo' s' z hk
        have e' : m = m' := by omega
        rw [e']
        exact hm
      | false =>
        simp only [if_true, Bool.false_eq_true, if_false] at hk ⊢
        exact wpAny_bind (wpAny_rule (wpAny_pure (hQs H s1 I hk)))
    · rw [e0] at I
      exact wpAny_bind (wpAny_rule (wpAny_pure (hQe H s1 I hf)))

def lAcc (z : Int) (t : Tok) (c : Nat) : Obj := { cls := .type "list", dict := none, data := .seq #[.int z t] c, slots := #[] }
/-- sum of small whole numbers -/
theorem sum_loop {G : Cx} {a S : Addr} {g N0 : Nat} {go : Obj} {σw : L2.St} {val : Nat → Int} {Qe : Nat → Hp → Prop} {R : Result → Shared → Prop}
    (hh : A.handled = none) (hroom : A.depth < recursionLimit) (hgen : ∀ (h : Heap), h.get? a = some go → h.IsGen a g)
    (hQe : ∀ j H z t c s', Inv G ([(a, go)] ++ [(S, lAcc z t c)]) σw H s' → Qe j H → z = val j → R (.ok (.ret (.int z t))) s')
    (hS : S ≠ a) : ∀ (n j : Nat) (s : Shared) (gs : GenState) (t : Tok) (c : Nat), n + j = N0 → s.heap.get? a = some go → s.heap.NoLimit → AllBare s.gens → s.gens[g]? = some gs → s.heap.get? S = some (lAcc (val j) t c) →
      (∀ s', Slp [S] s s' → gs.Goes (model prog w) A.in1.in1 (GRt G [(a, go)] [S] σw N0 Qe) (GYd G [(a, go)] [S] σw N0 (fun j y H Nx => ∃ b, y = .int b ∧ val (j + 1) = val j + b ∧ (-(2 ^ 63) ≤ b ∧ b < 2 ^ 63) ∧ (-(2 ^ 63) ≤ val (j + 1) ∧ val (j + 1) < 2 ^ 63) ∧ Nx H)) n (.send .none) s') →
      codeAny (model prog w) A (.builtin "sum.loop" ⟨[.ref a, .ref S, rawInt 0, rawInt 0], []⟩) R s := by
  intro n
  induction n using Nat.strongRecOn with
  | ind n ih =>
  intro j s gs t c hnj hat lim hbare hgs hSat hgo
  have hrun : Slp [S] s (s.setGen g .running) := ⟨rfl, setGen_bare hbare rfl, fun _ _ _ e => e, fun b hb => by
    rw [List.mem_singleton.mp hb]
    exact ⟨_, hSat, fun v z => by cases z⟩⟩
  have key := fun {Q : Option Value → Shared → Prop} {E : Value → Shared → Prop} => gen_pyNext (E := E) (Q := Q) (A := A.in1) (s := s) (gs := gs) hh hroom (hgen _ hat) lim hgs (hgo _ hrun)
  have e0 : ([(a, go)] ++ pinsAt [S] s.heap : List (Addr × Obj)) = [(a, go)] ++ [(S, lAcc (val j) t c)] := by
    unfold pinsAt
    simp [hSat]
  refine codeAny_builtin F.entry_sum_loop ?_
  rw [Around.under_plainId F.plain_sum_loop _]
  show wpAny _ A.in1 (seqItems? (.ref S) >>= _) _ _ s
  refine wpAny_bind (wpAny_seqItems hSat rfl ?_)
  show wpAny _ A.in1 (tryCatch (pyNext (.ref a)) _ >>= _) _ _ s
  refine wpAny_bind (wpAny_tryCatch (key (fun v y H Nx s1 gs' r hc I hgs' hgo' => ?_) (fun H s1 I hf => ?_)))
  · rw [e0] at I
    obtain ⟨b, rfl, hv, ⟨f1, f2⟩, f34, nx⟩ := hc
    obtain ⟨tb, rfl⟩ := r
    have hS1 : s1.heap.get? S = some (lAcc (val j) t c) := (I.pin (S, lAcc (val j) t c) (List.mem_append_right _ (List.mem_append_right _ List.mem_cons_self))).1
    have ha1 : s1.heap.get? a = some go := (I.pin (a, go) (List.mem_append_right _ (List.mem_append_left _ List.mem_cons_self))).1
    have hN : N0 - 1 - (n - 1) = j ∨ n = 0 := by omega
    obtain ⟨m, rfl, _⟩ := hgo' s1 ⟨rfl, I.bare, fun _ _ _ e => e, fun b hb => by
      rw [List.mem_singleton.mp hb]
      exact ⟨_, hS1, fun v z => by cases z⟩⟩ nx
    have ej : N0 - 1 - (m + 1 - 1) = j := by omega
    rw [ej] at hv f34
    obtain ⟨f3, f4⟩ := f34
    rw [hv] at f3 f4
    have hc' : ((decide (-(2 ^ 63) ≤ b) && decide (b < 2 ^ 63)) && (decide (-(2 ^ 63) ≤ val j + b) && decide (val j + b < 2 ^ 63))) = true := by
      simp only [Bool.and_eq_true, decide_eq_true_eq]
      exact ⟨⟨f1, f2⟩, f3, f4⟩
    show wpAny _ A.in1 (if (_ : Bool) = true then (mkInt (val j + b) >>= _) else _) _ _ _
    split
    · refine wpAny_bind (wpAny_mkInt ?_)
      show wpAny _ A.in1 (updateSeq S (fun _ => #[.int (val j + b) s1.toks]) >>= _) _ _ _
      refine wpAny_bind ?_
      obtain ⟨c2, hU⟩ : ∃ c2, (s1.heap.update S (Obj.mapSeq fun _ => #[.int (val j + b) s1.toks])).get? S = some (lAcc (val (j + 1)) s1.toks c2) := ⟨_, by
        rw [hv]
        exact Heap.get?_update_self (Obj.mapSeq fun _ => #[.int (val j + b) s1.toks]) hS1 rfl⟩
      refine wpAny_updateSeq hS1 rfl (wpAny_pure ⟨plainId_quiet F.plain_sum_loop _, ih m (by omega) (j + 1) _ gs' s1.toks c2 (by omega) ?_ ?_ I.bare hgs' hU fun s' z => ?_⟩)
      · exact (Heap.get?_update_other _ _ hS).trans ha1
      · obtain ⟨mc, hns, hnn⟩ := I.nolimit
        exact ⟨mc, hns.at' fun o e => (Heap.get?_update_other _ _ (fun z : S = cStatics => by
          obtain ⟨o', es, ep, ho, hd, _⟩ := hns
          rw [← z, hS1] at ho; cases ho; cases hd)).trans e, hnn⟩
      · obtain ⟨m', e, hm⟩ := hgo' s' ⟨z.os, z.bare, fun b o hb e => z.keep b o hb ((Heap.get?_update_other _ _ (fun q : S = b => hb (by rw [q]; exact List.mem_cons_self))).trans e), z.own⟩ nx
        have e' : m = m' := by omega
        rw [e']
        exact hm
    · rename_i hneg
      exact absurd hc' hneg
  · rw [e0] at I
    have ej : N0 - n = j := by omega
    rw [ej] at hf
    exact wpAny_pure (hQe j H _ t c s1 I hf rfl)
end
end Dy
set_option Elab.async false
set_option linter.all false
set_option maxRecDepth 100000
set_option maxHeartbeats 2000000
namespace Dy
open PySem PySem.Spec PyProof.Rows L2

theorem over_frames {A : Around} {e : Expr} {elt : Expr} {gs : List Comprehension} {sc : Scope} {p : Pos} {it acc : Value} {cenv : Env} {l : List Env} (h : A.frames = some l) :
    (A.in1.in1.over (.compLoop (.GeneratorExp elt gs sc p) 0 it acc cenv) []).frames = some (cenv :: l) := by
  show pushEnvs [cenv] (pushEnvs [] A.frames) = _
  rw [h]
  rfl
theorem over_room {A : Around} {k : Nat} {elt : Expr} {gs : List Comprehension} {sc : Scope} {p : Pos} {it acc : Value} {cenv : Env} (r : Room (k + 1) A) :
    Room k (A.in1.in1.over (.compLoop (.GeneratorExp elt gs sc p) 0 it acc cenv) []) := by
  refine ⟨r.hd, ?_, ?_⟩
  · have := r.dp
    show A.depth + 0 + 1 + 3 * k + 5 < _
    omega
  · have := r.un
    show A.units + 1 + 1 + 0 + 3 + 16 * k + 200 < _
    omega

/-- the readings -/
def tAnyG (P : Addr) (stopAt : Bool) (wi : TI) (g : TG) (tt : TT) (te : TE) (vs : List Nat) : TE := fun σ H Q => wi σ H fun J H1 => GxR.TabG H1 P ∧ ∀ H2, GxR.Tabbed P H1 H2 →
  ∃ (W : Nat → Nat → Nat → Hp → Prop) (m0 : Nat), W 0 0 m0 H2 ∧ GTurn J g tt te vs σ (fun _ y H Nx => ∃ k, y = .bl k ∧ if k = stopAt then Q (.bl stopAt) H else Nx H) (fun _ H => Q (.bl (!stopAt)) H) W
def tSumG (P : Addr) (wi : TI) (g : TG) (tt : TT) (te : TE) (vs : List Nat) : TE := fun σ H Q => wi σ H fun J H1 => GxR.TabG H1 P ∧ ∀ H2, GxR.Tabbed P H1 H2 →
  ∃ (W : Nat → Nat → Nat → Hp → Prop) (m0 : Nat) (val : Nat → Int), val 0 = 0 ∧ W 0 0 m0 H2 ∧
    GTurn J g tt te vs σ (fun j y H Nx => ∃ b, y = .int b ∧ val (j + 1) = val j + b ∧ (-(2 ^ 63) ≤ b ∧ b < 2 ^ 63) ∧ (-(2 ^ 63) ≤ val (j + 1) ∧ val (j + 1) < 2 ^ 63) ∧ Nx H) (fun j H => Q (.int (val j)) H) W

section
variable {X : Cx} {elt tg iter : Expr} {ifs : List Expr} {scope : Scope} {gpos : Pos} {c P : Addr} {own : List (Str × Nat)} {wi : TI} {g : TG} {tt : TT} {te : TE} {k : Nat} {p pos : Pos}

theorem gen_back {pins pins' : List (Addr × Obj)} {σ σw : L2.St} {H H4 : Hp} {s4 s' : Shared} {cenv : Env} {A' : Around} {fp : List Addr} (I4 : Inv X pins σ H4 s4) (f4 : ∀ b ∈ fp, FpOk X pins H4 b ∧ b < s4.heap.objs.size)
    (I : Inv (gcx X s4 H4 cenv A' fp) pins' σw H s') : Inv X pins σ H s' :=
  I4.call' (ch := fp) I.os I.base I.hok I.bare fun b hb => ⟨(f4 b hb).1.2.2.2.1, (f4 b hb).1.2.1, (f4 b hb).1.2.2.2.2.1, (f4 b hb).1.2.2.2.2.2⟩

theorem pe_anyG {nm : Str} {stopAt : Bool} (hnm : (stopAt = true ∧ nm = "any") ∨ (stopAt = false ∧ nm = "all")) (hr : Room (k + 1) X.A) (hcl : X.calm = true) (hg0 : Gl X nm) (hm : X.mg nm = none)
    (TB : GxR.TabB X.base X.mg c P) (hcode : X.env.code = .ref c) (ok : BlkOk X.N X.env.scope scope own) (hN : X.N.Nodup) (hco : scope.isCoroutine = false) (hcell : ∀ y ∈ scope.names, y.2 ≠ .cell)
    (hdot : scope.names.lookup (".0" : Str) = some NameKind.local) (hi : PI X tg iter wi) (hs : ∀ v, genFold iter X.env v = pure v)
    (hg : ∀ (s : Shared) (H : Hp) (C : Addr) (cl : List (Str × Addr)) (code : Value) (A' : Around) (fp : List Addr), Room k A' → PG (gcx X s H (genEnv scope cl C code builtinsNs X.env) A' fp) tg g)
    (ht : ∀ (s : Shared) (H : Hp) (C : Addr) (cl : List (Str × Addr)) (code : Value) (A' : Around) (fp : List Addr), Room k A' → PTs (gcx X s H (genEnv scope cl C code builtinsNs X.env) A' fp) ifs tt)
    (he : ∀ (s : Shared) (H : Hp) (C : Addr) (cl : List (Str × Addr)) (code : Value) (A' : Around) (fp : List Addr), Room k A' → PE (gcx X s H (genEnv scope cl C code builtinsNs X.env) A' fp) elt te) :
    PE X (.Call (.Name nm p) [.GeneratorExp elt [⟨tg, iter, ifs, 0⟩] scope gpos] [] pos) (tAnyG P stopAt wi g tt te (own.map (·.2))) := by
  have hst : starEach [.GeneratorExp elt [⟨tg, iter, ifs, 0⟩] scope gpos] X.env = (false, eval (.GeneratorExp elt [⟨tg, iter, ifs, 0⟩] scope gpos) X.env) :: starEach [] X.env := rfl
  have main : ∀ (pins : List (Addr × Obj)) (s : Shared) (σ : L2.St) (H : Hp) (Q : VK), Inv X pins σ H s → tAnyG P stopAt wi g tt te (own.map (·.2)) σ H Q →
      wpAny (model X.prog X.w) X.A (spliced ((false, eval (.GeneratorExp elt [⟨tg, iter, ifs, 0⟩] scope gpos) X.env) :: backTo pos (starEach [] X.env)))
        (fun us s5 => ∃ a, us = [Value.ref a] ∧ ∃ J H2, (∃ (W : Nat → Nat → Nat → Hp → Prop) (m0 : Nat), W 0 0 m0 H2 ∧ GTurn J g tt te (own.map (·.2)) σ (fun _ y H Nx => ∃ k, y = .bl k ∧ if k = stopAt then Q (.bl stopAt) H else Nx H) (fun _ H => Q (.bl (!stopAt)) H) W) ∧
          GPk X pins σ (own.map (·.2)) scope (.GeneratorExp elt [⟨tg, iter, ifs, 0⟩] scope gpos) tg J H2 a s5) X.xe s := by
    intro pins s σ H Q I h
    refine Calls.spliced_cons (gen_make (R := fun J H2 => ∃ (W : Nat → Nat → Nat → Hp → Prop) (m0 : Nat), W 0 0 m0 H2 ∧ GTurn J g tt te (own.map (·.2)) σ (fun _ y H Nx => ∃ k, y = .bl k ∧ if k = stopAt then Q (.bl stopAt) H else Nx H) (fun _ H => Q (.bl (!stopAt)) H) W)
      (own := own) hr hcl TB hcode ok hN hco hcell hdot hi hs I (by exact h) fun J H2 a s5 hR hG => ?_)
    exact Calls.spliced_nil ⟨a, rfl, J, H2, hR, hG⟩
  refine ⟨fun pins s σ H Q I h => ?_⟩
  -- the loop, from the made generator
  have fin : ∀ (a : Addr) (J : It) (H2 : Hp) (s5 : Shared) (lp : String), ((stopAt = true ∧ lp = "any.loop") ∨ (stopAt = false ∧ lp = "all.loop")) →
      (∃ (W : Nat → Nat → Nat → Hp → Prop) (m0 : Nat), W 0 0 m0 H2 ∧ GTurn J g tt te (own.map (·.2)) σ (fun _ y H Nx => ∃ k, y = .bl k ∧ if k = stopAt then Q (.bl stopAt) H else Nx H) (fun _ H => Q (.bl (!stopAt)) H) W) →
      GPk X pins σ (own.map (·.2)) scope (.GeneratorExp elt [⟨tg, iter, ifs, 0⟩] scope gpos) tg J H2 a s5 →
      codeAny (model X.prog X.w) X.A (.builtin lp ⟨[.ref a], []⟩) (fun r s' => ∃ v, r = .ok (.ret v) ∧ EP X pins σ Q v s') s5 := by
    intro a J H2 s5 lp hlp ⟨W, m0, hW, turn⟩ ⟨s4, code, fp, it, tn, go, I4, f4, T, st, IG, hgs, hat, hgen, lim, hlo, hsz⟩
    have IG1 := IG (X.A.in1.in1.over (.compLoop (.GeneratorExp elt [⟨tg, iter, ifs, 0⟩] scope gpos) 0 (.ref it) .none (genEnv scope (cloFrom X.env.cells scope.names []) s4.heap.objs.size code builtinsNs X.env)) []) hr.hd (over_frames (e := elt) I4.ok.frames)
    have hroom : Room k (X.A.in1.in1.over (.compLoop (.GeneratorExp elt [⟨tg, iter, ifs, 0⟩] scope gpos) 0 (.ref it) .none (genEnv scope (cloFrom X.env.cells scope.names []) s4.heap.objs.size code builtinsNs X.env)) []) := over_room hr
    refine any_loop (σw := wipe σ (own.map (·.2))) (G := (gcx X s4 H2 (genEnv scope (cloFrom X.env.cells scope.names []) s4.heap.objs.size code builtinsNs X.env) (X.A.in1.in1.over (.compLoop (.GeneratorExp elt [⟨tg, iter, ifs, 0⟩] scope gpos) 0 (.ref it) .none (genEnv scope (cloFrom X.env.cells scope.names []) s4.heap.objs.size code builtinsNs X.env)) []) fp)) (Qs := fun H => Q (.bl stopAt) H) (Qe := fun H => Q (.bl (!stopAt)) H) (N0 := m0 + 1) hlp hr.hd hr.depth (fun h e => ?_) (fun H' s' I' q => ⟨_, rfl, V.bl stopAt, H', gen_back I4 f4 I', rfl, q⟩) (fun H' s' I' q => ⟨_, rfl, V.bl (!stopAt), H', gen_back I4 f4 I', rfl, q⟩) (m0 + 1) s5 _ hat lim IG1.bare hgs fun s' z => ?_
    · obtain ⟨o, nm', qn, ho, r1, r2, r3⟩ := hgen
      rw [hat] at ho; cases ho
      exact ⟨_, _, _, e, r1, r2, r3⟩
    · have hlt : ∀ b ∈ fp, b ≠ a := fun b hb => Nat.ne_of_lt (Nat.lt_trans (f4 b hb).2 hlo)
      refine gen_start (Ss := []) (gp := [(a, go)]) (vs := own.map (·.2)) (σ := σ) hco T ⟨by simp, by simp, by simp, by simp, by simp⟩ (by simp) (fun b hb p hp => ?_)
        (hg _ _ _ _ _ _ _ hroom) (ht _ _ _ _ _ _ _ hroom) (he _ _ _ _ _ _ _ hroom) turn rfl (Nat.lt_succ_self _) (by simp) hW ?_ (T.keep _ _ _ st fun b _ o e => z.keep b o (by simp) e) (fun b hb => (f4 b hb).1.1)
      · rw [List.mem_singleton.mp hp]
        exact Ne.symm (hlt b hb)
      · have e0 : ([(a, go)] ++ pinsAt [] s'.heap : List (Addr × Obj)) = [(a, go)] := rfl
        rw [e0]
        exact inv_gens IG1 z.os (fun b o e => z.keep b o (by simp) e) z.bare
  rcases hnm with ⟨rfl, rfl⟩ | ⟨rfl, rfl⟩
  · refine wpAny_Call_Name_kw (ld_blt I hg0 hm boot_any ?_)
    refine PyProof.Rows.callWith_builtin1 ?_ hst (by rfl)
    rw [hst]
    refine thn (main pins s σ H Q I h) fun us s5 ⟨a, e, J, H2, hR, hG⟩ => ?_
    subst e
    refine call_function_tree F.kind_any F.plain_any F.entry_any (F.args_any1 _) ?_
    unfold Builtin.«any»
    refine wpAny_bind (m := oneArg "any" _) (wpAny_pure ?_)
    obtain ⟨s4, code, fp, it, tn, go, I4, f4, T, st, IG, hgs, hat, hgen, lim, hlo, hsz⟩ := hG.ex
    refine wpAny_bind (wpAny_pyIter_gen hgen ?_)
    refine wpAny_pure ⟨plainId_quiet F.plain_any_loop _, codeAny_mono (fin a J H2 s5 "any.loop" (.inl ⟨rfl, rfl⟩) hR hG) fun r s' hq => ?_⟩
    obtain ⟨v, rfl, q⟩ := hq
    exact q
  · refine wpAny_Call_Name_kw (ld_blt I hg0 hm boot_all ?_)
    refine PyProof.Rows.callWith_builtin1 ?_ hst (by rfl)
    rw [hst]
    refine thn (main pins s σ H Q I h) fun us s5 ⟨a, e, J, H2, hR, hG⟩ => ?_
    subst e
    refine call_function_tree F.kind_all F.plain_all F.entry_all (F.args_all1 _) ?_
    unfold Builtin.«all»
    refine wpAny_bind (m := oneArg "all" _) (wpAny_pure ?_)
    obtain ⟨s4, code, fp, it, tn, go, I4, f4, T, st, IG, hgs, hat, hgen, lim, hlo, hsz⟩ := hG.ex
    refine wpAny_bind (wpAny_pyIter_gen hgen ?_)
    refine wpAny_pure ⟨plainId_quiet F.plain_all_loop _, codeAny_mono (fin a J H2 s5 "all.loop" (.inr ⟨rfl, rfl⟩) hR hG) fun r s' hq => ?_⟩
    obtain ⟨v, rfl, q⟩ := hq
    exact q
theorem pe_sumG (hr : Room (k + 1) X.A) (hcl : X.calm = true) (hg0 : Gl X "sum") (hm : X.mg "sum" = none)
    (TB : GxR.TabB X.base X.mg c P) (hcode : X.env.code = .ref c) (ok : BlkOk X.N X.env.scope scope own) (hN : X.N.Nodup) (hco : scope.isCoroutine = false) (hcell : ∀ y ∈ scope.names, y.2 ≠ .cell)
    (hdot : scope.names.lookup (".0" : Str) = some NameKind.local) (hi : PI X tg iter wi) (hs : ∀ v, genFold iter X.env v = pure v)
    (hg : ∀ (s : Shared) (H : Hp) (C : Addr) (cl : List (Str × Addr)) (code : Value) (A' : Around) (fp : List Addr), Room k A' → PG (gcx X s H (genEnv scope cl C code builtinsNs X.env) A' fp) tg g)
    (ht : ∀ (s : Shared) (H : Hp) (C : Addr) (cl : List (Str × Addr)) (code : Value) (A' : Around) (fp : List Addr), Room k A' → PTs (gcx X s H (genEnv scope cl C code builtinsNs X.env) A' fp) ifs tt)
    (he : ∀ (s : Shared) (H : Hp) (C : Addr) (cl : List (Str × Addr)) (code : Value) (A' : Around) (fp : List Addr), Room k A' → PE (gcx X s H (genEnv scope cl C code builtinsNs X.env) A' fp) elt te) :
    PE X (.Call (.Name "sum" p) [.GeneratorExp elt [⟨tg, iter, ifs, 0⟩] scope gpos] [] pos) (tSumG P wi g tt te (own.map (·.2))) := by
  have hst : starEach [.GeneratorExp elt [⟨tg, iter, ifs, 0⟩] scope gpos] X.env = (false, eval (.GeneratorExp elt [⟨tg, iter, ifs, 0⟩] scope gpos) X.env) :: starEach [] X.env := rfl
  refine ⟨fun pins s σ H Q I h => ?_⟩
  refine wpAny_Call_Name_kw (ld_blt I hg0 hm boot_sum ?_)
  refine PyProof.Rows.callWith_builtin1 ?_ hst (by rfl)
  rw [hst]
  refine Calls.spliced_cons (gen_make (own := own) (R := fun J H2 => ∃ (W : Nat → Nat → Nat → Hp → Prop) (m0 : Nat) (val : Nat → Int), val 0 = 0 ∧ W 0 0 m0 H2 ∧
    GTurn J g tt te (own.map (·.2)) σ (fun j y H Nx => ∃ b, y = .int b ∧ val (j + 1) = val j + b ∧ (-(2 ^ 63) ≤ b ∧ b < 2 ^ 63) ∧ (-(2 ^ 63) ≤ val (j + 1) ∧ val (j + 1) < 2 ^ 63) ∧ Nx H) (fun j H => Q (.int (val j)) H) W)
      hr hcl TB hcode ok hN hco hcell hdot hi hs I (by exact h) fun J H2 a s5 hR hG => ?_)
  refine Calls.spliced_nil ?_
  obtain ⟨W, m0, val, hv0, hW, turn⟩ := hR
  obtain ⟨s4, code, fp, it, tn, go, I4, f4, T, st, IG, hgs, hat, hgen, lim, hlo, hsz⟩ := hG.ex
  refine call_function_tree F.kind_sum F.plain_sum F.entry_sum (F.args_sum1 _) ?_
  unfold Builtin.«sum»
  simp only [List.length_cons, List.length_nil]
  rw [if_neg (by decide)]
  refine wpAny_bind (wpAny_of_eq (show Builtin.Builtins.bindParams "sum" ["start"] 0 { } = pure [none] from rfl) ?_)
  refine wpAny_bind (wpAny_pyIter_gen hgen ?_)
  refine wpAny_bind (wpAny_mkInt ?_)
  refine wpAny_bind (wpAny_pure ?_)
  simp only [List.forIn_cons, List.forIn_nil]
  refine wpAny_bind (wpAny_bind (wpAny_bind (wpAny_isInstance (T := "int") (b := false) (typeIs_int _ _ _) PySem.sub_int_str ?_)))
  simp only [Bool.false_eq_true, if_false]
  refine wpAny_pure (wpAny_bind (wpAny_bind (wpAny_isInstance (T := "int") (b := false) (typeIs_int _ _ _) PySem.sub_int_bytes ?_)))
  simp only [Bool.false_eq_true, if_false]
  refine wpAny_pure (wpAny_bind (wpAny_bind (wpAny_isInstance (T := "int") (b := false) (typeIs_int _ _ _) PySem.sub_int_bytearray ?_)))
  simp only [Bool.false_eq_true, if_false]
  refine wpAny_pure (wpAny_pure ?_)
  refine wpAny_bind (wpAny_newObj_type ?_)
  have IG1 := IG (X.A.in1.in1.over (.compLoop (.GeneratorExp elt [⟨tg, iter, ifs, 0⟩] scope gpos) 0 (.ref it) .none (genEnv scope (cloFrom X.env.cells scope.names []) s4.heap.objs.size code builtinsNs X.env)) []) hr.hd (over_frames (e := elt) I4.ok.frames)
  have hroom : Room k (X.A.in1.in1.over (.compLoop (.GeneratorExp elt [⟨tg, iter, ifs, 0⟩] scope gpos) 0 (.ref it) .none (genEnv scope (cloFrom X.env.cells scope.names []) s4.heap.objs.size code builtinsNs X.env)) []) := over_room hr
  have hlt : ∀ b ∈ fp, b ≠ a := fun b hb => Nat.ne_of_lt (Nat.lt_trans (f4 b hb).2 hlo)
  have hSa : s5.heap.objs.size ≠ a := by rw [hsz]; exact Nat.succ_ne_self a
  have hS4 : s4.heap.objs.size < s5.heap.objs.size := by rw [hsz]; exact Nat.lt_succ_of_lt hlo
  have hSn : ∀ {b : Addr} {o : Obj}, s5.heap.get? b = some o → b ≠ s5.heap.objs.size := fun e => Nat.ne_of_lt (Heap.lt_size e)
  refine wpAny_pure ⟨plainId_quiet F.plain_sum_loop _, sum_loop (S := s5.heap.objs.size) (N0 := m0 + 1) (val := val) (Qe := fun j H => Q (.int (val j)) H) (σw := wipe σ (own.map (·.2))) (G := (gcx X s4 H2 (genEnv scope (cloFrom X.env.cells scope.names []) s4.heap.objs.size code builtinsNs X.env) (X.A.in1.in1.over (.compLoop (.GeneratorExp elt [⟨tg, iter, ifs, 0⟩] scope gpos) 0 (.ref it) .none (genEnv scope (cloFrom X.env.cells scope.names []) s4.heap.objs.size code builtinsNs X.env)) []) fp)) hr.hd hr.depth (fun h e => ?_) (fun j H' z t c s' I' q ez => ?_) hSa (m0 + 1) 0 _ _ _ _ rfl (Heap.get?_push_of_some _ hat) (lim.push _) IG1.bare hgs (by rw [hv0]; exact Heap.get?_push_size _ rfl) fun s' z => ?_⟩
  · obtain ⟨o, nm', qn, ho, r1, r2, r3⟩ := hgen
    rw [hat] at ho; cases ho
    exact ⟨_, _, _, e, r1, r2, r3⟩
  · exact ⟨V.int z, H', gen_back I4 f4 I', ⟨_, rfl⟩, by rw [ez]; exact q⟩
  · have ok' : SsOk (gcx X s4 H2 (genEnv scope (cloFrom X.env.cells scope.names []) s4.heap.objs.size code builtinsNs X.env) (X.A.in1.in1.over (.compLoop (.GeneratorExp elt [⟨tg, iter, ifs, 0⟩] scope gpos) 0 (.ref it) .none (genEnv scope (cloFrom X.env.cells scope.names []) s4.heap.objs.size code builtinsNs X.env)) []) fp) [(a, go)] [s5.heap.objs.size] := by
      refine ⟨fun b hb => ?_, fun b hb => ?_, fun b hb => ?_, fun b hb x c e => ?_, fun b hb p hp => ?_⟩
      · rw [List.mem_singleton.mp hb]
        exact Nat.le_of_lt hS4
      · rw [List.mem_singleton.mp hb]
        exact Nat.ne_of_gt hS4
      · rw [List.mem_singleton.mp hb]
        intro q
        have q : s5.heap.objs.size ∈ frs X.stack := q
        rcases List.mem_cons.mp (I4.stkSub _ q) with q | q
        · have h1 : X.env.locals < s4.heap.objs.size := I4.lt
          rw [← q] at h1
          exact Nat.lt_irrefl _ (Nat.lt_trans h1 hS4)
        · exact I4.nofs (Nat.le_of_lt hS4) q
      · rw [List.mem_singleton.mp hb]
        obtain ⟨v, zc⟩ := IG1.cell x c e
        exact Nat.ne_of_lt zc.lt
      · rw [List.mem_singleton.mp hb]
        have hp : p ∈ ([] : List (Addr × Obj)) ++ [(a, go)] := hp
        rw [List.nil_append] at hp
        rw [List.mem_singleton.mp hp]
        exact Ne.symm hSa
    have e0 : pinsAt [s5.heap.objs.size] s5.heap = [] := by
      unfold pinsAt
      rw [List.filterMap_cons, Heap.get?_none_of_le (Nat.le_refl _)]
      rfl
    have I2 : Inv (gcx X s4 H2 (genEnv scope (cloFrom X.env.cells scope.names []) s4.heap.objs.size code builtinsNs X.env) (X.A.in1.in1.over (.compLoop (.GeneratorExp elt [⟨tg, iter, ifs, 0⟩] scope gpos) 0 (.ref it) .none (genEnv scope (cloFrom X.env.cells scope.names []) s4.heap.objs.size code builtinsNs X.env)) []) fp) ([(a, go)] ++ pinsAt [s5.heap.objs.size] s5.heap) (wipe σ (own.map (·.2))) H2 s5 := by
      rw [e0]
      exact IG1
    refine gen_start (vs := own.map (·.2)) (σ := σ) hco T ok' (fun b hb h2 => ?_) (fun b hb p hp => ?_)
        (hg _ _ _ _ _ _ _ hroom) (ht _ _ _ _ _ _ _ hroom) (he _ _ _ _ _ _ _ hroom) turn rfl (Nat.lt_succ_self _) (fun b hb => let ⟨o, e, _⟩ := z.own b hb; ⟨o, e⟩) hW ?_ (T.keep _ _ _ st fun b hb o e => z.keep b o (fun q => ?_) (Heap.get?_push_of_some _ e)) (fun b hb => (f4 b hb).1.1)
    · rw [List.mem_singleton.mp h2] at hb
      exact Nat.lt_irrefl _ (Nat.lt_trans (f4 _ hb).2 hS4)
    · rw [List.mem_singleton.mp hp]
      exact Ne.symm (hlt b hb)
    · exact slept I2 ok' (fun b hb => by rw [List.mem_singleton.mp hb]; exact IG1.hok.fresh (Nat.le_refl _)) ⟨z.os, z.bare, fun b o hb e => z.keep b o hb (Heap.get?_push_of_some _ e), z.own⟩
    · rw [List.mem_singleton.mp q] at hb
      exact Nat.lt_irrefl _ (Nat.lt_trans (f4 _ hb).2 hS4)
end
end Dy
set_option Elab.async false
set_option linter.all false
set_option maxRecDepth 100000
/-! Dy0: plain data D, how it lies in the abstract heap, the store of mutable cells. -/
namespace Dy
open PySem PySem.Spec PyProof.Rows L2

/-- plain data; scr: the script -/
inductive D where
  | non | bl (b : Bool) | int (i : Int) | str (x : Str) | tup (xs : List D) | lst (xs : List D) | scr (ns : List Int)

/-- what a slot holds: data, a mutable cell of the store, a closure -/
inductive W where
  | v (d : D) | p (i : Nat) | c (i : Nat)
/-- what a cell of the store holds -/
inductive Cell where
  | lst (ds : List D) | obj (c : Str) (fs : List (Str × W)) | dic (kvs : List (D × D)) | dead

/-- a view: the frozen part of the heap, the cells' addresses, the closures', what is guarded for others -/
structure Fm where
  F : Hp
  as : List Addr
  ls : List Addr
  G : Hp

mutual
inductive Rp (K : PySem.W.Frag) (M : Fm) : V → D → Prop
  | non : Rp K M .non .non
  | bl (b : Bool) : Rp K M (.bl b) (.bl b)
  | int (i : Int) : Rp K M (.int i) (.int i)
  | str (x : Str) : Rp K M (.str x) (.str x)
  | tup {a : Addr} {vs : List V} {ds : List D} : SqT K M.F a vs → RpL K M vs ds → Rp K M (.ref a) (.tup ds)
  | lst {a : Addr} {vs : List V} {ds : List D} : M.F a = some (.lst vs) → RpL K M vs ds → Rp K M (.ref a) (.lst ds)
  | scr {a : Addr} {ns : List Int} : SqL K M.F a (ns.map V.int) → Rp K M (.ref a) (.scr ns)
inductive RpL (K : PySem.W.Frag) (M : Fm) : List V → List D → Prop
  | nil : RpL K M [] []
  | cons {v : V} {vs : List V} {d : D} {ds : List D} : Rp K M v d → RpL K M vs ds → RpL K M (v :: vs) (d :: ds)
end

/-- a later view -/
structure Ext (M M' : Fm) : Prop where
  F : ∀ b o, M.F b = some o → M'.F b = some o
  as : M.as <+: M'.as
  ls : M.ls = M'.ls
  G : M.G = M'.G
theorem Ext.refl (M : Fm) : Ext M M := ⟨fun _ _ h => h, List.prefix_refl _, rfl, rfl⟩
theorem Ext.trans {M M1 M2 : Fm} (a : Ext M M1) (b : Ext M1 M2) : Ext M M2 := ⟨fun c o h => b.F c o (a.F c o h), a.as.trans b.as, a.ls.trans b.ls, a.G.trans b.G⟩
theorem pre_get {α : Type} {l l' : List α} (h : l <+: l') {i : Nat} {x : α} (e : l[i]? = some x) : l'[i]? = some x := by
  obtain ⟨t, rfl⟩ := h
  rw [List.getElem?_append_left (List.getElem?_eq_some_iff.mp e).1]
  exact e

section
variable {K : PySem.W.Frag} {M M' : Fm}
theorem SqL.sub {F F' : Hp} {a : Addr} {xs : List V} (e : ∀ b o, F b = some o → F' b = some o) (h : SqL K F a xs) : SqL K F' a xs := by
  rcases h with (h | ⟨o, h⟩) | h
  · exact .inl (.inl (e _ _ h))
  · exact .inl (.inr ⟨o, e _ _ h⟩)
  · exact .inr h
theorem SqT.sub {F F' : Hp} {a : Addr} {xs : List V} (e : ∀ b o, F b = some o → F' b = some o) (h : SqT K F a xs) : SqT K F' a xs := by
  rcases h with (h | ⟨o, h⟩) | h
  · exact .inl (.inl (e _ _ h))
  · exact .inl (.inr ⟨o, e _ _ h⟩)
  · exact .inr h
mutual
theorem Rp.sub (x : ∀ b o, M.F b = some o → M'.F b = some o) : ∀ {d : D} {v : V}, Rp K M v d → Rp K M' v d
  | .non, _, h => by cases h; exact .non
  | .bl b, _, h => by cases h; exact .bl b
  | .int b, _, h => by cases h; exact .int b
  | .str b, _, h => by cases h; exact .str b
  | .tup ds, _, h => by cases h with | tup s r => exact .tup (SqT.sub x s) (RpL.sub x r)
  | .lst ds, _, h => by cases h with | lst s r => exact .lst (x _ _ s) (RpL.sub x r)
  | .scr ns, _, h => by cases h with | scr s => exact .scr (SqL.sub x s)
theorem RpL.sub (x : ∀ b o, M.F b = some o → M'.F b = some o) : ∀ {ds : List D} {vs : List V}, RpL K M vs ds → RpL K M' vs ds
  | [], _, h => by cases h; exact .nil
  | d :: ds, _, h => by cases h with | cons a b => exact .cons (Rp.sub x a) (RpL.sub x b)
end
theorem Rp.mono (x : Ext M M') {d : D} {v : V} (h : Rp K M v d) : Rp K M' v d := h.sub x.F
theorem RpL.mono (x : Ext M M') {ds : List D} {vs : List V} (h : RpL K M vs ds) : RpL K M' vs ds := h.sub x.F
theorem RpL.length : ∀ {vs : List V} {ds : List D}, RpL K M vs ds → vs.length = ds.length
  | _, _, .nil => rfl
  | _, _, .cons _ t => congrArg (· + 1) (RpL.length t)
theorem RpL.append : ∀ {vs ws : List V} {ds es : List D}, RpL K M vs ds → RpL K M ws es → RpL K M (vs ++ ws) (ds ++ es)
  | _, _, _, _, .nil, s => s
  | _, _, _, _, .cons a t, s => .cons a (RpL.append t s)
theorem RpL.get : ∀ {vs : List V} {ds : List D} {i : Nat} {d : D}, RpL K M vs ds → ds[i]? = some d → ∃ v, vs[i]? = some v ∧ Rp K M v d
  | _, _, _, _, .nil, e => by simp at e
  | _, _, 0, _, .cons a _, e => by simp at e; subst e; exact ⟨_, rfl, a⟩
  | _, _, i + 1, d, .cons _ t, e => by
    obtain ⟨u, h1, h2⟩ := RpL.get (i := i) (d := d) t (by simpa using e)
    exact ⟨u, by simpa using h1, h2⟩
theorem RpL.getV : ∀ {vs : List V} {ds : List D} {i : Nat} {v : V}, RpL K M vs ds → vs[i]? = some v → ∃ d, ds[i]? = some d ∧ Rp K M v d
  | _, _, _, _, .nil, e => by simp at e
  | _, _, 0, _, .cons a _, e => by simp at e; subst e; exact ⟨_, rfl, a⟩
  | _, _, i + 1, d, .cons _ t, e => by
    obtain ⟨u, h1, h2⟩ := RpL.getV (i := i) (v := d) t (by simpa using e)
    exact ⟨u, by simpa using h1, h2⟩
theorem RpL.set {v : V} {d : D} (r : Rp K M v d) : ∀ {vs : List V} {ds : List D} (i : Nat), RpL K M vs ds → RpL K M (vs.set i v) (ds.set i d)
  | _, _, _, .nil => .nil
  | _, _, 0, .cons _ t => .cons r t
  | _, _, i + 1, .cons q t => .cons q (RpL.set r i t)
theorem RpL.take : ∀ {vs : List V} {ds : List D} (n : Nat), RpL K M vs ds → RpL K M (vs.take n) (ds.take n)
  | _, _, 0, _ => .nil
  | _, _, _ + 1, .nil => .nil
  | _, _, n + 1, .cons r t => .cons r (RpL.take n t)
theorem RpL.drop : ∀ {vs : List V} {ds : List D} (n : Nat), RpL K M vs ds → RpL K M (vs.drop n) (ds.drop n)
  | _, _, 0, r => r
  | _, _, _ + 1, .nil => .nil
  | _, _, n + 1, .cons _ t => RpL.drop n t
theorem RpL.dropLast {vs : List V} {ds : List D} (h : RpL K M vs ds) : RpL K M vs.dropLast ds.dropLast := by
  rw [List.dropLast_eq_take, List.dropLast_eq_take, h.length]
  exact h.take _
theorem RpL.reverse : ∀ {vs : List V} {ds : List D}, RpL K M vs ds → RpL K M vs.reverse ds.reverse
  | _, _, .nil => .nil
  | _, _, .cons a t => by
    rw [List.reverse_cons, List.reverse_cons]
    exact (RpL.reverse t).append (.cons a .nil)
theorem RpL.eraseIdx : ∀ {vs : List V} {ds : List D} (i : Nat), RpL K M vs ds → RpL K M (vs.eraseIdx i) (ds.eraseIdx i)
  | _, _, _, .nil => .nil
  | _, _, 0, .cons _ t => t
  | _, _, i + 1, .cons a t => .cons a (RpL.eraseIdx i t)
theorem RpL.rep {vs : List V} {ds : List D} (h : RpL K M vs ds) : ∀ k : Nat, RpL K M (List.replicate k vs).flatten (List.replicate k ds).flatten
  | 0 => .nil
  | k + 1 => by
    rw [List.replicate_succ, List.replicate_succ, List.flatten_cons, List.flatten_cons]
    exact h.append (RpL.rep h k)
theorem RpL.mk : ∀ {vs : List V} {ds : List D}, vs.length = ds.length → (∀ (i : Nat) (v : V) (d : D), vs[i]? = some v → ds[i]? = some d → Rp K M v d) → RpL K M vs ds
  | [], [], _, _ => .nil
  | [], _ :: _, h, _ => by cases h
  | _ :: _, [], h, _ => by cases h
  | v :: vs, d :: ds, h, f => .cons (f 0 v d rfl rfl) (RpL.mk (by simpa using h) fun i w e a b => f (i + 1) w e (by simpa using a) (by simpa using b))
theorem RpL.ints : ∀ {ns : List Int}, RpL K M (ns.map V.int) (ns.map D.int)
  | [] => .nil
  | n :: ns => .cons (.int n) RpL.ints
theorem RpL.ints_inv : ∀ {ns : List Int} {vs : List V}, RpL K M vs (ns.map D.int) → vs = ns.map V.int
  | [], _, h => by cases h; rfl
  | n :: ns, _, h => by
    cases h with
    | cons a b =>
      cases a
      rw [RpL.ints_inv b]
      rfl
end

/-! ### the store -/
/-- what a slot's value stands for -/
inductive RpW (K : PySem.W.Frag) (M : Fm) : V → W → Prop
  | v {v : V} {d : D} : Rp K M v d → RpW K M v (.v d)
  | p {i : Nat} {a : Addr} : M.as[i]? = some a → RpW K M (.ref a) (.p i)
  | c {i : Nat} {a : Addr} : M.ls[i]? = some a → RpW K M (.ref a) (.c i)
theorem RpW.mono {K : PySem.W.Frag} {M M' : Fm} (x : Ext M M') {d : W} {v : V} (h : RpW K M v d) : RpW K M' v d := by
  cases h with
  | v h => exact .v (h.mono x)
  | p e => exact .p (pre_get x.as e)
  | c e => exact .c (by rw [← x.ls]; exact e)
inductive RpWL (K : PySem.W.Frag) (M : Fm) : List V → List W → Prop
  | nil : RpWL K M [] []
  | cons {v : V} {vs : List V} {d : W} {ds : List W} : RpW K M v d → RpWL K M vs ds → RpWL K M (v :: vs) (d :: ds)
theorem RpWL.mono {K : PySem.W.Frag} {M M' : Fm} (x : Ext M M') : ∀ {ds : List W} {vs : List V}, RpWL K M vs ds → RpWL K M' vs ds
  | [], _, h => by cases h; exact .nil
  | d :: ds, _, h => by cases h with | cons a b => exact .cons (a.mono x) (RpWL.mono x b)
theorem RpWL.length {K : PySem.W.Frag} {M : Fm} : ∀ {vs : List V} {ds : List W}, RpWL K M vs ds → vs.length = ds.length
  | _, _, .nil => rfl
  | _, _, .cons _ t => congrArg (· + 1) (RpWL.length t)
theorem RpWL.append {K : PySem.W.Frag} {M : Fm} : ∀ {vs ws : List V} {ds es : List W}, RpWL K M vs ds → RpWL K M ws es → RpWL K M (vs ++ ws) (ds ++ es)
  | _, _, _, _, .nil, s => s
  | _, _, _, _, .cons a t, s => .cons a (RpWL.append t s)
theorem RpWL.get {K : PySem.W.Frag} {M : Fm} : ∀ {vs : List V} {ds : List W} {i : Nat} {d : W}, RpWL K M vs ds → ds[i]? = some d → ∃ v, vs[i]? = some v ∧ RpW K M v d
  | _, _, _, _, .nil, e => by simp at e
  | _, _, 0, _, .cons a _, e => by simp at e; subst e; exact ⟨_, rfl, a⟩
  | _, _, i + 1, d, .cons _ t, e => by
    obtain ⟨u, h1, h2⟩ := RpWL.get (i := i) (d := d) t (by simpa using e)
    exact ⟨u, by simpa using h1, h2⟩
/-- where a class stands: its address by name -/
abbrev ClsAt := Str → Option Addr
def FsR (K : PySem.W.Frag) (M : Fm) : List (Str × V) → List (Str × W) → Prop := Paired fun p q => p.1 = q.1 ∧ RpW K M p.2 q.2

def keyD : Key → D
  | .inl i => .int i
  | .inr x => .str x
/-- a dict with int and text keys -/
def KvR (K : PySem.W.Frag) (M : Fm) : List (Key × V) → List (D × D) → Prop := Paired fun p q => keyD p.1 = q.1 ∧ Rp K M p.2 q.2
def CellR (K : PySem.W.Frag) (C : ClsAt) (M : Fm) (H : Hp) (a : Addr) : Cell → Prop
  | .lst ds => M.F a = none ∧ ∃ vs, H a = some (.lst vs) ∧ RpL K M vs ds
  | .obj c fs => M.F a = none ∧ ∃ (Ca dx : Addr) (fvs : List (Str × V)), C c = some Ca ∧ H a = some (.ins Ca dx fvs) ∧ FsR K M fvs fs
  | .dic kvs => M.F a = none ∧ ∃ kv, H a = some (.dK kv) ∧ KvR K M kv kvs
  | .dead => (∃ o, H a = some o)

structure WS (K : PySem.W.Frag) (C : ClsAt) (T : List Addr) (M : Fm) (S : List Cell) (H : Hp) : Prop where
  le : ∀ b o, M.F b = some o → H b = some o
  nd : M.as.Nodup
  len : M.as.length = S.length
  cell : ∀ (i : Nat) (a : Addr) (d : Cell), M.as[i]? = some a → S[i]? = some d → CellR K C M H a d
  tab : ∀ P ∈ T, M.F P = none ∧ P ∉ M.as ∧ M.G P = none ∧ ∃ ps, H P = some (.tbl ps) ∧ TriplesOk ps.toList
  gd : ∀ b o, M.G b = some o → H b = some o ∧ M.F b = none ∧ b ∉ M.as

/-- slots -/
def EnvR (K : PySem.W.Frag) (M : Fm) (σ : L2.St) (r : List (Option W)) : Prop :=
  σ.length = r.length ∧ ∀ (i : Nat) (d : W), r[i]? = some (some d) → ∃ v, σ[i]? = some (some v) ∧ RpW K M v d

section
variable {K : PySem.W.Frag} {C : ClsAt} {T : List Addr} {M M' : Fm} {S : List Cell} {H : Hp} {σ : L2.St} {r : List (Option W)}
theorem EnvR.mono (x : Ext M M') (h : EnvR K M σ r) : EnvR K M' σ r :=
  ⟨h.1, fun i d e => let ⟨v, a, b⟩ := h.2 i d e; ⟨v, a, b.mono x⟩⟩
theorem EnvR.set (h : EnvR K M σ r) {v : V} {d : W} (q : RpW K M v d) (i : Nat) : EnvR K M (σ.set i (some v)) (r.set i (some d)) := by
  refine ⟨by rw [List.length_set, List.length_set]; exact h.1, fun j e he => ?_⟩
  by_cases hj : i = j
  · subst hj
    have hlt : i < r.length := by
      have := (List.getElem?_eq_some_iff.mp he).1
      rwa [List.length_set] at this
    rw [List.getElem?_set_self hlt] at he
    cases he
    exact ⟨v, by rw [List.getElem?_set_self (by rw [h.1]; exact hlt)], q⟩
  · rw [List.getElem?_set_ne hj] at he
    obtain ⟨w, a, b⟩ := h.2 j e he
    exact ⟨w, by rw [List.getElem?_set_ne hj]; exact a, b⟩
/-- the slots of a block's own names forgotten -/
def wipeD (r : List (Option W)) : List Nat → List (Option W)
  | [] => r
  | v :: vs => (wipeD r vs).set v none
theorem wipeD_length (r : List (Option W)) : ∀ vs : List Nat, (wipeD r vs).length = r.length
  | [] => rfl
  | v :: vs => by unfold wipeD; rw [List.length_set, wipeD_length r vs]
theorem EnvR.wiped (h : EnvR K M σ r) : ∀ vs : List Nat, EnvR K M (wipe σ vs) (wipeD r vs)
  | [] => h
  | v :: vs => by
    have ih := EnvR.wiped h vs
    refine ⟨by rw [wipe_length, wipeD_length]; exact h.1, fun j e he => ?_⟩
    unfold wipeD at he
    unfold wipe
    by_cases hj : v = j
    · subst hj
      have hlt : v < (wipeD r vs).length := by
        have := (List.getElem?_eq_some_iff.mp he).1
        rwa [List.length_set] at this
      rw [List.getElem?_set_self hlt] at he
      cases he
    · rw [List.getElem?_set_ne hj] at he
      obtain ⟨w, a, b⟩ := ih.2 j e he
      exact ⟨w, by rw [List.getElem?_set_ne hj]; exact a, b⟩

theorem FsR.mono (x : Ext M M') : ∀ {fvs : List (Str × V)} {fs : List (Str × W)}, FsR K M fvs fs → FsR K M' fvs fs
  | _, _, .nil => .nil
  | _, _, .cons a t => .cons ⟨a.1, a.2.mono x⟩ (FsR.mono x t)

theorem KvR.mono (x : Ext M M') : ∀ {kv : List (Key × V)} {kvs : List (D × D)}, KvR K M kv kvs → KvR K M' kv kvs
  | _, _, .nil => .nil
  | _, _, .cons a t => .cons ⟨a.1, a.2.mono x⟩ (KvR.mono x t)

/-- a cell's description carried to a later view, the heap kept at a -/
theorem CellR.mono {a : Addr} {d : Cell} {H' : Hp} (x : Ext M M') (hF : d = .dead ∨ M'.F a = none) (hH : ∀ o, H a = some o → H' a = some o) (h : CellR K C M H a d) : CellR K C M' H' a d := by
  cases d with
  | lst ds =>
    obtain ⟨_, vs, e, q⟩ := h
    refine ⟨hF.resolve_left (fun z => by cases z), vs, hH _ e, q.mono x⟩
  | obj c fs =>
    obtain ⟨_, Ca, dx, fvs, ec, e, q⟩ := h
    exact ⟨hF.resolve_left (fun z => by cases z), Ca, dx, fvs, ec, hH _ e, FsR.mono x q⟩
  | dic kvs =>
    obtain ⟨_, kv, e, q⟩ := h
    exact ⟨hF.resolve_left (fun z => by cases z), kv, hH _ e, KvR.mono x q⟩
  | dead =>
    obtain ⟨o, e⟩ := h
    exact ⟨o, hH _ e⟩
theorem CellR.there {a : Addr} {d : Cell} (h : CellR K C M H a d) : ∃ o, H a = some o := by
  cases d with
  | lst ds => obtain ⟨_, vs, e, _⟩ := h; exact ⟨_, e⟩
  | obj c fs => obtain ⟨_, _, _, _, _, e, _⟩ := h; exact ⟨_, e⟩
  | dic kvs => obtain ⟨_, _, e, _⟩ := h; exact ⟨_, e⟩
  | dead => exact h
theorem CellR.out {a : Addr} {d : Cell} (h : CellR K C M H a d) : d = .dead ∨ M.F a = none := by
  cases d with
  | lst ds => exact .inr h.1
  | obj c fs => exact .inr h.1
  | dic kvs => exact .inr h.1
  | dead => exact .inl rfl

theorem WS.at_lt (w : WS K C T M S H) {i : Nat} {a : Addr} (e : M.as[i]? = some a) : ∃ d, S[i]? = some d ∧ CellR K C M H a d := by
  have hlt : i < S.length := by rw [← w.len]; exact (List.getElem?_eq_some_iff.mp e).1
  exact ⟨S[i], List.getElem?_eq_getElem hlt, w.cell i a _ e (List.getElem?_eq_getElem hlt)⟩
theorem WS.as_some (w : WS K C T M S H) {a : Addr} (h : a ∈ M.as) : ∃ o, H a = some o := by
  obtain ⟨i, hi⟩ := List.mem_iff_getElem?.mp h
  obtain ⟨d, _, c⟩ := w.at_lt hi
  exact c.there

/-- a new object laid and frozen -/
abbrev Fm.frz (M : Fm) (p : Addr) (o : HO) : Fm := { M with F := upd M.F p o }
theorem Ext.frz {p : Addr} {o : HO} (h : M.F p = none) : Ext M (M.frz p o) :=
  ⟨fun b u e => by show upd M.F p o b = _; rw [upd_ne (ne_of_none e h)]; exact e, List.prefix_refl _, rfl, rfl⟩
theorem WS.Fnone (w : WS K C T M S H) {p : Addr} (h : H p = none) : M.F p = none := by
  cases q : M.F p with
  | none => rfl
  | some o => rw [w.le _ _ q] at h; cases h
theorem WS.lay (w : WS K C T M S H) {p : Addr} {o : HO} (h : H p = none) : WS K C T (M.frz p o) S (upd H p o) ∧ Ext M (M.frz p o) := by
  have hF := w.Fnone h
  have ne : ∀ {a : Addr} {u : HO}, H a = some u → a ≠ p := fun e => ne_of_none e h
  refine ⟨⟨fun b u e => ?_, w.nd, w.len, fun i a d e1 e2 => ?_, fun P hP => ?_, fun b u e => ?_⟩, Ext.frz hF⟩
  · have e : upd M.F p o b = some u := e
    by_cases hb : b = p
    · subst hb; rw [upd_same] at e ⊢; exact e
    · rw [upd_ne hb] at e ⊢; exact w.le _ _ e
  · have c := w.cell i a d e1 e2
    obtain ⟨u, eu⟩ := c.there
    refine CellR.mono (Ext.frz hF) ?_ (fun u' e' => by rw [upd_ne (ne e')]; exact e') c
    rcases c.out with z | z
    · exact .inl z
    · exact .inr (by show upd M.F p o a = none; rw [upd_ne (ne eu)]; exact z)
  · obtain ⟨h1, h2, h2', ps, h3, h4⟩ := w.tab P hP
    refine ⟨?_, h2, h2', ps, by rw [upd_ne (ne h3)]; exact h3, h4⟩
    show upd M.F p o P = none
    rw [upd_ne (ne h3)]
    exact h1
  · obtain ⟨h1, h2, h3⟩ := w.gd b u e
    refine ⟨by rw [upd_ne (ne h1)]; exact h1, ?_, h3⟩
    show upd M.F p o b = none
    rw [upd_ne (ne h1)]
    exact h2
theorem frz_T {p : Addr} {vs : List V} : SqT K (M.frz p (.tup vs)).F p vs := SqT.of (by show upd M.F p _ p = _; exact upd_same)
theorem frz_L {p : Addr} {vs : List V} : (M.frz p (.lst vs)).F p = some (.lst vs) := by show upd M.F p _ p = _; exact upd_same

/-- a new object laid as a cell -/
abbrev Fm.more (M : Fm) (p : Addr) : Fm := { M with as := M.as ++ [p] }
theorem Ext.more {p : Addr} : Ext M (M.more p) := ⟨fun _ _ e => e, List.prefix_append _ _, rfl, rfl⟩
theorem WS.layC (w : WS K C T M S H) {p : Addr} {o : HO} {d : Cell} (h : H p = none) (hd : CellR K C (M.more p) (upd H p o) p d) : WS K C T (M.more p) (S ++ [d]) (upd H p o) ∧ Ext M (M.more p) := by
  have ne : ∀ {a : Addr} {u : HO}, H a = some u → a ≠ p := fun e => ne_of_none e h
  have hpa : p ∉ M.as := fun z => by
    obtain ⟨u, e⟩ := w.as_some z
    rw [h] at e; cases e
  refine ⟨⟨fun b u e => ?_, ?_, ?_, fun i a d' e1 e2 => ?_, fun P hP => ?_, fun b u e => ?_⟩, Ext.more⟩
  · rw [upd_ne (ne (w.le _ _ e))]; exact w.le _ _ e
  · show (M.as ++ [p]).Nodup
    rw [List.nodup_append]
    refine ⟨w.nd, by simp, fun a ha b hb => ?_⟩
    rw [List.mem_singleton.mp hb]
    rintro rfl
    exact hpa ha
  · show (M.as ++ [p]).length = _
    rw [List.length_append, List.length_append, w.len]; rfl
  · have e1 : (M.as ++ [p])[i]? = some a := e1
    by_cases hi : i < M.as.length
    · rw [List.getElem?_append_left hi] at e1
      rw [List.getElem?_append_left (by rw [← w.len]; exact hi)] at e2
      have c := w.cell i a d' e1 e2
      exact CellR.mono Ext.more c.out (fun u' e' => by rw [upd_ne (ne e')]; exact e') c
    · rw [List.getElem?_append_right (by omega)] at e1
      rw [List.getElem?_append_right (by rw [← w.len]; omega)] at e2
      rw [w.len] at e1
      cases q : i - S.length with
      | zero =>
        rw [q] at e1 e2
        cases e1; cases e2
        exact hd
      | succ k => rw [q] at e1; cases e1
  · obtain ⟨h1, h2, h2', ps, h3, h4⟩ := w.tab P hP
    refine ⟨h1, fun z => ?_, h2', ps, by rw [upd_ne (ne h3)]; exact h3, h4⟩
    rcases List.mem_append.mp z with z | z
    · exact h2 z
    · rw [List.mem_singleton.mp z, h] at h3; cases h3
  · obtain ⟨h1, h2, h3⟩ := w.gd b u e
    refine ⟨by rw [upd_ne (ne h1)]; exact h1, h2, fun z => ?_⟩
    rcases List.mem_append.mp z with z | z
    · exact h3 z
    · rw [List.mem_singleton.mp z, h] at h1; cases h1

/-- a cell written -/
theorem WS.put (w : WS K C T M S H) {i : Nat} {a : Addr} {o : HO} {d d0 : Cell} (e : M.as[i]? = some a) (e0 : S[i]? = some d0) (hn : d0 ≠ .dead) (hd : CellR K C M (upd H a o) a d) : WS K C T M (S.set i d) (upd H a o) := by
  have c0 := w.cell i a d0 e e0
  have hF : M.F a = none := c0.out.resolve_left hn
  have hlt : i < S.length := (List.getElem?_eq_some_iff.mp e0).1
  refine ⟨fun b u q => ?_, w.nd, by rw [List.length_set]; exact w.len, fun j b d' e1 e2 => ?_, fun P hP => ?_, fun b u q => ?_⟩
  · have hb : b ≠ a := fun z => by rw [z, hF] at q; cases q
    rw [upd_ne hb]; exact w.le _ _ q
  · by_cases hj : i = j
    · subst hj
      rw [e] at e1; cases e1
      rw [List.getElem?_set_self hlt] at e2
      cases e2
      exact hd
    · rw [List.getElem?_set_ne hj] at e2
      have c := w.cell j b d' e1 e2
      have hba : b ≠ a := fun z => by
        subst z
        exact hj (nd_ix w.nd e e1)
      exact CellR.mono (Ext.refl _) c.out (fun u q => by rw [upd_ne hba]; exact q) c
  · obtain ⟨h1, h2, h2', ps, h3, h4⟩ := w.tab P hP
    have hPa : P ≠ a := fun z => h2 (z ▸ List.mem_of_getElem? e)
    exact ⟨h1, h2, h2', ps, by rw [upd_ne hPa]; exact h3, h4⟩
  · obtain ⟨h1, h2, h3⟩ := w.gd b u q
    exact ⟨by rw [upd_ne (show b ≠ a from fun z => h3 (z ▸ List.mem_of_getElem? e))]; exact h1, h2, h3⟩

/-- a list cell is frozen: from now on it is a plain value -/
theorem WS.snap (w : WS K C T M S H) {i : Nat} {a : Addr} {ds : List D} {vs : List V} (e : M.as[i]? = some a) (e0 : S[i]? = some (.lst ds)) (hv : H a = some (.lst vs)) : WS K C T (M.frz a (.lst vs)) (S.set i .dead) H ∧ Ext M (M.frz a (.lst vs)) := by
  have c0 := w.cell i a _ e e0
  have hF : M.F a = none := c0.1
  have hlt : i < S.length := (List.getElem?_eq_some_iff.mp e0).1
  refine ⟨⟨fun b u q => ?_, w.nd, by rw [List.length_set]; exact w.len, fun j b d' e1 e2 => ?_, fun P hP => ?_, fun b u q => ?_⟩, Ext.frz hF⟩
  · have q : upd M.F a _ b = some u := q
    by_cases hb : b = a
    · subst hb; rw [upd_same] at q; cases q; exact hv
    · rw [upd_ne hb] at q; exact w.le _ _ q
  · by_cases hj : i = j
    · subst hj
      have e1 : M.as[i]? = some b := e1
      rw [e] at e1; cases e1
      rw [List.getElem?_set_self hlt] at e2
      cases e2
      exact ⟨_, hv⟩
    · rw [List.getElem?_set_ne hj] at e2
      have c := w.cell j b d' e1 e2
      have hba : b ≠ a := fun z => by
        subst z
        exact hj (nd_ix w.nd e e1)
      refine CellR.mono (Ext.frz hF) ?_ (fun u q => q) c
      rcases c.out with z | z
      · exact .inl z
      · exact .inr (by show upd M.F a _ b = none; rw [upd_ne hba]; exact z)
  · obtain ⟨h1, h2, h2', ps, h3, h4⟩ := w.tab P hP
    refine ⟨?_, h2, h2', ps, h3, h4⟩
    show upd M.F a _ P = none
    rw [upd_ne (show P ≠ a from fun z => h2 (z ▸ List.mem_of_getElem? e))]
    exact h1
  · obtain ⟨h1, h2, h3⟩ := w.gd b u q
    refine ⟨h1, ?_, h3⟩
    show upd M.F a _ b = none
    rw [upd_ne (show b ≠ a from fun z => h3 (z ▸ List.mem_of_getElem? e))]
    exact h2
/-- the guard does not matter -/
theorem RpW.reg {g : Hp} {v : V} {d : W} (h : RpW K M v d) : RpW K { M with G := g } v d := by
  cases h with
  | v h => exact .v (h.sub (M := M) (M' := { M with G := g }) fun _ _ z => z)
  | p e => exact .p e
  | c e => exact .c e
theorem FsR.reg {g : Hp} : ∀ {fvs : List (Str × V)} {fs : List (Str × W)}, FsR K M fvs fs → FsR K { M with G := g } fvs fs
  | _, _, .nil => .nil
  | _, _, .cons a t => .cons ⟨a.1, a.2.reg⟩ (FsR.reg t)
theorem KvR.reg {g : Hp} : ∀ {kv : List (Key × V)} {kvs : List (D × D)}, KvR K M kv kvs → KvR K { M with G := g } kv kvs
  | _, _, .nil => .nil
  | _, _, .cons a t => .cons ⟨a.1, a.2.sub (M := M) (M' := { M with G := g }) fun _ _ z => z⟩ (KvR.reg t)
theorem CellR.reg {g : Hp} {a : Addr} {d : Cell} (h : CellR K C M H a d) : CellR K C { M with G := g } H a d := by
  cases d with
  | lst ds => obtain ⟨a1, vs, a2, a3⟩ := h; exact ⟨a1, vs, a2, a3.sub (M := M) (M' := { M with G := g }) fun _ _ z => z⟩
  | obj cc fs => obtain ⟨a1, Ca, dx, fvs, a2, a3, a4⟩ := h; exact ⟨a1, Ca, dx, fvs, a2, a3, a4.reg⟩
  | dic kvs => obtain ⟨a1, kv, a2, a3⟩ := h; exact ⟨a1, kv, a2, a3.reg⟩
  | dead => exact h
theorem EnvR.reg {g : Hp} (h : EnvR K M σ r) : EnvR K { M with G := g } σ r := ⟨h.1, fun i d e => let ⟨v, a, b⟩ := h.2 i d e; ⟨v, a, b.reg⟩⟩
/-- a further thing guarded -/
theorem WS.guard (w : WS K C T M S H) {p : Addr} {o : HO} (h : H p = none) : WS K C T { M with G := upd M.G p o } S (upd H p o) := by
  have ne : ∀ {a : Addr} {u : HO}, H a = some u → a ≠ p := fun e => ne_of_none e h
  refine ⟨fun b u e => by rw [upd_ne (ne (w.le _ _ e))]; exact w.le _ _ e, w.nd, w.len, fun i a d e1 e2 => ?_, fun P hP => ?_, fun b u e => ?_⟩
  · have c := w.cell i a d e1 e2
    obtain ⟨u, eu⟩ := c.there
    have c' : CellR K C M (upd H p o) a d := CellR.mono (Ext.refl M) c.out (fun u' e' => by rw [upd_ne (ne e')]; exact e') c
    exact c'.reg
  · obtain ⟨h1, h2, h2', ps, h3, h4⟩ := w.tab P hP
    refine ⟨h1, h2, ?_, ps, by rw [upd_ne (ne h3)]; exact h3, h4⟩
    show upd M.G p o P = none
    rw [upd_ne (ne h3)]; exact h2'
  · have e : upd M.G p o b = some u := e
    by_cases hb : b = p
    · subst hb
      rw [upd_same] at e; cases e
      refine ⟨upd_same, w.Fnone h, fun z => ?_⟩
      obtain ⟨u', e'⟩ := w.as_some z
      rw [h] at e'; cases e'
    · rw [upd_ne hb] at e
      obtain ⟨h1, h2, h3⟩ := w.gd b u e
      exact ⟨by rw [upd_ne hb]; exact h1, h2, h3⟩
/-- the guard taken off again -/
theorem WS.unguard {M' : Fm} {p : Addr} {o : HO} {S' : List Cell} {H' : Hp} (hp : M.G p = none) (x : Ext { M with G := upd M.G p o } M') (w : WS K C T M' S' H') :
    Ext M { M' with G := M.G } ∧ H' p = some o ∧ M'.F p = none ∧ p ∉ M'.as ∧ WS K C T { M' with G := M.G } S' H' := by
  have eG : M'.G = upd M.G p o := x.G.symm
  obtain ⟨g1, g2, g3⟩ := w.gd p o (by rw [eG]; exact upd_same)
  refine ⟨⟨x.F, x.as, x.ls, rfl⟩, g1, g2, g3, ⟨w.le, w.nd, w.len, fun i a d e1 e2 => (w.cell i a d e1 e2).reg, fun P hP => ?_, fun b u e => ?_⟩⟩
  · obtain ⟨h1, h2, h2', rest⟩ := w.tab P hP
    refine ⟨h1, h2, ?_, rest⟩
    show M.G P = none
    rw [eG] at h2'
    by_cases hb : P = p
    · subst hb; rw [upd_same] at h2'; cases h2'
    · rw [upd_ne hb] at h2'; exact h2'
  · have e : M.G b = some u := e
    refine w.gd b u ?_
    rw [eG]
    by_cases hb : b = p
    · subst hb; rw [hp] at e; cases e
    · rw [upd_ne hb]; exact e
theorem WS.Gnone (w : WS K C T M S H) {p : Addr} (h : H p = none) : M.G p = none := by
  cases q : M.G p with
  | none => rfl
  | some o => rw [(w.gd p o q).1] at h; cases h
/-- a guarded thing that was added may change (what it guards is its own) -/
theorem WS.guard_upd (w : WS K C T M S H) {p : Addr} {o : HO} (hF : M.F p = none) (ha : p ∉ M.as) (hG : M.G p = none) (hT : ∀ P ∈ T, P ≠ p) : WS K C T M S (upd H p o) := by
  refine ⟨fun b u e => by rw [upd_ne (show b ≠ p from fun z => by rw [z, hF] at e; cases e)]; exact w.le _ _ e, w.nd, w.len, fun i a d e1 e2 => ?_, fun P hP => ?_, fun b u e => ?_⟩
  · have c := w.cell i a d e1 e2
    have hap : a ≠ p := fun z => ha (z ▸ List.mem_of_getElem? e1)
    exact CellR.mono (Ext.refl M) c.out (fun u' e' => by rw [upd_ne hap]; exact e') c
  · obtain ⟨h1, h2, h2', ps, h3, h4⟩ := w.tab P hP
    exact ⟨h1, h2, h2', ps, by rw [upd_ne (hT P hP)]; exact h3, h4⟩
  · obtain ⟨h1, h2, h3⟩ := w.gd b u e
    exact ⟨by rw [upd_ne (show b ≠ p from fun z => by rw [z, hG] at e; cases e)]; exact h1, h2, h3⟩
end
end Dy
set_option Elab.async false
set_option linter.all false
set_option maxRecDepth 100000
set_option maxHeartbeats 2000000
/-! Dy1a: equality and order of plain data. -/
namespace Dy
open PySem PySem.Spec PyProof.Rows L2

mutual
def eqD : D → D → Bool
  | .non, .non => true
  | .bl a, .bl b => a == b
  | .bl a, .int j => (if a then 1 else 0) == j
  | .int i, .bl b => i == (if b then 1 else 0)
  | .int i, .int j => i == j
  | .str x, .str y => x == y
  | .lst xs, .lst ys => eqDL xs ys
  | .tup xs, .tup ys => eqDL xs ys
  | _, _ => false
def eqDL : List D → List D → Bool
  | [], [] => true
  | x :: xs, y :: ys => eqD x y && eqDL xs ys
  | _, _ => false
end
mutual
def toPy : D → PyData
  | .non => .none
  | .bl b => .bool b
  | .int i => .int i
  | .str x => .str x
  | .tup xs => .tuple (toPyL xs)
  | .lst xs => .list (toPyL xs)
  | _ => .dict []
def toPyL : List D → List PyData
  | [] => []
  | x :: xs => toPy x :: toPyL xs
end
mutual
def flD : D → Bool
  | .non | .bl _ | .int _ => true
  | .str x => PyData.strOk x
  | .tup xs | .lst xs => flDL xs
  | _ => false
def flDL : List D → Bool
  | [] => true
  | x :: xs => flD x && flDL xs
end
mutual
def dpt : D → Nat
  | .tup xs | .lst xs => dptL xs + 1
  | _ => 0
def dptL : List D → Nat
  | [] => 0
  | x :: xs => max (dpt x) (dptL xs)
end
theorem dptL_at : ∀ (xs : List D) (j : Nat) (h : j < xs.length), dpt xs[j] ≤ dptL xs
  | [], j, h => absurd h (Nat.not_lt_zero _)
  | x :: xs, 0, _ => by unfold dptL; exact Nat.le_max_left _ _
  | x :: xs, j + 1, h => by
    unfold dptL
    exact Nat.le_trans (dptL_at xs j (by simpa using h)) (Nat.le_max_right _ _)
/-- data that may be compared -/
def shp (d : D) : Bool := flD d && decide (dpt d ≤ 60)
mutual
theorem lay_fl : ∀ d : D, (toPy d).canLay0 = flD d
  | .non => rfl
  | .bl _ => rfl
  | .int _ => rfl
  | .str x => rfl
  | .tup xs => by unfold toPy flD; rw [show (PyData.tuple (toPyL xs)).canLay0 = PyData.canLayAll0 (toPyL xs) from rfl]; exact lay_flL xs
  | .lst xs => by unfold toPy flD; rw [show (PyData.list (toPyL xs)).canLay0 = PyData.canLayAll0 (toPyL xs) from rfl]; exact lay_flL xs
  | .scr _ => rfl
theorem lay_flL : ∀ ds : List D, PyData.canLayAll0 (toPyL ds) = flDL ds
  | [] => rfl
  | d :: ds => by unfold toPyL flDL; rw [show PyData.canLayAll0 (toPy d :: toPyL ds) = ((toPy d).canLay0 && PyData.canLayAll0 (toPyL ds)) from rfl, lay_fl d, lay_flL ds]
end
mutual
theorem dpt_py : ∀ d : D, flD d = true → (toPy d).depth = dpt d
  | .non, _ => rfl
  | .bl _, _ => rfl
  | .int _, _ => rfl
  | .str x, _ => rfl
  | .tup xs, h => by unfold toPy dpt; rw [show (PyData.tuple (toPyL xs)).depth = PyData.depthAll (toPyL xs) + 1 from rfl, dpt_pyL xs (by unfold flD at h; exact h)]
  | .lst xs, h => by unfold toPy dpt; rw [show (PyData.list (toPyL xs)).depth = PyData.depthAll (toPyL xs) + 1 from rfl, dpt_pyL xs (by unfold flD at h; exact h)]
  | .scr _, h => by cases h
theorem dpt_pyL : ∀ ds : List D, flDL ds = true → PyData.depthAll (toPyL ds) = dptL ds
  | [], _ => rfl
  | d :: ds, h => by
    unfold flDL at h
    have h2 := Bool.and_eq_true_iff.mp h
    unfold toPyL dptL
    rw [show PyData.depthAll (toPy d :: toPyL ds) = max (toPy d).depth (PyData.depthAll (toPyL ds)) from rfl, dpt_py d h2.1, dpt_pyL ds h2.2]
end
mutual
theorem eqv_py : ∀ (x y : D), flD x = true → flD y = true → PyData.eqv (toPy x) (toPy y) = eqD x y
  | .non, y, _, h => by cases y <;> first | rfl | (cases h)
  | .bl _, y, _, h => by cases y <;> first | rfl | (cases h)
  | .int _, y, _, h => by cases y <;> first | rfl | (cases h)
  | .str x, y, _, h => by cases y <;> first | rfl | (cases h)
  | .tup xs, y, hx, h => by
    cases y <;> first | rfl | (cases h) | skip
    rename_i ys
    unfold toPy eqD
    rw [show PyData.eqv (.tuple (toPyL xs)) (.tuple (toPyL ys)) = PyData.eqvAll (toPyL xs) (toPyL ys) from rfl]
    exact eqv_pyL xs ys (by unfold flD at hx; exact hx) (by unfold flD at h; exact h)
  | .lst xs, y, hx, h => by
    cases y <;> first | rfl | (cases h) | skip
    rename_i ys
    unfold toPy eqD
    rw [show PyData.eqv (.list (toPyL xs)) (.list (toPyL ys)) = PyData.eqvAll (toPyL xs) (toPyL ys) from rfl]
    exact eqv_pyL xs ys (by unfold flD at hx; exact hx) (by unfold flD at h; exact h)
  | .scr _, _, h, _ => by cases h
theorem eqv_pyL : ∀ (xs ys : List D), flDL xs = true → flDL ys = true → PyData.eqvAll (toPyL xs) (toPyL ys) = eqDL xs ys
  | [], [], _, _ => rfl
  | [], _ :: _, _, _ => rfl
  | _ :: _, [], _, _ => rfl
  | x :: xs, y :: ys, hx, hy => by
    unfold flDL at hx hy
    have a := Bool.and_eq_true_iff.mp hx
    have b := Bool.and_eq_true_iff.mp hy
    unfold toPyL eqDL
    rw [show PyData.eqvAll (toPy x :: toPyL xs) (toPy y :: toPyL ys) = (PyData.eqv (toPy x) (toPy y) && PyData.eqvAll (toPyL xs) (toPyL ys)) from rfl, eqv_py x y a.1 b.1, eqv_pyL xs ys a.2 b.2]
end

section
variable {K : PySem.W.Frag} {M : Fm} {H : Hp}
mutual
theorem Rp.dp (hF : ∀ b o, M.F b = some o → H b = some o) : ∀ (d : D) (v : V), flD d = true → Rp K M v d → Dp K H v (toPy d)
  | .non, _, _, h => by cases h; exact .non
  | .bl b, _, _, h => by cases h; exact .bl b
  | .int i, _, _, h => by cases h; exact .int i
  | .str x, _, _, h => by cases h; exact .str x
  | .tup ds, _, f, h => by
    cases h with
    | tup s r =>
      unfold toPy
      exact .tup (SqT.sub hF s) (RpL.dpL hF ds _ (by unfold flD at f; exact f) r)
  | .lst ds, _, f, h => by
    cases h with
    | lst s r =>
      unfold toPy
      exact .lst (SqL.of (hF _ _ s)) (RpL.dpL hF ds _ (by unfold flD at f; exact f) r)
  | .scr _, _, f, _ => by cases f
theorem RpL.dpL (hF : ∀ b o, M.F b = some o → H b = some o) : ∀ (ds : List D) (vs : List V), flDL ds = true → RpL K M vs ds → DpAll K H vs (toPyL ds)
  | [], _, _, h => by cases h; exact .nil
  | d :: ds, _, f, h => by
    unfold flDL at f
    have f2 := Bool.and_eq_true_iff.mp f
    cases h with
    | cons a b =>
      unfold toPyL
      exact .cons (Rp.dp hF d _ f2.1 a) (RpL.dpL hF ds _ f2.2 b)
end
end

theorem shp_fl {d : D} (h : shp d = true) : flD d = true := (Bool.and_eq_true_iff.mp h).1
theorem shp_dpt {d : D} (h : shp d = true) : dpt d ≤ 60 := of_decide_eq_true (Bool.and_eq_true_iff.mp h).2
theorem shp_shaped {d : D} (h : shp d = true) : SeqAt.shaped (toPy d) = true := by
  have h1 := shp_fl h
  have h2 := shp_dpt h
  unfold SeqAt.shaped
  rw [lay_fl, h1, dpt_py d h1, decide_eq_true (by omega)]
  rfl
/-- == at a state, of data at any depth -/
theorem eqAt_D {X : Cx} {pins : List (Addr × Obj)} {σ : L2.St} {H : Hp} {s : Shared} {M N : Fm} {A : Around} {x y : D} {v w : V} {u t : Value} (I : Inv X pins σ H s) (hF : ∀ b o, M.F b = some o → H b = some o) (hG : ∀ b o, N.F b = some o → H b = some o)
    (hx : shp x = true) (hy : shp y = true) (hu : A.units + 64 < cLine) (rx : Rp X.K M v x) (ry : Rp X.K N w y) (ru : RelV v u) (rt : RelV w t) : SeqAt.EqAt A s u t (eqD x y) := by
  obtain ⟨as, r1⟩ := Dp.reads I _ v u (Rp.dp hF x v (shp_fl hx) rx) ru
  obtain ⟨bs, r2⟩ := Dp.reads I _ w t (Rp.dp hG y w (shp_fl hy) ry) rt
  have h := SeqAt.eqAt_reads _ _ A s u t as bs r1 r2 (by rw [lay_fl]; exact shp_fl hx) (by rw [lay_fl]; exact shp_fl hy) (by
    have h1 := dpt_py x (shp_fl hx)
    have h2 := shp_dpt hx
    have h3 := Nat.min_le_left (toPy x).depth (toPy y).depth
    omega)
  rw [eqv_py x y (shp_fl hx) (shp_fl hy)] at h
  exact h

/-! ### order -/
def intB (op : CmpOp) (i j : Int) : Bool := match op with
  | .Lt => decide (i < j)
  | .LtE => decide (i ≤ j)
  | .Gt => decide (j < i)
  | .GtE => decide (j ≤ i)
  | _ => false
def natB (op : CmpOp) (i j : Nat) : Bool := match op with
  | .Lt => decide (i < j)
  | .LtE => decide (i ≤ j)
  | .Gt => decide (i > j)
  | .GtE => decide (i ≥ j)
  | _ => false
def isOrd : CmpOp → Bool
  | .Lt | .LtE | .Gt | .GtE => true
  | _ => false
mutual
/-- the order of whole numbers and of tuples; none where it is not told -/
def ordD (op : CmpOp) : D → D → Option Bool
  | .int i, .int j => some (intB op i j)
  | .tup xs, .tup ys => ordDL op (natB op xs.length ys.length) xs ys
  | _, _ => none
def ordDL (op : CmpOp) (z : Bool) : List D → List D → Option Bool
  | x :: xs, y :: ys => if (shp x && shp y) = true then (match ordD op x y, ordDL op z xs ys with
    | some r, some q => some (if eqD x y = true then q else r)
    | _, _ => none) else none
  | _, _ => some z
end
theorem ordDL_cons {op : CmpOp} {z : Bool} {x y : D} {xs ys : List D} {b : Bool} (h : ordDL op z (x :: xs) (y :: ys) = some b) :
    shp x = true ∧ shp y = true ∧ ∃ r q, ordD op x y = some r ∧ ordDL op z xs ys = some q ∧ b = if eqD x y = true then q else r := by
  unfold ordDL at h
  split at h
  · rename_i hs
    have hs := Bool.and_eq_true_iff.mp hs
    refine ⟨hs.1, hs.2, ?_⟩
    split at h
    · rename_i r q h1 h2
      cases h
      exact ⟨r, q, h1, h2, rfl⟩
    · cases h
  · cases h
/-- at each place -/
theorem ordDL_at {op : CmpOp} {z : Bool} : ∀ {xs ys : List D} {b : Bool}, ordDL op z xs ys = some b → ∀ (j : Nat) (h1 : j < xs.length) (h2 : j < ys.length), shp xs[j] = true ∧ shp ys[j] = true ∧ ∃ r, ordD op xs[j] ys[j] = some r
  | [], _, _, _, j, h1, _ => absurd h1 (Nat.not_lt_zero _)
  | _ :: _, [], _, _, j, _, h2 => absurd h2 (Nat.not_lt_zero _)
  | x :: xs, y :: ys, b, h, j, h1, h2 => by
    obtain ⟨s1, s2, r, q, e1, e2, _⟩ := ordDL_cons h
    cases j with
    | zero => exact ⟨s1, s2, r, e1⟩
    | succ j => exact ordDL_at e2 j (by simpa using h1) (by simpa using h2)
def eAt (xs ys : List D) (j : Nat) : Bool := match xs[j]?, ys[j]? with
  | some x, some y => eqD x y
  | _, _ => false
def rAt (op : CmpOp) (xs ys : List D) (j : Nat) : Bool := match xs[j]?, ys[j]? with
  | some x, some y => (ordD op x y).getD false
  | _, _ => false
theorem lex_shift (e r : Nat → Bool) (z : Bool) : ∀ (k i : Nat), Ob.lexAt e r z (i + 1) k = Ob.lexAt (fun j => e (j + 1)) (fun j => r (j + 1)) z i k
  | 0, i => rfl
  | k + 1, i => by
    rw [Ob.lexAt_succ, Ob.lexAt_succ, lex_shift e r z k (i + 1)]
theorem ordDL_lex {op : CmpOp} {z : Bool} : ∀ {xs ys : List D} {b : Bool}, ordDL op z xs ys = some b → Ob.lexAt (eAt xs ys) (rAt op xs ys) z 0 (min xs.length ys.length) = b
  | [], ys, b, h => by
    unfold ordDL at h
    cases h
    rw [show min ([] : List D).length ys.length = 0 from Nat.zero_min _]
    rfl
  | x :: xs, [], b, h => by
    unfold ordDL at h
    cases h
    rw [show min (x :: xs).length ([] : List D).length = 0 from Nat.min_zero _]
    rfl
  | x :: xs, y :: ys, b, h => by
    obtain ⟨s1, s2, r, q, e1, e2, e3⟩ := ordDL_cons h
    rw [show min (x :: xs).length (y :: ys).length = min xs.length ys.length + 1 by simp [Nat.add_min_add_right], Ob.lexAt_succ, lex_shift]
    rw [show (fun j => eAt (x :: xs) (y :: ys) (j + 1)) = eAt xs ys from by funext j; simp [eAt], show (fun j => rAt op (x :: xs) (y :: ys) (j + 1)) = rAt op xs ys from by funext j; simp [rAt], ordDL_lex e2, e3]
    have h1 : eAt (x :: xs) (y :: ys) 0 = eqD x y := by simp [eAt]
    have h2 : rAt op (x :: xs) (y :: ys) 0 = r := by simp [rAt, e1]
    rw [h1, h2]

theorem RpL.at_ {K : PySem.W.Frag} {M : Fm} {vs : List V} {ds : List D} {us : List Value} (r : RpL K M vs ds) (q : Vals vs us) (j : Nat) (h : j < us.length) : ∃ (h1 : j < ds.length) (v : V), Rp K M v ds[j] ∧ RelV v us[j] := by
  have e1 : vs.length = us.length := q.length
  have e2 := r.length
  have hv : j < vs.length := by omega
  have hd : j < ds.length := by omega
  obtain ⟨u, a, b⟩ := q.get (List.getElem?_eq_getElem hv)
  obtain ⟨d, a2, b2⟩ := r.getV (List.getElem?_eq_getElem hv)
  rw [List.getElem?_eq_getElem h] at a
  rw [List.getElem?_eq_getElem hd] at a2
  cases a; cases a2
  exact ⟨hd, _, b2, b⟩

theorem rcop_tuples {op : CmpOp} (hop : isOrd op = true) {A : Around} {s : Shared} {l b : Addr} {items items2 : Array Value} {e r : Nat → Bool} (hl : s.heap.IsTuple l items) (hb : s.heap.IsTuple b items2) (hu : A.units < cLine)
    (he : ∀ j (h1 : j < items.size) (h2 : j < items2.size), SeqAt.EqAt A.in1 s items[j] items2[j] (e j))
    (hr : ∀ j (h1 : j < items.size) (h2 : j < items2.size), e j = false → Ob.RcOp op A.in1 s items[j] items2[j] (r j)) :
    Ob.RcOp op A s (.ref l) (.ref b) (Ob.lexAt e r (natB op items.size items2.size) 0 (min items.size items2.size)) := by
  cases op with
  | Lt => exact Ob.RcOp.tuples_lt hl hb hu he hr
  | LtE => exact Ob.RcOp.tuples_le hl hb hu he hr
  | Gt => exact Ob.RcOp.tuples_gt hl hb hu he hr
  | GtE => exact Ob.RcOp.tuples_ge hl hb hu he hr
  | _ => cases hop

section
variable {X : Cx} {pins : List (Addr × Obj)} {σ : L2.St} {H : Hp} {s : Shared} {M N : Fm}
theorem rcop_D (I : Inv X pins σ H s) (hF : ∀ b o, M.F b = some o → H b = some o) (hG : ∀ b o, N.F b = some o → H b = some o) {op : CmpOp} (hop : isOrd op = true) : ∀ (x y : D) (b : Bool) (A : Around) (v w : V) (u t : Value), ordD op x y = some b → A.units + 64 + dpt x < cLine → Rp X.K M v x → Rp X.K N w y → RelV v u → RelV w t → Ob.RcOp op A s u t b
  | .int i, y, b, A, v, w, u, t, h, hu, rx, ry, ru, rt => by
    cases y with
    | int j =>
      unfold ordD at h
      cases h
      cases rx; cases ry
      obtain ⟨t1, rfl⟩ := ru
      obtain ⟨t2, rfl⟩ := rt
      cases op with
      | Lt => exact Ob.RcOp.lt_int i j t1 t2
      | LtE => exact Ob.RcOp.le_int i j t1 t2
      | Gt => exact Ob.RcOp.gt_int i j t1 t2
      | GtE => exact Ob.RcOp.ge_int i j t1 t2
      | _ => cases hop
    | _ => unfold ordD at h; cases h
  | .tup xs, y, b, A, v, w, u, t, h, hu, rx, ry, ru, rt => by
    cases y with
    | tup ys =>
      unfold ordD at h
      cases rx with
      | @tup a vs _ s1 r1 =>
      cases ry with
      | @tup a' ws _ s2 r2 =>
      obtain rfl : u = Value.ref a := ru
      obtain rfl : t = Value.ref a' := rt
      obtain ⟨us, q1, p1, _⟩ := I.tuple (SqT.sub hF s1)
      obtain ⟨ts, q2, p2, _⟩ := I.tuple (SqT.sub hG s2)
      have l1 : us.toArray.size = xs.length := by rw [List.size_toArray, ← q1.length, r1.length]
      have l2 : ts.toArray.size = ys.length := by rw [List.size_toArray, ← q2.length, r2.length]
      have hd : dpt (.tup xs) = dptL xs + 1 := by unfold dpt; rfl
      have key := rcop_tuples hop (A := A) (e := eAt xs ys) (r := rAt op xs ys) p1 p2 (by omega) (fun j h1 h2 => ?_) (fun j h1 h2 _ => ?_)
      · rw [l1, l2, ordDL_lex h] at key
        exact key
      · have h1' : j < us.length := by simpa using h1
        have h2' : j < ts.length := by simpa using h2
        obtain ⟨k1, v', a1, a2⟩ := r1.at_ q1 j h1'
        obtain ⟨k2, w', b1, b2⟩ := r2.at_ q2 j h2'
        obtain ⟨z1, z2, _⟩ := ordDL_at h j k1 k2
        have e : eAt xs ys j = eqD xs[j] ys[j] := by simp [eAt, k1, k2]
        rw [e]
        have g := eqAt_D (A := A.in1) I hF hG z1 z2 (by show A.units + 1 + 64 < cLine; omega) a1 b1 a2 b2
        simpa using g
      · have h1' : j < us.length := by simpa using h1
        have h2' : j < ts.length := by simpa using h2
        obtain ⟨k1, v', a1, a2⟩ := r1.at_ q1 j h1'
        obtain ⟨k2, w', b1, b2⟩ := r2.at_ q2 j h2'
        obtain ⟨z1, z2, rr, z3⟩ := ordDL_at h j k1 k2
        have e : rAt op xs ys j = rr := by simp [rAt, k1, k2, z3]
        rw [e]
        have hdj : dpt xs[j] ≤ dptL xs := dptL_at xs j k1
        have g := rcop_D I hF hG hop xs[j] ys[j] rr A.in1 v' w' _ _ z3 (by show A.units + 1 + 64 + dpt xs[j] < cLine; omega) a1 b1 a2 b2
        simpa using g
    | _ => unfold ordD at h; cases h
  | .non, y, b, A, v, w, u, t, h, _, _, _, _, _ => by unfold ordD at h; cases h
  | .bl _, y, b, A, v, w, u, t, h, _, _, _, _, _ => by unfold ordD at h; cases h
  | .str _, y, b, A, v, w, u, t, h, _, _, _, _, _ => by unfold ordD at h; cases h
  | .lst _, y, b, A, v, w, u, t, h, _, _, _, _, _ => by unfold ordD at h; cases h
  | .scr _, y, b, A, v, w, u, t, h, _, _, _, _, _ => by unfold ordD at h; cases h
termination_by x => sizeOf x
decreasing_by
  simp_wf
  have := List.sizeOf_lt_of_mem (List.getElem_mem k1)
  omega
end
end Dy
set_option Elab.async false
set_option linter.all false
set_option maxRecDepth 100000
set_option maxHeartbeats 2000000
/-! Dy1b: operators on plain data. -/
namespace Dy
open PySem PySem.Spec PyProof.Rows L2

/-- what an operation hands back -/
def VKd (K : PySem.W.Frag) (C : ClsAt) (T : List Addr) (M : Fm) (S : List Cell) (d : D) : VK := fun z H => ∃ M', Ext M M' ∧ WS K C T M' S H ∧ Rp K M' z d
/-- any rule of an operation -/
def rAny (X : Cx) (f : Value → Value → Sem Value) : R2 := fun x y H Q => ∃ r, OpR X f r ∧ r x y H Q
theorem rAny_ok {X : Cx} {f : Value → Value → Sem Value} : OpR X f (rAny X f) := by
  intro pins s σ H x y v u Q I rx ry h
  obtain ⟨r, hr, q⟩ := h
  exact hr pins s σ H x y v u Q I rx ry q
def uAny (X : Cx) (f : Value → Sem Value) : V → Hp → VK → Prop := fun x H Q => ∃ r, UnR X f r ∧ r x H Q
theorem uAny_ok {X : Cx} {f : Value → Sem Value} : UnR X f (uAny X f) := by
  intro pins s σ H x v Q I rx h
  obtain ⟨r, hr, q⟩ := h
  exact hr pins s σ H x v Q I rx q
def cAny (X : Cx) (f : Value) : List V → Hp → VK → Prop := fun xs H Q => ∃ r, CallR X f r ∧ r xs H Q
theorem cAny_ok {X : Cx} {f : Value} : CallR X f (cAny X f) := by
  intro pins s σ H xs us Q I rx h
  obtain ⟨r, hr, q⟩ := h
  exact hr pins s σ H xs us Q I rx q
def ixAny (X : Cx) : R2 := fun x y H Q => ∃ r, IxR X r ∧ r x y H Q
theorem ixAny_ok {X : Cx} : IxR X (ixAny X) := by
  intro value slice pins s σ H x y v u Q I rx ry h hs
  obtain ⟨r, hr, q⟩ := h
  exact hr value slice pins s σ H x y v u Q I rx ry q hs
def slAny (X : Cx) : V → Option Int → Option Int → Hp → VK → Prop := fun x lo hi H Q => ∃ r, SlR X r ∧ r x lo hi H Q
theorem slAny_ok {X : Cx} : SlR X (slAny X) := by
  intro pins s σ H x v vl vu lo hi sl Q I rx hs pl pu h
  obtain ⟨r, hr, q⟩ := h
  exact hr pins s σ H x v vl vu lo hi sl Q I rx hs pl pu q

def LIM : Nat := 1000000
theorem lim_line {n : Nat} (h : n ≤ LIM) : n ≤ sizeLine := Nat.le_trans h (by rw [sizeLine_eq]; decide)
theorem lim_lt {n : Nat} (h : n ≤ LIM) : n < sizeLine := Nat.lt_of_le_of_lt h (by rw [sizeLine_eq]; decide)

/-- what stands in a cell, or the data itself -/
def derefW (S : List Cell) : W → Option D
  | .v d => some d
  | .p i => (match S[i]? with | some (.lst ds) => some (.lst ds) | _ => none)
  | .c _ => none

section
variable {X : Cx} {C : ClsAt} {T : List Addr} {M : Fm} {S : List Cell} {H : Hp} {v w : V} {x y : W} {dx dy : D}
theorem deref_at (ws : WS X.K C T M S H) (r : RpW X.K M v x) (h : derefW S x = some dx) : Rp X.K M v dx ∨ ∃ a ds vs, dx = .lst ds ∧ v = .ref a ∧ M.F a = none ∧ H a = some (.lst vs) ∧ RpL X.K M vs ds := by
  cases r with
  | v r => cases h; exact .inl r
  | @p i a e =>
    obtain ⟨d, ed, c⟩ := ws.at_lt e
    simp only [derefW, ed] at h
    cases d with
    | lst ds =>
      cases h
      obtain ⟨hF, vs, e1, e2⟩ := c
      exact .inr ⟨a, ds, vs, rfl, rfl, hF, e1, e2⟩
    | _ => cases h
  | c e => cases h
/-- a cell's list seen as if it stood still -/
theorem view (ws : WS X.K C T M S H) (r : RpW X.K M v x) (h : derefW S x = some dx) : ∃ N : Fm, (∀ b o, N.F b = some o → H b = some o) ∧ Rp X.K N v dx := by
  rcases deref_at ws r h with r | ⟨a, ds, vs, rfl, rfl, hF, e1, r1⟩
  · exact ⟨M, ws.le, r⟩
  · refine ⟨M.frz a (.lst vs), fun b o q => ?_, .lst frz_L (r1.mono (Ext.frz hF))⟩
    have q : upd M.F a _ b = some o := q
    by_cases hb : b = a
    · subst hb; rw [upd_same] at q; cases q; exact e1
    · rw [upd_ne hb] at q; exact ws.le _ _ q
/-- a list, by value or by its cell -/
theorem seqL (ws : WS X.K C T M S H) (r : RpW X.K M v x) {ds : List D} (h : derefW S x = some (.lst ds)) : ∃ a vs, v = .ref a ∧ H a = some (.lst vs) ∧ RpL X.K M vs ds := by
  rcases deref_at ws r h with r | ⟨a, ds', vs, e, rfl, _, e1, r1⟩
  · cases r with
    | @lst a vs _ s q => exact ⟨a, vs, rfl, ws.le _ _ s, q⟩
  · cases e; exact ⟨a, vs, rfl, e1, r1⟩
theorem datT (ws : WS X.K C T M S H) (r : RpW X.K M v x) {d : D} (h : derefW S x = some d) (hn : ∀ ds, d ≠ .lst ds) : Rp X.K M v d := by
  rcases deref_at ws r h with r | ⟨a, ds', vs, e, rfl, _, e1, r1⟩
  · exact r
  · exact absurd e (hn _)
theorem seqT (ws : WS X.K C T M S H) (r : RpW X.K M v x) {ds : List D} (h : derefW S x = some (.tup ds)) : ∃ a vs, v = .ref a ∧ SqT X.K H a vs ∧ RpL X.K M vs ds := by
  have r := datT ws r h (fun _ z => by cases z)
  cases r with
  | @tup a vs _ s q => exact ⟨a, vs, rfl, SqT.sub ws.le s, q⟩
theorem seqS (ws : WS X.K C T M S H) (r : RpW X.K M v x) {ns : List Int} (h : derefW S x = some (.scr ns)) : ∃ a, v = .ref a ∧ SqL X.K H a (ns.map V.int) := by
  have r := datT ws r h (fun _ z => by cases z)
  cases r with
  | @scr a _ s => exact ⟨a, rfl, SqL.sub ws.le s⟩
theorem atomI (ws : WS X.K C T M S H) (r : RpW X.K M v x) {i : Int} (h : derefW S x = some (.int i)) : v = .int i := by
  have r := datT ws r h (fun _ z => by cases z)
  cases r; rfl
theorem atomS (ws : WS X.K C T M S H) (r : RpW X.K M v x) {i : Str} (h : derefW S x = some (.str i)) : v = .str i := by
  have r := datT ws r h (fun _ z => by cases z)
  cases r; rfl
theorem atomB (ws : WS X.K C T M S H) (r : RpW X.K M v x) {i : Bool} (h : derefW S x = some (.bl i)) : v = .bl i := by
  have r := datT ws r h (fun _ z => by cases z)
  cases r; rfl
theorem atomN (ws : WS X.K C T M S H) (r : RpW X.K M v x) (h : derefW S x = some .non) : v = .non := by
  have r := datT ws r h (fun _ z => by cases z)
  cases r; rfl

/-! ### results -/
theorem vkd_int (ws : WS X.K C T M S H) {i : Int} : VKd X.K C T M S (.int i) (.int i) H := ⟨M, Ext.refl M, ws, .int i⟩
theorem vkd_bl (ws : WS X.K C T M S H) {b : Bool} : VKd X.K C T M S (.bl b) (.bl b) H := ⟨M, Ext.refl M, ws, .bl b⟩
theorem vkd_str (ws : WS X.K C T M S H) {b : Str} : VKd X.K C T M S (.str b) (.str b) H := ⟨M, Ext.refl M, ws, .str b⟩
theorem vkd_same (ws : WS X.K C T M S H) {d : D} (r : Rp X.K M v d) : VKd X.K C T M S d v H := ⟨M, Ext.refl M, ws, r⟩
theorem vkd_tup (ws : WS X.K C T M S H) {vs : List V} {ds : List D} (r : RpL X.K M vs ds) : ∀ p, H p = none → VKd X.K C T M S (.tup ds) (.ref p) (upd H p (.tup vs)) := fun p hp => by
  obtain ⟨w2, e2⟩ := ws.lay (o := .tup vs) hp
  exact ⟨_, e2, w2, .tup frz_T (r.mono e2)⟩
theorem vkd_lst (ws : WS X.K C T M S H) {vs : List V} {ds : List D} (r : RpL X.K M vs ds) : ∀ p, H p = none → VKd X.K C T M S (.lst ds) (.ref p) (upd H p (.lst vs)) := fun p hp => by
  obtain ⟨w2, e2⟩ := ws.lay (o := .lst vs) hp
  exact ⟨_, e2, w2, .lst frz_L (r.mono e2)⟩

/-! ### binary operators -/
theorem op_fdivB : OpR X (binaryOp .FloorDiv) (rI (fun _ j => j ≠ 0 ∧ j.natAbs.log2 < 9000) fun i j => .int (i.fdiv j)) := opI fun i j _ _ _ _ _ hc q =>
  floordiv_int hc.1 q (.inl (PyProof.noPylong_of_log2 hc.2))

theorem tuple_mul_self (l : Addr) (items : Array Value) (n : Nat) (dd : Option Addr) (sl : Array (Option Value)) (x : Int) (u : Tok) (c0 : (decide (x < -(2 ^ 63)) || decide (x ≥ 2 ^ 63)) = false) (c1 : (items.isEmpty || x == 1) = true) :
    Meets (Builtin.«tuple.__mul__» ⟨[.ref l, .int x u], []⟩) (fun _ R s => s.heap.get? l = some { cls := .type "tuple", dict := dd, data := .seq items n, slots := sl } ∧
      R (.ok (.ret (Value.ref l))) s) :=
  .of_wp fun prog w A R s h => by
    obtain ⟨hp, g, d, tk, os⟩ := s
    obtain ⟨hl, h⟩ := h
    have f1 := AutoSeq1.idx_int
    wp_walk using AutoSeq1.wpAny_loadPart' hl
    repeat (first
      | (refine wpAny_ite_false (decide_eq_false (by rw [c0]; exact Bool.false_ne_true)) ?_; wp_walk using AutoSeq1.wpAny_loadPart' hl)
      | (refine wpAny_ite_true (decide_eq_true (by rw [c1])) ?_; wp_walk using AutoSeq1.wpAny_loadPart' hl))
    all_goals exact ⟨_, rfl, h⟩
theorem tuple_mul_zero (l : Addr) (items : Array Value) (n : Nat) (dd : Option Addr) (sl : Array (Option Value)) (x : Int) (u : Tok) (c0 : (decide (x < -(2 ^ 63)) || decide (x ≥ 2 ^ 63)) = false) (c1 : (items.isEmpty || x == 1) = false) (c2 : (decide (x ≤ 0) || items.isEmpty) = true) :
    Meets (Builtin.«tuple.__mul__» ⟨[.ref l, .int x u], []⟩) (fun _ R s => s.heap.get? l = some { cls := .type "tuple", dict := dd, data := .seq items n, slots := sl } ∧
      R (.ok (.ret (Value.ref s.heap.objs.size))) { s with heap := s.heap.push { cls := Value.type "tuple", data := Data.seq #[] }, toks := s.toks }) :=
  .of_wp fun prog w A R s h => by
    obtain ⟨hp, g, d, tk, os⟩ := s
    obtain ⟨hl, h⟩ := h
    have f1 := AutoSeq1.idx_int
    wp_walk using AutoSeq1.wpAny_loadPart' hl
    repeat (first
      | (refine wpAny_ite_false (decide_eq_false (by rw [c0]; exact Bool.false_ne_true)) ?_; wp_walk using AutoSeq1.wpAny_loadPart' hl)
      | (refine wpAny_ite_false (decide_eq_false (by rw [c1]; exact Bool.false_ne_true)) ?_; wp_walk using AutoSeq1.wpAny_loadPart' hl)
      | (refine wpAny_ite_true (decide_eq_true (by rw [c2])) ?_; wp_walk using AutoSeq1.wpAny_loadPart' hl))
    all_goals exact ⟨_, rfl, h⟩
def rRepT01 (K : PySem.W.Frag) : R2 := fun x y H Q => ∃ l k xs, x = .ref l ∧ y = .int k ∧ SqT K H l xs ∧ -(2 ^ 63) ≤ k ∧ k < 2 ^ 63 ∧
  (xs = [] ∨ k = 1 → Q (.ref l) H) ∧ (¬ (xs = [] ∨ k = 1) → k ≤ 0 ∧ ∀ p, H p = none → Q (.ref p) (upd H p (.tup [])))
theorem op_repT01 : OpR X (binaryOp .Mult) (rRepT01 X.K) := by
  intro pins s σ H x y v u Q I rx ry h
  obtain ⟨l, k, xs, rfl, rfl, hT, h1, h2, q1, q2⟩ := h
  cases rx
  obtain ⟨t, rfl⟩ := ry
  obtain ⟨its, r, ⟨⟨cls, dd, data, sl⟩, ho, hc, n, hd⟩, hs⟩ := I.tuple hT
  simp only at hc hd
  subst hc hd
  have c0 : (decide (k < -(2 ^ 63)) || decide (k ≥ 2 ^ 63)) = false := by
    rw [decide_eq_false (by omega), decide_eq_false (by omega)] <;> rfl
  have emp : its.toArray.isEmpty = true ↔ xs = [] := by
    rw [List.isEmpty_toArray]
    cases r <;> simp
  by_cases hself : xs = [] ∨ k = 1
  · have c1 : (its.toArray.isEmpty || k == 1) = true := by
      rcases hself with z | z
      · rw [emp.mpr z]; rfl
      · rw [z]; simp
    refine wpAny_binaryOp_repeat_ref (T := "tuple") (U := "int") (by decide) ⟨_, ho, rfl⟩ (fun s' => typeIs_int s' k t) noFill_tuple_mul F.fills_int_mul F.slot_int_rmul repeat_tuple F.slot_int_index.lookup
      (call_meets F.slot_int_rmul (typeIs_int s k t) F.entry_int_rmul (F.args_int_rmul_2 _ _) (int_rmul_tuple k t l its.toArray n dd sl)
        ⟨ho, rfl, ⟨_, ho, rfl⟩, call_meets F.slot_tuple_mul ⟨_, ho, rfl⟩ F.entry_tuple_mul (F.args_tuple_mul_2 _ _) (tuple_mul_self l its.toArray n dd sl k t c0 c1) ⟨ho, ?_⟩⟩)
    exact ⟨.ref l, H, I, rfl, q1 hself⟩
  · obtain ⟨hk, q⟩ := q2 hself
    have c1 : (its.toArray.isEmpty || k == 1) = false := by
      cases e : its.toArray.isEmpty with
      | true => exact absurd (.inl (emp.mp e)) hself
      | false =>
        rw [Bool.false_or]
        exact beq_eq_false_iff_ne.mpr fun z => hself (.inr z)
    refine wpAny_binaryOp_repeat_ref (T := "tuple") (U := "int") (by decide) ⟨_, ho, rfl⟩ (fun s' => typeIs_int s' k t) noFill_tuple_mul F.fills_int_mul F.slot_int_rmul repeat_tuple F.slot_int_index.lookup
      (call_meets F.slot_int_rmul (typeIs_int s k t) F.entry_int_rmul (F.args_int_rmul_2 _ _) (int_rmul_tuple k t l its.toArray n dd sl)
        ⟨ho, rfl, ⟨_, ho, rfl⟩, call_meets F.slot_tuple_mul ⟨_, ho, rfl⟩ F.entry_tuple_mul (F.args_tuple_mul_2 _ _) (tuple_mul_zero l its.toArray n dd sl k t c0 c1 (by rw [decide_eq_true hk]; rfl)) ⟨ho, ?_⟩⟩)
    refine ⟨.ref s.heap.objs.size, _, I.laid (t' := s.toks) (o := .tup []) (fun b ob q => Heap.get?_push_of_some _ q) (Nat.le_refl _) ?_, rfl, q _ (I.hok.fresh (Nat.le_refl _))⟩
    exact ⟨Nat.zero_le _, [], .nil, IsTup.new _ _⟩

/-- what an operator gives -/
def binD (op : Operator) (x y : D) : Option D := match op, x, y with
  | .Add, .int i, .int j => some (.int (i + j))
  | .Add, .str a, .str b => if a.length + b.length ≤ LIM then some (.str (a ++ b)) else none
  | .Add, .tup a, .tup b => if a.length + b.length ≤ LIM then some (.tup (a ++ b)) else none
  | .Add, .lst a, .lst b => if a.length + b.length ≤ LIM then some (.lst (a ++ b)) else none
  | .Sub, .int i, .int j => some (.int (i - j))
  | .Mult, .int i, .int j => if i.natAbs.log2 + j.natAbs.log2 < 1000000 then some (.int (i * j)) else none
  | .Mult, .lst a, .int k => if -1000 ≤ k ∧ k ≤ 1000 ∧ a.length ≤ 1000 then some (.lst (List.replicate k.toNat a).flatten) else none
  | .Mult, .tup a, .int k => if -1000 ≤ k ∧ k ≤ 1000 ∧ a.length ≤ 1000 then some (.tup (List.replicate k.toNat a).flatten) else none
  | .FloorDiv, .int i, .int j => if j ≠ 0 ∧ j.natAbs.log2 < 9000 then some (.int (i.fdiv j)) else none
  | .Mod, .int i, .int j => if j ≠ 0 then some (.int (i.fmod j)) else none
  | .Pow, .int i, .int j => if 0 ≤ j ∧ j ≤ 1000000 ∧ i.natAbs < 2 ^ 64 then some (.int (i ^ j.toNat)) else none
  | _, _, _ => none

theorem binD_ok (ws : WS X.K C T M S H) (rx : RpW X.K M v x) (ry : RpW X.K M w y) (ex : derefW S x = some dx) (ey : derefW S y = some dy) {op : Operator} {d : D} (h : binD op dx dy = some d) : rAny X (binaryOp op) v w H (VKd X.K C T M S d) := by
  unfold binD at h
  split at h
  · rename_i i j
    cases h
    obtain rfl := atomI ws rx ex
    obtain rfl := atomI ws ry ey
    exact ⟨_, op_add, i, j, rfl, rfl, vkd_int ws⟩
  · rename_i a b
    split at h <;> cases h
    rename_i hl
    obtain rfl := atomS ws rx ex
    obtain rfl := atomS ws ry ey
    exact ⟨_, op_add_str, a, b, rfl, rfl, lim_line hl, vkd_str ws⟩
  · rename_i a b
    split at h <;> cases h
    rename_i hl
    have rx' := datT ws rx ex (fun _ z => by cases z)
    have ry' := datT ws ry ey (fun _ z => by cases z)
    obtain ⟨p, vs, rfl, e1, r1⟩ := seqT ws rx ex
    obtain ⟨q, us, rfl, e2, r2⟩ := seqT ws ry ey
    refine ⟨_, op_catA, p, q, vs, us, rfl, rfl, e1, e2, by rw [r1.length, r2.length]; exact lim_line hl, fun hz => ?_, fun _ hz => ?_, fun _ _ => vkd_tup ws (r1.append r2)⟩
    · subst hz
      cases r1
      rw [List.nil_append]
      exact vkd_same ws ry'
    · subst hz
      cases r2
      rw [List.append_nil]
      exact vkd_same ws rx'
  · rename_i a b
    split at h <;> cases h
    rename_i hl
    obtain ⟨p, vs, rfl, e1, r1⟩ := seqL ws rx ex
    obtain ⟨q, us, rfl, e2, r2⟩ := seqL ws ry ey
    exact ⟨_, op_cat, p, q, vs, us, rfl, rfl, e1, e2, by rw [r1.length, r2.length]; exact lim_line hl, vkd_lst ws (r1.append r2)⟩
  · rename_i i j
    cases h
    obtain rfl := atomI ws rx ex
    obtain rfl := atomI ws ry ey
    exact ⟨_, op_sub, i, j, rfl, rfl, vkd_int ws⟩
  · rename_i i j
    split at h <;> cases h
    rename_i hl
    obtain rfl := atomI ws rx ex
    obtain rfl := atomI ws ry ey
    exact ⟨_, op_mulW, i, j, rfl, rfl, hl, vkd_int ws⟩
  · rename_i a k
    split at h <;> cases h
    rename_i hl
    obtain ⟨p, vs, rfl, e1, r1⟩ := seqL ws rx ex
    obtain rfl := atomI ws ry ey
    refine ⟨_, op_rep, p, k, vs, rfl, rfl, e1, by omega, by omega, ?_, vkd_lst ws (r1.rep _)⟩
    rw [r1.length]
    refine lim_line (Nat.le_trans (Nat.mul_le_mul hl.2.2 (show k.toNat ≤ 1000 by omega)) (by decide))
  · rename_i a k
    split at h <;> cases h
    rename_i hl
    have rx' := datT ws rx ex (fun _ z => by cases z)
    obtain ⟨p, vs, rfl, e1, r1⟩ := seqT ws rx ex
    obtain rfl := atomI ws ry ey
    by_cases hbig : 2 ≤ k ∧ vs ≠ []
    · refine ⟨_, op_repT, p, k, vs, rfl, rfl, e1, hbig.2, hbig.1, hl.2.1, by rw [r1.length]; exact hl.2.2, vkd_tup ws (r1.rep _)⟩
    · refine ⟨_, op_repT01, p, k, vs, rfl, rfl, e1, by omega, by omega, fun hz => ?_, fun hz => ⟨?_, ?_⟩⟩
      · have e3 : (List.replicate k.toNat a).flatten = a := by
          rcases hz with z | z
          · subst z
            cases r1
            simp
          · subst z
            simp
        rw [e3]
        exact vkd_same ws rx'
      · have h1 : vs ≠ [] := fun z => hz (.inl z)
        have h2 : ¬ k = 1 := fun z => hz (.inr z)
        have h3 : ¬ 2 ≤ k := fun z => hbig ⟨z, h1⟩
        omega
      · have h1 : vs ≠ [] := fun z => hz (.inl z)
        have h2 : ¬ k = 1 := fun z => hz (.inr z)
        have h3 : ¬ 2 ≤ k := fun z => hbig ⟨z, h1⟩
        have e3 : k.toNat = 0 := by omega
        rw [e3]
        exact vkd_tup ws .nil
  · rename_i i j
    split at h <;> cases h
    rename_i hl
    obtain rfl := atomI ws rx ex
    obtain rfl := atomI ws ry ey
    exact ⟨_, op_fdivB, i, j, rfl, rfl, hl, vkd_int ws⟩
  · rename_i i j
    split at h <;> cases h
    rename_i hl
    obtain rfl := atomI ws rx ex
    obtain rfl := atomI ws ry ey
    exact ⟨_, op_modN, i, j, rfl, rfl, hl, vkd_int ws⟩
  · rename_i i j
    split at h <;> cases h
    rename_i hl
    obtain rfl := atomI ws rx ex
    obtain rfl := atomI ws ry ey
    exact ⟨_, op_pow, i, j, rfl, rfl, hl, vkd_int ws⟩
  · cases h
end
end Dy
set_option Elab.async false
set_option linter.all false
set_option maxRecDepth 100000
set_option maxHeartbeats 2000000
/-! Dy1c: comparisons of plain data. -/
namespace Dy
open PySem PySem.Spec PyProof.Rows L2

def inD (x : D) (ys : List D) : Bool := ys.any fun y => eqD y x
def keyIn (x : D) (kvs : List (D × D)) : Bool := kvs.any fun p => eqD p.1 x
def isKey : D → Bool
  | .int _ | .str _ => true
  | _ => false
/-- what a comparison gives, of data (cells by what they hold) -/
def cmpD (op : CmpOp) (x y : D) : Option Bool := match op with
  | .Eq => if (shp x && shp y) = true then some (eqD x y) else none
  | .NotEq => if (shp x && shp y) = true then some (!eqD x y) else none
  | .In => (match y with
    | .lst ys => if (shp x && shp (.lst ys)) = true then some (inD x ys) else none
    | .tup ys => if (shp x && shp (.tup ys)) = true then some (inD x ys) else none
    | .str b => (match x with
      | .str a => some (!(Builtin.Str.occurrences b a 0 b.length 1).isEmpty)
      | _ => none)
    | _ => none)
  | .NotIn => (match y with
    | .lst ys => if (shp x && shp (.lst ys)) = true then some (!inD x ys) else none
    | .tup ys => if (shp x && shp (.tup ys)) = true then some (!inD x ys) else none
    | .str b => (match x with
      | .str a => some (!(!(Builtin.Str.occurrences b a 0 b.length 1).isEmpty))
      | _ => none)
    | _ => none)
  | .Is => (match y with
    | .non => some (match x with | .non => true | _ => false)
    | .bl b => (match x with | .bl a => some (decide (a = b)) | _ => none)
    | _ => none)
  | .IsNot => (match y with
    | .non => some (match x with | .non => false | _ => true)
    | .bl b => (match x with | .bl a => some (!decide (a = b)) | _ => none)
    | _ => none)
  | op => if dpt x ≤ 60 then ordD op x y else none

section
variable {X : Cx} {C : ClsAt} {T : List Addr} {M : Fm} {S : List Cell} {H : Hp} {v w : V} {x y : W} {dx dy : D}
theorem any_py (x : D) (hx : flD x = true) : ∀ ys : List D, flDL ys = true → ((toPyL ys).any fun z => PyData.eqv z (toPy x)) = inD x ys
  | [], _ => rfl
  | y :: ys, h => by
    unfold flDL at h
    have h2 := Bool.and_eq_true_iff.mp h
    unfold toPyL inD
    rw [List.any_cons, List.any_cons, eqv_py y x h2.1 hx, any_py x hx ys h2.2]
    rfl
/-- a rule from what holds at each state -/
def rAt' (X : Cx) (f : Value → Value → Sem Value) (b : Bool) : R2 := fun x y H Q => (∀ (pins : List (Addr × Obj)) (s : Shared) (σ : L2.St) (v u : Value) (P : Value → Shared → Prop), Inv X pins σ H s → RelV x v → RelV y u → P (.bool b) s → wpAny (model X.prog X.w) X.A (f v u) P X.xe s) ∧ Q (.bl b) H
theorem rAt_ok {f : Value → Value → Sem Value} {b : Bool} : OpR X f (rAt' X f b) := by
  intro pins s σ H x y v u Q I rx ry h
  exact h.1 pins s σ v u _ I rx ry ⟨.bl b, H, I, rfl, h.2⟩

theorem shpL {ys : List D} (h : shp (.lst ys) = true) : flDL ys = true := by have := shp_fl h; unfold flD at this; exact this
theorem shpT {ys : List D} (h : shp (.tup ys) = true) : flDL ys = true := by have := shp_fl h; unfold flD at this; exact this
theorem toPy_lst (ys : List D) : toPy (.lst ys) = .list (toPyL ys) := by unfold toPy; rfl
theorem toPy_tup (ys : List D) : toPy (.tup ys) = .tuple (toPyL ys) := by unfold toPy; rfl

theorem memL_ok (hu : X.A.units + 65 < cLine) (ws : WS X.K C T M S H) (rx : RpW X.K M v x) (ry : RpW X.K M w y) (ex : derefW S x = some dx) {ys : List D} (ey : derefW S y = some (.lst ys)) (h1 : shp dx = true) (h2 : shp (.lst ys) = true) :
    (∀ {Q : VK}, Q (.bl (inD dx ys)) H → rAny X (compareOp .In) v w H Q) ∧ (∀ {Q : VK}, Q (.bl (!inD dx ys)) H → rAny X (compareOp .NotIn) v w H Q) := by
  obtain ⟨N, hN, r1⟩ := view ws rx ex
  obtain ⟨N', hN', r2⟩ := view ws ry ey
  refine ⟨fun q => ⟨_, rAt_ok (b := inD dx ys), fun pins s σ u t P I ru rt hq => ?_, q⟩, fun q => ⟨_, rAt_ok (b := !inD dx ys), fun pins s σ u t P I ru rt hq => ?_, q⟩⟩
  · obtain ⟨as, q1⟩ := Dp.reads I _ v u (Rp.dp hN dx v (shp_fl h1) r1) ru
    obtain ⟨bs, q2⟩ := Dp.reads I _ w t (Rp.dp hN' _ w (shp_fl h2) r2) rt
    rw [toPy_lst] at q2
    have s1 := shp_shaped h2
    rw [toPy_lst] at s1
    exact SeqAt.in_list_reads q2 q1 (SeqAt.canLay_of_shaped s1) (SeqAt.canLay_of_shaped (shp_shaped h1)) (room_in_shaped (shp_shaped h1) hu) (by rw [any_py dx (shp_fl h1) ys (shpL h2)]; exact hq)
  · obtain ⟨as, q1⟩ := Dp.reads I _ v u (Rp.dp hN dx v (shp_fl h1) r1) ru
    obtain ⟨bs, q2⟩ := Dp.reads I _ w t (Rp.dp hN' _ w (shp_fl h2) r2) rt
    rw [toPy_lst] at q2
    have s1 := shp_shaped h2
    rw [toPy_lst] at s1
    exact SeqAt.notIn_list_reads q2 q1 (SeqAt.canLay_of_shaped s1) (SeqAt.canLay_of_shaped (shp_shaped h1)) (room_in_shaped (shp_shaped h1) hu) (by rw [any_py dx (shp_fl h1) ys (shpL h2)]; exact hq)
theorem memT_ok (hu : X.A.units + 65 < cLine) (ws : WS X.K C T M S H) (rx : RpW X.K M v x) (ry : RpW X.K M w y) (ex : derefW S x = some dx) {ys : List D} (ey : derefW S y = some (.tup ys)) (h1 : shp dx = true) (h2 : shp (.tup ys) = true) :
    (∀ {Q : VK}, Q (.bl (inD dx ys)) H → rAny X (compareOp .In) v w H Q) ∧ (∀ {Q : VK}, Q (.bl (!inD dx ys)) H → rAny X (compareOp .NotIn) v w H Q) := by
  obtain ⟨N, hN, r1⟩ := view ws rx ex
  obtain ⟨N', hN', r2⟩ := view ws ry ey
  refine ⟨fun q => ⟨_, rAt_ok (b := inD dx ys), fun pins s σ u t P I ru rt hq => ?_, q⟩, fun q => ⟨_, rAt_ok (b := !inD dx ys), fun pins s σ u t P I ru rt hq => ?_, q⟩⟩
  · obtain ⟨as, q1⟩ := Dp.reads I _ v u (Rp.dp hN dx v (shp_fl h1) r1) ru
    obtain ⟨bs, q2⟩ := Dp.reads I _ w t (Rp.dp hN' _ w (shp_fl h2) r2) rt
    rw [toPy_tup] at q2
    have s1 := shp_shaped h2
    rw [toPy_tup] at s1
    exact SeqAt.in_tuple_reads q2 q1 (by rw [show PyData.canLayAll0 (toPyL ys) = (toPy (.tup ys)).canLay0 by rw [toPy_tup]; rfl, lay_fl]; exact shp_fl h2) (SeqAt.canLay_of_shaped (shp_shaped h1)) (room_in_shaped (shp_shaped h1) hu) (by rw [any_py dx (shp_fl h1) ys (shpT h2)]; exact hq)
  · obtain ⟨as, q1⟩ := Dp.reads I _ v u (Rp.dp hN dx v (shp_fl h1) r1) ru
    obtain ⟨bs, q2⟩ := Dp.reads I _ w t (Rp.dp hN' _ w (shp_fl h2) r2) rt
    rw [toPy_tup] at q2
    exact SeqAt.notIn_tuple_reads q2 q1 (by rw [show PyData.canLayAll0 (toPyL ys) = (toPy (.tup ys)).canLay0 by rw [toPy_tup]; rfl, lay_fl]; exact shp_fl h2) (SeqAt.canLay_of_shaped (shp_shaped h1)) (room_in_shaped (shp_shaped h1) hu) (by rw [any_py dx (shp_fl h1) ys (shpT h2)]; exact hq)

theorem not_non {N : Fm} {d : D} (h : Rp X.K N v d) : decide (v = V.non) = (match d with | .non => true | _ => false) := by
  cases h <;> simp

theorem ord_ok (hu : X.A.units + 125 < cLine) (ws : WS X.K C T M S H) (rx : RpW X.K M v x) (ry : RpW X.K M w y) (ex : derefW S x = some dx) (ey : derefW S y = some dy) {op : CmpOp} (hop : isOrd op = true) {b : Bool} (hd : dpt dx ≤ 60) (h : ordD op dx dy = some b) {Q : VK} (q : Q (.bl b) H) : rAny X (compareOp op) v w H Q := by
  obtain ⟨N, hN, r1⟩ := view ws rx ex
  obtain ⟨N', hN', r2⟩ := view ws ry ey
  refine ⟨_, rAt_ok (b := b), fun pins s σ u t P I ru rt hq => ?_, q⟩
  have key := rcop_D I hN hN' hop dx dy b X.A v w u t h (by omega) r1 r2 ru rt X.prog X.w X.xe P hq
  cases op <;> first | exact key | cases hop

theorem cmpD_ok (hu : X.A.units + 125 < cLine) (ws : WS X.K C T M S H) (rx : RpW X.K M v x) (ry : RpW X.K M w y) (ex : derefW S x = some dx) (ey : derefW S y = some dy) {op : CmpOp} {b : Bool} (h : cmpD op dx dy = some b) {Q : VK} (q : Q (.bl b) H) : rAny X (compareOp op) v w H Q := by
  cases op with
  | Eq =>
    unfold cmpD at h
    simp only at h
    split at h <;> cases h
    rename_i hs
    have hs := Bool.and_eq_true_iff.mp hs
    obtain ⟨N, hN, r1⟩ := view ws rx ex
    obtain ⟨N', hN', r2⟩ := view ws ry ey
    refine ⟨_, op_eqD (by omega), _, _, Rp.dp hN dx v (shp_fl hs.1) r1, Rp.dp hN' dy w (shp_fl hs.2) r2, shp_shaped hs.1, shp_shaped hs.2, ?_⟩
    rw [eqv_py _ _ (shp_fl hs.1) (shp_fl hs.2)]
    exact q
  | NotEq =>
    unfold cmpD at h
    simp only at h
    split at h <;> cases h
    rename_i hs
    have hs := Bool.and_eq_true_iff.mp hs
    obtain ⟨N, hN, r1⟩ := view ws rx ex
    obtain ⟨N', hN', r2⟩ := view ws ry ey
    refine ⟨_, op_neD (by omega), _, _, Rp.dp hN dx v (shp_fl hs.1) r1, Rp.dp hN' dy w (shp_fl hs.2) r2, shp_shaped hs.1, shp_shaped hs.2, ?_⟩
    rw [eqv_py _ _ (shp_fl hs.1) (shp_fl hs.2)]
    exact q
  | In =>
    unfold cmpD at h
    simp only at h
    split at h
    · split at h <;> cases h
      rename_i hs
      have hs := Bool.and_eq_true_iff.mp hs
      exact (memL_ok (by omega) ws rx ry ex ey hs.1 hs.2).1 q
    · split at h <;> cases h
      rename_i hs
      have hs := Bool.and_eq_true_iff.mp hs
      exact (memT_ok (by omega) ws rx ry ex ey hs.1 hs.2).1 q
    · split at h <;> cases h
      obtain rfl := atomS ws rx ex
      obtain rfl := atomS ws ry ey
      exact ⟨_, op_in_str, _, _, rfl, rfl, q⟩
    · cases h
  | NotIn =>
    unfold cmpD at h
    simp only at h
    split at h
    · split at h <;> cases h
      rename_i hs
      have hs := Bool.and_eq_true_iff.mp hs
      exact (memL_ok (by omega) ws rx ry ex ey hs.1 hs.2).2 q
    · split at h <;> cases h
      rename_i hs
      have hs := Bool.and_eq_true_iff.mp hs
      exact (memT_ok (by omega) ws rx ry ex ey hs.1 hs.2).2 q
    · split at h <;> cases h
      obtain rfl := atomS ws rx ex
      obtain rfl := atomS ws ry ey
      exact ⟨_, op_notIn_str, _, _, rfl, rfl, q⟩
    · cases h
  | Is =>
    unfold cmpD at h
    simp only at h
    split at h
    · have e := Option.some.inj h
      obtain ⟨N, hN, r1⟩ := view ws rx ex
      refine ⟨_, op_isN, atomN ws ry ey, ?_⟩
      rw [not_non r1]
      rw [← e] at q
      cases dx <;> exact q
    · split at h <;> cases h
      obtain rfl := atomB ws rx ex
      obtain rfl := atomB ws ry ey
      exact ⟨_, op_isBl, _, _, rfl, rfl, q⟩
    · cases h
  | IsNot =>
    unfold cmpD at h
    simp only at h
    split at h
    · have e := Option.some.inj h
      obtain ⟨N, hN, r1⟩ := view ws rx ex
      refine ⟨_, op_notN, atomN ws ry ey, ?_⟩
      rw [not_non r1]
      rw [← e] at q
      cases dx <;> exact q
    · split at h <;> cases h
      obtain rfl := atomB ws rx ex
      obtain rfl := atomB ws ry ey
      exact ⟨_, op_notBl, _, _, rfl, rfl, q⟩
    · cases h
  | Lt =>
    unfold cmpD at h
    simp only at h
    split at h
    · exact ord_ok hu ws rx ry ex ey rfl (by assumption) h q
    · cases h
  | LtE =>
    unfold cmpD at h
    simp only at h
    split at h
    · exact ord_ok hu ws rx ry ex ey rfl (by assumption) h q
    · cases h
  | Gt =>
    unfold cmpD at h
    simp only at h
    split at h
    · exact ord_ok hu ws rx ry ex ey rfl (by assumption) h q
    · cases h
  | GtE =>
    unfold cmpD at h
    simp only at h
    split at h
    · exact ord_ok hu ws rx ry ex ey rfl (by assumption) h q
    · cases h
end
end Dy
set_option Elab.async false
set_option linter.all false
set_option maxRecDepth 100000
set_option maxHeartbeats 2000000
/-! Dy3a: what expressions give, over plain data. -/
namespace Dy
open PySem PySem.Spec PyProof.Rows L2

abbrev Env := List (Option W)
abbrev Sto := List Cell
/-- what a computation gives: a value and the store, an error (class, fields), or nothing that is told -/
inductive Res (α : Type) where
  | ok (a : α) (S : Sto) | exc (c : Str) (fs : List (Str × W)) (S : Sto) | no
def Res.bind {α β : Type} : Res α → (α → Sto → Res β) → Res β
  | .ok a S, k => k a S
  | .exc c fs S, _ => .exc c fs S
  | .no, _ => .no
@[simp] theorem Res.bind_ok {α β : Type} (a : α) (S : Sto) (k : α → Sto → Res β) : (Res.ok a S).bind k = k a S := rfl
@[simp] theorem Res.bind_exc {α β : Type} (c : Str) (fs : List (Str × W)) (S : Sto) (k : α → Sto → Res β) : (Res.exc c fs S).bind k = .exc c fs S := rfl
@[simp] theorem Res.bind_no {α β : Type} (k : α → Sto → Res β) : (Res.no : Res α).bind k = .no := rfl
/-- no error told -/
def Res.calm {α : Type} : Res α → Res α
  | .ok a S => .ok a S
  | _ => .no
@[simp] theorem Res.calm_ok {α : Type} (a : α) (S : Sto) : (Res.ok a S).calm = .ok a S := rfl
abbrev SE := Env → Sto → Res W
abbrev SL := Env → Sto → Res (List D)
abbrev SA := Env → Sto → Res (List W)
abbrev SB := Env → Sto → Res Bool
abbrev SO := Env → Sto → Res (Option Int)
def ofO {α β : Type} (o : Option α) (k : α → Res β) : Res β := match o with
  | some a => k a
  | none => .no
@[simp] theorem ofO_some {α β : Type} (a : α) (k : α → Res β) : ofO (some a) k = k a := rfl
@[simp] theorem ofO_none {α β : Type} (k : α → Res β) : ofO none k = .no := rfl

/-- an error at hand: its class, its own dict -/
def ExcR (K : PySem.W.Frag) (C : ClsAt) (M : Fm) (H : Hp) (cls : Value) (d : Option Addr) (c : Str) (fs : List (Str × W)) : Prop :=
  ∃ Ca, C c = some Ca ∧ cls = .ref Ca ∧ (fs = [] ∨ ∃ dx fvs, d = some dx ∧ H dx = some (.xd fvs) ∧ FsR K M fvs fs)

section
variable (X : Cx) (C : ClsAt) (T : List Addr) (XW : WX)
/-- the outcome r behind the view M -/
def Out {α : Type} (r : Res α) (M : Fm) (good : α → Sto → Fm → Hp → Prop) : Prop := match r with
  | .ok a S' => ∀ M' H', Ext M M' → WS X.K C T M' S' H' → good a S' M' H'
  | .exc c fs S' => ∀ cls d σ' M' H', Ext M M' → WS X.K C T M' S' H' → ExcR X.K C M' H' cls d c fs → XW cls d σ' H'
  | .no => False
/-- at the slots σ and the heap H the data read so -/
def At (σ : L2.St) (H : Hp) (P : Fm → Env → Sto → Prop) : Prop := ∃ M ρ S, EnvR X.K M σ ρ ∧ WS X.K C T M S H ∧ P M ρ S
def TEd (f : SE) : TE := fun σ H Q => At X C T σ H fun M ρ S => Out X C T XW (f ρ S) M fun a _ M' H' => ∀ v, RpW X.K M' v a → Q v H'
/-- a list made anew -/
def TLd (f : SL) : TE := fun σ H Q => At X C T σ H fun M ρ S => Out X C T XW (f ρ S) M fun ds _ M' H' => ∀ vs p, RpL X.K M' vs ds → H' p = none → Q (.ref p) (upd H' p (.lst vs))
def TAd (f : SA) : TA := fun σ H Q => At X C T σ H fun M ρ S => Out X C T XW (f ρ S) M fun ds _ M' H' => ∀ vs, RpWL X.K M' vs ds → Q vs H'
def TTd (f : SB) : TT := fun σ H Q => At X C T σ H fun M ρ S => Out X C T XW (f ρ S) M fun b _ M' H' => Q b H'
def TOd (f : SO) : TO := fun σ H Q => At X C T σ H fun M ρ S => Out X C T XW (f ρ S) M fun b _ M' H' => Q b H'
end
section
variable {X : Cx} {C : ClsAt} {T : List Addr} {XW : WX}
theorem Out.mono {α : Type} {r : Res α} {M : Fm} {G G' : α → Sto → Fm → Hp → Prop} (h : Out X C T XW r M G) (k : ∀ a S' M' H', Ext M M' → WS X.K C T M' S' H' → G a S' M' H' → G' a S' M' H') : Out X C T XW r M G' := by
  cases r with
  | ok a S => exact fun M' H' x w => k a S M' H' x w (h M' H' x w)
  | exc c fs S => exact h
  | no => exact h
theorem Out.back {α : Type} {r : Res α} {M M1 : Fm} {G : α → Sto → Fm → Hp → Prop} (x : Ext M M1) (h : Out X C T XW r M G) : Out X C T XW r M1 G := by
  cases r with
  | ok a S => exact fun M' H' x' w => h M' H' (x.trans x') w
  | exc c fs S => exact fun cls d σ M' H' x' w e => h cls d σ M' H' (x.trans x') w e
  | no => exact h
theorem Out.bind {α β : Type} {r : Res α} {k : α → Sto → Res β} {M : Fm} {G : β → Sto → Fm → Hp → Prop} (h : Out X C T XW (r.bind k) M G) :
    Out X C T XW r M fun a S1 M1 _ => Out X C T XW (k a S1) M1 G := by
  cases r with
  | ok a S => exact fun M' H' x w => Out.back x h
  | exc c fs S => exact h
  | no => exact h
theorem Out.ofO {α β : Type} {o : Option α} {k : α → Res β} {M : Fm} {G : β → Sto → Fm → Hp → Prop} (h : Out X C T XW (Dy.ofO o k) M G) : ∃ a, o = some a ∧ Out X C T XW (k a) M G := by
  cases o with
  | none => exact h.elim
  | some a => exact ⟨a, rfl, h⟩
theorem Out.calm {α : Type} {r : Res α} {M : Fm} {XW' : WX} {G : α → Sto → Fm → Hp → Prop} (h : Out X C T XW r.calm M G) : Out X C T XW' r M G := by
  cases r with
  | ok a S => exact h
  | exc c fs S => exact h.elim
  | no => exact h.elim
/-- step: from the outcome of the first part on -/
theorem At.step {α β : Type} {σ : L2.St} {H : Hp} {f : Env → Sto → Res α} {k : Env → α → Sto → Res β} {G : β → Sto → Fm → Hp → Prop} {G1 : α → Sto → Fm → Hp → Prop}
    (h : At X C T σ H fun M ρ S => Out X C T XW ((f ρ S).bind (k ρ)) M G)
    (g : ∀ ρ a S1 M1 H1, EnvR X.K M1 σ ρ → WS X.K C T M1 S1 H1 → Out X C T XW (k ρ a S1) M1 G → G1 a S1 M1 H1) :
    At X C T σ H fun M ρ S => Out X C T XW (f ρ S) M G1 := by
  obtain ⟨M, ρ, S, he, hw, ho⟩ := h
  exact ⟨M, ρ, S, he, hw, ho.bind.mono fun a S1 M1 H1 x w q => g ρ a S1 M1 H1 (he.mono x) w q⟩

theorem PEimp {e : Expr} {t t' : TE} (h : PE X e t) (k : ∀ σ H Q, t' σ H Q → t σ H Q) : PE X e t' := ⟨fun pins s σ H Q I q => h.run pins s σ H Q I (k σ H Q q)⟩
theorem PTimp {e : Expr} {t t' : TT} (h : PT X e t) (k : ∀ σ H Q, t' σ H Q → t σ H Q) : PT X e t' := ⟨fun pins s σ H Q I q => h.run pins s σ H Q I (k σ H Q q)⟩
theorem PWimp {e : Expr} {t t' : TT} (h : PW X e t) (k : ∀ σ H Q, t' σ H Q → t σ H Q) : PW X e t' := ⟨fun w pins s σ H Q I q => h.run w pins s σ H Q I (k σ H Q q)⟩
theorem PAimp {e : List Expr} {t t' : TA} (h : PA X e t) (k : ∀ σ H Q, t' σ H Q → t σ H Q) : PA X e t' := ⟨fun p pins s σ H Q I q => h.run p pins s σ H Q I (k σ H Q q)⟩

/-! ### atoms -/
def sC (d : D) : SE := fun _ S => .ok (.v d) S
def sVar (i : Nat) : SE := fun ρ S => match ρ[i]? with | some (some w) => .ok w S | _ => .no
theorem at_ok {α : Type} {σ : L2.St} {H : Hp} {f : Env → Sto → Res α} {G : α → Sto → Fm → Hp → Prop} (h : At X C T σ H fun M ρ S => Out X C T XW (f ρ S) M G) {R : Prop}
    (k : ∀ M ρ S, EnvR X.K M σ ρ → WS X.K C T M S H → Out X C T XW (f ρ S) M G → R) : R := let ⟨M, ρ, S, a, b, c⟩ := h; k M ρ S a b c
theorem ed_C {e : Expr} {v : V} {d : D} (h : PE X e (tC v)) (r : ∀ M, Rp X.K M v d) : PE X e (TEd X C T XW (sC d)) :=
  PEimp h fun σ H Q ⟨M, ρ, S, he, hw, ho⟩ => ho M H (Ext.refl M) hw v (.v (r M))
theorem ed_int {i : Int} {j pos} : PE X (.Constant (.int i) j pos) (TEd X C T XW (sC (.int i))) := ed_C pe_int fun _ => .int i
theorem ed_bl {i : Bool} {j pos} : PE X (.Constant (.bool i) j pos) (TEd X C T XW (sC (.bl i))) := ed_C pe_bl fun _ => .bl i
theorem ed_str {i : Str} {j pos} : PE X (.Constant (.str i) j pos) (TEd X C T XW (sC (.str i))) := ed_C pe_str fun _ => .str i
theorem ed_non {j pos} : PE X (.Constant .none j pos) (TEd X C T XW (sC .non)) := ed_C pe_non fun _ => .non
theorem ed_glob {x : Str} {v : V} {d : D} {pos : Pos} (hg : Gl X x) (hm : ∃ u, X.mg x = some u ∧ RelV v u) (r : ∀ M, Rp X.K M v d) (hd : (x == ("__debug__" : Str)) = false := by decide) : PE X (.Name x pos) (TEd X C T XW (sC d)) :=
  let ⟨_, h1, h2⟩ := hm
  ed_C (pe_glob hg h1 h2 hd) r
theorem ed_var (i : Nat) {x : Str} {pos : Pos} (hN : X.N[i]? = some x) (hv : Vis X.env.scope x) (hd : (x == ("__debug__" : Str)) = false := by decide) (hcd : (x == ("__classdict__" : Str)) = false := by decide) : PE X (.Name x pos) (TEd X C T XW (sVar i)) :=
  PEimp (pe_var hN hv hd hcd) fun σ H Q ⟨M, ρ, S, he, hw, ho⟩ => by
    have ho : Out X C T XW (match ρ[i]? with | some (some w) => Res.ok w S | _ => .no) M fun a _ M' H' => ∀ v, RpW X.K M' v a → Q v H' := ho
    split at ho
    · rename_i w hq
      obtain ⟨v, h1, h2⟩ := he.2 i w hq
      exact ⟨v, h1, ho M H (Ext.refl M) hw v h2⟩
    · exact ho.elim

/-! ### operators -/
def sBin (op : Operator) (f g : SE) : SE := fun ρ S => (f ρ S).bind fun x S1 => (g ρ S1).bind fun y S2 => ofO (derefW S2 x) fun dx => ofO (derefW S2 y) fun dy => ofO (binD op dx dy) fun d => .ok (.v d) S2
def sCmp (op : CmpOp) (f g : SE) : SB := fun ρ S => (f ρ S).bind fun x S1 => (g ρ S1).bind fun y S2 => ofO (derefW S2 x) fun dx => ofO (derefW S2 y) fun dy => ofO (cmpD op dx dy) fun d => .ok d S2
def sOfB (f : SB) : SE := fun ρ S => (f ρ S).bind fun b S1 => .ok (.v (.bl b)) S1
variable {a b c e : Expr} {f g h : SE} {pos : Pos}
/-- the end of a pure operation -/
theorem fin {M : Fm} {S : Sto} {d : D} {Q : VK} (ho : Out X C T XW (Res.ok (W.v d) S) M fun a _ M' H' => ∀ v, RpW X.K M' v a → Q v H') : ∀ z H', VKd X.K C T M S d z H' → Q z H' :=
  fun z H' ⟨M', x, w, r⟩ => ho M' H' x w z (.v r)
/-- rules grow with what is wanted -/
def rUp (X : Cx) (F : Value → Value → Sem Value) : R2 := fun x y H Q => ∃ Q', rAny X F x y H Q' ∧ ∀ z H', Q' z H' → Q z H'
theorem rUp_ok {F : Value → Value → Sem Value} : OpR X F (rUp X F) := by
  intro pins s σ H x y v u Q I rx ry ⟨Q', h, k⟩
  exact thn (rAny_ok pins s σ H x y v u Q' I rx ry h) fun a s' ⟨z, H', I', r, q⟩ => ⟨z, H', I', r, k z H' q⟩
theorem ed_bin {op : Operator} (ha : PE X a (TEd X C T XW f)) (hb : PE X b (TEd X C T XW g)) : PE X (.BinOp a op b pos) (TEd X C T XW (sBin op f g)) :=
  PEimp (pe_op rUp_ok ha hb) fun σ H Q ⟨M, ρ, S, he, hw, ho⟩ => ⟨M, ρ, S, he, hw, ho.bind.mono fun x S1 M1 H1 x1 w1 ho v rv => ⟨M1, ρ, S1, he.mono x1, w1, ho.bind.mono fun y S2 M2 H2 x2 w2 ho w rw => by
    obtain ⟨dx, ex, ho⟩ := ho.ofO
    obtain ⟨dy, ey, ho⟩ := ho.ofO
    obtain ⟨d, ed, ho⟩ := ho.ofO
    exact ⟨_, binD_ok w2 (rv.mono x2) rw ex ey ed, fin ho⟩⟩⟩
theorem ed_cmp {op : CmpOp} (hu : X.A.units + 125 < cLine) (ha : PE X a (TEd X C T XW f)) (hb : PE X b (TEd X C T XW g)) (hm : behindInMarks op b = false) : PE X (.Compare a [op] [b] pos) (TEd X C T XW (sOfB (sCmp op f g))) :=
  PEimp (pe_cmpR rAny_ok ha hb hm) fun σ H Q ⟨M, ρ, S, he, hw, ho⟩ => ⟨M, ρ, S, he, hw, ho.bind.bind.mono fun x S1 M1 H1 x1 w1 ho v rv => ⟨M1, ρ, S1, he.mono x1, w1, ho.bind.mono fun y S2 M2 H2 x2 w2 ho w rw => by
    obtain ⟨dx, ex, ho⟩ := ho.ofO
    obtain ⟨dy, ey, ho⟩ := ho.ofO
    obtain ⟨d, ed, ho⟩ := ho.ofO
    exact cmpD_ok hu w2 (rv.mono x2) rw ex ey ed (fin (ho M2 H2 (Ext.refl M2) w2) _ _ (vkd_bl w2))⟩⟩
end
end Dy
set_option Elab.async false
set_option linter.all false
set_option maxRecDepth 100000
set_option maxHeartbeats 2000000
/-! Dy3b: displays, subscripts, slices, calls of built-in functions. -/
namespace Dy
open PySem PySem.Spec PyProof.Rows L2

/-! ### data -/
def cutL {α : Type} (xs : List α) (lo hi : Option Int) : List α := (xs.drop (HT.sIx xs.length 0 lo)).take (HT.sIx xs.length xs.length hi - HT.sIx xs.length 0 lo)
def ixD : D → D → Option D
  | .lst xs, .int i => atI xs i
  | .tup xs, .int i => atI xs i
  | .scr ns, .int i => (atI ns i).map .int
  | .str z, .int i => if z.length ≤ LIM then (atI z.cps.toList i).map fun c => .str ⟨#[c]⟩ else none
  | _, _ => none
def slD (x : D) (lo hi : Option Int) : Option D := match x with
  | .lst xs => some (.lst (cutL xs lo hi))
  | .tup xs => some (.tup (cutL xs lo hi))
  | .str z => if z.length ≤ LIM then some (.str (Txt.slice z lo hi)) else none
  | _ => none
def lenD : D → Option Int
  | .lst xs => some xs.length
  | .tup xs => some xs.length
  | .scr ns => some ns.length
  | .str z => if z.length ≤ LIM then some z.length else none
  | _ => none
def seqD : D → Option (List D)
  | .lst xs => some xs
  | .tup xs => some xs
  | _ => none
def truD : D → Option Bool
  | .non => some false
  | .bl b => some b
  | .int i => some (i != 0)
  | .str y => if y.length ≤ LIM then some ((y.length : Int) != 0) else none
  | .lst xs => some (!xs.isEmpty)
  | .tup xs => some (!xs.isEmpty)
  | .scr _ => none
/-- one-argument functions that make no list -/
inductive Bi where
  | len | int | str | abs | tuple | sum | max | min | bool
def biD (f : Bi) (x : D) : Option D := match f, x with
  | .len, x => (lenD x).map .int
  | .int, .int i => some (.int i)
  | .int, .bl b => some (.int (if b then 1 else 0))
  | .int, .str a => if a.length ≤ 640 then (PySem.intText? a).map .int else none
  | .str, .int i => if i.natAbs.log2 < 1920 then some (.str (toString i)) else none
  | .abs, .int i => some (.int (if i < 0 then -i else i))
  | .tuple, x => (seqD x).map .tup
  | _, _ => none

section
variable {X : Cx} {C : ClsAt} {T : List Addr} {XW : WX} {M : Fm} {S : Sto} {H : Hp} {v w : V} {x y : W} {dx dy d : D}
theorem RpL.atI {K : PySem.W.Frag} {M : Fm} {vs : List V} {ds : List D} (r : RpL K M vs ds) {i : Int} {d : D} (h : L2.atI ds i = some d) : ∃ v, L2.atI vs i = some v ∧ Rp K M v d := by
  unfold L2.atI at h ⊢
  rw [r.length]
  cases e : ixN ds.length i with
  | none => rw [e] at h; cases h
  | some j =>
    rw [e] at h
    exact r.get h
theorem RpL.cut {K : PySem.W.Frag} {M : Fm} {vs : List V} {ds : List D} (r : RpL K M vs ds) (lo hi : Option Int) : RpL K M (cutV vs lo hi) (cutL ds lo hi) := by
  unfold cutV cutL
  rw [r.length]
  exact (r.drop _).take _
theorem cutL_all {α : Type} {xs : List α} {lo hi : Option Int} (h : HT.sIx xs.length 0 lo = 0 ∧ HT.sIx xs.length xs.length hi = xs.length) : cutL xs lo hi = xs := by
  unfold cutL
  rw [h.1, h.2]
  simp
theorem atI_map {α β : Type} (f : α → β) (xs : List α) (i : Int) : L2.atI (xs.map f) i = (L2.atI xs i).map f := by
  unfold L2.atI
  rw [List.length_map]
  cases ixN xs.length i with
  | none => rfl
  | some j => show (xs.map f)[j]? = _; rw [List.getElem?_map]; rfl
theorem ixD_ok (ws : WS X.K C T M S H) (rx : RpW X.K M v x) (ry : RpW X.K M w y) (ex : derefW S x = some dx) (ey : derefW S y = some dy) (h : ixD dx dy = some d) : ixAny X v w H (VKd X.K C T M S d) := by
  unfold ixD at h
  split at h
  · obtain ⟨a, vs, rfl, e1, r1⟩ := seqL ws rx ex
    obtain rfl := atomI ws ry ey
    obtain ⟨u, e2, r2⟩ := r1.atI h
    exact ⟨_, ix_list, a, vs, _, u, rfl, rfl, SqL.of e1, e2, vkd_same ws r2⟩
  · obtain ⟨a, vs, rfl, e1, r1⟩ := seqT ws rx ex
    obtain rfl := atomI ws ry ey
    obtain ⟨u, e2, r2⟩ := r1.atI h
    exact ⟨_, ix_tup, a, vs, _, u, rfl, rfl, e1, e2, vkd_same ws r2⟩
  · rename_i ns i
    obtain ⟨a, rfl, e1⟩ := seqS ws rx ex
    obtain rfl := atomI ws ry ey
    cases e : L2.atI ns i with
    | none => rw [e] at h; cases h
    | some k =>
      rw [e] at h; cases h
      exact ⟨_, ix_list, a, _, _, .int k, rfl, rfl, e1, by rw [atI_map, e]; rfl, vkd_int ws⟩
  · rename_i z i
    split at h
    · obtain rfl := atomS ws rx ex
      obtain rfl := atomI ws ry ey
      cases e : L2.atI z.cps.toList i with
      | none => rw [e] at h; cases h
      | some k =>
        rw [e] at h; cases h
        exact ⟨_, ix_str, z, i, k, rfl, rfl, lim_line (by assumption), e, vkd_str ws⟩
    · cases h
  · cases h
theorem slD_ok (ws : WS X.K C T M S H) (rx : RpW X.K M v x) (ex : derefW S x = some dx) {lo hi : Option Int} (h : slD dx lo hi = some d) : slAny X v lo hi H (VKd X.K C T M S d) := by
  unfold slD at h
  split at h
  · cases h
    obtain ⟨a, vs, rfl, e1, r1⟩ := seqL ws rx ex
    exact ⟨_, sl_list, a, vs, rfl, SqL.of e1, vkd_lst ws (r1.cut lo hi)⟩
  · cases h
    have rx' := datT ws rx ex (fun _ z => by cases z)
    obtain ⟨a, vs, rfl, e1, r1⟩ := seqT ws rx ex
    refine ⟨_, sl_tupA, a, vs, rfl, e1, fun hz => ?_, fun _ => vkd_tup ws (r1.cut lo hi)⟩
    rw [r1.length] at hz
    rw [cutL_all hz]
    exact vkd_same ws rx'
  · split at h <;> cases h
    obtain rfl := atomS ws rx ex
    exact ⟨_, C8.sl_txt, _, rfl, lim_line (by assumption), vkd_str ws⟩
  · cases h
theorem truD_ok (ws : WS X.K C T M S H) (rx : RpW X.K M v x) (ex : derefW S x = some dx) {b : Bool} (h : truD dx = some b) : TruV X.K v H b := by
  unfold truD at h
  split at h
  · cases h; obtain rfl := atomN ws rx ex; rfl
  · cases h; obtain rfl := atomB ws rx ex; rfl
  · cases h; obtain rfl := atomI ws rx ex; rfl
  · split at h <;> cases h
    obtain rfl := atomS ws rx ex; exact ⟨lim_line (by assumption), rfl⟩
  · cases h
    obtain ⟨a, vs, rfl, e1, r1⟩ := seqL ws rx ex
    exact .inl ⟨vs, SqL.of e1, by cases r1 <;> rfl⟩
  · cases h
    obtain ⟨a, vs, rfl, e1, r1⟩ := seqT ws rx ex
    exact .inr (.inl ⟨vs, e1, by cases r1 <;> rfl⟩)
  · cases h
theorem lenD_ok (ws : WS X.K C T M S H) (rx : RpW X.K M v x) (ex : derefW S x = some dx) {i : Int} (h : lenD dx = some i) : ∃ n : Nat, LenV X.K v H n ∧ i = n := by
  unfold lenD at h
  split at h
  · cases h
    obtain ⟨a, vs, rfl, e1, r1⟩ := seqL ws rx ex
    exact ⟨vs.length, .inl ⟨vs, SqL.of e1, rfl⟩, by rw [r1.length]⟩
  · cases h
    obtain ⟨a, vs, rfl, e1, r1⟩ := seqT ws rx ex
    exact ⟨vs.length, .inr ⟨vs, e1, rfl⟩, by rw [r1.length]⟩
  · cases h
    obtain ⟨a, rfl, e1⟩ := seqS ws rx ex
    exact ⟨_, .inl ⟨_, e1, rfl⟩, by rw [List.length_map]⟩
  · split at h <;> cases h
    obtain rfl := atomS ws rx ex
    exact ⟨_, ⟨lim_line (by assumption), rfl⟩, rfl⟩
  · cases h
/-- the function as a value -/
def biV : Bi → Value
  | .len => .builtin "len"
  | .int => .type "int"
  | .str => .type "str"
  | .abs => .builtin "abs"
  | .tuple => .type "tuple"
  | .sum => .builtin "sum"
  | .max => .builtin "max"
  | .min => .builtin "min"
  | .bool => .type "bool"
def biN : Bi → Str
  | .len => "len"
  | .int => "int"
  | .str => "str"
  | .abs => "abs"
  | .tuple => "tuple"
  | .sum => "sum"
  | .max => "max"
  | .min => "min"
  | .bool => "bool"
/-- what the call of a function gives from any rule -/
def cUp (X : Cx) (f : Value) : List V → Hp → VK → Prop := fun xs H Q => ∃ Q', cAny X f xs H Q' ∧ ∀ z H', Q' z H' → Q z H'
theorem cUp_ok {f : Value} : CallR X f (cUp X f) := by
  intro pins s σ H xs us Q I r ⟨Q', h, k⟩
  exact thn (cAny_ok pins s σ H xs us Q' I r h) fun a s' ⟨z, H', I', r, q⟩ => ⟨z, H', I', r, k z H' q⟩
theorem call_tupleA : CallR X (.type "tuple") (fun xs H Q => ∃ v, xs = [v] ∧ kTup X.K v H Q) := by
  intro pins s σ H xs us Q I r ⟨v, e, q⟩
  subst e
  obtain ⟨u, rfl, ru⟩ := vals1 r
  exact rl_tuple pins s σ H v u Q I ru q
theorem biD_ok (ws : WS X.K C T M S H) (rx : RpW X.K M v x) (ex : derefW S x = some dx) {f : Bi} (h : biD f dx = some d) : cAny X (biV f) [v] H (VKd X.K C T M S d) := by
  unfold biD at h
  split at h
  · cases e : lenD dx with
    | none => rw [e] at h; cases h
    | some i =>
      rw [e] at h; cases h
      obtain ⟨n, h1, rfl⟩ := lenD_ok ws rx ex e
      exact ⟨_, call_len, v, n, rfl, h1, vkd_int ws⟩
  · cases h
    obtain rfl := atomI ws rx ex
    exact ⟨_, call_int1, .inl ⟨_, rfl, vkd_int ws⟩⟩
  · cases h
    obtain rfl := atomB ws rx ex
    exact ⟨_, call_int1, .inr ⟨_, rfl, vkd_int ws⟩⟩
  · rename_i a
    split at h
    · cases e : PySem.intText? a with
      | none => rw [e] at h; cases h
      | some n =>
        rw [e] at h; cases h
        obtain rfl := atomS ws rx ex
        exact ⟨_, call_int_str, a, n, rfl, e, by assumption, vkd_int ws⟩
    · cases h
  · split at h <;> cases h
    obtain rfl := atomI ws rx ex
    exact ⟨_, call_str_int, _, rfl, by assumption, vkd_str ws⟩
  · cases h
    obtain rfl := atomI ws rx ex
    exact ⟨_, call_abs, _, rfl, vkd_int ws⟩
  · cases e : seqD dx with
    | none => rw [e] at h; cases h
    | some ds =>
      rw [e] at h; cases h
      unfold seqD at e
      split at e
      · cases e
        obtain ⟨a, vs, rfl, e1, r1⟩ := seqL ws rx ex
        exact ⟨_, call_tupleA, _, rfl, .inl ⟨a, vs, rfl, SqL.of e1, vkd_tup ws r1⟩⟩
      · cases e
        have rx' := datT ws rx ex (fun _ z => by cases z)
        obtain ⟨a, vs, rfl, e1, r1⟩ := seqT ws rx ex
        exact ⟨_, call_tupleA, _, rfl, .inr ⟨a, vs, rfl, e1, vkd_same ws rx'⟩⟩
      · cases e
  · cases h
end
end Dy
set_option Elab.async false
set_option linter.all false
set_option maxRecDepth 100000
set_option maxHeartbeats 2000000
/-! Dy3c: the rules of displays, subscripts, slices, tests, built-in functions. -/
namespace Dy
open PySem PySem.Spec PyProof.Rows L2

def wD : W → Option D
  | .v d => some d
  | _ => none
def allD : List W → Option (List D)
  | [] => some []
  | w :: ws => match wD w, allD ws with
    | some d, some ds => some (d :: ds)
    | _, _ => none
@[simp] theorem allD_nil : allD [] = some [] := rfl
@[simp] theorem allD_cons (d : D) (ws : List W) : allD (.v d :: ws) = (allD ws).map (d :: ·) := by
  show (match some d, allD ws with | some d, some ds => some (d :: ds) | _, _ => none) = _
  cases allD ws <;> rfl
theorem allD_ok {K : PySem.W.Frag} {M : Fm} : ∀ {vs : List V} {ws : List W} {ds : List D}, RpWL K M vs ws → allD ws = some ds → RpL K M vs ds
  | _, _, _, .nil, h => by cases h; exact .nil
  | _, _, _, .cons (d := w) r t, h => by
    unfold allD at h
    split at h
    · rename_i d ds e1 e2
      cases h
      cases r with
      | v r => cases e1; exact .cons r (allD_ok t e2)
      | p _ => cases e1
      | c _ => cases e1
    · cases h
def sANil : SA := fun _ S => .ok [] S
def sACons (f : SE) (g : SA) : SA := fun ρ S => (f ρ S).bind fun x S1 => (g ρ S1).bind fun xs S2 => .ok (x :: xs) S2
def sAStar (f : SE) (g : SA) : SA := fun ρ S => (f ρ S).bind fun x S1 => ofO (derefW S1 x) fun dx => ofO (seqD dx) fun ds => (g ρ S1).bind fun xs S2 => .ok (ds.map .v ++ xs) S2
def sTup (g : SA) : SE := fun ρ S => (g ρ S).bind fun xs S1 => ofO (allD xs) fun ds => if ds.length ≤ LIM then .ok (.v (.tup ds)) S1 else .no
def sLst (g : SA) : SL := fun ρ S => (g ρ S).bind fun xs S1 => ofO (allD xs) fun ds => if ds.length ≤ LIM then .ok ds S1 else .no
def sFrz (f : SL) : SE := fun ρ S => (f ρ S).bind fun ds S1 => .ok (.v (.lst ds)) S1
def sCell (f : SL) : SE := fun ρ S => (f ρ S).bind fun ds S1 => .ok (.p S1.length) (S1 ++ [.lst ds])
def sIx (f g : SE) : SE := fun ρ S => (f ρ S).bind fun x S1 => (g ρ S1).bind fun y S2 => ofO (derefW S2 x) fun dx => ofO (derefW S2 y) fun dy => ofO (ixD dx dy) fun d => .ok (.v d) S2
def sONone : SO := fun _ S => .ok none S
def iD : D → Option Int
  | .int i => some i
  | _ => none
def wI : W → Option Int
  | .v (.int i) => some i
  | _ => none
def sOSome (f : SE) : SO := fun ρ S => (f ρ S).bind fun x S1 => ofO (wI x) fun i => .ok (some i) S1
def sSl (f : SE) (lo hi : SO) : SE := fun ρ S => (f ρ S).bind fun x S1 => (lo ρ S1).bind fun l S2 => (hi ρ S2).bind fun u S3 => ofO (derefW S3 x) fun dx => ofO (slD dx l u) fun d => .ok (.v d) S3
def sBi (b : Bi) (f : SE) : SE := fun ρ S => (f ρ S).bind fun x S1 => ofO (derefW S1 x) fun dx => ofO (biD b dx) fun d => .ok (.v d) S1
def wB : W → Option Bool
  | .v (.bl b) => some b
  | _ => none
def sTest (f : SE) : SB := fun ρ S => (f ρ S).bind fun x S1 => ofO (wB x) fun b => .ok b S1
def sTru (f : SE) : SB := fun ρ S => (f ρ S).bind fun x S1 => ofO (derefW S1 x) fun dx => ofO (truD dx) fun b => .ok b S1
def sAnd (f g : SB) : SB := fun ρ S => (f ρ S).bind fun b S1 => if b = true then g ρ S1 else .ok false S1
def sOr (f g : SB) : SB := fun ρ S => (f ρ S).bind fun b S1 => if b = true then .ok true S1 else g ρ S1
def sNot (f : SB) : SB := fun ρ S => (f ρ S).bind fun b S1 => .ok (!b) S1
def sAndV (f g : SE) : SE := fun ρ S => (f ρ S).bind fun x S1 => ofO (wB x) fun b => if b = true then g ρ S1 else .ok (.v (.bl false)) S1
def sOrV (f g : SE) : SE := fun ρ S => (f ρ S).bind fun x S1 => ofO (wB x) fun b => if b = true then .ok (.v (.bl true)) S1 else g ρ S1
def sNotV (f : SE) : SE := fun ρ S => (f ρ S).bind fun x S1 => ofO (wB x) fun b => .ok (.v (.bl (!b))) S1
def sIf (c : SB) (f g : SE) : SE := fun ρ S => (c ρ S).bind fun b S1 => if b = true then f ρ S1 else g ρ S1
def sChain (op op' : CmpOp) (f g h : SE) : SE := fun ρ S => (f ρ S).bind fun x S1 => (g ρ S1).bind fun y S2 => ofO (derefW S2 x) fun dx => ofO (derefW S2 y) fun dy => ofO (cmpD op dx dy) fun b =>
  if b = true then (h ρ S2).bind fun z S3 => ofO (derefW S3 y) fun dy => ofO (derefW S3 z) fun dz => ofO (cmpD op' dy dz) fun b => .ok (.v (.bl b)) S3 else .ok (.v (.bl false)) S2

section
variable {X : Cx} {C : ClsAt} {T : List Addr} {XW : WX} {a b c e : Expr} {es : List Expr} {f g h : SE} {ga : SA} {gl : SL} {fb gb : SB} {pos p : Pos}
theorem ad_nil : PA X [] (TAd X C T XW sANil) := PAimp pa_nil fun σ H Q ⟨M, ρ, S, he, hw, ho⟩ => ho M H (Ext.refl M) hw [] .nil
theorem ad_cons (ha : PE X e (TEd X C T XW f)) (hr : PA X es (TAd X C T XW ga)) (hs : starEach (e :: es) X.env = (false, eval e X.env) :: starEach es X.env := by rfl) : PA X (e :: es) (TAd X C T XW (sACons f ga)) :=
  PAimp (pa_cons ha hr hs) fun σ H Q ⟨M, ρ, S, he, hw, ho⟩ => ⟨M, ρ, S, he, hw, ho.bind.mono fun x S1 M1 H1 x1 w1 ho v rv => ⟨M1, ρ, S1, he.mono x1, w1, ho.bind.mono fun xs S2 M2 H2 x2 w2 ho vs rvs =>
    ho M2 H2 (Ext.refl M2) w2 _ (.cons (rv.mono x2) rvs)⟩⟩
theorem rpwl_v {K : PySem.W.Frag} {M : Fm} : ∀ {vs : List V} {ds : List D}, RpL K M vs ds → RpWL K M vs (ds.map .v)
  | _, _, .nil => .nil
  | _, _, .cons r t => .cons (.v r) (rpwl_v t)
theorem seqD_ok {M : Fm} {S : Sto} {H : Hp} {v : V} {x : W} {dx : D} (ws : WS X.K C T M S H) (rx : RpW X.K M v x) (ex : derefW S x = some dx) {ds : List D} (h : seqD dx = some ds) :
    ∃ a vs, v = .ref a ∧ (SqT X.K H a vs ∨ SqL X.K H a vs) ∧ RpL X.K M vs ds := by
  unfold seqD at h
  split at h
  · cases h
    obtain ⟨a, vs, rfl, e1, r1⟩ := seqL ws rx ex
    exact ⟨a, vs, rfl, .inr (SqL.of e1), r1⟩
  · cases h
    obtain ⟨a, vs, rfl, e1, r1⟩ := seqT ws rx ex
    exact ⟨a, vs, rfl, .inl e1, r1⟩
  · cases h
theorem ad_star (ha : PE X e (TEd X C T XW f)) (hr : PA X es (TAd X C T XW ga)) (hs : starEach (.Starred e p :: es) X.env = (true, eval e X.env) :: starEach es X.env := by rfl) : PA X (.Starred e p :: es) (TAd X C T XW (sAStar f ga)) :=
  PAimp (StX.pa_star ha hr hs) fun σ H Q ⟨M, ρ, S, he, hw, ho⟩ => ⟨M, ρ, S, he, hw, ho.bind.mono fun x S1 M1 H1 x1 w1 ho v rv => by
    obtain ⟨dx, ex, ho⟩ := ho.ofO
    obtain ⟨ds, ed, ho⟩ := ho.ofO
    obtain ⟨a, vs, rfl, h1, r1⟩ := seqD_ok w1 rv ex ed
    exact ⟨a, vs, rfl, h1, M1, ρ, S1, he.mono x1, w1, ho.bind.mono fun xs S2 M2 H2 x2 w2 ho us rus => ho M2 H2 (Ext.refl M2) w2 _ ((rpwl_v (r1.mono x2)).append rus)⟩⟩
theorem ite_ok {α : Type} {P : Prop} [Decidable P] {r : Res α} {M : Fm} {G : α → Sto → Fm → Hp → Prop} (h : Out X C T XW (if P then r else .no) M G) : P ∧ Out X C T XW r M G := by
  by_cases hp : P
  · rw [if_pos hp] at h; exact ⟨hp, h⟩
  · rw [if_neg hp] at h; exact h.elim
theorem ed_tup {x1} (ha : PA X es (TAd X C T XW ga)) : PE X (.Tuple es x1 pos) (TEd X C T XW (sTup ga)) :=
  PEimp (pe_tup ha) fun σ H Q ⟨M, ρ, S, he, hw, ho⟩ => ⟨M, ρ, S, he, hw, ho.bind.mono fun xs S1 M1 H1 x1 w1 ho vs rv => by
    obtain ⟨ds, ed, ho⟩ := ho.ofO
    obtain ⟨hl, ho⟩ := ite_ok ho
    have r1 := allD_ok rv ed
    exact ⟨lim_line (by rw [r1.length]; exact hl), fun p hp => fin ho _ _ (vkd_tup w1 r1 p hp)⟩⟩
theorem ld_lst (ha : PA X es (TAd X C T XW ga)) : PE X (.List es pos) (TLd X C T XW (sLst ga)) :=
  PEimp (pe_lst ha) fun σ H Q ⟨M, ρ, S, he, hw, ho⟩ => ⟨M, ρ, S, he, hw, ho.bind.mono fun xs S1 M1 H1 x1 w1 ho vs rv => by
    obtain ⟨ds, ed, ho⟩ := ho.ofO
    obtain ⟨hl, ho⟩ := ite_ok ho
    have r1 := allD_ok rv ed
    exact ⟨lim_line (by rw [r1.length]; exact hl), fun p hp => ho M1 H1 (Ext.refl M1) w1 vs p r1 hp⟩⟩
theorem ed_frz (hl : PE X e (TLd X C T XW gl)) : PE X e (TEd X C T XW (sFrz gl)) :=
  PEimp hl fun σ H Q ⟨M, ρ, S, he, hw, ho⟩ => ⟨M, ρ, S, he, hw, ho.bind.mono fun ds S1 M1 H1 x1 w1 ho vs p r1 hp => fin ho _ _ (vkd_lst w1 r1 p hp)⟩
theorem ed_cell (hl : PE X e (TLd X C T XW gl)) : PE X e (TEd X C T XW (sCell gl)) :=
  PEimp hl fun σ H Q ⟨M, ρ, S, he, hw, ho⟩ => ⟨M, ρ, S, he, hw, ho.bind.mono fun ds S1 M1 H1 x1 w1 ho vs p r1 hp => by
    obtain ⟨w2, x2⟩ := w1.layC (o := .lst vs) (d := .lst ds) hp ⟨w1.Fnone hp, vs, upd_same, r1.mono Ext.more⟩
    refine ho _ _ x2 w2 _ (.p ?_)
    show (M1.as ++ [p])[S1.length]? = some p
    rw [← w1.len, List.getElem?_append_right (Nat.le_refl _), Nat.sub_self]; rfl⟩
theorem ed_ix (ha : PE X a (TEd X C T XW f)) (hb : PE X b (TEd X C T XW g)) (hs : PlainIx b) : PE X (.Subscript a b pos) (TEd X C T XW (sIx f g)) :=
  PEimp (pe_ix (r := fun x y H Q => ∃ Q', ixAny X x y H Q' ∧ ∀ z H', Q' z H' → Q z H') (by
      intro value slice pins s σ H x y v u Q I rx ry ⟨Q', h, k⟩ hs
      exact thn (ixAny_ok value slice pins s σ H x y v u Q' I rx ry h hs) fun a s' ⟨z, H', I', r, q⟩ => ⟨z, H', I', r, k z H' q⟩) ha hb hs)
    fun σ H Q ⟨M, ρ, S, he, hw, ho⟩ => ⟨M, ρ, S, he, hw, ho.bind.mono fun x S1 M1 H1 x1 w1 ho v rv => ⟨M1, ρ, S1, he.mono x1, w1, ho.bind.mono fun y S2 M2 H2 x2 w2 ho w rw => by
      obtain ⟨dx, ex, ho⟩ := ho.ofO
      obtain ⟨dy, ey, ho⟩ := ho.ofO
      obtain ⟨d, ed, ho⟩ := ho.ofO
      exact ⟨_, ixD_ok w2 (rv.mono x2) rw ex ey ed, fin ho⟩⟩⟩
theorem od_none : PO X none (TOd X C T XW sONone) := ⟨fun pins s σ H Q I ⟨M, ρ, S, he, hw, ho⟩ => po_none.run pins s σ H Q I (ho M H (Ext.refl M) hw)⟩
theorem wI_ok {K : PySem.W.Frag} {M : Fm} {v : V} {x : W} {i : Int} (r : RpW K M v x) (h : wI x = some i) : v = .int i := by
  cases r with
  | v r => cases r <;> cases h; rfl
  | p _ => cases h
  | c _ => cases h
theorem wB_ok {K : PySem.W.Frag} {M : Fm} {v : V} {x : W} {i : Bool} (r : RpW K M v x) (h : wB x = some i) : v = .bl i := by
  cases r with
  | v r => cases r <;> cases h; rfl
  | p _ => cases h
  | c _ => cases h
theorem od_some (ha : PE X a (TEd X C T XW f)) : PO X (some a) (TOd X C T XW (sOSome f)) :=
  ⟨fun pins s σ H Q I ⟨M, ρ, S, he, hw, ho⟩ => (po_some ha).run pins s σ H Q I ⟨M, ρ, S, he, hw, ho.bind.mono fun x S1 M1 H1 x1 w1 ho v rv => by
    obtain ⟨i, e1, ho⟩ := ho.ofO
    exact ⟨i, wI_ok rv e1, ho M1 H1 (Ext.refl M1) w1⟩⟩⟩
theorem ed_sl {lo hi : Option Expr} {fl fh : SO} (ha : PE X a (TEd X C T XW f)) (hl : PO X lo (TOd X C T XW fl)) (hh : PO X hi (TOd X C T XW fh)) : PE X (.Subscript a (.Slice lo hi none p) pos) (TEd X C T XW (sSl f fl fh)) :=
  PEimp (pe_slice (r := fun x lo hi H Q => ∃ Q', slAny X x lo hi H Q' ∧ ∀ z H', Q' z H' → Q z H') (by
      intro pins s σ H x v vl vu lo hi sl Q I rx hs pl pu ⟨Q', h, k⟩
      obtain ⟨T, id, h1, h2, h3⟩ := slAny_ok pins s σ H x v vl vu lo hi sl Q' I rx hs pl pu h
      exact ⟨T, id, h1, h2, thn h3 fun a s' ⟨z, H', I', r, q⟩ => ⟨z, H', I', r, k z H' q⟩⟩) ha hl hh)
    fun σ H Q ⟨M, ρ, S, he, hw, ho⟩ => ⟨M, ρ, S, he, hw, ho.bind.mono fun x S1 M1 H1 x1 w1 ho v rv => ⟨M1, ρ, S1, he.mono x1, w1, ho.bind.mono fun l S2 M2 H2 x2 w2 ho => ⟨M2, ρ, S2, (he.mono x1).mono x2, w2, ho.bind.mono fun u S3 M3 H3 x3 w3 ho => by
      obtain ⟨dx, ex, ho⟩ := ho.ofO
      obtain ⟨d, ed, ho⟩ := ho.ofO
      exact ⟨_, slD_ok w3 ((rv.mono x2).mono x3) ex ed, fin ho⟩⟩⟩⟩
theorem biBoot (bi : Bi) : bootBuiltins (biN bi) = some (biV bi) := by cases bi <;> decide +kernel
theorem ed_bi (bi : Bi) {x : Str} {p : Pos} (hx : x = biN bi) (hg : Gl X x) (hm : X.mg x = none) (ha : PE X a (TEd X C T XW f)) (hs : starEach [a] X.env = (false, eval a X.env) :: starEach [] X.env := by rfl) :
    PE X (.Call (.Name x p) [a] [] pos) (TEd X C T XW (sBi bi f)) := by
  have key : PE X (.Call (.Name x p) [a] [] pos) (tCB (cUp X (biV bi)) (tCons (TEd X C T XW f) tNil)) := by
    subst hx
    have hb := biBoot bi
    cases bi
    all_goals first
      | exact pe_callB cUp_ok hg hm hb (pa_cons ha pa_nil hs) (by decide) (by decide) hs rfl
      | exact pe_callTy cUp_ok hg hm hb (pa_cons ha pa_nil hs) (by decide) (by decide) hs rfl
  exact PEimp key fun σ H Q ⟨M, ρ, S, he, hw, ho⟩ => ⟨M, ρ, S, he, hw, ho.bind.mono fun x S1 M1 H1 x1 w1 ho v rv => by
    obtain ⟨dx, ex, ho⟩ := ho.ofO
    obtain ⟨d, ed, ho⟩ := ho.ofO
    exact ⟨_, biD_ok w1 rv ex ed, fin ho⟩⟩
end
end Dy
set_option Elab.async false
set_option linter.all false
set_option maxRecDepth 100000
set_option maxHeartbeats 2000000
/-! Dy3d: tests, conditions, statements without loops. -/
namespace Dy
open PySem PySem.Spec PyProof.Rows L2
section
variable {X : Cx} {C : ClsAt} {T : List Addr} {XW : WX} {a b c e : Expr} {es rest : List Expr} {f g h : SE} {ga : SA} {gl : SL} {fb gb : SB} {pos p : Pos}
theorem finB {M : Fm} {S : Sto} {H : Hp} {b : Bool} {Q : Bool → Hp → Prop} (hw : WS X.K C T M S H) (ho : Out X C T XW (Res.ok b S) M fun a _ M' H' => Q a H') : Q b H := ho M H (Ext.refl M) hw
/-- a comparison as a test -/
theorem td_cmp {op : CmpOp} (hu : X.A.units + 125 < cLine) (ha : PE X a (TEd X C T XW f)) (hb : PE X b (TEd X C T XW g)) (hm : behindInMarks op b = false) : PT X (.Compare a [op] [b] pos) (TTd X C T XW (sCmp op f g)) :=
  PTimp (pt_cmpR rAny_ok ha hb hm) fun σ H Q ⟨M, ρ, S, he, hw, ho⟩ => ⟨M, ρ, S, he, hw, ho.bind.mono fun x S1 M1 H1 x1 w1 ho v rv => ⟨M1, ρ, S1, he.mono x1, w1, ho.bind.mono fun y S2 M2 H2 x2 w2 ho w rw => by
    obtain ⟨dx, ex, ho⟩ := ho.ofO
    obtain ⟨dy, ey, ho⟩ := ho.ofO
    obtain ⟨d, ed, ho⟩ := ho.ofO
    exact cmpD_ok hu w2 (rv.mono x2) rw ex ey ed ⟨d, rfl, finB w2 ho⟩⟩⟩
/-- an expression as a test: a bool -/
theorem td_val (ha : PE X a (TEd X C T XW f)) (he : ∀ whole, isTrue a X.env whole = (do let v ← whole; standAt a.pos; holding [v] (truthy v)) := by intro _; rfl) : PT X a (TTd X C T XW (sTest f)) :=
  PTimp (pt_val ha he) fun σ H Q ⟨M, ρ, S, he, hw, ho⟩ => ⟨M, ρ, S, he, hw, ho.bind.mono fun x S1 M1 H1 x1 w1 ho v rv => by
    obtain ⟨b, e1, ho⟩ := ho.ofO
    exact ⟨b, wB_ok rv e1, finB w1 ho⟩⟩
/-- .. anything -/
theorem td_tru (ha : PE X a (TEd X C T XW f)) (he : ∀ whole, isTrue a X.env whole = (do let v ← whole; standAt a.pos; holding [v] (truthy v)) := by intro _; rfl) : PT X a (TTd X C T XW (sTru f)) :=
  PTimp (pt_truth ha he) fun σ H Q ⟨M, ρ, S, he, hw, ho⟩ => ⟨M, ρ, S, he, hw, ho.bind.mono fun x S1 M1 H1 x1 w1 ho v rv => by
    obtain ⟨dx, ex, ho⟩ := ho.ofO
    obtain ⟨b, e1, ho⟩ := ho.ofO
    exact ⟨b, truD_ok w1 rv ex e1, finB w1 ho⟩⟩
theorem td_not (ha : PT X a (TTd X C T XW fb)) : PT X (.UnaryOp .Not a pos) (TTd X C T XW (sNot fb)) :=
  PTimp (pt_not ha) fun σ H Q ⟨M, ρ, S, he, hw, ho⟩ => ⟨M, ρ, S, he, hw, ho.bind.mono fun x S1 M1 H1 x1 w1 ho => finB w1 ho⟩
theorem wd_and1 (ha : PT X a (TTd X C T XW fb)) : PW X (.BoolOp .And [a] pos) (TTd X C T XW fb) := pw_and1 ha
theorem wd_or1 (ha : PT X a (TTd X C T XW fb)) : PW X (.BoolOp .Or [a] pos) (TTd X C T XW fb) := pw_or1 ha
theorem wd_and (ha : PT X a (TTd X C T XW fb)) (hb : PW X (.BoolOp .And (b :: rest) pos) (TTd X C T XW gb)) : PW X (.BoolOp .And (a :: b :: rest) pos) (TTd X C T XW (sAnd fb gb)) :=
  PWimp (pw_and ha hb) fun σ H Q ⟨M, ρ, S, he, hw, ho⟩ => ⟨M, ρ, S, he, hw, ho.bind.mono fun x S1 M1 H1 x1 w1 ho => by
    cases x with
    | true => exact ⟨M1, ρ, S1, he.mono x1, w1, ho⟩
    | false => exact finB w1 ho⟩
theorem wd_or (ha : PT X a (TTd X C T XW fb)) (hb : PW X (.BoolOp .Or (b :: rest) pos) (TTd X C T XW gb)) : PW X (.BoolOp .Or (a :: b :: rest) pos) (TTd X C T XW (sOr fb gb)) :=
  PWimp (pw_or ha hb) fun σ H Q ⟨M, ρ, S, he, hw, ho⟩ => ⟨M, ρ, S, he, hw, ho.bind.mono fun x S1 M1 H1 x1 w1 ho => by
    cases x with
    | true => exact finB w1 ho
    | false => exact ⟨M1, ρ, S1, he.mono x1, w1, ho⟩⟩
/-! as values -/
theorem ed_one {op} (ha : PE X a (TEd X C T XW f)) : PE X (.BoolOp op [a] pos) (TEd X C T XW f) := pe_one ha
theorem ed_and (ha : PE X a (TEd X C T XW f)) (hb : PE X (.BoolOp .And (b :: rest) pos) (TEd X C T XW g)) : PE X (.BoolOp .And (a :: b :: rest) pos) (TEd X C T XW (sAndV f g)) :=
  PEimp (pe_and ha hb) fun σ H Q ⟨M, ρ, S, he, hw, ho⟩ => ⟨M, ρ, S, he, hw, ho.bind.mono fun x S1 M1 H1 x1 w1 ho v rv => by
    obtain ⟨b, e1, ho⟩ := ho.ofO
    refine ⟨b, wB_ok rv e1, ?_⟩
    cases b with
    | true => exact ⟨M1, ρ, S1, he.mono x1, w1, ho⟩
    | false => exact fin ho _ _ (vkd_bl w1)⟩
theorem ed_or (ha : PE X a (TEd X C T XW f)) (hb : PE X (.BoolOp .Or (b :: rest) pos) (TEd X C T XW g)) : PE X (.BoolOp .Or (a :: b :: rest) pos) (TEd X C T XW (sOrV f g)) :=
  PEimp (pe_or ha hb) fun σ H Q ⟨M, ρ, S, he, hw, ho⟩ => ⟨M, ρ, S, he, hw, ho.bind.mono fun x S1 M1 H1 x1 w1 ho v rv => by
    obtain ⟨b, e1, ho⟩ := ho.ofO
    refine ⟨b, wB_ok rv e1, ?_⟩
    cases b with
    | true => exact fin ho _ _ (vkd_bl w1)
    | false => exact ⟨M1, ρ, S1, he.mono x1, w1, ho⟩⟩
theorem ed_not (ha : PE X a (TEd X C T XW f)) : PE X (.UnaryOp .Not a pos) (TEd X C T XW (sNotV f)) :=
  PEimp (pe_not ha) fun σ H Q ⟨M, ρ, S, he, hw, ho⟩ => ⟨M, ρ, S, he, hw, ho.bind.mono fun x S1 M1 H1 x1 w1 ho v rv => by
    obtain ⟨b, e1, ho⟩ := ho.ofO
    exact ⟨b, wB_ok rv e1, fin ho _ _ (vkd_bl w1)⟩⟩
theorem ed_if {c : Expr} (hc : PT X c (TTd X C T XW fb)) (ha : PE X a (TEd X C T XW f)) (hb : PE X b (TEd X C T XW g)) : PE X (.IfExp c a b pos) (TEd X C T XW (sIf fb f g)) :=
  PEimp (pe_ifExp hc ha hb) fun σ H Q ⟨M, ρ, S, he, hw, ho⟩ => ⟨M, ρ, S, he, hw, ho.bind.mono fun x S1 M1 H1 x1 w1 ho => by
    cases x with
    | true => exact ⟨M1, ρ, S1, he.mono x1, w1, ho⟩
    | false => exact ⟨M1, ρ, S1, he.mono x1, w1, ho⟩⟩
def sNeg (f : SE) : SE := fun ρ S => (f ρ S).bind fun x S1 => ofO (wI x) fun i => .ok (.v (.int (-i))) S1
theorem ed_neg (ha : PE X a (TEd X C T XW f)) : PE X (.UnaryOp .USub a pos) (TEd X C T XW (sNeg f)) :=
  PEimp (pe_un un_neg ha) fun σ H Q ⟨M, ρ, S, he, hw, ho⟩ => ⟨M, ρ, S, he, hw, ho.bind.mono fun x S1 M1 H1 x1 w1 ho v rv => by
    obtain ⟨i, e1, ho⟩ := ho.ofO
    exact ⟨i, wI_ok rv e1, fin ho _ _ (vkd_int w1)⟩⟩
theorem chain_in {op op' : CmpOp} (hu : X.A.units + 125 < cLine) {M : Fm} {ρ : Env} {S : Sto} {σ : L2.St} {H : Hp} {Q : VK} (he : EnvR X.K M σ ρ) (hw : WS X.K C T M S H) (ho : Out X C T XW (sChain op op' f g h ρ S) M fun a _ M' H' => ∀ v, RpW X.K M' v a → Q v H') :
    tChain (rAny X (compareOp op)) (rAny X (compareOp op')) (TEd X C T XW f) (TEd X C T XW g) (TEd X C T XW h) σ H Q :=
  ⟨M, ρ, S, he, hw, ho.bind.mono fun x S1 M1 H1 x1 w1 ho v rv => ⟨M1, ρ, S1, he.mono x1, w1, ho.bind.mono fun y S2 M2 H2 x2 w2 ho w rw => by
    obtain ⟨dx, ex, ho⟩ := ho.ofO
    obtain ⟨dy, ey, ho⟩ := ho.ofO
    obtain ⟨b, ed, ho⟩ := ho.ofO
    refine cmpD_ok hu w2 (rv.mono x2) rw ex ey ed ⟨b, rfl, ?_⟩
    cases b with
    | true =>
      exact ⟨M2, ρ, S2, (he.mono x1).mono x2, w2, ho.bind.mono fun z S3 M3 H3 x3 w3 ho u ru => by
        obtain ⟨dy', ey', ho⟩ := ho.ofO
        obtain ⟨dz, ez, ho⟩ := ho.ofO
        obtain ⟨b, ed, ho⟩ := ho.ofO
        exact cmpD_ok hu w3 (rw.mono x3) ru ey' ez ed (fin ho _ _ (vkd_bl w3))⟩
    | false => exact fin ho _ _ (vkd_bl w2)⟩⟩
theorem ed_chain {op op' : CmpOp} (hu : X.A.units + 125 < cLine) (ha : PE X a (TEd X C T XW f)) (hb : PE X b (TEd X C T XW g)) (hc : PE X c (TEd X C T XW h)) (hm : lastMarks [op, op'] [b, c] = false := by with_unfolding_all rfl) :
    PE X (.Compare a [op, op'] [b, c] pos) (TEd X C T XW (sChain op op' f g h)) :=
  PEimp (pe_chain rAny_ok rAny_ok ha hb hc hm) fun σ H Q ⟨M, ρ, S, he, hw, ho⟩ => chain_in hu he hw ho
theorem td_chain {op op' : CmpOp} (hu : X.A.units + 125 < cLine) (ha : PE X a (TEd X C T XW f)) (hb : PE X b (TEd X C T XW g)) (hc : PE X c (TEd X C T XW h)) (hm : lastMarks [op, op'] [b, c] = false := by with_unfolding_all rfl) :
    PT X (.Compare a [op, op'] [b, c] pos) (TTd X C T XW (sTest (sChain op op' f g h))) :=
  PTimp (pt_chain rAny_ok rAny_ok ha hb hc hm) fun σ H Q ⟨M, ρ, S, he, hw, ho⟩ => chain_in hu he hw (ho.bind.mono fun x S1 M1 H1 x1 w1 ho v rv => by
    obtain ⟨b, e1, ho⟩ := ho.ofO
    exact ⟨b, wB_ok rv e1, finB w1 ho⟩)
end

/-! ### statements -/
inductive RS where
  | nx (ρ : Env) (S : Sto) | ret (w : W) (S : Sto) | brk (ρ : Env) (S : Sto) | cnt (ρ : Env) (S : Sto) | exc (c : Str) (fs : List (Str × W)) (S : Sto) | no
abbrev SS := Env → Sto → RS
def Res.toS {α : Type} : Res α → (α → Sto → RS) → RS
  | .ok a S, k => k a S
  | .exc c fs S, _ => .exc c fs S
  | .no, _ => .no
@[simp] theorem Res.toS_ok {α : Type} (a : α) (S : Sto) (k : α → Sto → RS) : (Res.ok a S).toS k = k a S := rfl
@[simp] theorem Res.toS_exc {α : Type} (c : Str) (fs : List (Str × W)) (S : Sto) (k : α → Sto → RS) : (Res.exc c fs S : Res α).toS k = .exc c fs S := rfl
@[simp] theorem Res.toS_no {α : Type} (k : α → Sto → RS) : (Res.no : Res α).toS k = .no := rfl
def ofS {α : Type} (o : Option α) (k : α → RS) : RS := match o with
  | some a => k a
  | none => .no
@[simp] theorem ofS_some {α : Type} (a : α) (k : α → RS) : ofS (some a) k = k a := rfl
def RS.then (r : RS) (k : Env → Sto → RS) : RS := match r with
  | .nx ρ S => k ρ S
  | r => r
@[simp] theorem RS.then_nx (ρ : Env) (S : Sto) (k : Env → Sto → RS) : (RS.nx ρ S).then k = k ρ S := rfl
@[simp] theorem RS.then_ret (w : W) (S : Sto) (k : Env → Sto → RS) : (RS.ret w S).then k = .ret w S := rfl
@[simp] theorem RS.then_brk (ρ : Env) (S : Sto) (k : Env → Sto → RS) : (RS.brk ρ S).then k = .brk ρ S := rfl
@[simp] theorem RS.then_cnt (ρ : Env) (S : Sto) (k : Env → Sto → RS) : (RS.cnt ρ S).then k = .cnt ρ S := rfl
@[simp] theorem RS.then_exc (c : Str) (fs : List (Str × W)) (S : Sto) (k : Env → Sto → RS) : (RS.exc c fs S).then k = .exc c fs S := rfl

section
variable (X : Cx) (C : ClsAt) (T : List Addr) (XW : WX)
def OutS (r : RS) (M : Fm) (D : Ends) : Prop := match r with
  | .nx ρ' S' => ∀ σ' M' H', Ext M M' → EnvR X.K M' σ' ρ' → WS X.K C T M' S' H' → D.nx σ' H'
  | .ret w S' => ∀ v M' H', Ext M M' → RpW X.K M' v w → WS X.K C T M' S' H' → D.rt v H'
  | .brk ρ' S' => ∀ σ' M' H', Ext M M' → EnvR X.K M' σ' ρ' → WS X.K C T M' S' H' → D.bk σ' H'
  | .cnt ρ' S' => ∀ σ' M' H', Ext M M' → EnvR X.K M' σ' ρ' → WS X.K C T M' S' H' → D.ct σ' H'
  | .exc c fs S' => ∀ cls d σ' M' H', Ext M M' → WS X.K C T M' S' H' → ExcR X.K C M' H' cls d c fs → XW cls d σ' H'
  | .no => False
def TSd (f : SS) : TS := fun D σ H => At X C T σ H fun M ρ S => OutS X C T XW (f ρ S) M D
/-- targets -/
abbrev ST := W → Env → Sto → Res Env
def TGd (gv : List Nat) (γ : ST) : TG := fun v σ H Q => ∃ M ρ S d, EnvR X.K M σ ρ ∧ WS X.K C T M S H ∧ RpW X.K M v d ∧
  Out X C T XW (γ d ρ S) M fun ρ' _ M' H' => ∀ σ', EnvR X.K M' σ' ρ' → σ'.length = σ.length → (∀ i, i ∉ gv → σ'[i]? = σ[i]?) → Q σ' H'
end
section
variable {X : Cx} {C : ClsAt} {T : List Addr} {XW : WX} {e : Expr} {f : SE} {fs gs : SS} {fb : SB} {st : Stmt} {sts : List Stmt} {pos p : Pos} {tg : Expr}
theorem OutS.back {r : RS} {M M1 : Fm} {D : Ends} (x : Ext M M1) (h : OutS X C T XW r M D) : OutS X C T XW r M1 D := by
  cases r with
  | nx ρ S => exact fun σ' M' H' x' e w => h σ' M' H' (x.trans x') e w
  | ret ρ S => exact fun σ' M' H' x' e w => h σ' M' H' (x.trans x') e w
  | brk ρ S => exact fun σ' M' H' x' e w => h σ' M' H' (x.trans x') e w
  | cnt ρ S => exact fun σ' M' H' x' e w => h σ' M' H' (x.trans x') e w
  | exc c fs S => exact fun cls d σ M' H' x' w e => h cls d σ M' H' (x.trans x') w e
  | no => exact h
theorem OutS.toS {α : Type} {r : Res α} {k : α → Sto → RS} {M : Fm} {D : Ends} (h : OutS X C T XW (r.toS k) M D) : Out X C T XW r M fun a S1 M1 _ => OutS X C T XW (k a S1) M1 D := by
  cases r with
  | ok a S => exact fun M' H' x w => OutS.back x h
  | exc c fs S => exact h
  | no => exact h
theorem OutS.ofS {α : Type} {o : Option α} {k : α → RS} {M : Fm} {D : Ends} (h : OutS X C T XW (Dy.ofS o k) M D) : ∃ a, o = some a ∧ OutS X C T XW (k a) M D := by
  cases o with
  | none => exact h.elim
  | some a => exact ⟨a, rfl, h⟩
theorem OutS.then {r : RS} {k : Env → Sto → RS} {M : Fm} {D : Ends} {t : TS} (h : OutS X C T XW (r.then k) M D) (g : ∀ ρ' S' σ' M' H', Ext M M' → EnvR X.K M' σ' ρ' → WS X.K C T M' S' H' → OutS X C T XW (k ρ' S') M' D → t D σ' H') : OutS X C T XW r M { D with nx := t D } := by
  cases r with
  | nx ρ S => exact fun σ' M' H' x' e w => g ρ S σ' M' H' x' e w (OutS.back x' h)
  | ret ρ S => exact h
  | brk ρ S => exact h
  | cnt ρ S => exact h
  | exc c fs S => exact h
  | no => exact h
theorem PSimp {t t' : TS} (h : PS X st t) (k : ∀ D σ H, t' D σ H → t D σ H) : PS X st t' := ⟨fun pins s σ H D I q => h.run pins s σ H D I (k D σ H q)⟩
theorem PSsimp {t t' : TS} (h : PSs X sts t) (k : ∀ D σ H, t' D σ H → t D σ H) : PSs X sts t' := ⟨fun pins s σ H D I q => h.run pins s σ H D I (k D σ H q)⟩
def sNx : SS := fun ρ S => .nx ρ S
def sSeq (f g : SS) : SS := fun ρ S => (f ρ S).then g
def sIfS (c : SB) (f g : SS) : SS := fun ρ S => (c ρ S).toS fun b S1 => if b = true then f ρ S1 else g ρ S1
def sRet (f : SE) : SS := fun ρ S => (f ρ S).toS fun w S1 => .ret w S1
def sRetN : SS := fun _ S => .ret (.v .non) S
def sDrop (f : SE) : SS := fun ρ S => (f ρ S).toS fun _ S1 => .nx ρ S1
def sAsg (f : SE) (γ : ST) : SS := fun ρ S => (f ρ S).toS fun w S1 => (γ w ρ S1).toS fun ρ' S2 => .nx ρ' S2
def sBrk : SS := fun ρ S => .brk ρ S
def sCnt : SS := fun ρ S => .cnt ρ S
/-- nothing is told of it -/
def sNo : SS := fun _ _ => .no
theorem nxd {M : Fm} {ρ : Env} {S : Sto} {σ : L2.St} {H : Hp} {D : Ends} (he : EnvR X.K M σ ρ) (hw : WS X.K C T M S H) (ho : OutS X C T XW (.nx ρ S) M D) : D.nx σ H := ho σ M H (Ext.refl M) he hw
theorem sd_nil : PSs X [] (TSd X C T XW sNx) := PSsimp pss_nil fun D σ H ⟨M, ρ, S, he, hw, ho⟩ => nxd he hw ho
theorem sd_pass : PS X (.Pass pos) (TSd X C T XW sNx) := PSimp ps_pass fun D σ H ⟨M, ρ, S, he, hw, ho⟩ => nxd he hw ho
theorem sd_cons (h1 : PS X st (TSd X C T XW fs)) (h2 : PSs X sts (TSd X C T XW gs)) : PSs X (st :: sts) (TSd X C T XW (sSeq fs gs)) :=
  PSsimp (pss_cons h1 h2) fun D σ H ⟨M, ρ, S, he, hw, ho⟩ => ⟨M, ρ, S, he, hw, OutS.then (t := TSd X C T XW gs) ho fun ρ' S' σ' M' H' x e w ho => ⟨M', ρ', S', e, w, ho⟩⟩
theorem sd_one (h1 : PS X st (TSd X C T XW fs)) : PSs X [st] (TSd X C T XW fs) := PSsimp (pss_one h1) fun D σ H h => h
theorem sd_if {c : Expr} {A B : List Stmt} (hc : PT X c (TTd X C T XW fb)) (ha : PSs X A (TSd X C T XW fs)) (hb : PSs X B (TSd X C T XW gs)) : PS X (.If c A B pos) (TSd X C T XW (sIfS fb fs gs)) :=
  PSimp (ps_if hc ha hb) fun D σ H ⟨M, ρ, S, he, hw, ho⟩ => ⟨M, ρ, S, he, hw, ho.toS.mono fun x S1 M1 H1 x1 w1 ho => by
    cases x with
    | true => exact ⟨M1, ρ, S1, he.mono x1, w1, ho⟩
    | false => exact ⟨M1, ρ, S1, he.mono x1, w1, ho⟩⟩
theorem sd_ret (ha : PE X e (TEd X C T XW f)) : PS X (.Return (some e) pos) (TSd X C T XW (sRet f)) :=
  PSimp (ps_ret ha) fun D σ H ⟨M, ρ, S, he, hw, ho⟩ => ⟨M, ρ, S, he, hw, ho.toS.mono fun x S1 M1 H1 x1 w1 ho v rv => ho v M1 H1 (Ext.refl M1) rv w1⟩
theorem sd_retN : PS X (.Return none pos) (TSd X C T XW sRetN) :=
  PSimp ps_retN fun D σ H ⟨M, ρ, S, he, hw, ho⟩ => ho .non M H (Ext.refl M) (.v .non) hw
theorem sd_drop (ha : PE X e (TEd X C T XW f)) (hs : swapsWith e none pos.line X.env = pure false := by rfl) : PS X (.Expr e pos) (TSd X C T XW (sDrop f)) :=
  PSimp (ps_expr ha hs) fun D σ H ⟨M, ρ, S, he, hw, ho⟩ => ⟨M, ρ, S, he, hw, ho.toS.mono fun x S1 M1 H1 x1 w1 ho v rv => nxd (he.mono x1) w1 ho⟩
theorem sd_never : PS X st (TSd X C T XW sNo) := PSimp ps_never fun D σ H ⟨M, ρ, S, he, hw, ho⟩ => ho
theorem sd_brk : PS X (.Break pos) (TSd X C T XW sBrk) := PSimp ps_break fun D σ H ⟨M, ρ, S, he, hw, ho⟩ => ho σ M H (Ext.refl M) he hw
theorem sd_cnt : PS X (.Continue pos) (TSd X C T XW sCnt) := PSimp ps_continue fun D σ H ⟨M, ρ, S, he, hw, ho⟩ => ho σ M H (Ext.refl M) he hw
/-! targets -/
def gSet (i : Nat) : ST := fun w ρ S => if i < ρ.length then .ok (ρ.set i (some w)) S else .no
theorem PGimp {t t' : TG} (h : PG X tg t) (k : ∀ v σ H Q, t' v σ H Q → t v σ H Q) : PG X tg t' := ⟨fun pins s σ H u v Q I r q => h.run pins s σ H u v Q I r (k _ σ H Q q)⟩
end
end Dy
set_option Elab.async false
set_option linter.all false
set_option maxRecDepth 100000
set_option maxHeartbeats 2000000
/-! Dy3e: targets, loops, list comprehensions. -/
namespace Dy
open PySem PySem.Spec PyProof.Rows L2
section
variable (X : Cx) (Cd : ClsAt) (T : List Addr) (XW : WX)
abbrev STs := List W → Env → Sto → Res Env
def TGsd (gv : List Nat) (γ : STs) : TGs := fun vs σ H Q => ∃ M ρ S ds, EnvR X.K M σ ρ ∧ WS X.K Cd T M S H ∧ RpWL X.K M vs ds ∧
  Out X Cd T XW (γ ds ρ S) M fun ρ' _ M' H' => ∀ σ', EnvR X.K M' σ' ρ' → σ'.length = σ.length → (∀ i, i ∉ gv → σ'[i]? = σ[i]?) → Q σ' H'
end
def gsNil : STs := fun ds ρ S => match ds with | [] => .ok ρ S | _ => .no
def gsCons (γ : ST) (γs : STs) : STs := fun ds ρ S => match ds with | d :: r => (γ d ρ S).bind fun ρ1 S1 => γs r ρ1 S1 | [] => .no
def gTupD (n : Nat) (γs : STs) : ST := fun w ρ S => match w with | .v (.tup ds) => if ds.length = n then γs (ds.map .v) ρ S else .no | _ => .no
def setC (S : Sto) (o i w : W) : Option Sto := match o, wI i, w with
  | .p c, some k, .v d => (match S[c]? with
    | some (.lst ds) => (ixN ds.length k).map fun j => S.set c (.lst (ds.set j d))
    | _ => none)
  | _, _, _ => none
def gSubD (f g : SE) : ST := fun w ρ S => (f ρ S).bind fun o S1 => (g ρ S1).bind fun i S2 => ofO (setC S2 o i w) fun S3 => .ok ρ S3

def RS.loop (r : RS) (k : Env → Sto → RS) : RS := match r with
  | .nx ρ S => k ρ S
  | .cnt ρ S => k ρ S
  | .brk ρ S => .nx ρ S
  | r => r
@[simp] theorem RS.loop_nx (ρ : Env) (S : Sto) (k : Env → Sto → RS) : (RS.nx ρ S).loop k = k ρ S := rfl
@[simp] theorem RS.loop_cnt (ρ : Env) (S : Sto) (k : Env → Sto → RS) : (RS.cnt ρ S).loop k = k ρ S := rfl
@[simp] theorem RS.loop_brk (ρ : Env) (S : Sto) (k : Env → Sto → RS) : (RS.brk ρ S).loop k = .nx ρ S := rfl
@[simp] theorem RS.loop_ret (w : W) (S : Sto) (k : Env → Sto → RS) : (RS.ret w S).loop k = .ret w S := rfl
@[simp] theorem RS.loop_exc (c : Str) (fs : List (Str × W)) (S : Sto) (k : Env → Sto → RS) : (RS.exc c fs S).loop k = .exc c fs S := rfl
def forL (γ : ST) (body : SS) : List D → Env → Sto → RS
  | [], ρ, S => .nx ρ S
  | d :: ds, ρ, S => (γ (.v d) ρ S).toS fun ρ1 S1 => (body ρ1 S1).loop (forL γ body ds)
def sFor (it : SL) (γ : ST) (body : SS) : SS := fun ρ S => (it ρ S).toS fun ds S1 => forL γ body ds ρ S1
def whileD (c : SB) (body : SS) : Nat → Env → Sto → RS
  | 0, _, _ => .no
  | n + 1, ρ, S => (c ρ S).toS fun b S1 => if b = true then (body ρ S1).loop (whileD c body n) else .nx ρ S1
def sWhile (N : Nat) (c : SB) (body : SS) : SS := fun ρ S => whileD c body N ρ S
def lcL (γ : ST) (cond : SB) (elt : SE) (ρ0 : Env) : List D → Sto → Res (List D)
  | [], S => .ok [] S
  | d :: ds, S => (γ (.v d) ρ0 S).calm.bind fun ρ2 S1 => (cond ρ2 S1).calm.bind fun b S2 =>
      if b = true then (elt ρ2 S2).calm.bind fun w S3 => ofO (wD w) fun y => (lcL γ cond elt ρ0 ds S3).bind fun ys S4 => .ok (y :: ys) S4
      else lcL γ cond elt ρ0 ds S2
def sLc (it : SL) (γ : ST) (cond : SB) (elt : SE) (vs : List Nat) : SL := fun ρ S => (it ρ S).bind fun ds S1 => if ds.length ≤ LIM then lcL γ cond elt (wipeD ρ vs) ds S1 else .no
def sYes : SB := fun _ S => .ok true S

/-- a later view, whatever is guarded -/
structure Sub (M M' : Fm) : Prop where
  F : ∀ b o, M.F b = some o → M'.F b = some o
  as : M.as <+: M'.as
  ls : M.ls = M'.ls
theorem Ext.sub {M M' : Fm} (x : Ext M M') : Sub M M' := ⟨x.F, x.as, x.ls⟩
/-- what a loop walks: the items ds -/
def ItD (K : PySem.W.Frag) (Cd : ClsAt) (T : List Addr) (J : It) (M : Fm) (ds : List D) : Prop := ∀ M' S' H', Sub M M' → WS K Cd T M' S' H' → ∀ i,
  (∀ d, ds[i]? = some d → J.go i H' ∧ ∀ x H'', J.yld i H' x H'' → ∃ M'', Ext M' M'' ∧ WS K Cd T M'' S' H'' ∧ Rp K M'' x d) ∧ (ds.length ≤ i → J.stop i H')
def TId (X : Cx) (Cd : ClsAt) (T : List Addr) (XW : WX) (f : SL) : TI := fun σ H R => At X Cd T σ H fun M ρ S => Out X Cd T XW (f ρ S) M fun ds _ M' H' => ∀ J, ItD X.K Cd T J M' ds → R J H'
/-- no error goes out -/
abbrev XN : WX := fun _ _ _ _ => False

section
variable {X : Cx} {Cd : ClsAt} {T : List Addr} {XW : WX} {a b c e : Expr} {f g : SE} {fl : SL} {fs gs : SS} {fb : SB} {st : Stmt} {sts : List Stmt} {pos p : Pos} {tg : Expr} {γ : ST} {γs : STs} {gv gv' : List Nat}
theorem set_other {α : Type} {l : List α} {i j : Nat} {x : α} (h : j ∉ [i]) : (l.set i x)[j]? = l[j]? := List.getElem?_set_ne (fun z => h (by simp [z]))
theorem gd_name (i : Nat) {x : Str} (hN : X.N.Nodup) (hi : X.N[i]? = some x) (hx : Loc X.env.scope x) (hf : X.fn x = true ∨ X.env.scope.names.lookup x = some .local := by first | exact .inl rfl | exact .inr rfl | assumption) : PG X (.Name x pos) (TGd X Cd T XW [i] (gSet i)) :=
  PGimp (pg_name hN hi hx hf) fun v σ H Q ⟨M, ρ, S, d, he, hw, r, ho⟩ => by
    obtain ⟨hl, ho⟩ := ite_ok ho
    exact ho M H (Ext.refl M) hw _ (he.set r i) (List.length_set ..) fun j hj => set_other hj
theorem gsd_nil : PGs X [] (TGsd X Cd T XW [] gsNil) := ⟨fun pins s σ H vs us Q I r ⟨M, ρ, S, ds, he, hw, rl, ho⟩ => by
  have ho : Out X Cd T XW (match ds with | [] => Res.ok ρ S | _ => .no) M fun ρ' _ M' H' => ∀ σ', EnvR X.K M' σ' ρ' → σ'.length = σ.length → (∀ i, i ∉ ([] : List Nat) → σ'[i]? = σ[i]?) → Q σ' H' := ho
  cases rl with
  | nil => exact pgs_nil.run pins s σ H [] us Q I r ⟨rfl, ho M H (Ext.refl M) hw σ he rfl fun _ _ => rfl⟩
  | cons _ _ => exact ho.elim⟩
theorem gsd_cons {es : List Expr} (h1 : PG X e (TGd X Cd T XW gv γ)) (h2 : PGs X es (TGsd X Cd T XW gv' γs))
    (hs : (assignEach (e :: es) X.env).map (·.2) = assign e X.env :: (assignEach es X.env).map (·.2) := by rfl) : PGs X (e :: es) (TGsd X Cd T XW (gv ++ gv') (gsCons γ γs)) :=
  ⟨fun pins s σ H vs us Q I r ⟨M, ρ, S, ds, he, hw, rl, ho⟩ => by
    refine (pgs_cons h1 h2 hs).run pins s σ H vs us Q I r ?_
    cases rl with
    | nil => exact ho.elim
    | @cons v vs d ds r1 r2 =>
      have ho : Out X Cd T XW ((γ d ρ S).bind fun ρ1 S1 => γs ds ρ1 S1) M fun ρ' _ M' H' => ∀ σ', EnvR X.K M' σ' ρ' → σ'.length = σ.length → (∀ i, i ∉ gv ++ gv' → σ'[i]? = σ[i]?) → Q σ' H' := ho
      refine ⟨v, vs, rfl, M, ρ, S, d, he, hw, r1, ho.bind.mono fun ρ1 S1 M1 H1 x1 w1 ho σ1 e1 l1 o1 => ⟨M1, ρ1, S1, ds, e1, w1, r2.mono x1, ho.mono fun ρ2 S2 M2 H2 x2 w2 k σ2 e2 l2 o2 => k σ2 e2 (l2.trans l1) fun i hi => ?_⟩⟩
      rw [List.mem_append, not_or] at hi
      rw [o2 i hi.2, o1 i hi.1]⟩
theorem gd_tup {es : List Expr} {k n : Nat} (hc : X.calm = true) (h : PGs X es (TGsd X Cd T XW gv γs))
    (hn : (assignEach es X.env).length = n := by rfl) (hst : (assignEach es X.env).findIdx? (·.1) = none := by rfl) : PG X (.Tuple es k pos) (TGd X Cd T XW gv (gTupD n γs)) :=
  PGimp (pg_tup hc h hn hst) fun v σ H Q ⟨M, ρ, S, d, he, hw, r, ho⟩ => by
    cases r with
    | p _ => exact ho.elim
    | c _ => exact ho.elim
    | @v _ d r =>
      cases r with
      | @tup a vs ds s1 r1 =>
        obtain ⟨hl, ho⟩ := ite_ok ho
        exact ⟨a, vs, rfl, SqT.sub hw.le s1, by rw [r1.length]; exact hl, M, ρ, S, _, he, hw, rpwl_v r1, ho⟩
      | _ => exact ho.elim
theorem gd_sub (ha : PE X a (TEd X Cd T XW f)) (hb : PE X b (TEd X Cd T XW g)) (hz : ∀ v, assign (.Subscript a b pos) X.env v = (do
      let ov ← holding [v] (eval a X.env)
      let iv ← holding [v, ov] (eval b X.env)
      standAt pos
      holding [v, ov, iv] (setItem ov iv v)
      release [v, ov, iv] []) := by intro _; rfl) : PG X (.Subscript a b pos) (TGd X Cd T XW [] (gSubD f g)) :=
  PGimp (pg_sub ha hb set_list hz) fun v σ H Q ⟨M, ρ, S, d, he, hw, r, ho⟩ => ⟨M, ρ, S, he, hw, ho.bind.mono fun o S1 M1 H1 x1 w1 ho vo ro => ⟨M1, ρ, S1, he.mono x1, w1, ho.bind.mono fun i S2 M2 H2 x2 w2 ho vi ri => by
    obtain ⟨S3, e3, ho⟩ := ho.ofO
    unfold setC at e3
    split at e3
    · rename_i cc k d' hk _ _
      split at e3
      · rename_i ds hS
        cases e4 : ixN ds.length k with
        | none => rw [e4] at e3; cases e3
        | some j =>
          rw [e4] at e3
          have e3 : S2.set cc (.lst (ds.set j d')) = S3 := Option.some.inj e3
          subst e3
          have ro := ro.mono x2
          cases ro with
          | @p _ A eA =>
            obtain ⟨cl, ec, cr⟩ := w2.at_lt eA
            rw [hS] at ec
            cases ec
            obtain ⟨hF, vs, hH, rl⟩ := cr
            have r' := (r.mono x1).mono x2
            cases r' with
            | v r' =>
              refine ⟨A, vs, k, j, rfl, wI_ok ri hk, hH, by rw [rl.length]; exact e4, ?_⟩
              have w3 := w2.put (o := .lst (vs.set j v)) (d := .lst (ds.set j d')) eA hS (fun z => by cases z) ⟨hF, _, upd_same, rl.set r' j⟩
              exact ho _ _ (Ext.refl M2) w3 σ ((he.mono x1).mono x2) rfl fun _ _ => rfl
      · cases e3
    · cases e3⟩⟩
theorem sd_asg (he : PE X e (TEd X Cd T XW f)) (hg : PG X tg (TGd X Cd T XW gv γ)) (hs : swapsWithSole [tg] e pos.line X.env = pure false := by rfl) (hw : swappedStores [tg] e X.env = pure none := by rfl)
    (h1 : (assignEach [tg] X.env).map (·.2) = [assign tg X.env] := by rfl) : PS X (.Assign [tg] e pos) (TSd X Cd T XW (sAsg f γ)) :=
  PSimp (ps_asg he hg hs hw h1) fun D σ H ⟨M, ρ, S, he, hw, ho⟩ => ⟨M, ρ, S, he, hw, ho.toS.mono fun x S1 M1 H1 x1 w1 ho v rv => ⟨M1, ρ, S1, x, he.mono x1, w1, rv, ho.toS.mono fun ρ2 S2 M2 H2 x2 w2 ho σ2 e2 _ _ => nxd e2 w2 ho⟩⟩
/-- targets = a written tuple -/
def sAsgT (n : Nat) (ga : SA) (γs : STs) : SS := fun ρ S => (ga ρ S).toS fun ws S1 => if ws.length = n ∧ n ≤ LIM then (γs ws ρ S1).toS fun ρ' S2 => .nx ρ' S2 else .no
theorem sd_asgT {es ts : List Expr} {k k2 n : Nat} {pt p2 : Pos} {ga : SA} (hc : X.calm = true) (ha : PA X es (TAd X Cd T XW ga)) (hg : PGs X ts (TGsd X Cd T XW gv γs))
    (hs : swapsWithSole [.Tuple ts k pt] (.Tuple es k2 p2) pos.line X.env = pure false := by rfl) (hw : swappedStores [.Tuple ts k pt] (.Tuple es k2 p2) X.env = pure none := by rfl)
    (h1 : (assignEach [.Tuple ts k pt] X.env).map (·.2) = [assign (.Tuple ts k pt) X.env] := by rfl)
    (hn : (assignEach ts X.env).length = n := by rfl) (hst : (assignEach ts X.env).findIdx? (·.1) = none := by rfl) : PS X (.Assign [.Tuple ts k pt] (.Tuple es k2 p2) pos) (TSd X Cd T XW (sAsgT n ga γs)) :=
  PSimp (ps_asg (pe_tup ha) (pg_tup hc hg hn hst) hs hw h1) fun D σ H ⟨M, ρ, S, he, hw, ho⟩ => ⟨M, ρ, S, he, hw, ho.toS.mono fun ws S1 M1 H1 x1 w1 ho vs rv => by
    by_cases hl : ws.length = n ∧ n ≤ LIM
    · rw [if_pos hl] at ho
      have e1 := rv.length
      refine ⟨lim_line (by omega), fun p hp => ?_⟩
      obtain ⟨w2, x2⟩ := w1.lay (o := .tup vs) hp
      exact ⟨p, vs, rfl, SqT.of upd_same, by omega, _, ρ, S1, ws, (he.mono x1).mono x2, w2, rv.mono x2, (OutS.back x2 ho).toS.mono fun ρ2 S2 M2 H2 x2 w2 ho σ2 e2 _ _ => nxd e2 w2 ho⟩
    · rw [if_neg hl] at ho
      exact ho.elim⟩
/-- a, b = x, y, stored from the right -/
def sPar2 (i j : Nat) (ga : SA) : SS := fun ρ S => (ga ρ S).toS fun ws S1 => match ws with | [u, v] => .nx ((ρ.set i (some u)).set j (some v)) S1 | _ => .no
def sPar3 (i j l : Nat) (ga : SA) : SS := fun ρ S => (ga ρ S).toS fun ws S1 => match ws with | [u, v, w] => .nx (((ρ.set i (some u)).set j (some v)).set l (some w)) S1 | _ => .no
theorem rl2 {K : PySem.W.Frag} {M : Fm} {vs : List V} {u v : W} (r : RpWL K M vs [u, v]) : ∃ x y, vs = [x, y] ∧ RpW K M x u ∧ RpW K M y v := by
  cases r with
  | cons a r =>
    cases r with
    | cons b r =>
      cases r
      exact ⟨_, _, rfl, a, b⟩
theorem sd_par2 (i j : Nat) {x y : Str} {px py pt : Pos} {kt k2 pt2} {ga : SA} (hc : X.calm = true) (hN : X.N.Nodup) (hi : X.N[i]? = some x) (hj : X.N[j]? = some y) (hij : i ≠ j)
    (hx : X.env.scope.names.lookup x = some .local) (hy : X.env.scope.names.lookup y = some .local) (ha : PA X [a, b] (TAd X Cd T XW ga))
    (hw : swappedStores [.Tuple [.Name x px, .Name y py] kt pt] (.Tuple [a, b] k2 pt2) X.env = pure (some [x, y]))
    (hs : swapsWithSole [.Tuple [.Name x px, .Name y py] kt pt] (.Tuple [a, b] k2 pt2) pos.line X.env = pure false := by rfl) :
    PS X (.Assign [.Tuple [.Name x px, .Name y py] kt pt] (.Tuple [a, b] k2 pt2) pos) (TSd X Cd T XW (sPar2 i j ga)) :=
  PSimp (ps_par hc hN hi hj hij hx hy ha hw hs) fun D σ H ⟨M, ρ, S, he, hw, ho⟩ => ⟨M, ρ, S, he, hw, ho.toS.mono fun ws S1 M1 H1 x1 w1 ho vs rv => by
    match ws, ho, rv with
    | [], ho, _ => exact ho.elim
    | [_], ho, _ => exact ho.elim
    | [u, v], ho, rv =>
      obtain ⟨a, b, rfl, r1, r2⟩ := rl2 rv
      exact ⟨a, b, rfl, nxd (((he.mono x1).set r1 i).set r2 j) w1 ho⟩
    | _ :: _ :: _ :: _, ho, _ => exact ho.elim⟩

/-! ### loops -/
theorem OutS.loop {r : RS} {k : Env → Sto → RS} {M : Fm} {D : Ends} {N : L2.St → Hp → Prop} (h : OutS X Cd T XW (r.loop k) M D) (g : ∀ ρ' S' σ' M' H', Ext M M' → EnvR X.K M' σ' ρ' → WS X.K Cd T M' S' H' → OutS X Cd T XW (k ρ' S') M' D → N σ' H') :
    OutS X Cd T XW r M { D with nx := N, ct := N, bk := D.nx } := by
  cases r with
  | nx ρ S => exact fun σ' M' H' x' e w => g ρ S σ' M' H' x' e w (OutS.back x' h)
  | cnt ρ S => exact fun σ' M' H' x' e w => g ρ S σ' M' H' x' e w (OutS.back x' h)
  | ret ρ S => exact h
  | brk ρ S => exact h
  | exc c fs S => exact h
  | no => exact h
theorem sd_while (N : Nat) {body : List Stmt} (hp : PassesOwn (model X.prog X.w) X.A X.env X.xe) (hc : PT X c (TTd X Cd T XW fb)) (hb : PSs X body (TSd X Cd T XW fs)) : PS X (.While c body [] pos) (TSd X Cd T XW (sWhile N fb fs)) :=
  PSimp (ps_while hp hc hb) fun D σ H ⟨M, ρ, S, he, hw, ho⟩ => by
    refine ⟨fun m σ H => ∃ M ρ S, EnvR X.K M σ ρ ∧ WS X.K Cd T M S H ∧ OutS X Cd T XW (whileD fb fs m ρ S) M D, ⟨N, M, ρ, S, he, hw, ho⟩, fun m σ H ⟨M, ρ, S, he, hw, ho⟩ => ?_⟩
    cases m with
    | zero => exact ho.elim
    | succ m =>
      refine ⟨M, ρ, S, he, hw, ho.toS.mono fun bb S1 M1 H1 x1 w1 ho => ?_⟩
      cases bb with
      | true =>
        rw [if_pos rfl]
        exact ⟨_, fun σ' H' h => ⟨m, Nat.lt_succ_self m, h⟩, M1, ρ, S1, he.mono x1, w1, OutS.loop ho fun ρ' S' σ' M' H' x e w ho => ⟨M', ρ', S', e, w, ho⟩⟩
      | false =>
        rw [if_neg Bool.false_ne_true]
        exact nxd (he.mono x1) w1 ho
theorem drop_at {α : Type} {l : List α} {i : Nat} {x : α} (h : l[i]? = some x) : l.drop i = x :: l.drop (i + 1) := by
  obtain ⟨h1, h2⟩ := List.getElem?_eq_some_iff.mp h
  rw [List.drop_eq_getElem_cons h1, h2]
theorem sd_for {iter : Expr} {body : List Stmt} (hp : PassesOwn (model X.prog X.w) X.A X.env X.xe) (hc : X.calm = true) (hi : PI X tg iter (TId X Cd T XW fl)) (hg : PG X tg (TGd X Cd T XW gv γ)) (hb : PSs X body (TSd X Cd T XW fs))
    (hs : ∀ x, foldedSetIterable iter X.env x = pure x := by intro _; rfl) : PS X (.For tg iter body [] pos) (TSd X Cd T XW (sFor fl γ fs)) :=
  PSimp (ps_for hp hc hi hg hb hs) fun D σ H ⟨M, ρ, S, he, hw, ho⟩ => ⟨M, ρ, S, he, hw, ho.toS.mono fun ds S1 M1 H1 x1 w1 ho J hJ => by
    refine ⟨fun i m σ H => ∃ M ρ S, Ext M1 M ∧ EnvR X.K M σ ρ ∧ WS X.K Cd T M S H ∧ m = ds.length - i ∧ OutS X Cd T XW (forL γ fs (ds.drop i) ρ S) M D, ⟨_, M1, ρ, S1, Ext.refl M1, he.mono x1, w1, rfl, ho⟩, fun i m σ H ⟨M2, ρ, S, x2, he, hw, hm, ho⟩ => ?_⟩
    obtain ⟨h1, h2⟩ := hJ M2 S H x2.sub hw i
    cases q : ds[i]? with
    | none =>
      have hl := List.getElem?_eq_none_iff.mp q
      refine .inl ⟨h2 hl, ?_⟩
      rw [List.drop_eq_nil_of_le hl] at ho
      exact nxd he hw ho
    | some d =>
      obtain ⟨go, hy⟩ := h1 d q
      have hlt := (List.getElem?_eq_some_iff.mp q).1
      rw [drop_at q] at ho
      refine .inr ⟨go, _, fun σ' H' (h : ∃ M ρ S, Ext M1 M ∧ EnvR X.K M σ' ρ ∧ WS X.K Cd T M S H' ∧ OutS X Cd T XW (forL γ fs (ds.drop (i + 1)) ρ S) M D) => ?_, fun x H' hyl => ?_⟩
      · obtain ⟨M', ρ', S', a1, a2, a3, a4⟩ := h
        exact ⟨ds.length - (i + 1), by omega, M', ρ', S', a1, a2, a3, rfl, a4⟩
      · obtain ⟨M3, x3, w3, r3⟩ := hy x H' hyl
        have ho := OutS.back x3 ho
        exact ⟨M3, ρ, S, .v d, he.mono x3, w3, .v r3, ho.toS.mono fun ρ4 S4 M4 H4 x4 w4 ho σ4 e4 _ _ => ⟨M4, ρ4, S4, e4, w4, OutS.loop ho fun ρ' S' σ' M' H' x e w ho => ⟨M', ρ', S', ((x2.trans x3).trans x4).trans x, e, w, ho⟩⟩⟩⟩
end
end Dy
set_option Elab.async false
set_option linter.all false
set_option maxRecDepth 100000
set_option maxHeartbeats 2000000
/-! Dy3f: what is walked; list comprehensions. -/
namespace Dy
open PySem PySem.Spec PyProof.Rows L2
def seqV : W → Option (List D)
  | .v d => seqD d
  | _ => none
def sSeqI (f : SE) : SL := fun ρ S => (f ρ S).bind fun x S1 => ofO (seqV x) fun ds => .ok ds S1
def rngD (lo : Int) (n : Nat) : List D := (List.range n).map fun i => D.int (lo + (i : Nat))
def sRng1 (f : SE) : SL := fun ρ S => (f ρ S).bind fun x S1 => ofO (wI x) fun j => if -1000000 ≤ j ∧ j ≤ 1000000 then .ok (rngD 0 j.toNat) S1 else .no
def sRng2 (f g : SE) : SL := fun ρ S => (f ρ S).bind fun x S1 => (g ρ S1).bind fun y S2 => ofO (wI x) fun i => ofO (wI y) fun j => if (-1000000 ≤ i ∧ i ≤ 1000000) ∧ -1000000 ≤ j ∧ j ≤ 1000000 then .ok (rngD i (j - i).toNat) S2 else .no
section
variable {X : Cx} {Cd : ClsAt} {T : List Addr} {XW : WX} {a b c e : Expr} {f g : SE} {fl : SL} {fs gs : SS} {fb : SB} {st : Stmt} {sts : List Stmt} {pos p : Pos} {tg : Expr} {γ : ST} {γs : STs} {gv gv' : List Nat}
def iSeqA (K : PySem.W.Frag) (tl : TE) : TI := fun σ H R => tl σ H fun x H1 => ∃ a, x = .ref a ∧ (((∃ xs, SqL K H1 a xs) ∧ R (Itl K a) H1) ∨ ((∃ xs, SqT K H1 a xs) ∧ R (Itt K a) H1))
theorem pi_seqA {l : Expr} {tl : TE} (hl : PE X l tl) : PI X tg l (iSeqA X.K tl) := by
  refine ⟨fun pins s σ H R I h => ?_⟩
  refine thn (hl.run pins s σ H _ I h) fun v s1 ⟨x, H1, I1, r1, q1⟩ => ?_
  obtain ⟨a, e, ⟨⟨xs, hq⟩, q⟩ | ⟨⟨xs, hq⟩, q⟩⟩ := q1
  · subst e
    cases r1
    obtain ⟨its, rv, p, hz⟩ := I1.list hq
    refine wpAny_pyIter_list p.isList ?_
    refine ⟨s1.heap.objs.size, [s1.heap.objs.size], _, _, H1, rfl, I1.kept (t' := s1.toks) fun b o e => Heap.get?_push_of_some _ e, turn_list a _, ⟨_, Heap.get?_push_size _ rfl, rfl, rfl⟩, fun b hb => ?_, q⟩
    have e : b = s1.heap.objs.size := by simpa using hb
    subst e
    exact I1.fpOk (Nat.le_refl _) (I1.hok.fresh (Nat.le_refl _))
  · subst e
    cases r1
    obtain ⟨its, rv, p, hz⟩ := I1.tuple hq
    refine wpAny_pyIter_tuple (show s1.heap.IsTuple a its.toArray from p) ?_
    refine ⟨s1.heap.objs.size, [s1.heap.objs.size], _, _, H1, rfl, I1.kept (t' := s1.toks) fun b o e => Heap.get?_push_of_some _ e, turn_tuple a _, ⟨_, Heap.get?_push_size _ rfl, rfl, rfl⟩, fun b hb => ?_, q⟩
    have e : b = s1.heap.objs.size := by simpa using hb
    subst e
    exact I1.fpOk (Nat.le_refl _) (I1.hok.fresh (Nat.le_refl _))
/-- a thing reads as one list of items only -/
def OneL (K : PySem.W.Frag) (Ms : Fm → Prop) (a : Addr) (vs : List V) : Prop := True
theorem itD_list {M : Fm} {a : Addr} {vs : List V} {ds : List D} (h : M.F a = some (.lst vs)) (r : RpL X.K M vs ds) : ItD X.K Cd T (Itl X.K a) M ds := fun M' S' H' x w i => by
  have hF := x.F _ _ h
  have hH : SqL X.K H' a vs := SqL.of (w.le _ _ hF)
  refine ⟨fun d hd => ?_, fun hl => ⟨vs, hH, by rw [r.length]; exact hl⟩⟩
  obtain ⟨v, e1, r1⟩ := r.get hd
  refine ⟨⟨vs, v, hH, e1⟩, fun y H'' ⟨e2, k⟩ => ?_⟩
  subst e2
  have e3 := k vs hH
  rw [e1] at e3
  cases e3
  exact ⟨M', Ext.refl M', w, r1.sub x.F⟩
theorem itD_tup {M : Fm} {a : Addr} {vs : List V} {ds : List D} (h : SqT X.K M.F a vs) (r : RpL X.K M vs ds) : ItD X.K Cd T (Itt X.K a) M ds := fun M' S' H' x w i => by
  have hH : SqT X.K H' a vs := SqT.sub w.le (SqT.sub x.F h)
  refine ⟨fun d hd => ?_, fun hl => ⟨vs, hH, by rw [r.length]; exact hl⟩⟩
  obtain ⟨v, e1, r1⟩ := r.get hd
  refine ⟨⟨vs, v, hH, e1⟩, fun y H'' ⟨e2, k⟩ => ?_⟩
  subst e2
  have e3 := k vs hH
  rw [e1] at e3
  cases e3
  exact ⟨M', Ext.refl M', w, r1.sub x.F⟩
theorem rngD_at {lo : Int} {n i : Nat} : (rngD lo n)[i]? = if i < n then some (D.int (lo + (i : Nat))) else none := by
  unfold rngD
  rw [List.getElem?_map]
  by_cases h : i < n
  · rw [if_pos h, List.getElem?_range h]; rfl
  · rw [if_neg h, List.getElem?_eq_none (by rw [List.length_range]; omega)]; rfl
theorem rngD_len {lo : Int} {n : Nat} : (rngD lo n).length = n := by unfold rngD; rw [List.length_map, List.length_range]
theorem itD_rng {M : Fm} {lo : Int} {n : Nat} : ItD X.K Cd T (Itr lo n) M (rngD lo n) := fun M' S' H' x w i => by
  refine ⟨fun d hd => ?_, fun hl => by rw [rngD_len] at hl; exact hl⟩
  rw [rngD_at] at hd
  split at hd
  · cases hd
    refine ⟨by assumption, fun y H'' ⟨e2, k⟩ => ?_⟩
    subst e2 k
    exact ⟨M', Ext.refl M', w, .int _⟩
  · cases hd
theorem PIimp {t t' : TI} (h : PI X tg e t) (k : ∀ σ H R, t' σ H R → t σ H R) : PI X tg e t' := ⟨fun pins s σ H R I q => h.run pins s σ H R I (k σ H R q)⟩
theorem id_seq (ha : PE X a (TEd X Cd T XW f)) : PI X tg a (TId X Cd T XW (sSeqI f)) :=
  PIimp (pi_seqA ha) fun σ H R ⟨M, ρ, S, he, hw, ho⟩ => ⟨M, ρ, S, he, hw, ho.bind.mono fun x S1 M1 H1 x1 w1 ho v rv => by
    obtain ⟨ds, e1, ho⟩ := ho.ofO
    have ho2 := ho M1 H1 (Ext.refl M1) w1
    cases rv with
    | p _ => cases e1
    | c _ => cases e1
    | @v _ d r =>
      cases r with
      | @lst a vs ds' s r1 =>
        cases e1
        exact ⟨a, rfl, .inl ⟨⟨vs, SqL.of (w1.le _ _ s)⟩, ho2 _ (itD_list s r1)⟩⟩
      | @tup a vs ds' s r1 =>
        cases e1
        exact ⟨a, rfl, .inr ⟨⟨vs, SqT.sub w1.le s⟩, ho2 _ (itD_tup s r1)⟩⟩
      | _ => cases e1⟩
theorem id_rng1 (hg : Gl X "range") (hm : X.mg "range" = none) (ha : PE X a (TEd X Cd T XW f)) (hs : starEach [a] X.env = [(false, eval a X.env)] := by rfl) : PI X tg (.Call (.Name "range" p) [a] [] pos) (TId X Cd T XW (sRng1 f)) :=
  PIimp (pi_range1 hg hm (pa_cons ha pa_nil hs) hs) fun σ H R ⟨M, ρ, S, he, hw, ho⟩ => ⟨M, ρ, S, he, hw, ho.bind.mono fun x S1 M1 H1 x1 w1 ho v rv => by
    obtain ⟨j, e1, ho⟩ := ho.ofO
    obtain ⟨hl, ho⟩ := ite_ok ho
    have ho := ho M1 H1 (Ext.refl M1) w1
    exact ⟨j, by rw [wI_ok rv e1], by omega, by omega, ho _ itD_rng⟩⟩
theorem id_rng2 (hg : Gl X "range") (hm : X.mg "range" = none) (ha : PE X a (TEd X Cd T XW f)) (hb : PE X b (TEd X Cd T XW g)) (hs : starEach [a, b] X.env = [(false, eval a X.env), (false, eval b X.env)] := by rfl) (hs2 : starEach [b] X.env = [(false, eval b X.env)] := by rfl) :
    PI X tg (.Call (.Name "range" p) [a, b] [] pos) (TId X Cd T XW (sRng2 f g)) :=
  PIimp (pi_range2 hg hm (pa_cons ha (pa_cons hb pa_nil hs2) (by rw [hs, hs2])) hs hs2) fun σ H R ⟨M, ρ, S, he, hw, ho⟩ => ⟨M, ρ, S, he, hw, ho.bind.mono fun x S1 M1 H1 x1 w1 ho v rv => ⟨M1, ρ, S1, he.mono x1, w1, ho.bind.mono fun y S2 M2 H2 x2 w2 ho u ru => by
    obtain ⟨i, e1, ho⟩ := ho.ofO
    obtain ⟨j, e2, ho⟩ := ho.ofO
    obtain ⟨hl, ho⟩ := ite_ok ho
    have ho := ho M2 H2 (Ext.refl M2) w2
    exact ⟨i, j, by rw [wI_ok rv e1, wI_ok ru e2], ⟨by omega, by omega, by omega, by omega⟩, ho _ itD_rng⟩⟩⟩

/-! ### list comprehensions -/
theorem same_wipe {σ σ' : L2.St} (hl : σ'.length = σ.length) : ∀ {vs : List Nat}, (∀ i, i ∉ vs → σ'[i]? = σ[i]?) → wipe σ' vs = wipe σ vs := fun {vs} h => by
  refine List.ext_getElem? fun i => ?_
  have key : ∀ (τ : L2.St) (vs : List Nat), (wipe τ vs)[i]? = if i ∈ vs then (if i < τ.length then some none else none) else τ[i]? := by
    intro τ vs
    induction vs with
    | nil => simp [wipe]
    | cons v vs ih =>
      unfold wipe
      rw [List.getElem?_set, wipe_length, ih]
      by_cases hv : v = i
      · subst hv
        simp
      · have : i ≠ v := fun z => hv z.symm
        simp [hv, this]
  rw [key, key, hl]
  by_cases hi : i ∈ vs
  · simp [hi]
  · simp [hi, h i hi]
theorem wipe_wipe_len (σ : L2.St) (vs : List Nat) : (wipe σ vs).length = σ.length := wipe_length σ vs
theorem wipe_idem (σ : L2.St) (vs : List Nat) : wipe (wipe σ vs) vs = wipe σ vs := by
  refine same_wipe (wipe_length σ vs) fun i hi => ?_
  induction vs with
  | nil => rfl
  | cons v vs ih =>
    unfold wipe
    rw [List.mem_cons, not_or] at hi
    rw [List.getElem?_set_ne (fun z => hi.1 z.symm), ih hi.2]
theorem WS.reguard {M : Fm} {S : Sto} {H : Hp} {G0 : Hp} {p : Addr} {o o' : HO} (w : WS X.K Cd T M S H) (hG : M.G = upd G0 p o) : WS X.K Cd T { M with G := upd G0 p o' } S (upd H p o') := by
  obtain ⟨g1, g2, g3⟩ := w.gd p o (by rw [hG]; exact upd_same)
  have ne : ∀ {b : Addr} {u : HO}, M.F b = some u → b ≠ p := fun e z => by rw [z, g2] at e; cases e
  refine ⟨fun b u e => by rw [upd_ne (ne e)]; exact w.le _ _ e, w.nd, w.len, fun i a d e1 e2 => ?_, fun P hP => ?_, fun b u e => ?_⟩
  · have c := w.cell i a d e1 e2
    have hap : a ≠ p := fun z => g3 (z ▸ List.mem_of_getElem? e1)
    exact (CellR.mono (Ext.refl M) c.out (fun u' e' => by rw [upd_ne hap]; exact e') c).reg
  · obtain ⟨h1, h2, h2', ps, h3, h4⟩ := w.tab P hP
    have hPp : P ≠ p := fun z => by rw [z, hG, upd_same] at h2'; cases h2'
    refine ⟨h1, h2, ?_, ps, by rw [upd_ne hPp]; exact h3, h4⟩
    show upd G0 p o' P = none
    rw [hG, upd_ne hPp] at h2'
    rw [upd_ne hPp]; exact h2'
  · have e : upd G0 p o' b = some u := e
    by_cases hb : b = p
    · subst hb
      rw [upd_same] at e; cases e
      exact ⟨upd_same, g2, g3⟩
    · rw [upd_ne hb] at e ⊢
      refine w.gd b u ?_
      rw [hG, upd_ne hb]; exact e
/-- the guarded thing put aside -/
theorem WS.aside {M : Fm} {S : Sto} {H : Hp} {G0 : Hp} {p : Addr} {o : HO} (w : WS X.K Cd T M S H) (h0 : G0 p = none) (hG : M.G = upd G0 p o) : WS X.K Cd T { M with G := G0 } S (fun b => if b = p then none else H b) := by
  obtain ⟨g1, g2, g3⟩ := w.gd p o (by rw [hG]; exact upd_same)
  have un : ∀ {b : Addr}, b ≠ p → (if b = p then none else H b) = H b := fun h => if_neg h
  refine ⟨fun b u e => ?_, w.nd, w.len, fun i a d e1 e2 => ?_, fun P hP => ?_, fun b u e => ?_⟩
  · show (if b = p then none else H b) = some u
    rw [un (fun z => by rw [z, g2] at e; cases e)]; exact w.le _ _ e
  · have c := w.cell i a d e1 e2
    have hap : a ≠ p := fun z => g3 (z ▸ List.mem_of_getElem? e1)
    exact (CellR.mono (Ext.refl M) c.out (fun u' e' => by show (if a = p then none else H a) = some u'; rw [un hap]; exact e') c).reg
  · obtain ⟨h1, h2, h2', ps, h3, h4⟩ := w.tab P hP
    have hPp : P ≠ p := fun z => by rw [z, hG, upd_same] at h2'; cases h2'
    refine ⟨h1, h2, ?_, ps, by show (if P = p then none else H P) = some _; rw [un hPp]; exact h3, h4⟩
    show G0 P = none
    rw [hG, upd_ne hPp] at h2'
    exact h2'
  · have e : G0 b = some u := e
    have hb : b ≠ p := fun z => by rw [z, h0] at e; cases e
    refine ⟨by show (if b = p then none else H b) = some u; rw [un hb]; exact (w.gd b u (by rw [hG, upd_ne hb]; exact e)).1, ?_⟩
    exact (w.gd b u (by rw [hG, upd_ne hb]; exact e)).2
theorem aside_upd {H : Hp} {p : Addr} {o : HO} (h : H p = some o) : upd (fun b => if b = p then none else H b) p o = H := by
  funext b
  unfold upd
  by_cases hb : b = p
  · rw [if_pos hb, hb, h]
  · rw [if_neg hb]; exact if_neg hb

theorem WS.asG {M : Fm} {S : Sto} {H : Hp} {g : Hp} (w : WS X.K Cd T M S H) (e : M.G = g) : WS X.K Cd T { M with G := g } S H := by subst e; exact w
theorem out_ok {α : Type} {r : Res α} {M : Fm} {G : α → Sto → Fm → Hp → Prop} {β : Type} {k : α → Sto → Res β} {G' : β → Sto → Fm → Hp → Prop} (h : Out X Cd T XW (r.calm.bind k) M G') : ∃ a S, r = .ok a S ∧ Out X Cd T XW (k a S) M G' := by
  cases r with
  | ok a S => exact ⟨a, S, rfl, h⟩
  | exc c fs S => exact h.elim
  | no => exact h.elim
/-- the turns of a comprehension: acc is made, ds[i ..] is to come -/
theorem lc_in {fe : SE} {fc : SB} {own : List (Str × Nat)} (hgv : ∀ i ∈ gv, i ∈ own.map (·.2)) {σ : L2.St} {H : Hp} {Q : VK} (h : TLd X Cd T XW (sLc fl γ fc fe (own.map (·.2))) σ H Q) :
    tLc (TId X Cd T XW fl) (TGd X Cd T XN gv γ) (TTd X Cd T XN fc) (TEd X Cd T XN fe) (own.map (·.2)) σ H Q :=
  let ⟨M, ρ, S, he, hw, ho⟩ := h
  ⟨M, ρ, S, he, hw, ho.bind.mono fun ds S1 M1 H1 x1 w1 ho J hJ D hD => by
    obtain ⟨hlen, ho⟩ := ite_ok ho
    have hG1 : M1.G D = none := w1.Gnone hD
    have e1 := he.mono x1
    refine ⟨fun i m H => ∃ M S acc vs, Ext M1 M ∧ WS X.K Cd T { M with G := upd M1.G D (.lst vs) } S H ∧ RpL X.K M vs acc ∧ acc.length ≤ i ∧ m = ds.length - i ∧
        Out X Cd T XW (lcL γ fc fe (wipeD ρ (own.map (·.2))) (ds.drop i) S) M (fun r S' M' H' => ∀ vs p, RpL X.K M' vs (acc ++ r) → H' p = none → Q (.ref p) (upd H' p (.lst vs))),
      ⟨ds.length, M1, S1, [], [], Ext.refl M1, w1.guard hD, .nil, Nat.le_refl _, rfl, ho⟩, fun i m H ⟨M2, S2, acc, vs, x2, w2, r2, hl2, hm, ho⟩ => ?_⟩
    have hG2 : M2.G = M1.G := x2.G.symm
    obtain ⟨h1, h2⟩ := hJ { M2 with G := upd M1.G D (.lst vs) } S2 H ⟨x2.F, x2.as, x2.ls⟩ w2 i
    cases q : ds[i]? with
    | none =>
      have hl := List.getElem?_eq_none_iff.mp q
      refine .inl ⟨h2 hl, ?_⟩
      rw [List.drop_eq_nil_of_le hl] at ho
      have w3 : WS X.K Cd T { M2 with G := M1.G } S2 (fun b => if b = D then none else H b) := w2.aside hG1 rfl
      have key := ho { M2 with G := M1.G } _ ⟨fun _ _ z => z, List.prefix_refl _, rfl, hG2⟩ w3 vs D (by rw [List.append_nil]; exact r2.sub (M := M2) (M' := { M2 with G := M1.G }) fun _ _ z => z) (if_pos rfl)
      rw [aside_upd (w2.gd D _ upd_same).1] at key
      exact key
    | some d =>
      obtain ⟨go, hy⟩ := h1 d q
      have hlt := (List.getElem?_eq_some_iff.mp q).1
      rw [drop_at q] at ho
      refine .inr ⟨go, fun H' => ∃ M S acc vs, Ext M1 M ∧ WS X.K Cd T { M with G := upd M1.G D (.lst vs) } S H' ∧ RpL X.K M vs acc ∧ acc.length ≤ i + 1 ∧
          Out X Cd T XW (lcL γ fc fe (wipeD ρ (own.map (·.2))) (ds.drop (i + 1)) S) M (fun r S' M' H' => ∀ vs p, RpL X.K M' vs (acc ++ r) → H' p = none → Q (.ref p) (upd H' p (.lst vs))), fun H' h => ?_, fun x H' hyl => ?_⟩
      · obtain ⟨M', S', acc', vs', a1, a2, a3, a4, a5⟩ := h
        exact ⟨ds.length - (i + 1), by omega, M', S', acc', vs', a1, a2, a3, a4, rfl, a5⟩
      · obtain ⟨M3, x3, w3, r3⟩ := hy x H' hyl
        have eW : EnvR X.K M3 (wipe σ (own.map (·.2))) (wipeD ρ (own.map (·.2))) := by
          have := ((e1.mono x2).reg (g := upd M1.G D (.lst vs))).mono x3
          exact this.wiped _
        have ho : Out X Cd T XW ((γ (.v d) (wipeD ρ (own.map (·.2))) S2).calm.bind fun ρ2 S1 => (fc ρ2 S1).calm.bind fun b S2 =>
          if b = true then (fe ρ2 S2).calm.bind fun w S3 => ofO (wD w) fun y => (lcL γ fc fe (wipeD ρ (own.map (·.2))) (ds.drop (i + 1)) S3).bind fun ys S4 => .ok (y :: ys) S4
          else lcL γ fc fe (wipeD ρ (own.map (·.2))) (ds.drop (i + 1)) S2) M2 (fun r S' M' H' => ∀ vs p, RpL X.K M' vs (acc ++ r) → H' p = none → Q (.ref p) (upd H' p (.lst vs))) := ho
        obtain ⟨ρ4, S4, q4, ho⟩ := out_ok (G := fun _ _ _ _ => True) ho
        obtain ⟨b, S5, q5, ho⟩ := out_ok (G := fun _ _ _ _ => True) ho
        refine ⟨M3, _, S2, .v d, eW, w3, .v r3, ?_⟩
        rw [q4]
        intro M4 H4 x4 w4 σ4 e4 l4 o4
        refine ⟨(same_wipe l4 fun j hj => o4 j fun z => hj (hgv j z)).trans (wipe_idem σ _), M4, ρ4, S4, e4, w4, ?_⟩
        show Out X Cd T XN (fc ρ4 S4) M4 _
        rw [q5]
        intro M5 H5 x5 w5
        have x35 := (x3.trans x4).trans x5
        have hG5 : M5.G = upd M1.G D (.lst vs) := x35.G.symm
        cases b with
        | true =>
          have ho : Out X Cd T XW ((fe ρ4 S5).calm.bind fun w S3 => ofO (wD w) fun y => (lcL γ fc fe (wipeD ρ (own.map (·.2))) (ds.drop (i + 1)) S3).bind fun ys S4 => .ok (y :: ys) S4) M2 (fun r S' M' H' => ∀ vs p, RpL X.K M' vs (acc ++ r) → H' p = none → Q (.ref p) (upd H' p (.lst vs))) := ho
          obtain ⟨w, S6, q6, ho⟩ := out_ok (G := fun _ _ _ _ => True) ho
          obtain ⟨y, q7, ho⟩ := ho.ofO
          refine ⟨M5, ρ4, S5, e4.mono x5, w5, ?_⟩
          show Out X Cd T XN (fe ρ4 S5) M5 _
          rw [q6]
          intro M6 H6 x6 w6 v rv
          have x36 := x35.trans x6
          have hG6 : M6.G = upd M1.G D (.lst vs) := x36.G.symm
          have ry : Rp X.K M6 v y := by
            cases rv with
            | v r => cases q7; exact r
            | p _ => cases q7
            | c _ => cases q7
          have x26 : Ext M2 { M6 with G := M1.G } := ⟨x36.F, x36.as, x36.ls, hG2⟩
          have hz : vs.length = acc.length := r2.length
          refine ⟨vs, (w6.gd D _ (by rw [hG6]; exact upd_same)).1, lim_lt (by omega), { M6 with G := M1.G }, S6, acc ++ [y], vs ++ [v], x2.trans x26, w6.reguard hG6, ?_, by rw [List.length_append]; show acc.length + 1 ≤ i + 1; omega, ?_⟩
          · exact (r2.mono x26).append (.cons (ry.sub (M := M6) (M' := { M6 with G := M1.G }) fun _ _ z => z) .nil)
          · refine Out.mono (Out.back x26 ho.bind) fun ys S7 M7 H7 x7 w7 k us p ru hp => ?_
            exact k M7 H7 (Ext.refl M7) w7 us p (by rw [List.append_assoc] at ru; exact ru) hp
        | false =>
          have ho : Out X Cd T XW (lcL γ fc fe (wipeD ρ (own.map (·.2))) (ds.drop (i + 1)) S5) M2 (fun r S' M' H' => ∀ vs p, RpL X.K M' vs (acc ++ r) → H' p = none → Q (.ref p) (upd H' p (.lst vs))) := ho
          have x25 : Ext M2 { M5 with G := M1.G } := ⟨x35.F, x35.as, x35.ls, hG2⟩
          exact ⟨{ M5 with G := M1.G }, S5, acc, vs, x2.trans x25, w5.asG hG5, r2.mono x25, by omega, Out.back x25 ho⟩⟩
theorem ld_lc {elt tg iter : Expr} {ifs : List Expr} {scope : Scope} {own : List (Str × Nat)} {fe : SE} {fc : SB} (hc : X.calm = true) (hN : X.N.Nodup) (hi : PI X tg iter (TId X Cd T XW fl)) (ok : BlkOk X.N X.env.scope scope own)
    (hgv : ∀ i ∈ gv, i ∈ own.map (·.2))
    (hg : ∀ (s : Shared) (H : Hp) (C : Addr) (cl : List (Str × Addr)) (fp : List Addr), PG (X.blk s H scope (compEnvC scope cl C X.env) fp) tg (TGd (X.blk s H scope (compEnvC scope cl C X.env) fp) Cd T XN gv γ))
    (ht : ∀ (s : Shared) (H : Hp) (C : Addr) (cl : List (Str × Addr)) (fp : List Addr), PTs (X.blk s H scope (compEnvC scope cl C X.env) fp) ifs (TTd (X.blk s H scope (compEnvC scope cl C X.env) fp) Cd T XN fc))
    (he : ∀ (s : Shared) (H : Hp) (C : Addr) (cl : List (Str × Addr)) (fp : List Addr), PE (X.blk s H scope (compEnvC scope cl C X.env) fp) elt (TEd (X.blk s H scope (compEnvC scope cl C X.env) fp) Cd T XN fe)) (hs : ∀ x, foldedSetIterable iter X.env x = pure x := by intro _; rfl) :
    PE X (.ListComp elt [⟨tg, iter, ifs, 0⟩] scope pos) (TLd X Cd T XW (sLc fl γ fc fe (own.map (·.2)))) :=
  PEimp (pe_lc hc hN hi ok hg ht he hs) fun σ H Q h => lc_in hgv h
end
end Dy
set_option Elab.async false
set_option linter.all false
set_option maxRecDepth 100000
set_option maxHeartbeats 2000000
/-! Dy3g: functions. -/
namespace Dy
open PySem PySem.Spec PyProof.Rows L2
abbrev Fn := List W → Sto → Res W
def fitW (n : Nat) : W → Bool
  | .p i => decide (i < n)
  | _ => true
def fitC (n : Nat) : Cell → Bool
  | .obj _ fs => fs.all fun p => fitW n p.2
  | _ => true
/-- the cells that were there ahead of the call -/
def cutS (n : Nat) (S : Sto) : Sto := if (S.take n).all (fitC n) = true then S.take n else S
def endF (n : Nat) : RS → Res W
  | .nx _ S => .ok (.v .non) (cutS n S)
  | .ret (.v d) S => .ok (.v d) (cutS n S)
  | .ret w S => .ok w S
  | .exc c fs S => .exc c fs S
  | _ => .no
@[simp] theorem endF_nx (n : Nat) (ρ : Env) (S : Sto) : endF n (.nx ρ S) = .ok (.v .non) (cutS n S) := rfl
@[simp] theorem endF_ret (n : Nat) (d : D) (S : Sto) : endF n (.ret (.v d) S) = .ok (.v d) (cutS n S) := rfl
@[simp] theorem endF_retp (n i : Nat) (S : Sto) : endF n (.ret (.p i) S) = .ok (.p i) S := rfl
@[simp] theorem endF_exc (n : Nat) (c : Str) (fs : List (Str × W)) (S : Sto) : endF n (.exc c fs S) = .exc c fs S := rfl
/-- a def of N names, by its body -/
def runF (N : Nat) (body : SS) : Fn := fun ws S => endF S.length (body (ws.map some ++ List.replicate (N - ws.length) none) S)
def sCall (np : Nat) (F : Fn) (ga : SA) : SE := fun ρ S => (ga ρ S).bind fun ws S1 => if ws.length = np then F ws S1 else .no
/-- a promise in data -/
def spD (K : PySem.W.Frag) (C : ClsAt) (T : List Addr) (np : Nat) (F : Fn) : Sp := fun vs H Q E => vs.length = np ∧ ∃ M S ws, RpWL K M vs ws ∧ WS K C T M S H ∧ match F ws S with
  | .ok w S' => ∀ v M' H', Ext M M' → RpW K M' v w → WS K C T M' S' H' → Q v H'
  | .exc c fs S' => ∀ cls d M' H', Ext M M' → WS K C T M' S' H' → ExcR K C M' H' cls d c fs → E cls d H'
  | .no => False
/-- the def at the name x does F -/
def FnP (P : Program) (w : World) (K : PySem.W.Frag) (mg : Str → Option Value) (base : Heap) (C : ClsAt) (T : List Addr) (k : Nat) (x : Str) (np : Nat) (F : Fn) : Prop :=
  ∃ (ps : List Str) (f : Addr) (fd : FuncData), ps.length = np ∧ FnOk P w K mg base (L2.CX P w) k f fd ps (spD K C T np F) ∧ mg x = some (.ref f) ∧ PySem.W.keepIn K (.ref f) = true ∧ Binds K fd ps []
section
variable {K : PySem.W.Frag} {C : ClsAt} {T : List Addr} {M M' : Fm} {S S' : Sto} {H : Hp}
theorem Ext.cut (w : WS K C T M S H) (x : Ext M M') : Ext M { M' with as := M'.as.take S.length } := by
  refine ⟨x.F, ?_, x.ls, x.G⟩
  obtain ⟨t, ht⟩ := x.as
  refine ⟨[], ?_⟩
  rw [List.append_nil, ← ht, ← w.len, List.take_left]
theorem RpW.cut {v : V} {w : W} {n : Nat} (r : RpW K M v w) (h : fitW n w = true) : RpW K { M with as := M.as.take n } v w := by
  cases r with
  | v r => exact .v (r.sub (M := M) (M' := { M with as := M.as.take n }) fun _ _ z => z)
  | @p i a e =>
    have hi : i < n := of_decide_eq_true h
    exact .p (by show (M.as.take n)[i]? = some a; rw [List.getElem?_take, if_pos hi]; exact e)
  | c e => exact .c e
theorem FsR.cut {n : Nat} : ∀ {fvs : List (Str × V)} {fs : List (Str × W)}, FsR K M fvs fs → (fs.all fun p => fitW n p.2) = true → FsR K { M with as := M.as.take n } fvs fs
  | _, _, .nil, _ => .nil
  | _, _, .cons a t, h => by
    rw [List.all_cons, Bool.and_eq_true] at h
    exact .cons ⟨a.1, a.2.cut h.1⟩ (FsR.cut t h.2)
theorem KvR.cut {n : Nat} : ∀ {kv : List (Key × V)} {kvs : List (D × D)}, KvR K M kv kvs → KvR K { M with as := M.as.take n } kv kvs
  | _, _, .nil => .nil
  | _, _, .cons a t => .cons ⟨a.1, a.2.sub (M := M) (M' := { M with as := M.as.take n }) fun _ _ z => z⟩ (KvR.cut t)
theorem WS.cut (w : WS K C T M S H) {n : Nat} (h : (S.take n).all (fitC n) = true) : WS K C T { M with as := M.as.take n } (S.take n) H := by
  refine ⟨w.le, w.nd.sublist (List.take_sublist _ _), by show (M.as.take n).length = _; rw [List.length_take, List.length_take, w.len], fun i a d e1 e2 => ?_, fun P hP => ?_, fun b u e => ?_⟩
  · have e1 : (M.as.take n)[i]? = some a := e1
    rw [List.getElem?_take] at e1
    rw [List.getElem?_take] at e2
    split at e1
    · rename_i hi
      rw [if_pos hi] at e2
      have c := w.cell i a d e1 e2
      have hf : fitC n d = true := List.all_eq_true.mp h d (List.mem_of_getElem? (by rw [List.getElem?_take, if_pos hi]; exact e2))
      cases d with
      | lst ds => obtain ⟨a1, vs, a2, a3⟩ := c; exact ⟨a1, vs, a2, a3.sub (M := M) (M' := { M with as := M.as.take n }) fun _ _ z => z⟩
      | obj cc fs => obtain ⟨a1, Ca, dx, fvs, a2, a3, a4⟩ := c; exact ⟨a1, Ca, dx, fvs, a2, a3, a4.cut hf⟩
      | dic kvs => obtain ⟨a1, kv, a2, a3⟩ := c; exact ⟨a1, kv, a2, a3.cut⟩
      | dead => exact c
    · cases e1
  · obtain ⟨h1, h2, h3⟩ := w.tab P hP
    exact ⟨h1, fun z => h2 (List.mem_of_mem_take z), h3⟩
  · obtain ⟨h1, h2, h3⟩ := w.gd b u e
    exact ⟨h1, h2, fun z => h3 (List.mem_of_mem_take z)⟩
/-- what is true behind the cut is true ahead of it -/
theorem cut_back {H' : Hp} {n : Nat} (w : WS K C T M S H) (x : Ext M M') (w' : WS K C T M' S' H') (hn : n = S.length) {R : Prop}
    (k : ∀ M2, Ext M M2 → (∀ v d, Rp K M' v d → Rp K M2 v d) → WS K C T M2 (cutS n S') H' → R) : R := by
  subst hn
  by_cases h : (S'.take S.length).all (fitC S.length) = true
  · have e : cutS S.length S' = S'.take S.length := if_pos h
    rw [e] at k
    exact k _ (Ext.cut w x) (fun v d r => r.sub (M := M') (M' := { M' with as := M'.as.take S.length }) fun _ _ z => z) (w'.cut h)
  · have e : cutS S.length S' = S' := if_neg h
    rw [e] at k
    exact k M' x (fun _ _ r => r) w'
theorem envR_start {vs : List V} {ws : List W} (r : RpWL K M vs ws) (N : List Str) : EnvR K M (L2.start N vs) (ws.map some ++ List.replicate (N.length - ws.length) none) := by
  have hl := r.length
  unfold L2.start
  refine ⟨by rw [List.length_append, List.length_append, List.length_map, List.length_map, List.length_replicate, List.length_replicate, hl], fun i d e => ?_⟩
  by_cases hi : i < ws.length
  · rw [List.getElem?_append_left (by rw [List.length_map]; exact hi), List.getElem?_map] at e
    cases q : ws[i]? with
    | none => rw [q] at e; cases e
    | some w =>
      rw [q] at e
      cases e
      obtain ⟨v, e1, r1⟩ := r.get q
      exact ⟨v, by rw [List.getElem?_append_left (by rw [List.length_map]; omega), List.getElem?_map, e1]; rfl, r1⟩
  · rw [List.getElem?_append_right (by rw [List.length_map]; omega)] at e
    rw [List.getElem?_replicate] at e
    split at e <;> cases e
end
section
variable {P : Program} {w : World} {K : PySem.W.Frag} {mg : Str → Option Value} {base : Heap} {C : ClsAt} {T : List Addr}
/-- the context of a def's body -/
abbrev bodyX (P : Program) (w : World) (K : PySem.W.Frag) (mg : Str → Option Value) (base : Heap) (N : List Str) (qual : Str) (st : Stmt) (f : Addr) (cdv : Value) (A : Around) (outer : List PySem.Env) (s : Shared) (H : Hp) (E : XK) : Cx :=
  cxOf (L2.CX P w) P w K mg base N qual (defScope st) f cdv A outer s H E
abbrev exW (E : XK) : WX := fun cls d _ H => E cls d H
/-- THE RULE of a def -/
theorem fn_D {x qual : Str} {st : Stmt} {f : Addr} {fd : FuncData} {N ps : List Str} {k np nN : Nat} {body : SS} (F : Fun K x qual st f fd) (S : FnScope N ps (defScope st)) (hp : ps.length = np) (hN : N.length = nN)
    (hbody : ∀ (cdv : Value) (A : Around) (outer : List PySem.Env) (s : Shared) (H : Hp) (E : XK), Room k (bodyX P w K mg base N qual st f cdv A outer s H E).A →
      PSs (bodyX P w K mg base N qual st f cdv A outer s H E) (defBody st) (TSd (bodyX P w K mg base N qual st f cdv A outer s H E) C T (exW E) body)) : FnOk P w K mg base (L2.CX P w) (k + 1) f fd ps (spD K C T np (runF nN body)) := by
  subst hp hN
  refine F.okX S (fun vs H Q E h => h.1) fun cdv A outer s H vs Q E hr h => ⟨_, hbody cdv A outer s H E hr, ?_⟩
  obtain ⟨_, M, S0, ws, rws, hws, ho⟩ := h
  refine ⟨M, ws.map some ++ List.replicate (N.length - ws.length) none, S0, envR_start rws N, hws, ?_⟩
  unfold runF at ho
  show OutS (bodyX P w K mg base N qual st f cdv A outer s H E) C T (exW E) (body (ws.map some ++ List.replicate (N.length - ws.length) none) S0) M _
  revert ho
  generalize body (ws.map some ++ List.replicate (N.length - ws.length) none) S0 = r
  intro ho
  cases r with
  | nx ρ S1 => exact fun σ' M' H' x e w' => cut_back hws x w' rfl fun M2 x2 _ w2 => ho .non M2 H' x2 (.v .non) w2
  | ret wv S1 =>
    cases wv with
    | v d => exact fun v M' H' x r w' => cut_back hws x w' rfl fun M2 x2 kr w2 => ho v M2 H' x2 (by cases r with | v r => exact .v (kr _ _ r)) w2
    | p i => exact fun v M' H' x r w' => ho v M' H' x r w'
    | c i => exact fun v M' H' x r w' => ho v M' H' x r w'
  | brk ρ S1 => exact ho.elim
  | cnt ρ S1 => exact ho.elim
  | exc c fs S1 => exact fun cls d σ' M' H' x w' e => ho cls d M' H' x w' e
  | no => exact ho.elim
theorem takes_body {N : List Str} {qual : Str} {st : Stmt} {f : Addr} {cdv : Value} {A : Around} {outer : List PySem.Env} {s : Shared} {H : Hp} {E : XK} : Takes (bodyX P w K mg base N qual st f cdv A outer s H E) (exW E) := takes_of rfl rfl rfl rfl
theorem passes_body {N : List Str} {qual : Str} {st : Stmt} {f : Addr} {cdv : Value} {A : Around} {outer : List PySem.Env} {s : Shared} {H : Hp} {E : XK} :
    PassesOwn (model P w) (bodyX P w K mg base N qual st f cdv A outer s H E).A (bodyX P w K mg base N qual st f cdv A outer s H E).env (bodyX P w K mg base N qual st f cdv A outer s H E).xe := passes_of rfl
end
section
variable {X : Cx} {C : ClsAt} {T : List Addr} {XW : WX} {e : Expr} {es : List Expr} {ga : SA} {pos p : Pos} {k j np : Nat} {F : Fn} {x : Str}
/-- behind a call of a def -/
theorem call_in {σ : L2.St} {H : Hp} {Q : VK} (h : TEd X C T XW (sCall np F ga) σ H Q) : tCall (spD X.K C T np F) [] (fun cls d H => ∀ σ, XW cls d σ H) (TAd X C T XW ga) σ H Q := by
  obtain ⟨M, ρ, S, he, hw, ho⟩ := h
  refine ⟨M, ρ, S, he, hw, ho.bind.mono fun ws S1 M1 H1 x1 w1 ho vs rv => ?_⟩
  obtain ⟨hl, ho⟩ := ite_ok ho
  rw [List.append_nil]
  refine ⟨rv.length.trans hl, M1, S1, ws, rv, w1, ?_⟩
  revert ho
  generalize F ws S1 = r
  intro ho
  cases r with
  | ok w S' => exact fun v M' H' x rv w' => ho M' H' x w' v rv
  | exc c fs S' => exact fun cls d M' H' x w' e σ' => ho cls d σ' M' H' x w' e
  | no => exact ho.elim
theorem ed_call (hF : FnP X.prog X.w X.K X.mg X.base C T k x np F) (hr : Room j X.A) (hk : k ≤ j) (hg : Gl X x) (tk : Takes X XW) (ha : PA X (e :: es) (TAd X C T XW ga))
    (hdb : (x == ("__debug__" : Str)) = false := by decide) (he : starEach (e :: es) X.env = (false, eval e X.env) :: starEach es X.env := by rfl) (hpl : (backTo pos (starEach es X.env)).any (·.1) = false := by rfl) :
    PE X (.Call (.Name x p) (e :: es) [] pos) (TEd X C T XW (sCall np F ga)) := by
  obtain ⟨ps, f, fd, hl, ok, hm, kp, hb⟩ := hF
  exact PEimp (pe_call ok (hr.mono hk) hg hm kp hb .nil (passes_call tk fun cls d σ H h => h σ) ha hdb he hpl) fun σ H Q h => call_in h
theorem ed_call0 (hF : FnP X.prog X.w X.K X.mg X.base C T k x 0 F) (hr : Room j X.A) (hk : k ≤ j) (hg : Gl X x) (tk : Takes X XW) (hdb : (x == ("__debug__" : Str)) = false := by decide) :
    PE X (.Call (.Name x p) [] [] pos) (TEd X C T XW (sCall 0 F sANil)) := by
  obtain ⟨ps, f, fd, hl, ok, hm, kp, hb⟩ := hF
  refine PEimp (pe_call0 (E := fun cls d H => ∀ σ, XW cls d σ H) ok (hr.mono hk) hg hm kp hb .nil (passes_call tk fun cls d σ H h => h σ) hdb) fun σ H Q h => ?_
  have := call_in h
  obtain ⟨M, ρ, S, he, hw, ho⟩ := this
  exact ho M H (Ext.refl M) hw [] .nil
theorem fnP_of {P : Program} {w : World} {K : PySem.W.Frag} {mg : Str → Option Value} {base : Heap} {C : ClsAt} {T : List Addr} {k np : Nat} {x : Str} {F : Fn} {ps : List Str} {f : Addr} {fd : FuncData} (hp : ps.length = np) (ok : FnOk P w K mg base (L2.CX P w) k f fd ps (spD K C T np F))
    (hm : mg x = some (.ref f)) (kp : PySem.W.keepIn K (.ref f) = true) (hb : Binds K fd ps []) : FnP P w K mg base C T k x np F := ⟨ps, f, fd, hp, ok, hm, kp, hb⟩
end
end Dy
set_option Elab.async false
set_option linter.all false
set_option maxRecDepth 100000
set_option maxHeartbeats 2000000
/-! Dy3h: sorted, list, of lists and tuples. -/
namespace PySem
open PyProof.Rows
section
variable {prog : Program} {w : World} {A : Around} {E : Value → Shared → Prop} {s : Shared}
theorem collect_tupD {l : Addr} {vs : List Value} {Q : List Value → Shared → Prop} (hl : s.heap.IsTuple l vs.toArray)
    (h : Q vs { s with heap := (s.heap.push (seqObj "list" #[] 0)).update s.heap.objs.size (Obj.mapSeq (· ++ vs.toArray)) }) (hsz : vs.length ≤ sizeLine) :
    wpAny (model prog w) A (collect (.ref l)) Q E s := by
  obtain ⟨o, ho, hc, n, hd⟩ := id hl
  unfold collect
  refine wpAny_bind (wpAny_runValue (codeAny_builtin entry_proto_collect' ?_))
  show wpAny _ _ (do again (.builtin "list.__iadd__" ⟨[← newList [], .ref l], []⟩)) _ _ s
  refine wpAny_bind (wpAny_newList (wpAny_pure ⟨Code.quiet_builtin _ (by decide +kernel), codeAny_builtin entry_list_iadd' ?_⟩))
  show wpAny _ _ (Builtin.List.listExtendWith (.ref s.heap.objs.size) (.ref l) (.ref s.heap.objs.size)) _ _ { s with heap := s.heap.push (seqObj "list" #[] 0) }
  unfold Builtin.List.listExtendWith
  have ho' : (s.heap.push (seqObj "list" #[] 0)).get? l = some o := Heap.get?_push_of_some _ ho
  refine wpAny_bind (wpAny_typeOf (T := "tuple") ⟨o, ho', hc⟩ ?_)
  have ht : (Value.type "tuple" == Value.type "tuple") = true := by rfl
  rw [if_pos (by rw [ht]; simp)]
  refine wpAny_bind (listItems_at ho' hd ?_)
  refine wpAny_bind (listItems_at (xs := #[]) (n := 0) (Heap.get?_push_size _ rfl) rfl ?_)
  rw [if_neg (by simp)]
  refine wpAny_bind (listUpdate_at (xs := #[]) (n := 0) (Heap.get?_push_size _ rfl) rfl ?_ (Nat.zero_le _) (by show (#[] ++ vs.toArray).size ≤ sizeLine + 1; simp only [Array.size_append, List.size_toArray, List.length_nil]; omega))
  refine wpAny_pure ?_
  show wpAny (model prog w) A (do
      let o ← load s.heap.objs.size
      match o.data with
      | .seq xs _ => pure xs.toList
      | _ => unsupported "internal:collect") Q E { s with heap := (s.heap.push (seqObj "list" #[] 0)).update s.heap.objs.size (Obj.mapSeq (· ++ vs.toArray)) }
  refine wpAny_bind (wpAny_load (get?_update_seq (Heap.get?_push_size _ rfl) _) ?_)
  show wpAny _ _ (pure ((#[] : Array Value) ++ vs.toArray).toList) Q E _
  rw [show ((#[] : Array Value) ++ vs.toArray).toList = vs by simp]
  exact wpAny_pure h
open SrtO in
theorem sorted_ordT {l : Addr} {vs : List Value} {ltv : Value → Value → Bool} {Q : Value → Shared → Prop} (O : Swo ltv) (hl : s.heap.IsTuple l vs.toArray) (hz : vs.length ≤ sizeLine)
    (hS : 2 ≤ vs.length → ∀ (h₁ : Heap) (a : Addr), h₁.get? a = some (seqObj "list" vs.toArray 0) → (∀ b o, s.heap.get? b = some o → b ≠ a ∧ h₁.get? b = some o) → SortableO prog w A.in1.in1 { s with heap := h₁ } a vs ltv)
    (h : ∀ out : List Value, Srtd ltv out → Stb ltv out vs → Q (.ref (s.heap.objs.size + 1)) { s with heap := sortedAll s.heap vs out.toArray }) :
    wpAny (model prog w) A (call (.builtin "sorted") [.ref l]) Q E s := by
  refine Calls.call_function_entry kind_sorted plain_sorted entry_sorted (args_sorted1 _) ?_
  unfold Builtin.«sorted»
  refine wpAny_bind (m := checkCount "sorted" 1 1 _) (wpAny_pure ?_)
  refine wpAny_bind (collect_tupD hl ?_ hz)
  refine wpAny_bind (wpAny_newList ?_ hz)
  have hsz : ((s.heap.push (seqObj "list" #[] 0)).update s.heap.objs.size (Obj.mapSeq (· ++ vs.toArray))).objs.size = s.heap.objs.size + 1 := by
    rw [Heap.size_update, size_push']
  have hoL : (((s.heap.push (seqObj "list" #[] 0)).update s.heap.objs.size (Obj.mapSeq (· ++ vs.toArray))).push (seqObj "list" vs.toArray 0)).get? (s.heap.objs.size + 1) = some (seqObj "list" vs.toArray 0) := by
    rw [← hsz]; exact Heap.get?_push_size _ rfl
  have keep : ∀ b o, s.heap.get? b = some o → b ≠ s.heap.objs.size + 1 ∧ (((s.heap.push (seqObj "list" #[] 0)).update s.heap.objs.size (Obj.mapSeq (· ++ vs.toArray))).push (seqObj "list" vs.toArray 0)).get? b = some o := fun b o q => by
    have hlt : b < s.heap.objs.size := Heap.lt_size q
    refine ⟨Nat.ne_of_lt (Nat.lt_succ_of_lt hlt), Heap.get?_push_of_some _ ?_⟩
    rw [Heap.get?_update_ne _ _ _ _ (Nat.ne_of_lt hlt)]
    exact Heap.get?_push_of_some _ q
  show wpAny _ _ _ _ _ { s with heap := ((s.heap.push (seqObj "list" #[] 0)).update s.heap.objs.size (Obj.mapSeq (· ++ vs.toArray))).push (seqObj "list" vs.toArray 0) }
  rw [hsz]
  refine wpAny_bind (wpAny_holding (wpAny_call_entry slot_list_sort ⟨_, hoL, rfl⟩ entry_list_sort (list_sort_ord O hoL hz (fun h2 => hS h2 _ _ hoL keep) fun out hs hb => ⟨_, rfl, ?_⟩) (args_list_sort _)))
  exact wpAny_pure ⟨_, rfl, h out hs hb⟩
end
end PySem
set_option Elab.async false
set_option linter.all false
set_option maxRecDepth 100000
set_option maxHeartbeats 2000000
/-! Dy3i: sorted as a rule. -/
namespace Dy
open PySem PySem.Spec PyProof.Rows L2 SrtO
section
variable {α β : Type}
def insL (lt : α → α → Bool) (x : α) : List α → List α
  | [] => [x]
  | y :: r => if lt y x = true then y :: insL lt x r else x :: y :: r
def isortL (lt : α → α → Bool) : List α → List α
  | [] => []
  | x :: r => insL lt x (isortL lt r)
theorem insL_perm (lt : α → α → Bool) (x : α) : ∀ l, (insL lt x l).Perm (x :: l)
  | [] => List.Perm.refl _
  | y :: r => by
    unfold insL
    split
    · exact ((insL_perm lt x r).cons y).trans (List.Perm.swap x y r)
    · exact List.Perm.refl _
theorem isortL_perm (lt : α → α → Bool) : ∀ l, (isortL lt l).Perm l
  | [] => List.Perm.refl _
  | x :: r => (insL_perm lt x _).trans ((isortL_perm lt r).cons x)
theorem isortL_len (lt : α → α → Bool) (l : List α) : (isortL lt l).length = l.length := (isortL_perm lt l).length_eq
theorem insL_srtd {lt : α → α → Bool} (O : Swo lt) (x : α) : ∀ l, Srtd lt l → Srtd lt (insL lt x l)
  | [], _ => srtd_one x
  | y :: r, h => by
    unfold insL
    split
    · rename_i hy
      refine List.pairwise_cons.mpr ⟨fun z hz => ?_, insL_srtd O x r (List.pairwise_cons.mp h).2⟩
      rcases List.mem_cons.mp ((insL_perm lt x r).mem_iff.mp hz) with e | hz
      · rw [e]; exact O.asym _ _ hy
      · exact srtd_head h z hz
    · rename_i hy
      have hy : lt y x = false := by cases q : lt y x <;> simp_all
      exact List.pairwise_cons.mpr ⟨O.le_all h hy, h⟩
theorem insL_stb {lt : α → α → Bool} (O : Swo lt) (x : α) : ∀ l, Srtd lt l → Stb lt (insL lt x l) (x :: l)
  | [], _ => Stb.refl _
  | y :: r, h => by
    unfold insL
    split
    · rename_i hy
      have s1 : Stb lt ([y] ++ insL lt x r) ([y] ++ (x :: r)) := (Stb.refl [y]).app (insL_stb O x r (List.pairwise_cons.mp h).2)
      have s2 : Stb lt (([y] ++ [x]) ++ r) (([x] ++ [y]) ++ r) := (Stb.swap O fun a ha b hb => by rw [List.mem_singleton.mp ha, List.mem_singleton.mp hb]; exact hy).app (Stb.refl r)
      exact s1.trans s2
    · exact Stb.refl _
theorem isortL_srtd {lt : α → α → Bool} (O : Swo lt) : ∀ l, Srtd lt (isortL lt l)
  | [] => List.Pairwise.nil
  | x :: r => insL_srtd O x _ (isortL_srtd O r)
theorem isortL_stb {lt : α → α → Bool} (O : Swo lt) : ∀ l, Stb lt (isortL lt l) l
  | [] => Stb.refl _
  | x :: r => (insL_stb O x _ (isortL_srtd O r)).trans ((Stb.refl [x]).app (isortL_stb O r))
theorem stb_symm {lt : α → α → Bool} {l m : List α} (h : Stb lt l m) : Stb lt m l := ⟨h.perm.symm, fun x => (h.cls x).symm⟩
theorem isortL_uniq {lt : α → α → Bool} (O : Swo lt) {out l : List α} (h1 : Srtd lt out) (h2 : Stb lt out l) : out = isortL lt l :=
  stb_uniq O h1 (isortL_srtd O l) (h2.trans (stb_symm (isortL_stb O l)))
theorem insL_map {lt : β → β → Bool} (f : α → β) (x : α) : ∀ l, (insL (fun a b => lt (f a) (f b)) x l).map f = insL lt (f x) (l.map f)
  | [] => rfl
  | y :: r => by
    unfold insL
    rw [List.map_cons]
    show List.map f (if lt (f y) (f x) = true then _ else _) = if lt (f y) (f x) = true then _ else _
    split
    · rw [List.map_cons, insL_map f x r]
    · rfl
theorem isortL_map {lt : β → β → Bool} (f : α → β) : ∀ l, (isortL (fun a b => lt (f a) (f b)) l).map f = isortL lt (l.map f)
  | [] => rfl
  | x :: r => by
    unfold isortL
    rw [insL_map, isortL_map f r]
    rfl
theorem insL_congr {lt lt' : α → α → Bool} {x : α} : ∀ {l : List α}, (∀ y ∈ l, lt y x = lt' y x) → insL lt x l = insL lt' x l
  | [], _ => rfl
  | y :: r, h => by
    unfold insL
    rw [h y (List.mem_cons_self ..), insL_congr fun z hz => h z (List.mem_cons_of_mem _ hz)]
theorem isortL_congr {lt lt' : α → α → Bool} : ∀ {l : List α}, (∀ x ∈ l, ∀ y ∈ l, lt x y = lt' x y) → isortL lt l = isortL lt' l
  | [], _ => rfl
  | x :: r, h => by
    unfold isortL
    rw [isortL_congr fun a ha b hb => h a (List.mem_cons_of_mem _ ha) b (List.mem_cons_of_mem _ hb)]
    exact insL_congr fun y hy => h y (List.mem_cons_of_mem _ ((isortL_perm lt' r).mem_iff.mp hy)) x (List.mem_cons_self ..)
end
def ltD (x y : D) : Bool := match ordD .Lt x y with
  | some b => b
  | none => false
def isI : D → Bool
  | .int _ => true
  | _ => false
def isP : D → Bool
  | .tup [.int _, .int _] => true
  | _ => false
def srtOk (ds : List D) : Bool := ds.all isI || ds.all isP
def sortD (ds : List D) : Option (List D) := if srtOk ds = true then some (isortL ltD ds) else none
@[simp] theorem ltD_int (a b : Int) : ltD (.int a) (.int b) = decide (a < b) := rfl

section
variable {K : PySem.W.Frag} {M : Fm}
/-- items as they stand: value, abstract value, data -/
def Tri (K : PySem.W.Frag) (M : Fm) (t : Value × V × D) : Prop := RelV t.2.1 t.1 ∧ Rp K M t.2.1 t.2.2
theorem tri_of : ∀ {us : List Value} {vs : List V} {ds : List D}, Vals vs us → RpL K M vs ds → ∃ L : List (Value × V × D), L.map (·.1) = us ∧ L.map (·.2.1) = vs ∧ L.map (·.2.2) = ds ∧ ∀ t ∈ L, Tri K M t
  | _, _, _, .nil, .nil => ⟨[], rfl, rfl, rfl, fun t h => by cases h⟩
  | _, _, _, .cons a q, .cons b r => by
    obtain ⟨L, h1, h2, h3, h4⟩ := tri_of q r
    refine ⟨(_, _, _) :: L, congrArg (_ :: ·) h1, congrArg (_ :: ·) h2, congrArg (_ :: ·) h3, fun t ht => ?_⟩
    rcases List.mem_cons.mp ht with e | ht
    · rw [e]; exact ⟨a, b⟩
    · exact h4 t ht
theorem of_tri : ∀ {L : List (Value × V × D)}, (∀ t ∈ L, Tri K M t) → Vals (L.map (·.2.1)) (L.map (·.1)) ∧ RpL K M (L.map (·.2.1)) (L.map (·.2.2))
  | [], _ => ⟨.nil, .nil⟩
  | t :: L, h => by
    obtain ⟨h1, h2⟩ := of_tri (L := L) fun x hx => h x (List.mem_cons_of_mem _ hx)
    obtain ⟨a, b⟩ := h t (List.mem_cons_self ..)
    exact ⟨.cons a h1, .cons b h2⟩
/-- the sorted values stand for the sorted data -/
theorem tri_sort {us : List Value} {vs : List V} {ds : List D} {ltv : Value → Value → Bool} (q : Vals vs us) (r : RpL K M vs ds) (h : ∀ u d v u' d' v', RelV v u → Rp K M v d → d ∈ ds → RelV v' u' → Rp K M v' d' → d' ∈ ds → ltv u u' = ltD d d') :
    ∃ vs', Vals vs' (isortL ltv us) ∧ RpL K M vs' (isortL ltD ds) := by
  obtain ⟨L, rfl, rfl, rfl, h4⟩ := tri_of q r
  have e1 := isortL_map (lt := ltv) (fun t : Value × V × D => t.1) L
  have e2 := isortL_map (lt := ltD) (fun t : Value × V × D => t.2.2) L
  have e3 : isortL (fun a b : Value × V × D => ltv a.1 b.1) L = isortL (fun a b : Value × V × D => ltD a.2.2 b.2.2) L := isortL_congr fun a ha b hb =>
    h a.1 a.2.2 a.2.1 b.1 b.2.2 b.2.1 (h4 a ha).1 (h4 a ha).2 (List.mem_map.mpr ⟨a, ha, rfl⟩) (h4 b hb).1 (h4 b hb).2 (List.mem_map.mpr ⟨b, hb, rfl⟩)
  have h5 : ∀ t ∈ isortL (fun a b : Value × V × D => ltv a.1 b.1) L, Tri K M t := fun t ht => h4 t ((isortL_perm _ L).mem_iff.mp ht)
  obtain ⟨q1, q2⟩ := of_tri h5
  refine ⟨_, by rw [e1] at q1; exact q1, ?_⟩
  rw [e3] at q2 ⊢
  rw [e2] at q2
  exact q2
end
theorem ltD_pair (a b a' b' : Int) : ltD (.tup [.int a, .int b]) (.tup [.int a', .int b']) = lexB (a, b) (a', b') := by
  have h : ∀ i : Int, shp (.int i) = true := fun i => rfl
  unfold ltD ordD ordDL ordDL ordDL ordD
  simp only [h, Bool.and_self, if_true, intB, natB, List.length_cons, List.length_nil, eqD]
  unfold lexB
  by_cases e : a = a'
  · subst e
    simp only [beq_self_eq_true, if_true]
    by_cases e2 : b = b'
    · subst e2; simp
    · simp [e2]
  · simp [e]
section
variable {X : Cx}
/-- sorted(xs) of a list or a tuple -/
def rSortD (X : Cx) : List V → Hp → VK → Prop := fun xs H Q => ∃ (N : Fm) (a : Addr) (vs : List V) (ds : List D), xs = [.ref a] ∧ (∀ b o, N.F b = some o → H b = some o) ∧ (SqT X.K H a vs ∨ SqL X.K H a vs) ∧ RpL X.K N vs ds ∧ srtOk ds = true ∧
  ∀ p vs', RpL X.K N vs' (isortL ltD ds) → H p = none → Q (.ref p) (upd H p (.lst vs'))
theorem sort_run {pins : List (Addr × Obj)} {σ : L2.St} {H : Hp} {s : Shared} {a : Addr} {vs : List V} {ds : List D} {us : List Value} {ltv : Value → Value → Bool} {Q : VK} {N : Fm} (I : Inv X pins σ H s) (hN : ∀ b o, N.F b = some o → H b = some o) (hq : SqT X.K H a vs ∨ SqL X.K H a vs) (r : RpL X.K N vs ds)
    (O : Swo ltv) (hS : ∀ us, Vals vs us → 2 ≤ us.length → ∀ (h₁ : Heap) (a : Addr), h₁.get? a = some (seqObj "list" us.toArray 0) → (∀ b o, s.heap.get? b = some o → b ≠ a ∧ h₁.get? b = some o) → SortableO X.prog X.w X.A.in1.in1 { s with heap := h₁ } a us ltv)
    (hl : ∀ u d v u' d' v', RelV v u → Rp X.K N v d → d ∈ ds → RelV v' u' → Rp X.K N v' d' → d' ∈ ds → ltv u u' = ltD d d')
    (q : ∀ p vs', RpL X.K N vs' (isortL ltD ds) → H p = none → Q (.ref p) (upd H p (.lst vs'))) : wpAny (model X.prog X.w) X.A (call (.builtin "sorted") [.ref a]) (EP X pins σ Q) X.xe s := by
  have key : ∀ us, Vals vs us → vs.length ≤ sizeLine → ∀ out : List Value, Srtd ltv out → Stb ltv out us → EP X pins σ Q (.ref (s.heap.objs.size + 1)) { s with heap := sortedAll s.heap us out.toArray } := fun us rv hz out h1 h2 => by
    obtain rfl := isortL_uniq O h1 h2
    obtain ⟨vs', k1, k2⟩ := tri_sort rv r hl
    obtain ⟨ep, he'⟩ := PyProof.Rows.sortedAll_at s.heap us (isortL ltv us).toArray
    have hlen : vs'.length ≤ sizeLine := by
      have e1 := k1.length
      rw [isortL_len] at e1
      have e2 := rv.length
      omega
    exact ⟨.ref _, upd H (s.heap.objs.size + 1) (.lst vs'), I.laid (t' := s.toks) (fun _ _ => PyProof.Rows.sortedAll_old) (Nat.le_succ _) ⟨hlen, _, ep, k1, he'⟩, rfl, q _ _ k2 (I.hok.fresh (Nat.le_succ _))⟩
  rcases hq with hq | hq
  · obtain ⟨its, rv, pl, hz⟩ := I.tuple hq
    exact PySem.sorted_ordT O pl (by rw [← rv.length]; exact hz) (fun h2 h₁ a' e k => hS its rv h2 h₁ a' e k) fun out h1 h2 => key its rv hz out h1 h2
  · obtain ⟨its, rv, pl, hz⟩ := I.list hq
    exact SrtO.sorted_ord O pl.isList (by rw [← rv.length]; exact hz) (fun h2 h₁ a' e k => hS its rv h2 h₁ a' e k) fun out h1 h2 => key its rv hz out h1 h2
theorem all_ints : ∀ {ds : List D}, ds.all isI = true → ∃ ns : List Int, ds = ns.map .int
  | [], _ => ⟨[], rfl⟩
  | d :: ds, h => by
    rw [List.all_cons, Bool.and_eq_true] at h
    obtain ⟨ns, e⟩ := all_ints h.2
    cases d with
    | int i => exact ⟨i :: ns, by rw [e]; rfl⟩
    | _ => cases h.1
/-- the two ints of a pair, as the heap has it -/
def prK (h : Heap) (u : Value) : Int × Int := match u with
  | .ref t => (match h.get? t with
    | some o => (match o.data with
      | .seq vs _ => (match vs.toList with
        | [.int a _, .int b _] => (a, b)
        | _ => (0, 0))
      | _ => (0, 0))
    | none => (0, 0))
  | _ => (0, 0)
theorem prK_of {h : Heap} {u : Value} {a b : Int} (p : Srt.IsPair h u a b) : prK h u = (a, b) := by
  obtain ⟨t, o, t1, t2, n, rfl, ho, hc, hd⟩ := p
  unfold prK
  simp only [ho, hd]
theorem pair_at {pins : List (Addr × Obj)} {σ : L2.St} {H : Hp} {s : Shared} {N : Fm} (I : Inv X pins σ H s) (hN : ∀ b o, N.F b = some o → H b = some o) {v : V} {u : Value} {a b : Int} (r : RelV v u) (q : Rp X.K N v (.tup [.int a, .int b])) : Srt.IsPair s.heap u a b := by
  cases q with
  | @tup t vs _ s1 r1 =>
    obtain rfl : u = Value.ref t := r
    obtain ⟨its, rv, ⟨o, ho, hc, n, hd⟩, _⟩ := I.tuple (SqT.sub hN s1)
    obtain rfl : vs = [.int a, .int b] := RpL.ints_inv (ns := [a, b]) r1
    obtain ⟨u1, u2, rfl, ri, rj⟩ := vals2 rv
    obtain ⟨t1, rfl⟩ := ri
    obtain ⟨t2, rfl⟩ := rj
    exact ⟨t, o, t1, t2, n, rfl, ho, hc, hd⟩
theorem isP_is {d : D} (h : isP d = true) : ∃ a b, d = .tup [.int a, .int b] := by
  unfold isP at h
  split at h
  · exact ⟨_, _, rfl⟩
  · cases h
theorem cr_sortD : CallR X (.builtin "sorted") (rSortD X) := by
  intro pins s σ H xs us Q I r h
  obtain ⟨N, a, vs, ds, rfl, hN, hq, rl, hs, q⟩ := h
  rw [Vals.ref1 r]
  unfold srtOk at hs
  rw [Bool.or_eq_true] at hs
  rcases hs with hs | hs
  · obtain ⟨ns, rfl⟩ := all_ints hs
    obtain rfl := RpL.ints_inv rl
    refine sort_run (us := us) I hN hq rl swo_int (fun us rv h2 h₁ a' _ _ => ints_sortable (intsAre_of rv) h2) (fun u d v u' d' v' r1 q1 m1 r2 q2 m2 => ?_) q
    obtain ⟨i, _, rfl⟩ := List.mem_map.mp m1
    obtain ⟨j, _, rfl⟩ := List.mem_map.mp m2
    cases q1; cases q2
    obtain ⟨t1, rfl⟩ := r1
    obtain ⟨t2, rfl⟩ := r2
    rfl
  · have hp : ∀ d ∈ ds, ∃ a b, d = .tup [.int a, .int b] := fun d hd => isP_is (List.all_eq_true.mp hs d hd)
    have hpr : ∀ {u : Value} {v : V} {d : D}, RelV v u → Rp X.K N v d → d ∈ ds → Srt.IsPair s.heap u (prK s.heap u).1 (prK s.heap u).2 := fun {u v d} r1 q1 m => by
      obtain ⟨a, b, rfl⟩ := hp d m
      have p := pair_at I hN r1 q1
      rw [prK_of p]
      exact p
    refine sort_run (us := us) I hN hq rl (swo_lex (prK s.heap)) (fun us rv h2 h₁ a' e k => ?_) (fun u d v u' d' v' r1 q1 m1 r2 q2 m2 => ?_) q
    · have hu : ∀ u ∈ us, Srt.IsPair s.heap u (prK s.heap u).1 (prK s.heap u).2 := fun u hu => by
        obtain ⟨j, hj, rfl⟩ := List.getElem_of_mem hu
        obtain ⟨k1, v', b1, b2⟩ := rl.at_ rv j hj
        exact hpr b2 b1 (List.getElem_mem k1)
      have hu' : ∀ u ∈ us, Srt.IsPair h₁ u (prK s.heap u).1 (prK s.heap u).2 := fun u hm => by
        obtain ⟨t, o, t1, t2, n, e1, ho, hc, hd⟩ := hu u hm
        exact ⟨t, o, t1, t2, n, e1, (k _ _ ho).2, hc, hd⟩
      refine pairs_sortableO (by omega) hu' fun o eo c => ?_
      have e' : some o = some (seqObj "list" us.toArray 0) := eo.symm.trans e
      cases e'
      exact absurd (Value.type.inj c) (by decide)
    · obtain ⟨a, b, rfl⟩ := hp d m1
      obtain ⟨a', b', rfl⟩ := hp d' m2
      show lexB (prK s.heap u) (prK s.heap u') = _
      rw [prK_of (pair_at I hN r1 q1), prK_of (pair_at I hN r2 q2)]
      exact (ltD_pair a b a' b').symm
end
end Dy
set_option Elab.async false
set_option linter.all false
set_option maxRecDepth 100000
set_option maxHeartbeats 2000000
/-! Dy3j: sorted, list, texts, append as rules over data. -/
namespace Dy
open PySem PySem.Spec PyProof.Rows L2

def sSorted (f : SE) : SL := fun ρ S => (f ρ S).bind fun x S1 => ofO (derefW S1 x) fun dx => ofO (seqD dx) fun ds => ofO (sortD ds) fun es => .ok es S1
def sListOf (f : SE) : SL := fun ρ S => (f ρ S).bind fun x S1 => ofO (derefW S1 x) fun dx => ofO (seqD dx) fun ds => .ok ds S1
def sListR1 (f : SE) : SL := sRng1 f
def sListR2 (f g : SE) : SL := sRng2 f g
def strsD : List D → Option (List Str)
  | [] => some []
  | .str x :: r => (strsD r).map (x :: ·)
  | _ :: _ => none
def wS : W → Option Str
  | .v (.str a) => some a
  | _ => none
def sJoin (f g : SE) : SE := fun ρ S => (f ρ S).bind fun x S1 => ofO (wS x) fun a => (g ρ S1).bind fun y S2 => ofO (derefW S2 y) fun dy => ofO (seqD dy) fun ds => ofO (strsD ds) fun ys =>
  if (ys.map (·.length)).sum + ys.length * a.length ≤ 16777216 then .ok (.v (.str (Txt.join a ys))) S2 else .no
def sSplit (f g : SE) : SL := fun ρ S => (f ρ S).bind fun x S1 => ofO (wS x) fun a => (g ρ S1).bind fun y S2 => ofO (wS y) fun b =>
  if (b.length == 0) = false ∧ a.length ≤ LIM then .ok ((Txt.split a b).map .str) S2 else .no
def sCount (f g : SE) : SE := fun ρ S => (f ρ S).bind fun x S1 => ofO (wS x) fun a => (g ρ S1).bind fun y S2 => ofO (wS y) fun b => .ok (.v (.int (Txt.count a b))) S2
def sRepl (f : SE) (y z : Str) : SE := fun ρ S => (f ρ S).bind fun x S1 => ofO (wS x) fun a =>
  if a.length + (a.length + 1) * z.length ≤ 16777216 then .ok (.v (.str (Txt.replace a y z))) S1 else .no
/-- x[::-1] of a text -/
def revS (z : Str) : Str := ⟨((Builtin.Str.strSliceIndices none none (-1) z.length).filterMap (z.cps[·]?)).toArray⟩
def sRev (f : SE) : SE := fun ρ S => (f ρ S).bind fun x S1 => ofO (derefW S1 x) fun dx => match dx with
  | .lst ds => .ok (.v (.lst ds.reverse)) S1
  | .str z => if z.length ≤ LIM ∧ (revS z).length ≤ LIM then .ok (.v (.str (revS z))) S1 else .no
  | _ => .no
def fmtD : W → Option Str
  | .v (.str y) => if y.length ≤ LIM then some y else none
  | .v (.int i) => if i.natAbs.log2 < 1920 then some (Str.ofString (toString i)) else none
  | _ => none
def sFmt (f : SE) : SE := fun ρ S => (f ρ S).bind fun x S1 => ofO (fmtD x) fun y => .ok (.v (.str y)) S1
def sJs : List SE → Str → Env → Sto → Res Str
  | [], acc, _, S => .ok acc S
  | f :: fs, acc, ρ, S => (f ρ S).bind fun x S1 => ofO (wS x) fun y => if (acc ++ y).length ≤ LIM then sJs fs (acc ++ y) ρ S1 else .no
def sJoined (fs : List SE) : SE := fun ρ S => (sJs fs Str.empty ρ S).bind fun out S1 => .ok (.v (.str out)) S1
def wP : W → Option Nat
  | .p i => some i
  | _ => none
def cellL (S : Sto) (i : Nat) : Option (List D) := match S[i]? with
  | some (.lst ds) => some ds
  | _ => none
/-- x.append(y) -/
def sApp (f g : SE) : SE := fun ρ S => (f ρ S).bind fun x S1 => ofO (wP x) fun c => ofO (cellL S1 c) fun _ => (g ρ S1).bind fun y S2 => ofO (wD y) fun d => ofO (cellL S2 c) fun ds =>
  if ds.length < LIM then .ok (.v .non) (S2.set c (.lst (ds ++ [d]))) else .no

section
variable {X : Cx} {C : ClsAt} {T : List Addr} {XW : WX} {a b c e : Expr} {es : List Expr} {f g h : SE} {ga : SA} {gl : SL} {pos p apos : Pos}
theorem ld_sorted (hg : Gl X "sorted") (hm : X.mg "sorted" = none) (ha : PE X a (TEd X C T XW f)) (hs : starEach [a] X.env = (false, eval a X.env) :: starEach [] X.env := by rfl) : PE X (.Call (.Name "sorted" p) [a] [] pos) (TLd X C T XW (sSorted f)) :=
  PEimp (pe_callB cr_sortD hg hm (by decide +kernel) (pa_cons ha pa_nil hs) (by decide) (by decide) hs rfl) fun σ H Q ⟨M, ρ, S, he, hw, ho⟩ => ⟨M, ρ, S, he, hw, ho.bind.mono fun x S1 M1 H1 x1 w1 ho v rv => by
    obtain ⟨dx, ex, ho⟩ := ho.ofO
    obtain ⟨ds, ed, ho⟩ := ho.ofO
    obtain ⟨es, ee, ho⟩ := ho.ofO
    obtain ⟨A, vs, rfl, h1, r1⟩ := seqD_ok w1 rv ex ed
    unfold sortD at ee
    split at ee
    · cases ee
      exact ⟨M1, A, vs, ds, rfl, w1.le, h1, r1, by assumption, fun p vs' r2 hp => ho M1 H1 (Ext.refl M1) w1 vs' p r2 hp⟩
    · cases ee⟩
theorem ld_list (hg : Gl X "list") (hm : X.mg "list" = none) (ha : PE X a (TEd X C T XW f)) (hs : starEach [a] X.env = (false, eval a X.env) :: starEach [] X.env := by rfl) : PE X (.Call (.Name "list" p) [a] [] pos) (TLd X C T XW (sListOf f)) :=
  PEimp (pe_callTy call_list_of hg hm (by decide +kernel) (pa_cons ha pa_nil hs) (by decide) (by decide) hs rfl) fun σ H Q ⟨M, ρ, S, he, hw, ho⟩ => ⟨M, ρ, S, he, hw, ho.bind.mono fun x S1 M1 H1 x1 w1 ho v rv => by
    obtain ⟨dx, ex, ho⟩ := ho.ofO
    obtain ⟨ds, ed, ho⟩ := ho.ofO
    obtain ⟨A, vs, rfl, h1, r1⟩ := seqD_ok w1 rv ex ed
    exact ⟨A, vs, rfl, h1.symm, fun l hl => ho M1 H1 (Ext.refl M1) w1 vs l r1 hl⟩⟩
theorem rgV_D {K : PySem.W.Frag} {M : Fm} (lo hi : Int) : RpL K M (rgV lo hi) (rngD lo (hi - lo).toNat) := by
  unfold rgV rngD
  generalize (hi - lo).toNat = n
  have key : ∀ l : List Nat, RpL K M (l.map fun i => V.int (lo + (i : Nat))) (l.map fun i => D.int (lo + (i : Nat))) := by
    intro l
    induction l with
    | nil => exact .nil
    | cons x l ih => exact .cons (.int _) ih
  exact key _
theorem ld_listR1 {p2 pos2 : Pos} (hc : X.calm = true) (hg : Gl X "list") (hm : X.mg "list" = none) (hg2 : Gl X "range") (hm2 : X.mg "range" = none) (ha : PE X a (TEd X C T XW f))
    (hs : starEach [a] X.env = (false, eval a X.env) :: starEach [] X.env := by rfl) (hs2 : starEach [.Call (.Name "range" p2) [a] [] pos2] X.env = (false, eval (.Call (.Name "range" p2) [a] [] pos2) X.env) :: starEach [] X.env := by rfl) :
    PE X (.Call (.Name "list" p) [.Call (.Name "range" p2) [a] [] pos2] [] pos) (TLd X C T XW (sListR1 f)) :=
  PEimp (pe_listRg hc hg hm (prg_1 hg2 hm2 ha hs) hs2) fun σ H Q ⟨M, ρ, S, he, hw, ho⟩ => ⟨M, ρ, S, he, hw, ho.bind.mono fun x S1 M1 H1 x1 w1 ho v rv => by
    obtain ⟨j, e1, ho⟩ := ho.ofO
    obtain ⟨hl, ho⟩ := ite_ok ho
    refine ⟨j, wI_ok rv e1, ⟨by omega, by omega, by omega, by omega, by omega⟩, fun q hq => ho M1 H1 (Ext.refl M1) w1 _ q ?_ hq⟩
    have := rgV_D (K := X.K) (M := M1) 0 j
    rw [Int.sub_zero] at this
    exact this⟩
theorem strsD_ok {K : PySem.W.Frag} {M : Fm} : ∀ {vs : List V} {ds : List D} {ys : List Str}, RpL K M vs ds → strsD ds = some ys → vs = ys.map V.str
  | _, _, _, .nil, h => by cases h; rfl
  | _, _, _, .cons (d := d) a r, h => by
    cases a with
    | str x =>
      unfold strsD at h
      cases e : strsD _ with
      | none => rw [e] at h; cases h
      | some ys =>
        rw [e] at h
        cases h
        rw [strsD_ok r e]
        rfl
    | _ => cases h
theorem wS_ok {K : PySem.W.Frag} {M : Fm} {v : V} {x : W} {i : Str} (r : RpW K M v x) (h : wS x = some i) : v = .str i := by
  cases r with
  | v r => cases r <;> cases h; rfl
  | p _ => cases h
  | c _ => cases h
theorem wP_ok {K : PySem.W.Frag} {M : Fm} {v : V} {x : W} {i : Nat} (r : RpW K M v x) (h : wP x = some i) : ∃ a, v = .ref a ∧ M.as[i]? = some a := by
  cases r with
  | v r => cases h
  | @p j a e => cases h; exact ⟨a, rfl, e⟩
  | c _ => cases h
theorem wD_ok {K : PySem.W.Frag} {M : Fm} {v : V} {x : W} {d : D} (r : RpW K M v x) (h : wD x = some d) : Rp K M v d := by
  cases r with
  | v r => cases h; exact r
  | p _ => cases h
  | c _ => cases h
theorem cellL_ok {S : Sto} {i : Nat} {ds : List D} (h : cellL S i = some ds) : S[i]? = some (.lst ds) := by
  unfold cellL at h
  split at h
  · rename_i q; cases h; exact q
  · cases h
theorem ed_join (ha : PE X a (TEd X C T XW f)) (hb : PE X b (TEd X C T XW g)) (hs : starEach [b] X.env = [(false, eval b X.env)] := by rfl) (hbase : attributeBase a "join" X.env (eval a X.env) = eval a X.env := by rfl) (hline : (apos.endLine == pos.line) = true := by rfl) :
    PE X (.Call (.Attribute a "join" apos) [b] [] pos) (TEd X C T XW (sJoin f g)) :=
  PEimp (pe_join ha hb hs hbase hline) fun σ H Q ⟨M, ρ, S, he, hw, ho⟩ => ⟨M, ρ, S, he, hw, ho.bind.mono fun x S1 M1 H1 x1 w1 ho v rv => by
    obtain ⟨t, et, ho⟩ := ho.ofO
    obtain rfl := wS_ok rv et
    exact ⟨⟨t, rfl⟩, M1, ρ, S1, he.mono x1, w1, ho.bind.mono fun y S2 M2 H2 x2 w2 ho u ru => by
      obtain ⟨dy, ey, ho⟩ := ho.ofO
      obtain ⟨ds, ed, ho⟩ := ho.ofO
      obtain ⟨ys, es, ho⟩ := ho.ofO
      obtain ⟨hl, ho⟩ := ite_ok ho
      obtain ⟨A, vs, rfl, h1, r1⟩ := seqD_ok w2 ru ey ed
      obtain rfl := strsD_ok r1 es
      exact ⟨t, A, ys, rfl, rfl, h1.symm, hl, fin ho _ _ (vkd_str w2)⟩⟩⟩
theorem strs_rp {K : PySem.W.Frag} {M : Fm} : ∀ {ys : List Str}, RpL K M (ys.map V.str) (ys.map D.str)
  | [] => .nil
  | y :: ys => .cons (.str y) strs_rp
theorem ld_split (ha : PE X a (TEd X C T XW f)) (hb : PE X b (TEd X C T XW g)) (hs : starEach [b] X.env = [(false, eval b X.env)] := by rfl) (hbase : attributeBase a "split" X.env (eval a X.env) = eval a X.env := by rfl) (hline : (apos.endLine == pos.line) = true := by rfl) :
    PE X (.Call (.Attribute a "split" apos) [b] [] pos) (TLd X C T XW (sSplit f g)) :=
  PEimp (pe_split ha hb hs hbase hline) fun σ H Q ⟨M, ρ, S, he, hw, ho⟩ => ⟨M, ρ, S, he, hw, ho.bind.mono fun x S1 M1 H1 x1 w1 ho v rv => by
    obtain ⟨t, et, ho⟩ := ho.ofO
    obtain rfl := wS_ok rv et
    exact ⟨⟨t, rfl⟩, M1, ρ, S1, he.mono x1, w1, ho.bind.mono fun y S2 M2 H2 x2 w2 ho u ru => by
      obtain ⟨t2, et2, ho⟩ := ho.ofO
      obtain ⟨hl, ho⟩ := ite_ok ho
      obtain rfl := wS_ok ru et2
      refine ⟨t, t2, rfl, rfl, hl.1, ?_, fun p hp => ho M2 H2 (Ext.refl M2) w2 _ p strs_rp hp⟩
      rw [sizeLine_eq]
      have h2 := hl.2
      unfold LIM at h2
      omega⟩⟩
theorem ed_count (ha : PE X a (TEd X C T XW f)) (hb : PE X b (TEd X C T XW g)) (hs : starEach [b] X.env = [(false, eval b X.env)] := by rfl) (hbase : attributeBase a "count" X.env (eval a X.env) = eval a X.env := by rfl) (hline : (apos.endLine == pos.line) = true := by rfl) :
    PE X (.Call (.Attribute a "count" apos) [b] [] pos) (TEd X C T XW (sCount f g)) :=
  PEimp (pe_m1 PySem.F.slot_str_count PySem.F.type_str_count mt_count ha hb hs hbase hline) fun σ H Q ⟨M, ρ, S, he, hw, ho⟩ => ⟨M, ρ, S, he, hw, ho.bind.mono fun x S1 M1 H1 x1 w1 ho v rv => by
    obtain ⟨t, et, ho⟩ := ho.ofO
    obtain rfl := wS_ok rv et
    exact ⟨⟨t, rfl⟩, M1, ρ, S1, he.mono x1, w1, ho.bind.mono fun y S2 M2 H2 x2 w2 ho u ru => by
      obtain ⟨t2, et2, ho⟩ := ho.ofO
      obtain rfl := wS_ok ru et2
      exact ⟨t, t2, rfl, rfl, fin ho _ _ (vkd_int w2)⟩⟩⟩
theorem PETimp {t t' : TE} (h : L2.PET X e t) (k : ∀ σ H Q, t' σ H Q → t σ H Q) : L2.PET X e t' := fun pins s σ H Q h0 I q => h pins s σ H Q h0 I (k σ H Q q)
theorem repl_in {y z : Str} {σ : L2.St} {H : Hp} {Q : VK} (h : TEd X C T XW (sRepl f y z) σ H Q) : CwR.tReplC (TEd X C T XW f) y z σ H Q := by
  obtain ⟨M, ρ, S, he, hw, ho⟩ := h
  exact ⟨M, ρ, S, he, hw, ho.bind.mono fun x S1 M1 H1 x1 w1 ho v rv => by
    obtain ⟨t, et, ho⟩ := ho.ofO
    obtain ⟨hl, ho⟩ := ite_ok ho
    exact ⟨t, wS_ok rv et, hl, fin ho _ _ (vkd_str w1)⟩⟩
theorem ed_repl {y z : Str} {j k : Nat} {c0 c1 : Pos} (ha : PE X a (TEd X C T XW f)) (hyz : (y == z) = false := by decide)
    (hst : starEach [.Constant (.str y) j c0, .Constant (.str z) k c1] X.env = [(false, eval (.Constant (.str y) j c0) X.env), (false, eval (.Constant (.str z) k c1) X.env)] := by rfl)
    (hbase : attributeBase a "replace" X.env (eval a X.env) = eval a X.env := by rfl) (hline : (apos.endLine == pos.line) = true := by rfl) :
    L2.PET X (.Call (.Attribute a "replace" apos) [.Constant (.str y) j c0, .Constant (.str z) k c1] [] pos) (TEd X C T XW (sRepl f y z)) :=
  PETimp (CwR.pet_replC ha hyz hst hbase hline) fun σ H Q h => repl_in h
theorem ed_replT {y z : Str} {j k : Nat} {c0 c1 : Pos} (ha : L2.PET X a (TEd X C T XW f)) (hyz : (y == z) = false := by decide)
    (hst : starEach [.Constant (.str y) j c0, .Constant (.str z) k c1] X.env = [(false, eval (.Constant (.str y) j c0) X.env), (false, eval (.Constant (.str z) k c1) X.env)] := by rfl)
    (hbase : attributeBase a "replace" X.env (eval a X.env) = eval a X.env := by rfl) (hline : (apos.endLine == pos.line) = true := by rfl) :
    L2.PET X (.Call (.Attribute a "replace" apos) [.Constant (.str y) j c0, .Constant (.str z) k c1] [] pos) (TEd X C T XW (sRepl f y z)) :=
  PETimp (CwR.pet_replT ha hyz hst hbase hline) fun σ H Q h => repl_in h
/-- 'c' op x, the text ahead makes the first token -/
theorem ed_constT {op : Operator} {cst : Str} {j : Nat} {p1 : Pos} (hb : L2.PET X b (TEd X C T XW g)) : PE X (.BinOp (.Constant (.str cst) j p1) op b pos) (TEd X C T XW (sBin op (sC (.str cst)) g)) := by
  refine ⟨fun pins s σ H Q I h => ?_⟩
  obtain ⟨M, ρ, S, he, hw, ho⟩ := h
  have ho2 : Out X C T XW ((sC (.str cst) ρ S).bind fun x S1 => (g ρ S1).bind fun y S2 => ofO (derefW S2 x) fun dx => ofO (derefW S2 y) fun dy => ofO (binD op dx dy) fun d => .ok (.v d) S2) M (fun a _ M' H' => ∀ v, RpW X.K M' v a → Q v H') := ho
  refine wpAny_BinOp (Calls.Constant_str ?_)
  refine thn (hb pins _ σ H (fun w H2 => rUp X (binaryOp op) (.str cst) w H2 Q) (Nat.le_add_left 1 s.toks) (I.tok _) ⟨M, ρ, S, he, hw, (show Out X C T XW ((g ρ S).bind _) M _ from ho2).bind.mono fun y S2 M2 H2 x2 w2 ho w rw => ?_⟩) fun u s2 ⟨y, H2, I2, r2, q2⟩ => rUp_ok pins s2 σ H2 (.str cst) y _ u Q I2 ⟨_, rfl⟩ r2 q2
  obtain ⟨dx, ex, ho⟩ := ho.ofO
  obtain ⟨dy, ey, ho⟩ := ho.ofO
  obtain ⟨d, ed, ho⟩ := ho.ofO
  exact ⟨_, binD_ok w2 (.v (.str cst)) rw ex ey ed, fin ho⟩
theorem fmtD_ok {K : PySem.W.Frag} {M : Fm} {v : V} {x : W} {y : Str} (r : RpW K M v x) (h : fmtD x = some y) : (v = .str y ∧ y.length ≤ sizeLine) ∨ ∃ i : Int, v = .int i ∧ i.natAbs.log2 < 1920 ∧ y = Str.ofString (toString i) := by
  cases r with
  | v r =>
    cases r with
    | str z =>
      have h : (if z.length ≤ LIM then some z else none) = some y := h
      split at h
      · cases h; exact .inl ⟨rfl, lim_line (by assumption)⟩
      · cases h
    | int i =>
      have h : (if i.natAbs.log2 < 1920 then some (Str.ofString (toString i)) else none) = some y := h
      split at h
      · cases h; exact .inr ⟨i, rfl, by assumption, rfl⟩
      · cases h
    | _ => cases h
  | p _ => cases h
  | c _ => cases h
theorem ed_fmt (ha : PE X a (TEd X C T XW f)) : PE X (.FormattedValue a (-1) none pos) (TEd X C T XW (sFmt f)) :=
  PEimp (pe_fmt ha) fun σ H Q ⟨M, ρ, S, he, hw, ho⟩ => ⟨M, ρ, S, he, hw, ho.bind.mono fun x S1 M1 H1 x1 w1 ho v rv => by
    obtain ⟨t, et, ho⟩ := ho.ofO
    rcases fmtD_ok rv et with ⟨rfl, hl⟩ | ⟨i, rfl, hl, rfl⟩
    · exact .inl ⟨t, rfl, hl, fin ho _ _ (vkd_str w1)⟩
    · exact .inr ⟨i, rfl, hl, fin ho _ _ (vkd_str w1)⟩⟩
/-- the parts -/
inductive PJd (X : Cx) (C : ClsAt) (T : List Addr) (XW : WX) : List Expr → List SE → Prop where
  | nil : PJd X C T XW [] []
  | cons {e : Expr} {f : SE} {es : List Expr} {fs : List SE} (h : PE X e (TEd X C T XW f)) (r : PJd X C T XW es fs) : PJd X C T XW (e :: es) (f :: fs)
theorem PJd.pj {es : List Expr} {fs : List SE} (h : PJd X C T XW es fs) : PJ X es (fs.map (TEd X C T XW)) := by
  induction h with
  | nil => exact .nil
  | cons h _ ih => exact .cons h ih
theorem js_in {σ : L2.St} {ρ : Env} : ∀ (fs : List SE) (acc : Str) (S : Sto) (M : Fm) (H : Hp) (Q : Str → Hp → Prop), EnvR X.K M σ ρ → WS X.K C T M S H → Out X C T XW (sJs fs acc ρ S) M (fun out _ M' H' => Q out H') → tJs (fs.map (TEd X C T XW)) acc σ H Q
  | [], acc, S, M, H, Q, he, hw, ho => ho M H (Ext.refl M) hw
  | f :: fs, acc, S, M, H, Q, he, hw, ho => by
    have ho : Out X C T XW ((f ρ S).bind fun x S1 => ofO (wS x) fun y => if (acc ++ y).length ≤ LIM then sJs fs (acc ++ y) ρ S1 else .no) M (fun out _ M' H' => Q out H') := ho
    exact ⟨M, ρ, S, he, hw, ho.bind.mono fun x S1 M1 H1 x1 w1 ho v rv => by
      obtain ⟨t, et, ho⟩ := ho.ofO
      obtain ⟨hl, ho⟩ := ite_ok ho
      exact ⟨t, wS_ok rv et, lim_line hl, js_in fs (acc ++ t) S1 M1 H1 Q (he.mono x1) w1 ho⟩⟩
theorem ed_joined {v1 v2 : Expr} {rest : List Expr} {fs : List SE} (h : PJd X C T XW (v1 :: v2 :: rest) fs) : PE X (.JoinedStr (v1 :: v2 :: rest) pos) (TEd X C T XW (sJoined fs)) :=
  PEimp (pe_joined h.pj) fun σ H Q ⟨M, ρ, S, he, hw, ho⟩ => js_in fs Str.empty S M H _ he hw (ho.bind.mono fun out S1 M1 H1 x1 w1 ho => fin ho _ _ (vkd_str w1))
theorem ed_append (ha : PE X a (TEd X C T XW f)) (hb : PE X b (TEd X C T XW g)) (hbase : attributeBase a "append" X.env (eval a X.env) = eval a X.env := by rfl)
    (hs1 : starEach [b] X.env = (false, eval b X.env) :: starEach [] X.env := by rfl)
    (hfew : ((backTo pos (starEach [b] X.env)).all (fun x => !x.1) && (backToKw pos (keywordEach [] X.env)).all (fun x => x.1.isSome)
      && decide ([b].length + ([] : List Keyword).length + (if ([] : List Keyword).isEmpty then 0 else 1) < 30)) = true := by rfl)
    (hline : (apos.endLine == pos.line) = true := by rfl) : PE X (.Call (.Attribute a "append" apos) [b] [] pos) (TEd X C T XW (sApp f g)) :=
  PEimp (pe_bm PySem.F.plainAttrs_list PySem.F.slot_list_append PySem.F.type_list_append mt_append ha (pa_cons hb pa_nil hs1) hbase hfew hline hs1 rfl) fun σ H Q ⟨M, ρ, S, he, hw, ho⟩ => ⟨M, ρ, S, he, hw, ho.bind.mono fun x S1 M1 H1 x1 w1 ho v rv => by
    obtain ⟨cc, ec, ho⟩ := ho.ofO
    obtain ⟨ds0, e0, ho⟩ := ho.ofO
    obtain ⟨A, rfl, eA⟩ := wP_ok rv ec
    obtain ⟨cl, ecl, cr⟩ := w1.at_lt eA
    rw [cellL_ok e0] at ecl
    cases ecl
    obtain ⟨_, vs0, hH0, _⟩ := cr
    refine ⟨.inl ⟨rfl, vs0, SqL.of hH0⟩, M1, ρ, S1, he.mono x1, w1, ho.bind.mono fun y S2 M2 H2 x2 w2 ho u ru => ?_⟩
    obtain ⟨d, ed, ho⟩ := ho.ofO
    obtain ⟨ds, e1, ho⟩ := ho.ofO
    obtain ⟨hl, ho⟩ := ite_ok ho
    have eA2 := pre_get x2.as eA
    obtain ⟨cl, ecl, cr⟩ := w2.at_lt eA2
    rw [cellL_ok e1] at ecl
    cases ecl
    obtain ⟨hF, vs, hH, rl⟩ := cr
    have ry := wD_ok ru ed
    refine ⟨A, vs, u, rfl, rfl, hH, lim_lt (by rw [rl.length]; omega), ?_⟩
    have w3 := w2.put (o := .lst (vs ++ [u])) (d := .lst (ds ++ [d])) eA2 (cellL_ok e1) (fun z => by cases z) ⟨hF, _, upd_same, rl.append (.cons ry .nil)⟩
    exact ho _ _ (Ext.refl M2) w3 .non (.v .non)⟩
end
end Dy
set_option Elab.async false
set_option linter.all false
set_option maxRecDepth 100000
set_option maxHeartbeats 2000000
/-! Dy3k: x[::-1]. -/
namespace Dy
open PySem PySem.Spec PyProof.Rows L2
section
variable {X : Cx} {C : ClsAt} {T : List Addr} {XW : WX} {e : Expr} {f : SE} {pos : Pos}
def tRevA (K : PySem.W.Frag) (te : TE) : TE := fun σ H Q => te σ H fun x H1 => (∃ a xs, x = .ref a ∧ SqL K H1 a xs ∧ ∀ p, H1 p = none → Q (.ref p) (upd H1 p (.lst xs.reverse))) ∨
  ∃ z, x = .str z ∧ z.length ≤ sizeLine ∧ (revS z).length ≤ sizeLine ∧ Q (.str (revS z)) H1
theorem pe_revA {te : TE} {k : Nat} {p1 p2 p3 : Pos} (he : PE X e te) : PE X (.Subscript e (.Slice none none (some (.UnaryOp .USub (.Constant (.int 1) k p1) p2)) p3) pos) (tRevA X.K te) := by
  refine ⟨fun pins s σ H Q I h => ?_⟩
  refine Subscript_ (thn (he.run pins s σ H _ I h) fun v s1 ⟨x, H1, I1, r1, q1⟩ => ?_)
  have hst : PO X (some (.UnaryOp .USub (.Constant (.int 1) k p1) p2)) (tPart (tUn (rU fun i => .int (-i)) (tC (.int 1)))) := po_some (pe_un un_neg pe_int)
  refine wpAny_Slice (thn (po_none.run pins s1 σ H1 (fun o H2 => o = none ∧ H2 = H1) I1 ⟨rfl, rfl⟩) fun vl s2 ⟨l, H2, I2, pl, el, e2⟩ => ?_)
  subst el e2
  refine thn (po_none.run pins s2 σ H2 (fun o H3 => o = none ∧ H3 = H2) I2 ⟨rfl, rfl⟩) fun vu s3 ⟨u, H3, I3, pu, eu, e3⟩ => ?_
  subst eu e3
  refine thn (hst.run pins s3 σ H3 (fun o H4 => o = some (-1) ∧ H4 = H3) I3 ⟨1, rfl, -1, rfl, rfl, rfl⟩) fun vs s4 ⟨o, H4, I4, ps, eo, e4⟩ => ?_
  subst eo e4
  have I5 : Inv X pins σ H4 { s4 with heap := s4.heap.push { cls := .type "slice", data := .fields #[vl, vu, vs] } } := I4.kept (t' := s4.toks) fun b ob q => Heap.get?_push_of_some _ q
  rcases q1 with ⟨a, xs, ex, hx, q⟩ | ⟨z, ex, hz, hr, q⟩
  · subst ex
    cases r1
    obtain ⟨its, r, ht, hz⟩ := I5.list hx
    have hlen := r.length
    show wpAny (model X.prog X.w) X.A (subscriptTail e (.Slice none none (some (.UnaryOp .USub (.Constant (.int 1) k p1) p2)) p3) (.ref a) (.ref s4.heap.objs.size)) (EP X pins σ Q) X.xe { s4 with heap := s4.heap.push { cls := .type "slice", data := .fields #[vl, vu, vs] } }
    refine tail_any (ops := [.ref a, .ref s4.heap.objs.size]) ht.isList.typeIs (PySem.slot_list_getitem.lookup) ?_ (by with_unfolding_all rfl)
    refine wpAny_getItem_list_slice ht.isList (Heap.IsSliceOf.new _ vl vu vs) pl pu ps (by decide) ?_ (by rw [List.size_toArray]; omega)
    rw [PySem.W.krv_pick]
    refine ⟨.ref _, _, I5.laid (t' := s4.toks) (o := .lst xs.reverse) (fun b ob q => Heap.get?_push_of_some _ q) (Nat.le_refl _) ?_, rfl, q _ (I5.hok.fresh (Nat.le_refl _))⟩
    exact ⟨by rw [List.length_reverse]; exact hz, _, 0, r.reverse, Heap.get?_push_size _ rfl⟩
  · subst ex
    obtain ⟨t, rfl⟩ := r1
    obtain ⟨l', rfl, el⟩ := IsPart.raw pl
    obtain ⟨u', rfl, eu⟩ := IsPart.raw pu
    obtain ⟨s', rfl, es⟩ := IsPart.raw ps
    obtain rfl : l' = none := by cases l' with
      | none => rfl
      | some y => cases el
    obtain rfl : u' = none := by cases u' with
      | none => rfl
      | some y => cases eu
    obtain ⟨t', rfl⟩ : ∃ t', s' = some (-1, t') := by
      cases s' with
      | none => cases es
      | some y => obtain ⟨a, b⟩ := y; cases es; exact ⟨b, rfl⟩
    show wpAny (model X.prog X.w) X.A (subscriptTail e (.Slice none none (some (.UnaryOp .USub (.Constant (.int 1) k p1) p2)) p3) (.str z t) (.ref s4.heap.objs.size)) (EP X pins σ Q) X.xe { s4 with heap := s4.heap.push { cls := .type "slice", data := .fields #[partValue none, partValue none, partValue (some (-1, t'))] } }
    refine tail_any (T := "str") (ops := [.str z t, .ref s4.heap.objs.size]) (typeIs_str _ _ _) (PySem.F.slot_str_getitem.lookup) ?_ (by with_unfolding_all rfl)
    refine wpAny_getItem_str_slice (l := none) (u := none) (st := some (-1, t')) ⟨_, Heap.get?_push_size _ rfl, rfl, rfl⟩ (by rfl) ?_
    show (if (((-1 : Int) == 1) && (slicePicked z none none (some (-1, t'))).length == z.length) = true then Made.val (.str z t) else Made.str (revS z)).post (EP X pins σ Q) _
    rw [if_neg (by simp)]
    exact ⟨hr, .str (revS z), H4, I5.tok _, ⟨_, rfl⟩, q⟩
theorem ed_rev {k : Nat} {p1 p2 p3 : Pos} (ha : PE X e (TEd X C T XW f)) : PE X (.Subscript e (.Slice none none (some (.UnaryOp .USub (.Constant (.int 1) k p1) p2)) p3) pos) (TEd X C T XW (sRev f)) :=
  PEimp (pe_revA ha) fun σ H Q ⟨M, ρ, S, he, hw, ho⟩ => ⟨M, ρ, S, he, hw, ho.bind.mono fun x S1 M1 H1 x1 w1 ho v rv => by
    obtain ⟨dx, ex, ho⟩ := ho.ofO
    cases dx with
    | lst ds =>
      obtain ⟨a, vs, rfl, e1, r1⟩ := seqL w1 rv ex
      exact .inl ⟨a, vs, rfl, SqL.of e1, fun p hp => fin ho _ _ (vkd_lst w1 r1.reverse p hp)⟩
    | str z =>
      obtain ⟨hl, ho⟩ := ite_ok ho
      obtain rfl := atomS w1 rv ex
      exact .inr ⟨z, rfl, lim_line hl.1, lim_line hl.2, fin ho _ _ (vkd_str w1)⟩
    | _ => exact ho.elim⟩
end
end Dy
set_option Elab.async false
set_option linter.all false
set_option maxRecDepth 100000
set_option maxHeartbeats 2000000
/-! Dy3l: defs whose code object is known; any, all of generator expressions. -/
namespace Dy
open PySem PySem.Spec PyProof.Rows L2
/-- a def as it stands behind the top, its code object named -/
def FunC (K : PySem.W.Frag) (x qual : Str) (st : Stmt) (f : Addr) (fd : FuncData) (cdv : Value) : Prop :=
  (∃ (oc : Value) (od : Option Addr) (kV doc pm : Value) (an : Option Addr) (ct : Value) (osl : Array (Option Value)),
    fd = PySem.W.fnOf x qual (defArgs st) (defBody st) (defScope st) .none kV doc pm an cdv ct ∧ K.lookup f = some ⟨oc, od, .func fd, osl⟩ ∧ PySem.W.codeIn K cdv qual = true) ∧ PySem.W.keepIn K (.ref f) = true
theorem FunC.fun {K : PySem.W.Frag} {x qual : Str} {st : Stmt} {f : Addr} {fd : FuncData} {cdv : Value} (F : FunC K x qual st f fd cdv) : Fun K x qual st f fd := by
  obtain ⟨⟨oc, od, kV, doc, pm, an, ct, osl, h⟩, kp⟩ := F
  exact ⟨⟨oc, od, kV, doc, pm, an, cdv, ct, osl, h⟩, kp⟩
section
variable {P : Program} {w : World} {K : PySem.W.Frag} {mg : Str → Option Value} {base : Heap} {C : ClsAt} {T : List Addr}
theorem fn_DC {x qual : Str} {st : Stmt} {f : Addr} {fd : FuncData} {cdv : Value} {N ps : List Str} {k np nN : Nat} {body : SS} (F : FunC K x qual st f fd cdv) (S : FnScope N ps (defScope st)) (hp : ps.length = np) (hN : N.length = nN)
    (hbody : ∀ (A : Around) (outer : List PySem.Env) (s : Shared) (H : Hp) (E : XK), Room k (bodyX P w K mg base N qual st f cdv A outer s H E).A →
      PSs (bodyX P w K mg base N qual st f cdv A outer s H E) (defBody st) (TSd (bodyX P w K mg base N qual st f cdv A outer s H E) C T (exW E) body)) : FnOk P w K mg base (L2.CX P w) (k + 1) f fd ps (spD K C T np (runF nN body)) := by
  subst hp hN
  obtain ⟨⟨oc, od, kV, doc, pm, an, ct, osl, rfl, lk, hcd⟩, _⟩ := F
  refine fn_of lk hcd S (fun vs H Q E h => h.1) fun A outer s H vs Q E hr h => ⟨_, hbody A outer s H E hr, ?_⟩
  obtain ⟨_, M, S0, ws, rws, hws, ho⟩ := h
  refine ⟨M, ws.map some ++ List.replicate (N.length - ws.length) none, S0, envR_start rws N, hws, ?_⟩
  unfold runF at ho
  show OutS (bodyX P w K mg base N qual st f cdv A outer s H E) C T (exW E) (body (ws.map some ++ List.replicate (N.length - ws.length) none) S0) M _
  revert ho
  generalize body (ws.map some ++ List.replicate (N.length - ws.length) none) S0 = r
  intro ho
  cases r with
  | nx ρ S1 => exact fun σ' M' H' x e w' => cut_back hws x w' rfl fun M2 x2 _ w2 => ho .non M2 H' x2 (.v .non) w2
  | ret wv S1 =>
    cases wv with
    | v d => exact fun v M' H' x r w' => cut_back hws x w' rfl fun M2 x2 kr w2 => ho v M2 H' x2 (by cases r with | v r => exact .v (kr _ _ r)) w2
    | p i => exact fun v M' H' x r w' => ho v M' H' x r w'
    | c i => exact fun v M' H' x r w' => ho v M' H' x r w'
  | brk ρ S1 => exact ho.elim
  | cnt ρ S1 => exact ho.elim
  | exc c fs S1 => exact fun cls d σ' M' H' x w' e => ho cls d M' H' x w' e
  | no => exact ho.elim
/-- a def's promise, all of it -/
theorem fnP_DC {x : Str} {st : Stmt} {f : Addr} {fd : FuncData} {cdv : Value} {N ps : List Str} {k np nN : Nat} {body : SS} (F : FunC K x x st f fd cdv) (hm : mg x = some (.ref f)) (S : FnScope N ps (defScope st)) (hp : ps.length = np) (hN : N.length = nN)
    (hbd : ∀ (kV doc pm : Value) (an : Option Addr) (cdv ct : Value) (us : List Value), us.length = ps.length → bindArgs (PySem.W.fnOf x x (defArgs st) (defBody st) (defScope st) .none kV doc pm an cdv ct) ⟨us, []⟩ = pure (ps.zip us))
    (hbody : ∀ (A : Around) (outer : List PySem.Env) (s : Shared) (H : Hp) (E : XK), Room k (bodyX P w K mg base N x st f cdv A outer s H E).A →
      PSs (bodyX P w K mg base N x st f cdv A outer s H E) (defBody st) (TSd (bodyX P w K mg base N x st f cdv A outer s H E) C T (exW E) body)) : FnP P w K mg base C T (k + 1) x np (runF nN body) :=
  fnP_of hp (fn_DC F S hp hN hbody) hm F.2 (F.fun.binds hbd)
end

/-! ### any, all of a generator expression -/
def anyL (stopAt : Bool) (γ : ST) (cond : SB) (elt : SE) (ρ0 : Env) : List D → Sto → Res Bool
  | [], S => .ok (!stopAt) S
  | d :: ds, S => (γ (.v d) ρ0 S).calm.bind fun ρ2 S1 => (cond ρ2 S1).calm.bind fun b S2 =>
      if b = true then (elt ρ2 S2).calm.bind fun w S3 => ofO (wB w) fun k => if k = stopAt then .ok stopAt S3 else anyL stopAt γ cond elt ρ0 ds S3
      else anyL stopAt γ cond elt ρ0 ds S2
def sAny (stopAt : Bool) (it : SL) (γ : ST) (cond : SB) (elt : SE) (vs : List Nat) : SE := fun ρ S => (it ρ S).bind fun ds S1 => (anyL stopAt γ cond elt (wipeD ρ vs) ds S1).bind fun b S2 => .ok (.v (.bl b)) S2
section
variable {X : Cx} {Cd : ClsAt} {T : List Addr} {XW : WX} {elt tg iter : Expr} {ifs : List Expr} {scope : Scope} {gpos : Pos} {c P : Addr} {own : List (Str × Nat)} {fl : SL} {γ : ST} {fc : SB} {fe : SE} {gv : List Nat} {k : Nat} {p pos : Pos}
theorem WS.tabbed {M : Fm} {S : Sto} {H H2 : Hp} (w : WS X.K Cd T M S H) (hP : P ∈ T) (t : GxR.Tabbed P H H2) : WS X.K Cd T M S H2 := by
  obtain ⟨hF, hA, hG, _⟩ := w.tab P hP
  have ne : ∀ {b : Addr}, b ≠ P → H2 b = H b := fun h => t.2 _ h
  refine ⟨fun b u e => by rw [ne (fun z => by rw [z, hF] at e; cases e)]; exact w.le _ _ e, w.nd, w.len, fun i a d e1 e2 => ?_, fun P' hP' => ?_, fun b u e => ?_⟩
  · have c := w.cell i a d e1 e2
    have ha : a ≠ P := fun z => hA (z ▸ List.mem_of_getElem? e1)
    exact CellR.mono (Ext.refl M) c.out (fun u' e' => by rw [ne ha]; exact e') c
  · obtain ⟨h1, h2, h3, ps, h4, h5⟩ := w.tab P' hP'
    by_cases h : P' = P
    · subst h
      obtain ⟨ps', h6, h7⟩ := t.1
      exact ⟨h1, h2, h3, ps', h6, h7⟩
    · exact ⟨h1, h2, h3, ps, by rw [ne h]; exact h4, h5⟩
  · obtain ⟨h1, h2, h3⟩ := w.gd b u e
    exact ⟨by rw [ne (fun z => by rw [z, hG] at e; cases e)]; exact h1, h2, h3⟩
theorem ed_anyG {nm : Str} (stopAt : Bool) (hnm : (stopAt = true ∧ nm = "any") ∨ (stopAt = false ∧ nm = "all")) (hr : Room (k + 1) X.A) (hcl : X.calm = true) (hg0 : Gl X nm) (hm : X.mg nm = none) (hP : P ∈ T)
    (TB : GxR.TabB X.base X.mg c P) (hcode : X.env.code = .ref c) (ok : BlkOk X.N X.env.scope scope own) (hN : X.N.Nodup) (hco : scope.isCoroutine = false) (hcell : ∀ y ∈ scope.names, y.2 ≠ .cell)
    (hdot : scope.names.lookup (".0" : Str) = some NameKind.local) (hgv : ∀ i ∈ gv, i ∈ own.map (·.2)) (hi : PI X tg iter (TId X Cd T XW fl)) (hs : ∀ v, genFold iter X.env v = pure v)
    (hg : ∀ (s : Shared) (H : Hp) (C : Addr) (cl : List (Str × Addr)) (code : Value) (A' : Around) (fp : List Addr), Room k A' → PG (gcx X s H (genEnv scope cl C code builtinsNs X.env) A' fp) tg (TGd (gcx X s H (genEnv scope cl C code builtinsNs X.env) A' fp) Cd T XN gv γ))
    (ht : ∀ (s : Shared) (H : Hp) (C : Addr) (cl : List (Str × Addr)) (code : Value) (A' : Around) (fp : List Addr), Room k A' → PTs (gcx X s H (genEnv scope cl C code builtinsNs X.env) A' fp) ifs (TTd (gcx X s H (genEnv scope cl C code builtinsNs X.env) A' fp) Cd T XN fc))
    (he : ∀ (s : Shared) (H : Hp) (C : Addr) (cl : List (Str × Addr)) (code : Value) (A' : Around) (fp : List Addr), Room k A' → PE (gcx X s H (genEnv scope cl C code builtinsNs X.env) A' fp) elt (TEd (gcx X s H (genEnv scope cl C code builtinsNs X.env) A' fp) Cd T XN fe)) :
    PE X (.Call (.Name nm p) [.GeneratorExp elt [⟨tg, iter, ifs, 0⟩] scope gpos] [] pos) (TEd X Cd T XW (sAny stopAt fl γ fc fe (own.map (·.2)))) :=
  PEimp (pe_anyG (g := TGd X Cd T XN gv γ) (tt := TTd X Cd T XN fc) (te := TEd X Cd T XN fe) hnm hr hcl hg0 hm TB hcode ok hN hco hcell hdot hi hs hg ht he) fun σ H Q ⟨M, ρ, S, he, hw, ho⟩ => ⟨M, ρ, S, he, hw, ho.bind.mono fun ds S1 M1 H1 x1 w1 ho J hJ => by
    obtain ⟨_, _, _, hT⟩ := w1.tab P hP
    refine ⟨hT, fun H2 tb => ?_⟩
    have w2 := w1.tabbed hP tb
    have e1 := he.mono x1
    have ho : Out X Cd T XW (anyL stopAt γ fc fe (wipeD ρ (own.map (·.2))) ds S1) M1 (fun b _ M' H' => Q (.bl b) H') := ho.bind.mono fun b S2 M2 H2 x2 w2 ho => fin ho _ _ (vkd_bl w2)
    refine ⟨fun i j m H => ∃ M S, Ext M1 M ∧ WS X.K Cd T M S H ∧ m = ds.length - i ∧ Out X Cd T XW (anyL stopAt γ fc fe (wipeD ρ (own.map (·.2))) (ds.drop i) S) M (fun b _ M' H' => Q (.bl b) H'),
      ds.length, ⟨M1, S1, Ext.refl M1, w2, rfl, ho⟩, fun i j m H ⟨M2, S2, x2, w2, hm, ho⟩ => ?_⟩
    obtain ⟨h1, h2⟩ := hJ M2 S2 H x2.sub w2 i
    cases q : ds[i]? with
    | none =>
      have hl := List.getElem?_eq_none_iff.mp q
      refine .inl ⟨h2 hl, ?_⟩
      rw [List.drop_eq_nil_of_le hl] at ho
      exact ho M2 H (Ext.refl M2) w2
    | some d =>
      obtain ⟨go, hy⟩ := h1 d q
      have hlt := (List.getElem?_eq_some_iff.mp q).1
      rw [drop_at q] at ho
      have nx : ∀ H', (∃ M S, Ext M1 M ∧ WS X.K Cd T M S H' ∧ Out X Cd T XW (anyL stopAt γ fc fe (wipeD ρ (own.map (·.2))) (ds.drop (i + 1)) S) M (fun b _ M' H' => Q (.bl b) H')) → ∃ m', m' < m ∧ ∃ M S, Ext M1 M ∧ WS X.K Cd T M S H' ∧ m' = ds.length - (i + 1) ∧ Out X Cd T XW (anyL stopAt γ fc fe (wipeD ρ (own.map (·.2))) (ds.drop (i + 1)) S) M (fun b _ M' H' => Q (.bl b) H') := fun H' ⟨M, S, a1, a2, a3⟩ => ⟨ds.length - (i + 1), by omega, M, S, a1, a2, rfl, a3⟩
      refine .inr ⟨go, _, _, nx, nx, fun x H' hyl => ?_⟩
      obtain ⟨M3, x3, w3, r3⟩ := hy x H' hyl
      have eW : EnvR X.K M3 (wipe σ (own.map (·.2))) (wipeD ρ (own.map (·.2))) := ((e1.mono x2).mono x3).wiped _
      have ho : Out X Cd T XW ((γ (.v d) (wipeD ρ (own.map (·.2))) S2).calm.bind fun ρ2 S1 => (fc ρ2 S1).calm.bind fun b S2 =>
        if b = true then (fe ρ2 S2).calm.bind fun w S3 => ofO (wB w) fun k => if k = stopAt then .ok stopAt S3 else anyL stopAt γ fc fe (wipeD ρ (own.map (·.2))) (ds.drop (i + 1)) S3
        else anyL stopAt γ fc fe (wipeD ρ (own.map (·.2))) (ds.drop (i + 1)) S2) M2 (fun b _ M' H' => Q (.bl b) H') := ho
      obtain ⟨ρ4, S4, q4, ho⟩ := out_ok (G := fun _ _ _ _ => True) ho
      obtain ⟨b, S5, q5, ho⟩ := out_ok (G := fun _ _ _ _ => True) ho
      refine ⟨M3, _, S2, .v d, eW, w3, .v r3, ?_⟩
      rw [q4]
      intro M4 H4 x4 w4 σ4 e4 l4 o4
      refine ⟨(same_wipe l4 fun j hj => o4 j fun z => hj (hgv j z)).trans (wipe_idem σ _), M4, ρ4, S4, e4, w4, ?_⟩
      show Out X Cd T XN (fc ρ4 S4) M4 _
      rw [q5]
      intro M5 H5 x5 w5
      have x25 := (x3.trans x4).trans x5
      cases b with
      | true =>
        have ho : Out X Cd T XW ((fe ρ4 S5).calm.bind fun w S3 => ofO (wB w) fun k => if k = stopAt then .ok stopAt S3 else anyL stopAt γ fc fe (wipeD ρ (own.map (·.2))) (ds.drop (i + 1)) S3) M2 (fun b _ M' H' => Q (.bl b) H') := ho
        obtain ⟨w, S6, q6, ho⟩ := out_ok (G := fun _ _ _ _ => True) ho
        obtain ⟨y, q7, ho⟩ := ho.ofO
        refine ⟨M5, ρ4, S5, e4.mono x5, w5, ?_⟩
        show Out X Cd T XN (fe ρ4 S5) M5 _
        rw [q6]
        intro M6 H6 x6 w6 v rv
        refine ⟨y, wB_ok rv q7, ?_⟩
        by_cases hk : y = stopAt
        · rw [if_pos hk] at ho ⊢
          exact ho M6 H6 (x25.trans x6) w6
        · rw [if_neg hk] at ho ⊢
          exact ⟨M6, S6, (x2.trans x25).trans x6, w6, Out.back (x25.trans x6) ho⟩
      | false => exact ⟨M5, S5, x2.trans x25, w5, Out.back x25 ho⟩⟩
end
end Dy
set_option Elab.async false
set_option linter.all false
set_option maxRecDepth 100000
set_option maxHeartbeats 2000000
/-! Dy3m: isinstance, min and max of two; short forms. -/
namespace Dy
open PySem PySem.Spec PyProof.Rows L2
inductive Ty5 where
  | int | bool | str | tup | lst
def nmT : Ty5 → String
  | .int => "int"
  | .bool => "bool"
  | .str => "str"
  | .tup => "tuple"
  | .lst => "list"
inductive Ty6 where
  | non | bool | int | str | tup | lst
def nm6 : Ty6 → String
  | .non => "NoneType"
  | .bool => "bool"
  | .int => "int"
  | .str => "str"
  | .tup => "tuple"
  | .lst => "list"
def is6 : Ty5 → Ty6 → Bool
  | .int, .int => true
  | .int, .bool => true
  | .bool, .bool => true
  | .str, .str => true
  | .tup, .tup => true
  | .lst, .lst => true
  | _, _ => false
def ty6 : D → Ty6
  | .non => .non
  | .bl _ => .bool
  | .int _ => .int
  | .str _ => .str
  | .tup _ => .tup
  | .lst _ => .lst
  | .scr _ => .lst
abbrev tyN (d : D) : String := nm6 (ty6 d)
def isD (t : Ty5) (d : D) : Bool := is6 t (ty6 d)
theorem kit6 (t : Ty5) (e : Ty6) : kitB (nm6 e) (nmT t) = some (is6 t e) := by cases t <;> cases e <;> decide +kernel
theorem kit5 (t : Ty5) (d : D) : kitB (tyN d) (nmT t) = some (isD t d) := kit6 t (ty6 d)
def sIsi (t : Ty5) (f : SE) : SE := fun ρ S => (f ρ S).bind fun x S1 => ofO (derefW S1 x) fun dx => .ok (.v (.bl (isD t dx))) S1
section
variable {X : Cx} {C : ClsAt} {T : List Addr} {XW : WX} {a b c e : Expr} {es : List Expr} {f g h : SE} {ga : SA} {gl : SL} {pos p : Pos} {M : Fm} {S : Sto} {H : Hp} {v : V} {x : W} {dx : D}
theorem tyx_L {a : Addr} {xs : List V} (h : SqL X.K H a xs) : TyX X.K H (.ref a) (.type "list") := by
  rcases h with (h | ⟨o, h⟩) | ⟨o, its, n, e, hc, _⟩
  · exact .base (.lst h)
  · exact .base (.frz h)
  · exact .kList e hc
theorem tyx_T {a : Addr} {xs : List V} (h : SqT X.K H a xs) : TyX X.K H (.ref a) (.type "tuple") := by
  rcases h with (h | ⟨o, h⟩) | ⟨o, its, n, e, hc, _⟩
  · exact .base (.tup h)
  · exact .fTuple h
  · exact .kTuple e hc
theorem tyx_D (ws : WS X.K C T M S H) (rx : RpW X.K M v x) (ex : derefW S x = some dx) : TyX X.K H v (.type (tyN dx)) := by
  cases dx with
  | non => obtain rfl := atomN ws rx ex; exact .base .non
  | bl b => obtain rfl := atomB ws rx ex; exact .base (.bl b)
  | int i => obtain rfl := atomI ws rx ex; exact .base (.int i)
  | str z => obtain rfl := atomS ws rx ex; exact .base (.str z)
  | tup ds => obtain ⟨a, vs, rfl, e1, _⟩ := seqT ws rx ex; exact tyx_T e1
  | lst ds => obtain ⟨a, vs, rfl, e1, _⟩ := seqL ws rx ex; exact tyx_L (SqL.of e1)
  | scr ns => obtain ⟨a, rfl, e1⟩ := seqS ws rx ex; exact tyx_L e1
theorem tyBoot (t : Ty5) : bootBuiltins (Str.ofString (nmT t)) = some (.type (nmT t)) := by cases t <;> decide +kernel
theorem ed_isi (t : Ty5) {x : Str} {p2 : Pos} (hx : x = Str.ofString (nmT t)) (hg : Gl X "isinstance") (hm : X.mg "isinstance" = none) (hg2 : Gl X x) (hm2 : X.mg x = none) (ha : PE X a (TEd X C T XW f))
    (hs1 : starEach [a, .Name x p2] X.env = (false, eval a X.env) :: starEach [.Name x p2] X.env := by rfl) (hs2 : starEach [.Name x p2] X.env = (false, eval (.Name x p2) X.env) :: starEach [] X.env := by rfl)
    (hpl : (backTo pos (starEach [.Name x p2] X.env)).any (·.1) = false := by rfl) : PE X (.Call (.Name "isinstance" p) [a, .Name x p2] [] pos) (TEd X C T XW (sIsi t f)) := by
  have hne : x ≠ "__name__" := by subst hx; cases t <;> decide
  have hdb : (x == ("__debug__" : Str)) = false := by subst hx; cases t <;> decide
  have ht : PE X (.Name x p2) (tC (.ty (nmT t))) := pe_bltn hg2 hm2 (by rw [hx]; exact tyBoot t) rfl hne hdb
  exact PEimp (pe_callB call_isi hg hm PyProof.Rows.boot_isinstance (pa_cons ha (pa_cons ht pa_nil hs2) hs1) (by decide) (by decide) hs1 hpl) fun σ H Q ⟨M, ρ, S, he, hw, ho⟩ => ⟨M, ρ, S, he, hw, ho.bind.mono fun x S1 M1 H1 x1 w1 ho v rv => by
    obtain ⟨dx, ex, ho⟩ := ho.ofO
    exact ⟨v, .ty (nmT t), .type (tyN dx), .type (nmT t), isD t dx, rfl, .ty _, tyx_D w1 rv ex, kit_ty (kit5 t dx), fin ho _ _ (vkd_bl w1)⟩⟩
/-- min, max of two ints -/
def sMM (mx : Bool) (f g : SE) : SE := fun ρ S => (f ρ S).bind fun x S1 => (g ρ S1).bind fun y S2 => ofO (wI x) fun i => ofO (wI y) fun j => .ok (.v (.int (if mx = true then (if j > i then j else i) else (if j < i then j else i)))) S2
theorem ed_max2 (hc : X.calm = true) (hg : Gl X "max") (hm : X.mg "max" = none) (ha : PE X a (TEd X C T XW f)) (hb : PE X b (TEd X C T XW g))
    (hs1 : starEach [a, b] X.env = (false, eval a X.env) :: starEach [b] X.env := by rfl) (hs2 : starEach [b] X.env = (false, eval b X.env) :: starEach [] X.env := by rfl)
    (hpl : (backTo pos (starEach [b] X.env)).any (·.1) = false := by rfl) : PE X (.Call (.Name "max" p) [a, b] [] pos) (TEd X C T XW (sMM true f g)) :=
  PEimp (pe_callB (call_max2 hc) hg hm (by decide +kernel) (pa_cons ha (pa_cons hb pa_nil hs2) hs1) (by decide) (by decide) hs1 hpl) fun σ H Q ⟨M, ρ, S, he, hw, ho⟩ => ⟨M, ρ, S, he, hw, ho.bind.mono fun x S1 M1 H1 x1 w1 ho v rv => ⟨M1, ρ, S1, he.mono x1, w1, ho.bind.mono fun y S2 M2 H2 x2 w2 ho u ru => by
    obtain ⟨i, e1, ho⟩ := ho.ofO
    obtain ⟨j, e2, ho⟩ := ho.ofO
    exact ⟨i, j, by rw [wI_ok rv e1, wI_ok ru e2], fin ho _ _ (vkd_int w2)⟩⟩⟩
theorem ed_min2 (hc : X.calm = true) (hg : Gl X "min") (hm : X.mg "min" = none) (ha : PE X a (TEd X C T XW f)) (hb : PE X b (TEd X C T XW g))
    (hs1 : starEach [a, b] X.env = (false, eval a X.env) :: starEach [b] X.env := by rfl) (hs2 : starEach [b] X.env = (false, eval b X.env) :: starEach [] X.env := by rfl)
    (hpl : (backTo pos (starEach [b] X.env)).any (·.1) = false := by rfl) : PE X (.Call (.Name "min" p) [a, b] [] pos) (TEd X C T XW (sMM false f g)) :=
  PEimp (pe_callB (call_min2 hc) hg hm (by decide +kernel) (pa_cons ha (pa_cons hb pa_nil hs2) hs1) (by decide) (by decide) hs1 hpl) fun σ H Q ⟨M, ρ, S, he, hw, ho⟩ => ⟨M, ρ, S, he, hw, ho.bind.mono fun x S1 M1 H1 x1 w1 ho v rv => ⟨M1, ρ, S1, he.mono x1, w1, ho.bind.mono fun y S2 M2 H2 x2 w2 ho u ru => by
    obtain ⟨i, e1, ho⟩ := ho.ofO
    obtain ⟨j, e2, ho⟩ := ho.ofO
    exact ⟨i, j, by rw [wI_ok rv e1, wI_ok ru e2], fin ho _ _ (vkd_int w2)⟩⟩⟩
end
/-- the built-in names that stand for themselves -/
structure Bn (mg : Str → Option Value) : Prop where
  len : mg "len" = none
  int : mg "int" = none
  str : mg "str" = none
  abs : mg "abs" = none
  tuple : mg "tuple" = none
  list : mg "list" = none
  sorted : mg "sorted" = none
  range : mg "range" = none
  isinstance : mg "isinstance" = none
  any : mg "any" = none
  all : mg "all" = none
  sum : mg "sum" = none
  max : mg "max" = none
  min : mg "min" = none
  enumerate : mg "enumerate" = none
  zip : mg "zip" = none
  set : mg "set" = none
  bool : mg "bool" = none
  dict : mg "dict" = none
theorem hu125 {k : Nat} {A : Around} (r : Room k A) : A.units + 125 < cLine := by have := r.un; omega
theorem ev {X : Cx} {C : ClsAt} {T : List Addr} {XW : WX} (i : Nat) {x : Str} {pos : Pos} (hN : X.N[i]? = some x := by rfl) (hv : Vis X.env.scope x := by first | exact Or.inl rfl | exact Or.inr (Or.inl rfl) | exact Or.inr (Or.inr rfl))
    (hd : (x == ("__debug__" : Str)) = false := by decide) (hcd : (x == ("__classdict__" : Str)) = false := by decide) : PE X (.Name x pos) (TEd X C T XW (sVar i)) := ed_var i hN hv hd hcd
theorem gn {X : Cx} {C : ClsAt} {T : List Addr} {XW : WX} (i : Nat) {x : Str} {pos : Pos} (hN : X.N.Nodup) (hi : X.N[i]? = some x := by rfl) (hx : Loc X.env.scope x := by first | exact Or.inl rfl | exact Or.inr rfl)
    (hf : X.fn x = true ∨ X.env.scope.names.lookup x = some .local := by first | exact .inl rfl | exact .inr rfl) : PG X (.Name x pos) (TGd X C T XW [i] (gSet i)) := gd_name i hN hi hx hf
end Dy
set_option Elab.async false
set_option linter.all false
set_option maxRecDepth 100000
set_option maxHeartbeats 2000000
/-! Dy3n: short forms for the printed walks. -/
namespace Dy
open PySem PySem.Spec PyProof.Rows L2
section
variable {X : Cx} {C : ClsAt} {T : List Addr} {XW : WX} {a b c e : Expr} {f g h : SE} {pos : Pos} {op op' : CmpOp}
theorem ec {k : Nat} (hr : Room k X.A) (ha : PE X a (TEd X C T XW f)) (hb : PE X b (TEd X C T XW g)) (hm : behindInMarks op b = false := by first | exact nobehind _ (by decide) (by decide) | rfl) : PE X (.Compare a [op] [b] pos) (TEd X C T XW (sOfB (sCmp op f g))) := ed_cmp (hu125 hr) ha hb hm
theorem tc {k : Nat} (hr : Room k X.A) (ha : PE X a (TEd X C T XW f)) (hb : PE X b (TEd X C T XW g)) (hm : behindInMarks op b = false := by first | exact nobehind _ (by decide) (by decide) | rfl) : PT X (.Compare a [op] [b] pos) (TTd X C T XW (sCmp op f g)) := td_cmp (hu125 hr) ha hb hm
theorem ptd_nil : PTs X [] (TTd X C T XW sYes) := ⟨fun pins s σ H Q I h => pts_nil.run pins s σ H Q I (by obtain ⟨M, ρ, S, he, hw, ho⟩ := h; exact ho M H (Ext.refl M) hw)⟩
theorem ptd_one {fb : SB} (h : PT X c (TTd X C T XW fb)) : PTs X [c] (TTd X C T XW fb) := pts_one h
theorem TEd.mono {σ : L2.St} {H : Hp} {Q Q' : VK} (h : TEd X C T XW f σ H Q) (k : ∀ v H, Q v H → Q' v H) : TEd X C T XW f σ H Q' :=
  let ⟨M, ρ, S, he, hw, ho⟩ := h
  ⟨M, ρ, S, he, hw, ho.mono fun a S' M' H' _ _ q v rv => k v H' (q v rv)⟩
theorem asg_in {γ : ST} {gv : List Nat} {D : Ends} {σ : L2.St} {H : Hp} (h : TSd X C T XW (sAsg f γ) D σ H) : TEd X C T XW f σ H fun x H1 => TGd X C T XW gv γ x σ H1 D.nx :=
  let ⟨M, ρ, S, he, hw, ho⟩ := h
  ⟨M, ρ, S, he, hw, ho.toS.mono fun x S1 M1 H1 x1 w1 ho v rv => ⟨M1, ρ, S1, x, he.mono x1, w1, rv, ho.toS.mono fun ρ2 S2 M2 H2 x2 w2 ho σ2 e2 _ _ => nxd e2 w2 ho⟩⟩
theorem name_in {i : Nat} {v : V} {σ : L2.St} {H : Hp} {Q : L2.St → Hp → Prop} (h : TGd X C T XW [i] (gSet i) v σ H Q) : gName i v σ H Q := by
  obtain ⟨M, ρ, S, d, he, hw, r, ho⟩ := h
  obtain ⟨hl, ho⟩ := ite_ok ho
  exact ho M H (Ext.refl M) hw _ (he.set r i) (List.length_set ..) fun j hj => set_other hj
theorem frz_in {gl : SL} {σ : L2.St} {H : Hp} {Q : VK} (h : TEd X C T XW (sFrz gl) σ H Q) : TLd X C T XW gl σ H Q :=
  let ⟨M, ρ, S, he, hw, ho⟩ := h
  ⟨M, ρ, S, he, hw, ho.bind.mono fun ds S1 M1 H1 x1 w1 ho vs p r1 hp => fin ho _ _ (vkd_lst w1 r1 p hp)⟩
theorem cell_in {gl : SL} {σ : L2.St} {H : Hp} {Q : VK} (h : TEd X C T XW (sCell gl) σ H Q) : TLd X C T XW gl σ H Q :=
  let ⟨M, ρ, S, he, hw, ho⟩ := h
  ⟨M, ρ, S, he, hw, ho.bind.mono fun ds S1 M1 H1 x1 w1 ho vs p r1 hp => by
    obtain ⟨w2, x2⟩ := w1.layC (o := .lst vs) (d := .lst ds) hp ⟨w1.Fnone hp, vs, upd_same, r1.mono Ext.more⟩
    refine ho _ _ x2 w2 _ (.p ?_)
    show (M1.as ++ [p])[S1.length]? = some p
    rw [← w1.len, List.getElem?_append_right (Nat.le_refl _), Nat.sub_self]; rfl⟩
/-- name = [..] -/
theorem sd_setLc (i : Nat) {y : Str} {py : Pos} {elt tg iter : Expr} {ifs : List Expr} {scope : Scope} {own : List (Str × Nat)} {fe : SE} {fc : SB} {fl : SL} {γ : ST} {gv : List Nat} {spos pos : Pos} (hc : X.calm = true) (hN : X.N.Nodup) (hy : X.N[i]? = some y) (hyl : X.env.scope.names.lookup y = some .local)
    (hsw : swapsWith (.ListComp elt [⟨tg, iter, ifs, 0⟩] scope pos) (some (.Name y py)) spos.line X.env = pure true)
    (hi : PI X tg iter (TId X C T XW fl)) (ok : BlkOk X.N X.env.scope scope own) (hgv : ∀ i ∈ gv, i ∈ own.map (·.2))
    (hg : ∀ (s : Shared) (H : Hp) (Cc : Addr) (cl : List (Str × Addr)) (fp : List Addr), PG (X.blk s H scope (compEnvC scope cl Cc X.env) fp) tg (TGd (X.blk s H scope (compEnvC scope cl Cc X.env) fp) C T XN gv γ))
    (ht : ∀ (s : Shared) (H : Hp) (Cc : Addr) (cl : List (Str × Addr)) (fp : List Addr), PTs (X.blk s H scope (compEnvC scope cl Cc X.env) fp) ifs (TTd (X.blk s H scope (compEnvC scope cl Cc X.env) fp) C T XN fc))
    (he : ∀ (s : Shared) (H : Hp) (Cc : Addr) (cl : List (Str × Addr)) (fp : List Addr), PE (X.blk s H scope (compEnvC scope cl Cc X.env) fp) elt (TEd (X.blk s H scope (compEnvC scope cl Cc X.env) fp) C T XN fe)) (hs : ∀ x, foldedSetIterable iter X.env x = pure x := by intro _; rfl) :
    PS X (.Assign [.Name y py] (.ListComp elt [⟨tg, iter, ifs, 0⟩] scope pos) spos) (TSd X C T XW (sAsg (sFrz (sLc fl γ fc fe (own.map (·.2)))) (gSet i))) :=
  PSimp (ps_setLc hc hN hy hyl hsw hi ok hg ht he hs) fun D σ H h => lc_in hgv (frz_in ((asg_in h).mono fun v H1 q => name_in q))
theorem sd_setLcC (i : Nat) {y : Str} {py : Pos} {elt tg iter : Expr} {ifs : List Expr} {scope : Scope} {own : List (Str × Nat)} {fe : SE} {fc : SB} {fl : SL} {γ : ST} {gv : List Nat} {spos pos : Pos} (hc : X.calm = true) (hN : X.N.Nodup) (hy : X.N[i]? = some y) (hyl : X.env.scope.names.lookup y = some .local)
    (hsw : swapsWith (.ListComp elt [⟨tg, iter, ifs, 0⟩] scope pos) (some (.Name y py)) spos.line X.env = pure true)
    (hi : PI X tg iter (TId X C T XW fl)) (ok : BlkOk X.N X.env.scope scope own) (hgv : ∀ i ∈ gv, i ∈ own.map (·.2))
    (hg : ∀ (s : Shared) (H : Hp) (Cc : Addr) (cl : List (Str × Addr)) (fp : List Addr), PG (X.blk s H scope (compEnvC scope cl Cc X.env) fp) tg (TGd (X.blk s H scope (compEnvC scope cl Cc X.env) fp) C T XN gv γ))
    (ht : ∀ (s : Shared) (H : Hp) (Cc : Addr) (cl : List (Str × Addr)) (fp : List Addr), PTs (X.blk s H scope (compEnvC scope cl Cc X.env) fp) ifs (TTd (X.blk s H scope (compEnvC scope cl Cc X.env) fp) C T XN fc))
    (he : ∀ (s : Shared) (H : Hp) (Cc : Addr) (cl : List (Str × Addr)) (fp : List Addr), PE (X.blk s H scope (compEnvC scope cl Cc X.env) fp) elt (TEd (X.blk s H scope (compEnvC scope cl Cc X.env) fp) C T XN fe)) (hs : ∀ x, foldedSetIterable iter X.env x = pure x := by intro _; rfl) :
    PS X (.Assign [.Name y py] (.ListComp elt [⟨tg, iter, ifs, 0⟩] scope pos) spos) (TSd X C T XW (sAsg (sCell (sLc fl γ fc fe (own.map (·.2)))) (gSet i))) :=
  PSimp (ps_setLc hc hN hy hyl hsw hi ok hg ht he hs) fun D σ H h => lc_in hgv (cell_in ((asg_in h).mono fun v H1 q => name_in q))
end
end Dy
set_option Elab.async false
set_option linter.all false
set_option maxRecDepth 100000
set_option maxHeartbeats 4000000
namespace Dy
open PySem PySem.Spec PyProof.Rows L2
def b_is_in : SS :=
  (sRet (sAndV (sIsi .int (sVar 0)) (sAndV (sNotV (sIsi .bool (sVar 0))) (sChain .LtE .LtE (sVar 1) (sVar 0) (sVar 2)))))
def F_is_in : Fn := runF 3 b_is_in

def b_need_web : SS :=
  (sSeq (sIfS (sOr (sNot (sTru (sIsi .tup (sVar 0)))) (sOr (sCmp .NotEq (sBi .len (sVar 0)) (sC (.int 2))) (sNot (sTru (sCall 3 F_is_in (sACons (sIx (sVar 0) (sC (.int 0))) (sACons (sC (.int 1)) (sACons (sC (.int 7)) sANil)))))))) sNo sNx)
  (sSeq (sIfS (sNot (sTru (sIsi .tup (sIx (sVar 0) (sC (.int 1)))))) sNo sNx)
  (sSeq (sFor (sSeqI (sIx (sVar 0) (sC (.int 1)))) (gSet 1) (sSeq (sIfS (sOr (sNot (sTru (sIsi .tup (sVar 1)))) (sOr (sCmp .NotEq (sBi .len (sVar 1)) (sC (.int 2))) (sNot (sTru (sCall 3 F_is_in (sACons (sIx (sVar 1) (sC (.int 0))) (sACons (sC (.int 0)) (sACons (sBin .Sub (sIx (sVar 0) (sC (.int 0))) (sC (.int 1))) sANil)))))))) sNo sNx)
  (sIfS (sNot (sTru (sCall 3 F_is_in (sACons (sIx (sVar 1) (sC (.int 1))) (sACons (sBin .Add (sIx (sVar 1) (sC (.int 0))) (sC (.int 1))) (sACons (sBin .Sub (sIx (sVar 0) (sC (.int 0))) (sC (.int 1))) sANil)))))) sNo sNx)))
  (sIfS (sTru (sAny true (sRng1 (sBin .Sub (sBi .len (sIx (sVar 0) (sC (.int 1)))) (sC (.int 1)))) (gSet 2) sYes (sOfB (sCmp .GtE (sIx (sIx (sVar 0) (sC (.int 1))) (sVar 2)) (sIx (sIx (sVar 0) (sC (.int 1))) (sBin .Add (sVar 2) (sC (.int 1)))))) [2])) sNo sNx))))
def F_need_web : Fn := runF 3 b_need_web

def b_write_web : SS :=
  (sSeq (sDrop (sCall 1 F_need_web (sACons (sVar 0) sANil)))
  (sRet (sJoin (sC (.str (Str.ofString " "))) (sFrz (sLst (sACons (sBi .str (sIx (sVar 0) (sC (.int 0)))) (sACons (sC (.str (Str.ofString ":"))) (sAStar (sFrz (sLc (sSeqI (sIx (sVar 0) (sC (.int 1)))) (gTupD 2 (gsCons (gSet 1) (gsCons (gSet 2) gsNil))) sYes (sJoined [(sFmt (sVar 1)), (sC (.str (Str.ofString "-"))), (sFmt (sVar 2))]) [1, 2])) sANil))))))))
def F_write_web : Fn := runF 3 b_write_web

def b_after_spaces : SS :=
  (sSeq (sWhile 1000000 (sAnd (sCmp .Lt (sVar 1) (sBi .len (sVar 0))) (sCmp .Eq (sIx (sVar 0) (sVar 1)) (sC (.str (Str.ofString " "))))) (sAsg (sBin .Add (sVar 1) (sC (.int 1))) (gSet 1)))
  (sRet (sVar 1)))
def F_after_spaces : Fn := runF 2 b_after_spaces

def b_digit_at : SS :=
  (sSeq (sPar2 4 5 (sACons (sSl (sVar 0) (sOSome (sVar 1)) (sOSome (sBin .Add (sVar 1) (sC (.int 1))))) (sACons (sSl (sVar 0) (sOSome (sBin .Add (sVar 1) (sC (.int 1)))) (sOSome (sBin .Add (sVar 1) (sC (.int 2))))) sANil)))
  (sSeq (sIfS (sOr (sNot (sTru (sVar 4))) (sOr (sCmp .NotIn (sVar 4) (sC (.str (Str.ofString "0123456789")))) (sAnd (sTru (sVar 5)) (sCmp .In (sVar 5) (sC (.str (Str.ofString "0123456789"))))))) sNo sNx)
  (sSeq (sIfS (sNot (sTest (sChain .LtE .LtE (sVar 2) (sBi .int (sVar 4)) (sVar 3)))) sNo sNx)
  (sRet (sBi .int (sVar 4))))))
def F_digit_at : Fn := runF 6 b_digit_at

def b_read_web : SS :=
  (sSeq (sIfS (sNot (sTru (sIsi .str (sVar 0)))) sNo sNx)
  (sSeq (sAsg (sCall 2 F_after_spaces (sACons (sVar 0) (sACons (sC (.int 0)) sANil))) (gSet 1))
  (sSeq (sAsg (sCall 4 F_digit_at (sACons (sVar 0) (sACons (sVar 1) (sACons (sC (.int 1)) (sACons (sC (.int 7)) sANil))))) (gSet 2))
  (sSeq (sAsg (sCall 2 F_after_spaces (sACons (sVar 0) (sACons (sBin .Add (sVar 1) (sC (.int 1))) sANil))) (gSet 1))
  (sSeq (sIfS (sCmp .NotEq (sSl (sVar 0) (sOSome (sVar 1)) (sOSome (sBin .Add (sVar 1) (sC (.int 1))))) (sC (.str (Str.ofString ":")))) sNo sNx)
  (sSeq (sPar2 3 1 (sACons (sCell (sLst sANil)) (sACons (sCall 2 F_after_spaces (sACons (sVar 0) (sACons (sBin .Add (sVar 1) (sC (.int 1))) sANil))) sANil)))
  (sSeq (sWhile 1000000 (sCmp .Lt (sVar 1) (sBi .len (sVar 0))) (sSeq (sAsg (sCall 4 F_digit_at (sACons (sVar 0) (sACons (sVar 1) (sACons (sC (.int 0)) (sACons (sBin .Sub (sVar 2) (sC (.int 1))) sANil))))) (gSet 4))
  (sSeq (sAsg (sCall 2 F_after_spaces (sACons (sVar 0) (sACons (sBin .Add (sVar 1) (sC (.int 1))) sANil))) (gSet 1))
  (sSeq (sIfS (sCmp .NotEq (sSl (sVar 0) (sOSome (sVar 1)) (sOSome (sBin .Add (sVar 1) (sC (.int 1))))) (sC (.str (Str.ofString "-")))) sNo sNx)
  (sSeq (sAsg (sCall 2 F_after_spaces (sACons (sVar 0) (sACons (sBin .Add (sVar 1) (sC (.int 1))) sANil))) (gSet 1))
  (sSeq (sAsg (sCall 4 F_digit_at (sACons (sVar 0) (sACons (sVar 1) (sACons (sC (.int 0)) (sACons (sBin .Sub (sVar 2) (sC (.int 1))) sANil))))) (gSet 5))
  (sSeq (sAsg (sTup (sACons (sMM false (sVar 4) (sVar 5)) (sACons (sMM true (sVar 4) (sVar 5)) sANil))) (gSet 6))
  (sSeq (sIfS (sOr (sCmp .Eq (sVar 4) (sVar 5)) (sCmp .In (sVar 6) (sVar 3))) sNo sNx)
  (sSeq (sDrop (sApp (sVar 3) (sVar 6)))
  (sAsg (sCall 2 F_after_spaces (sACons (sVar 0) (sACons (sBin .Add (sVar 1) (sC (.int 1))) sANil))) (gSet 1)))))))))))
  (sRet (sTup (sACons (sVar 2) (sACons (sBi .tuple (sFrz (sSorted (sVar 3)))) sANil)))))))))))
def F_read_web : Fn := runF 7 b_read_web

def b_with_names : SS :=
  (sSeq (sAsg (sFrz (sLc (sSeqI (sIx (sVar 0) (sC (.int 1)))) (gTupD 2 (gsCons (gSet 3) (gsCons (gSet 4) gsNil))) sYes (sBi .tuple (sFrz (sSorted (sFrz (sLst (sACons (sIx (sVar 1) (sVar 3)) (sACons (sIx (sVar 1) (sVar 4)) sANil))))))) [3, 4])) (gSet 2))
  (sRet (sTup (sACons (sIx (sVar 0) (sC (.int 0))) (sACons (sBi .tuple (sFrz (sSorted (sVar 2)))) sANil)))))
def F_with_names : Fn := runF 5 b_with_names

def b_renamed : SS :=
  (sSeq (sDrop (sCall 1 F_need_web (sACons (sVar 0) sANil)))
  (sSeq (sIfS (sOr (sNot (sTru (sIsi .tup (sVar 1)))) (sNot (sTru (sAny false (sSeqI (sVar 1)) (gSet 2) sYes (sCall 3 F_is_in (sACons (sVar 2) (sACons (sC (.int 0)) (sACons (sBin .Sub (sIx (sVar 0) (sC (.int 0))) (sC (.int 1))) sANil)))) [2])))) sNo sNx)
  (sSeq (sIfS (sCmp .NotEq (sFrz (sSorted (sVar 1))) (sFrz (sListR1 (sIx (sVar 0) (sC (.int 0)))))) sNo sNx)
  (sRet (sCall 2 F_with_names (sACons (sVar 0) (sACons (sVar 1) sANil)))))))
def F_renamed : Fn := runF 3 b_renamed

def b__law_taken : SS :=
  (sSeq (sIfS (sCmp .Gt (sIx (sVar 0) (sC (.int 3))) (sC (.int 0))) (sSeq (sAsg (sBin .Mod (sBi .int (sIx (sVar 0) (sC (.int 3)))) (sVar 1)) (gSet 3))
  (sSeq (sAsg (sBin .FloorDiv (sIx (sVar 0) (sC (.int 3))) (sVar 1)) (gSubD (sVar 0) (sC (.int 3))))
  (sRet (sVar 3)))) sNx)
  (sSeq (sAsg (sBin .Add (sIx (sVar 0) (sC (.int 1))) (sC (.int 1))) (gSubD (sVar 0) (sC (.int 1))))
  (sSeq (sIfS (sCmp .Gt (sIx (sVar 0) (sC (.int 1))) (sBi .len (sIx (sVar 0) (sC (.int 0))))) (sSeq (sAsg (sBin .Mod (sBi .int (sBin .Add (sBin .Mult (sIx (sVar 0) (sC (.int 2))) (sC (.int 48271))) (sC (.int 11)))) (sC (.int 2147483647))) (gSubD (sVar 0) (sC (.int 2))))
  (sRet (sBin .Mod (sBi .int (sBin .FloorDiv (sIx (sVar 0) (sC (.int 2))) (sC (.int 7)))) (sVar 1)))) sNx)
  (sSeq (sAsg (sIx (sIx (sVar 0) (sC (.int 0))) (sBin .Sub (sIx (sVar 0) (sC (.int 1))) (sC (.int 1)))) (gSet 2))
  (sSeq (sAsg (sBin .Mod (sBi .int (sBin .Add (sBin .Add (sBin .Mult (sIx (sVar 0) (sC (.int 2))) (sC (.int 48271))) (sVar 2)) (sC (.int 11)))) (sC (.int 2147483647))) (gSubD (sVar 0) (sC (.int 2))))
  (sSeq (sIfS (sCmp .GtE (sVar 2) (sBin .Pow (sC (.int 10)) (sC (.int 18)))) (sAsg (sBin .FloorDiv (sVar 2) (sVar 1)) (gSubD (sVar 0) (sC (.int 3)))) sNx)
  (sRet (sBin .Mod (sBi .int (sVar 2)) (sVar 1)))))))))
def F__law_taken : Fn := runF 4 b__law_taken

def b__law_web : SS :=
  (sSeq (sPar2 4 5 (sACons (sBin .Add (sC (.int 1)) (sCall 2 F__law_taken (sACons (sVar 0) (sACons (sVar 1) sANil)))) (sACons (sCell (sLst sANil)) sANil)))
  (sSeq (sAsg (sCall 2 F__law_taken (sACons (sVar 0) (sACons (sC (.int 4)) sANil))) (gSet 2))
  (sSeq (sFor (sRng1 (sVar 4)) (gSet 3) (sFor (sRng2 (sBin .Add (sVar 3) (sC (.int 1))) (sVar 4)) (gSet 6) (sSeq (sAsg (sOrV (sOfB (sCmp .Eq (sVar 6) (sBin .Add (sVar 3) (sC (.int 1))))) (sAndV (sOfB (sCmp .Eq (sVar 3) (sC (.int 0)))) (sAndV (sOfB (sCmp .Eq (sVar 6) (sBin .Sub (sVar 4) (sC (.int 1))))) (sOfB (sCmp .Eq (sVar 2) (sC (.int 1))))))) (gSet 7))
  (sIfS (sOr (sAnd (sCmp .Eq (sCall 2 F__law_taken (sACons (sVar 0) (sACons (sC (.int 3)) sANil))) (sC (.int 0))) (sCmp .Gt (sVar 2) (sC (.int 1)))) (sOr (sAnd (sTru (sVar 7)) (sCmp .Lt (sVar 2) (sC (.int 2)))) (sAnd (sCmp .Eq (sVar 2) (sC (.int 3))) (sCmp .Eq (sCall 2 F__law_taken (sACons (sVar 0) (sACons (sC (.int 2)) sANil))) (sC (.int 0)))))) (sDrop (sApp (sVar 5) (sTup (sACons (sVar 3) (sACons (sVar 6) sANil))))) sNx))))
  (sRet (sTup (sACons (sVar 4) (sACons (sBi .tuple (sVar 5)) sANil)))))))
def F__law_web : Fn := runF 8 b__law_web

def b_law : SS :=
  (sSeq (sAsg (sCell (sLst (sACons (sVar 0) (sACons (sC (.int 0)) (sACons (sC (.int 13579)) (sACons (sC (.int 0)) sANil)))))) (gSet 1))
  (sSeq (sAsg (sCall 2 F__law_web (sACons (sVar 1) (sACons (sC (.int 7)) sANil))) (gSet 2))
  (sSeq (sAsg (sCall 1 F_write_web (sACons (sVar 2) sANil)) (gSet 3))
  (sSeq (sIfS (sOr (sCmp .NotEq (sCall 1 F_read_web (sACons (sVar 3) sANil)) (sVar 2)) (sOr (sCmp .NotEq (sCount (sVar 3) (sC (.str (Str.ofString "-")))) (sBi .len (sIx (sVar 2) (sC (.int 1))))) (sCmp .NotEq (sSl (sFrz (sSplit (sVar 3) (sC (.str (Str.ofString " "))))) sONone (sOSome (sC (.int 2)))) (sFrz (sLst (sACons (sBi .str (sIx (sVar 2) (sC (.int 0)))) (sACons (sC (.str (Str.ofString ":"))) sANil))))))) (sRet (sC (.bl false))) sNx)
  (sSeq (sAsg (sFrz (sSplit (sVar 3) (sC (.str (Str.ofString " "))))) (gSet 4))
  (sSeq (sAsg (sJoin (sC (.str (Str.ofString " "))) (sBin .Add (sSl (sVar 4) sONone (sOSome (sC (.int 2)))) (sRev (sFrz (sLc (sSeqI (sSl (sVar 4) (sOSome (sC (.int 2))) sONone)) (gSet 8) sYes (sRev (sVar 8)) [8]))))) (gSet 5))
  (sSeq (sIfS (sOr (sCmp .NotEq (sCall 1 F_read_web (sACons (sVar 5) sANil)) (sVar 2)) (sCmp .NotEq (sCall 1 F_read_web (sACons (sBin .Add (sBin .Add (sC (.str (Str.ofString "  "))) (sRepl (sRepl (sVar 3) (Str.ofString "-") (Str.ofString " - ")) (Str.ofString " :") (Str.ofString ":"))) (sC (.str (Str.ofString "  ")))) sANil)) (sVar 2))) (sRet (sC (.bl false))) sNx)
  (sSeq (sAsg (sCall 2 F_renamed (sACons (sVar 2) (sACons (sBi .tuple (sFrz (sLc (sRng1 (sIx (sVar 2) (sC (.int 0)))) (gSet 7) sYes (sBin .Sub (sBin .Sub (sIx (sVar 2) (sC (.int 0))) (sC (.int 1))) (sVar 7)) [7]))) sANil))) (gSet 6))
  (sRet (sAndV (sOfB (sCmp .Eq (sCall 1 F_read_web (sACons (sCall 1 F_write_web (sACons (sVar 6) sANil)) sANil)) (sVar 6))) (sOfB (sCmp .Eq (sOfB (sCmp .Eq (sCall 1 F_write_web (sACons (sVar 6) sANil)) (sVar 3))) (sOfB (sCmp .Eq (sVar 6) (sVar 2)))))))))))))))
def F_law : Fn := runF 9 b_law

end Dy
set_option Elab.async false
set_option linter.all false
set_option maxRecDepth 100000
set_option maxHeartbeats 4000000
namespace Dy
open PySem PySem.Spec PyProof.Rows L2
def topS (i : Nat) : Stmt := PySem.Challenge.pw_foescome_k79_across_texts.main.body.getD i (.Pass ⟨0, 0, 0, 0⟩)
abbrev s_is_in : Stmt := topS 8
abbrev N_is_in : List Str := ["value", "least", "most"]
theorem sc_is_in : FnScope N_is_in ["value", "least", "most"] (defScope s_is_in) := ⟨rfl, rfl, rfl, by decide +kernel, rfl, by decide +kernel, by decide +kernel⟩
theorem nd_is_in : List.Nodup N_is_in := by decide +kernel
theorem w_is_in {P : Program} {w : World} {K : PySem.W.Frag} {mg : Str → Option Value} {base : Heap} {C : ClsAt} {T : List Addr} {f : Addr} {fd : FuncData} {cdv : Value} (B : Bn mg)
    (F : FunC K "is_in" "is_in" s_is_in f fd cdv) (hm : mg "is_in" = some (.ref f)) : FnP P w K mg base C T 1 "is_in" 3 F_is_in :=
  fnP_DC (body := b_is_in) F hm sc_is_in rfl rfl (fun _ _ _ _ _ _ us hl => match us, hl with | [_, _, _], _ => rfl) fun A outer s H E hr =>
  (sd_one (sd_ret (ed_and (ed_isi .int rfl (by rfl) B.isinstance (by rfl) B.int (ev 0)) (ed_and (ed_not (ed_isi .bool rfl (by rfl) B.isinstance (by rfl) B.bool (ev 0))) (ed_one (ed_chain (hu125 hr) (ev 1) (ev 0) (ev 2)))))))

abbrev s_need_web : Stmt := topS 9
abbrev N_need_web : List Str := ["web", "pair", "k"]
theorem sc_need_web : FnScope N_need_web ["web"] (defScope s_need_web) := ⟨rfl, rfl, rfl, by decide +kernel, rfl, by decide +kernel, by decide +kernel⟩
theorem nd_need_web : List.Nodup N_need_web := by decide +kernel
theorem w_need_web {P : Program} {w : World} {K : PySem.W.Frag} {mg : Str → Option Value} {base : Heap} {C : ClsAt} {T : List Addr} {f : Addr} {fd : FuncData} (B : Bn mg) {c P0 : Addr} (TB : GxR.TabB base mg c P0) (hP : P0 ∈ T) (hc_MOST_PEOPLE : ∃ u, mg "MOST_PEOPLE" = some u ∧ RelV (.int 7) u) (G_is_in : FnP P w K mg base C T 1 "is_in" 3 F_is_in)
    (F : FunC K "need_web" "need_web" s_need_web f fd (.ref c)) (hm : mg "need_web" = some (.ref f)) : FnP P w K mg base C T 3 "need_web" 1 F_need_web :=
  fnP_DC (body := b_need_web) F hm sc_need_web rfl rfl (fun _ _ _ _ _ _ us hl => match us, hl with | [_], _ => rfl) fun A outer s H E hr =>
  (sd_cons (sd_if (wd_or (td_not (td_tru (ed_isi .tup rfl (by rfl) B.isinstance (by rfl) B.tuple (ev 0)))) (wd_or (tc hr (ed_bi .len rfl (by rfl) B.len (ev 0)) ed_int) (wd_or1 (td_not (td_tru (ed_call G_is_in hr (by decide) (by rfl) takes_body (ad_cons (ed_ix (ev 0) ed_int (fun _ _ => rfl)) (ad_cons ed_int (ad_cons (ed_glob (by rfl) hc_MOST_PEOPLE fun _ => .int 7) ad_nil))))))))).pt (sd_one sd_never) sd_nil)
  (sd_cons (sd_if (td_not (td_tru (ed_isi .tup rfl (by rfl) B.isinstance (by rfl) B.tuple (ed_ix (ev 0) ed_int (fun _ _ => rfl))))) (sd_one sd_never) sd_nil)
  (sd_cons (sd_for passes_body rfl (id_seq (ed_ix (ev 0) ed_int (fun _ _ => rfl))) (gn 1 nd_need_web) (sd_cons (sd_if (wd_or (td_not (td_tru (ed_isi .tup rfl (by rfl) B.isinstance (by rfl) B.tuple (ev 1)))) (wd_or (tc hr (ed_bi .len rfl (by rfl) B.len (ev 1)) ed_int) (wd_or1 (td_not (td_tru (ed_call G_is_in hr (by decide) (by rfl) takes_body (ad_cons (ed_ix (ev 1) ed_int (fun _ _ => rfl)) (ad_cons ed_int (ad_cons (ed_bin (ed_ix (ev 0) ed_int (fun _ _ => rfl)) ed_int) ad_nil))))))))).pt (sd_one sd_never) sd_nil)
  (sd_one (sd_if (td_not (td_tru (ed_call G_is_in hr (by decide) (by rfl) takes_body (ad_cons (ed_ix (ev 1) ed_int (fun _ _ => rfl)) (ad_cons (ed_bin (ed_ix (ev 1) ed_int (fun _ _ => rfl)) ed_int) (ad_cons (ed_bin (ed_ix (ev 0) ed_int (fun _ _ => rfl)) ed_int) ad_nil)))))) (sd_one sd_never) sd_nil))))
  (sd_one (sd_if (td_tru (ed_anyG (own := [("k", 2)]) true (.inl ⟨rfl, rfl⟩) hr rfl (by rfl) B.any hP TB rfl (blkOk_by (N := N_need_web) (sc := (defScope s_need_web)) (by decide +kernel)) nd_need_web rfl (by decide +kernel) rfl (by decide) (id_rng1 (by rfl) B.range (ed_bin (ed_bi .len rfl (by rfl) B.len (ed_ix (ev 0) ed_int (fun _ _ => rfl))) ed_int)) (fun _ => rfl) (fun _ _ _ _ _ _ _ hr' => (gn 2 nd_need_web)) (fun _ _ _ _ _ _ _ hr' => ptd_nil) (fun _ _ _ _ _ _ _ hr' => (ec hr' (ed_ix (ed_ix (ev 0) ed_int (fun _ _ => rfl)) (ev 2) (fun _ _ => rfl)) (ed_ix (ed_ix (ev 0) ed_int (fun _ _ => rfl)) (ed_bin (ev 2) ed_int) (fun _ _ => rfl)))))) (sd_one sd_never) sd_nil)))))

abbrev s_write_web : Stmt := topS 11
abbrev N_write_web : List Str := ["web", "one", "other"]
theorem sc_write_web : FnScope N_write_web ["web"] (defScope s_write_web) := ⟨rfl, rfl, rfl, by decide +kernel, rfl, by decide +kernel, by decide +kernel⟩
theorem nd_write_web : List.Nodup N_write_web := by decide +kernel
theorem w_write_web {P : Program} {w : World} {K : PySem.W.Frag} {mg : Str → Option Value} {base : Heap} {C : ClsAt} {T : List Addr} {f : Addr} {fd : FuncData} {cdv : Value} (B : Bn mg) (G_need_web : FnP P w K mg base C T 3 "need_web" 1 F_need_web)
    (F : FunC K "write_web" "write_web" s_write_web f fd cdv) (hm : mg "write_web" = some (.ref f)) : FnP P w K mg base C T 4 "write_web" 1 F_write_web :=
  fnP_DC (body := b_write_web) F hm sc_write_web rfl rfl (fun _ _ _ _ _ _ us hl => match us, hl with | [_], _ => rfl) fun A outer s H E hr =>
  (sd_cons (sd_drop (ed_call G_need_web hr (by decide) (by rfl) takes_body (ad_cons (ev 0) ad_nil)))
  (sd_one (sd_ret (ed_join ed_str (ed_frz (ld_lst (ad_cons (ed_bi .str rfl (by rfl) B.str (ed_ix (ev 0) ed_int (fun _ _ => rfl))) (ad_cons ed_str (ad_star (ed_frz (ld_lc (own := [("one", 1), ("other", 2)]) rfl nd_write_web (id_seq (ed_ix (ev 0) ed_int (fun _ _ => rfl))) (blkOk_by (N := N_write_web) (sc := (defScope s_write_web)) (by decide +kernel)) (by decide) (fun _ _ _ _ _ => (gd_tup rfl (gsd_cons (gn 1 nd_write_web) (gsd_cons (gn 2 nd_write_web) gsd_nil)))) (fun _ _ _ _ _ => ptd_nil) (fun _ _ _ _ _ => (ed_joined (.cons (ed_fmt (ev 1)) (.cons ed_str (.cons (ed_fmt (ev 2)) .nil))))))) ad_nil)))))))))

abbrev s_after_spaces : Stmt := topS 12
abbrev N_after_spaces : List Str := ["text", "at"]
theorem sc_after_spaces : FnScope N_after_spaces ["text", "at"] (defScope s_after_spaces) := ⟨rfl, rfl, rfl, by decide +kernel, rfl, by decide +kernel, by decide +kernel⟩
theorem nd_after_spaces : List.Nodup N_after_spaces := by decide +kernel
theorem w_after_spaces {P : Program} {w : World} {K : PySem.W.Frag} {mg : Str → Option Value} {base : Heap} {C : ClsAt} {T : List Addr} {f : Addr} {fd : FuncData} {cdv : Value} (B : Bn mg)
    (F : FunC K "after_spaces" "after_spaces" s_after_spaces f fd cdv) (hm : mg "after_spaces" = some (.ref f)) : FnP P w K mg base C T 1 "after_spaces" 2 F_after_spaces :=
  fnP_DC (body := b_after_spaces) F hm sc_after_spaces rfl rfl (fun _ _ _ _ _ _ us hl => match us, hl with | [_, _], _ => rfl) fun A outer s H E hr =>
  (sd_cons (sd_while 1000000 passes_body (wd_and (tc hr (ev 1) (ed_bi .len rfl (by rfl) B.len (ev 0))) (wd_and1 (tc hr (ed_ix (ev 0) (ev 1) (fun _ _ => rfl)) ed_str))).pt (sd_one (sd_asg (ed_bin (ev 1) ed_int) (gn 1 nd_after_spaces))))
  (sd_one (sd_ret (ev 1))))

abbrev s_digit_at : Stmt := topS 13
abbrev N_digit_at : List Str := ["text", "at", "least", "most", "sign", "behind"]
theorem sc_digit_at : FnScope N_digit_at ["text", "at", "least", "most"] (defScope s_digit_at) := ⟨rfl, rfl, rfl, by decide +kernel, rfl, by decide +kernel, by decide +kernel⟩
theorem nd_digit_at : List.Nodup N_digit_at := by decide +kernel
theorem w_digit_at {P : Program} {w : World} {K : PySem.W.Frag} {mg : Str → Option Value} {base : Heap} {C : ClsAt} {T : List Addr} {f : Addr} {fd : FuncData} {cdv : Value} (B : Bn mg)
    (F : FunC K "digit_at" "digit_at" s_digit_at f fd cdv) (hm : mg "digit_at" = some (.ref f)) : FnP P w K mg base C T 1 "digit_at" 4 F_digit_at :=
  fnP_DC (body := b_digit_at) F hm sc_digit_at rfl rfl (fun _ _ _ _ _ _ us hl => match us, hl with | [_, _, _, _], _ => rfl) fun A outer s H E hr =>
  (sd_cons (sd_par2 4 5 rfl nd_digit_at rfl rfl (by decide) rfl rfl (ad_cons (ed_sl (ev 0) (od_some (ev 1)) (od_some (ed_bin (ev 1) ed_int))) (ad_cons (ed_sl (ev 0) (od_some (ed_bin (ev 1) ed_int)) (od_some (ed_bin (ev 1) ed_int))) ad_nil)) rfl)
  (sd_cons (sd_if (wd_or (td_not (td_tru (ev 4))) (wd_or (tc hr (ev 4) ed_str) (wd_or1 (wd_and (td_tru (ev 5)) (wd_and1 (tc hr (ev 5) ed_str))).pt))).pt (sd_one sd_never) sd_nil)
  (sd_cons (sd_if (td_not (td_chain (hu125 hr) (ev 2) (ed_bi .int rfl (by rfl) B.int (ev 4)) (ev 3))) (sd_one sd_never) sd_nil)
  (sd_one (sd_ret (ed_bi .int rfl (by rfl) B.int (ev 4)))))))

abbrev s_read_web : Stmt := topS 14
abbrev N_read_web : List Str := ["text", "at", "size", "pairs", "one", "other", "pair"]
theorem sc_read_web : FnScope N_read_web ["text"] (defScope s_read_web) := ⟨rfl, rfl, rfl, by decide +kernel, rfl, by decide +kernel, by decide +kernel⟩
theorem nd_read_web : List.Nodup N_read_web := by decide +kernel
theorem w_read_web {P : Program} {w : World} {K : PySem.W.Frag} {mg : Str → Option Value} {base : Heap} {C : ClsAt} {T : List Addr} {f : Addr} {fd : FuncData} {cdv : Value} (B : Bn mg) (hc_MOST_PEOPLE : ∃ u, mg "MOST_PEOPLE" = some u ∧ RelV (.int 7) u) (G_after_spaces : FnP P w K mg base C T 1 "after_spaces" 2 F_after_spaces) (G_digit_at : FnP P w K mg base C T 1 "digit_at" 4 F_digit_at)
    (F : FunC K "read_web" "read_web" s_read_web f fd cdv) (hm : mg "read_web" = some (.ref f)) : FnP P w K mg base C T 2 "read_web" 1 F_read_web :=
  fnP_DC (body := b_read_web) F hm sc_read_web rfl rfl (fun _ _ _ _ _ _ us hl => match us, hl with | [_], _ => rfl) fun A outer s H E hr =>
  (sd_cons (sd_if (td_not (td_tru (ed_isi .str rfl (by rfl) B.isinstance (by rfl) B.str (ev 0)))) (sd_one sd_never) sd_nil)
  (sd_cons (sd_asg (ed_call G_after_spaces hr (by decide) (by rfl) takes_body (ad_cons (ev 0) (ad_cons ed_int ad_nil))) (gn 1 nd_read_web))
  (sd_cons (sd_asg (ed_call G_digit_at hr (by decide) (by rfl) takes_body (ad_cons (ev 0) (ad_cons (ev 1) (ad_cons ed_int (ad_cons (ed_glob (by rfl) hc_MOST_PEOPLE fun _ => .int 7) ad_nil))))) (gn 2 nd_read_web))
  (sd_cons (sd_asg (ed_call G_after_spaces hr (by decide) (by rfl) takes_body (ad_cons (ev 0) (ad_cons (ed_bin (ev 1) ed_int) ad_nil))) (gn 1 nd_read_web))
  (sd_cons (sd_if (tc hr (ed_sl (ev 0) (od_some (ev 1)) (od_some (ed_bin (ev 1) ed_int))) ed_str) (sd_one sd_never) sd_nil)
  (sd_cons (sd_par2 3 1 rfl nd_read_web rfl rfl (by decide) rfl rfl (ad_cons (ed_cell (ld_lst ad_nil)) (ad_cons (ed_call G_after_spaces hr (by decide) (by rfl) takes_body (ad_cons (ev 0) (ad_cons (ed_bin (ev 1) ed_int) ad_nil))) ad_nil)) rfl)
  (sd_cons (sd_while 1000000 passes_body (tc hr (ev 1) (ed_bi .len rfl (by rfl) B.len (ev 0))) (sd_cons (sd_asg (ed_call G_digit_at hr (by decide) (by rfl) takes_body (ad_cons (ev 0) (ad_cons (ev 1) (ad_cons ed_int (ad_cons (ed_bin (ev 2) ed_int) ad_nil))))) (gn 4 nd_read_web))
  (sd_cons (sd_asg (ed_call G_after_spaces hr (by decide) (by rfl) takes_body (ad_cons (ev 0) (ad_cons (ed_bin (ev 1) ed_int) ad_nil))) (gn 1 nd_read_web))
  (sd_cons (sd_if (tc hr (ed_sl (ev 0) (od_some (ev 1)) (od_some (ed_bin (ev 1) ed_int))) ed_str) (sd_one sd_never) sd_nil)
  (sd_cons (sd_asg (ed_call G_after_spaces hr (by decide) (by rfl) takes_body (ad_cons (ev 0) (ad_cons (ed_bin (ev 1) ed_int) ad_nil))) (gn 1 nd_read_web))
  (sd_cons (sd_asg (ed_call G_digit_at hr (by decide) (by rfl) takes_body (ad_cons (ev 0) (ad_cons (ev 1) (ad_cons ed_int (ad_cons (ed_bin (ev 2) ed_int) ad_nil))))) (gn 5 nd_read_web))
  (sd_cons (sd_asg (ed_tup (ad_cons (ed_min2 rfl (by rfl) B.min (ev 4) (ev 5)) (ad_cons (ed_max2 rfl (by rfl) B.max (ev 4) (ev 5)) ad_nil))) (gn 6 nd_read_web))
  (sd_cons (sd_if (wd_or (tc hr (ev 4) (ev 5)) (wd_or1 (tc hr (ev 6) (ev 3)))).pt (sd_one sd_never) sd_nil)
  (sd_cons (sd_drop (ed_append (ev 3) (ev 6)))
  (sd_one (sd_asg (ed_call G_after_spaces hr (by decide) (by rfl) takes_body (ad_cons (ev 0) (ad_cons (ed_bin (ev 1) ed_int) ad_nil))) (gn 1 nd_read_web))))))))))))
  (sd_one (sd_ret (ed_tup (ad_cons (ev 2) (ad_cons (ed_bi .tuple rfl (by rfl) B.tuple (ed_frz (ld_sorted (by rfl) B.sorted (ev 3)))) ad_nil))))))))))))

abbrev s_with_names : Stmt := topS 16
abbrev N_with_names : List Str := ["web", "order", "pairs", "one", "other"]
theorem sc_with_names : FnScope N_with_names ["web", "order"] (defScope s_with_names) := ⟨rfl, rfl, rfl, by decide +kernel, rfl, by decide +kernel, by decide +kernel⟩
theorem nd_with_names : List.Nodup N_with_names := by decide +kernel
theorem w_with_names {P : Program} {w : World} {K : PySem.W.Frag} {mg : Str → Option Value} {base : Heap} {C : ClsAt} {T : List Addr} {f : Addr} {fd : FuncData} {cdv : Value} (B : Bn mg)
    (F : FunC K "with_names" "with_names" s_with_names f fd cdv) (hm : mg "with_names" = some (.ref f)) : FnP P w K mg base C T 1 "with_names" 2 F_with_names :=
  fnP_DC (body := b_with_names) F hm sc_with_names rfl rfl (fun _ _ _ _ _ _ us hl => match us, hl with | [_, _], _ => rfl) fun A outer s H E hr =>
  (sd_cons (sd_setLc 2 (own := [("one", 3), ("other", 4)]) rfl nd_with_names rfl rfl (sw_true rfl rfl rfl (by decide +kernel)) (id_seq (ed_ix (ev 0) ed_int (fun _ _ => rfl))) (blkOk_by (N := N_with_names) (sc := (defScope s_with_names)) (by decide +kernel)) (by decide) (fun _ _ _ _ _ => (gd_tup rfl (gsd_cons (gn 3 nd_with_names) (gsd_cons (gn 4 nd_with_names) gsd_nil)))) (fun _ _ _ _ _ => ptd_nil) (fun _ _ _ _ _ => (ed_bi .tuple rfl (by rfl) B.tuple (ed_frz (ld_sorted (by rfl) B.sorted (ed_frz (ld_lst (ad_cons (ed_ix (ev 1) (ev 3) (fun _ _ => rfl)) (ad_cons (ed_ix (ev 1) (ev 4) (fun _ _ => rfl)) ad_nil)))))))))
  (sd_one (sd_ret (ed_tup (ad_cons (ed_ix (ev 0) ed_int (fun _ _ => rfl)) (ad_cons (ed_bi .tuple rfl (by rfl) B.tuple (ed_frz (ld_sorted (by rfl) B.sorted (ev 2)))) ad_nil))))))

abbrev s_renamed : Stmt := topS 17
abbrev N_renamed : List Str := ["web", "order", "one"]
theorem sc_renamed : FnScope N_renamed ["web", "order"] (defScope s_renamed) := ⟨rfl, rfl, rfl, by decide +kernel, rfl, by decide +kernel, by decide +kernel⟩
theorem nd_renamed : List.Nodup N_renamed := by decide +kernel
theorem w_renamed {P : Program} {w : World} {K : PySem.W.Frag} {mg : Str → Option Value} {base : Heap} {C : ClsAt} {T : List Addr} {f : Addr} {fd : FuncData} (B : Bn mg) {c P0 : Addr} (TB : GxR.TabB base mg c P0) (hP : P0 ∈ T) (G_need_web : FnP P w K mg base C T 3 "need_web" 1 F_need_web) (G_is_in : FnP P w K mg base C T 1 "is_in" 3 F_is_in) (G_with_names : FnP P w K mg base C T 1 "with_names" 2 F_with_names)
    (F : FunC K "renamed" "renamed" s_renamed f fd (.ref c)) (hm : mg "renamed" = some (.ref f)) : FnP P w K mg base C T 5 "renamed" 2 F_renamed :=
  fnP_DC (body := b_renamed) F hm sc_renamed rfl rfl (fun _ _ _ _ _ _ us hl => match us, hl with | [_, _], _ => rfl) fun A outer s H E hr =>
  (sd_cons (sd_drop (ed_call G_need_web hr (by decide) (by rfl) takes_body (ad_cons (ev 0) ad_nil)))
  (sd_cons (sd_if (wd_or (td_not (td_tru (ed_isi .tup rfl (by rfl) B.isinstance (by rfl) B.tuple (ev 1)))) (wd_or1 (td_not (td_tru (ed_anyG (own := [("one", 2)]) false (.inr ⟨rfl, rfl⟩) hr rfl (by rfl) B.all hP TB rfl (blkOk_by (N := N_renamed) (sc := (defScope s_renamed)) (by decide +kernel)) nd_renamed rfl (by decide +kernel) rfl (by decide) (id_seq (ev 1)) (fun _ => rfl) (fun _ _ _ _ _ _ _ hr' => (gn 2 nd_renamed)) (fun _ _ _ _ _ _ _ hr' => ptd_nil) (fun _ _ _ _ _ _ _ hr' => (ed_call G_is_in hr' (by decide) (by rfl) takes0 (ad_cons (ev 2) (ad_cons ed_int (ad_cons (ed_bin (ed_ix (ev 0) ed_int (fun _ _ => rfl)) ed_int) ad_nil)))))))))).pt (sd_one sd_never) sd_nil)
  (sd_cons (sd_if (tc hr (ed_frz (ld_sorted (by rfl) B.sorted (ev 1))) (ed_frz (ld_listR1 rfl (by rfl) B.list (by rfl) B.range (ed_ix (ev 0) ed_int (fun _ _ => rfl))))) (sd_one sd_never) sd_nil)
  (sd_one (sd_ret (ed_call G_with_names hr (by decide) (by rfl) takes_body (ad_cons (ev 0) (ad_cons (ev 1) ad_nil))))))))

abbrev s__law_taken : Stmt := topS 19
abbrev N__law_taken : List Str := ["_law_row_here", "_law_many", "_law_cell", "_law_found"]
theorem sc__law_taken : FnScope N__law_taken ["_law_row_here", "_law_many"] (defScope s__law_taken) := ⟨rfl, rfl, rfl, by decide +kernel, rfl, by decide +kernel, by decide +kernel⟩
theorem nd__law_taken : List.Nodup N__law_taken := by decide +kernel
theorem w__law_taken {P : Program} {w : World} {K : PySem.W.Frag} {mg : Str → Option Value} {base : Heap} {C : ClsAt} {T : List Addr} {f : Addr} {fd : FuncData} {cdv : Value} (B : Bn mg)
    (F : FunC K "_law_taken" "_law_taken" s__law_taken f fd cdv) (hm : mg "_law_taken" = some (.ref f)) : FnP P w K mg base C T 1 "_law_taken" 2 F__law_taken :=
  fnP_DC (body := b__law_taken) F hm sc__law_taken rfl rfl (fun _ _ _ _ _ _ us hl => match us, hl with | [_, _], _ => rfl) fun A outer s H E hr =>
  (sd_cons (sd_if (tc hr (ed_ix (ev 0) ed_int (fun _ _ => rfl)) ed_int) (sd_cons (sd_asg (ed_bin (ed_bi .int rfl (by rfl) B.int (ed_ix (ev 0) ed_int (fun _ _ => rfl))) (ev 1)) (gn 3 nd__law_taken))
  (sd_cons (sd_asg (ed_bin (ed_ix (ev 0) ed_int (fun _ _ => rfl)) (ev 1)) (gd_sub (ev 0) ed_int))
  (sd_one (sd_ret (ev 3))))) sd_nil)
  (sd_cons (sd_asg (ed_bin (ed_ix (ev 0) ed_int (fun _ _ => rfl)) ed_int) (gd_sub (ev 0) ed_int))
  (sd_cons (sd_if (tc hr (ed_ix (ev 0) ed_int (fun _ _ => rfl)) (ed_bi .len rfl (by rfl) B.len (ed_ix (ev 0) ed_int (fun _ _ => rfl)))) (sd_cons (sd_asg (ed_bin (ed_bi .int rfl (by rfl) B.int (ed_bin (ed_bin (ed_ix (ev 0) ed_int (fun _ _ => rfl)) ed_int) ed_int)) ed_int) (gd_sub (ev 0) ed_int))
  (sd_one (sd_ret (ed_bin (ed_bi .int rfl (by rfl) B.int (ed_bin (ed_ix (ev 0) ed_int (fun _ _ => rfl)) ed_int)) (ev 1))))) sd_nil)
  (sd_cons (sd_asg (ed_ix (ed_ix (ev 0) ed_int (fun _ _ => rfl)) (ed_bin (ed_ix (ev 0) ed_int (fun _ _ => rfl)) ed_int) (fun _ _ => rfl)) (gn 2 nd__law_taken))
  (sd_cons (sd_asg (ed_bin (ed_bi .int rfl (by rfl) B.int (ed_bin (ed_bin (ed_bin (ed_ix (ev 0) ed_int (fun _ _ => rfl)) ed_int) (ev 2)) ed_int)) ed_int) (gd_sub (ev 0) ed_int))
  (sd_cons (sd_if (tc hr (ev 2) (ed_bin ed_int ed_int)) (sd_one (sd_asg (ed_bin (ev 2) (ev 1)) (gd_sub (ev 0) ed_int))) sd_nil)
  (sd_one (sd_ret (ed_bin (ed_bi .int rfl (by rfl) B.int (ev 2)) (ev 1))))))))))

abbrev s__law_web : Stmt := topS 22
abbrev N__law_web : List Str := ["_law_row_here", "_law_most", "_law_way", "_law_one", "_law_size", "_law_pairs", "_law_other", "_law_near"]
theorem sc__law_web : FnScope N__law_web ["_law_row_here", "_law_most"] (defScope s__law_web) := ⟨rfl, rfl, rfl, by decide +kernel, rfl, by decide +kernel, by decide +kernel⟩
theorem nd__law_web : List.Nodup N__law_web := by decide +kernel
theorem w__law_web {P : Program} {w : World} {K : PySem.W.Frag} {mg : Str → Option Value} {base : Heap} {C : ClsAt} {T : List Addr} {f : Addr} {fd : FuncData} {cdv : Value} (B : Bn mg) (G__law_taken : FnP P w K mg base C T 1 "_law_taken" 2 F__law_taken)
    (F : FunC K "_law_web" "_law_web" s__law_web f fd cdv) (hm : mg "_law_web" = some (.ref f)) : FnP P w K mg base C T 2 "_law_web" 2 F__law_web :=
  fnP_DC (body := b__law_web) F hm sc__law_web rfl rfl (fun _ _ _ _ _ _ us hl => match us, hl with | [_, _], _ => rfl) fun A outer s H E hr =>
  (sd_cons (sd_par2 4 5 rfl nd__law_web rfl rfl (by decide) rfl rfl (ad_cons (ed_bin ed_int (ed_call G__law_taken hr (by decide) (by rfl) takes_body (ad_cons (ev 0) (ad_cons (ev 1) ad_nil)))) (ad_cons (ed_cell (ld_lst ad_nil)) ad_nil)) rfl)
  (sd_cons (sd_asg (ed_call G__law_taken hr (by decide) (by rfl) takes_body (ad_cons (ev 0) (ad_cons ed_int ad_nil))) (gn 2 nd__law_web))
  (sd_cons (sd_for passes_body rfl (id_rng1 (by rfl) B.range (ev 4)) (gn 3 nd__law_web) (sd_one (sd_for passes_body rfl (id_rng2 (by rfl) B.range (ed_bin (ev 3) ed_int) (ev 4)) (gn 6 nd__law_web) (sd_cons (sd_asg (ed_or (ec hr (ev 6) (ed_bin (ev 3) ed_int)) (ed_one (ed_and (ec hr (ev 3) ed_int) (ed_and (ec hr (ev 6) (ed_bin (ev 4) ed_int)) (ed_one (ec hr (ev 2) ed_int)))))) (gn 7 nd__law_web))
  (sd_one (sd_if (wd_or (wd_and (tc hr (ed_call G__law_taken hr (by decide) (by rfl) takes_body (ad_cons (ev 0) (ad_cons ed_int ad_nil))) ed_int) (wd_and1 (tc hr (ev 2) ed_int))).pt (wd_or (wd_and (td_tru (ev 7)) (wd_and1 (tc hr (ev 2) ed_int))).pt (wd_or1 (wd_and (tc hr (ev 2) ed_int) (wd_and1 (tc hr (ed_call G__law_taken hr (by decide) (by rfl) takes_body (ad_cons (ev 0) (ad_cons ed_int ad_nil))) ed_int))).pt))).pt (sd_one (sd_drop (ed_append (ev 5) (ed_tup (ad_cons (ev 3) (ad_cons (ev 6) ad_nil)))))) sd_nil))))))
  (sd_one (sd_ret (ed_tup (ad_cons (ev 4) (ad_cons (ed_bi .tuple rfl (by rfl) B.tuple (ev 5)) ad_nil))))))))

abbrev s_law : Stmt := topS 32
abbrev N_law : List Str := ["_law_script", "_law_row_here", "_law_web_here", "_law_text", "_law_parts", "_law_turned", "_law_other", "_law_k", "_law_part"]
theorem sc_law : FnScope N_law ["_law_script"] (defScope s_law) := ⟨rfl, rfl, rfl, by decide +kernel, rfl, by decide +kernel, by decide +kernel⟩
theorem nd_law : List.Nodup N_law := by decide +kernel
theorem w_law {P : Program} {w : World} {K : PySem.W.Frag} {mg : Str → Option Value} {base : Heap} {C : ClsAt} {T : List Addr} {f : Addr} {fd : FuncData} {cdv : Value} (B : Bn mg) (G__law_web : FnP P w K mg base C T 2 "_law_web" 2 F__law_web) (G_write_web : FnP P w K mg base C T 4 "write_web" 1 F_write_web) (G_read_web : FnP P w K mg base C T 2 "read_web" 1 F_read_web) (G_renamed : FnP P w K mg base C T 5 "renamed" 2 F_renamed)
    (F : FunC K "law" "law" s_law f fd cdv) (hm : mg "law" = some (.ref f)) : FnOk P w K mg base (L2.CX P w) 6 f fd ["_law_script"] (spD K C T 1 F_law) :=
  fn_DC (body := b_law) F sc_law rfl rfl fun A outer s H E hr =>
  (sd_cons (sd_asg (ed_cell (ld_lst (ad_cons (ev 0) (ad_cons ed_int (ad_cons ed_int (ad_cons ed_int ad_nil)))))) (gn 1 nd_law))
  (sd_cons (sd_asg (ed_call G__law_web hr (by decide) (by rfl) takes_body (ad_cons (ev 1) (ad_cons ed_int ad_nil))) (gn 2 nd_law))
  (sd_cons (sd_asg (ed_call G_write_web hr (by decide) (by rfl) takes_body (ad_cons (ev 2) ad_nil)) (gn 3 nd_law))
  (sd_cons (sd_if (wd_or (tc hr (ed_call G_read_web hr (by decide) (by rfl) takes_body (ad_cons (ev 3) ad_nil)) (ev 2)) (wd_or (tc hr (ed_count (ev 3) ed_str) (ed_bi .len rfl (by rfl) B.len (ed_ix (ev 2) ed_int (fun _ _ => rfl)))) (wd_or1 (tc hr (ed_sl (ed_frz (ld_split (ev 3) ed_str)) od_none (od_some ed_int)) (ed_frz (ld_lst (ad_cons (ed_bi .str rfl (by rfl) B.str (ed_ix (ev 2) ed_int (fun _ _ => rfl))) (ad_cons ed_str ad_nil)))))))).pt (sd_one (sd_ret ed_bl)) sd_nil)
  (sd_cons (sd_asg (ed_frz (ld_split (ev 3) ed_str)) (gn 4 nd_law))
  (sd_cons (sd_asg (ed_join ed_str (ed_bin (ed_sl (ev 4) od_none (od_some ed_int)) (ed_rev (ed_frz (ld_lc (own := [("_law_part", 8)]) rfl nd_law (id_seq (ed_sl (ev 4) (od_some ed_int) od_none)) (blkOk_by (N := N_law) (sc := (defScope s_law)) (by decide +kernel)) (by decide) (fun _ _ _ _ _ => (gn 8 nd_law)) (fun _ _ _ _ _ => ptd_nil) (fun _ _ _ _ _ => (ed_rev (ev 8)))))))) (gn 5 nd_law))
  (sd_cons (sd_if (wd_or (tc hr (ed_call G_read_web hr (by decide) (by rfl) takes_body (ad_cons (ev 5) ad_nil)) (ev 2)) (wd_or1 (tc hr (ed_call G_read_web hr (by decide) (by rfl) takes_body (ad_cons (ed_bin (ed_constT (ed_replT (ed_repl (ev 3)))) ed_str) ad_nil)) (ev 2)))).pt (sd_one (sd_ret ed_bl)) sd_nil)
  (sd_cons (sd_asg (ed_call G_renamed hr (by decide) (by rfl) takes_body (ad_cons (ev 2) (ad_cons (ed_bi .tuple rfl (by rfl) B.tuple (ed_frz (ld_lc (own := [("_law_k", 7)]) rfl nd_law (id_rng1 (by rfl) B.range (ed_ix (ev 2) ed_int (fun _ _ => rfl))) (blkOk_by (N := N_law) (sc := (defScope s_law)) (by decide +kernel)) (by decide) (fun _ _ _ _ _ => (gn 7 nd_law)) (fun _ _ _ _ _ => ptd_nil) (fun _ _ _ _ _ => (ed_bin (ed_bin (ed_ix (ev 2) ed_int (fun _ _ => rfl)) ed_int) (ev 7)))))) ad_nil))) (gn 6 nd_law))
  (sd_one (sd_ret (ed_and (ec hr (ed_call G_read_web hr (by decide) (by rfl) takes_body (ad_cons (ed_call G_write_web hr (by decide) (by rfl) takes_body (ad_cons (ev 6) ad_nil)) ad_nil)) (ev 6)) (ed_one (ec hr (ec hr (ed_call G_write_web hr (by decide) (by rfl) takes_body (ad_cons (ev 6) ad_nil)) (ev 3)) (ec hr (ev 6) (ev 2)))))))))))))))

end Dy
set_option Elab.async false
set_option linter.all false
set_option maxRecDepth 100000
set_option maxHeartbeats 2000000
/-! Dy4: the head: facts of the defs, the law's end. -/
namespace Dy
open PySem PySem.Spec PyProof.Rows L2
/-- a def of the module as a datum -/
def dd (x : Str) (st : Stmt) : He.DefD := ⟨(x, none), x, x, defArgs st, defBody st, defScope st, [], []⟩
section
variable {K : PySem.W.Frag} {fa : List He.Fa} {fn : List He.DefD} {ts : List He.Tab} {tf : List He.Defn} {ex : PySem.W.Frag → Bool} {w : World} {h : Heap} {mg : Str → Option Value}
/-- a def's function object, its code object by name -/
theorem fun_at (c : He.SaysX fa fn ts tf ex w h K) (KX : K.In h) (G : h.Ns mainGlobals mg) {x : Str} {st : Stmt} (hd : dd x st ∈ fn) (hf : He.Fa.glo x ∈ fa) :
    ∃ f fd, FunC K x x st f fd (.ref (He.codeOf K (x, none))) ∧ mg x = some (.ref f) := by
  obtain ⟨fd, F⟩ := c.t.d.defs hd
  have hg : mg x = some (.ref (He.ga K x)) := He.glo_ok KX G (c.t.d.facts hf)
  refine ⟨He.ga K x, fd, ?_, hg⟩
  obtain ⟨⟨oc, od, dV, kV, doc, pm, an, cdv, ct, osl, e, lk, hc, hdv, hkw⟩, kp⟩ := F
  obtain ⟨c0, rfl⟩ := He.codeIn_ref hc
  have hdN : dV = .none := by
    rcases hdv with ⟨_, z⟩ | ⟨z, _⟩
    · exact z
    · exact absurd rfl z
  subst hdN
  have ec : He.codeOf K (x, none) = c0 := He.codeOf_eq lk (by rw [e] <;> rfl)
  refine ⟨⟨oc, od, kV, doc, pm, an, ct, osl, ?_, lk, ?_⟩, kp⟩
  · rw [ec]; exact e
  · rw [ec]; exact hc
theorem gtab {base : Heap} {c P : Addr} (t : LamX.TabB base mg c P) : GxR.TabB base mg c P := ⟨t.code, t.bm, t.gP⟩
end
/-- where the tables stand -/
abbrev tabT (K : PySem.W.Frag) (tf : List He.Defn) : List Addr := (tf.map (He.cT K)).map (·.2)
/-- the law's promise from its meaning -/
theorem sp_law {K : PySem.W.Frag} {C : ClsAt} {cs : List (Addr × Addr)} {F : Fn} {ns : List Int} {S' : Sto} (hp : F [.v (.scr ns)] [] = .ok (.v (.bl true)) S') {H : Hp} {a : Addr} (hT : ∀ p ∈ cs, H p.2 = some (.tbl #[])) (hS : SqL K H a (ns.map V.int)) :
    spD K C (cs.map (·.2)) 1 F [.ref a] H (fun v _ => v = .bl true) fun _ _ _ => False := by
  have tb : ∀ {b : Addr}, b ∈ cs.map (·.2) → H b = some (.tbl #[]) := fun hb => by
    obtain ⟨p, hp, rfl⟩ := List.mem_map.mp hb
    exact hT p hp
  have hF : ∀ {b : Addr} {o : HO}, H b = some o → o ≠ .tbl #[] → (if b ∈ cs.map (·.2) then none else H b) = some o := fun {b o} e n => by
    rw [if_neg (fun z => n (by rw [tb z] at e; exact (Option.some.inj e).symm))]; exact e
  refine ⟨rfl, ⟨fun b => if b ∈ cs.map (·.2) then none else H b, [], [], fun _ => none⟩, [], [.v (.scr ns)], .cons (.v (.scr ?_)) .nil, ⟨fun b o e => ?_, List.nodup_nil, rfl, fun i a d e => by simp at e, fun P hP => ?_, fun b o e => by cases e⟩, ?_⟩
  · rcases hS with (e | ⟨o, e⟩) | e
    · exact .inl (.inl (hF e (fun z => by cases z)))
    · exact .inl (.inr ⟨o, hF e (fun z => by cases z)⟩)
    · exact .inr e
  · have e : (if b ∈ cs.map (·.2) then none else H b) = some o := e
    split at e
    · cases e
    · exact e
  · exact ⟨if_pos hP, List.not_mem_nil, rfl, #[], tb hP, by simp [TriplesOk]⟩
  · rw [hp]
    intro v M' H' x r w'
    cases r with
    | v r => cases r; rfl
end Dy
set_option Elab.async false
set_option linter.all false
set_option maxRecDepth 100000
set_option maxHeartbeats 2000000
/-! Dy5: what the combinators give, for simp. -/
namespace Dy
open PySem PySem.Spec PyProof.Rows L2
section
variable (f g h : SE) (ga : SA) (gl : SL) (fb gb : SB) (fs gs : SS) (ρ : Env) (S : Sto)
@[simp] theorem x_C (d : D) : sC d ρ S = .ok (.v d) S := rfl
@[simp] theorem x_Bin (op : Operator) : sBin op f g ρ S = (f ρ S).bind fun x S1 => (g ρ S1).bind fun y S2 => ofO (derefW S2 x) fun dx => ofO (derefW S2 y) fun dy => ofO (binD op dx dy) fun d => .ok (.v d) S2 := rfl
@[simp] theorem x_Cmp (op : CmpOp) : sCmp op f g ρ S = (f ρ S).bind fun x S1 => (g ρ S1).bind fun y S2 => ofO (derefW S2 x) fun dx => ofO (derefW S2 y) fun dy => ofO (cmpD op dx dy) fun d => .ok d S2 := rfl
@[simp] theorem x_OfB : sOfB fb ρ S = (fb ρ S).bind fun b S1 => .ok (.v (.bl b)) S1 := rfl
@[simp] theorem x_ANil : sANil ρ S = .ok [] S := rfl
@[simp] theorem x_ACons : sACons f ga ρ S = (f ρ S).bind fun x S1 => (ga ρ S1).bind fun xs S2 => .ok (x :: xs) S2 := rfl
@[simp] theorem x_AStar : sAStar f ga ρ S = (f ρ S).bind fun x S1 => ofO (derefW S1 x) fun dx => ofO (seqD dx) fun ds => (ga ρ S1).bind fun xs S2 => .ok (ds.map .v ++ xs) S2 := rfl
@[simp] theorem x_Tup : sTup ga ρ S = (ga ρ S).bind fun xs S1 => ofO (allD xs) fun ds => if ds.length ≤ LIM then .ok (.v (.tup ds)) S1 else .no := rfl
@[simp] theorem x_Lst : sLst ga ρ S = (ga ρ S).bind fun xs S1 => ofO (allD xs) fun ds => if ds.length ≤ LIM then .ok ds S1 else .no := rfl
@[simp] theorem x_Frz : sFrz gl ρ S = (gl ρ S).bind fun ds S1 => .ok (.v (.lst ds)) S1 := rfl
@[simp] theorem x_Cell : sCell gl ρ S = (gl ρ S).bind fun ds S1 => .ok (.p S1.length) (S1 ++ [.lst ds]) := rfl
@[simp] theorem x_Ix : sIx f g ρ S = (f ρ S).bind fun x S1 => (g ρ S1).bind fun y S2 => ofO (derefW S2 x) fun dx => ofO (derefW S2 y) fun dy => ofO (ixD dx dy) fun d => .ok (.v d) S2 := rfl
@[simp] theorem x_ONone : sONone ρ S = .ok none S := rfl
@[simp] theorem x_OSome : sOSome f ρ S = (f ρ S).bind fun x S1 => ofO (wI x) fun i => .ok (some i) S1 := rfl
@[simp] theorem x_Sl (lo hi : SO) : sSl f lo hi ρ S = (f ρ S).bind fun x S1 => (lo ρ S1).bind fun l S2 => (hi ρ S2).bind fun u S3 => ofO (derefW S3 x) fun dx => ofO (slD dx l u) fun d => .ok (.v d) S3 := rfl
@[simp] theorem x_Bi (b : Bi) : sBi b f ρ S = (f ρ S).bind fun x S1 => ofO (derefW S1 x) fun dx => ofO (biD b dx) fun d => .ok (.v d) S1 := rfl
@[simp] theorem x_Test : sTest f ρ S = (f ρ S).bind fun x S1 => ofO (wB x) fun b => .ok b S1 := rfl
@[simp] theorem x_Tru : sTru f ρ S = (f ρ S).bind fun x S1 => ofO (derefW S1 x) fun dx => ofO (truD dx) fun b => .ok b S1 := rfl
@[simp] theorem x_And : sAnd fb gb ρ S = (fb ρ S).bind fun b S1 => if b = true then gb ρ S1 else .ok false S1 := rfl
@[simp] theorem x_Or : sOr fb gb ρ S = (fb ρ S).bind fun b S1 => if b = true then .ok true S1 else gb ρ S1 := rfl
@[simp] theorem x_Not : sNot fb ρ S = (fb ρ S).bind fun b S1 => .ok (!b) S1 := rfl
@[simp] theorem x_AndV : sAndV f g ρ S = (f ρ S).bind fun x S1 => ofO (wB x) fun b => if b = true then g ρ S1 else .ok (.v (.bl false)) S1 := rfl
@[simp] theorem x_OrV : sOrV f g ρ S = (f ρ S).bind fun x S1 => ofO (wB x) fun b => if b = true then .ok (.v (.bl true)) S1 else g ρ S1 := rfl
@[simp] theorem x_NotV : sNotV f ρ S = (f ρ S).bind fun x S1 => ofO (wB x) fun b => .ok (.v (.bl (!b))) S1 := rfl
@[simp] theorem x_If : sIf fb f g ρ S = (fb ρ S).bind fun b S1 => if b = true then f ρ S1 else g ρ S1 := rfl
@[simp] theorem x_Chain (op op' : CmpOp) : sChain op op' f g h ρ S = (f ρ S).bind fun x S1 => (g ρ S1).bind fun y S2 => ofO (derefW S2 x) fun dx => ofO (derefW S2 y) fun dy => ofO (cmpD op dx dy) fun b =>
  if b = true then (h ρ S2).bind fun z S3 => ofO (derefW S3 y) fun dy => ofO (derefW S3 z) fun dz => ofO (cmpD op' dy dz) fun b => .ok (.v (.bl b)) S3 else .ok (.v (.bl false)) S2 := rfl
@[simp] theorem x_Neg : sNeg f ρ S = (f ρ S).bind fun x S1 => ofO (wI x) fun i => .ok (.v (.int (-i))) S1 := rfl
@[simp] theorem x_Nx : sNx ρ S = .nx ρ S := rfl
@[simp] theorem x_Seq : sSeq fs gs ρ S = (fs ρ S).then gs := rfl
@[simp] theorem x_IfS : sIfS fb fs gs ρ S = (fb ρ S).toS fun b S1 => if b = true then fs ρ S1 else gs ρ S1 := rfl
@[simp] theorem x_Ret : sRet f ρ S = (f ρ S).toS fun w S1 => .ret w S1 := rfl
@[simp] theorem x_RetN : sRetN ρ S = .ret (.v .non) S := rfl
@[simp] theorem x_Drop : sDrop f ρ S = (f ρ S).toS fun _ S1 => .nx ρ S1 := rfl
@[simp] theorem x_Asg (γ : ST) : sAsg f γ ρ S = (f ρ S).toS fun w S1 => (γ w ρ S1).toS fun ρ' S2 => .nx ρ' S2 := rfl
@[simp] theorem x_gSet (i : Nat) (w : W) : gSet i w ρ S = if i < ρ.length then .ok (ρ.set i (some w)) S else .no := rfl
@[simp] theorem x_gsNil : gsNil [] ρ S = .ok ρ S := rfl
@[simp] theorem x_gsCons (γ : ST) (γs : STs) (w : W) (ws : List W) : gsCons γ γs (w :: ws) ρ S = (γ w ρ S).bind fun ρ1 S1 => γs ws ρ1 S1 := rfl
@[simp] theorem x_gTupD (n : Nat) (γs : STs) (ds : List D) : gTupD n γs (.v (.tup ds)) ρ S = if ds.length = n then γs (ds.map .v) ρ S else .no := rfl
@[simp] theorem x_gSubD (w : W) : gSubD f g w ρ S = (f ρ S).bind fun o S1 => (g ρ S1).bind fun i S2 => ofO (setC S2 o i w) fun S3 => .ok ρ S3 := rfl
@[simp] theorem x_Par2 (i j : Nat) : sPar2 i j ga ρ S = (ga ρ S).toS fun ws S1 => match ws with | [u, v] => .nx ((ρ.set i (some u)).set j (some v)) S1 | _ => .no := rfl
@[simp] theorem x_Call (np : Nat) (F : Fn) : sCall np F ga ρ S = (ga ρ S).bind fun ws S1 => if ws.length = np then F ws S1 else .no := rfl
@[simp] theorem x_Sorted : sSorted f ρ S = (f ρ S).bind fun x S1 => ofO (derefW S1 x) fun dx => ofO (seqD dx) fun ds => ofO (sortD ds) fun es => .ok es S1 := rfl
@[simp] theorem x_ListOf : sListOf f ρ S = (f ρ S).bind fun x S1 => ofO (derefW S1 x) fun dx => ofO (seqD dx) fun ds => .ok ds S1 := rfl
@[simp] theorem x_SeqI : sSeqI f ρ S = (f ρ S).bind fun x S1 => ofO (seqV x) fun ds => .ok ds S1 := rfl
@[simp] theorem x_Rng1 : sRng1 f ρ S = (f ρ S).bind fun x S1 => ofO (wI x) fun j => if -1000000 ≤ j ∧ j ≤ 1000000 then .ok (rngD 0 j.toNat) S1 else .no := rfl
@[simp] theorem x_ListR1 : sListR1 f ρ S = (f ρ S).bind fun x S1 => ofO (wI x) fun j => if -1000000 ≤ j ∧ j ≤ 1000000 then .ok (rngD 0 j.toNat) S1 else .no := rfl
@[simp] theorem x_Rng2 : sRng2 f g ρ S = (f ρ S).bind fun x S1 => (g ρ S1).bind fun y S2 => ofO (wI x) fun i => ofO (wI y) fun j => if (-1000000 ≤ i ∧ i ≤ 1000000) ∧ -1000000 ≤ j ∧ j ≤ 1000000 then .ok (rngD i (j - i).toNat) S2 else .no := rfl
@[simp] theorem x_Join : sJoin f g ρ S = (f ρ S).bind fun x S1 => ofO (wS x) fun a => (g ρ S1).bind fun y S2 => ofO (derefW S2 y) fun dy => ofO (seqD dy) fun ds => ofO (strsD ds) fun ys =>
  if (ys.map (·.length)).sum + ys.length * a.length ≤ 16777216 then .ok (.v (.str (Txt.join a ys))) S2 else .no := rfl
@[simp] theorem x_Split : sSplit f g ρ S = (f ρ S).bind fun x S1 => ofO (wS x) fun a => (g ρ S1).bind fun y S2 => ofO (wS y) fun b =>
  if (b.length == 0) = false ∧ a.length ≤ LIM then .ok ((Txt.split a b).map .str) S2 else .no := rfl
@[simp] theorem x_Count : sCount f g ρ S = (f ρ S).bind fun x S1 => ofO (wS x) fun a => (g ρ S1).bind fun y S2 => ofO (wS y) fun b => .ok (.v (.int (Txt.count a b))) S2 := rfl
@[simp] theorem x_Repl (y z : Str) : sRepl f y z ρ S = (f ρ S).bind fun x S1 => ofO (wS x) fun a =>
  if a.length + (a.length + 1) * z.length ≤ 16777216 then .ok (.v (.str (Txt.replace a y z))) S1 else .no := rfl
@[simp] theorem x_Rev : sRev f ρ S = (f ρ S).bind fun x S1 => ofO (derefW S1 x) fun dx => match dx with
  | .lst ds => .ok (.v (.lst ds.reverse)) S1
  | .str z => if z.length ≤ LIM ∧ (revS z).length ≤ LIM then .ok (.v (.str (revS z))) S1 else .no
  | _ => .no := rfl
@[simp] theorem x_Fmt : sFmt f ρ S = (f ρ S).bind fun x S1 => ofO (fmtD x) fun y => .ok (.v (.str y)) S1 := rfl
@[simp] theorem x_JsN (acc : Str) : sJs [] acc ρ S = .ok acc S := rfl
@[simp] theorem x_JsC (fs : List SE) (acc : Str) : sJs (f :: fs) acc ρ S = (f ρ S).bind fun x S1 => ofO (wS x) fun y => if (acc ++ y).length ≤ LIM then sJs fs (acc ++ y) ρ S1 else .no := rfl
@[simp] theorem x_Joined (fs : List SE) : sJoined fs ρ S = (sJs fs Str.empty ρ S).bind fun out S1 => .ok (.v (.str out)) S1 := rfl
@[simp] theorem x_App : sApp f g ρ S = (f ρ S).bind fun x S1 => ofO (wP x) fun c => ofO (cellL S1 c) fun _ => (g ρ S1).bind fun y S2 => ofO (wD y) fun d => ofO (cellL S2 c) fun ds =>
  if ds.length < LIM then .ok (.v .non) (S2.set c (.lst (ds ++ [d]))) else .no := rfl
@[simp] theorem x_Isi (t : Ty5) : sIsi t f ρ S = (f ρ S).bind fun x S1 => ofO (derefW S1 x) fun dx => .ok (.v (.bl (isD t dx))) S1 := rfl
@[simp] theorem x_MM (mx : Bool) : sMM mx f g ρ S = (f ρ S).bind fun x S1 => (g ρ S1).bind fun y S2 => ofO (wI x) fun i => ofO (wI y) fun j => .ok (.v (.int (if mx = true then (if j > i then j else i) else (if j < i then j else i)))) S2 := rfl
@[simp] theorem x_Yes : sYes ρ S = .ok true S := rfl
@[simp] theorem x_For (it : SL) (γ : ST) : sFor it γ fs ρ S = (it ρ S).toS fun ds S1 => forL γ fs ds ρ S1 := rfl
@[simp] theorem x_While (N : Nat) : sWhile N fb fs ρ S = whileD fb fs N ρ S := rfl
@[simp] theorem x_forN (γ : ST) : forL γ fs [] ρ S = .nx ρ S := rfl
@[simp] theorem x_Lc (it : SL) (γ : ST) (vs : List Nat) : sLc it γ fb f vs ρ S = (it ρ S).bind fun ds S1 => if ds.length ≤ LIM then lcL γ fb f (wipeD ρ vs) ds S1 else .no := rfl
@[simp] theorem x_Any (st : Bool) (it : SL) (γ : ST) (vs : List Nat) : sAny st it γ fb f vs ρ S = (it ρ S).bind fun ds S1 => (anyL st γ fb f (wipeD ρ vs) ds S1).bind fun b S2 => .ok (.v (.bl b)) S2 := rfl
end
@[simp] theorem x_wipeN (r : Env) : wipeD r [] = r := rfl
@[simp] theorem x_wipeC (r : Env) (v : Nat) (vs : List Nat) : wipeD r (v :: vs) = (wipeD r vs).set v none := rfl
@[simp] theorem x_Var0 (w : W) (ρ : Env) (S : Sto) : sVar 0 (some w :: ρ) S = .ok w S := rfl
@[simp] theorem x_VarS (i : Nat) (o : Option W) (ρ : Env) (S : Sto) : sVar (i + 1) (o :: ρ) S = sVar i ρ S := rfl
@[simp] theorem x_Var1 (a : Option W) (w : W) (ρ : Env) (S : Sto) : sVar 1 (a :: some w :: ρ) S = .ok w S := rfl
@[simp] theorem x_Var2 (a b : Option W) (w : W) (ρ : Env) (S : Sto) : sVar 2 (a :: b :: some w :: ρ) S = .ok w S := rfl
@[simp] theorem x_Var3 (a b c : Option W) (w : W) (ρ : Env) (S : Sto) : sVar 3 (a :: b :: c :: some w :: ρ) S = .ok w S := rfl
@[simp] theorem x_Var4 (a b c d : Option W) (w : W) (ρ : Env) (S : Sto) : sVar 4 (a :: b :: c :: d :: some w :: ρ) S = .ok w S := rfl
@[simp] theorem x_Var5 (a b c d e : Option W) (w : W) (ρ : Env) (S : Sto) : sVar 5 (a :: b :: c :: d :: e :: some w :: ρ) S = .ok w S := rfl
@[simp] theorem x_Var6 (a b c d e f : Option W) (w : W) (ρ : Env) (S : Sto) : sVar 6 (a :: b :: c :: d :: e :: f :: some w :: ρ) S = .ok w S := rfl
@[simp] theorem x_Var7 (a b c d e f g : Option W) (w : W) (ρ : Env) (S : Sto) : sVar 7 (a :: b :: c :: d :: e :: f :: g :: some w :: ρ) S = .ok w S := rfl
@[simp] theorem x_Var8 (a b c d e f g h : Option W) (w : W) (ρ : Env) (S : Sto) : sVar 8 (a :: b :: c :: d :: e :: f :: g :: h :: some w :: ρ) S = .ok w S := rfl
@[simp] theorem derefW_v (S : Sto) (d : D) : derefW S (.v d) = some d := rfl
@[simp] theorem wI_int (i : Int) : wI (.v (.int i)) = some i := rfl
@[simp] theorem wB_bl (i : Bool) : wB (.v (.bl i)) = some i := rfl
@[simp] theorem wS_str (i : Str) : wS (.v (.str i)) = some i := rfl
@[simp] theorem wD_v (d : D) : wD (.v d) = some d := rfl
@[simp] theorem wP_p (i : Nat) : wP (.p i) = some i := rfl
@[simp] theorem seqV_l (ds : List D) : seqV (.v (.lst ds)) = some ds := rfl
@[simp] theorem seqV_t (ds : List D) : seqV (.v (.tup ds)) = some ds := rfl
@[simp] theorem seqD_l (ds : List D) : seqD (.lst ds) = some ds := rfl
@[simp] theorem seqD_t (ds : List D) : seqD (.tup ds) = some ds := rfl
@[simp] theorem bin_add (i j : Int) : binD .Add (.int i) (.int j) = some (.int (i + j)) := rfl
@[simp] theorem bin_sub (i j : Int) : binD .Sub (.int i) (.int j) = some (.int (i - j)) := rfl
@[simp] theorem bin_mul (i j : Int) : binD .Mult (.int i) (.int j) = if i.natAbs.log2 + j.natAbs.log2 < 1000000 then some (.int (i * j)) else none := rfl
@[simp] theorem bin_fdiv (i j : Int) : binD .FloorDiv (.int i) (.int j) = if j ≠ 0 ∧ j.natAbs.log2 < 9000 then some (.int (i.fdiv j)) else none := rfl
@[simp] theorem bin_mod (i j : Int) : binD .Mod (.int i) (.int j) = if j ≠ 0 then some (.int (i.fmod j)) else none := rfl
@[simp] theorem bin_pow (i j : Int) : binD .Pow (.int i) (.int j) = if 0 ≤ j ∧ j ≤ 1000000 ∧ i.natAbs < 2 ^ 64 then some (.int (i ^ j.toNat)) else none := rfl
@[simp] theorem bin_addS (a b : Str) : binD .Add (.str a) (.str b) = if a.length + b.length ≤ LIM then some (.str (a ++ b)) else none := rfl
@[simp] theorem bin_addT (a b : List D) : binD .Add (.tup a) (.tup b) = if a.length + b.length ≤ LIM then some (.tup (a ++ b)) else none := rfl
@[simp] theorem bin_addL (a b : List D) : binD .Add (.lst a) (.lst b) = if a.length + b.length ≤ LIM then some (.lst (a ++ b)) else none := rfl
@[simp] theorem cmp_lt (i j : Int) : cmpD .Lt (.int i) (.int j) = some (decide (i < j)) := rfl
@[simp] theorem cmp_le (i j : Int) : cmpD .LtE (.int i) (.int j) = some (decide (i ≤ j)) := rfl
@[simp] theorem cmp_gt (i j : Int) : cmpD .Gt (.int i) (.int j) = some (decide (j < i)) := rfl
@[simp] theorem cmp_ge (i j : Int) : cmpD .GtE (.int i) (.int j) = some (decide (j ≤ i)) := rfl
@[simp] theorem cmp_eq (i j : Int) : cmpD .Eq (.int i) (.int j) = some (i == j) := rfl
@[simp] theorem cmp_ne (i j : Int) : cmpD .NotEq (.int i) (.int j) = some (!(i == j)) := rfl
theorem cmp_eqS (a b : Str) (ha : PyData.strOk a = true) (hb : PyData.strOk b = true) : cmpD .Eq (.str a) (.str b) = some (a == b) := by
  unfold cmpD shp flD dpt eqD; simp [ha, hb]
theorem cmp_neS (a b : Str) (ha : PyData.strOk a = true) (hb : PyData.strOk b = true) : cmpD .NotEq (.str a) (.str b) = some (!(a == b)) := by
  unfold cmpD shp flD dpt eqD; simp [ha, hb]
theorem cmp_eqG (a b : D) (ha : shp a = true) (hb : shp b = true) : cmpD .Eq a b = some (eqD a b) := by unfold cmpD; simp [ha, hb]
theorem cmp_neG (a b : D) (ha : shp a = true) (hb : shp b = true) : cmpD .NotEq a b = some (!eqD a b) := by unfold cmpD; simp [ha, hb]
@[simp] theorem bi_len (x : D) : biD .len x = (lenD x).map .int := by cases x <;> rfl
@[simp] theorem bi_int (i : Int) : biD .int (.int i) = some (.int i) := rfl
@[simp] theorem bi_intb (i : Bool) : biD .int (.bl i) = some (.int (if i then 1 else 0)) := rfl
@[simp] theorem bi_ints (a : Str) : biD .int (.str a) = if a.length ≤ 640 then (PySem.intText? a).map .int else none := rfl
@[simp] theorem bi_str (i : Int) : biD .str (.int i) = if i.natAbs.log2 < 1920 then some (.str (Str.ofString (toString i))) else none := rfl
@[simp] theorem bi_tup (x : D) : biD .tuple x = (seqD x).map .tup := by cases x <;> rfl
@[simp] theorem len_l (ds : List D) : lenD (.lst ds) = some ds.length := rfl
@[simp] theorem len_t (ds : List D) : lenD (.tup ds) = some ds.length := rfl
@[simp] theorem len_c (ds : List Int) : lenD (.scr ds) = some ds.length := rfl
@[simp] theorem len_s (z : Str) : lenD (.str z) = if z.length ≤ LIM then some (z.length : Int) else none := rfl
@[simp] theorem ix_l (xs : List D) (i : Int) : ixD (.lst xs) (.int i) = atI xs i := rfl
@[simp] theorem ix_t (xs : List D) (i : Int) : ixD (.tup xs) (.int i) = atI xs i := rfl
@[simp] theorem ix_c (xs : List Int) (i : Int) : ixD (.scr xs) (.int i) = (atI xs i).map .int := rfl
@[simp] theorem ix_s (z : Str) (i : Int) : ixD (.str z) (.int i) = if z.length ≤ LIM then (atI z.cps.toList i).map fun c => .str ⟨#[c]⟩ else none := rfl
@[simp] theorem sl_l (xs : List D) (lo hi : Option Int) : slD (.lst xs) lo hi = some (.lst (cutL xs lo hi)) := rfl
@[simp] theorem sl_t (xs : List D) (lo hi : Option Int) : slD (.tup xs) lo hi = some (.tup (cutL xs lo hi)) := rfl
@[simp] theorem sl_s (z : Str) (lo hi : Option Int) : slD (.str z) lo hi = if z.length ≤ LIM then some (.str (Txt.slice z lo hi)) else none := rfl
@[simp] theorem tru_b (b : Bool) : truD (.bl b) = some b := rfl
@[simp] theorem tru_i (i : Int) : truD (.int i) = some (i != 0) := rfl
@[simp] theorem tru_s (y : Str) : truD (.str y) = if y.length ≤ LIM then some ((y.length : Int) != 0) else none := rfl
@[simp] theorem tru_l (xs : List D) : truD (.lst xs) = some (!xs.isEmpty) := rfl
@[simp] theorem tru_t (xs : List D) : truD (.tup xs) = some (!xs.isEmpty) := rfl
theorem atI_nat {α : Type} (xs : List α) (i : Nat) : atI xs (i : Int) = xs[i]? := by
  unfold atI ixN
  rw [if_pos (Int.natCast_nonneg i)]
  by_cases h : i < xs.length
  · rw [if_pos (by omega)]; rfl
  · rw [if_neg (by omega), List.getElem?_eq_none (by omega)]; rfl
@[simp] theorem atI_0 {α : Type} (xs : List α) : atI xs 0 = xs[0]? := atI_nat xs 0
@[simp] theorem atI_1 {α : Type} (xs : List α) : atI xs 1 = xs[1]? := atI_nat xs 1
@[simp] theorem atI_2 {α : Type} (xs : List α) : atI xs 2 = xs[2]? := atI_nat xs 2
@[simp] theorem atI_3 {α : Type} (xs : List α) : atI xs 3 = xs[3]? := atI_nat xs 3
theorem ixN_nat' {n j : Nat} (hj : j < n) : ixN n (j : Int) = some j := by
  unfold ixN
  rw [if_pos (by omega), if_pos (by omega)]
  simp
@[simp] theorem derefW_p (S : Sto) (i : Nat) : derefW S (.p i) = (cellL S i).map D.lst := by
  unfold derefW cellL
  simp only
  cases S[i]? with
  | none => rfl
  | some c => cases c <;> rfl
@[simp] theorem cellL_0 (ds : List D) (S : Sto) : cellL (.lst ds :: S) 0 = some ds := rfl
@[simp] theorem cellL_1 (c : Cell) (ds : List D) (S : Sto) : cellL (c :: .lst ds :: S) 1 = some ds := rfl
@[simp] theorem setC_p (S : Sto) (c : Nat) (k : Int) (d : D) : setC S (.p c) (.v (.int k)) (.v d) = (cellL S c).bind fun ds => (ixN ds.length k).map fun j => S.set c (.lst (ds.set j d)) := by
  unfold setC cellL
  simp only [wI_int]
  cases S[c]? with
  | none => rfl
  | some c => cases c <;> rfl
theorem cutS_same (S : Sto) : cutS S.length S = S := by unfold cutS; split <;> simp
theorem cutS_len {n : Nat} {S : Sto} (h : S.length = n) : cutS n S = S := by subst h; exact cutS_same S
end Dy
set_option Elab.async false
set_option linter.all false
set_option maxRecDepth 100000
set_option maxHeartbeats 4000000
namespace Dy
open PySem PySem.Spec PyProof.Rows L2
theorem is_in_ok (a l m : Int) (S : Sto) : F_is_in [.v (.int a), .v (.int l), .v (.int m)] S = .ok (.v (.bl (decide (l ≤ a ∧ a ≤ m)))) S := by
  unfold F_is_in runF b_is_in
  by_cases h : l ≤ a
  · simp [isD, ty6, is6, h, cutS_same]
  · simp [isD, ty6, is6, h, cutS_same]
/-- the drawn numbers' state -/
def Rn (c : Cell) : Prop := ∃ (ns : List Int) (i : Nat) (s p : Int), c = .lst [.scr ns, .int i, .int s, .int p] ∧ 0 ≤ s ∧ s < 2147483647
theorem log2_lt {i : Int} {k : Nat} (h : i.natAbs < 2 ^ k) (hk : 0 < k) : i.natAbs.log2 < k := by
  by_cases h0 : i.natAbs = 0
  · rw [h0]; simpa using hk
  · exact (Nat.log2_lt h0).mpr h
theorem fmod_in (a m : Int) (hm : 0 < m) : 0 ≤ a.fmod m ∧ a.fmod m < m := ⟨Int.fmod_nonneg_of_pos a hm, Int.fmod_lt_of_pos a hm⟩
theorem taken_ok (c : Cell) (rest : Sto) (m : Int) (h : Rn c) (hm : 0 < m) (hm2 : m < 1000) : ∃ (r : Int) (c' : Cell), F__law_taken [.p 0, .v (.int m)] (c :: rest) = .ok (.v (.int r)) (c' :: rest) ∧ 0 ≤ r ∧ r < m ∧ Rn c' := by
  obtain ⟨ns, i, s, p, rfl, hs, hs2⟩ := h
  have hm0 : m ≠ 0 := by omega
  have lm : m.natAbs.log2 < 9000 := Nat.lt_trans (log2_lt (k := 10) (by omega) (by decide)) (by decide)
  have ls : s.natAbs.log2 + Nat.log2 48271 < 1000000 := by
    have := log2_lt (i := s) (k := 31) (by omega) (by decide)
    have e : Nat.log2 48271 < 17 := by decide
    omega
  have fm : ∀ a : Int, 0 ≤ a.fmod m ∧ a.fmod m < m := fun a => fmod_in a m hm
  have fq : ∀ a : Int, 0 ≤ a.fmod 2147483647 ∧ a.fmod 2147483647 < 2147483647 := fun a => fmod_in a _ (by decide)
  have l7 : Nat.log2 7 < 9000 := by decide
  unfold F__law_taken runF b__law_taken
  by_cases hp : 0 < p
  · simp [hp, hm0, lm, ixN, cutS_len]
    exact ⟨_, _, ⟨rfl, rfl⟩, (fm _).1, (fm _).2, ns, i, s, _, rfl, hs, hs2⟩
  · simp [hp, hm0, lm, ls, ixN, cutS_len]
    by_cases hL : (ns.length : Int) < (i : Int) + 1
    · simp [hL, hm0, lm, ls, l7, ixN, cutS_len]
      exact ⟨_, _, ⟨rfl, rfl⟩, (fm _).1, (fm _).2, ns, i + 1, _, p, rfl, (fq _).1, (fq _).2⟩
    · have hi : i < ns.length := by omega
      have e : atI ns (i : Int) = some ns[i] := by rw [atI_nat, List.getElem?_eq_getElem hi]
      simp [hL, hm0, lm, ls, l7, ixN, cutS_len, e]
      by_cases hc : (1000000000000000000 : Int) ≤ ns[i]
      · simp [hc, hm0, lm, ixN, cutS_len]
        exact ⟨_, _, ⟨rfl, rfl⟩, (fm _).1, (fm _).2, ns, i + 1, _, _, rfl, (fq _).1, (fq _).2⟩
      · simp [hc, hm0, lm, ixN, cutS_len]
        exact ⟨_, _, ⟨rfl, rfl⟩, (fm _).1, (fm _).2, ns, i + 1, _, p, rfl, (fq _).1, (fq _).2⟩

def pd (p : Nat × Nat) : D := .tup [.int p.1, .int p.2]
def webD (n : Nat) (ps : List (Nat × Nat)) : D := .tup [.int n, .tup (ps.map pd)]
def lexlt (p q : Nat × Nat) : Prop := p.1 < q.1 ∨ (p.1 = q.1 ∧ p.2 < q.2)
structure Valid (n : Nat) (ps : List (Nat × Nat)) : Prop where
  lo : 1 ≤ n
  hi : n ≤ 7
  srt : ps.Pairwise lexlt
  inn : ∀ p ∈ ps, p.1 < p.2 ∧ p.2 < n
theorem rngD_zero (lo : Int) : rngD lo 0 = [] := rfl
theorem rngD_succ (lo : Int) (k : Nat) : rngD lo (k + 1) = .int lo :: rngD (lo + 1) k := by
  unfold rngD
  rw [List.range_succ_eq_map, List.map_cons, List.map_map]
  congr 1
  · simp
  · refine List.map_congr_left fun i _ => ?_
    simp only [Function.comp]
    congr 1
    omega
def inBody : SS := (sSeq (sAsg (sOrV (sOfB (sCmp .Eq (sVar 6) (sBin .Add (sVar 3) (sC (.int 1))))) (sAndV (sOfB (sCmp .Eq (sVar 3) (sC (.int 0)))) (sAndV (sOfB (sCmp .Eq (sVar 6) (sBin .Sub (sVar 4) (sC (.int 1))))) (sOfB (sCmp .Eq (sVar 2) (sC (.int 1))))))) (gSet 7))
  (sIfS (sOr (sAnd (sCmp .Eq (sCall 2 F__law_taken (sACons (sVar 0) (sACons (sC (.int 3)) sANil))) (sC (.int 0))) (sCmp .Gt (sVar 2) (sC (.int 1)))) (sOr (sAnd (sTru (sVar 7)) (sCmp .Lt (sVar 2) (sC (.int 2)))) (sAnd (sCmp .Eq (sVar 2) (sC (.int 3))) (sCmp .Eq (sCall 2 F__law_taken (sACons (sVar 0) (sACons (sC (.int 2)) sANil))) (sC (.int 0)))))) (sDrop (sApp (sVar 5) (sTup (sACons (sVar 3) (sACons (sVar 6) sANil))))) sNx))
abbrev wEnv (most way : W) (one : Option W) (n : Nat) (x6 x7 : Option W) : Env := [some (.p 0), some most, some way, one, some (.v (.int n)), some (.p 1), x6, x7]
theorem lim2 : 2 ≤ LIM := by decide
theorem inBody_ok (c : Cell) (hc : Rn c) (ps : List (Nat × Nat)) (hp : ps.length < 1000) (most : W) (way : Int) (one n other : Nat) (x7 : Option W) :
    ∃ (c' : Cell) (b : Bool) (z : Option W), inBody (wEnv most (.v (.int way)) (some (.v (.int one))) n (some (.v (.int other))) x7) [c, .lst (ps.map pd)] = .nx (wEnv most (.v (.int way)) (some (.v (.int one))) n (some (.v (.int other))) z) [c', .lst ((if b then ps ++ [(one, other)] else ps).map pd)] ∧ Rn c' := by
  have hL : (ps.map pd).length < LIM := by rw [List.length_map]; unfold LIM; omega
  obtain ⟨r1, c1, e1, _, _, h1⟩ := taken_ok c [.lst (ps.map pd)] 3 hc (by decide) (by decide)
  obtain ⟨r2, c2, e2, _, _, h2⟩ := taken_ok c1 [.lst (ps.map pd)] 2 h1 (by decide) (by decide)
  have fin : ∀ (cc : Cell) (hcc : Rn cc) (b : Bool) (z : Option W), ∃ (c' : Cell) (b' : Bool) (z' : Option W), RS.nx (wEnv most (.v (.int way)) (some (.v (.int one))) n (some (.v (.int other))) z) [cc, .lst ((if b then ps ++ [(one, other)] else ps).map pd)] = .nx (wEnv most (.v (.int way)) (some (.v (.int one))) n (some (.v (.int other))) z') [c', .lst ((if b' then ps ++ [(one, other)] else ps).map pd)] ∧ Rn c' := fun cc hcc b z => ⟨cc, b, z, rfl, hcc⟩
  have key : ∀ nb : Bool, ∃ (c' : Cell) (b : Bool) (z : Option W), (sIfS (sOr (sAnd (sCmp .Eq (sCall 2 F__law_taken (sACons (sVar 0) (sACons (sC (.int 3)) sANil))) (sC (.int 0))) (sCmp .Gt (sVar 2) (sC (.int 1)))) (sOr (sAnd (sTru (sVar 7)) (sCmp .Lt (sVar 2) (sC (.int 2)))) (sAnd (sCmp .Eq (sVar 2) (sC (.int 3))) (sCmp .Eq (sCall 2 F__law_taken (sACons (sVar 0) (sACons (sC (.int 2)) sANil))) (sC (.int 0)))))) (sDrop (sApp (sVar 5) (sTup (sACons (sVar 3) (sACons (sVar 6) sANil))))) sNx)
      (wEnv most (.v (.int way)) (some (.v (.int one))) n (some (.v (.int other))) (some (.v (.bl nb)))) [c, .lst (ps.map pd)] = .nx (wEnv most (.v (.int way)) (some (.v (.int one))) n (some (.v (.int other))) z) [c', .lst ((if b then ps ++ [(one, other)] else ps).map pd)] ∧ Rn c' := by
    intro nb
    have app1 : ∀ cc : Cell, Rn cc → ∃ (c' : Cell) (b : Bool) (z : Option W), (sDrop (sApp (sVar 5) (sTup (sACons (sVar 3) (sACons (sVar 6) sANil))))) (wEnv most (.v (.int way)) (some (.v (.int one))) n (some (.v (.int other))) (some (.v (.bl nb)))) [cc, .lst (ps.map pd)] = .nx (wEnv most (.v (.int way)) (some (.v (.int one))) n (some (.v (.int other))) z) [c', .lst ((if b then ps ++ [(one, other)] else ps).map pd)] ∧ Rn c' := fun cc hcc => by
      refine ⟨cc, true, some (.v (.bl nb)), ?_, hcc⟩
      simp [lim2, pd] 
      rw [List.length_map] at hL
      simp [hL]
    have non1 : ∀ cc : Cell, Rn cc → ∃ (c' : Cell) (b : Bool) (z : Option W), sNx (wEnv most (.v (.int way)) (some (.v (.int one))) n (some (.v (.int other))) (some (.v (.bl nb)))) [cc, .lst (ps.map pd)] = .nx (wEnv most (.v (.int way)) (some (.v (.int one))) n (some (.v (.int other))) z) [c', .lst ((if b then ps ++ [(one, other)] else ps).map pd)] ∧ Rn c' := fun cc hcc => ⟨cc, false, some (.v (.bl nb)), by simp, hcc⟩
    by_cases q1 : r1 = 0 <;> by_cases q2 : 1 < way <;> by_cases q3 : way < 2 <;> by_cases q4 : way = 3 <;> by_cases q5 : r2 = 0 <;> cases nb <;> (first
      | (have z := app1 c1 h1; simp [e1, e2, q1, q2, q3, q4, q5] at z ⊢; exact z)
      | (have z := app1 c2 h2; simp [e1, e2, q1, q2, q3, q4, q5] at z ⊢; exact z)
      | (have z := non1 c1 h1; simp [e1, e2, q1, q2, q3, q4, q5] at z ⊢; exact z)
      | (have z := non1 c2 h2; simp [e1, e2, q1, q2, q3, q4, q5] at z ⊢; exact z)
      | omega)
  have near : ∃ nb : Bool, (sAsg (sOrV (sOfB (sCmp .Eq (sVar 6) (sBin .Add (sVar 3) (sC (.int 1))))) (sAndV (sOfB (sCmp .Eq (sVar 3) (sC (.int 0)))) (sAndV (sOfB (sCmp .Eq (sVar 6) (sBin .Sub (sVar 4) (sC (.int 1))))) (sOfB (sCmp .Eq (sVar 2) (sC (.int 1))))))) (gSet 7)) (wEnv most (.v (.int way)) (some (.v (.int one))) n (some (.v (.int other))) x7) [c, .lst (ps.map pd)] = .nx (wEnv most (.v (.int way)) (some (.v (.int one))) n (some (.v (.int other))) (some (.v (.bl nb)))) [c, .lst (ps.map pd)] := by
    by_cases a1 : (other : Int) = one + 1
    · have a1 := eq_true a1
      exact ⟨true, by simp [a1]⟩
    · have a1 := eq_false a1
      by_cases a2 : one = 0
      · have a2 := eq_true a2
        by_cases a3 : (other : Int) = n - 1
        · have a3 := eq_true a3
          by_cases a4 : way = 1
          · have a4 := eq_true a4
            exact ⟨true, by simp [a1, a2, a3, a4]⟩
          · have a4 := eq_false a4
            exact ⟨false, by simp [a1, a2, a3, a4]⟩
        · have a3 := eq_false a3
          exact ⟨false, by simp [a1, a2, a3]⟩
      · have a2 := eq_false a2
        exact ⟨false, by simp [a1, a2]⟩
  obtain ⟨nb, en⟩ := near
  obtain ⟨c', b, z, e, h⟩ := key nb
  exact ⟨c', b, z, by unfold inBody; rw [x_Seq, en, RS.then_nx, e], h⟩
end Dy
set_option Elab.async false
set_option linter.all false
set_option maxRecDepth 100000
set_option maxHeartbeats 4000000
namespace Dy
open PySem PySem.Spec PyProof.Rows L2
theorem forL_cons (γ : ST) (body : SS) (d : D) (ds : List D) (ρ : Env) (S : Sto) : forL γ body (d :: ds) ρ S = (γ (.v d) ρ S).toS fun ρ1 S1 => (body ρ1 S1).loop (forL γ body ds) := rfl
theorem pw_snoc {ps : List (Nat × Nat)} {q : Nat × Nat} (h : ps.Pairwise lexlt) (h2 : ∀ p ∈ ps, lexlt p q) : (ps ++ [q]).Pairwise lexlt :=
  List.pairwise_append.mpr ⟨h, List.pairwise_singleton _ _, fun a ha b hb => by rw [List.mem_singleton.mp hb]; exact h2 a ha⟩
theorem inner_ok (most : W) (way : Int) (one n : Nat) : ∀ (k lo : Nat) (c : Cell) (ps : List (Nat × Nat)) (x6 x7 : Option W), Rn c → ps.length + k < 1000 → (∀ p ∈ ps, lexlt p (one, lo)) → ps.Pairwise lexlt → (∀ p ∈ ps, p.1 < p.2 ∧ p.2 < n) → lo + k = n → one < lo →
    ∃ (c' : Cell) (ps' : List (Nat × Nat)) (x6' x7' : Option W), forL (gSet 6) inBody (rngD lo k) (wEnv most (.v (.int way)) (some (.v (.int one))) n x6 x7) [c, .lst (ps.map pd)] = .nx (wEnv most (.v (.int way)) (some (.v (.int one))) n x6' x7') [c', .lst (ps'.map pd)] ∧
      Rn c' ∧ ps'.Pairwise lexlt ∧ (∀ p ∈ ps', p.1 < p.2 ∧ p.2 < n) ∧ (∀ p ∈ ps', p.1 ≤ one) ∧ ps'.length ≤ ps.length + k
  | 0, lo, c, ps, x6, x7, hc, hl, hb, hp, hi, he, ho => ⟨c, ps, x6, x7, rfl, hc, hp, hi, fun p hm => by rcases hb p hm with h | h <;> simp_all <;> omega, by omega⟩
  | k + 1, lo, c, ps, x6, x7, hc, hl, hb, hp, hi, he, ho => by
    obtain ⟨c1, b, z, e1, h1⟩ := inBody_ok c hc ps (by omega) most way one n lo x7
    have step : ∀ ps2, (ps2 = ps ∨ ps2 = ps ++ [(one, lo)]) → ∃ (c' : Cell) (ps' : List (Nat × Nat)) (x6' x7' : Option W), forL (gSet 6) inBody (rngD ((lo : Int) + 1) k) (wEnv most (.v (.int way)) (some (.v (.int one))) n (some (.v (.int lo))) z) [c1, .lst (ps2.map pd)] = .nx (wEnv most (.v (.int way)) (some (.v (.int one))) n x6' x7') [c', .lst (ps'.map pd)] ∧
      Rn c' ∧ ps'.Pairwise lexlt ∧ (∀ p ∈ ps', p.1 < p.2 ∧ p.2 < n) ∧ (∀ p ∈ ps', p.1 ≤ one) ∧ ps'.length ≤ ps.length + (k + 1) := fun ps2 h2 => by
      have hlt : ∀ p ∈ ps, lexlt p (one, lo + 1) := fun p hm => by
        rcases hb p hm with h | h
        · exact .inl h
        · exact .inr ⟨h.1, by simp at h ⊢; omega⟩
      have key := inner_ok most way one n k (lo + 1) c1 ps2 (some (.v (.int lo))) z h1
      have e : ((lo + 1 : Nat) : Int) = (lo : Int) + 1 := by omega
      rw [e] at key
      rcases h2 with rfl | rfl
      · obtain ⟨c', ps', x6', x7', k1, k2, k3, k4, k5, k6⟩ := key (by omega) hlt hp hi (by omega) (by omega)
        exact ⟨c', ps', x6', x7', k1, k2, k3, k4, k5, by omega⟩
      · have hlen : (ps ++ [(one, lo)]).length = ps.length + 1 := by simp
        obtain ⟨c', ps', x6', x7', k1, k2, k3, k4, k5, k6⟩ := key (by omega) (fun p hm => by
            rcases List.mem_append.mp hm with hm | hm
            · exact hlt p hm
            · rw [List.mem_singleton.mp hm]; exact .inr ⟨rfl, by simp⟩) (pw_snoc hp hb) (fun p hm => by
            rcases List.mem_append.mp hm with hm | hm
            · exact hi p hm
            · rw [List.mem_singleton.mp hm]; exact ⟨ho, by simp; omega⟩) (by omega) (by omega)
        exact ⟨c', ps', x6', x7', k1, k2, k3, k4, k5, by omega⟩
    rw [rngD_succ, forL_cons]
    have e0 : (gSet 6 (.v (.int lo)) (wEnv most (.v (.int way)) (some (.v (.int one))) n x6 x7) [c, .lst (ps.map pd)]) = .ok (wEnv most (.v (.int way)) (some (.v (.int one))) n (some (.v (.int lo))) x7) [c, .lst (ps.map pd)] := by simp
    rw [e0, Res.toS_ok, e1, RS.loop_nx]
    exact step _ (by cases b <;> simp)
def outBody : SS := sFor (sRng2 (sBin .Add (sVar 3) (sC (.int 1))) (sVar 4)) (gSet 6) inBody
theorem rng2_ok {f g : SE} {ρ : Env} {S : Sto} {i j : Int} (hf : f ρ S = .ok (.v (.int i)) S) (hg : g ρ S = .ok (.v (.int j)) S) (hb : (-1000000 ≤ i ∧ i ≤ 1000000) ∧ -1000000 ≤ j ∧ j ≤ 1000000) : sRng2 f g ρ S = .ok (rngD i (j - i).toNat) S := by
  rw [x_Rng2, hf, Res.bind_ok, hg, Res.bind_ok, wI_int, ofO_some, wI_int, ofO_some, if_pos hb]
theorem rng1_ok {f : SE} {ρ : Env} {S : Sto} {j : Int} (hf : f ρ S = .ok (.v (.int j)) S) (hb : -1000000 ≤ j ∧ j ≤ 1000000) : sRng1 f ρ S = .ok (rngD 0 j.toNat) S := by
  rw [x_Rng1, hf, Res.bind_ok, wI_int, ofO_some, if_pos hb]
theorem smalls (n lo : Nat) (h1 : lo ≤ 7) (h2 : n ≤ 7) : (-1000000 ≤ ((lo : Int) + 1) ∧ ((lo : Int) + 1) ≤ 1000000) ∧ -1000000 ≤ (n : Int) ∧ (n : Int) ≤ 1000000 := by omega
theorem outBody_ok {most : W} {way : Int} {n lo : Nat} {x6 x7 : Option W} {S : Sto} {r : RS} (h1 : lo ≤ 7) (h2 : n ≤ 7) (e : forL (gSet 6) inBody (rngD ((lo + 1 : Nat) : Int) (n - (lo + 1))) (wEnv most (.v (.int way)) (some (.v (.int lo))) n x6 x7) S = r) :
    outBody (wEnv most (.v (.int way)) (some (.v (.int lo))) n x6 x7) S = r := by
  unfold outBody
  have e3 : ((n : Int) - ((lo : Int) + 1)).toNat = n - (lo + 1) := by omega
  have e4 : ((lo + 1 : Nat) : Int) = (lo : Int) + 1 := by omega
  rw [e4] at e
  rw [x_For, rng2_ok (i := (lo : Int) + 1) (j := n) (by simp) (by simp) (smalls n lo h1 h2), Res.toS_ok, e3]
  exact e
theorem set3_ok (most : W) (way : Int) (n lo : Nat) (x3 x6 x7 : Option W) (S : Sto) : (gSet 3 (.v (.int lo)) (wEnv most (.v (.int way)) x3 n x6 x7) S) = .ok (wEnv most (.v (.int way)) (some (.v (.int lo))) n x6 x7) S := by simp
theorem outer_ok (most : W) (way : Int) (n : Nat) (hn : n ≤ 7) (k : Nat) : ∀ (lo : Nat) (c : Cell) (ps : List (Nat × Nat)) (x3 x6 x7 : Option W), Rn c → ps.length + k * 7 < 900 → (∀ p ∈ ps, p.1 < lo) → ps.Pairwise lexlt → (∀ p ∈ ps, p.1 < p.2 ∧ p.2 < n) → lo + k = n →
    ∃ (c' : Cell) (ps' : List (Nat × Nat)) (x3' x6' x7' : Option W), forL (gSet 3) outBody (rngD lo k) (wEnv most (.v (.int way)) x3 n x6 x7) [c, .lst (ps.map pd)] = .nx (wEnv most (.v (.int way)) x3' n x6' x7') [c', .lst (ps'.map pd)] ∧
      Rn c' ∧ ps'.Pairwise lexlt ∧ (∀ p ∈ ps', p.1 < p.2 ∧ p.2 < n) := by
  induction k with
  | zero => exact fun lo c ps x3 x6 x7 hc hl hb hp hi he => ⟨c, ps, x3, x6, x7, rfl, hc, hp, hi⟩
  | succ k ih =>
    intro lo c ps x3 x6 x7 hc hl hb hp hi he
    obtain ⟨c1, ps1, y6, y7, e1, h1, h2, h3, h4, h5⟩ := inner_ok most way lo n (n - (lo + 1)) (lo + 1) c ps x6 x7 hc (by omega) (fun p hm => .inl (hb p hm)) hp hi (by omega) (by omega)
    have key := ih (lo + 1) c1 ps1 (some (.v (.int lo))) y6 y7 h1 (by omega) (fun p hm => by have := h4 p hm; omega) h2 h3 (by omega)
    rw [rngD_succ, forL_cons, set3_ok, Res.toS_ok, outBody_ok (by omega) hn e1, RS.loop_nx]
    have e4 : ((lo + 1 : Nat) : Int) = (lo : Int) + 1 := by omega
    rw [e4] at key
    exact key
theorem web_ok (c : Cell) (hc : Rn c) : ∃ (c' : Cell) (n : Nat) (ps : List (Nat × Nat)), F__law_web [.p 0, .v (.int 7)] [c] = .ok (.v (webD n ps)) [c'] ∧ Rn c' ∧ Valid n ps := by
  obtain ⟨r1, c1, e1, l1, u1, h1⟩ := taken_ok c [] 7 hc (by decide) (by decide)
  obtain ⟨r2, c2, e2, _, _, h2⟩ := taken_ok c1 [.lst []] 4 h1 (by decide) (by decide)
  obtain ⟨n, hn⟩ : ∃ n : Nat, (n : Int) = 1 + r1 := ⟨(1 + r1).toNat, by omega⟩
  obtain ⟨c3, ps, x3, x6, x7, e3, h3, h4, h5⟩ := outer_ok (.v (.int 7)) r2 n (by omega) n 0 c2 [] none none none h2 (by simp; omega) (by simp) List.Pairwise.nil (by simp) (by omega)
  refine ⟨c3, n, ps, ?_, h3, by omega, by omega, h4, h5⟩
  have b : (-1000000 : Int) ≤ (n : Int) ∧ (n : Int) ≤ 1000000 := by omega
  have e3 : forL (gSet 3) outBody (rngD 0 n) (wEnv (.v (.int 7)) (.v (.int r2)) none n none none) [c2, .lst []] = .nx (wEnv (.v (.int 7)) (.v (.int r2)) x3 n x6 x7) [c3, .lst (ps.map pd)] := e3
  have hfit : fitC 1 c3 = true := by
    obtain ⟨ns, i, s, p, rfl, _⟩ := h3
    rfl
  unfold outBody inBody at e3
  have lim0 : 0 ≤ LIM := Nat.zero_le _
  unfold F__law_web runF b__law_web
  simp [e1, e2, ← hn, b, e3, lim2, webD, cutS, hfit]
end Dy
set_option Elab.async false
set_option linter.all false
set_option maxRecDepth 100000
set_option maxHeartbeats 4000000
namespace Dy
open PySem PySem.Spec PyProof.Rows L2
/-- a text by its characters -/
def Tx (l : List Nat) : Str := ⟨l.toArray⟩
@[simp] theorem tx_len (l : List Nat) : (Tx l).length = l.length := by simp [Tx, Str.length]
@[simp] theorem tx_list (l : List Nat) : (Tx l).cps.toList = l := by simp [Tx]
theorem tx_ext {a b : Str} (h : a.cps.toList = b.cps.toList) : a = b := by
  cases a; cases b
  simp only at h
  congr
  exact Array.toList_inj.mp h
theorem tx_of (s : Str) : s = Tx s.cps.toList := tx_ext (by simp)
theorem tx_inj {a b : List Nat} (h : Tx a = Tx b) : a = b := by have := congrArg (fun s : Str => s.cps.toList) h; simpa using this
@[simp] theorem tx_app (a b : List Nat) : Tx a ++ Tx b = Tx (a ++ b) := tx_ext (by show ((Tx a).cps ++ (Tx b).cps).toList = _; simp [Tx])
theorem tx_slice (l : List Nat) (i j : Nat) : Txt.slice (Tx l) (some (i : Int)) (some (j : Int)) = Tx ((l.drop (min i l.length)).take (min j l.length - min i l.length)) := by
  rw [← C8.cutS_slice]
  unfold L2.cutS
  rw [HT.sIx_nat, HT.sIx_nat]
  refine tx_ext ?_
  simp [Tx, Str.length]
theorem tx_one (l : List Nat) (i : Nat) : Txt.slice (Tx l) (some (i : Int)) (some ((i : Int) + 1)) = Tx ((l.drop i).take 1) := by
  have e : ((i : Int) + 1) = ((i + 1 : Nat) : Int) := by omega
  rw [e, tx_slice]
  congr 1
  by_cases h : i < l.length
  · rw [Nat.min_eq_left (by omega), Nat.min_eq_left (by omega)]
    congr 1
    omega
  · rw [Nat.min_eq_right (by omega), Nat.min_eq_right (by omega), List.drop_eq_nil_of_le (by omega), List.drop_eq_nil_of_le (by omega)]
    simp
theorem strOk_tx {l : List Nat} (h : ∀ c ∈ l, c < 128) : PyData.strOk (Tx l) = true := by
  unfold PyData.strOk Tx
  simp only [List.all_toArray, List.all_eq_true, decide_eq_true_eq]
  exact fun c hc => Nat.lt_trans (h c hc) (by decide)
theorem tx_beq (a b : List Nat) : (Tx a == Tx b) = decide (a = b) := by
  by_cases h : a = b
  · subst h; simp
  · rw [decide_eq_false h]
    exact beq_eq_false_iff_ne.mpr fun z => h (tx_inj z)
/-- number of blanks at the head -/
def spc : List Nat → Nat
  | 32 :: r => spc r + 1
  | _ => 0
theorem spc_ne {c : Nat} {r : List Nat} (h : c ≠ 32) : spc (c :: r) = 0 := by
  unfold spc
  split
  · rename_i q; cases q; exact absurd rfl h
  · rfl
theorem spc_le : ∀ l : List Nat, spc l ≤ l.length
  | [] => Nat.le_refl _
  | c :: r => by
    unfold spc
    split
    · rename_i h; cases h; have := spc_le r; simp; omega
    · exact Nat.zero_le _
def spCond : SB := (sAnd (sCmp .Lt (sVar 1) (sBi .len (sVar 0))) (sCmp .Eq (sIx (sVar 0) (sVar 1)) (sC (.str (Str.ofString " ")))))
def spBody : SS := (sAsg (sBin .Add (sVar 1) (sC (.int 1))) (gSet 1))
theorem blank_tx : Str.ofString " " = Tx [32] := by decide
theorem whileD_succ (c : SB) (b : SS) (n : Nat) (ρ : Env) (S : Sto) : whileD c b (n + 1) ρ S = (c ρ S).toS fun k S1 => if k = true then (b ρ S1).loop (whileD c b n) else .nx ρ S1 := rfl
theorem sp_loop (l : List Nat) (hl : l.length ≤ 1000) (ha : ∀ c ∈ l, c < 128) (S : Sto) : ∀ (N at_ : Nat), l.length - at_ < N → whileD spCond spBody N [some (.v (.str (Tx l))), some (.v (.int at_))] S = .nx [some (.v (.str (Tx l))), some (.v (.int ((at_ + spc (l.drop at_) : Nat) : Int)))] S
  | 0, at_, h => absurd h (Nat.not_lt_zero _)
  | N + 1, at_, h => by
    have hL : l.length ≤ LIM := Nat.le_trans hl (by decide)
    rw [whileD_succ]
    by_cases hlt : at_ < l.length
    · have hd : l.drop at_ = l[at_] :: l.drop (at_ + 1) := List.drop_eq_getElem_cons hlt
      have hc : l[at_] < 128 := ha _ (List.getElem_mem hlt)
      have e1 : spCond [some (.v (.str (Tx l))), some (.v (.int at_))] S = .ok (decide (l[at_] = 32)) S := by
        unfold spCond
        have hlt' : (at_ : Int) < (l.length : Int) := by omega
        have hg : (l[at_]?).map (fun c => D.str ⟨#[c]⟩) = some (D.str (Tx [l[at_]])) := by rw [List.getElem?_eq_getElem hlt]; rfl
        simp [hL, hlt', atI_nat, hg]
        rw [blank_tx, cmp_eqS _ _ (strOk_tx (by simpa using hc)) (strOk_tx (by simp)), tx_beq]
        simp
      rw [e1, Res.toS_ok]
      by_cases hb : l[at_] = 32
      · rw [if_pos (decide_eq_true hb)]
        have e2 : spBody [some (.v (.str (Tx l))), some (.v (.int at_))] S = .nx [some (.v (.str (Tx l))), some (.v (.int ((at_ + 1 : Nat) : Int)))] S := by unfold spBody; simp
        rw [e2, RS.loop_nx, sp_loop l hl ha S N (at_ + 1) (by omega)]
        have e3 : at_ + 1 + spc (l.drop (at_ + 1)) = at_ + spc (l.drop at_) := by
          rw [hd, hb, show spc (32 :: l.drop (at_ + 1)) = spc (l.drop (at_ + 1)) + 1 from rfl]; omega
        rw [e3]
      · rw [if_neg (by simp [hb])]
        have e3 : spc (l.drop at_) = 0 := by
          rw [hd]; exact spc_ne hb
        rw [e3]; rfl
    · have e1 : spCond [some (.v (.str (Tx l))), some (.v (.int at_))] S = .ok false S := by
        unfold spCond
        simp [hL, hlt]
      rw [e1, Res.toS_ok, if_neg Bool.false_ne_true, List.drop_eq_nil_of_le (by omega)]
      rfl
theorem after_ok (l : List Nat) (hl : l.length ≤ 1000) (ha : ∀ c ∈ l, c < 128) (at_ : Nat) (S : Sto) : F_after_spaces [.v (.str (Tx l)), .v (.int at_)] S = .ok (.v (.int ((at_ + spc (l.drop at_) : Nat) : Int))) S := by
  have e := sp_loop l hl ha S 1000000 at_ (by omega)
  unfold spCond spBody at e
  unfold F_after_spaces runF b_after_spaces
  simp only [x_Seq, x_While]
  simp only [List.map_cons, List.map_nil, List.length_cons, List.length_nil, Nat.zero_add, Nat.reduceAdd, Nat.sub_self, List.replicate_zero, List.append_nil]
  rw [e]
  simp [cutS_same]
theorem digits_tx : Str.ofString "0123456789" = Tx [48, 49, 50, 51, 52, 53, 54, 55, 56, 57] := by decide
def isDg (c : Nat) : Prop := 48 ≤ c ∧ c ≤ 57
theorem in_digits (c : Nat) : (!(Builtin.Str.occurrences (Tx [48, 49, 50, 51, 52, 53, 54, 55, 56, 57]) (Tx [c]) 0 (Tx [48, 49, 50, 51, 52, 53, 54, 55, 56, 57]).length 1).isEmpty) = decide (48 ≤ c ∧ c ≤ 57) := by
  have h := StrLaws.found_one (Tx [48, 49, 50, 51, 52, 53, 54, 55, 56, 57]) c
  have e : (Tx [c]) = ⟨#[c]⟩ := rfl
  rw [e, h, tx_list]
  by_cases q : 48 ≤ c ∧ c ≤ 57
  · rw [decide_eq_true q]; simp; omega
  · rw [decide_eq_false q]; simp; omega
theorem int_tx : ∀ v : Nat, v ≤ 9 → PySem.intText? (Tx [48 + v]) = some (v : Int)
  | 0, _ => by decide +kernel
  | 1, _ => by decide +kernel
  | 2, _ => by decide +kernel
  | 3, _ => by decide +kernel
  | 4, _ => by decide +kernel
  | 5, _ => by decide +kernel
  | 6, _ => by decide +kernel
  | 7, _ => by decide +kernel
  | 8, _ => by decide +kernel
  | 9, _ => by decide +kernel
  | n + 10, h => by omega
theorem tx_two (l : List Nat) (i : Nat) : Txt.slice (Tx l) (some ((i : Int) + 1)) (some ((i : Int) + 2)) = Tx ((l.drop (i + 1)).take 1) := by
  have := tx_one l (i + 1)
  have e : ((i + 1 : Nat) : Int) = (i : Int) + 1 := by omega
  rw [e] at this
  have e2 : (i : Int) + 1 + 1 = (i : Int) + 2 := by omega
  rw [e2] at this
  exact this
theorem digit_ok (l : List Nat) (hl : l.length ≤ 1000) (at_ v : Nat) (rest : List Nat) (hd : l.drop at_ = (48 + v) :: rest) (hv : v ≤ 9) (hr : ∀ c, rest.head? = some c → ¬ (48 ≤ c ∧ c ≤ 57)) (lo hi : Int) (h1 : lo ≤ v) (h2 : (v : Int) ≤ hi) (S : Sto) :
    F_digit_at [.v (.str (Tx l)), .v (.int at_), .v (.int lo), .v (.int hi)] S = .ok (.v (.int v)) S := by
  have hL : l.length ≤ LIM := Nat.le_trans hl (by decide)
  have hrest : l.drop (at_ + 1) = rest := by
    have : l.drop (at_ + 1) = (l.drop at_).drop 1 := by rw [List.drop_drop]
    rw [this, hd]; rfl
  have s1 := tx_one l at_
  have s2 := tx_two l at_
  rw [hd] at s1
  rw [hrest] at s2
  have s1 : Txt.slice (Tx l) (some (at_ : Int)) (some ((at_ : Int) + 1)) = Tx [48 + v] := s1
  have l1 : 1 ≤ LIM := by decide
  have l0 : 0 ≤ LIM := Nat.zero_le _
  have i1 := in_digits (48 + v)
  have q1 : (48 ≤ 48 + v ∧ 48 + v ≤ 57) := ⟨by omega, by omega⟩
  rw [decide_eq_true q1] at i1
  have n1 : cmpD .NotIn (.str (Tx [48 + v])) (.str (Tx [48, 49, 50, 51, 52, 53, 54, 55, 56, 57])) = some false := by
    show some (!(!(Builtin.Str.occurrences _ _ _ _ _).isEmpty)) = _
    rw [i1]; rfl
  unfold F_digit_at runF b_digit_at
  cases rest with
  | nil =>
    simp [hL, s1, s2, digits_tx, n1, l1, l0, int_tx v hv, h1, h2, cutS_same]
  | cons c r =>
    have s2 : Txt.slice (Tx l) (some ((at_ : Int) + 1)) (some ((at_ : Int) + 2)) = Tx [c] := s2
    have i2 := in_digits c
    rw [decide_eq_false (hr c rfl)] at i2
    have n2 : cmpD .In (.str (Tx [c])) (.str (Tx [48, 49, 50, 51, 52, 53, 54, 55, 56, 57])) = some false := by
      show some (!(Builtin.Str.occurrences _ _ _ _ _).isEmpty) = _
      rw [i2]
    simp [hL, s1, s2, digits_tx, n1, n2, l1, l0, int_tx v hv, h1, h2, cutS_same]
end Dy
set_option Elab.async false
set_option linter.all false
set_option maxRecDepth 100000
set_option maxHeartbeats 4000000
namespace Dy
open PySem PySem.Spec PyProof.Rows L2
def sp (k : Nat) : List Nat := List.replicate k 32
theorem spc_sp {r : List Nat} (h : ∀ c, r.head? = some c → c ≠ 32) : ∀ k, spc (sp k ++ r) = k
  | 0 => by
    cases r with
    | nil => rfl
    | cons c r => exact spc_ne (h c rfl)
  | k + 1 => by
    show spc (32 :: (sp k ++ r)) = k + 1
    rw [show spc (32 :: (sp k ++ r)) = spc (sp k ++ r) + 1 from rfl, spc_sp h k]
theorem drop_next {l : List Nat} {i : Nat} {x : Nat} {r : List Nat} (h : l.drop i = x :: r) : l.drop (i + 1) = r := by
  have : l.drop (i + 1) = (l.drop i).drop 1 := by rw [List.drop_drop]
  rw [this, h]; rfl
theorem drop_sp {l : List Nat} {i k : Nat} {r : List Nat} (h : l.drop i = sp k ++ r) : l.drop (i + k) = r := by
  have : l.drop (i + k) = (l.drop i).drop k := by rw [List.drop_drop]
  rw [this, h, List.drop_left' (by simp [sp])]
theorem after_at {l : List Nat} (hl : l.length ≤ 1000) (ha : ∀ c ∈ l, c < 128) {i k : Nat} {r : List Nat} (h : l.drop i = sp k ++ r) (hr : ∀ c, r.head? = some c → c ≠ 32) (S : Sto) : F_after_spaces [.v (.str (Tx l)), .v (.int i)] S = .ok (.v (.int ((i + k : Nat) : Int))) S := by
  rw [after_ok l hl ha, h, spc_sp hr]
theorem after_at1 {l : List Nat} (hl : l.length ≤ 1000) (ha : ∀ c ∈ l, c < 128) {i k x : Nat} {r : List Nat} (h : l.drop i = x :: (sp k ++ r)) (hr : ∀ c, r.head? = some c → c ≠ 32) (S : Sto) : F_after_spaces [.v (.str (Tx l)), .v (.int ((i : Int) + 1))] S = .ok (.v (.int ((i + 1 + k : Nat) : Int))) S := by
  have e : ((i : Int) + 1) = ((i + 1 : Nat) : Int) := by omega
  rw [e]
  exact after_at hl ha (drop_next h) hr S
theorem slice_at {l : List Nat} {i x : Nat} {r : List Nat} (h : l.drop i = x :: r) : Txt.slice (Tx l) (some (i : Int)) (some ((i : Int) + 1)) = Tx [x] := by
  rw [tx_one, h]; rfl
theorem ne_tx {x y : Nat} (hx : x < 128) (hy : y < 128) : cmpD .NotEq (.str (Tx [x])) (.str (Tx [y])) = some (!decide (x = y)) := by
  rw [cmp_neS _ _ (strOk_tx (by simpa using hx)) (strOk_tx (by simpa using hy)), tx_beq]
  simp
theorem shp_pd (p : Nat × Nat) : shp (pd p) = true := rfl
theorem eqD_pd (p q : Nat × Nat) : eqD (pd p) (pd q) = decide (p = q) := by
  obtain ⟨a, b⟩ := p
  obtain ⟨c, d⟩ := q
  simp only [pd, eqD, eqDL, Bool.and_true]
  by_cases h1 : a = c <;> by_cases h2 : b = d <;> simp [h1, h2] <;> omega
theorem flDL_pd : ∀ ps : List (Nat × Nat), flDL (ps.map pd) = true
  | [] => rfl
  | p :: ps => by
    rw [List.map_cons]
    unfold flDL
    rw [flDL_pd ps]
    rfl
theorem dptL_pd : ∀ ps : List (Nat × Nat), dptL (ps.map pd) ≤ 1
  | [] => Nat.zero_le _
  | p :: ps => by
    rw [List.map_cons]
    unfold dptL
    exact Nat.max_le.mpr ⟨(show dpt (pd p) ≤ 1 from Nat.le_refl 1), dptL_pd ps⟩
theorem shp_lst (ps : List (Nat × Nat)) : shp (.lst (ps.map pd)) = true := by
  have h := dptL_pd ps
  unfold shp
  rw [Bool.and_eq_true]
  exact ⟨by unfold flD; exact flDL_pd ps, decide_eq_true (by unfold dpt; omega)⟩
theorem shp_tupl (ps : List (Nat × Nat)) : shp (.tup (ps.map pd)) = true := by
  have h := dptL_pd ps
  unfold shp
  rw [Bool.and_eq_true]
  exact ⟨by unfold flD; exact flDL_pd ps, decide_eq_true (by unfold dpt; omega)⟩
theorem inD_pd (p : Nat × Nat) : ∀ ps : List (Nat × Nat), inD (pd p) (ps.map pd) = decide (p ∈ ps)
  | [] => by simp [inD]
  | q :: ps => by
    have ih := inD_pd p ps
    unfold inD at ih ⊢
    rw [List.map_cons, List.any_cons, ih, eqD_pd]
    by_cases h : q = p
    · subst h; simp
    · have h' : ¬ p = q := fun z => h z.symm
      simp [h, h']
theorem in_pd (p : Nat × Nat) (ps : List (Nat × Nat)) : cmpD .In (pd p) (.lst (ps.map pd)) = some (decide (p ∈ ps)) := by
  show (if (shp (pd p) && shp (.lst (ps.map pd))) = true then some (inD (pd p) (ps.map pd)) else none) = _
  rw [shp_pd, shp_lst, inD_pd]; rfl
/-- one pair in a text: its two, the blanks behind the first, the sign, the second -/
structure It5 where
  a : Nat
  b : Nat
  k1 : Nat
  k2 : Nat
  k3 : Nat
def itm (x : It5) : List Nat := (48 + x.a) :: (sp x.k1 ++ 45 :: (sp x.k2 ++ (48 + x.b) :: sp x.k3))
def flat : List It5 → List Nat
  | [] => []
  | x :: r => itm x ++ flat r
def nrm (x : It5) : Nat × Nat := (min x.a x.b, max x.a x.b)
def rdCond : SB := (sCmp .Lt (sVar 1) (sBi .len (sVar 0)))
def rdBody : SS := (sSeq (sAsg (sCall 4 F_digit_at (sACons (sVar 0) (sACons (sVar 1) (sACons (sC (.int 0)) (sACons (sBin .Sub (sVar 2) (sC (.int 1))) sANil))))) (gSet 4))
  (sSeq (sAsg (sCall 2 F_after_spaces (sACons (sVar 0) (sACons (sBin .Add (sVar 1) (sC (.int 1))) sANil))) (gSet 1))
  (sSeq (sIfS (sCmp .NotEq (sSl (sVar 0) (sOSome (sVar 1)) (sOSome (sBin .Add (sVar 1) (sC (.int 1))))) (sC (.str (Str.ofString "-")))) sNo sNx)
  (sSeq (sAsg (sCall 2 F_after_spaces (sACons (sVar 0) (sACons (sBin .Add (sVar 1) (sC (.int 1))) sANil))) (gSet 1))
  (sSeq (sAsg (sCall 4 F_digit_at (sACons (sVar 0) (sACons (sVar 1) (sACons (sC (.int 0)) (sACons (sBin .Sub (sVar 2) (sC (.int 1))) sANil))))) (gSet 5))
  (sSeq (sAsg (sTup (sACons (sMM false (sVar 4) (sVar 5)) (sACons (sMM true (sVar 4) (sVar 5)) sANil))) (gSet 6))
  (sSeq (sIfS (sOr (sCmp .Eq (sVar 4) (sVar 5)) (sCmp .In (sVar 6) (sVar 3))) sNo sNx)
  (sSeq (sDrop (sApp (sVar 3) (sVar 6)))
  (sAsg (sCall 2 F_after_spaces (sACons (sVar 0) (sACons (sBin .Add (sVar 1) (sC (.int 1))) sANil))) (gSet 1))))))))))
abbrev rEnv (l : List Nat) (i n : Nat) (x4 x5 x6 : Option W) : Env := [some (.v (.str (Tx l))), some (.v (.int i)), some (.v (.int n)), some (.p 1), x4, x5, x6]
theorem dash_tx : Str.ofString "-" = Tx [45] := by decide
theorem colon_tx : Str.ofString ":" = Tx [58] := by decide
theorem rdBody_ok {l : List Nat} (hl : l.length ≤ 1000) (ha : ∀ c ∈ l, c < 128) {i n : Nat} {x : It5} {R : List Nat} (h : l.drop i = itm x ++ R) (hR : ∀ c, R.head? = some c → c ≠ 32) (hk : 1 ≤ x.k3 ∨ R = []) (h1 : x.a < n) (h2 : x.b < n) (hn : n ≤ 7) (hab : x.a ≠ x.b)
    {acc : List (Nat × Nat)} (hacc : acc.length < 1000) (hx : nrm x ∉ acc) (c : Cell) (x4 x5 x6 : Option W) :
    ∃ (j : Nat) (y4 y5 y6 : Option W), rdBody (rEnv l i n x4 x5 x6) [c, .lst (acc.map pd)] = .nx (rEnv l j n y4 y5 y6) [c, .lst ((acc ++ [nrm x]).map pd)] ∧ l.drop j = R := by
  obtain ⟨a, b, k1, k2, k3⟩ := x
  have hL : l.length ≤ LIM := Nat.le_trans hl (by decide)
  have d0 : l.drop i = (48 + a) :: (sp k1 ++ 45 :: (sp k2 ++ (48 + b) :: (sp k3 ++ R))) := by rw [h]; simp [itm]
  have d1 : l.drop (i + 1 + k1) = 45 :: (sp k2 ++ (48 + b) :: (sp k3 ++ R)) := drop_sp (drop_next d0)
  have d2 : l.drop (i + 1 + k1 + 1 + k2) = (48 + b) :: (sp k3 ++ R) := drop_sp (drop_next d1)
  have d3 : l.drop (i + 1 + k1 + 1 + k2 + 1 + k3) = R := drop_sp (drop_next d2)
  have g1 : F_digit_at [.v (.str (Tx l)), .v (.int i), .v (.int 0), .v (.int ((n : Int) - 1))] [c, .lst (acc.map pd)] = .ok (.v (.int a)) [c, .lst (acc.map pd)] := by
    refine digit_ok l hl i a _ d0 (by simp at h1; omega) (fun c hc => ?_) 0 _ (by omega) (by simp at h1; omega) _
    cases k1 with
    | zero => simp [sp] at hc; omega
    | succ k => simp [sp, List.replicate_succ] at hc; omega
  have g2 := after_at1 hl ha d0 (by simp) [c, .lst (acc.map pd)]
  have g3 := slice_at d1
  have g4 := after_at1 hl ha d1 (by simp; omega) [c, .lst (acc.map pd)]
  have g5 : F_digit_at [.v (.str (Tx l)), .v (.int ((i + 1 + k1 + 1 + k2 : Nat) : Int)), .v (.int 0), .v (.int ((n : Int) - 1))] [c, .lst (acc.map pd)] = .ok (.v (.int b)) [c, .lst (acc.map pd)] := by
    refine digit_ok l hl _ b _ d2 (by simp at h2; omega) (fun c hc => ?_) 0 _ (by omega) (by simp at h2; omega) _
    cases k3 with
    | zero =>
      rcases hk with z | z
      · simp at z
      · subst z; simp [sp] at hc
    | succ k => simp [sp, List.replicate_succ] at hc; omega
  have g6 := after_at1 hl ha d2 hR [c, .lst ((acc ++ [nrm ⟨a, b, k1, k2, k3⟩]).map pd)]
  generalize hj1 : i + 1 + k1 = j1 at *
  generalize hj2 : j1 + 1 + k2 = j2 at *
  generalize hj3 : j2 + 1 + k3 = j3 at *
  have n1 := ne_tx (x := 45) (y := 45) (by decide) (by decide)
  obtain ⟨lo, hlo⟩ : ∃ lo, lo = min a b := ⟨_, rfl⟩
  obtain ⟨hi, hhi⟩ : ∃ hi, hi = max a b := ⟨_, rfl⟩
  have m1 : (if b < a then (b : Int) else (a : Int)) = (lo : Int) := by split <;> omega
  have m2 : (if a < b then (b : Int) else (a : Int)) = (hi : Int) := by split <;> omega
  have en : nrm ⟨a, b, k1, k2, k3⟩ = (lo, hi) := by unfold nrm; rw [hlo, hhi]
  rw [en] at hx g6 ⊢
  have i1 := in_pd (lo, hi) acc
  rw [decide_eq_false hx] at i1
  have i1 : cmpD .In (.tup [.int (lo : Int), .int (hi : Int)]) (.lst (acc.map pd)) = some false := i1
  have hab' : ((a : Int) = (b : Int)) = False := eq_false (fun z => hab (by simpa using Int.ofNat.inj z))
  have hac : (acc).length < LIM := by unfold LIM; omega
  refine ⟨j3, some (.v (.int a)), some (.v (.int b)), some (.v (pd (lo, hi))), ?_, d3⟩
  unfold rdBody
  have g6 : F_after_spaces [.v (.str (Tx l)), .v (.int ((j2 : Int) + 1))] [c, .lst (acc.map pd ++ [.tup [.int (lo : Int), .int (hi : Int)]])] = .ok (.v (.int (j3 : Int))) [c, .lst (acc.map pd ++ [.tup [.int (lo : Int), .int (hi : Int)]])] := by
    have := g6
    rw [List.map_append] at this
    exact this
  simp [g1, g2, hL, g3, dash_tx, n1, g4, g5, hab', lim2, m1, m2, i1, hac, g6, pd]
end Dy
set_option Elab.async false
set_option linter.all false
set_option maxRecDepth 100000
set_option maxHeartbeats 4000000
namespace Dy
open PySem PySem.Spec PyProof.Rows L2 SrtO
def good : List It5 → Prop
  | [] => True
  | [_] => True
  | x :: y :: r => 1 ≤ x.k3 ∧ good (y :: r)
theorem good_tail {x : It5} {r : List It5} (h : good (x :: r)) : (1 ≤ x.k3 ∨ r = []) ∧ good r := by
  cases r with
  | nil => exact ⟨.inr rfl, trivial⟩
  | cons y r => exact ⟨.inl h.1, h.2⟩
theorem flat_head : ∀ (xs : List It5) (c : Nat), (flat xs).head? = some c → c ≠ 32
  | [], c, h => by simp [flat] at h
  | x :: r, c, h => by simp [flat, itm] at h; omega
theorem rdCond_ok {l : List Nat} (hl : l.length ≤ 1000) (i n : Nat) (x4 x5 x6 : Option W) (S : Sto) : rdCond (rEnv l i n x4 x5 x6) S = .ok (decide (i < l.length)) S := by
  have hL : l.length ≤ LIM := Nat.le_trans hl (by decide)
  unfold rdCond
  simp [hL]
theorem rd_loop {l : List Nat} (hl : l.length ≤ 1000) (ha : ∀ c ∈ l, c < 128) {n : Nat} (hn : n ≤ 7) (c : Cell) : ∀ (xs : List It5) (N i : Nat) (acc : List (Nat × Nat)) (x4 x5 x6 : Option W), xs.length < N → l.drop i = flat xs → good xs → (∀ x ∈ xs, x.a < n ∧ x.b < n ∧ x.a ≠ x.b) → acc.length + xs.length < 900 → (acc ++ xs.map nrm).Nodup →
    ∃ (j : Nat) (y4 y5 y6 : Option W), whileD rdCond rdBody N (rEnv l i n x4 x5 x6) [c, .lst (acc.map pd)] = .nx (rEnv l j n y4 y5 y6) [c, .lst ((acc ++ xs.map nrm).map pd)]
  | [], 0, i, acc, x4, x5, x6, h, _, _, _, _, _ => absurd h (Nat.not_lt_zero _)
  | [], N + 1, i, acc, x4, x5, x6, _, hd, _, _, _, _ => by
    have hi : ¬ i < l.length := fun z => by
      have := congrArg List.length hd
      rw [List.length_drop] at this
      simp [flat] at this
      omega
    refine ⟨i, x4, x5, x6, ?_⟩
    rw [whileD_succ, rdCond_ok hl, decide_eq_false hi, Res.toS_ok, if_neg Bool.false_ne_true, List.map_nil, List.append_nil]
  | x :: xs, 0, i, acc, x4, x5, x6, h, _, _, _, _, _ => absurd h (Nat.not_lt_zero _)
  | x :: xs, N + 1, i, acc, x4, x5, x6, hN, hd, hg, hx, hlen, hnd => by
    have hi : i < l.length := Nat.lt_of_not_le fun z => by
      rw [List.drop_eq_nil_of_le z] at hd
      have := congrArg List.length hd
      simp [flat, itm] at this
    obtain ⟨g1, g2⟩ := good_tail hg
    obtain ⟨h1, h2, h3⟩ := hx x (List.mem_cons_self ..)
    have hnx : nrm x ∉ acc := fun z => by
      rw [List.nodup_append] at hnd
      exact hnd.2.2 _ z _ (List.mem_cons_self ..) rfl
    have hk : 1 ≤ x.k3 ∨ flat xs = [] := g1.imp id fun z => by rw [z]; rfl
    have hlen2 : acc.length + (xs.length + 1) < 900 := by simpa using hlen
    obtain ⟨j, y4, y5, y6, e1, e2⟩ := rdBody_ok hl ha (i := i) (n := n) (x := x) (R := flat xs) hd (flat_head xs) hk h1 h2 hn h3 (acc := acc) (by omega) hnx c x4 x5 x6
    have hap : acc ++ (x :: xs).map nrm = (acc ++ [nrm x]) ++ xs.map nrm := by simp
    obtain ⟨j', z4, z5, z6, e3⟩ := rd_loop hl ha hn c xs N j (acc ++ [nrm x]) y4 y5 y6 (by simp at hN; omega) e2 g2 (fun y hy => hx y (List.mem_cons_of_mem _ hy)) (by simp; omega) (by rw [← hap]; exact hnd)
    refine ⟨j', z4, z5, z6, ?_⟩
    rw [whileD_succ, rdCond_ok hl, decide_eq_true hi, Res.toS_ok, if_pos rfl, e1, RS.loop_nx, e3, hap]
theorem read_ok {n k0 k1 k2 : Nat} {xs : List It5} {l : List Nat} (h : l = sp k0 ++ (48 + n) :: (sp k1 ++ 58 :: (sp k2 ++ flat xs))) (hl : l.length ≤ 1000) (ha : ∀ c ∈ l, c < 128) (h1 : 1 ≤ n) (hn : n ≤ 7) (hg : good xs) (hx : ∀ x ∈ xs, x.a < n ∧ x.b < n ∧ x.a ≠ x.b)
    (hlen : xs.length < 900) (hnd : (xs.map nrm).Nodup) {es : List D} (hs : sortD ((xs.map nrm).map pd) = some es) (c : Cell) (hc : fitC 1 c = true) : F_read_web [.v (.str (Tx l))] [c] = .ok (.v (.tup [.int n, .tup es])) [c] := by
  have hL : l.length ≤ LIM := Nat.le_trans hl (by decide)
  have d0 : l.drop 0 = sp k0 ++ (48 + n) :: (sp k1 ++ 58 :: (sp k2 ++ flat xs)) := by rw [h]; rfl
  have a0 := after_at hl ha d0 (by simp; omega) [c]
  have d1 : l.drop k0 = (48 + n) :: (sp k1 ++ 58 :: (sp k2 ++ flat xs)) := by have := drop_sp d0; rw [Nat.zero_add] at this; exact this
  have g1 : F_digit_at [.v (.str (Tx l)), .v (.int k0), .v (.int 1), .v (.int 7)] [c] = .ok (.v (.int n)) [c] := by
    refine digit_ok l hl _ n _ d1 (by omega) (fun x hc => ?_) 1 7 (by omega) (by omega) _
    cases k1 with
    | zero => simp [sp] at hc; omega
    | succ k => simp [sp, List.replicate_succ] at hc; omega
  have a1 := after_at1 hl ha d1 (by simp) [c]
  have d2 : l.drop (k0 + 1 + k1) = 58 :: (sp k2 ++ flat xs) := drop_sp (drop_next d1)
  have s2 := slice_at d2
  have a2 := after_at1 hl ha d2 (flat_head xs) [c, .lst []]
  have d3 : l.drop (k0 + 1 + k1 + 1 + k2) = flat xs := drop_sp (drop_next d2)
  obtain ⟨j, y4, y5, y6, e⟩ := rd_loop hl ha hn c xs 1000000 (k0 + 1 + k1 + 1 + k2) [] none none none (by omega) d3 hg hx (by simp; omega) (by simpa using hnd)
  have n1 := ne_tx (x := 58) (y := 58) (by decide) (by decide)
  generalize hj1 : k0 + 1 + k1 = j1 at *
  generalize hj2 : j1 + 1 + k2 = j2 at *
  rw [Nat.zero_add] at a0
  have a0 : F_after_spaces [.v (.str (Tx l)), .v (.int 0)] [c] = .ok (.v (.int (k0 : Int))) [c] := a0
  unfold rdCond rdBody at e
  rw [List.nil_append] at e
  have e : whileD _ _ 1000000 [some (.v (.str (Tx l))), some (.v (.int j2)), some (.v (.int n)), some (.p 1), none, none, none] [c, .lst []] = .nx [some (.v (.str (Tx l))), some (.v (.int j)), some (.v (.int n)), some (.p 1), y4, y5, y6] [c, .lst ((xs.map nrm).map pd)] := e
  unfold F_read_web runF b_read_web
  rw [List.map_map] at hs
  simp [isD, ty6, is6, a0, g1, a1, hL, s2, colon_tx, n1, a2, e, hs, lim2, cutS, hc]
/-! ### sorting -/
def ltN (p q : Nat × Nat) : Bool := lexB ((p.1 : Int), (p.2 : Int)) ((q.1 : Int), (q.2 : Int))
theorem ltN_pd (p q : Nat × Nat) : ltD (pd p) (pd q) = ltN p q := ltD_pair _ _ _ _
theorem ltN_iff {p q : Nat × Nat} : ltN p q = true ↔ lexlt p q := by
  unfold ltN lexlt
  rw [lexB_iff]
  simp only
  omega
theorem swo_ltN : Swo ltN := by
  have no : ∀ {p q : Nat × Nat}, ltN p q = false ↔ ¬ lexlt p q := fun {p q} => by
    rw [← ltN_iff]; cases ltN p q <;> simp
  refine ⟨fun x y h => ?_, fun x y z h1 h2 => ?_⟩
  · have a := ltN_iff.mp h
    refine no.mpr ?_
    unfold lexlt at *
    omega
  · have a := no.mp h1
    have b := no.mp h2
    refine no.mpr ?_
    unfold lexlt at *
    omega
theorem eqv_ltN (p q : Nat × Nat) : eqv ltN p q = (q == p) := by
  have h1 : eqv ltN p q = true ↔ q = p := by
    rw [eqv_iff]
    have no : ∀ {p q : Nat × Nat}, ltN p q = false ↔ ¬ lexlt p q := fun {p q} => by
      rw [← ltN_iff]; cases ltN p q <;> simp
    rw [no, no]
    unfold lexlt
    constructor
    · intro h
      exact Prod.ext (by omega) (by omega)
    · rintro rfl; omega
  by_cases h : q = p
  · rw [h1.mpr h]; simp [h]
  · cases e : eqv ltN p q with
    | true => exact absurd (h1.mp e) h
    | false => exact (beq_eq_false_iff_ne.mpr h).symm
theorem stb_perm {l m : List (Nat × Nat)} (h : l.Perm m) : Stb ltN l m := by
  refine ⟨h, fun x => ?_⟩
  have e : eqv ltN x = fun y => y == x := funext fun y => eqv_ltN x y
  rw [e, List.filter_beq, List.filter_beq, h.count_eq]
theorem srtd_of {ps : List (Nat × Nat)} (h : ps.Pairwise lexlt) : Srtd ltN ps := h.imp fun {a b} hab => swo_ltN.asym _ _ (ltN_iff.mpr hab)
theorem sort_pd {qs ps : List (Nat × Nat)} (h : qs.Perm ps) (hp : ps.Pairwise lexlt) : sortD (qs.map pd) = some (ps.map pd) := by
  unfold sortD
  have h1 : srtOk (qs.map pd) = true := by
    unfold srtOk
    rw [Bool.or_eq_true]
    refine .inr (List.all_eq_true.mpr fun d hd => ?_)
    obtain ⟨p, _, rfl⟩ := List.mem_map.mp hd
    rfl
  rw [if_pos h1, ← isortL_map (lt := ltD) pd qs]
  have e : (fun a b : Nat × Nat => ltD (pd a) (pd b)) = ltN := funext fun a => funext fun b => ltN_pd a b
  rw [e, ← isortL_uniq swo_ltN (srtd_of hp) (stb_perm h.symm)]
theorem lex_nodup {ps : List (Nat × Nat)} (hp : ps.Pairwise lexlt) : ps.Nodup := hp.imp fun {a b} h z => by subst z; unfold lexlt at h; omega
end Dy
set_option Elab.async false
set_option linter.all false
set_option maxRecDepth 100000
set_option maxHeartbeats 4000000
namespace Dy
open PySem PySem.Spec PyProof.Rows L2 SrtO
theorem ge_pd {p q : Nat × Nat} (h : lexlt p q) : cmpD .GtE (pd p) (pd q) = some false := by
  obtain ⟨a, b⟩ := p
  obtain ⟨a', b'⟩ := q
  have hs : ∀ i : Int, shp (.int i) = true := fun i => rfl
  show (if dpt (pd (a, b)) ≤ 60 then ordD .GtE (pd (a, b)) (pd (a', b')) else none) = _
  rw [if_pos (show dpt (pd (a, b)) ≤ 60 from (show (1 : Nat) ≤ 60 by decide))]
  unfold pd ordD ordDL ordDL ordDL ordD
  simp only [hs, Bool.and_self, if_true, intB, natB, List.length_cons, List.length_nil, eqD]
  unfold lexlt at h
  simp only at h
  by_cases e : a = a'
  · subst e
    have h2 : b < b' := by omega
    have e3 : ((b : Int) == (b' : Int)) = false := beq_eq_false_iff_ne.mpr (by omega)
    simp [e3]
    omega
  · have e3 : ((a : Int) == (a' : Int)) = false := beq_eq_false_iff_ne.mpr (by omega)
    simp [e3]
    omega
theorem anyL_none (st : Bool) (γ : ST) (elt : SE) (ρ0 : Env) (S : Sto) : ∀ ds : List D, (∀ d ∈ ds, ∃ ρ2, γ (.v d) ρ0 S = .ok ρ2 S ∧ elt ρ2 S = .ok (.v (.bl (!st))) S) → anyL st γ sYes elt ρ0 ds S = .ok (!st) S
  | [], _ => rfl
  | d :: ds, h => by
    obtain ⟨ρ2, h1, h2⟩ := h d (List.mem_cons_self ..)
    unfold anyL
    rw [h1, Res.calm_ok, Res.bind_ok, x_Yes, Res.calm_ok, Res.bind_ok, if_pos rfl, h2, Res.calm_ok, Res.bind_ok, wB_bl, ofO_some, if_neg (by cases st <;> decide)]
    exact anyL_none st γ elt ρ0 S ds fun d hd => h d (List.mem_cons_of_mem _ hd)
theorem forL_inv (γ : ST) (body : SS) (S : Sto) (I : Env → Prop) : ∀ (ds : List D) (ρ : Env), I ρ → (∀ d ∈ ds, ∀ ρ, I ρ → ∃ ρ1 ρ2, γ (.v d) ρ S = .ok ρ1 S ∧ body ρ1 S = .nx ρ2 S ∧ I ρ2) → ∃ ρ', forL γ body ds ρ S = .nx ρ' S ∧ I ρ'
  | [], ρ, hI, _ => ⟨ρ, rfl, hI⟩
  | d :: ds, ρ, hI, h => by
    obtain ⟨ρ1, ρ2, h1, h2, h3⟩ := h d (List.mem_cons_self ..) ρ hI
    obtain ⟨ρ', h4, h5⟩ := forL_inv γ body S I ds ρ2 h3 fun d hd => h d (List.mem_cons_of_mem _ hd)
    exact ⟨ρ', by rw [forL_cons, h1, Res.toS_ok, h2, RS.loop_nx, h4], h5⟩
theorem lcL_map (γ : ST) (elt : SE) (ρ0 : Env) (S : Sto) (f : D → D) : ∀ ds : List D, (∀ d ∈ ds, ∃ ρ2, γ (.v d) ρ0 S = .ok ρ2 S ∧ elt ρ2 S = .ok (.v (f d)) S) → lcL γ sYes elt ρ0 ds S = .ok (ds.map f) S
  | [], _ => rfl
  | d :: ds, h => by
    obtain ⟨ρ2, h1, h2⟩ := h d (List.mem_cons_self ..)
    unfold lcL
    rw [h1, Res.calm_ok, Res.bind_ok, x_Yes, Res.calm_ok, Res.bind_ok, if_pos rfl, h2, Res.calm_ok, Res.bind_ok, wD_v, ofO_some, lcL_map γ elt ρ0 S f ds fun d hd => h d (List.mem_cons_of_mem _ hd)]
    rfl
def nwBody : SS := (sSeq (sIfS (sOr (sNot (sTru (sIsi .tup (sVar 1)))) (sOr (sCmp .NotEq (sBi .len (sVar 1)) (sC (.int 2))) (sNot (sTru (sCall 3 F_is_in (sACons (sIx (sVar 1) (sC (.int 0))) (sACons (sC (.int 0)) (sACons (sBin .Sub (sIx (sVar 0) (sC (.int 0))) (sC (.int 1))) sANil)))))))) sNo sNx)
  (sIfS (sNot (sTru (sCall 3 F_is_in (sACons (sIx (sVar 1) (sC (.int 1))) (sACons (sBin .Add (sIx (sVar 1) (sC (.int 0))) (sC (.int 1))) (sACons (sBin .Sub (sIx (sVar 0) (sC (.int 0))) (sC (.int 1))) sANil)))))) sNo sNx))
theorem nwBody_ok (n : Nat) (ps : List (Nat × Nat)) (p : Nat × Nat) (h1 : p.1 < p.2) (h2 : p.2 < n) (S : Sto) (x2 : Option W) : nwBody [some (.v (webD n ps)), some (.v (pd p)), x2] S = .nx [some (.v (webD n ps)), some (.v (pd p)), x2] S := by
  have a1 : (0 : Int) ≤ (p.1 : Int) ∧ (p.1 : Int) ≤ (n : Int) - 1 := by omega
  have a2 : ((p.1 : Int) + 1) ≤ (p.2 : Int) ∧ (p.2 : Int) ≤ (n : Int) - 1 := by omega
  unfold nwBody pd webD
  simp [isD, ty6, is6, is_in_ok, a1, a2]
theorem need_web_ok {n : Nat} {ps : List (Nat × Nat)} (v : Valid n ps) (hl : ps.length < 900) (S : Sto) : F_need_web [.v (webD n ps)] S = .ok (.v .non) S := by
  obtain ⟨ρ', e1, x1, x2, hI⟩ := forL_inv (gSet 1) nwBody S (fun ρ => ∃ x1 x2 : Option W, ρ = [some (.v (webD n ps)), x1, x2]) (ps.map pd) [some (.v (webD n ps)), none, none] ⟨_, _, rfl⟩ (by
    intro d hd ρ hρ
    obtain ⟨x1, x2, rfl⟩ := hρ
    obtain ⟨p, hp, rfl⟩ := List.mem_map.mp hd
    obtain ⟨h1, h2⟩ := v.inn p hp
    exact ⟨_, _, by simp, nwBody_ok n ps p h1 h2 S x2, _, _, rfl⟩)
  subst hI
  have an : anyL true (gSet 2) sYes (sOfB (sCmp .GtE (sIx (sIx (sVar 0) (sC (.int 1))) (sVar 2)) (sIx (sIx (sVar 0) (sC (.int 1))) (sBin .Add (sVar 2) (sC (.int 1)))))) [some (.v (webD n ps)), x1, none] (rngD 0 ((ps.length : Int) - 1).toNat) S = .ok false S := by
    refine anyL_none true _ _ _ S _ fun d hd => ?_
    unfold rngD at hd
    obtain ⟨k, hk, rfl⟩ := List.mem_map.mp hd
    rw [List.mem_range] at hk
    have k1 : k + 1 < ps.length := by omega
    refine ⟨[some (.v (webD n ps)), x1, some (.v (.int k))], by simp, ?_⟩
    have hlt : lexlt ps[k] ps[k + 1] := List.pairwise_iff_getElem.mp v.srt k (k + 1) (by omega) k1 (by omega)
    have g1 : L2.atI (ps.map pd) (k : Int) = some (pd ps[k]) := by rw [atI_nat, List.getElem?_map, List.getElem?_eq_getElem (by omega)]; rfl
    have g2 : L2.atI (ps.map pd) ((k : Int) + 1) = some (pd ps[k + 1]) := by
      have e : ((k : Int) + 1) = ((k + 1 : Nat) : Int) := by omega
      rw [e, atI_nat, List.getElem?_map, List.getElem?_eq_getElem k1]; rfl
    unfold webD
    simp [g1, g2, ge_pd hlt]
  have a1 : (1 : Int) ≤ (n : Int) ∧ (n : Int) ≤ 7 := by have := v.lo; have := v.hi; omega
  have b : (-1000000 : Int) ≤ (ps.length : Int) - 1 ∧ (ps.length : Int) - 1 ≤ 1000000 := by omega
  unfold nwBody webD at e1
  unfold webD at an
  rw [show ((ps.length : Int) - 1).toNat = ps.length - 1 by omega] at an
  unfold F_need_web runF b_need_web webD
  simp [isD, ty6, is6, is_in_ok, a1, e1, b, an, cutS_same]
theorem num_tx : ∀ v : Nat, v ≤ 9 → Str.ofString (toString (v : Int)) = Tx [48 + v]
  | 0, _ => by decide +kernel
  | 1, _ => by decide +kernel
  | 2, _ => by decide +kernel
  | 3, _ => by decide +kernel
  | 4, _ => by decide +kernel
  | 5, _ => by decide +kernel
  | 6, _ => by decide +kernel
  | 7, _ => by decide +kernel
  | 8, _ => by decide +kernel
  | 9, _ => by decide +kernel
  | n + 10, h => by omega
theorem log_small (v : Nat) (h : v ≤ 9) : ((v : Int)).natAbs.log2 < 1920 := Nat.lt_trans (log2_lt (k := 4) (by omega) (by decide)) (by decide)
theorem empty_tx : Str.empty = Tx [] := rfl
/-- the written pair -/
def wp (p : Nat × Nat) : List Nat := [48 + p.1, 45, 48 + p.2]
def wpD : D → D
  | .tup [.int a, .int b] => .str (Tx [48 + a.toNat, 45, 48 + b.toNat])
  | d => d
theorem wpD_pd (p : Nat × Nat) : wpD (pd p) = .str (Tx (wp p)) := by simp [wpD, pd, wp]
def tailT : List (Nat × Nat) → List Nat
  | [] => []
  | p :: r => 32 :: (wp p ++ tailT r)
def T (n : Nat) (ps : List (Nat × Nat)) : List Nat := (48 + n) :: 32 :: 58 :: tailT ps
/-- plain join -/
def jl (sep : List Nat) : List (List Nat) → List Nat
  | [] => []
  | [x] => x
  | x :: y :: r => x ++ sep ++ jl sep (y :: r)
theorem join_tx (sep : List Nat) : ∀ xs : List (List Nat), Txt.join (Tx sep) (xs.map Tx) = Tx (jl sep xs) := by
  intro xs
  unfold Txt.join
  rw [StrLaws.glued_eq_join]
  induction xs with
  | nil => rfl
  | cons x xs ih =>
    cases xs with
    | nil => rfl
    | cons y r =>
      show Tx x ++ Tx sep ++ Str.join (Tx sep) ((y :: r).map Tx) = _
      rw [ih, tx_app, tx_app]
      rfl
theorem jl_tail : ∀ (a : List Nat) (ps : List (Nat × Nat)), jl [32] (a :: ps.map wp) = a ++ tailT ps
  | a, [] => by simp [jl, tailT]
  | a, p :: r => by
    show a ++ [32] ++ jl [32] (wp p :: r.map wp) = _
    rw [jl_tail (wp p) r]
    simp [tailT]
theorem jl_T (n : Nat) (ps : List (Nat × Nat)) : jl [32] ([48 + n] :: [58] :: ps.map wp) = T n ps := by
  show [48 + n] ++ [32] ++ jl [32] ([58] :: ps.map wp) = _
  rw [jl_tail]
  rfl
theorem sum_wp : ∀ ps : List (Nat × Nat), (((ps.map wp).map Tx).map (·.length)).sum = 3 * ps.length
  | [] => rfl
  | p :: r => by
    have := sum_wp r
    simp only [List.map_cons, List.sum_cons, List.length_cons, tx_len] at this ⊢
    rw [this]
    simp [wp]
    omega
theorem strsD_map : ∀ xs : List Str, strsD (xs.map D.str) = some xs
  | [] => rfl
  | x :: r => by
    show (strsD (r.map D.str)).map (x :: ·) = _
    rw [strsD_map r]; rfl
theorem tx_blank : Str.ofString " " = Tx [32] := blank_tx
theorem write_web_ok {n : Nat} {ps : List (Nat × Nat)} (v : Valid n ps) (hl : ps.length < 900) (S : Sto) : F_write_web [.v (webD n ps)] S = .ok (.v (.str (Tx (T n ps)))) S := by
  have nw := need_web_ok v hl S
  have hn := v.hi
  have lc : lcL (gTupD 2 (gsCons (gSet 1) (gsCons (gSet 2) gsNil))) sYes (sJoined [(sFmt (sVar 1)), (sC (.str (Str.ofString "-"))), (sFmt (sVar 2))]) [some (.v (webD n ps)), none, none] (ps.map pd) S = .ok ((ps.map pd).map wpD) S := by
    refine lcL_map _ _ _ _ _ _ fun d hd => ?_
    obtain ⟨p, hp, rfl⟩ := List.mem_map.mp hd
    obtain ⟨h1, h2⟩ := v.inn p hp
    have p1 : p.1 ≤ 9 := by omega
    have p2 : p.2 ≤ 9 := by omega
    refine ⟨[some (.v (webD n ps)), some (.v (.int p.1)), some (.v (.int p.2))], by simp [pd], ?_⟩
    rw [wpD_pd]
    have f1 : fmtD (.v (.int (p.1 : Int))) = some (Tx [48 + p.1]) := by
      show (if _ then some (Str.ofString (toString (p.1 : Int))) else none) = _
      rw [if_pos (log_small _ p1), num_tx _ p1]
    have f2 : fmtD (.v (.int (p.2 : Int))) = some (Tx [48 + p.2]) := by
      show (if _ then some (Str.ofString (toString (p.2 : Int))) else none) = _
      rw [if_pos (log_small _ p2), num_tx _ p2]
    have l1 : 1 ≤ LIM := by decide
    have l2 : 2 ≤ LIM := by decide
    have l3 : 3 ≤ LIM := by decide
    simp [f1, f2, dash_tx, empty_tx, l1, l2, l3, wp]
  have mm : (ps.map pd).map wpD = ((ps.map wp).map Tx).map D.str := by
    rw [List.map_map, List.map_map, List.map_map]
    exact List.map_congr_left fun p _ => wpD_pd p
  rw [mm] at lc
  have lg : n.log2 < 1920 := by have := log_small n (by omega); simpa using this
  have nm : Str.ofString (Int.repr (n : Int)) = Tx [48 + n] := num_tx n (by omega)
  have hlen : ps.length ≤ LIM := by unfold LIM; omega
  have hst : strsD (.str (Tx [48 + n]) :: .str (Tx [58]) :: ((ps.map wp).map Tx).map D.str) = some (Tx [48 + n] :: Tx [58] :: (ps.map wp).map Tx) := strsD_map (Tx [48 + n] :: Tx [58] :: (ps.map wp).map Tx)
  have hj : Txt.join (Tx [32]) (Tx [48 + n] :: Tx [58] :: (ps.map wp).map Tx) = Tx (T n ps) := by
    rw [← jl_T, ← join_tx]; rfl
  have sm := sum_wp ps
  have am : ∀ ds : List D, allD (ds.map W.v) = some ds := fun ds => by
    induction ds with
    | nil => rfl
    | cons d ds ih => rw [List.map_cons, allD_cons, ih]; rfl
  have w0 : ixD (webD n ps) (.int 0) = some (.int n) := rfl
  have w1 : ixD (webD n ps) (.int 1) = some (.tup (ps.map pd)) := rfl
  have cap : 3 * ps.length + (ps.length + 2) + 2 ≤ 16777216 := by omega
  simp only [List.map_map] at lc hst hj sm
  unfold F_write_web runF b_write_web
  simp only [x_Seq, x_Drop, x_Call, x_ACons, x_ANil, x_Var0, Res.bind_ok, List.map_cons, List.map_nil, List.length_cons, List.length_nil, List.cons_append, List.nil_append, Nat.zero_add, Nat.reduceAdd, Nat.reduceSub, List.replicate_succ, List.replicate_zero, if_true, nw, Res.toS_ok, RS.then_nx]
  have l2 : ps.length + 1 + 1 ≤ LIM := by unfold LIM; omega
  have cap2 : 1 + (1 + 3 * ps.length) + (ps.length + 1 + 1) ≤ 16777216 := by omega
  have am2 := am (ps.map (D.str ∘ Tx ∘ wp))
  rw [List.map_map] at am2
  simp [w0, w1, lg, nm, tx_blank, colon_tx, lc, hlen, am2, l2, hst, hj, sm, cap2, cutS_same]
end Dy
set_option Elab.async false
set_option linter.all false
set_option maxRecDepth 100000
set_option maxHeartbeats 4000000
namespace Dy
open PySem PySem.Spec PyProof.Rows L2 SrtO
def spl (c : Nat) : List Nat → List (List Nat)
  | [] => [[]]
  | x :: r => if x = c then [] :: spl c r else (match spl c r with
    | [] => [[x]]
    | h :: t => (x :: h) :: t)
theorem spl_ne (c : Nat) : ∀ l, ∃ h t, spl c l = h :: t
  | [] => ⟨_, _, rfl⟩
  | x :: r => by
    unfold spl
    split
    · exact ⟨_, _, rfl⟩
    · split <;> exact ⟨_, _, rfl⟩
theorem spl_free {c : Nat} : ∀ {x : List Nat}, c ∉ x → spl c x = [x]
  | [], _ => rfl
  | y :: r, h => by
    have h1 : ¬ y = c := fun z => h (z ▸ List.mem_cons_self ..)
    have h2 := spl_free (x := r) fun z => h (List.mem_cons_of_mem _ z)
    unfold spl
    rw [if_neg h1, h2]
theorem spl_app {c : Nat} {r : List Nat} : ∀ {x : List Nat}, c ∉ x → spl c (x ++ c :: r) = x :: spl c r
  | [], _ => by show spl c (c :: r) = _; unfold spl; rw [if_pos rfl]; cases r <;> rfl
  | y :: x, h => by
    have h1 : ¬ y = c := fun z => h (z ▸ List.mem_cons_self ..)
    have h2 := spl_app (r := r) (x := x) fun z => h (List.mem_cons_of_mem _ z)
    show spl c (y :: (x ++ c :: r)) = _
    rw [spl, if_neg h1, h2]
theorem spl_jl {c : Nat} : ∀ {ps : List (List Nat)}, ps ≠ [] → (∀ p ∈ ps, c ∉ p) → spl c (jl [c] ps) = ps
  | [], h, _ => absurd rfl h
  | [x], _, h => spl_free (h x (List.mem_cons_self ..))
  | x :: y :: r, _, h => by
    show spl c (x ++ [c] ++ jl [c] (y :: r)) = _
    rw [List.append_assoc]
    show spl c (x ++ c :: jl [c] (y :: r)) = _
    rw [spl_app (h x (List.mem_cons_self ..)), spl_jl (by simp) fun p hp => h p (List.mem_cons_of_mem _ hp)]
theorem sjoin_tx (sep : List Nat) (xs : List (List Nat)) : Str.join (Tx sep) (xs.map Tx) = Tx (jl sep xs) := by
  have := join_tx sep xs
  unfold Txt.join at this
  rw [StrLaws.glued_eq_join] at this
  exact this
theorem split_ne (x y : Str) : Txt.split x y ≠ [] := by
  unfold Txt.split
  split
  · simp
  · split
    · simp
    · rw [StrLaws.partsBetween_eq]
      obtain ⟨p, r, e⟩ := StrLaws.partsFrom_ne x y.length 0 (Builtin.Str.occurrences x y 0 x.length (x.length + 1))
      rw [e]; simp
theorem split_tx (c : Nat) (l : List Nat) : Txt.split (Tx l) (Tx [c]) = (spl c l).map Tx := by
  have e : (Txt.split (Tx l) (Tx [c])) = ((Txt.split (Tx l) (Tx [c])).map (fun s : Str => s.cps.toList)).map Tx := by
    rw [List.map_map]
    conv => lhs; rw [← List.map_id (Txt.split (Tx l) (Tx [c]))]
    exact List.map_congr_left fun s _ => tx_of s
  have hj := StrLaws.join_split (Tx l) (Tx [c])
  have hf := StrLaws.split_free (Tx l) c
  have hn := split_ne (Tx l) (Tx [c])
  rw [e, sjoin_tx] at hj
  have hj := tx_inj hj
  rw [e]
  congr 1
  have k := spl_jl (c := c) (ps := (Txt.split (Tx l) (Tx [c])).map fun s : Str => s.cps.toList) (fun z => hn (List.map_eq_nil_iff.mp z)) fun p hp => by
    obtain ⟨s, hs, rfl⟩ := List.mem_map.mp hp
    exact hf s hs
  rw [hj] at k
  exact k.symm
def rep1 (c : Nat) (z l : List Nat) : List Nat := l.flatMap fun x => if x = c then z else [x]
theorem jl_cons (z x h : List Nat) (y : Nat) (t : List (List Nat)) : jl z ((y :: h) :: t) = y :: jl z (h :: t) := by
  cases t <;> rfl
theorem jl_spl (c : Nat) (z : List Nat) : ∀ l, jl z (spl c l) = rep1 c z l
  | [] => rfl
  | x :: r => by
    have ih := jl_spl c z r
    obtain ⟨h, t, e⟩ := spl_ne c r
    unfold spl
    show _ = (if x = c then z else [x]) ++ rep1 c z r
    split
    · rw [← ih, e]; rfl
    · rw [e]
      show jl z ((x :: h) :: t) = _
      rw [jl_cons z h h x t, ← e, ih]; rfl
theorem replace_tx (c : Nat) (z l : List Nat) : Txt.replace (Tx l) (Tx [c]) (Tx z) = Tx (rep1 c z l) := by
  have h := StrLaws.replace_one (Tx l) (Tx z) c
  have e : (⟨#[c]⟩ : Str) = Tx [c] := rfl
  rw [e] at h
  rw [h, split_tx, sjoin_tx, jl_spl]
theorem spl_len (c : Nat) : ∀ l, (spl c l).length = l.count c + 1
  | [] => rfl
  | x :: r => by
    have ih := spl_len c r
    obtain ⟨h, t, e⟩ := spl_ne c r
    unfold spl
    split
    · rename_i hx; subst hx; simp [ih]
    · rename_i hx
      rw [e] at ih ⊢
      rw [List.count_cons_of_ne (by simpa using hx)]
      simpa using ih
theorem count_tx (c : Nat) (hc : c < 256) (l : List Nat) (hl : l ≠ []) : Txt.count (Tx l) (Tx [c]) = (l.count c : Int) := by
  have h1 := split_tx c l
  have h2 := congrArg List.length h1
  rw [List.length_map, spl_len] at h2
  unfold Txt.split at h2
  have k1 : Builtin.Str.strKind (Tx [c]) = 1 := by unfold Builtin.Str.strKind Tx; simp [hc]
  have k2 : ¬ Builtin.Str.strKind (Tx l) < 1 := by unfold Builtin.Str.strKind; split <;> (try split) <;> omega
  have k3 : ¬ (Tx l).length < (Tx [c]).length := by
    rw [tx_len, tx_len]
    cases l with
    | nil => exact absurd rfl hl
    | cons a b => simp
  rw [k1, if_neg (by simp [k2]; simpa using k3)] at h2
  unfold Txt.count
  split at h2
  · rename_i he
    have : Builtin.Str.occurrences (Tx l) (Tx [c]) 0 (Tx l).length ((Tx l).length + 1) = [] := List.isEmpty_iff.mp he
    rw [this]
    simp at h2 ⊢
    omega
  · unfold Builtin.Str.partsBetween at h2
    simp only [List.length_map, List.length_zip, List.length_cons, List.length_append, List.length_nil, Nat.zero_add, Nat.min_self] at h2
    omega
open PySem.StrLaws PySem.Builtin PySem.Builtin.Str in
theorem repl_colon {a : Nat} {rest : List Nat} (ha : a ≠ 32) (hr : 58 ∉ rest) : Txt.replace (Tx (a :: 32 :: 58 :: rest)) (Tx [32, 58]) (Tx [58]) = Tx (a :: 58 :: rest) := by
  have at_iff : ∀ i, StrLaws.At (Tx (a :: 32 :: 58 :: rest)) (Tx [32, 58]) (Tx (a :: 32 :: 58 :: rest)).length i ↔ i = 1 := by
    intro i
    unfold StrLaws.At
    rw [subAt_eq, tx_list, tx_list]
    simp only [tx_len, List.length_cons, List.length_nil]
    match i with
    | 0 => simp [ha]
    | 1 => simp
    | 2 => simp
    | j + 3 =>
      have hne : ¬ ((List.drop j rest).take 2 == [32, 58]) = true := fun z => by
        have z := eq_of_beq z
        have : 58 ∈ (List.drop j rest).take 2 := by rw [z]; simp
        exact hr (List.mem_of_mem_drop (List.mem_of_mem_take this))
      simp
      intro _
      simpa using hne
  obtain ⟨f, h1, h2⟩ := occ_tight (Tx (a :: 32 :: 58 :: rest)) (Tx [32, 58]) (by simp)
  have occ : occurrences (Tx (a :: 32 :: 58 :: rest)) (Tx [32, 58]) 0 (Tx (a :: 32 :: 58 :: rest)).length ((Tx (a :: 32 :: 58 :: rest)).length + 1) = [1] := by
    revert h1
    generalize occurrences (Tx (a :: 32 :: 58 :: rest)) (Tx [32, 58]) 0 (Tx (a :: 32 :: 58 :: rest)).length ((Tx (a :: 32 :: 58 :: rest)).length + 1) = cs
    intro h1
    match cs, h1 with
    | [], h1 =>
      have e : f = 0 := h1
      subst e
      exact absurd ((at_iff 1).mpr rfl) (h2 1 (by omega))
    | [i], h1 =>
      have := (at_iff i).mp h1.2.1
      rw [this]
    | i :: j :: r, h1 =>
      have e1 := (at_iff i).mp h1.2.1
      have e2 := (at_iff j).mp h1.2.2.2.2.1
      have e3 := h1.2.2.2.1
      simp at e3
      omega
  unfold Txt.replace
  rw [occ, if_neg (by simp), glued_eq_join, partsBetween_eq]
  refine tx_ext ?_
  have sx : ∀ (s : Str) (i j : Nat), strSub s i j = Tx ((s.cps.toList.drop i).take (j - i)) := fun s i j => tx_ext (by rw [strSub_toList, tx_list])
  simp [partsFrom, Str.join, sx]
theorem rev3 (a b c : Nat) : revS (Tx [a, b, c]) = Tx [c, b, a] := by
  unfold revS
  have e : Builtin.Str.strSliceIndices none none (-1) (Tx [a, b, c]).length = [2, 1, 0] := by
    rw [tx_len]; show Builtin.Str.strSliceIndices none none (-1) 3 = [2, 1, 0]; rfl
  rw [e]
  rfl
/-! ### the texts of the law -/
def mkI (k1 k2 kl : Nat) : List (Nat × Nat) → List It5
  | [] => []
  | [p] => [⟨p.1, p.2, k1, k2, kl⟩]
  | p :: q :: r => ⟨p.1, p.2, k1, k2, 1⟩ :: mkI k1 k2 kl (q :: r)
theorem mkI_good (k1 k2 kl : Nat) : ∀ ps, good (mkI k1 k2 kl ps)
  | [] => trivial
  | [_] => trivial
  | [p, q] => ⟨Nat.le_refl _, trivial⟩
  | p :: q :: r :: t => ⟨Nat.le_refl _, mkI_good k1 k2 kl (q :: r :: t)⟩
theorem mkI_nrm (k1 k2 kl : Nat) : ∀ ps, (mkI k1 k2 kl ps).map nrm = ps.map fun p => (min p.1 p.2, max p.1 p.2)
  | [] => rfl
  | [_] => rfl
  | p :: q :: r => by
    show nrm ⟨p.1, p.2, k1, k2, 1⟩ :: (mkI k1 k2 kl (q :: r)).map nrm = _
    rw [mkI_nrm k1 k2 kl (q :: r)]; rfl
theorem mkI_mem (k1 k2 kl : Nat) {x : It5} : ∀ {ps}, x ∈ mkI k1 k2 kl ps → (x.a, x.b) ∈ ps
  | [], h => by cases h
  | [p], h => by rw [List.mem_singleton.mp h]; exact List.mem_singleton.mpr rfl
  | p :: q :: r, h => by
    rcases List.mem_cons.mp h with e | h
    · rw [e]; exact List.mem_cons_self ..
    · exact List.mem_cons_of_mem _ (mkI_mem k1 k2 kl h)
theorem mkI_len (k1 k2 kl : Nat) : ∀ ps, (mkI k1 k2 kl ps).length = ps.length
  | [] => rfl
  | [_] => rfl
  | p :: q :: r => by show (mkI k1 k2 kl (q :: r)).length + 1 = _; rw [mkI_len k1 k2 kl (q :: r)]; rfl
/-- pairs written with k1, k2 blanks around the sign, each behind a blank -/
def tl (k1 k2 : Nat) : List (Nat × Nat) → List Nat
  | [] => []
  | p :: r => 32 :: ((48 + p.1) :: (sp k1 ++ 45 :: (sp k2 ++ (48 + p.2) :: tl k1 k2 r)))
theorem tl_flat (k1 k2 kl : Nat) : ∀ (p : Nat × Nat) (r : List (Nat × Nat)), tl k1 k2 (p :: r) ++ sp kl = 32 :: flat (mkI k1 k2 kl (p :: r))
  | p, [] => by simp [tl, mkI, flat, itm]
  | p, q :: r => by
    have ih := tl_flat k1 k2 kl q r
    show (32 :: ((48 + p.1) :: (sp k1 ++ 45 :: (sp k2 ++ (48 + p.2) :: tl k1 k2 (q :: r))))) ++ sp kl = 32 :: (itm ⟨p.1, p.2, k1, k2, 1⟩ ++ flat (mkI k1 k2 kl (q :: r)))
    have e : sp 1 ++ flat (mkI k1 k2 kl (q :: r)) = tl k1 k2 (q :: r) ++ sp kl := by rw [ih]; rfl
    simp only [itm, List.cons_append, List.append_assoc, e]
theorem tl_tail : ∀ ps, tl 0 0 ps = tailT ps
  | [] => rfl
  | p :: r => by
    show 32 :: ((48 + p.1) :: 45 :: (48 + p.2) :: tl 0 0 r) = 32 :: (wp p ++ tailT r)
    rw [tl_tail r]; rfl
theorem tl_small (k1 k2 : Nat) : ∀ (ps : List (Nat × Nat)), (∀ p ∈ ps, p.1 ≤ 9 ∧ p.2 ≤ 9) → ∀ c ∈ tl k1 k2 ps, c < 58
  | [], _, c, h => by cases h
  | p :: r, hp, c, h => by
    have h1 := hp p (List.mem_cons_self ..)
    have ih := tl_small k1 k2 r fun q hq => hp q (List.mem_cons_of_mem _ hq)
    simp only [tl, List.mem_cons, List.mem_append, sp, List.mem_replicate] at h
    rcases h with h | h | h | h | h | h | h
    · omega
    · omega
    · omega
    · omega
    · omega
    · omega
    · exact ih c h
theorem tl_len (k1 k2 : Nat) : ∀ ps : List (Nat × Nat), (tl k1 k2 ps).length = (4 + k1 + k2) * ps.length
  | [] => by simp [tl]
  | p :: r => by
    have := tl_len k1 k2 r
    simp [tl, sp, this]
    rw [Nat.mul_add]
    omega
/-- any such text is read back -/
theorem read_tl {n k0 k1 k2 kl j1 : Nat} {qs ps : List (Nat × Nat)} (v : Valid n ps) (hl : ps.length ≤ 60) (hq : (qs.map fun p => (min p.1 p.2, max p.1 p.2)).Perm ps) (hj : j1 ≤ 3) (hk0 : k0 ≤ 3) (hk1 : k1 ≤ 1) (hk2 : k2 ≤ 1) (hkl : kl ≤ 3) (c : Cell) (hc : fitC 1 c = true) :
    F_read_web [.v (.str (Tx (sp k0 ++ (48 + n) :: (sp j1 ++ 58 :: (tl k1 k2 qs ++ sp kl)))))] [c] = .ok (.v (webD n ps)) [c] := by
  have hn := v.hi
  have hlen : qs.length = ps.length := by have := hq.length_eq; simpa using this
  have hin : ∀ q ∈ qs, q.1 < n ∧ q.2 < n ∧ q.1 ≠ q.2 := fun q hm => by
    have hm2 : (min q.1 q.2, max q.1 q.2) ∈ ps := hq.mem_iff.mp (List.mem_map.mpr ⟨q, hm, rfl⟩)
    have := v.inn _ hm2
    simp only at this
    omega
  have small : ∀ x ∈ sp k0 ++ (48 + n) :: (sp j1 ++ 58 :: (tl k1 k2 qs ++ sp kl)), x < 128 := fun x hx => by
    have t := tl_small k1 k2 qs (fun q hm => by have := hin q hm; omega)
    simp only [List.mem_append, List.mem_cons, sp, List.mem_replicate] at hx
    rcases hx with h | h | h | h | h | h
    · omega
    · omega
    · omega
    · omega
    · have := t x h; omega
    · omega
  have size : (sp k0 ++ (48 + n) :: (sp j1 ++ 58 :: (tl k1 k2 qs ++ sp kl))).length ≤ 1000 := by
    have t := tl_len k1 k2 qs
    have : (4 + k1 + k2) * qs.length ≤ 6 * 60 := Nat.mul_le_mul (by omega) (by omega)
    simp only [List.length_append, List.length_cons, sp, List.length_replicate, t]
    omega
  have srt : sortD (((mkI k1 k2 kl qs).map nrm).map pd) = some (ps.map pd) := by rw [mkI_nrm]; exact sort_pd hq v.srt
  have nd : ((mkI k1 k2 kl qs).map nrm).Nodup := by rw [mkI_nrm]; exact hq.nodup_iff.mpr (lex_nodup v.srt)
  have mem : ∀ x ∈ mkI k1 k2 kl qs, x.a < n ∧ x.b < n ∧ x.a ≠ x.b := fun x hx => hin _ (mkI_mem k1 k2 kl hx)
  have hxs : (mkI k1 k2 kl qs).length < 900 := by rw [mkI_len]; omega
  cases qs with
  | nil =>
    exact read_ok (k0 := k0) (k1 := j1) (k2 := kl) (xs := []) (by simp [tl, flat]) size small v.lo hn trivial (by simp) (by simp) (by simp) (by simpa [mkI] using srt) c hc
  | cons q r =>
    refine read_ok (k0 := k0) (k1 := j1) (k2 := 1) (xs := mkI k1 k2 kl (q :: r)) ?_ size small v.lo hn (mkI_good ..) mem hxs nd srt c hc
    rw [tl_flat]
    rfl
end Dy
set_option Elab.async false
set_option linter.all false
set_option maxRecDepth 100000
set_option maxHeartbeats 4000000
namespace Dy
open PySem PySem.Spec PyProof.Rows L2 SrtO
theorem inc_len : ∀ (l : List Nat) (lo hi : Nat), l.Pairwise (· < ·) → (∀ x ∈ l, lo ≤ x ∧ x < hi) → l.length ≤ hi - lo
  | [], _, _, _, _ => Nat.zero_le _
  | x :: r, lo, hi, h, hm => by
    rw [List.pairwise_cons] at h
    have h1 := hm x (List.mem_cons_self ..)
    have := inc_len r (x + 1) hi h.2 fun y hy => ⟨h.1 y hy, (hm y (List.mem_cons_of_mem _ hy)).2⟩
    simp only [List.length_cons]
    omega
theorem valid_len {n : Nat} {ps : List (Nat × Nat)} (v : Valid n ps) : ps.length ≤ 49 := by
  have hn := v.hi
  have hs : (ps.map fun p => p.1 * 7 + p.2).Pairwise (· < ·) := by
    rw [List.pairwise_map]
    refine v.srt.imp_of_mem fun {p q} hp hq h => ?_
    have h1 := v.inn p hp
    have h2 := v.inn q hq
    unfold lexlt at h
    omega
  have := inc_len _ 0 49 hs fun x hx => by
    obtain ⟨p, hp, rfl⟩ := List.mem_map.mp hx
    have h1 := v.inn p hp
    omega
  simpa using this
theorem eqDL_pd : ∀ ps qs : List (Nat × Nat), eqDL (ps.map pd) (qs.map pd) = decide (ps = qs)
  | [], [] => rfl
  | [], q :: qs => rfl
  | p :: ps, [] => rfl
  | p :: ps, q :: qs => by
    show (eqD (pd p) (pd q) && eqDL (ps.map pd) (qs.map pd)) = _
    rw [eqD_pd, eqDL_pd ps qs]
    by_cases h1 : p = q <;> by_cases h2 : ps = qs <;> simp [h1, h2]
theorem eqD_web (n m : Nat) (ps qs : List (Nat × Nat)) : eqD (webD n ps) (webD m qs) = decide (n = m ∧ ps = qs) := by
  unfold webD
  simp only [eqD, eqDL, Bool.and_true, eqDL_pd]
  by_cases h1 : n = m <;> by_cases h2 : ps = qs <;> simp [h1, h2] <;> omega
theorem shp_web (n : Nat) (ps : List (Nat × Nat)) : shp (webD n ps) = true := by
  have h := dptL_pd ps
  unfold shp webD
  rw [Bool.and_eq_true]
  refine ⟨?_, decide_eq_true ?_⟩
  · simp [flD, flDL, flDL_pd]
  · simp only [dpt, dptL]
    omega
theorem ne_web (n : Nat) (ps : List (Nat × Nat)) : cmpD .NotEq (webD n ps) (webD n ps) = some false := by
  rw [cmp_neG _ _ (shp_web ..) (shp_web ..), eqD_web]; simp
theorem eq_web (n m : Nat) (ps qs : List (Nat × Nat)) : cmpD .Eq (webD n ps) (webD m qs) = some (decide (n = m ∧ ps = qs)) := by
  rw [cmp_eqG _ _ (shp_web ..) (shp_web ..), eqD_web]
theorem count_tail : ∀ (ps : List (Nat × Nat)), (∀ p ∈ ps, p.1 ≤ 9 ∧ p.2 ≤ 9) → (tailT ps).count 45 = ps.length
  | [], _ => rfl
  | p :: r, h => by
    have ih := count_tail r fun q hq => h q (List.mem_cons_of_mem _ hq)
    have a : ¬ 48 + p.1 = 45 := by omega
    have b : ¬ 48 + p.2 = 45 := by omega
    simp [tailT, wp, List.count_cons, ih, a, b]
theorem rep_tail : ∀ (ps : List (Nat × Nat)), (∀ p ∈ ps, p.1 ≤ 9 ∧ p.2 ≤ 9) → rep1 45 [32, 45, 32] (tailT ps) = tl 1 1 ps
  | [], _ => rfl
  | p :: r, h => by
    have ih := rep_tail r fun q hq => h q (List.mem_cons_of_mem _ hq)
    have a : ¬ 48 + p.1 = 45 := by omega
    have b : ¬ 48 + p.2 = 45 := by omega
    unfold rep1 at ih ⊢
    simp [tailT, wp, List.flatMap_cons, ih, a, b, tl, sp]
theorem v9 {n : Nat} {ps : List (Nat × Nat)} (v : Valid n ps) : ∀ p ∈ ps, p.1 ≤ 9 ∧ p.2 ≤ 9 := fun p hp => by
  have := v.inn p hp
  have := v.hi
  omega
theorem count_T {n : Nat} {ps : List (Nat × Nat)} (v : Valid n ps) : Txt.count (Tx (T n ps)) (Tx [45]) = (ps.length : Int) := by
  rw [count_tx 45 (by decide) _ (by simp [T])]
  have a : ¬ 48 + n = 45 := by omega
  simp [T, List.count_cons, count_tail ps (v9 v), a]
theorem rep_T {n : Nat} {ps : List (Nat × Nat)} (v : Valid n ps) : Txt.replace (Txt.replace (Tx (T n ps)) (Tx [45]) (Tx [32, 45, 32])) (Tx [32, 58]) (Tx [58]) = Tx ((48 + n) :: 58 :: tl 1 1 ps) := by
  have hn := v.hi
  have a : ¬ 48 + n = 45 := by omega
  have e : rep1 45 [32, 45, 32] (T n ps) = (48 + n) :: 32 :: 58 :: tl 1 1 ps := by
    have := rep_tail ps (v9 v)
    unfold rep1 at this ⊢
    simp [T, List.flatMap_cons, a, this]
  rw [replace_tx, e, repl_colon (by omega) fun z => by have := tl_small 1 1 ps (v9 v) _ z; omega]
theorem split_T {n : Nat} {ps : List (Nat × Nat)} (v : Valid n ps) : Txt.split (Tx (T n ps)) (Tx [32]) = Tx [48 + n] :: Tx [58] :: (ps.map wp).map Tx := by
  rw [split_tx, ← jl_T, spl_jl (by simp) ?_]
  · rfl
  · intro p hp
    simp only [List.mem_cons] at hp
    rcases hp with rfl | rfl | hp
    · simp; omega
    · simp
    · obtain ⟨q, hq, rfl⟩ := List.mem_map.mp hp
      simp [wp]
      omega
theorem cut_hd (a b : D) (r : List D) : cutL (a :: b :: r) none (some 2) = [a, b] := by
  unfold cutL HT.sIx
  simp
theorem cut_tl (a b : D) (r : List D) : cutL (a :: b :: r) (some 2) none = r := by
  unfold cutL HT.sIx
  simp
theorem tailT_len (ps : List (Nat × Nat)) : (tailT ps).length = 4 * ps.length := by rw [← tl_tail, tl_len]
theorem T_len (n : Nat) (ps : List (Nat × Nat)) : (T n ps).length = 3 + 4 * ps.length := by simp [T, tailT_len]; omega
theorem read_T {n : Nat} {ps : List (Nat × Nat)} (v : Valid n ps) (c : Cell) (hc : fitC 1 c = true) : F_read_web [.v (.str (Tx (T n ps)))] [c] = .ok (.v (webD n ps)) [c] := by
  have hl := valid_len v
  have h := read_tl (k0 := 0) (k1 := 0) (k2 := 0) (kl := 0) (j1 := 1) (qs := ps) v (by omega) (by
    rw [List.map_congr_left (g := id) fun p hp => by
      have := v.inn p hp
      show (min p.1 p.2, max p.1 p.2) = p
      rw [Nat.min_eq_left (by omega), Nat.max_eq_right (by omega)], List.map_id]) (by omega) (by omega) (by omega) (by omega) (by omega) c hc
  have e : sp 0 ++ (48 + n) :: (sp 1 ++ 58 :: (tl 0 0 ps ++ sp 0)) = T n ps := by simp [sp, tl_tail, T]
  rw [e] at h
  exact h
theorem read_sp {n : Nat} {ps : List (Nat × Nat)} (v : Valid n ps) (c : Cell) (hc : fitC 1 c = true) : F_read_web [.v (.str (Tx ([32, 32] ++ ((48 + n) :: 58 :: tl 1 1 ps) ++ [32, 32])))] [c] = .ok (.v (webD n ps)) [c] := by
  have hl := valid_len v
  have h := read_tl (k0 := 2) (k1 := 1) (k2 := 1) (kl := 2) (j1 := 0) (qs := ps) v (by omega) (by
    rw [List.map_congr_left (g := id) fun p hp => by
      have := v.inn p hp
      show (min p.1 p.2, max p.1 p.2) = p
      rw [Nat.min_eq_left (by omega), Nat.max_eq_right (by omega)], List.map_id]) (by omega) (by omega) (by omega) (by omega) (by omega) c hc
  have e : sp 2 ++ (48 + n) :: (sp 0 ++ 58 :: (tl 1 1 ps ++ sp 2)) = [32, 32] ++ ((48 + n) :: 58 :: tl 1 1 ps) ++ [32, 32] := by simp [sp]
  rw [e] at h
  exact h
def swp (p : Nat × Nat) : Nat × Nat := (p.2, p.1)
theorem read_tn {n : Nat} {ps : List (Nat × Nat)} (v : Valid n ps) (c : Cell) (hc : fitC 1 c = true) : F_read_web [.v (.str (Tx (T n (ps.map swp).reverse)))] [c] = .ok (.v (webD n ps)) [c] := by
  have hl := valid_len v
  have h := read_tl (k0 := 0) (k1 := 0) (k2 := 0) (kl := 0) (j1 := 1) (qs := (ps.map swp).reverse) v (by omega) (by
    rw [List.map_reverse, List.map_map, List.map_congr_left (g := id) fun p hp => by
      have := v.inn p hp
      show (min p.2 p.1, max p.2 p.1) = p
      rw [Nat.min_eq_right (by omega), Nat.max_eq_left (by omega)], List.map_id]
    exact List.reverse_perm ps) (by omega) (by omega) (by omega) (by omega) (by omega) c hc
  have e : sp 0 ++ (48 + n) :: (sp 1 ++ 58 :: (tl 0 0 (ps.map swp).reverse ++ sp 0)) = T n (ps.map swp).reverse := by simp [sp, tl_tail, T]
  rw [e] at h
  exact h
end Dy
set_option Elab.async false
set_option linter.all false
set_option maxRecDepth 100000
set_option maxHeartbeats 4000000
namespace Dy
open PySem PySem.Spec PyProof.Rows L2 SrtO
def ords (n : Nat) : List D := (List.range n).map fun k : Nat => D.int ((n : Int) - 1 - (k : Int))
def fMir (n : Nat) (d : D) : D := match d with
  | .int k => .int ((n : Int) - 1 - k)
  | d => d
theorem ords_eq (n : Nat) : (rngD 0 n).map (fMir n) = ords n := by
  unfold rngD ords
  rw [List.map_map]
  refine List.map_congr_left fun k _ => ?_
  show D.int ((n : Int) - 1 - (0 + (k : Int))) = _
  rw [Int.zero_add]
theorem sort_ords : ∀ n : Nat, n ≤ 7 → sortD (ords n) = some (rngD 0 n)
  | 0, _ => rfl
  | 1, _ => rfl
  | 2, _ => rfl
  | 3, _ => rfl
  | 4, _ => rfl
  | 5, _ => rfl
  | 6, _ => rfl
  | 7, _ => rfl
  | n + 8, h => by omega
theorem ords_len (n : Nat) : (ords n).length = n := by simp [ords]
theorem ix_ords {n a : Nat} (h : a < n) : L2.atI (ords n) (a : Int) = some (.int (((n - 1 - a : Nat)) : Int)) := by
  rw [atI_nat]
  unfold ords
  rw [List.getElem?_map, List.getElem?_range h]
  show some (D.int ((n : Int) - 1 - a)) = _
  congr 2
  omega
def mir (n : Nat) (p : Nat × Nat) : Nat × Nat := (n - 1 - p.2, n - 1 - p.1)
def fMirP (n : Nat) (d : D) : D := match d with
  | .tup [.int a, .int b] => .tup [.int (((n - 1 - b.toNat : Nat)) : Int), .int (((n - 1 - a.toNat : Nat)) : Int)]
  | d => d
theorem fMirP_pd (n : Nat) (p : Nat × Nat) : fMirP n (pd p) = pd (mir n p) := by simp [fMirP, pd, mir]
theorem eqDL_int : ∀ (l : List Int), eqDL (l.map D.int) (l.map D.int) = true
  | [] => rfl
  | x :: r => by show ((x == x) && eqDL (r.map D.int) (r.map D.int)) = true; rw [eqDL_int r]; simp
theorem flDL_int : ∀ (l : List Int), flDL (l.map D.int) = true
  | [] => rfl
  | x :: r => by show (true && flDL (r.map D.int)) = true; rw [flDL_int r]; rfl
theorem dptL_int : ∀ (l : List Int), dptL (l.map D.int) = 0
  | [] => rfl
  | x :: r => by show max 0 (dptL (r.map D.int)) = 0; rw [dptL_int r]; rfl
theorem rng_ints (n : Nat) : rngD 0 n = ((List.range n).map fun i : Nat => ((0 : Int) + (i : Int))).map D.int := by unfold rngD; rw [List.map_map]; rfl
theorem ne_rng (n : Nat) : cmpD .NotEq (.lst (rngD 0 n)) (.lst (rngD 0 n)) = some false := by
  have s : shp (.lst (rngD 0 n)) = true := by
    rw [rng_ints]
    unfold shp
    rw [Bool.and_eq_true]
    exact ⟨by unfold flD; exact flDL_int _, decide_eq_true (by unfold dpt; rw [dptL_int]; omega)⟩
  rw [cmp_neG _ _ s s]
  have : eqD (.lst (rngD 0 n)) (.lst (rngD 0 n)) = true := by unfold eqD; rw [rng_ints]; exact eqDL_int _
  rw [this]; rfl
theorem sort_two (a b : Int) (h : b < a) : sortD [.int a, .int b] = some [.int b, .int a] := by
  unfold sortD
  rw [if_pos (by rfl)]
  simp [isortL, insL, ltD_int]
  omega
theorem sorts_to (l : List (Nat × Nat)) (hn : l.Nodup) : ∃ ps', l.Perm ps' ∧ ps'.Pairwise lexlt := by
  refine ⟨isortL ltN l, (isortL_perm ltN l).symm, ?_⟩
  have h1 := isortL_srtd swo_ltN l
  have h2 : (isortL ltN l).Nodup := (isortL_perm ltN l).nodup_iff.mpr hn
  have h3 := List.Pairwise.and h1 h2
  refine h3.imp fun {p q} h => ?_
  obtain ⟨x, y⟩ := h
  have x : ¬ lexlt q p := fun z => by rw [← ltN_iff] at z; rw [z] at x; cases x
  unfold lexlt at x ⊢
  have : p.1 ≠ q.1 ∨ p.2 ≠ q.2 := by
    by_cases e : p.1 = q.1
    · exact .inr fun e2 => y (Prod.ext e e2)
    · exact .inl e
  omega
theorem renamed_ok {n : Nat} {ps : List (Nat × Nat)} (v : Valid n ps) (S : Sto) : ∃ ps', Valid n ps' ∧ F_renamed [.v (webD n ps), .v (.tup (ords n))] S = .ok (.v (webD n ps')) S := by
  have hl := valid_len v
  have hn := v.hi
  have hlo := v.lo
  have nd : (ps.map (mir n)).Nodup := by
    rw [List.Nodup, List.pairwise_map]
    refine (lex_nodup v.srt).imp_of_mem fun {p q} hp hq h z => h ?_
    have h1 := v.inn p hp
    have h2 := v.inn q hq
    have z1 := congrArg Prod.fst z
    have z2 := congrArg Prod.snd z
    simp only [mir] at z1 z2
    exact Prod.ext (by omega) (by omega)
  obtain ⟨ps', hp, hs⟩ := sorts_to _ nd
  refine ⟨ps', ⟨hlo, hn, hs, fun q hq => ?_⟩, ?_⟩
  · obtain ⟨p, h, rfl⟩ := List.mem_map.mp (hp.mem_iff.mpr hq)
    have h1 := v.inn p h
    simp only [mir]
    omega
  have nw := need_web_ok v (by omega) S
  have an : anyL false (gSet 2) sYes (sCall 3 F_is_in (sACons (sVar 2) (sACons (sC (.int 0)) (sACons (sBin .Sub (sIx (sVar 0) (sC (.int 0))) (sC (.int 1))) sANil)))) [some (.v (webD n ps)), some (.v (.tup (ords n))), none] (ords n) S = .ok true S := by
    refine anyL_none false _ _ _ S _ fun d hd => ?_
    unfold ords at hd
    obtain ⟨k, hk, rfl⟩ := List.mem_map.mp hd
    rw [List.mem_range] at hk
    refine ⟨[some (.v (webD n ps)), some (.v (.tup (ords n))), some (.v (.int ((n : Int) - 1 - k)))], by simp, ?_⟩
    have b : (0 : Int) ≤ (n : Int) - 1 - k ∧ (n : Int) - 1 - k ≤ (n : Int) - 1 := by omega
    unfold webD
    simp only [x_Call, x_ACons, x_ANil, x_Var2, x_C, x_Bin, x_Ix, x_Var0, Res.bind_ok, derefW_v, ofO_some, ix_t, atI_0, List.getElem?_cons_zero, bin_sub, List.length_cons, List.length_nil, if_true, Nat.reduceAdd, is_in_ok, b, and_self, decide_true]
    rfl
  have lc : lcL (gTupD 2 (gsCons (gSet 3) (gsCons (gSet 4) gsNil))) sYes (sBi .tuple (sFrz (sSorted (sFrz (sLst (sACons (sIx (sVar 1) (sVar 3)) (sACons (sIx (sVar 1) (sVar 4)) sANil))))))) [some (.v (webD n ps)), some (.v (.tup (ords n))), none, none, none] (ps.map pd) S = .ok ((ps.map pd).map (fMirP n)) S := by
    refine lcL_map _ _ _ _ _ _ fun d hd => ?_
    obtain ⟨p, hp, rfl⟩ := List.mem_map.mp hd
    obtain ⟨h1, h2⟩ := v.inn p hp
    refine ⟨[some (.v (webD n ps)), some (.v (.tup (ords n))), none, some (.v (.int p.1)), some (.v (.int p.2))], by simp [pd], ?_⟩
    rw [fMirP_pd]
    have i1 := ix_ords (n := n) (a := p.1) (by omega)
    have i2 := ix_ords (n := n) (a := p.2) h2
    have st := sort_two ((n - 1 - p.1 : Nat) : Int) ((n - 1 - p.2 : Nat) : Int) (by omega)
    simp [i1, i2, lim2, st, pd, mir]
  have mm : (ps.map pd).map (fMirP n) = (ps.map (mir n)).map pd := by
    rw [List.map_map, List.map_map]
    exact List.map_congr_left fun p _ => fMirP_pd n p
  rw [mm] at lc
  have sp := sort_pd hp hs
  have w0 : ixD (webD n ps) (.int 0) = some (.int n) := rfl
  have w1 : ixD (webD n ps) (.int 1) = some (.tup (ps.map pd)) := rfl
  have hlen : ps.length ≤ LIM := by unfold LIM; omega
  have wn : F_with_names [.v (webD n ps), .v (.tup (ords n))] S = .ok (.v (webD n ps')) S := by
    unfold F_with_names runF b_with_names
    have l2 : (2 : Nat) ≤ LIM := lim2
    simp only [List.map_map] at lc sp
    simp [w0, w1, lc, hlen, sp, l2, cutS_same]
    rfl
  unfold F_renamed runF b_renamed
  have hr : (n : Int) ≤ 1000000 := by omega
  have e0 : sCall 2 F_with_names (sACons (sVar 0) (sACons (sVar 1) sANil)) [some (.v (webD n ps)), some (.v (.tup (ords n))), none] S = .ok (.v (webD n ps')) S := by
    simp [wn]
  have so := sort_ords n hn
  have nr := ne_rng n
  simp [nw, isD, ty6, is6, an, so, w0, nr, cutS_same, e0, hr]
  rw [wn]
  show Res.ok (W.v (webD n ps')) (cutS S.length S) = _
  rw [cutS_same]
end Dy
set_option Elab.async false
set_option linter.all false
set_option maxRecDepth 100000
set_option maxHeartbeats 4000000
namespace Dy
open PySem PySem.Spec PyProof.Rows L2 SrtO
theorem valid_inj {n m : Nat} {ps qs : List (Nat × Nat)} (v : Valid n ps) (w : Valid m qs) : T n ps = T m qs ↔ n = m ∧ ps = qs := by
  constructor
  · intro h
    have h1 := read_T v (.lst []) rfl
    have h2 := read_T w (.lst []) rfl
    rw [h] at h1
    have h3 := Option.some.inj ((congrArg (fun r => match r with | Res.ok (.v d) _ => some d | _ => none) (h1.symm.trans h2)))
    have h4 := eqD_web n m ps qs
    have h5 := eqD_web n n ps ps
    rw [← h3, h5] at h4
    simpa using h4
  · rintro ⟨rfl, rfl⟩; rfl
theorem rn_fit {c : Cell} (h : Rn c) : fitC 1 c = true := by
  obtain ⟨ns, i, s, p, rfl, _⟩ := h
  rfl
theorem str_nm (n : Nat) (h : n ≤ 9) : biD .str (.int (n : Int)) = some (.str (Tx [48 + n])) := by
  show (if _ then some (D.str (Str.ofString (toString (n : Int)))) else none) = _
  rw [if_pos (log_small _ h), num_tx _ h]
theorem b_comma : Str.ofString " - " = Tx [32, 45, 32] := by decide
theorem b_bc : Str.ofString " :" = Tx [32, 58] := by decide
theorem b_two : Str.ofString "  " = Tx [32, 32] := by decide
def revD : D → D
  | .str z => .str (revS z)
  | d => d
theorem rev_wp (p : Nat × Nat) : revD (.str (Tx (wp p))) = .str (Tx (wp (swp p))) := by
  show D.str (revS (Tx [48 + p.1, 45, 48 + p.2])) = _
  rw [rev3]; rfl
theorem T_small {n : Nat} {ps : List (Nat × Nat)} (v : Valid n ps) : ∀ c ∈ T n ps, c < 128 := fun c h => by
  have hn := v.hi
  have t := tl_small 0 0 ps (v9 v)
  unfold T at h
  simp only [List.mem_cons] at h
  rw [tl_tail] at t
  rcases h with h | h | h | h
  · omega
  · omega
  · omega
  · have := t c h; omega
theorem two_ne (n : Nat) (hn : n ≤ 7) : cmpD .NotEq (.lst [.str (Tx [48 + n]), .str (Tx [58])]) (.lst [.str (Tx [48 + n]), .str (Tx [58])]) = some false := by
  have o1 : PyData.strOk (Tx [48 + n]) = true := strOk_tx (by simp; omega)
  have o2 : PyData.strOk (Tx [58]) = true := strOk_tx (by simp)
  have s : shp (.lst [.str (Tx [48 + n]), .str (Tx [58])]) = true := by
    unfold shp
    rw [Bool.and_eq_true]
    exact ⟨by simp [flD, flDL, o1, o2], decide_eq_true (by simp [dpt, dptL])⟩
  rw [cmp_neG _ _ s s]
  simp [eqD, eqDL]
section
variable {n : Nat} {ps : List (Nat × Nat)} (v : Valid n ps) (c : Cell) (a0 x4 x5 x6 x7 x8 : Option W)
include v
theorem cond1 (hc : fitC 1 c = true) : (sOr (sCmp .NotEq (sCall 1 F_read_web (sACons (sVar 3) sANil)) (sVar 2)) (sOr (sCmp .NotEq (sCount (sVar 3) (sC (.str (Str.ofString "-")))) (sBi .len (sIx (sVar 2) (sC (.int 1))))) (sCmp .NotEq (sSl (sFrz (sSplit (sVar 3) (sC (.str (Str.ofString " "))))) sONone (sOSome (sC (.int 2)))) (sFrz (sLst (sACons (sBi .str (sIx (sVar 2) (sC (.int 0)))) (sACons (sC (.str (Str.ofString ":"))) sANil)))))))
    [a0, some (.p 0), some (.v (webD n ps)), some (.v (.str (Tx (T n ps)))), x4, x5, x6, x7, x8] [c] = .ok false [c] := by
  have hn := v.hi
  have hln := valid_len v
  have e3 := read_T v c hc
  have lg : n.log2 < 1920 := by have := log_small n (by omega); simpa using this
  have nm : Str.ofString (Int.repr (n : Int)) = Tx [48 + n] := num_tx n (by omega)
  have w0 : ixD (webD n ps) (.int 0) = some (.int n) := rfl
  have w1 : ixD (webD n ps) (.int 1) = some (.tup (ps.map pd)) := rfl
  have hT : (T n ps).length ≤ LIM := by rw [T_len]; unfold LIM; omega
  simp [e3, ne_web, dash_tx, count_T v, w1, w0, lg, nm, tx_blank, colon_tx, hT, split_T v, cut_hd, lim2, two_ne n hn]
theorem turn_ok : sJoin (sC (.str (Str.ofString " "))) (sBin .Add (sSl (sVar 4) sONone (sOSome (sC (.int 2)))) (sRev (sFrz (sLc (sSeqI (sSl (sVar 4) (sOSome (sC (.int 2))) sONone)) (gSet 8) sYes (sRev (sVar 8)) [8]))))
    [a0, some (.p 0), some (.v (webD n ps)), some (.v (.str (Tx (T n ps)))), some (.v (.lst ((Txt.split (Tx (T n ps)) (Tx [32])).map .str))), x5, x6, x7, x8] [c] = .ok (.v (.str (Tx (T n (ps.map swp).reverse)))) [c] := by
  have hln := valid_len v
  have lc : lcL (gSet 8) sYes (sRev (sVar 8)) [a0, some (.p 0), some (.v (webD n ps)), some (.v (.str (Tx (T n ps)))), some (.v (.lst (.str (Tx [48 + n]) :: .str (Tx [58]) :: ps.map (D.str ∘ Tx ∘ wp)))), x5, x6, x7, none] (ps.map (D.str ∘ Tx ∘ wp)) [c] = .ok ((ps.map (D.str ∘ Tx ∘ wp)).map revD) [c] := by
    refine lcL_map _ _ _ _ _ _ fun d hd => ?_
    obtain ⟨p, hp, rfl⟩ := List.mem_map.mp hd
    refine ⟨_, by simp; rfl, ?_⟩
    show _ = Res.ok (W.v (revD (D.str (Tx (wp p))))) [c]
    rw [rev_wp]
    have l3 : 3 ≤ LIM := by decide
    simp [wp, swp, rev3, l3]
  have mm : (ps.map (D.str ∘ Tx ∘ wp)).map revD = ps.map (D.str ∘ Tx ∘ wp ∘ swp) := by
    rw [List.map_map]
    exact List.map_congr_left fun p _ => rev_wp p
  rw [mm] at lc
  have hlen : ps.length ≤ LIM := by unfold LIM; omega
  have hlen2 : 2 + ps.length ≤ LIM := by unfold LIM; omega
  have rr : (ps.map (D.str ∘ Tx ∘ wp ∘ swp)).reverse = ((((ps.map swp).reverse).map wp).map Tx).map D.str := by
    rw [List.map_map, List.map_map, List.map_reverse, List.map_map]; rfl
  have hst : strsD (.str (Tx [48 + n]) :: .str (Tx [58]) :: ((((ps.map swp).reverse).map wp).map Tx).map D.str) = some (Tx [48 + n] :: Tx [58] :: (((ps.map swp).reverse).map wp).map Tx) := strsD_map (Tx [48 + n] :: Tx [58] :: (((ps.map swp).reverse).map wp).map Tx)
  have hj : Txt.join (Tx [32]) (Tx [48 + n] :: Tx [58] :: (((ps.map swp).reverse).map wp).map Tx) = Tx (T n (ps.map swp).reverse) := by
    rw [← jl_T, ← join_tx]; rfl
  have sm := sum_wp (ps.map swp).reverse
  simp only [List.length_reverse, List.length_map] at sm
  have cap : (1 + (1 + 3 * ps.length)) + (ps.length + 1 + 1) ≤ 16777216 := by omega
  have e1 : sBin .Add (sSl (sVar 4) sONone (sOSome (sC (.int 2)))) (sRev (sFrz (sLc (sSeqI (sSl (sVar 4) (sOSome (sC (.int 2))) sONone)) (gSet 8) sYes (sRev (sVar 8)) [8]))) [a0, some (.p 0), some (.v (webD n ps)), some (.v (.str (Tx (T n ps)))), some (.v (.lst ((Txt.split (Tx (T n ps)) (Tx [32])).map .str))), x5, x6, x7, x8] [c] = .ok (.v (.lst (.str (Tx [48 + n]) :: .str (Tx [58]) :: ((((ps.map swp).reverse).map wp).map Tx).map D.str))) [c] := by
    rw [← rr, split_T v]
    simp [cut_hd, cut_tl, lc, hlen, hlen2]
  rw [x_Join, x_C, Res.bind_ok, wS_str, ofO_some, e1, Res.bind_ok, derefW_v, ofO_some, seqD_l, ofO_some, hst, ofO_some, tx_blank, hj, if_pos]
  rw [List.map_cons, List.map_cons, List.sum_cons, List.sum_cons, sm]
  simp only [tx_len, List.length_cons, List.length_nil, List.length_map, List.length_reverse]
  omega
theorem spaced_ok : sBin .Add (sBin .Add (sC (.str (Str.ofString "  "))) (sRepl (sRepl (sVar 3) (Str.ofString "-") (Str.ofString " - ")) (Str.ofString " :") (Str.ofString ":"))) (sC (.str (Str.ofString "  ")))
    [a0, some (.p 0), some (.v (webD n ps)), some (.v (.str (Tx (T n ps)))), x4, x5, x6, x7, x8] [c] = .ok (.v (.str (Tx ([32, 32] ++ ((48 + n) :: 58 :: tl 1 1 ps) ++ [32, 32])))) [c] := by
  have hln := valid_len v
  have c1 : (Tx (T n ps)).length + ((Tx (T n ps)).length + 1) * (Tx [32, 45, 32]).length ≤ 16777216 := by
    rw [tx_len, tx_len, T_len]
    simp only [List.length_cons, List.length_nil]
    omega
  have l1 : rep1 45 [32, 45, 32] (T n ps) = (48 + n) :: 32 :: 58 :: tl 1 1 ps := by
    have := rep_tail ps (v9 v)
    have hn := v.hi
    have a : ¬ 48 + n = 45 := by omega
    unfold rep1 at this ⊢
    simp [T, List.flatMap_cons, a, this]
  have r1 : Txt.replace (Tx (T n ps)) (Tx [45]) (Tx [32, 45, 32]) = Tx ((48 + n) :: 32 :: 58 :: tl 1 1 ps) := by rw [replace_tx, l1]
  have r2 := rep_T v
  rw [r1] at r2
  have c2 : (Tx ((48 + n) :: 32 :: 58 :: tl 1 1 ps)).length + ((Tx ((48 + n) :: 32 :: 58 :: tl 1 1 ps)).length + 1) * (Tx [58]).length ≤ 16777216 := by
    rw [tx_len, tx_len]
    simp only [List.length_cons, List.length_nil, tl_len]
    omega
  have q : sRepl (sRepl (sVar 3) (Str.ofString "-") (Str.ofString " - ")) (Str.ofString " :") (Str.ofString ":") [a0, some (.p 0), some (.v (webD n ps)), some (.v (.str (Tx (T n ps)))), x4, x5, x6, x7, x8] [c] = .ok (.v (.str (Tx ((48 + n) :: 58 :: tl 1 1 ps)))) [c] := by
    rw [x_Repl, x_Repl, x_Var3, Res.bind_ok, wS_str, ofO_some, dash_tx, b_comma, b_bc, colon_tx, if_pos c1, Res.bind_ok, wS_str, ofO_some, r1, if_pos c2, r2]
  have k1 : (Tx [32, 32]).length + (Tx ((48 + n) :: 58 :: tl 1 1 ps)).length ≤ LIM := by
    rw [tx_len, tx_len]
    simp only [List.length_cons, List.length_nil, tl_len]
    unfold LIM; omega
  have k2 : (Tx [32, 32] ++ Tx ((48 + n) :: 58 :: tl 1 1 ps)).length + (Tx [32, 32]).length ≤ LIM := by
    rw [tx_app, tx_len, tx_len]
    simp only [List.length_cons, List.length_nil, List.length_append, tl_len]
    unfold LIM; omega
  rw [x_Bin, x_Bin, x_C, Res.bind_ok, q, Res.bind_ok, derefW_v, ofO_some, derefW_v, ofO_some, b_two, bin_addS, if_pos k1, ofO_some, Res.bind_ok, x_C, Res.bind_ok, derefW_v, ofO_some, derefW_v, ofO_some, bin_addS, if_pos k2, ofO_some, tx_app, tx_app]
theorem order_ok : sBi .tuple (sFrz (sLc (sRng1 (sIx (sVar 2) (sC (.int 0)))) (gSet 7) sYes (sBin .Sub (sBin .Sub (sIx (sVar 2) (sC (.int 0))) (sC (.int 1))) (sVar 7)) [7]))
    [a0, some (.p 0), some (.v (webD n ps)), some (.v (.str (Tx (T n ps)))), x4, x5, x6, x7, x8] [c] = .ok (.v (.tup (ords n))) [c] := by
  have hn := v.hi
  have w0 : ixD (webD n ps) (.int 0) = some (.int n) := rfl
  have lc : lcL (gSet 7) sYes (sBin .Sub (sBin .Sub (sIx (sVar 2) (sC (.int 0))) (sC (.int 1))) (sVar 7)) [a0, some (.p 0), some (.v (webD n ps)), some (.v (.str (Tx (T n ps)))), x4, x5, x6, none, x8] (rngD 0 n) [c] = .ok ((rngD 0 n).map (fMir n)) [c] := by
    refine lcL_map _ _ _ _ _ _ fun d hd => ?_
    unfold rngD at hd
    obtain ⟨k, hk, rfl⟩ := List.mem_map.mp hd
    refine ⟨[a0, some (.p 0), some (.v (webD n ps)), some (.v (.str (Tx (T n ps)))), x4, x5, x6, some (.v (.int (0 + (k : Int)))), x8], by simp, ?_⟩
    simp [w0, fMir]
  rw [ords_eq] at lc
  have r1 := rng1_ok (f := sIx (sVar 2) (sC (.int 0))) (ρ := [a0, some (.p 0), some (.v (webD n ps)), some (.v (.str (Tx (T n ps)))), x4, x5, x6, x7, x8]) (S := [c]) (j := (n : Int)) (by simp [w0]) (by omega)
  have hlen : (rngD 0 n).length ≤ LIM := by unfold rngD LIM; simp; omega
  rw [x_Bi, x_Frz, x_Lc, r1, Res.bind_ok, Int.toNat_natCast, if_pos hlen]
  simp [lc]
theorem cond2 (fc : fitC 1 c = true) : (sOr (sCmp .NotEq (sCall 1 F_read_web (sACons (sVar 5) sANil)) (sVar 2)) (sCmp .NotEq (sCall 1 F_read_web (sACons (sBin .Add (sBin .Add (sC (.str (Str.ofString "  "))) (sRepl (sRepl (sVar 3) (Str.ofString "-") (Str.ofString " - ")) (Str.ofString " :") (Str.ofString ":"))) (sC (.str (Str.ofString "  ")))) sANil)) (sVar 2)))
    [a0, some (.p 0), some (.v (webD n ps)), some (.v (.str (Tx (T n ps)))), x4, some (.v (.str (Tx (T n (ps.map swp).reverse)))), x6, x7, x8] [c] = .ok false [c] := by
  have e4 := read_tn v c fc
  have e5 := read_sp v c fc
  have sp := spaced_ok v c a0 x4 (some (.v (.str (Tx (T n (ps.map swp).reverse))))) x6 x7 x8
  have nw := ne_web n ps
  simp only [x_Or, x_Cmp, x_Call, x_ACons, x_ANil, x_Var5, x_Var2, Res.bind_ok, List.length_cons, List.length_nil, Nat.zero_add, if_true, e4, sp, e5, derefW_v, ofO_some, nw]
  rfl
theorem fin_ok {ps' : List (Nat × Nat)} (v' : Valid n ps') (fc : fitC 1 c = true) : (sAndV (sOfB (sCmp .Eq (sCall 1 F_read_web (sACons (sCall 1 F_write_web (sACons (sVar 6) sANil)) sANil)) (sVar 6))) (sOfB (sCmp .Eq (sOfB (sCmp .Eq (sCall 1 F_write_web (sACons (sVar 6) sANil)) (sVar 3))) (sOfB (sCmp .Eq (sVar 6) (sVar 2))))))
    [a0, some (.p 0), some (.v (webD n ps)), some (.v (.str (Tx (T n ps)))), x4, x5, some (.v (webD n ps')), x7, x8] [c] = .ok (.v (.bl true)) [c] := by
  have e7 := write_web_ok v' (by have := valid_len v'; omega) [c]
  have e8 := read_T v' c fc
  have cs := cmp_eqS (Tx (T n ps')) (Tx (T n ps)) (strOk_tx (T_small v')) (strOk_tx (T_small v))
  have iff := valid_inj v' v
  have q1 := eq_web n n ps' ps'
  have q2 := eq_web n n ps' ps
  have bb : ∀ a b : Bool, cmpD .Eq (.bl a) (.bl b) = some (a == b) := fun a b => by
    rw [cmp_eqG _ _ (by rfl) (by rfl)]; rfl
  rw [tx_beq] at cs
  have q3 : decide (T n ps' = T n ps) = decide (n = n ∧ ps' = ps) := decide_eq_decide.mpr iff
  simp only [x_AndV, x_OfB, x_Cmp, x_Call, x_ACons, x_ANil, x_Var6, x_Var3, x_Var2, Res.bind_ok, List.length_cons, List.length_nil, Nat.zero_add, if_true, e7, e8, derefW_v, ofO_some, q1, q2, cs, q3, bb, wB_bl, and_self, decide_true, BEq.rfl]
end
theorem pure_law (ns : List Int) (hl : ns.length ≤ 63) (hb : ∀ z ∈ ns, Builtin.Int.intBits z ≤ 1048576) : ∃ S, F_law [.v (.scr ns)] [] = .ok (.v (.bl true)) S := by
  obtain ⟨c, n, ps, e1, rc, v⟩ := web_ok (.lst [.scr ns, .int 0, .int 13579, .int 0]) ⟨ns, 0, 13579, 0, rfl, by omega, by omega⟩
  have fc := rn_fit rc
  have hln := valid_len v
  have e2 := write_web_ok v (by omega) [c]
  obtain ⟨ps', v', e6⟩ := renamed_ok v [c]
  have hT : (T n ps).length ≤ LIM := by rw [T_len]; unfold LIM; omega
  have l4 : 4 ≤ LIM := by decide
  have c1 := cond1 v c (some (.v (.scr ns))) none none none none none fc
  have t1 := turn_ok v c (some (.v (.scr ns))) none none none none
  have sl : sFrz (sSplit (sVar 3) (sC (.str (Str.ofString " ")))) [some (.v (.scr ns)), some (.p 0), some (.v (webD n ps)), some (.v (.str (Tx (T n ps)))), none, none, none, none, none] [c] = .ok (.v (.lst ((Txt.split (Tx (T n ps)) (Tx [32])).map .str))) [c] := by
    rw [x_Frz, x_Split, x_Var3, Res.bind_ok, wS_str, ofO_some, x_C, Res.bind_ok, wS_str, ofO_some, tx_blank, if_pos ⟨by rfl, by rw [tx_len]; exact hT⟩, Res.bind_ok]
  have c2 := cond2 v c (some (.v (.scr ns))) (some (.v (.lst ((Txt.split (Tx (T n ps)) (Tx [32])).map .str)))) none none none fc
  have o1 := order_ok v c (some (.v (.scr ns))) (some (.v (.lst ((Txt.split (Tx (T n ps)) (Tx [32])).map .str)))) (some (.v (.str (Tx (T n (ps.map swp).reverse))))) none none none
  have f1 := fin_ok v c (some (.v (.scr ns))) (some (.v (.lst ((Txt.split (Tx (T n ps)) (Tx [32])).map .str)))) (some (.v (.str (Tx (T n (ps.map swp).reverse))))) none none v' fc
  refine ⟨cutS 0 [c], ?_⟩
  unfold F_law runF b_law
  simp only [x_Seq, x_Asg, x_Cell, x_Lst, x_ACons, x_ANil, x_Var0, x_Var1, x_Var2, x_C, Res.bind_ok, List.map_cons, List.map_nil, List.length_cons, List.length_nil, List.cons_append, List.nil_append, Nat.zero_add, Nat.reduceAdd, Nat.reduceSub, List.replicate_succ, List.replicate_zero, allD_cons, allD_nil, Option.map_some, ofO_some, l4, if_true, Res.toS_ok, x_gSet, Nat.reduceLT, List.set_cons_succ, List.set_cons_zero, RS.then_nx, x_Call, e1, e2, x_IfS, c1, Bool.false_eq_true, if_false, x_Nx, sl, t1, c2, o1, e6, x_Ret, f1, endF_ret]
end Dy
set_option Elab.async false
set_option linter.all false
set_option maxRecDepth 100000
set_option maxHeartbeats 0
namespace Dy
open PySem PySem.Spec PyProof.Rows L2
def fnL : List He.DefD := [dd "is_in" s_is_in, dd "need_web" s_need_web, dd "write_web" s_write_web, dd "after_spaces" s_after_spaces, dd "digit_at" s_digit_at, dd "read_web" s_read_web, dd "with_names" s_with_names, dd "renamed" s_renamed, dd "_law_taken" s__law_taken, dd "_law_web" s__law_web, dd "law" s_law]
def faL : List He.Fa := [.glo "is_in", .glo "need_web", .glo "write_web", .glo "after_spaces", .glo "digit_at", .glo "read_web", .glo "with_names", .glo "renamed", .glo "_law_taken", .glo "_law_web", .glo "law", .free "len", .free "int", .free "str", .free "abs", .free "tuple", .free "list", .free "sorted", .free "range", .free "isinstance", .free "any", .free "all", .free "sum", .free "max", .free "min", .free "enumerate", .free "zip", .free "set", .free "bool", .free "dict", .int "MOST_PEOPLE" 7]
def tfL : List He.Defn := [("need_web", none), ("renamed", none)]
abbrev exL : PySem.W.Frag → Bool := fun _ => true
abbrev R : PySem.W.OpenRow := PySem.W.OpenLaw.row PySem.Challenge.rw_foescome_k79_across_texts
abbrev hkL : PySem.W.Hook := He.hookX 4 faL fnL [] tfL exL
def obL (s : PySem.W.SharedT) : He.AlX := He.obsX 4 faL fnL [] tfL exL (HandSHeadRun.getT s)
theorem obL_eq (s : PySem.W.SharedT) : obL s = hkL.obs s.abs := He.obsX_eq (HandSHeadRun.getT_eq s)
def loose0 : List PySem.Str := ["FoeError", "BadWeb", "BadOrder", "NotText", "InvalidText", "MOST_PEOPLE", "is_in", "need_web", "write_web", "after_spaces", "digit_at", "read_web", "with_names", "renamed", "_law_taken", "_law_pick", "_law_alike", "_law_web", "_law_foes", "_law_come", "_law_done", "_law_lots", "_law_is_gathering", "_law_gatherings", "_law_row", "_law_deed", "_law_made"]
def looseL : List PySem.Str := loose0
theorem runL (w : World) : HandSHeadRun.RunEq R (PySem.W.view R.prog [32]) hkL obL 4000 looseL w := by
  intro os
  kernel_rfl
theorem factsL {w : World} {K : PySem.W.Frag} {h : Heap} {mg : Str → Option Value} (KX : K.In h) (G : h.Ns mainGlobals mg) (c : He.SaysX faL fnL [] tfL exL w h K) {fa : Addr} (hfa : mg ("law" : Str) = some (.ref fa)) : LamX.LawAtS PySem.Challenge.rw_foescome_k79_across_texts w K (L2.CX PySem.Challenge.rw_foescome_k79_across_texts.prog w) 6 63 "_law_script" mg fa h := by
  have mf : ∀ {x : Str}, He.Fa.free x ∈ faL → mg x = none := fun hf => He.free_ok KX G (c.t.d.facts hf)
  have B : Bn mg := ⟨mf (by simp [faL]), mf (by simp [faL]), mf (by simp [faL]), mf (by simp [faL]), mf (by simp [faL]), mf (by simp [faL]), mf (by simp [faL]), mf (by simp [faL]), mf (by simp [faL]), mf (by simp [faL]), mf (by simp [faL]), mf (by simp [faL]), mf (by simp [faL]), mf (by simp [faL]), mf (by simp [faL]), mf (by simp [faL]), mf (by simp [faL]), mf (by simp [faL]), mf (by simp [faL])⟩
  obtain ⟨f_is_in, fd_is_in, FF_is_in, m_is_in⟩ := fun_at c KX G (x := "is_in") (st := s_is_in) (by simp [fnL]) (by simp [faL])
  obtain ⟨f_need_web, fd_need_web, FF_need_web, m_need_web⟩ := fun_at c KX G (x := "need_web") (st := s_need_web) (by simp [fnL]) (by simp [faL])
  obtain ⟨f_write_web, fd_write_web, FF_write_web, m_write_web⟩ := fun_at c KX G (x := "write_web") (st := s_write_web) (by simp [fnL]) (by simp [faL])
  obtain ⟨f_after_spaces, fd_after_spaces, FF_after_spaces, m_after_spaces⟩ := fun_at c KX G (x := "after_spaces") (st := s_after_spaces) (by simp [fnL]) (by simp [faL])
  obtain ⟨f_digit_at, fd_digit_at, FF_digit_at, m_digit_at⟩ := fun_at c KX G (x := "digit_at") (st := s_digit_at) (by simp [fnL]) (by simp [faL])
  obtain ⟨f_read_web, fd_read_web, FF_read_web, m_read_web⟩ := fun_at c KX G (x := "read_web") (st := s_read_web) (by simp [fnL]) (by simp [faL])
  obtain ⟨f_with_names, fd_with_names, FF_with_names, m_with_names⟩ := fun_at c KX G (x := "with_names") (st := s_with_names) (by simp [fnL]) (by simp [faL])
  obtain ⟨f_renamed, fd_renamed, FF_renamed, m_renamed⟩ := fun_at c KX G (x := "renamed") (st := s_renamed) (by simp [fnL]) (by simp [faL])
  obtain ⟨f__law_taken, fd__law_taken, FF__law_taken, m__law_taken⟩ := fun_at c KX G (x := "_law_taken") (st := s__law_taken) (by simp [fnL]) (by simp [faL])
  obtain ⟨f__law_web, fd__law_web, FF__law_web, m__law_web⟩ := fun_at c KX G (x := "_law_web") (st := s__law_web) (by simp [fnL]) (by simp [faL])
  obtain ⟨f_law, fd_law, FF_law, m_law⟩ := fun_at c KX G (x := "law") (st := s_law) (by simp [fnL]) (by simp [faL])
  have hc_MOST_PEOPLE : ∃ u, mg "MOST_PEOPLE" = some u ∧ RelV (.int 7) u := by
    obtain ⟨t, e⟩ := He.int_ok KX G (c.t.d.facts (f := .int "MOST_PEOPLE" 7) (by simp [faL]))
    exact ⟨_, e, t, rfl⟩
  have e := hfa.symm.trans m_law
  cases e
  have bl : ∀ (s : Shared) (u : Value), BindsTo s fd_law ⟨[u], []⟩ [("_law_script", u)] := fun s u => by
    obtain ⟨⟨oc, od, kV, doc, pm, an, ct, osl, e, _⟩, _⟩ := FF_law
    subst e
    exact .of_eq rfl
  refine ⟨fd_law, tfL.map (He.cT K), spD K (fun _ => none) (tabT K tfL) 1 F_law, fun p hp => ?_, fun p hp => ?_, fun p hp => ?_, bl, fun H a ns hl hb hT hS => ?_, fun base hK hns TB => ?_⟩
  · obtain ⟨z, hz, rfl⟩ := List.mem_map.mp hp; exact c.empty z hz
  · obtain ⟨z, hz, rfl⟩ := List.mem_map.mp hp; exact c.out z hz
  · obtain ⟨z, hz, rfl⟩ := List.mem_map.mp hp; exact PySem.W.codeHd_of_K KX (c.hd z hz)
  · obtain ⟨S, hp⟩ := pure_law ns hl hb
    exact sp_law hp hT hS
  · have tb : ∀ {x : Str}, ((x, none) : He.Defn) ∈ tfL → GxR.TabB base mg (He.codeOf K (x, none)) (He.cT K (x, none)).2 ∧ (He.cT K (x, none)).2 ∈ tabT K tfL := fun hx =>
      ⟨gtab (TB _ (List.mem_map.mpr ⟨_, hx, rfl⟩)), List.mem_map.mpr ⟨_, List.mem_map.mpr ⟨_, hx, rfl⟩, rfl⟩⟩
    have G_is_in : FnP PySem.Challenge.rw_foescome_k79_across_texts.prog w K mg base (fun _ => none) (tabT K tfL) 1 "is_in" 3 F_is_in := w_is_in B   FF_is_in m_is_in
    obtain ⟨t_need_web, p_need_web⟩ := tb (x := "need_web") (by simp [tfL])
    have G_need_web : FnP PySem.Challenge.rw_foescome_k79_across_texts.prog w K mg base (fun _ => none) (tabT K tfL) 3 "need_web" 1 F_need_web := w_need_web B t_need_web p_need_web hc_MOST_PEOPLE G_is_in FF_need_web m_need_web
    have G_write_web : FnP PySem.Challenge.rw_foescome_k79_across_texts.prog w K mg base (fun _ => none) (tabT K tfL) 4 "write_web" 1 F_write_web := w_write_web B  G_need_web FF_write_web m_write_web
    have G_after_spaces : FnP PySem.Challenge.rw_foescome_k79_across_texts.prog w K mg base (fun _ => none) (tabT K tfL) 1 "after_spaces" 2 F_after_spaces := w_after_spaces B   FF_after_spaces m_after_spaces
    have G_digit_at : FnP PySem.Challenge.rw_foescome_k79_across_texts.prog w K mg base (fun _ => none) (tabT K tfL) 1 "digit_at" 4 F_digit_at := w_digit_at B   FF_digit_at m_digit_at
    have G_read_web : FnP PySem.Challenge.rw_foescome_k79_across_texts.prog w K mg base (fun _ => none) (tabT K tfL) 2 "read_web" 1 F_read_web := w_read_web B hc_MOST_PEOPLE G_after_spaces G_digit_at FF_read_web m_read_web
    have G_with_names : FnP PySem.Challenge.rw_foescome_k79_across_texts.prog w K mg base (fun _ => none) (tabT K tfL) 1 "with_names" 2 F_with_names := w_with_names B   FF_with_names m_with_names
    obtain ⟨t_renamed, p_renamed⟩ := tb (x := "renamed") (by simp [tfL])
    have G_renamed : FnP PySem.Challenge.rw_foescome_k79_across_texts.prog w K mg base (fun _ => none) (tabT K tfL) 5 "renamed" 2 F_renamed := w_renamed B t_renamed p_renamed  G_need_web G_is_in G_with_names FF_renamed m_renamed
    have G__law_taken : FnP PySem.Challenge.rw_foescome_k79_across_texts.prog w K mg base (fun _ => none) (tabT K tfL) 1 "_law_taken" 2 F__law_taken := w__law_taken B   FF__law_taken m__law_taken
    have G__law_web : FnP PySem.Challenge.rw_foescome_k79_across_texts.prog w K mg base (fun _ => none) (tabT K tfL) 2 "_law_web" 2 F__law_web := w__law_web B  G__law_taken FF__law_web m__law_web
    exact w_law B  G__law_web G_write_web G_read_web G_renamed FF_law m_law
end Dy
open PySem PySem.W PySem.Calls PyProof.Rows
theorem PySem.Challenge.cw_foescome_k79_across_texts_holds : PySem.Challenge.rw_foescome_k79_across_texts.Holds := by
  w_on; o_law
  refine HandSHeadRun.head_any (r := OpenLaw.row PySem.Challenge.rw_foescome_k79_across_texts) (q := view (OpenLaw.row PySem.Challenge.rw_foescome_k79_across_texts).prog [32]) (H := Dy.hkL) (ob := Dy.obL) (M := 4000) (loose := Dy.looseL) (d := HandSHeadRun.topDef (OpenLaw.row PySem.Challenge.rw_foescome_k79_across_texts).prog 32) (kwd := []) Dy.obL_eq
    (by kernel_rfl) (fun s => by kernel_rfl) Dy.runL (by kernel_rfl) (by kernel_rfl) (by kernel_rfl) (by rfl) (by first | assumption | decide +kernel) (by decide +kernel) ⟨rfl, rfl, rfl, rfl, rfl, by decide +kernel⟩ ?hw ?hc
  case hw => w_witness2
  case hc =>
    refine LamX.walk_ofTsE (l := PySem.Challenge.rw_foescome_k79_across_texts) (n := 63) (k := 6) (x := "_law_script") (CX := fun w => L2.CX PySem.Challenge.rw_foescome_k79_across_texts.prog w) rfl (by decide) (by kernel_rfl) ⟨rfl, by decide, by decide⟩ ?F ?cx
    case cx =>
      intro w H s e s' h
      obtain ⟨_, _, _, _, _, _, _, _, _, _, _, _, z⟩ := h
      exact z.elim
    case F =>
      intro w mg fa h Y G hmg0
      obtain ⟨K, KX, c⟩ := Y
      have hmg : mg ("law" : PySem.Str) = some (.ref fa) := by
        have e : (HandSHeadRun.topDef (OpenLaw.row PySem.Challenge.rw_foescome_k79_across_texts).prog 32).name = ("law" : PySem.Str) := by kernel_rfl
        rw [← e]
        exact hmg0
      exact ⟨K, KX, Dy.factsL KX G c hmg⟩
