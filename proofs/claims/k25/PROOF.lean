import PyProof.Rows.All
import Wide.All
import HandS.ForMost
import KE.GoesEnum
import HandS.Exc
import HandS.ExcIs
import HandS.ExcValue
import HandS.TupAny
import HandS.Style
import KE.KEqNest
import KE.KRevSl
import HandS.TupMul
import HandS.Deep
import HandS.SortInts
import HandS.IsInst
import HandS.More
import HandS.Conv
import HandS.Zip
import HandS.Small
import HandS.Comp
import HandS.ExcOwn
import HandS.Words
import HandS.WordsExc
import HandS.Ends
import PyProof.CallType
import KE.GoesMore
import PyProof.Rows.CallKwBuiltin
import PyProof.Rows.CallKw2
import HandS.SetFor
import HandS.Strs
import HandS.WordsDict
import HandS.AnyAll
import HandS.Defaults
import HandS.Head2
import HandS.HeadHook2
import HandS.HeadHook3
import PyProof.ExcBaseAll.ValueError
import PyProof.ReprBulk
import Wide.Once
import KE.KStateDown
import HandS.Head0
import HandS.Head1
import PySem.Challenge.RW_firstwake_k25_placements_and_walks_recog
set_option Elab.async false
set_option linter.all false
set_option maxRecDepth 100000
set_option maxHeartbeats 1000000
/-! Fw, part T: enumerate over a tuple. -/
namespace Fw
open PySem PySem.Spec PyProof.Rows L2
theorem meets_enu1 {v : Value} {o : Obj} {G : Heap → Prop} (B : Begins v o G) :
    Meets (Builtin.«enumerate.__new__» ⟨[.type "enumerate", v], []⟩) (fun _ R st => G st.heap ∧ R (.ok (.ret (.ref (st.heap.push o).objs.size))) { st with heap := (st.heap.push o).push { cls := .type "enumerate", data := .fields #[.none, .bool false, .ref st.heap.objs.size, rawInt 0, .none, .none] } }) :=
  .of_wp fun pr wd Ar R st hy => by
    obtain ⟨hp, gs, dr, tk, os⟩ := st
    obtain ⟨hG, hR⟩ := hy
    have sb := sub_enumerate
    have go : ∀ {A' : Around} {E : Value → Shared → Prop} {Q : Value → Shared → Prop}, Q (.ref hp.objs.size) ⟨hp.push o, gs, dr, tk, os⟩ → wpAny (model pr wd) A' (pyIter v) Q E ⟨hp, gs, dr, tk, os⟩ := fun q => B.iter pr wd _ _ ⟨hp, gs, dr, tk, os⟩ _ hG q
    wp_walk using go
    refine wpAny_stack_any fun st => wpAny_pure ?_
    split
    · rename_i cc _ _ _ _ _
      cases (cc == Value.type "enumerate") <;> (wp_walk using go; exact ⟨_, rfl, hR⟩)
    · wp_walk using go; exact ⟨_, rfl, hR⟩
section
variable {prog : Program} {w : World} {A : Around} {E : Value → Shared → Prop} {s : Shared}
/-- enumerate(v): its two new cells -/
theorem enu1_made {v : Value} {o : Obj} {G : Heap → Prop} {Q : Value → Shared → Prop} (B : Begins v o G) (hG : G s.heap)
    (k : ∀ h', IsEnum h' (s.heap.objs.size + 1) s.heap.objs.size 0 .none → h'.get? s.heap.objs.size = some o → (∀ b u, s.heap.get? b = some u → h'.get? b = some u) → Q (.ref (s.heap.objs.size + 1)) { s with heap := h' }) :
    wpAny (model prog w) A (call (.type "enumerate") [v]) Q E s := by
  refine callType_new F.called_enumerate (by decide) (F.typeCall_enumerate_1 _) (F.newCall_enumerate_1 _) (fun ob => F.args_object_init_2 ob _) F.entry_enumerate_new (meets_enu1 B) ⟨hG, ?_⟩
  have z : (s.heap.push o).objs.size = s.heap.objs.size + 1 := Heap.size_push ..
  have e := Heap.get?_push_size (s.heap.push o) (o := { cls := .type "enumerate", data := .fields #[.none, .bool false, .ref s.heap.objs.size, rawInt 0, .none, .none] }) rfl
  show _ ∧ _
  rw [z] at e ⊢
  exact ⟨⟨_, e, rfl⟩, k _ e (Heap.get?_push_of_some _ (Heap.get?_push_size _ B.free)) fun b u x => Heap.get?_push_of_some _ (Heap.get?_push_of_some _ x)⟩
end
theorem mem2 {a b c : Addr} (h : a ∈ [b, c]) : a = b ∨ a = c := by simpa using h
/-- the tuple at a, each item in a new pair -/
def IteT (K : PySem.W.Frag) (a : Addr) : It where
  go := fun i H => ∃ (xs : List V) (x : V), SqT K H a xs ∧ xs[i]? = some x
  yld := fun i H v H' => ∃ T x, v = .ref T ∧ H T = none ∧ H' = upd H T (.tup [.int (i : Nat), x]) ∧ ∀ xs, SqT K H a xs → xs[i]? = some x
  stop := fun i H => ∃ xs : List V, SqT K H a xs ∧ xs.length ≤ i
theorem turn_enuT {P : Program} {w : World} {K : PySem.W.Frag} {elts : List Expr} {kk : Nat} {tpos : Pos} (a c it : Addr) (hca : a ≠ it) :
    Turn P w K (.Tuple elts kk tpos) (IteT K a) [c, it] c (fun i h => (∃ old, IsEnum h c it ((i : Nat) : Int) old) ∧ h.IsTupleIter it a i ∧ c ≠ it ∧ c ≠ a) where
  mem := by simp
  obj := fun i h st b hb => by
    obtain ⟨⟨old, hc⟩, ⟨o, ho, _, hd⟩, _⟩ := st
    rcases mem2 hb with z | z <;> subst z
    · exact ⟨_, hc, fun v q => nomatch q⟩
    · exact ⟨o, ho, fun v q => by rw [hd] at q; cases q⟩
  keep := fun i h h' ⟨⟨old, hc⟩, hi, ne⟩ k => ⟨⟨old, k c (by simp) _ hc⟩, hi.at fun o q => k it (by simp) o q, ne⟩
  item := by
    intro X hP hw hK hcalm i pins s σ H E I hf st hg
    subst hP hw hK
    obtain ⟨⟨old, hc⟩, hit, ne, nea⟩ := st
    obtain ⟨xs, x, hq, hx⟩ := hg
    obtain ⟨its, rv, pt, hz⟩ := I.tuple hq
    obtain ⟨u, hu, ru⟩ := rv.get hx
    have lc : c < s.heap.objs.size := Heap.lt_size hc
    have li : it < s.heap.objs.size := by obtain ⟨_, q, _⟩ := hit; exact Heap.lt_size q
    have lt : i < its.toArray.size := by simpa using (List.getElem?_eq_some_iff.mp hu).1
    refine wpAny_pyNext_enum_itemD (Draws.tuple (A := X.A.in1) (I.ok.hd hcalm) it a hca its.toArray) hc ⟨hit, pt⟩ lt ne (by simp [ne, nea]) fun y h' tk hy ho st' hT hsz hk => ?_
    have ey : y = u := by
      have hy' : its[i]? = some y := by simpa using hy
      exact Option.some.inj (hy'.symm.trans hu)
    subst ey
    refine ⟨_, rfl, wpAny_letOwnedTupleGo_enum (s := { s with heap := h', toks := tk + 1 }) ho fun h2 he2 sb => ?_⟩
    have hT2 := (sb.2 _ (Nat.ne_of_gt lc)).trans hT
    have new : ObjOk X.prog X.w (upd H s.heap.objs.size (.tup [.int (i : Nat), x])) h2 s.heap.objs.size (.tup [.int (i : Nat), x]) :=
      ⟨by show 2 ≤ sizeLine; decide, [.int i tk, y], .cons ⟨_, rfl⟩ (.cons ru .nil), ⟨_, hT2, rfl, _, rfl⟩⟩
    have I1 : Inv X pins σ (upd H s.heap.objs.size (.tup [.int (i : Nat), x])) { s with heap := h2, toks := tk + 1 } :=
      I.turnedNew (ch := [c, it]) (fun b ob hb q => (sb.2 b (fun z => hb (by simp [z]))).trans (hk b ob (fun z => hb (by simp [z])) (fun z => hb (by simp [z])) q)) hf (Nat.le_refl _) new
    refine ⟨.ref s.heap.objs.size, _, I1, rfl, ⟨_, x, rfl, I.hok.fresh (Nat.le_refl _), rfl, fun ys hy => by rw [I.tuple_inj hy hq]; exact hx⟩, ⟨⟨y, ?_⟩, st'.1.at fun o q => (sb.2 it (Ne.symm ne)).trans q, ne, nea⟩, fun b hb => ?_⟩
    · have e1 : ((i + 1 : Nat) : Int) = (i : Int) + 1 := by omega
      rw [e1]; exact he2
    · have lb : b < s.heap.objs.size := by rcases mem2 hb with z | z <;> subst z <;> assumption
      rw [upd_ne (Nat.ne_of_lt lb)]; exact (hf b hb).1
  done := by
    intro X hP hw hK hcalm i pins s σ H E I hf st hg
    subst hP hw hK
    obtain ⟨⟨old, hc⟩, hit, ne, nea⟩ := st
    obtain ⟨xs, hq, hx⟩ := hg
    obtain ⟨its, rv, pt, hz⟩ := I.tuple hq
    obtain ⟨f0, f1, f2, f3, f4, f5⟩ := hf it (by simp)
    have hl := rv.length
    have dn : ∀ (s' : Shared) (Q : Value → Shared → Prop) (E : Value → Shared → Prop), s'.heap.IsTupleIter it a i ∧ s'.heap.IsTuple a its.toArray → (∀ h' x, Heap.ExtBut it s'.heap h' → (∃ o, h'.get? x = some o ∧ o.cls = .type "StopIteration") → E (.ref x) { s' with heap := h' }) →
        wpAny (model X.prog X.w) X.A.in1 (Builtin.SmallTypes.nextOf (.ref it)) Q E s' := fun s' Q E st k => wpAny_nextOf_tuple_end (I.ok.hd hcalm) st.1 st.2 (by simp; omega) k
    have D2 : Draws X.prog X.w X.A.in1 it [it, a] i (fun i v => i < its.toArray.size ∧ its.toArray[i]? = some v) (fun j h => if j < i then False else h.IsTupleIter it a i ∧ h.IsTuple a its.toArray) :=
      ⟨fun j h st => by by_cases q : j < i <;> simp only [q, if_true, if_false] at st; obtain ⟨o, ho, _⟩ := st.1; exact ⟨o, ho⟩,
       fun j h h' st k => by by_cases q : j < i <;> simp only [q, if_true, if_false] at st ⊢; exact ⟨st.1.at fun o e => k it (by simp) o e, st.2.at fun o e => k a (by simp) o e⟩,
       fun j s Q E hj st => by rw [if_pos hj] at st; exact st.elim,
       fun s' Q E st k => by rw [if_neg (Nat.lt_irrefl _)] at st; exact dn s' Q E st k⟩
    exact wpAny_pyNext_enum_endD D2 hc (by show (if i < i then False else _); rw [if_neg (Nat.lt_irrefl _)]; exact ⟨hit, pt⟩) fun h' eb => ⟨rfl, I.turned (t' := s.toks) (fun b o hb q => eb b o hb q) f0 f1 f3 f4 f5⟩
  self := fun A i s Q E ⟨⟨_, hc⟩, _⟩ k => wpAny_pyIter_enum hc k
/-- a list or a tuple -/
def iEnuA (K : PySem.W.Frag) (ta : TA) : TI := fun σ H R => ta σ H fun vs H1 => ∃ a xs, vs = [.ref a] ∧ ((SqL K H1 a xs ∧ R (Ite K a) H1) ∨ (SqT K H1 a xs ∧ R (IteT K a) H1))
theorem pi_enuA {X : Cx} {e : Expr} {ta : TA} {p pos tpos : Pos} {elts : List Expr} {kk : Nat} (hg : Gl X "enumerate") (hm : X.mg "enumerate" = none) (ha : PA X [e] ta) (hs : starEach [e] X.env = [(false, eval e X.env)]) :
    PI X (.Tuple elts kk tpos) (.Call (.Name "enumerate" p) [e] [] pos) (iEnuA X.K ta) := by
  refine ⟨fun pins s σ H R I h => ?_⟩
  refine Call_ (ld_blt I hg hm boot_enumerate (callWith_type1 (thn (ha.run pos pins s σ H _ I h) fun us s1 ⟨vs, H1, I1, r1, q1⟩ => ?_) hs rfl))
  obtain ⟨a, xs, rfl, q⟩ := q1
  cases r1 with
  | cons r rr =>
    cases rr
    cases r
    have fp : ∀ b ∈ [s1.heap.objs.size + 1, s1.heap.objs.size], ∀ h' : Heap, FpOk X pins H1 b := fun b hb _ => by
      have hle : s1.heap.objs.size ≤ b := by rcases mem2 hb with z | z <;> rw [z] <;> first | exact Nat.le_succ _ | exact Nat.le_refl _
      exact I1.fpOk hle (I1.hok.fresh hle)
    rcases q with ⟨hq, q⟩ | ⟨hq, q⟩
    · obtain ⟨its, rv, pl, hz⟩ := I1.list hq
      refine call_enumerate_list pl.isList fun h' he hit hsz hk => wpAny_pyIter_enum he ?_
      exact ⟨_, _, _, _, H1, rfl, I1.kept (t' := s1.toks) hk, turn_enum a (s1.heap.objs.size + 1) s1.heap.objs.size, ⟨⟨.none, he⟩, hit, Nat.succ_ne_self _⟩, fun b hb => fp b hb h', q⟩
    · obtain ⟨its, rv, pt, hz⟩ := I1.tuple hq
      have la : a < s1.heap.objs.size := by obtain ⟨o, q, _⟩ := pt; exact Heap.lt_size q
      refine enu1_made (begins_tuple a its.toArray) pt fun h' he hit hk => wpAny_pyIter_enum he ?_
      exact ⟨_, _, _, _, H1, rfl, I1.kept (t' := s1.toks) hk, turn_enuT a (s1.heap.objs.size + 1) s1.heap.objs.size (Nat.ne_of_lt la), ⟨⟨.none, he⟩, ⟨_, hit, rfl, rfl⟩, Nat.succ_ne_self _, Nat.ne_of_gt (Nat.lt_succ_of_lt la)⟩, fun b hb => fp b hb h', q⟩
end Fw

set_option Elab.async false
set_option linter.all false
set_option maxRecDepth 100000
set_option maxHeartbeats 1000000
/-! Fw, part U: a caught exception that is kept behind the suite; isinstance of an exception held. -/
namespace Fw
open PySem PySem.Spec PyProof.Rows L2
/-- of an exception at a nothing but its class is known -/
def ExAt (D a : Addr) (h : Heap) : Prop := ∃ oe : Obj, h.get? a = some oe ∧ Zc (.ref D) none oe ∧ ∃ vs, oe.data = .fields vs
def ExK (D a : Addr) : HO := .ext (ExAt D a)
theorem exK_ok {P : Program} {w : World} {H : Hp} {h : Heap} {D a : Addr} (x : ExAt D a h) : ObjOk P w H h a (ExK D a) := by
  refine ⟨x, ?_, ?_⟩
  · obtain ⟨oe, e, _⟩ := x
    exact ⟨oe, e⟩
  · rintro h1 h2 ⟨oe, e, z⟩ k
    exact ⟨oe, k oe e, z⟩
section
variable {X : Cx} {pins : List (Addr × Obj)} {σ : L2.St} {H : Hp} {s : Shared}
/-- a pinned exception, tracked from here on -/
theorem track {D a : Addr} {oe : Obj} (I : L2.Inv X ((a, oe) :: pins) σ H s) (hz : Zc (.ref D) none oe) (hd : ∃ vs, oe.data = .fields vs)
    (n0 : X.s_0.heap.get? a = none) (np : ∀ p ∈ X.pn ++ pins, p.1 ≠ a) : L2.Inv X pins σ (upd H a (ExK D a)) s := by
  have pa := I.pin (a, oe) (List.mem_append_right _ List.mem_cons_self)
  have ga : s.heap.get? a = some oe := pa.1
  have na : H a = none := pa.2.1
  have nl : a ≠ X.env.locals := pa.2.2.1
  have nc : ∀ v, oe.data ≠ .cell v := pa.2.2.2.2
  have ne : ∀ {b : Addr} {u : HO}, H b = some u → b ≠ a := fun q z => by rw [z, na] at q; cases q
  have b0 := I.base
  refine ⟨I.ok, I.os, I.bare, ?base, I.loc, I.cell, ?free, ?freeC, ?pin, ?hok, I.len⟩
  case base =>
    refine ⟨b0.keep, b0.slot, ?_, b0.there, ?_, ?_, ?_⟩
    · intro b o q n hx
      rw [upd_ne fun z => by rw [z, n0] at q; cases q]
      exact b0.free b o q n hx
    · intro b xs q
      have q2 := b0.tups b xs q
      rw [upd_ne (ne q2)]; exact q2
    · intro b o u q
      have q2 := b0.frzs b o u q
      rw [upd_ne (ne q2)]; exact q2
    · intro b ps q
      obtain ⟨m, q2⟩ := b0.tbls b ps q
      exact ⟨m, by rw [upd_ne (ne q2)]; exact q2⟩
  case free => rw [upd_ne (Ne.symm nl)]; exact I.free
  case freeC =>
    intro x c q
    obtain ⟨v, o, q2, q3⟩ := I.cell x c q
    rw [upd_ne fun z => ?_]
    · exact I.freeC x c q
    · rw [z, ga] at q2
      cases q2
      exact nc v q3
  case pin =>
    intro p hp
    obtain ⟨q1, q2, q3⟩ := I.pin p (by
      rcases List.mem_append.mp hp with z | z
      · exact List.mem_append_left _ z
      · exact List.mem_append_right _ (List.mem_cons_of_mem _ z))
    exact ⟨q1, by rw [upd_ne (np p hp)]; exact q2, q3⟩
  case hok =>
    intro b u q
    by_cases hb : b = a
    · subst hb
      rw [upd_same] at q
      cases q
      exact exK_ok ⟨oe, ga, hz, hd⟩
    · rw [upd_ne hb] at q
      refine (I.hok b u q).stay (fun _ _ _ z => z) (fun c z => ?_) fun c xs z => ?_
      · rw [upd_ne (ne z)]; exact z
      · rw [upd_ne (ne z)]; exact z
end
/-- what an except clause wishes whose suite keeps the exception -/
def wKeep (K : PySem.W.Frag) (c : Value) (i : Nat) (ts : Addr → L2.TS) (Wout : WX) (D : Ends) : WX := fun cls d σ H =>
  ∃ b, PySem.W.exmOne K cls c = some b ∧ (b = false → Wout cls d σ H) ∧
    (b = true → ∃ C, cls = .ref C ∧ d = none ∧ ∀ a, H a = none → ts a { nx := fun σ' H' => H' a = none → D.nx (σ'.set i none) (upd H' a (ExK C a)), rt := fun _ _ => False, bk := fun _ _ => False, ct := fun _ _ => False } (σ.set i (some (.ref a))) H)
section
variable {X : Cx} {x n : Str} {c : Value} {i : Nat} {body suite : List Stmt} {b₀ : Stmt} {np pos pos' : Pos} {tb : WX → L2.TS} {ts : Addr → L2.TS} {Wout : WX}
theorem ps_try_keep (hs : X.stack = X.env :: X.outer) (hf : X.env.frame = some X.env.locals) (hex : X.ex = []) (hN : X.N.Nodup) (hi : X.N[i]? = some n) (hln : X.env.kindOf n = some .local) (hc : Names X x c) (tk : Takes X Wout)
    (hb : ∀ (W : WX) (pn : List (Addr × Obj)) (xe : Value → Shared → Prop), Takes (X.tr pn xe) W → PassesOwn (model X.prog X.w) X.A X.env xe → PSs (X.tr pn xe) body (tb W))
    (hsu : ∀ (a : Addr) (pn : List (Addr × Obj)), PSs (X.suite a pn) (b₀ :: suite) (ts a)) :
    PS X (.Try body [.ExceptHandler (some (.Name x np)) (some n) (b₀ :: suite) pos'] [] [] pos) (fun D σ H => tb (wKeep X.K c i ts Wout D) D σ H) := by
  constructor
  intro pins s σ H D I h
  have ok := I.ok
  have hfr : X.A.frames = some (X.env :: X.outer) := by rw [ok.frames, hs]
  let hd₁ : ExceptHandler := .ExceptHandler (some (.Name x np)) (some n) (b₀ :: suite) pos'
  let M := model X.prog X.w
  let xe : Value → Shared → Prop := fun e t1 => wpAny M X.A (noteFrame e X.env) (fun _ t2 => wpAny M X.A (setFlight e none) (fun _ t3 => wpAny M X.A (handleBy e X.env [hd₁]) (SP X pins D) X.xe t3) X.xe t2) X.xe t1
  have takes : Takes (X.tr (X.pn ++ pins) xe) (wKeep X.K c i ts Wout D) := by
    rintro u s' ⟨a, B, sI, pins', σ', H', cls, d, rfl, J', nb, up, sky, na, os, ag, b, hb1, hno, hyes⟩
    have J : L2.Inv X pins σ' H' sI := J'.ofTry ok
    have sky' : Sky B (X.env :: X.outer) a (Zc cls d) X.env.locals s'.heap := by rw [← hs]; exact sky
    show wpAny M X.A (noteFrame (.ref a) X.env) _ _ _
    refine Sky.land Zc.steady hfr hf sky' fun h3 fl3 up3 => ?_
    have J3 : L2.Inv X pins σ' H' { s' with heap := h3 } := J.landed nb fl3.1 (up.trans up3) os ag
    obtain ⟨o3, v3, e3, z3, d3⟩ := fl3.there
    have nfr : a ∉ frs (X.env :: X.outer) := fun hm => by
      obtain ⟨_, o', e', hnf⟩ := fl3.2.2.1.mem hm
      rw [e3] at e'; cases e'
      exact hnf _ d3
    have nL : a ≠ X.env.locals := fun z => nfr (List.mem_filterMap.mpr ⟨X.env, List.mem_cons_self, by rw [hf, z]⟩)
    have nF : a ∉ X.fs := fun hm => by
      obtain ⟨e, he, q⟩ := List.mem_filterMap.mp hm
      exact nfr (List.mem_filterMap.mpr ⟨e, List.mem_cons_of_mem _ he, q⟩)
    -- it is none of what was there
    have nI : sI.heap.get? a = none := by
      cases q : sI.heap.get? a with
      | none => rfl
      | some o =>
        have z := nb a o q (by rw [hs]; exact nfr)
        rw [fl3.2.1] at z; cases z
    have n0 : X.s_0.heap.get? a = none := by
      cases q : X.s_0.heap.get? a with
      | none => rfl
      | some o =>
        obtain ⟨o', z⟩ := J.base.there a o q (by rw [hex]; exact fun z => nomatch z)
        rw [nI] at z; cases z
    have npn : ∀ p ∈ X.pn ++ pins, p.1 ≠ a := fun p hp z => by
      have q := (J.pin p hp).1
      rw [z, nI] at q; cases q
    have S3 := J3.suite e3 d3 na nL nF
    refine wpAny_handleBy_cons (codeAny_handlers_test ?_) (by intro q; cases q)
    have LT : PySem.W.Looks M h3 (typeOf (.ref a)) cls := fun A Q E s k q => wpAny_typeOf_ref (k _ _ e3) (by rw [z3.1]; exact q)
    have LM := PySem.W.exm_one (M := M) J3.kIn LT hb1
    have test : ∀ {Q E : Value → Shared → Prop}, Q c { s' with heap := h3 } → wpAny M (X.A.mark (some (.ref a))) (eval (.Name x np) X.env) Q E { s' with heap := h3 } := fun {Q E} q => by
      obtain ⟨hg, hdbg, hm | ⟨hm, hv, hnn⟩⟩ := hc
      · exact ld_glob (X := X.suite a ((a, o3) :: (X.pn ++ pins))) S3 hg hm q hdbg
      · exact ld_blt (X := X.suite a ((a, o3) :: (X.pn ++ pins))) S3 hg hm hv q hnn hdbg
    refine test (LM.here ?_)
    cases b with
    | true =>
      obtain ⟨Ca, ec, ed, go⟩ := hyes rfl
      refine codeAny_handlers_suite_as ?_
      refine HandSPX.lands_againZ fl3 fun h4 fl4 up4 => ?_
      have J4 : L2.Inv X pins σ' H' { s' with heap := h4 } := J.landed nb fl4.1 ((up.trans up3).trans up4) os ag
      obtain ⟨o4, v4, e4, z4, d4⟩ := fl4.there
      have S4 := J4.suite e4 d4 na nL nF
      refine store_ok (X := X.suite a ((a, o4) :: (X.pn ++ pins))) (v := .ref a) S4 hN hi (.inl hln) rfl (fun s5 S5 => ?_) (.inr hln)
      refine wpAny_mono ((hsu a ((a, o4) :: (X.pn ++ pins))).run [] s5 _ H' _ S5 (go a na)) (fun f s6 hsp => ?_) fun _ _ z => False.elim z
      cases f with
      | next =>
        obtain ⟨σ6, H6, S6, q6⟩ := hsp
        have I6 : L2.Inv X ((a, o4) :: pins) σ6 H6 s6 := by
          refine ⟨ok, S6.os, S6.bare, S6.base, S6.loc, S6.cell, S6.free, S6.freeC, fun p hp => S6.pin p ?_, S6.hok, S6.len⟩
          refine List.mem_append_left _ ?_
          rcases List.mem_append.mp hp with z | z
          · exact List.mem_cons_of_mem _ (List.mem_append_left _ z)
          · rcases List.mem_cons.mp z with z | z
            · rw [z]; exact List.mem_cons_self
            · exact List.mem_cons_of_mem _ (List.mem_append_right _ z)
        refine gone_ok I6 hN hi hln fun s7 I7 => ?_
        have na7 := (I7.pin (a, o4) (List.mem_append_right _ List.mem_cons_self)).2.1
        subst ec; subst ed
        exact ⟨_, _, track I7 z4 ⟨_, d4⟩ n0 npn, q6 na7⟩
      | brk => obtain ⟨_, _, _, q6⟩ := hsp; exact q6.elim
      | cont => obtain ⟨_, _, _, q6⟩ := hsp; exact q6.elim
      | ret u => obtain ⟨_, _, _, _, _, q6⟩ := hsp; exact q6.elim
    | false =>
      show wpAny M X.A (handleBy (.ref a) X.env []) _ _ _
      refine wpAny_handleBy_nil ?_
      obtain ⟨k1, k2, k3, oe, vs, T, oT, ts', he, hz, hd, h1, hr⟩ := id fl3
      unfold PySem.passOn
      refine wpAny_bind (wpAny_field he hd h1 ?_)
      rw [if_neg (by simp : ¬ ((Value.ref T == Value.none) = true))]
      have up_ : wpAny M X.A (setFlight (.ref a) X.env.frame) (fun _ t4 => wpAny M X.A (throw (.ref a) : Sem Flow) (SP X pins D) X.xe t4) X.xe { s' with heap := h3 } := by
        rw [hf]
        refine HandSPX.setFlight_upZ fl3 fun h4 hh4 up4 => wpAny_throw (tk _ _ ?_)
        exact ⟨a, B, sI, pins, σ', H', cls, d, rfl, J, nb, (up.trans up3).trans up4, .inr (.inr (by rw [hs]; exact hh4)), na, os, ag, hno rfl⟩
      first | exact wpAny_bind up_ | exact wpAny_bind (wpAny_pure (wpAny_bind up_))
  refine wpAny_Try_except (wpAny_mono ((hb _ _ _ takes PassesOwn.looking).run [] s σ H D (I.toTry _) h) (fun f s1 hsp => ?_) fun _ _ he => he)
  cases f with
  | next =>
    obtain ⟨σ', H', J', q⟩ := hsp
    exact wpAny_execs_nil ⟨σ', H', J'.ofTry ok, q⟩
  | brk => obtain ⟨σ', H', J', q⟩ := hsp; exact ⟨σ', H', J'.ofTry ok, q⟩
  | cont => obtain ⟨σ', H', J', q⟩ := hsp; exact ⟨σ', H', J'.ofTry ok, q⟩
  | ret u => obtain ⟨v, σ', H', J', r, q⟩ := hsp; exact ⟨v, σ', H', J'.ofTry ok, r, q⟩
end
/-- isinstance(e, c), e an exception held -/
def rIsX (K : PySem.W.Frag) : List V → Hp → VK → Prop := fun xs H Q => ∃ (a D : Addr) (φ : Heap → Prop) (c : V) (cv : Value) (b : Bool), xs = [.ref a, c] ∧ H a = some (.ext φ) ∧ (∀ h, φ h → ExAt D a h) ∧ ExcC K D ∧ (∀ u, RelV c u → u = cv) ∧ PySem.W.kitOne K (.ref D) cv = some b ∧ Q (.bl b) H
theorem call_isX {X : Cx} : CallR X (.builtin "isinstance") (rIsX X.K) := by
  intro pins s σ H xs us Q I r h
  obtain ⟨a, D, φ, c, cv, b, rfl, ha, hφ, C, hcv, e, q⟩ := h
  cases r with
  | cons rx rr =>
    cases rr with
    | cons rt rr =>
      cases rr
      cases rx
      have ec := hcv _ rt
      subst ec
      obtain ⟨⟨oc, od, oda, osl⟩, hget, ⟨h1, h2⟩, vs, hv⟩ := hφ _ (I.hok a _ ha).1
      dsimp only at h1 h2 hv
      subst h1; subst h2; subst hv
      have J : PySem.W.InstAt s.heap a _ D none := ⟨hget, rfl, rfl, trivial⟩
      refine PySem.W.kia_one (PySem.W.handS_kitx_exc C.hg C.hk C.hs C.hd C.ha C.hn C.ht C.hm) I.kIn J e (fun z => nomatch z) fun tk => ?_
      exact ⟨.bl b, H, I.kept (t' := tk) fun _ _ z => z, rfl, q⟩
end Fw

set_option Elab.async false
set_option linter.all false
set_option maxRecDepth 100000
set_option maxHeartbeats 1000000
/-! Fw, part U2: a tuple turned round; == of a tuple and the empty one. -/
namespace Fw
open PySem PySem.Spec PyProof.Rows L2 HT
theorem back_pick (xs : Array Value) : ((List.range xs.size).filterMap fun (m : Nat) => xs[(((xs.size : Int) - 1) + (m : Int) * (-1)).toNat]?).toArray = xs.toList.reverse.toArray := by
  congr 1
  have e : ∀ m, m < xs.size → xs[(((xs.size : Int) - 1) + (m : Int) * (-1)).toNat]? = xs.toList.reverse[m]? := fun m hm => by
    have q : (((xs.size : Int) - 1) + (m : Int) * (-1)).toNat = xs.size - 1 - m := by omega
    rw [q, List.getElem?_reverse (by simpa using hm), ← Array.getElem?_toList, Array.length_toList]
  have g : ∀ (n : Nat), n ≤ xs.size → ((List.range n).filterMap fun (m : Nat) => xs[(((xs.size : Int) - 1) + (m : Int) * (-1)).toNat]?) = xs.toList.reverse.take n := by
    intro n
    induction n with
    | zero => intro _; rfl
    | succ n ih =>
      intro hn
      rw [List.range_succ, List.filterMap_append, ih (by omega), List.take_add_one]
      congr 1
      rw [List.filterMap_cons, List.filterMap_nil, e n (by omega)]
      cases xs.toList.reverse[n]? <;> rfl
  rw [g xs.size (Nat.le_refl _), List.take_of_length_le (by simp)]
section
variable {prog : Program} {w : World} {A : Around} {E : Value → Shared → Prop} {s : Shared}
theorem back_parts {sl : Addr} {vl vu vs : Value} {n : Nat} {Q : Int × Int × Nat → Shared → Prop} (hs : s.heap.IsSliceOf sl vl vu vs) (pl : IsPart vl none) (pu : IsPart vu none) (ps : IsPart vs (some (-1)))
    (h : Q ((n : Int) - 1, -1, n) s) : wpAny (model prog w) A (Builtin.Slice.sliceApplied (.ref sl) (pure (n : Int))) Q E s := by
  obtain ⟨os, hos, _, hds⟩ := id hs
  cases pl; cases pu
  cases ps with
  | int i t =>
  unfold Builtin.Slice.sliceApplied Builtin.Slice.sliceFields
  refine wpAny_bind (wpAny_bind (wpAny_field hos hds (x := .none) rfl (wpAny_bind ?_)))
  refine wpAny_field hos hds (x := .none) rfl (wpAny_bind (wpAny_field hos hds (x := .int (-1) t) rfl (wpAny_pure ?_)))
  refine wpAny_bind (slicePart_int ?_)
  show wpAny _ _ (if ((-1 : Int) == 0) = true then _ else _) _ _ s
  rw [if_neg (by decide)]
  refine wpAny_bind (slicePart_none (wpAny_bind (slicePart_none (wpAny_bind (wpAny_pure ?_)))))
  have ea : Builtin.Slice.sliceAdjust none none (-1) (n : Int) = ((n : Int) - 1, -1) := rfl
  have ep : Builtin.Slice.slicePlaces ((n : Int) - 1) (-1) (-1) = n := by
    unfold Builtin.Slice.slicePlaces
    rw [if_neg (by decide)]
    by_cases q : n = 0
    · subst q; rfl
    · rw [if_pos (by omega)]
      have : ((n : Int) - 1 - -1 - 1) / (- -1) + 1 = n := by
        rw [show (- -1 : Int) = 1 by rfl, Int.ediv_one]; omega
      rw [this]; rfl
  show wpAny _ _ (match Builtin.Slice.sliceAdjust none none (-1) (n : Int) with | (lo, hi) => pure (lo, (-1 : Int), Builtin.Slice.slicePlaces lo hi (-1))) _ _ s
  rw [ea]
  show wpAny _ _ (pure ((n : Int) - 1, (-1 : Int), Builtin.Slice.slicePlaces ((n : Int) - 1) (-1) (-1))) _ _ s
  rw [ep]
  exact wpAny_pure h
theorem tuple_back {t sl : Addr} {items : Array Value} {vl vu vs : Value} {Q : Value → Shared → Prop} (ht : IsTup s.heap t items) (hs : s.heap.IsSliceOf sl vl vu vs) (pl : IsPart vl none) (pu : IsPart vu none) (ps : IsPart vs (some (-1)))
    (h : Q (.ref s.heap.objs.size) { s with heap := s.heap.push { cls := .type "tuple", data := .seq items.toList.reverse.toArray } }) (hsz : items.size ≤ sizeLine) : wpAny (model prog w) A (getItem (.ref t) (.ref sl)) Q E s := by
  have ok : sizeOk (.seq items.toList.reverse.toArray) := by
    show items.toList.reverse.toArray.size ≤ sizeLine
    simpa using hsz
  obtain ⟨os, hos, hcs, _⟩ := id hs
  unfold getItem
  try with_reducible refine wpAny_holding ?_
  first | refine wpAny_bind (wpAny_pure ?_) | skip
  have T := ht.typeIs (s := s)
  refine wpAny_bind (wpAny_sequenceKey T (by decide) (wpAny_bind ?_))
  refine wpAny_callSpecial?_slot (name := Str.ofString "__getitem__") T PyProof.Rows.slot_tuple_getitem (wpAny_call_entry PyProof.Rows.slot_tuple_getitem T entry_tuple_getitem ?_ (args_tuple_getitem _ _))
  show wpAny _ _ (Builtin.Tuple.tupleItemsOf (.ref t) >>= _) _ _ s
  refine wpAny_bind (tupleItemsOf_ ht (wpAny_bind (wpAny_typeOf (T := "slice") ⟨os, hos, hcs⟩ ?_)))
  rw [if_pos (by decide)]
  refine wpAny_bind (back_parts hs pl pu ps ?_)
  have no : ¬ ((((items.size : Int) - 1) == 0 && (-1 : Int) == 1 && items.size == items.size) = true) := by
    rw [show ((-1 : Int) == 1) = false from rfl, Bool.and_false, Bool.false_and]
    exact Bool.false_ne_true
  show wpAny _ _ (if (((items.size : Int) - 1) == 0 && (-1 : Int) == 1 && items.size == items.size) = true then _ else _) _ _ s
  rw [if_neg no, back_pick]
  first
    | exact wpAny_bind (m := Builtin.Tuple.tupleExact _) (wpAny_newObj_type (wpAny_pure ⟨_, rfl, wpAny_pure h⟩) ok)
    | exact wpAny_bind (m := Builtin.Tuple.tupleExact _) (wpAny_newObj_type (wpAny_bind (wpAny_pure (wpAny_pure ⟨_, rfl, wpAny_pure h⟩))) ok)
    | exact wpAny_bind (wpAny_bind (m := Builtin.Tuple.tupleExact _) (wpAny_newObj_type (wpAny_pure (wpAny_pure ⟨_, rfl, wpAny_pure h⟩)) ok))
end
section
variable {X : Cx} {e : Expr} {te : L2.TE} {k : Nat} {p1 p2 p3 pos : Pos}
def tRevT (K : PySem.W.Frag) (te : L2.TE) : L2.TE := fun σ H Q => te σ H fun x H1 => ∃ a xs, x = .ref a ∧ SqT K H1 a xs ∧ ∀ p, H1 p = none → Q (.ref p) (upd H1 p (.tup xs.reverse))
/-- t[::-1] of a tuple -/
theorem pe_revT (he : PE X e te) : PE X (.Subscript e (.Slice none none (some (.UnaryOp .USub (.Constant (.int 1) k p1) p2)) p3) pos) (tRevT X.K te) := by
  constructor
  intro pins s σ H Q I h
  refine Subscript_ (thn (he.run pins s σ H _ I h) ?_)
  rintro v s1 ⟨x, H1, I1, r1, a, xs, rfl, hx, q⟩
  cases r1
  have back : PO X (some (.UnaryOp .USub (.Constant (.int 1) k p1) p2)) (tPart (tUn (rU fun i => .int (-i)) (tC (.int 1)))) := po_some (pe_un un_neg pe_int)
  refine wpAny_Slice (thn (po_none.run pins s1 σ H1 (fun o H2 => o = none ∧ H2 = H1) I1 ⟨rfl, rfl⟩) ?_)
  rintro vl s2 ⟨l, H2, I2, pl, rfl, rfl⟩
  refine thn (po_none.run pins s2 σ H2 (fun o H3 => o = none ∧ H3 = H2) I2 ⟨rfl, rfl⟩) ?_
  rintro vu s3 ⟨u, H3, I3, pu, rfl, rfl⟩
  refine thn (back.run pins s3 σ H3 (fun o H4 => o = some (-1) ∧ H4 = H3) I3 ⟨1, rfl, -1, rfl, rfl, rfl⟩) ?_
  rintro vs s4 ⟨o, H4, I4, ps, rfl, rfl⟩
  let sl : Obj := { cls := .type "slice", data := .fields #[vl, vu, vs] }
  have I5 : L2.Inv X pins σ H4 { s4 with heap := s4.heap.push sl } := I4.kept (t' := s4.toks) fun b ob q => Heap.get?_push_of_some _ q
  obtain ⟨its, r, ht, hz⟩ := I5.tuple hx
  have hl := r.length
  show wpAny (model X.prog X.w) X.A (subscriptTail e (.Slice none none (some (.UnaryOp .USub (.Constant (.int 1) k p1) p2)) p3) (.ref a) (.ref s4.heap.objs.size)) (EP X pins σ Q) X.xe { s4 with heap := s4.heap.push sl }
  refine tail_any (ops := [.ref a, .ref s4.heap.objs.size]) ht.typeIs PyProof.Rows.slot_tuple_getitem.lookup ?_ (by with_unfolding_all rfl)
  refine tuple_back ht (Heap.IsSliceOf.new _ vl vu vs) pl pu ps ?_ (by rw [List.size_toArray]; omega)
  refine ⟨.ref _, _, I5.laid (t' := s4.toks) (o := .tup xs.reverse) (fun b ob q => Heap.get?_push_of_some _ q) (Nat.le_refl _) ?_, rfl, q _ (I5.hok.fresh (Nat.le_refl _))⟩
  exact ⟨by rw [List.length_reverse]; exact hz, its.reverse, r.reverse, ⟨_, Heap.get?_push_size _ rfl, rfl, 0, by simp⟩⟩
/-- t == () -/
def rEqE (K : PySem.W.Frag) : R2 := fun x y H Q => ∃ a b xs, x = .ref a ∧ y = .ref b ∧ SqT K H a xs ∧ SqT K H b [] ∧ Q (.bl xs.isEmpty) H
theorem op_eqE (hu : X.A.units + 64 < cLine) : OpR X (compareOp .Eq) (rEqE X.K) := by
  intro pins s σ H x y v u Q I rx ry h
  obtain ⟨a, b, xs, rfl, rfl, ha, hb, q⟩ := h
  cases rx
  cases ry
  obtain ⟨its, r, ht, _⟩ := I.tuple ha
  obtain ⟨its2, r2, ht2, _⟩ := I.tuple hb
  cases r2
  refine SeqAt.rcIn_tuples (e := fun _ => true) ht ht2 (by omega) (fun j h1 h2 => absurd h2 (by simp)) ?_
  have e : ((List.range (min its.toArray.size ([] : List Value).toArray.size)).all (fun _ => true) && its.toArray.size == ([] : List Value).toArray.size) = xs.isEmpty := by
    have hl := r.length
    cases xs with
    | nil => cases r; rfl
    | cons x xs => cases r; simp
  rw [e]
  exact ⟨.bl xs.isEmpty, H, I, rfl, q⟩
end
end Fw

set_option Elab.async false
set_option linter.all false
set_option maxRecDepth 100000
/-! Fw, part A: the evaluator's values, its heap, its combinators. -/
namespace Fw
open PySem

/-- a value: plain data, or a place of the evaluator's heap -/
inductive W where
  | non | bl (b : Bool) | int (i : Int) | str (s : Str) | tup (ws : List W) | loc (n : Nat) | ro (ws : List W)

abbrev Key := Sum Int Str
/-- what stands at a place -/
inductive Cell where
  | lst (ws : List W)
  | dk (kvs : List (Key × W))
  | dz (kvs : List (Key × W))
  | ins (c : Nat) (fs : List (Str × W))
  | err (c : Nat)

/-- a tree of cells by places -/
inductive BT where
  | nil | node (v : Option Cell) (l r : BT)
def BT.get : Nat → BT → Nat → Option Cell
  | 0, _, _ => none
  | _ + 1, .nil, _ => none
  | f + 1, .node v l r, i => match Nat.beq i 0 with
    | true => v
    | false => match Nat.beq (i % 2) 1 with
      | true => BT.get f l (i / 2)
      | false => BT.get f r (i / 2 - 1)
def BT.put : Nat → BT → Nat → Cell → BT
  | 0, t, _, _ => t
  | f + 1, .nil, i, c => match Nat.beq i 0 with
    | true => .node (some c) .nil .nil
    | false => match Nat.beq (i % 2) 1 with
      | true => .node none (BT.put f .nil (i / 2) c) .nil
      | false => .node none .nil (BT.put f .nil (i / 2 - 1) c)
  | f + 1, .node v l r, i, c => match Nat.beq i 0 with
    | true => .node (some c) l r
    | false => match Nat.beq (i % 2) 1 with
      | true => .node v (BT.put f l (i / 2) c) r
      | false => .node v l (BT.put f r (i / 2 - 1) c)
theorem BT.get_nil : ∀ (f i : Nat), BT.get f .nil i = none
  | 0, _ => rfl
  | _ + 1, _ => rfl
theorem BT.get_put : ∀ (f g : Nat) (t : BT) (i j : Nat) (c : Cell), i < f → j < g → BT.get g (BT.put f t i c) j = if j = i then some c else BT.get g t j
  | 0, _, _, _, _, _, h, _ => by omega
  | _ + 1, 0, _, _, _, _, _, h => by omega
  | f + 1, g + 1, t, i, j, c, hi, hj => by
    cases ei : Nat.beq i 0 with
    | true =>
      have e0 : i = 0 := Nat.eq_of_beq_eq_true ei
      subst e0
      cases ej : Nat.beq j 0 with
      | true =>
        have e0 : j = 0 := Nat.eq_of_beq_eq_true ej
        subst e0
        cases t <;> simp [BT.put, BT.get]
      | false =>
        have hj0 : j ≠ 0 := Nat.ne_of_beq_eq_false ej
        cases t with
        | nil =>
          simp only [BT.put, BT.get, ei, ej, if_neg hj0]
          cases Nat.beq (j % 2) 1 <;> simp [BT.get_nil]
        | node v l r => simp only [BT.put, BT.get, ei, ej, if_neg hj0]
    | false =>
      have hi0 : i ≠ 0 := Nat.ne_of_beq_eq_false ei
      cases ej : Nat.beq j 0 with
      | true =>
        have e0 : j = 0 := Nat.eq_of_beq_eq_true ej
        subst e0
        rw [if_neg (fun h => hi0 h.symm)]
        cases t with
        | nil =>
          simp only [BT.put, ei]
          cases Nat.beq (i % 2) 1 <;> rfl
        | node v l r =>
          simp only [BT.put, ei]
          cases Nat.beq (i % 2) 1 <;> rfl
      | false =>
        have hj0 : j ≠ 0 := Nat.ne_of_beq_eq_false ej
        cases oi : Nat.beq (i % 2) 1 with
        | true =>
          have o1 : i % 2 = 1 := Nat.eq_of_beq_eq_true oi
          cases oj : Nat.beq (j % 2) 1 with
          | true =>
            have o2 : j % 2 = 1 := Nat.eq_of_beq_eq_true oj
            have ih := fun t => BT.get_put f g t (i / 2) (j / 2) c (by omega) (by omega)
            have eq : (j = i) ↔ (j / 2 = i / 2) := by omega
            cases t with
            | nil => simp only [BT.put, BT.get, ei, ej, oi, oj, ih, eq, BT.get_nil]
            | node v l r => simp only [BT.put, BT.get, ei, ej, oi, oj, ih, eq]
          | false =>
            have o2 : j % 2 ≠ 1 := Nat.ne_of_beq_eq_false oj
            rw [if_neg (by omega)]
            cases t with
            | nil => simp only [BT.put, BT.get, ei, ej, oi, oj, BT.get_nil]
            | node v l r => simp only [BT.put, BT.get, ei, ej, oi, oj]
        | false =>
          have o1 : i % 2 ≠ 1 := Nat.ne_of_beq_eq_false oi
          cases oj : Nat.beq (j % 2) 1 with
          | true =>
            have o2 : j % 2 = 1 := Nat.eq_of_beq_eq_true oj
            rw [if_neg (by omega)]
            cases t with
            | nil => simp only [BT.put, BT.get, ei, ej, oi, oj, BT.get_nil]
            | node v l r => simp only [BT.put, BT.get, ei, ej, oi, oj]
          | false =>
            have o2 : j % 2 ≠ 1 := Nat.ne_of_beq_eq_false oj
            have ih := fun t => BT.get_put f g t (i / 2 - 1) (j / 2 - 1) c (by omega) (by omega)
            have eq : (j = i) ↔ (j / 2 - 1 = i / 2 - 1) := by omega
            cases t with
            | nil => simp only [BT.put, BT.get, ei, ej, oi, oj, ih, eq, BT.get_nil]
            | node v l r => simp only [BT.put, BT.get, ei, ej, oi, oj, ih, eq]

/-- the evaluator's heap -/
structure IH where
  n : Nat
  t : BT
def IH.get (h : IH) (i : Nat) : Option Cell := match Nat.blt i h.n with
  | true => BT.get (i + 1) h.t i
  | false => none
def IH.set (h : IH) (i : Nat) (c : Cell) : IH := ⟨h.n, BT.put (i + 1) h.t i c⟩
def IH.new (h : IH) (c : Cell) : IH := ⟨h.n + 1, BT.put (h.n + 1) h.t h.n c⟩
theorem IH.get_lt {h : IH} {i : Nat} {c : Cell} (e : h.get i = some c) : i < h.n := by
  unfold IH.get at e
  cases q : Nat.blt i h.n with
  | true => exact Nat.le_of_ble_eq_true q
  | false => rw [q] at e; cases e
theorem blt_of {i n : Nat} (h : i < n) : Nat.blt i n = true := Nat.ble_eq_true_of_le h
theorem blt_of_not {i n : Nat} (h : ¬ i < n) : Nat.blt i n = false := by
  cases q : Nat.blt i n with
  | false => rfl
  | true => exact absurd (Nat.le_of_ble_eq_true q) h
theorem BT.get_mono : ∀ (f g : Nat) (t : BT) (i : Nat), i < f → i < g → BT.get f t i = BT.get g t i
  | 0, _, _, _, h, _ => by omega
  | _ + 1, 0, _, _, _, h => by omega
  | f + 1, g + 1, .nil, i, _, _ => rfl
  | f + 1, g + 1, .node v l r, i, h1, h2 => by
    simp only [BT.get]
    cases ei : Nat.beq i 0 with
    | true => rfl
    | false =>
      have hi0 : i ≠ 0 := Nat.ne_of_beq_eq_false ei
      cases Nat.beq (i % 2) 1 with
      | true => exact BT.get_mono f g l (i / 2) (by omega) (by omega)
      | false => exact BT.get_mono f g r (i / 2 - 1) (by omega) (by omega)
@[simp] theorem IH.n_new (h : IH) (c : Cell) : (h.new c).n = h.n + 1 := rfl
@[simp] theorem IH.n_set (h : IH) (i : Nat) (c : Cell) : (h.set i c).n = h.n := rfl
theorem IH.get_new (h : IH) (c : Cell) (i : Nat) : (h.new c).get i = if i = h.n then some c else h.get i := by
  unfold IH.get IH.new
  dsimp only
  by_cases e : i = h.n
  · subst e
    rw [if_pos rfl, blt_of (Nat.lt_succ_self _), BT.get_put _ _ _ _ _ _ (Nat.lt_succ_self _) (Nat.lt_succ_self _), if_pos rfl]
  · rw [if_neg e]
    by_cases q : i < h.n
    · rw [blt_of q, blt_of (Nat.lt_succ_of_lt q), BT.get_put _ _ _ _ _ _ (Nat.lt_succ_self _) (Nat.lt_succ_self _), if_neg e]
    · rw [blt_of_not q, blt_of_not (by omega)]
theorem IH.get_set (h : IH) (c : Cell) (i j : Nat) (hj : j < h.n) : (h.set j c).get i = if i = j then some c else h.get i := by
  unfold IH.get IH.set
  dsimp only
  by_cases q : i < h.n
  · rw [blt_of q, BT.get_put _ _ _ _ _ _ (Nat.lt_succ_self _) (Nat.lt_succ_self _)]
  · rw [blt_of_not q, if_neg (by omega)]
@[simp] theorem IH.get_new_self (h : IH) (c : Cell) : (h.new c).get h.n = some c := by rw [IH.get_new, if_pos rfl]

/-! ### results -/
inductive Rs (α : Type) where
  | ok (a : α) (h : IH)
  | exc (c : Nat) (h : IH)
  | stuck
def Rs.bind {α β : Type} (r : Rs α) (k : α → IH → Rs β) : Rs β := match r with
  | .ok a h => k a h
  | .exc c h => .exc c h
  | .stuck => .stuck
@[simp] theorem Rs.bind_ok {α β : Type} (a : α) (h : IH) (k : α → IH → Rs β) : (Rs.ok a h).bind k = k a h := rfl
@[simp] theorem Rs.bind_exc {α β : Type} (c : Nat) (h : IH) (k : α → IH → Rs β) : (Rs.exc c h : Rs α).bind k = .exc c h := rfl
@[simp] theorem Rs.bind_stuck {α β : Type} (k : α → IH → Rs β) : (Rs.stuck : Rs α).bind k = .stuck := rfl

abbrev Env := List (Option W)
abbrev EE := Env → IH → Rs W
abbrev EA := Env → IH → Rs (List W)
abbrev ET := Env → IH → Rs Bool
inductive RS where
  | nx (e : Env) (h : IH)
  | bk (e : Env) (h : IH)
  | ct (e : Env) (h : IH)
  | rt (w : W) (h : IH)
  | ex (c : Nat) (e : Env) (h : IH)
  | stuck
abbrev SS := Env → IH → RS
abbrev FT := Nat → List W → IH → Rs W
/-- an expression in a statement: where it raises, the names are as they stand -/
def Rs.st {α : Type} (r : Rs α) (e : Env) (k : α → IH → RS) : RS := match r with
  | .ok a h => k a h
  | .exc c h => .ex c e h
  | .stuck => .stuck
@[simp] theorem Rs.st_ok {α : Type} (a : α) (h : IH) (e : Env) (k : α → IH → RS) : (Rs.ok a h).st e k = k a h := rfl
@[simp] theorem Rs.st_exc {α : Type} (c : Nat) (h : IH) (e : Env) (k : α → IH → RS) : (Rs.exc c h : Rs α).st e k = .ex c e h := rfl
@[simp] theorem Rs.st_stuck {α : Type} (e : Env) (k : α → IH → RS) : (Rs.stuck : Rs α).st e k = .stuck := rfl

/-- a target's end in a statement: it raises nothing -/
def Rs.sg (r : Rs Env) (k : Env → IH → RS) : RS := match r with
  | .ok e h => k e h
  | _ => .stuck
@[simp] theorem Rs.sg_ok (e : Env) (h : IH) (k : Env → IH → RS) : (Rs.ok e h).sg k = k e h := rfl
def lenOk (n : Nat) : Bool := Nat.ble n 16777216
theorem lenOk_iff {n : Nat} : lenOk n = true ↔ n ≤ 16777216 := ⟨Nat.le_of_ble_eq_true, Nat.ble_eq_true_of_le⟩
/-- a test, else no word -/
def Rs.need {α : Type} (b : Bool) (r : Rs α) : Rs α := match b with
  | true => r
  | false => .stuck

/-! ### data -/
def listAt (h : IH) (n : Nat) : Option (List W) := match h.get n with
  | some (.lst ws) => some ws
  | _ => none
def mapO {α β : Type} (f : α → Option β) : List α → Option (List β)
  | [] => some []
  | a :: r => match f a with
    | some b => (match mapO f r with
      | some s => some (b :: s)
      | none => none)
    | none => none
theorem mapO_cons {α β : Type} (f : α → Option β) (a : α) (r : List α) : mapO f (a :: r) = (match f a with
    | some b => (match mapO f r with
      | some s => some (b :: s)
      | none => none)
    | none => none) := rfl
/-- data all the way down, to a depth -/
def toD : Nat → IH → W → Option PyData
  | 0, _, _ => none
  | f + 1, h, w => match w with
    | .non => some .none
    | .bl b => some (.bool b)
    | .int i => some (.int i)
    | .str s => some (.str s)
    | .tup ws => (match mapO (toD f h) ws with
      | some ds => some (.tuple ds)
      | none => none)
    | .loc n => (match listAt h n with
      | some ws => (match mapO (toD f h) ws with
        | some ds => some (.list ds)
        | none => none)
      | none => none)
    | .ro _ => none
/-- the same with empty dicts, for what is shown -/
def toDE : Nat → IH → W → Option PyData
  | 0, _, _ => none
  | f + 1, h, w => match w with
    | .non => some .none
    | .bl b => some (.bool b)
    | .int i => some (.int i)
    | .str s => some (.str s)
    | .tup ws => (match mapO (toDE f h) ws with
      | some ds => some (.tuple ds)
      | none => none)
    | .loc n => (match h.get n with
      | some (.lst ws) => (match mapO (toDE f h) ws with
        | some ds => some (.list ds)
        | none => none)
      | some (.dk []) => some (.dict [])
      | _ => none)
    | .ro _ => none
def datE (h : IH) (w : W) : Option PyData := toDE 65 h w
def dat (h : IH) (w : W) : Option PyData := toD 65 h w

/-! ### expressions -/
def eVar (i : Nat) : EE := fun e h => match e[i]? with
  | some (some w) => .ok w h
  | _ => .stuck
def eC (w : W) : EE := fun _ h => .ok w h
def aNil : EA := fun _ h => .ok [] h
def aCons (f : EE) (g : EA) : EA := fun e h => (f e h).bind fun w h => (g e h).bind fun ws h => .ok (w :: ws) h
def eTup (g : EA) : EE := fun e h => (g e h).bind fun ws h => .need (lenOk ws.length) (.ok (.tup ws) h)
def eLst (g : EA) : EE := fun e h => (g e h).bind fun ws h => .need (lenOk ws.length) (.ok (.loc h.n) (h.new (.lst ws)))
def e1 (k : W → IH → Rs W) (f : EE) : EE := fun e h => (f e h).bind k
def e2 (k : W → W → IH → Rs W) (f g : EE) : EE := fun e h => (f e h).bind fun x h => (g e h).bind fun y h => k x y h
def eCall (Φ : FT) (id : Nat) (g : EA) : EE := fun e h => (g e h).bind fun ws h => Φ id ws h
def eA (k : List W → IH → Rs W) (g : EA) : EE := fun e h => (g e h).bind k

/-! ### operators by values -/
def inPow64 (i : Int) : Bool := decide (-(18446744073709551616 : Int) < i) && decide (i < 18446744073709551616)
def oAdd : W → W → IH → Rs W
  | .int i, .int j, h => .ok (.int (i + j)) h
  | .str a, .str b, h => .need (lenOk (a.length + b.length)) (.ok (.str (a ++ b)) h)
  | .tup a, .tup b, h => .need (lenOk (a.length + b.length)) (.ok (.tup (a ++ b)) h)
  | .loc a, .loc b, h => match h.get a with
    | some (.lst xs) => (match h.get b with
      | some (.lst ys) => .need (lenOk (xs.length + ys.length)) (.ok (.loc h.n) (h.new (.lst (xs ++ ys))))
      | _ => .stuck)
    | _ => .stuck
  | _, _, _ => .stuck
def oSub : W → W → IH → Rs W
  | .int i, .int j, h => .ok (.int (i - j)) h
  | _, _, _ => .stuck
def oMul : W → W → IH → Rs W
  | .int i, .int j, h => .need (inPow64 i || inPow64 j) (.ok (.int (i * j)) h)
  | .loc a, .int k, h => match h.get a with
    | some (.lst xs) => .need (decide (0 ≤ k) && decide (k < 1000000) && lenOk (xs.length * k.toNat)) (.ok (.loc h.n) (h.new (.lst (List.replicate k.toNat xs).flatten)))
    | _ => .stuck
  | .tup xs, .int k, h => .need (!xs.isEmpty && decide (2 ≤ k) && decide (k ≤ 1000) && Nat.ble xs.length 1000) (.ok (.tup (List.replicate k.toNat xs).flatten) h)
  | _, _, _ => .stuck
def oMod : W → W → IH → Rs W
  | .int i, .int j, h => .need (decide (0 < j)) (.ok (.int (i % j)) h)
  | _, _, _ => .stuck
def oDiv : W → W → IH → Rs W
  | .int i, .int j, h => .need (decide (0 < j) && decide (j < 1073741824)) (.ok (.int (i / j)) h)
  | _, _, _ => .stuck
def oPow : W → W → IH → Rs W
  | .int i, .int j, h => .need (decide (0 ≤ j) && decide (j ≤ 1000000) && inPow64 i) (.ok (.int (i ^ j.toNat)) h)
  | _, _, _ => .stuck
def uNeg : W → IH → Rs W
  | .int i, h => .ok (.int (-i)) h
  | _, _ => .stuck

/-! ### comparisons by values -/
def cInt (p : Int → Int → Bool) : W → W → IH → Rs W
  | .int i, .int j, h => .ok (.bl (p i j)) h
  | _, _, _ => .stuck
def oLt := cInt fun i j => decide (i < j)
def oLe := cInt fun i j => decide (i ≤ j)
def oGt := cInt fun i j => decide (j < i)
def oGe := cInt fun i j => decide (j ≤ i)
/-- two plain values of the kinds that are compared at once -/
def scalW : W → W → Option Bool
  | .non, .non => some true
  | .non, .int _ => some false
  | .int _, .non => some false
  | .non, .bl _ => some false
  | .bl _, .non => some false
  | .non, .str _ => some false
  | .str _, .non => some false
  | .int i, .int j => some (decide (i = j))
  | .bl i, .bl j => some (decide (i = j))
  | .str i, .str j => some (decide (i = j))
  | .int _, .str _ => some false
  | .str _, .int _ => some false
  | .bl _, .str _ => some false
  | .str _, .bl _ => some false
  | _, _ => none
def eqW (x y : W) (h : IH) : Option Bool := match scalW x y with
  | some b => some b
  | none => (match dat h x with
    | some d => (match dat h y with
      | some e => (match SeqAt.shaped d && SeqAt.shaped e with
        | true => some (PyData.eqv d e)
        | false => none)
      | none => none)
    | none => none)
/-- a tuple and the empty one: nothing of its items is asked -/
def tupE : W → W → Option Bool
  | .tup ws, .tup [] => some ws.isEmpty
  | _, _ => none
def oEq (x y : W) (h : IH) : Rs W := match tupE x y with
  | some b => .ok (.bl b) h
  | none => (match eqW x y h with
    | some b => .ok (.bl b) h
    | none => .stuck)
def oNe (x y : W) (h : IH) : Rs W := match eqW x y h with
  | some b => .ok (.bl !b) h
  | none => .stuck
def isNone : W → Bool
  | .non => true
  | _ => false
def oIs (x y : W) (h : IH) : Rs W := match y with
  | .non => .ok (.bl (isNone x)) h
  | .bl b => (match x with
    | .bl a => .ok (.bl (decide (a = b))) h
    | _ => .stuck)
  | _ => .stuck
def oIsNot (x y : W) (h : IH) : Rs W := match y with
  | .non => .ok (.bl (!isNone x)) h
  | .bl b => (match x with
    | .bl a => .ok (.bl (!decide (a = b))) h
    | _ => .stuck)
  | _ => .stuck

/-! ### containers by values -/
variable {κ : Type} [DecidableEq κ]
def dGet : List (κ × W) → κ → Option W
  | [], _ => none
  | (a, w) :: r, k => match decide (a = k) with
    | true => some w
    | false => dGet r k
def dPut (kvs : List (κ × W)) (k : κ) (v : W) : List (κ × W) := match kvs.any fun p => decide (p.1 = k) with
  | true => kvs.map fun p => match decide (p.1 = k) with
    | true => (p.1, v)
    | false => p
  | false => kvs ++ [(k, v)]
/-- a key of a dict -/
def keyOf : W → Option Key
  | .int i => some (.inl i)
  | .str s => some (.inr s)
  | _ => none
def keyW : Key → W
  | .inl i => .int i
  | .inr s => .str s
def ofO (o : Option W) (h : IH) : Rs W := match o with
  | some w => .ok w h
  | none => .stuck
/-- x[i] -/
def oIx : W → W → IH → Rs W
  | .loc a, .int i, h => match h.get a with
    | some (.lst ws) => ofO (L2.atI ws i) h
    | some (.dk kvs) => ofO (dGet kvs (.inl i)) h
    | _ => .stuck
  | .loc a, .str s, h => match h.get a with
    | some (.dk kvs) => ofO (dGet kvs (.inr s)) h
    | _ => .stuck
  | .tup ws, .int i, h => ofO (L2.atI ws i) h
  | .str z, .int i, h => match L2.atI z.cps.toList i with
    | some c => .need (lenOk z.length) (.ok (.str ⟨#[c]⟩) h)
    | none => .stuck
  | _, _, _ => .stuck
/-- x[lo:hi] -/
def cutW (xs : List W) (lo hi : Option Int) : List W := (xs.drop (HT.sIx xs.length 0 lo)).take (HT.sIx xs.length xs.length hi - HT.sIx xs.length 0 lo)
def oSl (lo hi : Option Int) : W → IH → Rs W
  | .loc a, h => match listAt h a with
    | some ws => .ok (.loc h.n) (h.new (.lst (cutW ws lo hi)))
    | none => .stuck
  | .tup ws, h => .ok (.tup (cutW ws lo hi)) h
  | .ro ws, h => .ok (.loc h.n) (h.new (.lst (cutW ws lo hi)))
  | _, _ => .stuck
/-- x[::-1] -/
def oRev : W → IH → Rs W
  | .loc a, h => match listAt h a with
    | some ws => .ok (.loc h.n) (h.new (.lst ws.reverse))
    | none => .stuck
  | .tup ws, h => .ok (.tup ws.reverse) h
  | _, _ => .stuck
/-- a part of a slice -/
abbrev EO := Env → IH → Rs (Option Int)
def pNone : EO := fun _ h => .ok none h
def pSome (f : EE) : EO := fun e h => (f e h).bind fun w h => match w with
  | .int i => .ok (some i) h
  | _ => .stuck
def eSl (f : EE) (lo hi : EO) : EE := fun e h => (f e h).bind fun w h => (lo e h).bind fun l h => (hi e h).bind fun u h => oSl l u w h
/-- k in d, x in xs -/
def memO (x : W) (ws : List W) (h : IH) : Option Bool := match dat h x with
  | some d => (match mapO (toD 64 h) ws with
    | some ds => (match SeqAt.shaped d && SeqAt.shaped (.list ds) with
      | true => some (ds.any fun z => PyData.eqv z d)
      | false => none)
    | none => none)
  | none => none
def flatW : W → Bool
  | .tup _ => false
  | .loc _ => false
  | .ro _ => false
  | _ => true
/-- == of two flat values -/
def eqFlat : W → W → Bool
  | .non, .non => true
  | .bl a, .bl b => a == b
  | .int a, .int b => decide (a = b)
  | .bl a, .int b => decide ((if a then 1 else 0) = b)
  | .int a, .bl b => decide (a = (if b then 1 else 0))
  | .str a, .str b => decide (a = b)
  | _, _ => false
def inFlat (x : W) : List W → Bool
  | [] => false
  | y :: r => match eqFlat y x with
    | true => true
    | false => inFlat x r
def inW (x y : W) (h : IH) : Option Bool := match y with
  | .tup ws => (match flatW x && ws.all flatW with
    | true => some (inFlat x ws)
    | false => none)
  | .loc a => (match h.get a with
    | some (.lst ws) => (match flatW x && ws.all flatW with
      | true => some (inFlat x ws)
      | false => memO x ws h)
    | some (.dk kvs) => (match keyOf x with
      | some k => some (dGet kvs k).isSome
      | none => none)
    | _ => none)
  | _ => none
def oIn (x y : W) (h : IH) : Rs W := match inW x y h with
  | some b => .ok (.bl b) h
  | none => .stuck
def oNotIn (x y : W) (h : IH) : Rs W := match inW x y h with
  | some b => .ok (.bl !b) h
  | none => .stuck

/-! ### kinds -/
inductive Ty where
  | non | bool | int | str | tuple | list | dict | own (c : Nat)
  deriving DecidableEq
def tyOf (h : IH) : W → Option Ty
  | .non => some .non
  | .bl _ => some .bool
  | .int _ => some .int
  | .str _ => some .str
  | .tup _ => some .tuple
  | .loc n => (match h.get n with
    | some (.lst _) => some .list
    | some (.dk _) => some .dict
    | some (.ins c _) => some (.own c)
    | some (.dz _) => none
    | some (.err _) => none
    | none => none)
  | .ro _ => none
/-- isinstance of a built-in class -/
def isTy : Ty → Ty → Bool
  | .bool, .int => true
  | a, b => decide (a = b)
def isOwn : Ty → Bool
  | .own _ => true
  | _ => false
def oIsi (ts : List Ty) (x : W) (h : IH) : Rs W := match tyOf h x with
  | some t => .need (!isOwn t) (.ok (.bl (ts.any fun u => isTy t u)) h)
  | none => .stuck

/-- isinstance of an exception held: by what its class is below -/
def oIsE (ds : List (Nat × Bool)) : W → IH → Rs W
  | .loc a, h => (match h.get a with
    | some (.err c) => (match ds.lookup c with
      | some b => .ok (.bl b) h
      | none => .stuck)
    | _ => .stuck)
  | _, _ => .stuck
/-- a new exception object -/
def eErr (c : Nat) (f : EE) : EE := fun e h => (f e h).bind fun _ h => .ok (.loc h.n) (h.new (.err c))
/-! ### built-ins by values -/
def oLen : W → IH → Rs W
  | .tup ws, h => .ok (.int ws.length) h
  | .str z, h => .need (lenOk z.length) (.ok (.int z.length) h)
  | .loc a, h => match h.get a with
    | some (.lst ws) => .ok (.int ws.length) h
    | some (.dk kvs) => .ok (.int kvs.length) h
    | _ => .stuck
  | _, _ => .stuck
def asB : W → Option Bool
  | .bl b => some b
  | _ => none
def asI : W → Option Int
  | .int i => some i
  | _ => none
def asS : W → Option Str
  | .str i => some i
  | _ => none
def oAll : W → IH → Rs W
  | .loc a, h => match listAt h a with
    | some ws => (match mapO asB ws with
      | some bs => .ok (.bl (bs.all id)) h
      | none => .stuck)
    | none => .stuck
  | _, _ => .stuck
def oAny : W → IH → Rs W
  | .loc a, h => match listAt h a with
    | some ws => (match mapO asB ws with
      | some bs => .ok (.bl (bs.any id)) h
      | none => .stuck)
    | none => .stuck
  | _, _ => .stuck
def oSum : W → IH → Rs W
  | .loc a, h => match listAt h a with
    | some ws => (match mapO asI ws with
      | some ns => .ok (.int ns.sum) h
      | none => .stuck)
    | none => .stuck
  | _, _ => .stuck
def insI (i : Int) : List Int → List Int
  | [] => [i]
  | j :: r => match decide (i ≤ j) with
    | true => i :: j :: r
    | false => j :: insI i r
def sortI : List Int → List Int
  | [] => []
  | i :: r => insI i (sortI r)
def intKey : Key × W → Option Int
  | (.inl i, _) => some i
  | _ => none
def oSorted : W → IH → Rs W
  | .loc a, h => match h.get a with
    | some (.lst ws) => (match mapO asI ws with
      | some ns => .ok (.loc h.n) (h.new (.lst ((sortI ns).map W.int)))
      | none => .stuck)
    | some (.dk kvs) => (match mapO intKey kvs with
      | some ns => .need (Nat.ble ns.length 63) (.ok (.loc h.n) (h.new (.lst ((sortI ns).map W.int))))
      | none => .stuck)
    | _ => .stuck
  | _, _ => .stuck
/-- an int put into an ascending list, once -/
def insU (i : Int) : List Int → List Int
  | [] => [i]
  | j :: r => match decide (i < j) with
    | true => i :: j :: r
    | false => match decide (i = j) with
      | true => j :: r
      | false => j :: insU i r
def setI : List Int → List Int
  | [] => []
  | i :: r => insU i (setI r)
/-- sorted(set(xs)) -/
def oSortSet : W → IH → Rs W
  | .loc a, h => match listAt h a with
    | some ws => (match mapO asI ws with
      | some ns => .need (Nat.blt ns.length 64) (.ok (.loc h.n) (h.new (.lst ((setI ns).map W.int))))
      | none => .stuck)
    | none => .stuck
  | _, _ => .stuck
def minL (i : Int) : List Int → Int
  | [] => i
  | j :: r => minL (if j < i then j else i) r
def maxL (i : Int) : List Int → Int
  | [] => i
  | j :: r => maxL (if i < j then j else i) r
def oMin1 : W → IH → Rs W
  | .loc a, h => match listAt h a with
    | some ws => (match mapO asI ws with
      | some (i :: r) => .ok (.int (minL i r)) h
      | _ => .stuck)
    | none => .stuck
  | _, _ => .stuck
def oMax1 : W → IH → Rs W
  | .loc a, h => match listAt h a with
    | some ws => (match mapO asI ws with
      | some (i :: r) => .ok (.int (maxL i r)) h
      | _ => .stuck)
    | none => .stuck
  | _, _ => .stuck
def oTuple : W → IH → Rs W
  | .loc a, h => match listAt h a with
    | some ws => .ok (.tup ws) h
    | none => .stuck
  | .tup ws, h => .ok (.tup ws) h
  | _, _ => .stuck
def oList : W → IH → Rs W
  | .loc a, h => match listAt h a with
    | some ws => .ok (.loc h.n) (h.new (.lst ws))
    | none => .stuck
  | .tup ws, h => .ok (.loc h.n) (h.new (.lst ws))
  | _, _ => .stuck
def small (i : Int) : Bool := decide (-1000000000 ≤ i) && decide (i ≤ 1000000000)
/-- list(range(n)) -/
def oListRange : W → IH → Rs W
  | .int n, h => .need (small n && decide (n < 1000000)) (.ok (.loc h.n) (h.new (.lst ((List.range n.toNat).map fun i => W.int (i : Nat)))))
  | _, _ => .stuck
def oListRange2 : W → W → IH → Rs W
  | .int m, .int n, h => .need (small m && small n && decide (n - m < 1000000)) (.ok (.loc h.n) (h.new (.lst ((List.range (n - m).toNat).map fun i => W.int (m + (i : Nat))))))
  | _, _, _ => .stuck
def oRepr (w : W) (h : IH) : Rs W := match datE h w with
  | some d => (match PyData.showable d && lenOk d.shown.length && Nat.ble d.depth 64 with
    | true => .ok (.str d.shown) h
    | false => .stuck)
  | none => .stuck
def oMin2 : W → W → IH → Rs W
  | .int i, .int j, h => .ok (.int (if j < i then j else i)) h
  | _, _, _ => .stuck
def oInt : W → IH → Rs W
  | .int i, h => .ok (.int i) h
  | .bl b, h => .ok (.int (if b then 1 else 0)) h
  | _, _ => .stuck
def k1 (k : W → IH → Rs W) : List W → IH → Rs W
  | [w], h => k w h
  | _, _ => .stuck
def k2 (k : W → W → IH → Rs W) : List W → IH → Rs W
  | [w, u], h => k w u h
  | _, _ => .stuck
def kMin : List W → IH → Rs W
  | [w], h => oMin1 w h
  | [w, u], h => oMin2 w u h
  | _, _ => .stuck
/-! ### methods -/
def isLst (w : W) (h : IH) : Bool := match w with
  | .loc a => (match h.get a with
    | some (.lst _) => true
    | _ => false)
  | _ => false
def isDk (w : W) (h : IH) : Bool := match w with
  | .loc a => (match h.get a with
    | some (.dk _) => true
    | _ => false)
  | _ => false
def eMt (chk : W → IH → Bool) (k : List W → IH → Rs W) (f : EE) (g : EA) : EE := fun e h => (f e h).bind fun x h => .need (chk x h) ((g e h).bind fun ws h => k (x :: ws) h)
def mAppend : List W → IH → Rs W
  | [.loc a, w], h => (match h.get a with
    | some (.lst ws) => .need (Nat.blt ws.length 16777216) (.ok .non (h.set a (.lst (ws ++ [w]))))
    | _ => .stuck)
  | _, _ => .stuck
def mPop0 : List W → IH → Rs W
  | [.loc a], h => (match h.get a with
    | some (.lst ws) => (match ws[ws.length - 1]? with
      | some w => .ok w (h.set a (.lst ws.dropLast))
      | none => .stuck)
    | _ => .stuck)
  | _, _ => .stuck
def mPop1 : List W → IH → Rs W
  | [.loc a, .int i], h => (match h.get a with
    | some (.lst ws) => (match L2.ixN ws.length i with
      | some k => (match ws[k]? with
        | some w => .need (small i) (.ok w (h.set a (.lst (ws.eraseIdx k))))
        | none => .stuck)
      | none => .stuck)
    | _ => .stuck)
  | _, _ => .stuck
def mInsert : List W → IH → Rs W
  | [.loc a, .int i, w], h => (match h.get a with
    | some (.lst ws) => .need (Nat.blt ws.length 16777216 && decide (0 ≤ i) && decide (i < 1000000)) (.ok .non (h.set a (.lst (ws.take i.toNat ++ [w] ++ ws.drop i.toNat))))
    | _ => .stuck)
  | _, _ => .stuck
def mGet2 : List W → IH → Rs W
  | [.loc a, k, d], h => (match h.get a with
    | some (.dk kvs) => (match keyOf k with
      | some k => (match dGet kvs k with
        | some w => .ok w h
        | none => .ok d h)
      | none => .stuck)
    | _ => .stuck)
  | _, _ => .stuck
/-- x[i] = w -/
def oSet (o i w : W) (h : IH) : Rs Unit := match o with
  | .loc a => (match h.get a with
    | some (.lst ws) => (match i with
      | .int k => (match L2.ixN ws.length k with
        | some j => .ok () (h.set a (.lst (ws.set j w)))
        | none => .stuck)
      | _ => .stuck)
    | some (.dk kvs) => (match keyOf i with
      | some k => .need (Nat.blt kvs.length 16777216) (.ok () (h.set a (.dk (dPut kvs k w))))
      | none => .stuck)
    | _ => .stuck)
  | _ => .stuck

/-! ### tests -/
def truW (w : W) (h : IH) : Rs Bool := match w with
  | .non => .ok false h
  | .bl b => .ok b h
  | .int i => .ok (i != 0) h
  | .tup ws => .ok (!ws.isEmpty) h
  | .loc a => (match h.get a with
    | some (.lst ws) => .ok (!ws.isEmpty) h
    | some (.dk kvs) => .ok (!kvs.isEmpty) h
    | _ => .stuck)
  | .str _ => .stuck
  | .ro _ => .stuck
def bolW (w : W) (h : IH) : Rs Bool := match w with
  | .bl b => .ok b h
  | _ => .stuck
def tTru (f : EE) : ET := fun e h => (f e h).bind truW
def tBol (f : EE) : ET := fun e h => (f e h).bind bolW
def tNot (t : ET) : ET := fun e h => (t e h).bind fun b h => .ok (!b) h
def tAnd (t u : ET) : ET := fun e h => (t e h).bind fun b h => match b with
  | true => u e h
  | false => .ok false h
def tOr (t u : ET) : ET := fun e h => (t e h).bind fun b h => match b with
  | true => .ok true h
  | false => u e h
/-- values -/
def eNot (f : EE) : EE := fun e h => (f e h).bind fun w h => match w with
  | .bl b => .ok (.bl !b) h
  | _ => .stuck
def eAnd (f g : EE) : EE := fun e h => (f e h).bind fun w h => match w with
  | .bl true => g e h
  | .bl false => .ok (.bl false) h
  | _ => .stuck
def eOr (f g : EE) : EE := fun e h => (f e h).bind fun w h => match w with
  | .bl true => .ok (.bl true) h
  | .bl false => g e h
  | _ => .stuck
def eIf (t : ET) (f g : EE) : EE := fun e h => (t e h).bind fun b h => match b with
  | true => f e h
  | false => g e h
/-- a < b < c -/
def eChain (k k' : W → W → IH → Rs W) (f g l : EE) : EE := fun e h => (f e h).bind fun x h => (g e h).bind fun y h => (k x y h).bind fun z h => match z with
  | .bl true => (l e h).bind fun w h => k' y w h
  | .bl false => .ok (.bl false) h
  | _ => .stuck

/-! ### targets -/
abbrev EG := W → Env → IH → Rs Env
def gNm (i : Nat) : EG := fun w e h => .ok (e.set i (some w)) h
def gSeq : List EG → List W → Env → IH → Rs Env
  | [], [], e, h => .ok e h
  | g :: gs, w :: ws, e, h => (g w e h).bind fun e h => gSeq gs ws e h
  | _, _, _, _ => .stuck
def gTp (gs : List EG) : EG := fun w e h => match w with
  | .tup ws => .need (Nat.beq ws.length gs.length) (gSeq gs ws e h)
  | _ => .stuck
def gSb (o i : EE) : EG := fun w e h => (o e h).bind fun x h => (i e h).bind fun y h => (oSet x y w h).bind fun _ h => .ok e h

/-! ### statements -/
def sNext : SS := fun e h => .nx e h
def sSeq (s t : SS) : SS := fun e h => match s e h with
  | .nx e h => t e h
  | r => r
def sExpr (f : EE) : SS := fun e h => (f e h).st e fun _ h => .nx e h
def sRet (f : EE) : SS := fun e h => (f e h).st e fun w h => .rt w h
def sRetN : SS := fun _ h => .rt .non h
def sIf (t : ET) (a b : SS) : SS := fun e h => (t e h).st e fun c h => match c with
  | true => a e h
  | false => b e h
def sAsg (f : EE) (g : EG) : SS := fun e h => (f e h).st e fun w h => (g w e h).sg fun e h => .nx e h
def sBreak : SS := fun e h => .bk e h
def sCont : SS := fun e h => .ct e h
def sAug (i : Nat) (k : W → W → IH → Rs W) (f : EE) : SS := fun e h => match e[i]? with
  | some (some x) => (f e h).st e fun y h => (k x y h).st e fun z h => .nx (e.set i (some z)) h
  | _ => .stuck
def sRaise (c : Nat) : SS := fun e h => .ex c e h
/-- try: b, except .. as n: m = n; i is n's place -/
def sTryK (i m : Nat) (ds : List (Nat × Bool)) (b : SS) : SS := fun e h => match b e h with
  | .ex c e1 h1 => (match ds.lookup c with
    | some true => (match Nat.blt i e1.length with
      | true => .nx ((e1.set m (some (.loc h1.n))).set i none) (h1.new (.err c))
      | false => .stuck)
    | some false => .ex c e1 h1
    | none => .stuck)
  | r => r
def whileN (t : ET) (b : SS) : Nat → Env → IH → RS
  | 0, _, _ => .stuck
  | n + 1, e, h => (t e h).st e fun c h => match c with
    | false => .nx e h
    | true => (match b e h with
      | .nx e h => whileN t b n e h
      | .ct e h => whileN t b n e h
      | .bk e h => .nx e h
      | .rt w h => .rt w h
      | .ex c e h => .ex c e h
      | .stuck => .stuck)
def whileFuel : Nat := 1000000
def sWhile (t : ET) (b : SS) : SS := fun e h => whileN t b whileFuel e h

/-! ### what is walked -/
def kW : Key → W
  | .inl i => .int i
  | .inr s => .str s
inductive IT where
  | lst (a : Nat) | tup (ws : List W) | rng (lo : Int) (n : Nat) | enu (a : Nat) | enuT (ws : List W) | keys (a : Nat) | zip (a b : Nat) | zipT (ws us : List W)
def IT.nth (h : IH) (i : Nat) : IT → Option W
  | .lst a => (listAt h a).bind fun ws => ws[i]?
  | .tup ws => ws[i]?
  | .rng lo n => match Nat.blt i n with
    | true => some (.int (lo + i))
    | false => none
  | .enu a => (listAt h a).bind fun ws => ws[i]?.bind fun w => some (.tup [.int i, w])
  | .enuT ws => ws[i]?.bind fun w => some (.tup [.int i, w])
  | .keys a => (match h.get a with
    | some (.dz kvs) => (match kvs[i]? with
      | some p => some (kW p.1)
      | none => none)
    | _ => none)
  | .zip a b => (listAt h a).bind fun ws => (listAt h b).bind fun us => ws[i]?.bind fun w => us[i]?.bind fun u => some (.tup [w, u])
  | .zipT ws us => ws[i]?.bind fun w => us[i]?.bind fun u => some (.tup [w, u])
/-- nothing is left -/
def IT.fin (h : IH) (i : Nat) : IT → Bool
  | .lst a => (match listAt h a with
    | some ws => Nat.ble ws.length i
    | none => false)
  | .tup ws => Nat.ble ws.length i
  | .rng _ n => Nat.ble n i
  | .enu a => (match listAt h a with
    | some ws => Nat.ble ws.length i
    | none => false)
  | .enuT ws => Nat.ble ws.length i
  | .keys a => (match h.get a with
    | some (.dz kvs) => Nat.ble kvs.length i
    | _ => false)
  | .zip a b => (match listAt h a with
    | some ws => (match listAt h b with
      | some us => Nat.ble ws.length i || Nat.ble us.length i
      | none => false)
    | none => false)
  | .zipT ws us => Nat.ble ws.length i || Nat.ble us.length i
def IT.cnt (h : IH) : IT → Nat
  | .lst a => ((listAt h a).getD []).length
  | .tup ws => ws.length
  | .rng _ n => n
  | .enu a => ((listAt h a).getD []).length
  | .enuT ws => ws.length
  | .keys a => (match h.get a with
    | some (.dz kvs) => kvs.length
    | _ => 0)
  | .zip a b => min ((listAt h a).getD []).length ((listAt h b).getD []).length
  | .zipT ws us => min ws.length us.length
abbrev EI := Env → IH → Rs IT
def iVal (f : EE) : EI := fun e h => (f e h).bind fun w h => match w with
  | .loc a => (match listAt h a with
    | some _ => .ok (.lst a) h
    | none => .stuck)
  | .tup ws => .ok (.tup ws) h
  | _ => .stuck
def iA (k : List W → IH → Rs IT) (g : EA) : EI := fun e h => (g e h).bind k
/-- a dict is walked by its keys; it stays as it is from there on -/
def iAny (f : EE) : EI := fun e h => match f e h with
  | .ok (.loc a) h1 => (match h1.get a with
    | some (.dk kvs) => .ok (.keys a) (h1.set a (.dz kvs))
    | _ => iVal f e h)
  | _ => iVal f e h
def kRng1 : List W → IH → Rs IT
  | [.int j], h => .need (small j) (.ok (.rng 0 j.toNat) h)
  | _, _ => .stuck
def kRng2 : List W → IH → Rs IT
  | [.int i, .int j], h => .need (small i && small j) (.ok (.rng i (j - i).toNat) h)
  | _, _ => .stuck
def kEnu : List W → IH → Rs IT
  | [.loc a], h => (match listAt h a with
    | some _ => .ok (.enu a) h
    | none => .stuck)
  | [.tup ws], h => .ok (.enuT ws) h
  | _, _ => .stuck
def kZip : List W → IH → Rs IT
  | [.loc a, .loc b], h => (match listAt h a with
    | some _ => (match listAt h b with
      | some _ => .ok (.zip a b) h
      | none => .stuck)
    | none => .stuck)
  | [.tup ws, .tup us], h => .ok (.zipT ws us) h
  | _, _ => .stuck
def forL (g : EG) (b : SS) (J : IT) : Nat → Nat → Env → IH → RS
  | 0, i, e, h => match J.fin h i with
    | true => .nx e h
    | false => .stuck
  | m + 1, i, e, h => match J.nth h i with
    | none => .stuck
    | some w => (g w e h).sg fun e h => match b e h with
      | .nx e h => forL g b J m (i + 1) e h
      | .ct e h => forL g b J m (i + 1) e h
      | .bk e h => .nx e h
      | .rt w h => .rt w h
      | .ex c e h => .ex c e h
      | .stuck => .stuck
def sFor (s : EI) (g : EG) (b : SS) : SS := fun e h => (s e h).st e fun J h => forL g b J (J.cnt h) 0 e h
/-- names wiped -/
def wipeW (e : Env) (vs : List Nat) : Env := vs.foldl (fun e i => e.set i none) e
def lcL (g : EG) (t : ET) (f : EE) (J : IT) (e0 : Env) : Nat → Nat → IH → Rs (List W)
  | 0, i, h => match J.fin h i with
    | true => .ok [] h
    | false => .stuck
  | m + 1, i, h => match J.nth h i with
    | none => .stuck
    | some w => (g w e0 h).bind fun e h => (t e h).bind fun c h => match c with
      | true => (f e h).bind fun x h => (lcL g t f J e0 m (i + 1) h).bind fun xs h => .ok (x :: xs) h
      | false => lcL g t f J e0 m (i + 1) h
def noExc {α : Type} (r : Rs α) : Rs α := match r with
  | .ok a h => .ok a h
  | _ => .stuck
def tYes : ET := fun _ h => .ok true h
def eLc (s : EI) (g : EG) (t : ET) (f : EE) (vs : List Nat) : EE := fun e h => (s e h).bind fun J h => (noExc (lcL g t f J (wipeW e vs) (J.cnt h) 0 h)).bind fun xs h => .need (lenOk xs.length) (.ok (.loc h.n) (h.new (.lst xs)))
/-- a dict's display with int or text keys -/
def eDic (kvs : List (EE × EE)) : EE := fun e h => (go e kvs h []).bind fun d h => .ok (.loc h.n) (h.new (.dk d))
where go (e : Env) : List (EE × EE) → IH → List (Key × W) → Rs (List (Key × W))
  | [], h, d => .ok d h
  | (f, g) :: r, h, d => (f e h).bind fun k h => (g e h).bind fun v h => match keyOf k with
    | some k => go e r h (dPut d k v)
    | none => .stuck
/-- a def's body, called -/
def runBody (n : Nat) (b : SS) (ws : List W) (h : IH) : Rs W := match b (ws.map some ++ List.replicate (n - ws.length) none) h with
  | .nx _ h => .ok .non h
  | .rt w h => .ok w h
  | .ex c _ h => .exc c h
  | _ => .stuck
end Fw

set_option Elab.async false
set_option linter.all false
set_option maxRecDepth 100000
/-! Fw, part B: what the evaluator's values stand for; what an evaluation promises. -/
namespace Fw
open PySem L2

/-- a list that is only read -/
def RoL (K : PySem.W.Frag) (H : Hp) (a : Addr) (xs : List V) : Prop :=
  (∃ o, H a = some (.frz o (.lst xs))) ∨
    ∃ (o : Obj) (its : Array Value) (n : Nat), K.lookup a = some o ∧ o.cls = .type "list" ∧ o.dict = none ∧ o.data = .seq its n ∧ its.size ≤ sizeLine ∧ Vals xs its.toList
mutual
/-- a value of the evaluator's and one of the layer's -/
inductive RV (K : PySem.W.Frag) (ρ : Nat → Addr) (n : Nat) (H : Hp) : W → V → Prop
  | non : RV K ρ n H .non .non
  | bl {b : Bool} : RV K ρ n H (.bl b) (.bl b)
  | int {i : Int} : RV K ρ n H (.int i) (.int i)
  | str {s : Str} : RV K ρ n H (.str s) (.str s)
  | tup {ws : List W} {a : Addr} {vs : List V} : SqT K H a vs → RVs K ρ n H ws vs → RV K ρ n H (.tup ws) (.ref a)
  | loc {i : Nat} : i < n → RV K ρ n H (.loc i) (.ref (ρ i))
  | ro {ws : List W} {a : Addr} {vs : List V} : RoL K H a vs → RVs K ρ n H ws vs → RV K ρ n H (.ro ws) (.ref a)
inductive RVs (K : PySem.W.Frag) (ρ : Nat → Addr) (n : Nat) (H : Hp) : List W → List V → Prop
  | nil : RVs K ρ n H [] []
  | cons {w : W} {ws : List W} {v : V} {vs : List V} : RV K ρ n H w v → RVs K ρ n H ws vs → RVs K ρ n H (w :: ws) (v :: vs)
end
/-- the entries of a dict -/
inductive RKs (K : PySem.W.Frag) (ρ : Nat → Addr) (n : Nat) (H : Hp) : List (Key × W) → List (Key × V) → Prop
  | nil : RKs K ρ n H [] []
  | cons {k : Key} {w : W} {ws : List (Key × W)} {v : V} {vs : List (Key × V)} : RV K ρ n H w v → RKs K ρ n H ws vs → RKs K ρ n H ((k, w) :: ws) ((k, v) :: vs)
inductive RFs (K : PySem.W.Frag) (ρ : Nat → Addr) (n : Nat) (H : Hp) : List (Str × W) → List (Str × V) → Prop
  | nil : RFs K ρ n H [] []
  | cons {k : Str} {w : W} {ws : List (Str × W)} {v : V} {vs : List (Str × V)} : RV K ρ n H w v → RFs K ρ n H ws vs → RFs K ρ n H ((k, w) :: ws) ((k, v) :: vs)

/-- what stands at a place; C: where the classes stand -/
def RC (K : PySem.W.Frag) (C : Nat → Addr) (ρ : Nat → Addr) (n : Nat) (H : Hp) (a : Addr) : Cell → Prop
  | .lst ws => ∃ vs, H a = some (.lst vs) ∧ RVs K ρ n H ws vs
  | .dk kvs => ∃ es, H a = some (.dK es) ∧ RKs K ρ n H kvs es
  | .dz kvs => ∃ o es, H a = some (.frz o (.dK es)) ∧ RKs K ρ n H kvs es
  | .ins c fs => ∃ dx gs, H a = some (.ins (C c) dx gs) ∧ RFs K ρ n H fs gs
  | .err c => ∃ φ, H a = some (.ext φ) ∧ ∀ hp, φ hp → ExAt (C c) a hp
def isMut : Cell → Bool
  | _ => true
structure RH (K : PySem.W.Frag) (C : Nat → Addr) (ρ : Nat → Addr) (h : IH) (H : Hp) : Prop where
  cell : ∀ i c, h.get i = some c → RC K C ρ h.n H (ρ i) c
  inj : ∀ i j c d, h.get i = some c → h.get j = some d → isMut c = true → isMut d = true → ρ i = ρ j → i = j
  full : ∀ i, i < h.n → ∃ c, h.get i = some c
  sys : ∃ o φ, H sysModules = some (.frz o (.ext φ))
/-- the modules' own dict is none of ours: it is told apart from the first -/
abbrev SysH (H : Hp) : Prop := ∃ o φ, H sysModules = some (.frz o (.ext φ))
theorem sys_new {H : Hp} {p : Addr} {o : HO} (s : SysH H) (hp : H p = none) : SysH (upd H p o) := by
  obtain ⟨q, φ, e⟩ := s
  exact ⟨q, φ, by rw [upd_ne fun z => by rw [← z, e] at hp; cases hp]; exact e⟩
theorem sys_upd {H : Hp} {p : Addr} {o u : HO} (s : SysH H) (hp : H p = some u) (hu : ∀ o x, u ≠ .frz o x) : SysH (upd H p o) := by
  obtain ⟨q, φ, e⟩ := s
  exact ⟨q, φ, by rw [upd_ne fun z => by rw [← z, e] at hp; exact hu _ _ (Option.some.inj hp).symm]; exact e⟩

section
variable {K : PySem.W.Frag} {C : Nat → Addr} {ρ ρ' : Nat → Addr} {n n' : Nat} {H H' : Hp}
/-- how what is known goes on -/
structure Ext (ρ ρ' : Nat → Addr) (n n' : Nat) (H H' : Hp) : Prop where
  le : n ≤ n'
  same : ∀ i, i < n → ρ' i = ρ i
  frame : ∀ a o, H a = some o → (∀ i, i < n → ρ i ≠ a) → H' a = some o ∧ ∀ i, i < n' → ρ' i ≠ a
  tups : ∀ a xs, H a = some (.tup xs) → H' a = some (.tup xs)
  frzs : ∀ a o u, H a = some (.frz o u) → H' a = some (.frz o u)
theorem SqT.ext {a : Addr} {xs : List V} (t : ∀ a xs, H a = some (.tup xs) → H' a = some (.tup xs)) (f : ∀ a o u, H a = some (.frz o u) → H' a = some (.frz o u)) (h : SqT K H a xs) : SqT K H' a xs := by
  rcases h with (h | ⟨o, h⟩) | h
  · exact .inl (.inl (t _ _ h))
  · exact .inl (.inr ⟨o, f _ _ _ h⟩)
  · exact .inr h
theorem RoL.ext {a : Addr} {xs : List V} (f : ∀ a o u, H a = some (.frz o u) → H' a = some (.frz o u)) (h : RoL K H a xs) : RoL K H' a xs := by
  rcases h with ⟨o, h⟩ | h
  · exact .inl ⟨o, f _ _ _ h⟩
  · exact .inr h
mutual
theorem RV.mono (le : n ≤ n') (same : ∀ i, i < n → ρ' i = ρ i) (t : ∀ a xs, H a = some (.tup xs) → H' a = some (.tup xs)) (f : ∀ a o u, H a = some (.frz o u) → H' a = some (.frz o u)) :
    ∀ {w : W} {v : V}, RV K ρ n H w v → RV K ρ' n' H' w v
  | _, _, .non => .non
  | _, _, .bl => .bl
  | _, _, .int => .int
  | _, _, .str => .str
  | _, _, .tup s r => .tup (SqT.ext t f s) (RVs.mono le same t f r)
  | _, _, .loc (i := i) h => by rw [← same i h]; exact .loc (Nat.lt_of_lt_of_le h le)
  | _, _, .ro s r => .ro (RoL.ext f s) (RVs.mono le same t f r)
theorem RVs.mono (le : n ≤ n') (same : ∀ i, i < n → ρ' i = ρ i) (t : ∀ a xs, H a = some (.tup xs) → H' a = some (.tup xs)) (f : ∀ a o u, H a = some (.frz o u) → H' a = some (.frz o u)) :
    ∀ {ws : List W} {vs : List V}, RVs K ρ n H ws vs → RVs K ρ' n' H' ws vs
  | _, _, .nil => .nil
  | _, _, .cons a b => .cons (RV.mono le same t f a) (RVs.mono le same t f b)
end
theorem RKs.mono (le : n ≤ n') (same : ∀ i, i < n → ρ' i = ρ i) (t : ∀ a xs, H a = some (.tup xs) → H' a = some (.tup xs)) (f : ∀ a o u, H a = some (.frz o u) → H' a = some (.frz o u))
    {ws : List (Key × W)} {vs : List (Key × V)} (h : RKs K ρ n H ws vs) : RKs K ρ' n' H' ws vs := by
  induction h with
  | nil => exact .nil
  | cons a _ ih => exact .cons (RV.mono le same t f a) ih
theorem RFs.mono (le : n ≤ n') (same : ∀ i, i < n → ρ' i = ρ i) (t : ∀ a xs, H a = some (.tup xs) → H' a = some (.tup xs)) (f : ∀ a o u, H a = some (.frz o u) → H' a = some (.frz o u))
    {ws : List (Str × W)} {vs : List (Str × V)} (h : RFs K ρ n H ws vs) : RFs K ρ' n' H' ws vs := by
  induction h with
  | nil => exact .nil
  | cons a _ ih => exact .cons (RV.mono le same t f a) ih
theorem Ext.refl : Ext ρ ρ n n H H := ⟨Nat.le_refl _, fun _ _ => rfl, fun _ _ h k => ⟨h, k⟩, fun _ _ h => h, fun _ _ _ h => h⟩
theorem Ext.trans {ρ'' : Nat → Addr} {n'' : Nat} {H'' : Hp} (x : Ext ρ ρ' n n' H H') (y : Ext ρ' ρ'' n' n'' H' H'') : Ext ρ ρ'' n n'' H H'' :=
  ⟨Nat.le_trans x.le y.le, fun i hi => (y.same i (Nat.lt_of_lt_of_le hi x.le)).trans (x.same i hi), fun a o h k => let ⟨h1, k1⟩ := x.frame a o h k; y.frame a o h1 k1, fun a xs h => y.tups a xs (x.tups a xs h), fun a o u h => y.frzs a o u (x.frzs a o u h)⟩
theorem Ext.rv (x : Ext ρ ρ' n n' H H') {w : W} {v : V} (h : RV K ρ n H w v) : RV K ρ' n' H' w v := h.mono x.le x.same x.tups x.frzs
theorem Ext.rvs (x : Ext ρ ρ' n n' H H') {w : List W} {v : List V} (h : RVs K ρ n H w v) : RVs K ρ' n' H' w v := h.mono x.le x.same x.tups x.frzs
theorem RVs.length : ∀ {ws : List W} {vs : List V}, RVs K ρ n H ws vs → ws.length = vs.length
  | _, _, .nil => rfl
  | _, _, .cons _ r => congrArg (· + 1) (RVs.length r)
theorem RVs.get : ∀ {ws : List W} {vs : List V} {i : Nat} {w : W}, RVs K ρ n H ws vs → ws[i]? = some w → ∃ v, vs[i]? = some v ∧ RV K ρ n H w v
  | _, _, _, _, .nil, e => by simp at e
  | _, _, 0, w, .cons a _, e => by simp at e; subst e; exact ⟨_, rfl, a⟩
  | _, _, i + 1, w, .cons _ r, e => by
    obtain ⟨v, h1, h2⟩ := RVs.get (i := i) (w := w) r (by simpa using e)
    exact ⟨v, by simpa using h1, h2⟩
theorem RVs.getV : ∀ {ws : List W} {vs : List V} {i : Nat} {v : V}, RVs K ρ n H ws vs → vs[i]? = some v → ∃ w, ws[i]? = some w ∧ RV K ρ n H w v
  | _, _, _, _, .nil, e => by simp at e
  | _, _, 0, w, .cons a _, e => by simp at e; subst e; exact ⟨_, rfl, a⟩
  | _, _, i + 1, w, .cons _ r, e => by
    obtain ⟨v, h1, h2⟩ := RVs.getV (i := i) (v := w) r (by simpa using e)
    exact ⟨v, by simpa using h1, h2⟩
theorem RVs.append : ∀ {ws us : List W} {vs xs : List V}, RVs K ρ n H ws vs → RVs K ρ n H us xs → RVs K ρ n H (ws ++ us) (vs ++ xs)
  | _, _, _, _, .nil, r => r
  | _, _, _, _, .cons a b, r => .cons a (RVs.append b r)
theorem RVs.take : ∀ {ws : List W} {vs : List V} (k : Nat), RVs K ρ n H ws vs → RVs K ρ n H (ws.take k) (vs.take k)
  | _, _, 0, _ => .nil
  | _, _, _ + 1, .nil => .nil
  | _, _, k + 1, .cons a r => .cons a (RVs.take k r)
theorem RVs.drop : ∀ {ws : List W} {vs : List V} (k : Nat), RVs K ρ n H ws vs → RVs K ρ n H (ws.drop k) (vs.drop k)
  | _, _, 0, r => r
  | _, _, _ + 1, .nil => .nil
  | _, _, k + 1, .cons _ r => RVs.drop k r
theorem RVs.set {w : W} {v : V} (q : RV K ρ n H w v) : ∀ {ws : List W} {vs : List V} (k : Nat), RVs K ρ n H ws vs → RVs K ρ n H (ws.set k w) (vs.set k v)
  | _, _, _, .nil => .nil
  | _, _, 0, .cons _ r => .cons q r
  | _, _, k + 1, .cons a r => .cons a (RVs.set q k r)
theorem RVs.eraseIdx : ∀ {ws : List W} {vs : List V} (k : Nat), RVs K ρ n H ws vs → RVs K ρ n H (ws.eraseIdx k) (vs.eraseIdx k)
  | _, _, _, .nil => .nil
  | _, _, 0, .cons _ r => r
  | _, _, k + 1, .cons a r => .cons a (RVs.eraseIdx k r)
theorem RVs.dropLast : ∀ {ws : List W} {vs : List V}, RVs K ρ n H ws vs → RVs K ρ n H ws.dropLast vs.dropLast
  | _, _, .nil => .nil
  | _, _, .cons _ .nil => .nil
  | _, _, .cons a (.cons b r) => .cons a (RVs.dropLast (.cons b r))
theorem RVs.replicate {ws : List W} {vs : List V} (r : RVs K ρ n H ws vs) : ∀ k : Nat, RVs K ρ n H (List.replicate k ws).flatten (List.replicate k vs).flatten
  | 0 => .nil
  | k + 1 => by
    rw [List.replicate_succ, List.replicate_succ, List.flatten_cons, List.flatten_cons]
    exact r.append (RVs.replicate r k)

/-- nothing is there yet at a new place -/
theorem RH.fresh {h : IH} (r : RH K C ρ h H) {p : Addr} (hp : H p = none) : ∀ i c, h.get i = some c → isMut c = true → ρ i ≠ p := fun i c e m q => by
  have z := r.cell i c e
  rw [q] at z
  cases c with
  | lst ws => obtain ⟨_, z, _⟩ := z; rw [hp] at z; cases z
  | dk kvs => obtain ⟨_, z, _⟩ := z; rw [hp] at z; cases z
  | dz kvs => obtain ⟨_, _, z, _⟩ := z; rw [hp] at z; cases z
  | ins c fs => obtain ⟨_, _, z, _⟩ := z; rw [hp] at z; cases z
  | err c => obtain ⟨_, z, _⟩ := z; rw [hp] at z; cases z
theorem RC.mono {a : Addr} {c : Cell} (le : n ≤ n') (same : ∀ i, i < n → ρ' i = ρ i) (t : ∀ a xs, H a = some (.tup xs) → H' a = some (.tup xs)) (f : ∀ a o u, H a = some (.frz o u) → H' a = some (.frz o u))
    (k : isMut c = true → ∀ o, H a = some o → H' a = some o) (h : RC K C ρ n H a c) : RC K C ρ' n' H' a c := by
  cases c with
  | lst ws => obtain ⟨vs, e, r⟩ := h; exact ⟨vs, k rfl _ e, r.mono le same t f⟩
  | dk kvs => obtain ⟨vs, e, r⟩ := h; exact ⟨vs, k rfl _ e, r.mono le same t f⟩
  | dz kvs => obtain ⟨o, vs, e, r⟩ := h; exact ⟨o, vs, k rfl _ e, r.mono le same t f⟩
  | ins c fs => obtain ⟨dx, gs, e, r⟩ := h; exact ⟨dx, gs, k rfl _ e, r.mono le same t f⟩
  | err c => obtain ⟨φ, e, r⟩ := h; exact ⟨φ, k rfl _ e, r⟩
theorem RoL.sq {a : Addr} {xs : List V} (h : RoL K H a xs) : SqL K H a xs := by
  rcases h with ⟨o, h⟩ | h
  · exact .inl (.inr ⟨o, h⟩)
  · exact .inr h
/-- the list at a place, to be read -/
theorem RH.list {h : IH} (r : RH K C ρ h H) {i : Nat} {ws : List W} (e : listAt h i = some ws) : ∃ vs, SqL K H (ρ i) vs ∧ RVs K ρ h.n H ws vs ∧ i < h.n := by
  unfold listAt at e
  cases g : h.get i with
  | none => rw [g] at e; cases e
  | some c =>
    rw [g] at e
    have z := r.cell i c g
    have lt := IH.get_lt g
    cases c with
    | lst us => cases e; obtain ⟨vs, e, q⟩ := z; exact ⟨vs, .inl (.inl e), q, lt⟩
    | dk _ => cases e
    | dz _ => cases e
    | ins _ _ => cases e
    | err _ => cases e
/-- a new object -/
def rhoN (ρ : Nat → Addr) (n : Nat) (p : Addr) : Nat → Addr := fun i => if i = n then p else ρ i
theorem rhoN_self {p : Addr} : rhoN ρ n p n = p := if_pos rfl
theorem rhoN_lt {p : Addr} {i : Nat} (h : i < n) : rhoN ρ n p i = ρ i := if_neg (Nat.ne_of_lt h)
theorem ext_new {h : IH} {p : Addr} {o : HO} (hp : H p = none) : Ext ρ (rhoN ρ h.n p) h.n (h.n + 1) H (upd H p o) where
  le := Nat.le_succ _
  same := fun i hi => rhoN_lt hi
  frame := fun a u e k => ⟨by rw [upd_ne (ne_of_none e hp)]; exact e, fun i hi => by
    by_cases z : i = h.n
    · rw [z, rhoN_self]; exact (ne_of_none e hp).symm
    · rw [rhoN_lt (by omega)]; exact k i (by omega)⟩
  tups := fun a xs e => by rw [upd_ne (ne_of_none e hp)]; exact e
  frzs := fun a u xs e => by rw [upd_ne (ne_of_none e hp)]; exact e
theorem RH.new {h : IH} (r : RH K C ρ h H) {p : Addr} {o : HO} {c : Cell} (hp : H p = none) (m : isMut c = true) (q : RC K C (rhoN ρ h.n p) (h.n + 1) (upd H p o) p c) : RH K C (rhoN ρ h.n p) (h.new c) (upd H p o) where
  cell := fun i d e => by
    rw [IH.get_new] at e
    by_cases z : i = h.n
    · rw [if_pos z] at e; cases e; rw [z, rhoN_self]; exact q
    · rw [if_neg z] at e
      have lt := IH.get_lt e
      rw [rhoN_lt lt]
      have x := ext_new (ρ := ρ) (h := h) (o := o) hp
      refine (r.cell i d e).mono x.le x.same x.tups x.frzs fun hm u hu => ?_
      rw [upd_ne (r.fresh hp i d e hm)]; exact hu
  inj := fun i j c1 c2 e1 e2 m1 m2 e => by
    rw [IH.get_new] at e1 e2
    by_cases z1 : i = h.n
    · by_cases z2 : j = h.n
      · rw [z1, z2]
      · rw [if_neg z2] at e2
        rw [z1, rhoN_self, rhoN_lt (IH.get_lt e2)] at e
        exact absurd e.symm (r.fresh hp j c2 e2 m2)
    · rw [if_neg z1] at e1
      by_cases z2 : j = h.n
      · rw [z2, rhoN_self, rhoN_lt (IH.get_lt e1)] at e
        exact absurd e (r.fresh hp i c1 e1 m1)
      · rw [if_neg z2] at e2
        rw [rhoN_lt (IH.get_lt e1), rhoN_lt (IH.get_lt e2)] at e
        exact r.inj i j c1 c2 e1 e2 m1 m2 e
  full := fun i hi => by
    by_cases z : i = h.n
    · exact ⟨c, by rw [IH.get_new, if_pos z]⟩
    · obtain ⟨d, e⟩ := r.full i (by have : i < h.n + 1 := hi; omega)
      exact ⟨d, by rw [IH.get_new, if_neg z]; exact e⟩
  sys := sys_new r.sys hp
/-- an object is changed -/
theorem RH.at_ne {h : IH} (r : RH K C ρ h H) {i j : Nat} {c d : Cell} (e1 : h.get i = some c) (m1 : isMut c = true) (e2 : h.get j = some d) (m2 : isMut d = true) (ne : i ≠ j) : ρ i ≠ ρ j := fun e => ne (r.inj i j c d e1 e2 m1 m2 e)
def notTF : HO → Prop
  | .tup _ => False
  | .frz _ _ => False
  | _ => True
theorem ext_set {a : Addr} {u o : HO} {i : Nat} (hi : i < n) (ha : H (ρ i) = some u) (hu : notTF u) : Ext ρ ρ n n H (upd H (ρ i) o) where
  le := Nat.le_refl _
  same := fun _ _ => rfl
  frame := fun a u e k => ⟨by rw [upd_ne (k i hi).symm]; exact e, k⟩
  tups := fun a xs e => by rw [upd_ne fun z => ?_]; exact e; rw [z, ha] at e; cases e; exact hu
  frzs := fun a w xs e => by rw [upd_ne fun z => ?_]; exact e; rw [z, ha] at e; cases e; exact hu
theorem RH.upd {h : IH} (r : RH K C ρ h H) {i : Nat} {u o : HO} {c d : Cell} (g : h.get i = some c) (mc : isMut c = true) (ha : H (ρ i) = some u) (hu : notTF u) (m : isMut d = true) (q : RC K C ρ h.n (L2.upd H (ρ i) o) (ρ i) d) : RH K C ρ (h.set i d) (L2.upd H (ρ i) o) where
  cell := fun j b e => by
    have lt := IH.get_lt g
    rw [IH.get_set _ _ _ _ lt] at e
    by_cases z : j = i
    · rw [if_pos z] at e; cases e; rw [z]; exact q
    · rw [if_neg z] at e
      have x := ext_set (a := ρ i) (o := o) lt ha hu
      refine (r.cell j b e).mono x.le x.same x.tups x.frzs fun hm w hw => ?_
      rw [upd_ne (r.at_ne e hm g mc z)]; exact hw
  inj := fun a b c1 c2 e1 e2 m1 m2 e => by
    have lt := IH.get_lt g
    rw [IH.get_set _ _ _ _ lt] at e1 e2
    by_cases z1 : a = i
    · by_cases z2 : b = i
      · rw [z1, z2]
      · rw [if_neg z2] at e2
        rw [z1] at e ⊢
        exact r.inj i b c c2 g e2 mc m2 e
    · rw [if_neg z1] at e1
      by_cases z2 : b = i
      · rw [z2] at e ⊢
        exact r.inj a i c1 c e1 g m1 mc e
      · rw [if_neg z2] at e2
        exact r.inj a b c1 c2 e1 e2 m1 m2 e
  full := fun j hj => by
    by_cases z : j = i
    · exact ⟨d, by rw [IH.get_set _ _ _ _ (IH.get_lt g), if_pos z]⟩
    · obtain ⟨b, e⟩ := r.full j hj
      exact ⟨b, by rw [IH.get_set _ _ _ _ (IH.get_lt g), if_neg z]; exact e⟩
  sys := sys_upd r.sys ha fun o x z => by rw [z] at hu; exact hu
/-- a free place is none of ours -/
theorem RH.free {h : IH} (r : RH K C ρ h H) {p : Addr} (hp : H p = none) : ∀ i, i < h.n → ρ i ≠ p := fun i hi => by
  obtain ⟨c, e⟩ := r.full i hi
  exact r.fresh hp i c e rfl
end

/-! ### evaluations -/
/-- names and values -/
structure REnv (K : PySem.W.Frag) (ρ : Nat → Addr) (n : Nat) (H : Hp) (e : Env) (σ : L2.St) : Prop where
  len : e.length = σ.length
  at_ : ∀ (i : Nat) (w : W), e[i]? = some (some w) → ∃ v, σ[i]? = some (some v) ∧ RV K ρ n H w v
/-- the fixed part: K, where the classes stand, what is wished of what is raised -/
structure Fx where
  K : PySem.W.Frag
  C : Nat → Addr
  We : Nat → L2.St → Hp → Prop
section
variable (F : Fx)
def Post {α β : Type} (RA : (Nat → Addr) → Nat → Hp → α → β → Prop) (σ : L2.St) (ρ : Nat → Addr) (n : Nat) (H : Hp) (r : Rs α) (Q : β → Hp → Prop) : Prop := match r with
  | .ok a h' => ∀ ρ' b H', Ext ρ ρ' n h'.n H H' → RH F.K F.C ρ' h' H' → RA ρ' h'.n H' a b → Q b H'
  | .exc c h' => ∀ ρ' H', Ext ρ ρ' n h'.n H H' → RH F.K F.C ρ' h' H' → F.We c σ H'
  | .stuck => False
def TG_ {α β : Type} (RA : (Nat → Addr) → Nat → Hp → α → β → Prop) (f : Env → IH → Rs α) (σ : L2.St) (H : Hp) (Q : β → Hp → Prop) : Prop :=
  ∃ ρ e h, RH F.K F.C ρ h H ∧ REnv F.K ρ h.n H e σ ∧ Post F RA σ ρ h.n H (f e h) Q
def TI (f : EE) : L2.TE := TG_ F (RV F.K) f
def TIA (f : EA) : L2.TA := TG_ F (RVs F.K) f
def TIT (f : ET) : L2.TT := TG_ F (fun _ _ _ a b => a = b) f
end
section
variable {F : Fx} {σ : L2.St} {ρ ρ1 : Nat → Addr} {H H1 : Hp} {e : Env}
theorem REnv.ext {n n' : Nat} (x : Ext ρ ρ1 n n' H H1) (r : REnv F.K ρ n H e σ) : REnv F.K ρ1 n' H1 e σ :=
  ⟨r.len, fun i w q => let ⟨v, h1, h2⟩ := r.at_ i w q; ⟨v, h1, x.rv h2⟩⟩
theorem Post.shift {α β : Type} {RA : (Nat → Addr) → Nat → Hp → α → β → Prop} {n n1 : Nat} {r : Rs α} {Q : β → Hp → Prop} (x : Ext ρ ρ1 n n1 H H1) (p : Post F RA σ ρ n H r Q) : Post F RA σ ρ1 n1 H1 r Q := by
  cases r with
  | ok a h' => exact fun ρ' b H' y r q => p ρ' b H' (x.trans y) r q
  | exc c h' => exact fun ρ' H' y r => p ρ' H' (x.trans y) r
  | stuck => exact p
theorem Post.imp {α β : Type} {RA : (Nat → Addr) → Nat → Hp → α → β → Prop} {n : Nat} {r : Rs α} {Q Q' : β → Hp → Prop} (p : Post F RA σ ρ n H r Q) (k : ∀ b H, Q b H → Q' b H) : Post F RA σ ρ n H r Q' := by
  cases r with
  | ok a h' => exact fun ρ' b H' y r q => k _ _ (p ρ' b H' y r q)
  | exc c h' => exact p
  | stuck => exact p
/-- one evaluation, then the rest -/
theorem TG_.bind {α β γ δ : Type} {RA : (Nat → Addr) → Nat → Hp → α → β → Prop} {RB : (Nat → Addr) → Nat → Hp → γ → δ → Prop} {h : IH} {f : Env → IH → Rs α} {k : α → IH → Rs γ} {Q : δ → Hp → Prop} {P : β → Hp → Prop}
    (rh : RH F.K F.C ρ h H) (re : REnv F.K ρ h.n H e σ) (p : Post F RB σ ρ h.n H ((f e h).bind k) Q)
    (hP : ∀ ρ1 a h1 b H1, RH F.K F.C ρ1 h1 H1 → REnv F.K ρ1 h1.n H1 e σ → Ext ρ ρ1 h.n h1.n H H1 → RA ρ1 h1.n H1 a b → Post F RB σ ρ1 h1.n H1 (k a h1) Q → P b H1) : TG_ F RA f σ H P := by
  refine ⟨ρ, e, h, rh, re, ?_⟩
  cases q : f e h with
  | ok a h1 => exact fun ρ1 b H1 x r y => hP ρ1 a h1 b H1 r (re.ext x) x y (by rw [q] at p; exact Post.shift x p)
  | exc c h1 => rw [q] at p; exact p
  | stuck => rw [q] at p; exact p.elim
theorem Post.ok_ {α β : Type} {RA : (Nat → Addr) → Nat → Hp → α → β → Prop} {h : IH} {a : α} {b : β} {Q : β → Hp → Prop} (rh : RH F.K F.C ρ h H) (p : Post F RA σ ρ h.n H (.ok a h) Q) (r : RA ρ h.n H a b) : Q b H := p ρ b H Ext.refl rh r
end
end Fw

set_option Elab.async false
set_option linter.all false
set_option maxRecDepth 100000
set_option maxHeartbeats 1000000
/-! Fw, part C: each combinator is served by the layer's rules. Operators by values. -/
namespace Fw
open PySem L2

section
variable {X : Cx}
theorem PEmono {e : Expr} {t t' : L2.TE} (h : PE X e t) (k : ∀ σ H Q, t' σ H Q → t σ H Q) : PE X e t' := ⟨fun pins s σ H Q I q => h.run pins s σ H Q I (k σ H Q q)⟩
theorem PEor {e : Expr} {t t' : L2.TE} (h : PE X e t) (h' : PE X e t') : PE X e (fun σ H Q => t σ H Q ∨ t' σ H Q) :=
  ⟨fun pins s σ H Q I q => q.elim (h.run pins s σ H Q I) (h'.run pins s σ H Q I)⟩
theorem PTmono {e : Expr} {t t' : TT} (h : PT X e t) (k : ∀ σ H Q, t' σ H Q → t σ H Q) : PT X e t' := ⟨fun pins s σ H Q I q => h.run pins s σ H Q I (k σ H Q q)⟩
theorem PSmono {e : Stmt} {t t' : L2.TS} (h : PS X e t) (k : ∀ D σ H, t' D σ H → t D σ H) : PS X e t' := ⟨fun pins s σ H D I q => h.run pins s σ H D I (k D σ H q)⟩
end

/-- lenOk is the line -/
theorem line_of {n : Nat} (h : lenOk n = true) : n ≤ sizeLine := by rw [sizeLine_eq]; exact lenOk_iff.mp h
theorem need_inv {α β : Type} {F : Fx} {RA : (Nat → Addr) → Nat → Hp → α → β → Prop} {σ : L2.St} {ρ : Nat → Addr} {n : Nat} {H : Hp} {b : Bool} {r : Rs α} {Q : β → Hp → Prop} (p : Post F RA σ ρ n H (.need b r) Q) : b = true ∧ Post F RA σ ρ n H r Q := by
  cases b with
  | true => exact ⟨rfl, p⟩
  | false => exact p.elim

section
variable (F : Fx)
/-- an operation of two values is served by r -/
def Op2 (k : W → W → IH → Rs W) (r : R2) : Prop := ∀ (ρ : Nat → Addr) (h : IH) (H : Hp) (σ : L2.St) (x y : W) (v u : V) (Q : VK), RH F.K F.C ρ h H → RV F.K ρ h.n H x v → RV F.K ρ h.n H y u → Post F (RV F.K) σ ρ h.n H (k x y h) Q → r v u H Q
def Op1 (k : W → IH → Rs W) (r : V → Hp → VK → Prop) : Prop := ∀ (ρ : Nat → Addr) (h : IH) (H : Hp) (σ : L2.St) (x : W) (v : V) (Q : VK), RH F.K F.C ρ h H → RV F.K ρ h.n H x v → Post F (RV F.K) σ ρ h.n H (k x h) Q → r v H Q
end
section
variable {F : Fx} {σ : L2.St} {ρ : Nat → Addr} {h : IH} {H : Hp} {Q : VK}
/-- a new tuple: for every free place -/
theorem post_tup {ws : List W} {vs : List V} (rh : RH F.K F.C ρ h H) (r : RVs F.K ρ h.n H ws vs) (p : Post F (RV F.K) σ ρ h.n H (.ok (.tup ws) h) Q) : ∀ a, H a = none → Q (.ref a) (upd H a (.tup vs)) := fun a ha => by
  have x : Ext ρ ρ h.n h.n H (upd H a (.tup vs)) := ⟨Nat.le_refl _, fun _ _ => rfl, fun b o e k => ⟨by rw [upd_ne (ne_of_none e ha)]; exact e, k⟩, fun b xs e => by rw [upd_ne (ne_of_none e ha)]; exact e, fun b o xs e => by rw [upd_ne (ne_of_none e ha)]; exact e⟩
  refine p ρ (.ref a) _ x ⟨fun i c e => ?_, rh.inj, rh.full, sys_new rh.sys ha⟩ (.tup (.inl (.inl upd_same)) (x.rvs r))
  exact (rh.cell i c e).mono x.le x.same x.tups x.frzs fun m o ho => by rw [upd_ne (rh.fresh ha i c e m)]; exact ho
/-- a new list -/
theorem post_lst {ws : List W} {vs : List V} (rh : RH F.K F.C ρ h H) (r : RVs F.K ρ h.n H ws vs) (p : Post F (RV F.K) σ ρ h.n H (.ok (.loc h.n) (h.new (.lst ws))) Q) : ∀ a, H a = none → Q (.ref a) (upd H a (.lst vs)) := fun a ha => by
  have x : Ext ρ (rhoN ρ h.n a) h.n (h.new (.lst ws)).n H (upd H a (.lst vs)) := ext_new ha
  have e : V.ref a = V.ref (rhoN ρ h.n a h.n) := by rw [rhoN_self]
  refine p (rhoN ρ h.n a) (.ref a) _ x (rh.new ha rfl ⟨vs, upd_same, x.rvs r⟩) ?_
  rw [e]
  exact .loc (Nat.lt_succ_self _)
theorem post_dk {kvs : List (Key × W)} {es : List (Key × V)} (rh : RH F.K F.C ρ h H) (r : RKs F.K ρ h.n H kvs es) (p : Post F (RV F.K) σ ρ h.n H (.ok (.loc h.n) (h.new (.dk kvs))) Q) : ∀ a, H a = none → Q (.ref a) (upd H a (.dK es)) := fun a ha => by
  have x : Ext ρ (rhoN ρ h.n a) h.n (h.new (.dk kvs)).n H (upd H a (.dK es)) := ext_new ha
  have e : V.ref a = V.ref (rhoN ρ h.n a h.n) := by rw [rhoN_self]
  refine p (rhoN ρ h.n a) (.ref a) _ x (rh.new ha rfl ⟨es, upd_same, r.mono x.le x.same x.tups x.frzs⟩) ?_
  rw [e]
  exact .loc (Nat.lt_succ_self _)
/-- a list is changed -/
theorem post_setL {α β : Type} {RA : (Nat → Addr) → Nat → Hp → α → β → Prop} {R : β → Hp → Prop} {a : α} {b : β} {i : Nat} {ws us : List W} {vs xs : List V} (rh : RH F.K F.C ρ h H) (g : h.get i = some (.lst us)) (e : H (ρ i) = some (.lst xs)) (r : RVs F.K ρ h.n H ws vs)
    (p : Post F RA σ ρ h.n H (.ok a (h.set i (.lst ws))) R) (ra : ∀ ρ' n' H', Ext ρ ρ' h.n n' H H' → RA ρ' n' H' a b) : R b (upd H (ρ i) (.lst vs)) := by
  have x : Ext ρ ρ h.n (h.set i (.lst ws)).n H (upd H (ρ i) (.lst vs)) := ext_set (a := ρ i) (IH.get_lt g) e trivial
  exact p ρ b _ x (rh.upd g rfl e trivial rfl ⟨vs, upd_same, x.rvs r⟩) (ra _ _ _ x)
theorem post_same {α β : Type} {RA : (Nat → Addr) → Nat → Hp → α → β → Prop} {R : β → Hp → Prop} {a : α} {b : β} (rh : RH F.K F.C ρ h H) (p : Post F RA σ ρ h.n H (.ok a h) R) (r : RA ρ h.n H a b) : R b H := p ρ b H Ext.refl rh r
theorem RH.lst (rh : RH F.K F.C ρ h H) {i : Nat} {ws : List W} (g : h.get i = some (.lst ws)) : ∃ vs, H (ρ i) = some (.lst vs) ∧ RVs F.K ρ h.n H ws vs := rh.cell i _ g
theorem RH.dk (rh : RH F.K F.C ρ h H) {i : Nat} {ws : List (Key × W)} (g : h.get i = some (.dk ws)) : ∃ vs, H (ρ i) = some (.dK vs) ∧ RKs F.K ρ h.n H ws vs := rh.cell i _ g

theorem o2_int {k : W → W → IH → Rs W} {C : Int → Int → Prop} {gw : Int → Int → W} {g : Int → Int → V} (hk : ∀ x y h, (∃ i j, x = .int i ∧ y = .int j ∧ C i j ∧ k x y h = .ok (gw i j) h) ∨ k x y h = .stuck) (hg : ∀ ρ n H i j, RV F.K ρ n H (gw i j) (g i j)) : Op2 F k (rI C g) := by
  intro ρ h H σ x y v u Q rh rx ry p
  rcases hk x y h with ⟨i, j, rfl, rfl, c, e⟩ | e
  · rw [e] at p
    cases rx; cases ry
    exact ⟨i, j, rfl, rfl, c, post_same rh p (hg _ _ _ _ _)⟩
  · rw [e] at p; exact p.elim
end
end Fw

set_option Elab.async false
set_option linter.all false
set_option maxRecDepth 100000
set_option maxHeartbeats 1000000
namespace Fw
open PySem L2
section
variable {F : Fx}
theorem s_add : Op2 F oAdd (fun x y H Q => rI0 (fun i j => .int (i + j)) x y H Q ∨ (∃ i j, x = .str i ∧ y = .str j ∧ i.length + j.length ≤ sizeLine ∧ Q (.str (i ++ j)) H) ∨ rCatA F.K x y H Q ∨ rCat x y H Q) := by
  intro ρ h H σ x y v u Q rh rx ry p
  cases rx <;> cases ry <;> first | exact False.elim p | skip
  case int.int => exact .inl ⟨_, _, rfl, rfl, post_same rh p .int⟩
  case str.str =>
    obtain ⟨hb, p⟩ := need_inv p
    exact .inr (.inl ⟨_, _, rfl, rfl, line_of hb, post_same rh p .str⟩)
  case tup.tup ws a vs s1 r1 us b xs s2 r2 =>
    obtain ⟨hb, p⟩ := need_inv p
    have hb' := line_of hb
    rw [r1.length, r2.length] at hb'
    refine .inr (.inr (.inl ⟨a, b, vs, xs, rfl, rfl, s1, s2, hb', fun e => ?_, fun e1 e2 => ?_, fun e1 e2 => ?_⟩))
    · subst e
      cases r1
      exact post_same rh p (.tup s2 r2)
    · subst e2
      cases r2
      rw [List.append_nil] at p
      exact post_same rh p (.tup s1 r1)
    · exact post_tup rh (r1.append r2) p
  case loc.loc a ha b hb =>
    refine .inr (.inr (.inr ?_))
    have p' : Post F (RV F.K) σ ρ h.n H (match h.get a with
      | some (.lst xs) => (match h.get b with
        | some (.lst ys) => .need (lenOk (xs.length + ys.length)) (.ok (.loc h.n) (h.new (.lst (xs ++ ys))))
        | _ => .stuck)
      | _ => .stuck) Q := p
    clear p
    cases ga : h.get a with
    | none => rw [ga] at p'; exact p'.elim
    | some c =>
      rw [ga] at p'
      cases c with
      | lst xs =>
        cases gb : h.get b with
        | none => rw [gb] at p'; exact p'.elim
        | some d =>
          rw [gb] at p'
          cases d with
          | lst ys =>
            obtain ⟨q, p'⟩ := need_inv p'
            obtain ⟨vs, e1, r1⟩ := rh.lst ga
            obtain ⟨us, e2, r2⟩ := rh.lst gb
            have q' := line_of q
            rw [r1.length, r2.length] at q'
            exact ⟨_, _, vs, us, rfl, rfl, e1, e2, q', post_lst rh (r1.append r2) p'⟩
          | dk _ => exact p'.elim
          | dz _ => exact p'.elim
          | ins _ _ => exact p'.elim
          | err _ => exact p'.elim
      | dk _ => exact p'.elim
      | dz _ => exact p'.elim
      | ins _ _ => exact p'.elim
      | err _ => exact p'.elim
theorem s_sub : Op2 F oSub (rI0 fun i j => .int (i - j)) := by
  intro ρ h H σ x y v u Q rh rx ry p
  cases rx <;> cases ry <;> first | exact False.elim p | skip
  exact ⟨_, _, rfl, rfl, post_same rh p .int⟩
theorem inPow_of {i : Int} (h : inPow64 i = true) : -(2 ^ 64) < i ∧ i < 2 ^ 64 := by
  obtain ⟨a, b⟩ := Bool.and_eq_true_iff.mp h
  exact ⟨of_decide_eq_true a, of_decide_eq_true b⟩
theorem s_mul : Op2 F oMul (fun x y H Q => rI CMul (fun i j => .int (i * j)) x y H Q ∨ rRepT F.K x y H Q ∨ rRep x y H Q) := by
  intro ρ h H σ x y v u Q rh rx ry p
  cases rx <;> cases ry <;> first | exact False.elim p | skip
  case int.int i j =>
    obtain ⟨hb, p⟩ := need_inv p
    refine .inl ⟨_, _, rfl, rfl, ?_, post_same rh p .int⟩
    rcases Bool.or_eq_true_iff.mp hb with hb | hb
    · exact .inl (inPow_of hb)
    · exact .inr (inPow_of hb)
  case tup.int ws a vs s1 r1 k =>
    obtain ⟨hb, p⟩ := need_inv p
    simp only [Bool.and_eq_true, decide_eq_true_eq] at hb
    obtain ⟨⟨⟨h1, h2⟩, h3⟩, h4⟩ := hb
    refine .inr (.inl ⟨a, k, vs, rfl, rfl, s1, fun e => ?_, h2, h3, ?_, post_tup rh (r1.replicate _) p⟩)
    · subst e; cases r1; simp at h1
    · rw [← r1.length]; exact Nat.le_of_ble_eq_true h4
  case loc.int a ha k =>
    have p' : Post F (RV F.K) σ ρ h.n H (match h.get a with
      | some (.lst xs) => .need (decide (0 ≤ k) && decide (k < 1000000) && lenOk (xs.length * k.toNat)) (.ok (.loc h.n) (h.new (.lst (List.replicate k.toNat xs).flatten)))
      | _ => .stuck) Q := p
    clear p
    cases ga : h.get a with
    | none => rw [ga] at p'; exact p'.elim
    | some c =>
      rw [ga] at p'
      cases c with
      | lst xs =>
        obtain ⟨hb, p'⟩ := need_inv p'
        simp only [Bool.and_eq_true, decide_eq_true_eq] at hb
        obtain ⟨⟨h1, h2⟩, h3⟩ := hb
        obtain ⟨vs, e1, r1⟩ := rh.lst ga
        have h3' := line_of h3
        rw [r1.length] at h3'
        exact .inr (.inr ⟨_, k, vs, rfl, rfl, e1, by omega, by omega, h3', post_lst rh (r1.replicate _) p'⟩)
      | dk _ => exact p'.elim
      | dz _ => exact p'.elim
      | ins _ _ => exact p'.elim
      | err _ => exact p'.elim
theorem s_mod : Op2 F oMod (rI (fun _ j => 0 < j) fun i j => .int (i % j)) := by
  intro ρ h H σ x y v u Q rh rx ry p
  cases rx <;> cases ry <;> first | exact False.elim p | skip
  obtain ⟨hb, p⟩ := need_inv p
  exact ⟨_, _, rfl, rfl, of_decide_eq_true hb, post_same rh p .int⟩
theorem s_div : Op2 F oDiv (rI CDiv fun i j => .int (i / j)) := by
  intro ρ h H σ x y v u Q rh rx ry p
  cases rx <;> cases ry <;> first | exact False.elim p | skip
  obtain ⟨hb, p⟩ := need_inv p
  obtain ⟨a, b⟩ := Bool.and_eq_true_iff.mp hb
  exact ⟨_, _, rfl, rfl, ⟨of_decide_eq_true a, of_decide_eq_true b⟩, post_same rh p .int⟩
theorem s_pow : Op2 F oPow (rI CPow fun i j => .int (i ^ j.toNat)) := by
  intro ρ h H σ x y v u Q rh rx ry p
  cases rx <;> cases ry <;> first | exact False.elim p | skip
  obtain ⟨hb, p⟩ := need_inv p
  obtain ⟨ab, c⟩ := Bool.and_eq_true_iff.mp hb
  obtain ⟨a, b⟩ := Bool.and_eq_true_iff.mp ab
  obtain ⟨c1, c2⟩ := inPow_of c
  exact ⟨_, _, rfl, rfl, ⟨of_decide_eq_true a, of_decide_eq_true b, by omega⟩, post_same rh p .int⟩
theorem s_neg : Op1 F uNeg (rU fun i => .int (-i)) := by
  intro ρ h H σ x v Q rh rx p
  cases rx <;> first | exact False.elim p | skip
  exact ⟨_, rfl, post_same rh p .int⟩
theorem s_cInt (g : Int → Int → Bool) : Op2 F (cInt g) (rI0 fun i j => .bl (g i j)) := by
  intro ρ h H σ x y v u Q rh rx ry p
  cases rx <;> cases ry <;> first | exact False.elim p | skip
  exact ⟨_, _, rfl, rfl, post_same rh p .bl⟩

/-! ### data -/
section
variable {ρ : Nat → Addr} {h : IH} {H : Hp}
mutual
theorem toD_dp (rh : RH F.K F.C ρ h H) : ∀ (f : Nat) (w : W) (v : V) (d : PyData), RV F.K ρ h.n H w v → toD f h w = some d → Dp F.K H v d
  | 0, _, _, _, _, e => by cases e
  | f + 1, _, _, d, .non, e => by cases e; exact .non
  | f + 1, _, _, d, .bl, e => by cases e; exact .bl _
  | f + 1, _, _, d, .int, e => by cases e; exact .int _
  | f + 1, _, _, d, .str, e => by cases e; exact .str _
  | f + 1, _, _, d, .ro _ _, e => by cases e
  | f + 1, _, _, d, .tup (ws := ws) (vs := vs) s r, e => by
    have e' : (match mapO (toD f h) ws with
      | some ds => some (PyData.tuple ds)
      | none => none) = some d := e
    cases q : mapO (toD f h) ws with
    | none => rw [q] at e'; cases e'
    | some ds => rw [q] at e'; cases e'; exact .tup s (toDs_dp rh f ws vs ds r q)
  | f + 1, _, _, d, .loc (i := i) hi, e => by
    have e' : (match listAt h i with
      | some ws => (match mapO (toD f h) ws with
        | some ds => some (PyData.list ds)
        | none => none)
      | none => none) = some d := e
    cases g : listAt h i with
    | none => rw [g] at e'; cases e'
    | some ws =>
      rw [g] at e'
      obtain ⟨vs, s, r, _⟩ := rh.list g
      have e2 : (match mapO (toD f h) ws with
        | some ds => some (PyData.list ds)
        | none => none) = some d := e'
      cases q : mapO (toD f h) ws with
      | none => rw [q] at e2; cases e2
      | some ds => rw [q] at e2; cases e2; exact .lst s (toDs_dp rh f ws vs ds r q)
theorem toDs_dp (rh : RH F.K F.C ρ h H) : ∀ (f : Nat) (ws : List W) (vs : List V) (ds : List PyData), RVs F.K ρ h.n H ws vs → mapO (toD f h) ws = some ds → DpAll F.K H vs ds
  | _, [], _, ds, .nil, e => by cases e; exact .nil
  | f, w :: ws, _, ds, .cons (v := v) (vs := vs) a r, e => by
    rw [mapO_cons] at e
    cases q : toD f h w with
    | none => rw [q] at e; cases e
    | some b =>
      rw [q] at e
      dsimp only at e
      have e2 := e
      cases q2 : mapO (toD f h) ws with
      | none => rw [q2] at e2; cases e2
      | some s =>
        rw [q2] at e2; cases e2
        exact .cons (toD_dp rh f w v b a q) (toDs_dp rh f ws vs s r q2)
end
theorem scal_ok {x y : W} {v u : V} {n : Nat} {b : Bool} (rx : RV F.K ρ n H x v) (ry : RV F.K ρ n H y u) (e : scalW x y = some b) : scal v u = true ∧ decide (v = u) = b := by
  cases rx <;> cases ry <;> simp only [scalW] at e <;> first
    | (cases e; done)
    | (cases e; exact ⟨rfl, by simp⟩)
    | (injection e with e; subst e; refine ⟨rfl, ?_⟩; simp)
end
theorem tupE_ok {ρ : Nat → Addr} {n : Nat} {H : Hp} {x y : W} {v u : V} {b : Bool} {Q : VK} (rx : RV F.K ρ n H x v) (ry : RV F.K ρ n H y u) (e : tupE x y = some b) (q : Q (.bl b) H) : rEqE F.K v u H Q := by
  cases rx <;> cases ry <;> first | (cases e; done) | skip
  case tup.tup ws a vs s r us b' vs' s' r' =>
    cases us with
    | nil =>
      cases e
      cases r'
      refine ⟨_, _, vs, rfl, rfl, s, s', ?_⟩
      have z : vs.isEmpty = ws.isEmpty := by cases r <;> rfl
      rw [z]; exact q
    | cons _ _ => cases e
theorem s_eq : Op2 F oEq (fun x y H Q => (rEq x y H Q ∨ rEqD F.K x y H Q) ∨ rEqE F.K x y H Q) := by
  intro ρ h H σ x y v u Q rh rx ry p
  unfold oEq at p
  cases qe : tupE x y with
  | some b => rw [qe] at p; exact .inr (tupE_ok rx ry qe (post_same rh p .bl))
  | none =>
  rw [qe] at p
  dsimp only at p
  refine .inl ?_
  unfold eqW at p
  cases q : scalW x y with
  | some b =>
    rw [q] at p
    obtain ⟨h1, h2⟩ := scal_ok rx ry q
    refine .inl ⟨h1, ?_⟩
    rw [h2]
    exact post_same rh p .bl
  | none =>
    rw [q] at p
    dsimp only at p
    cases qx : dat h x with
    | none => rw [qx] at p; exact p.elim
    | some d =>
      cases qy : dat h y with
      | none => rw [qx, qy] at p; exact p.elim
      | some e =>
        rw [qx, qy] at p
        dsimp only at p
        cases qs : SeqAt.shaped d && SeqAt.shaped e with
        | false => rw [qs] at p; exact p.elim
        | true =>
          rw [qs] at p
          obtain ⟨s1, s2⟩ := Bool.and_eq_true_iff.mp qs
          exact .inr ⟨d, e, toD_dp rh _ _ _ _ rx qx, toD_dp rh _ _ _ _ ry qy, s1, s2, post_same rh p .bl⟩
theorem s_ne : Op2 F oNe (fun x y H Q => rNe x y H Q ∨ rNeD F.K x y H Q) := by
  intro ρ h H σ x y v u Q rh rx ry p
  unfold oNe eqW at p
  cases q : scalW x y with
  | some b =>
    rw [q] at p
    obtain ⟨h1, h2⟩ := scal_ok rx ry q
    refine .inl ⟨h1, ?_⟩
    rw [h2]
    exact post_same rh p .bl
  | none =>
    rw [q] at p
    dsimp only at p
    cases qx : dat h x with
    | none => rw [qx] at p; exact p.elim
    | some d =>
      cases qy : dat h y with
      | none => rw [qx, qy] at p; exact p.elim
      | some e =>
        rw [qx, qy] at p
        dsimp only at p
        cases qs : SeqAt.shaped d && SeqAt.shaped e with
        | false => rw [qs] at p; exact p.elim
        | true =>
          rw [qs] at p
          obtain ⟨s1, s2⟩ := Bool.and_eq_true_iff.mp qs
          exact .inr ⟨d, e, toD_dp rh _ _ _ _ rx qx, toD_dp rh _ _ _ _ ry qy, s1, s2, post_same rh p .bl⟩
theorem isNone_ok {ρ : Nat → Addr} {n : Nat} {H : Hp} {x : W} {v : V} (r : RV F.K ρ n H x v) : decide (v = .non) = isNone x := by
  cases r <;> simp [isNone]
theorem s_is : Op2 F oIs (fun x y H Q => (y = .non ∧ Q (.bl (decide (x = .non))) H) ∨ rIsB x y H Q) := by
  intro ρ h H σ x y v u Q rh rx ry p
  cases ry <;> first | exact False.elim p | skip
  · refine .inl ⟨rfl, ?_⟩
    rw [isNone_ok (F := F) rx]
    exact post_same rh p .bl
  · cases rx <;> first | exact False.elim p | skip
    exact .inr ⟨_, _, rfl, rfl, post_same rh p .bl⟩
theorem s_isnot : Op2 F oIsNot (fun x y H Q => (y = .non ∧ Q (.bl (!decide (x = .non))) H) ∨ rNotB x y H Q) := by
  intro ρ h H σ x y v u Q rh rx ry p
  cases ry <;> first | exact False.elim p | skip
  · refine .inl ⟨rfl, ?_⟩
    rw [isNone_ok (F := F) rx]
    exact post_same rh p .bl
  · cases rx <;> first | exact False.elim p | skip
    exact .inr ⟨_, _, rfl, rfl, post_same rh p .bl⟩
end
end Fw

set_option Elab.async false
set_option linter.all false
set_option maxRecDepth 100000
set_option maxHeartbeats 1000000
namespace Fw
open PySem L2
section
variable {F : Fx} {ρ : Nat → Addr} {h : IH} {H : Hp}
theorem RKs.get : ∀ {ws : List (Key × W)} {es : List (Key × V)} {n : Nat} {k : Key} {w : W}, RKs F.K ρ n H ws es → dGet ws k = some w → ∃ v, valV es k = some v ∧ RV F.K ρ n H w v
  | _, _, _, k, w, .nil, e => by cases e
  | _, _, _, k, w, .cons (k := a) (w := x) (ws := ws) a1 r, e => by
    by_cases z : a = k
    · have e' : some x = some w := by simpa [dGet, z] using e
      cases e'
      exact ⟨_, valV_pos z, a1⟩
    · have e' : dGet ws k = some w := by simpa [dGet, z] using e
      obtain ⟨v, h1, h2⟩ := RKs.get r e'
      exact ⟨v, by rw [valV_neg z]; exact h1, h2⟩
theorem RKs.getN : ∀ {ws : List (Key × W)} {es : List (Key × V)} {n : Nat} {k : Key}, RKs F.K ρ n H ws es → dGet ws k = none → valV es k = none
  | _, _, _, k, .nil, e => rfl
  | _, _, _, k, .cons (k := a) (w := x) (ws := ws) a1 r, e => by
    by_cases z : a = k
    · exfalso
      simp [dGet, z] at e
    · have e' : dGet ws k = none := by simpa [dGet, z] using e
      rw [valV_neg z]; exact RKs.getN r e'
theorem RKs.length : ∀ {ws : List (Key × W)} {es : List (Key × V)} {n : Nat}, RKs F.K ρ n H ws es → ws.length = es.length
  | _, _, _, .nil => rfl
  | _, _, _, .cons _ r => congrArg (· + 1) (RKs.length r)
theorem RKs.keys : ∀ {ws : List (Key × W)} {es : List (Key × V)} {n : Nat}, RKs F.K ρ n H ws es → ws.map (·.1) = es.map (·.1)
  | _, _, _, .nil => rfl
  | _, _, _, .cons _ r => by rw [List.map_cons, List.map_cons, RKs.keys r]
theorem RKs.any_ {ws : List (Key × W)} {es : List (Key × V)} {n : Nat} (k : Key) (r : RKs F.K ρ n H ws es) : (ws.any fun p => decide (p.1 = k)) = es.any fun p => decide (p.1 = k) := by
  have e := r.keys
  have h1 : (ws.any fun p => decide (p.1 = k)) = (ws.map (·.1)).any fun q => decide (q = k) := by rw [List.any_map]; rfl
  have h2 : (es.any fun p => decide (p.1 = k)) = (es.map (·.1)).any fun q => decide (q = k) := by rw [List.any_map]; rfl
  rw [h1, h2, e]
theorem RKs.snoc {w : W} {v : V} {k : Key} {n : Nat} (q : RV F.K ρ n H w v) : ∀ {ws : List (Key × W)} {es : List (Key × V)}, RKs F.K ρ n H ws es → RKs F.K ρ n H (ws ++ [(k, w)]) (es ++ [(k, v)])
  | _, _, .nil => .cons q .nil
  | _, _, .cons a r => .cons a (RKs.snoc q r)
theorem RKs.mapP {w : W} {v : V} {k : Key} {n : Nat} (q : RV F.K ρ n H w v) : ∀ {ws : List (Key × W)} {es : List (Key × V)}, RKs F.K ρ n H ws es →
    RKs F.K ρ n H (ws.map fun p => match decide (p.1 = k) with | true => (p.1, w) | false => p) (es.map fun kv => if kv.1 = k then (kv.1, v) else kv)
  | _, _, .nil => .nil
  | _, _, .cons (k := a) (w := x) (v := y) a1 r => by
    rw [List.map_cons, List.map_cons]
    by_cases z : a = k
    · rw [if_pos z, show decide (a = k) = true from decide_eq_true z]
      exact .cons q (RKs.mapP q r)
    · rw [if_neg z, show decide (a = k) = false from decide_eq_false z]
      exact .cons a1 (RKs.mapP q r)
theorem RKs.put {ws : List (Key × W)} {es : List (Key × V)} {w : W} {v : V} {k : Key} {n : Nat} (r : RKs F.K ρ n H ws es) (q : RV F.K ρ n H w v) : RKs F.K ρ n H (dPut ws k w) (putK es k v) := by
  unfold dPut putK
  rw [← r.any_ k]
  cases ws.any fun p => decide (p.1 = k) with
  | true => rw [if_pos rfl]; exact r.mapP q
  | false => rw [if_neg (by decide)]; exact r.snoc q
theorem atI_ok {ws : List W} {vs : List V} {n : Nat} {i : Int} {w : W} (r : RVs F.K ρ n H ws vs) (e : atI ws i = some w) : ∃ v, atI vs i = some v ∧ RV F.K ρ n H w v := by
  unfold atI at e ⊢
  rw [r.length] at e
  cases q : ixN vs.length i with
  | none => rw [q] at e; cases e
  | some j => rw [q] at e; exact r.get e
theorem keyOf_ok {w : W} {v : V} {n : Nat} {k : Key} (r : RV F.K ρ n H w v) (e : keyOf w = some k) : v = kV k := by
  cases r <;> simp only [keyOf] at e <;> first
    | (cases e; done)
    | (cases e; rfl)
theorem ofO_inv {α : Type} {RA : (Nat → Addr) → Nat → Hp → W → V → Prop} {σ : L2.St} {n : Nat} {o : Option W} {Q : VK} (p : Post F RA σ ρ n H (ofO o h) Q) : ∃ w, o = some w ∧ Post F RA σ ρ n H (.ok w h) Q := by
  cases o with
  | none => exact p.elim
  | some w => exact ⟨w, rfl, p⟩
end
section
variable {F : Fx}
theorem s_ix : Op2 F oIx (fun x y H Q => rIx F.K x y H Q ∨ ∃ a v, x = .ref a ∧ DGet H a y (some v) ∧ Q v H) := by
  intro ρ h H σ x y v u Q rh rx ry p
  cases rx <;> cases ry <;> first | exact False.elim p | skip
  case str.int z i =>
    have p' : Post F (RV F.K) σ ρ h.n H (match atI z.cps.toList i with
      | some c => .need (lenOk z.length) (.ok (.str ⟨#[c]⟩) h)
      | none => .stuck) Q := p
    cases e : atI z.cps.toList i with
    | none => rw [e] at p'; exact p'.elim
    | some c =>
      rw [e] at p'
      obtain ⟨q, p'⟩ := need_inv p'
      exact .inl (.inr (.inr ⟨z, i, c, rfl, rfl, line_of q, e, post_same rh p' .str⟩))
  case tup.int ws a vs s1 r1 i =>
    obtain ⟨w, e, p⟩ := ofO_inv (α := Unit) p
    obtain ⟨v, e2, q⟩ := atI_ok r1 e
    exact .inl (.inr (.inl ⟨a, vs, i, v, rfl, rfl, s1, e2, post_same rh p q⟩))
  case loc.int a ha i =>
    have p' : Post F (RV F.K) σ ρ h.n H (match h.get a with
      | some (.lst ws) => ofO (atI ws i) h
      | some (.dk kvs) => ofO (dGet kvs (.inl i)) h
      | _ => .stuck) Q := p
    clear p
    cases ga : h.get a with
    | none => rw [ga] at p'; exact p'.elim
    | some c =>
      rw [ga] at p'
      cases c with
      | lst ws =>
        obtain ⟨w, e, p⟩ := ofO_inv (α := Unit) p'
        obtain ⟨vs, s, r, _⟩ := rh.list (show listAt h a = some ws by unfold listAt; rw [ga])
        obtain ⟨v, e2, q⟩ := atI_ok r e
        exact .inl (.inl ⟨_, vs, i, v, rfl, rfl, s, e2, post_same rh p q⟩)
      | dk kvs =>
        obtain ⟨w, e, p⟩ := ofO_inv (α := Unit) p'
        obtain ⟨es, e1, r⟩ := rh.dk ga
        obtain ⟨v, e2, q⟩ := r.get e
        exact .inr ⟨_, v, rfl, by rw [← e2]; exact DGet.k (k := Sum.inl i) e1, post_same rh p q⟩
      | dz _ => exact p'.elim
      | ins _ _ => exact p'.elim
      | err _ => exact p'.elim
  case loc.str a ha i =>
    have p' : Post F (RV F.K) σ ρ h.n H (match h.get a with
      | some (.dk kvs) => ofO (dGet kvs (.inr i)) h
      | _ => .stuck) Q := p
    clear p
    cases ga : h.get a with
    | none => rw [ga] at p'; exact p'.elim
    | some c =>
      rw [ga] at p'
      cases c with
      | lst ws => exact p'.elim
      | dk kvs =>
        obtain ⟨w, e, p⟩ := ofO_inv (α := Unit) p'
        obtain ⟨es, e1, r⟩ := rh.dk ga
        obtain ⟨v, e2, q⟩ := r.get e
        exact .inr ⟨_, v, rfl, by rw [← e2]; exact DGet.k (k := Sum.inr i) e1, post_same rh p q⟩
      | dz _ => exact p'.elim
      | ins _ _ => exact p'.elim
      | err _ => exact p'.elim
/-- a slice -/
theorem s_sl {ρ : Nat → Addr} {h : IH} {H : Hp} {σ : L2.St} {x : W} {v : V} {lo hi : Option Int} {Q : VK} (rh : RH F.K F.C ρ h H) (rx : RV F.K ρ h.n H x v) (p : Post F (RV F.K) σ ρ h.n H (oSl lo hi x h) Q) : rSlL F.K v lo hi H Q ∨ rSlA F.K v lo hi H Q := by
  cases rx <;> first | exact False.elim p | skip
  case tup ws a vs s1 r1 =>
    refine .inr ⟨a, vs, rfl, s1, fun e => ?_, fun _ => ?_⟩
    · have e2 : cutW ws lo hi = ws := by
        unfold cutW
        rw [r1.length, e.1, e.2, List.drop_zero, Nat.sub_zero, ← r1.length, List.take_length]
      have p' : Post F (RV F.K) σ ρ h.n H (.ok (.tup (cutW ws lo hi)) h) Q := p
      rw [e2] at p'
      exact post_same rh p' (.tup s1 r1)
    · refine post_tup rh ?_ p
      unfold cutW cutV
      rw [r1.length]
      exact (r1.drop _).take _
  case loc a ha =>
    have p' : Post F (RV F.K) σ ρ h.n H (match listAt h a with
      | some ws => .ok (.loc h.n) (h.new (.lst (cutW ws lo hi)))
      | none => .stuck) Q := p
    cases g : listAt h a with
    | none => rw [g] at p'; exact p'.elim
    | some ws =>
      rw [g] at p'
      obtain ⟨vs, s, r, _⟩ := rh.list g
      refine .inl ⟨_, vs, rfl, s, post_lst rh ?_ p'⟩
      unfold cutW cutV
      rw [r.length]
      exact (r.drop _).take _
  case ro ws a vs s r =>
    refine .inl ⟨_, vs, rfl, s.sq, post_lst rh ?_ p⟩
    unfold cutW cutV
    rw [r.length]
    exact (r.drop _).take _
/-! ### in -/
theorem flat_ok {ρ : Nat → Addr} {n : Nat} {H : Hp} {x : W} {v : V} (r : RV F.K ρ n H x v) (e : flatW x = true) : flatV v = true := by
  cases r <;> first | rfl | cases e
theorem flats_ok {ρ : Nat → Addr} {n : Nat} {H : Hp} : ∀ {x : List W} {v : List V}, RVs F.K ρ n H x v → x.all flatW = true → v.all flatV = true
  | _, _, .nil, _ => rfl
  | _, _, .cons a r, e => by
    rw [List.all_cons, Bool.and_eq_true_iff] at e
    rw [List.all_cons, flat_ok a e.1, flats_ok r e.2]; rfl
theorem eqFlat_ok {ρ : Nat → Addr} {n : Nat} {H : Hp} {x y : W} {v u : V} (rx : RV F.K ρ n H x v) (ry : RV F.K ρ n H y u) (hx : flatW x = true) (hy : flatW y = true) : eqV v u = eqFlat x y := by
  cases rx <;> cases ry <;> first | (cases hx; done) | (cases hy; done) | rfl | skip
theorem inFlat_ok {ρ : Nat → Addr} {n : Nat} {H : Hp} {x : W} {v : V} (rx : RV F.K ρ n H x v) (hx : flatW x = true) : ∀ {ws : List W} {vs : List V}, RVs F.K ρ n H ws vs → ws.all flatW = true → inV v vs = inFlat x ws
  | _, _, .nil, _ => rfl
  | _, _, .cons (w := w) (ws := ws) (v := u) (vs := us) a r, e => by
    rw [List.all_cons, Bool.and_eq_true_iff] at e
    have ih := inFlat_ok rx hx r e.2
    show (eqV u v || inV v us) = (match eqFlat w x with
      | true => true
      | false => inFlat x ws)
    rw [eqFlat_ok a rx e.1 hx, ih]
    cases eqFlat w x <;> rfl
end
end Fw

set_option Elab.async false
set_option linter.all false
set_option maxRecDepth 100000
set_option maxHeartbeats 1000000
namespace Fw
open PySem L2
section
variable (F : Fx)
def OpN (k : List W → IH → Rs W) (r : List V → Hp → VK → Prop) : Prop := ∀ (ρ : Nat → Addr) (h : IH) (H : Hp) (σ : L2.St) (ws : List W) (vs : List V) (Q : VK), RH F.K F.C ρ h H → RVs F.K ρ h.n H ws vs → Post F (RV F.K) σ ρ h.n H (k ws h) Q → r vs H Q
/-- a method: the receiver, the arguments -/
def OpM (k : List W → IH → Rs W) (r : V → List V → Hp → VK → Prop) : Prop := ∀ (ρ : Nat → Addr) (h : IH) (H : Hp) (σ : L2.St) (w : W) (ws : List W) (v : V) (vs : List V) (Q : VK), RH F.K F.C ρ h H → RV F.K ρ h.n H w v → RVs F.K ρ h.n H ws vs → Post F (RV F.K) σ ρ h.n H (k (w :: ws) h) Q → r v vs H Q
end
section
variable {F : Fx}
/-- in: over a list or tuple of flat things, a list of data, a dict -/
theorem in_ok {ρ : Nat → Addr} {h : IH} {H : Hp} {x y : W} {v u : V} {b : Bool} (rh : RH F.K F.C ρ h H) (rx : RV F.K ρ h.n H x v) (ry : RV F.K ρ h.n H y u) (e : inW x y h = some b) :
    (∃ p xs, u = .ref p ∧ (SqL F.K H p xs ∨ SqT F.K H p xs) ∧ flatV v = true ∧ xs.all flatV = true ∧ inV v xs = b) ∨ (∃ d ds, Dp F.K H v d ∧ Dp F.K H u (.list ds) ∧ SeqAt.shaped d = true ∧ SeqAt.shaped (.list ds) = true ∧ (ds.any fun z => PyData.eqv z d) = b) ∨ ∃ a o, u = .ref a ∧ DGet H a v o ∧ o.isSome = b := by
  have lists : ∀ {a : Nat} {ws : List W}, a < h.n → listAt h a = some ws → (match flatW x && ws.all flatW with
      | true => some (inFlat x ws)
      | false => memO x ws h) = some b → (∃ p xs, V.ref (ρ a) = .ref p ∧ (SqL F.K H p xs ∨ SqT F.K H p xs) ∧ flatV v = true ∧ xs.all flatV = true ∧ inV v xs = b) ∨ (∃ d ds, Dp F.K H v d ∧ Dp F.K H (V.ref (ρ a)) (.list ds) ∧ SeqAt.shaped d = true ∧ SeqAt.shaped (.list ds) = true ∧ (ds.any fun z => PyData.eqv z d) = b) := fun {a ws} ha g e => by
    obtain ⟨vs, s, r, _⟩ := rh.list g
    cases q : flatW x && ws.all flatW with
    | true =>
      rw [q] at e
      cases e
      obtain ⟨q1, q2⟩ := Bool.and_eq_true_iff.mp q
      exact .inl ⟨_, vs, rfl, .inl s, flat_ok rx q1, flats_ok r q2, inFlat_ok rx q1 r q2⟩
    | false =>
      rw [q] at e
      dsimp only at e
      unfold memO at e
      cases qx : dat h x with
      | none => rw [qx] at e; cases e
      | some d =>
        rw [qx] at e
        dsimp only at e
        cases qw : mapO (toD 64 h) ws with
        | none => rw [qw] at e; cases e
        | some ds =>
          rw [qw] at e
          dsimp only at e
          cases qs : SeqAt.shaped d && SeqAt.shaped (.list ds) with
          | false => rw [qs] at e; cases e
          | true =>
            rw [qs] at e
            cases e
            obtain ⟨s1, s2⟩ := Bool.and_eq_true_iff.mp qs
            exact .inr ⟨d, ds, toD_dp rh _ _ _ _ rx qx, .lst s (toDs_dp rh _ _ _ _ r qw), s1, s2, rfl⟩
  cases ry <;> simp only [inW] at e <;> first | (cases e; done) | skip
  case tup ws a vs s1 r1 =>
    cases q : flatW x && ws.all flatW with
    | false => rw [q] at e; cases e
    | true =>
      rw [q] at e
      cases e
      obtain ⟨q1, q2⟩ := Bool.and_eq_true_iff.mp q
      exact .inl ⟨_, vs, rfl, .inr s1, flat_ok rx q1, flats_ok r1 q2, inFlat_ok rx q1 r1 q2⟩
  case loc a ha =>
    cases ga : h.get a with
    | none => rw [ga] at e; cases e
    | some c =>
      rw [ga] at e
      cases c with
      | lst ws =>
        rcases lists ha (show listAt h a = some ws by unfold listAt; rw [ga]) e with z | z
        · exact .inl z
        · exact .inr (.inl z)
      | dk kvs =>
        dsimp only at e
        cases qk : keyOf x with
        | none => rw [qk] at e; cases e
        | some k =>
          rw [qk] at e
          cases e
          obtain ⟨es, e1, r⟩ := rh.dk ga
          have ek := keyOf_ok rx qk
          subst ek
          refine .inr (.inr ⟨_, _, rfl, DGet.k e1, ?_⟩)
          cases g : dGet kvs k with
          | none => rw [r.getN g]; rfl
          | some w => obtain ⟨z, h1, _⟩ := r.get g; rw [h1]; rfl
      | dz _ => cases e
      | ins _ _ => cases e
      | err _ => cases e
theorem s_in : Op2 F oIn (fun x y H Q => (rIn F.K false x y H Q ∨ rInD F.K x y H Q) ∨ ∃ a o, y = .ref a ∧ DGet H a x o ∧ Q (.bl o.isSome) H) := by
  intro ρ h H σ x y v u Q rh rx ry p
  unfold oIn at p
  cases q : inW x y h with
  | none => rw [q] at p; exact p.elim
  | some b =>
    rw [q] at p
    have hq : Q (.bl b) H := post_same rh p .bl
    rcases in_ok rh rx ry q with ⟨pl, xs, e, s, f1, f2, e2⟩ | ⟨d, ds, h1, h2, h3, h4, e2⟩ | ⟨a, o, e, g, e2⟩
    · refine .inl (.inl ⟨pl, xs, e, s, f1, f2, ?_⟩)
      rw [if_neg (by decide), e2]; exact hq
    · exact .inl (.inr ⟨d, ds, h1, h2, h3, h4, by rw [e2]; exact hq⟩)
    · exact .inr ⟨a, o, e, g, by rw [e2]; exact hq⟩
theorem s_notin : Op2 F oNotIn (fun x y H Q => (rIn F.K true x y H Q ∨ rNotInD F.K x y H Q) ∨ ∃ a o, y = .ref a ∧ DGet H a x o ∧ Q (.bl (!o.isSome)) H) := by
  intro ρ h H σ x y v u Q rh rx ry p
  unfold oNotIn at p
  cases q : inW x y h with
  | none => rw [q] at p; exact p.elim
  | some b =>
    rw [q] at p
    have hq : Q (.bl !b) H := post_same rh p .bl
    rcases in_ok rh rx ry q with ⟨pl, xs, e, s, f1, f2, e2⟩ | ⟨d, ds, h1, h2, h3, h4, e2⟩ | ⟨a, o, e, g, e2⟩
    · refine .inl (.inl ⟨pl, xs, e, s, f1, f2, ?_⟩)
      rw [if_pos rfl, e2]; exact hq
    · exact .inl (.inr ⟨d, ds, h1, h2, h3, h4, by rw [e2]; exact hq⟩)
    · exact .inr ⟨a, o, e, g, by rw [e2]; exact hq⟩

/-! ### kinds -/
def tyN : Ty → String
  | .non => "NoneType" | .bool => "bool" | .int => "int" | .str => "str" | .tuple => "tuple" | .list => "list" | .dict => "dict" | .own _ => "object"
theorem ty_ok {ρ : Nat → Addr} {h : IH} {H : Hp} {x : W} {v : V} {t : Ty} (rh : RH F.K F.C ρ h H) (rx : RV F.K ρ h.n H x v) (e : tyOf h x = some t) (o : isOwn t = false) : TyX F.K H v (.type (tyN t)) := by
  cases rx <;> simp only [tyOf] at e
  case non => cases e; exact .base .non
  case bl => cases e; exact .base (.bl _)
  case int => cases e; exact .base (.int _)
  case str => cases e; exact .base (.str _)
  case ro => cases e
  case tup ws a vs s1 r1 =>
    cases e
    rcases s1 with (s | ⟨o, s⟩) | ⟨o, its, n, s, c, _⟩
    · exact .base (.tup s)
    · exact .fTuple s
    · exact .kTuple s c
  case loc a ha =>
    cases ga : h.get a with
    | none => rw [ga] at e; cases e
    | some c =>
      rw [ga] at e
      have z := rh.cell a c ga
      cases c with
      | lst ws => cases e; obtain ⟨vs, z, _⟩ := z; exact .base (.lst z)
      | dk kvs => cases e; obtain ⟨vs, z, _⟩ := z; exact .base (.dK z)
      | dz _ => cases e
      | ins c fs => cases e; cases o
      | err _ => cases e
theorem kit_tab : ∀ t u : Ty, isOwn t = false → isOwn u = false → kitB (tyN t) (tyN u) = some (isTy t u)
  | .own _, _, h, _ => by cases h
  | _, .own _, _, h => by cases h
  | .non, .non, _, _ => by decide +kernel
  | .non, .bool, _, _ => by decide +kernel
  | .non, .int, _, _ => by decide +kernel
  | .non, .str, _, _ => by decide +kernel
  | .non, .tuple, _, _ => by decide +kernel
  | .non, .list, _, _ => by decide +kernel
  | .non, .dict, _, _ => by decide +kernel
  | .bool, .non, _, _ => by decide +kernel
  | .bool, .bool, _, _ => by decide +kernel
  | .bool, .int, _, _ => by decide +kernel
  | .bool, .str, _, _ => by decide +kernel
  | .bool, .tuple, _, _ => by decide +kernel
  | .bool, .list, _, _ => by decide +kernel
  | .bool, .dict, _, _ => by decide +kernel
  | .int, .non, _, _ => by decide +kernel
  | .int, .bool, _, _ => by decide +kernel
  | .int, .int, _, _ => by decide +kernel
  | .int, .str, _, _ => by decide +kernel
  | .int, .tuple, _, _ => by decide +kernel
  | .int, .list, _, _ => by decide +kernel
  | .int, .dict, _, _ => by decide +kernel
  | .str, .non, _, _ => by decide +kernel
  | .str, .bool, _, _ => by decide +kernel
  | .str, .int, _, _ => by decide +kernel
  | .str, .str, _, _ => by decide +kernel
  | .str, .tuple, _, _ => by decide +kernel
  | .str, .list, _, _ => by decide +kernel
  | .str, .dict, _, _ => by decide +kernel
  | .tuple, .non, _, _ => by decide +kernel
  | .tuple, .bool, _, _ => by decide +kernel
  | .tuple, .int, _, _ => by decide +kernel
  | .tuple, .str, _, _ => by decide +kernel
  | .tuple, .tuple, _, _ => by decide +kernel
  | .tuple, .list, _, _ => by decide +kernel
  | .tuple, .dict, _, _ => by decide +kernel
  | .list, .non, _, _ => by decide +kernel
  | .list, .bool, _, _ => by decide +kernel
  | .list, .int, _, _ => by decide +kernel
  | .list, .str, _, _ => by decide +kernel
  | .list, .tuple, _, _ => by decide +kernel
  | .list, .list, _, _ => by decide +kernel
  | .list, .dict, _, _ => by decide +kernel
  | .dict, .non, _, _ => by decide +kernel
  | .dict, .bool, _, _ => by decide +kernel
  | .dict, .int, _, _ => by decide +kernel
  | .dict, .str, _, _ => by decide +kernel
  | .dict, .tuple, _, _ => by decide +kernel
  | .dict, .list, _, _ => by decide +kernel
  | .dict, .dict, _, _ => by decide +kernel
theorem kit_anyT {K : PySem.W.Frag} {t : Ty} (ht : isOwn t = false) : ∀ us : List Ty, (us.all fun u => !isOwn u) = true → PySem.W.kitAny K (.type (tyN t)) (us.map fun u => Value.type (tyN u)) = some (us.any fun u => isTy t u)
  | [], _ => rfl
  | u :: us, h => by
    rw [List.all_cons, Bool.and_eq_true_iff] at h
    have hu : isOwn u = false := by simpa using h.1
    have e := kit_tab t u ht hu
    rw [List.map_cons, List.any_cons]
    cases q : isTy t u with
    | true => exact kitAny_cons (kit_ty (by rw [e, q])) (fun z => by cases z) fun _ => rfl
    | false => exact kitAny_cons (kit_ty (by rw [e, q])) (fun _ => by rw [Bool.false_or]; exact kit_anyT ht us h.2) fun z => by cases z
theorem clsVs : ∀ us : List Ty, Paired ClsV (us.map fun u => V.ty (tyN u)) (us.map fun u => Value.type (tyN u))
  | [] => .nil
  | u :: us => .cons (.ty _) (clsVs us)
end
end Fw

set_option Elab.async false
set_option linter.all false
set_option maxRecDepth 100000
set_option maxHeartbeats 1000000
namespace Fw
open PySem L2
section
variable {F : Fx}
theorem rvs1 {ρ : Nat → Addr} {n : Nat} {H : Hp} {w : W} {vs : List V} (r : RVs F.K ρ n H [w] vs) : ∃ v, vs = [v] ∧ RV F.K ρ n H w v := by
  cases r with
  | cons a b => cases b; exact ⟨_, rfl, a⟩
theorem rvs2 {ρ : Nat → Addr} {n : Nat} {H : Hp} {w x : W} {vs : List V} (r : RVs F.K ρ n H [w, x] vs) : ∃ v u, vs = [v, u] ∧ RV F.K ρ n H w v ∧ RV F.K ρ n H x u := by
  cases r with
  | cons a b => obtain ⟨u, rfl, q⟩ := rvs1 b; exact ⟨_, _, rfl, a, q⟩
theorem OpN.of1 {k : W → IH → Rs W} {r : List V → Hp → VK → Prop} (hk : Op1 F k fun v H Q => r [v] H Q) : OpN F (k1 k) r := by
  intro ρ h H σ ws vs Q rh rv p
  match ws, rv, p with
  | [], _, p => exact False.elim p
  | [w], rv, p =>
    obtain ⟨v, rfl, q⟩ := rvs1 rv
    exact hk ρ h H σ w v Q rh q p
  | _ :: _ :: _, _, p => exact False.elim p
theorem OpN.of2 {k : W → W → IH → Rs W} {r : List V → Hp → VK → Prop} (hk : Op2 F k fun v u H Q => r [v, u] H Q) : OpN F (k2 k) r := by
  intro ρ h H σ ws vs Q rh rv p
  match ws, rv, p with
  | [], _, p => exact False.elim p
  | [_], _, p => exact False.elim p
  | [w, x], rv, p =>
    obtain ⟨v, u, rfl, q1, q2⟩ := rvs2 rv
    exact hk ρ h H σ w x v u Q rh q1 q2 p
  | _ :: _ :: _ :: _, _, p => exact False.elim p
theorem s_len : Op1 F oLen (fun v H Q => (∃ p ys, [v] = [V.ref p] ∧ (SqL F.K H p ys ∨ SqT F.K H p ys) ∧ Q (.int ys.length) H) ∨ (∃ z, [v] = [V.str z] ∧ z.length ≤ sizeLine ∧ Q (.int z.length) H) ∨ ∃ d kvs, [v] = [V.ref d] ∧ H d = some (.dK kvs) ∧ Q (.int kvs.length) H) := by
  intro ρ h H σ x v Q rh rx p
  cases rx <;> first | exact False.elim p | skip
  case str z =>
    obtain ⟨q, p⟩ := need_inv p
    exact .inr (.inl ⟨z, rfl, line_of q, post_same rh p .int⟩)
  case tup ws a vs s1 r1 =>
    refine .inl ⟨a, vs, rfl, .inr s1, ?_⟩
    rw [← r1.length]
    exact post_same rh p .int
  case loc a ha =>
    have p' : Post F (RV F.K) σ ρ h.n H (match h.get a with
      | some (.lst ws) => .ok (.int ws.length) h
      | some (.dk kvs) => .ok (.int kvs.length) h
      | _ => .stuck) Q := p
    clear p
    cases ga : h.get a with
    | none => rw [ga] at p'; exact p'.elim
    | some c =>
      rw [ga] at p'
      cases c with
      | lst ws =>
        obtain ⟨vs, s, r, _⟩ := rh.list (show listAt h a = some ws by unfold listAt; rw [ga])
        exact .inl ⟨_, vs, rfl, .inl s, by rw [← r.length]; exact post_same rh p' .int⟩
      | dk kvs =>
        obtain ⟨es, e1, r⟩ := rh.dk ga
        exact .inr (.inr ⟨_, es, rfl, e1, by rw [← r.length]; exact post_same rh p' .int⟩)
      | dz _ => exact p'.elim
      | ins _ _ => exact p'.elim
      | err _ => exact p'.elim
theorem asB_ok {ρ : Nat → Addr} {n : Nat} {H : Hp} : ∀ {ws : List W} {vs : List V} {bs : List Bool}, RVs F.K ρ n H ws vs → mapO asB ws = some bs → vs = bs.map V.bl
  | _, _, _, .nil, e => by cases e; rfl
  | _, _, bs, .cons (w := w) (ws := ws) a r, e => by
    rw [mapO_cons] at e
    cases a <;> simp only [asB] at e <;> first | (cases e; done) | skip
    cases q : mapO asB ws with
    | none => rw [q] at e; cases e
    | some cs => rw [q] at e; cases e; rw [asB_ok r q]; rfl
theorem asI_ok {ρ : Nat → Addr} {n : Nat} {H : Hp} : ∀ {ws : List W} {vs : List V} {bs : List Int}, RVs F.K ρ n H ws vs → mapO asI ws = some bs → vs = bs.map V.int
  | _, _, _, .nil, e => by cases e; rfl
  | _, _, bs, .cons (w := w) (ws := ws) a r, e => by
    rw [mapO_cons] at e
    cases a <;> simp only [asI] at e <;> first | (cases e; done) | skip
    cases q : mapO asI ws with
    | none => rw [q] at e; cases e
    | some cs => rw [q] at e; cases e; rw [asI_ok r q]; rfl
theorem s_all : Op1 F oAll (fun v H Q => rAll F.K [v] H Q) := by
  intro ρ h H σ x v Q rh rx p
  cases rx <;> first | exact False.elim p | skip
  case loc a ha =>
    unfold oAll at p
    dsimp only at p
    cases g : listAt h a with
    | none => rw [g] at p; exact p.elim
    | some ws =>
      rw [g] at p
      dsimp only at p
      obtain ⟨vs, s, r, _⟩ := rh.list g
      cases q : mapO asB ws with
      | none => rw [q] at p; exact p.elim
      | some bs =>
        rw [q] at p
        have e := asB_ok r q
        subst e
        exact ⟨_, bs, rfl, s, post_same rh p .bl⟩
theorem s_any : Op1 F oAny (fun v H Q => rAny F.K [v] H Q) := by
  intro ρ h H σ x v Q rh rx p
  cases rx <;> first | exact False.elim p | skip
  case loc a ha =>
    unfold oAny at p
    dsimp only at p
    cases g : listAt h a with
    | none => rw [g] at p; exact p.elim
    | some ws =>
      rw [g] at p
      dsimp only at p
      obtain ⟨vs, s, r, _⟩ := rh.list g
      cases q : mapO asB ws with
      | none => rw [q] at p; exact p.elim
      | some bs =>
        rw [q] at p
        have e := asB_ok r q
        subst e
        exact ⟨_, bs, rfl, s, post_same rh p .bl⟩
theorem s_sum : Op1 F oSum (fun v H Q => rSum F.K [v] H Q) := by
  intro ρ h H σ x v Q rh rx p
  cases rx <;> first | exact False.elim p | skip
  case loc a ha =>
    unfold oSum at p
    dsimp only at p
    cases g : listAt h a with
    | none => rw [g] at p; exact p.elim
    | some ws =>
      rw [g] at p
      dsimp only at p
      obtain ⟨vs, s, r, _⟩ := rh.list g
      cases q : mapO asI ws with
      | none => rw [q] at p; exact p.elim
      | some bs =>
        rw [q] at p
        have e := asI_ok r q
        subst e
        exact ⟨_, bs, rfl, s, post_same rh p .int⟩
/-! ### sorted -/
theorem insI_perm (i : Int) : ∀ l : List Int, (insI i l).Perm (i :: l)
  | [] => .refl _
  | j :: r => by
    unfold insI
    cases decide (i ≤ j) with
    | true => exact .refl _
    | false => exact ((insI_perm i r).cons j).trans (.swap i j r)
theorem sortI_perm : ∀ l : List Int, (sortI l).Perm l
  | [] => .refl _
  | i :: r => (insI_perm i _).trans ((sortI_perm r).cons i)
theorem insI_sorted (i : Int) : ∀ l : List Int, l.Pairwise (· ≤ ·) → (insI i l).Pairwise (· ≤ ·)
  | [], _ => List.pairwise_singleton _ _
  | j :: r, h => by
    unfold insI
    cases q : decide (i ≤ j) with
    | true =>
      have q' := of_decide_eq_true q
      rw [List.pairwise_cons] at h
      exact List.pairwise_cons.mpr ⟨fun x hx => by
        rcases List.mem_cons.mp hx with rfl | hx
        · exact q'
        · exact Int.le_trans q' (h.1 x hx), List.pairwise_cons.mpr h⟩
    | false =>
      have q' := of_decide_eq_false q
      rw [List.pairwise_cons] at h
      refine List.pairwise_cons.mpr ⟨fun x hx => ?_, insI_sorted i r h.2⟩
      rcases List.mem_cons.mp ((insI_perm i r).mem_iff.mp hx) with rfl | hx
      · omega
      · exact h.1 x hx
theorem sortI_sorted : ∀ l : List Int, (sortI l).Pairwise (· ≤ ·)
  | [] => .nil
  | i :: r => insI_sorted i _ (sortI_sorted r)
theorem sorted_one : ∀ {l m : List Int}, l.Perm m → l.Pairwise (· ≤ ·) → m.Pairwise (· ≤ ·) → l = m
  | [], m, p, _, _ => by rw [List.nil_perm.mp p]
  | i :: r, [], p, _, _ => absurd p.length_eq (by simp)
  | i :: r, j :: s, p, h1, h2 => by
    rw [List.pairwise_cons] at h1 h2
    have e : i = j := by
      have a : j ∈ i :: r := p.mem_iff.mpr List.mem_cons_self
      have b : i ∈ j :: s := p.mem_iff.mp List.mem_cons_self
      rcases List.mem_cons.mp a with a | a
      · exact a.symm
      · rcases List.mem_cons.mp b with b | b
        · exact b
        · exact Int.le_antisymm (h1.1 j a) (h2.1 i b)
    subst e
    rw [sorted_one ((List.perm_cons i).mp p) h1.2 h2.2]
theorem sortI_one {ns ys : List Int} (p : ys.Perm ns) (s : ys.Pairwise (· ≤ ·)) : ys = sortI ns := sorted_one (p.trans (sortI_perm ns).symm) s (sortI_sorted ns)
theorem rvs_ints {ρ : Nat → Addr} {n : Nat} {H : Hp} : ∀ ns : List Int, RVs F.K ρ n H (ns.map W.int) (ns.map V.int)
  | [] => .nil
  | _ :: r => .cons .int (rvs_ints r)
theorem intKey_ok {ρ : Nat → Addr} {n : Nat} {H : Hp} : ∀ {ws : List (Key × W)} {es : List (Key × V)} {ns : List Int}, RKs F.K ρ n H ws es → mapO intKey ws = some ns → es.map (·.1) = ns.map Sum.inl
  | _, _, _, .nil, e => by cases e; rfl
  | _, _, ns, .cons (k := k) (ws := ws) a r, e => by
    rw [mapO_cons] at e
    cases k with
    | inr s => cases e
    | inl i =>
      simp only [intKey] at e
      cases q : mapO intKey ws with
      | none => rw [q] at e; cases e
      | some cs => rw [q] at e; cases e; rw [List.map_cons, intKey_ok r q]; rfl
def rSortedDI : V → Hp → VK → Prop := fun v H Q => ∃ (a : Addr) (kvs : List (Key × V)) (ks : List Int), [v] = [.ref a] ∧ Rd H a (.dK kvs) ∧ kvs.map (·.1) = ks.map Sum.inl ∧ ks.length < 64 ∧
    ∀ (ys : List Int) (p : Addr), ys.Perm ks → ys.Pairwise (· ≤ ·) → H p = none → Q (.ref p) (upd H p (.lst (ys.map V.int)))
theorem s_sorted : Op1 F oSorted (fun v H Q => rSortedI F.K [v] H Q ∨ rSortedDI v H Q) := by
  intro ρ h H σ x v Q rh rx p
  cases rx <;> first | exact False.elim p | skip
  case loc a ha =>
    have p' : Post F (RV F.K) σ ρ h.n H (match h.get a with
      | some (.lst ws) => (match mapO asI ws with
        | some ns => .ok (.loc h.n) (h.new (.lst ((sortI ns).map W.int)))
        | none => .stuck)
      | some (.dk kvs) => (match mapO intKey kvs with
        | some ns => .need (Nat.ble ns.length 63) (.ok (.loc h.n) (h.new (.lst ((sortI ns).map W.int))))
        | none => .stuck)
      | _ => .stuck) Q := p
    clear p
    cases ga : h.get a with
    | none => rw [ga] at p'; exact p'.elim
    | some c =>
      rw [ga] at p'
      cases c with
      | lst ws =>
        obtain ⟨vs, s, r, _⟩ := rh.list (show listAt h a = some ws by unfold listAt; rw [ga])
        dsimp only at p'
        cases q : mapO asI ws with
        | none => rw [q] at p'; exact p'.elim
        | some ns =>
          rw [q] at p'
          have e := asI_ok r q
          subst e
          refine .inl ⟨_, ns, rfl, s, fun ys q hp hs hq => ?_⟩
          rw [sortI_one hp hs]
          exact post_lst rh (rvs_ints _) p' q hq
      | dk kvs =>
        obtain ⟨es, e1, r⟩ := rh.dk ga
        dsimp only at p'
        cases q : mapO intKey kvs with
        | none => rw [q] at p'; exact p'.elim
        | some ns =>
          rw [q] at p'
          obtain ⟨hl, p'⟩ := need_inv p'
          refine .inr ⟨_, es, ns, rfl, .inl e1, intKey_ok r q, Nat.lt_succ_of_le (Nat.le_of_ble_eq_true hl), fun ys q hp hs hq => ?_⟩
          rw [sortI_one hp hs]
          exact post_lst rh (rvs_ints _) p' q hq
      | dz _ => exact p'.elim
      | ins _ _ => exact p'.elim
      | err _ => exact p'.elim
theorem s_tuple : Op1 F oTuple (fun v H Q => ∃ p ys, [v] = [V.ref p] ∧ ((SqL F.K H p ys ∧ ∀ l, H l = none → Q (.ref l) (upd H l (.tup ys))) ∨ (SqT F.K H p ys ∧ Q (.ref p) H))) := by
  intro ρ h H σ x v Q rh rx p
  cases rx <;> first | exact False.elim p | skip
  case tup ws a vs s1 r1 => exact ⟨a, vs, rfl, .inr ⟨s1, post_same rh p (.tup s1 r1)⟩⟩
  case loc a ha =>
    unfold oTuple at p
    dsimp only at p
    cases g : listAt h a with
    | none => rw [g] at p; exact p.elim
    | some ws =>
      rw [g] at p
      obtain ⟨vs, s, r, _⟩ := rh.list g
      exact ⟨_, vs, rfl, .inl ⟨s, post_tup rh r p⟩⟩
theorem s_list : Op1 F oList (fun v H Q => ∃ p ys, [v] = [V.ref p] ∧ (SqL F.K H p ys ∨ SqT F.K H p ys) ∧ ∀ l, H l = none → Q (.ref l) (upd H l (.lst ys))) := by
  intro ρ h H σ x v Q rh rx p
  cases rx <;> first | exact False.elim p | skip
  case tup ws a vs s1 r1 => exact ⟨a, vs, rfl, .inr s1, post_lst rh r1 p⟩
  case loc a ha =>
    unfold oList at p
    dsimp only at p
    cases g : listAt h a with
    | none => rw [g] at p; exact p.elim
    | some ws =>
      rw [g] at p
      obtain ⟨vs, s, r, _⟩ := rh.list g
      exact ⟨_, vs, rfl, .inl s, post_lst rh r p⟩
theorem s_min2 : Op2 F oMin2 (fun x y H Q => ∃ i j, [x, y] = [.int i, .int j] ∧ Q (.int (if j < i then j else i)) H) := by
  intro ρ h H σ x y v u Q rh rx ry p
  cases rx <;> cases ry <;> first | exact False.elim p | skip
  exact ⟨_, _, rfl, post_same rh p .int⟩
theorem insU_mem (i : Int) : ∀ (l : List Int) (k : Int), k ∈ insU i l ↔ k = i ∨ k ∈ l
  | [], k => by simp [insU]
  | j :: r, k => by
    unfold insU
    cases q : decide (i < j) with
    | true => simp
    | false =>
      cases q2 : decide (i = j) with
      | true =>
        have e := of_decide_eq_true q2
        subst e
        simp
      | false =>
        simp only [List.mem_cons, insU_mem i r k]
        constructor
        · rintro (h | h | h)
          · exact .inr (.inl h)
          · exact .inl h
          · exact .inr (.inr h)
        · rintro (h | h | h)
          · exact .inr (.inl h)
          · exact .inl h
          · exact .inr (.inr h)
theorem insU_lt (i : Int) : ∀ l : List Int, l.Pairwise (· < ·) → (insU i l).Pairwise (· < ·)
  | [], _ => List.pairwise_singleton _ _
  | j :: r, h => by
    unfold insU
    obtain ⟨h1, h2⟩ := List.pairwise_cons.mp h
    cases q : decide (i < j) with
    | true =>
      have q' := of_decide_eq_true q
      exact List.pairwise_cons.mpr ⟨fun x hx => by
        rcases List.mem_cons.mp hx with rfl | hx
        · exact q'
        · exact Int.lt_trans q' (h1 x hx), h⟩
    | false =>
      have q' := of_decide_eq_false q
      cases q2 : decide (i = j) with
      | true => exact h
      | false =>
        have q3 := of_decide_eq_false q2
        refine List.pairwise_cons.mpr ⟨fun x hx => ?_, insU_lt i r h2⟩
        rcases (insU_mem i r x).mp hx with rfl | hx
        · omega
        · exact h1 x hx
theorem setI_lt : ∀ l : List Int, (setI l).Pairwise (· < ·)
  | [] => .nil
  | i :: r => insU_lt i _ (setI_lt r)
theorem setI_mem : ∀ (l : List Int) (k : Int), k ∈ setI l ↔ k ∈ l
  | [], k => Iff.rfl
  | i :: r, k => by rw [setI, insU_mem, setI_mem r k, List.mem_cons]
theorem asc_one : ∀ {l m : List Int}, l.Pairwise (· < ·) → m.Pairwise (· < ·) → (∀ k, k ∈ l ↔ k ∈ m) → l = m
  | [], [], _, _, _ => rfl
  | [], b :: m, _, _, h => absurd ((h b).mpr List.mem_cons_self) (by simp)
  | a :: l, [], _, _, h => absurd ((h a).mp List.mem_cons_self) (by simp)
  | a :: l, b :: m, h1, h2, h => by
    obtain ⟨p1, p2⟩ := List.pairwise_cons.mp h1
    obtain ⟨q1, q2⟩ := List.pairwise_cons.mp h2
    have e : a = b := by
      rcases List.mem_cons.mp ((h a).mp List.mem_cons_self) with e | e
      · exact e
      · rcases List.mem_cons.mp ((h b).mpr List.mem_cons_self) with f | f
        · exact f.symm
        · have := p1 b f; have := q1 a e; omega
    subst e
    rw [asc_one p2 q2 fun k => ?_]
    constructor
    · intro z
      rcases List.mem_cons.mp ((h k).mp (List.mem_cons_of_mem _ z)) with e | e
      · have := p1 k z; omega
      · exact e
    · intro z
      rcases List.mem_cons.mp ((h k).mpr (List.mem_cons_of_mem _ z)) with e | e
      · have := q1 k z; omega
      · exact e
def rSortSet (K : PySem.W.Frag) : V → Hp → VK → Prop := fun x H1 Q => ∃ (l : Addr) (ns : List Int), x = V.ref l ∧ SqL K H1 l (ns.map V.int) ∧ ns.length < 64 ∧
  ∀ (ms : List Int) (p : Addr), ms.Pairwise (· < ·) → (∀ k : Int, k ∈ ms ↔ k ∈ ns) → H1 p = none → Q (.ref p) (upd H1 p (.lst (ms.map V.int)))
theorem s_sortSet : Op1 F oSortSet (rSortSet F.K) := by
  intro ρ h H σ x v Q rh rx p
  cases rx <;> first | exact False.elim p | skip
  case loc a ha =>
    unfold oSortSet at p
    dsimp only at p
    cases g : listAt h a with
    | none => rw [g] at p; exact p.elim
    | some ws =>
      rw [g] at p
      dsimp only at p
      obtain ⟨vs, s, r, _⟩ := rh.list g
      cases q : mapO asI ws with
      | none => rw [q] at p; exact p.elim
      | some ns =>
        rw [q] at p
        obtain ⟨hl, p⟩ := need_inv p
        have e := asI_ok r q
        subst e
        refine ⟨_, ns, rfl, s, Nat.le_of_ble_eq_true hl, fun ms q hs hm hq => ?_⟩
        rw [asc_one hs (setI_lt ns) fun k => (hm k).trans (setI_mem ns k).symm]
        exact post_lst rh (rvs_ints _) p q hq
theorem minL_mem : ∀ (l : List Int) (i : Int), minL i l = i ∨ minL i l ∈ l
  | [], i => .inl rfl
  | j :: r, i => by
    unfold minL
    rcases minL_mem r (if j < i then j else i) with h | h
    · rw [h]
      by_cases q : j < i
      · rw [if_pos q]; exact .inr List.mem_cons_self
      · rw [if_neg q]; exact .inl rfl
    · exact .inr (List.mem_cons_of_mem _ h)
theorem minL_le : ∀ (l : List Int) (i : Int), minL i l ≤ i ∧ ∀ y ∈ l, minL i l ≤ y
  | [], i => ⟨Int.le_refl _, fun _ h => absurd h (by simp)⟩
  | j :: r, i => by
    unfold minL
    obtain ⟨h1, h2⟩ := minL_le r (if j < i then j else i)
    have : (if j < i then j else i) ≤ i ∧ (if j < i then j else i) ≤ j := by
      by_cases q : j < i
      · rw [if_pos q]; omega
      · rw [if_neg q]; omega
    refine ⟨by omega, fun y hy => ?_⟩
    rcases List.mem_cons.mp hy with rfl | hy
    · omega
    · exact h2 y hy
theorem maxL_mem : ∀ (l : List Int) (i : Int), maxL i l = i ∨ maxL i l ∈ l
  | [], i => .inl rfl
  | j :: r, i => by
    unfold maxL
    rcases maxL_mem r (if i < j then j else i) with h | h
    · rw [h]
      by_cases q : i < j
      · rw [if_pos q]; exact .inr List.mem_cons_self
      · rw [if_neg q]; exact .inl rfl
    · exact .inr (List.mem_cons_of_mem _ h)
theorem maxL_ge : ∀ (l : List Int) (i : Int), i ≤ maxL i l ∧ ∀ y ∈ l, y ≤ maxL i l
  | [], i => ⟨Int.le_refl _, fun _ h => absurd h (by simp)⟩
  | j :: r, i => by
    unfold maxL
    obtain ⟨h1, h2⟩ := maxL_ge r (if i < j then j else i)
    have : i ≤ (if i < j then j else i) ∧ j ≤ (if i < j then j else i) := by
      by_cases q : i < j
      · rw [if_pos q]; omega
      · rw [if_neg q]; omega
    refine ⟨by omega, fun y hy => ?_⟩
    rcases List.mem_cons.mp hy with rfl | hy
    · omega
    · exact h2 y hy
theorem s_min1 : Op1 F oMin1 (fun v H Q => rMin F.K [v] H Q) := by
  intro ρ h H σ x v Q rh rx p
  cases rx <;> first | exact False.elim p | skip
  case loc a ha =>
    unfold oMin1 at p
    dsimp only at p
    cases g : listAt h a with
    | none => rw [g] at p; exact p.elim
    | some ws =>
      rw [g] at p
      dsimp only at p
      obtain ⟨vs, s, r, _⟩ := rh.list g
      cases q : mapO asI ws with
      | none => rw [q] at p; exact p.elim
      | some bs =>
        rw [q] at p
        have e := asI_ok r q
        subst e
        cases bs with
        | nil => exact p.elim
        | cons i bs =>
          refine ⟨_, i :: bs, rfl, s, Nat.succ_pos _, fun m h1 h2 => ?_⟩
          have e : m = minL i bs := by
            obtain ⟨l1, l2⟩ := minL_le bs i
            have a1 : m ≤ minL i bs := by
              rcases minL_mem bs i with z | z
              · rw [z]; exact h2 i List.mem_cons_self
              · exact h2 _ (List.mem_cons_of_mem _ z)
            have a2 : minL i bs ≤ m := by
              rcases List.mem_cons.mp h1 with z | z
              · omega
              · exact l2 m z
            omega
          rw [e]
          exact post_same rh p .int
theorem s_max1 : Op1 F oMax1 (fun v H Q => rMax F.K [v] H Q) := by
  intro ρ h H σ x v Q rh rx p
  cases rx <;> first | exact False.elim p | skip
  case loc a ha =>
    unfold oMax1 at p
    dsimp only at p
    cases g : listAt h a with
    | none => rw [g] at p; exact p.elim
    | some ws =>
      rw [g] at p
      dsimp only at p
      obtain ⟨vs, s, r, _⟩ := rh.list g
      cases q : mapO asI ws with
      | none => rw [q] at p; exact p.elim
      | some bs =>
        rw [q] at p
        have e := asI_ok r q
        subst e
        cases bs with
        | nil => exact p.elim
        | cons i bs =>
          refine ⟨_, i :: bs, rfl, s, Nat.succ_pos _, fun m h1 h2 => ?_⟩
          have e : m = maxL i bs := by
            obtain ⟨l1, l2⟩ := maxL_ge bs i
            have a1 : maxL i bs ≤ m := by
              rcases maxL_mem bs i with z | z
              · rw [z]; exact h2 i List.mem_cons_self
              · exact h2 _ (List.mem_cons_of_mem _ z)
            have a2 : m ≤ maxL i bs := by
              rcases List.mem_cons.mp h1 with z | z
              · omega
              · exact l2 m z
            omega
          rw [e]
          exact post_same rh p .int
theorem s_kMin : OpN F kMin (fun vs H Q => rMin F.K vs H Q ∨ ∃ i j, vs = [.int i, .int j] ∧ Q (.int (if j < i then j else i)) H) := by
  intro ρ h H σ ws vs Q rh rv p
  match ws, rv, p with
  | [], _, p => exact False.elim p
  | [w], rv, p =>
    obtain ⟨v, rfl, q⟩ := rvs1 rv
    exact .inl (s_min1 ρ h H σ w v Q rh q p)
  | [w, x], rv, p =>
    obtain ⟨v, u, rfl, q1, q2⟩ := rvs2 rv
    exact .inr (s_min2 ρ h H σ w x v u Q rh q1 q2 p)
  | _ :: _ :: _ :: _, _, p => exact False.elim p
theorem s_int : Op1 F oInt (fun v H Q => (∃ i, [v] = [.int i] ∧ Q (.int i) H) ∨ ∃ k, [v] = [.bl k] ∧ Q (.int (if k then 1 else 0)) H) := by
  intro ρ h H σ x v Q rh rx p
  cases rx <;> first | exact False.elim p | skip
  · exact .inr ⟨_, rfl, post_same rh p .int⟩
  · exact .inl ⟨_, rfl, post_same rh p .int⟩

/-! ### methods -/
theorem m_append : OpM F mAppend rAppend := by
  intro ρ h H σ w ws v vs Q rh rw_ rv p
  cases rw_ <;> first | exact False.elim p | skip
  case loc a ha =>
    match ws, rv, p with
    | [], _, p => exact False.elim p
    | _ :: _ :: _, _, p => exact False.elim p
    | [w], rv, p =>
      obtain ⟨y, rfl, q⟩ := rvs1 rv
      have p' : Post F (RV F.K) σ ρ h.n H (match h.get a with
        | some (.lst ws) => .need (Nat.blt ws.length 16777216) (.ok .non (h.set a (.lst (ws ++ [w]))))
        | _ => .stuck) Q := p
      clear p
      cases ga : h.get a with
      | none => rw [ga] at p'; exact p'.elim
      | some c =>
        rw [ga] at p'
        cases c with
        | lst us =>
          obtain ⟨hl, p'⟩ := need_inv p'
          obtain ⟨xs, e1, r⟩ := rh.lst ga
          have hl' : us.length < 16777216 := Nat.le_of_ble_eq_true hl
          refine ⟨_, xs, y, rfl, rfl, e1, by rw [← r.length, sizeLine_eq]; exact hl', ?_⟩
          exact post_setL rh ga e1 (r.append (.cons q .nil)) p' fun _ _ _ _ => .non
        | dk _ => exact p'.elim
        | dz _ => exact p'.elim
        | ins _ _ => exact p'.elim
        | err _ => exact p'.elim
theorem m_pop0 : OpM F mPop0 rPop := by
  intro ρ h H σ w ws v vs Q rh rw_ rv p
  cases rw_ <;> first | exact False.elim p | skip
  case loc a ha =>
    match ws, rv, p with
    | _ :: _, _, p => exact False.elim p
    | [], rv, p =>
      cases rv
      have p' : Post F (RV F.K) σ ρ h.n H (match h.get a with
        | some (.lst ws) => (match ws[ws.length - 1]? with
          | some w => .ok w (h.set a (.lst ws.dropLast))
          | none => .stuck)
        | _ => .stuck) Q := p
      clear p
      cases ga : h.get a with
      | none => rw [ga] at p'; exact p'.elim
      | some c =>
        rw [ga] at p'
        cases c with
        | lst us =>
          dsimp only at p'
          obtain ⟨xs, e1, r⟩ := rh.lst ga
          cases q : us[us.length - 1]? with
          | none => rw [q] at p'; exact p'.elim
          | some w =>
            rw [q] at p'
            obtain ⟨y, e2, q2⟩ := r.get q
            refine ⟨_, xs, y, rfl, rfl, e1, by rw [← r.length]; exact e2, ?_⟩
            exact post_setL rh ga e1 r.dropLast p' fun _ _ _ x => x.rv q2
        | dk _ => exact p'.elim
        | dz _ => exact p'.elim
        | ins _ _ => exact p'.elim
        | err _ => exact p'.elim
theorem m_pop1 : OpM F mPop1 rPopAt := by
  intro ρ h H σ w ws v vs Q rh rw_ rv p
  cases rw_ <;> first | exact False.elim p | skip
  case loc a ha =>
    match ws, rv, p with
    | [], _, p => exact False.elim p
    | _ :: _ :: _, rv, p =>
      cases rv with
      | cons b _ => cases b <;> exact False.elim p
    | [w], rv, p =>
      obtain ⟨y, rfl, q⟩ := rvs1 rv
      cases q <;> first | exact False.elim p | skip
      case int i _ =>
        have p' : Post F (RV F.K) σ ρ h.n H (match h.get a with
          | some (.lst ws) => (match ixN ws.length i with
            | some k => (match ws[k]? with
              | some w => .need (small i) (.ok w (h.set a (.lst (ws.eraseIdx k))))
              | none => .stuck)
            | none => .stuck)
          | _ => .stuck) Q := p
        clear p
        cases ga : h.get a with
        | none => rw [ga] at p'; exact p'.elim
        | some c =>
          rw [ga] at p'
          cases c with
          | lst us =>
            dsimp only at p'
            obtain ⟨xs, e1, r⟩ := rh.lst ga
            cases q : ixN us.length i with
            | none => rw [q] at p'; exact p'.elim
            | some k =>
              rw [q] at p'
              dsimp only at p'
              cases q3 : us[k]? with
              | none => rw [q3] at p'; exact p'.elim
              | some w =>
                rw [q3] at p'
                obtain ⟨y, e2, q2⟩ := r.get q3
                obtain ⟨s1, s2, s3, s4⟩ := ixN_seq q
                obtain ⟨sz, p'⟩ := need_inv p'
                simp only [small, Bool.and_eq_true, decide_eq_true_eq] at sz
                refine ⟨_, xs, i, k, y, rfl, rfl, e1, by omega, by omega, by rw [← r.length]; exact s1, e2, ?_⟩
                exact post_setL rh ga e1 (r.eraseIdx k) p' fun _ _ _ x => x.rv q2
          | dk _ => exact p'.elim
          | dz _ => exact p'.elim
          | ins _ _ => exact p'.elim
          | err _ => exact p'.elim
theorem m_insert : OpM F mInsert (fun x vs H Q => ∃ (l : Addr) (xs : List V) (i : Int) (y : V), x = .ref l ∧ vs = [.int i, y] ∧ H l = some (.lst xs) ∧ xs.length < sizeLine ∧ 0 ≤ i ∧ i < 2 ^ 63 ∧ Q .non (upd H l (.lst (xs.take i.toNat ++ [y] ++ xs.drop i.toNat)))) := by
  intro ρ h H σ w ws v vs Q rh rw_ rv p
  cases rw_ <;> first | exact False.elim p | skip
  case loc a ha =>
    match ws, rv, p with
    | [], _, p => exact False.elim p
    | [w], rv, p =>
      obtain ⟨y, rfl, q⟩ := rvs1 rv
      cases q <;> exact False.elim p
    | _ :: _ :: _ :: _, rv, p =>
      cases rv with
      | cons b _ => cases b <;> exact False.elim p
    | [i, w], rv, p =>
      obtain ⟨j, y, rfl, qi, q⟩ := rvs2 rv
      cases qi <;> first | exact False.elim p | skip
      case int i _ =>
        have p' : Post F (RV F.K) σ ρ h.n H (match h.get a with
          | some (.lst ws) => .need (Nat.blt ws.length 16777216 && decide (0 ≤ i) && decide (i < 1000000)) (.ok .non (h.set a (.lst (ws.take i.toNat ++ [w] ++ ws.drop i.toNat))))
          | _ => .stuck) Q := p
        clear p
        cases ga : h.get a with
        | none => rw [ga] at p'; exact p'.elim
        | some c =>
          rw [ga] at p'
          cases c with
          | lst us =>
            obtain ⟨hb, p'⟩ := need_inv p'
            simp only [Bool.and_eq_true, decide_eq_true_eq] at hb
            obtain ⟨⟨hl, h0⟩, h1⟩ := hb
            have hl' : us.length < 16777216 := Nat.le_of_ble_eq_true hl
            obtain ⟨xs, e1, r⟩ := rh.lst ga
            refine ⟨_, xs, i, y, rfl, rfl, e1, by rw [← r.length, sizeLine_eq]; exact hl', h0, by omega, ?_⟩
            exact post_setL rh ga e1 (((r.take _).append (.cons q .nil)).append (r.drop _)) p' fun _ _ _ _ => .non
          | dk _ => exact p'.elim
          | dz _ => exact p'.elim
          | ins _ _ => exact p'.elim
          | err _ => exact p'.elim
end
end Fw

set_option Elab.async false
set_option linter.all false
set_option maxRecDepth 100000
set_option maxHeartbeats 1000000
/-! Fw, part D: expressions, tests, targets, statements. -/
namespace Fw
open PySem L2
abbrev FX (X : Cx) (C : Nat → Addr) (We : Nat → L2.St → Hp → Prop) : Fx := ⟨X.K, C, We⟩
section
variable {X : Cx} {C : Nat → Addr} {We : Nat → L2.St → Hp → Prop} {a b c : Expr} {pos : Pos} {fa fb fc : EE} {e : Expr} {es : List Expr}
theorem c_var {i : Nat} {x : Str} (h : PE X (.Name x pos) (tVar i)) : PE X (.Name x pos) (TI (FX X C We) (eVar i)) := PEmono h fun σ H Q ⟨ρ, e, h, rh, re, p⟩ => by
  unfold eVar at p
  cases q : e[i]? with
  | none => rw [q] at p; exact p.elim
  | some o =>
    cases o with
    | none => rw [q] at p; exact p.elim
    | some w =>
      rw [q] at p
      obtain ⟨v, h1, h2⟩ := re.at_ i w q
      exact ⟨v, h1, post_same rh p h2⟩
theorem c_C {w : W} {v : V} (h : PE X e (tC v)) (hv : ∀ ρ n H, RV X.K ρ n H w v) : PE X e (TI (FX X C We) (eC w)) := PEmono h fun σ H Q ⟨ρ, e, h, rh, re, p⟩ => post_same rh p (hv _ _ _)
theorem c_e2 {k : W → W → IH → Rs W} {r : R2} (h : PE X e (tOp r (TI (FX X C We) fa) (TI (FX X C We) fb))) (hk : Op2 (FX X C We) k r) : PE X e (TI (FX X C We) (e2 k fa fb)) := PEmono h fun σ H Q ⟨ρ, e, h, rh, re, p⟩ =>
  TG_.bind (k := fun x h => (fb e h).bind fun y h => k x y h) rh re p fun ρ1 x h1 v H1 rh1 re1 x1 rv p1 =>
    TG_.bind (k := fun y h => k x y h) rh1 re1 p1 fun ρ2 y h2 u H2 rh2 re2 x2 ru p2 => hk ρ2 h2 H2 σ x y v u Q rh2 (x2.rv rv) ru p2
theorem c_e1 {k : W → IH → Rs W} {r : V → Hp → VK → Prop} (h : PE X e (tUn r (TI (FX X C We) fa))) (hk : Op1 (FX X C We) k r) : PE X e (TI (FX X C We) (e1 k fa)) := PEmono h fun σ H Q ⟨ρ, e, h, rh, re, p⟩ =>
  TG_.bind (k := k) rh re p fun ρ1 x h1 v H1 rh1 re1 x1 rv p1 => hk ρ1 h1 H1 σ x v Q rh1 rv p1
/-- two ways for one expression, by what is asked last -/
theorem c_e2or {k : W → W → IH → Rs W} {r : R2} {t t' : L2.TE} (h1 : PE X e t) (h2 : PE X e t')
    (hk : ∀ σ H Q ρ (en : Env) h, RH X.K C ρ h H → REnv X.K ρ h.n H en σ → Post (FX X C We) (RV X.K) σ ρ h.n H (e2 k fa fb en h) Q → t σ H Q ∨ t' σ H Q) : PE X e (TI (FX X C We) (e2 k fa fb)) :=
  PEmono (PEor h1 h2) fun σ H Q ⟨ρ, e, h, rh, re, p⟩ => hk σ H Q ρ e h rh re p
/-! ### arguments -/
theorem a_nil : PA X [] (TIA (FX X C We) aNil) := ⟨fun pos pins s σ H Q I ⟨ρ, e, h, rh, re, p⟩ => pa_nil.run pos pins s σ H Q I (post_same rh p .nil)⟩
theorem a_cons {f : EE} {g : EA} (ha : PE X e (TI (FX X C We) f)) (hr : PA X es (TIA (FX X C We) g)) (hs : starEach (e :: es) X.env = (false, eval e X.env) :: starEach es X.env) : PA X (e :: es) (TIA (FX X C We) (aCons f g)) :=
  ⟨fun pos pins s σ H Q I ⟨ρ, e, h, rh, re, p⟩ => (pa_cons ha hr hs).run pos pins s σ H Q I
    (TG_.bind (k := fun w h => (g e h).bind fun ws h => .ok (w :: ws) h) rh re p fun ρ1 x h1 v H1 rh1 re1 x1 rv p1 =>
      TG_.bind (RA := RVs X.K) (k := fun ws h => .ok (x :: ws) h) rh1 re1 p1 fun ρ2 ws h2 vs H2 rh2 re2 x2 rvs p2 => post_same rh2 p2 (.cons (x2.rv rv) rvs))⟩
theorem isLst_ok {F : Fx} {ρ : Nat → Addr} {h : IH} {H : Hp} {x : W} {v : V} (rh : RH F.K F.C ρ h H) (rv : RV F.K ρ h.n H x v) (q : isLst x h = true) : ∃ p vs, v = .ref p ∧ H p = some (.lst vs) := by
  cases rv <;> first | (cases q; done) | skip
  case loc a ha =>
    have q' : (match h.get a with
      | some (.lst _) => true
      | _ => false) = true := q
    cases ga : h.get a with
    | none => rw [ga] at q'; cases q'
    | some c =>
      rw [ga] at q'
      cases c with
      | lst ws => obtain ⟨vs, e1, _⟩ := rh.lst ga; exact ⟨_, vs, rfl, e1⟩
      | dk _ => cases q'
      | dz _ => cases q'
      | ins _ _ => cases q'
      | err _ => cases q'
theorem isDk_ok {F : Fx} {ρ : Nat → Addr} {h : IH} {H : Hp} {x : W} {v : V} (rh : RH F.K F.C ρ h H) (rv : RV F.K ρ h.n H x v) (q : isDk x h = true) : ∃ p vs, v = .ref p ∧ H p = some (.dK vs) := by
  cases rv <;> first | (cases q; done) | skip
  case loc a ha =>
    have q' : (match h.get a with
      | some (.dk _) => true
      | _ => false) = true := q
    cases ga : h.get a with
    | none => rw [ga] at q'; cases q'
    | some c =>
      rw [ga] at q'
      cases c with
      | lst ws => cases q'
      | dk _ => obtain ⟨vs, e1, _⟩ := rh.dk ga; exact ⟨_, vs, rfl, e1⟩
      | dz _ => cases q'
      | ins _ _ => cases q'
      | err _ => cases q'
theorem c_tup {g : EA} {kk : Nat} (h : PA X es (TIA (FX X C We) g)) : PE X (.Tuple es kk pos) (TI (FX X C We) (eTup g)) := PEmono (pe_tup h) fun σ H Q ⟨ρ, e, h, rh, re, p⟩ =>
  TG_.bind (RA := RVs X.K) (RB := RV X.K) (k := fun ws h => .need (lenOk ws.length) (.ok (W.tup ws) h)) rh re p fun ρ1 ws h1 vs H1 rh1 re1 x1 rv p1 => by
    obtain ⟨q, p1⟩ := need_inv p1
    exact ⟨by rw [← rv.length]; exact line_of q, post_tup rh1 rv p1⟩
theorem c_lst {g : EA} (h : PA X es (TIA (FX X C We) g)) : PE X (.List es pos) (TI (FX X C We) (eLst g)) := PEmono (pe_lst h) fun σ H Q ⟨ρ, e, h, rh, re, p⟩ =>
  TG_.bind (RA := RVs X.K) (RB := RV X.K) (k := fun ws h => .need (lenOk ws.length) (.ok (W.loc h.n) (h.new (.lst ws)))) rh re p fun ρ1 ws h1 vs H1 rh1 re1 x1 rv p1 => by
    obtain ⟨q, p1⟩ := need_inv p1
    exact ⟨by rw [← rv.length]; exact line_of q, post_lst rh1 rv p1⟩
/-- a built-in's call -/
theorem c_eA {k : List W → IH → Rs W} {r : List V → Hp → VK → Prop} {g : EA} (h : PE X e (tCB r (TIA (FX X C We) g))) (hk : OpN (FX X C We) k r) : PE X e (TI (FX X C We) (eA k g)) := PEmono h fun σ H Q ⟨ρ, e, h, rh, re, p⟩ =>
  TG_.bind (RA := RVs X.K) (k := k) rh re p fun ρ1 ws h1 vs H1 rh1 re1 x1 rv p1 => hk ρ1 h1 H1 σ ws vs Q rh1 rv p1
/-- a method of a list -/
theorem c_mtL {k : List W → IH → Rs W} {r : V → List V → Hp → VK → Prop} {g : EA} (h : PE X e (tBM X.K "list" r (TI (FX X C We) fa) (TIA (FX X C We) g))) (hk : OpM (FX X C We) k r) : PE X e (TI (FX X C We) (eMt isLst k fa g)) := PEmono h fun σ H Q ⟨ρ, e, h, rh, re, p⟩ =>
  TG_.bind (k := fun x h => .need (isLst x h) ((g e h).bind fun ws h => k (x :: ws) h)) rh re p fun ρ1 x h1 v H1 rh1 re1 x1 rv p1 => by
    obtain ⟨q, p1⟩ := need_inv p1
    refine ⟨?_, TG_.bind (RA := RVs X.K) (k := fun ws h => k (x :: ws) h) rh1 re1 p1 fun ρ2 ws h2 vs H2 rh2 re2 x2 rvs p2 => hk ρ2 h2 H2 σ x ws v vs Q rh2 (x2.rv rv) rvs p2⟩
    obtain ⟨a, vs, rfl, e1⟩ := isLst_ok rh1 rv q
    exact .inl ⟨rfl, vs, .inl (.inl e1)⟩
theorem c_mtL0 {k : List W → IH → Rs W} {r : V → List V → Hp → VK → Prop} (h : PE X e (tBM0 X.K "list" r (TI (FX X C We) fa))) (hk : OpM (FX X C We) k r) : PE X e (TI (FX X C We) (eMt isLst k fa aNil)) := PEmono h fun σ H Q ⟨ρ, e, h, rh, re, p⟩ =>
  TG_.bind (k := fun x h => .need (isLst x h) ((aNil e h).bind fun ws h => k (x :: ws) h)) rh re p fun ρ1 x h1 v H1 rh1 re1 x1 rv p1 => by
    obtain ⟨q, p1⟩ := need_inv p1
    refine ⟨?_, hk ρ1 h1 H1 σ x [] v [] Q rh1 rv .nil p1⟩
    obtain ⟨a, vs, rfl, e1⟩ := isLst_ok rh1 rv q
    exact .inl ⟨rfl, vs, .inl (.inl e1)⟩
/-! ### subscripts, slices, in -/
def rDG : R2 := fun x y H Q => ∃ a v, x = .ref a ∧ DGet H a y (some v) ∧ Q v H
theorem ix_dict (hu : X.A.units + 1 < cLine) : IxR X rDG := by
  intro value slice pins s σ H x y v u Q I rx ry h hs
  obtain ⟨a, w, rfl, g, q⟩ := h
  obtain rfl : v = Value.ref a := rx
  exact PyProof.Rows.tail_any (dict_typeIs I g) PySem.F.slot_dict_getitem.lookup (d_getItem hu I g ry fun w' s3 I3 rw' => ⟨w, H, I3, rw', q⟩) hs
def rDI : R2 := fun x y H Q => ∃ a o, y = .ref a ∧ DGet H a x o ∧ Q (.bl o.isSome) H
def rDNI : R2 := fun x y H Q => ∃ a o, y = .ref a ∧ DGet H a x o ∧ Q (.bl (!o.isSome)) H
theorem op_inDict (hu : X.A.units + 1 < cLine) : OpR X (compareOp .In) rDI := by
  intro pins s σ H x y v u Q I rx ry h
  obtain ⟨a, o, rfl, g, q⟩ := h
  obtain rfl : u = Value.ref a := ry
  exact d_in hu I g rx fun s3 I3 => ⟨.bl o.isSome, H, I3, rfl, q⟩
theorem op_ninDict (hu : X.A.units + 1 < cLine) : OpR X (compareOp .NotIn) rDNI := by
  intro pins s σ H x y v u Q I rx ry h
  obtain ⟨a, o, rfl, g, q⟩ := h
  obtain rfl : u = Value.ref a := ry
  exact d_notIn hu I g rx fun s3 I3 => ⟨.bl (!o.isSome), H, I3, rfl, q⟩
theorem c_ix (hb : PlainIx b) (hu : X.A.units + 1 < cLine) (ha : PE X a (TI (FX X C We) fa)) (hi : PE X b (TI (FX X C We) fb)) : PE X (.Subscript a b pos) (TI (FX X C We) (e2 oIx fa fb)) :=
  c_e2 (pe_ix (IxR.or ix_seq (ix_dict hu)) ha hi hb) s_ix
theorem c_in (hm : behindInMarks .In b = false) (hu : X.A.units + 65 < cLine) (ha : PE X a (TI (FX X C We) fa)) (hi : PE X b (TI (FX X C We) fb)) : PE X (.Compare a [.In] [b] pos) (TI (FX X C We) (e2 oIn fa fb)) :=
  c_e2 (pe_cmpR (OpR.or (OpR.or op_in_seq (op_inD hu)) (op_inDict (by omega))) ha hi hm) s_in
theorem c_nin (hm : behindInMarks .NotIn b = false) (hu : X.A.units + 65 < cLine) (ha : PE X a (TI (FX X C We) fa)) (hi : PE X b (TI (FX X C We) fb)) : PE X (.Compare a [.NotIn] [b] pos) (TI (FX X C We) (e2 oNotIn fa fb)) :=
  c_e2 (pe_cmpR (OpR.or (OpR.or op_notIn_seq (op_notInD hu)) (op_ninDict (by omega))) ha hi hm) s_notin
/-! ### slices -/
def TIO (F : Fx) (f : EO) : L2.TO := TG_ F (fun _ _ _ a b => a = b) f
theorem o_none : PO X none (TIO (FX X C We) pNone) := ⟨fun pins s σ H Q I ⟨ρ, e, h, rh, re, p⟩ => po_none.run pins s σ H Q I (post_same rh p rfl)⟩
theorem o_some (ha : PE X a (TI (FX X C We) fa)) : PO X (some a) (TIO (FX X C We) (pSome fa)) := ⟨fun pins s σ H Q I ⟨ρ, e, h, rh, re, p⟩ => (po_some ha).run pins s σ H Q I
  (TG_.bind (RB := fun _ _ _ a b => a = b) (k := fun w h => match w with
    | .int i => .ok (some i) h
    | _ => .stuck) rh re p fun ρ1 x h1 v H1 rh1 re1 x1 rv p1 => by
      cases rv <;> first | exact False.elim p1 | skip
      exact ⟨_, rfl, post_same rh1 p1 rfl⟩)⟩
theorem c_sl {lo hi : Option Expr} {gl gh : EO} {p2 : Pos} (ha : PE X a (TI (FX X C We) fa)) (hl : PO X lo (TIO (FX X C We) gl)) (hh : PO X hi (TIO (FX X C We) gh)) : PE X (.Subscript a (.Slice lo hi none p2) pos) (TI (FX X C We) (eSl fa gl gh)) :=
  PEmono (pe_slice (SlR.or sl_list sl_tupA) ha hl hh) fun σ H Q ⟨ρ, e, h, rh, re, p⟩ =>
    TG_.bind (k := fun w h => (gl e h).bind fun l h => (gh e h).bind fun u h => oSl l u w h) rh re p fun ρ1 x h1 v H1 rh1 re1 x1 rv p1 =>
      TG_.bind (RA := fun _ _ _ a b => a = b) (k := fun l h => (gh e h).bind fun u h => oSl l u x h) rh1 re1 p1 fun ρ2 l h2 l' H2 rh2 re2 x2 el p2 => by
        subst el
        exact TG_.bind (RA := fun _ _ _ a b => a = b) (k := fun u h => oSl l u x h) rh2 re2 p2 fun ρ3 u h3 u' H3 rh3 re3 x3 eu p3 => by
          subst eu
          exact s_sl rh3 ((x2.trans x3).rv rv) p3
/-! ### tests and truth -/
theorem tru_w {F : Fx} {ρ : Nat → Addr} {h : IH} {H : Hp} {σ : L2.St} {w : W} {v : V} {Q : Bool → Hp → Prop} (rh : RH F.K F.C ρ h H) (rv : RV F.K ρ h.n H w v) (p : Post F (fun _ _ _ a b => a = b) σ ρ h.n H (truW w h) Q) : ∃ k, TruV F.K v H k ∧ Q k H := by
  cases rv <;> first | exact False.elim p | skip
  · exact ⟨false, rfl, post_same rh p rfl⟩
  · exact ⟨_, rfl, post_same rh p rfl⟩
  · exact ⟨_, rfl, post_same rh p rfl⟩
  case tup ws a vs s1 r1 =>
    refine ⟨!vs.isEmpty, .inr (.inl ⟨vs, s1, rfl⟩), post_same rh p ?_⟩
    cases r1 <;> rfl
  case loc a ha =>
    have p' : Post F (fun _ _ _ a b => a = b) σ ρ h.n H (match h.get a with
      | some (.lst ws) => .ok (!ws.isEmpty) h
      | some (.dk kvs) => .ok (!kvs.isEmpty) h
      | _ => .stuck) Q := p
    clear p
    cases ga : h.get a with
    | none => rw [ga] at p'; exact p'.elim
    | some c =>
      rw [ga] at p'
      cases c with
      | lst ws =>
        obtain ⟨vs, s, r, _⟩ := rh.list (show listAt h a = some ws by unfold listAt; rw [ga])
        refine ⟨!vs.isEmpty, .inl ⟨vs, s, rfl⟩, post_same rh p' ?_⟩
        cases r <;> rfl
      | dk kvs =>
        obtain ⟨es, e1, r⟩ := rh.dk ga
        refine ⟨!es.isEmpty, .inr (.inr ⟨es, e1, rfl⟩), post_same rh p' ?_⟩
        cases r <;> rfl
      | dz _ => exact p'.elim
      | ins _ _ => exact p'.elim
      | err _ => exact p'.elim
theorem t_tru (ha : PE X a (TI (FX X C We) fa)) (he : ∀ whole, isTrue a X.env whole = (do let v ← whole; standAt a.pos; holding [v] (truthy v))) : PT X a (TIT (FX X C We) (tTru fa)) :=
  PTmono (pt_truth ha he) fun σ H Q ⟨ρ, e, h, rh, re, p⟩ => TG_.bind (k := truW) rh re p fun ρ1 x h1 v H1 rh1 re1 x1 rv p1 => tru_w rh1 rv p1
theorem t_cmp {op : CmpOp} {k : W → W → IH → Rs W} {r : R2} (ho : OpR X (compareOp op) r) (hk : Op2 (FX X C We) k r) (hm : behindInMarks op b = false) (ha : PE X a (TI (FX X C We) fa)) (hb : PE X b (TI (FX X C We) fb)) : PT X (.Compare a [op] [b] pos) (TIT (FX X C We) (tBol (e2 k fa fb))) :=
  PTmono (pt_cmpR ho ha hb hm) fun σ H Q ⟨ρ, e, h, rh, re, p⟩ => by
    have p0 : Post (FX X C We) (fun _ _ _ a b => a = b) σ ρ h.n H ((fa e h).bind fun x h => ((fb e h).bind fun y h => k x y h).bind bolW) Q := by
      have z : tBol (e2 k fa fb) e h = (fa e h).bind fun x h => ((fb e h).bind fun y h => k x y h).bind bolW := by
        show ((fa e h).bind _).bind bolW = _
        cases fa e h <;> rfl
      rw [z] at p; exact p
    refine TG_.bind rh re p0 fun ρ1 x h1 v H1 rh1 re1 x1 rv p1 => ?_
    have z : ((fb e h1).bind fun y h => k x y h).bind bolW = (fb e h1).bind fun y h => (k x y h).bind bolW := by cases fb e h1 <;> rfl
    rw [z] at p1
    refine TG_.bind (k := fun y h => (k x y h).bind bolW) rh1 re1 p1 fun ρ2 y h2 u H2 rh2 re2 x2 ru p2 => ?_
    refine hk ρ2 h2 H2 σ x y v u _ rh2 (x2.rv rv) ru ?_
    cases q : k x y h2 with
    | stuck => rw [q] at p2; exact p2.elim
    | exc c h3 => rw [q] at p2; exact p2
    | ok w h3 =>
      rw [q] at p2
      intro ρ3 v3 H3 x3 rh3 rv3
      have p3 := Post.shift x3 p2
      have p4 : Post (FX X C We) (fun _ _ _ a b => a = b) σ ρ3 h3.n H3 (bolW w h3) Q := p3
      cases rv3 <;> first | exact False.elim p4 | skip
      exact ⟨_, rfl, post_same rh3 p4 rfl⟩
theorem t_not {t : ET} (ha : PT X a (TIT (FX X C We) t)) : PT X (.UnaryOp .Not a pos) (TIT (FX X C We) (tNot t)) :=
  PTmono (pt_not ha) fun σ H Q ⟨ρ, e, h, rh, re, p⟩ => TG_.bind (RA := fun _ _ _ a b => a = b) (k := fun b h => .ok (!b) h) rh re p fun ρ1 x h1 v H1 rh1 re1 x1 ev p1 => by
    subst ev; exact post_same rh1 p1 rfl
theorem PWmono {e : Expr} {t t' : TT} (h : PW X e t) (k : ∀ σ H Q, t' σ H Q → t σ H Q) : PW X e t' := ⟨fun whole pins s σ H Q I q => h.run whole pins s σ H Q I (k σ H Q q)⟩
theorem t_and1 {t : ET} (ha : PT X a (TIT (FX X C We) t)) : PW X (.BoolOp .And [a] pos) (TIT (FX X C We) t) := pw_and1 ha
theorem t_or1 {t : ET} (ha : PT X a (TIT (FX X C We) t)) : PW X (.BoolOp .Or [a] pos) (TIT (FX X C We) t) := pw_or1 ha
theorem t_and {t u : ET} (ha : PT X a (TIT (FX X C We) t)) (hb : PW X (.BoolOp .And (b :: es) pos) (TIT (FX X C We) u)) : PW X (.BoolOp .And (a :: b :: es) pos) (TIT (FX X C We) (tAnd t u)) :=
  PWmono (pw_and ha hb) fun σ H Q ⟨ρ, e, h, rh, re, p⟩ => TG_.bind (RA := fun _ _ _ a b => a = b) (k := fun b h => match b with
    | true => u e h
    | false => .ok false h) rh re p fun ρ1 x h1 v H1 rh1 re1 x1 ev p1 => by
      subst ev
      cases x with
      | true => rw [if_pos rfl]; exact ⟨ρ1, e, h1, rh1, re1, p1⟩
      | false => rw [if_neg (by decide)]; exact post_same rh1 p1 rfl
theorem t_or {t u : ET} (ha : PT X a (TIT (FX X C We) t)) (hb : PW X (.BoolOp .Or (b :: es) pos) (TIT (FX X C We) u)) : PW X (.BoolOp .Or (a :: b :: es) pos) (TIT (FX X C We) (tOr t u)) :=
  PWmono (pw_or ha hb) fun σ H Q ⟨ρ, e, h, rh, re, p⟩ => TG_.bind (RA := fun _ _ _ a b => a = b) (k := fun b h => match b with
    | true => .ok true h
    | false => u e h) rh re p fun ρ1 x h1 v H1 rh1 re1 x1 ev p1 => by
      subst ev
      cases x with
      | true => rw [if_pos rfl]; exact post_same rh1 p1 rfl
      | false => rw [if_neg (by decide)]; exact ⟨ρ1, e, h1, rh1, re1, p1⟩
theorem c_not (ha : PE X a (TI (FX X C We) fa)) : PE X (.UnaryOp .Not a pos) (TI (FX X C We) (eNot fa)) :=
  PEmono (pe_not ha) fun σ H Q ⟨ρ, e, h, rh, re, p⟩ => TG_.bind (k := (fun w h => match w with
    | .bl b => .ok (.bl !b) h
    | _ => .stuck : W → IH → Rs W)) rh re p fun ρ1 x h1 v H1 rh1 re1 x1 rv p1 => by
      cases rv <;> first | exact False.elim p1 | skip
      exact ⟨_, rfl, post_same rh1 p1 .bl⟩
theorem c_and1 (ha : PE X a (TI (FX X C We) fa)) : PE X (.BoolOp .And [a] pos) (TI (FX X C We) fa) := pe_one ha
theorem c_or1 (ha : PE X a (TI (FX X C We) fa)) : PE X (.BoolOp .Or [a] pos) (TI (FX X C We) fa) := pe_one ha
theorem c_and (ha : PE X a (TI (FX X C We) fa)) (hb : PE X (.BoolOp .And (b :: es) pos) (TI (FX X C We) fb)) : PE X (.BoolOp .And (a :: b :: es) pos) (TI (FX X C We) (eAnd fa fb)) :=
  PEmono (pe_and ha hb) fun σ H Q ⟨ρ, e, h, rh, re, p⟩ => TG_.bind (k := fun w h => match w with
    | .bl true => fb e h
    | .bl false => .ok (.bl false) h
    | _ => .stuck) rh re p fun ρ1 x h1 v H1 rh1 re1 x1 rv p1 => by
      cases rv <;> first | exact False.elim p1 | skip
      case bl k =>
        refine ⟨k, rfl, ?_⟩
        cases k with
        | true => rw [if_pos rfl]; exact ⟨ρ1, e, h1, rh1, re1, p1⟩
        | false => rw [if_neg (by decide)]; exact post_same rh1 p1 .bl
theorem c_or (ha : PE X a (TI (FX X C We) fa)) (hb : PE X (.BoolOp .Or (b :: es) pos) (TI (FX X C We) fb)) : PE X (.BoolOp .Or (a :: b :: es) pos) (TI (FX X C We) (eOr fa fb)) :=
  PEmono (pe_or ha hb) fun σ H Q ⟨ρ, e, h, rh, re, p⟩ => TG_.bind (k := fun w h => match w with
    | .bl true => .ok (.bl true) h
    | .bl false => fb e h
    | _ => .stuck) rh re p fun ρ1 x h1 v H1 rh1 re1 x1 rv p1 => by
      cases rv <;> first | exact False.elim p1 | skip
      case bl k =>
        refine ⟨k, rfl, ?_⟩
        cases k with
        | true => rw [if_pos rfl]; exact post_same rh1 p1 .bl
        | false => rw [if_neg (by decide)]; exact ⟨ρ1, e, h1, rh1, re1, p1⟩
theorem c_if {t : ET} (ht : PT X c (TIT (FX X C We) t)) (ha : PE X a (TI (FX X C We) fa)) (hb : PE X b (TI (FX X C We) fb)) : PE X (.IfExp c a b pos) (TI (FX X C We) (eIf t fa fb)) :=
  PEmono (pe_ifExp ht ha hb) fun σ H Q ⟨ρ, e, h, rh, re, p⟩ => TG_.bind (RA := fun _ _ _ a b => a = b) (k := (fun b h => match b with
    | true => fa e h
    | false => fb e h : Bool → IH → Rs W)) rh re p fun ρ1 x h1 v H1 rh1 re1 x1 ev p1 => by
      subst ev
      cases x with
      | true => rw [if_pos rfl]; exact ⟨ρ1, e, h1, rh1, re1, p1⟩
      | false => rw [if_neg (by decide)]; exact ⟨ρ1, e, h1, rh1, re1, p1⟩
theorem chain_imp {k k' : W → W → IH → Rs W} {r r' : R2} {σ : L2.St} {H : Hp} {Q : VK} (hk : Op2 (FX X C We) k r) (hk' : Op2 (FX X C We) k' r') : TI (FX X C We) (eChain k k' fa fb fc) σ H Q → tChain r r' (TI (FX X C We) fa) (TI (FX X C We) fb) (TI (FX X C We) fc) σ H Q :=
  fun ⟨ρ, en, h, rh, re, p⟩ =>
    TG_.bind (k := fun x h => (fb en h).bind fun y h => (k x y h).bind fun z h => match z with
      | .bl true => (fc en h).bind fun w h => k' y w h
      | .bl false => .ok (.bl false) h
      | _ => .stuck) rh re p fun ρ1 x h1 v H1 rh1 re1 x1 rv p1 =>
      TG_.bind (k := fun y h => (k x y h).bind fun z h => match z with
        | .bl true => (fc en h).bind fun w h => k' y w h
        | .bl false => .ok (.bl false) h
        | _ => .stuck) rh1 re1 p1 fun ρ2 y h2 u H2 rh2 re2 x2 ru p2 => by
        refine hk ρ2 h2 H2 σ x y v u _ rh2 (x2.rv rv) ru ?_
        cases q : k x y h2 with
        | stuck => rw [q] at p2; exact p2.elim
        | exc c h3 => rw [q] at p2; exact p2
        | ok w h3 =>
          rw [q] at p2
          intro ρ3 v3 H3 x3 rh3 rv3
          have p3 := Post.shift x3 p2
          cases rv3 <;> first | exact False.elim p3 | skip
          case bl b3 =>
            refine ⟨b3, rfl, ?_⟩
            cases b3 with
            | true =>
              rw [if_pos rfl]
              exact TG_.bind (k := fun w h => k' y w h) rh3 (re2.ext x3) p3 fun ρ4 w h4 u4 H4 rh4 re4 x4 ru4 p4 => hk' ρ4 h4 H4 σ y w u u4 Q rh4 ((x3.trans x4).rv ru) ru4 p4
            | false => rw [if_neg (by decide)]; exact post_same rh3 p3 .bl
end
end Fw

set_option Elab.async false
set_option linter.all false
set_option maxRecDepth 100000
set_option maxHeartbeats 1000000
/-! Fw, part E: targets, statements, loops. -/
namespace Fw
open PySem L2
/-- how a block ends, and what is wished -/
def PostS (F : Fx) (ρ : Nat → Addr) (n : Nat) (H : Hp) (r : RS) (D : Ends) : Prop := match r with
  | .nx e' h' => ∀ ρ' σ' H', Ext ρ ρ' n h'.n H H' → RH F.K F.C ρ' h' H' → REnv F.K ρ' h'.n H' e' σ' → D.nx σ' H'
  | .bk e' h' => ∀ ρ' σ' H', Ext ρ ρ' n h'.n H H' → RH F.K F.C ρ' h' H' → REnv F.K ρ' h'.n H' e' σ' → D.bk σ' H'
  | .ct e' h' => ∀ ρ' σ' H', Ext ρ ρ' n h'.n H H' → RH F.K F.C ρ' h' H' → REnv F.K ρ' h'.n H' e' σ' → D.ct σ' H'
  | .rt w h' => ∀ ρ' v H', Ext ρ ρ' n h'.n H H' → RH F.K F.C ρ' h' H' → RV F.K ρ' h'.n H' w v → D.rt v H'
  | .ex c e' h' => ∀ ρ' σ' H', Ext ρ ρ' n h'.n H H' → RH F.K F.C ρ' h' H' → REnv F.K ρ' h'.n H' e' σ' → F.We c σ' H'
  | .stuck => False
def TIS (F : Fx) (f : SS) : L2.TS := fun D σ H => ∃ ρ e h, RH F.K F.C ρ h H ∧ REnv F.K ρ h.n H e σ ∧ PostS F ρ h.n H (f e h) D
def RE (F : Fx) : (Nat → Addr) → Nat → Hp → Env → L2.St → Prop := fun ρ n H e σ => REnv F.K ρ n H e σ
/-- nothing raised is wished -/
def Fx.no (F : Fx) : Fx := ⟨F.K, F.C, fun _ _ _ => False⟩
theorem Post.no {F : Fx} {α β : Type} {RA : (Nat → Addr) → Nat → Hp → α → β → Prop} {σ : L2.St} {ρ : Nat → Addr} {n : Nat} {H : Hp} {r : Rs α} {Q : β → Hp → Prop} (p : Post F.no RA σ ρ n H r Q) : Post F RA σ ρ n H r Q := by
  cases r with
  | ok a h => exact p
  | exc c h => exact fun ρ' H' x r => (p ρ' H' x r).elim
  | stuck => exact p
def TIG (F : Fx) (g : EG) : L2.TG := fun v σ H Q => ∃ ρ e h w, RH F.K F.C ρ h H ∧ REnv F.K ρ h.n H e σ ∧ RV F.K ρ h.n H w v ∧ Post F.no (RE F) σ ρ h.n H (g w e h) Q
section
variable {F : Fx} {σ : L2.St} {ρ ρ1 : Nat → Addr} {H H1 : Hp} {e : Env} {D : Ends}
theorem PostS.shift {n n1 : Nat} {r : RS} (x : Ext ρ ρ1 n n1 H H1) (p : PostS F ρ n H r D) : PostS F ρ1 n1 H1 r D := by
  cases r with
  | nx e h => exact fun ρ' σ' H' y a b => p ρ' σ' H' (x.trans y) a b
  | bk e h => exact fun ρ' σ' H' y a b => p ρ' σ' H' (x.trans y) a b
  | ct e h => exact fun ρ' σ' H' y a b => p ρ' σ' H' (x.trans y) a b
  | rt w h => exact fun ρ' σ' H' y a b => p ρ' σ' H' (x.trans y) a b
  | ex c e h => exact fun ρ' σ' H' y a b => p ρ' σ' H' (x.trans y) a b
  | stuck => exact p
/-- one evaluation in a statement, then the rest -/
theorem TG_.bindS {α β : Type} {RA : (Nat → Addr) → Nat → Hp → α → β → Prop} {h : IH} {f : Env → IH → Rs α} {k : α → IH → RS} {P : β → Hp → Prop}
    (rh : RH F.K F.C ρ h H) (re : REnv F.K ρ h.n H e σ) (p : PostS F ρ h.n H ((f e h).st e k) D)
    (hP : ∀ ρ1 a h1 b H1, RH F.K F.C ρ1 h1 H1 → REnv F.K ρ1 h1.n H1 e σ → Ext ρ ρ1 h.n h1.n H H1 → RA ρ1 h1.n H1 a b → PostS F ρ1 h1.n H1 (k a h1) D → P b H1) : TG_ F RA f σ H P := by
  refine ⟨ρ, e, h, rh, re, ?_⟩
  cases q : f e h with
  | ok a h1 => exact fun ρ1 b H1 x r y => hP ρ1 a h1 b H1 r (re.ext x) x y (by rw [q] at p; exact PostS.shift x p)
  | exc c h1 => rw [q] at p; exact fun ρ1 H1 x r => p ρ1 σ H1 x r (re.ext x)
  | stuck => rw [q] at p; exact p.elim
theorem PostS.nx_ {h : IH} (rh : RH F.K F.C ρ h H) (re : REnv F.K ρ h.n H e σ) (p : PostS F ρ h.n H (.nx e h) D) : D.nx σ H := p ρ σ H Ext.refl rh re
theorem REnv.set {n : Nat} {w : W} {v : V} {i : Nat} (r : REnv F.K ρ n H e σ) (q : RV F.K ρ n H w v) : REnv F.K ρ n H (e.set i (some w)) (σ.set i (some v)) where
  len := by rw [List.length_set, List.length_set]; exact r.len
  at_ := fun j x z => by
    by_cases ej : i = j
    · subst ej
      rw [List.getElem?_set] at z
      split at z
      · split at z
        · cases z
          refine ⟨v, ?_, q⟩
          rw [List.getElem?_set_self (by rw [← r.len]; assumption)]
        · cases z
      · exact absurd rfl (by assumption)
    · rw [List.getElem?_set_ne ej] at z
      obtain ⟨u, h1, h2⟩ := r.at_ j x z
      exact ⟨u, by rw [List.getElem?_set_ne ej]; exact h1, h2⟩
/-- a target, after a value has come -/
theorem TIG.sg {h : IH} {g : EG} {w : W} {v : V} {k : Env → IH → RS} {P : L2.St → Hp → Prop} (rh : RH F.K F.C ρ h H) (re : REnv F.K ρ h.n H e σ) (rv : RV F.K ρ h.n H w v) (p : PostS F ρ h.n H ((g w e h).sg k) D)
    (hP : ∀ ρ1 e1 h1 σ1 H1, RH F.K F.C ρ1 h1 H1 → REnv F.K ρ1 h1.n H1 e1 σ1 → Ext ρ ρ1 h.n h1.n H H1 → PostS F ρ1 h1.n H1 (k e1 h1) D → P σ1 H1) : TIG F g v σ H P := by
  refine ⟨ρ, e, h, w, rh, re, rv, ?_⟩
  cases q : g w e h with
  | ok a h1 => exact fun ρ1 b H1 x r y => hP ρ1 a h1 b H1 r y x (by rw [q] at p; exact PostS.shift x p)
  | exc c h1 => rw [q] at p; exact p.elim
  | stuck => rw [q] at p; exact p.elim
end
section
variable {X : Cx} {C : Nat → Addr} {We : Nat → L2.St → Hp → Prop} {a b c : Expr} {pos : Pos} {fa fb fc : EE} {e : Expr} {es : List Expr}
/-! ### targets -/
theorem no_same {F : Fx} {α β : Type} {RA : (Nat → Addr) → Nat → Hp → α → β → Prop} {σ : L2.St} {ρ : Nat → Addr} {h : IH} {H : Hp} {R : β → Hp → Prop} {a : α} {b : β} (rh : RH F.K F.C ρ h H) (p : Post F.no RA σ ρ h.n H (.ok a h) R) (r : RA ρ h.n H a b) : R b H := p ρ b H Ext.refl rh r
theorem PGmono {e : Expr} {t t' : L2.TG} (h : PG X e t) (k : ∀ v σ H Q, t' v σ H Q → t v σ H Q) : PG X e t' := ⟨fun pins s σ H v u Q I r q => h.run pins s σ H v u Q I r (k v σ H Q q)⟩
theorem g_name {i : Nat} {x : Str} (h : PG X (.Name x pos) (gName i)) : PG X (.Name x pos) (TIG (FX X C We) (gNm i)) := PGmono h fun v σ H Q ⟨ρ, e, h, w, rh, re, rv, p⟩ => no_same rh p (show RE (FX X C We) _ _ _ _ _ from re.set rv)
def TIGs (F : Fx) (gs : List EG) : L2.TGs := fun vs σ H Q => ∃ ρ e h ws, RH F.K F.C ρ h H ∧ REnv F.K ρ h.n H e σ ∧ RVs F.K ρ h.n H ws vs ∧ Post F.no (RE F) σ ρ h.n H (gSeq gs ws e h) Q
theorem gs_nil : PGs X [] (TIGs (FX X C We) []) := ⟨fun pins s σ H vs us Q I r ⟨ρ, e, h, ws, rh, re, rv, p⟩ => by
  cases rv with
  | nil => exact pgs_nil.run pins s σ H [] us Q I r ⟨rfl, no_same rh p (show RE (FX X C We) _ _ _ _ _ from re)⟩
  | cons _ _ => exact False.elim p⟩
theorem post_no_any {F : Fx} {α β : Type} {RA : (Nat → Addr) → Nat → Hp → α → β → Prop} {σ σ' : L2.St} {ρ : Nat → Addr} {n : Nat} {H : Hp} {r : Rs α} {Q : β → Hp → Prop} (p : Post F.no RA σ ρ n H r Q) : Post F.no RA σ' ρ n H r Q := by
  cases r with
  | ok a h => exact p
  | exc c h => exact p
  | stuck => exact p
theorem gs_cons {g : EG} {gs : List EG} (h1 : PG X e (TIG (FX X C We) g)) (h2 : PGs X es (TIGs (FX X C We) gs)) (hs : (assignEach (e :: es) X.env).map (·.2) = assign e X.env :: (assignEach es X.env).map (·.2)) : PGs X (e :: es) (TIGs (FX X C We) (g :: gs)) :=
  ⟨fun pins s σ H vs us Q I r ⟨ρ, en, h, ws, rh, re, rv, p⟩ => by
    cases rv with
    | nil => exact False.elim p
    | @cons w ws v vs a b =>
      refine (pgs_cons h1 h2 hs).run pins s σ H (v :: vs) us Q I r ⟨v, vs, rfl, ρ, en, h, w, rh, re, a, ?_⟩
      have p' : Post (FX X C We).no (RE (FX X C We)) σ ρ h.n H ((g w en h).bind fun e h => gSeq gs ws e h) Q := p
      cases q : g w en h with
      | stuck => rw [q] at p'; exact p'.elim
      | exc c h3 => rw [q] at p'; exact p'
      | ok e1 h3 =>
        rw [q] at p'
        exact fun ρ1 σ1 H1 x1 rh1 re1 => ⟨ρ1, e1, h3, ws, rh1, re1, x1.rvs b, post_no_any (Post.shift x1 p')⟩⟩
theorem g_tup {gs : List EG} {kk : Nat} (hc : X.calm = true) (h : PGs X es (TIGs (FX X C We) gs)) (hn : (assignEach es X.env).length = gs.length) (hst : (assignEach es X.env).findIdx? (·.1) = none) : PG X (.Tuple es kk pos) (TIG (FX X C We) (gTp gs)) :=
  PGmono (pg_tup hc h hn hst) fun v σ H Q ⟨ρ, e, h, w, rh, re, rv, p⟩ => by
    cases rv with
    | @tup ws a vs s1 r1 =>
      obtain ⟨hl, p⟩ := need_inv p
      exact ⟨a, vs, rfl, s1, by rw [← r1.length]; exact Nat.eq_of_beq_eq_true hl, ρ, e, h, ws, rh, re, r1, p⟩
    | _ => exact False.elim p
theorem TI.no {F : Fx} {f : EE} {σ : L2.St} {H : Hp} {Q : VK} (h : TI F.no f σ H Q) : TI F f σ H Q := by
  obtain ⟨ρ, e, h, rh, re, p⟩ := h
  exact ⟨ρ, e, h, rh, re, Post.no p⟩
def rSet : L2.TSet := fun o i v H Q => rSetL o i v H Q ∨ rSetD o i v H Q
theorem set_any (hu : X.A.units + 1 < cLine) : PSet X rSet := fun pins s σ H o i v ov iv u Q I r1 r2 r3 q => q.elim (set_list pins s σ H o i v ov iv u Q I r1 r2 r3) (set_dict hu pins s σ H o i v ov iv u Q I r1 r2 r3)
theorem set_ok {F : Fx} {ρ : Nat → Addr} {h : IH} {H : Hp} {σ : L2.St} {o i w : W} {x y v : V} {Q : Hp → Prop} (rh : RH F.K F.C ρ h H) (ro : RV F.K ρ h.n H o x) (ri : RV F.K ρ h.n H i y) (rw_ : RV F.K ρ h.n H w v) (p : Post F (fun _ _ _ (_ : Unit) (_ : Unit) => True) σ ρ h.n H (oSet o i w h) (fun _ H => Q H)) : rSet x y v H Q := by
  cases ro <;> first | exact False.elim p | skip
  case loc a ha =>
    unfold oSet at p
    dsimp only at p
    cases ga : h.get a with
    | none => rw [ga] at p; exact p.elim
    | some c =>
      rw [ga] at p
      cases c with
      | lst us =>
        dsimp only at p
        obtain ⟨xs, e1, r⟩ := rh.lst ga
        cases ri <;> first | exact False.elim p | skip
        case int k =>
          dsimp only at p
          cases q : ixN us.length k with
          | none => rw [q] at p; exact p.elim
          | some j =>
            rw [q] at p
            refine .inl ⟨_, xs, k, j, rfl, rfl, e1, by rw [← r.length]; exact q, ?_⟩
            exact post_setL (b := ()) (R := fun _ H => Q H) rh ga e1 (r.set rw_ j) p fun _ _ _ _ => trivial
      | dk kvs =>
        dsimp only at p
        obtain ⟨es, e1, r⟩ := rh.dk ga
        cases q : keyOf i with
        | none => rw [q] at p; exact p.elim
        | some k =>
          rw [q] at p
          obtain ⟨hl, p⟩ := need_inv p
          have hl' : kvs.length < 16777216 := Nat.le_of_ble_eq_true hl
          have ek := keyOf_ok ri q
          subst ek
          refine .inr ⟨_, _, rfl, DPut.k e1 (by rw [← r.length, sizeLine_eq]; exact hl'), ?_⟩
          have x : Ext ρ ρ h.n (h.set a (.dk (dPut kvs k w))).n H (upd H (ρ a) (.dK (putK es k v))) := ext_set (a := ρ a) (IH.get_lt ga) e1 trivial
          exact p ρ () _ x (rh.upd ga rfl e1 trivial rfl ⟨_, upd_same, (r.put rw_).mono x.le x.same x.tups x.frzs⟩) trivial
      | dz _ => exact p.elim
      | ins _ _ => exact p.elim
      | err _ => exact p.elim
theorem g_sub (hu : X.A.units + 1 < cLine) (hx : ∀ v, assign (.Subscript a b pos) X.env v = (do let ov ← holding [v] (eval a X.env); let iv ← holding [v, ov] (eval b X.env); standAt pos; holding [v, ov, iv] (setItem ov iv v); release [v, ov, iv] [])) (ha : PE X a (TI (FX X C We) fa)) (hb : PE X b (TI (FX X C We) fb)) : PG X (.Subscript a b pos) (TIG (FX X C We) (gSb fa fb)) :=
  PGmono (pg_sub ha hb (set_any hu) hx) fun v σ H Q ⟨ρ, e, h, w, rh, re, rv, p⟩ =>
    TI.no (TG_.bind (F := (FX X C We).no) (k := fun x h => (fb e h).bind fun y h => (oSet x y w h).bind fun _ h => .ok e h) rh re p fun ρ1 x h1 vx H1 rh1 re1 x1 rx p1 =>
      TI.no (TG_.bind (F := (FX X C We).no) (k := fun y h => (oSet x y w h).bind fun _ h => .ok e h) rh1 re1 p1 fun ρ2 y h2 vy H2 rh2 re2 x2 ry p2 =>
        set_ok (F := (FX X C We).no) (σ := σ) rh2 (x2.rv rx) ry ((x1.trans x2).rv rv) (by
          cases q : oSet x y w h2 with
          | stuck => rw [q] at p2; exact p2.elim
          | exc c h3 => rw [q] at p2; exact p2
          | ok u h3 =>
            rw [q] at p2
            exact fun ρ3 u3 H3 x3 rh3 _ => p2 ρ3 σ H3 x3 rh3 (re2.ext x3))))
/-! ### statements -/
theorem s_next_ : PSs X [] (TIS (FX X C We) sNext) := ⟨fun pins s σ H D I ⟨ρ, e, h, rh, re, p⟩ => pss_nil.run pins s σ H D I (p.nx_ rh re)⟩
theorem s_pass : PS X (.Pass pos) (TIS (FX X C We) sNext) := PSmono ps_pass fun D σ H ⟨ρ, e, h, rh, re, p⟩ => p.nx_ rh re
theorem s_break : PS X (.Break pos) (TIS (FX X C We) sBreak) := PSmono ps_break fun D σ H ⟨ρ, e, h, rh, re, p⟩ => p ρ σ H Ext.refl rh re
theorem s_cont : PS X (.Continue pos) (TIS (FX X C We) sCont) := PSmono ps_continue fun D σ H ⟨ρ, e, h, rh, re, p⟩ => p ρ σ H Ext.refl rh re
theorem PSsmono {e : List Stmt} {t t' : L2.TS} (h : PSs X e t) (k : ∀ D σ H, t' D σ H → t D σ H) : PSs X e t' := ⟨fun pins s σ H D I q => h.run pins s σ H D I (k D σ H q)⟩
theorem ss_cons {st : Stmt} {sts : List Stmt} {f g : SS} (h1 : PS X st (TIS (FX X C We) f)) (h2 : PSs X sts (TIS (FX X C We) g)) : PSs X (st :: sts) (TIS (FX X C We) (sSeq f g)) :=
  PSsmono (pss_cons h1 h2) fun D σ H ⟨ρ, e, h, rh, re, p⟩ => by
    refine ⟨ρ, e, h, rh, re, ?_⟩
    have p' : PostS (FX X C We) ρ h.n H (match f e h with
      | .nx e h => g e h
      | r => r) D := p
    cases q : f e h with
    | nx e1 h1 => rw [q] at p'; exact fun ρ1 σ1 H1 x1 rh1 re1 => ⟨ρ1, e1, h1, rh1, re1, PostS.shift x1 p'⟩
    | bk e1 h1 => rw [q] at p'; exact p'
    | ct e1 h1 => rw [q] at p'; exact p'
    | rt w h1 => rw [q] at p'; exact p'
    | ex c e1 h1 => rw [q] at p'; exact p'
    | stuck => rw [q] at p'; exact p'
theorem s_expr (hs : swapsWith a none pos.line X.env = pure false) (ha : PE X a (TI (FX X C We) fa)) : PS X (.Expr a pos) (TIS (FX X C We) (sExpr fa)) := PSmono (ps_expr ha hs) fun D σ H ⟨ρ, e, h, rh, re, p⟩ => TG_.bindS rh re p fun ρ1 x h1 v H1 rh1 re1 x1 rv p1 => p1.nx_ rh1 re1
theorem s_ret (ha : PE X a (TI (FX X C We) fa)) : PS X (.Return (some a) pos) (TIS (FX X C We) (sRet fa)) := PSmono (ps_ret ha) fun D σ H ⟨ρ, e, h, rh, re, p⟩ => TG_.bindS rh re p fun ρ1 x h1 v H1 rh1 re1 x1 rv p1 => p1 ρ1 v H1 Ext.refl rh1 rv
theorem s_retN : PS X (.Return none pos) (TIS (FX X C We) sRetN) := PSmono ps_retN fun D σ H ⟨ρ, e, h, rh, re, p⟩ => p ρ .non H Ext.refl rh .non
theorem s_if {t : ET} {st su : List Stmt} {f g : SS} (hc : PT X c (TIT (FX X C We) t)) (h1 : PSs X st (TIS (FX X C We) f)) (h2 : PSs X su (TIS (FX X C We) g)) : PS X (.If c st su pos) (TIS (FX X C We) (sIf t f g)) :=
  PSmono (ps_if hc h1 h2) fun D σ H ⟨ρ, e, h, rh, re, p⟩ => TG_.bindS (RA := fun _ _ _ a b => a = b) (k := (fun c h => match c with
    | true => f e h
    | false => g e h : Bool → IH → RS)) rh re p fun ρ1 x h1 v H1 rh1 re1 x1 ev p1 => by
      subst ev
      cases x with
      | true => rw [if_pos rfl]; exact ⟨ρ1, e, h1, rh1, re1, p1⟩
      | false => rw [if_neg (by decide)]; exact ⟨ρ1, e, h1, rh1, re1, p1⟩
theorem s_asg {tg : Expr} {g : EG} {st : Stmt} (h : PS X st (tAsg (TI (FX X C We) fa) (TIG (FX X C We) g))) : PS X st (TIS (FX X C We) (sAsg fa g)) :=
  PSmono h fun D σ H ⟨ρ, e, h, rh, re, p⟩ => TG_.bindS rh re p fun ρ1 x h1 v H1 rh1 re1 x1 rv p1 =>
    TIG.sg (k := fun e h => .nx e h) rh1 re1 rv p1 fun ρ2 e2 h2 σ2 H2 rh2 re2 x2 p2 => p2.nx_ rh2 re2
theorem s_raise {cl : Nat} {ex : Expr} (h : PS X (.Raise (some ex) none pos) (fun _ σ H => We cl σ H)) : PS X (.Raise (some ex) none pos) (TIS (FX X C We) (sRaise cl)) :=
  PSmono h fun D σ H ⟨ρ, e, h, rh, re, p⟩ => p ρ σ H Ext.refl rh re
/-! ### what is walked -/
inductive RI (K : PySem.W.Frag) (ρ : Nat → Addr) (n : Nat) (H : Hp) : IT → It → Prop
  | lst {a : Nat} (ha : a < n) : RI K ρ n H (.lst a) (Itl K (ρ a))
  | tup {ws : List W} {b : Addr} {vs : List V} (s : SqT K H b vs) (r : RVs K ρ n H ws vs) : RI K ρ n H (.tup ws) (Itt K b)
  | rng {lo : Int} {k : Nat} : RI K ρ n H (.rng lo k) (Itr lo k)
  | enu {a : Nat} (ha : a < n) : RI K ρ n H (.enu a) (Ite K (ρ a))
  | enuT {ws : List W} {b : Addr} {vs : List V} (s : SqT K H b vs) (r : RVs K ρ n H ws vs) : RI K ρ n H (.enuT ws) (IteT K b)
  | keys {a : Nat} {o : Obj} {es : List (Key × V)} (ha : a < n) (e : H (ρ a) = some (.frz o (.dK es))) : RI K ρ n H (.keys a) (Itk (ρ a) o es)
  | zipT {ws us : List W} {a b : Addr} {vs xs : List V} (s : SqT K H a vs) (r : RVs K ρ n H ws vs) (s' : SqT K H b xs) (r' : RVs K ρ n H us xs) : RI K ρ n H (.zipT ws us) (RZ.ItzT K a b)
  | zip {a b : Nat} (ha : a < n) (hb : b < n) : RI K ρ n H (.zip a b) (Itz K (ρ a) (ρ b))
def TII (F : Fx) (s : EI) : L2.TI := TG_ F (RI F.K) s
end
end Fw

set_option Elab.async false
set_option linter.all false
set_option maxRecDepth 100000
set_option maxHeartbeats 1000000
/-! Fw, part G: loops, comprehensions. -/
namespace Fw
open PySem L2
section
variable {F : Fx} {ρ ρ' : Nat → Addr} {n n' : Nat} {H H' : Hp} {h : IH}
theorem RI.mono (x : Ext ρ ρ' n n' H H') {J : IT} {J' : It} (r : RI F.K ρ n H J J') : RI F.K ρ' n' H' J J' := by
  cases r with
  | lst ha => rw [← x.same _ ha]; exact .lst (Nat.lt_of_lt_of_le ha x.le)
  | tup s r => exact .tup (SqT.ext x.tups x.frzs s) (x.rvs r)
  | rng => exact .rng
  | enu ha => rw [← x.same _ ha]; exact .enu (Nat.lt_of_lt_of_le ha x.le)
  | enuT s r => exact .enuT (SqT.ext x.tups x.frzs s) (x.rvs r)
  | keys ha e => rw [← x.same _ ha]; exact .keys (Nat.lt_of_lt_of_le ha x.le) (by rw [x.same _ ha]; exact x.frzs _ _ _ e)
  | zipT s r s' r' => exact .zipT (SqT.ext x.tups x.frzs s) (x.rvs r) (SqT.ext x.tups x.frzs s') (x.rvs r')
  | zip ha hb => rw [← x.same _ ha, ← x.same _ hb]; exact .zip (Nat.lt_of_lt_of_le ha x.le) (Nat.lt_of_lt_of_le hb x.le)
theorem sqL_one {K : PySem.W.Frag} {a : Addr} {xs ys : List V} {i : Nat} {x y : V} (q : SqL K H a xs) (e : xs[i]? = some x) (p : ∀ xs, SqL K H a xs → xs[i]? = some y) : x = y := by
  have z := p xs q
  rw [e] at z; exact Option.some.inj z
/-- a new tuple beside -/
theorem ext_tup {p : Addr} {vs : List V} (hp : H p = none) : Ext ρ ρ n n H (upd H p (.tup vs)) := ⟨Nat.le_refl _, fun _ _ => rfl, fun b o e k => ⟨by rw [upd_ne (ne_of_none e hp)]; exact e, k⟩, fun b xs e => by rw [upd_ne (ne_of_none e hp)]; exact e, fun b o xs e => by rw [upd_ne (ne_of_none e hp)]; exact e⟩
theorem RH.tup_ {p : Addr} {vs : List V} (rh : RH F.K F.C ρ h H) (hp : H p = none) : RH F.K F.C ρ h (L2.upd H p (.tup vs)) := by
  have x : Ext ρ ρ h.n h.n H (L2.upd H p (.tup vs)) := ext_tup hp
  exact ⟨fun i c e => (rh.cell i c e).mono x.le x.same x.tups x.frzs fun m o ho => by rw [upd_ne (rh.fresh hp i c e m)]; exact ho, rh.inj, rh.full, sys_new rh.sys hp⟩
theorem RH.dz_ {a : Nat} {o : Obj} {es : List (Key × V)} {w : W} {i : Nat} (rh : RH F.K F.C ρ h H) (ha : a < h.n) (hz : H (ρ a) = some (.frz o (.dK es))) (e : (match h.get a with
      | some (.dz kvs) => (match kvs[i]? with
        | some p => some (kW p.1)
        | none => none)
      | _ => none) = some w) : ∃ kvs, h.get a = some (.dz kvs) ∧ RKs F.K ρ h.n H kvs es := by
  cases g : h.get a with
  | none => rw [g] at e; cases e
  | some c =>
    rw [g] at e
    cases c with
    | dz kvs =>
      obtain ⟨o', es', q, rk⟩ := rh.cell a _ g
      rw [hz] at q; cases q
      exact ⟨kvs, rfl, rk⟩
    | _ => cases e
theorem keys_get {w : W} {i : Nat} : ∀ {kvs : List (Key × W)} {es : List (Key × V)} {i : Nat}, RKs F.K ρ n H kvs es → (∃ p : Key × W, kvs[i]? = some p ∧ kW p.1 = w) → ∃ k v, es[i]? = some (k, v) ∧ w = kW k
  | _, _, _, .nil, ⟨p, e, _⟩ => by cases e
  | _, _, 0, .cons _ _, ⟨p, e, h⟩ => by cases e; exact ⟨_, _, rfl, h.symm⟩
  | _, _, i + 1, .cons _ r, ⟨p, e, h⟩ => by
    obtain ⟨k, v, h1, h2⟩ := keys_get (i := i) r ⟨p, by simpa using e, h⟩
    exact ⟨k, v, by simpa using h1, h2⟩
theorem nth_ok {J : IT} {J' : It} {i : Nat} {w : W} (rh : RH F.K F.C ρ h H) (r : RI F.K ρ h.n H J J') (e : J.nth h i = some w) :
    J'.go i H ∧ ∀ x H', J'.yld i H x H' → Ext ρ ρ h.n h.n H H' ∧ RH F.K F.C ρ h H' ∧ RV F.K ρ h.n H' w x := by
  cases r with
  | @lst a ha =>
    obtain ⟨ws, g, e⟩ := Option.bind_eq_some_iff.mp e
    obtain ⟨vs, s, r, _⟩ := rh.list g
    obtain ⟨v, e2, q⟩ := r.get e
    refine ⟨⟨vs, v, s, e2⟩, fun x H' ⟨eH, y⟩ => ?_⟩
    subst eH
    have z := sqL_one (ys := vs) s e2 y
    subst z
    exact ⟨Ext.refl, rh, q⟩
  | @tup ws b vs s r =>
    obtain ⟨v, e2, q⟩ := r.get e
    refine ⟨⟨vs, v, s, e2⟩, fun x H' ⟨eH, y⟩ => ?_⟩
    subst eH
    have z := y vs s
    rw [e2] at z; cases z
    exact ⟨Ext.refl, rh, q⟩
  | @rng lo k =>
    have e' : (match Nat.blt i k with
      | true => some (W.int (lo + i))
      | false => none) = some w := e
    cases q : Nat.blt i k with
    | false => rw [q] at e'; cases e'
    | true =>
      rw [q] at e'
      cases e'
      refine ⟨Nat.le_of_ble_eq_true q, fun x H' ⟨eH, y⟩ => ?_⟩
      subst eH
      subst y
      exact ⟨Ext.refl, rh, .int⟩
  | @enu a ha =>
    obtain ⟨ws, g, e⟩ := Option.bind_eq_some_iff.mp e
    obtain ⟨u, g2, e⟩ := Option.bind_eq_some_iff.mp e
    cases e
    obtain ⟨vs, s, r, _⟩ := rh.list g
    obtain ⟨v, e2, q⟩ := r.get g2
    refine ⟨⟨vs, v, s, e2⟩, fun x H' ⟨T, y, ex, hT, eH, hy⟩ => ?_⟩
    subst ex; subst eH
    have z := sqL_one (ys := vs) s e2 hy
    subst z
    exact ⟨ext_tup hT, rh.tup_ hT, .tup (.inl (.inl upd_same)) (.cons .int (.cons ((ext_tup (ρ := ρ) (n := h.n) hT).rv q) .nil))⟩
  | @enuT ws b vs s r =>
    obtain ⟨u, g2, e⟩ := Option.bind_eq_some_iff.mp e
    cases e
    obtain ⟨v, e2, q⟩ := r.get g2
    refine ⟨⟨vs, v, s, e2⟩, fun x H' ⟨T, y, ex, hT, eH, hy⟩ => ?_⟩
    subst ex; subst eH
    have z := hy vs s
    rw [e2] at z; cases z
    exact ⟨ext_tup hT, rh.tup_ hT, .tup (.inl (.inl upd_same)) (.cons .int (.cons ((ext_tup (ρ := ρ) (n := h.n) hT).rv q) .nil))⟩
  | @keys a o es ha hz =>
    have e' : (match h.get a with
      | some (.dz kvs) => (match kvs[i]? with
        | some p => some (kW p.1)
        | none => none)
      | _ => none) = some w := e
    obtain ⟨kvs, g, rk⟩ := rh.dz_ ha hz e'
    rw [g] at e'
    obtain ⟨k, v, h1, h2⟩ := keys_get (F := F) (w := w) (i := i) rk (by
      cases q : kvs[i]? with
      | none => simp only [q] at e'; cases e'
      | some p => simp only [q] at e'; cases e'; exact ⟨p, rfl, rfl⟩)
    refine ⟨⟨hz, (List.getElem?_eq_some_iff.mp h1).1⟩, fun x H' ⟨eH, k', v', h3, ex⟩ => ?_⟩
    subst eH; subst ex
    rw [h1] at h3; cases h3
    exact ⟨Ext.refl, rh, by rw [h2]; cases k <;> first | exact .int | exact .str⟩
  | @zipT ws us a b vs xs s r s' r' =>
    obtain ⟨w1, g2, e⟩ := Option.bind_eq_some_iff.mp e
    obtain ⟨w2, g3, e⟩ := Option.bind_eq_some_iff.mp e
    cases e
    obtain ⟨v, e2, q⟩ := r.get g2
    obtain ⟨v', e2', q'⟩ := r'.get g3
    refine ⟨⟨vs, xs, v, v', s, s', e2, e2'⟩, fun x H' ⟨T, y, y', ex, hT, eH, hy, hy'⟩ => ?_⟩
    subst ex; subst eH
    have z := hy vs s
    rw [e2] at z; cases z
    have z := hy' xs s'
    rw [e2'] at z; cases z
    exact ⟨ext_tup hT, rh.tup_ hT, .tup (.inl (.inl upd_same)) (.cons ((ext_tup (ρ := ρ) (n := h.n) hT).rv q) (.cons ((ext_tup (ρ := ρ) (n := h.n) hT).rv q') .nil))⟩
  | @zip a b ha hb =>
    obtain ⟨ws, g, e⟩ := Option.bind_eq_some_iff.mp e
    obtain ⟨us, g', e⟩ := Option.bind_eq_some_iff.mp e
    obtain ⟨w1, g2, e⟩ := Option.bind_eq_some_iff.mp e
    obtain ⟨w2, g3, e⟩ := Option.bind_eq_some_iff.mp e
    cases e
    obtain ⟨vs, s, r, _⟩ := rh.list g
    obtain ⟨vs', s', r', _⟩ := rh.list g'
    obtain ⟨v, e2, q⟩ := r.get g2
    obtain ⟨v', e2', q'⟩ := r'.get g3
    refine ⟨⟨vs, vs', v, v', s, s', e2, e2'⟩, fun x H' ⟨T, y, y', ex, hT, eH, hy, hy'⟩ => ?_⟩
    subst ex; subst eH
    have z := sqL_one (ys := vs) s e2 hy
    subst z
    have z := sqL_one (ys := vs) s' e2' hy'
    subst z
    exact ⟨ext_tup hT, rh.tup_ hT, .tup (.inl (.inl upd_same)) (.cons ((ext_tup (ρ := ρ) (n := h.n) hT).rv q) (.cons ((ext_tup (ρ := ρ) (n := h.n) hT).rv q') .nil))⟩
theorem fin_ok {J : IT} {J' : It} {i : Nat} (rh : RH F.K F.C ρ h H) (r : RI F.K ρ h.n H J J') (e : J.fin h i = true) : J'.stop i H := by
  cases r with
  | @lst a ha =>
    unfold IT.fin at e
    dsimp only at e
    cases g : listAt h a with
    | none => rw [g] at e; cases e
    | some ws =>
      rw [g] at e
      obtain ⟨vs, s, r, _⟩ := rh.list g
      exact ⟨vs, s, by rw [← r.length]; exact Nat.le_of_ble_eq_true e⟩
  | @tup ws b vs s r => exact ⟨vs, s, by rw [← r.length]; exact Nat.le_of_ble_eq_true e⟩
  | @rng lo k => exact Nat.le_of_ble_eq_true e
  | @enu a ha =>
    unfold IT.fin at e
    dsimp only at e
    cases g : listAt h a with
    | none => rw [g] at e; cases e
    | some ws =>
      rw [g] at e
      obtain ⟨vs, s, r, _⟩ := rh.list g
      exact ⟨vs, s, by rw [← r.length]; exact Nat.le_of_ble_eq_true e⟩
  | @enuT ws b vs s r => exact ⟨vs, s, by rw [← r.length]; exact Nat.le_of_ble_eq_true e⟩
  | @keys a o es ha hz =>
    have e' : (match h.get a with
      | some (.dz kvs) => Nat.ble kvs.length i
      | _ => false) = true := e
    cases g : h.get a with
    | none => rw [g] at e'; cases e'
    | some c =>
      rw [g] at e'
      cases c with
      | dz kvs =>
        obtain ⟨o', es', q, rk⟩ := rh.cell a _ g
        rw [hz] at q; cases q
        exact ⟨hz, by rw [← RKs.length (F := F) rk]; exact Nat.le_of_ble_eq_true e'⟩
      | _ => cases e'
  | @zipT ws us a b vs xs s r s' r' =>
    refine ⟨vs, xs, s, s', ?_⟩
    rw [← r.length, ← r'.length]
    rcases Bool.or_eq_true_iff.mp e with e | e
    · exact .inl (Nat.le_of_ble_eq_true e)
    · exact .inr (Nat.le_of_ble_eq_true e)
  | @zip a b ha hb =>
    unfold IT.fin at e
    dsimp only at e
    cases g : listAt h a with
    | none => rw [g] at e; cases e
    | some ws =>
      rw [g] at e
      dsimp only at e
      cases g' : listAt h b with
      | none => rw [g'] at e; cases e
      | some us =>
        rw [g'] at e
        obtain ⟨vs, s, r, _⟩ := rh.list g
        obtain ⟨vs', s', r', _⟩ := rh.list g'
        refine ⟨vs, vs', s, s', ?_⟩
        rw [← r.length, ← r'.length]
        rcases Bool.or_eq_true_iff.mp e with e | e
        · exact .inl (Nat.le_of_ble_eq_true e)
        · exact .inr (Nat.le_of_ble_eq_true e)
end
section
variable {X : Cx} {C : Nat → Addr} {We : Nat → L2.St → Hp → Prop} {a b c : Expr} {pos : Pos} {fa fb fc : EE} {e : Expr} {es : List Expr}
/-! ### for -/
theorem s_for {tg iter : Expr} {body : List Stmt} {s : EI} {g : EG} {f : SS} (hp : PassesOwn (model X.prog X.w) X.A X.env X.xe) (hc : X.calm = true) (hi : PI X tg iter (TII (FX X C We) s)) (hg : PG X tg (TIG (FX X C We) g)) (hb : PSs X body (TIS (FX X C We) f))
    (hs : ∀ x, foldedSetIterable iter X.env x = pure x) : PS X (.For tg iter body [] pos) (TIS (FX X C We) (sFor s g f)) :=
  PSmono (ps_for hp hc hi hg hb hs) fun D σ H ⟨ρ, e, h, rh, re, p⟩ => by
    refine TG_.bindS (RA := RI X.K) (k := fun J h => forL g f J (J.cnt h) 0 e h) rh re p fun ρ1 J h1 J' H1 rh1 re1 x1 ri p1 => ?_
    refine ⟨fun i m σ H => ∃ ρ e h, RH X.K C ρ h H ∧ REnv X.K ρ h.n H e σ ∧ RI X.K ρ h.n H J J' ∧ PostS (FX X C We) ρ h.n H (forL g f J m i e h) D, ⟨_, ρ1, e, h1, rh1, re1, ri, p1⟩, ?_⟩
    rintro i m σ H ⟨ρ, e, h, rh, re, ri, p⟩
    cases m with
    | zero =>
      have p' : PostS (FX X C We) ρ h.n H (match J.fin h i with
        | true => .nx e h
        | false => .stuck) D := p
      cases q : J.fin h i with
      | false => rw [q] at p'; exact p'.elim
      | true => rw [q] at p'; exact .inl ⟨fin_ok (F := FX X C We) rh ri q, p'.nx_ rh re⟩
    | succ m =>
      have p' : PostS (FX X C We) ρ h.n H (match J.nth h i with
        | none => .stuck
        | some w => (g w e h).sg fun e h => match f e h with
          | .nx e h => forL g f J m (i + 1) e h
          | .ct e h => forL g f J m (i + 1) e h
          | .bk e h => .nx e h
          | .rt w h => .rt w h
          | .ex c e h => .ex c e h
          | .stuck => .stuck) D := p
      cases q : J.nth h i with
      | none => rw [q] at p'; exact p'.elim
      | some w =>
        rw [q] at p'
        obtain ⟨go, y⟩ := nth_ok (F := FX X C We) rh ri q
        refine .inr ⟨go, fun σ' H' => ∃ ρ e h, RH X.K C ρ h H' ∧ REnv X.K ρ h.n H' e σ' ∧ RI X.K ρ h.n H' J J' ∧ PostS (FX X C We) ρ h.n H' (forL g f J m (i + 1) e h) D, fun σ' H' z => ⟨m, Nat.lt_succ_self m, z⟩, fun x H' hy => ?_⟩
        obtain ⟨xy, rhy, rvy⟩ := y x H' hy
        refine TIG.sg rhy (re.ext xy) rvy (PostS.shift xy p') fun ρ2 e2 h2 σ2 H2 rh2 re2 x2 p2 => ?_
        have ri2 : RI X.K ρ2 h2.n H2 J J' := RI.mono (F := FX X C We) (xy.trans x2) ri
        refine ⟨ρ2, e2, h2, rh2, re2, ?_⟩
        cases qf : f e2 h2 with
        | nx e3 h3 => rw [qf] at p2; exact fun ρ3 σ3 H3 x3 rh3 re3 => ⟨ρ3, e3, h3, rh3, re3, RI.mono (F := FX X C We) x3 ri2, PostS.shift x3 p2⟩
        | ct e3 h3 => rw [qf] at p2; exact fun ρ3 σ3 H3 x3 rh3 re3 => ⟨ρ3, e3, h3, rh3, re3, RI.mono (F := FX X C We) x3 ri2, PostS.shift x3 p2⟩
        | bk e3 h3 => rw [qf] at p2; exact p2
        | rt w h3 => rw [qf] at p2; exact p2
        | ex c e3 h3 => rw [qf] at p2; exact p2
        | stuck => rw [qf] at p2; exact p2
/-! ### while -/
theorem s_while {t : ET} {body : List Stmt} {f : SS} (hp : PassesOwn (model X.prog X.w) X.A X.env X.xe) (hc : PT X c (TIT (FX X C We) t)) (hb : PSs X body (TIS (FX X C We) f)) : PS X (.While c body [] pos) (TIS (FX X C We) (sWhile t f)) :=
  PSmono (ps_while hp hc hb) fun D σ H ⟨ρ, e, h, rh, re, p⟩ => by
    refine ⟨fun m σ H => ∃ ρ e h, RH X.K C ρ h H ∧ REnv X.K ρ h.n H e σ ∧ PostS (FX X C We) ρ h.n H (whileN t f m e h) D, ⟨whileFuel, ρ, e, h, rh, re, p⟩, ?_⟩
    rintro m σ H ⟨ρ, e, h, rh, re, p⟩
    cases m with
    | zero => exact False.elim p
    | succ m =>
      refine TG_.bindS (RA := fun _ _ _ a b => a = b) (k := (fun c h => match c with
        | false => .nx e h
        | true => (match f e h with
          | .nx e h => whileN t f m e h
          | .ct e h => whileN t f m e h
          | .bk e h => .nx e h
          | .rt w h => .rt w h
          | .ex c e h => .ex c e h
          | .stuck => .stuck) : Bool → IH → RS)) rh re p fun ρ1 x h1 v H1 rh1 re1 x1 ev p1 => ?_
      subst ev
      cases x with
      | false => rw [if_neg (by decide)]; exact p1.nx_ rh1 re1
      | true =>
        rw [if_pos rfl]
        refine ⟨fun σ H => ∃ ρ e h, RH X.K C ρ h H ∧ REnv X.K ρ h.n H e σ ∧ PostS (FX X C We) ρ h.n H (whileN t f m e h) D, fun σ' H' z => ⟨m, Nat.lt_succ_self m, z⟩, ρ1, e, h1, rh1, re1, ?_⟩
        dsimp only at p1
        cases qf : f e h1 with
        | nx e3 h3 => rw [qf] at p1; exact fun ρ3 σ3 H3 x3 rh3 re3 => ⟨ρ3, e3, h3, rh3, re3, PostS.shift x3 p1⟩
        | ct e3 h3 => rw [qf] at p1; exact fun ρ3 σ3 H3 x3 rh3 re3 => ⟨ρ3, e3, h3, rh3, re3, PostS.shift x3 p1⟩
        | bk e3 h3 => rw [qf] at p1; exact p1
        | rt w h3 => rw [qf] at p1; exact p1
        | ex c e3 h3 => rw [qf] at p1; exact p1
        | stuck => rw [qf] at p1; exact p1
/-! ### iterables -/
theorem PImono {tg iter : Expr} {t t' : L2.TI} (h : PI X tg iter t) (k : ∀ σ H Q, t' σ H Q → t σ H Q) : PI X tg iter t' := ⟨fun pins s σ H R I q => h.run pins s σ H R I (k σ H R q)⟩
theorem PIor {tg iter : Expr} {t t' : L2.TI} (h : PI X tg iter t) (h' : PI X tg iter t') : PI X tg iter (fun σ H R => t σ H R ∨ t' σ H R) := ⟨fun pins s σ H R I q => q.elim (h.run pins s σ H R I) (h'.run pins s σ H R I)⟩
theorem i_val {tg : Expr} (ha : PE X a (TI (FX X C We) fa)) : PI X tg a (TII (FX X C We) (iVal fa)) := by
  refine PImono (PIor (pi_list ha) (pi_tup ha)) fun σ H Q ⟨ρ, e, h, rh, re, p⟩ => ?_
  have key : ∀ (P : V → Hp → Prop), (∀ ρ1 w h1 v H1, fa e h = .ok w h1 → RH X.K C ρ1 h1 H1 → RV X.K ρ1 h1.n H1 w v → Post (FX X C We) (RI X.K) σ ρ1 h1.n H1 (match w with
      | .loc a => (match listAt h1 a with
        | some _ => .ok (.lst a) h1
        | none => .stuck)
      | .tup ws => .ok (.tup ws) h1
      | _ => .stuck : Rs IT) Q → P v H1) → TI (FX X C We) fa σ H P := fun P hP => by
    refine ⟨ρ, e, h, rh, re, ?_⟩
    have p' : Post (FX X C We) (RI X.K) σ ρ h.n H ((fa e h).bind fun w h => match w with
      | .loc a => (match listAt h a with
        | some _ => .ok (.lst a) h
        | none => .stuck)
      | .tup ws => .ok (.tup ws) h
      | _ => .stuck) Q := p
    cases q : fa e h with
    | stuck => rw [q] at p'; exact p'.elim
    | exc c h1 => rw [q] at p'; exact p'
    | ok w h1 => rw [q] at p'; exact fun ρ1 v H1 x1 rh1 rv => hP ρ1 w h1 v H1 q rh1 rv (Post.shift x1 p')
  cases qa : fa e h with
  | stuck =>
    have p' : Post (FX X C We) (RI X.K) σ ρ h.n H ((fa e h).bind fun w h => match w with
      | .loc a => (match listAt h a with
        | some _ => .ok (.lst a) h
        | none => .stuck)
      | .tup ws => .ok (.tup ws) h
      | _ => .stuck) Q := p
    rw [qa] at p'; exact p'.elim
  | exc c h1 => exact .inl (key _ fun _ w _ _ _ z => by rw [qa] at z; cases z)
  | ok w h1 =>
    cases w with
    | tup ws =>
      refine .inr (key _ fun ρ1 w h2 v H1 z rh1 rv p1 => ?_)
      rw [qa] at z
      cases z
      cases rv with
      | tup s r => exact ⟨_, rfl, ⟨_, s⟩, post_same rh1 p1 (.tup s r)⟩
    | _ =>
      refine .inl (key _ fun ρ1 w h2 v H1 z rh1 rv p1 => ?_)
      rw [qa] at z
      cases z
      cases rv <;> first | exact False.elim p1 | skip
      all_goals
        rename_i i hi
        dsimp only at p1
        cases g : listAt h1 i with
        | none => rw [g] at p1; exact p1.elim
        | some ws =>
          rw [g] at p1
          obtain ⟨vs, s, r, _⟩ := rh1.list g
          exact ⟨_, rfl, ⟨vs, s⟩, post_same rh1 p1 (.lst hi)⟩
theorem small_of {i : Int} (h : small i = true) : -(2 ^ 62) ≤ i ∧ i < 2 ^ 62 := by
  simp only [small, Bool.and_eq_true, decide_eq_true_eq] at h
  omega
theorem i_rng1 {tg : Expr} {p : Pos} {g : EA} (hg : Gl X "range") (hm : X.mg "range" = none) (ha : PA X [a] (TIA (FX X C We) g)) (hs : starEach [a] X.env = [(false, eval a X.env)]) : PI X tg (.Call (.Name "range" p) [a] [] pos) (TII (FX X C We) (iA kRng1 g)) :=
  PImono (pi_range1 hg hm ha hs) fun σ H Q ⟨ρ, e, h, rh, re, p⟩ => TG_.bind (RA := RVs X.K) (k := kRng1) rh re p fun ρ1 ws h1 vs H1 rh1 re1 x1 rv p1 => by
    cases rv with
    | nil => exact False.elim p1
    | cons r1 r2 =>
      cases r2 with
      | cons _ _ => cases r1 <;> exact False.elim p1
      | nil =>
        cases r1 with
        | @int j =>
          obtain ⟨q, p1⟩ := need_inv p1
          have q' := small_of q
          exact ⟨j, rfl, q'.1, q'.2, post_same rh1 p1 .rng⟩
        | _ => exact False.elim p1
theorem i_rng2 {tg : Expr} {p : Pos} {g : EA} (h : PI X tg (.Call (.Name "range" p) [a, b] [] pos) (iRng2 (TIA (FX X C We) g))) : PI X tg (.Call (.Name "range" p) [a, b] [] pos) (TII (FX X C We) (iA kRng2 g)) :=
  PImono h fun σ H Q ⟨ρ, e, h, rh, re, p⟩ => TG_.bind (RA := RVs X.K) (k := kRng2) rh re p fun ρ1 ws h1 vs H1 rh1 re1 x1 rv p1 => by
    cases rv with
    | nil => exact False.elim p1
    | cons r1 r2 =>
      cases r2 with
      | nil => cases r1 <;> exact False.elim p1
      | cons r2 r3 =>
        cases r3 with
        | cons _ _ => cases r1 <;> cases r2 <;> exact False.elim p1
        | nil =>
          cases r1 with
          | @int i =>
            cases r2 with
            | @int j =>
              obtain ⟨q, p1⟩ := need_inv p1
              obtain ⟨q1, q2⟩ := Bool.and_eq_true_iff.mp q
              have q1' := small_of q1
              have q2' := small_of q2
              exact ⟨i, j, rfl, ⟨q1'.1, q1'.2, q2'.1, q2'.2⟩, post_same rh1 p1 .rng⟩
            | _ => exact False.elim p1
          | _ => cases r2 <;> exact False.elim p1
theorem i_enu {elts : List Expr} {kk : Nat} {tpos p : Pos} {g : EA} (hg : Gl X "enumerate") (hm : X.mg "enumerate" = none) (ha : PA X [a] (TIA (FX X C We) g)) (hs : starEach [a] X.env = [(false, eval a X.env)]) : PI X (.Tuple elts kk tpos) (.Call (.Name "enumerate" p) [a] [] pos) (TII (FX X C We) (iA kEnu g)) :=
  PImono (pi_enuA hg hm ha hs) fun σ H Q ⟨ρ, e, h, rh, re, p⟩ => TG_.bind (RA := RVs X.K) (k := kEnu) rh re p fun ρ1 ws h1 vs H1 rh1 re1 x1 rv p1 => by
    cases rv with
    | nil => exact False.elim p1
    | cons r1 r2 =>
      cases r2 with
      | cons _ _ => cases r1 <;> exact False.elim p1
      | nil =>
        cases r1 with
        | @loc i hi =>
          have p2 : Post (FX X C We) (RI X.K) σ ρ1 h1.n H1 (match listAt h1 i with
            | some _ => .ok (.enu i) h1
            | none => .stuck) Q := p1
          cases q : listAt h1 i with
          | none => rw [q] at p2; exact p2.elim
          | some ws =>
            rw [q] at p2
            obtain ⟨vs, s, r, _⟩ := rh1.list q
            exact ⟨_, vs, rfl, .inl ⟨s, post_same rh1 p2 (.enu hi)⟩⟩
        | tup s r => exact ⟨_, _, rfl, .inr ⟨s, post_same rh1 p1 (.enuT s r)⟩⟩
        | _ => exact False.elim p1
theorem i_zip {elts : List Expr} {kk : Nat} {tpos : Pos} {g : EA} {ze : Expr} (h : PI X (.Tuple elts kk tpos) ze (RZ.iZipA X.K (TIA (FX X C We) g))) : PI X (.Tuple elts kk tpos) ze (TII (FX X C We) (iA kZip g)) :=
  PImono h fun σ H Q ⟨ρ, e, h, rh, re, p⟩ => TG_.bind (RA := RVs X.K) (k := kZip) rh re p fun ρ1 ws h1 vs H1 rh1 re1 x1 rv p1 => by
    cases rv with
    | nil => exact False.elim p1
    | cons r1 r2 =>
      cases r2 with
      | nil => cases r1 <;> exact False.elim p1
      | cons r2 r3 =>
        cases r3 with
        | cons _ _ => cases r1 <;> cases r2 <;> exact False.elim p1
        | nil =>
          cases r1 with
          | @loc i hi =>
            cases r2 with
            | @loc j hj =>
              have p2 : Post (FX X C We) (RI X.K) σ ρ1 h1.n H1 (match listAt h1 i with
                | some _ => (match listAt h1 j with
                  | some _ => .ok (.zip i j) h1
                  | none => .stuck)
                | none => .stuck) Q := p1
              cases q : listAt h1 i with
              | none => rw [q] at p2; exact p2.elim
              | some ws =>
                rw [q] at p2
                dsimp only at p2
                cases q' : listAt h1 j with
                | none => rw [q'] at p2; exact p2.elim
                | some us =>
                  rw [q'] at p2
                  obtain ⟨vs, s, r, _⟩ := rh1.list q
                  obtain ⟨vs', s', r', _⟩ := rh1.list q'
                  exact ⟨_, _, vs, vs', rfl, .inl ⟨s, s', post_same rh1 p2 (.zip hi hj)⟩⟩
            | _ => exact False.elim p1
          | tup s1 q1 =>
            cases r2 with
            | tup s2 q2 => exact ⟨_, _, _, _, rfl, .inr ⟨s1, s2, post_same rh1 p1 (.zipT s1 q1 s2 q2)⟩⟩
            | _ => exact False.elim p1
          | _ => cases r2 <;> exact False.elim p1
/-! ### comprehensions -/
theorem pe_lockB {e : Expr} {td : L2.TE} (he : PE X e td) : PE X e (fun σ H Q => td σ H fun x H1 => ∃ d u, H1 d = some u ∧ L2.Mut (some u) ∧ ∀ od, Q x (upd H1 d (.frz od u))) := ⟨fun pins s σ H Q I h => thn (he.run pins s σ H _ I h) fun v s1 ⟨x, H1, I1, r, d, u, hd, mu, q⟩ => by
  obtain ⟨od, I2⟩ := I1.lock hd mu
  exact ⟨x, _, I2, r, q od⟩⟩
theorem i_any {tg : Expr} (ha : PE X a (TI (FX X C We) fa)) : PI X tg a (TII (FX X C We) (iAny fa)) := by
  refine PImono (PIor (i_val ha) (pi_keys (pe_lockB ha))) fun σ H Q ⟨ρ, e, h, rh, re, p⟩ => ?_
  have left : iAny fa e h = iVal fa e h → TII (FX X C We) (iVal fa) σ H Q := fun z => ⟨ρ, e, h, rh, re, by rw [← z]; exact p⟩
  cases qa : fa e h with
  | stuck => exact .inl (left (by unfold iAny; rw [qa]))
  | exc c h1 => exact .inl (left (by unfold iAny; rw [qa]))
  | ok w h1 =>
    cases w with
    | loc i =>
      cases g : h1.get i with
      | none => exact .inl (left (by unfold iAny; rw [qa]; dsimp only; rw [g]))
      | some c =>
        cases c with
        | dk kvs =>
          have z : iAny fa e h = .ok (.keys i) (h1.set i (.dz kvs)) := by unfold iAny; rw [qa]; dsimp only; rw [g]
          rw [z] at p
          refine .inr ⟨ρ, e, h, rh, re, ?_⟩
          show Post (FX X C We) (RV X.K) σ ρ h.n H (fa e h) _
          rw [qa]
          intro ρ1 v H1 x1 rh1 rv
          cases rv with
          | loc hi =>
            obtain ⟨es, e1, rk⟩ := rh1.dk g
            refine ⟨ρ1 i, .dK es, e1, True.intro, fun od => ⟨ρ1 i, od, rfl, .inl ⟨es, upd_same, ?_⟩⟩⟩
            have x2 : Ext ρ1 ρ1 h1.n h1.n H1 (upd H1 (ρ1 i) (.frz od (.dK es))) := ext_set (a := ρ1 i) hi e1 True.intro
            exact p ρ1 _ _ (x1.trans x2) (rh1.upd g rfl e1 True.intro rfl ⟨od, es, upd_same, rk.mono x2.le x2.same x2.tups x2.frzs⟩) (.keys hi upd_same)
        | _ => exact .inl (left (by unfold iAny; rw [qa]; dsimp only; rw [g]))
    | _ => exact .inl (left (by unfold iAny; rw [qa]))
theorem wipe_len (e : Env) : ∀ vs : List Nat, (wipeW e vs).length = e.length := by
  intro vs
  unfold wipeW
  induction vs generalizing e with
  | nil => rfl
  | cons i vs ih => rw [List.foldl_cons, ih, List.length_set]
end
end Fw

set_option Elab.async false
set_option linter.all false
set_option maxRecDepth 100000
set_option maxHeartbeats 1000000
namespace Fw
open PySem L2
/-! ### comprehensions -/
theorem wipe_at : ∀ (vs : List Nat) (σ : L2.St) (j : Nat), (wipe σ vs)[j]? = if j ∈ vs ∧ j < σ.length then some none else σ[j]?
  | [], σ, j => by simp [wipe]
  | v :: vs, σ, j => by
    unfold wipe
    by_cases e : v = j
    · subst e
      by_cases hl : v < σ.length
      · rw [List.getElem?_set_self (by rw [wipe_length]; exact hl), if_pos ⟨List.mem_cons_self, hl⟩]
      · rw [if_neg (fun z => hl z.2), List.getElem?_eq_none (by rw [List.length_set, wipe_length]; omega), List.getElem?_eq_none (by omega)]
    · rw [List.getElem?_set_ne e, wipe_at vs σ j]
      by_cases hm : j ∈ vs
      · by_cases hl : j < σ.length
        · rw [if_pos ⟨hm, hl⟩, if_pos ⟨List.mem_cons_of_mem _ hm, hl⟩]
        · rw [if_neg (fun z => hl z.2), if_neg (fun z => hl z.2)]
      · rw [if_neg (fun z => hm z.1), if_neg (fun z => by rcases List.mem_cons.mp z.1 with q | q; exact e q.symm; exact hm q)]
theorem wipe_set {σ : L2.St} {vs : List Nat} {i : Nat} {x : Option V} (hi : i ∈ vs) : wipe (σ.set i x) vs = wipe σ vs := by
  apply List.ext_getElem?
  intro j
  rw [wipe_at, wipe_at, List.length_set]
  by_cases hm : j ∈ vs
  · by_cases hl : j < σ.length
    · rw [if_pos ⟨hm, hl⟩, if_pos ⟨hm, hl⟩]
    · rw [if_neg (fun z => hl z.2), if_neg (fun z => hl z.2), List.getElem?_eq_none (by rw [List.length_set]; omega), List.getElem?_eq_none (by omega)]
  · rw [if_neg (fun z => hm z.1), if_neg (fun z => hm z.1), List.getElem?_set_ne (fun e : i = j => hm (e ▸ hi))]
theorem wipeW_at : ∀ (vs : List Nat) (e : Env) (j : Nat), (wipeW e vs)[j]? = if j ∈ vs ∧ j < e.length then some none else e[j]?
  | [], e, j => by simp [wipeW]
  | v :: vs, e, j => by
    have ih := wipeW_at vs (e.set v none) j
    show (wipeW (e.set v none) vs)[j]? = _
    rw [ih, List.length_set]
    by_cases hm : j ∈ vs
    · by_cases hl : j < e.length
      · rw [if_pos ⟨hm, hl⟩, if_pos ⟨List.mem_cons_of_mem _ hm, hl⟩]
      · rw [if_neg (fun z => hl z.2), if_neg (fun z => hl z.2), List.getElem?_eq_none (by rw [List.length_set]; omega), List.getElem?_eq_none (by omega)]
    · rw [if_neg (fun z => hm z.1)]
      by_cases ev : v = j
      · subst ev
        by_cases hl : v < e.length
        · rw [List.getElem?_set_self hl, if_pos ⟨List.mem_cons_self, hl⟩]
        · rw [if_neg (fun z => hl z.2), List.getElem?_eq_none (by rw [List.length_set]; omega), List.getElem?_eq_none (by omega)]
      · rw [List.getElem?_set_ne ev, if_neg (fun z => by rcases List.mem_cons.mp z.1 with q | q; exact ev q.symm; exact hm q)]
theorem REnv.wipe_ {K : PySem.W.Frag} {ρ : Nat → Addr} {n : Nat} {H : Hp} {e : Env} {σ : L2.St} (r : REnv K ρ n H e σ) (vs : List Nat) : REnv K ρ n H (wipeW e vs) (wipe σ vs) where
  len := by rw [wipe_length, wipe_len]; exact r.len
  at_ := fun i w z => by
    rw [wipeW_at] at z
    by_cases hm : i ∈ vs ∧ i < e.length
    · rw [if_pos hm] at z; cases z
    · rw [if_neg hm] at z
      obtain ⟨v, h1, h2⟩ := r.at_ i w z
      exact ⟨v, by rw [wipe_at, if_neg (by rw [← r.len]; exact hm)]; exact h1, h2⟩
/-- a target that stores its own names alone -/
def RW_ (F : Fx) (vs : List Nat) (τ : L2.St) : (Nat → Addr) → Nat → Hp → Env → L2.St → Prop := fun ρ n H e σ => REnv F.K ρ n H e σ ∧ wipe σ vs = wipe τ vs
def TIGw (F : Fx) (vs : List Nat) (g : EG) : L2.TG := fun v σ H Q => ∃ ρ e h w, RH F.K F.C ρ h H ∧ REnv F.K ρ h.n H e σ ∧ RV F.K ρ h.n H w v ∧ Post F.no (RW_ F vs σ) σ ρ h.n H (g w e h) Q
def TIGsw (F : Fx) (vs : List Nat) (gs : List EG) : L2.TGs := fun us σ H Q => ∃ ρ e h ws, RH F.K F.C ρ h H ∧ REnv F.K ρ h.n H e σ ∧ RVs F.K ρ h.n H ws us ∧ Post F.no (RW_ F vs σ) σ ρ h.n H (gSeq gs ws e h) Q
section
variable {X : Cx} {C : Nat → Addr} {We : Nat → L2.St → Hp → Prop} {a b c : Expr} {pos : Pos} {fa fb fc : EE} {e : Expr} {es : List Expr} {vs : List Nat}
theorem gw_name {i : Nat} {x : Str} (hi : i ∈ vs) (h : PG X (.Name x pos) (gName i)) : PG X (.Name x pos) (TIGw (FX X C We) vs (gNm i)) :=
  PGmono h fun v σ H Q ⟨ρ, e, h, w, rh, re, rv, p⟩ => no_same rh p (show RW_ (FX X C We) vs σ _ _ _ _ _ from ⟨re.set rv, wipe_set hi⟩)
theorem gsw_nil : PGs X [] (TIGsw (FX X C We) vs []) := ⟨fun pins s σ H us us' Q I r ⟨ρ, e, h, ws, rh, re, rv, p⟩ => by
  cases rv with
  | nil => exact pgs_nil.run pins s σ H [] us' Q I r ⟨rfl, no_same rh p (show RW_ (FX X C We) vs σ _ _ _ _ _ from ⟨re, rfl⟩)⟩
  | cons _ _ => exact False.elim p⟩
theorem gsw_cons {g : EG} {gs : List EG} (h1 : PG X e (TIGw (FX X C We) vs g)) (h2 : PGs X es (TIGsw (FX X C We) vs gs)) (hs : (assignEach (e :: es) X.env).map (·.2) = assign e X.env :: (assignEach es X.env).map (·.2)) : PGs X (e :: es) (TIGsw (FX X C We) vs (g :: gs)) :=
  ⟨fun pins s σ H us us' Q I r ⟨ρ, en, h, ws, rh, re, rv, p⟩ => by
    cases rv with
    | nil => exact False.elim p
    | @cons w ws v us a b =>
      refine (pgs_cons h1 h2 hs).run pins s σ H (v :: us) us' Q I r ⟨v, us, rfl, ρ, en, h, w, rh, re, a, ?_⟩
      have p' : Post (FX X C We).no (RW_ (FX X C We) vs σ) σ ρ h.n H ((g w en h).bind fun e h => gSeq gs ws e h) Q := p
      cases q : g w en h with
      | stuck => rw [q] at p'; exact p'.elim
      | exc c h3 => rw [q] at p'; exact p'
      | ok e1 h3 =>
        rw [q] at p'
        intro ρ1 σ1 H1 x1 rh1 ⟨re1, rw1⟩
        refine ⟨ρ1, e1, h3, ws, rh1, re1, x1.rvs b, ?_⟩
        have p2 := post_no_any (σ' := σ1) (Post.shift x1 p')
        cases q2 : gSeq gs ws e1 h3 with
        | stuck => rw [Rs.bind_ok, q2] at p2; exact p2
        | exc c h3 => rw [Rs.bind_ok, q2] at p2; exact p2
        | ok e2 h4 => rw [Rs.bind_ok, q2] at p2; exact fun ρ2 σ2 H2 x2 rh2 ⟨re2, rw2⟩ => p2 ρ2 σ2 H2 x2 rh2 ⟨re2, rw2.trans rw1⟩⟩
theorem gw_tup {gs : List EG} {kk : Nat} (hc : X.calm = true) (h : PGs X es (TIGsw (FX X C We) vs gs)) (hn : (assignEach es X.env).length = gs.length) (hst : (assignEach es X.env).findIdx? (·.1) = none) : PG X (.Tuple es kk pos) (TIGw (FX X C We) vs (gTp gs)) :=
  PGmono (pg_tup hc h hn hst) fun v σ H Q ⟨ρ, e, h, w, rh, re, rv, p⟩ => by
    cases rv with
    | @tup ws a us s1 r1 =>
      obtain ⟨hl, p⟩ := need_inv p
      exact ⟨a, us, rfl, s1, by rw [← r1.length]; exact Nat.eq_of_beq_eq_true hl, ρ, e, h, ws, rh, re, r1, p⟩
    | _ => exact False.elim p
/-- the list that grows stands beside -/
theorem RH.beside {F : Fx} {ρ : Nat → Addr} {h : IH} {H : Hp} {D : Addr} {xs ys : List V} (rh : RH F.K F.C ρ h H) (hD : H D = some (.lst xs)) (hn : ∀ i, i < h.n → ρ i ≠ D) : RH F.K F.C ρ h (L2.upd H D (.lst ys)) :=
  ⟨fun i c e => (rh.cell i c e).mono (Nat.le_refl _) (fun _ _ => rfl) (fun a xs q => by rw [upd_ne fun z => by rw [z, hD] at q; cases q]; exact q) (fun a o u q => by rw [upd_ne fun z => by rw [z, hD] at q; cases q]; exact q) fun m o ho => by rw [upd_ne (hn i (IH.get_lt e))]; exact ho, rh.inj, rh.full, sys_upd rh.sys hD fun _ _ z => by cases z⟩
theorem Ext.beside {ρ ρ' : Nat → Addr} {n n' : Nat} {H H' : Hp} {D : Addr} {xs ys : List V} (x : Ext ρ ρ' n n' H H') (h0 : H D = none) (hD : H' D = some (.lst xs)) : Ext ρ ρ' n n' H (upd H' D (.lst ys)) where
  le := x.le
  same := x.same
  frame := fun a o e k => ⟨by rw [upd_ne (ne_of_none e h0)]; exact (x.frame a o e k).1, (x.frame a o e k).2⟩
  tups := fun a xs e => by rw [upd_ne (ne_of_none e h0)]; exact x.tups a xs e
  frzs := fun a o u e => by rw [upd_ne (ne_of_none e h0)]; exact x.frzs a o u e
/-- the end of a comprehension -/
def lcEnd (r : Rs (List W)) : Rs W := r.bind fun xs h => .need (lenOk xs.length) (.ok (.loc h.n) (h.new (.lst xs)))
theorem lc_imp {s : EI} {g : EG} {t : ET} {f : EE} {σ : L2.St} {H : Hp} {Q : VK} : TI (FX X C We) (eLc s g t f vs) σ H Q → tLc (TII (FX X C We) s) (TIGw (FX X C We) vs g) (TIT (FX X C fun _ _ _ => False) t) (TI (FX X C fun _ _ _ => False) f) vs σ H Q :=
  fun ⟨ρ, e, h, rh, re, p⟩ => by
    refine TG_.bind (RA := RI X.K) (RB := RV X.K) (k := fun J h => lcEnd (noExc (lcL g t f J (wipeW e vs) (J.cnt h) 0 h))) rh re p fun ρ1 J h1 J' H1 rh1 re1 x1 ri1 p1 => ?_
    intro D hD
    cases qa : lcL g t f J (wipeW e vs) (J.cnt h1) 0 h1 with
    | stuck => rw [qa] at p1; exact p1.elim
    | exc c h2 => rw [qa] at p1; exact p1.elim
    | ok all hE =>
      rw [qa] at p1
      obtain ⟨hl, p1⟩ := need_inv p1
      have xD : Ext ρ1 ρ1 h1.n h1.n H1 (upd H1 D (.lst [])) := ⟨Nat.le_refl _, fun _ _ => rfl, fun a o q k => ⟨by rw [upd_ne (ne_of_none q hD)]; exact q, k⟩, fun a xs q => by rw [upd_ne (ne_of_none q hD)]; exact q, fun a o u q => by rw [upd_ne (ne_of_none q hD)]; exact q⟩
      have rD : RH X.K C ρ1 h1 (upd H1 D (.lst [])) := ⟨fun i c q => (rh1.cell i c q).mono xD.le xD.same xD.tups xD.frzs fun m o ho => by rw [upd_ne (rh1.free hD i (IH.get_lt q))]; exact ho, rh1.inj, rh1.full, sys_new rh1.sys hD⟩
      refine ⟨fun i m H => ∃ ρ h acc vacc xs, all = acc ++ xs ∧ lcL g t f J (wipeW e vs) m i h = .ok xs hE ∧ RH X.K C ρ h H ∧ Ext ρ1 ρ h1.n h.n H1 H ∧ H D = some (.lst vacc) ∧ (∀ i, i < h.n → ρ i ≠ D) ∧ RVs X.K ρ h.n H acc vacc, ⟨J.cnt h1, ρ1, h1, [], [], all, rfl, qa, rD, xD, upd_same, rh1.free hD, .nil⟩, ?_⟩
      rintro i m H2 ⟨ρ2, h2, acc, vacc, xs, ea, ql, rh2, x2, hD2, fr2, ra⟩
      cases m with
      | zero =>
        have ql' : (match J.fin h2 i with
          | true => Rs.ok [] h2
          | false => .stuck) = .ok xs hE := ql
        cases qf : J.fin h2 i with
        | false => rw [qf] at ql'; cases ql'
        | true =>
          rw [qf] at ql'
          cases ql'
          rw [List.append_nil] at ea
          subst ea
          refine .inl ⟨fin_ok (F := FX X C We) rh2 (RI.mono (F := FX X C We) x2 ri1) qf, ?_⟩
          -- the list comes to its place
          have e1 : V.ref D = V.ref (rhoN ρ2 hE.n D hE.n) := by rw [rhoN_self]
          have xN : Ext ρ1 (rhoN ρ2 hE.n D) h1.n (hE.n + 1) H1 H2 := ⟨Nat.le_succ_of_le x2.le, fun i hi => by rw [rhoN_lt (Nat.lt_of_lt_of_le hi x2.le)]; exact x2.same i hi, fun a o q k => ⟨(x2.frame a o q k).1, fun i hi => by
            by_cases z : i = hE.n
            · rw [z, rhoN_self]; exact (ne_of_none q hD).symm
            · rw [rhoN_lt (by omega)]; exact (x2.frame a o q k).2 i (by omega)⟩, x2.tups, x2.frzs⟩
          have m2 : ∀ {w : W} {v : V}, RV X.K ρ2 hE.n H2 w v → RV X.K (rhoN ρ2 hE.n D) (hE.n + 1) H2 w v := fun r => r.mono (Nat.le_succ _) (fun i hi => rhoN_lt hi) (fun _ _ q => q) fun _ _ _ q => q
          have ms : ∀ {w : List W} {v : List V}, RVs X.K ρ2 hE.n H2 w v → RVs X.K (rhoN ρ2 hE.n D) (hE.n + 1) H2 w v := fun r => r.mono (Nat.le_succ _) (fun i hi => rhoN_lt hi) (fun _ _ q => q) fun _ _ _ q => q
          refine p1 (rhoN ρ2 hE.n D) (.ref D) H2 xN ⟨fun i c q => ?_, fun i j c d q1 q2 _ _ q => ?_, fun i hi => ?_, rh2.sys⟩ (by rw [e1]; exact .loc (Nat.lt_succ_self _))
          · rw [IH.get_new] at q
            by_cases z : i = hE.n
            · rw [if_pos z] at q; cases q; rw [z, rhoN_self]; exact ⟨vacc, hD2, ms ra⟩
            · rw [if_neg z] at q
              rw [rhoN_lt (IH.get_lt q)]
              exact (rh2.cell i c q).mono (Nat.le_succ _) (fun i hi => rhoN_lt hi) (fun _ _ q => q) (fun _ _ _ q => q) fun _ _ q => q
          · rw [IH.get_new] at q1 q2
            by_cases z1 : i = hE.n
            · by_cases z2 : j = hE.n
              · rw [z1, z2]
              · rw [if_neg z2] at q2
                rw [z1, rhoN_self, rhoN_lt (IH.get_lt q2)] at q
                exact absurd q.symm (fr2 j (IH.get_lt q2))
            · rw [if_neg z1] at q1
              by_cases z2 : j = hE.n
              · rw [z2, rhoN_self, rhoN_lt (IH.get_lt q1)] at q
                exact absurd q (fr2 i (IH.get_lt q1))
              · rw [if_neg z2] at q2
                rw [rhoN_lt (IH.get_lt q1), rhoN_lt (IH.get_lt q2)] at q
                exact rh2.inj i j c d q1 q2 rfl rfl q
          · by_cases z : i = hE.n
            · exact ⟨.lst all, by rw [IH.get_new, if_pos z]⟩
            · obtain ⟨d, q⟩ := rh2.full i (by have : i < hE.n + 1 := hi; omega)
              exact ⟨d, by rw [IH.get_new, if_neg z]; exact q⟩
      | succ m =>
        have ql' : (match J.nth h2 i with
          | none => Rs.stuck
          | some w => (g w (wipeW e vs) h2).bind fun e' h => (t e' h).bind fun c h => match c with
            | true => (f e' h).bind fun x h => (lcL g t f J (wipeW e vs) m (i + 1) h).bind fun xs h => .ok (x :: xs) h
            | false => lcL g t f J (wipeW e vs) m (i + 1) h) = .ok xs hE := ql
        clear ql
        cases qn : J.nth h2 i with
        | none => rw [qn] at ql'; cases ql'
        | some w =>
          rw [qn] at ql'
          dsimp only at ql'
          have ri2 := RI.mono (F := FX X C We) x2 ri1
          obtain ⟨go, y⟩ := nth_ok (F := FX X C We) rh2 ri2 qn
          refine .inr ⟨go, fun H => ∃ ρ h acc vacc xs, all = acc ++ xs ∧ lcL g t f J (wipeW e vs) m (i + 1) h = .ok xs hE ∧ RH X.K C ρ h H ∧ Ext ρ1 ρ h1.n h.n H1 H ∧ H D = some (.lst vacc) ∧ (∀ i, i < h.n → ρ i ≠ D) ∧ RVs X.K ρ h.n H acc vacc, fun H' z => ⟨m, Nat.lt_succ_self m, z⟩, fun x H3 hy => ?_⟩
          obtain ⟨x3, rh3, rv3⟩ := y x H3 hy
          obtain ⟨hD3, fr3⟩ := x3.frame D _ hD2 fr2
          have re3 : REnv X.K ρ2 h2.n H3 (wipeW e vs) (wipe σ vs) := (REnv.ext (F := FX X C We) (x2.trans x3) re1).wipe_ vs
          refine ⟨ρ2, wipeW e vs, h2, w, rh3, re3, rv3, ?_⟩
          cases qg : g w (wipeW e vs) h2 with
          | stuck => rw [qg] at ql'; cases ql'
          | exc c h3 => rw [qg] at ql'; cases ql'
          | ok e4 h4 =>
            rw [qg, Rs.bind_ok] at ql'
            intro ρ4 σ4 H4 x4 rh4 ⟨re4, rw4⟩
            obtain ⟨hD4, fr4⟩ := x4.frame D _ hD3 fr3
            refine ⟨by rw [rw4]; apply List.ext_getElem?; intro j; rw [wipe_at, wipe_at, wipe_length]; by_cases z : j ∈ vs ∧ j < σ.length <;> simp [z], ρ4, e4, h4, rh4, re4, ?_⟩
            cases qt : t e4 h4 with
            | stuck => rw [qt] at ql'; cases ql'
            | exc c h3 => rw [qt] at ql'; cases ql'
            | ok b h5 =>
              rw [qt, Rs.bind_ok] at ql'
              intro ρ5 b' H5 x5 rh5 eb
              subst eb
              obtain ⟨hD5, fr5⟩ := x5.frame D _ hD4 fr4
              cases b with
              | false =>
                rw [if_neg (by decide)]
                exact ⟨ρ5, h5, acc, vacc, xs, ea, ql', rh5, ((x2.trans x3).trans x4).trans x5, hD5, fr5, ((x3.trans x4).trans x5).rvs ra⟩
              | true =>
                rw [if_pos rfl]
                refine ⟨ρ5, e4, h5, rh5, REnv.ext (F := FX X C We) x5 re4, ?_⟩
                dsimp only at ql'
                cases qf : f e4 h5 with
                | stuck => rw [qf] at ql'; cases ql'
                | exc c h3 => rw [qf] at ql'; cases ql'
                | ok u h6 =>
                  rw [qf, Rs.bind_ok] at ql'
                  intro ρ6 v6 H6 x6 rh6 rv6
                  obtain ⟨hD6, fr6⟩ := x6.frame D _ hD5 fr5
                  cases qr : lcL g t f J (wipeW e vs) m (i + 1) h6 with
                  | stuck => rw [qr] at ql'; cases ql'
                  | exc c h3 => rw [qr] at ql'; cases ql'
                  | ok us h7 =>
                    rw [qr, Rs.bind_ok] at ql'
                    cases ql'
                    have xx := (((x2.trans x3).trans x4).trans x5).trans x6
                    have ra6 := (((x3.trans x4).trans x5).trans x6).rvs ra
                    have len : vacc.length < sizeLine := by
                      have q := line_of hl
                      rw [ea, List.length_append, List.length_cons] at q
                      rw [← ra.length]; omega
                    have mm : ∀ {w : W} {v : V}, RV X.K ρ6 h6.n H6 w v → RV X.K ρ6 h6.n (upd H6 D (.lst (vacc ++ [v6]))) w v := fun r => r.mono (Nat.le_refl _) (fun _ _ => rfl) (fun a xs q => by rw [upd_ne fun z => by rw [z, hD6] at q; cases q]; exact q) fun a o u q => by rw [upd_ne fun z => by rw [z, hD6] at q; cases q]; exact q
                    have mms : ∀ {w : List W} {v : List V}, RVs X.K ρ6 h6.n H6 w v → RVs X.K ρ6 h6.n (upd H6 D (.lst (vacc ++ [v6]))) w v := fun r => r.mono (Nat.le_refl _) (fun _ _ => rfl) (fun a xs q => by rw [upd_ne fun z => by rw [z, hD6] at q; cases q]; exact q) fun a o u q => by rw [upd_ne fun z => by rw [z, hD6] at q; cases q]; exact q
                    exact ⟨vacc, hD6, len, ρ6, h6, acc ++ [u], vacc ++ [v6], us, by rw [ea, List.append_assoc]; rfl, qr, RH.beside (F := FX X C We) rh6 hD6 fr6, xx.beside hD hD6, upd_same, fr6, (mms ra6).append (.cons (mm rv6) .nil)⟩
end
end Fw

set_option Elab.async false
set_option linter.all false
set_option maxRecDepth 100000
set_option maxHeartbeats 1000000
/-! Fw, part H: defs and their calls, where no text of an object is being made (the guards' list is empty: repr asks it). -/
namespace Fw
open PySem PySem.Spec PyProof.Rows L2
/-- a def keeps a promise, where nothing is being written out -/
structure FnG (P : Program) (w : World) (K : PySem.W.Frag) (mg : Str → Option Value) (base : Heap) (CX : CXT) (k : Nat) (f : Addr) (fd : FuncData) (ps : List Str) (sp : Sp) : Prop where
  len : ∀ vs H Q E, sp vs H Q E → vs.length = ps.length
  run : ∀ (A : Around) (outer : List PySem.Env) (s : Shared) (H : Hp) (args : Args) (us : List Value) (vs : List V) (Q : VK) (E : XK),
    A.guards = some [] → Room k A → Env0 P w K mg base A outer s H → BindsTo s fd args (ps.zip us) → Vals vs us → sp vs H Q E → codeAny (model P w) A (.call (.ref f) args) (CR CX outer P w H s Q E) s
theorem FnG.mono {P : Program} {w : World} {K : PySem.W.Frag} {mg : Str → Option Value} {base : Heap} {CX : CXT} {j k : Nat} {f : Addr} {fd : FuncData} {ps : List Str} {sp : Sp} (F : FnG P w K mg base CX j f fd ps sp) (h : j ≤ k) : FnG P w K mg base CX k f fd ps sp :=
  ⟨F.len, fun A outer s H args us vs Q E g hr => F.run A outer s H args us vs Q E g (hr.mono h)⟩
/-- by the def's body -/
theorem FnG.of {CX : CXT} {P : Program} {w : World} {K : PySem.W.Frag} {mg : Str → Option Value} {base : Heap} {k : Nat} {f : Addr} {name qual : Str} {params : Arguments} {body : List Stmt} {scope : Scope} {dV kV doc pm cdv ct oc : Value} {an od : Option Addr}
    {osl : Array (Option Value)} {N ps : List Str} {sp : Sp} (found : K.lookup f = some ⟨oc, od, .func (PySem.W.fnOf name qual params body scope dV kV doc pm an cdv ct), osl⟩) (code : PySem.W.codeIn K cdv qual = true) (S : FnScope N ps scope)
    (len : ∀ vs H Q E, sp vs H Q E → vs.length = ps.length)
    (B : ∀ (A : Around) (outer : List PySem.Env) (s : Shared) (H : Hp) (vs : List V) (Q : VK) (E : XK), A.guards = some [] → Room k (A.deeper (envOfC qual scope s.heap.objs.size f cdv)) → sp vs H Q E →
      ∃ t, PSs (cxOf CX P w K mg base N qual scope f cdv A outer s H E) body t ∧ t { nx := fun _ H' => Q .non H', rt := Q } (start N vs) H) :
    FnG P w K mg base CX (k + 1) f (PySem.W.fnOf name qual params body scope dV kV doc pm an cdv ct) ps sp where
  len := len
  run := fun A outer s H args us vs Q E g hr e0 hb r q => by
    have keepB : ∀ b o, base.get? b = some o → s.heap.get? b = some o := fun b o e => (e0.bs b o e).1
    have inK : K.In s.heap := e0.mod.kin.keeps keepB
    have free : s.heap.NoLimit := e0.mod.nolimit.keeps keepB
    have kinds : ∀ y ∈ ps.zip us, scope.names.lookup y.1 = some .local ∨ (scope.names.lookup y.1 = some .cell ∧ ((cellsFrom (s.heap.objs.size + 1) scope.names []).lookup y.1).isSome = true) := fun y hy =>
      (S.par y.1 (List.of_mem_zip (a := y.1) (b := y.2) hy).1).imp id fun c => ⟨c, PySem.W.cellsFrom_some _ _ _ (.inl c)⟩
    refine codeAny_call_function hr.depth (inK _ _ found) rfl S.co S.gen rfl (PySem.W.codeRec_of inK code) (hb _ _ _ _ (wpAny_newFunctionEnv_cells S.kind kinds fun env he s1 x => ?_))
    subst he
    obtain ⟨t, body_, reads⟩ := B A outer s H vs Q E g (hr.deeper _) q
    have I0 := inv_start (CX := CX) (P := P) (w := w) (K := K) (mg := mg) (base := base) (N := N) (E := E) S hr.hd e0 (len _ _ _ _ q) r x
    refine ⟨free.keeps x.toInCall.keep, codeAny_func (wpAny_mono (body_.run [] s1 (start N vs) H _ I0 reads) (fun fl s' ends => ?_) fun e s' out => out)⟩
    match fl, ends with
    | .ret u, ⟨v, σ', H', J, rv, q'⟩ => exact ⟨v, H', J.os, J.bare, J.base, J.hok, rv, q'⟩
    | .next, ⟨σ', H', J, q'⟩ => exact ⟨V.non, H', J.os, J.bare, J.base, J.hok, rfl, q'⟩
    | .brk, ⟨_, _, _, q'⟩ => exact q'.elim
    | .cont, ⟨_, _, _, q'⟩ => exact q'.elim
section
variable {X : Cx} {CX : CXT} {k : Nat} {f : Addr} {fd : FuncData} {ps : List Str} {sp : Sp} {E : L2.St → XK} {x m : Str} {p pos apos : Pos} {e o : Expr} {es : List Expr} {ta : L2.TE} {t : L2.TA}
theorem runG {pins : List (Addr × Obj)} {σ : L2.St} {H : Hp} {s : Shared} {Q : VK} {us : List Value} {vs : List V} (F : FnG X.prog X.w X.K X.mg X.base CX k f fd ps sp) (g : X.A.guards = some []) (hr : Room k X.A) (hb : Binds X.K fd ps []) (hx : PassesAt CX X σ (E σ))
    (I : L2.Inv X pins σ H s) (r : Vals vs us) (q : sp vs H Q (E σ)) : wpAny (model X.prog X.w) X.A (PySem.call (.ref f) us) (EP X pins σ Q) X.xe s := by
  have n : us.length = ps.length := r.length.symm.trans (F.len _ _ _ _ q)
  have b : BindsTo s fd ⟨us, []⟩ (ps.zip us) := by simpa using hb s us I.kIn (by simpa using n)
  refine wpAny_call (codeAny_mono (F.run X.A X.stack s H ⟨us, []⟩ us vs Q (E σ) g hr I.env0 b r q) fun r s' out => ?_)
  match r, out with
  | .error e, out => exact hx pins H s e s' I out
  | .ok (.ret u), out => exact I.after out
  | .ok .next, out => exact False.elim out
  | .ok .brk, out => exact False.elim out
  | .ok .cont, out => exact False.elim out
def tCallG (sp : Sp) (E : L2.St → XK) (t : L2.TA) : L2.TE := fun σ H Q => t σ H fun vs H1 => sp vs H1 Q (E σ)
theorem pe_callG (F : FnG X.prog X.w X.K X.mg X.base CX k f fd ps sp) (g : X.A.guards = some []) (hr : Room k X.A) (hg : Gl X x) (hm : X.mg x = some (.ref f)) (hk : PySem.W.keepIn X.K (.ref f) = true) (hb : Binds X.K fd ps []) (hx : ∀ σ, PassesAt CX X σ (E σ))
    (ha : PA X (e :: es) t) (hdb : (x == ("__debug__" : Str)) = false) (he : starEach (e :: es) X.env = (false, eval e X.env) :: starEach es X.env) (hpl : (backTo pos (starEach es X.env)).any (·.1) = false) : PE X (.Call (.Name x p) (e :: es) [] pos) (tCallG sp E t) :=
  ⟨fun pins s σ H Q I h => wpAny_Call_Name_kw (ld_glob I hg hm (PySem.W.callWith_K (h₀ := X.base) I.ok.mod.kin hk (thn (ha.run pos pins s σ H _ I h) fun us s1 ⟨vs, H1, I1, r, q⟩ => ⟨I1.kIn, runG F g hr hb (hx σ) I1 r q⟩) he hpl) hdb)⟩
theorem pe_callG0 (F : FnG X.prog X.w X.K X.mg X.base CX k f fd ps sp) (g : X.A.guards = some []) (hr : Room k X.A) (hg : Gl X x) (hm : X.mg x = some (.ref f)) (hk : PySem.W.keepIn X.K (.ref f) = true) (hb : Binds X.K fd ps []) (hx : ∀ σ, PassesAt CX X σ (E σ))
    (hdb : (x == ("__debug__" : Str)) = false) : PE X (.Call (.Name x p) [] [] pos) (tCallG sp E tNil) :=
  ⟨fun pins s σ H Q I h => wpAny_Call_Name_kw (ld_glob I hg hm (PySem.W.callWith_K0 I.kIn hk (runG (us := []) F g hr hb (hx σ) I .nil h)) hdb)⟩
end
/-! ### the law's own call -/
theorem lawG {P : Program} {w : World} {K : PySem.W.Frag} {mg mb : Str → Option Value} {CX : CXT} {k : Nat} {fa a : Addr} {fd : FuncData} {x : Str} {sp : Sp} {s₁ : Shared} {vs : List Value} {ns : List Int}
    (inK : K.In s₁.heap) (hns : s₁.heap.Ns mainGlobals mg) (hb : s₁.heap.Ns builtinsNs mb) (hbb : ∀ x : Str, x ≠ "__name__" → mb x = bootBuiltins x) (hlim : s₁.heap.NoLimit) (hg : s₁.gens = #[])
    (ha : s₁.heap.get? a = some { cls := .type "list", data := .seq vs.toArray }) (hi : IntsAre vs ns) (hl : ns.length ≤ sizeLine) (hr : Room k callerA) (hk1 : K.lookup sysModules = none) (hs1 : ∃ o, s₁.heap.get? sysModules = some o ∧ o.cls = .type "dict")
    (F : ∀ base : Heap, K.In base → base.Ns mainGlobals mg → FnG P w K mg base CX k fa fd [x] sp) (hbind : ∀ (s : Shared) (u : Value), BindsTo s fd ⟨[u], []⟩ [(x, u)])
    (hsp : ∀ H : Hp, SysH H → RoL K H a (ns.map V.int) → sp [.ref a] H (fun v _ => v = .bl true) fun _ _ _ => False)
    (hCX : ∀ H e s', CX [] H s₁ (fun _ _ _ => False) e s' → False) :
    codeAny (model P w) callerA (.call (.ref fa) ⟨[.ref a], []⟩) (fun r s' => r = .ok (.ret (.bool true)) ∧ OldK s₁.heap s'.heap ∧ s'.os = s₁.os ∧ AllBare s'.gens) s₁ := by
  have rv := vals_ints hi
  have n := hi.length
  let ob : Obj := { cls := .type "list", data := .seq vs.toArray }
  obtain ⟨od, hod, hcd⟩ := hs1
  have an : a ≠ sysModules := fun z => by rw [z, hod] at ha; cases ha; exact absurd (show (Value.type "list" : Value) = .type "dict" from hcd) (by decide)
  let φ : Heap → Prop := fun h => h.get? sysModules = some od
  -- H tracks the script, where it is none of the module's own objects, and the modules' dict
  have main : ∀ H : Hp, (∀ b u, H b = some u → (b = a ∧ K.lookup a = none ∧ u = .frz ob (.lst (ns.map V.int))) ∨ (b = sysModules ∧ u = .frz od (.ext φ))) → HOk P w H s₁.heap → SysH H → RoL K H a (ns.map V.int) →
      codeAny (model P w) callerA (.call (.ref fa) ⟨[.ref a], []⟩) (fun r s' => r = .ok (.ret (.bool true)) ∧ OldK s₁.heap s'.heap ∧ s'.os = s₁.os ∧ AllBare s'.gens) s₁ := by
    intro H only ok hY hS
    have bare_ : ∀ {b : Addr} {o : Obj}, s₁.heap.get? b = some o → (b = a → K.lookup a ≠ none ∨ o ≠ ob) → b ≠ sysModules → H b = none := fun {b o} e d d1 => by
      cases q : H b with
      | none => rfl
      | some u =>
        rcases only b u q with ⟨rfl, q2, _⟩ | ⟨z, _⟩
        · rcases d rfl with z | z
          · exact absurd q2 z
          · exact absurd (Option.some.inj (e.symm.trans ha)) z
        · exact absurd z d1
    have ns_ : ∀ {b : Addr} {m : Str → Option Value}, b ≠ sysModules → s₁.heap.Ns b m → (hidT s₁.heap H).Ns b m := fun d1 ⟨o, es, ep, e, d, r⟩ =>
      ⟨o, es, ep, hidT_get e (bare_ e (fun _ => .inr fun z => by rw [z] at d; cases d) d1), d, r⟩
    have kin : K.In (hidT s₁.heap H) := fun b o e => hidT_get (inK b o e) (bare_ (inK b o e) (fun z => .inl fun q => by rw [z, q] at e; cases e) fun z => by rw [z, hk1] at e; cases e)
    have hM : Mod K mg (hidT s₁.heap H) := ⟨kin, ns_ (by decide) hns, ⟨mb, ns_ (by decide) hb, hbb⟩, let ⟨mc, h1, h2⟩ := hlim; ⟨mc, ns_ (by decide) h1, h2⟩⟩
    have e0 : Env0 P w K mg (hidT s₁.heap H) callerA [] s₁ H := ⟨rfl, hM, fun b o e => of_hidT e, Nat.le_of_eq (hidT_size _ _), trivial, fun b z => absurd (show b ∈ ([] : List Addr) from z) (by simp), ok, .of_eq hg⟩
    refine codeAny_mono ((F _ kin (ns_ (by decide) hns)).run callerA [] s₁ H ⟨[.ref a], []⟩ [.ref a] [.ref a] _ _ rfl hr e0 (hbind s₁ (.ref a)) (.cons rfl .nil) (hsp H hY hS)) fun r s' out => ?_
    match r, out with
    | .error e, out => exact (hCX H e s' out).elim
    | .ok .next, out => exact False.elim out
    | .ok .brk, out => exact False.elim out
    | .ok .cont, out => exact False.elim out
    | .ok (.ret u), ⟨v, H', os, bare, un, ok', r', q⟩ =>
      cases q
      cases r'
      refine ⟨rfl, OldK.of_keep fun b o e => ?_, os, bare⟩
      cases q : H b with
      | none => exact un.keep b o e q (fun z => absurd (show b ∈ ([] : List Addr) from z) (by simp)) (by simp)
      | some u =>
        have fz : ∃ o' u', u = .frz o' u' := by
          rcases only b u q with ⟨_, _, z⟩ | ⟨_, z⟩
          · exact ⟨_, _, z⟩
          · exact ⟨_, _, z⟩
        obtain ⟨o', u', rfl⟩ := fz
        have e1 := (ok b _ q).1
        have e2 := (ok' b _ (un.frzs b o' _ q)).1
        exact e2.trans (e1.symm.trans e)
  have oks : ObjOk P w (fun _ => none) s₁.heap sysModules (.ext φ) := ⟨hod, ⟨od, hod⟩, fun h1 h2 e k => k od e⟩
  have sysOk : ∀ H : Hp, ObjOk P w H s₁.heap sysModules (.frz od (.ext φ)) := fun H => ⟨hod, hod, ⟨od, hod⟩, fun h1 h2 e k => k od e⟩
  cases hk : K.lookup a with
  | some o =>
    have e := (inK a o hk).symm.trans ha
    have one : ∀ b u, (if b = sysModules then some (HO.frz od (.ext φ)) else none) = some u → b = sysModules ∧ u = .frz od (.ext φ) := fun b u z => by
      by_cases e : b = sysModules
      · rw [if_pos e] at z; cases z; exact ⟨e, rfl⟩
      · rw [if_neg e] at z; cases z
    refine main (fun b => if b = sysModules then some (.frz od (.ext φ)) else none) (fun b u z => .inr (one b u z)) (fun b u z => ?_) ⟨od, φ, if_pos rfl⟩ (.inr ⟨o, vs.toArray, 0, hk, ?_⟩)
    · obtain ⟨rfl, rfl⟩ := one b u z
      exact sysOk _
    · cases e
      exact ⟨rfl, rfl, rfl, by rw [List.size_toArray, n]; exact hl, by simpa using rv⟩
  | none =>
    have one : ∀ b u, (if b = a then some (HO.frz ob (.lst (ns.map V.int))) else if b = sysModules then some (HO.frz od (.ext φ)) else none) = some u → (b = a ∧ u = .frz ob (.lst (ns.map V.int))) ∨ (b = sysModules ∧ u = .frz od (.ext φ)) := fun b u z => by
      by_cases e : b = a
      · rw [if_pos e] at z; cases z; exact .inl ⟨e, rfl⟩
      · rw [if_neg e] at z
        by_cases e2 : b = sysModules
        · rw [if_pos e2] at z; cases z; exact .inr ⟨e2, rfl⟩
        · rw [if_neg e2] at z; cases z
    refine main (fun b => if b = a then some (.frz ob (.lst (ns.map V.int))) else if b = sysModules then some (.frz od (.ext φ)) else none) (fun b u z => ?_) (fun b u z => ?_) ⟨od, φ, ?_⟩ (.inl ⟨ob, if_pos rfl⟩)
    · rcases one b u z with ⟨h1, h2⟩ | h
      · exact .inl ⟨h1, hk, h2⟩
      · exact .inr h
    · rcases one b u z with ⟨rfl, rfl⟩ | ⟨rfl, rfl⟩
      · exact ⟨ha, by rw [List.length_map]; exact hl, vs, _, rv, ha⟩
      · exact sysOk _
    · show (if sysModules = a then _ else if sysModules = sysModules then _ else _) = _
      rw [if_neg (Ne.symm an), if_pos rfl]
end Fw

set_option Elab.async false
set_option linter.all false
set_option maxRecDepth 100000
set_option maxHeartbeats 1000000
/-! Fw, part I: what is seen of a text alone, and the rest of the rules. -/
namespace Fw
open PySem PySem.Spec PyProof.Rows L2
/-! ### what is seen of a text alone -/
def noStar : Expr → Bool
  | .Starred _ _ => false
  | _ => true
theorem star_cons {e : Expr} {es : List Expr} {env : PySem.Env} (h : noStar e = true) : starEach (e :: es) env = (false, eval e env) :: starEach es env := by
  cases e <;> first | rfl | cases h
theorem star_back {pos : Pos} {env : PySem.Env} : ∀ {es : List Expr}, es.all noStar = true → (backTo pos (starEach es env)).any (·.1) = false
  | [], _ => rfl
  | e :: es, h => by
    obtain ⟨h1, h2⟩ := Bool.and_eq_true_iff.mp (show (noStar e && es.all noStar) = true from h)
    rw [star_cons h1]
    exact star_back h2
theorem star_few {pos : Pos} {env : PySem.Env} : ∀ {es : List Expr}, es.all noStar = true → (backTo pos (starEach es env)).all (fun x => !x.1) = true
  | [], _ => rfl
  | e :: es, h => by
    obtain ⟨h1, h2⟩ := Bool.and_eq_true_iff.mp (show (noStar e && es.all noStar) = true from h)
    rw [star_cons h1]
    exact star_few h2
theorem asg_cons {e : Expr} {es : List Expr} {env : PySem.Env} (h : noStar e = true) : assignEach (e :: es) env = (false, assign e env) :: assignEach es env := by
  cases e <;> first | rfl | cases h
theorem asg_len {env : PySem.Env} : ∀ {es : List Expr}, es.all noStar = true → (assignEach es env).length = es.length
  | [], _ => rfl
  | e :: es, h => by
    obtain ⟨h1, h2⟩ := Bool.and_eq_true_iff.mp (show (noStar e && es.all noStar) = true from h)
    rw [asg_cons h1]
    simp [asg_len h2]
theorem asg_plain {env : PySem.Env} : ∀ {es : List Expr}, es.all noStar = true → (assignEach es env).findIdx? (·.1) = none
  | [], _ => rfl
  | e :: es, h => by
    obtain ⟨h1, h2⟩ := Bool.and_eq_true_iff.mp (show (noStar e && es.all noStar) = true from h)
    rw [asg_cons h1, List.findIdx?_cons]
    simp [asg_plain h2]
/-- as a test it is its value's truth -/
def plainT : Expr → Bool
  | .UnaryOp .. => false
  | .BoolOp .. => false
  | .IfExp .. => false
  | .Compare .. => false
  | _ => true
theorem plainT_ok {e : Expr} {env : PySem.Env} (h : plainT e = true) (whole : Sem Value) : isTrue e env whole = (do let v ← whole; standAt e.pos; holding [v] (truthy v)) := by
  cases e <;> first | rfl | cases h
/-- no call of super -/
def noSup : Expr → Bool
  | .Call _ [] [] _ => false
  | _ => true
theorem base_ok {e : Expr} {m : Str} {env : PySem.Env} (h : noSup e = true) : attributeBase e m env (eval e env) = eval e env := by
  cases e with
  | Call f as ks p =>
    cases as with
    | cons a as => cases f <;> rfl
    | nil =>
      cases ks with
      | nil => cases h
      | cons k ks => cases f <;> rfl
  | _ => rfl
def noSet : Expr → Bool
  | .Set _ _ _ => false
  | _ => true
theorem set_ok_ {e : Expr} {op : CmpOp} (h : noSet e = true) : behindInMarks op e = false := by
  cases e <;> first | rfl | cases h
theorem fold_ok {e : Expr} {env : PySem.Env} (h : noSet e = true) (x : Value) : foldedSetIterable e env x = pure x := by
  cases e <;> first | rfl | cases h
theorem last_ok {op op' : CmpOp} {b c : Expr} (h : noSet c = true) : lastMarks [op, op'] [b, c] = false := set_ok_ h
/-- no comprehension -/
def noComp : Expr → Bool
  | .ListComp .. => false
  | .SetComp .. => false
  | .DictComp .. => false
  | _ => true
theorem swaps_ok {e : Expr} {tg : Option Expr} {l : Nat} {env : PySem.Env} (h : noComp e = true) : swapsWith e tg l env = pure false := by
  cases e <;> first | rfl | cases h
/-- an index that is no slice -/
def noSlice : Expr → Bool
  | .Slice .. => false
  | .Tuple .. => false
  | .Constant .. => true
  | _ => true
theorem ix_plain {e : Expr} (h : noSlice e = true) : PlainIx e := by
  intro o i
  cases e <;> first | rfl | cases h
def noTup : Expr → Bool
  | .Tuple .. => false
  | _ => true
/-- a target that is no display -/
def noTL : Expr → Bool
  | .Tuple .. => false
  | .List .. => false
  | _ => true
/-- a display of two or three in a display of as many names is another statement -/
theorem stores_ok {tg e : Expr} {env : PySem.Env} (h : noTup e = true) : swappedStores [tg] e env = pure none := by
  unfold swappedStores
  cases tg <;> cases e <;> first | rfl | cases h
theorem stores_ok2 {tg e : Expr} {env : PySem.Env} (h : noTL tg = true) : swappedStores [tg] e env = pure none := by
  unfold swappedStores
  cases tg <;> first | rfl | cases h
theorem rvs_nats {K : PySem.W.Frag} {ρ : Nat → Addr} {n : Nat} {H : Hp} (m : Nat) : RVs K ρ n H ((List.range m).map fun i => W.int (i : Nat)) ((List.range m).map fun i => V.int (0 + (i : Nat))) := by
  generalize List.range m = l
  induction l with
  | nil => exact .nil
  | cons a r ih => rw [List.map_cons, List.map_cons, Int.zero_add]; exact .cons .int ih
/-! ### kinds -/
section
variable {X : Cx} {C : Nat → Addr} {We : Nat → L2.St → Hp → Prop} {a b c : Expr} {pos : Pos} {fa fb fc : EE} {e : Expr} {es : List Expr}
/-- isinstance(x, T) -/
theorem c_isi {cl : Expr} {p : Pos} {u : Ty} (hu : isOwn u = false) (hg : Gl X "isinstance") (hm : X.mg "isinstance" = none) (ha : PE X a (TI (FX X C We) fa)) (hc : PE X cl (tC (.ty (tyN u)))) (h1 : noStar a = true) (h2 : noStar cl = true) :
    PE X (.Call (.Name "isinstance" p) [a, cl] [] pos) (TI (FX X C We) (e1 (oIsi [u]) fa)) :=
  PEmono (pe_callB call_isi hg hm (by rfl) (pa_cons ha (pa_cons hc pa_nil (star_cons h2)) (star_cons h1)) (by decide) (by decide) (star_cons h1) (star_back (by simp [h2]))) fun σ H Q ⟨ρ, e, h, rh, re, p⟩ =>
    TG_.bind (k := oIsi [u]) rh re p fun ρ1 x h1 v H1 rh1 re1 x1 rv p1 => by
      unfold oIsi at p1
      cases q : tyOf h1 x with
      | none => rw [q] at p1; exact p1.elim
      | some t =>
        rw [q] at p1
        obtain ⟨ho, p1⟩ := need_inv p1
        have ho' : isOwn t = false := by simpa using ho
        have z := kit_anyT (K := X.K) ho' [u] (by simp [hu])
        refine ⟨v, .ty (tyN u), _, _, isTy t u, rfl, .ty _, ty_ok rh1 rv q ho', ?_, ?_⟩
        · exact kit_ty (kit_tab t u ho' hu)
        · have p2 := post_same rh1 p1 .bl
          simpa using p2
/-- isinstance(x, (T, U)) -/
theorem c_isi2 {c1 c2 : Expr} {p tp : Pos} {kk : Nat} {u t : Ty} (hu : isOwn u = false) (ht : isOwn t = false) (hg : Gl X "isinstance") (hm : X.mg "isinstance" = none) (ha : PE X a (TI (FX X C We) fa)) (hc1 : PE X c1 (tC (.ty (tyN u)))) (hc2 : PE X c2 (tC (.ty (tyN t)))) (h1 : noStar a = true) (n1 : noStar c1 = true) (n2 : noStar c2 = true) :
    PE X (.Call (.Name "isinstance" p) [a, .Tuple [c1, c2] kk tp] [] pos) (TI (FX X C We) (e1 (oIsi [u, t]) fa)) :=
  PEmono (pe_callB call_isiT hg hm (by rfl) (pa_cons ha (pa_cons (pe_tup (pa_cons hc1 (pa_cons hc2 pa_nil (star_cons n2)) (star_cons n1))) pa_nil (star_cons rfl)) (star_cons h1)) (by decide) (by decide) (star_cons h1) (star_back (by simp [noStar]))) fun σ H Q ⟨ρ, e, h, rh, re, p⟩ =>
    TG_.bind (k := oIsi [u, t]) rh re p fun ρ1 x h1 v H1 rh1 re1 x1 rv p1 => by
      unfold oIsi at p1
      cases q : tyOf h1 x with
      | none => rw [q] at p1; exact p1.elim
      | some t' =>
        rw [q] at p1
        obtain ⟨ho, p1⟩ := need_inv p1
        have ho' : isOwn t' = false := by simpa using ho
        have z := kit_anyT (K := X.K) ho' [u, t] (by simp [hu, ht])
        refine ⟨by show 2 ≤ sizeLine; rw [sizeLine_eq]; omega, fun tp htp => ?_⟩
        have xt : Ext ρ1 ρ1 h1.n h1.n H1 (upd H1 tp (.tup [.ty (tyN u), .ty (tyN t)])) := ⟨Nat.le_refl _, fun _ _ => rfl, fun b o e k => ⟨by rw [upd_ne (ne_of_none e htp)]; exact e, k⟩, fun b xs e => by rw [upd_ne (ne_of_none e htp)]; exact e, fun b o xs e => by rw [upd_ne (ne_of_none e htp)]; exact e⟩
        have rt : RH X.K C ρ1 h1 (upd H1 tp (.tup [.ty (tyN u), .ty (tyN t)])) := ⟨fun i c e => (rh1.cell i c e).mono xt.le xt.same xt.tups xt.frzs fun m o ho => by rw [upd_ne (rh1.fresh htp i c e m)]; exact ho, rh1.inj, rh1.full, sys_new rh1.sys htp⟩
        exact ⟨v, tp, [.ty (tyN u), .ty (tyN t)], _, [.type (tyN u), .type (tyN t)], _, rfl, upd_same, .cons (.ty _) (.cons (.ty _) .nil), ty_ok rt (xt.rv rv) q ho', z, p1 ρ1 _ _ xt rt .bl⟩
/-- list(range(a, b)) -/
theorem rvs_from {K : PySem.W.Frag} {ρ : Nat → Addr} {n : Nat} {H : Hp} (i : Int) (m : Nat) : RVs K ρ n H ((List.range m).map fun k => W.int (i + (k : Nat))) ((List.range m).map fun k => V.int (i + (k : Nat))) := by
  generalize List.range m = l
  induction l with
  | nil => exact .nil
  | cons a r ih => rw [List.map_cons, List.map_cons]; exact .cons .int ih
theorem c_lrg2 {p p2 pos2 : Pos} (hc : X.calm = true) (hg : Gl X "list") (hm : X.mg "list" = none) (hg2 : Gl X "range") (hm2 : X.mg "range" = none) (ha : PE X a (TI (FX X C We) fa)) (hb : PE X b (TI (FX X C We) fb)) (h1 : noStar a = true) (h2 : noStar b = true) :
    PE X (.Call (.Name "list" p) [.Call (.Name "range" p2) [a, b] [] pos2] [] pos) (TI (FX X C We) (e2 oListRange2 fa fb)) :=
  PEmono (pe_listRg hc hg hm (prg_2 hg2 hm2 ha hb (star_cons h1) (star_cons h2) (star_back (by simp [h2])))) fun σ H Q ⟨ρ, e, h, rh, re, p⟩ =>
    TG_.bind (k := fun x h => (fb e h).bind fun y h => oListRange2 x y h) rh re p fun ρ1 x h1 v H1 rh1 re1 x1 rv p1 =>
      TG_.bind (k := fun y h => oListRange2 x y h) rh1 re1 p1 fun ρ2 y h2 u H2 rh2 re2 x2 ru p2 => by
        cases rv <;> first | exact False.elim p2 | skip
        case int m =>
          cases ru <;> first | exact False.elim p2 | skip
          case int n =>
            obtain ⟨hn, p2⟩ := need_inv p2
            obtain ⟨q1, q2⟩ := Bool.and_eq_true_iff.mp hn
            obtain ⟨q3, q4⟩ := Bool.and_eq_true_iff.mp q1
            have q2 := of_decide_eq_true q2
            have q3 := small_of q3
            have q4 := small_of q4
            exact ⟨m, n, rfl, rfl, ⟨by omega, by omega, by omega, by omega, by omega⟩, post_lst rh2 (rvs_from m (n - m).toNat) p2⟩
/-- list(range(n)) -/
theorem c_lrg {p p2 pos2 : Pos} (hc : X.calm = true) (hg : Gl X "list") (hm : X.mg "list" = none) (hg2 : Gl X "range") (hm2 : X.mg "range" = none) (ha : PE X a (TI (FX X C We) fa)) (h1 : noStar a = true) :
    PE X (.Call (.Name "list" p) [.Call (.Name "range" p2) [a] [] pos2] [] pos) (TI (FX X C We) (e1 oListRange fa)) :=
  PEmono (pe_listRg hc hg hm (prg_1 hg2 hm2 ha (star_cons h1))) fun σ H Q ⟨ρ, e, h, rh, re, p⟩ =>
    TG_.bind (k := oListRange) rh re p fun ρ1 x h1 v H1 rh1 re1 x1 rv p1 => by
      cases rv <;> first | exact False.elim p1 | skip
      case int n =>
        obtain ⟨hn, p1⟩ := need_inv p1
        obtain ⟨h1, h2⟩ := Bool.and_eq_true_iff.mp hn
        have hn : n < 1000000 := of_decide_eq_true h2
        obtain ⟨h3, h4⟩ := Bool.and_eq_true_iff.mp h1
        have h3 := of_decide_eq_true h3
        refine ⟨n, rfl, ⟨by omega, by omega, by omega, by omega, by omega⟩, post_lst rh1 ?_ p1⟩
        unfold rgV
        rw [Int.sub_zero]
        exact rvs_nats _
/-- {k: v, ..} -/
theorem dic_ok {F : Fx} {σ : L2.St} {en : Env} {p : Addr} {ρ0 : Nat → Addr} {n0 : Nat} {H0 : Hp} {Q : VK} (h0 : H0 p = none) : ∀ (fgs : List (EE × EE)) (ρ : Nat → Addr) (h : IH) (H : Hp) (d : List (Key × W)) (es : List (Key × V)) (R : List (V × V) → Hp → Prop),
    RH F.K F.C ρ h H → REnv F.K ρ h.n H en σ → H p = some (.dK []) → (∀ i, i < h.n → ρ i ≠ p) → RKs F.K ρ h.n H d es → Ext ρ0 ρ n0 h.n H0 H → Post F (RV F.K) σ ρ0 n0 H0 ((eDic.go en fgs h d).bind fun d h => .ok (.loc h.n) (h.new (.dk d))) Q →
    (∀ (kvs : List (Key × V)) (H2 : Hp), H2 p = some (.dK []) → kvs.length ≤ fgs.length → Q (.ref p) (upd H2 p (.dK (mergeK es kvs))) → R (kvs.map fun kv => (kV kv.1, kv.2)) H2) → tPairs (fgs.map fun q => (TI F q.1, TI F q.2)) σ H R
  | [], ρ, h, H, d, es, R, rh, re, hp, fr, rk, x, ps, k => by
    refine k [] H hp (Nat.le_refl _) ?_
    have ps : Post F (RV F.K) σ ρ0 n0 H0 (.ok (.loc h.n) (h.new (.dk d))) Q := ps
    have e : V.ref p = V.ref (rhoN ρ h.n p h.n) := by rw [rhoN_self]
    have le : h.n ≤ h.n + 1 := Nat.le_succ _
    have same : ∀ i, i < h.n → rhoN ρ h.n p i = ρ i := fun i hi => rhoN_lt hi
    have tu : ∀ a xs, H a = some (.tup xs) → upd H p (.dK es) a = some (.tup xs) := fun a xs q => by rw [upd_ne fun z => by rw [z, hp] at q; cases q]; exact q
    have fz : ∀ a o u, H a = some (.frz o u) → upd H p (.dK es) a = some (.frz o u) := fun a o u q => by rw [upd_ne fun z => by rw [z, hp] at q; cases q]; exact q
    refine ps (rhoN ρ h.n p) (.ref p) _ ⟨Nat.le_trans x.le le, fun i hi => by rw [rhoN_lt (Nat.lt_of_lt_of_le hi x.le)]; exact x.same i hi, fun a o q f => ⟨by rw [upd_ne (ne_of_none q h0)]; exact (x.frame a o q f).1, fun i (hi : i < h.n + 1) => ?_⟩, fun a xs q => tu a xs (x.tups a xs q), fun a o u q => fz a o u (x.frzs a o u q)⟩
      ⟨fun i c q => ?_, fun i j c1 c2 q1 q2 _ _ q => ?_, fun i hi => ?_, sys_upd rh.sys hp fun _ _ z => by cases z⟩ (by rw [e]; exact .loc (Nat.lt_succ_self _))
    · by_cases z : i = h.n
      · rw [z, rhoN_self]; exact (ne_of_none q h0).symm
      · rw [rhoN_lt (by omega)]; exact (x.frame a o q f).2 i (by omega)
    · rw [IH.get_new] at q
      by_cases z : i = h.n
      · rw [if_pos z] at q; cases q; rw [z, rhoN_self]; exact ⟨es, upd_same, rk.mono le same tu fz⟩
      · rw [if_neg z] at q
        rw [rhoN_lt (IH.get_lt q)]
        exact (rh.cell i c q).mono le same tu fz fun _ o ho => by rw [upd_ne (fr i (IH.get_lt q))]; exact ho
    · rw [IH.get_new] at q1 q2
      by_cases z1 : i = h.n
      · by_cases z2 : j = h.n
        · rw [z1, z2]
        · rw [if_neg z2] at q2
          rw [z1, rhoN_self, rhoN_lt (IH.get_lt q2)] at q
          exact absurd q.symm (fr j (IH.get_lt q2))
      · rw [if_neg z1] at q1
        by_cases z2 : j = h.n
        · rw [z2, rhoN_self, rhoN_lt (IH.get_lt q1)] at q
          exact absurd q (fr i (IH.get_lt q1))
        · rw [if_neg z2] at q2
          rw [rhoN_lt (IH.get_lt q1), rhoN_lt (IH.get_lt q2)] at q
          exact rh.inj i j c1 c2 q1 q2 (by assumption) (by assumption) q
    · by_cases z : i = h.n
      · exact ⟨.dk d, by rw [IH.get_new, if_pos z]⟩
      · obtain ⟨c, q⟩ := rh.full i (by have : i < h.n + 1 := hi; omega)
        exact ⟨c, by rw [IH.get_new, if_neg z]; exact q⟩
  | (f, g) :: r, ρ, h, H, d, es, R, rh, re, hp, fr, rk, x, ps, k => by
    have ps : Post F (RV F.K) σ ρ0 n0 H0 (((f en h).bind fun kw h => (g en h).bind fun v h => match keyOf kw with
      | some k => eDic.go en r h (dPut d k v)
      | none => .stuck).bind fun d h => .ok (.loc h.n) (h.new (.dk d))) Q := ps
    refine ⟨ρ, en, h, rh, re, ?_⟩
    show Post F (RV F.K) σ ρ h.n H (f en h) _
    cases q1 : f en h with
    | stuck => rw [q1] at ps; exact ps.elim
    | exc c h1 => rw [q1] at ps; exact fun ρ' H' y z => ps ρ' H' (x.trans y) z
    | ok kw h1 =>
      rw [q1] at ps
      have ps : Post F (RV F.K) σ ρ0 n0 H0 (((g en h1).bind fun v h => match keyOf kw with
        | some k => eDic.go en r h (dPut d k v)
        | none => .stuck).bind fun d h => .ok (.loc h.n) (h.new (.dk d))) Q := ps
      intro ρ1 v1 H1 x1 rh1 rv1
      refine ⟨ρ1, en, h1, rh1, re.ext x1, ?_⟩
      show Post F (RV F.K) σ ρ1 h1.n H1 (g en h1) _
      cases q2 : g en h1 with
      | stuck => rw [q2] at ps; exact ps.elim
      | exc c h2 => rw [q2] at ps; exact fun ρ' H' y z => ps ρ' H' ((x.trans x1).trans y) z
      | ok w2 h2 =>
        rw [q2] at ps
        have ps : Post F (RV F.K) σ ρ0 n0 H0 ((match keyOf kw with
          | some k => eDic.go en r h2 (dPut d k w2)
          | none => .stuck).bind fun d h => .ok (.loc h.n) (h.new (.dk d))) Q := ps
        intro ρ2 v2 H2 x2 rh2 rv2
        cases qk : keyOf kw with
        | none => rw [qk] at ps; exact ps.elim
        | some kk =>
          rw [qk] at ps
          have ek := keyOf_ok (F := F) rv1 qk
          obtain ⟨f1, f2⟩ := x1.frame p _ hp fr
          obtain ⟨f3, f4⟩ := x2.frame p _ f1 f2
          have x12 := x1.trans x2
          refine dic_ok h0 r ρ2 h2 H2 (dPut d kk w2) (putK es kk v2) _ rh2 ((re.ext x1).ext x2) f3 f4 (RKs.put (F := F) (rk.mono x12.le x12.same x12.tups x12.frzs) rv2) (x.trans x12) ps fun kvs H3 a1 a2 a3 => ?_
          subst ek
          exact k ((kk, v2) :: kvs) H3 a1 (by simp only [List.length_cons]; omega) a3
theorem c_dic {keys : List (Option Expr)} {values : List Expr} {fgs : List (EE × EE)} (h : PPs X pos keys values (fgs.map fun q => (TI (FX X C We) q.1, TI (FX X C We) q.2))) (hall : keys.all (·.isSome) = true) (hl : keys.length = values.length) (h0 : keys ≠ []) (h15 : keys.length ≤ 15) (hf : fgs.length = keys.length) :
    PE X (.Dict keys values pos) (TI (FX X C We) (eDic fgs)) := PEmono (pe_disp h hall hl h0 h15) fun σ H Q ⟨ρ, en, h, rh, re, ps⟩ p hp => by
  have xD : Ext ρ ρ h.n h.n H (upd H p (.dK [])) := ⟨Nat.le_refl _, fun _ _ => rfl, fun a o q k => ⟨by rw [upd_ne (ne_of_none q hp)]; exact q, k⟩, fun a xs q => by rw [upd_ne (ne_of_none q hp)]; exact q, fun a o u q => by rw [upd_ne (ne_of_none q hp)]; exact q⟩
  have rD : RH X.K C ρ h (upd H p (.dK [])) := ⟨fun i c q => (rh.cell i c q).mono xD.le xD.same xD.tups xD.frzs fun m o ho => by rw [upd_ne (rh.free hp i (IH.get_lt q))]; exact ho, rh.inj, rh.full, sys_new rh.sys hp⟩
  exact dic_ok (F := FX X C We) (Q := Q) hp fgs ρ h _ [] [] _ rD (re.ext xD) upd_same (rh.free hp) .nil xD ps fun kvs H2 a1 a2 a3 => ⟨a1, kvs, rfl, by omega, a3⟩
theorem c_dic0 : PE X (.Dict [] [] pos) (TI (FX X C We) (eDic [])) := PEmono pe_dnewK fun σ H Q ⟨ρ, e, h, rh, re, p⟩ => post_dk rh .nil p
/-! ### what is shown: data, with empty dicts -/
mutual
inductive DpE (K : PySem.W.Frag) (H : Hp) : V → PyData → Prop
  | non : DpE K H .non .none
  | bl (b : Bool) : DpE K H (.bl b) (.bool b)
  | int (i : Int) : DpE K H (.int i) (.int i)
  | str (x : Str) : DpE K H (.str x) (.str x)
  | lst {a : Addr} {xs : List V} {ds : List PyData} (s : SqL K H a xs) (r : DpEs K H xs ds) : DpE K H (.ref a) (.list ds)
  | tup {a : Addr} {xs : List V} {ds : List PyData} (s : SqT K H a xs) (r : DpEs K H xs ds) : DpE K H (.ref a) (.tuple ds)
  | dk0 {a : Addr} (e : H a = some (.dK [])) : DpE K H (.ref a) (.dict [])
inductive DpEs (K : PySem.W.Frag) (H : Hp) : List V → List PyData → Prop
  | nil : DpEs K H [] []
  | cons {v : V} {vs : List V} {d : PyData} {ds : List PyData} (a : DpE K H v d) (r : DpEs K H vs ds) : DpEs K H (v :: vs) (d :: ds)
end
section
variable {F : Fx} {ρ : Nat → Addr} {h : IH} {H : Hp}
mutual
theorem toDE_ok (rh : RH F.K F.C ρ h H) : ∀ (f : Nat) (w : W) (v : V) (d : PyData), RV F.K ρ h.n H w v → toDE f h w = some d → DpE F.K H v d
  | 0, _, _, _, _, e => by cases e
  | f + 1, _, _, d, .non, e => by cases e; exact .non
  | f + 1, _, _, d, .bl, e => by cases e; exact .bl _
  | f + 1, _, _, d, .int, e => by cases e; exact .int _
  | f + 1, _, _, d, .str, e => by cases e; exact .str _
  | f + 1, _, _, d, .ro _ _, e => by cases e
  | f + 1, _, _, d, .tup (ws := ws) (vs := vs) s r, e => by
    have e' : (match mapO (toDE f h) ws with
      | some ds => some (PyData.tuple ds)
      | none => none) = some d := e
    cases q : mapO (toDE f h) ws with
    | none => rw [q] at e'; cases e'
    | some ds => rw [q] at e'; cases e'; exact .tup s (toDEs_ok rh f ws vs ds r q)
  | f + 1, _, _, d, .loc (i := i) hi, e => by
    have e' : (match h.get i with
      | some (.lst ws) => (match mapO (toDE f h) ws with
        | some ds => some (PyData.list ds)
        | none => none)
      | some (.dk []) => some (PyData.dict [])
      | _ => none) = some d := e
    cases g : h.get i with
    | none => rw [g] at e'; cases e'
    | some c =>
      rw [g] at e'
      cases c with
      | lst ws =>
        obtain ⟨vs, e1, r⟩ := rh.lst g
        have e2 : (match mapO (toDE f h) ws with
          | some ds => some (PyData.list ds)
          | none => none) = some d := e'
        cases q : mapO (toDE f h) ws with
        | none => rw [q] at e2; cases e2
        | some ds => rw [q] at e2; cases e2; exact .lst (.inl (.inl e1)) (toDEs_ok rh f ws vs ds r q)
      | dk kvs =>
        cases kvs with
        | nil =>
          cases e'
          obtain ⟨es, e1, r⟩ := rh.dk g
          cases r
          exact .dk0 e1
        | cons _ _ => cases e'
      | dz _ => cases e'
      | ins _ _ => cases e'
      | err _ => cases e'
theorem toDEs_ok (rh : RH F.K F.C ρ h H) : ∀ (f : Nat) (ws : List W) (vs : List V) (ds : List PyData), RVs F.K ρ h.n H ws vs → mapO (toDE f h) ws = some ds → DpEs F.K H vs ds
  | _, [], _, ds, .nil, e => by cases e; exact .nil
  | f, w :: ws, _, ds, .cons (v := v) (vs := vs) a r, e => by
    rw [mapO_cons] at e
    cases q : toDE f h w with
    | none => rw [q] at e; cases e
    | some b =>
      rw [q] at e
      dsimp only at e
      have e2 := e
      cases q2 : mapO (toDE f h) ws with
      | none => rw [q2] at e2; cases e2
      | some s =>
        rw [q2] at e2; cases e2
        exact .cons (toDE_ok rh f w v b a q) (toDEs_ok rh f ws vs s r q2)
end
end
section
variable {pins : List (Addr × Obj)} {σ : L2.St} {H : Hp} {s : Shared}
theorem sq_sys (I : L2.Inv X pins σ H s) (sy : SysH H) {a : Addr} {xs : List V} (q : SqL X.K H a xs) : a ≠ sysModules := fun z => by
  subst z
  obtain ⟨o, φ, e⟩ := sy
  rcases q with (q | ⟨o', q⟩) | ⟨o', its, n, hk, _⟩
  · rw [e] at q; cases q
  · rw [e] at q; cases q
  · have z := (I.bs _ _ (I.mod.kin _ o' hk)).2
    rw [e] at z; cases z
mutual
theorem DpE.reads (I : L2.Inv X pins σ H s) (sy : SysH H) : ∀ (d : PyData) (v : V) (u : Value), DpE X.K H v d → RelV v u → ∃ as, Reads s.heap u d as ∧ sysModules ∉ as
  | .none, _, _, h, r => by cases h; cases r; exact ⟨_, .none, List.not_mem_nil⟩
  | .bool b, _, _, h, r => by cases h; cases r; exact ⟨_, .bool b, List.not_mem_nil⟩
  | .int i, _, _, h, r => by cases h; obtain ⟨t, e⟩ := r; subst e; exact ⟨_, .int i t, List.not_mem_nil⟩
  | .str x, _, _, h, r => by cases h; obtain ⟨t, e⟩ := r; subst e; exact ⟨_, .str x t, List.not_mem_nil⟩
  | .list ds, _, _, h, r => by
    cases h with
    | lst q rs =>
      cases r
      obtain ⟨its, rv, pl, _⟩ := I.list q
      obtain ⟨o, hg, hc, n, hd⟩ := pl.isList
      obtain ⟨as, rr, na⟩ := DpEs.reads I sy ds _ its rs rv
      exact ⟨_, .list hg hc hd rr, fun z => (List.mem_cons.mp z).elim (fun z => sq_sys I sy q z.symm) na⟩
  | .tuple ds, _, _, h, r => by
    cases h with
    | tup q rs =>
      cases r
      obtain ⟨its, rv, pl, _⟩ := I.tuple q
      obtain ⟨o, hg, hc, n, hd⟩ := pl
      obtain ⟨as, rr, na⟩ := DpEs.reads I sy ds _ its rs rv
      exact ⟨as, .tuple hg hc hd rr, na⟩
  | .dict kvs, _, _, h, r => by
    cases h with
    | dk0 e =>
      cases r
      obtain ⟨_, hn, vs, kv, o, es, ep, hg, hx, hd, _, hp, _⟩ := dk_of I.hok e
      cases kv
      have z : es.toList = [] := by generalize es.toList = l at hp; cases hp; rfl
      refine ⟨_, .dict (as := []) (bs := []) hg hx.1 hd (by rw [z]; exact .nil) (by rw [z]; exact .nil), fun m => ?_⟩
      have m := List.mem_singleton.mp m
      rw [← m] at hn
      exact absurd hn (by decide)
theorem DpEs.reads (I : L2.Inv X pins σ H s) (sy : SysH H) : ∀ (ds : List PyData) (vs : List V) (us : List Value), DpEs X.K H vs ds → Vals vs us → ∃ as, ReadsAll s.heap us ds as ∧ sysModules ∉ as
  | [], _, _, h, r => by cases h; cases r; exact ⟨_, .nil, List.not_mem_nil⟩
  | d :: ds, _, _, h, r => by
    cases h with
    | cons a rs =>
      cases r with
      | cons ra rr =>
        obtain ⟨as, z1, n1⟩ := DpE.reads I sy d _ _ a ra
        obtain ⟨bs, z2, n2⟩ := DpEs.reads I sy ds _ _ rs rr
        exact ⟨as ++ bs, .cons z1 z2, fun m => (List.mem_append.mp m).elim n1 n2⟩
end
end
/-- repr of data -/
def rRepr (K : PySem.W.Frag) : V → Hp → VK → Prop := fun x H Q => ∃ d, DpE K H x d ∧ SysH H ∧ d.showable = true ∧ d.depth ≤ 64 ∧ d.shown.length ≤ sizeLine ∧ Q (.str d.shown) H
theorem call_repr (g : X.A.guards = some []) (hu : X.A.units + 66 < cLine) : CallR X (.builtin "repr") (fun xs H Q => ∃ x, xs = [x] ∧ rRepr X.K x H Q) := by
  intro pins s σ H xs us Q I r h
  obtain ⟨x, rfl, d, hd, sy, hs, dp, hl, q⟩ := h
  obtain ⟨u, rfl, ru⟩ := Vals.one r
  obtain ⟨as, rd, na⟩ := DpE.reads I sy d x u hd ru
  have fin : ∀ (h' : Heap) (v : Tok) (tk : Nat), (∀ b o, s.heap.get? b = some o → h'.get? b = some o) → EP X pins σ Q (.str d.shown v) { s with heap := h', toks := tk } := fun h' v tk k => ⟨.str d.shown, H, I.kept k, ⟨v, rfl⟩, q⟩
  cases rd with
  | none => exact P.repr_of_none (fin s.heap _ _ fun _ _ z => z)
  | bool b => exact P.repr_of_bool (fin s.heap _ _ fun _ _ z => z)
  | int i t => exact P.repr_of_int (by simpa [PyData.showable] using hs) (fin s.heap _ _ fun _ _ z => z)
  | str y t => exact P.repr_of_str (fin s.heap _ _ fun _ _ z => z) hl
  | list a1 a2 a3 a4 => exact repr_of_reads' (.list a1 a2 a3 a4) hs (fun _ => na) g (by omega) (fun _ _ z => z) fin hl
  | tuple a1 a2 a3 a4 => exact repr_of_reads' (.tuple a1 a2 a3 a4) hs (fun _ => na) g (by omega) (fun _ _ z => z) fin hl
  | dict a1 a2 a3 a4 a5 => exact repr_of_reads' (.dict a1 a2 a3 a4 a5) hs (fun _ => na) g (by omega) (fun _ _ z => z) fin hl
theorem c_repr {p : Pos} (g : X.A.guards = some []) (hu : X.A.units + 66 < cLine) (hg : Gl X "repr") (hm : X.mg "repr" = none) (ha : PE X a (TI (FX X C We) fa)) (h1 : noStar a = true) : PE X (.Call (.Name "repr" p) [a] [] pos) (TI (FX X C We) (e1 oRepr fa)) :=
  PEmono (pe_callB (call_repr g hu) hg hm (by rfl) (pa_cons ha pa_nil (star_cons h1)) (by decide) (by decide) (star_cons h1) rfl) fun σ H Q ⟨ρ, e, h, rh, re, p⟩ =>
    TG_.bind (k := oRepr) rh re p fun ρ1 x h1 v H1 rh1 re1 x1 rv p1 => by
      unfold oRepr at p1
      cases q : datE h1 x with
      | none => rw [q] at p1; exact p1.elim
      | some d =>
        rw [q] at p1
        have p2 : Post (FX X C We) (RV X.K) σ ρ1 h1.n H1 (match PyData.showable d && lenOk d.shown.length && Nat.ble d.depth 64 with
          | true => .ok (.str d.shown) h1
          | false => .stuck) Q := p1
        cases z : PyData.showable d && lenOk d.shown.length && Nat.ble d.depth 64 with
        | false => rw [z] at p2; exact p2.elim
        | true =>
          rw [z] at p2
          simp only [Bool.and_eq_true] at z
          obtain ⟨⟨z1, z2⟩, z3⟩ := z
          exact ⟨v, rfl, d, toDE_ok rh1 _ _ _ _ rv q, rh1.sys, z1, Nat.le_of_ble_eq_true z3, lenOk_iff.mp z2, post_same rh1 p2 .str⟩
end
end Fw

set_option Elab.async false
set_option linter.all false
set_option maxRecDepth 100000
set_option maxHeartbeats 1000000
/-! Fw, part I2: methods, several names at once, calls of defs. -/
namespace Fw
open PySem PySem.Spec PyProof.Rows L2
def sPar2 (i j : Nat) (g : EA) : SS := fun e h => (g e h).st e fun ws h => match ws with
  | [v, w] => .nx ((e.set i (some v)).set j (some w)) h
  | _ => .stuck
def sPar3 (i j l : Nat) (g : EA) : SS := fun e h => (g e h).st e fun ws h => match ws with
  | [u, v, w] => .nx (((e.set i (some u)).set j (some v)).set l (some w)) h
  | _ => .stuck
/-- the names that are stored from the right -/
def parNames (sc : Scope) (ts : List Expr) : List Str := ts.filterMap fun t => match t with
  | .Name id pos => if sc.names.lookup id == some .local && pos.line == (ts.head?.map (·.pos.line)).getD 0 then some id else none
  | _ => none
def parOk (sc : Scope) (ts vs : List Expr) : Bool :=
  (ts.length == 2 || ts.length == 3) && vs.length == ts.length && (if sc.kind.isAnnotationScope then .function else sc.kind) == .function && vs.all noStar && (parNames sc ts).length == ts.length && (parNames sc ts).eraseDups.length == (parNames sc ts).length && !vs.all (foldedForSure 8) && !vs.all (constantsAlone 8)
theorem par_ok {sc : Scope} {ts vs : List Expr} {k k2 : Nat} {p p2 : Pos} {env : PySem.Env} (he : env.scope = sc) (h : parOk sc ts vs = true) : swappedStores [.Tuple ts k p] (.Tuple vs k2 p2) env = pure (some (parNames sc ts)) := by
  subst he
  unfold parOk at h
  simp only [Bool.and_eq_true, Bool.not_eq_true'] at h
  obtain ⟨⟨⟨⟨⟨⟨⟨h1, h2⟩, h3⟩, h4⟩, h5⟩, h6⟩, h7⟩, h8⟩ := h
  have h4' : (vs.any fun | .Starred .. => true | _ => false) = false := by
    rw [List.any_eq_false]
    intro e he
    have z := List.all_eq_true.mp h4 e he
    cases e with
    | Starred v p => cases z
    | _ => intro q; cases q
  have h3' : (env.blockKind != .function) = false := by
    unfold Env.blockKind
    simpa using h3
  have h2' : (vs.length != ts.length) = false := by simpa using h2
  have e : swappedStores [.Tuple ts k p] (.Tuple vs k2 p2) env = (if (!(ts.length == 2 || ts.length == 3) || vs.length != ts.length || env.blockKind != .function) = true then pure none else
    if (vs.any fun | .Starred .. => true | _ => false) = true then pure none else
    if ((parNames env.scope ts).length != ts.length || (parNames env.scope ts).eraseDups.length != (parNames env.scope ts).length) = true then pure none else
    if vs.all (foldedForSure 8) = true then pure none else
    if vs.all (constantsAlone 8) = true then (do unsupported "assign.tuple-of-constant-expressions:order-of-the-stores"; pure (some (parNames env.scope ts))) else pure (some (parNames env.scope ts))) := rfl
  rw [e, h1, h2', h3', h4', h7, h8]
  have h5' : ((parNames env.scope ts).length != ts.length) = false := by simpa using h5
  have h6' : ((parNames env.scope ts).eraseDups.length != (parNames env.scope ts).length) = false := by simpa using h6
  rw [h5', h6']
  rfl
section
variable {X : Cx} {C : Nat → Addr} {We : Nat → L2.St → Hp → Prop} {a b c : Expr} {pos : Pos} {fa fb fc : EE} {e : Expr} {es : List Expr}
theorem s_par2 {i j : Nat} {g : EA} {st : Stmt} (h : PS X st (tPar i j (TIA (FX X C We) g))) : PS X st (TIS (FX X C We) (sPar2 i j g)) :=
  PSmono h fun D σ H ⟨ρ, e, h, rh, re, p⟩ => TG_.bindS (RA := RVs X.K) rh re p fun ρ1 ws h1 vs H1 rh1 re1 x1 rv p1 => by
    cases rv with
    | nil => exact p1.elim
    | cons r1 r =>
      cases r with
      | nil => exact p1.elim
      | cons r2 r =>
        cases r with
        | nil => exact ⟨_, _, rfl, p1.nx_ rh1 ((re1.set r1).set r2)⟩
        | cons r3 r => exact p1.elim
theorem s_par3 {i j l : Nat} {g : EA} {st : Stmt} (h : PS X st (tPar3 i j l (TIA (FX X C We) g))) : PS X st (TIS (FX X C We) (sPar3 i j l g)) :=
  PSmono h fun D σ H ⟨ρ, e, h, rh, re, p⟩ => TG_.bindS (RA := RVs X.K) rh re p fun ρ1 ws h1 vs H1 rh1 re1 x1 rv p1 => by
    cases rv with
    | nil => exact p1.elim
    | cons r1 r =>
      cases r with
      | nil => exact p1.elim
      | cons r2 r =>
        cases r with
        | nil => exact p1.elim
        | cons r3 r =>
          cases r with
          | nil => exact ⟨_, _, _, rfl, p1.nx_ rh1 (((re1.set r1).set r2).set r3)⟩
          | cons r4 r => exact p1.elim
/-- d.get(k, x) -/
theorem c_get2 {apos : Pos} (hu : X.A.units + 1 < cLine) (ha : PE X a (TI (FX X C We) fa)) (hb : PE X b (TI (FX X C We) fb)) (hc : PE X c (TI (FX X C We) fc)) (h1 : noStar b = true) (h2 : noStar c = true) (h3 : noSup a = true) (h4 : (apos.endLine == pos.line) = true) :
    PE X (.Call (.Attribute a "get" apos) [b, c] [] pos) (TI (FX X C We) (eMt isDk mGet2 fa (aCons fb (aCons fc aNil)))) :=
  have m : M2 X a "get" apos b c pos := ⟨base_ok h3, by
    have z := star_few (pos := pos) (env := X.env) (es := [b, c]) (by simp [h1, h2])
    rw [z]; rfl, h4, by rw [star_cons h1, star_cons h2]; rfl⟩
  PEmono (pe_dget2 hu ha hb hc m) fun σ H Q ⟨ρ, e, h, rh, re, p⟩ =>
    TG_.bind (k := fun x h => .need (isDk x h) ((aCons fb (aCons fc aNil) e h).bind fun ws h => mGet2 (x :: ws) h)) rh re p fun ρ1 x h1 v H1 rh1 re1 x1 rv p1 => by
      obtain ⟨q, p1⟩ := need_inv p1
      obtain ⟨ad, vs, rfl, e1⟩ := isDk_ok rh1 rv q
      refine ⟨ad, rfl, .inl ⟨vs, .inl e1⟩, ?_⟩
      have p2 : Post (FX X C We) (RV X.K) σ ρ1 h1.n H1 ((fb e h1).bind fun y h => (fc e h).bind fun z h => mGet2 [x, y, z] h) Q := by
        have z : ((aCons fb (aCons fc aNil) e h1).bind fun ws h => mGet2 (x :: ws) h) = ((fb e h1).bind fun y h => (fc e h).bind fun z h => mGet2 [x, y, z] h) := by
          unfold aCons aNil
          cases fb e h1 with
          | ok y h2 =>
            show (Rs.bind (Rs.bind (fc e h2) _) _).bind _ = (fc e h2).bind _
            cases fc e h2 <;> rfl
          | _ => rfl
        rw [z] at p1; exact p1
      refine TG_.bind (k := fun y h => (fc e h).bind fun z h => mGet2 [x, y, z] h) rh1 re1 p2 fun ρ2 y h2 u H2 rh2 re2 x2 ru p3 => ?_
      refine TG_.bind (k := fun z h => mGet2 [x, y, z] h) rh2 re2 p3 fun ρ3 z h3 t H3 rh3 re3 x3 rt p4 => ?_
      have rx : RV X.K ρ3 h3.n H3 x (.ref ad) := (x2.trans x3).rv rv
      have ry := x3.rv ru
      generalize hv0 : V.ref ad = v0 at rx
      cases rx <;> first | exact False.elim p4 | skip
      case loc =>
        cases hv0
        rename_i i hi _
        have p5 : Post (FX X C We) (RV X.K) σ ρ3 h3.n H3 (match h3.get i with
          | some (.dk kvs) => (match keyOf y with
            | some k => (match dGet kvs k with
              | some w => .ok w h3
              | none => .ok z h3)
            | none => .stuck)
          | _ => .stuck) Q := p4
        cases g : h3.get i with
        | none => rw [g] at p5; exact p5.elim
        | some cc =>
          rw [g] at p5
          cases cc with
          | lst _ => exact p5.elim
          | dz _ => exact p5.elim
          | ins _ _ => exact p5.elim
          | err _ => exact p5.elim
          | dk kvs =>
            obtain ⟨es, g2, rk⟩ := rh3.dk g
            cases k : keyOf y with
            | none => simp only [k] at p5; exact p5.elim
            | some kk =>
              simp only [k] at p5
              have ek := keyOf_ok (F := FX X C We) ry k
              subst ek
              refine ⟨_, DGet.k g2, ?_⟩
              cases d : dGet kvs kk with
              | some w =>
                simp only [d] at p5
                obtain ⟨v2, hv, r2⟩ := RKs.get (F := FX X C We) rk d
                rw [hv]; exact post_same rh3 p5 r2
              | none =>
                simp only [d] at p5
                rw [RKs.getN (F := FX X C We) rk d]; exact post_same rh3 p5 rt
end
end Fw

set_option Elab.async false
set_option linter.all false
set_option maxRecDepth 100000
set_option maxHeartbeats 2000000
/-! Fw, part R: a built-in type called with a keyword. -/
namespace Fw
open PySem PySem.Spec PyProof.Rows L2
section
variable {P : Program} {w : World} {A : Around} {E : Value → Shared → Prop} {s : Shared}
/-- object.__init__ hands nothing on, whatever else it is told -/
theorem oinit_kw {T nid : String} {o : Value} {r : List Value} {kw : List (Str × Value)} (a1 : typeLookup (.type T) "__init__" = pure (some (.builtin "object.__init__")))
    (a2 : Bind.madeBy (.type T) = pure (some nid)) (a3 : (some nid != some "object.__new__") = true) :
    Meets (Builtin.«object.__init__» ⟨o :: r, kw⟩) (fun _ R t => t.TypeIs o T ∧ R (.ok (.ret .none)) t) := by
  refine Meets.of_wp fun pr wd Ar R t z => ?_
  obtain ⟨z1, z2⟩ := z
  cases r with
  | nil => cases kw with
    | nil => exact wpAny_pure ⟨_, rfl, z2⟩
    | cons k kw =>
      repeat (first | (any_goals assumption) | (any_goals wp_step))
      exact ⟨_, rfl, z2⟩
  | cons a r =>
    repeat (first | (any_goals assumption) | (any_goals wp_step))
    exact ⟨_, rfl, z2⟩
theorem ty_kw {T nid : String} {B : Builtin} {as : List Value} {kw : List (Str × Value)} {S : PySem.Spec} {Q : Value → Shared → Prop} (ft : TypeCalled T nid "object.__init__") (a3 : (some nid != some "object.__new__") = true)
    (c1 : checkTypeCall T ⟨as, kw⟩ = pure ()) (c2 : checkBuiltinCall nid ⟨.type T :: as, kw⟩ = pure ()) (c3 : ∀ o, argsOk "object.__init__" ⟨o :: as, kw⟩) (en : entryFor table nid = some B) (g : Meets (B ⟨.type T :: as, kw⟩) S)
    (k : S A.in1 (wants (fun o t => t.TypeIs o T ∧ Q o t) E) s) : wpAny (model P w) A (call (.type T) as kw) Q E s := by
  obtain ⟨mc, mt, m0⟩ := ft.mro
  have m1 := ft.made
  have m2 := ft.sub
  have m3 := ft.notType
  have m4 := ft.canCreate
  refine wpAny_call (codeAny_of_tree (show wpAny _ _ (callAny (.type T) _) _ _ _ from wpAny_pure ⟨Code.quiet_builtin _ (by decide +kernel), codeAny_builtin F.entry_type_call ?_⟩))
  rw [Around.under_plain (weight_type_call_type T as kw) (units_type_call_type T as kw)]
  repeat (first | (any_goals assumption) | (any_goals wp_step))
  refine codeAny_mono (codeAny_call_builtin ft.plain en (wpAny_of_eq c2 (g P w A.in1 _ s k))) fun r t hr => ?_
  cases r with
  | error e => exact hr
  | ok fl => cases fl with
    | ret o =>
      obtain ⟨hT, hq⟩ := hr
      have i1 := ft.init.lookup
      have i2 := ft.init.bind o
      repeat (first | (any_goals assumption) | (any_goals wp_step))
      refine codeAny_mono (codeAny_call_builtin (R := wants (fun r u => r = .none ∧ Q o u) E) ft.init.plain F.entry_object_init (ft.init.check _ _ _ _ _ _ _ _ hT (c3 o) (oinit_kw i1 m1 a3 P w A.in1 _ t ⟨hT, rfl, hq⟩))) fun r u hr => ?_
      cases r with
      | error e => exact hr
      | ok fl => cases fl with
        | ret v =>
          obtain ⟨ev, z⟩ := hr
          subst ev
          repeat (first | (any_goals assumption) | (any_goals wp_step))
        | _ => exact hr.elim
    | _ => exact hr.elim
end
end Fw

set_option Elab.async false
set_option linter.all false
set_option maxRecDepth 100000
set_option maxHeartbeats 2000000
/-! Fw, part R2: zip(a, b, strict=False). -/
namespace Fw
open PySem PySem.Spec PyProof.Rows L2
/-- the keyword -/
abbrev noStrict : List (Str × Value) := [("strict", .bool false)]
theorem zk1 (a b : Value) : checkTypeCall "zip" ⟨[a, b], noStrict⟩ = pure () := by kernel_rfl
theorem zk2 (a b : Value) : checkBuiltinCall "zip.__new__" ⟨[.type "zip", a, b], noStrict⟩ = pure () := by kernel_rfl
theorem zk3 (o a b : Value) : argsOk "object.__init__" ⟨[o, a, b], noStrict⟩ := by
  unfold argsOk; rw [signature?_of (id := "object.__init__") (n := ['_', '_', 't', 'i', 'n', 'i', '_', '_']) (o := ['t', 'c', 'e', 'j', 'b', 'o']) (by kernel_rfl) F.owner_object]; kernel_rfl
theorem zk_new {u v : Value} {o1 o2 : Obj} {G1 G2 : Heap → Prop} (b1 : Begins u o1 G1) (b2 : Begins v o2 G2) :
    Meets (Builtin.«zip.__new__» ⟨[.type "zip", u, v], noStrict⟩) (fun _ R t => (G1 t.heap ∧ G2 t.heap) ∧ R (.ok (.ret (.ref (gzO2 t.heap o1 o2).objs.size))) { t with heap := gzZ2 t.heap o1 o2 }) :=
  .of_wp fun pr wd Ar R t z => by
    obtain ⟨hp, gs, dr, tk, os⟩ := t
    obtain ⟨⟨z1, z2⟩, z3⟩ := z
    have sb := sub_zip
    have p1 : ∀ {A' : Around} {E Q : Value → Shared → Prop}, Q (.ref hp.objs.size) ⟨hp.push o1, gs, dr, tk, os⟩ → wpAny (model pr wd) A' (pyIter u) Q E ⟨hp, gs, dr, tk, os⟩ := fun q => b1.iter pr wd _ _ ⟨hp, gs, dr, tk, os⟩ _ z1 q
    have p2 : ∀ {A' : Around} {E Q : Value → Shared → Prop}, Q (.ref (hp.push o1).objs.size) ⟨(hp.push o1).push o2, gs, dr, tk, os⟩ → wpAny (model pr wd) A' (pyIter v) Q E ⟨hp.push o1, gs, dr, tk, os⟩ :=
      fun q => b2.iter pr wd _ _ ⟨hp.push o1, gs, dr, tk, os⟩ _ (b2.keeps _ _ z2 fun b o' e => Heap.get?_push_of_some _ e) q
    wp_walk using p1, p2
    exact ⟨_, rfl, z3⟩
theorem pg {h : Heap} {a : Addr} {o q : Obj} (e : h.get? a = some o) : (h.push q).get? a = some o := Heap.get?_push_of_some _ e
theorem zk_call {P : Program} {w : World} {A : Around} {E Q : Value → Shared → Prop} {s : Shared} {u v : Value} {o1 o2 : Obj} {G1 G2 : Heap → Prop} (b1 : Begins u o1 G1) (b2 : Begins v o2 G2) (h1 : G1 s.heap) (h2 : G2 s.heap)
    (k : ∀ h', IsZip h' (s.heap.objs.size + 4) (s.heap.objs.size + 2) (s.heap.objs.size + 3) .none → IsTupOf2 h' (s.heap.objs.size + 2) (.ref s.heap.objs.size) (.ref (s.heap.objs.size + 1)) → IsTupOf2 h' (s.heap.objs.size + 3) .none .none →
      h'.get? s.heap.objs.size = some o1 → h'.get? (s.heap.objs.size + 1) = some o2 → h'.objs.size = s.heap.objs.size + 5 → (∀ c o, s.heap.get? c = some o → h'.get? c = some o) → Q (.ref (s.heap.objs.size + 4)) { s with heap := h' }) :
    wpAny (model P w) A (call (.type "zip") [u, v] noStrict) Q E s := by
  refine ty_kw F.called_zip (by decide) (zk1 _ _) (zk2 _ _) (fun o => zk3 o _ _) F.entry_zip_new (zk_new b1 b2) ⟨⟨h1, h2⟩, ?_⟩
  generalize s.heap = h at k
  have n1 : (h.push o1).objs.size = h.objs.size + 1 := Heap.size_push ..
  have n2 : ((h.push o1).push o2).objs.size = h.objs.size + 2 := (Heap.size_push ..).trans (congrArg (· + 1) n1)
  have n3 : (gzT2 h o1 o2).objs.size = h.objs.size + 3 := (Heap.size_push ..).trans (congrArg (· + 1) n2)
  have n4 : (gzO2 h o1 o2).objs.size = h.objs.size + 4 := (Heap.size_push ..).trans (congrArg (· + 1) n3)
  have n5 : (gzZ2 h o1 o2).objs.size = h.objs.size + 5 := (Heap.size_push ..).trans (congrArg (· + 1) n4)
  have c1 : (gzZ2 h o1 o2).get? h.objs.size = some o1 := pg (pg (pg (pg (Heap.get?_push_size _ b1.free))))
  have c2 : (gzZ2 h o1 o2).get? (h.push o1).objs.size = some o2 := pg (pg (pg (Heap.get?_push_size _ b2.free)))
  have c3 : (gzZ2 h o1 o2).get? ((h.push o1).push o2).objs.size = some { cls := .type "tuple", data := .seq #[.ref h.objs.size, .ref (h.push o1).objs.size] } := pg (pg (Heap.get?_push_size _ rfl))
  have c4 : (gzZ2 h o1 o2).get? (gzT2 h o1 o2).objs.size = some { cls := .type "tuple", data := .seq #[.none, .none] } := pg (Heap.get?_push_size _ rfl)
  have c5 : (gzZ2 h o1 o2).get? (gzO2 h o1 o2).objs.size = some { cls := .type "zip", data := .fields #[.none, .bool false, .bool false, .ref ((h.push o1).push o2).objs.size, .ref (gzT2 h o1 o2).objs.size] } := Heap.get?_push_size _ rfl
  rw [n4, n3, n2] at c5
  rw [n3] at c4
  rw [n2, n1] at c3
  rw [n1] at c2
  show _ ∧ _
  rw [n4]
  exact ⟨⟨_, c5, rfl⟩, k _ c5 c3 c4 c1 c2 n5 fun c o e => pg (pg (pg (pg (pg e))))⟩
end Fw

set_option Elab.async false
set_option linter.all false
set_option maxRecDepth 100000
set_option maxHeartbeats 2000000
/-! Fw, part R3: zip(a, b, strict=False) as what is walked. -/
namespace Fw
open PySem PySem.Spec PyProof.Rows L2
section
variable {P : Program} {w : World} {A : Around} {E : Value → Shared → Prop} {s : Shared} {env : Env}
theorem callWith_tyK {pos : Pos} {T : String} {args : List (Bool × Sem Value)} {keywords : List (Option Str × Sem Value)} {Q : Value → Shared → Prop}
    (hplain : args.any (·.1) = false) (hkw : keywords.any (·.1.isNone) = false)
    (h : wpAny (model P w) A (evalArgs (.type T) true args keywords) (fun a s₁ => wpAny (model P w) A (call (.type T) a.pos a.kw) Q E s₁) E s) :
    wpAny (model P w) A (callWith pos (.type T) [] args keywords) Q E s := by
  unfold callWith
  refine wpAny_bind (wpAny_holding (wpAny_mono h (fun a s₁ h₁ => wpAny_bind (wpAny_standAt ?_)) fun _ _ x => x))
  simp only [hplain, hkw, Bool.or_false]
  refine wpAny_bind (wpAny_pure ?_)
  exact wpAny_bind (wpAny_mono h₁ (fun r s₂ hr => wpAny_bind (wpAny_holding (wpAny_point (wpAny_pure hr)))) fun _ _ x => x)
end
theorem pi_zipAK {X : Cx} {e e2 : Expr} {ta : TA} {p pos tpos kp p1 : Pos} {elts : List Expr} {kk k1 : Nat} (hg : Gl X "zip") (hm : X.mg "zip" = none) (ha : PA X [e, e2] ta)
    (hs : starEach [e, e2] X.env = (false, eval e X.env) :: starEach [e2] X.env := by rfl) (hpl : (backTo pos (starEach [e, e2] X.env)).any (·.1) = false := by rfl) :
    PI X (.Tuple elts kk tpos) (.Call (.Name "zip" p) [e, e2] [⟨some "strict", .Constant (.bool false) k1 p1, kp⟩] pos) (RZ.iZipA X.K ta) := by
  refine ⟨fun pins s σ H R I h => ?_⟩
  refine wpAny_Call_Name_kw (ld_blt I hg hm PyProof.Rows.boot_zip (callWith_tyK hpl (by rfl) (PyProof.Rows.evalArgs_kw2 (by rfl) (thn (ha.run pos pins s σ H _ I h) fun us s1 ⟨vs, H1, I1, r1, q1⟩ => ?_) hs)))
  refine PyProof.Rows.kwAll_cons (thn ((pe_bl (X := X) (b := false) (j := k1) (pos := p1)).run pins s1 σ H1 (fun x H => x = .bl false ∧ H = H1) I1 ⟨rfl, rfl⟩) fun kv s2 ⟨kx, H2, I2, kr, ke⟩ => PyProof.Rows.kwAll_nil ?_)
  obtain ⟨ke1, ke2⟩ := ke
  subst ke1; subst ke2
  have kr : kv = .bool false := kr
  subst kr
  show wpAny _ _ (call (.type "zip") us noStrict) _ _ _
  obtain ⟨a, b, xs, ys, ex, q1⟩ := q1
  subst ex
  cases r1 with
  | cons r rr =>
    cases rr with
    | cons r' rr =>
      cases rr
      cases r
      cases r'
      have fresh5 : ∀ c, c ∈ [s2.heap.objs.size + 4, s2.heap.objs.size + 2, s2.heap.objs.size + 3, s2.heap.objs.size, s2.heap.objs.size + 1] → FpOk X pins H2 c := fun c hcm => by
        have e' : c = s2.heap.objs.size + 4 ∨ c = s2.heap.objs.size + 2 ∨ c = s2.heap.objs.size + 3 ∨ c = s2.heap.objs.size ∨ c = s2.heap.objs.size + 1 := by simpa using hcm
        have hle : s2.heap.objs.size ≤ c := by
          rcases e' with z | z | z | z | z <;> omega
        exact I2.fpOk hle (I2.hok.fresh hle)
      rcases q1 with ⟨hqx, hqy, q⟩ | ⟨hqx, hqy, q⟩
      · obtain ⟨its, rv, p1, _⟩ := I2.list hqx
        obtain ⟨its2, rv2, p2, _⟩ := I2.list hqy
        refine zk_call (begins_list a its.toArray) (begins_list b its2.toArray) p1.isList p2.isList fun h' hz hTI hTO h1 h2 hsz hk => wpAny_pyIter_zip hz ?_
        have I3 : Inv X pins σ H2 { s2 with heap := h' } := I2.kept (t' := s2.toks) hk
        exact ⟨s2.heap.objs.size + 4, [s2.heap.objs.size + 4, s2.heap.objs.size + 2, s2.heap.objs.size + 3, s2.heap.objs.size, s2.heap.objs.size + 1], _, _, H2, rfl, I3, turn_zip (PySem.W.ktu_apart s2.heap.objs.size a b p1.lt p2.lt), ⟨hz, hTI, ⟨_, _, hTO⟩, ⟨_, h1, rfl, rfl⟩, ⟨_, h2, rfl, rfl⟩⟩, fresh5, q⟩
      · obtain ⟨its, rv, p1, _⟩ := I2.tuple hqx
        obtain ⟨its2, rv2, p2, _⟩ := I2.tuple hqy
        obtain ⟨o1, ho1, _⟩ := id p1
        obtain ⟨o2, ho2, _⟩ := id p2
        refine zk_call (begins_tuple a its.toArray) (begins_tuple b its2.toArray) p1 p2 fun h' hz hTI hTO h1 h2 hsz hk => wpAny_pyIter_zip hz ?_
        have I3 : Inv X pins σ H2 { s2 with heap := h' } := I2.kept (t' := s2.toks) hk
        exact ⟨s2.heap.objs.size + 4, [s2.heap.objs.size + 4, s2.heap.objs.size + 2, s2.heap.objs.size + 3, s2.heap.objs.size, s2.heap.objs.size + 1], _, _, H2, rfl, I3, RZ.turn_zipT (PySem.W.ktu_apart s2.heap.objs.size a b (Heap.lt_size ho1) (Heap.lt_size ho2)), ⟨hz, hTI, ⟨_, _, hTO⟩, ⟨_, h1, rfl, rfl⟩, ⟨_, h2, rfl, rfl⟩⟩, fresh5, q⟩
end Fw

set_option Elab.async false
set_option linter.all false
set_option maxRecDepth 100000
set_option maxHeartbeats 4000000
/-! Fw, part S: sorted(set(xs)) of a list of ints. -/
namespace Fw
open PySem PySem.Spec PyProof.Rows L2
/-- a set just made -/
abbrev sOb (w : World) : Obj := { cls := .type "set", dict := none, data := .set #[] 0 (.fresh 0 0 (!w.params.followText "set-order")) }
/-- the heap with it -/
abbrev sHp (w : World) (h : Heap) : Heap := h.push (sOb w)
section
variable {P : Program} {w : World} {A : Around} {E : Value → Shared → Prop} {s : Shared} {l : Addr} {xs : Array Value} {ns : List Int}
/-- what set(xs) leaves -/
abbrev sEnd (w : World) (s : Shared) (ns : List Int) (t : Shared) : Prop := ∃ (h' : Heap) (tk c : Nat), t = { s with heap := h', toks := tk } ∧ SetR w h' s.heap.objs.size (fun j => decide (j ∈ ns)) c ∧ c ≤ ns.length ∧ (∀ b o, s.heap.get? b = some o → h'.get? b = some o)
theorem set_lst {Q : Value → Shared → Prop} (hh : A.handled = none) (hl : s.heap.IsList l xs) (hi : IntsAre xs.toList ns) (hb : ns.length + 1 < scanBound)
    (k : ∀ t, sEnd w s ns t → Q (.ref s.heap.objs.size) t) : wpAny (model P w) A (call (.type "set") [.ref l]) Q E s := by
  have n0 : xs.size = ns.length := (Array.length_toList (xs := xs)).symm.trans (IntsAre.length hi)
  obtain ⟨mc, mt, m0⟩ := F.called_set.mro
  have m1 := F.called_set.made
  have m2 := F.called_set.sub
  have m3 := F.called_set.notType
  have m4 := F.called_set.canCreate
  have m5 := F.typeCall_set_1 (.ref l)
  refine wpAny_call (codeAny_of_tree (show wpAny _ _ (callAny (.type "set") _) _ _ _ from wpAny_pure ⟨Code.quiet_builtin _ (by decide +kernel), codeAny_builtin F.entry_type_call ?_⟩))
  rw [Around.under_plain (weight_type_call_type "set" [.ref l] []) rfl]
  repeat (first | (any_goals assumption) | (any_goals wp_step))
  refine codeAny_mono (code_set_led1 (.ref l) (E := E) (Q₁ := fun v t => v = .ref s.heap.objs.size ∧ t = { s with heap := sHp w s.heap }) ⟨rfl, rfl⟩) fun r t hr => ?_
  cases r with
  | error e => exact hr
  | ok fl => cases fl with
    | ret v =>
      obtain ⟨ev, et⟩ := hr
      subst ev; subst et
      have gS : (sHp w s.heap).get? s.heap.objs.size = some (sOb w) := Heap.get?_push_size _ rfl
      have tS : Shared.TypeIs { s with heap := sHp w s.heap } (.ref s.heap.objs.size) "set" := ⟨_, gS, rfl⟩
      have i1 := F.called_set.init.lookup
      have i2 := F.called_set.init.bind (.ref s.heap.objs.size)
      repeat (first | (any_goals assumption) | (any_goals wp_step))
      refine codeAny_mono (codeAny_call_builtin (R := wants (fun v t => v = .none ∧ sEnd w s ns t) E) F.called_set.init.plain F.entry_set_init (check_set_init_1 tS ?_)) fun r t hr => ?_
      · obtain ⟨ob, q0, q1, q2, q3⟩ := hl
        obtain ⟨oc, od, oda, osl⟩ := ob
        simp only at q1 q3
        subst q1; subst q3
        have l0 : s.heap.objs.size ≠ l := Nat.ne_of_gt (Heap.lt_size q0)
        have gL : (sHp w s.heap).get? l = some { cls := .type "list", dict := od, data := .seq xs q2, slots := osl } := Heap.get?_push_of_some _ q0
        have lS : (sHp w s.heap).IsList l xs := ⟨_, gL, rfl, q2, rfl⟩
        have sz : (sHp w s.heap).objs.size = s.heap.objs.size + 1 := Heap.size_push ..
        have b1 := F.sub_list_set
        have b2 := F.sub_list_frozenset
        have b3 : (Value.type "list" == Value.type "dict") = false := by decide
        unfold Builtin.«set.__init__» noKeywords Builtin.Frozenset.updateFrom
        generalize eI : pyIter = PI
        wp_walk
        subst eI
        refine wpAny_pyIter_list lS (wpAny_bind (wpAny_runValue ?_))
        have un : A.in1.in1.in1.handled = none := by simp [hh]
        have lI : l ≠ (sHp w s.heap).objs.size := by rw [sz]; exact Nat.ne_of_lt (Nat.lt_succ_of_lt (Heap.lt_size q0))
        refine set_update_ints ((Walks.list un _ l lI xs).toS) s.heap.objs.size ?_ ns n0 hb (fun i v hv => ?_) (xs.size - 0) 0 _ (by omega) (Nat.zero_le _) ⟨⟨_, Heap.get?_push_size _ rfl, rfl, rfl⟩, lS.push _⟩ ⟨0, Nat.le_refl 0, setR_new_at (Heap.get?_push_of_some _ gS)⟩ fun t c mv hc R => ?_
        · simp only [List.mem_cons, List.not_mem_nil, or_false, not_or]
          exact ⟨by rw [sz]; exact Nat.ne_of_lt (Nat.lt_succ_self _), l0⟩
        · have il : i < ns.length := n0 ▸ (Array.getElem?_eq_some_iff.mp hv).1
          obtain ⟨tk, e⟩ := PyProof.Rows.IntsAre.int_at hi i v (by rw [Array.getElem?_toList]; exact hv)
          refine ⟨ns[i], tk, List.getElem?_eq_getElem il, ?_⟩
          rw [e, List.getD_eq_getElem?_getD, List.getElem?_eq_getElem il]; rfl
        · obtain ⟨h', g', d', tk', os'⟩ := t
          have e1 : g' = s.gens := mv.gens
          have e2 : d' = s.drawn := mv.drawn
          have e3 : os' = s.os := mv.os
          subst e1; subst e2; subst e3
          show wpAny _ _ _ _ _ _
          refine wpAny_pure ?_
          show wpAny _ _ (ret Value.none) _ _ _
          refine wpAny_pure ⟨rfl, h', tk', c, rfl, R, n0 ▸ hc, fun b o e => mv.heap b o ?_ (Heap.get?_push_of_some _ (Heap.get?_push_of_some _ e))⟩
          have bl := Heap.lt_size e
          simp only [List.mem_cons, List.not_mem_nil, or_false, not_or]
          exact ⟨Nat.ne_of_lt bl, by rw [sz]; exact Nat.ne_of_lt (Nat.lt_succ_of_lt bl)⟩
      · cases r with
        | error e => exact hr
        | ok fl => cases fl with
          | ret v =>
            obtain ⟨ev, z⟩ := hr
            subst ev
            obtain ⟨h', tk, c, et, R, hc, kk⟩ := z
            subst et
            repeat (first | (any_goals assumption) | (any_goals wp_step))
            exact k _ ⟨h', tk, c, rfl, R, hc, kk⟩
          | _ => exact hr.elim
    | _ => exact hr.elim
end
end Fw

set_option Elab.async false
set_option linter.all false
set_option maxRecDepth 100000
set_option maxHeartbeats 1000000
/-! Fw, part S2: sorted(set(xs)) as an expression. -/
namespace Fw
open PySem PySem.Spec PyProof.Rows L2
section
variable {X : Cx}
theorem pe_sortSet {a : Expr} {ta : TE} {p p2 q pos : Pos} (hc : X.calm = true) (hg : Gl X "sorted") (hm : X.mg "sorted" = none) (hg2 : Gl X "set") (hm2 : X.mg "set" = none) (ha : PE X a ta)
    (na : starEach [a] X.env = (false, eval a X.env) :: starEach [] X.env := by rfl) : PE X (.Call (.Name "sorted" p) [.Call (.Name "set" p2) [a] [] q] [] pos) (tUn (rSortSet X.K) ta) := by
  refine ⟨fun pins s σ H Q I h => ?_⟩
  refine Call_ (ld_blt I hg hm PyProof.Rows.boot_sorted (PyProof.Rows.callWith_builtin1 (PyProof.Rows.args_cons ?_ rfl) rfl rfl))
  refine Call_ (ld_blt I hg2 hm2 PyProof.Rows.boot_set (PyProof.Rows.callWith_type1 (PyProof.Rows.args_cons (thn (ha.run pins s σ H _ I h) fun v s1 ⟨x, H1, I1, r1, q1⟩ => PyProof.Rows.args_nil ?_) na) na rfl))
  obtain ⟨l, ns, rfl, hq, h64, q1⟩ := q1
  cases r1
  obtain ⟨its, r, pl, hz⟩ := I1.list hq
  have hd := I1.ok.hd hc
  refine set_lst (ns := ns) hd pl.isList (by simpa using r.ints) (by unfold scanBound; omega) fun t z => ?_
  obtain ⟨h', tk, c, et, R, cn, kk⟩ := z
  subst et
  refine PyProof.Rows.args_nil ?_
  have I2 : Inv X pins σ H1 { s1 with heap := h', toks := tk } := I1.kept fun b o e => kk b o e
  refine sorted_set R hd (by omega) fun s' pp out cc ms k2 g2 o2 hp hg3 hi hs hm3 hl3 => ?_
  have e : s' = { ({ s1 with heap := h', toks := tk } : Shared) with heap := s'.heap, gens := s'.gens, drawn := s'.drawn, toks := s'.toks } := by
    cases s'; cases s1; cases o2; rfl
  have len : (ms.map V.int).length ≤ sizeLine := by
    rw [List.length_map, hl3, sizeLine_eq]; omega
  have no : H1 pp = none := I2.hok.fresh hp
  have J : Inv X pins σ (upd H1 pp (.lst (ms.map V.int))) { ({ s1 with heap := h', toks := tk } : Shared) with heap := s'.heap, gens := s'.gens, drawn := s'.drawn, toks := s'.toks } :=
    I2.call (ch := []) (Un.laid k2 hp no) (I2.hok.laid k2 hp ⟨len, out.toList, cc, vals_of_ints hi, hg3⟩) (by rw [g2]; exact I2.bare) (fun _ z => nomatch z)
  rw [e]
  exact ⟨.ref pp, _, J, rfl, q1 ms pp hs (fun j => by rw [hm3, decide_eq_true_eq]) no⟩
end
end Fw

set_option Elab.async false
set_option linter.all false
set_option maxRecDepth 100000
set_option maxHeartbeats 1000000
/-! Fw, part J: built-ins and methods by their names. -/
namespace Fw
open PySem PySem.Spec PyProof.Rows L2
theorem callR_imp {X : Cx} {f : Value} {r r' : List V → Hp → VK → Prop} (h : CallR X f r) (k : ∀ xs H Q, r' xs H Q → r xs H Q) : CallR X f r' := fun pins s σ H xs us Q I rv q => h pins s σ H xs us Q I rv (k xs H Q q)
theorem callR_or {X : Cx} {f : Value} {r r' : List V → Hp → VK → Prop} (h : CallR X f r) (h' : CallR X f r') : CallR X f (fun xs H Q => r xs H Q ∨ r' xs H Q) := fun pins s σ H xs us Q I rv q => q.elim (h pins s σ H xs us Q I rv) (h' pins s σ H xs us Q I rv)
def bltB : Str → Option (List W → IH → Rs W) := fun x =>
  if x = "len" then some (k1 oLen) else
  if x = "all" then some (k1 oAll) else
  if x = "any" then some (k1 oAny) else
  if x = "sum" then some (k1 oSum) else
  if x = "sorted" then some (k1 oSorted) else
  if x = "min" then some kMin else
  if x = "max" then some (k1 oMax1) else none
def bltT : Str → Option (List W → IH → Rs W) := fun x =>
  if x = "list" then some (k1 oList) else
  if x = "tuple" then some (k1 oTuple) else
  if x = "int" then some (k1 oInt) else none
section
variable {X : Cx} {C : Nat → Addr} {We : Nat → L2.St → Hp → Prop} {pos : Pos} {e : Expr} {es : List Expr} {g : EA}
theorem c_bltB {x : Str} {p : Pos} {k : List W → IH → Rs W} (hc : X.calm = true) (hk : bltB x = some k) (hg : Gl X x) (hm : X.mg x = none) (ha : PA X (e :: es) (TIA (FX X C We) g)) (h1 : (e :: es).all noStar = true) : PE X (.Call (.Name x p) (e :: es) [] pos) (TI (FX X C We) (eA k g)) := by
  obtain ⟨n1, n2⟩ := Bool.and_eq_true_iff.mp (show (noStar e && es.all noStar) = true from h1)
  unfold bltB at hk
  split at hk
  · rename_i q; subst q; cases hk
    exact c_eA (pe_callB (callR_or call_len_seq (callR_or call_len_str call_lenD)) hg hm rfl ha (by decide) (by decide) (star_cons n1) (star_back n2)) (OpN.of1 s_len)
  split at hk
  · rename_i q; subst q; cases hk
    exact c_eA (pe_callB (cr_all hc) hg hm rfl ha (by decide) (by decide) (star_cons n1) (star_back n2)) (OpN.of1 s_all)
  split at hk
  · rename_i q; subst q; cases hk
    exact c_eA (pe_callB (cr_any hc) hg hm rfl ha (by decide) (by decide) (star_cons n1) (star_back n2)) (OpN.of1 s_any)
  split at hk
  · rename_i q; subst q; cases hk
    exact c_eA (pe_callB (cr_sum hc) hg hm rfl ha (by decide) (by decide) (star_cons n1) (star_back n2)) (OpN.of1 s_sum)
  split at hk
  · rename_i q; subst q; cases hk
    exact c_eA (pe_callB (callR_or cr_sortedI (call_sortedDI hc)) hg hm rfl ha (by decide) (by decide) (star_cons n1) (star_back n2)) (OpN.of1 s_sorted)
  split at hk
  · rename_i q; subst q; cases hk
    exact c_eA (pe_callB (callR_or (cr_min hc) (call_min2 hc)) hg hm rfl ha (by decide) (by decide) (star_cons n1) (star_back n2)) s_kMin
  split at hk
  · rename_i q; subst q; cases hk
    exact c_eA (pe_callB (cr_max hc) hg hm rfl ha (by decide) (by decide) (star_cons n1) (star_back n2)) (OpN.of1 s_max1)
  · cases hk
theorem c_bltT {x : Str} {p : Pos} {k : List W → IH → Rs W} (hc : X.calm = true) (hk : bltT x = some k) (hg : Gl X x) (hm : X.mg x = none) (ha : PA X (e :: es) (TIA (FX X C We) g)) (h1 : (e :: es).all noStar = true) : PE X (.Call (.Name x p) (e :: es) [] pos) (TI (FX X C We) (eA k g)) := by
  obtain ⟨n1, n2⟩ := Bool.and_eq_true_iff.mp (show (noStar e && es.all noStar) = true from h1)
  unfold bltT at hk
  split at hk
  · rename_i q; subst q; cases hk
    exact c_eA (pe_callTy call_list_of hg hm rfl ha (by decide) (by decide) (star_cons n1) (star_back n2)) (OpN.of1 s_list)
  split at hk
  · rename_i q; subst q; cases hk
    exact c_eA (pe_callTy call_tuple_of hg hm rfl ha (by decide) (by decide) (star_cons n1) (star_back n2)) (OpN.of1 s_tuple)
  split at hk
  · rename_i q; subst q; cases hk
    exact c_eA (pe_callTy call_int1 hg hm rfl ha (by decide) (by decide) (star_cons n1) (star_back n2)) (OpN.of1 s_int)
  · cases hk
theorem c_sortSet {p p2 q : Pos} {a : Expr} {fa : EE} (hc : X.calm = true) (hg : Gl X "sorted") (hm : X.mg "sorted" = none) (hg2 : Gl X "set") (hm2 : X.mg "set" = none) (ha : PE X a (TI (FX X C We) fa)) (h1 : noStar a = true) :
    PE X (.Call (.Name "sorted" p) [.Call (.Name "set" p2) [a] [] q] [] pos) (TI (FX X C We) (e1 oSortSet fa)) :=
  c_e1 (pe_sortSet hc hg hm hg2 hm2 ha (star_cons h1)) s_sortSet
/-! ### methods of lists -/
def lstM : Str → Option (List W → IH → Rs W) := fun m =>
  if m = "append" then some mAppend else
  if m = "pop" then some mPop1 else
  if m = "insert" then some mInsert else none
theorem c_lstM {m : Str} {o : Expr} {fo : EE} {apos : Pos} {k : List W → IH → Rs W} (hc : X.calm = true) (hk : lstM m = some k) (ho : PE X o (TI (FX X C We) fo)) (ha : PA X (e :: es) (TIA (FX X C We) g)) (h1 : (e :: es).all noStar = true) (h2 : noSup o = true) (h3 : (apos.endLine == pos.line) = true) (h4 : Nat.blt (e :: es).length 20 = true) :
    PE X (.Call (.Attribute o m apos) (e :: es) [] pos) (TI (FX X C We) (eMt isLst k fo g)) := by
  obtain ⟨n1, n2⟩ := Bool.and_eq_true_iff.mp (show (noStar e && es.all noStar) = true from h1)
  have few : ((backTo pos (starEach (e :: es) X.env)).all (fun x => !x.1) && (backToKw pos (keywordEach [] X.env)).all (fun x => x.1.isSome) && decide ((e :: es).length + ([] : List Keyword).length + (if ([] : List Keyword).isEmpty then 0 else 1) < 30)) = true := by
    rw [star_few h1]
    have : (e :: es).length < 20 := Nat.le_of_ble_eq_true h4
    simp only [List.length_cons] at this
    simp [keywordEach, backToKw]
    omega
  unfold lstM at hk
  split at hk
  · rename_i q; subst q; cases hk
    exact c_mtL (pe_bm PySem.F.plainAttrs_list PySem.F.slot_list_append PySem.F.type_list_append mt_append ho ha (base_ok h2) few h3 (star_cons n1) (star_back n2)) m_append
  split at hk
  · rename_i q; subst q; cases hk
    exact c_mtL (pe_bm PySem.F.plainAttrs_list PySem.F.slot_list_pop PySem.F.type_list_pop mt_popAt ho ha (base_ok h2) few h3 (star_cons n1) (star_back n2)) m_pop1
  split at hk
  · rename_i q; subst q; cases hk
    exact c_mtL (pe_bm PySem.F.plainAttrs_list PySem.F.slot_list_insert PySem.F.type_list_insert mt_insert ho ha (base_ok h2) few h3 (star_cons n1) (star_back n2)) m_insert
  · cases hk
theorem c_pop0 {o : Expr} {fo : EE} {apos : Pos} (ho : PE X o (TI (FX X C We) fo)) (h2 : noSup o = true) (h3 : (apos.endLine == pos.line) = true) : PE X (.Call (.Attribute o "pop" apos) [] [] pos) (TI (FX X C We) (eMt isLst mPop0 fo aNil)) :=
  c_mtL0 (pe_bm0 PySem.F.plainAttrs_list PySem.F.slot_list_pop PySem.F.type_list_pop mt_pop ho (base_ok h2) h3) m_pop0
/-- x[::-1] -/
theorem RVs.reverse {K : PySem.W.Frag} {ρ : Nat → Addr} {n : Nat} {H : Hp} : ∀ {ws : List W} {vs : List V}, RVs K ρ n H ws vs → RVs K ρ n H ws.reverse vs.reverse
  | _, _, .nil => .nil
  | _, _, .cons a r => by rw [List.reverse_cons, List.reverse_cons]; exact (RVs.reverse r).append (.cons a .nil)
theorem c_rev {k : Nat} {p1 p2 p3 : Pos} (ha : PE X a (TI (FX X C We) fa)) : PE X (.Subscript a (.Slice none none (some (.UnaryOp .USub (.Constant (.int 1) k p1) p2)) p3) pos) (TI (FX X C We) (e1 oRev fa)) :=
  PEmono (PEor (pe_revL ha) (pe_revT ha)) fun σ H Q ⟨ρ, e, h, rh, re, p⟩ => by
    have p0 : Post (FX X C We) (RV X.K) σ ρ h.n H ((fa e h).bind oRev) Q := p
    cases q : fa e h with
    | stuck => rw [q] at p0; exact p0.elim
    | exc c h1 => rw [q] at p0; exact .inl ⟨ρ, e, h, rh, re, by rw [q]; exact p0⟩
    | ok x h1 =>
      rw [q] at p0
      have p0 : Post (FX X C We) (RV X.K) σ ρ h.n H (oRev x h1) Q := p0
      cases x with
      | loc i =>
        refine .inl ⟨ρ, e, h, rh, re, ?_⟩
        rw [q]
        intro ρ1 v H1 x1 rh1 rv
        cases rv with
        | loc hi =>
          have p1 := Post.shift x1 p0
          have p2 : Post (FX X C We) (RV X.K) σ ρ1 h1.n H1 (match listAt h1 i with
            | some ws => .ok (.loc h1.n) (h1.new (.lst ws.reverse))
            | none => .stuck) Q := p1
          cases g : listAt h1 i with
          | none => rw [g] at p2; exact p2.elim
          | some ws =>
            rw [g] at p2
            obtain ⟨vs, s, r, _⟩ := rh1.list g
            exact ⟨_, vs, rfl, s, post_lst rh1 r.reverse p2⟩
      | tup ws =>
        refine .inr ⟨ρ, e, h, rh, re, ?_⟩
        rw [q]
        intro ρ1 v H1 x1 rh1 rv
        cases rv with
        | tup s r =>
          have p1 := Post.shift x1 p0
          exact ⟨_, _, rfl, s, post_tup rh1 r.reverse p1⟩
      | non => exact p0.elim
      | bl _ => exact p0.elim
      | int _ => exact p0.elim
      | str _ => exact p0.elim
      | ro _ => exact p0.elim
end
end Fw

set_option Elab.async false
set_option linter.all false
set_option maxRecDepth 100000
set_option maxHeartbeats 1000000
/-! Fw, part K: from the text of an expression to its evaluation. -/
namespace Fw
open PySem PySem.Spec PyProof.Rows L2
/-- what a global name stands for -/
inductive GK where
  | fn (id : Nat)
  | con (w : W)
  | kd (kvs : List (Str × Int))
  | bt
  | exc (c : Nat) (ds : List (Nat × Bool))
  | ve (ds : List (Nat × Bool))
/-- a block: its places, its scope, whether it is a def's own, the module's names -/
structure SC where
  N : List Str
  sc : Scope
  top : Bool
  gk : Str → Option GK
def ixOf : List Str → Str → Option Nat
  | [], _ => none
  | y :: r, x => if y = x then some 0 else (match ixOf r x with
    | some i => some (i + 1)
    | none => none)
theorem ixOf_ok : ∀ {N : List Str} {x : Str} {i : Nat}, ixOf N x = some i → N[i]? = some x
  | [], _, _, h => by cases h
  | y :: r, x, i, h => by
    unfold ixOf at h
    split at h
    · rename_i q; cases h; rw [q]; rfl
    · cases q : ixOf r x with
      | none => rw [q] at h; cases h
      | some j => rw [q] at h; cases h; rw [List.getElem?_cons_succ]; exact ixOf_ok q
/-- what the scope says of a name: 0 a place of the block's own, 1 the module's, 2 captured -/
def kn (S : SC) (x : Str) : Option Nat := match S.sc.names.lookup x with
  | some .local => some 0
  | some .cell => some 1
  | some .free => some 2
  | some .globalImplicit => some 3
  | _ => none
def glo (S : SC) (x : Str) : Option GK := match S.sc.names.lookup x with
  | some .globalImplicit => S.gk x
  | _ => none
def seen (S : SC) (x : Str) : Option Nat := match S.sc.names.lookup x with
  | some .local => ixOf S.N x
  | some .cell => ixOf S.N x
  | some .free => ixOf S.N x
  | _ => none
/-- where it may be stored -/
def put (S : SC) (x : Str) : Option Nat := match S.sc.names.lookup x with
  | some .local => ixOf S.N x
  | some .cell => (match S.top with
    | true => ixOf S.N x
    | false => none)
  | _ => none
def hid (x : Str) : Bool := x == ("__debug__" : Str) || x == ("__classdict__" : Str)
def EXK (cl : Nat → Value) (We : Nat → L2.St → Hp → Prop) : L2.St → XK := fun σ c d H => ∃ i, c = cl i ∧ d = none ∧ We i σ H
/-- what a def's evaluation promises of the def -/
def spF (K : PySem.W.Frag) (C : Nat → Addr) (cl : Nat → Value) (n : Nat) (f : List W → IH → Rs W) : Sp := fun vs H Q E => vs.length = n ∧ ∃ ρ ws h, RH K C ρ h H ∧ RVs K ρ h.n H ws vs ∧ (match f ws h with
  | .ok w h' => ∀ ρ' v H', Ext ρ ρ' h.n h'.n H H' → RH K C ρ' h' H' → RV K ρ' h'.n H' w v → Q v H'
  | .exc c h' => ∀ ρ' H', Ext ρ ρ' h.n h'.n H H' → RH K C ρ' h' H' → E (cl c) none H'
  | .stuck => False)
/-- the arity is asked -/
def arOk (n : Nat) (f : List W → IH → Rs W) : Prop := ∀ ws h, ws.length ≠ n → f ws h = .stuck
/-- the exception class k is one of cv's, or not -/
structure ExIs (K : PySem.W.Frag) (cl : Nat → Value) (C : Nat → Addr) (k : Nat) (b : Bool) (cv : Value) : Prop where
  cl : cl k = .ref (C k)
  cls : ExcC K (C k)
  kit : PySem.W.kitOne K (.ref (C k)) cv = some b
  exm : PySem.W.exmOne K (.ref (C k)) cv = some b
def GlobOk (cl : Nat → Value) (C : Nat → Addr) (Φ : FT) (X : Cx) (x : Str) : GK → Prop
  | .fn id => ∃ k f fd ps, FnG X.prog X.w X.K X.mg X.base (L2.CX X.prog X.w) k f fd ps (spF X.K C cl ps.length (Φ id)) ∧ arOk ps.length (Φ id) ∧ Room k X.A ∧ X.mg x = some (.ref f) ∧ PySem.W.keepIn X.K (.ref f) = true ∧ Binds X.K fd ps []
  | .con w => ∃ u v, X.mg x = some u ∧ RelV v u ∧ ∀ ρ n H, RV X.K ρ n H w v
  | .kd kvs => ∃ d es n, KDict X.K X.w d es n ∧ X.mg x = some (.ref d) ∧ ∀ z, ∃ r, PySem.W.nsIn X.K d z = some r ∧ (match kvs.lookup z with
    | some i => ∃ u, r = some u ∧ RelV (.int i) u
    | none => r = none)
  | .bt => X.mg x = none
  | .ve ds => x = "ValueError" ∧ X.mg x = none ∧ ∀ k b, ds.lookup k = some b → ExIs X.K cl C k b (.type "ValueError")
  | .exc c ds => ∃ Ca B newId initId bmB, (C c = Ca ∧ ∀ k b, ds.lookup k = some b → ExIs X.K cl C k b (.ref Ca)) ∧ ExcBaseFacts B newId initId bmB ∧ cl c = .ref Ca ∧ PySem.W.excIn X.K Ca bmB newId = true ∧ X.mg x = some (.ref Ca) ∧ PySem.W.keepIn X.K (.ref Ca) = true ∧ PySem.W.subIn X.K (.ref Ca) (.type "BaseException") = some true ∧ PySem.W.typeIn X.K (.ref Ca) = some (.type "type")
structure OkE (cl : Nat → Value) (C : Nat → Addr) (Φ : FT) (S : SC) (X : Cx) (We : Nat → L2.St → Hp → Prop) : Prop where
  nd : X.N.Nodup
  eN : X.N = S.N
  sc : X.env.scope = S.sc
  calm : X.calm = true
  units : X.A.units + 70 < cLine
  guards : X.A.guards = some []
  tk : Takes X fun c d σ H => EXK cl We σ c d H
  fn : S.top = true → ∀ x, X.fn x = true
  glob : ∀ x g, S.gk x = some g → GlobOk cl C Φ X x g
def relS (sc scope : Scope) : Scope := { scope with names := scope.names.map fun (n, k) => if (k == .free && sc.kind == .function && sc.names.lookup n == some .cell) then (n, .cell) else (n, k) }
def SC.inn (S : SC) (scope : Scope) : SC := { S with sc := relS S.sc scope, top := false }
theorem OkE.blk {cl : Nat → Value} {C : Nat → Addr} {Φ : FT} {S : SC} {X : Cx} {We : Nat → L2.St → Hp → Prop} (O : OkE cl C Φ S X We) (s : Shared) (H : Hp) (scope : Scope) (cs : List (Str × Addr)) (Ca : Addr) (fp : List Addr) :
    OkE cl C Φ (S.inn scope) (X.blk s H scope (compEnvC scope cs Ca X.env) fp) fun _ _ _ => False where
  nd := O.nd
  eN := O.eN
  sc := by show relabel scope X.env = relS S.sc scope; rw [← O.sc]; rfl
  calm := O.calm
  units := O.units
  guards := O.guards
  tk := fun u s' ⟨_, _, _, _, _, _, _, _, _, _, _, _, _, _, _, _, _, _, _, w⟩ => w.elim
  fn := fun z => by cases z
  glob := fun x g e => by
    have z := O.glob x g e
    cases g <;> exact z
section
variable {cl : Nat → Value} {C : Nat → Addr} {Φ : FT} {S : SC} {X : Cx} {We : Nat → L2.St → Hp → Prop} {x : Str} {pos p : Pos}
theorem OkE.gl (O : OkE cl C Φ S X We) {g : GK} (h : glo S x = some g) : Gl X x ∧ GlobOk cl C Φ X x g := by
  unfold glo at h
  split at h
  · rename_i q
    exact ⟨by unfold Gl Env.kindOf; rw [O.sc]; exact q, O.glob _ _ h⟩
  · cases h
theorem OkE.vis (O : OkE cl C Φ S X We) {i : Nat} (h : seen S x = some i) : X.N[i]? = some x ∧ Vis X.env.scope x := by
  unfold seen at h
  rw [O.eN, O.sc]
  split at h
  · rename_i q; exact ⟨ixOf_ok h, .inl q⟩
  · rename_i q; exact ⟨ixOf_ok h, .inr (.inl q)⟩
  · rename_i q; exact ⟨ixOf_ok h, .inr (.inr q)⟩
  · cases h
theorem OkE.loc (O : OkE cl C Φ S X We) {i : Nat} (h : put S x = some i) : X.N[i]? = some x ∧ Loc X.env.scope x ∧ (X.fn x = true ∨ X.env.scope.names.lookup x = some .local) := by
  unfold put at h
  rw [O.eN, O.sc]
  split at h
  · rename_i q; exact ⟨ixOf_ok h, .inl q, .inr q⟩
  · rename_i q
    split at h
    · rename_i q2; exact ⟨ixOf_ok h, .inr q, .inl (O.fn q2 x)⟩
    · cases h
  · cases h
theorem stuckE {F : Fx} {f : EE} (hf : ∀ e h, f e h = .stuck) {e : Expr} : PE X e (TI F f) := ⟨fun pins s σ H Q I ⟨ρ, e, h, _, _, p⟩ => by rw [hf] at p; exact p.elim⟩
theorem stuckT {F : Fx} {f : ET} (hf : ∀ e h, f e h = .stuck) {e : Expr} : PT X e (TIT F f) := ⟨fun pins s σ H Q I ⟨ρ, e, h, _, _, p⟩ => by rw [hf] at p; exact p.elim⟩
end
def eBad : EE := fun _ _ => .stuck
def tBad : ET := fun _ _ => .stuck
def sBad : SS := fun _ _ => .stuck
def gBad : EG := fun _ _ _ => .stuck
def iBad : EI := fun _ _ => .stuck
/-! ### the steps -/
structure RR where
  e : SC → Expr → EE
  t : SC → Expr → ET
def opK : Operator → Option (W → W → IH → Rs W)
  | .Add => some oAdd
  | .Sub => some oSub
  | .Mult => some oMul
  | .Mod => some oMod
  | .FloorDiv => some oDiv
  | .Pow => some oPow
  | _ => none
def cmpK : CmpOp → W → W → IH → Rs W
  | .Lt => oLt
  | .LtE => oLe
  | .Gt => oGt
  | .GtE => oGe
  | .Eq => oEq
  | .NotEq => oNe
  | .Is => oIs
  | .IsNot => oIsNot
  | .In => oIn
  | .NotIn => oNotIn
/-- the comparisons of a chain -/
def chK : CmpOp → Option (W → W → IH → Rs W)
  | .Lt => some oLt
  | .LtE => some oLe
  | .Gt => some oGt
  | .GtE => some oGe
  | _ => none
def oInKd (kvs : List (Str × Int)) : W → IH → Rs W
  | .str z, h => .ok (.bl (kvs.lookup z).isSome) h
  | _, _ => .stuck
def oIxKd (kvs : List (Str × Int)) : W → IH → Rs W
  | .str z, h => (match kvs.lookup z with
    | some i => .ok (.int i) h
    | none => .stuck)
  | _, _ => .stuck
def args (f : Expr → EE) : List Expr → EA
  | [] => aNil
  | e :: es => aCons (f e) (args f es)
def andL (f : Expr → EE) : List Expr → EE
  | [] => eBad
  | [e] => f e
  | e :: es => eAnd (f e) (andL f es)
def orL (f : Expr → EE) : List Expr → EE
  | [] => eBad
  | [e] => f e
  | e :: es => eOr (f e) (orL f es)
def andT (f : Expr → ET) : List Expr → ET
  | [] => tBad
  | [e] => f e
  | e :: es => tAnd (f e) (andT f es)
def orT (f : Expr → ET) : List Expr → ET
  | [] => tBad
  | [e] => f e
  | e :: es => tOr (f e) (orT f es)
def kdOf (S : SC) : Expr → Option (List (Str × Int))
  | .Name x _ => (match hid x with
    | true => none
    | false => match glo S x with
      | some (.kd kvs) => some kvs
      | _ => none)
  | _ => none
def tyOf_ : Str → Option Ty := fun x =>
  if x = "int" then some .int else if x = "bool" then some .bool else if x = "str" then some .str else if x = "tuple" then some .tuple else if x = "list" then some .list else if x = "dict" then some .dict else none
def pairs (f : Expr → EE) : List (Option Expr) → List Expr → List (EE × EE)
  | some k :: ks, v :: vs => (f k, f v) :: pairs f ks vs
  | _, _ => []
/-- the block's own names, by place -/
def ownOf (N : List Str) : List (Str × NameKind) → List (Str × Nat)
  | [] => []
  | (y, k) :: r => match k with
    | .local => (match ixOf N y with
      | some i => (y, i) :: ownOf N r
      | none => ownOf N r)
    | .cell => (match ixOf N y with
      | some i => (y, i) :: ownOf N r
      | none => ownOf N r)
    | _ => ownOf N r
/-- a comprehension's targets -/
def tgW (S : SC) (vs : List Nat) : Nat → Expr → EG
  | 0, _ => gBad
  | n + 1, e => match e with
    | .Name x _ => (match put S x with
      | some i => (match vs.contains i with
        | true => gNm i
        | false => gBad)
      | none => gBad)
    | .Tuple es _ _ => (match es.all noStar with
      | true => gTp (es.map (tgW S vs n))
      | false => gBad)
    | _ => gBad
def isBt (S : SC) (x : Str) : Bool := match glo S x with
  | some .bt => true
  | _ => false
def isTupE : Expr → Bool
  | .Tuple _ _ _ => true
  | _ => false
def iterC (r : RR) (S : SC) (tg iter : Expr) : EI := match iter with
  | .Call (.Name f _) [a] [] _ => (match hid f || !noStar a with
    | true => iBad
    | false => if f = "range" then (match isBt S "range" with
        | true => iA kRng1 (args (r.e S) [a])
        | false => iBad)
      else if f = "enumerate" then (match isBt S "enumerate" && isTupE tg with
        | true => iA kEnu (args (r.e S) [a])
        | false => iBad)
      else iAny (r.e S iter))
  | .Call (.Name f _) [a, b] [] _ => (match hid f || !noStar a || !noStar b with
    | true => iBad
    | false => if f = "range" then (match isBt S "range" with
        | true => iA kRng2 (args (r.e S) [a, b])
        | false => iBad)
      else if f = "zip" then (match isBt S "zip" && isTupE tg with
        | true => iA kZip (args (r.e S) [a, b])
        | false => iBad)
      else iAny (r.e S iter))
  | .Call (.Name f _) [a, b] [⟨some kw, .Constant (.bool false) _ _, _⟩] _ => (match hid f || !noStar a || !noStar b with
    | true => iBad
    | false => if f = "zip" ∧ kw = "strict" then (match isBt S "zip" && isTupE tg with
        | true => iA kZip (args (r.e S) [a, b])
        | false => iBad)
      else iBad)
  | _ => iAny (r.e S iter)
def ifsC (r : RR) (S : SC) : List Expr → ET
  | [] => tYes
  | [c] => r.t S c
  | _ => tBad
def compC (r : RR) (S : SC) (elt : Expr) (gens : List Comprehension) (scope : Scope) : EE := match gens with
  | [⟨tg, iter, ifs, 0⟩] =>
    (match blkC S.N S.sc scope (ownOf S.N scope.names) && noSet iter with
    | true => eLc (iterC r S tg iter) (tgW (S.inn scope) ((ownOf S.N scope.names).map (·.2)) 9 tg) (ifsC r (S.inn scope) ifs) (r.e (S.inn scope) elt) ((ownOf S.N scope.names).map (·.2))
    | false => eBad)
  | _ => eBad
/-- sorted(set(b)) -/
def setArg (S : SC) (f : Str) (a : Expr) (rest : List Expr) : Option Expr := match rest with
  | [] => (match a with
    | .Call (.Name g _) [b] [] _ => if f = "sorted" ∧ g = "set" then (match isBt S "set" && noStar b with
        | true => some b
        | false => none)
      else none
    | _ => none)
  | _ => none
def callC (Φ : FT) (r : RR) (S : SC) (f : Str) (as : List Expr) : EE := match hid f || !as.all noStar with
  | true => eBad
  | false => match glo S f with
    | some (.fn id) => eCall Φ id (args (r.e S) as)
    | some .bt => (match as with
      | [] => eBad
      | a :: rest => match bltB f with
        | some k => (match setArg S f a rest with
          | some b => e1 oSortSet (r.e S b)
          | none => eA k (args (r.e S) as))
        | none => if f = "repr" then (match rest with
            | [] => e1 oRepr (r.e S a)
            | _ => eBad)
          else if f = "isinstance" then (match rest with
            | [.Tuple [.Name c _, .Name d _] _ _] => (match hid c, glo S c, tyOf_ c, hid d, glo S d, tyOf_ d with
              | false, some .bt, some u, false, some .bt, some t => e1 (oIsi [u, t]) (r.e S a)
              | _, _, _, _, _, _ => eBad)
            | [.Name c _] => (match hid c, glo S c, tyOf_ c with
              | false, some .bt, some u => e1 (oIsi [u]) (r.e S a)
              | false, some (.exc _ ds), _ => e1 (oIsE ds) (r.e S a)
              | false, some (.ve ds), _ => e1 (oIsE ds) (r.e S a)
              | _, _, _ => eBad)
            | _ => eBad)
          else match bltT f with
            | some k => (match a, rest with
              | .Call (.Name g _) [b] [] _, [] => if f = "list" ∧ g = "range" then (match isBt S "range" && noStar b with
                  | true => e1 oListRange (r.e S b)
                  | false => eBad)
                else eA k (args (r.e S) as)
              | .Call (.Name g _) [b, c] [] _, [] => if f = "list" ∧ g = "range" then (match isBt S "range" && noStar b && noStar c with
                  | true => e2 oListRange2 (r.e S b) (r.e S c)
                  | false => eBad)
                else eA k (args (r.e S) as)
              | _, _ => eA k (args (r.e S) as))
            | none => eBad)
    | some (.exc c _) => (match as with
      | [a] => eErr c (r.e S a)
      | _ => eBad)
    | _ => eBad
def methC (r : RR) (S : SC) (o : Expr) (m : Str) (as : List Expr) (apos pos : Pos) : EE := match as.all noStar && noSup o && apos.endLine == pos.line && Nat.blt as.length 20 with
  | false => eBad
  | true => match as with
    | [] => if m = "pop" then eMt isLst mPop0 (r.e S o) aNil else eBad
    | a :: rest => match lstM m with
      | some k => eMt isLst k (r.e S o) (args (r.e S) as)
      | none => if m = "get" then (match rest with
          | [b] => eMt isDk mGet2 (r.e S o) (aCons (r.e S a) (aCons (r.e S b) aNil))
          | _ => eBad)
        else eBad
def boundC (r : RR) (S : SC) : Option Expr → EO
  | none => pNone
  | some e => pSome (r.e S e)
def cmpC (r : RR) (S : SC) (a : Expr) (ops : List CmpOp) (bs : List Expr) : EE := match ops, bs with
  | [op], [b] => (match noSet b with
    | false => eBad
    | true => match kdOf S b with
      | some kvs => (match op with
        | .In => e1 (oInKd kvs) (r.e S a)
        | _ => eBad)
      | none => e2 (cmpK op) (r.e S a) (r.e S b))
  | [op, op'], [b, c] => (match noSet c with
    | false => eBad
    | true => match chK op, chK op' with
      | some k, some k' => eChain k k' (r.e S a) (r.e S b) (r.e S c)
      | _, _ => eBad)
  | _, _ => eBad
def stepE (Φ : FT) (r : RR) (S : SC) (e : Expr) : EE := match e with
  | .Name x _ => (match hid x with
    | true => eBad
    | false => match seen S x with
      | some i => eVar i
      | none => match glo S x with
        | some (.con w) => eC w
        | _ => eBad)
  | .Constant c _ _ => (match c with
    | .int i => eC (.int i)
    | .bool b => eC (.bl b)
    | .none => eC .non
    | .str z => eC (.str z)
    | _ => eBad)
  | .BinOp a op b _ => (match opK op with
    | some k => e2 k (r.e S a) (r.e S b)
    | none => eBad)
  | .UnaryOp op a _ => (match op with
    | .Not => eNot (r.e S a)
    | .USub => e1 uNeg (r.e S a)
    | _ => eBad)
  | .BoolOp op es _ => (match op with
    | .And => andL (r.e S) es
    | .Or => orL (r.e S) es)
  | .IfExp c a b _ => eIf (r.t S c) (r.e S a) (r.e S b)
  | .Compare a ops bs _ => cmpC r S a ops bs
  | .Tuple es _ _ => (match es.all noStar with
    | true => eTup (args (r.e S) es)
    | false => eBad)
  | .List es _ => (match es.all noStar with
    | true => eLst (args (r.e S) es)
    | false => eBad)
  | .Dict keys values _ => (match keys.all (·.isSome) && Nat.beq keys.length values.length && Nat.blt keys.length 16 with
    | true => eDic (pairs (r.e S) keys values)
    | false => eBad)
  | .ListComp elt gens scope _ => compC r S elt gens scope
  | .Subscript a i _ => (match i with
    | .Slice none none (some (.UnaryOp .USub (.Constant (.int 1) _ _) _)) _ => e1 oRev (r.e S a)
    | .Slice lo hi none _ => eSl (r.e S a) (boundC r S lo) (boundC r S hi)
    | _ => match noSlice i with
      | false => eBad
      | true => match kdOf S a with
        | some kvs => e1 (oIxKd kvs) (r.e S i)
        | none => e2 oIx (r.e S a) (r.e S i))
  | .Call f as ks pos => (match ks with
    | [] => (match f with
      | .Name x _ => callC Φ r S x as
      | .Attribute o m apos => methC r S o m as apos pos
      | _ => eBad)
    | _ => eBad)
  | _ => eBad
def stepT (r : RR) (S : SC) (e : Expr) : ET := match e with
  | .UnaryOp op a _ => (match op with
    | .Not => tNot (r.t S a)
    | _ => tBad)
  | .BoolOp op es _ => (match op with
    | .And => andT (r.t S) es
    | .Or => orT (r.t S) es)
  | .Compare a ops bs _ => tBol (cmpC r S a ops bs)
  | .IfExp _ _ _ _ => tBad
  | e => tTru (r.e S e)
def rk (Φ : FT) : Nat → RR
  | 0 => ⟨fun _ _ => eBad, fun _ _ => tBad⟩
  | n + 1 => ⟨fun S e => stepE Φ (rk Φ n) S e, fun S e => stepT (rk Φ n) S e⟩
end Fw

set_option Elab.async false
set_option linter.all false
set_option maxRecDepth 100000
set_option maxHeartbeats 1000000
/-! Fw, part L: the evaluation of an expression's text is true to it. -/
namespace Fw
open PySem PySem.Spec PyProof.Rows L2
section
variable {cl : Nat → Value} {C : Nat → Addr} {Φ : FT} {S : SC} {X : Cx} {We : Nat → L2.St → Hp → Prop} {x : Str} {pos p : Pos} {e : Expr} {es : List Expr}
theorem args_ok {f : Expr → EE} (hf : ∀ e, PE X e (TI (FX X C We) (f e))) : ∀ {es : List Expr}, es.all noStar = true → PA X es (TIA (FX X C We) (args f es))
  | [], _ => a_nil
  | e :: es, h => by
    obtain ⟨h1, h2⟩ := Bool.and_eq_true_iff.mp (show (noStar e && es.all noStar) = true from h)
    exact a_cons (hf e) (args_ok hf h2) (star_cons h1)
theorem andL_ok {f : Expr → EE} (hf : ∀ e, PE X e (TI (FX X C We) (f e))) : ∀ {es : List Expr}, PE X (.BoolOp .And es pos) (TI (FX X C We) (andL f es))
  | [] => stuckE fun _ _ => rfl
  | [e] => c_and1 (hf e)
  | e :: b :: r => c_and (hf e) (andL_ok hf)
theorem orL_ok {f : Expr → EE} (hf : ∀ e, PE X e (TI (FX X C We) (f e))) : ∀ {es : List Expr}, PE X (.BoolOp .Or es pos) (TI (FX X C We) (orL f es))
  | [] => stuckE fun _ _ => rfl
  | [e] => c_or1 (hf e)
  | e :: b :: r => c_or (hf e) (orL_ok hf)
theorem andT_ok {f : Expr → ET} (hf : ∀ e, PT X e (TIT (FX X C We) (f e))) : ∀ {es : List Expr}, PW X (.BoolOp .And es pos) (TIT (FX X C We) (andT f es))
  | [] => ⟨fun whole pins s σ H Q I ⟨ρ, e, h, _, _, p⟩ => p.elim⟩
  | [e] => t_and1 (hf e)
  | e :: b :: r => t_and (hf e) (andT_ok hf)
theorem orT_ok {f : Expr → ET} (hf : ∀ e, PT X e (TIT (FX X C We) (f e))) : ∀ {es : List Expr}, PW X (.BoolOp .Or es pos) (TIT (FX X C We) (orT f es))
  | [] => ⟨fun whole pins s σ H Q I ⟨ρ, e, h, _, _, p⟩ => p.elim⟩
  | [e] => t_or1 (hf e)
  | e :: b :: r => t_or (hf e) (orT_ok hf)
/-! ### comparisons -/
def cmpR (X : Cx) : CmpOp → R2
  | .Lt => rI0 fun i j => .bl (decide (i < j))
  | .LtE => rI0 fun i j => .bl (decide (i ≤ j))
  | .Gt => rI0 fun i j => .bl (decide (j < i))
  | .GtE => rI0 fun i j => .bl (decide (j ≤ i))
  | .Eq => fun x y H Q => (rEq x y H Q ∨ rEqD X.K x y H Q) ∨ rEqE X.K x y H Q
  | .NotEq => fun x y H Q => rNe x y H Q ∨ rNeD X.K x y H Q
  | .Is => fun x y H Q => (y = .non ∧ Q (.bl (decide (x = .non))) H) ∨ rIsB x y H Q
  | .IsNot => fun x y H Q => (y = .non ∧ Q (.bl (!decide (x = .non))) H) ∨ rNotB x y H Q
  | .In => fun x y H Q => (rIn X.K false x y H Q ∨ rInD X.K x y H Q) ∨ ∃ a o, y = .ref a ∧ DGet H a x o ∧ Q (.bl o.isSome) H
  | .NotIn => fun x y H Q => (rIn X.K true x y H Q ∨ rNotInD X.K x y H Q) ∨ ∃ a o, y = .ref a ∧ DGet H a x o ∧ Q (.bl (!o.isSome)) H
theorem cmp_op (hu : X.A.units + 70 < cLine) : ∀ op : CmpOp, OpR X (compareOp op) (cmpR X op)
  | .Lt => op_lt
  | .LtE => op_le
  | .Gt => op_gt
  | .GtE => op_ge
  | .Eq => OpR.or (OpR.or op_eq (op_eqD (by omega))) (op_eqE (by omega))
  | .NotEq => OpR.or op_ne (op_neD (by omega))
  | .Is => OpR.or op_isN op_isBl
  | .IsNot => OpR.or op_notN op_notBl
  | .In => OpR.or (OpR.or op_in_seq (op_inD (by omega))) (op_inDict (by omega))
  | .NotIn => OpR.or (OpR.or op_notIn_seq (op_notInD (by omega))) (op_ninDict (by omega))
theorem cmp_sv : ∀ op : CmpOp, Op2 (FX X C We) (cmpK op) (cmpR X op)
  | .Lt => s_cInt _
  | .LtE => s_cInt _
  | .Gt => s_cInt _
  | .GtE => s_cInt _
  | .Eq => s_eq
  | .NotEq => s_ne
  | .Is => s_is
  | .IsNot => s_isnot
  | .In => s_in
  | .NotIn => s_notin
theorem chK_eq {op : CmpOp} {k : W → W → IH → Rs W} (h : chK op = some k) : k = cmpK op := by
  cases op <;> simp only [chK] at h <;> cases h <;> rfl
def opR2 (X : Cx) : Operator → R2
  | .Add => fun x y H Q => rI0 (fun i j => .int (i + j)) x y H Q ∨ (∃ i j, x = .str i ∧ y = .str j ∧ i.length + j.length ≤ sizeLine ∧ Q (.str (i ++ j)) H) ∨ rCatA X.K x y H Q ∨ rCat x y H Q
  | .Sub => rI0 fun i j => .int (i - j)
  | .Mult => fun x y H Q => rI CMul (fun i j => .int (i * j)) x y H Q ∨ rRepT X.K x y H Q ∨ rRep x y H Q
  | .Mod => rI (fun _ j => 0 < j) fun i j => .int (i % j)
  | .FloorDiv => rI CDiv fun i j => .int (i / j)
  | .Pow => rI CPow fun i j => .int (i ^ j.toNat)
  | _ => fun _ _ _ _ => False
theorem op_ok {op : Operator} {k : W → W → IH → Rs W} (h : opK op = some k) : OpR X (binaryOp op) (opR2 X op) ∧ Op2 (FX X C We) k (opR2 X op) := by
  cases op <;> simp only [opK] at h <;> cases h
  · exact ⟨OpR.or op_add (OpR.or op_add_str (OpR.or op_catA op_cat)), s_add⟩
  · exact ⟨op_sub, s_sub⟩
  · exact ⟨OpR.or op_mul (OpR.or op_repT op_rep), s_mul⟩
  · exact ⟨op_mod, s_mod⟩
  · exact ⟨op_pow, s_pow⟩
  · exact ⟨op_fdiv, s_div⟩
end
end Fw

set_option Elab.async false
set_option linter.all false
set_option maxRecDepth 100000
set_option maxHeartbeats 1000000
/-! Fw, part M: steps. -/
namespace Fw
open PySem PySem.Spec PyProof.Rows L2
def RSound (cl : Nat → Value) (C : Nat → Addr) (Φ : FT) (r : RR) : Prop := ∀ (S : SC) (X : Cx) (We : Nat → L2.St → Hp → Prop), OkE cl C Φ S X We → (∀ e, PE X e (TI (FX X C We) (r.e S e))) ∧ ∀ e, PT X e (TIT (FX X C We) (r.t S e))
section
variable {cl : Nat → Value} {C : Nat → Addr} {Φ : FT} {S : SC} {X : Cx} {We : Nat → L2.St → Hp → Prop} {x : Str} {pos p : Pos} {a b c e : Expr} {es : List Expr} {r : RR} {fa fb fc : EE} {g : EA}
/-! ### written dicts -/
theorem glob_ref {d : Addr} (G : Gl X x) (hm : X.mg x = some (.ref d)) (hd : (x == ("__debug__" : Str)) = false) : PE X (.Name x p) (tC (.ref d)) := ⟨fun pins s σ H Q I h => ld_glob I G hm ⟨.ref d, H, I, rfl, h⟩ hd⟩
theorem hid_d (h : hid x = false) : (x == ("__debug__" : Str)) = false := by unfold hid at h; rw [Bool.or_eq_false_iff] at h; exact h.1
theorem hid_c (h : hid x = false) : (x == ("__classdict__" : Str)) = false := by unfold hid at h; rw [Bool.or_eq_false_iff] at h; exact h.2
theorem kd_of {kvs : List (Str × Int)} (O : OkE cl C Φ S X We) (hk : kdOf S b = some kvs) : ∃ d es n, KDict X.K X.w d es n ∧ PE X b (tC (.ref d)) ∧ ∀ z, ∃ r, PySem.W.nsIn X.K d z = some r ∧ (match kvs.lookup z with
    | some i => ∃ u, r = some u ∧ RelV (.int i) u
    | none => r = none) := by
  unfold kdOf at hk
  split at hk
  · rename_i x p
    split at hk
    · cases hk
    · rename_i hh
      split at hk
      · rename_i kk hg
        cases hk
        obtain ⟨G, d, es, n, D, hm, hz⟩ := O.gl hg
        exact ⟨d, es, n, D, glob_ref G hm (hid_d hh), hz⟩
      · cases hk
  · cases hk
theorem inKd_imp {kvs : List (Str × Int)} {d : Addr} (hz : ∀ z, ∃ r, PySem.W.nsIn X.K d z = some r ∧ (match kvs.lookup z with
    | some i => ∃ u, r = some u ∧ RelV (.int i) u
    | none => r = none)) (σ : L2.St) (H : Hp) (Q : VK) (h : TI (FX X C We) (e1 (oInKd kvs) fa) σ H Q) :
    tOp (fun x y H Q => ∃ (z : Str) (r : Option Value), x = .str z ∧ y = .ref d ∧ PySem.W.nsIn X.K d z = some r ∧ Q (.bl r.isSome) H) (TI (FX X C We) fa) (tC (.ref d)) σ H Q := by
  obtain ⟨ρ, en, h, rh, re, p⟩ := h
  refine TG_.bind (k := oInKd kvs) rh re p fun ρ1 x h1 v H1 rh1 re1 x1 rv p1 => ?_
  cases rv <;> first | exact False.elim p1 | skip
  case str z =>
    obtain ⟨r, e, q⟩ := hz z
    have p2 : Post (FX X C We) (RV X.K) σ ρ1 h1.n H1 (.ok (.bl (kvs.lookup z).isSome) h1) Q := p1
    have er : (kvs.lookup z).isSome = r.isSome := by
      cases l : kvs.lookup z with
      | none => rw [l] at q; rw [q]; rfl
      | some i => rw [l] at q; obtain ⟨u, q, _⟩ := q; rw [q]; rfl
    rw [er] at p2
    exact ⟨z, r, rfl, rfl, e, post_same rh1 p2 .bl⟩
theorem c_inKd {kvs : List (Str × Int)} (O : OkE cl C Φ S X We) (hk : kdOf S b = some kvs) (hb : noSet b = true) (ha : PE X a (TI (FX X C We) fa)) (t_test : ∀ {e : Expr} {fa : EE} {t0 : L2.TE}, PT X e (tTest t0) → (∀ σ H Q, TI (FX X C We) fa σ H Q → t0 σ H Q) → PT X e (TIT (FX X C We) (tBol fa))) :
    PE X (.Compare a [.In] [b] pos) (TI (FX X C We) (e1 (oInKd kvs) fa)) ∧ PT X (.Compare a [.In] [b] pos) (TIT (FX X C We) (tBol (e1 (oInKd kvs) fa))) := by
  obtain ⟨d, es, n, D, hp, hz⟩ := kd_of O hk
  exact ⟨PEmono (pe_cmpR (op_in_kd D) ha hp (set_ok_ hb)) (inKd_imp hz), t_test (pt_cmpR (op_in_kd D) ha hp (set_ok_ hb)) (inKd_imp hz)⟩
theorem ix_kd {d : Addr} {es : Array DictEntry} {n : Nat} (D : KDict X.K X.w d es n) : IxR X (fun x y H Q => ∃ (z : Str) (u0 : Value) (v0 : V), x = .ref d ∧ y = .str z ∧ PySem.W.nsIn X.K d z = some (some u0) ∧ RelV v0 u0 ∧ Q v0 H) := by
  intro value slice pins s σ H x y v u Q I rx ry h hs
  obtain ⟨z, u0, v0, rfl, rfl, e, r, q⟩ := h
  obtain rfl : v = Value.ref d := rx
  exact PyProof.Rows.tail_any (kd_type D I) PySem.F.slot_dict_getitem.lookup (op_item_kd D pins s σ H (.ref d) (.str z) (.ref d) u Q I rfl ry ⟨z, u0, v0, rfl, rfl, e, r, q⟩) hs
theorem c_ixKd {kvs : List (Str × Int)} (O : OkE cl C Φ S X We) (hk : kdOf S a = some kvs) (hb : noSlice b = true) (ha : PE X b (TI (FX X C We) fb)) : PE X (.Subscript a b pos) (TI (FX X C We) (e1 (oIxKd kvs) fb)) := by
  obtain ⟨d, es, n, D, hp, hz⟩ := kd_of O hk
  refine PEmono (pe_ix (ix_kd D) hp ha (ix_plain hb)) fun σ H Q ⟨ρ, en, h, rh, re, p⟩ => ?_
  refine TG_.bind (k := oIxKd kvs) rh re p fun ρ1 x h1 v H1 rh1 re1 x1 rv p1 => ?_
  cases rv <;> first | exact False.elim p1 | skip
  case str z =>
    obtain ⟨r, e, q⟩ := hz z
    have p2 : Post (FX X C We) (RV X.K) σ ρ1 h1.n H1 (match kvs.lookup z with
      | some i => .ok (.int i) h1
      | none => .stuck) Q := p1
    cases l : kvs.lookup z with
    | none => rw [l] at p2; exact p2.elim
    | some i =>
      rw [l] at p2 q
      obtain ⟨u, q, ru⟩ := q
      subst q
      exact ⟨z, u, .int i, rfl, rfl, e, ru, post_same rh1 p2 .int⟩
/-! ### tests -/
theorem t_test {t0 : L2.TE} (h : PT X e (tTest t0)) (k : ∀ σ H Q, TI (FX X C We) fa σ H Q → t0 σ H Q) : PT X e (TIT (FX X C We) (tBol fa)) :=
  PTmono h fun σ H Q ⟨ρ, en, h, rh, re, p⟩ => k σ H _ (TG_.bind (RA := RV X.K) (k := bolW) rh re p fun ρ1 x h1 v H1 rh1 re1 x1 rv p1 => by
    cases rv <;> first | exact False.elim p1 | skip
    exact ⟨_, rfl, post_same rh1 p1 rfl⟩)
theorem cmpC_ok (O : OkE cl C Φ S X We) (hr : RSound cl C Φ r) {ops : List CmpOp} {bs : List Expr} :
    PE X (.Compare a ops bs pos) (TI (FX X C We) (cmpC r S a ops bs)) ∧ PT X (.Compare a ops bs pos) (TIT (FX X C We) (tBol (cmpC r S a ops bs))) := by
  have bad : PE X (.Compare a ops bs pos) (TI (FX X C We) eBad) ∧ PT X (.Compare a ops bs pos) (TIT (FX X C We) (tBol eBad)) := ⟨stuckE fun _ _ => rfl, stuckT fun _ _ => rfl⟩
  have H := (hr S X We O).1
  unfold cmpC
  split
  · rename_i op b
    split
    · exact bad
    · rename_i hs
      split
      · rename_i kvs hk
        split
        · exact c_inKd O hk hs (H _) t_test
        · exact bad
      · exact ⟨c_e2 (pe_cmpR (cmp_op O.units op) (H _) (H _) (set_ok_ hs)) (cmp_sv op), t_cmp (cmp_op O.units op) (cmp_sv op) (set_ok_ hs) (H _) (H _)⟩
  · rename_i op op' b c
    split
    · exact bad
    · rename_i hs
      split
      · rename_i k k' h1 h2
        rw [chK_eq h1, chK_eq h2]
        exact ⟨PEmono (pe_chain (cmp_op O.units op) (cmp_op O.units op') (H _) (H _) (H _) (last_ok hs)) fun _ _ _ => chain_imp (cmp_sv op) (cmp_sv op'), t_test (pt_chain (cmp_op O.units op) (cmp_op O.units op') (H _) (H _) (H _) (last_ok hs)) fun _ _ _ => chain_imp (cmp_sv op) (cmp_sv op')⟩
      · exact bad
  · exact bad
/-! ### calls -/
theorem c_call {id : Nat} (O : OkE cl C Φ S X We) (hg : glo S x = some (.fn id)) (hh : hid x = false) (ha : PA X es (TIA (FX X C We) g)) (hn : es.all noStar = true) (g0 : es = [] → g = aNil) : PE X (.Call (.Name x p) es [] pos) (TI (FX X C We) (eCall Φ id g)) := by
  obtain ⟨G, k, f, fd, ps, F, ar, hr, hm, hk, hb⟩ := O.gl hg
  have hd : (x == ("__debug__" : Str)) = false := by unfold hid at hh; rw [Bool.or_eq_false_iff] at hh; exact hh.1
  have imp : ∀ σ H Q, TI (FX X C We) (eCall Φ id g) σ H Q → tCallG (spF X.K C cl ps.length (Φ id)) (EXK cl We) (TIA (FX X C We) g) σ H Q := fun σ H Q ⟨ρ, en, h, rh, re, p⟩ =>
    TG_.bind (RA := RVs X.K) (k := fun ws h => Φ id ws h) rh re p fun ρ1 ws h1 vs H1 rh1 re1 x1 rv p1 => by
      have hl : ws.length = ps.length := Classical.byContradiction fun ne => by rw [ar ws h1 ne] at p1; exact p1.elim
      refine ⟨rv.length.symm.trans hl, ρ1, ws, h1, rh1, rv, ?_⟩
      cases q : Φ id ws h1 with
      | stuck => rw [q] at p1; exact p1.elim
      | ok w h2 => rw [q] at p1; exact p1
      | exc c h2 => rw [q] at p1; exact fun ρ' H' x r => ⟨c, rfl, rfl, p1 ρ' H' x r⟩
  have h0 : es = [] → ∀ σ H Q, TI (FX X C We) (eCall Φ id g) σ H Q → tCallG (spF X.K C cl ps.length (Φ id)) (EXK cl We) tNil σ H Q := fun z σ H Q h => by
    obtain ⟨ρ, en, h1, rh1, re, p1⟩ := h
    rw [g0 z] at p1
    have p1 : Post (FX X C We) (RV X.K) σ ρ h1.n H (Φ id [] h1) Q := p1
    have hl : ([] : List W).length = ps.length := Classical.byContradiction fun ne => by rw [ar [] h1 ne] at p1; exact p1.elim
    refine ⟨hl, ρ, [], h1, rh1, .nil, ?_⟩
    cases q : Φ id [] h1 with
    | stuck => rw [q] at p1; exact p1.elim
    | ok w h2 => rw [q] at p1; exact p1
    | exc c h2 => rw [q] at p1; exact fun ρ' H' x r => ⟨c, rfl, rfl, p1 ρ' H' x r⟩
  cases es with
  | nil => exact ⟨fun pins s σ H Q I h => (pe_callG0 (pos := pos) (p := p) F O.guards hr G hm hk hb (passAt O.tk) hd).run pins s σ H Q I (h0 rfl σ H Q h)⟩
  | cons e es =>
    obtain ⟨n1, n2⟩ := Bool.and_eq_true_iff.mp (show (noStar e && es.all noStar) = true from hn)
    exact PEmono (pe_callG F O.guards hr G hm hk hb (passAt O.tk) ha hd (star_cons n1) (star_back n2)) imp
/-! ### calls of built-ins -/
theorem isBt_ok (O : OkE cl C Φ S X We) (h : isBt S x = true) : Gl X x ∧ X.mg x = none := by
  unfold isBt at h
  split at h
  · rename_i q; exact O.gl q
  · cases h
theorem ty_name {u : Ty} (h : tyOf_ x = some u) (hg : Gl X x) (hm : X.mg x = none) : isOwn u = false ∧ PE X (.Name x p) (tC (.ty (tyN u))) := by
  unfold tyOf_ at h
  repeat' split at h
  all_goals first
    | (rename_i q; subst q; cases h; exact ⟨rfl, pe_bltn hg hm rfl rfl⟩)
    | cases h
theorem post_err {c : Nat} {σ : L2.St} {ρ : Nat → Addr} {h : IH} {H : Hp} {Q : VK} (rh : RH X.K C ρ h H) (p : Post (FX X C We) (RV X.K) σ ρ h.n H (.ok (.loc h.n) (h.new (.err c))) Q) : ∀ a, H a = none → Q (.ref a) (upd H a (ExO (.ref (C c)) a)) := fun a ha => by
  have x : Ext ρ (rhoN ρ h.n a) h.n (h.new (.err c)).n H (upd H a (ExO (.ref (C c)) a)) := ext_new ha
  have e : V.ref a = V.ref (rhoN ρ h.n a h.n) := by rw [rhoN_self]
  refine p (rhoN ρ h.n a) (.ref a) _ x (rh.new ha rfl ⟨_, upd_same, fun hp ⟨oe, vs, q1, q2, q3, _⟩ => ⟨oe, q1, q2, vs, q3⟩⟩) ?_
  rw [e]
  exact .loc (Nat.lt_succ_self _)
theorem c_err {c : Nat} {ds : List (Nat × Bool)} {fa : EE} {a : Expr} (O : OkE cl C Φ S X We) (hh : hid x = false) (hg : glo S x = some (.exc c ds)) (ha : PE X a (TI (FX X C We) fa)) (hn : noStar a = true) : PE X (.Call (.Name x p) [a] [] pos) (TI (FX X C We) (eErr c fa)) := by
  obtain ⟨G, Ca, B, newId, initId, bmB, ⟨ec, _⟩, F, _, q1, q2, q3, _⟩ := O.gl hg
  subst ec
  have hd : (x == ("__debug__" : Str)) = false := by unfold hid at hh; rw [Bool.or_eq_false_iff] at hh; exact hh.1
  exact PEmono (pe_exc1 F q1 q2 q3 G ha (star_cons hn) hd) fun σ H Q ⟨ρ, e, h, rh, re, p⟩ =>
    TG_.bind (RB := RV X.K) (k := fun _ h => .ok (W.loc h.n) (h.new (.err c))) rh re p fun ρ1 x1 h1 v H1 rh1 re1 xx rv p1 => post_err rh1 p1
theorem c_isE {ds : List (Nat × Bool)} {fa : EE} {a clx : Expr} {u : V} {cv : Value} (hD : ∀ k b, ds.lookup k = some b → ExIs X.K cl C k b cv) (hu : ∀ y, RelV u y → y = cv) (hg : Gl X "isinstance") (hm : X.mg "isinstance" = none) (ha : PE X a (TI (FX X C We) fa)) (hc : PE X clx (tC u)) (h1 : noStar a = true) (h2 : noStar clx = true) :
    PE X (.Call (.Name "isinstance" p) [a, clx] [] pos) (TI (FX X C We) (e1 (oIsE ds) fa)) :=
  PEmono (pe_callB call_isX hg hm (by rfl) (pa_cons ha (pa_cons hc pa_nil (star_cons h2)) (star_cons h1)) (by decide) (by decide) (star_cons h1) (star_back (by simp [h2]))) fun σ H Q ⟨ρ, e, h, rh, re, p⟩ =>
    TG_.bind (k := oIsE ds) rh re p fun ρ1 x h1 v H1 rh1 re1 x1 rv p1 => by
      cases rv <;> first | exact False.elim p1 | skip
      case loc i hi =>
        have p2 : Post (FX X C We) (RV X.K) σ ρ1 h1.n H1 (match h1.get i with
          | some (.err c) => (match ds.lookup c with
            | some b => .ok (.bl b) h1
            | none => .stuck)
          | _ => .stuck) Q := p1
        cases g : h1.get i with
        | none => rw [g] at p2; exact p2.elim
        | some ce =>
          rw [g] at p2
          cases ce with
          | err c =>
            dsimp only at p2
            cases l : ds.lookup c with
            | none => rw [l] at p2; exact p2.elim
            | some b =>
              rw [l] at p2
              obtain ⟨φ, q1, q2⟩ := rh1.cell i _ g
              have E := hD c b l
              exact ⟨ρ1 i, C c, φ, u, cv, b, rfl, q1, q2, E.cls, hu, E.kit, post_same rh1 p2 .bl⟩
          | lst _ => exact p2.elim
          | dk _ => exact p2.elim
          | dz _ => exact p2.elim
          | ins _ _ => exact p2.elim
theorem setArg_ok {f : Str} {a b : Expr} {rest : List Expr} (h : setArg S f a rest = some b) : rest = [] ∧ (∃ p q, a = .Call (.Name "set" p) [b] [] q) ∧ f = "sorted" ∧ (isBt S "set" && noStar b) = true := by
  unfold setArg at h
  split at h
  · split at h
    · split at h
      · rename_i q
        obtain ⟨q1, q2⟩ := q
        subst q1; subst q2
        split at h
        · rename_i z
          cases h
          exact ⟨rfl, ⟨_, _, rfl⟩, rfl, z⟩
        · cases h
      · cases h
    · cases h
  · cases h
theorem callC_ok (O : OkE cl C Φ S X We) (hr : RSound cl C Φ r) {f : Str} {as : List Expr} : PE X (.Call (.Name f p) as [] pos) (TI (FX X C We) (callC Φ r S f as)) := by
  have H := (hr S X We O).1
  have bad : PE X (.Call (.Name f p) as [] pos) (TI (FX X C We) eBad) := stuckE fun _ _ => rfl
  unfold callC
  split
  · exact bad
  · rename_i hh
    simp only [Bool.or_eq_false_iff, Bool.not_eq_false'] at hh
    obtain ⟨hh, hn⟩ := hh
    have A := args_ok (X := X) (C := C) (We := We) H hn
    split
    · rename_i id hg
      exact c_call O hg hh A hn fun z => by subst z; rfl
    · rename_i hg
      obtain ⟨G, hm⟩ := O.gl hg
      split
      · exact bad
      · rename_i a rest
        have n1 : noStar a = true := (Bool.and_eq_true_iff.mp (show (noStar a && rest.all noStar) = true from hn)).1
        split
        · rename_i k hk
          split
          · rename_i b hb
            obtain ⟨e1, ⟨p2, q2, e2⟩, e3, z⟩ := setArg_ok hb
            subst e1; subst e2; subst e3
            obtain ⟨z1, z2⟩ := Bool.and_eq_true_iff.mp z
            obtain ⟨G2, m2⟩ := isBt_ok O z1
            exact c_sortSet O.calm G hm G2 m2 (H _) z2
          · exact c_bltB O.calm hk G hm A hn
        · split
          · rename_i q
            subst q
            split
            · exact c_repr O.guards (by have := O.units; omega) G hm (H _) n1
            · exact bad
          · split
            · rename_i q
              subst q
              split
              · rename_i c pc d pd kk tp
                split
                · rename_i h1 h2 h3 h4 h5 h6
                  obtain ⟨Gc, mc⟩ := O.gl h2
                  obtain ⟨Gd, md⟩ := O.gl h5
                  obtain ⟨o, pn⟩ := ty_name (p := pc) h3 Gc mc
                  obtain ⟨o2, pn2⟩ := ty_name (p := pd) h6 Gd md
                  exact c_isi2 o o2 G hm (H _) pn pn2 n1 rfl rfl
                · exact bad
              · rename_i c pc
                split
                · rename_i h1 h2 h3
                  obtain ⟨Gc, mc⟩ := O.gl h2
                  obtain ⟨o, pn⟩ := ty_name (p := pc) h3 Gc mc
                  exact c_isi o G hm (H _) pn n1 rfl
                · rename_i h1 h2
                  obtain ⟨Gc, Ca, B, newId, initId, bmB, ⟨ec, hD⟩, F, _, q1, q2, q3, _⟩ := O.gl h2
                  exact c_isE (u := .ref Ca) hD (fun y hy => hy) G hm (H _) (pe_glob Gc q2 rfl (hid_d h1)) n1 rfl
                · rename_i h1 h2
                  obtain ⟨Gc, ex, mc, hD⟩ := O.gl h2
                  subst ex
                  exact c_isE (u := .ty "ValueError") hD (fun y hy => hy) G hm (H _) (pe_bltn Gc mc rfl rfl) n1 rfl
                · exact bad
              · exact bad
            · split
              · rename_i k hk
                split
                · rename_i g pg b pb
                  split
                  · rename_i q
                    obtain ⟨q1, q2⟩ := q
                    subst q1; subst q2
                    split
                    · rename_i z
                      obtain ⟨z1, z2⟩ := Bool.and_eq_true_iff.mp z
                      obtain ⟨G2, m2⟩ := isBt_ok O z1
                      exact c_lrg O.calm G hm G2 m2 (H _) z2
                    · exact bad
                  · exact c_bltT O.calm hk G hm A hn
                · rename_i g pg b c pb
                  split
                  · rename_i q
                    obtain ⟨q1, q2⟩ := q
                    subst q1; subst q2
                    split
                    · rename_i z
                      obtain ⟨z1, z3⟩ := Bool.and_eq_true_iff.mp z
                      obtain ⟨z1, z2⟩ := Bool.and_eq_true_iff.mp z1
                      obtain ⟨G2, m2⟩ := isBt_ok O z1
                      exact c_lrg2 O.calm G hm G2 m2 (H _) (H _) z2 z3
                    · exact bad
                  · exact c_bltT O.calm hk G hm A hn
                · exact c_bltT O.calm hk G hm A hn
              · exact bad
    · rename_i c ds hg
      split
      · rename_i a
        exact c_err O hh hg (H _) (by simpa using hn)
      · exact bad
    · exact bad
theorem methC_ok (O : OkE cl C Φ S X We) (hr : RSound cl C Φ r) {o : Expr} {m : Str} {as : List Expr} {apos : Pos} : PE X (.Call (.Attribute o m apos) as [] pos) (TI (FX X C We) (methC r S o m as apos pos)) := by
  have H := (hr S X We O).1
  have bad : PE X (.Call (.Attribute o m apos) as [] pos) (TI (FX X C We) eBad) := stuckE fun _ _ => rfl
  unfold methC
  split
  · exact bad
  · rename_i hh
    simp only [Bool.and_eq_true] at hh
    obtain ⟨⟨⟨h1, h2⟩, h3⟩, h4⟩ := hh
    split
    · split
      · rename_i q; subst q; exact c_pop0 (H _) h2 h3
      · exact bad
    · rename_i a rest
      split
      · rename_i k hk
        exact c_lstM O.calm hk (H _) (args_ok H h1) h1 h2 h3 h4
      · split
        · rename_i q
          subst q
          split
          · rename_i b
            simp only [List.all_cons, List.all_nil, Bool.and_eq_true] at h1
            exact c_get2 (by have := O.units; omega) (H _) (H _) (H _) h1.1 h1.2.1 h2 h3
          · exact bad
        · exact bad
/-! ### comprehensions -/
theorem tgW_ok {vs : List Nat} (O : OkE cl C Φ S X We) : ∀ (n : Nat) (e : Expr), PG X e (TIGw (FX X C We) vs (tgW S vs n e))
  | 0, e => ⟨fun pins s σ H v u Q I _ ⟨ρ, en, h, w, _, _, _, p⟩ => p.elim⟩
  | n + 1, e => by
    have bad : PG X e (TIGw (FX X C We) vs gBad) := ⟨fun pins s σ H v u Q I _ ⟨ρ, en, h, w, _, _, _, p⟩ => p.elim⟩
    unfold tgW
    split
    · rename_i x px
      split
      · rename_i i hi
        split
        · rename_i hc
          obtain ⟨h1, h2, h3⟩ := O.loc hi
          exact gw_name (by simpa using hc) (pg_name O.nd h1 h2 h3)
        · exact bad
      · exact bad
    · rename_i es kk px
      split
      · rename_i hn
        have go : ∀ es : List Expr, es.all noStar = true → PGs X es (TIGsw (FX X C We) vs (es.map (tgW S vs n))) := by
          intro es
          induction es with
          | nil => intro _; exact gsw_nil
          | cons e es ih =>
            intro h
            obtain ⟨h1, h2⟩ := Bool.and_eq_true_iff.mp (show (noStar e && es.all noStar) = true from h)
            exact gsw_cons (tgW_ok O n e) (ih h2) (by rw [asg_cons h1]; rfl)
        exact gw_tup O.calm (go es hn) (by rw [asg_len hn, List.length_map]) (asg_plain hn)
      · exact bad
    · exact bad
end
end Fw

set_option Elab.async false
set_option linter.all false
set_option maxRecDepth 100000
set_option maxHeartbeats 1000000
/-! Fw, part N: comprehensions; all expressions. -/
namespace Fw
open PySem PySem.Spec PyProof.Rows L2
section
variable {cl : Nat → Value} {C : Nat → Addr} {Φ : FT} {S : SC} {X : Cx} {We : Nat → L2.St → Hp → Prop} {x : Str} {pos p : Pos} {a b c e : Expr} {es : List Expr} {r : RR} {fa fb fc : EE} {g : EA}
theorem iterC_ok (O : OkE cl C Φ S X We) (hr : RSound cl C Φ r) {tg iter : Expr} : PI X tg iter (TII (FX X C We) (iterC r S tg iter)) := by
  have H := (hr S X We O).1
  have bad : ∀ iter, PI X tg iter (TII (FX X C We) iBad) := fun iter => ⟨fun pins s σ H R I ⟨ρ, en, h, _, _, p⟩ => p.elim⟩
  unfold iterC
  split
  · rename_i f pf a ps
    split
    · exact bad _
    · rename_i hh
      simp only [Bool.or_eq_false_iff, Bool.not_eq_false'] at hh
      obtain ⟨hh, n1⟩ := hh
      have A := args_ok (X := X) (C := C) (We := We) H (es := [a]) (by simp [n1])
      split
      · rename_i q
        subst q
        split
        · rename_i z
          obtain ⟨G, m⟩ := isBt_ok O z
          exact i_rng1 G m A (star_cons n1)
        · exact bad _
      · split
        · rename_i q
          subst q
          split
          · rename_i z
            obtain ⟨z1, z2⟩ := Bool.and_eq_true_iff.mp z
            obtain ⟨G, m⟩ := isBt_ok O z1
            cases tg <;> first | cases z2 | skip
            exact i_enu G m A (star_cons n1)
          · exact bad _
        · exact i_any (H _)
  · rename_i f pf a b ps
    split
    · exact bad _
    · rename_i hh
      simp only [Bool.or_eq_false_iff, Bool.not_eq_false'] at hh
      obtain ⟨⟨hh, n1⟩, n2⟩ := hh
      have A := args_ok (X := X) (C := C) (We := We) H (es := [a, b]) (by simp [n1, n2])
      have s2 : starEach [a, b] X.env = (false, eval a X.env) :: starEach [b] X.env := star_cons n1
      have s1 : starEach [b] X.env = [(false, eval b X.env)] := star_cons n2
      split
      · rename_i q
        subst q
        split
        · rename_i z
          obtain ⟨G, m⟩ := isBt_ok O z
          exact i_rng2 (pi_range2 G m A (by rw [s2, s1]) s1)
        · exact bad _
      · split
        · rename_i q
          subst q
          split
          · rename_i z
            obtain ⟨z1, z2⟩ := Bool.and_eq_true_iff.mp z
            obtain ⟨G, m⟩ := isBt_ok O z1
            cases tg <;> first | cases z2 | skip
            exact i_zip (RZ.pi_zipA G m A s2 (by rw [s1]; rfl))
          · exact bad _
        · exact i_any (H _)
  · rename_i f pf a b kw k1 p1 kp ps
    split
    · exact bad _
    · rename_i hh
      simp only [Bool.or_eq_false_iff, Bool.not_eq_false'] at hh
      obtain ⟨⟨hh, n1⟩, n2⟩ := hh
      have A := args_ok (X := X) (C := C) (We := We) H (es := [a, b]) (by simp [n1, n2])
      have s2 : starEach [a, b] X.env = (false, eval a X.env) :: starEach [b] X.env := star_cons n1
      have s1 : starEach [b] X.env = [(false, eval b X.env)] := star_cons n2
      split
      · rename_i q
        obtain ⟨q, q'⟩ := q
        subst q; subst q'
        split
        · rename_i z
          obtain ⟨z1, z2⟩ := Bool.and_eq_true_iff.mp z
          obtain ⟨G, m⟩ := isBt_ok O z1
          cases tg <;> first | cases z2 | skip
          exact i_zip (pi_zipAK G m A s2 (by rw [s2, s1]; rfl))
        · exact bad _
      · exact bad _
  · exact i_any (H _)
theorem PTsmono {ifs : List Expr} {t t' : TT} (h : PTs X ifs t) (k : ∀ σ H Q, t' σ H Q → t σ H Q) : PTs X ifs t' := ⟨fun pins s σ H Q I q => h.run pins s σ H Q I (k σ H Q q)⟩
theorem ifsC_ok (O : OkE cl C Φ S X We) (hr : RSound cl C Φ r) {ifs : List Expr} : PTs X ifs (TIT (FX X C We) (ifsC r S ifs)) := by
  unfold ifsC
  split
  · exact PTsmono pts_nil fun σ H Q ⟨ρ, en, h, rh, re, p⟩ => post_same rh p rfl
  · exact pts_one ((hr S X We O).2 _)
  · exact ⟨fun pins s σ H Q I ⟨ρ, en, h, _, _, p⟩ => p.elim⟩
/-- what a comprehension asks, all in one -/
theorem compC_ok (O : OkE cl C Φ S X We) (hr : RSound cl C Φ r) {elt : Expr} {gens : List Comprehension} {scope : Scope} : PE X (.ListComp elt gens scope pos) (TI (FX X C We) (compC r S elt gens scope)) := by
  unfold compC
  split
  · rename_i tg iter ifs
    split
    · rename_i hb
      obtain ⟨h1, h2⟩ := Bool.and_eq_true_iff.mp hb
      have ok : BlkOk X.N X.env.scope scope (ownOf S.N scope.names) := by rw [O.eN, O.sc]; exact blkOk_by h1
      exact PEmono (pe_lc O.calm O.nd (iterC_ok O hr) ok (fun s H Ca cs fp => tgW_ok (O.blk s H scope cs Ca fp) 9 tg) (fun s H Ca cs fp => ifsC_ok (O.blk s H scope cs Ca fp) hr) (fun s H Ca cs fp => (hr _ _ _ (O.blk s H scope cs Ca fp)).1 elt) (fold_ok h2)) fun σ H Q => lc_imp
    · exact stuckE fun _ _ => rfl
  · exact stuckE fun _ _ => rfl
theorem boundC_ok (O : OkE cl C Φ S X We) (hr : RSound cl C Φ r) : ∀ o : Option Expr, PO X o (TIO (FX X C We) (boundC r S o))
  | none => o_none
  | some e => o_some ((hr S X We O).1 e)
theorem pairs_ok {f : Expr → EE} (hf : ∀ e, PE X e (TI (FX X C We) (f e))) : ∀ {ks : List (Option Expr)} {vs : List Expr}, ks.all (·.isSome) = true → ks.length = vs.length →
    PPs X pos ks vs ((pairs f ks vs).map fun q => (TI (FX X C We) q.1, TI (FX X C We) q.2)) ∧ (pairs f ks vs).length = ks.length
  | [], [], _, _ => ⟨pps_nil, rfl⟩
  | [], _ :: _, _, h => by cases h
  | _ :: _, [], _, h => by cases h
  | none :: _, _ :: _, h, _ => by cases h
  | some k :: ks, v :: vs, h, hl => by
    obtain ⟨h1, h2⟩ := pairs_ok hf (ks := ks) (vs := vs) (by simpa using h) (by simpa using hl)
    exact ⟨pps_cons (hf k) (hf v) h1, by simp [pairs, h2]⟩
theorem stepE_ok (O : OkE cl C Φ S X We) (hr : RSound cl C Φ r) (e : Expr) : PE X e (TI (FX X C We) (stepE Φ r S e)) := by
  have H := (hr S X We O).1
  have bad : ∀ e, PE X e (TI (FX X C We) eBad) := fun e => stuckE fun _ _ => rfl
  unfold stepE
  split
  · rename_i x px
    split
    · exact bad _
    · rename_i hh
      split
      · rename_i i hi
        obtain ⟨h1, h2⟩ := O.vis hi
        exact c_var (pe_var h1 h2 (hid_d hh) (hid_c hh))
      · split
        · rename_i w hg
          obtain ⟨G, u, v, hm, rv, rw_⟩ := O.gl hg
          exact c_C (v := v) ⟨fun pins s σ H Q I h => ld_glob I G hm ⟨v, H, I, rv, h⟩ (hid_d hh)⟩ rw_
        · exact bad _
  · rename_i cc j pc
    split
    · exact c_C pe_int fun _ _ _ => .int
    · exact c_C pe_bl fun _ _ _ => .bl
    · exact c_C pe_non fun _ _ _ => .non
    · exact c_C pe_str fun _ _ _ => .str
    · exact bad _
  · rename_i a op b pb
    split
    · rename_i k hk
      exact c_e2 (pe_op (op_ok (C := C) (We := We) hk).1 (H _) (H _)) (op_ok hk).2
    · exact bad _
  · rename_i op a pa
    split
    · exact c_not (H _)
    · exact c_e1 (pe_un un_neg (H _)) s_neg
    · exact bad _
  · rename_i op es pe
    split
    · exact andL_ok H
    · exact orL_ok H
  · exact c_if ((hr S X We O).2 _) (H _) (H _)
  · exact (cmpC_ok O hr).1
  · split
    · rename_i hn; exact c_tup (args_ok H hn)
    · exact bad _
  · split
    · rename_i hn; exact c_lst (args_ok H hn)
    · exact bad _
  · rename_i keys values pd
    split
    · rename_i hk
      simp only [Bool.and_eq_true] at hk
      obtain ⟨⟨h1, h2⟩, h3⟩ := hk
      have h2 := Nat.eq_of_beq_eq_true h2
      cases keys with
      | nil =>
        cases values with
        | nil => exact c_dic0
        | cons _ _ => cases h2
      | cons k ks =>
        obtain ⟨q1, q2⟩ := pairs_ok (X := X) (C := C) (We := We) (pos := pd) H h1 h2
        exact c_dic q1 h1 h2 (by simp) (by have := Nat.le_of_ble_eq_true h3; omega) q2
    · exact bad _
  · exact compC_ok O hr
  · rename_i a i ps
    split
    · exact c_rev (H _)
    · exact c_sl (H _) (boundC_ok O hr _) (boundC_ok O hr _)
    · split
      · exact bad _
      · rename_i hs
        split
        · rename_i kvs hk
          exact c_ixKd O hk (by simpa using hs) (H _)
        · exact c_ix (ix_plain (by simpa using hs)) (by have := O.units; omega) (H _) (H _)
  · split
    · split
      · exact callC_ok O hr
      · exact methC_ok O hr
      · exact bad _
    · exact bad _
  · exact bad _
theorem stepT_ok (O : OkE cl C Φ S X We) (hr : RSound cl C Φ r) (e : Expr) : PT X e (TIT (FX X C We) (stepT r S e)) := by
  have H := (hr S X We O).1
  have T := (hr S X We O).2
  have bad : ∀ e, PT X e (TIT (FX X C We) tBad) := fun e => stuckT fun _ _ => rfl
  unfold stepT
  split
  · split
    · exact t_not (T _)
    · exact bad _
  · split
    · exact (andT_ok T).pt
    · exact (orT_ok T).pt
  · exact (cmpC_ok O hr).2
  · exact bad _
  · rename_i h1 h2 h3 h4
    exact t_tru (H _) (plainT_ok (by cases e <;> first | rfl | exact absurd rfl (h1 _ _ _) | exact absurd rfl (h2 _ _ _) | exact absurd rfl (h3 _ _ _ _) | exact absurd rfl (h4 _ _ _ _)))
theorem rk_ok : ∀ n : Nat, RSound cl C Φ (rk Φ n)
  | 0 => fun S X We O => ⟨fun e => stuckE fun _ _ => rfl, fun e => stuckT fun _ _ => rfl⟩
  | n + 1 => fun S X We O => ⟨fun e => stepE_ok O (rk_ok n) e, fun e => stepT_ok O (rk_ok n) e⟩
end
end Fw

set_option Elab.async false
set_option linter.all false
set_option maxRecDepth 100000
set_option maxHeartbeats 1000000
/-! Fw, part O: statements. -/
namespace Fw
open PySem PySem.Spec PyProof.Rows L2
def tgC (r : RR) (S : SC) : Nat → Expr → EG
  | 0, _ => gBad
  | n + 1, e => match e with
    | .Name x _ => (match put S x with
      | some i => gNm i
      | none => gBad)
    | .Tuple es _ _ => (match es.all noStar with
      | true => gTp (es.map (tgC r S n))
      | false => gBad)
    | .Subscript a i _ => (match noSlice i with
      | true => gSb (r.e S a) (r.e S i)
      | false => gBad)
    | _ => gBad
def locI (S : SC) (x : Str) : Option Nat := match S.sc.names.lookup x with
  | some .local => ixOf S.N x
  | _ => none
/-- a list of names is stored with a comprehension's end in one -/
def swB (S : SC) (scope : Scope) (x : Str) (px pe : Pos) : Bool :=
  (if S.sc.kind.isAnnotationScope then .function else S.sc.kind) == .function && S.sc.names.lookup x == some .local && px.line == pe.line && !(scope.names.any fun (n, k) => n == x && (k == .local || k == .cell))
def asgC (r : RR) (S : SC) (tg e : Expr) : SS := match tg, e with
  | .Tuple [.Name x px, .Name y py] k p, .Tuple [a, b] _ _ => (match locI S x, locI S y with
    | some i, some j => (match parOk S.sc [.Name x px, .Name y py] [a, b] && decide (parNames S.sc [.Name x px, .Name y py] = [x, y]) && !Nat.beq i j && noStar a && noStar b with
      | true => sPar2 i j (args (r.e S) [a, b])
      | false => sBad)
    | _, _ => (match Nat.beq (parNames S.sc [.Name x px, .Name y py]).length 2 with
      | true => sBad
      | false => sAsg (r.e S e) (tgC r S 9 tg)))
  | .Tuple [.Name x px, .Name y py, .Name z pz] k p, .Tuple [a, b, c] _ _ => (match locI S x, locI S y, locI S z with
    | some i, some j, some l => (match parOk S.sc [.Name x px, .Name y py, .Name z pz] [a, b, c] && decide (parNames S.sc [.Name x px, .Name y py, .Name z pz] = [x, y, z]) && !Nat.beq i j && !Nat.beq i l && !Nat.beq j l && noStar a && noStar b && noStar c with
      | true => sPar3 i j l (args (r.e S) [a, b, c])
      | false => sBad)
    | _, _, _ => (match Nat.beq (parNames S.sc [.Name x px, .Name y py, .Name z pz]).length 3 with
      | true => sBad
      | false => sAsg (r.e S e) (tgC r S 9 tg)))
  | .Name x px, .ListComp elt gens scope pe => (match swB S scope x px pe with
    | true => (match locI S x with
      | some i => sAsg (compC r S elt gens scope) (gNm i)
      | none => sBad)
    | false => sAsg (r.e S e) (tgC r S 9 tg))
  | _, _ => (match noComp e && (noTL tg || noTup e) && noStar tg with
    | true => sAsg (r.e S e) (tgC r S 9 tg)
    | false => sBad)
def stepS (r : RR) (rec_ : List Stmt → SS) (S : SC) (st : Stmt) : SS := match st with
  | .Expr a _ => (match noComp a with
    | true => sExpr (r.e S a)
    | false => sBad)
  | .Return v _ => (match v with
    | none => sRetN
    | some a => sRet (r.e S a))
  | .Pass _ => sNext
  | .Break _ => sBreak
  | .Continue _ => sCont
  | .If c a b _ => sIf (r.t S c) (rec_ a) (rec_ b)
  | .While c b orelse _ => (match orelse with
    | [] => sWhile (r.t S c) (rec_ b)
    | _ => sBad)
  | .For tg iter b orelse _ => (match orelse with
    | [] => (match noSet iter with
      | true => sFor (iterC r S tg iter) (tgC r S 9 tg) (rec_ b)
      | false => sBad)
    | _ => sBad)
  | .Assign tgs e _ => (match tgs with
    | [tg] => asgC r S tg e
    | _ => sBad)
  | .Raise ex cause _ => (match ex, cause with
    | some (.Call (.Name x _) [.Constant (.str _) _ _] [] _), none => (match hid x, glo S x with
      | false, some (.exc c _) => sRaise c
      | _, _ => sBad)
    | _, _ => sBad)
  | .Try body hds orelse fin _ => (match hds, orelse, fin with
    | [.ExceptHandler (some (.Name x _)) (some n) [.Assign [.Name m _] (.Name n2 _) _] _], [], [] => (match hid x, glo S x, locI S n, locI S m with
      | false, some (.exc _ ds), some i, some j => (match decide (n2 = n) && !Nat.beq i j && !hid n with
        | true => sTryK i j ds (rec_ body)
        | false => sBad)
      | _, _, _, _ => sBad)
    | _, _, _ => sBad)
  | _ => sBad
def seqC (f : Stmt → SS) : List Stmt → SS
  | [] => sNext
  | s :: r => sSeq (f s) (seqC f r)
def sk (r : RR) (S : SC) : Nat → List Stmt → SS
  | 0 => fun _ => sBad
  | n + 1 => seqC (stepS r (sk r S n) S)
section
variable {cl : Nat → Value} {C : Nat → Addr} {Φ : FT} {S : SC} {X : Cx} {We : Nat → L2.St → Hp → Prop} {x : Str} {pos p : Pos} {a b c e : Expr} {es : List Expr} {r : RR} {fa fb fc : EE} {g : EA}
theorem tgC_ok (O : OkE cl C Φ S X We) (hr : RSound cl C Φ r) : ∀ (n : Nat) (e : Expr), PG X e (TIG (FX X C We) (tgC r S n e))
  | 0, e => ⟨fun pins s σ H v u Q I _ ⟨ρ, en, h, w, _, _, _, p⟩ => p.elim⟩
  | n + 1, e => by
    have H := (hr S X We O).1
    have bad : PG X e (TIG (FX X C We) gBad) := ⟨fun pins s σ H v u Q I _ ⟨ρ, en, h, w, _, _, _, p⟩ => p.elim⟩
    unfold tgC
    split
    · rename_i x px
      split
      · rename_i i hi
        obtain ⟨h1, h2, h3⟩ := O.loc hi
        exact g_name (pg_name O.nd h1 h2 h3)
      · exact bad
    · rename_i es kk px
      split
      · rename_i hn
        have go : ∀ es : List Expr, es.all noStar = true → PGs X es (TIGs (FX X C We) (es.map (tgC r S n))) := by
          intro es
          induction es with
          | nil => intro _; exact gs_nil
          | cons e es ih =>
            intro h
            obtain ⟨h1, h2⟩ := Bool.and_eq_true_iff.mp (show (noStar e && es.all noStar) = true from h)
            exact gs_cons (tgC_ok O hr n e) (ih h2) (by rw [asg_cons h1]; rfl)
        exact g_tup O.calm (go es hn) (by rw [asg_len hn, List.length_map]) (asg_plain hn)
      · exact bad
    · rename_i a i ps
      split
      · rename_i hs
        refine g_sub (by have := O.units; omega) (fun v => ?_) (H _) (H _)
        rw [arm_assign_Subscript]
        cases i <;> first | rfl | cases hs
      · exact bad
    · exact bad
structure OkS (cl : Nat → Value) (C : Nat → Addr) (Φ : FT) (S : SC) (X : Cx) (We : Nat → L2.St → Hp → Prop) : Prop extends OkE cl C Φ S X We where
  own : PassesOwn (model X.prog X.w) X.A X.env X.xe
  stk : X.stack = X.env :: X.outer
  frm : X.env.frame = some X.env.locals
  ex : X.ex = []
theorem stuckS {f : SS} (hf : ∀ e h, f e h = .stuck) {st : Stmt} : PS X st (TIS (FX X C We) f) := ⟨fun pins s σ H D I ⟨ρ, e, h, _, _, p⟩ => by rw [hf] at p; exact p.elim⟩
theorem loc_ok (O : OkE cl C Φ S X We) {i : Nat} (h : locI S x = some i) : X.N[i]? = some x ∧ X.env.scope.names.lookup x = some .local := by
  unfold locI at h
  rw [O.eN, O.sc]
  split at h
  · rename_i q; exact ⟨ixOf_ok h, q⟩
  · cases h
theorem nbeq {i j : Nat} (h : (!Nat.beq i j) = true) : i ≠ j := fun e => by subst e; rw [Nat.beq_refl] at h; cases h
theorem swaps_name {elt : Expr} {gens : List Comprehension} {scope : Scope} {pe px : Pos} {l : Nat} (O : OkE cl C Φ S X We) : swapsWith (.ListComp elt gens scope pe) (some (.Name x px)) l X.env = pure (swB S scope x px pe) := by
  unfold swB
  rw [← O.sc]
  rfl
theorem TI_imp {f : EE} {σ : L2.St} {H : Hp} {Q Q' : VK} (k : ∀ v H, Q v H → Q' v H) : TI (FX X C We) f σ H Q → TI (FX X C We) f σ H Q' := fun ⟨ρ, e, h, rh, re, p⟩ => ⟨ρ, e, h, rh, re, p.imp k⟩
theorem asg_one {tg : Expr} (h : noStar tg = true) : (assignEach [tg] X.env).map (·.2) = [assign tg X.env] := by rw [asg_cons h]; rfl
theorem par_no {sc : Scope} {ts vs : List Expr} {k k2 : Nat} {p p2 : Pos} {env : PySem.Env} (he : env.scope = sc) (h : Nat.beq (parNames sc ts).length ts.length = false) : swappedStores [.Tuple ts k p] (.Tuple vs k2 p2) env = pure none := by
  subst he
  have e : swappedStores [.Tuple ts k p] (.Tuple vs k2 p2) env = (if (!(ts.length == 2 || ts.length == 3) || vs.length != ts.length || env.blockKind != .function) = true then pure none else
    if (vs.any fun | .Starred .. => true | _ => false) = true then pure none else
    if ((parNames env.scope ts).length != ts.length || (parNames env.scope ts).eraseDups.length != (parNames env.scope ts).length) = true then pure none else
    if vs.all (foldedForSure 8) = true then pure none else
    if vs.all (constantsAlone 8) = true then (do unsupported "assign.tuple-of-constant-expressions:order-of-the-stores"; pure (some (parNames env.scope ts))) else pure (some (parNames env.scope ts))) := rfl
  rw [e]
  have h' : ((parNames env.scope ts).length != ts.length) = true := by
    cases q : ((parNames env.scope ts).length != ts.length) with
    | true => rfl
    | false =>
      have z : (parNames env.scope ts).length = ts.length := by simpa using q
      rw [z, Nat.beq_refl] at h
      cases h
  rw [h', Bool.true_or]
  split
  · rfl
  · split
    · rfl
    · rfl
theorem asgC_ok (O : OkE cl C Φ S X We) (hr : RSound cl C Φ r) {tg e : Expr} : PS X (.Assign [tg] e pos) (TIS (FX X C We) (asgC r S tg e)) := by
  have H := (hr S X We O).1
  have G := tgC_ok O hr 9
  have bad : ∀ e, PS X (.Assign [tg] e pos) (TIS (FX X C We) sBad) := fun e => stuckS fun _ _ => rfl
  unfold asgC
  split
  · rename_i x px y py k p a b k2 p2
    split
    · rename_i i j h1 h2
      split
      · rename_i hh
        simp only [Bool.and_eq_true, decide_eq_true_eq] at hh
        obtain ⟨⟨⟨⟨q1, q2⟩, q3⟩, n1⟩, n2⟩ := hh
        obtain ⟨i1, i2⟩ := loc_ok O h1
        obtain ⟨j1, j2⟩ := loc_ok O h2
        exact s_par2 (ps_par O.calm O.nd i1 j1 (nbeq q3) i2 j2 (args_ok H (by simp [n1, n2])) (by rw [par_ok O.sc q1, q2]) rfl)
      · exact stuckS fun _ _ => rfl
    · split
      · exact stuckS fun _ _ => rfl
      · rename_i hne
        exact s_asg (tg := .Name x px) (ps_asg (H _) (G _) rfl (par_no O.sc hne) (asg_one rfl))
  · rename_i x px y py z pz k p a b c k2 p2
    split
    · rename_i i j l h1 h2 h3
      split
      · rename_i hh
        simp only [Bool.and_eq_true, decide_eq_true_eq] at hh
        obtain ⟨⟨⟨⟨⟨⟨⟨q1, q2⟩, q3⟩, q4⟩, q5⟩, n1⟩, n2⟩, n3⟩ := hh
        obtain ⟨i1, i2⟩ := loc_ok O h1
        obtain ⟨j1, j2⟩ := loc_ok O h2
        obtain ⟨l1, l2⟩ := loc_ok O h3
        exact s_par3 (ps_par3 O.calm O.nd i1 j1 l1 (nbeq q3) (nbeq q4) (nbeq q5) i2 j2 l2 (args_ok H (by simp [n1, n2, n3])) (by rw [par_ok O.sc q1, q2]) rfl)
      · exact stuckS fun _ _ => rfl
    · split
      · exact stuckS fun _ _ => rfl
      · rename_i hne
        exact s_asg (tg := .Name x px) (ps_asg (H _) (G _) rfl (par_no O.sc hne) (asg_one rfl))
  · rename_i x px elt gens scope pe
    split
    · rename_i hs
      split
      · rename_i i hi
        obtain ⟨i1, i2⟩ := loc_ok O hi
        unfold compC
        split
        · rename_i tg iter ifs
          split
          · rename_i hb
            obtain ⟨h1, h2⟩ := Bool.and_eq_true_iff.mp hb
            have ok : BlkOk X.N X.env.scope scope (ownOf S.N scope.names) := by rw [O.eN, O.sc]; exact blkOk_by h1
            refine s_asg (tg := .Name x px) (PSmono (ps_setLc O.calm O.nd i1 i2 (by rw [swaps_name O, hs]) (iterC_ok O hr) ok (fun s H Ca cs fp => tgW_ok (O.blk s H scope cs Ca fp) 9 tg) (fun s H Ca cs fp => ifsC_ok (O.blk s H scope cs Ca fp) hr)
              (fun s H Ca cs fp => (hr _ _ _ (O.blk s H scope cs Ca fp)).1 elt) (fold_ok h2)) fun D σ H h => lc_imp (TI_imp (fun v H1 q => ?_) h))
            obtain ⟨ρ, en, h', w, rh, re, rv, p⟩ := q
            exact no_same rh p (show RE (FX X C We) _ _ _ _ _ from re.set rv)
          · exact stuckS fun _ _ => rfl
        · exact stuckS fun _ _ => rfl
      · exact stuckS fun _ _ => rfl
    · rename_i hs
      exact s_asg (tg := .Name x px) (ps_asg (H _) (G _) (by have z := swaps_name (elt := elt) (gens := gens) (scope := scope) (pe := pe) (x := x) (px := px) (l := pos.line) O; rw [hs] at z; exact z) (stores_ok2 rfl) (asg_one rfl))
  · split
    · rename_i hh
      simp only [Bool.and_eq_true, Bool.or_eq_true] at hh
      obtain ⟨⟨h1, h2⟩, h3⟩ := hh
      exact s_asg (tg := tg) (ps_asg (H _) (G _) (swaps_ok h1) (h2.elim stores_ok2 stores_ok) (asg_one h3))
    · exact stuckS fun _ _ => rfl
theorem OkS.tr (O : OkS cl C Φ S X We) {W : WX} {pn : List (Addr × Obj)} {xe : Value → Shared → Prop} (tk : Takes (X.tr pn xe) W) (own : PassesOwn (model X.prog X.w) X.A X.env xe) : OkS cl C Φ S (X.tr pn xe) fun c σ H => W (cl c) none σ H where
  nd := O.nd
  eN := O.eN
  sc := O.sc
  calm := O.calm
  units := O.units
  guards := O.guards
  tk := tk.imp fun c d σ H ⟨i, e1, e2, z⟩ => by subst e1; subst e2; exact z
  fn := O.fn
  glob := fun x g e => by
    have z := O.glob x g e
    cases g <;> exact z
  own := own
  stk := O.stk
  frm := O.frm
  ex := O.ex
/-- the suite that keeps it -/
theorem suite_keep (O : OkE cl C Φ S X We) {n m : Str} {i j : Nat} {pa pb pc : Pos} (hi : X.N[i]? = some n) (hj : X.N[j]? = some m) (li : X.env.scope.names.lookup n = some .local) (lj : X.env.scope.names.lookup m = some .local) (hh : hid n = false) (a : Addr) (pn : List (Addr × Obj)) :
    PSs (X.suite a pn) [.Assign [.Name m pa] (.Name n pb) pc] (tSeq (tAsg (tVar i) (gName j)) tNext) :=
  pss_cons (ps_asg (X := X.suite a pn) (pe_var (X := X.suite a pn) hi (.inl li) (hid_d hh) (hid_c hh)) (pg_name (X := X.suite a pn) O.nd hj (.inl lj) (.inr lj))) pss_nil
theorem s_tryK (O : OkS cl C Φ S X We) {body : List Stmt} {b : SS} {x n m : Str} {c i j : Nat} {ds : List (Nat × Bool)} {np pa pb pc pos' : Pos} (hb : ∀ (X : Cx) (We : Nat → L2.St → Hp → Prop), OkS cl C Φ S X We → PSs X body (TIS (FX X C We) b))
    (hx : hid x = false) (hg : glo S x = some (.exc c ds)) (hi : locI S n = some i) (hj : locI S m = some j) (ne : i ≠ j) (hn : hid n = false) :
    PS X (.Try body [.ExceptHandler (some (.Name x np)) (some n) [.Assign [.Name m pa] (.Name n pb) pc] pos'] [] [] pos) (TIS (FX X C We) (sTryK i j ds b)) := by
  obtain ⟨G, Ca, B, newId, initId, bmB, ⟨ec, hD⟩, F, _, q1, q2, q3, _⟩ := O.toOkE.gl hg
  obtain ⟨i1, i2⟩ := loc_ok O.toOkE hi
  obtain ⟨j1, j2⟩ := loc_ok O.toOkE hj
  refine PSmono (ps_try_keep (i := i) (x := x) (n := n) (c := .ref Ca) (tb := fun W => TIS ⟨X.K, C, fun c σ H => W (cl c) none σ H⟩ b) (ts := fun _ => tSeq (tAsg (tVar i) (gName j)) tNext) O.stk O.frm O.ex O.nd i1 i2 ⟨G, hid_d hx, .inl q2⟩ O.tk (fun W pn xe tk own => hb _ _ (O.tr tk own)) (fun a pn => suite_keep O.toOkE i1 j1 i2 j2 hn a pn)) ?_
  rintro D σ H ⟨ρ, e, h, rh, re, p⟩
  refine ⟨ρ, e, h, rh, re, ?_⟩
  have p : PostS (FX X C We) ρ h.n H (match b e h with
    | .ex c e1 h1 => (match ds.lookup c with
      | some true => (match Nat.blt i e1.length with
        | true => .nx ((e1.set j (some (.loc h1.n))).set i none) (h1.new (.err c))
        | false => .stuck)
      | some false => .ex c e1 h1
      | none => .stuck)
    | r => r) D := p
  cases q : b e h with
  | nx e1 h1 => rw [q] at p; exact p
  | bk e1 h1 => rw [q] at p; exact p
  | ct e1 h1 => rw [q] at p; exact p
  | rt w h1 => rw [q] at p; exact p
  | stuck => rw [q] at p; exact p
  | ex k e1 h1 =>
    rw [q] at p
    dsimp only at p
    intro ρ' σ' H' x' rh' re'
    show wKeep X.K (.ref Ca) i (fun _ => tSeq (tAsg (tVar i) (gName j)) tNext) (fun c d σ H => EXK cl We σ c d H) D (cl k) none σ' H'
    cases l : ds.lookup k with
    | none => rw [l] at p; exact p.elim
    | some v =>
      rw [l] at p
      have E := hD k v l
      have hc : cl k = .ref (C k) := E.cl
      refine ⟨v, by rw [hc]; exact E.exm, fun z => ?_, fun z => ?_⟩
      · subst z
        exact ⟨k, rfl, rfl, p ρ' σ' H' x' rh' re'⟩
      · subst z
        cases bl : Nat.blt i e1.length with
        | false => rw [bl] at p; exact p.elim
        | true =>
        rw [bl] at p
        refine ⟨C k, hc, rfl, fun a na => ?_⟩
        have il : i < σ'.length := by
          rw [← re'.len]
          exact Nat.le_of_ble_eq_true bl
        refine ⟨.ref a, List.getElem?_set_self il, ?_⟩
        show H' a = none → D.nx _ _
        intro _
        have y : Ext ρ' (rhoN ρ' h1.n a) h1.n (h1.new (.err k)).n H' (upd H' a (ExK (C k) a)) := ext_new na
        refine p (rhoN ρ' h1.n a) _ _ (x'.trans y) (rh'.new na rfl ⟨_, upd_same, fun hp z => z⟩) ?_
        have re2 : REnv X.K (rhoN ρ' h1.n a) (h1.n + 1) (upd H' a (ExK (C k) a)) e1 σ' := re'.ext y
        refine ⟨by simp only [List.length_set]; exact re2.len, fun t w hw => ?_⟩
        by_cases ti : t = i
        · subst ti
          rw [List.getElem?_set] at hw
          simp only [if_true] at hw
          split at hw <;> cases hw
        · rw [List.getElem?_set_ne (Ne.symm ti)] at hw ⊢
          by_cases tj : t = j
          · subst tj
            rw [List.getElem?_set] at hw
            simp only [if_true] at hw
            split at hw
            · rename_i tl
              cases hw
              refine ⟨.ref a, List.getElem?_set_self (by simpa only [List.length_set, ← re2.len] using tl), ?_⟩
              have e5 : V.ref a = V.ref (rhoN ρ' h1.n a h1.n) := by rw [rhoN_self]
              rw [e5]
              exact .loc (Nat.lt_succ_self _)
            · cases hw
          · rw [List.getElem?_set_ne (Ne.symm tj)] at hw ⊢
            rw [List.getElem?_set_ne (Ne.symm ti)]
            exact re2.at_ t w hw
theorem stepS_ok (O : OkS cl C Φ S X We) (hr : RSound cl C Φ r) {rec_ : List Stmt → SS} (hrec_ : ∀ (X : Cx) (We : Nat → L2.St → Hp → Prop), OkS cl C Φ S X We → ∀ b, PSs X b (TIS (FX X C We) (rec_ b))) (st : Stmt) : PS X st (TIS (FX X C We) (stepS r rec_ S st)) := by
  have hrec := hrec_ X We O
  have H := (hr S X We O.toOkE).1
  have T := (hr S X We O.toOkE).2
  have G := tgC_ok O.toOkE hr 9
  have bad : ∀ st, PS X st (TIS (FX X C We) sBad) := fun st => stuckS fun _ _ => rfl
  unfold stepS
  split
  · split
    · rename_i hn; exact s_expr (swaps_ok hn) (H _)
    · exact bad _
  · split
    · exact s_retN
    · exact s_ret (H _)
  · exact s_pass
  · exact s_break
  · exact s_cont
  · exact s_if (T _) (hrec _) (hrec _)
  · split
    · exact s_while O.own (T _) (hrec _)
    · exact bad _
  · split
    · split
      · rename_i hn; exact s_for O.own O.calm (iterC_ok O.toOkE hr) (G _) (hrec _) (fold_ok hn)
      · exact bad _
    · exact bad _
  · split
    · exact asgC_ok O.toOkE hr
    · exact bad _
  · split
    · rename_i x px m j p2 pc
      split
      · rename_i hh hg
        rename_i c ds
        obtain ⟨Gx, Ca, B, newId, initId, bmB, _, F, ec, q1, q2, q3, q4, q5⟩ := O.toOkE.gl hg
        refine s_raise (PSmono (ps_raise O.calm O.tk (pmk_own F q1 q2 q3 (raises_own q4 q5) Gx (hid_d hh))) fun D σ H h => ?_)
        exact ⟨c, ec.symm, rfl, h⟩
      · exact bad _
    · exact bad _
  · split
    · split
      · rename_i h1 h2 h3 h4
        split
        · rename_i hh
          simp only [Bool.and_eq_true, decide_eq_true_eq, Bool.not_eq_true'] at hh
          obtain ⟨⟨q1, q2⟩, q3⟩ := hh
          subst q1
          exact s_tryK O (fun X We O' => hrec_ X We O' _) h1 h2 h3 h4 (fun e => by subst e; rw [Nat.beq_refl] at q2; cases q2) q3
        · exact bad _
      · exact bad _
    · exact bad _
  · exact bad _
theorem seqC_ok {f : Stmt → SS} (hf : ∀ st, PS X st (TIS (FX X C We) (f st))) : ∀ b : List Stmt, PSs X b (TIS (FX X C We) (seqC f b))
  | [] => s_next_
  | s :: r => ss_cons (hf s) (seqC_ok hf r)
theorem sk_ok (hr : RSound cl C Φ r) : ∀ (n : Nat) (X : Cx) (We : Nat → L2.St → Hp → Prop) (O : OkS cl C Φ S X We) (b : List Stmt), PSs X b (TIS (FX X C We) (sk r S n b))
  | 0, X, We, O, b => ⟨fun pins s σ H D I ⟨ρ, e, h, _, _, p⟩ => p.elim⟩
  | n + 1, X, We, O, b => seqC_ok (stepS_ok O hr fun X We O => sk_ok hr n X We O) b
end
end Fw

set_option Elab.async false
set_option linter.all false
set_option maxRecDepth 100000
set_option maxHeartbeats 1000000
/-! Fw, part P: the defs of a law, its end. -/
namespace Fw
open PySem PySem.Spec PyProof.Rows L2
/-- a def: its name in the module's text, its arguments, names, scope, body -/
structure Df where
  name : Str
  qual : Str
  params : Arguments
  scope : Scope
  body : List Stmt
  ps : List Str
  N : List Str
def callB (b : SS) (n m : Nat) (ws : List W) (h : IH) : Rs W := match Nat.beq ws.length n with
  | true => runBody m b ws h
  | false => .stuck
def Phi (gk : Str → Option GK) (tab : List Df) : Nat → FT
  | 0 => fun _ _ _ => .stuck
  | k + 1 => fun id ws h => match tab[id]? with
    | some d => callB (sk (rk (Phi gk tab k) 40) ⟨d.N, d.scope, true, gk⟩ 40 d.body) d.ps.length d.N.length ws h
    | none => .stuck
theorem Phi_ar {gk : Str → Option GK} {tab : List Df} {id : Nat} {d : Df} (e : tab[id]? = some d) : ∀ k : Nat, arOk d.ps.length (Phi gk tab k id)
  | 0 => fun _ _ _ => rfl
  | k + 1 => fun ws h ne => by
    unfold Phi
    rw [e]
    show callB _ _ _ ws h = .stuck
    unfold callB
    have z : Nat.beq ws.length d.ps.length = false := by
      cases q : Nat.beq ws.length d.ps.length with
      | false => rfl
      | true => exact absurd (Nat.eq_of_beq_eq_true q) ne
    rw [z]
def isFn : GK → Bool
  | .fn _ => true
  | _ => false
def GlobK (cl : Nat → Value) (C : Nat → Addr) (w : World) (K : PySem.W.Frag) (mg : Str → Option Value) (x : Str) : GK → Prop
  | .fn _ => True
  | .con u => ∃ y v, mg x = some y ∧ RelV v y ∧ ∀ ρ n H, RV K ρ n H u v
  | .kd kvs => ∃ d es n, KDict K w d es n ∧ mg x = some (.ref d) ∧ ∀ z, ∃ r, PySem.W.nsIn K d z = some r ∧ (match kvs.lookup z with
    | some i => ∃ u, r = some u ∧ RelV (.int i) u
    | none => r = none)
  | .bt => mg x = none
  | .ve ds => x = "ValueError" ∧ mg x = none ∧ ∀ k b, ds.lookup k = some b → ExIs K cl C k b (.type "ValueError")
  | .exc c ds => ∃ Ca B newId initId bmB, (C c = Ca ∧ ∀ k b, ds.lookup k = some b → ExIs K cl C k b (.ref Ca)) ∧ ExcBaseFacts B newId initId bmB ∧ cl c = .ref Ca ∧ PySem.W.excIn K Ca bmB newId = true ∧ mg x = some (.ref Ca) ∧ PySem.W.keepIn K (.ref Ca) = true ∧ PySem.W.subIn K (.ref Ca) (.type "BaseException") = some true ∧ PySem.W.typeIn K (.ref Ca) = some (.type "type")
/-- the module, as the walks need it -/
structure ModOk (w : World) (K : PySem.W.Frag) (mg : Str → Option Value) (cl : Nat → Value) (C : Nat → Addr) (gk : Str → Option GK) (tab : List Df) (f : Nat → Addr) (fd : Nat → FuncData) : Prop where
  fn : ∀ x id, gk x = some (.fn id) → mg x = some (.ref (f id)) ∧ ∃ d, tab[id]? = some d
  def_ : ∀ id d, tab[id]? = some d → FunD K d.name d.qual d.params d.body d.scope [] [] (f id) (fd id) ∧ FnScope d.N d.ps d.scope ∧ Binds K (fd id) d.ps []
  glob : ∀ x g, gk x = some g → GlobK cl C w K mg x g
theorem start_env {K : PySem.W.Frag} {ρ : Nat → Addr} {n : Nat} {H : Hp} {ws : List W} {vs : List V} {N : List Str} (r : RVs K ρ n H ws vs) : REnv K ρ n H (ws.map some ++ List.replicate (N.length - ws.length) none) (L2.start N vs) where
  len := by simp [L2.start, r.length]
  at_ := fun i w e => by
    by_cases hi : i < ws.length
    · rw [List.getElem?_append_left (by simpa using hi)] at e
      have e : ws[i]? = some w := by simpa using e
      obtain ⟨v, h1, h2⟩ := r.get e
      refine ⟨v, ?_, h2⟩
      unfold L2.start
      rw [List.getElem?_append_left (by simpa [← r.length] using hi)]
      simpa using h1
    · rw [List.getElem?_append_right (by simpa using Nat.le_of_not_lt hi)] at e
      exfalso
      have := List.mem_of_getElem? e
      simp at this
section
variable {P : Program} {w : World} {K : PySem.W.Frag} {mg : Str → Option Value} {base : Heap} {cl : Nat → Value} {C : Nat → Addr} {gk : Str → Option GK} {tab : List Df} {f : Nat → Addr} {fd : Nat → FuncData}
theorem phi_ok (M : ModOk w K mg cl C gk tab f fd) : ∀ (k id : Nat) (d : Df), tab[id]? = some d → FnG P w K mg base (L2.CX P w) k (f id) (fd id) d.ps (spF K C cl d.ps.length (Phi gk tab k id))
  | 0, id, d, e => ⟨fun vs H Q E h => h.1, fun A outer s H args us vs Q E _ _ _ _ _ h => by obtain ⟨_, ρ, ws, h0, _, _, z⟩ := h; exact z.elim⟩
  | k + 1, id, d, e => by
    obtain ⟨F, S, B⟩ := M.def_ id d e
    obtain ⟨oc, od, dV, kV, doc, pm, an, cdv, ct, osl, efd, lk, hcd, _, _⟩ := F.ex
    rw [efd] at lk ⊢
    refine FnG.of lk hcd S (fun vs H Q E h => h.1) fun A outer s H vs Q E hg hr h => ?_
    obtain ⟨hl, ρ, ws, h0, rh, rv, q⟩ := h
    let X := cxOf (L2.CX P w) P w K mg base d.N d.qual d.scope (f id) cdv A outer s H E
    let We : Nat → L2.St → Hp → Prop := fun c _ H' => E (cl c) none H'
    have tk0 : Takes X fun c d _ H' => E c d H' := takes_of (X := X) rfl rfl rfl (E₁ := fun e' s'' => L2.CX P w outer H s E e' s'') rfl
    have O : OkS cl C (Phi gk tab k) ⟨d.N, d.scope, true, gk⟩ X We := {
      nd := S.nd, eN := rfl, sc := rfl, calm := rfl
      units := by have := hr.un; show (A.deeper _).units + 70 < cLine; omega
      guards := hg
      tk := tk0.imp fun c dd σ H' ⟨i, e1, e2, z⟩ => by subst e1; subst e2; exact z
      fn := fun _ _ => rfl
      glob := fun x g eg => by
        have z := M.glob x g eg
        cases g with
        | fn j =>
          obtain ⟨hm, dj, ej⟩ := M.fn x j eg
          obtain ⟨Fj, Sj, Bj⟩ := M.def_ j dj ej
          exact ⟨k, f j, fd j, dj.ps, phi_ok M k j dj ej, Phi_ar ej k, hr, hm, Fj.kp, Bj⟩
        | _ => exact z
      own := passes_of (X := X) (K := fun e s'' => L2.CX P w outer H s E e s'') (E₁ := fun e' s'' => L2.CX P w outer H s E e' s'') rfl
      stk := rfl
      frm := rfl
      ex := rfl }
    refine ⟨_, sk_ok (rk_ok 40) 40 X We O d.body, ρ, ws.map some ++ List.replicate (d.N.length - ws.length) none, h0, rh, start_env rv, ?_⟩
    have e2 : Phi gk tab (k + 1) id ws h0 = callB (sk (rk (Phi gk tab k) 40) ⟨d.N, d.scope, true, gk⟩ 40 d.body) d.ps.length d.N.length ws h0 := by
      show (match tab[id]? with
        | some d => callB (sk (rk (Phi gk tab k) 40) ⟨d.N, d.scope, true, gk⟩ 40 d.body) d.ps.length d.N.length ws h0
        | none => .stuck) = _
      rw [e]
    rw [e2] at q
    unfold callB at q
    rw [rv.length.trans hl, Nat.beq_refl] at q
    unfold runBody at q
    dsimp only at q
    cases r : sk (rk (Phi gk tab k) 40) ⟨d.N, d.scope, true, gk⟩ 40 d.body (ws.map some ++ List.replicate (d.N.length - ws.length) none) h0 with
    | nx e' h' => rw [r] at q; exact fun ρ' σ' H' x rh' re' => q ρ' .non H' x rh' .non
    | rt u h' => rw [r] at q; exact fun ρ' v H' x rh' ru => q ρ' v H' x rh' ru
    | ex c e' h' => rw [r] at q; exact fun ρ' σ' H' x rh' re' => q ρ' H' x rh'
    | bk e' h' => rw [r] at q; exact q.elim
    | ct e' h' => rw [r] at q; exact q.elim
    | stuck => rw [r] at q; exact q.elim
end
def ih0 : IH := ⟨0, .nil⟩
theorem get0 {i : Nat} {c : Cell} (e : ih0.get i = some c) : False := absurd (IH.get_lt e) (Nat.not_lt_zero i)
theorem rh0 {K : PySem.W.Frag} {C : Nat → Addr} {ρ : Nat → Addr} {H : Hp} (hs : SysH H) : RH K C ρ ih0 H where
  sys := hs
  cell := fun i c e => (get0 e).elim
  inj := fun i j c1 c2 e => (get0 e).elim
  full := fun i hi => absurd hi (Nat.not_lt_zero i)
/-- THE LAW'S END: the module's facts, then the evaluator's word -/
theorem walkG {l : PySem.W.OpenLaw} {n k : Nat} {q : Program} {loose : List Str} {XP : (Str → Option Value) → Heap → Prop} {YP : World → Heap → Prop} {d : DefRec} {x : Str} {gk : Str → Option GK} {tab : List Df} {id : Nat} {dl : Df}
    (hn : l.most = some n) (hn2 : n ≤ sizeLine) (hdf : d.params.defaults = []) (hr : Room k callerA) (he : tab[id]? = some dl) (hx : dl.ps = [x])
    (F : ∀ (w : World) (mg : Str → Option Value) (fa : Addr) (h : Heap), YP w h → h.Ns mainGlobals mg → mg d.name = some (.ref fa) →
      ∃ (K : PySem.W.Frag) (cl : Nat → Value) (C : Nat → Addr) (f : Nat → Addr) (fd : Nat → FuncData), K.In h ∧ ModOk w K mg cl C gk tab f fd ∧ f id = fa ∧ K.lookup sysModules = none ∧ (∃ o, h.get? sysModules = some o ∧ o.cls = .type "dict") ∧ ∀ (s : Shared) (u : Value), BindsTo s (fd id) ⟨[u], []⟩ [(x, u)])
    (E : ∀ ns : List Int, ns.length ≤ n → ∃ h', Phi gk tab k id [.ro (ns.map W.int)] ih0 = .ok (.bl true) h') :
    PySem.W.WalkO q loose XP YP l.row.toRowW d [] (fun f vs => PySem.call f vs) := by
  refine Att.attach_call hn hdf fun w s₀ s₁ mg mb fa o pm cd doc a vs ns G Y ho hd hcd hmg hobj hints hlen hg => ?_
  obtain ⟨K, cl, C, f, fd, KX, M, rfl, hk1, hs1, hb⟩ := F w mg fa _ Y G.T.g hmg
  refine lawG KX G.T.g G.T.b G.T.builtins G.T.nolimit hg hobj hints (Nat.le_trans hlen hn2) hr hk1 hs1 (CX := L2.CX l.prog w) (sp := spF K C cl 1 (Phi gk tab k id)) (fun base _ _ => ?_) hb (fun H hY ro => ?_) fun H e s' c => ?_
  · have z := phi_ok (P := l.prog) (base := base) (C := C) M k id dl he
    rw [hx] at z
    exact z
  · obtain ⟨h', e⟩ := E ns hlen
    refine ⟨rfl, fun _ => 0, [.ro (ns.map W.int)], ih0, rh0 hY, .cons (.ro ro (rvs_ints (F := ⟨K, C, fun _ _ _ => False⟩) ns)) .nil, ?_⟩
    rw [e]
    intro ρ' v H' _ _ rv
    cases rv
    rfl
  · obtain ⟨_, _, _, _, _, _, _, _, _, _, _, _, z⟩ := c
    exact z
end Fw

set_option Elab.async false
set_option linter.all false
set_option maxRecDepth 100000
set_option maxHeartbeats 1000000
/-! Fw, part Q: the module's facts from one look at the heap behind the top. -/
namespace Fw
open PySem PySem.Spec PyProof.Rows L2
def conGo (f : W → Value → Bool) : List W → List Value → Bool
  | [], [] => true
  | w :: ws, u :: us => f w u && conGo f ws us
  | _, _ => false
/-- a constant, as it lies -/
def conW (K : PySem.W.Frag) : Nat → W → Value → Bool
  | 0, _, _ => false
  | n + 1, w, u => match w, u with
    | .non, .none => true
    | .bl a, .bool b => a == b
    | .int i, .int j _ => decide (i = j)
    | .str x, .str y _ => decide (x = y)
    | .tup ws, .ref a => (match K.lookup a with
      | some ⟨.type c, _, .seq its _, _⟩ => decide (c = "tuple") && decide (its.size ≤ sizeLine) && conGo (conW K n) ws its.toList
      | _ => false)
    | _, _ => false
theorem conGo_ok {K : PySem.W.Frag} {f : W → Value → Bool} (hf : ∀ w u, f w u = true → ∃ v, RelV v u ∧ ∀ ρ m H, RV K ρ m H w v) : ∀ (ws : List W) (us : List Value), conGo f ws us = true → ∃ vs, Vals vs us ∧ ∀ ρ m H, RVs K ρ m H ws vs
  | [], [], _ => ⟨[], .nil, fun _ _ _ => .nil⟩
  | [], _ :: _, h => by cases h
  | _ :: _, [], h => by cases h
  | w :: ws, u :: us, h => by
    obtain ⟨h1, h2⟩ := Bool.and_eq_true_iff.mp (show (f w u && conGo f ws us) = true from h)
    obtain ⟨v, a, b⟩ := hf w u h1
    obtain ⟨vs, c, d⟩ := conGo_ok hf ws us h2
    exact ⟨v :: vs, .cons a c, fun ρ m H => .cons (b ρ m H) (d ρ m H)⟩
theorem conW_ok {K : PySem.W.Frag} : ∀ (n : Nat) (w : W) (u : Value), conW K n w u = true → ∃ v, RelV v u ∧ ∀ ρ m H, RV K ρ m H w v
  | 0, _, _, h => by cases h
  | n + 1, w, u, h => by
    unfold conW at h
    split at h
    · exact ⟨.non, rfl, fun _ _ _ => .non⟩
    · rename_i a b
      have e : a = b := eq_of_beq h
      subst e
      exact ⟨.bl a, rfl, fun _ _ _ => .bl⟩
    · rename_i i j t
      have e : i = j := of_decide_eq_true h
      subst e
      exact ⟨.int i, ⟨t, rfl⟩, fun _ _ _ => .int⟩
    · rename_i x y t
      have e : x = y := of_decide_eq_true h
      subst e
      exact ⟨.str x, ⟨t, rfl⟩, fun _ _ _ => .str⟩
    · rename_i ws a
      split at h
      · rename_i c d its k sl hl
        simp only [Bool.and_eq_true, decide_eq_true_eq] at h
        obtain ⟨⟨h1, h2⟩, h3⟩ := h
        obtain ⟨vs, r1, r2⟩ := conGo_ok (conW_ok n) ws its.toList h3
        exact ⟨.ref a, rfl, fun ρ m H => .tup (.inr ⟨_, its, k, hl, congrArg Value.type h1, rfl, h2, r1⟩) (r2 ρ m H)⟩
      · cases h
    · cases h
/-- a written dict of ints -/
def kdGo : List DictEntry → List (Str × Int) → Bool
  | [], [] => true
  | e :: r, (k, i) :: s => (match e.key, e.val with
    | .str x _, .int j _ => decide (x = k) && decide (j = i)
    | _, _ => false) && kdGo r s
  | _, _ => false
/-- the class D, as isinstance asks it -/
def excB (K : PySem.W.Frag) (D : Addr) : Bool := decide (PySem.W.findIn K (.ref D) "__getattribute__" = some (some (.builtin "BaseException.__getattribute__"))) && decide (PySem.W.findIn K (.ref D) "__getattr__" = some none) &&
  decide (PySem.W.subIn K (.ref D) (.type "BaseException") = some true) && PySem.W.hasDictIn K D && decide (PySem.W.findIn K (.ref D) "__class__" = some (some (.builtin "object.__class__"))) &&
  decide (PySem.W.specialIn K (.builtin "object.__class__") "__get__" = some (some (.builtin "getset_descriptor.__get__"))) && decide (PySem.W.takesIn K (.builtin "object.__class__") = some true) && decide (PySem.W.mroIn K D (.type "object") = some true)
theorem excB_ok {K : PySem.W.Frag} {D : Addr} (h : excB K D = true) : ExcC K D := by
  unfold excB at h
  simp only [Bool.and_eq_true, decide_eq_true_eq] at h
  obtain ⟨⟨⟨⟨⟨⟨⟨h1, h2⟩, h3⟩, h4⟩, h5⟩, h6⟩, h7⟩, h8⟩ := h
  exact ⟨h1, h2, h3, h4, h5, h6, h7, h8⟩
def exIsB (K : PySem.W.Frag) (xs : List Str) (cv : Value) (p : Nat × Bool) : Bool := match xs[p.1]? with
  | some y => excB K (He.ga K y) && decide (PySem.W.kitOne K (.ref (He.ga K y)) cv = some p.2) && decide (PySem.W.exmOne K (.ref (He.ga K y)) cv = some p.2)
  | none => false
def exB (xs : List Str) (K : PySem.W.Frag) (x : Str) : GK → Bool
  | .exc _ ds => ds.all (exIsB K xs (.ref (He.ga K x)))
  | .ve ds => decide (x = "ValueError") && ds.all (exIsB K xs (.type "ValueError"))
  | .con w => (match PySem.W.nsIn K mainGlobals x with
    | some (some u) => conW K 20 w u
    | _ => false)
  | .kd kvs => (match K.lookup (He.ga K x) with
    | some ⟨_, _, .dict es _, _⟩ => kdGo es.toList kvs
    | _ => false)
  | _ => true
theorem kdGo_ok : ∀ {es : List DictEntry} {kvs : List (Str × Int)}, kdGo es kvs = true → (es.any (·.refKey) = false) ∧ ∀ z, (match kvs.lookup z with
    | some i => ∃ e t, es.find? (·.key.isStr z) = some e ∧ e.val = .int i t
    | none => es.find? (·.key.isStr z) = none)
  | [], [], _ => ⟨rfl, fun z => rfl⟩
  | [], _ :: _, h => by cases h
  | _ :: _, [], h => by cases h
  | e :: r, (k, i) :: s, h => by
    obtain ⟨h1, h2⟩ := Bool.and_eq_true_iff.mp (show ((match e.key, e.val with
      | .str x _, .int j _ => decide (x = k) && decide (j = i)
      | _, _ => false) && kdGo r s) = true from h)
    obtain ⟨a, b⟩ := kdGo_ok h2
    split at h1
    · rename_i x t j t2 q1 q2
      simp only [Bool.and_eq_true, decide_eq_true_eq] at h1
      obtain ⟨e1, e2⟩ := h1
      subst e1; subst e2
      refine ⟨?_, fun z => ?_⟩
      · rw [List.any_cons, a, Bool.or_false]
        unfold DictEntry.refKey
        rw [q1]
      · have ez : e.key.isStr z = (x == z) := by rw [q1]; rfl
        rw [List.lookup_cons, List.find?_cons, ez]
        by_cases q : x = z
        · subst q
          have : (x == x) = true := beq_self_eq_true x
          rw [this]
          exact ⟨e, t2, rfl, q2⟩
        · have n1 : (x == z) = false := by cases y : x == z with | false => rfl | true => exact absurd (eq_of_beq y) q
          have n2 : (z == x) = false := by cases y : z == x with | false => rfl | true => exact absurd (eq_of_beq y).symm q
          rw [n1, n2]
          exact b z
    · cases h1
/-! ### the look -/
def faOf : List (Str × GK) → List He.Fa
  | [] => []
  | (x, g) :: r => match g with
    | .fn _ => .glo x :: faOf r
    | .kd _ => .glo x :: faOf r
    | .bt => .free x :: faOf r
    | .exc _ _ => .glo x :: .exc x :: faOf r
    | .ve _ => .free x :: faOf r
    | .con _ => faOf r
def tsOf : List (Str × GK) → List He.Tab
  | [] => []
  | (x, g) :: r => match g with
    | .kd kvs => (fun K => He.ga K x, kvs.map (·.1)) :: tsOf r
    | _ => tsOf r
def ddOf (d : Df) : He.DefD := ⟨(d.name, none), d.name, d.qual, d.params, d.body, d.scope, [], []⟩
/-- the modules' dict is there -/
def sysB (g : Addr → Option Obj) : Bool := match g sysModules with
  | some o => decide (o.cls = .type "dict")
  | none => false
abbrev AlF : Type := He.AlT × Bool × Bool
def obsF (gs : List (Str × GK)) (xs : List Str) (tab : List Df) (K : PySem.W.Frag) : AlF := (He.obsT (faOf gs) (tab.map ddOf) (tsOf gs) K, (gs.all fun p => exB xs K p.1 p.2), (K.lookup sysModules).isNone)
def valF (gs : List (Str × GK)) (tab : List Df) (w : World) : AlF := (He.valT (tab.map ddOf) (tsOf gs) w, true, true)
def obsFG (n : Nat) (gs : List (Str × GK)) (xs : List Str) (tab : List Df) (g : Addr → Option Obj) : AlF × Bool := (obsF gs xs tab (He.frG g (He.asD g n)), sysB g)
def SaysF (gs : List (Str × GK)) (xs : List Str) (tab : List Df) (w : World) (K : PySem.W.Frag) : Prop := obsF gs xs tab K = valF gs tab w
def hookF (n : Nat) (gs : List (Str × GK)) (xs : List Str) (tab : List Df) : PySem.W.Hook where
  α := AlF × Bool
  obs := fun s => obsFG n gs xs tab s.heap.get?
  val := fun w => (valF gs tab w, true)
  says := fun w h => (∃ K : PySem.W.Frag, K.In h ∧ SaysF gs xs tab w K) ∧ ∃ o, h.get? sysModules = some o ∧ o.cls = .type "dict"
  of := fun _ s e => by
    have e1 := congrArg Prod.fst e
    have e2 : sysB s.heap.get? = true := congrArg Prod.snd e
    refine ⟨⟨_, He.frG_in, e1⟩, ?_⟩
    unfold sysB at e2
    cases q : s.heap.get? sysModules with
    | none => rw [q] at e2; cases e2
    | some o => rw [q] at e2; exact ⟨o, rfl, of_decide_eq_true e2⟩
  keeps := fun _ _ _ ⟨⟨K, hK, c⟩, o, ho, hc⟩ k => ⟨⟨K, PySem.W.Frag.In.keeps hK k, c⟩, o, k _ _ ho, hc⟩
theorem obsFG_eq {n : Nat} {gs : List (Str × GK)} {xs : List Str} {tab : List Df} {g : Addr → Option Obj} {s : Shared} (h : ∀ a, g a = s.heap.get? a) : obsFG n gs xs tab g = (hookF n gs xs tab).obs s := by
  have e : g = s.heap.get? := funext h
  rw [e] <;> rfl
def clOf (xs : List Str) (K : PySem.W.Frag) : Nat → Value := fun c => match xs[c]? with
  | some x => .ref (He.ga K x)
  | none => .none
def cOf (xs : List Str) (K : PySem.W.Frag) : Nat → Addr := fun c => match xs[c]? with
  | some x => He.ga K x
  | none => 0
theorem lookN_mem {k : Nat} {b : Bool} : ∀ {ds : List (Nat × Bool)}, ds.lookup k = some b → (k, b) ∈ ds
  | [], h => by cases h
  | (j, c) :: r, h => by
    rw [List.lookup_cons] at h
    by_cases q : k = j
    · subst q
      rw [beq_self_eq_true] at h
      cases h
      exact List.mem_cons_self
    · have : (k == j) = false := by simpa using q
      rw [this] at h
      exact List.mem_cons_of_mem _ (lookN_mem h)
theorem exIs_ok {xs : List Str} {K : PySem.W.Frag} {cv : Value} {ds : List (Nat × Bool)} (h : ds.all (exIsB K xs cv) = true) (k : Nat) (b : Bool) (l : ds.lookup k = some b) : ExIs K (clOf xs K) (cOf xs K) k b cv := by
  have z := List.all_eq_true.mp h (k, b) (lookN_mem l)
  unfold exIsB at z
  dsimp only at z
  cases q : xs[k]? with
  | none => rw [q] at z; cases z
  | some y =>
    rw [q] at z
    simp only [Bool.and_eq_true, decide_eq_true_eq] at z
    have e : cOf xs K k = He.ga K y := by unfold cOf; rw [q]
    have e2 : clOf xs K k = .ref (He.ga K y) := by unfold clOf; rw [q]
    exact ⟨by rw [e, e2], by rw [e]; exact excB_ok z.1.1, by rw [e]; exact z.1.2, by rw [e]; exact z.2⟩
def gsB (gs : List (Str × GK)) (tab : List Df) (xs : List Str) : Bool := gs.all fun p => match p.2 with
  | .fn id => (match tab[id]? with
    | some d => decide (d.name = p.1)
    | none => false)
  | .exc c _ => decide (xs[c]? = some p.1)
  | _ => true
def bindOk (d : Df) : Prop := ∀ (kV doc pm : Value) (an : Option Addr) (cdv ct : Value) (us : List Value), us.length = d.ps.length → bindArgs (PySem.W.fnOf d.name d.qual d.params d.body d.scope .none kV doc pm an cdv ct) ⟨us, []⟩ = pure (d.ps.zip us)
theorem fa_cons {y : Str} {k : GK} {r : List (Str × GK)} : faOf ((y, k) :: r) = faOf [(y, k)] ++ faOf r := by
  cases k <;> rfl
theorem fa_mem {x : Str} {g : GK} {f : He.Fa} : ∀ {gs : List (Str × GK)}, (x, g) ∈ gs → f ∈ faOf [(x, g)] → f ∈ faOf gs
  | [], h, _ => by cases h
  | (y, k) :: r, h, hf => by
    rw [fa_cons, List.mem_append]
    rcases List.mem_cons.mp h with e | h
    · cases e; exact .inl hf
    · exact .inr (fa_mem h hf)
theorem ts_mem {x : Str} {kvs : List (Str × Int)} : ∀ {gs : List (Str × GK)}, (x, GK.kd kvs) ∈ gs → ∃ i : Nat, (tsOf gs)[i]? = some ((fun K => He.ga K x, kvs.map (·.1)) : He.Tab)
  | [], h => by cases h
  | (y, k) :: r, h => by
    rcases List.mem_cons.mp h with e | h
    · cases e
      exact ⟨0, rfl⟩
    · obtain ⟨i, z⟩ := ts_mem h
      cases k <;> first | exact ⟨i, z⟩ | exact ⟨i + 1, z⟩
def fOf (tab : List Df) (K : PySem.W.Frag) (id : Nat) : Addr := match tab[id]? with
  | some d => He.ga K d.name
  | none => 0
theorem modOk_of {gs : List (Str × GK)} {tab : List Df} {xs : List Str} {w : World} {K : PySem.W.Frag} {h : Heap} {mg : Str → Option Value} (X : K.In h) (G : h.Ns mainGlobals mg) (c : SaysF gs xs tab w K) (hb : gsB gs tab xs = true) (hd : ∀ d ∈ tab, FnScope d.N d.ps d.scope ∧ bindOk d) :
    ∃ fd, ModOk w K mg (clOf xs K) (cOf xs K) (fun x => gs.lookup x) tab (fOf tab K) fd := by
  have cT : He.SaysT (faOf gs) (tab.map ddOf) (tsOf gs) w K := congrArg (fun z : AlF => z.1) c
  have cD := cT.d
  have cE : (gs.all fun p => exB xs K p.1 p.2) = true := congrArg (fun z : AlF => z.2.1) c
  have fact : ∀ f ∈ faOf gs, f.ok K = true := fun f hf => List.all_eq_true.mp (He.ba (show ((faOf gs).all (fun f => f.ok K) && (tab.map ddOf).all fun d => d.ok K) = true from congrArg (fun z : He.AlD => z.1) cD)).1 f hf
  have ex : ∀ id, ∃ fd, ∀ d, tab[id]? = some d → FunD K d.name d.qual d.params d.body d.scope [] [] (fOf tab K id) fd := fun id => by
    cases e : tab[id]? with
    | none => exact ⟨default, fun d z => by cases z⟩
    | some d =>
      obtain ⟨fd, F⟩ := cD.def_ id (d := ddOf d) (by rw [List.getElem?_map, e]; rfl)
      refine ⟨fd, fun d' z => ?_⟩
      cases z
      have ef : fOf tab K id = He.fAd K (ddOf d).at_ := by unfold fOf; rw [e]; rfl
      rw [ef]
      exact F
  refine ⟨fun id => Classical.choose (ex id), ⟨fun x id e => ?_, fun id d e => ?_, fun x g e => ?_⟩⟩
  · have m := mem_of_lookup e
    have z := List.all_eq_true.mp hb _ m
    have z : (match tab[id]? with
      | some d => decide (d.name = x)
      | none => false) = true := z
    cases q : tab[id]? with
    | none => rw [q] at z; cases z
    | some d =>
      rw [q] at z
      have en : d.name = x := of_decide_eq_true z
      refine ⟨?_, d, rfl⟩
      have g1 := He.glo_ok X G (fact _ (fa_mem (f := .glo x) m (by simp [faOf])))
      unfold fOf
      rw [q, ← en]
      rw [← en] at g1
      exact g1
  · obtain ⟨S, b⟩ := hd d (List.mem_of_getElem? e)
    have F := Classical.choose_spec (ex id) d e
    exact ⟨F, S, F.bindsN b⟩
  · have m := mem_of_lookup e
    have z := List.all_eq_true.mp cE _ m
    have zb := List.all_eq_true.mp hb _ m
    cases g with
    | fn id => exact trivial
    | bt => exact He.free_ok X G (fact _ (fa_mem (f := .free x) m (by simp [faOf])))
    | con u =>
      have z : (match PySem.W.nsIn K mainGlobals x with
        | some (some y) => conW K 20 u y
        | _ => false) = true := z
      cases q : PySem.W.nsIn K mainGlobals x with
      | none => rw [q] at z; cases z
      | some r =>
        rw [q] at z
        cases r with
        | none => cases z
        | some y =>
          obtain ⟨v, h1, h2⟩ := conW_ok 20 u y z
          exact ⟨y, v, PySem.W.mg_of X G q, h1, h2⟩
    | kd kvs =>
      have g1 := He.glo_ok X G (fact _ (fa_mem (f := .glo x) m (by simp [faOf])))
      obtain ⟨i, hi⟩ := ts_mem m
      obtain ⟨es, n, D⟩ := cT.tab i hi
      have D : KDict K w (He.ga K x) es n := D
      refine ⟨He.ga K x, es, n, D, g1, fun y => ?_⟩
      have z : (match K.lookup (He.ga K x) with
        | some ⟨_, _, .dict es _, _⟩ => kdGo es.toList kvs
        | _ => false) = true := z
      rw [D.at_] at z
      obtain ⟨n1, n2⟩ := kdGo_ok (show kdGo es.toList kvs = true from z)
      have n2 := n2 y
      unfold PySem.W.nsIn
      rw [D.at_]
      cases l : kvs.lookup y with
      | none =>
        rw [l] at n2
        have n2 : es.toList.find? (·.key.isStr y) = none := n2
        refine ⟨none, ?_, rfl⟩
        show (match es.toList.find? (·.key.isStr y) with
          | some e => some (some e.val)
          | none => if es.toList.any (·.refKey) then none else some none) = some none
        rw [n2]
        show (if es.toList.any (·.refKey) = true then none else some none) = some none
        rw [n1]; rfl
      | some j =>
        rw [l] at n2
        obtain ⟨e, t, f1, f2⟩ := n2
        refine ⟨some e.val, ?_, e.val, rfl, t, f2⟩
        show (match es.toList.find? (·.key.isStr y) with
          | some e => some (some e.val)
          | none => if es.toList.any (·.refKey) then none else some none) = some (some e.val)
        rw [f1]
    | ve ds =>
      obtain ⟨z1, z2⟩ := Bool.and_eq_true_iff.mp (show (decide (x = "ValueError") && ds.all (exIsB K xs (.type "ValueError"))) = true from z)
      exact ⟨of_decide_eq_true z1, He.free_ok X G (fact _ (fa_mem (f := .free x) m (by simp [faOf]))), exIs_ok z2⟩
    | exc k ds =>
      have z : ds.all (exIsB K xs (.ref (He.ga K x))) = true := z
      have zb : decide (xs[k]? = some x) = true := zb
      have zb := of_decide_eq_true zb
      have g1 := He.glo_ok X G (fact _ (fa_mem (f := .glo x) m (by simp [faOf])))
      obtain ⟨a1, a2, a3, a4⟩ := He.exc_ok (fact _ (fa_mem (f := .exc x) m (by simp [faOf])))
      exact ⟨He.ga K x, "ValueError", "ValueError.__new__", "ValueError.__init__", He.veBase, ⟨by unfold cOf; rw [zb], exIs_ok z⟩, PySem.F.excBase_ValueError, by unfold clOf; rw [zb], a1, g1, a2, a3, a4⟩
/-- THE LAW'S END, from the look -/
theorem walkF {l : PySem.W.OpenLaw} {n k m : Nat} {q : Program} {loose : List Str} {XP : (Str → Option Value) → Heap → Prop} {d : DefRec} {x : Str} {gs : List (Str × GK)} {tab : List Df} {xs : List Str} {id : Nat} {dl : Df}
    (hn : l.most = some n) (hn2 : n ≤ sizeLine) (hdf : d.params.defaults = []) (hr : Room k callerA) (he : tab[id]? = some dl) (hx : dl.ps = [x]) (hl : gs.lookup d.name = some (.fn id)) (hb : gsB gs tab xs = true) (hd : ∀ d ∈ tab, FnScope d.N d.ps d.scope ∧ bindOk d)
    (E : ∀ ns : List Int, ns.length ≤ n → ∃ h', Phi (fun x => gs.lookup x) tab k id [.ro (ns.map W.int)] ih0 = .ok (.bl true) h') :
    PySem.W.WalkO q loose XP (hookF m gs xs tab).says l.row.toRowW d [] (fun f vs => PySem.call f vs) := by
  refine walkG hn hn2 hdf hr he hx (fun w mg fa h Y G hm => ?_) E
  obtain ⟨⟨K, X, c⟩, hs1⟩ := Y
  obtain ⟨fd, M⟩ := modOk_of (xs := xs) X G c hb hd
  refine ⟨K, clOf xs K, cOf xs K, fOf tab K, fd, X, M, ?_, by have z : (K.lookup sysModules).isNone = true := congrArg (fun z : AlF => z.2.2) c; simpa using z, hs1, fun s u => ?_⟩
  · have z := (M.fn _ id hl).1
    rw [hm] at z
    cases z
    rfl
  · obtain ⟨F, _, _⟩ := M.def_ id dl he
    have b := FunD.bindsA F (hd dl (List.mem_of_getElem? he)).2 s [u] (by rw [hx]; rfl)
    rw [hx] at b
    exact b
end Fw

set_option Elab.async false
set_option linter.all false
set_option maxRecDepth 100000
/-! Fw, part W: what an evaluation ends in, told forwards. -/
namespace Fw
open PySem
/-- it ends well, and P holds -/
def Rs.Wp {α : Type} (r : Rs α) (P : α → IH → Prop) : Prop := match r with
  | .ok a h => P a h
  | _ => False
@[simp] theorem Rs.Wp_ok {α : Type} (a : α) (h : IH) (P : α → IH → Prop) : (Rs.ok a h).Wp P = P a h := rfl
theorem Rs.Wp.mono {α : Type} {r : Rs α} {P Q : α → IH → Prop} (w : r.Wp P) (k : ∀ a h, P a h → Q a h) : r.Wp Q := by
  cases r with
  | ok a h => exact k a h w
  | exc c h => exact w
  | stuck => exact w
theorem Rs.Wp_bind {α β : Type} {r : Rs α} {k : α → IH → Rs β} {P : β → IH → Prop} : (r.bind k).Wp P = r.Wp fun a h => (k a h).Wp P := by
  cases r <;> rfl
theorem Rs.Wp.bind {α β : Type} {r : Rs α} {k : α → IH → Rs β} {P : β → IH → Prop} (w : r.Wp fun a h => (k a h).Wp P) : (r.bind k).Wp P := by
  cases r with
  | ok a h => exact w
  | exc c h => exact w
  | stuck => exact w
theorem Rs.Wp.ex {α : Type} {r : Rs α} {P : α → IH → Prop} (w : r.Wp P) : ∃ a h, r = .ok a h ∧ P a h := by
  cases r with
  | ok a h => exact ⟨a, h, rfl, w⟩
  | exc c h => exact w.elim
  | stuck => exact w.elim
/-- a block's ends: on, return, break, continue -/
structure Dn where
  n : Env → IH → Prop
  r : W → IH → Prop
  b : Env → IH → Prop := fun _ _ => False
  c : Env → IH → Prop := fun _ _ => False
def RS.Wp (s : RS) (D : Dn) : Prop := match s with
  | .nx e h => D.n e h
  | .rt w h => D.r w h
  | .bk e h => D.b e h
  | .ct e h => D.c e h
  | _ => False
@[simp] theorem RS.Wp_nx (e : Env) (h : IH) (D : Dn) : (RS.nx e h).Wp D = D.n e h := rfl
@[simp] theorem RS.Wp_rt (w : W) (h : IH) (D : Dn) : (RS.rt w h).Wp D = D.r w h := rfl
@[simp] theorem RS.Wp_bk (e : Env) (h : IH) (D : Dn) : (RS.bk e h).Wp D = D.b e h := rfl
@[simp] theorem RS.Wp_ct (e : Env) (h : IH) (D : Dn) : (RS.ct e h).Wp D = D.c e h := rfl
theorem W_st {α : Type} {r : Rs α} {e : Env} {k : α → IH → RS} {D : Dn} (w : r.Wp fun a h => (k a h).Wp D) : (r.st e k).Wp D := by
  cases r with
  | ok a h => exact w
  | exc c h => exact w.elim
  | stuck => exact w.elim
theorem W_sg {r : Rs Env} {k : Env → IH → RS} {D : Dn} (w : r.Wp fun a h => (k a h).Wp D) : (r.sg k).Wp D := by
  cases r with
  | ok a h => exact w
  | exc c h => exact w.elim
  | stuck => exact w.elim
theorem W_seq {s t : SS} {e : Env} {h : IH} {D : Dn} (w : (s e h).Wp { D with n := fun e h => (t e h).Wp D }) : (sSeq s t e h).Wp D := by
  unfold sSeq
  cases q : s e h with
  | nx e h => rw [q] at w; exact w
  | rt x h => rw [q] at w; exact w
  | bk e h => rw [q] at w; exact w
  | ct e h => rw [q] at w; exact w
  | ex c e h => rw [q] at w; exact w
  | stuck => rw [q] at w; exact w
theorem RS.Wp.mono {s : RS} {D D' : Dn} (w : s.Wp D) (hn : ∀ e h, D.n e h → D'.n e h) (hr : ∀ x h, D.r x h → D'.r x h) (hb : ∀ e h, D.b e h → D'.b e h) (hc : ∀ e h, D.c e h → D'.c e h) : s.Wp D' := by
  cases s with
  | nx e h => exact hn _ _ w
  | rt x h => exact hr _ _ w
  | bk e h => exact hb _ _ w
  | ct e h => exact hc _ _ w
  | ex c e h => exact w
  | stuck => exact w
/-- an if whose test's value is known when it is known -/
theorem W_if {t : ET} {a b : SS} {e : Env} {h : IH} {D : Dn} (w : (t e h).Wp fun c h => if c = true then (a e h).Wp D else (b e h).Wp D) : (sIf t a b e h).Wp D := by
  unfold sIf
  refine W_st (w.mono fun c h z => ?_)
  cases c with
  | true => exact z
  | false => exact z
/-- a walk over what stands still: I by the turns done -/
theorem W_for {s : EI} {g : EG} {b : SS} {e : Env} {h : IH} {D : Dn} (w : (s e h).Wp fun J h1 => ∃ (I : Nat → Env → IH → Prop), I 0 e h1 ∧
    (∀ i e h2, I i e h2 → i < J.cnt h1 → ∃ x, J.nth h2 i = some x ∧ (g x e h2).Wp fun e h3 => (b e h3).Wp { n := I (i + 1), r := D.r, b := D.n, c := I (i + 1) }) ∧
    ∀ e h2, I (J.cnt h1) e h2 → J.fin h2 (J.cnt h1) = true ∧ D.n e h2) : (sFor s g b e h).Wp D := by
  unfold sFor
  refine W_st (w.mono fun J h1 z => ?_)
  obtain ⟨I, i0, step, fin⟩ := z
  have go : ∀ (m i : Nat) (e : Env) (h2 : IH), i + m = J.cnt h1 → I i e h2 → (forL g b J m i e h2).Wp D := by
    intro m
    induction m with
    | zero =>
      intro i e h2 hi hI
      have ei : i = J.cnt h1 := by omega
      subst ei
      obtain ⟨f, d⟩ := fin e h2 hI
      unfold forL
      rw [f]
      exact d
    | succ m ih =>
      intro i e h2 hi hI
      obtain ⟨x, hx, st⟩ := step i e h2 hI (by omega)
      unfold forL
      rw [hx]
      refine W_sg (st.mono fun e h3 z => ?_)
      cases q : b e h3 with
      | nx e h => rw [q] at z; exact ih (i + 1) e h (by omega) z
      | ct e h => rw [q] at z; exact ih (i + 1) e h (by omega) z
      | bk e h => rw [q] at z; exact z
      | rt x h => rw [q] at z; exact z
      | ex c e h => rw [q] at z; exact z
      | stuck => rw [q] at z; exact z
  exact go _ 0 e h1 (by omega) i0
/-- a while: I with what grows less -/
theorem W_while {t : ET} {b : SS} {e : Env} {h : IH} {D : Dn} (I : Nat → Env → IH → Prop) (m0 : Nat) (hm : m0 < whileFuel) (i0 : I m0 e h)
    (step : ∀ m e h, I m e h → (t e h).Wp fun c h => if c = true then (b e h).Wp { n := fun e h => ∃ m', m' < m ∧ I m' e h, r := D.r, b := D.n, c := fun e h => ∃ m', m' < m ∧ I m' e h } else D.n e h) : (sWhile t b e h).Wp D := by
  have go : ∀ (n m : Nat) (e : Env) (h : IH), m < n → I m e h → (whileN t b n e h).Wp D := by
    intro n
    induction n with
    | zero => intro m e h hm; omega
    | succ n ih =>
      intro m e h hm hI
      unfold whileN
      refine W_st ((step m e h hI).mono fun c h z => ?_)
      cases c with
      | false => exact z
      | true =>
        have z : (b e h).Wp _ := z
        dsimp only
        cases q : b e h with
        | nx e h => rw [q] at z; obtain ⟨m', hl, z⟩ := z; exact ih m' e h (by omega) z
        | ct e h => rw [q] at z; obtain ⟨m', hl, z⟩ := z; exact ih m' e h (by omega) z
        | bk e h => rw [q] at z; exact z
        | rt x h => rw [q] at z; exact z
        | ex c e h => rw [q] at z; exact z
        | stuck => rw [q] at z; exact z
  exact go _ m0 e h hm i0
/-- a comprehension: I by the turns done and what is made so far -/
theorem W_lc {s : EI} {g : EG} {t : ET} {f : EE} {vs : List Nat} {e : Env} {h : IH} {P : W → IH → Prop} (w : (s e h).Wp fun J h1 => ∃ (I : Nat → List W → IH → Prop), I 0 [] h1 ∧
    (∀ i xs h2, I i xs h2 → i < J.cnt h1 → ∃ x, J.nth h2 i = some x ∧ (g x (wipeW e vs) h2).Wp fun e h3 => (t e h3).Wp fun c h4 => if c = true then (f e h4).Wp fun y h5 => I (i + 1) (xs ++ [y]) h5 else I (i + 1) xs h4) ∧
    ∀ xs h2, I (J.cnt h1) xs h2 → J.fin h2 (J.cnt h1) = true ∧ xs.length ≤ 16777216 ∧ P (.loc h2.n) (h2.new (.lst xs))) : (eLc s g t f vs e h).Wp P := by
  unfold eLc
  refine Rs.Wp.bind (w.mono fun J h1 z => ?_)
  obtain ⟨I, i0, step, fin⟩ := z
  have go : ∀ (m i : Nat) (acc : List W) (h2 : IH), i + m = J.cnt h1 → I i acc h2 → ∃ xs h3, lcL g t f J (wipeW e vs) m i h2 = .ok xs h3 ∧ I (J.cnt h1) (acc ++ xs) h3 := by
    intro m
    induction m with
    | zero =>
      intro i acc h2 hi hI
      have ei : i = J.cnt h1 := by omega
      subst ei
      refine ⟨[], h2, ?_, by rw [List.append_nil]; exact hI⟩
      unfold lcL
      rw [(fin acc h2 hI).1]
    | succ m ih =>
      intro i acc h2 hi hI
      obtain ⟨x, hx, st⟩ := step i acc h2 hI (by omega)
      unfold lcL
      rw [hx]
      dsimp only
      obtain ⟨e3, h3, q3, st⟩ := st.ex
      rw [q3, Rs.bind_ok]
      obtain ⟨c, h4, q4, st⟩ := st.ex
      rw [q4, Rs.bind_ok]
      cases c with
      | true =>
        obtain ⟨y, h5, q5, st⟩ := Rs.Wp.ex (show (f e3 h4).Wp _ from st)
        dsimp only
        rw [q5, Rs.bind_ok]
        obtain ⟨xs, h6, q6, z⟩ := ih (i + 1) _ h5 (by omega) st
        rw [q6, Rs.bind_ok]
        exact ⟨y :: xs, h6, rfl, by rw [List.append_assoc] at z; exact z⟩
      | false => exact ih (i + 1) acc h4 (by omega) st
  obtain ⟨xs, h3, q, z⟩ := go (J.cnt h1) 0 [] h1 (by omega) i0
  rw [q]
  obtain ⟨_, hl, p⟩ := fin xs h3 z
  show (Rs.need (lenOk xs.length) _).Wp P
  rw [lenOk_iff.mpr hl]
  exact p
end Fw

set_option Elab.async false
set_option linter.all false
set_option maxRecDepth 100000
/-! Fw, part X: the same as equations, for simp. -/
namespace Fw
open PySem
section
variable {e : Env} {h : IH} {P : W → IH → Prop} {N : Env → IH → Prop} {R : W → IH → Prop} {B1 C1 : Env → IH → Prop} {f g l : EE} {k k' : W → W → IH → Rs W} {t u : ET} {a b : SS}
theorem x_seq : (sSeq a b e h).Wp (Dn.mk N R B1 C1) = (a e h).Wp (Dn.mk (fun e h => (b e h).Wp (Dn.mk N R B1 C1)) R B1 C1) := by
  unfold sSeq
  cases a e h <;> rfl
theorem x_next : (sNext e h).Wp (Dn.mk N R B1 C1) = N e h := rfl
theorem x_brk : (sBreak e h).Wp (Dn.mk N R B1 C1) = B1 e h := rfl
theorem x_cont : (sCont e h).Wp (Dn.mk N R B1 C1) = C1 e h := rfl
theorem x_asg {tg : EG} : (sAsg f tg e h).Wp (Dn.mk N R B1 C1) = (f e h).Wp fun w h => (tg w e h).Wp (Dn.mk N R B1 C1).n := by
  unfold sAsg
  cases f e h with
  | ok w h1 =>
    show ((tg w e h1).sg _).Wp (Dn.mk N R B1 C1) = (tg w e h1).Wp (Dn.mk N R B1 C1).n
    cases tg w e h1 <;> rfl
  | exc c h1 => rfl
  | stuck => rfl
theorem x_expr : (sExpr f e h).Wp (Dn.mk N R B1 C1) = (f e h).Wp fun _ h => N e h := by
  unfold sExpr
  cases f e h <;> rfl
theorem x_ret : (sRet f e h).Wp (Dn.mk N R B1 C1) = (f e h).Wp (Dn.mk N R B1 C1).r := by
  unfold sRet
  cases f e h <;> rfl
theorem x_retN : (sRetN e h).Wp (Dn.mk N R B1 C1) = R .non h := rfl
theorem x_if : (sIf t a b e h).Wp (Dn.mk N R B1 C1) = (t e h).Wp fun c h => (c = true → (a e h).Wp (Dn.mk N R B1 C1)) ∧ (c = false → (b e h).Wp (Dn.mk N R B1 C1)) := by
  unfold sIf
  cases t e h with
  | ok c h1 => cases c <;> simp [Rs.st, Rs.Wp]
  | exc c h1 => rfl
  | stuck => rfl
theorem x_par2 {i j : Nat} {x y : EE} : (sPar2 i j (aCons x (aCons y aNil)) e h).Wp (Dn.mk N R B1 C1) = (x e h).Wp fun v h => (y e h).Wp fun w h => (gNm i v e h).Wp fun e h => (gNm j w e h).Wp N := by
  unfold sPar2 aCons aNil
  cases x e h with
  | ok v h1 =>
    show ((Rs.bind (Rs.bind (y e h1) _) _).st e _).Wp (Dn.mk N R B1 C1) = (y e h1).Wp _
    cases y e h1 <;> rfl
  | exc c h1 => rfl
  | stuck => rfl
theorem x_par3 {i j m : Nat} {x y z : EE} : (sPar3 i j m (aCons x (aCons y (aCons z aNil))) e h).Wp (Dn.mk N R B1 C1) = (x e h).Wp fun v h => (y e h).Wp fun w h => (z e h).Wp fun u h => (gNm i v e h).Wp fun e h => (gNm j w e h).Wp fun e h => (gNm m u e h).Wp N := by
  unfold sPar3 aCons aNil
  cases x e h with
  | ok v h1 =>
    show ((Rs.bind (Rs.bind (y e h1) _) _).st e _).Wp (Dn.mk N R B1 C1) = (y e h1).Wp _
    cases y e h1 with
    | ok w h2 =>
      show ((Rs.bind (Rs.bind (Rs.bind (z e h2) _) _) _).st e _).Wp (Dn.mk N R B1 C1) = (z e h2).Wp _
      cases z e h2 <;> rfl
    | exc c h1 => rfl
    | stuck => rfl
  | exc c h1 => rfl
  | stuck => rfl
/-! expressions -/
theorem x_var {i : Nat} {w : W} (q : e[i]? = some (some w)) : (eVar i e h).Wp P = P w h := by
  unfold eVar; rw [q]; rfl
theorem x_C {w : W} : (eC w e h).Wp P = P w h := rfl
theorem x_e1 {k : W → IH → Rs W} : (e1 k f e h).Wp P = (f e h).Wp fun x h => (k x h).Wp P := Rs.Wp_bind
theorem x_e2 : (e2 k f g e h).Wp P = (f e h).Wp fun x h => (g e h).Wp fun y h => (k x y h).Wp P := by
  unfold e2
  rw [Rs.Wp_bind]
  congr; funext x h; rw [Rs.Wp_bind]
theorem x_nil {Q : List W → IH → Prop} : (aNil e h).Wp Q = Q [] h := rfl
theorem x_cons {r : EA} {Q : List W → IH → Prop} : (aCons f r e h).Wp Q = (f e h).Wp fun w h => (r e h).Wp fun ws h => Q (w :: ws) h := by
  unfold aCons
  rw [Rs.Wp_bind]
  congr; funext x h; rw [Rs.Wp_bind]; rfl
theorem x_eA {k : List W → IH → Rs W} {r : EA} : (eA k r e h).Wp P = (r e h).Wp fun ws h => (k ws h).Wp P := Rs.Wp_bind
theorem x_call {Φ : FT} {id : Nat} {r : EA} : (eCall Φ id r e h).Wp P = (r e h).Wp fun ws h => (Φ id ws h).Wp P := Rs.Wp_bind
theorem need_wp {α : Type} {c : Bool} {r : Rs α} {Q : α → IH → Prop} : (Rs.need c r).Wp Q = (c = true ∧ r.Wp Q) := by
  cases c <;> simp [Rs.need, Rs.Wp]
theorem x_tup {r : EA} : (eTup r e h).Wp P = (r e h).Wp fun ws h => lenOk ws.length = true ∧ P (.tup ws) h := by
  unfold eTup
  rw [Rs.Wp_bind]
  congr; funext x h; rw [need_wp]; rfl
theorem x_lst {r : EA} : (eLst r e h).Wp P = (r e h).Wp fun ws h => lenOk ws.length = true ∧ P (.loc h.n) (h.new (.lst ws)) := by
  unfold eLst
  rw [Rs.Wp_bind]
  congr; funext x h; rw [need_wp]; rfl
theorem x_eIf : (eIf t f g e h).Wp P = (t e h).Wp fun c h => (c = true → (f e h).Wp P) ∧ (c = false → (g e h).Wp P) := by
  unfold eIf
  rw [Rs.Wp_bind]
  congr; funext x h; cases x <;> simp
theorem x_mt {chk : W → IH → Bool} {m : List W → IH → Rs W} {r : EA} : (eMt chk m f r e h).Wp P = (f e h).Wp fun x h => chk x h = true ∧ (r e h).Wp fun ws h => (m (x :: ws) h).Wp P := by
  unfold eMt
  rw [Rs.Wp_bind]
  congr; funext x h; rw [need_wp, Rs.Wp_bind]
theorem x_sl {lo hi : EO} : (eSl f lo hi e h).Wp P = (f e h).Wp fun w h => (lo e h).Wp fun a h => (hi e h).Wp fun b h => (oSl a b w h).Wp P := by
  unfold eSl
  rw [Rs.Wp_bind]
  congr; funext x h; rw [Rs.Wp_bind]
  congr; funext y h; rw [Rs.Wp_bind]
theorem x_none {Q : Option Int → IH → Prop} : (pNone e h).Wp Q = Q none h := rfl
theorem x_some {Q : Option Int → IH → Prop} {w : Int} : (pSome (eC (.int w)) e h).Wp Q = Q (some w) h := rfl
/-! tests -/
variable {B : Bool → IH → Prop}
theorem x_bol : (tBol f e h).Wp B = (f e h).Wp fun w h => (bolW w h).Wp B := Rs.Wp_bind
theorem x_bolW {c : Bool} : (bolW (.bl c) h).Wp B = B c h := rfl
theorem x_tru : (tTru f e h).Wp B = (f e h).Wp fun w h => (truW w h).Wp B := Rs.Wp_bind
theorem x_not : (tNot t e h).Wp B = (t e h).Wp fun c h => B (!c) h := Rs.Wp_bind
theorem x_and : (tAnd t u e h).Wp B = (t e h).Wp fun c h => (c = true → (u e h).Wp B) ∧ (c = false → B false h) := by
  unfold tAnd
  rw [Rs.Wp_bind]
  congr; funext x h; cases x <;> simp
theorem x_or : (tOr t u e h).Wp B = (t e h).Wp fun c h => (c = true → B true h) ∧ (c = false → (u e h).Wp B) := by
  unfold tOr
  rw [Rs.Wp_bind]
  congr; funext x h; cases x <;> simp
theorem x_yes : (tYes e h).Wp B = B true h := rfl
/-! targets -/
theorem x_nm {i : Nat} {w : W} {Q : Env → IH → Prop} : (gNm i w e h).Wp Q = Q (e.set i (some w)) h := rfl
theorem x_sb {o i : EE} {w : W} {Q : Env → IH → Prop} : (gSb o i w e h).Wp Q = (o e h).Wp fun x h => (i e h).Wp fun y h => (oSet x y w h).Wp fun _ h => Q e h := by
  unfold gSb
  rw [Rs.Wp_bind]
  congr; funext x h; rw [Rs.Wp_bind]
  congr; funext y h; rw [Rs.Wp_bind]; rfl
/-! ints -/
variable {i j : Int}
theorem x_add : (oAdd (.int i) (.int j) h).Wp P = P (.int (i + j)) h := rfl
theorem x_sub : (oSub (.int i) (.int j) h).Wp P = P (.int (i - j)) h := rfl
theorem x_mul : (oMul (.int i) (.int j) h).Wp P = ((inPow64 i || inPow64 j) = true ∧ P (.int (i * j)) h) := need_wp
theorem x_mod : (oMod (.int i) (.int j) h).Wp P = (0 < j ∧ P (.int (i % j)) h) := by
  show (Rs.need _ _).Wp P = _
  rw [need_wp, decide_eq_true_eq]; rfl
theorem x_div : (oDiv (.int i) (.int j) h).Wp P = ((0 < j ∧ j < 1073741824) ∧ P (.int (i / j)) h) := by
  show (Rs.need _ _).Wp P = _
  rw [need_wp, Bool.and_eq_true, decide_eq_true_eq, decide_eq_true_eq]; rfl
theorem x_pow : (oPow (.int i) (.int j) h).Wp P = (((0 ≤ j ∧ j ≤ 1000000) ∧ inPow64 i = true) ∧ P (.int (i ^ j.toNat)) h) := by
  show (Rs.need _ _).Wp P = _
  rw [need_wp, Bool.and_eq_true, Bool.and_eq_true, decide_eq_true_eq, decide_eq_true_eq]; rfl
theorem x_lt : (oLt (.int i) (.int j) h).Wp P = P (.bl (decide (i < j))) h := rfl
theorem x_le : (oLe (.int i) (.int j) h).Wp P = P (.bl (decide (i ≤ j))) h := rfl
theorem x_gt : (oGt (.int i) (.int j) h).Wp P = P (.bl (decide (j < i))) h := rfl
theorem x_ge : (oGe (.int i) (.int j) h).Wp P = P (.bl (decide (j ≤ i))) h := rfl
theorem x_eqI : (oEq (.int i) (.int j) h).Wp P = P (.bl (decide (i = j))) h := rfl
theorem x_neI : (oNe (.int i) (.int j) h).Wp P = P (.bl (!decide (i = j))) h := rfl
theorem atI_ok_ {ws : List W} {w : W} (h0 : 0 ≤ i) (hw : ws[i.toNat]? = some w) : L2.atI ws i = some w := by
  have hl : i.toNat < ws.length := (List.getElem?_eq_some_iff.mp hw).1
  unfold L2.atI L2.ixN
  rw [if_pos h0, if_pos (by omega)]
  exact hw
theorem x_ix {a : Nat} {ws : List W} {w : W} (g : h.get a = some (.lst ws)) (h0 : 0 ≤ i) (hw : ws[i.toNat]? = some w) : (oIx (.loc a) (.int i) h).Wp P = P w h := by
  unfold oIx; dsimp only; rw [g]; dsimp only; rw [atI_ok_ h0 hw]; rfl
theorem x_ixT {ws : List W} {w : W} (h0 : 0 ≤ i) (hw : ws[i.toNat]? = some w) : (oIx (.tup ws) (.int i) h).Wp P = P w h := by
  unfold oIx; dsimp only; rw [atI_ok_ h0 hw]; rfl
theorem x_lenL {a : Nat} {ws : List W} (g : h.get a = some (.lst ws)) : (k1 oLen [.loc a] h).Wp P = P (.int ws.length) h := by
  unfold k1 oLen; dsimp only; rw [g]; rfl
theorem x_lenT {ws : List W} : (k1 oLen [.tup ws] h).Wp P = P (.int ws.length) h := rfl
theorem x_catL {a b : Nat} {xs ys : List W} (g1 : h.get a = some (.lst xs)) (g2 : h.get b = some (.lst ys)) : (oAdd (.loc a) (.loc b) h).Wp P = (lenOk (xs.length + ys.length) = true ∧ P (.loc h.n) (h.new (.lst (xs ++ ys)))) := by
  unfold oAdd; dsimp only; rw [g1]; dsimp only; rw [g2]; dsimp only; rw [need_wp]; rfl
theorem x_set {a : Nat} {ws : List W} {w : W} (g : h.get a = some (.lst ws)) (h0 : 0 ≤ i) (h1 : i < ws.length) {Q : Unit → IH → Prop} : (oSet (.loc a) (.int i) w h).Wp Q = Q () (h.set a (.lst (ws.set i.toNat w))) := by
  unfold oSet; dsimp only; rw [g]; dsimp only
  unfold L2.ixN
  rw [if_pos h0, if_pos h1]; rfl
/-- a def's call -/
theorem x_callB {n m : Nat} {ws : List W} (hl : ws.length = n) : (callB a n m ws h).Wp P = (a (ws.map some ++ List.replicate (m - ws.length) none) h).Wp ⟨fun _ h => P .non h, P, fun _ _ => False, fun _ _ => False⟩ := by
  unfold callB
  rw [hl, Nat.beq_refl]
  show (runBody m a ws h).Wp P = _
  unfold runBody
  rw [hl]
  cases a (ws.map some ++ List.replicate (m - n) none) h <;> rfl
theorem v0 {w : W} {e : Env} : (eVar 0 (some w :: e) h).Wp P = P w h := rfl
theorem n0 {y : Option W} {w : W} {e : Env} {Q : Env → IH → Prop} : (gNm 0 w (y :: e) h).Wp Q = Q (some w :: e) h := rfl
theorem v1 {x0 : Option W} {w : W} {e : Env} : (eVar 1 (x0 :: some w :: e) h).Wp P = P w h := rfl
theorem n1 {x0 : Option W} {y : Option W} {w : W} {e : Env} {Q : Env → IH → Prop} : (gNm 1 w (x0 :: y :: e) h).Wp Q = Q (x0 :: some w :: e) h := rfl
theorem v2 {x0 x1 : Option W} {w : W} {e : Env} : (eVar 2 (x0 :: x1 :: some w :: e) h).Wp P = P w h := rfl
theorem n2 {x0 x1 : Option W} {y : Option W} {w : W} {e : Env} {Q : Env → IH → Prop} : (gNm 2 w (x0 :: x1 :: y :: e) h).Wp Q = Q (x0 :: x1 :: some w :: e) h := rfl
theorem v3 {x0 x1 x2 : Option W} {w : W} {e : Env} : (eVar 3 (x0 :: x1 :: x2 :: some w :: e) h).Wp P = P w h := rfl
theorem n3 {x0 x1 x2 : Option W} {y : Option W} {w : W} {e : Env} {Q : Env → IH → Prop} : (gNm 3 w (x0 :: x1 :: x2 :: y :: e) h).Wp Q = Q (x0 :: x1 :: x2 :: some w :: e) h := rfl
theorem v4 {x0 x1 x2 x3 : Option W} {w : W} {e : Env} : (eVar 4 (x0 :: x1 :: x2 :: x3 :: some w :: e) h).Wp P = P w h := rfl
theorem n4 {x0 x1 x2 x3 : Option W} {y : Option W} {w : W} {e : Env} {Q : Env → IH → Prop} : (gNm 4 w (x0 :: x1 :: x2 :: x3 :: y :: e) h).Wp Q = Q (x0 :: x1 :: x2 :: x3 :: some w :: e) h := rfl
theorem v5 {x0 x1 x2 x3 x4 : Option W} {w : W} {e : Env} : (eVar 5 (x0 :: x1 :: x2 :: x3 :: x4 :: some w :: e) h).Wp P = P w h := rfl
theorem n5 {x0 x1 x2 x3 x4 : Option W} {y : Option W} {w : W} {e : Env} {Q : Env → IH → Prop} : (gNm 5 w (x0 :: x1 :: x2 :: x3 :: x4 :: y :: e) h).Wp Q = Q (x0 :: x1 :: x2 :: x3 :: x4 :: some w :: e) h := rfl
theorem v6 {x0 x1 x2 x3 x4 x5 : Option W} {w : W} {e : Env} : (eVar 6 (x0 :: x1 :: x2 :: x3 :: x4 :: x5 :: some w :: e) h).Wp P = P w h := rfl
theorem n6 {x0 x1 x2 x3 x4 x5 : Option W} {y : Option W} {w : W} {e : Env} {Q : Env → IH → Prop} : (gNm 6 w (x0 :: x1 :: x2 :: x3 :: x4 :: x5 :: y :: e) h).Wp Q = Q (x0 :: x1 :: x2 :: x3 :: x4 :: x5 :: some w :: e) h := rfl
theorem v7 {x0 x1 x2 x3 x4 x5 x6 : Option W} {w : W} {e : Env} : (eVar 7 (x0 :: x1 :: x2 :: x3 :: x4 :: x5 :: x6 :: some w :: e) h).Wp P = P w h := rfl
theorem n7 {x0 x1 x2 x3 x4 x5 x6 : Option W} {y : Option W} {w : W} {e : Env} {Q : Env → IH → Prop} : (gNm 7 w (x0 :: x1 :: x2 :: x3 :: x4 :: x5 :: x6 :: y :: e) h).Wp Q = Q (x0 :: x1 :: x2 :: x3 :: x4 :: x5 :: x6 :: some w :: e) h := rfl
theorem v8 {x0 x1 x2 x3 x4 x5 x6 x7 : Option W} {w : W} {e : Env} : (eVar 8 (x0 :: x1 :: x2 :: x3 :: x4 :: x5 :: x6 :: x7 :: some w :: e) h).Wp P = P w h := rfl
theorem n8 {x0 x1 x2 x3 x4 x5 x6 x7 : Option W} {y : Option W} {w : W} {e : Env} {Q : Env → IH → Prop} : (gNm 8 w (x0 :: x1 :: x2 :: x3 :: x4 :: x5 :: x6 :: x7 :: y :: e) h).Wp Q = Q (x0 :: x1 :: x2 :: x3 :: x4 :: x5 :: x6 :: x7 :: some w :: e) h := rfl
theorem v9 {x0 x1 x2 x3 x4 x5 x6 x7 x8 : Option W} {w : W} {e : Env} : (eVar 9 (x0 :: x1 :: x2 :: x3 :: x4 :: x5 :: x6 :: x7 :: x8 :: some w :: e) h).Wp P = P w h := rfl
theorem n9 {x0 x1 x2 x3 x4 x5 x6 x7 x8 : Option W} {y : Option W} {w : W} {e : Env} {Q : Env → IH → Prop} : (gNm 9 w (x0 :: x1 :: x2 :: x3 :: x4 :: x5 :: x6 :: x7 :: x8 :: y :: e) h).Wp Q = Q (x0 :: x1 :: x2 :: x3 :: x4 :: x5 :: x6 :: x7 :: x8 :: some w :: e) h := rfl
theorem v10 {x0 x1 x2 x3 x4 x5 x6 x7 x8 x9 : Option W} {w : W} {e : Env} : (eVar 10 (x0 :: x1 :: x2 :: x3 :: x4 :: x5 :: x6 :: x7 :: x8 :: x9 :: some w :: e) h).Wp P = P w h := rfl
theorem n10 {x0 x1 x2 x3 x4 x5 x6 x7 x8 x9 : Option W} {y : Option W} {w : W} {e : Env} {Q : Env → IH → Prop} : (gNm 10 w (x0 :: x1 :: x2 :: x3 :: x4 :: x5 :: x6 :: x7 :: x8 :: x9 :: y :: e) h).Wp Q = Q (x0 :: x1 :: x2 :: x3 :: x4 :: x5 :: x6 :: x7 :: x8 :: x9 :: some w :: e) h := rfl
theorem v11 {x0 x1 x2 x3 x4 x5 x6 x7 x8 x9 x10 : Option W} {w : W} {e : Env} : (eVar 11 (x0 :: x1 :: x2 :: x3 :: x4 :: x5 :: x6 :: x7 :: x8 :: x9 :: x10 :: some w :: e) h).Wp P = P w h := rfl
theorem n11 {x0 x1 x2 x3 x4 x5 x6 x7 x8 x9 x10 : Option W} {y : Option W} {w : W} {e : Env} {Q : Env → IH → Prop} : (gNm 11 w (x0 :: x1 :: x2 :: x3 :: x4 :: x5 :: x6 :: x7 :: x8 :: x9 :: x10 :: y :: e) h).Wp Q = Q (x0 :: x1 :: x2 :: x3 :: x4 :: x5 :: x6 :: x7 :: x8 :: x9 :: x10 :: some w :: e) h := rfl
theorem v12 {x0 x1 x2 x3 x4 x5 x6 x7 x8 x9 x10 x11 : Option W} {w : W} {e : Env} : (eVar 12 (x0 :: x1 :: x2 :: x3 :: x4 :: x5 :: x6 :: x7 :: x8 :: x9 :: x10 :: x11 :: some w :: e) h).Wp P = P w h := rfl
theorem n12 {x0 x1 x2 x3 x4 x5 x6 x7 x8 x9 x10 x11 : Option W} {y : Option W} {w : W} {e : Env} {Q : Env → IH → Prop} : (gNm 12 w (x0 :: x1 :: x2 :: x3 :: x4 :: x5 :: x6 :: x7 :: x8 :: x9 :: x10 :: x11 :: y :: e) h).Wp Q = Q (x0 :: x1 :: x2 :: x3 :: x4 :: x5 :: x6 :: x7 :: x8 :: x9 :: x10 :: x11 :: some w :: e) h := rfl
theorem v13 {x0 x1 x2 x3 x4 x5 x6 x7 x8 x9 x10 x11 x12 : Option W} {w : W} {e : Env} : (eVar 13 (x0 :: x1 :: x2 :: x3 :: x4 :: x5 :: x6 :: x7 :: x8 :: x9 :: x10 :: x11 :: x12 :: some w :: e) h).Wp P = P w h := rfl
theorem n13 {x0 x1 x2 x3 x4 x5 x6 x7 x8 x9 x10 x11 x12 : Option W} {y : Option W} {w : W} {e : Env} {Q : Env → IH → Prop} : (gNm 13 w (x0 :: x1 :: x2 :: x3 :: x4 :: x5 :: x6 :: x7 :: x8 :: x9 :: x10 :: x11 :: x12 :: y :: e) h).Wp Q = Q (x0 :: x1 :: x2 :: x3 :: x4 :: x5 :: x6 :: x7 :: x8 :: x9 :: x10 :: x11 :: x12 :: some w :: e) h := rfl
theorem v14 {x0 x1 x2 x3 x4 x5 x6 x7 x8 x9 x10 x11 x12 x13 : Option W} {w : W} {e : Env} : (eVar 14 (x0 :: x1 :: x2 :: x3 :: x4 :: x5 :: x6 :: x7 :: x8 :: x9 :: x10 :: x11 :: x12 :: x13 :: some w :: e) h).Wp P = P w h := rfl
theorem n14 {x0 x1 x2 x3 x4 x5 x6 x7 x8 x9 x10 x11 x12 x13 : Option W} {y : Option W} {w : W} {e : Env} {Q : Env → IH → Prop} : (gNm 14 w (x0 :: x1 :: x2 :: x3 :: x4 :: x5 :: x6 :: x7 :: x8 :: x9 :: x10 :: x11 :: x12 :: x13 :: y :: e) h).Wp Q = Q (x0 :: x1 :: x2 :: x3 :: x4 :: x5 :: x6 :: x7 :: x8 :: x9 :: x10 :: x11 :: x12 :: x13 :: some w :: e) h := rfl
theorem v15 {x0 x1 x2 x3 x4 x5 x6 x7 x8 x9 x10 x11 x12 x13 x14 : Option W} {w : W} {e : Env} : (eVar 15 (x0 :: x1 :: x2 :: x3 :: x4 :: x5 :: x6 :: x7 :: x8 :: x9 :: x10 :: x11 :: x12 :: x13 :: x14 :: some w :: e) h).Wp P = P w h := rfl
theorem n15 {x0 x1 x2 x3 x4 x5 x6 x7 x8 x9 x10 x11 x12 x13 x14 : Option W} {y : Option W} {w : W} {e : Env} {Q : Env → IH → Prop} : (gNm 15 w (x0 :: x1 :: x2 :: x3 :: x4 :: x5 :: x6 :: x7 :: x8 :: x9 :: x10 :: x11 :: x12 :: x13 :: x14 :: y :: e) h).Wp Q = Q (x0 :: x1 :: x2 :: x3 :: x4 :: x5 :: x6 :: x7 :: x8 :: x9 :: x10 :: x11 :: x12 :: x13 :: x14 :: some w :: e) h := rfl
theorem v16 {x0 x1 x2 x3 x4 x5 x6 x7 x8 x9 x10 x11 x12 x13 x14 x15 : Option W} {w : W} {e : Env} : (eVar 16 (x0 :: x1 :: x2 :: x3 :: x4 :: x5 :: x6 :: x7 :: x8 :: x9 :: x10 :: x11 :: x12 :: x13 :: x14 :: x15 :: some w :: e) h).Wp P = P w h := rfl
theorem n16 {x0 x1 x2 x3 x4 x5 x6 x7 x8 x9 x10 x11 x12 x13 x14 x15 : Option W} {y : Option W} {w : W} {e : Env} {Q : Env → IH → Prop} : (gNm 16 w (x0 :: x1 :: x2 :: x3 :: x4 :: x5 :: x6 :: x7 :: x8 :: x9 :: x10 :: x11 :: x12 :: x13 :: x14 :: x15 :: y :: e) h).Wp Q = Q (x0 :: x1 :: x2 :: x3 :: x4 :: x5 :: x6 :: x7 :: x8 :: x9 :: x10 :: x11 :: x12 :: x13 :: x14 :: x15 :: some w :: e) h := rfl
theorem v17 {x0 x1 x2 x3 x4 x5 x6 x7 x8 x9 x10 x11 x12 x13 x14 x15 x16 : Option W} {w : W} {e : Env} : (eVar 17 (x0 :: x1 :: x2 :: x3 :: x4 :: x5 :: x6 :: x7 :: x8 :: x9 :: x10 :: x11 :: x12 :: x13 :: x14 :: x15 :: x16 :: some w :: e) h).Wp P = P w h := rfl
theorem n17 {x0 x1 x2 x3 x4 x5 x6 x7 x8 x9 x10 x11 x12 x13 x14 x15 x16 : Option W} {y : Option W} {w : W} {e : Env} {Q : Env → IH → Prop} : (gNm 17 w (x0 :: x1 :: x2 :: x3 :: x4 :: x5 :: x6 :: x7 :: x8 :: x9 :: x10 :: x11 :: x12 :: x13 :: x14 :: x15 :: x16 :: y :: e) h).Wp Q = Q (x0 :: x1 :: x2 :: x3 :: x4 :: x5 :: x6 :: x7 :: x8 :: x9 :: x10 :: x11 :: x12 :: x13 :: x14 :: x15 :: x16 :: some w :: e) h := rfl
theorem v18 {x0 x1 x2 x3 x4 x5 x6 x7 x8 x9 x10 x11 x12 x13 x14 x15 x16 x17 : Option W} {w : W} {e : Env} : (eVar 18 (x0 :: x1 :: x2 :: x3 :: x4 :: x5 :: x6 :: x7 :: x8 :: x9 :: x10 :: x11 :: x12 :: x13 :: x14 :: x15 :: x16 :: x17 :: some w :: e) h).Wp P = P w h := rfl
theorem n18 {x0 x1 x2 x3 x4 x5 x6 x7 x8 x9 x10 x11 x12 x13 x14 x15 x16 x17 : Option W} {y : Option W} {w : W} {e : Env} {Q : Env → IH → Prop} : (gNm 18 w (x0 :: x1 :: x2 :: x3 :: x4 :: x5 :: x6 :: x7 :: x8 :: x9 :: x10 :: x11 :: x12 :: x13 :: x14 :: x15 :: x16 :: x17 :: y :: e) h).Wp Q = Q (x0 :: x1 :: x2 :: x3 :: x4 :: x5 :: x6 :: x7 :: x8 :: x9 :: x10 :: x11 :: x12 :: x13 :: x14 :: x15 :: x16 :: x17 :: some w :: e) h := rfl
end
end Fw

set_option Elab.async false
set_option linter.all false
set_option maxRecDepth 100000
/-! Fw, part Y: plain data (no bools in it): what compares, what is shown. -/
namespace Fw
open PySem
mutual
def pur : W → Bool
  | .non => true
  | .int _ => true
  | .str s => PyData.strOk s
  | .tup ws => purs ws
  | .bl _ => false
  | .loc _ => false
  | .ro _ => false
def purs : List W → Bool
  | [] => true
  | w :: ws => pur w && purs ws
end
mutual
def pd : W → PyData
  | .int i => .int i
  | .str s => .str s
  | .tup ws => .tuple (pds ws)
  | .non => .none
  | .bl b => .bool b
  | .loc _ => .none
  | .ro _ => .none
def pds : List W → List PyData
  | [] => []
  | w :: ws => pd w :: pds ws
end
mutual
theorem toD_pur {h : IH} : ∀ (f : Nat) (w : W), pur w = true → (pd w).depth < f → toD f h w = some (pd w)
  | 0, _, _, hf => by omega
  | f + 1, .non, _, _ => rfl
  | f + 1, .int _, _, _ => rfl
  | f + 1, .str _, _, _ => rfl
  | f + 1, .tup ws, hp, hf => by
    have hd : PyData.depthAll (pds ws) < f := by
      have : (pd (.tup ws)).depth = PyData.depthAll (pds ws) + 1 := rfl
      omega
    have z := toDs_pur (h := h) f ws hp hd
    show (match mapO (toD f h) ws with
      | some ds => some (PyData.tuple ds)
      | none => none) = _
    rw [z]; rfl
  | f + 1, .bl _, hp, _ => by cases hp
  | f + 1, .loc _, hp, _ => by cases hp
  | f + 1, .ro _, hp, _ => by cases hp
theorem toDs_pur {h : IH} : ∀ (f : Nat) (ws : List W), purs ws = true → PyData.depthAll (pds ws) < f → mapO (toD f h) ws = some (pds ws)
  | f, [], _, _ => rfl
  | f, w :: ws, hp, hf => by
    obtain ⟨h1, h2⟩ := Bool.and_eq_true_iff.mp (show (pur w && purs ws) = true from hp)
    have hm : PyData.depthAll (pds (w :: ws)) = max (pd w).depth (PyData.depthAll (pds ws)) := rfl
    have z1 := toD_pur (h := h) f w h1 (by omega)
    have z2 := toDs_pur (h := h) f ws h2 (by omega)
    rw [mapO_cons, z1, z2]; rfl
end
mutual
theorem lay_pur : ∀ w : W, pur w = true → (pd w).canLay0 = true
  | .non, _ => rfl
  | .int _, _ => rfl
  | .str _, h => h
  | .tup ws, h => lays_pur ws h
  | .bl _, h => by cases h
  | .loc _, h => by cases h
  | .ro _, h => by cases h
theorem lays_pur : ∀ ws : List W, purs ws = true → PyData.canLayAll0 (pds ws) = true
  | [], _ => rfl
  | w :: ws, h => by
    obtain ⟨h1, h2⟩ := Bool.and_eq_true_iff.mp (show (pur w && purs ws) = true from h)
    show ((pd w).canLay0 && PyData.canLayAll0 (pds ws)) = true
    rw [lay_pur w h1, lays_pur ws h2]; rfl
end
mutual
theorem eqv_pur : ∀ a b : W, pur a = true → pur b = true → ((PyData.eqv (pd a) (pd b) = true) ↔ a = b)
  | .non, b, _, hb => by
    cases b with
    | bl _ => cases hb
    | loc _ => cases hb
    | ro _ => cases hb
    | _ => simp [pd, PyData.eqv]
  | .int i, b, _, hb => by
    cases b with
    | bl _ => cases hb
    | loc _ => cases hb
    | ro _ => cases hb
    | _ => simp [pd, PyData.eqv]
  | .str i, b, _, hb => by
    cases b with
    | bl _ => cases hb
    | loc _ => cases hb
    | ro _ => cases hb
    | _ => simp [pd, PyData.eqv]
  | .tup ws, b, ha, hb => by
    cases b with
    | tup us =>
      have z := eqvs_pur ws us ha hb
      constructor
      · intro e; rw [z.mp e]
      · intro e; cases e; exact z.mpr rfl
    | bl _ => cases hb
    | loc _ => cases hb
    | ro _ => cases hb
    | _ => simp [pd, PyData.eqv]
  | .bl _, _, h, _ => by cases h
  | .loc _, _, h, _ => by cases h
  | .ro _, _, h, _ => by cases h
theorem eqvs_pur : ∀ a b : List W, purs a = true → purs b = true → ((PyData.eqvAll (pds a) (pds b) = true) ↔ a = b)
  | [], [], _, _ => by simp [pds, PyData.eqvAll]
  | [], _ :: _, _, _ => by simp [pds, PyData.eqvAll]
  | _ :: _, [], _, _ => by simp [pds, PyData.eqvAll]
  | x :: xs, y :: ys, ha, hb => by
    obtain ⟨h1, h2⟩ := Bool.and_eq_true_iff.mp (show (pur x && purs xs) = true from ha)
    obtain ⟨h3, h4⟩ := Bool.and_eq_true_iff.mp (show (pur y && purs ys) = true from hb)
    have z1 := eqv_pur x y h1 h3
    have z2 := eqvs_pur xs ys h2 h4
    show ((PyData.eqv (pd x) (pd y) && PyData.eqvAll (pds xs) (pds ys)) = true) ↔ _
    rw [Bool.and_eq_true, z1, z2, List.cons.injEq]
end
section
variable {h : IH} {P : W → IH → Prop}
theorem dat_pur {w : W} (hp : pur w = true) (hd : (pd w).depth ≤ 60) : dat h w = some (pd w) := toD_pur 65 w hp (by omega)
theorem dat_lst {q : Nat} {ws : List W} (g : h.get q = some (.lst ws)) (hp : purs ws = true) (hd : PyData.depthAll (pds ws) ≤ 60) : dat h (.loc q) = some (.list (pds ws)) := by
  have z := toDs_pur (h := h) 64 ws hp (by omega)
  show (match listAt h q with
    | some ws => (match mapO (toD 64 h) ws with
      | some ds => some (PyData.list ds)
      | none => none)
    | none => none) = _
  have l : listAt h q = some ws := by unfold listAt; rw [g]
  rw [l]; dsimp only; rw [z]
theorem shaped_pur {w : W} (hp : pur w = true) (hd : (pd w).depth ≤ 60) : SeqAt.shaped (pd w) = true := by
  unfold SeqAt.shaped
  rw [lay_pur w hp, Bool.true_and]
  exact decide_eq_true (by omega)
theorem shaped_lst {ws : List W} (hp : purs ws = true) (hd : PyData.depthAll (pds ws) ≤ 60) : SeqAt.shaped (.list (pds ws)) = true := by
  unfold SeqAt.shaped
  have e1 : (PyData.list (pds ws)).canLay0 = PyData.canLayAll0 (pds ws) := rfl
  have e2 : (PyData.list (pds ws)).depth = PyData.depthAll (pds ws) + 1 := rfl
  rw [e1, e2, lays_pur ws hp, Bool.true_and]
  exact decide_eq_true (by omega)
theorem eqW_dat {a b : W} {d e : PyData} (hs : scalW a b = none) (ha : dat h a = some d) (hb : dat h b = some e) (sa : SeqAt.shaped d = true) (sb : SeqAt.shaped e = true) : eqW a b h = some (PyData.eqv d e) := by
  unfold eqW
  rw [hs]; dsimp only; rw [ha]; dsimp only; rw [hb]; dsimp only; rw [sa, sb]; rfl
theorem scal_pur {a b : W} {c : Bool} (h : scalW a b = some c) (ha : pur a = true) (hb : pur b = true) : c = true ↔ a = b := by
  cases a <;> cases b <;> simp only [scalW] at h <;> first | (cases h; done) | (cases ha; done) | (cases hb; done) | (cases h; simp)
theorem eqW_pur {a b : W} (ha : pur a = true) (hb : pur b = true) (da : (pd a).depth ≤ 60) (db : (pd b).depth ≤ 60) : ∃ c, eqW a b h = some c ∧ (c = true ↔ a = b) := by
  cases hs : scalW a b with
  | some c => exact ⟨c, by unfold eqW; rw [hs], scal_pur hs ha hb⟩
  | none => exact ⟨_, eqW_dat hs (dat_pur ha da) (dat_pur hb db) (shaped_pur ha da) (shaped_pur hb db), eqv_pur a b ha hb⟩
theorem eqW_lst {q r : Nat} {ws us : List W} (g : h.get q = some (.lst ws)) (g' : h.get r = some (.lst us)) (ha : purs ws = true) (hb : purs us = true) (da : PyData.depthAll (pds ws) ≤ 60) (db : PyData.depthAll (pds us) ≤ 60) : ∃ c, eqW (.loc q) (.loc r) h = some c ∧ (c = true ↔ ws = us) :=
  ⟨_, eqW_dat rfl (dat_lst g ha da) (dat_lst g' hb db) (shaped_lst ha da) (shaped_lst hb db), eqvs_pur ws us ha hb⟩
theorem tupE_iff {a b : W} {c : Bool} (e : tupE a b = some c) : c = true ↔ a = b := by
  unfold tupE at e
  split at e
  · rename_i ws
    cases e
    cases ws <;> simp
  · cases e
theorem w_eq {a b : W} (q : ∃ c, eqW a b h = some c ∧ (c = true ↔ a = b)) (k : ∀ c, (c = true ↔ a = b) → P (.bl c) h) : (oEq a b h).Wp P := by
  obtain ⟨c, e, z⟩ := q
  unfold oEq
  cases t : tupE a b with
  | some d => exact k d (tupE_iff t)
  | none => rw [e]; exact k c z
theorem w_eqL {a b : W} {p : Prop} (q : ∃ c, eqW a b h = some c ∧ (c = true ↔ p)) (k : ∀ c, (c = true ↔ p) → P (.bl c) h) (t : tupE a b = none := by rfl) : (oEq a b h).Wp P := by
  obtain ⟨c, e, z⟩ := q
  unfold oEq
  rw [t]
  dsimp only
  rw [e]
  exact k c z
/-- x == () -/
theorem x_eq0 {ws : List W} : (oEq (.tup ws) (.tup []) h).Wp P = P (.bl ws.isEmpty) h := rfl
theorem w_neL {a b : W} {p : Prop} (q : ∃ c, eqW a b h = some c ∧ (c = true ↔ p)) (k : ∀ c, (c = true ↔ p) → P (.bl !c) h) : (oNe a b h).Wp P := by
  obtain ⟨c, e, z⟩ := q
  unfold oNe
  rw [e]
  exact k c z
end
end Fw

set_option Elab.async false
set_option linter.all false
set_option maxRecDepth 100000
/-! Fw, part Z: walks, told by what stays true. -/
namespace Fw
open PySem
section
variable {e : Fw.Env} {h : IH} {P : W → IH → Prop} {N : Fw.Env → IH → Prop} {R : W → IH → Prop} {B C : Fw.Env → IH → Prop} {f x : EE} {t : ET} {b : SS} {g : EG} {vs : List Nat}
theorem small_nat {n : Nat} (hn : n < 1000000) : small (n : Int) = true := by
  unfold small
  simp only [Bool.and_eq_true, decide_eq_true_eq]
  omega
theorem rng_nth {n i : Nat} {lo : Int} {h : IH} (hi : i < n) : (IT.rng lo n).nth h i = some (.int (lo + i)) := by
  show (match Nat.blt i n with
    | true => some (W.int (lo + i))
    | false => none) = _
  rw [blt_of hi]
theorem rng_fin {n : Nat} {lo : Int} {h : IH} : (IT.rng lo n).fin h n = true := Nat.ble_eq_true_of_le (Nat.le_refl n)
/-- for i in range(n) -/
theorem for_rng (w : (x e h).Wp fun v h1 => ∃ n : Nat, v = .int n ∧ n < 1000000 ∧ ∃ I : Nat → Fw.Env → IH → Prop, I 0 e h1 ∧
    (∀ i e h2, i < n → I i e h2 → (g (.int i) e h2).Wp fun e h3 => (b e h3).Wp ⟨I (i + 1), R, N, I (i + 1)⟩) ∧ ∀ e h2, I n e h2 → N e h2) : (sFor (iA kRng1 (aCons x aNil)) g b e h).Wp ⟨N, R, B, C⟩ := by
  refine W_for (Rs.Wp.bind ?_)
  rw [x_cons]
  refine w.mono fun v h1 ⟨n, ev, hn, I, i0, st, fn⟩ => ?_
  subst ev
  show (Rs.need _ _).Wp _
  rw [need_wp]
  refine ⟨small_nat hn, I, i0, fun i e h2 hI hi => ⟨_, rng_nth hi, ?_⟩, fun e h2 hI => ⟨rng_fin, fn e h2 hI⟩⟩
  rw [Int.zero_add]
  exact st i e h2 hi hI
/-- [f for i in range(n)] -/
theorem lc_rng (w : (x e h).Wp fun v h1 => ∃ n : Nat, v = .int n ∧ n < 1000000 ∧ ∃ I : Nat → List W → IH → Prop, I 0 [] h1 ∧
    (∀ i xs h2, i < n → I i xs h2 → (g (.int i) (wipeW e vs) h2).Wp fun e h3 => (f e h3).Wp fun y h4 => I (i + 1) (xs ++ [y]) h4) ∧ ∀ xs h2, I n xs h2 → xs.length ≤ 16777216 ∧ P (.loc h2.n) (h2.new (.lst xs))) : (eLc (iA kRng1 (aCons x aNil)) g tYes f vs e h).Wp P := by
  refine W_lc (Rs.Wp.bind ?_)
  rw [x_cons]
  refine w.mono fun v h1 ⟨n, ev, hn, I, i0, st, fn⟩ => ?_
  subst ev
  show (Rs.need _ _).Wp _
  rw [need_wp]
  refine ⟨small_nat hn, I, i0, fun i xs h2 hI hi => ⟨_, rng_nth hi, ?_⟩, fun xs h2 hI => ⟨rng_fin, fn xs h2 hI⟩⟩
  rw [Int.zero_add]
  refine (st i xs h2 hi hI).mono fun e h3 z => ?_
  rw [x_yes, if_pos rfl]
  exact z
theorem list_at {a : Nat} {ws : List W} (g : h.get a = some (.lst ws)) : listAt h a = some ws := by unfold listAt; rw [g]
/-- for x in xs, a list that stays -/
theorem for_lst (w : (x e h).Wp fun v h1 => ∃ (a : Nat) (ws : List W), v = .loc a ∧ h1.get a = some (.lst ws) ∧ ∃ I : Nat → Fw.Env → IH → Prop, I 0 e h1 ∧
    (∀ i e h2 y, I i e h2 → ws[i]? = some y → h2.get a = some (.lst ws) ∧ (g y e h2).Wp fun e h3 => (b e h3).Wp ⟨I (i + 1), R, N, I (i + 1)⟩) ∧ ∀ e h2, I ws.length e h2 → h2.get a = some (.lst ws) ∧ N e h2) : (sFor (iAny x) g b e h).Wp ⟨N, R, B, C⟩ := by
  obtain ⟨v, h1, q, a, ws, ev, ga, I, i0, st, fn⟩ := w.ex
  subst ev
  refine W_for ?_
  have z : iAny x e h = .ok (.lst a) h1 := by
    unfold iAny iVal; rw [q]; dsimp only; rw [ga, Rs.bind_ok]; dsimp only; rw [list_at ga]
  rw [z]
  have cn : (IT.lst a).cnt h1 = ws.length := by show ((listAt h1 a).getD []).length = _; rw [list_at ga]; rfl
  refine ⟨I, i0, fun i e h2 hI hi => ?_, fun e h2 hI => ?_⟩
  · rw [cn] at hi
    have hy : ws[i]? = some ws[i] := List.getElem?_eq_getElem hi
    obtain ⟨g2, z⟩ := st i e h2 _ hI hy
    exact ⟨_, by show (listAt h2 a).bind _ = _; rw [list_at g2]; exact hy, z⟩
  · rw [cn] at hI ⊢
    obtain ⟨g2, z⟩ := fn e h2 hI
    exact ⟨by show (match listAt h2 a with
      | some ws' => Nat.ble ws'.length ws.length
      | none => false) = true; rw [list_at g2]; exact Nat.ble_eq_true_of_le (Nat.le_refl _), z⟩
/-- for x in a tuple -/
theorem for_tup (w : (x e h).Wp fun v h1 => ∃ ws : List W, v = .tup ws ∧ ∃ I : Nat → Fw.Env → IH → Prop, I 0 e h1 ∧
    (∀ i e h2 y, I i e h2 → ws[i]? = some y → (g y e h2).Wp fun e h3 => (b e h3).Wp ⟨I (i + 1), R, N, I (i + 1)⟩) ∧ ∀ e h2, I ws.length e h2 → N e h2) : (sFor (iAny x) g b e h).Wp ⟨N, R, B, C⟩ := by
  obtain ⟨v, h1, q, ws, ev, I, i0, st, fn⟩ := w.ex
  subst ev
  refine W_for ?_
  have z : iAny x e h = .ok (.tup ws) h1 := by
    unfold iAny iVal; rw [q]; rfl
  rw [z]
  refine ⟨I, i0, fun i e h2 hI hi => ?_, fun e h2 hI => ⟨Nat.ble_eq_true_of_le (Nat.le_refl _), fn e h2 hI⟩⟩
  have hi : i < ws.length := hi
  exact ⟨_, List.getElem?_eq_getElem hi, st i e h2 _ hI (List.getElem?_eq_getElem hi)⟩
/-- for i, x in enumerate(xs), a list that stays -/
theorem for_enuL (w : (x e h).Wp fun v h1 => ∃ (a : Nat) (ws : List W), v = .loc a ∧ h1.get a = some (.lst ws) ∧ ∃ I : Nat → Fw.Env → IH → Prop, I 0 e h1 ∧
    (∀ i e h2 y, I i e h2 → ws[i]? = some y → h2.get a = some (.lst ws) ∧ (g (.tup [.int i, y]) e h2).Wp fun e h3 => (b e h3).Wp ⟨I (i + 1), R, N, I (i + 1)⟩) ∧ ∀ e h2, I ws.length e h2 → h2.get a = some (.lst ws) ∧ N e h2) : (sFor (iA kEnu (aCons x aNil)) g b e h).Wp ⟨N, R, B, C⟩ := by
  refine W_for (Rs.Wp.bind ?_)
  rw [x_cons]
  refine w.mono fun v h1 ⟨a, ws, ev, ga, I, i0, st, fn⟩ => ?_
  subst ev
  rw [x_nil]
  have z : kEnu [.loc a] h1 = .ok (.enu a) h1 := by unfold kEnu; dsimp only; rw [list_at ga]
  rw [z]
  have cn : (IT.enu a).cnt h1 = ws.length := by show ((listAt h1 a).getD []).length = _; rw [list_at ga]; rfl
  refine ⟨I, i0, fun i e h2 hI hi => ?_, fun e h2 hI => ?_⟩
  · rw [cn] at hi
    have hy : ws[i]? = some ws[i] := List.getElem?_eq_getElem hi
    obtain ⟨g2, z⟩ := st i e h2 _ hI hy
    exact ⟨_, by show (listAt h2 a).bind _ = _; rw [list_at g2]; show (ws[i]?).bind _ = _; rw [hy]; rfl, z⟩
  · rw [cn] at hI ⊢
    obtain ⟨g2, z⟩ := fn e h2 hI
    exact ⟨by show (match listAt h2 a with
      | some ws' => Nat.ble ws'.length ws.length
      | none => false) = true; rw [list_at g2]; exact Nat.ble_eq_true_of_le (Nat.le_refl _), z⟩
/-- for i, x in enumerate(a tuple) -/
theorem for_enuT (w : (x e h).Wp fun v h1 => ∃ ws : List W, v = .tup ws ∧ ∃ I : Nat → Fw.Env → IH → Prop, I 0 e h1 ∧
    (∀ i e h2 y, I i e h2 → ws[i]? = some y → (g (.tup [.int i, y]) e h2).Wp fun e h3 => (b e h3).Wp ⟨I (i + 1), R, N, I (i + 1)⟩) ∧ ∀ e h2, I ws.length e h2 → N e h2) : (sFor (iA kEnu (aCons x aNil)) g b e h).Wp ⟨N, R, B, C⟩ := by
  refine W_for (Rs.Wp.bind ?_)
  rw [x_cons]
  refine w.mono fun v h1 ⟨ws, ev, I, i0, st, fn⟩ => ?_
  subst ev
  refine ⟨I, i0, fun i e h2 hI hi => ?_, fun e h2 hI => ⟨Nat.ble_eq_true_of_le (Nat.le_refl _), fn e h2 hI⟩⟩
  have hi : i < ws.length := hi
  have hy : ws[i]? = some ws[i] := List.getElem?_eq_getElem hi
  exact ⟨_, by show (ws[i]?).bind _ = _; rw [hy]; rfl, st i e h2 _ hI hy⟩
end
end Fw

set_option Elab.async false
set_option linter.all false
set_option maxRecDepth 100000
/-! Fw, part Z2: comprehensions, told by what stays true. -/
namespace Fw
open PySem
section
variable {e : Fw.Env} {h : IH} {P : W → IH → Prop} {f x : EE} {t : ET} {g : EG} {vs : List Nat}
/-- [f for y in a tuple if t] -/
theorem lc_tup (w : (x e h).Wp fun v h1 => ∃ ws : List W, v = .tup ws ∧ ∃ I : Nat → List W → IH → Prop, I 0 [] h1 ∧
    (∀ i xs h2 y, I i xs h2 → ws[i]? = some y → (g y (wipeW e vs) h2).Wp fun e h3 => (t e h3).Wp fun c h4 => if c = true then (f e h4).Wp fun y h5 => I (i + 1) (xs ++ [y]) h5 else I (i + 1) xs h4) ∧ ∀ xs h2, I ws.length xs h2 → xs.length ≤ 16777216 ∧ P (.loc h2.n) (h2.new (.lst xs))) : (eLc (iAny x) g t f vs e h).Wp P := by
  obtain ⟨v, h1, q, ws, ev, I, i0, st, fn⟩ := w.ex
  subst ev
  refine W_lc ?_
  have z : iAny x e h = .ok (.tup ws) h1 := by unfold iAny iVal; rw [q]; rfl
  rw [z]
  refine ⟨I, i0, fun i xs h2 hI hi => ?_, fun xs h2 hI => ⟨Nat.ble_eq_true_of_le (Nat.le_refl _), fn xs h2 hI⟩⟩
  have hi : i < ws.length := hi
  exact ⟨_, List.getElem?_eq_getElem hi, st i xs h2 _ hI (List.getElem?_eq_getElem hi)⟩
/-- [f for i, y in enumerate(a tuple) if t] -/
theorem lc_enuT (w : (x e h).Wp fun v h1 => ∃ ws : List W, v = .tup ws ∧ ∃ I : Nat → List W → IH → Prop, I 0 [] h1 ∧
    (∀ i xs h2 y, I i xs h2 → ws[i]? = some y → (g (.tup [.int i, y]) (wipeW e vs) h2).Wp fun e h3 => (t e h3).Wp fun c h4 => if c = true then (f e h4).Wp fun y h5 => I (i + 1) (xs ++ [y]) h5 else I (i + 1) xs h4) ∧ ∀ xs h2, I ws.length xs h2 → xs.length ≤ 16777216 ∧ P (.loc h2.n) (h2.new (.lst xs))) : (eLc (iA kEnu (aCons x aNil)) g t f vs e h).Wp P := by
  refine W_lc (Rs.Wp.bind ?_)
  rw [x_cons]
  refine w.mono fun v h1 ⟨ws, ev, I, i0, st, fn⟩ => ?_
  subst ev
  refine ⟨I, i0, fun i xs h2 hI hi => ?_, fun xs h2 hI => ⟨Nat.ble_eq_true_of_le (Nat.le_refl _), fn xs h2 hI⟩⟩
  have hi : i < ws.length := hi
  have hy : ws[i]? = some ws[i] := List.getElem?_eq_getElem hi
  exact ⟨_, by show (ws[i]?).bind _ = _; rw [hy]; rfl, st i xs h2 _ hI hy⟩
/-- [f for y in a list that stays if t] -/
theorem lc_lst (w : (x e h).Wp fun v h1 => ∃ (a : Nat) (ws : List W), v = .loc a ∧ h1.get a = some (.lst ws) ∧ ∃ I : Nat → List W → IH → Prop, I 0 [] h1 ∧
    (∀ i xs h2 y, I i xs h2 → ws[i]? = some y → h2.get a = some (.lst ws) ∧ (g y (wipeW e vs) h2).Wp fun e h3 => (t e h3).Wp fun c h4 => if c = true then (f e h4).Wp fun y h5 => I (i + 1) (xs ++ [y]) h5 else I (i + 1) xs h4) ∧ ∀ xs h2, I ws.length xs h2 → h2.get a = some (.lst ws) ∧ xs.length ≤ 16777216 ∧ P (.loc h2.n) (h2.new (.lst xs))) : (eLc (iAny x) g t f vs e h).Wp P := by
  obtain ⟨v, h1, q, a, ws, ev, ga, I, i0, st, fn⟩ := w.ex
  subst ev
  refine W_lc ?_
  have z : iAny x e h = .ok (.lst a) h1 := by
    unfold iAny iVal; rw [q]; dsimp only; rw [ga, Rs.bind_ok]; dsimp only; rw [list_at ga]
  rw [z]
  have cn : (IT.lst a).cnt h1 = ws.length := by show ((listAt h1 a).getD []).length = _; rw [list_at ga]; rfl
  refine ⟨I, i0, fun i xs h2 hI hi => ?_, fun xs h2 hI => ?_⟩
  · rw [cn] at hi
    have hy : ws[i]? = some ws[i] := List.getElem?_eq_getElem hi
    obtain ⟨g2, z⟩ := st i xs h2 _ hI hy
    exact ⟨_, by show (listAt h2 a).bind _ = _; rw [list_at g2]; exact hy, z⟩
  · rw [cn] at hI ⊢
    obtain ⟨g2, z⟩ := fn xs h2 hI
    exact ⟨by show (match listAt h2 a with
      | some ws' => Nat.ble ws'.length ws.length
      | none => false) = true; rw [list_at g2]; exact Nat.ble_eq_true_of_le (Nat.le_refl _), z⟩
/-- all over a list of truths that are all true -/
theorem x_allT {a n : Nat} {P : W → IH → Prop} {h : IH} (g : h.get a = some (.lst (List.replicate n (.bl true)))) : (k1 oAll [.loc a] h).Wp P = P (.bl true) h := by
  unfold k1 oAll; dsimp only; rw [list_at g]; dsimp only
  have m : ∀ n, mapO asB (List.replicate n (W.bl true)) = some (List.replicate n true) := by
    intro n
    induction n with
    | zero => rfl
    | succ n ih => rw [List.replicate_succ, List.replicate_succ, mapO_cons, ih]; rfl
  rw [m n]
  have z : (List.replicate n true).all id = true := by simp
  dsimp only
  rw [z]; rfl
end
end Fw

set_option Elab.async false
set_option linter.all false
set_option maxRecDepth 100000
/-! Fw, part Y2: what is shown of plain data. -/
namespace Fw
open PySem
/-- plain, of a depth, of so many parts, its numbers short -/
structure Sm (d n : Nat) (w : W) : Prop where
  p : pur w = true
  s : (pd w).leavesShort 13 = true
  sh : (pd w).showable = true
  b : (pd w).bulk ≤ n
  dp : (pd w).depth ≤ d
structure Sms (d n : Nat) (ws : List W) : Prop where
  p : purs ws = true
  s : PyData.leavesShortAll 13 (pds ws) = true
  sh : PyData.showableAll (pds ws) = true
  b : PyData.bulkAll (pds ws) ≤ n
  dp : PyData.depthAll (pds ws) ≤ d
theorem Sm.mono {d d' n n' : Nat} {w : W} (h : Sm d n w) (hd : d ≤ d') (hn : n ≤ n') : Sm d' n' w := ⟨h.p, h.s, h.sh, Nat.le_trans h.b hn, Nat.le_trans h.dp hd⟩
theorem Sm.non : Sm 0 0 .non := ⟨rfl, rfl, rfl, Nat.le_refl _, Nat.le_refl _⟩
theorem Sm.int {i : Int} (h : i.natAbs < 10 ^ 12) : Sm 0 0 (.int i) :=
  ⟨rfl, by
    show PyData.leavesShort 13 (.int i) = true
    simp only [PyData.leavesShort, decide_eq_true_eq]
    exact PyData.shown_int_le h, by
    show PyData.showable (.int i) = true
    simp only [PyData.showable, decide_eq_true_eq]
    have z : i.natAbs < 2 ^ 40 := Nat.lt_trans h (by decide)
    by_cases q : i.natAbs = 0
    · rw [q]; decide
    · have := (Nat.log2_lt q).mpr z
      omega, Nat.le_refl _, Nat.le_refl _⟩
theorem Sms.of {d n : Nat} : ∀ {ws : List W}, (∀ w ∈ ws, Sm d n w) → Sms d (ws.length * (n + 1)) ws
  | [], _ => ⟨rfl, rfl, rfl, Nat.zero_le _, Nat.zero_le _⟩
  | w :: ws, h => by
    have a := h w List.mem_cons_self
    have b := Sms.of (ws := ws) fun x hx => h x (List.mem_cons_of_mem _ hx)
    have m : (w :: ws).length * (n + 1) = n + 1 + ws.length * (n + 1) := by
      rw [List.length_cons, Nat.succ_mul]; omega
    refine ⟨?_, ?_, ?_, ?_, ?_⟩
    · show (pur w && purs ws) = true
      rw [a.p, b.p]; rfl
    · show PyData.leavesShortAll 13 (pd w :: pds ws) = true
      simp only [PyData.leavesShortAll]
      rw [a.s, b.s]; rfl
    · show PyData.showableAll (pd w :: pds ws) = true
      simp only [PyData.showableAll]
      rw [a.sh, b.sh]; rfl
    · show PyData.bulkAll (pd w :: pds ws) ≤ _
      simp only [PyData.bulkAll]
      have := a.b
      have := b.b
      omega
    · show max (pd w).depth (PyData.depthAll (pds ws)) ≤ d
      have := a.dp
      have := b.dp
      omega
theorem Sms.tup {d n : Nat} {ws : List W} (h : Sms d n ws) : Sm (d + 1) n (.tup ws) :=
  ⟨h.p, by
    show PyData.leavesShort 13 (.tuple (pds ws)) = true
    simp only [PyData.leavesShort]; exact h.s, by
    show PyData.showable (.tuple (pds ws)) = true
    simp only [PyData.showable]; exact h.sh, by
    show PyData.bulk (.tuple (pds ws)) ≤ n
    simp only [PyData.bulk]; exact h.b, by
    have := h.dp
    show PyData.depthAll (pds ws) + 1 ≤ d + 1
    omega⟩
theorem Sm.tup {d n m : Nat} {ws : List W} (h : ∀ w ∈ ws, Sm d n w) (hm : ws.length * (n + 1) ≤ m) : Sm (d + 1) m (.tup ws) := (Sms.of h).tup.mono (Nat.le_refl _) hm
theorem Sm.str {n : Nat} {z : Str} (h1 : PyData.strOk z = true) (h2 : (z.cps.toList.all fun c => decide (c < 16 ^ 8)) = true) (h3 : z.cps.size ≤ n) : Sm 0 n (.str z) :=
  ⟨h1, by
    show PyData.leavesShort 13 (.str z) = true
    simp only [PyData.leavesShort]; exact h2, by
    show PyData.showable (.str z) = true
    simp only [PyData.showable], by
    show PyData.bulk (.str z) ≤ n
    simp only [PyData.bulk]; exact h3, Nat.zero_le _⟩
section
variable {h : IH} {P : W → IH → Prop}
mutual
/-- data without dicts is shown as it is -/
theorem toDE_of : ∀ (f : Nat) (w : W) (d : PyData), toD f h w = some d → toDE f h w = some d
  | 0, _, _, e => by cases e
  | f + 1, .non, d, e => e
  | f + 1, .bl _, d, e => e
  | f + 1, .int _, d, e => e
  | f + 1, .str _, d, e => e
  | f + 1, .ro _, d, e => by cases e
  | f + 1, .tup ws, d, e => by
    have e' : (match mapO (toD f h) ws with
      | some ds => some (PyData.tuple ds)
      | none => none) = some d := e
    show (match mapO (toDE f h) ws with
      | some ds => some (PyData.tuple ds)
      | none => none) = some d
    cases q : mapO (toD f h) ws with
    | none => rw [q] at e'; cases e'
    | some ds => rw [q] at e'; rw [toDEs_of f ws ds q]; exact e'
  | f + 1, .loc n, d, e => by
    have e' : (match listAt h n with
      | some ws => (match mapO (toD f h) ws with
        | some ds => some (PyData.list ds)
        | none => none)
      | none => none) = some d := e
    show (match h.get n with
      | some (.lst ws) => (match mapO (toDE f h) ws with
        | some ds => some (PyData.list ds)
        | none => none)
      | some (.dk []) => some (PyData.dict [])
      | _ => none) = some d
    unfold listAt at e'
    cases g : h.get n with
    | none => rw [g] at e'; cases e'
    | some c =>
      rw [g] at e'
      cases c with
      | lst ws =>
        have e2 : (match mapO (toD f h) ws with
          | some ds => some (PyData.list ds)
          | none => none) = some d := e'
        dsimp only
        cases q : mapO (toD f h) ws with
        | none => rw [q] at e2; cases e2
        | some ds => rw [q] at e2; rw [toDEs_of f ws ds q]; exact e2
      | dk _ => cases e'
      | dz _ => cases e'
      | ins _ _ => cases e'
      | err _ => cases e'
theorem toDEs_of : ∀ (f : Nat) (ws : List W) (ds : List PyData), mapO (toD f h) ws = some ds → mapO (toDE f h) ws = some ds
  | f, [], ds, e => e
  | f, w :: ws, ds, e => by
    rw [mapO_cons] at e ⊢
    cases q : toD f h w with
    | none => rw [q] at e; cases e
    | some b =>
      rw [q] at e
      dsimp only at e
      rw [toDE_of f w b q]
      dsimp only
      cases q2 : mapO (toD f h) ws with
      | none => rw [q2] at e; cases e
      | some s => rw [q2] at e; rw [toDEs_of f ws s q2]; exact e
end
theorem rep_go {w : W} {d : PyData} {n : Nat} (hd : dat h w = some d) (l : d.canLay0 = true) (sh : d.showable = true) (s : d.leavesShort 13 = true) (dp : d.depth ≤ 60) (b : d.bulk ≤ n) (hn : n ≤ 1000000) : (oRepr w h).Wp P = P (.str d.shown) h := by
  unfold oRepr
  have q : datE h w = some d := toDE_of 65 w d hd
  rw [q]; dsimp only
  have z := PyData.shown_le_bulk 13 (by decide) d s
  have e : lenOk d.shown.length = true := lenOk_iff.mpr (by omega)
  have e2 : Nat.ble d.depth 64 = true := Nat.ble_eq_true_of_le (by omega)
  rw [sh, e, e2]
  rfl
theorem x_rep {w : W} {d n : Nat} (s : Sm d n w) (hd : d ≤ 60) (hn : n ≤ 1000000) : (oRepr w h).Wp P = P (.str (pd w).shown) h :=
  rep_go (dat_pur s.p (Nat.le_trans s.dp hd)) (lay_pur w s.p) s.sh s.s (Nat.le_trans s.dp hd) s.b hn
theorem x_repL {r : Nat} {ws : List W} {d n : Nat} (g : h.get r = some (.lst ws)) (s : Sms d n ws) (hd : d < 60) (hn : n ≤ 1000000) : (oRepr (.loc r) h).Wp P = P (.str (PyData.list (pds ws)).shown) h := by
  have dp := s.dp
  refine rep_go (dat_lst g s.p (by omega)) (lays_pur ws s.p) ?_ ?_ ?_ (n := n) ?_ hn
  · simp only [PyData.showable]; exact s.sh
  · simp only [PyData.leavesShort]; exact s.s
  · show PyData.depthAll (pds ws) + 1 ≤ 60
    omega
  · simp only [PyData.bulk]; exact s.b
theorem Sms.ints {cs : List Int} (h : ∀ c ∈ cs, c.natAbs < 10 ^ 12) : Sms 0 cs.length (cs.map .int) := by
  have z : Sms 0 _ (cs.map .int) := Sms.of (d := 0) (n := 0) fun w hw => by
    obtain ⟨c, hc, e⟩ := List.mem_map.mp hw
    subst e
    exact Sm.int (h c hc)
  have e : (cs.map W.int).length * (0 + 1) = cs.length := by rw [List.length_map]; omega
  rw [e] at z
  exact z
theorem x_neS {a b : Str} : (oNe (.str a) (.str b) h).Wp P = P (.bl !decide (a = b)) h := rfl
end
end Fw

set_option Elab.async false
set_option linter.all false
set_option maxRecDepth 100000
/-! Fw, part Z3: comprehensions over a dict's keys; any. -/
namespace Fw
open PySem
section
variable {e : Fw.Env} {h : IH} {P : W → IH → Prop} {f x : EE} {t : ET} {g : EG} {vs : List Nat}
/-- [f for y in a dict if t]: the dict is locked from there on -/
theorem lc_keys (w : (x e h).Wp fun v h1 => ∃ (a : Nat) (kvs : List (Key × W)), v = .loc a ∧ h1.get a = some (.dk kvs) ∧ ∃ I : Nat → List W → IH → Prop, I 0 [] (h1.set a (.dz kvs)) ∧
    (∀ i xs h2 y, I i xs h2 → kvs[i]? = some y → h2.get a = some (.dz kvs) ∧ (g (kW y.1) (wipeW e vs) h2).Wp fun e h3 => (t e h3).Wp fun c h4 => if c = true then (f e h4).Wp fun y h5 => I (i + 1) (xs ++ [y]) h5 else I (i + 1) xs h4) ∧ ∀ xs h2, I kvs.length xs h2 → h2.get a = some (.dz kvs) ∧ xs.length ≤ 16777216 ∧ P (.loc h2.n) (h2.new (.lst xs))) : (eLc (iAny x) g t f vs e h).Wp P := by
  obtain ⟨v, h1, q, a, kvs, ev, ga, I, i0, st, fn⟩ := w.ex
  subst ev
  refine W_lc ?_
  have z : iAny x e h = .ok (.keys a) (h1.set a (.dz kvs)) := by
    unfold iAny; rw [q]; dsimp only; rw [ga]
  rw [z]
  have al := IH.get_lt ga
  have cn : (IT.keys a).cnt (h1.set a (.dz kvs)) = kvs.length := by
    show (match (h1.set a (.dz kvs)).get a with
      | some (.dz kvs) => kvs.length
      | _ => 0) = _
    rw [IH.get_set _ _ _ _ al, if_pos rfl]
  refine ⟨I, i0, fun i xs h2 hI hi => ?_, fun xs h2 hI => ?_⟩
  · rw [cn] at hi
    have hy : kvs[i]? = some kvs[i] := List.getElem?_eq_getElem hi
    obtain ⟨g2, z⟩ := st i xs h2 _ hI hy
    exact ⟨_, by
      show (match h2.get a with
        | some (.dz kvs) => (match kvs[i]? with
          | some p => some (kW p.1)
          | none => none)
        | _ => none) = _
      rw [g2]; dsimp only; rw [hy], z⟩
  · rw [cn] at hI ⊢
    obtain ⟨g2, z⟩ := fn xs h2 hI
    exact ⟨by
      show (match h2.get a with
        | some (.dz kvs') => Nat.ble kvs'.length kvs.length
        | _ => false) = true
      rw [g2]; exact Nat.ble_eq_true_of_le (Nat.le_refl _), z⟩
theorem bls_of : ∀ bs : List Bool, mapO asB (bs.map W.bl) = some bs
  | [] => rfl
  | b :: bs => by rw [List.map_cons, mapO_cons, bls_of bs]; rfl
theorem x_any {a : Nat} {bs : List Bool} {P : W → IH → Prop} {h : IH} (g : h.get a = some (.lst (bs.map .bl))) : (k1 oAny [.loc a] h).Wp P = P (.bl (bs.any id)) h := by
  unfold k1 oAny; dsimp only; rw [list_at g]; dsimp only
  rw [bls_of]; rfl
theorem x_all {a : Nat} {bs : List Bool} {P : W → IH → Prop} {h : IH} (g : h.get a = some (.lst (bs.map .bl))) : (k1 oAll [.loc a] h).Wp P = P (.bl (bs.all id)) h := by
  unfold k1 oAll; dsimp only; rw [list_at g]; dsimp only
  rw [bls_of]; rfl
theorem flat_bls : ∀ bs : List Bool, (bs.map W.bl).all flatW = true
  | [] => rfl
  | c :: cs => by rw [List.map_cons, List.all_cons, flat_bls cs]; rfl
theorem in_bls (u : Bool) : ∀ bs : List Bool, inFlat (.bl u) (bs.map .bl) = bs.contains u
  | [] => rfl
  | c :: cs => by
    rw [List.map_cons]
    unfold inFlat
    rw [in_bls u cs, List.contains_cons]
    show (match (c == u) with
      | true => true
      | false => cs.contains u) = _
    cases c <;> cases u <;> rfl
theorem inW_bls {u : Bool} {bs : List Bool} {r : Nat} {h : IH} (g : h.get r = some (.lst (bs.map .bl))) : inW (.bl u) (.loc r) h = some (bs.contains u) := by
  unfold inW; dsimp only; rw [g]; dsimp only
  rw [flat_bls, in_bls]; rfl
theorem x_inB {u : Bool} {bs : List Bool} {r : Nat} {h : IH} {P : W → IH → Prop} (g : h.get r = some (.lst (bs.map .bl))) : (oIn (.bl u) (.loc r) h).Wp P = P (.bl (bs.contains u)) h := by
  unfold oIn; rw [inW_bls g]; rfl
theorem x_ninB {u : Bool} {bs : List Bool} {r : Nat} {h : IH} {P : W → IH → Prop} (g : h.get r = some (.lst (bs.map .bl))) : (oNotIn (.bl u) (.loc r) h).Wp P = P (.bl !(bs.contains u)) h := by
  unfold oNotIn; rw [inW_bls g]; rfl
end
end Fw

set_option Elab.async false
set_option linter.all false
set_option maxRecDepth 100000
set_option maxHeartbeats 1000000
/-! Fw, part V: words that any law may use: heaps that stay, the pen, lists of ints, dicts by nodes. -/
namespace Fw
open PySem

theorem pow64 {i : Int} (h0 : 0 ≤ i) (h1 : i < 18446744073709551616) : inPow64 i = true := by
  unfold inPow64
  simp only [Bool.and_eq_true, decide_eq_true_eq]
  omega
def Keep (h h' : IH) : Prop := h.n ≤ h'.n ∧ ∀ i, i < h.n → h'.get i = h.get i
theorem Keep.refl {h : IH} : Keep h h := ⟨Nat.le_refl _, fun _ _ => rfl⟩
theorem Keep.trans {a b c : IH} (x : Keep a b) (y : Keep b c) : Keep a c := ⟨Nat.le_trans x.1 y.1, fun i hi => (y.2 i (Nat.lt_of_lt_of_le hi x.1)).trans (x.2 i hi)⟩
theorem Keep.new {h : IH} {c : Cell} : Keep h (h.new c) := ⟨Nat.le_succ _, fun i hi => by rw [IH.get_new, if_neg (Nat.ne_of_lt hi)]⟩
theorem ix_wp {a : Nat} {ws : List W} {i : Int} {h : IH} {P : W → IH → Prop} (g : h.get a = some (.lst ws)) (h0 : 0 ≤ i) (h1 : i < ws.length) (k : ∀ w, ws[i.toNat]? = some w → P w h) : (oIx (.loc a) (.int i) h).Wp P := by
  have q : ws[i.toNat]? = some ws[i.toNat] := List.getElem?_eq_getElem (by omega)
  rw [x_ix g h0 q]
  exact k _ q
def primes : List Int := [2147483629, 2147483587, 2147483579, 2147483563, 2147483549, 2147483543, 2147483497, 2147483489, 2147483477, 2147483423, 2147483399, 2147483353, 2147483323]
def pr13 : List W := primes.map .int
theorem pr_at {j : Nat} {w : W} (e : pr13[j]? = some w) : ∃ p : Int, w = .int p ∧ 0 < p ∧ p < 2147483648 := by
  have m := List.mem_of_getElem? e
  simp only [pr13, primes, List.map_cons, List.map_nil, List.mem_cons, List.not_mem_nil, or_false] at m
  rcases m with h | h | h | h | h | h | h | h | h | h | h | h | h <;> exact ⟨_, h, by decide, by decide⟩
theorem mod_lt {a b : Int} (h : 0 < b) : 0 ≤ a % b ∧ a % b < b := ⟨Int.emod_nonneg _ (by omega), Int.emod_lt_of_pos _ h⟩
theorem mul_lt {a b A B : Int} (a0 : 0 ≤ a) (a1 : a < A) (b0 : 0 ≤ b) (b1 : b < B) : 0 ≤ a * b ∧ a * b < A * B := ⟨Int.mul_nonneg a0 b0, by
  have z := Int.mul_le_mul (show a ≤ A - 1 by omega) (show b ≤ B - 1 by omega) b0 (show 0 ≤ A - 1 by omega)
  rw [Int.sub_mul, Int.mul_sub, Int.mul_one, Int.one_mul] at z
  omega⟩
theorem x_tp {gs : List EG} {ws : List W} {e : Fw.Env} {h : IH} {Q : Fw.Env → IH → Prop} : (gTp gs (.tup ws) e h).Wp Q = ((Nat.beq ws.length gs.length = true) ∧ (gSeq gs ws e h).Wp Q) := need_wp
theorem x_gs0 {e : Fw.Env} {h : IH} {Q : Fw.Env → IH → Prop} : (gSeq [] [] e h).Wp Q = Q e h := rfl
theorem x_gs1 {g : EG} {gs : List EG} {w : W} {ws : List W} {e : Fw.Env} {h : IH} {Q : Fw.Env → IH → Prop} : (gSeq (g :: gs) (w :: ws) e h).Wp Q = (g w e h).Wp fun e h => (gSeq gs ws e h).Wp Q := Rs.Wp_bind
theorem seq_cut {a b : SS} {e : Fw.Env} {h : IH} {N : Fw.Env → IH → Prop} {R : W → IH → Prop} {B C : Fw.Env → IH → Prop} (N' : Fw.Env → IH → Prop) (ha : (a e h).Wp ⟨N', R, B, C⟩) (hb : ∀ e h, N' e h → (b e h).Wp ⟨N, R, B, C⟩) : (sSeq a b e h).Wp ⟨N, R, B, C⟩ := by
  rw [x_seq]
  exact ha.mono hb (fun _ _ z => z) (fun _ _ z => z) fun _ _ z => z
def Fr (p : Nat) (h h' : IH) : Prop := h.n ≤ h'.n ∧ ∀ i, i < h.n → i ≠ p → h'.get i = h.get i
theorem Fr.refl {p : Nat} {h : IH} : Fr p h h := ⟨Nat.le_refl _, fun _ _ _ => rfl⟩
theorem Fr.trans {p : Nat} {a b c : IH} (x : Fr p a b) (y : Fr p b c) : Fr p a c := ⟨Nat.le_trans x.1 y.1, fun i hi ne => (y.2 i (Nat.lt_of_lt_of_le hi x.1) ne).trans (x.2 i hi ne)⟩
theorem Keep.fr {p : Nat} {h h' : IH} (k : Keep h h') : Fr p h h' := ⟨k.1, fun i hi _ => k.2 i hi⟩
theorem Fr.set {p : Nat} {h : IH} {c : Cell} (hp : p < h.n) : Fr p h (h.set p c) := ⟨Nat.le_refl _, fun i hi ne => by rw [IH.get_set _ _ _ _ hp, if_neg ne]⟩
structure PenAt (h : IH) (p c : Nat) (at_ left : Int) (cs : List Int) : Prop where
  pen : h.get p = some (.lst [.loc c, .int at_, .int left])
  cells : h.get c = some (.lst (cs.map .int))
  ne : c ≠ p
theorem PenAt.set {h : IH} {p c : Nat} {a l a' l' : Int} {cs : List Int} (x : PenAt h p c a l cs) : PenAt (h.set p (.lst [.loc c, .int a', .int l'])) p c a' l' cs :=
  ⟨by rw [IH.get_set _ _ _ _ (IH.get_lt x.pen), if_pos rfl], by rw [IH.get_set _ _ _ _ (IH.get_lt x.pen), if_neg x.ne]; exact x.cells, x.ne⟩
theorem PenAt.keep {h h' : IH} {p c : Nat} {a l : Int} {cs : List Int} (x : PenAt h p c a l cs) (k : Keep h h') : PenAt h' p c a l cs := ⟨(k.2 _ (IH.get_lt x.pen)).trans x.pen, (k.2 _ (IH.get_lt x.cells)).trans x.cells, x.ne⟩
def Pen (c : Nat) (h : IH) (p : Nat) (b : Int) : Prop := ∃ at_ left cs, PenAt h p c at_ left cs ∧ 0 ≤ at_ ∧ at_ ≤ b ∧ 0 ≤ left
theorem Pen.mono {h : IH} {c p : Nat} {b b' : Int} (x : Pen c h p b) (hb : b ≤ b') : Pen c h p b' := let ⟨a, l, cs, y, h0, h1, h2⟩ := x; ⟨a, l, cs, y, h0, Int.le_trans h1 hb, h2⟩
theorem Pen.lt {h : IH} {c p : Nat} {b : Int} (x : Pen c h p b) : p < h.n := let ⟨_, _, _, y, _⟩ := x; IH.get_lt y.pen
theorem Pen.keep {h h' : IH} {c p : Nat} {b : Int} (x : Pen c h p b) (k : Keep h h') : Pen c h' p b := let ⟨a, l, cs, y, z⟩ := x; ⟨a, l, cs, y.keep k, z⟩
def takeP (c p : Nat) (b many : Int) (h0 : IH) (w : W) (h' : IH) : Prop := ∃ v : Int, w = .int v ∧ 0 ≤ v ∧ v < many ∧ Fr p h0 h' ∧ Pen c h' p (b + 1)
theorem take_tail {p c : Nat} {b many a l : Int} {cs : List Int} {h0 h' : IH} (m0 : 0 < many) (m1 : many < 1073741824) (x : PenAt h' p c a l cs) (a0 : 0 ≤ a) (a1 : a ≤ b + 1) (l0 : 0 ≤ l) (fr : Fr p h0 h') :
    (oIx (.loc p) (.int 2) h').Wp fun x h => (oMod x (.int many) h).Wp fun w h => (oIx (.loc p) (.int 2) h).Wp fun x h => (oDiv x (.int many) h).Wp fun w_1 h => (oSet (.loc p) (.int 2) w_1 h).Wp fun x h => takeP c p b many h0 w h := by
  rw [x_ix x.pen (by decide) rfl]
  simp only [↓x_mod]
  refine ⟨m0, ?_⟩
  rw [x_ix x.pen (by decide) rfl]
  simp only [↓x_div]
  refine ⟨⟨m0, m1⟩, ?_⟩
  rw [x_set x.pen (by decide) (by simp)]
  have q := mod_lt (a := l) m0
  exact ⟨_, rfl, q.1, q.2, fr.trans (Fr.set (IH.get_lt x.pen)), a, l / many, cs, x.set, a0, a1, Int.ediv_nonneg l0 (by omega)⟩
theorem Fr.new {p : Nat} {h : IH} {c : Cell} : Fr p h (h.new c) := Keep.new.fr
theorem x_app {r : Nat} {ws : List W} {w : W} {h : IH} {P : W → IH → Prop} (g : h.get r = some (.lst ws)) (hl : ws.length < 16777216) : (mAppend [.loc r, w] h).Wp P = P .non (h.set r (.lst (ws ++ [w]))) := by
  unfold mAppend; dsimp only; rw [g]; dsimp only
  have z : Nat.blt ws.length 16777216 = true := blt_of hl
  rw [z]; rfl
theorem isLst_at {r : Nat} {ws : List W} {h : IH} (g : h.get r = some (.lst ws)) : isLst (.loc r) h = true := by unfold isLst; dsimp only; rw [g]
theorem x_tupL {r : Nat} {ws : List W} {h : IH} {P : W → IH → Prop} (g : h.get r = some (.lst ws)) : (k1 oTuple [.loc r] h).Wp P = P (.tup ws) h := by
  unfold k1 oTuple; dsimp only; rw [list_at g]; rfl
section
variable {e : Fw.Env} {h : IH} {P : W → IH → Prop} {f g l : EE} {k k' : W → W → IH → Rs W}
def andK (g : EE) (e : Fw.Env) (w : W) (h : IH) : Rs W := match w with
  | .bl true => g e h
  | .bl false => .ok (.bl false) h
  | _ => .stuck
def orK (g : EE) (e : Fw.Env) (w : W) (h : IH) : Rs W := match w with
  | .bl true => .ok (.bl true) h
  | .bl false => g e h
  | _ => .stuck
theorem x_eAnd : (eAnd f g e h).Wp P = (f e h).Wp fun w h => (andK g e w h).Wp P := Rs.Wp_bind
theorem x_eOr : (eOr f g e h).Wp P = (f e h).Wp fun w h => (orK g e w h).Wp P := Rs.Wp_bind
theorem x_andK {c : Bool} : (andK g e (.bl c) h).Wp P = ((c = true → (g e h).Wp P) ∧ (c = false → P (.bl false) h)) := by cases c <;> simp [andK]
theorem x_orK {c : Bool} : (orK g e (.bl c) h).Wp P = ((c = true → P (.bl true) h) ∧ (c = false → (g e h).Wp P)) := by cases c <;> simp [orK]
def notK (w : W) (h : IH) : Rs W := match w with
  | .bl b => .ok (.bl !b) h
  | _ => .stuck
theorem x_eNot : (eNot f e h).Wp P = (f e h).Wp fun w h => (notK w h).Wp P := Rs.Wp_bind
theorem x_notK {c : Bool} : (notK (.bl c) h).Wp P = P (.bl !c) h := rfl
def chK_ (k' : W → W → IH → Rs W) (l : EE) (e : Fw.Env) (y : W) (z : W) (h : IH) : Rs W := match z with
  | .bl true => (l e h).bind fun w h => k' y w h
  | .bl false => .ok (.bl false) h
  | _ => .stuck
theorem x_chain : (eChain k k' f g l e h).Wp P = (f e h).Wp fun x h => (g e h).Wp fun y h => (k x y h).Wp fun z h => (chK_ k' l e y z h).Wp P := by
  unfold eChain
  rw [Rs.Wp_bind]
  congr; funext x h; rw [Rs.Wp_bind]
  congr; funext y h; rw [Rs.Wp_bind]; rfl
theorem x_chK {c : Bool} {y : W} : (chK_ k' l e y (.bl c) h).Wp P = ((c = true → (l e h).Wp fun w h => (k' y w h).Wp P) ∧ (c = false → P (.bl false) h)) := by
  cases c
  · simp [chK_]
  · show (Rs.bind _ _).Wp P = _
    rw [Rs.Wp_bind]; simp
theorem x_isiI {ts : List Ty} {i : Int} : (oIsi ts (.int i) h).Wp P = P (.bl (ts.any fun u => isTy .int u)) h := rfl
theorem x_isiN {ts : List Ty} : (oIsi ts .non h).Wp P = P (.bl (ts.any fun u => isTy .non u)) h := rfl
theorem x_isiS {ts : List Ty} {s : Str} : (oIsi ts (.str s) h).Wp P = P (.bl (ts.any fun u => isTy .str u)) h := rfl
theorem x_isiT {ts : List Ty} {ws : List W} : (oIsi ts (.tup ws) h).Wp P = P (.bl (ts.any fun u => isTy .tuple u)) h := rfl
end
theorem x_truB {c : Bool} {h : IH} {B : Bool → IH → Prop} : (truW (.bl c) h).Wp B = B c h := rfl
theorem x_isNot {w : W} {h : IH} {P : W → IH → Prop} : (oIsNot w .non h).Wp P = P (.bl (!isNone w)) h := rfl
theorem x_is {w : W} {h : IH} {P : W → IH → Prop} : (oIs w .non h).Wp P = P (.bl (isNone w)) h := rfl
theorem flat_ints : ∀ cs : List Int, (cs.map W.int).all flatW = true
  | [] => rfl
  | c :: cs => by rw [List.map_cons, List.all_cons, flat_ints cs]; rfl
theorem in_ints (u : Int) : ∀ cs : List Int, inFlat (.int u) (cs.map .int) = decide (u ∈ cs)
  | [] => by simp [inFlat]
  | c :: cs => by
    rw [List.map_cons]
    unfold inFlat
    by_cases q : c = u
    · subst q; simp [eqFlat]
    · have : eqFlat (.int c) (.int u) = false := by simp [eqFlat, q]
      rw [this, in_ints u cs]
      have n : u ≠ c := fun e => q e.symm
      simp [n]
theorem inW_ints {u : Int} {cs : List Int} {r : Nat} {h : IH} (g : h.get r = some (.lst (cs.map .int))) : inW (.int u) (.loc r) h = some (decide (u ∈ cs)) := by
  unfold inW; dsimp only; rw [g]; dsimp only
  rw [flat_ints, in_ints]; rfl
theorem x_ninI {u : Int} {cs : List Int} {r : Nat} {h : IH} {P : W → IH → Prop} (g : h.get r = some (.lst (cs.map .int))) : (oNotIn (.int u) (.loc r) h).Wp P = P (.bl !decide (u ∈ cs)) h := by
  unfold oNotIn; rw [inW_ints g]; rfl
theorem x_inI {u : Int} {cs : List Int} {r : Nat} {h : IH} {P : W → IH → Prop} (g : h.get r = some (.lst (cs.map .int))) : (oIn (.int u) (.loc r) h).Wp P = P (.bl (decide (u ∈ cs))) h := by
  unfold oIn; rw [inW_ints g]; rfl
theorem cut_mem {ws : List W} {lo hi : Option Int} {x : W} (h : x ∈ cutW ws lo hi) : x ∈ ws := List.mem_of_mem_drop (List.mem_of_mem_take h)
theorem ints_map : ∀ {ws : List W}, (∀ x ∈ ws, ∃ i : Int, x = .int i) → ∃ cs : List Int, ws = cs.map .int
  | [], _ => ⟨[], rfl⟩
  | x :: ws, H => by
    obtain ⟨i, e⟩ := H x List.mem_cons_self
    obtain ⟨cs, e2⟩ := ints_map (ws := ws) fun y hy => H y (List.mem_cons_of_mem _ hy)
    exact ⟨i :: cs, by rw [e, e2]; rfl⟩
theorem cut_lens {ws : List W} : (cutW ws none (some 12)).length = min 12 ws.length ∧ (cutW ws (some 12) (some 63)).length = min 63 ws.length - 12 := by
  have e1 : ∀ d, HT.sIx ws.length d (some 12) = min 12 ws.length := fun d => HT.sIx_nat ws.length d 12
  have e2 : ∀ d, HT.sIx ws.length d (some 63) = min 63 ws.length := fun d => HT.sIx_nat ws.length d 63
  unfold cutW
  rw [e1, e1, e2, HT.sIx_none]
  simp only [List.length_take, List.length_drop]
  omega
theorem x_slR {a b : Option Int} {ws : List W} {h : IH} {P : W → IH → Prop} : (oSl a b (.ro ws) h).Wp P = P (.loc h.n) (h.new (.lst (cutW ws a b))) := rfl
theorem x_list {r : Nat} {ws : List W} {h : IH} {P : W → IH → Prop} (g : h.get r = some (.lst ws)) : (k1 oList [.loc r] h).Wp P = P (.loc h.n) (h.new (.lst ws)) := by
  unfold k1 oList; dsimp only; rw [list_at g]; rfl
theorem nodup_len : ∀ (n : Nat) (l : List Int), l.Nodup → (∀ u ∈ l, 0 ≤ u ∧ u < n) → l.length ≤ n
  | 0, l, _, h => by
    cases l with
    | nil => exact Nat.le_refl _
    | cons a l => have := h a List.mem_cons_self; omega
  | n + 1, l, nd, h => by
    by_cases q : (n : Int) ∈ l
    · have z := nodup_len n (l.erase n) (nd.erase _) fun u hu => by
        have hu := nd.mem_erase_iff.mp hu
        have := h u hu.2
        have := hu.1
        omega
      rw [List.length_erase_of_mem q] at z
      omega
    · have z := nodup_len n l nd fun u hu => by
        have := h u hu
        have : u ≠ n := fun e => q (e ▸ hu)
        omega
      omega
theorem x_dic1 {f g : EE} {e : Fw.Env} {h : IH} {P : W → IH → Prop} (w : (f e h).Wp fun k h => ∃ i : Int, k = .int i ∧ (g e h).Wp fun v h => P (.loc h.n) (h.new (.dk [(.inl i, v)]))) : (eDic [(f, g)] e h).Wp P := by
  unfold eDic
  obtain ⟨k, h1, q1, i, ek, w⟩ := w.ex
  subst ek
  obtain ⟨v, h2, q2, w⟩ := w.ex
  unfold eDic.go
  rw [q1, Rs.bind_ok, q2, Rs.bind_ok]
  exact w
theorem x_pop0 {r : Nat} {w : W} {ws : List W} {h : IH} {P : W → IH → Prop} (g : h.get r = some (.lst (w :: ws))) : (mPop1 [.loc r, .int 0] h).Wp P = P w (h.set r (.lst ws)) := by
  unfold mPop1; dsimp only; rw [g]; dsimp only
  have z : L2.ixN (w :: ws).length 0 = some 0 := by
    unfold L2.ixN
    rw [if_pos (by omega), if_pos (by simp)]; rfl
  rw [z]; rfl
theorem purs_ints : ∀ cs : List Int, purs (cs.map .int) = true
  | [] => rfl
  | c :: cs => by show (true && purs (cs.map .int)) = true; rw [purs_ints cs]; rfl
theorem depth_ints : ∀ cs : List Int, PyData.depthAll (pds (cs.map .int)) = 0
  | [] => rfl
  | c :: cs => by
    show max 0 (PyData.depthAll (pds (cs.map .int))) = 0
    rw [depth_ints cs]; rfl
theorem x_neE {r a : Nat} {cs : List Int} {h : IH} {P : W → IH → Prop} (g : h.get r = some (.lst (cs.map .int))) (ga : h.get a = some (.lst [])) (z : P (.bl !decide (cs = [])) h) : (oNe (.loc r) (.loc a) h).Wp P := by
  refine w_neL (eqW_lst g ga (purs_ints cs) rfl (by rw [depth_ints]; omega) (Nat.zero_le _)) fun c hc => ?_
  have e : c = decide (cs = []) := by
    rw [Bool.eq_iff_iff, hc, decide_eq_true_eq]
    simp
  rw [e]; exact z
theorem Keep.set {h h' : IH} {r : Nat} {c : Cell} (k : Keep h h') (r0 : h.n ≤ r) (rl : r < h'.n) : Keep h (h'.set r c) := ⟨k.1, fun q hq => by rw [IH.get_set _ _ _ _ rl, if_neg (by omega)]; exact k.2 q hq⟩
theorem take_one {vs : List Int} {t : Nat} {u : Int} (h : vs[t]? = some u) : vs.take (t + 1) = vs.take t ++ [u] := by
  rw [List.take_add_one, h]; rfl
theorem ints_at {vs : List Int} {t : Nat} {y : W} (h : (vs.map W.int)[t]? = some y) : ∃ u, vs[t]? = some u ∧ y = .int u := by
  rw [List.getElem?_map] at h
  cases q : vs[t]? with
  | none => rw [q] at h; cases h
  | some u => rw [q] at h; exact ⟨u, rfl, (Option.some.inj h).symm⟩
theorem filter_take {α : Type} (p : α → Bool) {l : List α} {i : Nat} {x : α} (h : l[i]? = some x) : (l.take (i + 1)).filter p = if p x = true then (l.take i).filter p ++ [x] else (l.take i).filter p := by
  rw [List.take_add_one, h, List.filter_append]
  cases q : p x <;> simp [q]
theorem map_take {α β : Type} (f : α → β) {l : List α} {i : Nat} {x : α} (h : l[i]? = some x) : (l.take (i + 1)).map f = (l.take i).map f ++ [f x] := by
  rw [List.take_add_one, h, List.map_append]; rfl
theorem x_ins0 {r : Nat} {w : W} {ws : List W} {h : IH} {P : W → IH → Prop} (g : h.get r = some (.lst ws)) (hl : ws.length < 16777216) : (mInsert [.loc r, .int 0, w] h).Wp P = P .non (h.set r (.lst (w :: ws))) := by
  unfold mInsert; dsimp only; rw [g]; dsimp only
  have z : Nat.blt ws.length 16777216 = true := blt_of hl
  rw [z]; rfl
theorem isDk_at {a : Nat} {kvs : List (Key × W)} {h : IH} (g : h.get a = some (.dk kvs)) : isDk (.loc a) h = true := by unfold isDk; dsimp only; rw [g]
theorem x_isiL {ts : List Ty} {a : Nat} {ws : List W} {h : IH} {P : W → IH → Prop} (g : h.get a = some (.lst ws)) : (oIsi ts (.loc a) h).Wp P = P (.bl (ts.any fun u => isTy .list u)) h := by
  unfold oIsi tyOf; dsimp only; rw [g]; rfl
theorem x_last {r : Nat} {ws : List W} {w : W} {h : IH} {P : W → IH → Prop} (g : h.get r = some (.lst ws)) (hw : ws.getLast? = some w) : (oIx (.loc r) (.int (-1)) h).Wp P = P w h := by
  unfold oIx; dsimp only; rw [g]; dsimp only
  have hl : ws ≠ [] := fun e => by rw [e] at hw; cases hw
  have l0 : 0 < ws.length := List.length_pos_iff.mpr hl
  have e : L2.atI ws (-1) = some w := by
    unfold L2.atI L2.ixN
    rw [if_neg (by decide), if_pos (by omega)]
    rw [List.getLast?_eq_getElem?] at hw
    have e2 : ((-1 : Int) + (ws.length : Int)).toNat = ws.length - 1 := by omega
    simp only [Option.bind_some]
    first | (rw [e2]; exact hw) | (rw [show ((ws.length : Int) + (-1 : Int)).toNat = ws.length - 1 by omega]; exact hw)
  rw [e]; rfl
def rg (n : Nat) : List Int := (List.range n).map fun i : Nat => (i : Int)
theorem rg_len (n : Nat) : (rg n).length = n := by unfold rg; rw [List.length_map, List.length_range]
theorem rg_at {n i : Nat} {u : Int} (h : (rg n)[i]? = some u) : u = i ∧ i < n := by
  have l := (List.getElem?_eq_some_iff.mp h).1
  rw [rg_len] at l
  unfold rg at h
  rw [List.getElem?_map, List.getElem?_range l] at h
  exact ⟨(Option.some.inj h).symm, l⟩
theorem x_lrg {n : Nat} {h : IH} {P : W → IH → Prop} (hn : n < 1000) : (oListRange (.int n) h).Wp P = P (.loc h.n) (h.new (.lst ((rg n).map .int))) := by
  unfold oListRange; dsimp only
  rw [need_wp]
  have e : (small (n : Int) && decide ((n : Int) < 1000000)) = true := by
    rw [small_nat (by omega), decide_eq_true (by omega)]; rfl
  rw [e, Int.toNat_natCast]
  have e2 : ((List.range n).map fun i => W.int (i : Nat)) = (rg n).map .int := by unfold rg; rw [List.map_map]; rfl
  rw [e2]
  exact propext ⟨fun z => z.2, fun z => ⟨rfl, z⟩⟩
theorem mem_insI {i x : Int} : ∀ {l : List Int}, x ∈ insI i l → x = i ∨ x ∈ l
  | [], h => by left; simpa [insI] using h
  | j :: r, h => by
    unfold insI at h
    split at h
    · rcases List.mem_cons.mp h with h | h
      · exact .inl h
      · exact .inr h
    · rcases List.mem_cons.mp h with h | h
      · exact .inr (h ▸ List.mem_cons_self)
      · rcases mem_insI h with h | h
        · exact .inl h
        · exact .inr (List.mem_cons_of_mem _ h)
theorem mem_sortI {x : Int} : ∀ {l : List Int}, x ∈ sortI l → x ∈ l
  | [], h => h
  | i :: r, h => by
    unfold sortI at h
    rcases mem_insI h with h | h
    · exact h ▸ List.mem_cons_self
    · exact List.mem_cons_of_mem _ (mem_sortI h)
theorem len_insI {i : Int} : ∀ l : List Int, (insI i l).length = l.length + 1
  | [] => rfl
  | j :: r => by
    unfold insI
    split
    · rfl
    · rw [List.length_cons, len_insI r, List.length_cons]
theorem len_sortI : ∀ l : List Int, (sortI l).length = l.length
  | [] => rfl
  | i :: r => by unfold sortI; rw [len_insI, len_sortI r]; rfl
theorem x_int {i : Int} {h : IH} {P : W → IH → Prop} : (k1 oInt [.int i] h).Wp P = P (.int i) h := rfl
theorem x_err {c : Nat} {f : EE} {e : Fw.Env} {h : IH} {P : W → IH → Prop} : (eErr c f e h).Wp P = (f e h).Wp fun _ h => P (.loc h.n) (h.new (.err c)) := Rs.Wp_bind
theorem x_isE {ds : List (Nat × Bool)} {a c : Nat} {b : Bool} {h : IH} {P : W → IH → Prop} (g : h.get a = some (.err c)) (l : ds.lookup c = some b) : (oIsE ds (.loc a) h).Wp P = P (.bl b) h := by
  unfold oIsE; dsimp only; rw [g]; dsimp only; rw [l]; rfl
theorem Keep.at {h h' : IH} (k : Keep h h') {q : Nat} {c : Cell} (g : h.get q = some c) : h'.get q = some c := by rw [k.2 _ (IH.get_lt g)]; exact g
end Fw

set_option linter.all false
set_option maxRecDepth 100000
set_option maxHeartbeats 1000000
/-! Fw, part Z4: what walks two lists at once; tests that are known; ascending lists of a list's ints. -/
namespace Fw
open PySem
section
variable {t : ET} {a b : SS} {f g x y : EE} {tg : EG} {vs : List Nat} {e : Env} {h h' : IH} {P : W → IH → Prop} {D : Dn} {N : Env → IH → Prop} {R : W → IH → Prop} {B C : Env → IH → Prop}
theorem w_ifT (q : t e h = .ok true h) (k : (a e h).Wp ⟨N, R, B, C⟩) : (sIf t a b e h).Wp ⟨N, R, B, C⟩ := by
  rw [x_if, q]; exact ⟨fun _ => k, fun z => Bool.noConfusion z⟩
theorem w_ifF (q : t e h = .ok false h) (k : (b e h).Wp ⟨N, R, B, C⟩) : (sIf t a b e h).Wp ⟨N, R, B, C⟩ := by
  rw [x_if, q]; exact ⟨fun z => Bool.noConfusion z, fun _ => k⟩
theorem w_eIfT (q : t e h = .ok true h) (k : (f e h).Wp P) : (eIf t f g e h).Wp P := by
  rw [x_eIf, q]; exact ⟨fun _ => k, fun z => Bool.noConfusion z⟩
theorem w_eIfF (q : t e h = .ok false h) (k : (g e h).Wp P) : (eIf t f g e h).Wp P := by
  rw [x_eIf, q]; exact ⟨fun z => Bool.noConfusion z, fun _ => k⟩
theorem x_ixT0 {w : W} {ws : List W} : (oIx (.tup (w :: ws)) (.int 0) h).Wp P = P w h := x_ixT (by decide) rfl
theorem x_ixT1 {w u : W} {ws : List W} : (oIx (.tup (u :: w :: ws)) (.int 1) h).Wp P = P w h := x_ixT (by decide) rfl
theorem x_ixT2 {w u v : W} {ws : List W} : (oIx (.tup (u :: v :: w :: ws)) (.int 2) h).Wp P = P w h := x_ixT (by decide) rfl
/-- zip of two lists -/
theorem for_zip (w : (x e h).Wp fun v h1 => (y e h1).Wp fun v' h1 => ∃ (p q : Nat) (xs ys : List W), v = .loc p ∧ v' = .loc q ∧ h1.get p = some (.lst xs) ∧ h1.get q = some (.lst ys) ∧ ∃ I : Nat → Env → IH → Prop, I 0 e h1 ∧
    (∀ i e h2 u u', I i e h2 → xs[i]? = some u → ys[i]? = some u' → h2.get p = some (.lst xs) ∧ h2.get q = some (.lst ys) ∧ (tg (.tup [u, u']) e h2).Wp fun e h3 => (b e h3).Wp ⟨I (i + 1), R, N, I (i + 1)⟩) ∧
    ∀ e h2, I (min xs.length ys.length) e h2 → h2.get p = some (.lst xs) ∧ h2.get q = some (.lst ys) ∧ N e h2) : (sFor (iA kZip (aCons x (aCons y aNil))) tg b e h).Wp ⟨N, R, B, C⟩ := by
  refine W_for (Rs.Wp.bind ?_)
  rw [x_cons]
  refine w.mono fun v h1 w => ?_
  rw [x_cons]
  refine w.mono fun v' h1 ⟨p, q, xs, ys, e1, e2, gp, gq, I, i0, st, fn⟩ => ?_
  subst e1; subst e2
  rw [x_nil]
  have z : kZip [.loc p, .loc q] h1 = .ok (.zip p q) h1 := by
    unfold kZip; dsimp only; rw [list_at gp, list_at gq]
  rw [z, Rs.Wp_ok]
  have cn : (IT.zip p q).cnt h1 = min xs.length ys.length := by
    unfold IT.cnt; dsimp only; rw [list_at gp, list_at gq]; rfl
  refine ⟨I, i0, fun i e h2 hI hi => ?_, fun e h2 hI => ?_⟩
  · rw [cn] at hi
    have l1 : i < xs.length := by omega
    have l2 : i < ys.length := by omega
    have g1 := List.getElem?_eq_getElem l1
    have g2 := List.getElem?_eq_getElem l2
    obtain ⟨k1, k2, k3⟩ := st i e h2 _ _ hI g1 g2
    refine ⟨_, ?_, k3⟩
    unfold IT.nth; dsimp only; rw [list_at k1, list_at k2]
    show (xs[i]?.bind fun w => ys[i]?.bind fun u => some (W.tup [w, u])) = _
    rw [g1, g2]; rfl
  · rw [cn] at hI ⊢
    obtain ⟨k1, k2, k3⟩ := fn e h2 hI
    refine ⟨?_, k3⟩
    unfold IT.fin; dsimp only; rw [list_at k1, list_at k2]; dsimp only
    rcases Nat.le_total xs.length ys.length with l | l
    · rw [Nat.min_eq_left l, Nat.ble_eq_true_of_le (Nat.le_refl _), Bool.true_or]
    · rw [Nat.min_eq_right l, Nat.ble_eq_true_of_le (Nat.le_refl ys.length), Bool.or_true]
theorem lc_zip (w : (x e h).Wp fun v h1 => (y e h1).Wp fun v' h1 => ∃ (p q : Nat) (xs ys : List W), v = .loc p ∧ v' = .loc q ∧ h1.get p = some (.lst xs) ∧ h1.get q = some (.lst ys) ∧ ∃ I : Nat → List W → IH → Prop, I 0 [] h1 ∧
    (∀ i us h2 u u', I i us h2 → xs[i]? = some u → ys[i]? = some u' → h2.get p = some (.lst xs) ∧ h2.get q = some (.lst ys) ∧ (tg (.tup [u, u']) (wipeW e vs) h2).Wp fun e h3 => (f e h3).Wp fun r h4 => I (i + 1) (us ++ [r]) h4) ∧
    ∀ us h2, I (min xs.length ys.length) us h2 → h2.get p = some (.lst xs) ∧ h2.get q = some (.lst ys) ∧ us.length ≤ 16777216 ∧ P (.loc h2.n) (h2.new (.lst us))) : (eLc (iA kZip (aCons x (aCons y aNil))) tg tYes f vs e h).Wp P := by
  refine W_lc (Rs.Wp.bind ?_)
  rw [x_cons]
  refine w.mono fun v h1 w => ?_
  rw [x_cons]
  refine w.mono fun v' h1 ⟨p, q, xs, ys, e1, e2, gp, gq, I, i0, st, fn⟩ => ?_
  subst e1; subst e2
  rw [x_nil]
  have z : kZip [.loc p, .loc q] h1 = .ok (.zip p q) h1 := by
    unfold kZip; dsimp only; rw [list_at gp, list_at gq]
  rw [z, Rs.Wp_ok]
  have cn : (IT.zip p q).cnt h1 = min xs.length ys.length := by
    unfold IT.cnt; dsimp only; rw [list_at gp, list_at gq]; rfl
  refine ⟨I, i0, fun i us h2 hI hi => ?_, fun us h2 hI => ?_⟩
  · rw [cn] at hi
    have l1 : i < xs.length := by omega
    have l2 : i < ys.length := by omega
    have g1 := List.getElem?_eq_getElem l1
    have g2 := List.getElem?_eq_getElem l2
    obtain ⟨k1, k2, k3⟩ := st i us h2 _ _ hI g1 g2
    refine ⟨_, ?_, k3.mono fun e h3 k => by rw [x_yes, if_pos rfl]; exact k⟩
    unfold IT.nth; dsimp only; rw [list_at k1, list_at k2]
    show (xs[i]?.bind fun w => ys[i]?.bind fun u => some (W.tup [w, u])) = _
    rw [g1, g2]; rfl
  · rw [cn] at hI ⊢
    obtain ⟨k1, k2, k3⟩ := fn us h2 hI
    refine ⟨?_, k3⟩
    unfold IT.fin; dsimp only; rw [list_at k1, list_at k2]; dsimp only
    rcases Nat.le_total xs.length ys.length with l | l
    · rw [Nat.min_eq_left l, Nat.ble_eq_true_of_le (Nat.le_refl _), Bool.true_or]
    · rw [Nat.min_eq_right l, Nat.ble_eq_true_of_le (Nat.le_refl ys.length), Bool.or_true]
theorem ints_of : ∀ cs : List Int, mapO asI (cs.map W.int) = some cs
  | [] => rfl
  | c :: cs => by rw [List.map_cons, mapO_cons, asI, ints_of cs]
theorem x_sset {r : Nat} {cs : List Int} (g : h.get r = some (.lst (cs.map .int))) (hl : cs.length < 64) : (oSortSet (.loc r) h).Wp P = P (.loc h.n) (h.new (.lst ((setI cs).map .int))) := by
  unfold oSortSet; dsimp only; rw [list_at g]; dsimp only; rw [ints_of]; dsimp only
  rw [need_wp, blt_of hl]; simp
theorem x_min1 {r : Nat} {c : Int} {cs : List Int} (g : h.get r = some (.lst ((c :: cs).map .int))) : (kMin [.loc r] h).Wp P = P (.int (minL c cs)) h := by
  unfold kMin oMin1; dsimp only; rw [list_at g]; dsimp only; rw [ints_of]; rfl
theorem x_max1 {r : Nat} {c : Int} {cs : List Int} (g : h.get r = some (.lst ((c :: cs).map .int))) : (k1 oMax1 [.loc r] h).Wp P = P (.int (maxL c cs)) h := by
  unfold k1 oMax1; dsimp only; rw [list_at g]; dsimp only; rw [ints_of]; rfl
theorem x_sum {r : Nat} {cs : List Int} (g : h.get r = some (.lst (cs.map .int))) : (k1 oSum [.loc r] h).Wp P = P (.int cs.sum) h := by
  unfold k1 oSum; dsimp only; rw [list_at g]; dsimp only; rw [ints_of]; rfl
theorem mGet2_at {p : Nat} {kvs : List (Key × W)} {s : Str} {d w : W} (g : h.get p = some (.dk kvs)) (q : (dGet kvs (.inr s)).getD d = w) : (mGet2 [.loc p, .str s, d] h).Wp P = P w h := by
  unfold mGet2; dsimp only; rw [g]; dsimp only
  show (match dGet kvs (.inr s) with
    | some w => Rs.ok w h
    | none => .ok d h).Wp P = P w h
  subst q
  cases dGet kvs (.inr s) <;> rfl
end
end Fw

set_option maxRecDepth 100000
set_option maxHeartbeats 0
namespace K25
open PySem PySem.Spec PyProof.Rows L2 Fw
abbrev L : PySem.W.OpenLaw := PySem.Challenge.rw_firstwake_k25_placements_and_walks_recog
def top (i : Nat) : Stmt := L.prog.main.body.getD i (.Pass ⟨0, 0, 0, 0⟩)
def mk (i : Nat) (x : Str) (ps N : List Str) : Df := ⟨x, x, defArgs (top i), defScope (top i), defBody (top i), ps, N⟩
def d0 : Df := mk 16 "is_integer" ["thing", "least", "most"] ["thing", "least", "most"]
def d1 : Df := mk 17 "has_word" ["thing"] ["thing"]
def d2 : Df := mk 18 "is_slot" ["thing"] ["thing"]
def d3 : Df := mk 19 "is_field" ["units", "unit", "field"] ["units", "unit", "field"]
def d4 : Df := mk 20 "is_instruction" ["units", "callees", "thing", "where"] ["units", "callees", "thing", "where", "word"]
def d5 : Df := mk 21 "is_unit_head" ["thing", "number"] ["thing", "number"]
def d6 : Df := mk 22 "is_function_head" ["units", "thing"] ["units", "thing"]
def d7 : Df := mk 23 "is_program" ["thing"] ["thing", "part", "units", "functions", "number", "unit", "function"]
def d8 : Df := mk 24 "has_instructions" ["units", "functions"] ["units", "functions", "unit", "one", "number", "function", "callees", "place"]
def d9 : Df := mk 25 "need_program" ["program"] ["program"]
def d10 : Df := mk 26 "unit_of" ["program", "one"] ["program", "one"]
def d11 : Df := mk 27 "need_unit" ["program", "unit"] ["program", "unit"]
def d12 : Df := mk 29 "need_function" ["program", "function"] ["program", "function"]
def d13 : Df := mk 30 "need_prices" ["program", "function", "prices"] ["program", "function", "prices", "price"]
def d14 : Df := mk 31 "accesses_in" ["program", "function", "unit"] ["program", "function", "unit", "body", "place", "one"]
def d15 : Df := mk 32 "next_places" ["program", "function", "unit", "place"] ["program", "function", "unit", "place", "body", "one", "found", "other"]
def d16 : Df := mk 33 "path_to" ["program", "function", "unit", "closed"] ["program", "function", "unit", "closed", "goals", "came", "row", "place", "other"]
def d17 : Df := mk 34 "walk_to" ["came", "place"] ["came", "place", "found"]
def d18 : Df := mk 35 "are_places" ["program", "function", "thing"] ["program", "function", "thing", "size", "place"]
def d19 : Df := mk 36 "is_placement" ["program", "function", "unit", "thing"] ["program", "function", "unit", "thing"]
def d20 : Df := mk 37 "is_walk" ["program", "function", "unit", "thing"] ["program", "function", "unit", "thing", "place", "one", "other"]
def d21 : Df := mk 38 "are_walks" ["program", "function", "unit", "prices", "thing"] ["program", "function", "unit", "prices", "thing", "pair", "walk", "number", "place", "price"]
def d22 : Df := mk 40 "_law_spread" ["cell", "at"] ["cell", "at", "primes", "one", "two", "three"]
def d23 : Df := mk 41 "_law_open" ["script"] ["script", "cells", "k", "cell"]
def d24 : Df := mk 42 "_law_take" ["pen", "many"] ["pen", "many", "at", "cell", "found"]
def d25 : Df := mk 43 "_law_w_pick" ["pen", "some"] ["pen", "some"]
def d26 : Df := mk 44 "_law_w_straight" ["pen", "fields", "often"] ["pen", "fields", "often", "s", "t", "way", "some", "unit", "field"]
def d27 : Df := mk 45 "_law_w_line" ["pen", "fields", "where", "heads"] ["pen", "fields", "where", "heads", "number", "place", "many", "way"]
def d28 : Df := mk 46 "_law_w_program" ["pen", "most", "longest_body"] ["pen", "most", "longest_body", "turn", "counts", "fields", "unit", "many", "field", "units", "parent", "body", "functions", "number", "found", "head", "heads", "place"]
def d29 : Df := mk 47 "_law_w_goals" ["program", "function", "unit"] ["program", "function", "unit", "found", "place", "one", "units"]
def d30 : Df := mk 48 "_law_w_onward" ["program", "function", "unit", "place"] ["program", "function", "unit", "place", "body", "one", "found", "other"]
def d31 : Df := mk 49 "_law_w_is_met" ["program", "function", "unit", "places"] ["program", "function", "unit", "places", "row", "seen", "goals", "place"]
def d32 : Df := mk 50 "_law_w_are_walks" ["program", "function", "unit", "prices", "given"] ["program", "function", "unit", "prices", "given", "goals", "size", "sums", "pair", "walk", "number", "one", "odd", "k", "place", "price"]
def d33 : Df := mk 51 "_law_w_places" ["pen", "size"] ["pen", "size", "place", "places", "odd", "one", "spot"]
def d34 : Df := mk 52 "_law_w_is_list" ["places", "size"] ["places", "size", "one"]
def d35 : Df := mk 53 "_law_w_walk" ["pen", "program", "function", "unit"] ["pen", "program", "function", "unit", "walk", "goals", "turn", "some"]
def d36 : Df := mk 54 "_law_w_walks" ["pen", "program", "function", "unit", "size"] ["pen", "program", "function", "unit", "size", "found", "turn", "way", "bent", "walk", "number", "at", "place", "odd"]
def d37 : Df := mk 55 "law" ["script"] ["script", "pen", "turn", "program", "function", "unit", "size", "place", "prices", "again", "places", "given", "seen", "due", "found"]
def tab : List Df := [d0, d1, d2, d3, d4, d5, d6, d7, d8, d9, d10, d11, d12, d13, d14, d15, d16, d17, d18, d19, d20, d21, d22, d23, d24, d25, d26, d27, d28, d29, d30, d31, d32, d33, d34, d35, d36, d37]
def xs : List Str := ["NoProgram", "NoUnit", "NoFunction", "NoPrices"]
def ds0 : List (Nat × Bool) := [(0, true), (1, false), (2, false), (3, false)]
def ds1 : List (Nat × Bool) := [(0, false), (1, true), (2, false), (3, false)]
def ds2 : List (Nat × Bool) := [(0, false), (1, false), (2, true), (3, false)]
def ds3 : List (Nat × Bool) := [(0, false), (1, false), (2, false), (3, true)]
def en (x : Str) (g : GK) : Str × GK := (x, g)
def kv (x : Str) (i : Int) : Str × Int := (x, i)
def gs : List (Str × GK) := [en "is_integer" (.fn 0),
  en "has_word" (.fn 1),
  en "is_slot" (.fn 2),
  en "is_field" (.fn 3),
  en "is_instruction" (.fn 4),
  en "is_unit_head" (.fn 5),
  en "is_function_head" (.fn 6),
  en "is_program" (.fn 7),
  en "has_instructions" (.fn 8),
  en "need_program" (.fn 9),
  en "unit_of" (.fn 10),
  en "need_unit" (.fn 11),
  en "need_function" (.fn 12),
  en "need_prices" (.fn 13),
  en "accesses_in" (.fn 14),
  en "next_places" (.fn 15),
  en "path_to" (.fn 16),
  en "walk_to" (.fn 17),
  en "are_places" (.fn 18),
  en "is_placement" (.fn 19),
  en "is_walk" (.fn 20),
  en "are_walks" (.fn 21),
  en "_law_spread" (.fn 22),
  en "_law_open" (.fn 23),
  en "_law_take" (.fn 24),
  en "_law_w_pick" (.fn 25),
  en "_law_w_straight" (.fn 26),
  en "_law_w_line" (.fn 27),
  en "_law_w_program" (.fn 28),
  en "_law_w_goals" (.fn 29),
  en "_law_w_onward" (.fn 30),
  en "_law_w_is_met" (.fn 31),
  en "_law_w_are_walks" (.fn 32),
  en "_law_w_places" (.fn 33),
  en "_law_w_is_list" (.fn 34),
  en "_law_w_walk" (.fn 35),
  en "_law_w_walks" (.fn 36),
  en "law" (.fn 37),
  en "MOST_NUMBER" (.con (.int 65535)),
  en "MOST_UNITS" (.con (.int 6)),
  en "MOST_FIELDS" (.con (.int 3)),
  en "MOST_INITIALIZER" (.con (.int 6)),
  en "MOST_FUNCTIONS" (.con (.int 4)),
  en "MOST_BODY" (.con (.int 8)),
  en "MOST_SLOT" (.con (.int 2)),
  en "SIZES" (.kd [kv "number" 3, kv "copy" 3, kv "add" 3, kv "read" 4, kv "write" 4, kv "fail" 1, kv "input" 2, kv "show" 2, kv "branch" 2, kv "call" 2, kv "wake" 3]),
  en "STRAIGHT" (.con (.tup [.str "number", .str "copy", .str "add", .str "read", .str "write", .str "fail"])),
  en "NoProgram" (.exc 0 ds0),
  en "NoUnit" (.exc 1 ds1),
  en "NoFunction" (.exc 2 ds2),
  en "NoPrices" (.exc 3 ds3),
  en "all" .bt,
  en "bool" .bt,
  en "enumerate" .bt,
  en "int" .bt,
  en "isinstance" .bt,
  en "len" .bt,
  en "list" .bt,
  en "max" .bt,
  en "min" .bt,
  en "range" .bt,
  en "repr" .bt,
  en "set" .bt,
  en "sorted" .bt,
  en "str" .bt,
  en "sum" .bt,
  en "tuple" .bt,
  en "zip" .bt]
abbrev gk : Str → Option GK := fun x => gs.lookup x
theorem b0 : bindOk d0 := by
  intro _ _ _ _ _ _ us hl
  match us, hl with
  | [_, _, _], _ => kernel_rfl
theorem s0 : FnScope d0.N d0.ps d0.scope := ⟨by kernel_rfl, by kernel_rfl, by kernel_rfl, by decide +kernel, by kernel_rfl, by decide +kernel, by decide +kernel⟩
theorem b1 : bindOk d1 := by
  intro _ _ _ _ _ _ us hl
  match us, hl with
  | [_], _ => kernel_rfl
theorem s1 : FnScope d1.N d1.ps d1.scope := ⟨by kernel_rfl, by kernel_rfl, by kernel_rfl, by decide +kernel, by kernel_rfl, by decide +kernel, by decide +kernel⟩
theorem b2 : bindOk d2 := by
  intro _ _ _ _ _ _ us hl
  match us, hl with
  | [_], _ => kernel_rfl
theorem s2 : FnScope d2.N d2.ps d2.scope := ⟨by kernel_rfl, by kernel_rfl, by kernel_rfl, by decide +kernel, by kernel_rfl, by decide +kernel, by decide +kernel⟩
theorem b3 : bindOk d3 := by
  intro _ _ _ _ _ _ us hl
  match us, hl with
  | [_, _, _], _ => kernel_rfl
theorem s3 : FnScope d3.N d3.ps d3.scope := ⟨by kernel_rfl, by kernel_rfl, by kernel_rfl, by decide +kernel, by kernel_rfl, by decide +kernel, by decide +kernel⟩
theorem b4 : bindOk d4 := by
  intro _ _ _ _ _ _ us hl
  match us, hl with
  | [_, _, _, _], _ => kernel_rfl
theorem s4 : FnScope d4.N d4.ps d4.scope := ⟨by kernel_rfl, by kernel_rfl, by kernel_rfl, by decide +kernel, by kernel_rfl, by decide +kernel, by decide +kernel⟩
theorem b5 : bindOk d5 := by
  intro _ _ _ _ _ _ us hl
  match us, hl with
  | [_, _], _ => kernel_rfl
theorem s5 : FnScope d5.N d5.ps d5.scope := ⟨by kernel_rfl, by kernel_rfl, by kernel_rfl, by decide +kernel, by kernel_rfl, by decide +kernel, by decide +kernel⟩
theorem b6 : bindOk d6 := by
  intro _ _ _ _ _ _ us hl
  match us, hl with
  | [_, _], _ => kernel_rfl
theorem s6 : FnScope d6.N d6.ps d6.scope := ⟨by kernel_rfl, by kernel_rfl, by kernel_rfl, by decide +kernel, by kernel_rfl, by decide +kernel, by decide +kernel⟩
theorem b7 : bindOk d7 := by
  intro _ _ _ _ _ _ us hl
  match us, hl with
  | [_], _ => kernel_rfl
theorem s7 : FnScope d7.N d7.ps d7.scope := ⟨by kernel_rfl, by kernel_rfl, by kernel_rfl, by decide +kernel, by kernel_rfl, by decide +kernel, by decide +kernel⟩
theorem b8 : bindOk d8 := by
  intro _ _ _ _ _ _ us hl
  match us, hl with
  | [_, _], _ => kernel_rfl
theorem s8 : FnScope d8.N d8.ps d8.scope := ⟨by kernel_rfl, by kernel_rfl, by kernel_rfl, by decide +kernel, by kernel_rfl, by decide +kernel, by decide +kernel⟩
theorem b9 : bindOk d9 := by
  intro _ _ _ _ _ _ us hl
  match us, hl with
  | [_], _ => kernel_rfl
theorem s9 : FnScope d9.N d9.ps d9.scope := ⟨by kernel_rfl, by kernel_rfl, by kernel_rfl, by decide +kernel, by kernel_rfl, by decide +kernel, by decide +kernel⟩
theorem b10 : bindOk d10 := by
  intro _ _ _ _ _ _ us hl
  match us, hl with
  | [_, _], _ => kernel_rfl
theorem s10 : FnScope d10.N d10.ps d10.scope := ⟨by kernel_rfl, by kernel_rfl, by kernel_rfl, by decide +kernel, by kernel_rfl, by decide +kernel, by decide +kernel⟩
theorem b11 : bindOk d11 := by
  intro _ _ _ _ _ _ us hl
  match us, hl with
  | [_, _], _ => kernel_rfl
theorem s11 : FnScope d11.N d11.ps d11.scope := ⟨by kernel_rfl, by kernel_rfl, by kernel_rfl, by decide +kernel, by kernel_rfl, by decide +kernel, by decide +kernel⟩
theorem b12 : bindOk d12 := by
  intro _ _ _ _ _ _ us hl
  match us, hl with
  | [_, _], _ => kernel_rfl
theorem s12 : FnScope d12.N d12.ps d12.scope := ⟨by kernel_rfl, by kernel_rfl, by kernel_rfl, by decide +kernel, by kernel_rfl, by decide +kernel, by decide +kernel⟩
theorem b13 : bindOk d13 := by
  intro _ _ _ _ _ _ us hl
  match us, hl with
  | [_, _, _], _ => kernel_rfl
theorem s13 : FnScope d13.N d13.ps d13.scope := ⟨by kernel_rfl, by kernel_rfl, by kernel_rfl, by decide +kernel, by kernel_rfl, by decide +kernel, by decide +kernel⟩
theorem b14 : bindOk d14 := by
  intro _ _ _ _ _ _ us hl
  match us, hl with
  | [_, _, _], _ => kernel_rfl
theorem s14 : FnScope d14.N d14.ps d14.scope := ⟨by kernel_rfl, by kernel_rfl, by kernel_rfl, by decide +kernel, by kernel_rfl, by decide +kernel, by decide +kernel⟩
theorem b15 : bindOk d15 := by
  intro _ _ _ _ _ _ us hl
  match us, hl with
  | [_, _, _, _], _ => kernel_rfl
theorem s15 : FnScope d15.N d15.ps d15.scope := ⟨by kernel_rfl, by kernel_rfl, by kernel_rfl, by decide +kernel, by kernel_rfl, by decide +kernel, by decide +kernel⟩
theorem b16 : bindOk d16 := by
  intro _ _ _ _ _ _ us hl
  match us, hl with
  | [_, _, _, _], _ => kernel_rfl
theorem s16 : FnScope d16.N d16.ps d16.scope := ⟨by kernel_rfl, by kernel_rfl, by kernel_rfl, by decide +kernel, by kernel_rfl, by decide +kernel, by decide +kernel⟩
theorem b17 : bindOk d17 := by
  intro _ _ _ _ _ _ us hl
  match us, hl with
  | [_, _], _ => kernel_rfl
theorem s17 : FnScope d17.N d17.ps d17.scope := ⟨by kernel_rfl, by kernel_rfl, by kernel_rfl, by decide +kernel, by kernel_rfl, by decide +kernel, by decide +kernel⟩
theorem b18 : bindOk d18 := by
  intro _ _ _ _ _ _ us hl
  match us, hl with
  | [_, _, _], _ => kernel_rfl
theorem s18 : FnScope d18.N d18.ps d18.scope := ⟨by kernel_rfl, by kernel_rfl, by kernel_rfl, by decide +kernel, by kernel_rfl, by decide +kernel, by decide +kernel⟩
theorem b19 : bindOk d19 := by
  intro _ _ _ _ _ _ us hl
  match us, hl with
  | [_, _, _, _], _ => kernel_rfl
theorem s19 : FnScope d19.N d19.ps d19.scope := ⟨by kernel_rfl, by kernel_rfl, by kernel_rfl, by decide +kernel, by kernel_rfl, by decide +kernel, by decide +kernel⟩
theorem b20 : bindOk d20 := by
  intro _ _ _ _ _ _ us hl
  match us, hl with
  | [_, _, _, _], _ => kernel_rfl
theorem s20 : FnScope d20.N d20.ps d20.scope := ⟨by kernel_rfl, by kernel_rfl, by kernel_rfl, by decide +kernel, by kernel_rfl, by decide +kernel, by decide +kernel⟩
theorem b21 : bindOk d21 := by
  intro _ _ _ _ _ _ us hl
  match us, hl with
  | [_, _, _, _, _], _ => kernel_rfl
theorem s21 : FnScope d21.N d21.ps d21.scope := ⟨by kernel_rfl, by kernel_rfl, by kernel_rfl, by decide +kernel, by kernel_rfl, by decide +kernel, by decide +kernel⟩
theorem b22 : bindOk d22 := by
  intro _ _ _ _ _ _ us hl
  match us, hl with
  | [_, _], _ => kernel_rfl
theorem s22 : FnScope d22.N d22.ps d22.scope := ⟨by kernel_rfl, by kernel_rfl, by kernel_rfl, by decide +kernel, by kernel_rfl, by decide +kernel, by decide +kernel⟩
theorem b23 : bindOk d23 := by
  intro _ _ _ _ _ _ us hl
  match us, hl with
  | [_], _ => kernel_rfl
theorem s23 : FnScope d23.N d23.ps d23.scope := ⟨by kernel_rfl, by kernel_rfl, by kernel_rfl, by decide +kernel, by kernel_rfl, by decide +kernel, by decide +kernel⟩
theorem b24 : bindOk d24 := by
  intro _ _ _ _ _ _ us hl
  match us, hl with
  | [_, _], _ => kernel_rfl
theorem s24 : FnScope d24.N d24.ps d24.scope := ⟨by kernel_rfl, by kernel_rfl, by kernel_rfl, by decide +kernel, by kernel_rfl, by decide +kernel, by decide +kernel⟩
theorem b25 : bindOk d25 := by
  intro _ _ _ _ _ _ us hl
  match us, hl with
  | [_, _], _ => kernel_rfl
theorem s25 : FnScope d25.N d25.ps d25.scope := ⟨by kernel_rfl, by kernel_rfl, by kernel_rfl, by decide +kernel, by kernel_rfl, by decide +kernel, by decide +kernel⟩
theorem b26 : bindOk d26 := by
  intro _ _ _ _ _ _ us hl
  match us, hl with
  | [_, _, _], _ => kernel_rfl
theorem s26 : FnScope d26.N d26.ps d26.scope := ⟨by kernel_rfl, by kernel_rfl, by kernel_rfl, by decide +kernel, by kernel_rfl, by decide +kernel, by decide +kernel⟩
theorem b27 : bindOk d27 := by
  intro _ _ _ _ _ _ us hl
  match us, hl with
  | [_, _, _, _], _ => kernel_rfl
theorem s27 : FnScope d27.N d27.ps d27.scope := ⟨by kernel_rfl, by kernel_rfl, by kernel_rfl, by decide +kernel, by kernel_rfl, by decide +kernel, by decide +kernel⟩
theorem b28 : bindOk d28 := by
  intro _ _ _ _ _ _ us hl
  match us, hl with
  | [_, _, _], _ => kernel_rfl
theorem s28 : FnScope d28.N d28.ps d28.scope := ⟨by kernel_rfl, by kernel_rfl, by kernel_rfl, by decide +kernel, by kernel_rfl, by decide +kernel, by decide +kernel⟩
theorem b29 : bindOk d29 := by
  intro _ _ _ _ _ _ us hl
  match us, hl with
  | [_, _, _], _ => kernel_rfl
theorem s29 : FnScope d29.N d29.ps d29.scope := ⟨by kernel_rfl, by kernel_rfl, by kernel_rfl, by decide +kernel, by kernel_rfl, by decide +kernel, by decide +kernel⟩
theorem b30 : bindOk d30 := by
  intro _ _ _ _ _ _ us hl
  match us, hl with
  | [_, _, _, _], _ => kernel_rfl
theorem s30 : FnScope d30.N d30.ps d30.scope := ⟨by kernel_rfl, by kernel_rfl, by kernel_rfl, by decide +kernel, by kernel_rfl, by decide +kernel, by decide +kernel⟩
theorem b31 : bindOk d31 := by
  intro _ _ _ _ _ _ us hl
  match us, hl with
  | [_, _, _, _], _ => kernel_rfl
theorem s31 : FnScope d31.N d31.ps d31.scope := ⟨by kernel_rfl, by kernel_rfl, by kernel_rfl, by decide +kernel, by kernel_rfl, by decide +kernel, by decide +kernel⟩
theorem b32 : bindOk d32 := by
  intro _ _ _ _ _ _ us hl
  match us, hl with
  | [_, _, _, _, _], _ => kernel_rfl
theorem s32 : FnScope d32.N d32.ps d32.scope := ⟨by kernel_rfl, by kernel_rfl, by kernel_rfl, by decide +kernel, by kernel_rfl, by decide +kernel, by decide +kernel⟩
theorem b33 : bindOk d33 := by
  intro _ _ _ _ _ _ us hl
  match us, hl with
  | [_, _], _ => kernel_rfl
theorem s33 : FnScope d33.N d33.ps d33.scope := ⟨by kernel_rfl, by kernel_rfl, by kernel_rfl, by decide +kernel, by kernel_rfl, by decide +kernel, by decide +kernel⟩
theorem b34 : bindOk d34 := by
  intro _ _ _ _ _ _ us hl
  match us, hl with
  | [_, _], _ => kernel_rfl
theorem s34 : FnScope d34.N d34.ps d34.scope := ⟨by kernel_rfl, by kernel_rfl, by kernel_rfl, by decide +kernel, by kernel_rfl, by decide +kernel, by decide +kernel⟩
theorem b35 : bindOk d35 := by
  intro _ _ _ _ _ _ us hl
  match us, hl with
  | [_, _, _, _], _ => kernel_rfl
theorem s35 : FnScope d35.N d35.ps d35.scope := ⟨by kernel_rfl, by kernel_rfl, by kernel_rfl, by decide +kernel, by kernel_rfl, by decide +kernel, by decide +kernel⟩
theorem b36 : bindOk d36 := by
  intro _ _ _ _ _ _ us hl
  match us, hl with
  | [_, _, _, _, _], _ => kernel_rfl
theorem s36 : FnScope d36.N d36.ps d36.scope := ⟨by kernel_rfl, by kernel_rfl, by kernel_rfl, by decide +kernel, by kernel_rfl, by decide +kernel, by decide +kernel⟩
theorem b37 : bindOk d37 := by
  intro _ _ _ _ _ _ us hl
  match us, hl with
  | [_], _ => kernel_rfl
theorem s37 : FnScope d37.N d37.ps d37.scope := ⟨by kernel_rfl, by kernel_rfl, by kernel_rfl, by decide +kernel, by kernel_rfl, by decide +kernel, by decide +kernel⟩
theorem all_ : ∀ d ∈ tab, FnScope d.N d.ps d.scope ∧ bindOk d := by
  intro d h
  simp only [tab, List.mem_cons, List.not_mem_nil, or_false] at h
  rcases h with h | h | h | h | h | h | h | h | h | h | h | h | h | h | h | h | h | h | h | h | h | h | h | h | h | h | h | h | h | h | h | h | h | h | h | h | h | h
  · subst h; exact ⟨s0, b0⟩
  · subst h; exact ⟨s1, b1⟩
  · subst h; exact ⟨s2, b2⟩
  · subst h; exact ⟨s3, b3⟩
  · subst h; exact ⟨s4, b4⟩
  · subst h; exact ⟨s5, b5⟩
  · subst h; exact ⟨s6, b6⟩
  · subst h; exact ⟨s7, b7⟩
  · subst h; exact ⟨s8, b8⟩
  · subst h; exact ⟨s9, b9⟩
  · subst h; exact ⟨s10, b10⟩
  · subst h; exact ⟨s11, b11⟩
  · subst h; exact ⟨s12, b12⟩
  · subst h; exact ⟨s13, b13⟩
  · subst h; exact ⟨s14, b14⟩
  · subst h; exact ⟨s15, b15⟩
  · subst h; exact ⟨s16, b16⟩
  · subst h; exact ⟨s17, b17⟩
  · subst h; exact ⟨s18, b18⟩
  · subst h; exact ⟨s19, b19⟩
  · subst h; exact ⟨s20, b20⟩
  · subst h; exact ⟨s21, b21⟩
  · subst h; exact ⟨s22, b22⟩
  · subst h; exact ⟨s23, b23⟩
  · subst h; exact ⟨s24, b24⟩
  · subst h; exact ⟨s25, b25⟩
  · subst h; exact ⟨s26, b26⟩
  · subst h; exact ⟨s27, b27⟩
  · subst h; exact ⟨s28, b28⟩
  · subst h; exact ⟨s29, b29⟩
  · subst h; exact ⟨s30, b30⟩
  · subst h; exact ⟨s31, b31⟩
  · subst h; exact ⟨s32, b32⟩
  · subst h; exact ⟨s33, b33⟩
  · subst h; exact ⟨s34, b34⟩
  · subst h; exact ⟨s35, b35⟩
  · subst h; exact ⟨s36, b36⟩
  · subst h; exact ⟨s37, b37⟩
theorem gsok : gsB gs tab xs = true := by kernel_rfl
def lawId : Nat := 37
def lawAt : Nat := 55
def o0 : List Str := ["WakeError", "NoProgram", "NoUnit", "NoFunction", "NoPrices", "MOST_NUMBER", "MOST_UNITS", "MOST_FIELDS", "MOST_INITIALIZER", "MOST_FUNCTIONS", "MOST_BODY", "MOST_SLOT", "SIZES", "STRAIGHT", "is_integer", "has_word", "is_slot", "is_field", "is_instruction", "is_unit_head", "is_function_head", "is_program", "has_instructions", "need_program", "unit_of", "need_unit", "need_function", "need_prices", "accesses_in", "next_places"]
def o1 : List Str := ["path_to", "walk_to", "are_places", "is_placement", "is_walk", "are_walks", "_law_spread", "_law_open", "_law_take", "_law_w_pick", "_law_w_straight", "_law_w_line", "_law_w_program", "_law_w_goals", "_law_w_onward", "_law_w_is_met", "_law_w_are_walks", "_law_w_places", "_law_w_is_list", "_law_w_walk", "_law_w_walks"]
def loose : List Str := o0 ++ o1
abbrev R : PySem.W.OpenRow := PySem.W.OpenLaw.row L
abbrev hk : PySem.W.Hook := hookF 4 gs xs tab
def ob (s : PySem.W.SharedT) : AlF × Bool := obsFG 4 gs xs tab (HandSHeadRun.getT s)
theorem ob_eq (s : PySem.W.SharedT) : ob s = hk.obs s.abs := obsFG_eq (HandSHeadRun.getT_eq s)
abbrev RunP (w : World) : Prop := HandSHeadRun.RunEq R (PySem.W.view R.prog [55]) hk ob 6000 loose w
theorem run0 (w : World) : RunP (w.withFollow "special-get-raises" false) := by
  intro os
  kernel_rfl
theorem run1 (w : World) : RunP (w.withFollow "special-get-raises" true) := by
  intro os
  kernel_rfl
theorem run (w : World) : RunP w := PySem.W.byRow2 "special-get-raises" run0 run1 w
end K25

set_option maxRecDepth 100000
set_option maxHeartbeats 0
set_option linter.all false
namespace K25
open PySem Fw
def kd_SIZES : List (Str × Int) := [kv "number" 3, kv "copy" 3, kv "add" 3, kv "read" 4, kv "write" 4, kv "fail" 1, kv "input" 2, kv "show" 2, kv "branch" 2, kv "call" 2, kv "wake" 3]
/-- is_integer -/
def m0 (Φ : FT) : SS := (sSeq (sRet (eAnd (e1 (oIsi [.int]) (eVar 0)) (eAnd (eNot (e1 (oIsi [.bool]) (eVar 0))) (eChain oLe oLe (eVar 1) (eVar 0) (eVar 2)))))
  sNext)
theorem m0_ok (Φ : FT) : sk (rk Φ 40) ⟨d0.N, d0.scope, true, gk⟩ 40 d0.body = m0 Φ := by kernel_rfl
/-- has_word -/
def m1 (Φ : FT) : SS := (sSeq (sIf (tOr (tNot (tTru (e1 (oIsi [.tuple]) (eVar 0)))) (tOr (tBol (e2 oEq (eVar 0) (eTup aNil))) (tNot (tTru (e1 (oIsi [.str]) (e2 oIx (eVar 0) (eC (.int 0)))))))) (sSeq (sRet (eC (.bl false)))
   sNext) sNext)
  (sSeq (sRet (eAnd (e1 (oInKd kd_SIZES) (e2 oIx (eVar 0) (eC (.int 0)))) (e2 oEq (eA (k1 oLen) (aCons (eVar 0) aNil)) (e1 (oIxKd kd_SIZES) (e2 oIx (eVar 0) (eC (.int 0)))))))
  sNext))
theorem m1_ok (Φ : FT) : sk (rk Φ 40) ⟨d1.N, d1.scope, true, gk⟩ 40 d1.body = m1 Φ := by kernel_rfl
/-- is_slot -/
def m2 (Φ : FT) : SS := (sSeq (sRet (eCall Φ 0 (aCons (eVar 0) (aCons (eC (.int 0)) (aCons (eC (.int 2)) aNil)))))
  sNext)
theorem m2_ok (Φ : FT) : sk (rk Φ 40) ⟨d2.N, d2.scope, true, gk⟩ 40 d2.body = m2 Φ := by kernel_rfl
/-- is_field -/
def m3 (Φ : FT) : SS := (sSeq (sRet (eAnd (eCall Φ 0 (aCons (eVar 1) (aCons (eC (.int 0)) (aCons (e2 oSub (eA (k1 oLen) (aCons (eVar 0) aNil)) (eC (.int 1))) aNil)))) (eCall Φ 0 (aCons (eVar 2) (aCons (eC (.int 0)) (aCons (e2 oSub (e2 oIx (e2 oIx (eVar 0) (eVar 1)) (eC (.int 1))) (eC (.int 1))) aNil))))))
  sNext)
theorem m3_ok (Φ : FT) : sk (rk Φ 40) ⟨d3.N, d3.scope, true, gk⟩ 40 d3.body = m3 Φ := by kernel_rfl
/-- is_instruction -/
def m4 (Φ : FT) : SS := (sSeq (sIf (tNot (tTru (eCall Φ 1 (aCons (eVar 2) aNil)))) (sSeq (sRet (eC (.bl false)))
   sNext) sNext)
  (sSeq (sAsg (e2 oIx (eVar 2) (eC (.int 0))) (gNm 4))
  (sSeq (sIf (tBol (e2 oIn (eVar 4) (eTup (aCons (eC (.str "number")) (aCons (eC (.str "add")) aNil))))) (sSeq (sRet (eAnd (eCall Φ 2 (aCons (e2 oIx (eVar 2) (eC (.int 1))) aNil)) (eCall Φ 0 (aCons (e2 oIx (eVar 2) (eC (.int 2))) (aCons (eC (.int 0)) (aCons (eC (.int 65535)) aNil))))))
   sNext) sNext)
  (sSeq (sIf (tBol (e2 oEq (eVar 4) (eC (.str "copy")))) (sSeq (sRet (eAnd (eCall Φ 2 (aCons (e2 oIx (eVar 2) (eC (.int 1))) aNil)) (eCall Φ 2 (aCons (e2 oIx (eVar 2) (eC (.int 2))) aNil))))
   sNext) sNext)
  (sSeq (sIf (tBol (e2 oEq (eVar 4) (eC (.str "read")))) (sSeq (sRet (eAnd (eCall Φ 2 (aCons (e2 oIx (eVar 2) (eC (.int 1))) aNil)) (eCall Φ 3 (aCons (eVar 0) (aCons (e2 oIx (eVar 2) (eC (.int 2))) (aCons (e2 oIx (eVar 2) (eC (.int 3))) aNil))))))
   sNext) sNext)
  (sSeq (sIf (tBol (e2 oEq (eVar 4) (eC (.str "write")))) (sSeq (sRet (eAnd (eCall Φ 3 (aCons (eVar 0) (aCons (e2 oIx (eVar 2) (eC (.int 1))) (aCons (e2 oIx (eVar 2) (eC (.int 2))) aNil)))) (eCall Φ 2 (aCons (e2 oIx (eVar 2) (eC (.int 3))) aNil))))
   sNext) sNext)
  (sSeq (sIf (tBol (e2 oIn (eVar 4) (eTup (aCons (eC (.str "input")) (aCons (eC (.str "show")) aNil))))) (sSeq (sRet (eCall Φ 2 (aCons (e2 oIx (eVar 2) (eC (.int 1))) aNil)))
   sNext) sNext)
  (sSeq (sIf (tBol (e2 oEq (eVar 4) (eC (.str "branch")))) (sSeq (sRet (eCall Φ 0 (aCons (e2 oIx (eVar 2) (eC (.int 1))) (aCons (eC (.int 0)) (aCons (e2 oIx (eVar 3) (eC (.int 1))) aNil)))))
   sNext) sNext)
  (sSeq (sIf (tBol (e2 oEq (eVar 4) (eC (.str "call")))) (sSeq (sRet (eCall Φ 0 (aCons (e2 oIx (eVar 2) (eC (.int 1))) (aCons (e2 oIx (eVar 1) (eC (.int 0))) (aCons (e2 oIx (eVar 1) (eC (.int 1))) aNil)))))
   sNext) sNext)
  (sSeq (sIf (tBol (e2 oEq (eVar 4) (eC (.str "wake")))) (sSeq (sRet (eAnd (eCall Φ 0 (aCons (e2 oIx (eVar 2) (eC (.int 1))) (aCons (eC (.int 0)) (aCons (e2 oSub (eA (k1 oLen) (aCons (eVar 0) aNil)) (eC (.int 1))) aNil)))) (eCall Φ 0 (aCons (e2 oIx (eVar 2) (eC (.int 2))) (aCons (e2 oAdd (e2 oIx (eVar 3) (eC (.int 0))) (eC (.int 1))) (aCons (e2 oIx (eVar 3) (eC (.int 1))) aNil))))))
   sNext) sNext)
  (sSeq (sRet (eC (.bl true)))
  sNext)))))))))))
theorem m4_ok (Φ : FT) : sk (rk Φ 40) ⟨d4.N, d4.scope, true, gk⟩ 40 d4.body = m4 Φ := by kernel_rfl
/-- is_unit_head -/
def m5 (Φ : FT) : SS := (sSeq (sIf (tOr (tNot (tTru (e1 (oIsi [.tuple]) (eVar 0)))) (tOr (tBol (e2 oNe (eA (k1 oLen) (aCons (eVar 0) aNil)) (eC (.int 3)))) (tNot (tTru (eCall Φ 0 (aCons (e2 oIx (eVar 0) (eC (.int 1))) (aCons (eC (.int 0)) (aCons (eC (.int 3)) aNil)))))))) (sSeq (sRet (eC (.bl false)))
   sNext) sNext)
  (sSeq (sIf (tAnd (tBol (e2 oIsNot (e2 oIx (eVar 0) (eC (.int 0))) (eC (.non)))) (tNot (tTru (eCall Φ 0 (aCons (e2 oIx (eVar 0) (eC (.int 0))) (aCons (eC (.int 0)) (aCons (e2 oSub (eVar 1) (eC (.int 1))) aNil))))))) (sSeq (sRet (eC (.bl false)))
   sNext) sNext)
  (sSeq (sRet (eAnd (e1 (oIsi [.tuple]) (e2 oIx (eVar 0) (eC (.int 2)))) (e2 oLe (eA (k1 oLen) (aCons (e2 oIx (eVar 0) (eC (.int 2))) aNil)) (eC (.int 6)))))
  sNext)))
theorem m5_ok (Φ : FT) : sk (rk Φ 40) ⟨d5.N, d5.scope, true, gk⟩ 40 d5.body = m5 Φ := by kernel_rfl
/-- is_function_head -/
def m6 (Φ : FT) : SS := (sSeq (sIf (tOr (tNot (tTru (e1 (oIsi [.tuple]) (eVar 1)))) (tOr (tBol (e2 oNe (eA (k1 oLen) (aCons (eVar 1) aNil)) (eC (.int 2)))) (tNot (tTru (eCall Φ 0 (aCons (e2 oIx (eVar 1) (eC (.int 0))) (aCons (eC (.int 0)) (aCons (e2 oSub (eA (k1 oLen) (aCons (eVar 0) aNil)) (eC (.int 1))) aNil)))))))) (sSeq (sRet (eC (.bl false)))
   sNext) sNext)
  (sSeq (sRet (eAnd (e1 (oIsi [.tuple]) (e2 oIx (eVar 1) (eC (.int 1)))) (eChain oLe oLe (eC (.int 1)) (eA (k1 oLen) (aCons (e2 oIx (eVar 1) (eC (.int 1))) aNil)) (eC (.int 8)))))
  sNext))
theorem m6_ok (Φ : FT) : sk (rk Φ 40) ⟨d6.N, d6.scope, true, gk⟩ 40 d6.body = m6 Φ := by kernel_rfl
/-- is_program -/
def m7 (Φ : FT) : SS := (sSeq (sIf (tOr (tNot (tTru (e1 (oIsi [.tuple]) (eVar 0)))) (tOr (tBol (e2 oNe (eA (k1 oLen) (aCons (eVar 0) aNil)) (eC (.int 2)))) (tNot (tTru (eA (k1 oAll) (aCons (eLc (iAny (eVar 0)) (gNm 1) tYes (e1 (oIsi [.tuple]) (eVar 1)) [1]) aNil)))))) (sSeq (sRet (eC (.bl false)))
   sNext) sNext)
  (sSeq (sAsg (eVar 0) (gTp [(gNm 2), (gNm 3)]))
  (sSeq (sIf (tOr (tNot (tBol (eChain oLe oLe (eC (.int 1)) (eA (k1 oLen) (aCons (eVar 2) aNil)) (eC (.int 6))))) (tNot (tBol (eChain oLe oLe (eC (.int 1)) (eA (k1 oLen) (aCons (eVar 3) aNil)) (eC (.int 4)))))) (sSeq (sRet (eC (.bl false)))
   sNext) sNext)
  (sSeq (sIf (tNot (tTru (eA (k1 oAll) (aCons (eLc (iA kEnu (aCons (eVar 2) aNil)) (gTp [(gNm 4), (gNm 5)]) tYes (eCall Φ 5 (aCons (eVar 5) (aCons (eVar 4) aNil))) [4, 5]) aNil)))) (sSeq (sRet (eC (.bl false)))
   sNext) sNext)
  (sSeq (sIf (tNot (tTru (eA (k1 oAll) (aCons (eLc (iAny (eVar 3)) (gNm 6) tYes (eCall Φ 6 (aCons (eVar 2) (aCons (eVar 6) aNil))) [6]) aNil)))) (sSeq (sRet (eC (.bl false)))
   sNext) sNext)
  (sSeq (sRet (eCall Φ 8 (aCons (eVar 2) (aCons (eVar 3) aNil))))
  sNext))))))
theorem m7_ok (Φ : FT) : sk (rk Φ 40) ⟨d7.N, d7.scope, true, gk⟩ 40 d7.body = m7 Φ := by kernel_rfl
/-- has_instructions -/
def m8 (Φ : FT) : SS := (sSeq (sFor (iAny (eVar 0)) (gNm 2) (sSeq (sFor (iAny (e2 oIx (eVar 2) (eC (.int 2)))) (gNm 3) (sSeq (sIf (tOr (tNot (tTru (eCall Φ 4 (aCons (eVar 0) (aCons (eTup (aCons (eC (.int 0)) (aCons (eC (.int 0)) aNil))) (aCons (eVar 3) (aCons (eTup (aCons (eC (.int 0)) (aCons (eC (.int 0)) aNil))) aNil))))))) (tBol (e2 oNotIn (e2 oIx (eVar 3) (eC (.int 0))) (eC (.tup [.str "number", .str "copy", .str "add", .str "read", .str "write", .str "fail"]))))) (sSeq (sRet (eC (.bl false)))
     sNext) sNext)
    sNext))
   sNext))
  (sSeq (sFor (iA kEnu (aCons (eVar 1) aNil)) (gTp [(gNm 4), (gNm 5)]) (sSeq (sAsg (eTup (aCons (e2 oAdd (eVar 4) (eC (.int 1))) (aCons (e2 oSub (eA (k1 oLen) (aCons (eVar 1) aNil)) (eC (.int 1))) aNil))) (gNm 6))
   (sSeq (sFor (iA kEnu (aCons (e2 oIx (eVar 5) (eC (.int 1))) aNil)) (gTp [(gNm 7), (gNm 3)]) (sSeq (sIf (tNot (tTru (eCall Φ 4 (aCons (eVar 0) (aCons (eVar 6) (aCons (eVar 3) (aCons (eTup (aCons (eVar 7) (aCons (eA (k1 oLen) (aCons (e2 oIx (eVar 5) (eC (.int 1))) aNil)) aNil))) aNil))))))) (sSeq (sRet (eC (.bl false)))
     sNext) sNext)
    sNext))
   sNext)))
  (sSeq (sRet (eC (.bl true)))
  sNext)))
theorem m8_ok (Φ : FT) : sk (rk Φ 40) ⟨d8.N, d8.scope, true, gk⟩ 40 d8.body = m8 Φ := by kernel_rfl
/-- need_program -/
def m9 (Φ : FT) : SS := (sSeq (sIf (tNot (tTru (eCall Φ 7 (aCons (eVar 0) aNil)))) (sSeq (sRaise 0)
   sNext) sNext)
  sNext)
theorem m9_ok (Φ : FT) : sk (rk Φ 40) ⟨d9.N, d9.scope, true, gk⟩ 40 d9.body = m9 Φ := by kernel_rfl
/-- unit_of -/
def m10 (Φ : FT) : SS := (sSeq (sIf (tBol (e2 oIn (e2 oIx (eVar 1) (eC (.int 0))) (eTup (aCons (eC (.str "write")) (aCons (eC (.str "wake")) aNil))))) (sSeq (sRet (e2 oIx (eVar 1) (eC (.int 1))))
   sNext) sNext)
  (sSeq (sIf (tBol (e2 oEq (e2 oIx (eVar 1) (eC (.int 0))) (eC (.str "read")))) (sSeq (sRet (e2 oIx (eVar 1) (eC (.int 2))))
   sNext) sNext)
  (sSeq (sRet (eIf (tBol (e2 oEq (e2 oIx (eVar 1) (eC (.int 0))) (eC (.str "call")))) (e2 oIx (e2 oIx (e2 oIx (eVar 0) (eC (.int 1))) (e2 oIx (eVar 1) (eC (.int 1)))) (eC (.int 0))) (eC (.non))))
  sNext)))
theorem m10_ok (Φ : FT) : sk (rk Φ 40) ⟨d10.N, d10.scope, true, gk⟩ 40 d10.body = m10 Φ := by kernel_rfl
/-- need_unit -/
def m11 (Φ : FT) : SS := (sSeq (sIf (tNot (tTru (eCall Φ 0 (aCons (eVar 1) (aCons (eC (.int 0)) (aCons (e2 oSub (eA (k1 oLen) (aCons (e2 oIx (eVar 0) (eC (.int 0))) aNil)) (eC (.int 1))) aNil)))))) (sSeq (sRaise 1)
   sNext) sNext)
  sNext)
theorem m11_ok (Φ : FT) : sk (rk Φ 40) ⟨d11.N, d11.scope, true, gk⟩ 40 d11.body = m11 Φ := by kernel_rfl
/-- need_function -/
def m12 (Φ : FT) : SS := (sSeq (sIf (tNot (tTru (eCall Φ 0 (aCons (eVar 1) (aCons (eC (.int 0)) (aCons (e2 oSub (eA (k1 oLen) (aCons (e2 oIx (eVar 0) (eC (.int 1))) aNil)) (eC (.int 1))) aNil)))))) (sSeq (sRaise 2)
   sNext) sNext)
  sNext)
theorem m12_ok (Φ : FT) : sk (rk Φ 40) ⟨d12.N, d12.scope, true, gk⟩ 40 d12.body = m12 Φ := by kernel_rfl
/-- need_prices -/
def m13 (Φ : FT) : SS := (sSeq (sIf (tOr (tNot (tTru (e1 (oIsi [.list]) (eVar 2)))) (tBol (e2 oNe (eA (k1 oLen) (aCons (eVar 2) aNil)) (eA (k1 oLen) (aCons (e2 oIx (e2 oIx (e2 oIx (eVar 0) (eC (.int 1))) (eVar 1)) (eC (.int 1))) aNil))))) (sSeq (sRaise 3)
   sNext) sNext)
  (sSeq (sIf (tNot (tTru (eA (k1 oAll) (aCons (eLc (iAny (eVar 2)) (gNm 3) tYes (eCall Φ 0 (aCons (eVar 3) (aCons (eC (.int 0)) (aCons (eC (.int 65535)) aNil)))) [3]) aNil)))) (sSeq (sRaise 3)
   sNext) sNext)
  sNext))
theorem m13_ok (Φ : FT) : sk (rk Φ 40) ⟨d13.N, d13.scope, true, gk⟩ 40 d13.body = m13 Φ := by kernel_rfl
/-- accesses_in -/
def m14 (Φ : FT) : SS := (sSeq (sAsg (e2 oIx (e2 oIx (e2 oIx (eVar 0) (eC (.int 1))) (eVar 1)) (eC (.int 1))) (gNm 3))
  (sSeq (sRet (eLc (iA kEnu (aCons (eVar 3) aNil)) (gTp [(gNm 4), (gNm 5)]) (tAnd (tBol (e2 oEq (eCall Φ 10 (aCons (eVar 0) (aCons (eVar 5) aNil))) (eVar 2))) (tBol (e2 oNe (e2 oIx (eVar 5) (eC (.int 0))) (eC (.str "wake"))))) (eVar 4) [4, 5]))
  sNext))
theorem m14_ok (Φ : FT) : sk (rk Φ 40) ⟨d14.N, d14.scope, true, gk⟩ 40 d14.body = m14 Φ := by kernel_rfl
/-- next_places -/
def m15 (Φ : FT) : SS := (sSeq (sAsg (e2 oIx (e2 oIx (e2 oIx (eVar 0) (eC (.int 1))) (eVar 1)) (eC (.int 1))) (gNm 4))
  (sSeq (sAsg (e2 oIx (eVar 4) (eVar 3)) (gNm 5))
  (sSeq (sIf (tBol (e2 oEq (e2 oIx (eVar 5) (eC (.int 0))) (eC (.str "fail")))) (sSeq (sRet (eLst aNil))
   sNext) sNext)
  (sSeq (sAsg (eIf (tAnd (tBol (e2 oEq (e2 oIx (eVar 5) (eC (.int 0))) (eC (.str "wake")))) (tBol (e2 oEq (e2 oIx (eVar 5) (eC (.int 1))) (eVar 2)))) (eLst aNil) (eLst (aCons (e2 oAdd (eVar 3) (eC (.int 1))) aNil))) (gNm 6))
  (sSeq (sIf (tBol (e2 oEq (e2 oIx (eVar 5) (eC (.int 0))) (eC (.str "branch")))) (sSeq (sExpr (eMt isLst mAppend (eVar 6) (aCons (e2 oIx (eVar 5) (eC (.int 1))) aNil)))
   sNext) (sSeq (sIf (tBol (e2 oEq (e2 oIx (eVar 5) (eC (.int 0))) (eC (.str "wake")))) (sSeq (sExpr (eMt isLst mAppend (eVar 6) (aCons (e2 oIx (eVar 5) (eC (.int 2))) aNil)))
    sNext) sNext)
   sNext))
  (sSeq (sRet (e1 oSortSet (eLc (iAny (eVar 6)) (gNm 7) (tBol (e2 oLt (eVar 7) (eA (k1 oLen) (aCons (eVar 4) aNil)))) (eVar 7) [7])))
  sNext))))))
theorem m15_ok (Φ : FT) : sk (rk Φ 40) ⟨d15.N, d15.scope, true, gk⟩ 40 d15.body = m15 Φ := by kernel_rfl
/-- path_to -/
def m16 (Φ : FT) : SS := (sSeq (sPar3 4 5 6 (aCons (eCall Φ 14 (aCons (eVar 0) (aCons (eVar 1) (aCons (eVar 2) aNil)))) (aCons (eDic [((eC (.int 0)), (eC (.non)))]) (aCons (eLst (aCons (eC (.int 0)) aNil)) aNil))))
  (sSeq (sWhile (tBol (e2 oNe (eVar 6) (eLst aNil))) (sSeq (sAsg (eMt isLst mPop1 (eVar 6) (aCons (eC (.int 0)) aNil)) (gNm 7))
   (sSeq (sIf (tBol (e2 oIn (eVar 7) (eVar 3))) (sSeq sCont
    sNext) sNext)
   (sSeq (sIf (tBol (e2 oIn (eVar 7) (eVar 4))) (sSeq (sRet (eCall Φ 17 (aCons (eVar 5) (aCons (eVar 7) aNil))))
    sNext) sNext)
   (sSeq (sFor (iAny (eCall Φ 15 (aCons (eVar 0) (aCons (eVar 1) (aCons (eVar 2) (aCons (eVar 7) aNil)))))) (gNm 8) (sSeq (sIf (tBol (e2 oNotIn (eVar 8) (eVar 5))) (sSeq (sAsg (eVar 7) (gSb (eVar 5) (eVar 8)))
     (sSeq (sExpr (eMt isLst mAppend (eVar 6) (aCons (eVar 8) aNil)))
     sNext)) sNext)
    sNext))
   sNext)))))
  (sSeq (sRet (eC (.non)))
  sNext)))
theorem m16_ok (Φ : FT) : sk (rk Φ 40) ⟨d16.N, d16.scope, true, gk⟩ 40 d16.body = m16 Φ := by kernel_rfl
/-- walk_to -/
def m17 (Φ : FT) : SS := (sSeq (sAsg (eLst (aCons (eVar 1) aNil)) (gNm 2))
  (sSeq (sWhile (tBol (e2 oIsNot (e2 oIx (eVar 0) (e2 oIx (eVar 2) (eC (.int 0)))) (eC (.non)))) (sSeq (sExpr (eMt isLst mInsert (eVar 2) (aCons (eC (.int 0)) (aCons (e2 oIx (eVar 0) (e2 oIx (eVar 2) (eC (.int 0)))) aNil))))
   sNext))
  (sSeq (sRet (eVar 2))
  sNext)))
theorem m17_ok (Φ : FT) : sk (rk Φ 40) ⟨d17.N, d17.scope, true, gk⟩ 40 d17.body = m17 Φ := by kernel_rfl
/-- are_places -/
def m18 (Φ : FT) : SS := (sSeq (sAsg (eA (k1 oLen) (aCons (e2 oIx (e2 oIx (e2 oIx (eVar 0) (eC (.int 1))) (eVar 1)) (eC (.int 1))) aNil)) (gNm 3))
  (sSeq (sIf (tOr (tNot (tTru (e1 (oIsi [.list]) (eVar 2)))) (tNot (tTru (eA (k1 oAll) (aCons (eLc (iAny (eVar 2)) (gNm 4) tYes (eCall Φ 0 (aCons (eVar 4) (aCons (eC (.int 0)) (aCons (e2 oSub (eVar 3) (eC (.int 1))) aNil)))) [4]) aNil))))) (sSeq (sRet (eC (.bl false)))
   sNext) sNext)
  (sSeq (sRet (e2 oEq (eVar 2) (e1 oSortSet (eVar 2))))
  sNext)))
theorem m18_ok (Φ : FT) : sk (rk Φ 40) ⟨d18.N, d18.scope, true, gk⟩ 40 d18.body = m18 Φ := by kernel_rfl
/-- is_placement -/
def m19 (Φ : FT) : SS := (sSeq (sExpr (eCall Φ 9 (aCons (eVar 0) aNil)))
  (sSeq (sExpr (eCall Φ 12 (aCons (eVar 0) (aCons (eVar 1) aNil))))
  (sSeq (sExpr (eCall Φ 11 (aCons (eVar 0) (aCons (eVar 2) aNil))))
  (sSeq (sRet (eAnd (eCall Φ 18 (aCons (eVar 0) (aCons (eVar 1) (aCons (eVar 3) aNil)))) (e2 oIs (eCall Φ 16 (aCons (eVar 0) (aCons (eVar 1) (aCons (eVar 2) (aCons (eVar 3) aNil))))) (eC (.non)))))
  sNext))))
theorem m19_ok (Φ : FT) : sk (rk Φ 40) ⟨d19.N, d19.scope, true, gk⟩ 40 d19.body = m19 Φ := by kernel_rfl
/-- is_walk -/
def m20 (Φ : FT) : SS := (sSeq (sIf (tOr (tNot (tTru (e1 (oIsi [.list]) (eVar 3)))) (tNot (tTru (eA (k1 oAll) (aCons (eLc (iAny (eVar 3)) (gNm 4) tYes (eCall Φ 0 (aCons (eVar 4) (aCons (eC (.int 0)) (aCons (eC (.int 99)) aNil)))) [4]) aNil))))) (sSeq (sRet (eC (.bl false)))
   sNext) sNext)
  (sSeq (sIf (tOr (tBol (e2 oEq (eVar 3) (eLst aNil))) (tOr (tBol (e2 oNe (e2 oIx (eVar 3) (eC (.int 0))) (eC (.int 0)))) (tBol (e2 oNotIn (e2 oIx (eVar 3) (e1 uNeg (eC (.int 1)))) (eCall Φ 14 (aCons (eVar 0) (aCons (eVar 1) (aCons (eVar 2) aNil)))))))) (sSeq (sRet (eC (.bl false)))
   sNext) sNext)
  (sSeq (sFor (iA kZip (aCons (eVar 3) (aCons (eSl (eVar 3) (pSome (eC (.int 1))) pNone) aNil))) (gTp [(gNm 5), (gNm 6)]) (sSeq (sIf (tOr (tBol (e2 oGe (eVar 5) (eA (k1 oLen) (aCons (e2 oIx (e2 oIx (e2 oIx (eVar 0) (eC (.int 1))) (eVar 1)) (eC (.int 1))) aNil)))) (tBol (e2 oNotIn (eVar 6) (eCall Φ 15 (aCons (eVar 0) (aCons (eVar 1) (aCons (eVar 2) (aCons (eVar 5) aNil)))))))) (sSeq (sRet (eC (.bl false)))
    sNext) sNext)
   sNext))
  (sSeq (sRet (eC (.bl true)))
  sNext))))
theorem m20_ok (Φ : FT) : sk (rk Φ 40) ⟨d20.N, d20.scope, true, gk⟩ 40 d20.body = m20 Φ := by kernel_rfl
/-- are_walks -/
def m21 (Φ : FT) : SS := (sSeq (sExpr (eCall Φ 9 (aCons (eVar 0) aNil)))
  (sSeq (sExpr (eCall Φ 12 (aCons (eVar 0) (aCons (eVar 1) aNil))))
  (sSeq (sExpr (eCall Φ 11 (aCons (eVar 0) (aCons (eVar 2) aNil))))
  (sSeq (sExpr (eCall Φ 13 (aCons (eVar 0) (aCons (eVar 1) (aCons (eVar 3) aNil)))))
  (sSeq (sIf (tOr (tNot (tTru (e1 (oIsi [.list]) (eVar 4)))) (tNot (tTru (eA (k1 oAll) (aCons (eLc (iAny (eVar 4)) (gNm 5) tYes (eAnd (e1 (oIsi [.tuple]) (eVar 5)) (e2 oEq (eA (k1 oLen) (aCons (eVar 5) aNil)) (eC (.int 2)))) [5]) aNil))))) (sSeq (sRet (eC (.bl false)))
   sNext) sNext)
  (sSeq (sFor (iAny (eVar 4)) (gTp [(gNm 6), (gNm 7)]) (sSeq (sIf (tOr (tNot (tTru (eCall Φ 20 (aCons (eVar 0) (aCons (eVar 1) (aCons (eVar 2) (aCons (eVar 6) aNil))))))) (tNot (tTru (eCall Φ 0 (aCons (eVar 7) (aCons (eC (.int 1)) (aCons (e2 oPow (eC (.int 10)) (eC (.int 20))) aNil))))))) (sSeq (sRet (eC (.bl false)))
    sNext) sNext)
   sNext))
  (sSeq (sFor (iA kEnu (aCons (eVar 3) aNil)) (gTp [(gNm 8), (gNm 9)]) (sSeq (sIf (tBol (e2 oGt (eA (k1 oSum) (aCons (eLc (iAny (eVar 4)) (gTp [(gNm 6), (gNm 7)]) (tBol (e2 oIn (eVar 8) (eVar 6))) (eVar 7) [6, 7]) aNil)) (eVar 9))) (sSeq (sRet (eC (.bl false)))
    sNext) sNext)
   sNext))
  (sSeq (sRet (eC (.bl true)))
  sNext))))))))
theorem m21_ok (Φ : FT) : sk (rk Φ 40) ⟨d21.N, d21.scope, true, gk⟩ 40 d21.body = m21 Φ := by kernel_rfl
/-- _law_spread -/
def m22 (Φ : FT) : SS := (sSeq (sIf (tBol (e2 oGe (eVar 0) (e2 oPow (eC (.int 10)) (eC (.int 18))))) (sSeq (sRet (eVar 0))
   sNext) sNext)
  (sSeq (sAsg (eLst (aCons (eC (.int 2147483629)) (aCons (eC (.int 2147483587)) (aCons (eC (.int 2147483579)) (aCons (eC (.int 2147483563)) (aCons (eC (.int 2147483549)) (aCons (eC (.int 2147483543)) (aCons (eC (.int 2147483497)) (aCons (eC (.int 2147483489)) aNil))))))))) (gNm 2))
  (sSeq (sAsg (e2 oAdd (eVar 2) (eLst (aCons (eC (.int 2147483477)) (aCons (eC (.int 2147483423)) (aCons (eC (.int 2147483399)) (aCons (eC (.int 2147483353)) (aCons (eC (.int 2147483323)) aNil))))))) (gNm 2))
  (sSeq (sAsg (e2 oMod (e2 oPow (e2 oAdd (e2 oAdd (e2 oMul (e2 oMod (eVar 0) (eC (.int 1000000007))) (e2 oAdd (e2 oMul (eC (.int 2)) (eVar 1)) (eC (.int 69069)))) (e2 oMul (eVar 1) (eC (.int 40503)))) (eC (.int 977))) (eC (.int 3))) (e2 oIx (eVar 2) (e2 oMod (eVar 1) (eC (.int 13))))) (gNm 3))
  (sSeq (sAsg (e2 oMod (e2 oPow (e2 oAdd (e2 oAdd (e2 oMul (eVar 3) (e2 oAdd (eVar 1) (eC (.int 3)))) (e2 oMod (eVar 0) (eC (.int 65537)))) (eC (.int 5))) (eC (.int 5))) (e2 oIx (eVar 2) (e2 oMod (e2 oAdd (eVar 1) (eC (.int 5))) (eC (.int 13))))) (gNm 4))
  (sSeq (sAsg (e2 oMod (e2 oPow (e2 oAdd (e2 oAdd (eVar 4) (e2 oMod (eVar 3) (eC (.int 1009)))) (eVar 1)) (eC (.int 3))) (e2 oIx (eVar 2) (e2 oMod (e2 oAdd (eVar 1) (eC (.int 7))) (eC (.int 13))))) (gNm 5))
  (sSeq (sRet (e2 oAdd (e2 oMul (e2 oAdd (e2 oMul (eVar 3) (eC (.int 2147483647))) (eVar 4)) (eC (.int 2147483647))) (eVar 5)))
  sNext)))))))
theorem m22_ok (Φ : FT) : sk (rk Φ 40) ⟨d22.N, d22.scope, true, gk⟩ 40 d22.body = m22 Φ := by kernel_rfl
/-- _law_open -/
def m23 (Φ : FT) : SS := (sSeq (sAsg (eA (k1 oList) (aCons (eSl (eVar 0) pNone (pSome (eC (.int 12)))) aNil)) (gNm 1))
  (sSeq (sFor (iA kEnu (aCons (eSl (eVar 0) (pSome (eC (.int 12))) (pSome (eC (.int 63)))) aNil)) (gTp [(gNm 2), (gNm 3)]) (sSeq (sAsg (e2 oAdd (e2 oIx (eVar 1) (e2 oMod (eVar 2) (eC (.int 12)))) (eVar 3)) (gSb (eVar 1) (e2 oMod (eVar 2) (eC (.int 12)))))
   sNext))
  (sSeq (sRet (eLst (aCons (eVar 1) (aCons (eC (.int 0)) (aCons (eC (.int 0)) aNil)))))
  sNext)))
theorem m23_ok (Φ : FT) : sk (rk Φ 40) ⟨d23.N, d23.scope, true, gk⟩ 40 d23.body = m23 Φ := by kernel_rfl
/-- _law_take -/
def m24 (Φ : FT) : SS := (sSeq (sIf (tBol (e2 oLt (e2 oIx (eVar 0) (eC (.int 2))) (eVar 1))) (sSeq (sAsg (e2 oIx (eVar 0) (eC (.int 1))) (gNm 2))
   (sSeq (sAsg (eC (.int 0)) (gNm 3))
   (sSeq (sIf (tBol (e2 oLt (eVar 2) (eA (k1 oLen) (aCons (e2 oIx (eVar 0) (eC (.int 0))) aNil)))) (sSeq (sAsg (e2 oIx (e2 oIx (eVar 0) (eC (.int 0))) (eVar 2)) (gNm 3))
    sNext) (sSeq (sIf (tBol (e2 oGt (eA (k1 oLen) (aCons (e2 oIx (eVar 0) (eC (.int 0))) aNil)) (eC (.int 0)))) (sSeq (sAsg (e2 oMod (e2 oIx (e2 oIx (eVar 0) (eC (.int 0))) (e2 oMod (e2 oAdd (e2 oMul (eVar 2) (eC (.int 5))) (eC (.int 3))) (eA (k1 oLen) (aCons (e2 oIx (eVar 0) (eC (.int 0))) aNil)))) (e2 oAdd (e2 oPow (eC (.int 10)) (eC (.int 17))) (eVar 2))) (gNm 3))
     sNext) sNext)
    sNext))
   (sSeq (sAsg (e2 oAdd (eVar 2) (eC (.int 1))) (gSb (eVar 0) (eC (.int 1))))
   (sSeq (sAsg (eCall Φ 22 (aCons (eVar 3) (aCons (eVar 2) aNil))) (gSb (eVar 0) (eC (.int 2))))
   sNext))))) sNext)
  (sSeq (sAsg (e2 oMod (e2 oIx (eVar 0) (eC (.int 2))) (eVar 1)) (gNm 4))
  (sSeq (sAsg (e2 oDiv (e2 oIx (eVar 0) (eC (.int 2))) (eVar 1)) (gSb (eVar 0) (eC (.int 2))))
  (sSeq (sRet (eVar 4))
  sNext))))
theorem m24_ok (Φ : FT) : sk (rk Φ 40) ⟨d24.N, d24.scope, true, gk⟩ 40 d24.body = m24 Φ := by kernel_rfl
/-- _law_w_pick -/
def m25 (Φ : FT) : SS := (sSeq (sRet (e2 oIx (eVar 1) (eCall Φ 24 (aCons (eVar 0) (aCons (eA (k1 oLen) (aCons (eVar 1) aNil)) aNil)))))
  sNext)
theorem m25_ok (Φ : FT) : sk (rk Φ 40) ⟨d25.N, d25.scope, true, gk⟩ 40 d25.body = m25 Φ := by kernel_rfl
/-- _law_w_straight -/
def m26 (Φ : FT) : SS := (sSeq (sPar3 3 4 5 (aCons (eCall Φ 24 (aCons (eVar 0) (aCons (eC (.int 3)) aNil))) (aCons (eCall Φ 24 (aCons (eVar 0) (aCons (eC (.int 3)) aNil))) (aCons (eCall Φ 24 (aCons (eVar 0) (aCons (eC (.int 12)) aNil))) aNil))))
  (sSeq (sIf (tAnd (tBol (e2 oEq (eVar 5) (eC (.int 0)))) (tBol (e2 oEq (eCall Φ 24 (aCons (eVar 0) (aCons (eVar 2) aNil))) (eC (.int 0))))) (sSeq (sRet (eTup (aCons (eC (.str "fail")) aNil)))
   sNext) sNext)
  (sSeq (sIf (tOr (tBol (e2 oLt (eVar 5) (eC (.int 4)))) (tBol (e2 oEq (eVar 1) (eLst aNil)))) (sSeq (sAsg (eLst (aCons (eTup (aCons (eC (.str "number")) (aCons (eVar 3) (aCons (eCall Φ 24 (aCons (eVar 0) (aCons (eC (.int 9)) aNil))) aNil)))) (aCons (eTup (aCons (eC (.str "copy")) (aCons (eVar 3) (aCons (eVar 4) aNil)))) (aCons (eTup (aCons (eC (.str "add")) (aCons (eVar 3) (aCons (e2 oSub (eC (.int 65535)) (eCall Φ 24 (aCons (eVar 0) (aCons (eC (.int 3)) aNil)))) aNil)))) aNil)))) (gNm 6))
   (sSeq (sRet (eCall Φ 25 (aCons (eVar 0) (aCons (eVar 6) aNil))))
   sNext)) sNext)
  (sSeq (sAsg (eCall Φ 25 (aCons (eVar 0) (aCons (eVar 1) aNil))) (gTp [(gNm 7), (gNm 8)]))
  (sSeq (sRet (eIf (tBol (e2 oLt (eVar 5) (eC (.int 9)))) (eTup (aCons (eC (.str "read")) (aCons (eVar 3) (aCons (eVar 7) (aCons (eVar 8) aNil))))) (eTup (aCons (eC (.str "write")) (aCons (eVar 7) (aCons (eVar 8) (aCons (eVar 3) aNil)))))))
  sNext)))))
theorem m26_ok (Φ : FT) : sk (rk Φ 40) ⟨d26.N, d26.scope, true, gk⟩ 40 d26.body = m26 Φ := by kernel_rfl
/-- _law_w_line -/
def m27 (Φ : FT) : SS := (sSeq (sAsg (eVar 2) (gTp [(gNm 4), (gNm 5), (gNm 6)]))
  (sSeq (sAsg (eCall Φ 24 (aCons (eVar 0) (aCons (eC (.int 12)) aNil))) (gNm 7))
  (sSeq (sIf (tBol (e2 oLt (eVar 7) (eC (.int 3)))) (sSeq (sRet (eCall Φ 25 (aCons (eVar 0) (aCons (eLst (aCons (eTup (aCons (eC (.str "input")) (aCons (eCall Φ 24 (aCons (eVar 0) (aCons (eC (.int 3)) aNil))) aNil))) (aCons (eTup (aCons (eC (.str "show")) (aCons (eCall Φ 24 (aCons (eVar 0) (aCons (eC (.int 3)) aNil))) aNil))) (aCons (eTup (aCons (eC (.str "branch")) (aCons (e2 oAdd (eVar 5) (eC (.int 1))) aNil))) aNil)))) aNil))))
   sNext) sNext)
  (sSeq (sIf (tBol (e2 oEq (eVar 7) (eC (.int 3)))) (sSeq (sRet (eTup (aCons (eC (.str "branch")) (aCons (eCall Φ 24 (aCons (eVar 0) (aCons (e2 oAdd (eVar 6) (eC (.int 1))) aNil))) aNil))))
   sNext) sNext)
  (sSeq (sIf (tAnd (tBol (e2 oEq (eVar 7) (eC (.int 4)))) (tBol (e2 oLt (e2 oAdd (eVar 4) (eC (.int 1))) (e2 oIx (eVar 3) (eC (.int 1)))))) (sSeq (sRet (eTup (aCons (eC (.str "call")) (aCons (e2 oAdd (e2 oAdd (eVar 4) (eC (.int 1))) (eCall Φ 24 (aCons (eVar 0) (aCons (e2 oSub (e2 oSub (e2 oIx (eVar 3) (eC (.int 1))) (eVar 4)) (eC (.int 1))) aNil)))) aNil))))
   sNext) sNext)
  (sSeq (sIf (tBol (e2 oEq (eVar 7) (eC (.int 5)))) (sSeq (sRet (eTup (aCons (eC (.str "wake")) (aCons (eCall Φ 24 (aCons (eVar 0) (aCons (e2 oIx (eVar 3) (eC (.int 0))) aNil))) (aCons (e2 oAdd (e2 oAdd (eVar 5) (eC (.int 1))) (eCall Φ 24 (aCons (eVar 0) (aCons (e2 oSub (eVar 6) (eVar 5)) aNil)))) aNil)))))
   sNext) sNext)
  (sSeq (sRet (eCall Φ 26 (aCons (eVar 0) (aCons (eVar 1) (aCons (eC (.int 3)) aNil)))))
  sNext)))))))
theorem m27_ok (Φ : FT) : sk (rk Φ 40) ⟨d27.N, d27.scope, true, gk⟩ 40 d27.body = m27 Φ := by kernel_rfl
/-- _law_w_program -/
def m28 (Φ : FT) : SS := (sSeq (sAsg (eLc (iA kRng1 (aCons (e2 oAdd (eC (.int 1)) (eCall Φ 24 (aCons (eVar 0) (aCons (eVar 1) aNil)))) aNil)) (gNm 3) tYes (eCall Φ 25 (aCons (eVar 0) (aCons (eLst (aCons (eC (.int 0)) (aCons (eC (.int 1)) (aCons (eC (.int 1)) (aCons (eC (.int 2)) (aCons (eC (.int 3)) aNil)))))) aNil))) [3]) (gNm 4))
  (sSeq (sAsg (eLst aNil) (gNm 5))
  (sSeq (sFor (iA kEnu (aCons (eVar 4) aNil)) (gTp [(gNm 6), (gNm 7)]) (sSeq (sAsg (e2 oAdd (eVar 5) (eLc (iA kRng1 (aCons (eVar 7) aNil)) (gNm 8) tYes (eTup (aCons (eVar 6) (aCons (eVar 8) aNil))) [8])) (gNm 5))
   sNext))
  (sSeq (sAsg (eLst aNil) (gNm 9))
  (sSeq (sFor (iA kEnu (aCons (eVar 4) aNil)) (gTp [(gNm 6), (gNm 7)]) (sSeq (sAsg (eIf (tAnd (tBol (e2 oGt (eVar 6) (eC (.int 0)))) (tBol (e2 oEq (eCall Φ 24 (aCons (eVar 0) (aCons (eC (.int 3)) aNil))) (eC (.int 0))))) (eCall Φ 24 (aCons (eVar 0) (aCons (eVar 6) aNil))) (eC (.non))) (gNm 10))
   (sSeq (sAsg (eLc (iA kRng1 (aCons (eCall Φ 24 (aCons (eVar 0) (aCons (eC (.int 7)) aNil))) aNil)) (gNm 3) tYes (eCall Φ 26 (aCons (eVar 0) (aCons (eVar 5) (aCons (eC (.int 3)) aNil)))) [3]) (gNm 11))
   (sSeq (sExpr (eMt isLst mAppend (eVar 9) (aCons (eTup (aCons (eVar 10) (aCons (eVar 7) (aCons (eA (k1 oTuple) (aCons (eVar 11) aNil)) aNil)))) aNil)))
   sNext))))
  (sSeq (sAsg (eLst aNil) (gNm 12))
  (sSeq (sFor (iA kRng1 (aCons (e2 oAdd (eC (.int 1)) (eCall Φ 24 (aCons (eVar 0) (aCons (eC (.int 4)) aNil)))) aNil)) (gNm 13) (sSeq (sExpr (eMt isLst mAppend (eVar 12) (aCons (eTup (aCons (eCall Φ 24 (aCons (eVar 0) (aCons (eA (k1 oLen) (aCons (eVar 9) aNil)) aNil))) (aCons (e2 oAdd (eC (.int 1)) (eCall Φ 24 (aCons (eVar 0) (aCons (eVar 2) aNil)))) aNil))) aNil)))
   sNext))
  (sSeq (sAsg (eLst aNil) (gNm 14))
  (sSeq (sFor (iA kEnu (aCons (eVar 12) aNil)) (gTp [(gNm 13), (gNm 15)]) (sSeq (sPar2 16 11 (aCons (eTup (aCons (eA (k1 oLen) (aCons (eVar 9) aNil)) (aCons (eA (k1 oLen) (aCons (eVar 12) aNil)) aNil))) (aCons (eLst aNil) aNil)))
   (sSeq (sFor (iA kRng1 (aCons (e2 oIx (eVar 15) (eC (.int 1))) aNil)) (gNm 17) (sSeq (sExpr (eMt isLst mAppend (eVar 11) (aCons (eCall Φ 27 (aCons (eVar 0) (aCons (eVar 5) (aCons (eTup (aCons (eVar 13) (aCons (eVar 17) (aCons (e2 oIx (eVar 15) (eC (.int 1))) aNil)))) (aCons (eVar 16) aNil))))) aNil)))
    sNext))
   (sSeq (sExpr (eMt isLst mAppend (eVar 14) (aCons (eTup (aCons (e2 oIx (eVar 15) (eC (.int 0))) (aCons (eA (k1 oTuple) (aCons (eVar 11) aNil)) aNil))) aNil)))
   sNext))))
  (sSeq (sRet (eTup (aCons (eA (k1 oTuple) (aCons (eVar 9) aNil)) (aCons (eA (k1 oTuple) (aCons (eVar 14) aNil)) aNil))))
  sNext))))))))))
theorem m28_ok (Φ : FT) : sk (rk Φ 40) ⟨d28.N, d28.scope, true, gk⟩ 40 d28.body = m28 Φ := by kernel_rfl
/-- _law_w_goals -/
def m29 (Φ : FT) : SS := (sSeq (sAsg (eLst aNil) (gNm 3))
  (sSeq (sFor (iA kEnu (aCons (e2 oIx (e2 oIx (e2 oIx (eVar 0) (eC (.int 1))) (eVar 1)) (eC (.int 1))) aNil)) (gTp [(gNm 4), (gNm 5)]) (sSeq (sAsg (eMt isDk mGet2 (eDic [((eC (.str "read")), (eSl (eVar 5) (pSome (eC (.int 2))) (pSome (eC (.int 3))))), ((eC (.str "write")), (eSl (eVar 5) (pSome (eC (.int 1))) (pSome (eC (.int 2))))), ((eC (.str "call")), (eTup aNil))]) (aCons (e2 oIx (eVar 5) (eC (.int 0))) (aCons (eTup aNil) aNil))) (gNm 6))
   (sSeq (sIf (tBol (e2 oEq (e2 oIx (eVar 5) (eC (.int 0))) (eC (.str "call")))) (sSeq (sAsg (eTup (aCons (e2 oIx (e2 oIx (e2 oIx (eVar 0) (eC (.int 1))) (e2 oIx (eVar 5) (eC (.int 1)))) (eC (.int 0))) aNil)) (gNm 6))
    sNext) sNext)
   (sSeq (sIf (tBol (e2 oIn (eVar 2) (eVar 6))) (sSeq (sExpr (eMt isLst mAppend (eVar 3) (aCons (eVar 4) aNil)))
    sNext) sNext)
   sNext))))
  (sSeq (sRet (eVar 3))
  sNext)))
theorem m29_ok (Φ : FT) : sk (rk Φ 40) ⟨d29.N, d29.scope, true, gk⟩ 40 d29.body = m29 Φ := by kernel_rfl
/-- _law_w_onward -/
def m30 (Φ : FT) : SS := (sSeq (sAsg (e2 oIx (e2 oIx (e2 oIx (eVar 0) (eC (.int 1))) (eVar 1)) (eC (.int 1))) (gNm 4))
  (sSeq (sPar2 5 6 (aCons (e2 oIx (eVar 4) (eVar 3)) (aCons (eLst (aCons (e2 oAdd (eVar 3) (eC (.int 1))) aNil)) aNil)))
  (sSeq (sIf (tBol (e2 oEq (e2 oIx (eVar 5) (eC (.int 0))) (eC (.str "fail")))) (sSeq (sRet (eLst aNil))
   sNext) sNext)
  (sSeq (sIf (tBol (e2 oEq (e2 oIx (eVar 5) (eC (.int 0))) (eC (.str "branch")))) (sSeq (sExpr (eMt isLst mAppend (eVar 6) (aCons (e2 oIx (eVar 5) (eC (.int 1))) aNil)))
   sNext) sNext)
  (sSeq (sIf (tBol (e2 oEq (e2 oIx (eVar 5) (eC (.int 0))) (eC (.str "wake")))) (sSeq (sAsg (eIf (tBol (e2 oEq (e2 oIx (eVar 5) (eC (.int 1))) (eVar 2))) (eLst (aCons (e2 oIx (eVar 5) (eC (.int 2))) aNil)) (e2 oAdd (eVar 6) (eLst (aCons (e2 oIx (eVar 5) (eC (.int 2))) aNil)))) (gNm 6))
   sNext) sNext)
  (sSeq (sRet (eLc (iAny (eVar 6)) (gNm 7) (tBol (e2 oLt (eVar 7) (eA (k1 oLen) (aCons (eVar 4) aNil)))) (eVar 7) [7]))
  sNext))))))
theorem m30_ok (Φ : FT) : sk (rk Φ 40) ⟨d30.N, d30.scope, true, gk⟩ 40 d30.body = m30 Φ := by kernel_rfl
/-- _law_w_is_met -/
def m31 (Φ : FT) : SS := (sSeq (sPar3 4 5 6 (aCons (eLst (aCons (eC (.int 0)) aNil)) (aCons (eLst aNil) (aCons (eCall Φ 29 (aCons (eVar 0) (aCons (eVar 1) (aCons (eVar 2) aNil)))) aNil))))
  (sSeq (sWhile (tBol (e2 oNe (eVar 4) (eLst aNil))) (sSeq (sAsg (eMt isLst mPop0 (eVar 4) aNil) (gNm 7))
   (sSeq (sIf (tAnd (tBol (e2 oNotIn (eVar 7) (eVar 5))) (tBol (e2 oNotIn (eVar 7) (eVar 3)))) (sSeq (sIf (tBol (e2 oIn (eVar 7) (eVar 6))) (sSeq (sRet (eC (.bl false)))
     sNext) sNext)
    (sSeq (sExpr (eMt isLst mAppend (eVar 5) (aCons (eVar 7) aNil)))
    (sSeq (sAsg (e2 oAdd (eVar 4) (eCall Φ 30 (aCons (eVar 0) (aCons (eVar 1) (aCons (eVar 2) (aCons (eVar 7) aNil)))))) (gNm 4))
    sNext))) sNext)
   sNext)))
  (sSeq (sRet (eC (.bl true)))
  sNext)))
theorem m31_ok (Φ : FT) : sk (rk Φ 40) ⟨d31.N, d31.scope, true, gk⟩ 40 d31.body = m31 Φ := by kernel_rfl
/-- _law_w_are_walks -/
def m32 (Φ : FT) : SS := (sSeq (sPar2 5 6 (aCons (eCall Φ 29 (aCons (eVar 0) (aCons (eVar 1) (aCons (eVar 2) aNil)))) (aCons (eA (k1 oLen) (aCons (eVar 3) aNil)) aNil)))
  (sSeq (sIf (tNot (tTru (e1 (oIsi [.list]) (eVar 4)))) (sSeq (sRet (eC (.bl false)))
   sNext) sNext)
  (sSeq (sAsg (e2 oMul (eLst (aCons (eC (.int 0)) aNil)) (eVar 6)) (gNm 7))
  (sSeq (sFor (iAny (eVar 4)) (gNm 8) (sSeq (sIf (tOr (tNot (tTru (e1 (oIsi [.tuple]) (eVar 8)))) (tOr (tBol (e2 oNe (eA (k1 oLen) (aCons (eVar 8) aNil)) (eC (.int 2)))) (tOr (tNot (tTru (e1 (oIsi [.list]) (e2 oIx (eVar 8) (eC (.int 0)))))) (tBol (e2 oEq (e2 oIx (eVar 8) (eC (.int 0))) (eLst aNil)))))) (sSeq (sRet (eC (.bl false)))
    sNext) sNext)
   (sSeq (sAsg (eVar 8) (gTp [(gNm 9), (gNm 10)]))
   (sSeq (sAsg (eLc (iAny (e2 oAdd (eVar 9) (eLst (aCons (eVar 10) aNil)))) (gNm 11) (tOr (tTru (e1 (oIsi [.bool]) (eVar 11))) (tNot (tTru (e1 (oIsi [.int]) (eVar 11))))) (eVar 11) [11]) (gNm 12))
   (sSeq (sIf (tOr (tBol (e2 oNe (eVar 12) (eLst aNil))) (tBol (e2 oLt (eVar 10) (eC (.int 1))))) (sSeq (sRet (eC (.bl false)))
    sNext) sNext)
   (sSeq (sIf (tOr (tBol (e2 oNe (e2 oIx (eVar 9) (eC (.int 0))) (eC (.int 0)))) (tOr (tBol (e2 oNotIn (e2 oIx (eVar 9) (e1 uNeg (eC (.int 1)))) (eVar 5))) (tOr (tBol (e2 oLt (eA (kMin) (aCons (eVar 9) aNil)) (eC (.int 0)))) (tBol (e2 oGe (eA (k1 oMax1) (aCons (eVar 9) aNil)) (eVar 6)))))) (sSeq (sRet (eC (.bl false)))
    sNext) sNext)
   (sSeq (sFor (iA kRng1 (aCons (e2 oSub (eA (k1 oLen) (aCons (eVar 9) aNil)) (eC (.int 1))) aNil)) (gNm 13) (sSeq (sIf (tBol (e2 oNotIn (e2 oIx (eVar 9) (e2 oAdd (eVar 13) (eC (.int 1)))) (eCall Φ 30 (aCons (eVar 0) (aCons (eVar 1) (aCons (eVar 2) (aCons (e2 oIx (eVar 9) (eVar 13)) aNil))))))) (sSeq (sRet (eC (.bl false)))
     sNext) sNext)
    sNext))
   (sSeq (sFor (iAny (e1 oSortSet (eVar 9))) (gNm 14) (sSeq (sAsg (e2 oAdd (e2 oIx (eVar 7) (eVar 14)) (eVar 10)) (gSb (eVar 7) (eVar 14)))
    sNext))
   sNext))))))))
  (sSeq (sRet (e2 oNotIn (eC (.bl false)) (eLc (iA kZip (aCons (eVar 7) (aCons (eVar 3) aNil))) (gTp [(gNm 11), (gNm 15)]) tYes (e2 oLe (eVar 11) (eVar 15)) [11, 15])))
  sNext)))))
theorem m32_ok (Φ : FT) : sk (rk Φ 40) ⟨d32.N, d32.scope, true, gk⟩ 40 d32.body = m32 Φ := by kernel_rfl
/-- _law_w_places -/
def m33 (Φ : FT) : SS := (sSeq (sAsg (eLc (iA kRng1 (aCons (eVar 1) aNil)) (gNm 2) (tBol (e2 oEq (eCall Φ 24 (aCons (eVar 0) (aCons (eC (.int 2)) aNil))) (eC (.int 0)))) (eVar 2) [2]) (gNm 3))
  (sSeq (sAsg (eLst (aCons (e1 oRev (eVar 3)) (aCons (e2 oAdd (eVar 3) (eSl (eVar 3) pNone (pSome (eC (.int 1))))) (aCons (eA (k1 oTuple) (aCons (eVar 3) aNil)) (aCons (e2 oAdd (eVar 3) (eLst (aCons (eVar 1) aNil))) (aCons (e2 oAdd (eLst (aCons (e1 uNeg (eC (.int 1))) aNil)) (eVar 3)) (aCons (eC (.non)) (aCons (eDic []) (aCons (eC (.int 0)) aNil))))))))) (gNm 4))
  (sSeq (sAsg (eCall Φ 25 (aCons (eVar 0) (aCons (eLst (aCons (eC (.bl true)) (aCons (eC (.bl false)) (aCons (eC (.non)) (aCons (eC (.str "0")) (aCons (eTup (aCons (eC (.int 0)) aNil)) (aCons (eLst (aCons (eC (.int 0)) aNil)) (aCons (eDic []) (aCons (e1 uNeg (eC (.int 1))) (aCons (eC (.int 0)) (aCons (eC (.int 1)) (aCons (eVar 1) aNil)))))))))))) aNil))) (gNm 5))
  (sSeq (sAsg (eCall Φ 24 (aCons (eVar 0) (aCons (e2 oAdd (eA (k1 oLen) (aCons (eVar 3) aNil)) (eC (.int 1))) aNil))) (gNm 6))
  (sSeq (sAsg (e2 oAdd (eVar 4) (eLst (aCons (e2 oAdd (e2 oAdd (eSl (eVar 3) pNone (pSome (eVar 6))) (eLst (aCons (eVar 5) aNil))) (eSl (eVar 3) (pSome (eVar 6)) pNone)) (aCons (e2 oAdd (e2 oAdd (eSl (eVar 3) pNone (pSome (eVar 6))) (eSl (eVar 3) (pSome (e2 oAdd (eVar 6) (eC (.int 1)))) (pSome (e2 oAdd (eVar 6) (eC (.int 2)))))) (eSl (eVar 3) (pSome (eVar 6)) pNone)) aNil)))) (gNm 4))
  (sSeq (sRet (eCall Φ 25 (aCons (eVar 0) (aCons (e2 oAdd (e2 oAdd (e2 oMul (eLst (aCons (eVar 3) aNil)) (eC (.int 8))) (eLst (aCons (eLst aNil) (aCons (e1 oListRange (eVar 1)) aNil)))) (e2 oMul (eLst (aCons (e2 oIx (eVar 4) (eCall Φ 24 (aCons (eVar 0) (aCons (eA (k1 oLen) (aCons (eVar 4) aNil)) aNil)))) aNil)) (eC (.int 4)))) aNil))))
  sNext))))))
theorem m33_ok (Φ : FT) : sk (rk Φ 40) ⟨d33.N, d33.scope, true, gk⟩ 40 d33.body = m33 Φ := by kernel_rfl
/-- _law_w_is_list -/
def m34 (Φ : FT) : SS := (sSeq (sIf (tOr (tNot (tTru (e1 (oIsi [.list]) (eVar 0)))) (tBol (e2 oIn (eC (.bl true)) (eLc (iAny (eVar 0)) (gNm 2) tYes (eOr (e1 (oIsi [.bool]) (eVar 2)) (eNot (e1 (oIsi [.int]) (eVar 2)))) [2])))) (sSeq (sRet (eC (.bl false)))
   sNext) sNext)
  (sSeq (sRet (eAnd (e2 oEq (eVar 0) (e1 oSortSet (eVar 0))) (e2 oNotIn (eC (.bl false)) (eLc (iAny (eVar 0)) (gNm 2) tYes (eChain oLe oLt (eC (.int 0)) (eVar 2) (eVar 1)) [2]))))
  sNext))
theorem m34_ok (Φ : FT) : sk (rk Φ 40) ⟨d34.N, d34.scope, true, gk⟩ 40 d34.body = m34 Φ := by kernel_rfl
/-- _law_w_walk -/
def m35 (Φ : FT) : SS := (sSeq (sPar2 4 5 (aCons (eLst (aCons (eC (.int 0)) aNil)) (aCons (eCall Φ 29 (aCons (eVar 1) (aCons (eVar 2) (aCons (eVar 3) aNil)))) aNil)))
  (sSeq (sFor (iA kRng1 (aCons (e2 oAdd (eC (.int 1)) (eCall Φ 24 (aCons (eVar 0) (aCons (eC (.int 12)) aNil)))) aNil)) (gNm 6) (sSeq (sAsg (eCall Φ 30 (aCons (eVar 1) (aCons (eVar 2) (aCons (eVar 3) (aCons (e2 oIx (eVar 4) (e1 uNeg (eC (.int 1)))) aNil))))) (gNm 7))
   (sSeq (sIf (tOr (tBol (e2 oEq (eVar 7) (eLst aNil))) (tAnd (tBol (e2 oIn (e2 oIx (eVar 4) (e1 uNeg (eC (.int 1)))) (eVar 5))) (tBol (e2 oGt (eCall Φ 24 (aCons (eVar 0) (aCons (eC (.int 3)) aNil))) (eC (.int 0)))))) (sSeq (sRet (eVar 4))
    sNext) sNext)
   (sSeq (sExpr (eMt isLst mAppend (eVar 4) (aCons (eCall Φ 25 (aCons (eVar 0) (aCons (eVar 7) aNil))) aNil)))
   sNext))))
  (sSeq (sRet (eVar 4))
  sNext)))
theorem m35_ok (Φ : FT) : sk (rk Φ 40) ⟨d35.N, d35.scope, true, gk⟩ 40 d35.body = m35 Φ := by kernel_rfl
/-- _law_w_walks -/
def m36 (Φ : FT) : SS := (sSeq (sAsg (eLst aNil) (gNm 5))
  (sSeq (sFor (iA kRng1 (aCons (eCall Φ 24 (aCons (eVar 0) (aCons (eC (.int 4)) aNil))) aNil)) (gNm 6) (sSeq (sExpr (eMt isLst mAppend (eVar 5) (aCons (eTup (aCons (eCall Φ 35 (aCons (eVar 0) (aCons (eVar 1) (aCons (eVar 2) (aCons (eVar 3) aNil))))) (aCons (e2 oAdd (eC (.int 1)) (eCall Φ 24 (aCons (eVar 0) (aCons (eC (.int 3)) aNil)))) aNil))) aNil)))
   sNext))
  (sSeq (sAsg (eCall Φ 24 (aCons (eVar 0) (aCons (eC (.int 12)) aNil))) (gNm 7))
  (sSeq (sIf (tOr (tBol (e2 oEq (eVar 5) (eLst aNil))) (tBol (e2 oGt (eVar 7) (eC (.int 5))))) (sSeq (sRet (eVar 5))
   sNext) sNext)
  (sSeq (sAsg (eCall Φ 24 (aCons (eVar 0) (aCons (eA (k1 oLen) (aCons (eVar 5) aNil)) aNil))) (gNm 8))
  (sSeq (sAsg (e2 oIx (eVar 5) (eVar 8)) (gTp [(gNm 9), (gNm 10)]))
  (sSeq (sPar2 11 12 (aCons (eCall Φ 24 (aCons (eVar 0) (aCons (eA (k1 oLen) (aCons (eVar 9) aNil)) aNil))) (aCons (eCall Φ 24 (aCons (eVar 0) (aCons (e2 oAdd (eVar 4) (eC (.int 1))) aNil))) aNil)))
  (sSeq (sAsg (eCall Φ 25 (aCons (eVar 0) (aCons (e2 oAdd (e2 oMul (eLst (aCons (eVar 12) aNil)) (eC (.int 6))) (eLst (aCons (eC (.non)) (aCons (eC (.str "0")) (aCons (eTup (aCons (eC (.int 0)) aNil)) (aCons (eLst (aCons (eC (.int 0)) aNil)) (aCons (eC (.bl true)) aNil))))))) aNil))) (gNm 12))
  (sSeq (sIf (tBol (e2 oEq (eVar 7) (eC (.int 0)))) (sSeq (sAsg (eVar 12) (gSb (eVar 9) (eVar 11)))
   sNext) (sSeq (sIf (tBol (e2 oEq (eVar 7) (eC (.int 1)))) (sSeq (sExpr (eMt isLst mInsert (eVar 9) (aCons (eVar 11) (aCons (eVar 12) aNil))))
    sNext) (sSeq (sIf (tBol (e2 oEq (eVar 7) (eC (.int 2)))) (sSeq (sExpr (eMt isLst mPop1 (eVar 9) (aCons (eVar 11) aNil)))
     sNext) (sSeq (sIf (tBol (e2 oEq (eVar 7) (eC (.int 3)))) (sSeq (sAsg (eTup (aCons (eVar 9) (aCons (eCall Φ 25 (aCons (eVar 0) (aCons (eLst (aCons (eC (.int 0)) (aCons (e1 uNeg (eC (.int 1))) (aCons (eC (.bl true)) (aCons (eC (.non)) (aCons (eC (.str "1")) (aCons (e2 oPow (eC (.int 10)) (eC (.int 9))) aNil))))))) aNil))) aNil))) (gSb (eVar 5) (eVar 8)))
      sNext) (sSeq (sIf (tBol (e2 oEq (eVar 7) (eC (.int 4)))) (sSeq (sAsg (eLst (aCons (eVar 9) (aCons (eLst (aCons (eVar 9) (aCons (eVar 10) aNil))) (aCons (eTup (aCons (eA (k1 oTuple) (aCons (eVar 9) aNil)) (aCons (eVar 10) aNil))) (aCons (eTup (aCons (eVar 9) (aCons (eVar 10) (aCons (eC (.int 0)) aNil)))) (aCons (eC (.non)) (aCons (eTup (aCons (eC (.non)) (aCons (eC (.int 1)) aNil))) (aCons (eTup (aCons (eC (.int 7)) (aCons (eC (.int 1)) aNil))) (aCons (eTup (aCons (eDic []) (aCons (eC (.int 1)) aNil))) aNil))))))))) (gNm 13))
       (sSeq (sAsg (eCall Φ 25 (aCons (eVar 0) (aCons (eVar 13) aNil))) (gSb (eVar 5) (eVar 8)))
       sNext)) (sSeq (sRet (eCall Φ 25 (aCons (eVar 0) (aCons (eLst (aCons (eC (.non)) (aCons (eA (k1 oTuple) (aCons (eVar 5) aNil)) (aCons (eDic []) (aCons (eC (.int 0)) (aCons (eLst (aCons (eLst aNil) aNil)) (aCons (eLst (aCons (eTup aNil) aNil)) aNil))))))) aNil))))
       sNext))
      sNext))
     sNext))
    sNext))
   sNext))
  (sSeq (sRet (eVar 5))
  sNext))))))))))
theorem m36_ok (Φ : FT) : sk (rk Φ 40) ⟨d36.N, d36.scope, true, gk⟩ 40 d36.body = m36 Φ := by kernel_rfl
/-- law -/
def m37 (Φ : FT) : SS := (sSeq (sAsg (eCall Φ 23 (aCons (eVar 0) aNil)) (gNm 1))
  (sSeq (sFor (iA kRng1 (aCons (eC (.int 5)) aNil)) (gNm 2) (sSeq (sAsg (eCall Φ 28 (aCons (eVar 1) (aCons (eC (.int 3)) (aCons (eC (.int 8)) aNil)))) (gNm 3))
   (sSeq (sPar2 4 5 (aCons (eCall Φ 24 (aCons (eVar 1) (aCons (eA (k1 oLen) (aCons (e2 oIx (eVar 3) (eC (.int 1))) aNil)) aNil))) (aCons (eCall Φ 24 (aCons (eVar 1) (aCons (eA (k1 oLen) (aCons (e2 oIx (eVar 3) (eC (.int 0))) aNil)) aNil))) aNil)))
   (sSeq (sAsg (eA (k1 oLen) (aCons (e2 oIx (e2 oIx (e2 oIx (eVar 3) (eC (.int 1))) (eVar 4)) (eC (.int 1))) aNil)) (gNm 6))
   (sSeq (sAsg (eLc (iA kRng1 (aCons (eVar 6) aNil)) (gNm 7) tYes (eCall Φ 25 (aCons (eVar 1) (aCons (eLst (aCons (eC (.int 0)) (aCons (eC (.int 1)) (aCons (eC (.int 3)) (aCons (eC (.int 9)) (aCons (eC (.int 9)) aNil)))))) aNil))) [7]) (gNm 8))
   (sSeq (sFor (iA kRng1 (aCons (eC (.int 6)) aNil)) (gNm 9) (sSeq (sPar2 10 11 (aCons (eCall Φ 33 (aCons (eVar 1) (aCons (eVar 6) aNil))) (aCons (eCall Φ 36 (aCons (eVar 1) (aCons (eVar 3) (aCons (eVar 4) (aCons (eVar 5) (aCons (eVar 6) aNil)))))) aNil)))
    (sSeq (sAsg (e1 oRepr (eTup (aCons (eVar 3) (aCons (eVar 8) (aCons (eVar 10) (aCons (eVar 11) aNil)))))) (gNm 12))
    (sSeq (sAsg (eAnd (eCall Φ 34 (aCons (eVar 10) (aCons (eVar 6) aNil))) (eCall Φ 31 (aCons (eVar 3) (aCons (eVar 4) (aCons (eVar 5) (aCons (eVar 10) aNil)))))) (gNm 13))
    (sSeq (sAsg (eCall Φ 19 (aCons (eVar 3) (aCons (eVar 4) (aCons (eVar 5) (aCons (eVar 10) aNil))))) (gNm 14))
    (sSeq (sIf (tOr (tNot (tTru (e1 (oIsi [.bool]) (eVar 14)))) (tBol (e2 oNe (eVar 14) (eVar 13)))) (sSeq (sRet (eC (.bl false)))
     sNext) sNext)
    (sSeq (sAsg (eCall Φ 21 (aCons (eVar 3) (aCons (eVar 4) (aCons (eVar 5) (aCons (eVar 8) (aCons (eVar 11) aNil)))))) (gNm 14))
    (sSeq (sIf (tOr (tNot (tTru (e1 (oIsi [.bool]) (eVar 14)))) (tBol (e2 oNe (eVar 14) (eCall Φ 32 (aCons (eVar 3) (aCons (eVar 4) (aCons (eVar 5) (aCons (eVar 8) (aCons (eVar 11) aNil))))))))) (sSeq (sRet (eC (.bl false)))
     sNext) sNext)
    (sSeq (sIf (tBol (e2 oNe (e1 oRepr (eTup (aCons (eVar 3) (aCons (eVar 8) (aCons (eVar 10) (aCons (eVar 11) aNil)))))) (eVar 12))) (sSeq (sRet (eC (.bl false)))
     sNext) sNext)
    sNext)))))))))
   sNext))))))
  (sSeq (sRet (eC (.bl true)))
  sNext)))
theorem m37_ok (Φ : FT) : sk (rk Φ 40) ⟨d37.N, d37.scope, true, gk⟩ 40 d37.body = m37 Φ := by kernel_rfl
end K25

set_option maxRecDepth 100000
set_option maxHeartbeats 0
namespace K25
open PySem Fw
theorem lp0 : d0.ps.length = 3 := by kernel_rfl
theorem ln0 : d0.N.length = 3 := by kernel_rfl
theorem phi0 (k : Nat) (ws : List W) (h : IH) : Phi gk tab (k + 1) 0 ws h = callB (m0 (Phi gk tab k)) 3 3 ws h := by
  show callB (sk (rk (Phi gk tab k) 40) ⟨d0.N, d0.scope, true, gk⟩ 40 d0.body) d0.ps.length d0.N.length ws h = _
  rw [m0_ok, lp0, ln0]
theorem lp1 : d1.ps.length = 1 := by kernel_rfl
theorem ln1 : d1.N.length = 1 := by kernel_rfl
theorem phi1 (k : Nat) (ws : List W) (h : IH) : Phi gk tab (k + 1) 1 ws h = callB (m1 (Phi gk tab k)) 1 1 ws h := by
  show callB (sk (rk (Phi gk tab k) 40) ⟨d1.N, d1.scope, true, gk⟩ 40 d1.body) d1.ps.length d1.N.length ws h = _
  rw [m1_ok, lp1, ln1]
theorem lp2 : d2.ps.length = 1 := by kernel_rfl
theorem ln2 : d2.N.length = 1 := by kernel_rfl
theorem phi2 (k : Nat) (ws : List W) (h : IH) : Phi gk tab (k + 1) 2 ws h = callB (m2 (Phi gk tab k)) 1 1 ws h := by
  show callB (sk (rk (Phi gk tab k) 40) ⟨d2.N, d2.scope, true, gk⟩ 40 d2.body) d2.ps.length d2.N.length ws h = _
  rw [m2_ok, lp2, ln2]
theorem lp3 : d3.ps.length = 3 := by kernel_rfl
theorem ln3 : d3.N.length = 3 := by kernel_rfl
theorem phi3 (k : Nat) (ws : List W) (h : IH) : Phi gk tab (k + 1) 3 ws h = callB (m3 (Phi gk tab k)) 3 3 ws h := by
  show callB (sk (rk (Phi gk tab k) 40) ⟨d3.N, d3.scope, true, gk⟩ 40 d3.body) d3.ps.length d3.N.length ws h = _
  rw [m3_ok, lp3, ln3]
theorem lp4 : d4.ps.length = 4 := by kernel_rfl
theorem ln4 : d4.N.length = 5 := by kernel_rfl
theorem phi4 (k : Nat) (ws : List W) (h : IH) : Phi gk tab (k + 1) 4 ws h = callB (m4 (Phi gk tab k)) 4 5 ws h := by
  show callB (sk (rk (Phi gk tab k) 40) ⟨d4.N, d4.scope, true, gk⟩ 40 d4.body) d4.ps.length d4.N.length ws h = _
  rw [m4_ok, lp4, ln4]
theorem lp5 : d5.ps.length = 2 := by kernel_rfl
theorem ln5 : d5.N.length = 2 := by kernel_rfl
theorem phi5 (k : Nat) (ws : List W) (h : IH) : Phi gk tab (k + 1) 5 ws h = callB (m5 (Phi gk tab k)) 2 2 ws h := by
  show callB (sk (rk (Phi gk tab k) 40) ⟨d5.N, d5.scope, true, gk⟩ 40 d5.body) d5.ps.length d5.N.length ws h = _
  rw [m5_ok, lp5, ln5]
theorem lp6 : d6.ps.length = 2 := by kernel_rfl
theorem ln6 : d6.N.length = 2 := by kernel_rfl
theorem phi6 (k : Nat) (ws : List W) (h : IH) : Phi gk tab (k + 1) 6 ws h = callB (m6 (Phi gk tab k)) 2 2 ws h := by
  show callB (sk (rk (Phi gk tab k) 40) ⟨d6.N, d6.scope, true, gk⟩ 40 d6.body) d6.ps.length d6.N.length ws h = _
  rw [m6_ok, lp6, ln6]
theorem lp7 : d7.ps.length = 1 := by kernel_rfl
theorem ln7 : d7.N.length = 7 := by kernel_rfl
theorem phi7 (k : Nat) (ws : List W) (h : IH) : Phi gk tab (k + 1) 7 ws h = callB (m7 (Phi gk tab k)) 1 7 ws h := by
  show callB (sk (rk (Phi gk tab k) 40) ⟨d7.N, d7.scope, true, gk⟩ 40 d7.body) d7.ps.length d7.N.length ws h = _
  rw [m7_ok, lp7, ln7]
theorem lp8 : d8.ps.length = 2 := by kernel_rfl
theorem ln8 : d8.N.length = 8 := by kernel_rfl
theorem phi8 (k : Nat) (ws : List W) (h : IH) : Phi gk tab (k + 1) 8 ws h = callB (m8 (Phi gk tab k)) 2 8 ws h := by
  show callB (sk (rk (Phi gk tab k) 40) ⟨d8.N, d8.scope, true, gk⟩ 40 d8.body) d8.ps.length d8.N.length ws h = _
  rw [m8_ok, lp8, ln8]
theorem lp9 : d9.ps.length = 1 := by kernel_rfl
theorem ln9 : d9.N.length = 1 := by kernel_rfl
theorem phi9 (k : Nat) (ws : List W) (h : IH) : Phi gk tab (k + 1) 9 ws h = callB (m9 (Phi gk tab k)) 1 1 ws h := by
  show callB (sk (rk (Phi gk tab k) 40) ⟨d9.N, d9.scope, true, gk⟩ 40 d9.body) d9.ps.length d9.N.length ws h = _
  rw [m9_ok, lp9, ln9]
theorem lp10 : d10.ps.length = 2 := by kernel_rfl
theorem ln10 : d10.N.length = 2 := by kernel_rfl
theorem phi10 (k : Nat) (ws : List W) (h : IH) : Phi gk tab (k + 1) 10 ws h = callB (m10 (Phi gk tab k)) 2 2 ws h := by
  show callB (sk (rk (Phi gk tab k) 40) ⟨d10.N, d10.scope, true, gk⟩ 40 d10.body) d10.ps.length d10.N.length ws h = _
  rw [m10_ok, lp10, ln10]
theorem lp11 : d11.ps.length = 2 := by kernel_rfl
theorem ln11 : d11.N.length = 2 := by kernel_rfl
theorem phi11 (k : Nat) (ws : List W) (h : IH) : Phi gk tab (k + 1) 11 ws h = callB (m11 (Phi gk tab k)) 2 2 ws h := by
  show callB (sk (rk (Phi gk tab k) 40) ⟨d11.N, d11.scope, true, gk⟩ 40 d11.body) d11.ps.length d11.N.length ws h = _
  rw [m11_ok, lp11, ln11]
theorem lp12 : d12.ps.length = 2 := by kernel_rfl
theorem ln12 : d12.N.length = 2 := by kernel_rfl
theorem phi12 (k : Nat) (ws : List W) (h : IH) : Phi gk tab (k + 1) 12 ws h = callB (m12 (Phi gk tab k)) 2 2 ws h := by
  show callB (sk (rk (Phi gk tab k) 40) ⟨d12.N, d12.scope, true, gk⟩ 40 d12.body) d12.ps.length d12.N.length ws h = _
  rw [m12_ok, lp12, ln12]
theorem lp13 : d13.ps.length = 3 := by kernel_rfl
theorem ln13 : d13.N.length = 4 := by kernel_rfl
theorem phi13 (k : Nat) (ws : List W) (h : IH) : Phi gk tab (k + 1) 13 ws h = callB (m13 (Phi gk tab k)) 3 4 ws h := by
  show callB (sk (rk (Phi gk tab k) 40) ⟨d13.N, d13.scope, true, gk⟩ 40 d13.body) d13.ps.length d13.N.length ws h = _
  rw [m13_ok, lp13, ln13]
theorem lp14 : d14.ps.length = 3 := by kernel_rfl
theorem ln14 : d14.N.length = 6 := by kernel_rfl
theorem phi14 (k : Nat) (ws : List W) (h : IH) : Phi gk tab (k + 1) 14 ws h = callB (m14 (Phi gk tab k)) 3 6 ws h := by
  show callB (sk (rk (Phi gk tab k) 40) ⟨d14.N, d14.scope, true, gk⟩ 40 d14.body) d14.ps.length d14.N.length ws h = _
  rw [m14_ok, lp14, ln14]
theorem lp15 : d15.ps.length = 4 := by kernel_rfl
theorem ln15 : d15.N.length = 8 := by kernel_rfl
theorem phi15 (k : Nat) (ws : List W) (h : IH) : Phi gk tab (k + 1) 15 ws h = callB (m15 (Phi gk tab k)) 4 8 ws h := by
  show callB (sk (rk (Phi gk tab k) 40) ⟨d15.N, d15.scope, true, gk⟩ 40 d15.body) d15.ps.length d15.N.length ws h = _
  rw [m15_ok, lp15, ln15]
theorem lp16 : d16.ps.length = 4 := by kernel_rfl
theorem ln16 : d16.N.length = 9 := by kernel_rfl
theorem phi16 (k : Nat) (ws : List W) (h : IH) : Phi gk tab (k + 1) 16 ws h = callB (m16 (Phi gk tab k)) 4 9 ws h := by
  show callB (sk (rk (Phi gk tab k) 40) ⟨d16.N, d16.scope, true, gk⟩ 40 d16.body) d16.ps.length d16.N.length ws h = _
  rw [m16_ok, lp16, ln16]
theorem lp17 : d17.ps.length = 2 := by kernel_rfl
theorem ln17 : d17.N.length = 3 := by kernel_rfl
theorem phi17 (k : Nat) (ws : List W) (h : IH) : Phi gk tab (k + 1) 17 ws h = callB (m17 (Phi gk tab k)) 2 3 ws h := by
  show callB (sk (rk (Phi gk tab k) 40) ⟨d17.N, d17.scope, true, gk⟩ 40 d17.body) d17.ps.length d17.N.length ws h = _
  rw [m17_ok, lp17, ln17]
theorem lp18 : d18.ps.length = 3 := by kernel_rfl
theorem ln18 : d18.N.length = 5 := by kernel_rfl
theorem phi18 (k : Nat) (ws : List W) (h : IH) : Phi gk tab (k + 1) 18 ws h = callB (m18 (Phi gk tab k)) 3 5 ws h := by
  show callB (sk (rk (Phi gk tab k) 40) ⟨d18.N, d18.scope, true, gk⟩ 40 d18.body) d18.ps.length d18.N.length ws h = _
  rw [m18_ok, lp18, ln18]
theorem lp19 : d19.ps.length = 4 := by kernel_rfl
theorem ln19 : d19.N.length = 4 := by kernel_rfl
theorem phi19 (k : Nat) (ws : List W) (h : IH) : Phi gk tab (k + 1) 19 ws h = callB (m19 (Phi gk tab k)) 4 4 ws h := by
  show callB (sk (rk (Phi gk tab k) 40) ⟨d19.N, d19.scope, true, gk⟩ 40 d19.body) d19.ps.length d19.N.length ws h = _
  rw [m19_ok, lp19, ln19]
theorem lp20 : d20.ps.length = 4 := by kernel_rfl
theorem ln20 : d20.N.length = 7 := by kernel_rfl
theorem phi20 (k : Nat) (ws : List W) (h : IH) : Phi gk tab (k + 1) 20 ws h = callB (m20 (Phi gk tab k)) 4 7 ws h := by
  show callB (sk (rk (Phi gk tab k) 40) ⟨d20.N, d20.scope, true, gk⟩ 40 d20.body) d20.ps.length d20.N.length ws h = _
  rw [m20_ok, lp20, ln20]
theorem lp21 : d21.ps.length = 5 := by kernel_rfl
theorem ln21 : d21.N.length = 10 := by kernel_rfl
theorem phi21 (k : Nat) (ws : List W) (h : IH) : Phi gk tab (k + 1) 21 ws h = callB (m21 (Phi gk tab k)) 5 10 ws h := by
  show callB (sk (rk (Phi gk tab k) 40) ⟨d21.N, d21.scope, true, gk⟩ 40 d21.body) d21.ps.length d21.N.length ws h = _
  rw [m21_ok, lp21, ln21]
theorem lp22 : d22.ps.length = 2 := by kernel_rfl
theorem ln22 : d22.N.length = 6 := by kernel_rfl
theorem phi22 (k : Nat) (ws : List W) (h : IH) : Phi gk tab (k + 1) 22 ws h = callB (m22 (Phi gk tab k)) 2 6 ws h := by
  show callB (sk (rk (Phi gk tab k) 40) ⟨d22.N, d22.scope, true, gk⟩ 40 d22.body) d22.ps.length d22.N.length ws h = _
  rw [m22_ok, lp22, ln22]
theorem lp23 : d23.ps.length = 1 := by kernel_rfl
theorem ln23 : d23.N.length = 4 := by kernel_rfl
theorem phi23 (k : Nat) (ws : List W) (h : IH) : Phi gk tab (k + 1) 23 ws h = callB (m23 (Phi gk tab k)) 1 4 ws h := by
  show callB (sk (rk (Phi gk tab k) 40) ⟨d23.N, d23.scope, true, gk⟩ 40 d23.body) d23.ps.length d23.N.length ws h = _
  rw [m23_ok, lp23, ln23]
theorem lp24 : d24.ps.length = 2 := by kernel_rfl
theorem ln24 : d24.N.length = 5 := by kernel_rfl
theorem phi24 (k : Nat) (ws : List W) (h : IH) : Phi gk tab (k + 1) 24 ws h = callB (m24 (Phi gk tab k)) 2 5 ws h := by
  show callB (sk (rk (Phi gk tab k) 40) ⟨d24.N, d24.scope, true, gk⟩ 40 d24.body) d24.ps.length d24.N.length ws h = _
  rw [m24_ok, lp24, ln24]
theorem lp25 : d25.ps.length = 2 := by kernel_rfl
theorem ln25 : d25.N.length = 2 := by kernel_rfl
theorem phi25 (k : Nat) (ws : List W) (h : IH) : Phi gk tab (k + 1) 25 ws h = callB (m25 (Phi gk tab k)) 2 2 ws h := by
  show callB (sk (rk (Phi gk tab k) 40) ⟨d25.N, d25.scope, true, gk⟩ 40 d25.body) d25.ps.length d25.N.length ws h = _
  rw [m25_ok, lp25, ln25]
theorem lp26 : d26.ps.length = 3 := by kernel_rfl
theorem ln26 : d26.N.length = 9 := by kernel_rfl
theorem phi26 (k : Nat) (ws : List W) (h : IH) : Phi gk tab (k + 1) 26 ws h = callB (m26 (Phi gk tab k)) 3 9 ws h := by
  show callB (sk (rk (Phi gk tab k) 40) ⟨d26.N, d26.scope, true, gk⟩ 40 d26.body) d26.ps.length d26.N.length ws h = _
  rw [m26_ok, lp26, ln26]
theorem lp27 : d27.ps.length = 4 := by kernel_rfl
theorem ln27 : d27.N.length = 8 := by kernel_rfl
theorem phi27 (k : Nat) (ws : List W) (h : IH) : Phi gk tab (k + 1) 27 ws h = callB (m27 (Phi gk tab k)) 4 8 ws h := by
  show callB (sk (rk (Phi gk tab k) 40) ⟨d27.N, d27.scope, true, gk⟩ 40 d27.body) d27.ps.length d27.N.length ws h = _
  rw [m27_ok, lp27, ln27]
theorem lp28 : d28.ps.length = 3 := by kernel_rfl
theorem ln28 : d28.N.length = 18 := by kernel_rfl
theorem phi28 (k : Nat) (ws : List W) (h : IH) : Phi gk tab (k + 1) 28 ws h = callB (m28 (Phi gk tab k)) 3 18 ws h := by
  show callB (sk (rk (Phi gk tab k) 40) ⟨d28.N, d28.scope, true, gk⟩ 40 d28.body) d28.ps.length d28.N.length ws h = _
  rw [m28_ok, lp28, ln28]
theorem lp29 : d29.ps.length = 3 := by kernel_rfl
theorem ln29 : d29.N.length = 7 := by kernel_rfl
theorem phi29 (k : Nat) (ws : List W) (h : IH) : Phi gk tab (k + 1) 29 ws h = callB (m29 (Phi gk tab k)) 3 7 ws h := by
  show callB (sk (rk (Phi gk tab k) 40) ⟨d29.N, d29.scope, true, gk⟩ 40 d29.body) d29.ps.length d29.N.length ws h = _
  rw [m29_ok, lp29, ln29]
theorem lp30 : d30.ps.length = 4 := by kernel_rfl
theorem ln30 : d30.N.length = 8 := by kernel_rfl
theorem phi30 (k : Nat) (ws : List W) (h : IH) : Phi gk tab (k + 1) 30 ws h = callB (m30 (Phi gk tab k)) 4 8 ws h := by
  show callB (sk (rk (Phi gk tab k) 40) ⟨d30.N, d30.scope, true, gk⟩ 40 d30.body) d30.ps.length d30.N.length ws h = _
  rw [m30_ok, lp30, ln30]
theorem lp31 : d31.ps.length = 4 := by kernel_rfl
theorem ln31 : d31.N.length = 8 := by kernel_rfl
theorem phi31 (k : Nat) (ws : List W) (h : IH) : Phi gk tab (k + 1) 31 ws h = callB (m31 (Phi gk tab k)) 4 8 ws h := by
  show callB (sk (rk (Phi gk tab k) 40) ⟨d31.N, d31.scope, true, gk⟩ 40 d31.body) d31.ps.length d31.N.length ws h = _
  rw [m31_ok, lp31, ln31]
theorem lp32 : d32.ps.length = 5 := by kernel_rfl
theorem ln32 : d32.N.length = 16 := by kernel_rfl
theorem phi32 (k : Nat) (ws : List W) (h : IH) : Phi gk tab (k + 1) 32 ws h = callB (m32 (Phi gk tab k)) 5 16 ws h := by
  show callB (sk (rk (Phi gk tab k) 40) ⟨d32.N, d32.scope, true, gk⟩ 40 d32.body) d32.ps.length d32.N.length ws h = _
  rw [m32_ok, lp32, ln32]
theorem lp33 : d33.ps.length = 2 := by kernel_rfl
theorem ln33 : d33.N.length = 7 := by kernel_rfl
theorem phi33 (k : Nat) (ws : List W) (h : IH) : Phi gk tab (k + 1) 33 ws h = callB (m33 (Phi gk tab k)) 2 7 ws h := by
  show callB (sk (rk (Phi gk tab k) 40) ⟨d33.N, d33.scope, true, gk⟩ 40 d33.body) d33.ps.length d33.N.length ws h = _
  rw [m33_ok, lp33, ln33]
theorem lp34 : d34.ps.length = 2 := by kernel_rfl
theorem ln34 : d34.N.length = 3 := by kernel_rfl
theorem phi34 (k : Nat) (ws : List W) (h : IH) : Phi gk tab (k + 1) 34 ws h = callB (m34 (Phi gk tab k)) 2 3 ws h := by
  show callB (sk (rk (Phi gk tab k) 40) ⟨d34.N, d34.scope, true, gk⟩ 40 d34.body) d34.ps.length d34.N.length ws h = _
  rw [m34_ok, lp34, ln34]
theorem lp35 : d35.ps.length = 4 := by kernel_rfl
theorem ln35 : d35.N.length = 8 := by kernel_rfl
theorem phi35 (k : Nat) (ws : List W) (h : IH) : Phi gk tab (k + 1) 35 ws h = callB (m35 (Phi gk tab k)) 4 8 ws h := by
  show callB (sk (rk (Phi gk tab k) 40) ⟨d35.N, d35.scope, true, gk⟩ 40 d35.body) d35.ps.length d35.N.length ws h = _
  rw [m35_ok, lp35, ln35]
theorem lp36 : d36.ps.length = 5 := by kernel_rfl
theorem ln36 : d36.N.length = 14 := by kernel_rfl
theorem phi36 (k : Nat) (ws : List W) (h : IH) : Phi gk tab (k + 1) 36 ws h = callB (m36 (Phi gk tab k)) 5 14 ws h := by
  show callB (sk (rk (Phi gk tab k) 40) ⟨d36.N, d36.scope, true, gk⟩ 40 d36.body) d36.ps.length d36.N.length ws h = _
  rw [m36_ok, lp36, ln36]
theorem lp37 : d37.ps.length = 1 := by kernel_rfl
theorem ln37 : d37.N.length = 15 := by kernel_rfl
theorem phi37 (k : Nat) (ws : List W) (h : IH) : Phi gk tab (k + 1) 37 ws h = callB (m37 (Phi gk tab k)) 1 15 ws h := by
  show callB (sk (rk (Phi gk tab k) 40) ⟨d37.N, d37.scope, true, gk⟩ 40 d37.body) d37.ps.length d37.N.length ws h = _
  rw [m37_ok, lp37, ln37]
end K25

set_option linter.all false
set_option maxRecDepth 100000
set_option maxHeartbeats 1000000
namespace K25
open PySem Fw
theorem spread_ok (Φ : FT) (cell at_ : Int) (h : IH) (ha : 0 ≤ at_) (hb : at_ < 1000000) : (callB (m22 Φ) 2 6 [.int cell, .int at_] h).Wp fun w h' => ∃ v : Int, w = .int v ∧ 0 ≤ v ∧ Keep h h' := by
  rw [x_callB (by rfl)]
  show (m22 _ [some (.int cell), some (.int at_), none, none, none, none] h).Wp _
  unfold m22
  simp only [↓v0, ↓n0, ↓v1, ↓n1, ↓v2, ↓n2, ↓v3, ↓n3, ↓v4, ↓n4, ↓v5, ↓n5, ↓v6, ↓n6, ↓v7, ↓n7, ↓v8, ↓n8, ↓v9, ↓n9, ↓v10, ↓n10, ↓v11, ↓n11, ↓v12, ↓n12, ↓v13, ↓n13, ↓v14, ↓n14, ↓v15, ↓n15, ↓v16, ↓n16, ↓v17, ↓n17, ↓v18, ↓n18, ↓x_seq, ↓x_if, ↓x_next, ↓x_brk, ↓x_cont, ↓x_asg, ↓x_expr, ↓x_ret, ↓x_retN, ↓x_par2, ↓x_par3, ↓x_C, ↓x_e1, ↓x_e2, ↓x_nil, ↓x_cons, ↓x_eA, ↓x_call, ↓x_tup, ↓x_lst, ↓x_eIf, ↓x_mt, ↓x_sl, ↓x_none, ↓x_some, ↓x_bol, ↓x_bolW, ↓x_tru, ↓x_not, ↓x_and, ↓x_or, ↓x_yes, ↓x_sb, ↓x_add, ↓x_sub, ↓x_mul, ↓x_mod, ↓x_div, ↓x_pow, ↓x_lt, ↓x_le, ↓x_gt, ↓x_ge, ↓x_eqI, ↓x_neI, ↓x_lenT, ↓x_int]
  refine ⟨⟨by decide, by decide⟩, fun hc => ?_, fun _ => ⟨by decide, by decide, ?_⟩⟩
  · have hc := of_decide_eq_true hc
    exact ⟨cell, rfl, by have : (0 : Int) ≤ 10 ^ Int.toNat 18 := by decide
                         omega, Keep.refl⟩
  generalize eh1 : h.new (.lst [W.int 2147483629, W.int 2147483587, W.int 2147483579, W.int 2147483563, W.int 2147483549, W.int 2147483543, W.int 2147483497, W.int 2147483489]) = h1
  have k1 : Keep h h1 := by rw [← eh1]; exact Keep.new
  have n1 : h1.n = h.n + 1 := by rw [← eh1]; rfl
  have g1 : h1.get h.n = some (.lst [W.int 2147483629, W.int 2147483587, W.int 2147483579, W.int 2147483563, W.int 2147483549, W.int 2147483543, W.int 2147483497, W.int 2147483489]) := by rw [← eh1]; exact IH.get_new_self h _
  generalize eh2 : h1.new (.lst [W.int 2147483477, W.int 2147483423, W.int 2147483399, W.int 2147483353, W.int 2147483323]) = h2
  have k2 : Keep h1 h2 := by rw [← eh2]; exact Keep.new
  have n2 : h2.n = h1.n + 1 := by rw [← eh2]; rfl
  have g2 : h2.get h1.n = some (.lst [W.int 2147483477, W.int 2147483423, W.int 2147483399, W.int 2147483353, W.int 2147483323]) := by rw [← eh2]; exact IH.get_new_self h1 _
  rw [x_catL ((k2.2 _ (by omega)).trans g1) g2]
  refine ⟨by decide, ?_⟩
  generalize eh3 : h2.new _ = h3
  have g3 : h3.get h2.n = some (.lst pr13) := by rw [← eh3]; exact IH.get_new_self h2 _
  have k3 : Keep h h3 := (k1.trans k2).trans (by rw [← eh3]; exact Keep.new)
  have c1 := mod_lt (a := cell) (b := 1000000007) (by decide)
  have c2 := mod_lt (a := cell) (b := 65537) (by decide)
  have m1 := mul_lt c1.1 c1.2 (show 0 ≤ 2 * at_ + 69069 by omega) (show 2 * at_ + 69069 < 2100000 by omega)
  have i1 := mod_lt (a := at_) (b := 13) (by decide)
  have i2 := mod_lt (a := at_ + 5) (b := 13) (by decide)
  have i3 := mod_lt (a := at_ + 7) (b := 13) (by decide)
  refine ⟨by decide, by rw [pow64 (i := 2) (by decide) (by decide)]; rfl, by rw [pow64 c1.1 (by omega)]; rfl, by rw [pow64 ha (by omega)]; rfl, ⟨by decide, pow64 (by omega) (by omega)⟩, by decide, ?_⟩
  refine ix_wp g3 i1.1 i1.2 fun w hw => ?_
  obtain ⟨p, rfl, p0, p1⟩ := pr_at hw
  generalize (cell % 1000000007 * (2 * at_ + 69069) + at_ * 40503 + 977) ^ Int.toNat 3 = b1
  simp only [↓x_mod, ↓x_mul, ↓x_add, ↓x_pow]
  have o1 := mod_lt (a := b1) p0
  generalize b1 % p = one at o1 ⊢
  have m2 := mul_lt o1.1 (show one < 2147483648 by omega) (show 0 ≤ at_ + 3 by omega) (show at_ + 3 < 1000003 by omega)
  refine ⟨p0, by rw [pow64 o1.1 (by omega)]; rfl, by decide, ⟨by decide, pow64 (by omega) (by omega)⟩, by decide, ?_⟩
  refine ix_wp g3 i2.1 i2.2 fun w hw => ?_
  obtain ⟨q, rfl, q0, q1⟩ := pr_at hw
  generalize (one * (at_ + 3) + cell % 65537 + 5) ^ Int.toNat 5 = b2
  simp only [↓x_mod, ↓x_mul, ↓x_add, ↓x_pow]
  have o2 := mod_lt (a := b2) q0
  generalize b2 % q = two at o2 ⊢
  have c3 := mod_lt (a := one) (b := 1009) (by decide)
  refine ⟨q0, by decide, ⟨by decide, pow64 (by omega) (by omega)⟩, by decide, ?_⟩
  refine ix_wp g3 i3.1 i3.2 fun w hw => ?_
  obtain ⟨r, rfl, r0, r1⟩ := pr_at hw
  generalize (two + one % 1009 + at_) ^ Int.toNat 3 = b3
  simp only [↓x_mod, ↓x_mul, ↓x_add, ↓x_pow]
  have o3 := mod_lt (a := b3) r0
  have z1 : inPow64 2147483647 = true := pow64 (by decide) (by decide)
  have y1 : 0 ≤ one * 2147483647 := Int.mul_nonneg o1.1 (by decide)
  have y2 : 0 ≤ (one * 2147483647 + two) * 2147483647 := Int.mul_nonneg (by omega) (by decide)
  exact ⟨r0, by rw [z1, Bool.or_true], by rw [z1, Bool.or_true], _, rfl, by omega, k3⟩
def SpO (Φ : FT) : Prop := ∀ (cell at_ : Int) (h : IH), 0 ≤ at_ → at_ < 1000000 → (Φ 22 [.int cell, .int at_] h).Wp fun w h' => ∃ v : Int, w = .int v ∧ 0 ≤ v ∧ Keep h h'
theorem tk_tail {p c : Nat} {b many a l : Int} {cs : List Int} {h0 h' : IH} (m0 : 0 < many) (m1 : many < 1073741824) (x : PenAt h' p c a l cs) (a0 : 0 ≤ a) (a1 : a ≤ b + 1) (l0 : 0 ≤ l) (fr : Fr p h0 h') :
    (oIx (.loc p) (.int 2) h').Wp fun x h => (oMod x (.int many) h).Wp fun w h => (oIx (.loc p) (.int 2) h).Wp fun x h => (oDiv x (.int many) h).Wp fun w_1 h => (oSet (.loc p) (.int 2) w_1 h).Wp fun x h => takeP c p b many h0 w h := by
  rw [x_ix x.pen (by decide) rfl]
  simp only [↓x_mod]
  refine ⟨m0, ?_⟩
  rw [x_ix x.pen (by decide) rfl]
  simp only [↓x_div]
  refine ⟨⟨m0, m1⟩, ?_⟩
  rw [x_set x.pen (by decide) (by simp)]
  have q := mod_lt (a := l) m0
  exact ⟨_, rfl, q.1, q.2, fr.trans (Fr.set (IH.get_lt x.pen)), a, l / many, cs, x.set, a0, a1, Int.ediv_nonneg l0 (by omega)⟩
theorem take_mid {Φ : FT} (H : SpO Φ) {p c : Nat} {b many a l cell : Int} {cs : List Int} {h0 h' : IH} (m0 : 0 < many) (m1 : many < 1073741824) (x : PenAt h' p c a l cs) (a0 : 0 ≤ a) (a1 : a ≤ b) (hb : b < 999999) (fr : Fr p h0 h') :
    (oSet (.loc p) (.int 1) (.int (a + 1)) h').Wp fun x h => (Φ 22 [.int cell, .int a] h).Wp fun w h => (oSet (.loc p) (.int 2) w h).Wp fun x h => (oIx (.loc p) (.int 2) h).Wp fun x h => (oMod x (.int many) h).Wp fun w h => (oIx (.loc p) (.int 2) h).Wp fun x h => (oDiv x (.int many) h).Wp fun w_1 h => (oSet (.loc p) (.int 2) w_1 h).Wp fun x h => takeP c p b many h0 w h := by
  rw [x_set x.pen (by decide) (by simp)]
  have x1 : PenAt (h'.set p (.lst ([W.loc c, .int a, .int l].set (Int.toNat 1) (.int (a + 1))))) p c (a + 1) l cs := x.set
  refine (H cell a _ a0 (by omega)).mono fun w h2 ⟨v, e, v0, k⟩ => ?_
  subst e
  have x2 := x1.keep k
  rw [x_set x2.pen (by decide) (by simp)]
  have x3 : PenAt (h2.set p (.lst ([W.loc c, .int (a + 1), .int l].set (Int.toNat 2) (.int v)))) p c (a + 1) v cs := x2.set
  exact tk_tail m0 m1 x3 (by omega) (by omega) v0 (((fr.trans (Fr.set (IH.get_lt x.pen))).trans k.fr).trans (Fr.set (IH.get_lt x2.pen)))
theorem take_ok (Φ : FT) (H : SpO Φ) {c : Nat} (p : Nat) (b many : Int) (h : IH) (hp : Pen c h p b) (hb : b < 999999) (m0 : 0 < many) (m1 : many < 1073741824) : (callB (m24 Φ) 2 5 [.loc p, .int many] h).Wp (takeP c p b many h) := by
  obtain ⟨a, l, cs, x, a0, a1, l0⟩ := hp
  have hlt := IH.get_lt x.pen
  rw [x_callB (by rfl)]
  show (m24 _ [some (.loc p), some (.int many), none, none, none] h).Wp _
  unfold m24
  simp only [↓v0, ↓n0, ↓v1, ↓n1, ↓v2, ↓n2, ↓v3, ↓n3, ↓v4, ↓n4, ↓v5, ↓n5, ↓v6, ↓n6, ↓v7, ↓n7, ↓v8, ↓n8, ↓v9, ↓n9, ↓v10, ↓n10, ↓v11, ↓n11, ↓v12, ↓n12, ↓v13, ↓n13, ↓v14, ↓n14, ↓v15, ↓n15, ↓v16, ↓n16, ↓v17, ↓n17, ↓v18, ↓n18, ↓x_seq, ↓x_if, ↓x_next, ↓x_brk, ↓x_cont, ↓x_asg, ↓x_expr, ↓x_ret, ↓x_retN, ↓x_par2, ↓x_par3, ↓x_C, ↓x_e1, ↓x_e2, ↓x_nil, ↓x_cons, ↓x_eA, ↓x_call, ↓x_tup, ↓x_lst, ↓x_eIf, ↓x_mt, ↓x_sl, ↓x_none, ↓x_some, ↓x_bol, ↓x_bolW, ↓x_tru, ↓x_not, ↓x_and, ↓x_or, ↓x_yes, ↓x_sb, ↓x_add, ↓x_sub, ↓x_mul, ↓x_mod, ↓x_div, ↓x_pow, ↓x_lt, ↓x_le, ↓x_gt, ↓x_ge, ↓x_eqI, ↓x_neI, ↓x_lenT, ↓x_int]
  rw [x_ix x.pen (by decide) rfl]
  simp only [↓x_lt, ↓x_bolW]
  refine ⟨fun _ => ?_, fun _ => tk_tail m0 m1 x a0 (by omega) l0 Fr.refl⟩
  rw [x_ix x.pen (by decide) rfl, x_ix x.pen (by decide) rfl, x_lenL x.cells]
  simp only [↓x_lt, ↓x_bolW]
  rw [List.length_map]
  refine ⟨fun q => ?_, fun q => ?_⟩
  · have q := of_decide_eq_true q
    rw [x_ix x.pen (by decide) rfl]
    refine ix_wp x.cells a0 (by rw [List.length_map]; exact q) fun w hw => ?_
    rw [List.getElem?_map] at hw
    obtain ⟨v, _, e⟩ := Option.map_eq_some_iff.mp hw
    subst e
    simp only [↓x_add]
    exact take_mid H m0 m1 x a0 a1 hb Fr.refl
  · rw [x_ix x.pen (by decide) rfl, x_lenL x.cells]
    simp only [↓x_gt, ↓x_bolW]
    rw [List.length_map]
    refine ⟨fun z => ?_, fun z => ?_⟩
    · have z := of_decide_eq_true z
      rw [x_ix x.pen (by decide) rfl]
      simp only [↓x_mul, ↓x_add]
      refine ⟨by rw [pow64 a0 (by omega)]; rfl, ?_⟩
      rw [x_ix x.pen (by decide) rfl, x_lenL x.cells, List.length_map]
      simp only [↓x_mod]
      refine ⟨z, ?_⟩
      have i1 := mod_lt (a := a * 5 + 3) z
      refine ix_wp x.cells i1.1 (by rw [List.length_map]; exact i1.2) fun w hw => ?_
      rw [List.getElem?_map] at hw
      obtain ⟨v, _, e⟩ := Option.map_eq_some_iff.mp hw
      subst e
      simp only [↓x_add, ↓x_mod]
      have t : (0 : Int) < 10 ^ Int.toNat 17 := by decide
      exact ⟨⟨by decide, by decide⟩, by omega, take_mid H m0 m1 x a0 a1 hb Fr.refl⟩
    · simp only [↓x_add]
      exact take_mid H m0 m1 x a0 a1 hb Fr.refl
def TkO (Φ : FT) : Prop := ∀ {c : Nat} (p : Nat) (b many : Int) (h : IH), Pen c h p b → b < 999999 → 0 < many → many < 1073741824 → (Φ 24 [.loc p, .int many] h).Wp (takeP c p b many h)
theorem phSp (k : Nat) : SpO (Phi gk tab (k + 1)) := fun cell a h h0 h1 => by rw [phi22]; exact spread_ok _ cell a h h0 h1
theorem phTk (k : Nat) : TkO (Phi gk tab (k + 2)) := fun {c} p b many h hp hb m0 m1 => by rw [phi24]; exact take_ok _ (phSp k) p b many h hp hb m0 m1
theorem open_ok (Φ : FT) (ns : List Int) (h : IH) : (callB (m23 Φ) 1 4 [.ro (ns.map .int)] h).Wp fun w h' => ∃ p c : Nat, w = .loc p ∧ Pen c h' p 0 := by
  rw [x_callB (by rfl)]
  show (m23 _ [some (.ro (ns.map .int)), none, none, none] h).Wp _
  unfold m23
  obtain ⟨l1, l2⟩ := cut_lens (ws := ns.map W.int)
  have mi : ∀ {lo hi : Option Int}, ∀ x ∈ cutW (ns.map W.int) lo hi, ∃ i : Int, x = .int i := fun x hx => by
    obtain ⟨i, _, e⟩ := List.mem_map.mp (cut_mem hx)
    exact ⟨i, e.symm⟩
  obtain ⟨cs, ecs⟩ := ints_map (mi (lo := none) (hi := some 12))
  rw [x_seq]
  simp only [↓x_asg, ↓x_eA, ↓x_cons, ↓x_nil, ↓x_sl, ↓v0, ↓x_none, ↓x_some, ↓x_slR]
  rw [x_list (IH.get_new_self h _), n1, ecs]
  rw [ecs, List.length_map] at l1
  generalize hh : (h.new (.lst (cs.map W.int))).new (.lst (cs.map W.int)) = h1
  have g1 : h1.get (h.new (.lst (cs.map W.int))).n = some (.lst (cs.map W.int)) := by rw [← hh]; exact IH.get_new_self _ _
  generalize (h.new (.lst (cs.map W.int))).n = c at g1
  have cl := IH.get_lt g1
  try dsimp only
  rw [x_seq]
  refine for_enuL ?_
  simp only [↓x_sl, ↓v0, ↓x_some, ↓x_slR]
  have k1 : Keep h1 (h1.new (.lst (cutW (ns.map W.int) (some 12) (some 63)))) := Keep.new
  refine ⟨h1.n, _, rfl, IH.get_new_self h1 _, fun i e h2 => ∃ (cs2 : List Int) (u v : Option W), e = [some (.ro (ns.map .int)), some (.loc c), u, v] ∧ h2.get c = some (.lst (cs2.map .int)) ∧ cs2.length = cs.length ∧ h2.get h1.n = some (.lst (cutW (ns.map W.int) (some 12) (some 63))),
    ⟨cs, _, _, rfl, (k1.2 c cl).trans g1, rfl, IH.get_new_self h1 _⟩, ?_, ?_⟩
  · rintro i e h2 y ⟨cs2, u, v, rfl, g2, e2, gl⟩ hy
    obtain ⟨z, ez⟩ := mi y (List.mem_of_getElem? hy)
    subst ez
    have il := (List.getElem?_eq_some_iff.mp hy).1
    rw [l2] at il
    refine ⟨gl, ?_⟩
    simp only [↓x_tp, ↓x_gs0, ↓x_gs1, ↓v0, ↓n0, ↓v1, ↓n1, ↓v2, ↓n2, ↓v3, ↓n3, ↓v4, ↓n4, ↓v5, ↓n5, ↓v6, ↓n6, ↓v7, ↓n7, ↓v8, ↓n8, ↓v9, ↓n9, ↓v10, ↓n10, ↓v11, ↓n11, ↓v12, ↓n12, ↓v13, ↓n13, ↓v14, ↓n14, ↓v15, ↓n15, ↓v16, ↓n16, ↓v17, ↓n17, ↓v18, ↓n18, ↓x_seq, ↓x_if, ↓x_next, ↓x_brk, ↓x_cont, ↓x_asg, ↓x_expr, ↓x_ret, ↓x_retN, ↓x_par2, ↓x_par3, ↓x_C, ↓x_e1, ↓x_e2, ↓x_nil, ↓x_cons, ↓x_eA, ↓x_call, ↓x_tup, ↓x_lst, ↓x_eIf, ↓x_mt, ↓x_sl, ↓x_none, ↓x_some, ↓x_bol, ↓x_bolW, ↓x_tru, ↓x_not, ↓x_and, ↓x_or, ↓x_yes, ↓x_sb, ↓x_add, ↓x_sub, ↓x_mul, ↓x_mod, ↓x_div, ↓x_pow, ↓x_lt, ↓x_le, ↓x_gt, ↓x_ge, ↓x_eqI, ↓x_neI, ↓x_lenT, ↓x_int]
    have q := mod_lt (a := (i : Int)) (b := 12) (by decide)
    rw [List.length_map] at l1 il
    have c12 : cs.length = 12 := by omega
    refine ⟨by rfl, by decide, ?_⟩
    refine ix_wp g2 q.1 (by rw [List.length_map]; omega) fun w hw => ?_
    rw [List.getElem?_map] at hw
    obtain ⟨x, _, ex⟩ := Option.map_eq_some_iff.mp hw
    subst ex
    simp only [↓x_add, ↓x_mod]
    refine ⟨by decide, ?_⟩
    rw [x_set g2 q.1 (by rw [List.length_map]; omega)]
    have c2l := IH.get_lt g2
    refine ⟨cs2.set ((i : Int) % 12).toNat (x + z), _, _, rfl, by rw [IH.get_set _ _ _ _ c2l, if_pos rfl, List.map_set], by rw [List.length_set]; exact e2, by rw [IH.get_set _ _ _ _ c2l, if_neg (by omega)]; exact gl⟩
  · rintro e h2 ⟨cs2, u, v, rfl, g2, e2, gl⟩
    refine ⟨gl, ?_⟩
    simp only [↓v0, ↓n0, ↓v1, ↓n1, ↓v2, ↓n2, ↓v3, ↓n3, ↓v4, ↓n4, ↓v5, ↓n5, ↓v6, ↓n6, ↓v7, ↓n7, ↓v8, ↓n8, ↓v9, ↓n9, ↓v10, ↓n10, ↓v11, ↓n11, ↓v12, ↓n12, ↓v13, ↓n13, ↓v14, ↓n14, ↓v15, ↓n15, ↓v16, ↓n16, ↓v17, ↓n17, ↓v18, ↓n18, ↓x_seq, ↓x_if, ↓x_next, ↓x_brk, ↓x_cont, ↓x_asg, ↓x_expr, ↓x_ret, ↓x_retN, ↓x_par2, ↓x_par3, ↓x_C, ↓x_e1, ↓x_e2, ↓x_nil, ↓x_cons, ↓x_eA, ↓x_call, ↓x_tup, ↓x_lst, ↓x_eIf, ↓x_mt, ↓x_sl, ↓x_none, ↓x_some, ↓x_bol, ↓x_bolW, ↓x_tru, ↓x_not, ↓x_and, ↓x_or, ↓x_yes, ↓x_sb, ↓x_add, ↓x_sub, ↓x_mul, ↓x_mod, ↓x_div, ↓x_pow, ↓x_lt, ↓x_le, ↓x_gt, ↓x_ge, ↓x_eqI, ↓x_neI, ↓x_lenT, ↓x_int]
    refine ⟨by rfl, h2.n, c, rfl, 0, 0, cs2, ⟨IH.get_new_self h2 _, by rw [IH.get_new, if_neg (by have := IH.get_lt g2; omega)]; exact g2, by have := IH.get_lt g2; omega⟩, by omega, by omega, by omega⟩
end K25


set_option linter.all false
set_option linter.unusedSimpArgs false
set_option maxRecDepth 100000
set_option maxHeartbeats 1000000
namespace K25
open PySem Fw
/-- one of some: of a tuple, of a list -/
theorem pickT_ok (Φ : FT) (H : TkO Φ) {c : Nat} (p : Nat) (b : Int) (ws : List W) (h : IH) (hp : Pen c h p b) (hb : b < 999999) (m0 : ws ≠ []) (m1 : ws.length < 1000) : (callB (m25 Φ) 2 2 [.loc p, .tup ws] h).Wp fun w h' => w ∈ ws ∧ Fr p h h' ∧ Pen c h' p (b + 1) := by
  rw [x_callB (by rfl)]
  show (m25 _ [some (.loc p), some (.tup ws)] h).Wp _
  unfold m25
  simp only [↓v0, ↓n0, ↓v1, ↓n1, ↓v2, ↓n2, ↓v3, ↓n3, ↓v4, ↓n4, ↓v5, ↓n5, ↓v6, ↓n6, ↓v7, ↓n7, ↓v8, ↓n8, ↓v9, ↓n9, ↓v10, ↓n10, ↓v11, ↓n11, ↓v12, ↓n12, ↓v13, ↓n13, ↓v14, ↓n14, ↓v15, ↓n15, ↓v16, ↓n16, ↓v17, ↓n17, ↓v18, ↓n18, ↓x_seq, ↓x_if, ↓x_next, ↓x_brk, ↓x_cont, ↓x_asg, ↓x_expr, ↓x_ret, ↓x_retN, ↓x_par2, ↓x_par3, ↓x_C, ↓x_e1, ↓x_e2, ↓x_nil, ↓x_cons, ↓x_eA, ↓x_call, ↓x_tup, ↓x_lst, ↓x_eIf, ↓x_mt, ↓x_sl, ↓x_none, ↓x_some, ↓x_bol, ↓x_bolW, ↓x_tru, ↓x_not, ↓x_and, ↓x_or, ↓x_yes, ↓x_sb, ↓x_add, ↓x_sub, ↓x_mul, ↓x_mod, ↓x_div, ↓x_pow, ↓x_lt, ↓x_le, ↓x_gt, ↓x_ge, ↓x_eqI, ↓x_neI, ↓x_lenT, ↓x_int]
  have hl : 0 < ws.length := List.length_pos_iff.mpr m0
  refine (H p b ws.length h hp hb (by omega) (by omega)).mono fun w h' ⟨v, e, v0, v1, fr, pn⟩ => ?_
  subst e
  have hw : ws[v.toNat]? = some ws[v.toNat] := List.getElem?_eq_getElem (by omega)
  rw [x_ixT v0 hw]
  exact ⟨List.mem_of_getElem? hw, fr, pn⟩
theorem pickL_ok (Φ : FT) (H : TkO Φ) {c : Nat} (p q : Nat) (b : Int) (ws : List W) (h : IH) (hp : Pen c h p b) (hq : h.get q = some (.lst ws)) (ne : q ≠ p) (hb : b < 999999) (m0 : ws ≠ []) (m1 : ws.length < 1000) : (callB (m25 Φ) 2 2 [.loc p, .loc q] h).Wp fun w h' => w ∈ ws ∧ Fr p h h' ∧ Pen c h' p (b + 1) := by
  rw [x_callB (by rfl)]
  show (m25 _ [some (.loc p), some (.loc q)] h).Wp _
  unfold m25
  simp only [↓v0, ↓n0, ↓v1, ↓n1, ↓v2, ↓n2, ↓v3, ↓n3, ↓v4, ↓n4, ↓v5, ↓n5, ↓v6, ↓n6, ↓v7, ↓n7, ↓v8, ↓n8, ↓v9, ↓n9, ↓v10, ↓n10, ↓v11, ↓n11, ↓v12, ↓n12, ↓v13, ↓n13, ↓v14, ↓n14, ↓v15, ↓n15, ↓v16, ↓n16, ↓v17, ↓n17, ↓v18, ↓n18, ↓x_seq, ↓x_if, ↓x_next, ↓x_brk, ↓x_cont, ↓x_asg, ↓x_expr, ↓x_ret, ↓x_retN, ↓x_par2, ↓x_par3, ↓x_C, ↓x_e1, ↓x_e2, ↓x_nil, ↓x_cons, ↓x_eA, ↓x_call, ↓x_tup, ↓x_lst, ↓x_eIf, ↓x_mt, ↓x_sl, ↓x_none, ↓x_some, ↓x_bol, ↓x_bolW, ↓x_tru, ↓x_not, ↓x_and, ↓x_or, ↓x_yes, ↓x_sb, ↓x_add, ↓x_sub, ↓x_mul, ↓x_mod, ↓x_div, ↓x_pow, ↓x_lt, ↓x_le, ↓x_gt, ↓x_ge, ↓x_eqI, ↓x_neI, ↓x_lenT, ↓x_int]
  have hl : 0 < ws.length := List.length_pos_iff.mpr m0
  rw [x_lenL hq]
  refine (H p b ws.length h hp hb (by omega) (by omega)).mono fun w h' ⟨v, e, v0, v1, fr, pn⟩ => ?_
  subst e
  have hw : ws[v.toNat]? = some ws[v.toNat] := List.getElem?_eq_getElem (by omega)
  rw [x_ix ((fr.2 q (IH.get_lt hq) ne).trans hq) v0 hw]
  exact ⟨List.mem_of_getElem? hw, fr, pn⟩
def slot (i : Int) : Prop := 0 ≤ i ∧ i ≤ 2
def FieldOk (cs : List Int) (u f : Int) : Prop := 0 ≤ u ∧ ∃ n, cs[u.toNat]? = some n ∧ 0 ≤ f ∧ f < n
/-- what may stand in any body; cs: each unit's fields -/
inductive Ins (cs : List Int) : W → Prop
  | fail : Ins cs (.tup [.str "fail"])
  | num {s v : Int} : slot s → 0 ≤ v → v ≤ 65535 → Ins cs (.tup [.str "number", .int s, .int v])
  | copy {s t : Int} : slot s → slot t → Ins cs (.tup [.str "copy", .int s, .int t])
  | add {s v : Int} : slot s → 0 ≤ v → v ≤ 65535 → Ins cs (.tup [.str "add", .int s, .int v])
  | read {s u f : Int} : slot s → FieldOk cs u f → Ins cs (.tup [.str "read", .int s, .int u, .int f])
  | write {s u f : Int} : slot s → FieldOk cs u f → Ins cs (.tup [.str "write", .int u, .int f, .int s])
def Fields (cs : List Int) (fs : List W) : Prop := ∀ x ∈ fs, ∃ u f : Int, x = .tup [.int u, .int f] ∧ FieldOk cs u f
theorem fields_pur {cs : List Int} : ∀ {fs : List W}, Fields cs fs → purs fs = true ∧ PyData.depthAll (pds fs) ≤ 1
  | [], _ => ⟨rfl, by decide⟩
  | x :: fs, H => by
    obtain ⟨u, f, e, _⟩ := H x List.mem_cons_self
    subst e
    obtain ⟨h1, h2⟩ := fields_pur (fs := fs) fun y hy => H y (List.mem_cons_of_mem _ hy)
    refine ⟨by show (pur _ && purs fs) = true; rw [h1]; rfl, ?_⟩
    show max 1 (PyData.depthAll (pds fs)) ≤ 1
    omega
def PkO (Φ : FT) : Prop := ∀ {c : Nat} (p q : Nat) (b : Int) (ws : List W) (h : IH), Pen c h p b → h.get q = some (.lst ws) → q ≠ p → b < 999999 → ws ≠ [] → ws.length < 1000 → (Φ 25 [.loc p, .loc q] h).Wp fun w h' => w ∈ ws ∧ Fr p h h' ∧ Pen c h' p (b + 1)
def strP (c : Nat) (cs : List Int) (p : Nat) (b : Int) (h0 : IH) (w : W) (h' : IH) : Prop := Ins cs w ∧ Fr p h0 h' ∧ Pen c h' p (b + 8)
/-- one of three that name no field -/
theorem three_ok {Φ : FT} (H : TkO Φ) (H2 : PkO Φ) {c p : Nat} {b s t : Int} {cs : List Int} {h0 h3 : IH} (hb : b < 900000) (hs : slot s) (ht : slot t) (f3 : Fr p h0 h3) (p3 : Pen c h3 p (b + 4)) :
    (Φ 24 [.loc p, .int 9] h3).Wp fun w_4 h => lenOk [W.str "number", .int s, w_4].length = true ∧ lenOk [W.str "copy", .int s, .int t].length = true ∧ (Φ 24 [.loc p, .int 3] h).Wp fun y h => (oSub (.int 65535) y h).Wp fun w_5 h => lenOk [W.str "add", .int s, w_5].length = true ∧
      lenOk [W.tup [.str "number", .int s, w_4], .tup [.str "copy", .int s, .int t], .tup [.str "add", .int s, w_5]].length = true ∧ (Φ 25 [.loc p, .loc h.n] (h.new (.lst [W.tup [.str "number", .int s, w_4], .tup [.str "copy", .int s, .int t], .tup [.str "add", .int s, w_5]]))).Wp (strP c cs p b h0) := by
  refine (H p (b + 4) 9 h3 p3 (by omega) (by omega) (by omega)).mono fun w4 h4 ⟨v, e4, v0, v1, f4, p4⟩ => ?_
  refine ⟨by rfl, by rfl, (H p (b + 4 + 1) 3 h4 p4 (by omega) (by omega) (by omega)).mono fun w5 h5 ⟨y, e5, y0, y1, f5, p5⟩ => ?_⟩
  subst e4; subst e5
  simp only [↓x_sub]
  refine ⟨by rfl, by rfl, ?_⟩
  have k : Keep h5 (h5.new (.lst [W.tup [.str "number", .int s, .int v], .tup [.str "copy", .int s, .int t], .tup [.str "add", .int s, .int (65535 - y)]])) := Keep.new
  refine (H2 p h5.n (b + 4 + 1 + 1) _ _ (p5.keep k) (IH.get_new_self h5 _) (Nat.ne_of_gt p5.lt) (by omega) (by simp) (by simp)).mono fun w h6 ⟨m, f6, p6⟩ => ⟨?_, (((f3.trans f4).trans f5).trans k.fr).trans f6, p6.mono (by omega)⟩
  simp only [List.mem_cons, List.not_mem_nil, or_false] at m
  rcases m with e | e | e <;> subst e
  · exact .num hs v0 (by omega)
  · exact .copy hs ht
  · exact .add hs (by omega) (by omega)
theorem straight_ok (Φ : FT) (H : TkO Φ) (H2 : PkO Φ) {c : Nat} (p q : Nat) (b often : Int) (cs : List Int) (fs : List W) (h : IH) (hp : Pen c h p b) (hq : h.get q = some (.lst fs)) (ne : q ≠ p) (hf : Fields cs fs) (hl : fs.length < 1000) (hb : b < 900000) (o0 : 0 < often) (o1 : often < 1000) :
    (callB (m26 Φ) 3 9 [.loc p, .loc q, .int often] h).Wp (strP c cs p b h) := by
  rw [x_callB (by rfl)]
  show (m26 _ [some (.loc p), some (.loc q), some (.int often), none, none, none, none, none, none] h).Wp _
  unfold m26
  refine seq_cut (fun (e : Fw.Env) h' => ∃ s t u : Int, slot s ∧ slot t ∧ 0 ≤ u ∧ e = [some (.loc p), some (.loc q), some (.int often), some (.int s), some (.int t), some (.int u), none, none, none] ∧ Fr p h h' ∧ Pen c h' p (b + 3)) ?_ ?_
  · simp only [↓v0, ↓n0, ↓v1, ↓n1, ↓v2, ↓n2, ↓v3, ↓n3, ↓v4, ↓n4, ↓v5, ↓n5, ↓v6, ↓n6, ↓v7, ↓n7, ↓v8, ↓n8, ↓v9, ↓n9, ↓v10, ↓n10, ↓v11, ↓n11, ↓v12, ↓n12, ↓v13, ↓n13, ↓v14, ↓n14, ↓v15, ↓n15, ↓v16, ↓n16, ↓v17, ↓n17, ↓v18, ↓n18, ↓x_seq, ↓x_if, ↓x_next, ↓x_brk, ↓x_cont, ↓x_asg, ↓x_expr, ↓x_ret, ↓x_retN, ↓x_par2, ↓x_par3, ↓x_C, ↓x_e1, ↓x_e2, ↓x_nil, ↓x_cons, ↓x_eA, ↓x_call, ↓x_tup, ↓x_lst, ↓x_eIf, ↓x_mt, ↓x_sl, ↓x_none, ↓x_some, ↓x_bol, ↓x_bolW, ↓x_tru, ↓x_not, ↓x_and, ↓x_or, ↓x_yes, ↓x_sb, ↓x_add, ↓x_sub, ↓x_mul, ↓x_mod, ↓x_div, ↓x_pow, ↓x_lt, ↓x_le, ↓x_gt, ↓x_ge, ↓x_eqI, ↓x_neI, ↓x_lenT, ↓x_int]
    refine (H p b 3 h hp (by omega) (by omega) (by omega)).mono fun w1 h1 ⟨s, e1, s0, s1, f1, p1⟩ => ?_
    refine (H p (b + 1) 3 h1 p1 (by omega) (by omega) (by omega)).mono fun w2 h2 ⟨t, e2, t0, t1, f2, p2⟩ => ?_
    refine (H p (b + 1 + 1) 12 h2 p2 (by omega) (by omega) (by omega)).mono fun w3 h3 ⟨u, e3, u0, u1, f3, p3⟩ => ?_
    subst e1; subst e2; subst e3
    exact ⟨s, t, u, ⟨s0, by omega⟩, ⟨t0, by omega⟩, u0, rfl, (f1.trans f2).trans f3, p3.mono (by omega)⟩
  · rintro e h1 ⟨s, t, u, hs, ht, u0, rfl, f1, p1⟩
    refine seq_cut (fun (e : Fw.Env) h' => e = [some (.loc p), some (.loc q), some (.int often), some (.int s), some (.int t), some (.int u), none, none, none] ∧ Fr p h h' ∧ Pen c h' p (b + 4)) ?_ ?_
    · simp only [↓v0, ↓n0, ↓v1, ↓n1, ↓v2, ↓n2, ↓v3, ↓n3, ↓v4, ↓n4, ↓v5, ↓n5, ↓v6, ↓n6, ↓v7, ↓n7, ↓v8, ↓n8, ↓v9, ↓n9, ↓v10, ↓n10, ↓v11, ↓n11, ↓v12, ↓n12, ↓v13, ↓n13, ↓v14, ↓n14, ↓v15, ↓n15, ↓v16, ↓n16, ↓v17, ↓n17, ↓v18, ↓n18, ↓x_seq, ↓x_if, ↓x_next, ↓x_brk, ↓x_cont, ↓x_asg, ↓x_expr, ↓x_ret, ↓x_retN, ↓x_par2, ↓x_par3, ↓x_C, ↓x_e1, ↓x_e2, ↓x_nil, ↓x_cons, ↓x_eA, ↓x_call, ↓x_tup, ↓x_lst, ↓x_eIf, ↓x_mt, ↓x_sl, ↓x_none, ↓x_some, ↓x_bol, ↓x_bolW, ↓x_tru, ↓x_not, ↓x_and, ↓x_or, ↓x_yes, ↓x_sb, ↓x_add, ↓x_sub, ↓x_mul, ↓x_mod, ↓x_div, ↓x_pow, ↓x_lt, ↓x_le, ↓x_gt, ↓x_ge, ↓x_eqI, ↓x_neI, ↓x_lenT, ↓x_int]
      refine ⟨fun _ => ?_, fun _ => ⟨fun z => Bool.noConfusion z, fun _ => ⟨trivial, f1, p1.mono (by omega)⟩⟩⟩
      refine (H p (b + 3) often h1 p1 (by omega) o0 (by omega)).mono fun w h2 ⟨v, e, v0, v1, f2, p2⟩ => ?_
      subst e
      simp only [↓x_eqI, ↓x_bolW]
      exact ⟨fun _ => ⟨by decide, .fail, f1.trans f2, p2.mono (by omega)⟩, fun _ => ⟨trivial, f1.trans f2, p2.mono (by omega)⟩⟩
    · rintro e h2 ⟨rfl, f2, p2⟩
      have hq2 : h2.get q = some (.lst fs) := (f2.2 q (IH.get_lt hq) ne).trans hq
      have rest : ∀ h3, Fr p h h3 → Pen c h3 p (b + 4) → h3.get q = some (.lst fs) → fs ≠ [] → (sSeq (sAsg (eCall Φ 25 (aCons (eVar 0) (aCons (eVar 1) aNil))) (gTp [(gNm 7), (gNm 8)]))
          (sSeq (sRet (eIf (tBol (e2 oLt (eVar 5) (eC (.int 9)))) (eTup (aCons (eC (.str "read")) (aCons (eVar 3) (aCons (eVar 7) (aCons (eVar 8) aNil))))) (eTup (aCons (eC (.str "write")) (aCons (eVar 7) (aCons (eVar 8) (aCons (eVar 3) aNil))))))) sNext)
          [some (.loc p), some (.loc q), some (.int often), some (.int s), some (.int t), some (.int u), none, none, none] h3).Wp ⟨fun _ h' => strP c cs p b h .non h', strP c cs p b h, fun _ _ => False, fun _ _ => False⟩ := by
        intro h3 f3 p3 g3 nn
        simp only [↓v0, ↓n0, ↓v1, ↓n1, ↓v2, ↓n2, ↓v3, ↓n3, ↓v4, ↓n4, ↓v5, ↓n5, ↓v6, ↓n6, ↓v7, ↓n7, ↓v8, ↓n8, ↓v9, ↓n9, ↓v10, ↓n10, ↓v11, ↓n11, ↓v12, ↓n12, ↓v13, ↓n13, ↓v14, ↓n14, ↓v15, ↓n15, ↓v16, ↓n16, ↓v17, ↓n17, ↓v18, ↓n18, ↓x_seq, ↓x_if, ↓x_next, ↓x_brk, ↓x_cont, ↓x_asg, ↓x_expr, ↓x_ret, ↓x_retN, ↓x_par2, ↓x_par3, ↓x_C, ↓x_e1, ↓x_e2, ↓x_nil, ↓x_cons, ↓x_eA, ↓x_call, ↓x_tup, ↓x_lst, ↓x_eIf, ↓x_mt, ↓x_sl, ↓x_none, ↓x_some, ↓x_bol, ↓x_bolW, ↓x_tru, ↓x_not, ↓x_and, ↓x_or, ↓x_yes, ↓x_sb, ↓x_add, ↓x_sub, ↓x_mul, ↓x_mod, ↓x_div, ↓x_pow, ↓x_lt, ↓x_le, ↓x_gt, ↓x_ge, ↓x_eqI, ↓x_neI, ↓x_lenT, ↓x_int]
        refine (H2 p q (b + 4) fs h3 p3 g3 ne (by omega) nn hl).mono fun w h4 ⟨m, f4, p4⟩ => ?_
        obtain ⟨un, fi, e, ok⟩ := hf w m
        subst e
        simp only [↓x_tp, ↓x_gs0, ↓x_gs1, ↓v0, ↓n0, ↓v1, ↓n1, ↓v2, ↓n2, ↓v3, ↓n3, ↓v4, ↓n4, ↓v5, ↓n5, ↓v6, ↓n6, ↓v7, ↓n7, ↓v8, ↓n8, ↓v9, ↓n9, ↓v10, ↓n10, ↓v11, ↓n11, ↓v12, ↓n12, ↓v13, ↓n13, ↓v14, ↓n14, ↓v15, ↓n15, ↓v16, ↓n16, ↓v17, ↓n17, ↓v18, ↓n18, ↓x_seq, ↓x_if, ↓x_next, ↓x_brk, ↓x_cont, ↓x_asg, ↓x_expr, ↓x_ret, ↓x_retN, ↓x_par2, ↓x_par3, ↓x_C, ↓x_e1, ↓x_e2, ↓x_nil, ↓x_cons, ↓x_eA, ↓x_call, ↓x_tup, ↓x_lst, ↓x_eIf, ↓x_mt, ↓x_sl, ↓x_none, ↓x_some, ↓x_bol, ↓x_bolW, ↓x_tru, ↓x_not, ↓x_and, ↓x_or, ↓x_yes, ↓x_sb, ↓x_add, ↓x_sub, ↓x_mul, ↓x_mod, ↓x_div, ↓x_pow, ↓x_lt, ↓x_le, ↓x_gt, ↓x_ge, ↓x_eqI, ↓x_neI, ↓x_lenT, ↓x_int]
        refine ⟨by rfl, ?_⟩
        exact ⟨fun _ => ⟨by rfl, .read hs ok, f3.trans f4, p4.mono (by omega)⟩, fun _ => ⟨by rfl, .write hs ok, f3.trans f4, p4.mono (by omega)⟩⟩
      refine seq_cut (fun (e : Fw.Env) h' => e = [some (.loc p), some (.loc q), some (.int often), some (.int s), some (.int t), some (.int u), none, none, none] ∧ Fr p h h' ∧ Pen c h' p (b + 4) ∧ h'.get q = some (.lst fs) ∧ fs ≠ []) ?_ ?_
      · simp only [↓v0, ↓n0, ↓v1, ↓n1, ↓v2, ↓n2, ↓v3, ↓n3, ↓v4, ↓n4, ↓v5, ↓n5, ↓v6, ↓n6, ↓v7, ↓n7, ↓v8, ↓n8, ↓v9, ↓n9, ↓v10, ↓n10, ↓v11, ↓n11, ↓v12, ↓n12, ↓v13, ↓n13, ↓v14, ↓n14, ↓v15, ↓n15, ↓v16, ↓n16, ↓v17, ↓n17, ↓v18, ↓n18, ↓x_seq, ↓x_if, ↓x_next, ↓x_brk, ↓x_cont, ↓x_asg, ↓x_expr, ↓x_ret, ↓x_retN, ↓x_par2, ↓x_par3, ↓x_C, ↓x_e1, ↓x_e2, ↓x_nil, ↓x_cons, ↓x_eA, ↓x_call, ↓x_tup, ↓x_lst, ↓x_eIf, ↓x_mt, ↓x_sl, ↓x_none, ↓x_some, ↓x_bol, ↓x_bolW, ↓x_tru, ↓x_not, ↓x_and, ↓x_or, ↓x_yes, ↓x_sb, ↓x_add, ↓x_sub, ↓x_mul, ↓x_mod, ↓x_div, ↓x_pow, ↓x_lt, ↓x_le, ↓x_gt, ↓x_ge, ↓x_eqI, ↓x_neI, ↓x_lenT, ↓x_int]
        refine ⟨fun _ => ⟨fun _ => three_ok H H2 hb hs ht f2 p2, fun z => by cases z⟩, fun _ => ⟨by rfl, ?_⟩⟩
        have k : Keep h2 (h2.new (.lst [])) := Keep.new
        have lq := IH.get_lt hq2
        obtain ⟨pf, df⟩ := fields_pur hf
        refine w_eqL (eqW_lst ((k.2 q lq).trans hq2) (IH.get_new_self h2 _) pf rfl (by omega) (by decide)) fun c hc => ?_
        simp only [↓x_bolW]
        refine ⟨fun _ => three_ok H H2 hb hs ht (f2.trans k.fr) (p2.keep k), fun z => ⟨trivial, f2.trans k.fr, p2.keep k, (k.2 q lq).trans hq2, fun e => ?_⟩⟩
        rw [hc.mpr e] at z
        cases z
      · rintro e h3 ⟨rfl, f3, p3, g3, nn⟩
        exact rest h3 f3 p3 g3 nn
def StO (Φ : FT) : Prop := ∀ {c : Nat} (p q : Nat) (b often : Int) (cs : List Int) (fs : List W) (h : IH), Pen c h p b → h.get q = some (.lst fs) → q ≠ p → Fields cs fs → fs.length < 1000 → b < 900000 → 0 < often → often < 1000 → (Φ 26 [.loc p, .loc q, .int often] h).Wp (strP c cs p b h)
theorem phPk (k : Nat) : PkO (Phi gk tab (k + 3)) := fun {c} p q b ws h hp hq ne hb m0 m1 => by rw [phi25]; exact pickL_ok _ (phTk k) p q b ws h hp hq ne hb m0 m1
theorem phSt (k : Nat) : StO (Phi gk tab (k + 4)) := fun {c} p q b often cs fs h hp hq ne hf hl hb o0 o1 => by rw [phi26]; exact straight_ok _ (phTk (k + 1)) (phPk k) p q b often cs fs h hp hq ne hf hl hb o0 o1
/-- what may stand at a place of a function's body -/
inductive Lin (cs : List Int) (nf number place many : Int) : W → Prop
  | ins {w : W} : Ins cs w → Lin cs nf number place many w
  | input {s : Int} : slot s → Lin cs nf number place many (.tup [.str "input", .int s])
  | show_ {s : Int} : slot s → Lin cs nf number place many (.tup [.str "show", .int s])
  | branch {t : Int} : 0 ≤ t → t ≤ many → Lin cs nf number place many (.tup [.str "branch", .int t])
  | call {g : Int} : number < g → g < nf → Lin cs nf number place many (.tup [.str "call", .int g])
  | wake {u t : Int} : 0 ≤ u → u < cs.length → place < t → t ≤ many → Lin cs nf number place many (.tup [.str "wake", .int u, .int t])
def linP (c : Nat) (cs : List Int) (nf number place many : Int) (p : Nat) (b : Int) (h0 : IH) (w : W) (h' : IH) : Prop := Lin cs nf number place many w ∧ Fr p h0 h' ∧ Pen c h' p (b + 12)
theorem line_ok (Φ : FT) (H : TkO Φ) (H2 : PkO Φ) (H3 : StO Φ) {c : Nat} (p q : Nat) (b number place many nf : Int) (cs : List Int) (fs : List W) (h : IH) (hp : Pen c h p b) (hq : h.get q = some (.lst fs)) (ne : q ≠ p) (hf : Fields cs fs) (hl : fs.length < 1000) (hb : b < 800000)
    (n0 : 0 ≤ number) (c0 : 0 ≤ place) (c1 : place < many) (c2 : many < 1000) (f0 : nf < 1000) (u0 : 0 < cs.length) (u1 : cs.length < 1000) :
    (callB (m27 Φ) 4 8 [.loc p, .loc q, .tup [.int number, .int place, .int many], .tup [.int cs.length, .int nf]] h).Wp (linP c cs nf number place many p b h) := by
  rw [x_callB (by rfl)]
  show (m27 _ [some (.loc p), some (.loc q), some (.tup [.int number, .int place, .int many]), some (.tup [.int cs.length, .int nf]), none, none, none, none] h).Wp _
  unfold m27
  let ev (y : Int) : Fw.Env := [some (.loc p), some (.loc q), some (.tup [.int number, .int place, .int many]), some (.tup [.int cs.length, .int nf]), some (.int number), some (.int place), some (.int many), some (.int y)]
  refine seq_cut (fun (e : Fw.Env) h' => h = h' ∧ e = [some (.loc p), some (.loc q), some (.tup [.int number, .int place, .int many]), some (.tup [.int cs.length, .int nf]), some (.int number), some (.int place), some (.int many), none]) ?_ ?_
  · simp only [↓x_tp, ↓x_gs0, ↓x_gs1, ↓v0, ↓n0, ↓v1, ↓n1, ↓v2, ↓n2, ↓v3, ↓n3, ↓v4, ↓n4, ↓v5, ↓n5, ↓v6, ↓n6, ↓v7, ↓n7, ↓v8, ↓n8, ↓v9, ↓n9, ↓v10, ↓n10, ↓v11, ↓n11, ↓v12, ↓n12, ↓v13, ↓n13, ↓v14, ↓n14, ↓v15, ↓n15, ↓v16, ↓n16, ↓v17, ↓n17, ↓v18, ↓n18, ↓x_seq, ↓x_if, ↓x_next, ↓x_brk, ↓x_cont, ↓x_asg, ↓x_expr, ↓x_ret, ↓x_retN, ↓x_par2, ↓x_par3, ↓x_C, ↓x_e1, ↓x_e2, ↓x_nil, ↓x_cons, ↓x_eA, ↓x_call, ↓x_tup, ↓x_lst, ↓x_eIf, ↓x_mt, ↓x_sl, ↓x_none, ↓x_some, ↓x_bol, ↓x_bolW, ↓x_tru, ↓x_not, ↓x_and, ↓x_or, ↓x_yes, ↓x_sb, ↓x_add, ↓x_sub, ↓x_mul, ↓x_mod, ↓x_div, ↓x_pow, ↓x_lt, ↓x_le, ↓x_gt, ↓x_ge, ↓x_eqI, ↓x_neI, ↓x_lenT, ↓x_int]
    exact ⟨by rfl, trivial, trivial⟩
  rintro e h' ⟨rfl, rfl⟩
  refine seq_cut (fun (e : Fw.Env) h' => ∃ y : Int, 0 ≤ y ∧ e = [some (.loc p), some (.loc q), some (.tup [.int number, .int place, .int many]), some (.tup [.int cs.length, .int nf]), some (.int number), some (.int place), some (.int many), some (.int y)] ∧ Fr p h h' ∧ Pen c h' p (b + 1)) ?_ ?_
  · simp only [↓v0, ↓n0, ↓v1, ↓n1, ↓v2, ↓n2, ↓v3, ↓n3, ↓v4, ↓n4, ↓v5, ↓n5, ↓v6, ↓n6, ↓v7, ↓n7, ↓v8, ↓n8, ↓v9, ↓n9, ↓v10, ↓n10, ↓v11, ↓n11, ↓v12, ↓n12, ↓v13, ↓n13, ↓v14, ↓n14, ↓v15, ↓n15, ↓v16, ↓n16, ↓v17, ↓n17, ↓v18, ↓n18, ↓x_seq, ↓x_if, ↓x_next, ↓x_brk, ↓x_cont, ↓x_asg, ↓x_expr, ↓x_ret, ↓x_retN, ↓x_par2, ↓x_par3, ↓x_C, ↓x_e1, ↓x_e2, ↓x_nil, ↓x_cons, ↓x_eA, ↓x_call, ↓x_tup, ↓x_lst, ↓x_eIf, ↓x_mt, ↓x_sl, ↓x_none, ↓x_some, ↓x_bol, ↓x_bolW, ↓x_tru, ↓x_not, ↓x_and, ↓x_or, ↓x_yes, ↓x_sb, ↓x_add, ↓x_sub, ↓x_mul, ↓x_mod, ↓x_div, ↓x_pow, ↓x_lt, ↓x_le, ↓x_gt, ↓x_ge, ↓x_eqI, ↓x_neI, ↓x_lenT, ↓x_int]
    refine (H p b 12 h hp (by omega) (by omega) (by omega)).mono fun w h1 ⟨y, e, y0, y1, f1, p1⟩ => ?_
    subst e
    exact ⟨y, y0, rfl, f1, p1⟩
  rintro e h1 ⟨y, y0, rfl, f1, p1⟩
  -- one of three that a function's body alone may hold
  refine seq_cut (fun (e : Fw.Env) h' => e = [some (.loc p), some (.loc q), some (.tup [.int number, .int place, .int many]), some (.tup [.int cs.length, .int nf]), some (.int number), some (.int place), some (.int many), some (.int y)] ∧ h1 = h') ?_ ?_
  · simp only [↓v0, ↓n0, ↓v1, ↓n1, ↓v2, ↓n2, ↓v3, ↓n3, ↓v4, ↓n4, ↓v5, ↓n5, ↓v6, ↓n6, ↓v7, ↓n7, ↓v8, ↓n8, ↓v9, ↓n9, ↓v10, ↓n10, ↓v11, ↓n11, ↓v12, ↓n12, ↓v13, ↓n13, ↓v14, ↓n14, ↓v15, ↓n15, ↓v16, ↓n16, ↓v17, ↓n17, ↓v18, ↓n18, ↓x_seq, ↓x_if, ↓x_next, ↓x_brk, ↓x_cont, ↓x_asg, ↓x_expr, ↓x_ret, ↓x_retN, ↓x_par2, ↓x_par3, ↓x_C, ↓x_e1, ↓x_e2, ↓x_nil, ↓x_cons, ↓x_eA, ↓x_call, ↓x_tup, ↓x_lst, ↓x_eIf, ↓x_mt, ↓x_sl, ↓x_none, ↓x_some, ↓x_bol, ↓x_bolW, ↓x_tru, ↓x_not, ↓x_and, ↓x_or, ↓x_yes, ↓x_sb, ↓x_add, ↓x_sub, ↓x_mul, ↓x_mod, ↓x_div, ↓x_pow, ↓x_lt, ↓x_le, ↓x_gt, ↓x_ge, ↓x_eqI, ↓x_neI, ↓x_lenT, ↓x_int]
    refine ⟨fun _ => ?_, fun _ => ⟨trivial, trivial⟩⟩
    refine (H p (b + 1) 3 h1 p1 (by omega) (by omega) (by omega)).mono fun w2 h2 ⟨v, e2, v0, v1, f2, p2⟩ => ?_
    subst e2
    refine ⟨by rfl, (H p (b + 1 + 1) 3 h2 p2 (by omega) (by omega) (by omega)).mono fun w3 h3 ⟨x, e3, x0, x1, f3, p3⟩ => ?_⟩
    subst e3
    refine ⟨by rfl, by rfl, by rfl, ?_⟩
    have k : Keep h3 (h3.new (.lst [W.tup [.str "input", .int v], .tup [.str "show", .int x], .tup [.str "branch", .int (place + 1)]])) := Keep.new
    refine (H2 p h3.n (b + 1 + 1 + 1) _ _ (p3.keep k) (IH.get_new_self h3 _) (Nat.ne_of_gt p3.lt) (by omega) (by simp) (by simp)).mono fun w h4 ⟨m, f4, p4⟩ => ⟨?_, (((f1.trans f2).trans f3).trans k.fr).trans f4, p4.mono (by omega)⟩
    simp only [List.mem_cons, List.not_mem_nil, or_false] at m
    rcases m with e | e | e <;> subst e
    · exact .input ⟨v0, by omega⟩
    · exact .show_ ⟨x0, by omega⟩
    · exact .branch (by omega) (by omega)
  rintro e h' ⟨rfl, rfl⟩
  refine seq_cut (fun (e : Fw.Env) h' => e = [some (.loc p), some (.loc q), some (.tup [.int number, .int place, .int many]), some (.tup [.int cs.length, .int nf]), some (.int number), some (.int place), some (.int many), some (.int y)] ∧ h1 = h') ?_ ?_
  · simp only [↓v0, ↓n0, ↓v1, ↓n1, ↓v2, ↓n2, ↓v3, ↓n3, ↓v4, ↓n4, ↓v5, ↓n5, ↓v6, ↓n6, ↓v7, ↓n7, ↓v8, ↓n8, ↓v9, ↓n9, ↓v10, ↓n10, ↓v11, ↓n11, ↓v12, ↓n12, ↓v13, ↓n13, ↓v14, ↓n14, ↓v15, ↓n15, ↓v16, ↓n16, ↓v17, ↓n17, ↓v18, ↓n18, ↓x_seq, ↓x_if, ↓x_next, ↓x_brk, ↓x_cont, ↓x_asg, ↓x_expr, ↓x_ret, ↓x_retN, ↓x_par2, ↓x_par3, ↓x_C, ↓x_e1, ↓x_e2, ↓x_nil, ↓x_cons, ↓x_eA, ↓x_call, ↓x_tup, ↓x_lst, ↓x_eIf, ↓x_mt, ↓x_sl, ↓x_none, ↓x_some, ↓x_bol, ↓x_bolW, ↓x_tru, ↓x_not, ↓x_and, ↓x_or, ↓x_yes, ↓x_sb, ↓x_add, ↓x_sub, ↓x_mul, ↓x_mod, ↓x_div, ↓x_pow, ↓x_lt, ↓x_le, ↓x_gt, ↓x_ge, ↓x_eqI, ↓x_neI, ↓x_lenT, ↓x_int]
    refine ⟨fun _ => ?_, fun _ => ⟨trivial, trivial⟩⟩
    refine (H p (b + 1) (many + 1) h1 p1 (by omega) (by omega) (by omega)).mono fun w2 h2 ⟨v, e2, v0, v1, f2, p2⟩ => ?_
    subst e2
    exact ⟨by rfl, .branch v0 (by omega), f1.trans f2, p2.mono (by omega)⟩
  rintro e h' ⟨rfl, rfl⟩
  refine seq_cut (fun (e : Fw.Env) h' => e = [some (.loc p), some (.loc q), some (.tup [.int number, .int place, .int many]), some (.tup [.int cs.length, .int nf]), some (.int number), some (.int place), some (.int many), some (.int y)] ∧ h1 = h') ?_ ?_
  · simp only [↓v0, ↓n0, ↓v1, ↓n1, ↓v2, ↓n2, ↓v3, ↓n3, ↓v4, ↓n4, ↓v5, ↓n5, ↓v6, ↓n6, ↓v7, ↓n7, ↓v8, ↓n8, ↓v9, ↓n9, ↓v10, ↓n10, ↓v11, ↓n11, ↓v12, ↓n12, ↓v13, ↓n13, ↓v14, ↓n14, ↓v15, ↓n15, ↓v16, ↓n16, ↓v17, ↓n17, ↓v18, ↓n18, ↓x_seq, ↓x_if, ↓x_next, ↓x_brk, ↓x_cont, ↓x_asg, ↓x_expr, ↓x_ret, ↓x_retN, ↓x_par2, ↓x_par3, ↓x_C, ↓x_e1, ↓x_e2, ↓x_nil, ↓x_cons, ↓x_eA, ↓x_call, ↓x_tup, ↓x_lst, ↓x_eIf, ↓x_mt, ↓x_sl, ↓x_none, ↓x_some, ↓x_bol, ↓x_bolW, ↓x_tru, ↓x_not, ↓x_and, ↓x_or, ↓x_yes, ↓x_sb, ↓x_add, ↓x_sub, ↓x_mul, ↓x_mod, ↓x_div, ↓x_pow, ↓x_lt, ↓x_le, ↓x_gt, ↓x_ge, ↓x_eqI, ↓x_neI, ↓x_lenT, ↓x_int]
    refine ⟨fun _ => ?_, fun _ => ⟨fun z => Bool.noConfusion z, fun _ => ⟨trivial, trivial⟩⟩⟩
    rw [x_ixT (by decide) (w := .int nf) rfl]
    simp only [↓x_lt, ↓x_bolW]
    refine ⟨fun z => ?_, fun _ => ⟨trivial, trivial⟩⟩
    have z := of_decide_eq_true z
    rw [x_ixT (by decide) (w := .int nf) rfl]
    simp only [↓x_sub]
    refine (H p (b + 1) (nf - number - 1) h1 p1 (by omega) (by omega) (by omega)).mono fun w2 h2 ⟨v, e2, v0, v1, f2, p2⟩ => ?_
    subst e2
    simp only [↓x_add]
    exact ⟨by rfl, .call (by omega) (by omega), f1.trans f2, p2.mono (by omega)⟩
  rintro e h' ⟨rfl, rfl⟩
  refine seq_cut (fun (e : Fw.Env) h' => e = [some (.loc p), some (.loc q), some (.tup [.int number, .int place, .int many]), some (.tup [.int cs.length, .int nf]), some (.int number), some (.int place), some (.int many), some (.int y)] ∧ h1 = h') ?_ ?_
  · simp only [↓v0, ↓n0, ↓v1, ↓n1, ↓v2, ↓n2, ↓v3, ↓n3, ↓v4, ↓n4, ↓v5, ↓n5, ↓v6, ↓n6, ↓v7, ↓n7, ↓v8, ↓n8, ↓v9, ↓n9, ↓v10, ↓n10, ↓v11, ↓n11, ↓v12, ↓n12, ↓v13, ↓n13, ↓v14, ↓n14, ↓v15, ↓n15, ↓v16, ↓n16, ↓v17, ↓n17, ↓v18, ↓n18, ↓x_seq, ↓x_if, ↓x_next, ↓x_brk, ↓x_cont, ↓x_asg, ↓x_expr, ↓x_ret, ↓x_retN, ↓x_par2, ↓x_par3, ↓x_C, ↓x_e1, ↓x_e2, ↓x_nil, ↓x_cons, ↓x_eA, ↓x_call, ↓x_tup, ↓x_lst, ↓x_eIf, ↓x_mt, ↓x_sl, ↓x_none, ↓x_some, ↓x_bol, ↓x_bolW, ↓x_tru, ↓x_not, ↓x_and, ↓x_or, ↓x_yes, ↓x_sb, ↓x_add, ↓x_sub, ↓x_mul, ↓x_mod, ↓x_div, ↓x_pow, ↓x_lt, ↓x_le, ↓x_gt, ↓x_ge, ↓x_eqI, ↓x_neI, ↓x_lenT, ↓x_int]
    refine ⟨fun _ => ?_, fun _ => ⟨trivial, trivial⟩⟩
    rw [x_ixT (by decide) (w := .int cs.length) rfl]
    refine (H p (b + 1) cs.length h1 p1 (by omega) (by omega) (by omega)).mono fun w2 h2 ⟨v, e2, v0, v1, f2, p2⟩ => ?_
    subst e2
    refine (H p (b + 1 + 1) (many - place) h2 p2 (by omega) (by omega) (by omega)).mono fun w3 h3 ⟨x, e3, x0, x1, f3, p3⟩ => ?_
    subst e3
    simp only [↓x_add]
    exact ⟨by rfl, .wake v0 v1 (by omega) (by omega), (f1.trans f2).trans f3, p3.mono (by omega)⟩
  rintro e h' ⟨rfl, rfl⟩
  simp only [↓v0, ↓n0, ↓v1, ↓n1, ↓v2, ↓n2, ↓v3, ↓n3, ↓v4, ↓n4, ↓v5, ↓n5, ↓v6, ↓n6, ↓v7, ↓n7, ↓v8, ↓n8, ↓v9, ↓n9, ↓v10, ↓n10, ↓v11, ↓n11, ↓v12, ↓n12, ↓v13, ↓n13, ↓v14, ↓n14, ↓v15, ↓n15, ↓v16, ↓n16, ↓v17, ↓n17, ↓v18, ↓n18, ↓x_seq, ↓x_if, ↓x_next, ↓x_brk, ↓x_cont, ↓x_asg, ↓x_expr, ↓x_ret, ↓x_retN, ↓x_par2, ↓x_par3, ↓x_C, ↓x_e1, ↓x_e2, ↓x_nil, ↓x_cons, ↓x_eA, ↓x_call, ↓x_tup, ↓x_lst, ↓x_eIf, ↓x_mt, ↓x_sl, ↓x_none, ↓x_some, ↓x_bol, ↓x_bolW, ↓x_tru, ↓x_not, ↓x_and, ↓x_or, ↓x_yes, ↓x_sb, ↓x_add, ↓x_sub, ↓x_mul, ↓x_mod, ↓x_div, ↓x_pow, ↓x_lt, ↓x_le, ↓x_gt, ↓x_ge, ↓x_eqI, ↓x_neI, ↓x_lenT, ↓x_int]
  exact (H3 p q (b + 1) 3 cs fs h1 p1 ((f1.2 q (IH.get_lt hq) ne).trans hq) ne hf hl (by omega) (by omega) (by omega)).mono fun w h2 ⟨i, f2, p2⟩ => ⟨.ins i, f1.trans f2, p2.mono (by omega)⟩
end K25

set_option linter.all false
set_option linter.unusedSimpArgs false
set_option maxRecDepth 100000
set_option maxHeartbeats 1000000
namespace K25
open PySem Fw
theorem phLn (k : Nat) {c : Nat} (p q : Nat) (b number place many nf : Int) (cs : List Int) (fs : List W) (h : IH) (hp : Pen c h p b) (hq : h.get q = some (.lst fs)) (ne : q ≠ p) (hf : Fields cs fs) (hl : fs.length < 1000) (hb : b < 800000)
    (n0 : 0 ≤ number) (c0 : 0 ≤ place) (c1 : place < many) (c2 : many < 1000) (f0 : nf < 1000) (u0 : 0 < cs.length) (u1 : cs.length < 1000) :
    (Phi gk tab (k + 5) 27 [.loc p, .loc q, .tup [.int number, .int place, .int many], .tup [.int cs.length, .int nf]] h).Wp (linP c cs nf number place many p b h) := by
  rw [phi27]; exact line_ok _ (phTk (k + 2)) (phPk (k + 1)) (phSt k) p q b number place many nf cs fs h hp hq ne hf hl hb n0 c0 c1 c2 f0 u0 u1
def LnO (Φ : FT) : Prop := ∀ {c : Nat} (p q : Nat) (b number place many nf : Int) (cs : List Int) (fs : List W) (h : IH), Pen c h p b → h.get q = some (.lst fs) → q ≠ p → Fields cs fs → fs.length < 1000 → b < 800000 → 0 ≤ number → 0 ≤ place → place < many → many < 1000 → nf < 1000 → 0 < cs.length → cs.length < 1000 →
  (Φ 27 [.loc p, .loc q, .tup [.int number, .int place, .int many], .tup [.int cs.length, .int nf]] h).Wp (linP c cs nf number place many p b h)
def CsOk (cs : List Int) : Prop := ∀ c ∈ cs, 0 ≤ c ∧ c ≤ 3
/-- counts = [pick(pen, [0, 1, 1, 2, 3]) for turn in range(1 + take(pen, most))] -/
theorem counts_ok {Φ : FT} (H : TkO Φ) (H2 : PkO Φ) {c p : Nat} {b most lb : Int} {h : IH} (hp : Pen c h p b) (hb : b < 500000) (m0 : 0 < most) (m1 : most < 100) :
    ((eLc (iA kRng1 (aCons (e2 oAdd (eC (.int 1)) (eCall Φ 24 (aCons (eVar 0) (aCons (eVar 1) aNil)))) aNil)) (gNm 3) tYes (eCall Φ 25 (aCons (eVar 0) (aCons (eLst (aCons (eC (.int 0)) (aCons (eC (.int 1)) (aCons (eC (.int 1)) (aCons (eC (.int 2)) (aCons (eC (.int 3)) aNil)))))) aNil))) [3])
      [some (.loc p), some (.int most), some (.int lb), none, none, none, none, none, none, none, none, none, none, none, none, none, none, none] h).Wp fun w h' => ∃ (a : Nat) (cs : List Int), w = .loc a ∧ h'.get a = some (.lst (cs.map .int)) ∧ h.n ≤ a ∧ CsOk cs ∧ 0 < cs.length ∧ (cs.length : Int) ≤ most ∧ Fr p h h' ∧ Pen c h' p (b + 200) := by
  refine lc_rng ?_
  simp only [↓v0, ↓n0, ↓v1, ↓n1, ↓v2, ↓n2, ↓v3, ↓n3, ↓v4, ↓n4, ↓v5, ↓n5, ↓v6, ↓n6, ↓v7, ↓n7, ↓v8, ↓n8, ↓v9, ↓n9, ↓v10, ↓n10, ↓v11, ↓n11, ↓v12, ↓n12, ↓v13, ↓n13, ↓v14, ↓n14, ↓v15, ↓n15, ↓v16, ↓n16, ↓v17, ↓n17, ↓v18, ↓n18, ↓x_seq, ↓x_if, ↓x_next, ↓x_brk, ↓x_cont, ↓x_asg, ↓x_expr, ↓x_ret, ↓x_retN, ↓x_par2, ↓x_par3, ↓x_C, ↓x_e1, ↓x_e2, ↓x_nil, ↓x_cons, ↓x_eA, ↓x_call, ↓x_tup, ↓x_lst, ↓x_eIf, ↓x_mt, ↓x_sl, ↓x_none, ↓x_some, ↓x_bol, ↓x_bolW, ↓x_tru, ↓x_not, ↓x_and, ↓x_or, ↓x_yes, ↓x_sb, ↓x_add, ↓x_sub, ↓x_mul, ↓x_mod, ↓x_div, ↓x_pow, ↓x_lt, ↓x_le, ↓x_gt, ↓x_ge, ↓x_eqI, ↓x_neI, ↓x_lenT, ↓x_int]
  refine (H p b most h hp (by omega) m0 (by omega)).mono fun w1 h1 ⟨v, e1, v0, v1, f1, p1⟩ => ?_
  subst e1
  simp only [↓x_add]
  refine ⟨(1 + v).toNat, by rw [Int.toNat_of_nonneg (by omega)], by omega, fun i xs h2 => ∃ cs : List Int, xs = cs.map .int ∧ cs.length = i ∧ CsOk cs ∧ Fr p h h2 ∧ Pen c h2 p (b + 1 + i), ⟨[], rfl, rfl, fun c hc => absurd hc List.not_mem_nil, f1, p1.mono (by omega)⟩, ?_, ?_⟩
  · rintro i xs h2 hi ⟨cs, rfl, hl, ok, f2, p2⟩
    simp only [wipeW, List.foldl_cons, List.foldl_nil, List.set_cons_zero, List.set_cons_succ, ↓v0, ↓n0, ↓v1, ↓n1, ↓v2, ↓n2, ↓v3, ↓n3, ↓v4, ↓n4, ↓v5, ↓n5, ↓v6, ↓n6, ↓v7, ↓n7, ↓v8, ↓n8, ↓v9, ↓n9, ↓v10, ↓n10, ↓v11, ↓n11, ↓v12, ↓n12, ↓v13, ↓n13, ↓v14, ↓n14, ↓v15, ↓n15, ↓v16, ↓n16, ↓v17, ↓n17, ↓v18, ↓n18, ↓x_seq, ↓x_if, ↓x_next, ↓x_brk, ↓x_cont, ↓x_asg, ↓x_expr, ↓x_ret, ↓x_retN, ↓x_par2, ↓x_par3, ↓x_C, ↓x_e1, ↓x_e2, ↓x_nil, ↓x_cons, ↓x_eA, ↓x_call, ↓x_tup, ↓x_lst, ↓x_eIf, ↓x_mt, ↓x_sl, ↓x_none, ↓x_some, ↓x_bol, ↓x_bolW, ↓x_tru, ↓x_not, ↓x_and, ↓x_or, ↓x_yes, ↓x_sb, ↓x_add, ↓x_sub, ↓x_mul, ↓x_mod, ↓x_div, ↓x_pow, ↓x_lt, ↓x_le, ↓x_gt, ↓x_ge, ↓x_eqI, ↓x_neI, ↓x_lenT, ↓x_int]
    refine ⟨by rfl, ?_⟩
    have k : Keep h2 (h2.new (.lst [W.int 0, .int 1, .int 1, .int 2, .int 3])) := Keep.new
    refine (H2 p h2.n (b + 1 + i) _ _ (p2.keep k) (IH.get_new_self h2 _) (Nat.ne_of_gt p2.lt) (by omega) (by simp) (by simp)).mono fun w h3 ⟨m, f3, p3⟩ => ?_
    have : ∃ v : Int, w = .int v ∧ 0 ≤ v ∧ v ≤ 3 := by
      simp only [List.mem_cons, List.not_mem_nil, or_false] at m
      rcases m with e | e | e | e | e <;> exact ⟨_, e, by decide, by decide⟩
    obtain ⟨v, e, c0, c1⟩ := this
    subst e
    refine ⟨cs ++ [v], by simp, by simp [hl], fun x hx => ?_, (f2.trans k.fr).trans f3, p3.mono (by omega)⟩
    rcases List.mem_append.mp hx with hx | hx
    · exact ok x hx
    · rw [List.mem_singleton.mp hx]; exact ⟨c0, c1⟩
  · rintro xs h2 ⟨cs, rfl, hl, ok, f2, p2⟩
    refine ⟨by simp; omega, h2.n, cs, rfl, IH.get_new_self h2 _, f2.1, ok, by omega, by omega, f2.trans Fr.new, (p2.keep Keep.new).mono (by omega)⟩
/-- fields = fields + [(unit, field) for field in range(many)], for each unit -/
theorem fields_ok {Φ : FT} {p a q : Nat} {most lb : Int} {cs : List Int} {h : IH} (hp : p < h.n) (ga : h.get a = some (.lst (cs.map .int))) (gq : h.get q = some (.lst [])) (ne : q ≠ p) (ok : CsOk cs) (hl : cs.length < 100) {N : Fw.Env → IH → Prop} {R : W → IH → Prop}
    (hN : ∀ (h' : IH) (q' : Nat) (fs : List W) (u m : Option W), h'.get q' = some (.lst fs) → q' ≠ p → Fields cs fs → fs.length < 1000 → Keep h h' → N [some (.loc p), some (.int most), some (.int lb), none, some (.loc a), some (.loc q'), u, m, none, none, none, none, none, none, none, none, none, none] h') :
    (sFor (iA kEnu (aCons (eVar 4) aNil)) (gTp [(gNm 6), (gNm 7)]) (sSeq (sAsg (e2 oAdd (eVar 5) (eLc (iA kRng1 (aCons (eVar 7) aNil)) (gNm 8) tYes (eTup (aCons (eVar 6) (aCons (eVar 8) aNil))) [8])) (gNm 5)) sNext)
      [some (.loc p), some (.int most), some (.int lb), none, some (.loc a), some (.loc q), none, none, none, none, none, none, none, none, none, none, none, none] h).Wp ⟨N, R, fun _ _ => False, fun _ _ => False⟩ := by
  refine for_enuL ?_
  simp only [↓v0, ↓n0, ↓v1, ↓n1, ↓v2, ↓n2, ↓v3, ↓n3, ↓v4, ↓n4, ↓v5, ↓n5, ↓v6, ↓n6, ↓v7, ↓n7, ↓v8, ↓n8, ↓v9, ↓n9, ↓v10, ↓n10, ↓v11, ↓n11, ↓v12, ↓n12, ↓v13, ↓n13, ↓v14, ↓n14, ↓v15, ↓n15, ↓v16, ↓n16, ↓v17, ↓n17, ↓v18, ↓n18, ↓x_seq, ↓x_if, ↓x_next, ↓x_brk, ↓x_cont, ↓x_asg, ↓x_expr, ↓x_ret, ↓x_retN, ↓x_par2, ↓x_par3, ↓x_C, ↓x_e1, ↓x_e2, ↓x_nil, ↓x_cons, ↓x_eA, ↓x_call, ↓x_tup, ↓x_lst, ↓x_eIf, ↓x_mt, ↓x_sl, ↓x_none, ↓x_some, ↓x_bol, ↓x_bolW, ↓x_tru, ↓x_not, ↓x_and, ↓x_or, ↓x_yes, ↓x_sb, ↓x_add, ↓x_sub, ↓x_mul, ↓x_mod, ↓x_div, ↓x_pow, ↓x_lt, ↓x_le, ↓x_gt, ↓x_ge, ↓x_eqI, ↓x_neI, ↓x_lenT, ↓x_int]
  refine ⟨a, cs.map .int, rfl, ga, fun i e h2 => ∃ (q2 : Nat) (fs : List W) (u m : Option W), e = [some (.loc p), some (.int most), some (.int lb), none, some (.loc a), some (.loc q2), u, m, none, none, none, none, none, none, none, none, none, none] ∧ h2.get q2 = some (.lst fs) ∧ q2 ≠ p ∧ Fields cs fs ∧ fs.length ≤ 3 * i ∧ Keep h h2,
    ⟨q, [], none, none, rfl, gq, ne, fun x hx => absurd hx List.not_mem_nil, Nat.le_refl _, Keep.refl⟩, ?_, ?_⟩
  · rintro i e h2 y ⟨q2, fs, u, m, rfl, g2, n2, f2, l2, k2⟩ hy
    rw [List.getElem?_map] at hy
    obtain ⟨c, hc, ey⟩ := Option.map_eq_some_iff.mp hy
    subst ey
    obtain ⟨c0, c1⟩ := ok c (List.mem_of_getElem? hc)
    have il := (List.getElem?_eq_some_iff.mp hc).1
    refine ⟨(k2.2 a (IH.get_lt ga)).trans ga, ?_⟩
    simp only [↓x_tp, ↓x_gs0, ↓x_gs1, ↓v0, ↓n0, ↓v1, ↓n1, ↓v2, ↓n2, ↓v3, ↓n3, ↓v4, ↓n4, ↓v5, ↓n5, ↓v6, ↓n6, ↓v7, ↓n7, ↓v8, ↓n8, ↓v9, ↓n9, ↓v10, ↓n10, ↓v11, ↓n11, ↓v12, ↓n12, ↓v13, ↓n13, ↓v14, ↓n14, ↓v15, ↓n15, ↓v16, ↓n16, ↓v17, ↓n17, ↓v18, ↓n18, ↓x_seq, ↓x_if, ↓x_next, ↓x_brk, ↓x_cont, ↓x_asg, ↓x_expr, ↓x_ret, ↓x_retN, ↓x_par2, ↓x_par3, ↓x_C, ↓x_e1, ↓x_e2, ↓x_nil, ↓x_cons, ↓x_eA, ↓x_call, ↓x_tup, ↓x_lst, ↓x_eIf, ↓x_mt, ↓x_sl, ↓x_none, ↓x_some, ↓x_bol, ↓x_bolW, ↓x_tru, ↓x_not, ↓x_and, ↓x_or, ↓x_yes, ↓x_sb, ↓x_add, ↓x_sub, ↓x_mul, ↓x_mod, ↓x_div, ↓x_pow, ↓x_lt, ↓x_le, ↓x_gt, ↓x_ge, ↓x_eqI, ↓x_neI, ↓x_lenT, ↓x_int]
    refine ⟨by rfl, lc_rng ?_⟩
    simp only [↓v0, ↓n0, ↓v1, ↓n1, ↓v2, ↓n2, ↓v3, ↓n3, ↓v4, ↓n4, ↓v5, ↓n5, ↓v6, ↓n6, ↓v7, ↓n7, ↓v8, ↓n8, ↓v9, ↓n9, ↓v10, ↓n10, ↓v11, ↓n11, ↓v12, ↓n12, ↓v13, ↓n13, ↓v14, ↓n14, ↓v15, ↓n15, ↓v16, ↓n16, ↓v17, ↓n17, ↓v18, ↓n18, ↓x_seq, ↓x_if, ↓x_next, ↓x_brk, ↓x_cont, ↓x_asg, ↓x_expr, ↓x_ret, ↓x_retN, ↓x_par2, ↓x_par3, ↓x_C, ↓x_e1, ↓x_e2, ↓x_nil, ↓x_cons, ↓x_eA, ↓x_call, ↓x_tup, ↓x_lst, ↓x_eIf, ↓x_mt, ↓x_sl, ↓x_none, ↓x_some, ↓x_bol, ↓x_bolW, ↓x_tru, ↓x_not, ↓x_and, ↓x_or, ↓x_yes, ↓x_sb, ↓x_add, ↓x_sub, ↓x_mul, ↓x_mod, ↓x_div, ↓x_pow, ↓x_lt, ↓x_le, ↓x_gt, ↓x_ge, ↓x_eqI, ↓x_neI, ↓x_lenT, ↓x_int]
    refine ⟨c.toNat, by rw [Int.toNat_of_nonneg c0], by omega, fun j xs h3 => xs.length = j ∧ Fields cs xs ∧ h3 = h2, ⟨rfl, fun x hx => absurd hx List.not_mem_nil, rfl⟩, ?_, ?_⟩
    · rintro j xs h3 hj ⟨lx, fx, e3⟩
      subst e3
      simp only [wipeW, List.foldl_cons, List.foldl_nil, List.set_cons_zero, List.set_cons_succ, ↓v0, ↓n0, ↓v1, ↓n1, ↓v2, ↓n2, ↓v3, ↓n3, ↓v4, ↓n4, ↓v5, ↓n5, ↓v6, ↓n6, ↓v7, ↓n7, ↓v8, ↓n8, ↓v9, ↓n9, ↓v10, ↓n10, ↓v11, ↓n11, ↓v12, ↓n12, ↓v13, ↓n13, ↓v14, ↓n14, ↓v15, ↓n15, ↓v16, ↓n16, ↓v17, ↓n17, ↓v18, ↓n18, ↓x_seq, ↓x_if, ↓x_next, ↓x_brk, ↓x_cont, ↓x_asg, ↓x_expr, ↓x_ret, ↓x_retN, ↓x_par2, ↓x_par3, ↓x_C, ↓x_e1, ↓x_e2, ↓x_nil, ↓x_cons, ↓x_eA, ↓x_call, ↓x_tup, ↓x_lst, ↓x_eIf, ↓x_mt, ↓x_sl, ↓x_none, ↓x_some, ↓x_bol, ↓x_bolW, ↓x_tru, ↓x_not, ↓x_and, ↓x_or, ↓x_yes, ↓x_sb, ↓x_add, ↓x_sub, ↓x_mul, ↓x_mod, ↓x_div, ↓x_pow, ↓x_lt, ↓x_le, ↓x_gt, ↓x_ge, ↓x_eqI, ↓x_neI, ↓x_lenT, ↓x_int]
      refine ⟨by rfl, by simp [lx], fun x hx => ?_, trivial⟩
      rcases List.mem_append.mp hx with hx | hx
      · exact fx x hx
      · rw [List.mem_singleton.mp hx]
        exact ⟨i, j, rfl, by omega, c, by simpa using hc, by omega, by omega⟩
    · rintro xs h3 ⟨lx, fx, e3⟩
      subst e3
      refine ⟨by omega, ?_⟩
      have kk : Keep h3 (h3.new (.lst xs)) := Keep.new
      rw [x_catL ((kk.2 q2 (IH.get_lt g2)).trans g2) (IH.get_new_self h3 _)]
      refine ⟨lenOk_iff.mpr (by omega), ?_⟩
      refine ⟨_, fs ++ xs, _, _, rfl, IH.get_new_self _ _, ?_, fun x hx => ?_, by rw [List.length_append]; omega, (k2.trans kk).trans Keep.new⟩
      · have := k2.1
        show h3.n + 1 ≠ p
        omega
      · rcases List.mem_append.mp hx with hx | hx
        · exact f2 x hx
        · exact fx x hx
  · rintro e h2 ⟨q2, fs, u, m, rfl, g2, n2, f2, l2, k2⟩
    rw [List.length_map] at l2
    exact ⟨(k2.2 a (IH.get_lt ga)).trans ga, hN h2 q2 fs u m g2 n2 f2 (by omega) k2⟩
theorem _root_.Fw.Pen.ltc {h : IH} {c p : Nat} {b : Int} (x : Pen c h p b) : c < h.n ∧ c ≠ p := let ⟨_, _, _, y, _⟩ := x; ⟨IH.get_lt y.cells, y.ne⟩
theorem _root_.Fw.Pen.setr {h : IH} {c p r : Nat} {b : Int} {cell : Cell} (x : Pen c h p b) (rp : r ≠ p) (rc : r ≠ c) (rn : r < h.n) : Pen c (h.set r cell) p b := by
  obtain ⟨a, l, cs, y, z⟩ := x
  exact ⟨a, l, cs, ⟨by rw [IH.get_set _ _ _ _ rn, if_neg (Ne.symm rp)]; exact y.pen, by rw [IH.get_set _ _ _ _ rn, if_neg (Ne.symm rc)]; exact y.cells, y.ne⟩, z⟩
theorem _root_.Fw.Fr.setr {h0 h : IH} {p r : Nat} {cell : Cell} (f : Fr p h0 h) (rn : r < h.n) (r0 : h0.n ≤ r) : Fr p h0 (h.set r cell) := ⟨f.1, fun i hi ne => by rw [IH.get_set _ _ _ _ rn, if_neg (by omega)]; exact f.2 i hi ne⟩
/-- a unit, by its number -/
structure UnitOk (cs : List Int) (i : Nat) (w : W) : Prop where
  ex : ∃ (par : W) (n : Int) (body : List W), w = .tup [par, .int n, .tup body] ∧ cs[i]? = some n ∧ (par = .non ∨ ∃ v : Int, par = .int v ∧ 0 ≤ v ∧ v < i) ∧ (∀ x ∈ body, Ins cs x) ∧ body.length ≤ 6
theorem units_ok {Φ : FT} (H : TkO Φ) (H2 : PkO Φ) (H3 : StO Φ) {c p a q r : Nat} {most lb b : Int} {cs : List Int} {fs : List W} {h0 h : IH} {u0 m0 : Option W} (hp : Pen c h p b) (hb : b < 200000) (ga : h0.get a = some (.lst (cs.map .int))) (gq : h0.get q = some (.lst fs)) (qp : q ≠ p) (ap : a ≠ p)
    (gr : h.get r = some (.lst [])) (r0 : h0.n ≤ r) (fr0 : Fr p h0 h) (cl : c < h0.n) (pl : p < h0.n) (ff : Fields cs fs) (fl : fs.length < 1000) (cl2 : cs.length < 100) {N : Fw.Env → IH → Prop} {R : W → IH → Prop}
    (hN : ∀ (h' : IH) (us : List W) (u m x y : Option W), h'.get r = some (.lst us) → us.length = cs.length → (∀ j w, us[j]? = some w → UnitOk cs j w) → Fr p h0 h' → Pen c h' p (b + 100 * cs.length) →
      N [some (.loc p), some (.int most), some (.int lb), none, some (.loc a), some (.loc q), u, m, none, some (.loc r), x, y, none, none, none, none, none, none] h') :
    (sFor (iA kEnu (aCons (eVar 4) aNil)) (gTp [(gNm 6), (gNm 7)]) (sSeq (sAsg (eIf (tAnd (tBol (e2 oGt (eVar 6) (eC (.int 0)))) (tBol (e2 oEq (eCall Φ 24 (aCons (eVar 0) (aCons (eC (.int 3)) aNil))) (eC (.int 0))))) (eCall Φ 24 (aCons (eVar 0) (aCons (eVar 6) aNil))) (eC (.non))) (gNm 10))
       (sSeq (sAsg (eLc (iA kRng1 (aCons (eCall Φ 24 (aCons (eVar 0) (aCons (eC (.int 7)) aNil))) aNil)) (gNm 3) tYes (eCall Φ 26 (aCons (eVar 0) (aCons (eVar 5) (aCons (eC (.int 3)) aNil)))) [3]) (gNm 11))
       (sSeq (sExpr (eMt isLst mAppend (eVar 9) (aCons (eTup (aCons (eVar 10) (aCons (eVar 7) (aCons (eA (k1 oTuple) (aCons (eVar 11) aNil)) aNil)))) aNil)))
       sNext)))
      [some (.loc p), some (.int most), some (.int lb), none, some (.loc a), some (.loc q), u0, m0, none, some (.loc r), none, none, none, none, none, none, none, none] h).Wp ⟨N, R, fun _ _ => False, fun _ _ => False⟩ := by
  have al := IH.get_lt ga
  have ql := IH.get_lt gq
  refine for_enuL ?_
  rw [v4]
  refine ⟨a, cs.map .int, rfl, (fr0.2 a al ap).trans ga, fun i e h2 => ∃ (us : List W) (u m x y : Option W), e = [some (.loc p), some (.int most), some (.int lb), none, some (.loc a), some (.loc q), u, m, none, some (.loc r), x, y, none, none, none, none, none, none] ∧ h2.get r = some (.lst us) ∧ us.length = i ∧ (∀ j w, us[j]? = some w → UnitOk cs j w) ∧ Fr p h0 h2 ∧ Pen c h2 p (b + 100 * i),
    ⟨[], u0, m0, none, none, rfl, gr, rfl, fun j w e => by simp at e, fr0, hp.mono (by omega)⟩, ?_, ?_⟩
  · rintro i e h2 y ⟨us, u, m, x, y', rfl, g2, l2, ok2, f2, p2⟩ hy
    rw [List.getElem?_map] at hy
    obtain ⟨n, hn, ey⟩ := Option.map_eq_some_iff.mp hy
    subst ey
    have il := (List.getElem?_eq_some_iff.mp hn).1
    refine ⟨(f2.2 a al ap).trans ga, ?_⟩
    simp only [↓x_tp, ↓x_gs0, ↓x_gs1, ↓n6, ↓n7]
    refine ⟨by rfl, ?_⟩
    refine seq_cut (fun (e : Fw.Env) h' => ∃ par : W, (par = .non ∨ ∃ v : Int, par = .int v ∧ 0 ≤ v ∧ v < i) ∧ e = [some (.loc p), some (.int most), some (.int lb), none, some (.loc a), some (.loc q), some (.int i), some (.int n), none, some (.loc r), some par, y', none, none, none, none, none, none] ∧ Fr p h2 h' ∧ Pen c h' p (b + 100 * i + 2)) ?_ ?_
    · simp only [↓v0, ↓n0, ↓v1, ↓n1, ↓v2, ↓n2, ↓v3, ↓n3, ↓v4, ↓n4, ↓v5, ↓n5, ↓v6, ↓n6, ↓v7, ↓n7, ↓v8, ↓n8, ↓v9, ↓n9, ↓v10, ↓n10, ↓v11, ↓n11, ↓v12, ↓n12, ↓v13, ↓n13, ↓v14, ↓n14, ↓v15, ↓n15, ↓v16, ↓n16, ↓v17, ↓n17, ↓v18, ↓n18, ↓x_seq, ↓x_if, ↓x_next, ↓x_brk, ↓x_cont, ↓x_asg, ↓x_expr, ↓x_ret, ↓x_retN, ↓x_par2, ↓x_par3, ↓x_C, ↓x_e1, ↓x_e2, ↓x_nil, ↓x_cons, ↓x_eA, ↓x_call, ↓x_tup, ↓x_lst, ↓x_eIf, ↓x_mt, ↓x_sl, ↓x_none, ↓x_some, ↓x_bol, ↓x_bolW, ↓x_tru, ↓x_not, ↓x_and, ↓x_or, ↓x_yes, ↓x_sb, ↓x_add, ↓x_sub, ↓x_mul, ↓x_mod, ↓x_div, ↓x_pow, ↓x_lt, ↓x_le, ↓x_gt, ↓x_ge, ↓x_eqI, ↓x_neI, ↓x_lenT, ↓x_int]
      refine ⟨fun z => ?_, fun _ => ⟨fun z => Bool.noConfusion z, fun _ => ⟨_, .inl rfl, rfl, Fr.refl, p2.mono (by omega)⟩⟩⟩
      have z := of_decide_eq_true z
      refine (H p _ 3 h2 p2 (by omega) (by omega) (by omega)).mono fun w3 h3 ⟨v, e3, v0, v1, f3, p3⟩ => ?_
      subst e3
      simp only [↓x_eqI, ↓x_bolW]
      refine ⟨fun _ => ?_, fun _ => ⟨_, .inl rfl, rfl, f3, p3.mono (by omega)⟩⟩
      refine (H p _ i h3 p3 (by omega) (by omega) (by omega)).mono fun w4 h4 ⟨v4, e4, v40, v41, f4, p4⟩ => ?_
      subst e4
      exact ⟨_, .inr ⟨v4, rfl, v40, v41⟩, rfl, f3.trans f4, p4.mono (by omega)⟩
    rintro e h3 ⟨par, hpar, rfl, f3, p3⟩
    have gq3 : ∀ {h' : IH}, Fr p h2 h' → h'.get q = some (.lst fs) := fun f => (f.2 q (Nat.lt_of_lt_of_le ql f2.1) qp).trans ((f2.2 q ql qp).trans gq)
    refine seq_cut (fun (e : Fw.Env) h' => ∃ (t : Nat) (body : List W), h'.get t = some (.lst body) ∧ t ≠ p ∧ (∀ x ∈ body, Ins cs x) ∧ body.length ≤ 6 ∧ e = [some (.loc p), some (.int most), some (.int lb), none, some (.loc a), some (.loc q), some (.int i), some (.int n), none, some (.loc r), some par, some (.loc t), none, none, none, none, none, none] ∧ Fr p h2 h' ∧ Pen c h' p (b + 100 * i + 60)) ?_ ?_
    · simp only [↓x_asg]
      refine lc_rng ?_
      simp only [↓v0, ↓n0, ↓v1, ↓n1, ↓v2, ↓n2, ↓v3, ↓n3, ↓v4, ↓n4, ↓v5, ↓n5, ↓v6, ↓n6, ↓v7, ↓n7, ↓v8, ↓n8, ↓v9, ↓n9, ↓v10, ↓n10, ↓v11, ↓n11, ↓v12, ↓n12, ↓v13, ↓n13, ↓v14, ↓n14, ↓v15, ↓n15, ↓v16, ↓n16, ↓v17, ↓n17, ↓v18, ↓n18, ↓x_seq, ↓x_if, ↓x_next, ↓x_brk, ↓x_cont, ↓x_asg, ↓x_expr, ↓x_ret, ↓x_retN, ↓x_par2, ↓x_par3, ↓x_C, ↓x_e1, ↓x_e2, ↓x_nil, ↓x_cons, ↓x_eA, ↓x_call, ↓x_tup, ↓x_lst, ↓x_eIf, ↓x_mt, ↓x_sl, ↓x_none, ↓x_some, ↓x_bol, ↓x_bolW, ↓x_tru, ↓x_not, ↓x_and, ↓x_or, ↓x_yes, ↓x_sb, ↓x_add, ↓x_sub, ↓x_mul, ↓x_mod, ↓x_div, ↓x_pow, ↓x_lt, ↓x_le, ↓x_gt, ↓x_ge, ↓x_eqI, ↓x_neI, ↓x_lenT, ↓x_int]
      refine (H p _ 7 h3 p3 (by omega) (by omega) (by omega)).mono fun w4 h4 ⟨v, e4, v0, v1, f4, p4⟩ => ?_
      subst e4
      refine ⟨v.toNat, by rw [Int.toNat_of_nonneg v0], by omega, fun j xs h5 => xs.length = j ∧ (∀ x ∈ xs, Ins cs x) ∧ Fr p h2 h5 ∧ Pen c h5 p (b + 100 * i + 3 + 8 * j), ⟨rfl, fun x hx => absurd hx List.not_mem_nil, f3.trans f4, p4.mono (by omega)⟩, ?_, ?_⟩
      · rintro j xs h5 hj ⟨lx, ox, f5, p5⟩
        simp only [wipeW, List.foldl_cons, List.foldl_nil, List.set_cons_zero, List.set_cons_succ, ↓v0, ↓n0, ↓v1, ↓n1, ↓v2, ↓n2, ↓v3, ↓n3, ↓v4, ↓n4, ↓v5, ↓n5, ↓v6, ↓n6, ↓v7, ↓n7, ↓v8, ↓n8, ↓v9, ↓n9, ↓v10, ↓n10, ↓v11, ↓n11, ↓v12, ↓n12, ↓v13, ↓n13, ↓v14, ↓n14, ↓v15, ↓n15, ↓v16, ↓n16, ↓v17, ↓n17, ↓v18, ↓n18, ↓x_seq, ↓x_if, ↓x_next, ↓x_brk, ↓x_cont, ↓x_asg, ↓x_expr, ↓x_ret, ↓x_retN, ↓x_par2, ↓x_par3, ↓x_C, ↓x_e1, ↓x_e2, ↓x_nil, ↓x_cons, ↓x_eA, ↓x_call, ↓x_tup, ↓x_lst, ↓x_eIf, ↓x_mt, ↓x_sl, ↓x_none, ↓x_some, ↓x_bol, ↓x_bolW, ↓x_tru, ↓x_not, ↓x_and, ↓x_or, ↓x_yes, ↓x_sb, ↓x_add, ↓x_sub, ↓x_mul, ↓x_mod, ↓x_div, ↓x_pow, ↓x_lt, ↓x_le, ↓x_gt, ↓x_ge, ↓x_eqI, ↓x_neI, ↓x_lenT, ↓x_int]
        refine (H3 p q _ 3 cs fs h5 p5 (gq3 f5) qp ff fl (by omega) (by omega) (by omega)).mono fun w6 h6 ⟨o6, f6, p6⟩ => ?_
        refine ⟨by simp [lx], fun x hx => ?_, f5.trans f6, p6.mono (by omega)⟩
        rcases List.mem_append.mp hx with hx | hx
        · exact ox x hx
        · rw [List.mem_singleton.mp hx]; exact o6
      · rintro xs h5 ⟨lx, ox, f5, p5⟩
        refine ⟨by omega, h5.n, xs, IH.get_new_self h5 _, Nat.ne_of_gt p5.lt, ox, by omega, rfl, f5.trans Fr.new, (p5.keep Keep.new).mono (by omega)⟩
    rintro e h4 ⟨t, body, g4, tp, ob, lb4, rfl, f4, p4⟩
    have rp : r ≠ p := by omega
    have g4r : h4.get r = some (.lst us) := (f4.2 r (IH.get_lt g2) rp).trans g2
    simp only [↓v0, ↓n0, ↓v1, ↓n1, ↓v2, ↓n2, ↓v3, ↓n3, ↓v4, ↓n4, ↓v5, ↓n5, ↓v6, ↓n6, ↓v7, ↓n7, ↓v8, ↓n8, ↓v9, ↓n9, ↓v10, ↓n10, ↓v11, ↓n11, ↓v12, ↓n12, ↓v13, ↓n13, ↓v14, ↓n14, ↓v15, ↓n15, ↓v16, ↓n16, ↓v17, ↓n17, ↓v18, ↓n18, ↓x_seq, ↓x_if, ↓x_next, ↓x_brk, ↓x_cont, ↓x_asg, ↓x_expr, ↓x_ret, ↓x_retN, ↓x_par2, ↓x_par3, ↓x_C, ↓x_e1, ↓x_e2, ↓x_nil, ↓x_cons, ↓x_eA, ↓x_call, ↓x_tup, ↓x_lst, ↓x_eIf, ↓x_mt, ↓x_sl, ↓x_none, ↓x_some, ↓x_bol, ↓x_bolW, ↓x_tru, ↓x_not, ↓x_and, ↓x_or, ↓x_yes, ↓x_sb, ↓x_add, ↓x_sub, ↓x_mul, ↓x_mod, ↓x_div, ↓x_pow, ↓x_lt, ↓x_le, ↓x_gt, ↓x_ge, ↓x_eqI, ↓x_neI, ↓x_lenT, ↓x_int]
    rw [x_tupL g4]
    refine ⟨isLst_at g4r, by rfl, ?_⟩
    rw [x_app g4r (by omega)]
    have rl := IH.get_lt g4r
    refine ⟨us ++ [.tup [par, .int n, .tup body]], _, _, _, _, rfl, by rw [IH.get_set _ _ _ _ rl, if_pos rfl], by simp [l2], fun j w e => ?_, (f2.trans f4).setr rl r0, (p4.setr rp (by omega) rl).mono (by omega)⟩
    by_cases hj : j < us.length
    · rw [List.getElem?_append_left hj] at e; exact ok2 j w e
    · rw [List.getElem?_append_right (by omega)] at e
      have ej : j - us.length = 0 := by
        have := (List.getElem?_eq_some_iff.mp e).1
        simp at this; omega
      rw [ej] at e
      cases e
      have : j = i := by omega
      subst this
      exact ⟨_, _, _, rfl, hn, hpar, ob, lb4⟩
  · rintro e h2 ⟨us, u, m, x, y, rfl, g2, l2, ok2, f2, p2⟩
    rw [List.length_map] at l2 p2
    exact ⟨(f2.2 a al ap).trans ga, hN h2 us u m x y g2 l2 ok2 f2 p2⟩
/-- a function's head -/
def HeadOk (nu : Nat) (lb : Int) (w : W) : Prop := ∃ u m : Int, w = .tup [.int u, .int m] ∧ 0 ≤ u ∧ u < nu ∧ 1 ≤ m ∧ m ≤ lb
theorem heads_ok {Φ : FT} (H : TkO Φ) {c p r s : Nat} {b lb : Int} {us : List W} {h0 h : IH} {e1 e4 e5 e6 e7 e10 e11 : Option W} (hp : Pen c h p b) (hb : b < 300000) (gr : h0.get r = some (.lst us)) (rp : r ≠ p) (u0 : 0 < us.length) (ul : us.length < 100) (l0 : 0 < lb) (l1 : lb < 100)
    (gs : h.get s = some (.lst [])) (s0 : h0.n ≤ s) (fr0 : Fr p h0 h) (cl : c < h0.n) (pl : p < h0.n) {N : Fw.Env → IH → Prop} {R : W → IH → Prop}
    (hN : ∀ (h' : IH) (hs : List W) (m : Option W), h'.get s = some (.lst hs) → 0 < hs.length → hs.length ≤ 4 → (∀ w ∈ hs, HeadOk us.length lb w) → Fr p h0 h' → Pen c h' p (b + 20) →
      N [some (.loc p), e1, some (.int lb), none, e4, e5, e6, e7, none, some (.loc r), e10, e11, some (.loc s), m, none, none, none, none] h') :
    (sFor (iA kRng1 (aCons (e2 oAdd (eC (.int 1)) (eCall Φ 24 (aCons (eVar 0) (aCons (eC (.int 4)) aNil)))) aNil)) (gNm 13) (sSeq (sExpr (eMt isLst mAppend (eVar 12) (aCons (eTup (aCons (eCall Φ 24 (aCons (eVar 0) (aCons (eA (k1 oLen) (aCons (eVar 9) aNil)) aNil))) (aCons (e2 oAdd (eC (.int 1)) (eCall Φ 24 (aCons (eVar 0) (aCons (eVar 2) aNil)))) aNil))) aNil))) sNext)
      [some (.loc p), e1, some (.int lb), none, e4, e5, e6, e7, none, some (.loc r), e10, e11, some (.loc s), none, none, none, none, none] h).Wp ⟨N, R, fun _ _ => False, fun _ _ => False⟩ := by
  have rl := IH.get_lt gr
  refine for_rng ?_
  simp only [↓x_e2, ↓x_C, ↓x_call, ↓x_cons, ↓x_nil, ↓v0]
  refine (H p _ 4 h hp (by omega) (by omega) (by omega)).mono fun w1 h1 ⟨v, e1', v0', v1', f1, p1⟩ => ?_
  subst e1'
  rw [x_add]
  refine ⟨(1 + v).toNat, by rw [Int.toNat_of_nonneg (by omega)], by omega, fun i e h2 => ∃ (hs : List W) (m : Option W), e = [some (.loc p), e1, some (.int lb), none, e4, e5, e6, e7, none, some (.loc r), e10, e11, some (.loc s), m, none, none, none, none] ∧ h2.get s = some (.lst hs) ∧ hs.length = i ∧ (∀ w ∈ hs, HeadOk us.length lb w) ∧ Fr p h0 h2 ∧ Pen c h2 p (b + 1 + 2 * i),
    ⟨[], none, rfl, (f1.2 s (IH.get_lt gs) (by omega)).trans gs, rfl, fun w hw => absurd hw List.not_mem_nil, fr0.trans f1, p1.mono (by omega)⟩, ?_, ?_⟩
  · rintro i e h2 hi ⟨hs, m, rfl, g2, l2, ok2, f2, p2⟩
    simp only [↓v0, ↓n0, ↓v1, ↓n1, ↓v2, ↓n2, ↓v3, ↓n3, ↓v4, ↓n4, ↓v5, ↓n5, ↓v6, ↓n6, ↓v7, ↓n7, ↓v8, ↓n8, ↓v9, ↓n9, ↓v10, ↓n10, ↓v11, ↓n11, ↓v12, ↓n12, ↓v13, ↓n13, ↓v14, ↓n14, ↓v15, ↓n15, ↓v16, ↓n16, ↓v17, ↓n17, ↓v18, ↓n18, ↓x_seq, ↓x_if, ↓x_next, ↓x_brk, ↓x_cont, ↓x_asg, ↓x_expr, ↓x_ret, ↓x_retN, ↓x_par2, ↓x_par3, ↓x_C, ↓x_e1, ↓x_e2, ↓x_nil, ↓x_cons, ↓x_eA, ↓x_call, ↓x_tup, ↓x_lst, ↓x_eIf, ↓x_mt, ↓x_sl, ↓x_none, ↓x_some, ↓x_bol, ↓x_bolW, ↓x_tru, ↓x_not, ↓x_and, ↓x_or, ↓x_yes, ↓x_sb, ↓x_add, ↓x_sub, ↓x_mul, ↓x_mod, ↓x_div, ↓x_pow, ↓x_lt, ↓x_le, ↓x_gt, ↓x_ge, ↓x_eqI, ↓x_neI, ↓x_lenT, ↓x_int]
    have sp : s ≠ p := by omega
    rw [x_lenL ((f2.2 r rl rp).trans gr)]
    refine ⟨isLst_at g2, ?_⟩
    refine (H p _ us.length h2 p2 (by omega) (by omega) (by omega)).mono fun w3 h3 ⟨x, e3, x0, x1, f3, p3⟩ => ?_
    subst e3
    refine (H p _ lb h3 p3 (by omega) (by omega) (by omega)).mono fun w4 h4 ⟨y, e4', y0, y1, f4, p4⟩ => ?_
    subst e4'
    simp only [↓x_add]
    have g4 : h4.get s = some (.lst hs) := ((f3.trans f4).2 s (IH.get_lt g2) sp).trans g2
    refine ⟨by rfl, ?_⟩
    rw [x_app g4 (by omega)]
    have sl := IH.get_lt g4
    refine ⟨hs ++ [.tup [.int x, .int (1 + y)]], _, rfl, by rw [IH.get_set _ _ _ _ sl, if_pos rfl], by simp [l2], fun w hw => ?_, ((f2.trans f3).trans f4).setr sl s0, (p4.setr sp (by omega) sl).mono (by omega)⟩
    rcases List.mem_append.mp hw with hw | hw
    · exact ok2 w hw
    · rw [List.mem_singleton.mp hw]; exact ⟨x, 1 + y, rfl, x0, x1, by omega, by omega⟩
  · rintro e h2 ⟨hs, m, rfl, g2, l2, ok2, f2, p2⟩
    exact hN h2 hs m g2 (by omega) (by omega) ok2 f2 (p2.mono (by omega))
/-- a function, by its number: nf functions in all -/
structure FunOk (cs : List Int) (nf : Nat) (lb : Int) (j : Nat) (w : W) : Prop where
  ex : ∃ (u : Int) (body : List W), w = .tup [.int u, .tup body] ∧ 0 ≤ u ∧ u < cs.length ∧ 1 ≤ body.length ∧ (body.length : Int) ≤ lb ∧ ∀ (k : Nat) (x : W), body[k]? = some x → Lin cs nf j k body.length x
theorem bodies_ok {Φ : FT} (H4 : LnO Φ) {c p q r s t : Nat} {b lb : Int} {cs : List Int} {fs us hs : List W} {h0 h : IH} {e1 e4 e6 e7 e10 e11 e13 : Option W} (hp : Pen c h p b) (hb : b < 300000) (gq : h0.get q = some (.lst fs)) (qp : q ≠ p) (gr : h0.get r = some (.lst us)) (rp : r ≠ p) (gs : h0.get s = some (.lst hs)) (sp : s ≠ p)
    (ul : us.length = cs.length) (u0 : 0 < cs.length) (u1 : cs.length < 100) (n1 : hs.length < 100) (ff : Fields cs fs) (fl : fs.length < 1000) (l1 : lb < 100) (ok : ∀ w ∈ hs, HeadOk us.length lb w)
    (gt : h.get t = some (.lst [])) (t0 : h0.n ≤ t) (fr0 : Fr p h0 h) (cl : c < h0.n) (pl : p < h0.n) {N : Fw.Env → IH → Prop} {R : W → IH → Prop}
    (hN : ∀ (h' : IH) (ws : List W) (z11 z13 z15 z16 z17 : Option W), h'.get t = some (.lst ws) → ws.length = hs.length → (∀ j w, ws[j]? = some w → FunOk cs hs.length lb j w) → Fr p h0 h' → Pen c h' p (b + 2000 * hs.length) →
      N [some (.loc p), e1, some (.int lb), none, e4, some (.loc q), e6, e7, none, some (.loc r), e10, z11, some (.loc s), z13, some (.loc t), z15, z16, z17] h') :
    (sFor (iA kEnu (aCons (eVar 12) aNil)) (gTp [(gNm 13), (gNm 15)]) (sSeq (sPar2 16 11 (aCons (eTup (aCons (eA (k1 oLen) (aCons (eVar 9) aNil)) (aCons (eA (k1 oLen) (aCons (eVar 12) aNil)) aNil))) (aCons (eLst aNil) aNil)))
       (sSeq (sFor (iA kRng1 (aCons (e2 oIx (eVar 15) (eC (.int 1))) aNil)) (gNm 17) (sSeq (sExpr (eMt isLst mAppend (eVar 11) (aCons (eCall Φ 27 (aCons (eVar 0) (aCons (eVar 5) (aCons (eTup (aCons (eVar 13) (aCons (eVar 17) (aCons (e2 oIx (eVar 15) (eC (.int 1))) aNil)))) (aCons (eVar 16) aNil))))) aNil))) sNext))
       (sSeq (sExpr (eMt isLst mAppend (eVar 14) (aCons (eTup (aCons (e2 oIx (eVar 15) (eC (.int 0))) (aCons (eA (k1 oTuple) (aCons (eVar 11) aNil)) aNil))) aNil)))
       sNext)))
      [some (.loc p), e1, some (.int lb), none, e4, some (.loc q), e6, e7, none, some (.loc r), e10, e11, some (.loc s), e13, some (.loc t), none, none, none] h).Wp ⟨N, R, fun _ _ => False, fun _ _ => False⟩ := by
  have ql := IH.get_lt gq
  have rl := IH.get_lt gr
  have sl := IH.get_lt gs
  have tp : t ≠ p := by omega
  refine for_enuL ?_
  rw [v12]
  refine ⟨s, hs, rfl, (fr0.2 s sl sp).trans gs, fun i e h2 => ∃ (ws : List W) (z11 z13 z15 z16 z17 : Option W), e = [some (.loc p), e1, some (.int lb), none, e4, some (.loc q), e6, e7, none, some (.loc r), e10, z11, some (.loc s), z13, some (.loc t), z15, z16, z17] ∧ h2.get t = some (.lst ws) ∧ ws.length = i ∧ (∀ j w, ws[j]? = some w → FunOk cs hs.length lb j w) ∧ Fr p h0 h2 ∧ Pen c h2 p (b + 2000 * i),
    ⟨[], _, _, _, _, _, rfl, gt, rfl, fun j w e => by simp at e, fr0, hp.mono (by omega)⟩, ?_, ?_⟩
  · rintro i e h2 y ⟨ws, z11, z13, z15, z16, z17, rfl, g2, l2, ok2, f2, p2⟩ hy
    obtain ⟨un, m, ey, un0, un1, m0, m1⟩ := ok y (List.mem_of_getElem? hy)
    subst ey
    have il := (List.getElem?_eq_some_iff.mp hy).1
    refine ⟨(f2.2 s sl sp).trans gs, ?_⟩
    simp only [↓x_tp, ↓x_gs0, ↓x_gs1, ↓n13, ↓n15]
    refine ⟨by rfl, ?_⟩
    refine seq_cut (fun (e : Fw.Env) h' => ∃ d : Nat, h'.get d = some (.lst []) ∧ h2.n ≤ d ∧ e = [some (.loc p), e1, some (.int lb), none, e4, some (.loc q), e6, e7, none, some (.loc r), e10, some (.loc d), some (.loc s), some (.int i), some (.loc t), some (.tup [.int un, .int m]), some (.tup [.int cs.length, .int hs.length]), z17] ∧ Fr p h2 h' ∧ Pen c h' p (b + 2000 * i)) ?_ ?_
    · simp only [↓v0, ↓n0, ↓v1, ↓n1, ↓v2, ↓n2, ↓v3, ↓n3, ↓v4, ↓n4, ↓v5, ↓n5, ↓v6, ↓n6, ↓v7, ↓n7, ↓v8, ↓n8, ↓v9, ↓n9, ↓v10, ↓n10, ↓v11, ↓n11, ↓v12, ↓n12, ↓v13, ↓n13, ↓v14, ↓n14, ↓v15, ↓n15, ↓v16, ↓n16, ↓v17, ↓n17, ↓v18, ↓n18, ↓x_seq, ↓x_if, ↓x_next, ↓x_brk, ↓x_cont, ↓x_asg, ↓x_expr, ↓x_ret, ↓x_retN, ↓x_par2, ↓x_par3, ↓x_C, ↓x_e1, ↓x_e2, ↓x_nil, ↓x_cons, ↓x_eA, ↓x_call, ↓x_tup, ↓x_lst, ↓x_eIf, ↓x_mt, ↓x_sl, ↓x_none, ↓x_some, ↓x_bol, ↓x_bolW, ↓x_tru, ↓x_not, ↓x_and, ↓x_or, ↓x_yes, ↓x_sb, ↓x_add, ↓x_sub, ↓x_mul, ↓x_mod, ↓x_div, ↓x_pow, ↓x_lt, ↓x_le, ↓x_gt, ↓x_ge, ↓x_eqI, ↓x_neI, ↓x_lenT, ↓x_int]
      rw [x_lenL ((f2.2 r rl rp).trans gr), x_lenL ((f2.2 s sl sp).trans gs), ul]
      exact ⟨by rfl, by rfl, h2.n, IH.get_new_self h2 _, Nat.le_refl _, rfl, Fr.new, p2.keep Keep.new⟩
    rintro e h3 ⟨d, g3, d0, rfl, f3, p3⟩
    have h20 := f2.1
    have t2 := IH.get_lt g2
    have dp : d ≠ p := by omega
    refine seq_cut (fun (e : Fw.Env) h' => ∃ (body : List W) (z : Option W), h'.get d = some (.lst body) ∧ (body.length : Int) = m ∧ (∀ (k : Nat) (x : W), body[k]? = some x → Lin cs hs.length i k m x) ∧ e = [some (.loc p), e1, some (.int lb), none, e4, some (.loc q), e6, e7, none, some (.loc r), e10, some (.loc d), some (.loc s), some (.int i), some (.loc t), some (.tup [.int un, .int m]), some (.tup [.int cs.length, .int hs.length]), z] ∧ Fr p h2 h' ∧ Pen c h' p (b + 2000 * i + 1200)) ?_ ?_
    · refine for_rng ?_
      simp only [↓x_e2, ↓x_C, ↓v15]
      rw [x_ixT (by decide) (w := .int m) rfl]
      refine ⟨m.toNat, by rw [Int.toNat_of_nonneg (by omega)], by omega, fun k e h4 => ∃ (body : List W) (z : Option W), h4.get d = some (.lst body) ∧ body.length = k ∧ (∀ (k : Nat) (x : W), body[k]? = some x → Lin cs hs.length i k m x) ∧ e = [some (.loc p), e1, some (.int lb), none, e4, some (.loc q), e6, e7, none, some (.loc r), e10, some (.loc d), some (.loc s), some (.int i), some (.loc t), some (.tup [.int un, .int m]), some (.tup [.int cs.length, .int hs.length]), z] ∧ Fr p h2 h4 ∧ Pen c h4 p (b + 2000 * i + 12 * k),
        ⟨[], _, g3, rfl, fun k x e => by simp at e, rfl, f3, p3.mono (by omega)⟩, ?_, ?_⟩
      · rintro k e h4 hk ⟨body, z, g4, l4, ok4, rfl, f4, p4⟩
        simp only [↓v0, ↓n0, ↓v1, ↓n1, ↓v2, ↓n2, ↓v3, ↓n3, ↓v4, ↓n4, ↓v5, ↓n5, ↓v6, ↓n6, ↓v7, ↓n7, ↓v8, ↓n8, ↓v9, ↓n9, ↓v10, ↓n10, ↓v11, ↓n11, ↓v12, ↓n12, ↓v13, ↓n13, ↓v14, ↓n14, ↓v15, ↓n15, ↓v16, ↓n16, ↓v17, ↓n17, ↓v18, ↓n18, ↓x_seq, ↓x_if, ↓x_next, ↓x_brk, ↓x_cont, ↓x_asg, ↓x_expr, ↓x_ret, ↓x_retN, ↓x_par2, ↓x_par3, ↓x_C, ↓x_e1, ↓x_e2, ↓x_nil, ↓x_cons, ↓x_eA, ↓x_call, ↓x_tup, ↓x_lst, ↓x_eIf, ↓x_mt, ↓x_sl, ↓x_none, ↓x_some, ↓x_bol, ↓x_bolW, ↓x_tru, ↓x_not, ↓x_and, ↓x_or, ↓x_yes, ↓x_sb, ↓x_add, ↓x_sub, ↓x_mul, ↓x_mod, ↓x_div, ↓x_pow, ↓x_lt, ↓x_le, ↓x_gt, ↓x_ge, ↓x_eqI, ↓x_neI, ↓x_lenT, ↓x_int]
        rw [x_ixT (by decide) (w := .int m) rfl]
        refine ⟨isLst_at g4, by rfl, ?_⟩
        refine (H4 p q _ i k m hs.length cs fs h4 p4 ((f4.2 q (by omega) qp).trans ((f2.2 q ql qp).trans gq)) qp ff fl (by omega) (by omega) (by omega) (by omega) (by omega) (by omega) u0 (by omega)).mono fun w h5 ⟨o5, f5, p5⟩ => ?_
        have g5 : h5.get d = some (.lst body) := (f5.2 d (IH.get_lt g4) dp).trans g4
        rw [x_app g5 (by omega)]
        have dl := IH.get_lt g5
        refine ⟨body ++ [w], _, by rw [IH.get_set _ _ _ _ dl, if_pos rfl], by simp [l4], fun k' x e => ?_, rfl, (f4.trans f5).setr dl d0, (p5.setr dp (by omega) dl).mono (by omega)⟩
        by_cases hj : k' < body.length
        · rw [List.getElem?_append_left hj] at e; exact ok4 k' x e
        · rw [List.getElem?_append_right (by omega)] at e
          have ej : k' - body.length = 0 := by
            have := (List.getElem?_eq_some_iff.mp e).1
            simp at this; omega
          rw [ej] at e
          cases e
          have : k' = k := by omega
          subst this
          exact o5
      · rintro e h4 ⟨body, z, g4, l4, ok4, rfl, f4, p4⟩
        exact ⟨body, z, g4, by omega, ok4, rfl, f4, p4.mono (by omega)⟩
    rintro e h4 ⟨body, z, g4, l4, ok4, rfl, f4, p4⟩
    have g4t : h4.get t = some (.lst ws) := (f4.2 t t2 tp).trans g2
    simp only [↓v0, ↓n0, ↓v1, ↓n1, ↓v2, ↓n2, ↓v3, ↓n3, ↓v4, ↓n4, ↓v5, ↓n5, ↓v6, ↓n6, ↓v7, ↓n7, ↓v8, ↓n8, ↓v9, ↓n9, ↓v10, ↓n10, ↓v11, ↓n11, ↓v12, ↓n12, ↓v13, ↓n13, ↓v14, ↓n14, ↓v15, ↓n15, ↓v16, ↓n16, ↓v17, ↓n17, ↓v18, ↓n18, ↓x_seq, ↓x_if, ↓x_next, ↓x_brk, ↓x_cont, ↓x_asg, ↓x_expr, ↓x_ret, ↓x_retN, ↓x_par2, ↓x_par3, ↓x_C, ↓x_e1, ↓x_e2, ↓x_nil, ↓x_cons, ↓x_eA, ↓x_call, ↓x_tup, ↓x_lst, ↓x_eIf, ↓x_mt, ↓x_sl, ↓x_none, ↓x_some, ↓x_bol, ↓x_bolW, ↓x_tru, ↓x_not, ↓x_and, ↓x_or, ↓x_yes, ↓x_sb, ↓x_add, ↓x_sub, ↓x_mul, ↓x_mod, ↓x_div, ↓x_pow, ↓x_lt, ↓x_le, ↓x_gt, ↓x_ge, ↓x_eqI, ↓x_neI, ↓x_lenT, ↓x_int]
    rw [x_ixT (by decide) (w := .int un) rfl, x_tupL g4]
    refine ⟨isLst_at g4t, by rfl, ?_⟩
    rw [x_app g4t (by omega)]
    have tl := IH.get_lt g4t
    refine ⟨ws ++ [.tup [.int un, .tup body]], _, _, _, _, _, rfl, by rw [IH.get_set _ _ _ _ tl, if_pos rfl], by simp [l2], fun j w e => ?_, (f2.trans f4).setr tl t0, (p4.setr tp (by omega) tl).mono (by omega)⟩
    by_cases hj : j < ws.length
    · rw [List.getElem?_append_left hj] at e; exact ok2 j w e
    · rw [List.getElem?_append_right (by omega)] at e
      have ej : j - ws.length = 0 := by
        have := (List.getElem?_eq_some_iff.mp e).1
        simp at this; omega
      rw [ej] at e
      cases e
      have : j = i := by omega
      subst this
      exact ⟨un, body, rfl, un0, by omega, by omega, by omega, fun k x e => by rw [l4]; exact ok4 k x e⟩
  · rintro e h2 ⟨ws, z11, z13, z15, z16, z17, rfl, g2, l2, ok2, f2, p2⟩
    exact ⟨(f2.2 s sl sp).trans gs, hN h2 ws z11 z13 z15 z16 z17 g2 l2 ok2 f2 p2⟩
/-- a program that the law builds -/
structure ProgOk (nu lb : Int) (w : W) : Prop where
  ex : ∃ (cs : List Int) (us fns : List W), w = .tup [.tup us, .tup fns] ∧ CsOk cs ∧ 0 < cs.length ∧ (cs.length : Int) ≤ nu ∧ us.length = cs.length ∧ (∀ j w, us[j]? = some w → UnitOk cs j w) ∧
    0 < fns.length ∧ fns.length ≤ 4 ∧ ∀ j w, fns[j]? = some w → FunOk cs fns.length lb j w
theorem program_ok {Φ : FT} (H : TkO Φ) (H2 : PkO Φ) (H3 : StO Φ) (H4 : LnO Φ) {c p : Nat} {b most lb : Int} {h : IH} (hp : Pen c h p b) (hb : b < 100000) (m0 : 0 < most) (m1 : most < 20) (l0 : 0 < lb) (l1 : lb < 20) :
    (callB (m28 Φ) 3 18 [.loc p, .int most, .int lb] h).Wp fun w h' => ProgOk most lb w ∧ Fr p h h' ∧ Pen c h' p (b + 12000) := by
  have pl := hp.lt
  have cl := hp.ltc
  rw [x_callB (by rfl)]
  show (m28 _ [some (.loc p), some (.int most), some (.int lb), none, none, none, none, none, none, none, none, none, none, none, none, none, none, none] h).Wp _
  unfold m28
  rw [x_seq, x_asg]
  refine (counts_ok H H2 hp (by omega) m0 (by omega)).mono fun w1 h1 ⟨a, cs, e1, ga, a0, ok, cs0, cs1, f1, p1⟩ => ?_
  subst e1
  rw [n4]; dsimp only; rw [x_seq, x_asg, x_lst, x_nil]
  refine ⟨by rfl, ?_⟩
  rw [n5]; dsimp only; rw [x_seq]
  have k1 : Keep h1 (h1.new (.lst [])) := Keep.new
  have al := IH.get_lt ga
  refine fields_ok (Φ := Φ) (N := _) (by have := f1.1; show p < h1.n + 1; omega) ((k1.2 a al).trans ga) (IH.get_new_self h1 _) (by have := f1.1; omega) ok (by omega) ?_
  intro h2 q fs u2 m2 gq qp ff fl k2
  have k12 := k1.trans k2
  have ga2 : h2.get a = some (.lst (cs.map .int)) := (k12.2 a al).trans ga
  have f2 : Fr p h h2 := f1.trans k12.fr
  have p2 := p1.keep k12
  try dsimp only
  rw [x_seq, x_asg, x_lst, x_nil]
  refine ⟨by rfl, ?_⟩
  rw [n9]; dsimp only; rw [x_seq]
  have k3 : Keep h2 (h2.new (.lst [])) := Keep.new
  have h20 := f2.1
  refine units_ok (N := _) (h0 := h2) (r := h2.n) H H2 H3 (p2.keep k3) (by omega) ga2 gq qp (by omega) (IH.get_new_self h2 _) (Nat.le_refl _) k3.fr (by omega) (by omega) ff fl (by omega) ?_
  intro h4 us u m x y gr ul uok f4 p4
  have h40 := f4.1
  try dsimp only
  rw [x_seq, x_asg, x_lst, x_nil]
  refine ⟨by rfl, ?_⟩
  rw [n12]; dsimp only; rw [x_seq]
  have k5 : Keep h4 (h4.new (.lst [])) := Keep.new
  refine heads_ok (N := _) (h0 := h4) (s := h4.n) H (p4.keep k5) (by omega) gr (by omega) (by omega) (by omega) l0 (by omega) (IH.get_new_self h4 _) (Nat.le_refl _) k5.fr (by omega) (by omega) ?_
  intro h6 hs m6 gs hs0 hs1 hok f6 p6
  have h60 := f6.1
  try dsimp only
  rw [x_seq, x_asg, x_lst, x_nil]
  refine ⟨by rfl, ?_⟩
  rw [n14]; dsimp only; rw [x_seq]
  have k7 : Keep h6 (h6.new (.lst [])) := Keep.new
  have r6 : h6.get h2.n = some (.lst us) := (f6.2 _ (IH.get_lt gr) (by omega)).trans gr
  have q6 : h6.get q = some (.lst fs) := (f6.2 _ (by have := IH.get_lt gq; omega) qp).trans ((f4.2 q (IH.get_lt gq) qp).trans gq)
  refine bodies_ok (N := _) (h0 := h6) (t := h6.n) H4 (p6.keep k7) (by omega) q6 qp r6 (by omega) gs (by omega) ul cs0 (by omega) (by omega) ff fl (by omega) hok (IH.get_new_self h6 _) (Nat.le_refl _) k7.fr (by omega) (by omega) ?_
  intro h8 ws z11 z13 z15 z16 z17 gt wl wok f8 p8
  simp only [↓v0, ↓n0, ↓v1, ↓n1, ↓v2, ↓n2, ↓v3, ↓n3, ↓v4, ↓n4, ↓v5, ↓n5, ↓v6, ↓n6, ↓v7, ↓n7, ↓v8, ↓n8, ↓v9, ↓n9, ↓v10, ↓n10, ↓v11, ↓n11, ↓v12, ↓n12, ↓v13, ↓n13, ↓v14, ↓n14, ↓v15, ↓n15, ↓v16, ↓n16, ↓v17, ↓n17, ↓v18, ↓n18, ↓x_seq, ↓x_if, ↓x_next, ↓x_brk, ↓x_cont, ↓x_asg, ↓x_expr, ↓x_ret, ↓x_retN, ↓x_par2, ↓x_par3, ↓x_C, ↓x_e1, ↓x_e2, ↓x_nil, ↓x_cons, ↓x_eA, ↓x_call, ↓x_tup, ↓x_lst, ↓x_eIf, ↓x_mt, ↓x_sl, ↓x_none, ↓x_some, ↓x_bol, ↓x_bolW, ↓x_tru, ↓x_not, ↓x_and, ↓x_or, ↓x_yes, ↓x_sb, ↓x_add, ↓x_sub, ↓x_mul, ↓x_mod, ↓x_div, ↓x_pow, ↓x_lt, ↓x_le, ↓x_gt, ↓x_ge, ↓x_eqI, ↓x_neI, ↓x_lenT, ↓x_int]
  rw [x_tupL ((f8.2 _ (IH.get_lt r6) (by omega)).trans r6), x_tupL gt]
  refine ⟨by rfl, ⟨cs, us, ws, rfl, ok, cs0, cs1, ul, uok, by omega, by omega, by rw [wl]; exact wok⟩, ((f2.trans f4).trans f6).trans f8, p8.mono (by omega)⟩
def PgO (Φ : FT) : Prop := ∀ {c : Nat} (p : Nat) (b most lb : Int) (h : IH), Pen c h p b → b < 100000 → 0 < most → most < 20 → 0 < lb → lb < 20 → (Φ 28 [.loc p, .int most, .int lb] h).Wp fun w h' => ProgOk most lb w ∧ Fr p h h' ∧ Pen c h' p (b + 12000)
theorem phPg (k : Nat) : PgO (Phi gk tab (k + 6)) := fun {c} p b most lb h hp hb m0 m1 l0 l1 => by
  rw [phi28]
  exact program_ok (phTk (k + 3)) (phPk (k + 2)) (phSt (k + 1)) (phLn k) hp hb m0 m1 l0 l1
end K25

set_option linter.all false
set_option linter.unusedSimpArgs false
set_option maxRecDepth 100000
set_option maxHeartbeats 1000000
namespace K25
open PySem Fw
section
variable {e : Fw.Env} {h : IH} {P : W → IH → Prop} {f g l : EE} {k k' : W → W → IH → Rs W}
end
/-- an integer in a range -/
theorem isint_ok (Φ : FT) (i lo hi : Int) (h : IH) {P : W → IH → Prop} (k : P (.bl (decide (lo ≤ i ∧ i ≤ hi))) h) : (callB (m0 Φ) 3 3 [.int i, .int lo, .int hi] h).Wp P := by
  rw [x_callB (by rfl)]
  show (m0 _ [some (.int i), some (.int lo), some (.int hi)] h).Wp _
  unfold m0
  simp only [↓x_eAnd, ↓x_andK, ↓x_eNot, ↓x_notK, ↓x_chain, ↓x_chK, ↓x_isiI, ↓v0, ↓n0, ↓v1, ↓n1, ↓v2, ↓n2, ↓v3, ↓n3, ↓v4, ↓n4, ↓v5, ↓n5, ↓v6, ↓n6, ↓v7, ↓n7, ↓v8, ↓n8, ↓v9, ↓n9, ↓v10, ↓n10, ↓v11, ↓n11, ↓v12, ↓n12, ↓v13, ↓n13, ↓v14, ↓n14, ↓v15, ↓n15, ↓v16, ↓n16, ↓v17, ↓n17, ↓v18, ↓n18, ↓x_seq, ↓x_if, ↓x_next, ↓x_brk, ↓x_cont, ↓x_asg, ↓x_expr, ↓x_ret, ↓x_retN, ↓x_par2, ↓x_par3, ↓x_C, ↓x_e1, ↓x_e2, ↓x_nil, ↓x_cons, ↓x_eA, ↓x_call, ↓x_tup, ↓x_lst, ↓x_eIf, ↓x_mt, ↓x_sl, ↓x_none, ↓x_some, ↓x_bol, ↓x_bolW, ↓x_tru, ↓x_not, ↓x_and, ↓x_or, ↓x_yes, ↓x_sb, ↓x_add, ↓x_sub, ↓x_mul, ↓x_mod, ↓x_div, ↓x_pow, ↓x_lt, ↓x_le, ↓x_gt, ↓x_ge, ↓x_eqI, ↓x_neI, ↓x_lenT, ↓x_int]
  refine ⟨fun _ => ⟨fun _ => ⟨fun z => ?_, fun z => ?_⟩, fun z => ?_⟩, fun z => ?_⟩
  · have z := of_decide_eq_true z
    have e : decide (i ≤ hi) = decide (lo ≤ i ∧ i ≤ hi) := by simp [z]
    rw [e]; exact k
  · have z : ¬ lo ≤ i := of_decide_eq_false z
    have e : false = decide (lo ≤ i ∧ i ≤ hi) := by simp [z]
    rw [e]; exact k
  · exact absurd z (by decide)
  · exact absurd z (by decide)
theorem hw_num (Φ : FT) (h : IH) (s v : Int) : callB (m1 Φ) 1 1 [.tup [.str "number", .int s, .int v]] h = .ok (.bl true) h := by kernel_rfl
theorem hw_fail (Φ : FT) (h : IH) : callB (m1 Φ) 1 1 [.tup [.str "fail"]] h = .ok (.bl true) h := by kernel_rfl
theorem hw_copy (Φ : FT) (h : IH) (s v : Int) : callB (m1 Φ) 1 1 [.tup [.str "copy", .int s, .int v]] h = .ok (.bl true) h := by kernel_rfl
theorem hw_add (Φ : FT) (h : IH) (s v : Int) : callB (m1 Φ) 1 1 [.tup [.str "add", .int s, .int v]] h = .ok (.bl true) h := by kernel_rfl
theorem hw_read (Φ : FT) (h : IH) (s u f : Int) : callB (m1 Φ) 1 1 [.tup [.str "read", .int s, .int u, .int f]] h = .ok (.bl true) h := by kernel_rfl
theorem hw_write (Φ : FT) (h : IH) (s u f : Int) : callB (m1 Φ) 1 1 [.tup [.str "write", .int u, .int f, .int s]] h = .ok (.bl true) h := by kernel_rfl
theorem hw_input (Φ : FT) (h : IH) (s : Int) : callB (m1 Φ) 1 1 [.tup [.str "input", .int s]] h = .ok (.bl true) h := by kernel_rfl
theorem hw_show (Φ : FT) (h : IH) (s : Int) : callB (m1 Φ) 1 1 [.tup [.str "show", .int s]] h = .ok (.bl true) h := by kernel_rfl
theorem hw_branch (Φ : FT) (h : IH) (s : Int) : callB (m1 Φ) 1 1 [.tup [.str "branch", .int s]] h = .ok (.bl true) h := by kernel_rfl
theorem hw_call (Φ : FT) (h : IH) (s : Int) : callB (m1 Φ) 1 1 [.tup [.str "call", .int s]] h = .ok (.bl true) h := by kernel_rfl
theorem hw_wake (Φ : FT) (h : IH) (u t : Int) : callB (m1 Φ) 1 1 [.tup [.str "wake", .int u, .int t]] h = .ok (.bl true) h := by kernel_rfl
/-- is_integer, is_slot, is_field -/
def S0 (Φ : FT) : Prop := ∀ (i lo hi : Int) (h : IH) (P : W → IH → Prop), P (.bl (decide (lo ≤ i ∧ i ≤ hi))) h → (Φ 0 [.int i, .int lo, .int hi] h).Wp P
def S2 (Φ : FT) : Prop := ∀ (i : Int) (h : IH) (P : W → IH → Prop), slot i → P (.bl true) h → (Φ 2 [.int i] h).Wp P
theorem ph0 (k : Nat) : S0 (Phi gk tab (k + 1)) := fun i lo hi h P z => by rw [phi0]; exact isint_ok _ i lo hi h z
theorem ph2 (k : Nat) : S2 (Phi gk tab (k + 2)) := fun i h P s z => by
  rw [phi2, x_callB (by rfl)]
  show (m2 _ [some (.int i)] h).Wp _
  unfold m2
  simp only [↓v0, ↓n0, ↓v1, ↓n1, ↓v2, ↓n2, ↓v3, ↓n3, ↓v4, ↓n4, ↓v5, ↓n5, ↓v6, ↓n6, ↓v7, ↓n7, ↓v8, ↓n8, ↓v9, ↓n9, ↓v10, ↓n10, ↓v11, ↓n11, ↓v12, ↓n12, ↓v13, ↓n13, ↓v14, ↓n14, ↓v15, ↓n15, ↓v16, ↓n16, ↓v17, ↓n17, ↓v18, ↓n18, ↓x_seq, ↓x_if, ↓x_next, ↓x_brk, ↓x_cont, ↓x_asg, ↓x_expr, ↓x_ret, ↓x_retN, ↓x_par2, ↓x_par3, ↓x_C, ↓x_e1, ↓x_e2, ↓x_nil, ↓x_cons, ↓x_eA, ↓x_call, ↓x_tup, ↓x_lst, ↓x_eIf, ↓x_mt, ↓x_sl, ↓x_none, ↓x_some, ↓x_bol, ↓x_bolW, ↓x_tru, ↓x_not, ↓x_and, ↓x_or, ↓x_yes, ↓x_sb, ↓x_add, ↓x_sub, ↓x_mul, ↓x_mod, ↓x_div, ↓x_pow, ↓x_lt, ↓x_le, ↓x_gt, ↓x_ge, ↓x_eqI, ↓x_neI, ↓x_lenT, ↓x_int]
  refine ph0 k i 0 2 h _ ?_
  rw [decide_eq_true (show 0 ≤ i ∧ i ≤ 2 from s)]
  exact z
/-- the units' fields, as the checks look them up -/
def Looks (cs : List Int) (us : List W) : Prop := us.length = cs.length ∧ ∀ (j : Nat) (n : Int), cs[j]? = some n → ∃ a b, us[j]? = some (.tup [a, .int n, b])
def S3 (Φ : FT) : Prop := ∀ (cs : List Int) (us : List W) (u f : Int) (h : IH) (P : W → IH → Prop), Looks cs us → FieldOk cs u f → P (.bl true) h → (Φ 3 [.tup us, .int u, .int f] h).Wp P
theorem ph3 (k : Nat) : S3 (Phi gk tab (k + 2)) := fun cs us u f h P lk ⟨u0, n, hn, f0, f1⟩ z => by
  rw [phi3, x_callB (by rfl)]
  show (m3 _ [some (.tup us), some (.int u), some (.int f)] h).Wp _
  unfold m3
  simp only [↓x_eAnd, ↓v0, ↓n0, ↓v1, ↓n1, ↓v2, ↓n2, ↓v3, ↓n3, ↓v4, ↓n4, ↓v5, ↓n5, ↓v6, ↓n6, ↓v7, ↓n7, ↓v8, ↓n8, ↓v9, ↓n9, ↓v10, ↓n10, ↓v11, ↓n11, ↓v12, ↓n12, ↓v13, ↓n13, ↓v14, ↓n14, ↓v15, ↓n15, ↓v16, ↓n16, ↓v17, ↓n17, ↓v18, ↓n18, ↓x_seq, ↓x_if, ↓x_next, ↓x_brk, ↓x_cont, ↓x_asg, ↓x_expr, ↓x_ret, ↓x_retN, ↓x_par2, ↓x_par3, ↓x_C, ↓x_e1, ↓x_e2, ↓x_nil, ↓x_cons, ↓x_eA, ↓x_call, ↓x_tup, ↓x_lst, ↓x_eIf, ↓x_mt, ↓x_sl, ↓x_none, ↓x_some, ↓x_bol, ↓x_bolW, ↓x_tru, ↓x_not, ↓x_and, ↓x_or, ↓x_yes, ↓x_sb, ↓x_add, ↓x_sub, ↓x_mul, ↓x_mod, ↓x_div, ↓x_pow, ↓x_lt, ↓x_le, ↓x_gt, ↓x_ge, ↓x_eqI, ↓x_neI, ↓x_lenT, ↓x_int]
  have ul := (List.getElem?_eq_some_iff.mp hn).1
  refine ph0 k u 0 _ h _ ?_
  rw [decide_eq_true (show 0 ≤ u ∧ u ≤ (us.length : Int) - 1 by have := lk.1; omega), x_andK]
  refine ⟨fun _ => ?_, fun q => Bool.noConfusion q⟩
  obtain ⟨a, b, e⟩ := lk.2 _ _ hn
  simp only [↓v0, ↓n0, ↓v1, ↓n1, ↓v2, ↓n2, ↓v3, ↓n3, ↓v4, ↓n4, ↓v5, ↓n5, ↓v6, ↓n6, ↓v7, ↓n7, ↓v8, ↓n8, ↓v9, ↓n9, ↓v10, ↓n10, ↓v11, ↓n11, ↓v12, ↓n12, ↓v13, ↓n13, ↓v14, ↓n14, ↓v15, ↓n15, ↓v16, ↓n16, ↓v17, ↓n17, ↓v18, ↓n18, ↓x_seq, ↓x_if, ↓x_next, ↓x_brk, ↓x_cont, ↓x_asg, ↓x_expr, ↓x_ret, ↓x_retN, ↓x_par2, ↓x_par3, ↓x_C, ↓x_e1, ↓x_e2, ↓x_nil, ↓x_cons, ↓x_eA, ↓x_call, ↓x_tup, ↓x_lst, ↓x_eIf, ↓x_mt, ↓x_sl, ↓x_none, ↓x_some, ↓x_bol, ↓x_bolW, ↓x_tru, ↓x_not, ↓x_and, ↓x_or, ↓x_yes, ↓x_sb, ↓x_add, ↓x_sub, ↓x_mul, ↓x_mod, ↓x_div, ↓x_pow, ↓x_lt, ↓x_le, ↓x_gt, ↓x_ge, ↓x_eqI, ↓x_neI, ↓x_lenT, ↓x_int]
  rw [x_ixT u0 e, x_ixT (by decide) (w := .int n) rfl]
  simp only [↓x_sub]
  refine ph0 k f 0 _ h _ ?_
  rw [decide_eq_true (show 0 ≤ f ∧ f ≤ n - 1 by omega)]
  exact z
theorem x_eqS {a b : Str} {h : IH} {P : W → IH → Prop} : (oEq (.str a) (.str b) h).Wp P = P (.bl (decide (a = b))) h := rfl
theorem x_inS {a b c : Str} {h : IH} {P : W → IH → Prop} : (oIn (.str a) (.tup [.str b, .str c]) h).Wp P = P (.bl (inFlat (.str a) [.str b, .str c])) h := rfl
theorem in_num (Φ : FT) (H0 : S0 Φ) (H2 : S2 Φ) (H3 : S3 Φ) (cs : List Int) (us : List W) (lk : Looks cs us) (c0 c1 place many s v : Int) (h : IH) (P : W → IH → Prop) (H1 : Φ 1 [.tup [.str "number", .int s, .int v]] h = .ok (.bl true) h) (hs : slot s) (h0 : 0 ≤ v) (h1 : v ≤ 65535) (k : P (.bl true) h) : (callB (m4 Φ) 4 5 [.tup us, .tup [.int c0, .int c1], .tup [.str "number", .int s, .int v], .tup [.int place, .int many]] h).Wp P := by
  rw [x_callB (by rfl)]
  show (m4 _ [some (.tup us), some (.tup [.int c0, .int c1]), some (.tup [.str "number", .int s, .int v]), some (.tup [.int place, .int many]), none] h).Wp _
  unfold m4
  rw [x_seq]
  simp only [↓x_if, ↓x_not, ↓x_tru, ↓x_call, ↓x_cons, ↓x_nil, ↓v2]
  rw [H1, Rs.Wp_ok]
  simp only [↓x_truB]
  refine ⟨fun z => Bool.noConfusion z, fun _ => ?_⟩
  rw [x_next, x_seq, x_asg, x_e2, v2, x_C, x_ixT (by decide) (w := .str "number") rfl, n4]
  simp only [↓x_eqS, ↓x_inS, ↓x_eAnd, ↓v0, ↓n0, ↓v1, ↓n1, ↓v2, ↓n2, ↓v3, ↓n3, ↓v4, ↓n4, ↓v5, ↓n5, ↓v6, ↓n6, ↓v7, ↓n7, ↓v8, ↓n8, ↓v9, ↓n9, ↓v10, ↓n10, ↓v11, ↓n11, ↓v12, ↓n12, ↓v13, ↓n13, ↓v14, ↓n14, ↓v15, ↓n15, ↓v16, ↓n16, ↓v17, ↓n17, ↓v18, ↓n18, ↓x_seq, ↓x_if, ↓x_next, ↓x_brk, ↓x_cont, ↓x_asg, ↓x_expr, ↓x_ret, ↓x_retN, ↓x_par2, ↓x_par3, ↓x_C, ↓x_e1, ↓x_e2, ↓x_nil, ↓x_cons, ↓x_eA, ↓x_call, ↓x_tup, ↓x_lst, ↓x_eIf, ↓x_mt, ↓x_sl, ↓x_none, ↓x_some, ↓x_bol, ↓x_bolW, ↓x_tru, ↓x_not, ↓x_and, ↓x_or, ↓x_yes, ↓x_sb, ↓x_add, ↓x_sub, ↓x_mul, ↓x_mod, ↓x_div, ↓x_pow, ↓x_lt, ↓x_le, ↓x_gt, ↓x_ge, ↓x_eqI, ↓x_neI, ↓x_lenT, ↓x_int]
  refine ⟨by rfl, fun _ => ?_, fun z => absurd z (by decide +kernel)⟩
  rw [x_ixT (by decide) (w := .int s) rfl]
  refine H2 s h _ hs ?_
  rw [x_andK]
  refine ⟨fun _ => ?_, fun q => Bool.noConfusion q⟩
  simp only [↓v0, ↓n0, ↓v1, ↓n1, ↓v2, ↓n2, ↓v3, ↓n3, ↓v4, ↓n4, ↓v5, ↓n5, ↓v6, ↓n6, ↓v7, ↓n7, ↓v8, ↓n8, ↓v9, ↓n9, ↓v10, ↓n10, ↓v11, ↓n11, ↓v12, ↓n12, ↓v13, ↓n13, ↓v14, ↓n14, ↓v15, ↓n15, ↓v16, ↓n16, ↓v17, ↓n17, ↓v18, ↓n18, ↓x_seq, ↓x_if, ↓x_next, ↓x_brk, ↓x_cont, ↓x_asg, ↓x_expr, ↓x_ret, ↓x_retN, ↓x_par2, ↓x_par3, ↓x_C, ↓x_e1, ↓x_e2, ↓x_nil, ↓x_cons, ↓x_eA, ↓x_call, ↓x_tup, ↓x_lst, ↓x_eIf, ↓x_mt, ↓x_sl, ↓x_none, ↓x_some, ↓x_bol, ↓x_bolW, ↓x_tru, ↓x_not, ↓x_and, ↓x_or, ↓x_yes, ↓x_sb, ↓x_add, ↓x_sub, ↓x_mul, ↓x_mod, ↓x_div, ↓x_pow, ↓x_lt, ↓x_le, ↓x_gt, ↓x_ge, ↓x_eqI, ↓x_neI, ↓x_lenT, ↓x_int]
  rw [x_ixT (by decide) (w := .int v) rfl]
  refine H0 v _ _ h _ ?_
  rw [decide_eq_true (show 0 ≤ v ∧ v ≤ 65535 from ⟨h0, h1⟩)]
  exact k
theorem in_copy (Φ : FT) (H0 : S0 Φ) (H2 : S2 Φ) (H3 : S3 Φ) (cs : List Int) (us : List W) (lk : Looks cs us) (c0 c1 place many s t : Int) (h : IH) (P : W → IH → Prop) (H1 : Φ 1 [.tup [.str "copy", .int s, .int t]] h = .ok (.bl true) h) (hs : slot s) (ht : slot t) (k : P (.bl true) h) : (callB (m4 Φ) 4 5 [.tup us, .tup [.int c0, .int c1], .tup [.str "copy", .int s, .int t], .tup [.int place, .int many]] h).Wp P := by
  rw [x_callB (by rfl)]
  show (m4 _ [some (.tup us), some (.tup [.int c0, .int c1]), some (.tup [.str "copy", .int s, .int t]), some (.tup [.int place, .int many]), none] h).Wp _
  unfold m4
  rw [x_seq]
  simp only [↓x_if, ↓x_not, ↓x_tru, ↓x_call, ↓x_cons, ↓x_nil, ↓v2]
  rw [H1, Rs.Wp_ok]
  simp only [↓x_truB]
  refine ⟨fun z => Bool.noConfusion z, fun _ => ?_⟩
  rw [x_next, x_seq, x_asg, x_e2, v2, x_C, x_ixT (by decide) (w := .str "copy") rfl, n4]
  simp only [↓x_eqS, ↓x_inS, ↓x_eAnd, ↓v0, ↓n0, ↓v1, ↓n1, ↓v2, ↓n2, ↓v3, ↓n3, ↓v4, ↓n4, ↓v5, ↓n5, ↓v6, ↓n6, ↓v7, ↓n7, ↓v8, ↓n8, ↓v9, ↓n9, ↓v10, ↓n10, ↓v11, ↓n11, ↓v12, ↓n12, ↓v13, ↓n13, ↓v14, ↓n14, ↓v15, ↓n15, ↓v16, ↓n16, ↓v17, ↓n17, ↓v18, ↓n18, ↓x_seq, ↓x_if, ↓x_next, ↓x_brk, ↓x_cont, ↓x_asg, ↓x_expr, ↓x_ret, ↓x_retN, ↓x_par2, ↓x_par3, ↓x_C, ↓x_e1, ↓x_e2, ↓x_nil, ↓x_cons, ↓x_eA, ↓x_call, ↓x_tup, ↓x_lst, ↓x_eIf, ↓x_mt, ↓x_sl, ↓x_none, ↓x_some, ↓x_bol, ↓x_bolW, ↓x_tru, ↓x_not, ↓x_and, ↓x_or, ↓x_yes, ↓x_sb, ↓x_add, ↓x_sub, ↓x_mul, ↓x_mod, ↓x_div, ↓x_pow, ↓x_lt, ↓x_le, ↓x_gt, ↓x_ge, ↓x_eqI, ↓x_neI, ↓x_lenT, ↓x_int]
  refine ⟨by rfl, fun z => absurd z (by decide +kernel), fun _ => ?_⟩
  refine ⟨fun _ => ?_, fun z => absurd z (by decide +kernel)⟩
  rw [x_ixT (by decide) (w := .int s) rfl]
  refine H2 s h _ hs ?_
  rw [x_andK]
  refine ⟨fun _ => ?_, fun q => Bool.noConfusion q⟩
  simp only [↓v0, ↓n0, ↓v1, ↓n1, ↓v2, ↓n2, ↓v3, ↓n3, ↓v4, ↓n4, ↓v5, ↓n5, ↓v6, ↓n6, ↓v7, ↓n7, ↓v8, ↓n8, ↓v9, ↓n9, ↓v10, ↓n10, ↓v11, ↓n11, ↓v12, ↓n12, ↓v13, ↓n13, ↓v14, ↓n14, ↓v15, ↓n15, ↓v16, ↓n16, ↓v17, ↓n17, ↓v18, ↓n18, ↓x_seq, ↓x_if, ↓x_next, ↓x_brk, ↓x_cont, ↓x_asg, ↓x_expr, ↓x_ret, ↓x_retN, ↓x_par2, ↓x_par3, ↓x_C, ↓x_e1, ↓x_e2, ↓x_nil, ↓x_cons, ↓x_eA, ↓x_call, ↓x_tup, ↓x_lst, ↓x_eIf, ↓x_mt, ↓x_sl, ↓x_none, ↓x_some, ↓x_bol, ↓x_bolW, ↓x_tru, ↓x_not, ↓x_and, ↓x_or, ↓x_yes, ↓x_sb, ↓x_add, ↓x_sub, ↓x_mul, ↓x_mod, ↓x_div, ↓x_pow, ↓x_lt, ↓x_le, ↓x_gt, ↓x_ge, ↓x_eqI, ↓x_neI, ↓x_lenT, ↓x_int]
  rw [x_ixT (by decide) (w := .int t) rfl]
  exact H2 t h _ ht k
theorem in_add (Φ : FT) (H0 : S0 Φ) (H2 : S2 Φ) (H3 : S3 Φ) (cs : List Int) (us : List W) (lk : Looks cs us) (c0 c1 place many s v : Int) (h : IH) (P : W → IH → Prop) (H1 : Φ 1 [.tup [.str "add", .int s, .int v]] h = .ok (.bl true) h) (hs : slot s) (h0 : 0 ≤ v) (h1 : v ≤ 65535) (k : P (.bl true) h) : (callB (m4 Φ) 4 5 [.tup us, .tup [.int c0, .int c1], .tup [.str "add", .int s, .int v], .tup [.int place, .int many]] h).Wp P := by
  rw [x_callB (by rfl)]
  show (m4 _ [some (.tup us), some (.tup [.int c0, .int c1]), some (.tup [.str "add", .int s, .int v]), some (.tup [.int place, .int many]), none] h).Wp _
  unfold m4
  rw [x_seq]
  simp only [↓x_if, ↓x_not, ↓x_tru, ↓x_call, ↓x_cons, ↓x_nil, ↓v2]
  rw [H1, Rs.Wp_ok]
  simp only [↓x_truB]
  refine ⟨fun z => Bool.noConfusion z, fun _ => ?_⟩
  rw [x_next, x_seq, x_asg, x_e2, v2, x_C, x_ixT (by decide) (w := .str "add") rfl, n4]
  simp only [↓x_eqS, ↓x_inS, ↓x_eAnd, ↓v0, ↓n0, ↓v1, ↓n1, ↓v2, ↓n2, ↓v3, ↓n3, ↓v4, ↓n4, ↓v5, ↓n5, ↓v6, ↓n6, ↓v7, ↓n7, ↓v8, ↓n8, ↓v9, ↓n9, ↓v10, ↓n10, ↓v11, ↓n11, ↓v12, ↓n12, ↓v13, ↓n13, ↓v14, ↓n14, ↓v15, ↓n15, ↓v16, ↓n16, ↓v17, ↓n17, ↓v18, ↓n18, ↓x_seq, ↓x_if, ↓x_next, ↓x_brk, ↓x_cont, ↓x_asg, ↓x_expr, ↓x_ret, ↓x_retN, ↓x_par2, ↓x_par3, ↓x_C, ↓x_e1, ↓x_e2, ↓x_nil, ↓x_cons, ↓x_eA, ↓x_call, ↓x_tup, ↓x_lst, ↓x_eIf, ↓x_mt, ↓x_sl, ↓x_none, ↓x_some, ↓x_bol, ↓x_bolW, ↓x_tru, ↓x_not, ↓x_and, ↓x_or, ↓x_yes, ↓x_sb, ↓x_add, ↓x_sub, ↓x_mul, ↓x_mod, ↓x_div, ↓x_pow, ↓x_lt, ↓x_le, ↓x_gt, ↓x_ge, ↓x_eqI, ↓x_neI, ↓x_lenT, ↓x_int]
  refine ⟨by rfl, fun _ => ?_, fun z => absurd z (by decide +kernel)⟩
  rw [x_ixT (by decide) (w := .int s) rfl]
  refine H2 s h _ hs ?_
  rw [x_andK]
  refine ⟨fun _ => ?_, fun q => Bool.noConfusion q⟩
  simp only [↓v0, ↓n0, ↓v1, ↓n1, ↓v2, ↓n2, ↓v3, ↓n3, ↓v4, ↓n4, ↓v5, ↓n5, ↓v6, ↓n6, ↓v7, ↓n7, ↓v8, ↓n8, ↓v9, ↓n9, ↓v10, ↓n10, ↓v11, ↓n11, ↓v12, ↓n12, ↓v13, ↓n13, ↓v14, ↓n14, ↓v15, ↓n15, ↓v16, ↓n16, ↓v17, ↓n17, ↓v18, ↓n18, ↓x_seq, ↓x_if, ↓x_next, ↓x_brk, ↓x_cont, ↓x_asg, ↓x_expr, ↓x_ret, ↓x_retN, ↓x_par2, ↓x_par3, ↓x_C, ↓x_e1, ↓x_e2, ↓x_nil, ↓x_cons, ↓x_eA, ↓x_call, ↓x_tup, ↓x_lst, ↓x_eIf, ↓x_mt, ↓x_sl, ↓x_none, ↓x_some, ↓x_bol, ↓x_bolW, ↓x_tru, ↓x_not, ↓x_and, ↓x_or, ↓x_yes, ↓x_sb, ↓x_add, ↓x_sub, ↓x_mul, ↓x_mod, ↓x_div, ↓x_pow, ↓x_lt, ↓x_le, ↓x_gt, ↓x_ge, ↓x_eqI, ↓x_neI, ↓x_lenT, ↓x_int]
  rw [x_ixT (by decide) (w := .int v) rfl]
  refine H0 v _ _ h _ ?_
  rw [decide_eq_true (show 0 ≤ v ∧ v ≤ 65535 from ⟨h0, h1⟩)]
  exact k
theorem in_read (Φ : FT) (H0 : S0 Φ) (H2 : S2 Φ) (H3 : S3 Φ) (cs : List Int) (us : List W) (lk : Looks cs us) (c0 c1 place many s u f : Int) (h : IH) (P : W → IH → Prop) (H1 : Φ 1 [.tup [.str "read", .int s, .int u, .int f]] h = .ok (.bl true) h) (hs : slot s) (hf : FieldOk cs u f) (k : P (.bl true) h) : (callB (m4 Φ) 4 5 [.tup us, .tup [.int c0, .int c1], .tup [.str "read", .int s, .int u, .int f], .tup [.int place, .int many]] h).Wp P := by
  rw [x_callB (by rfl)]
  show (m4 _ [some (.tup us), some (.tup [.int c0, .int c1]), some (.tup [.str "read", .int s, .int u, .int f]), some (.tup [.int place, .int many]), none] h).Wp _
  unfold m4
  rw [x_seq]
  simp only [↓x_if, ↓x_not, ↓x_tru, ↓x_call, ↓x_cons, ↓x_nil, ↓v2]
  rw [H1, Rs.Wp_ok]
  simp only [↓x_truB]
  refine ⟨fun z => Bool.noConfusion z, fun _ => ?_⟩
  rw [x_next, x_seq, x_asg, x_e2, v2, x_C, x_ixT (by decide) (w := .str "read") rfl, n4]
  simp only [↓x_eqS, ↓x_inS, ↓x_eAnd, ↓v0, ↓n0, ↓v1, ↓n1, ↓v2, ↓n2, ↓v3, ↓n3, ↓v4, ↓n4, ↓v5, ↓n5, ↓v6, ↓n6, ↓v7, ↓n7, ↓v8, ↓n8, ↓v9, ↓n9, ↓v10, ↓n10, ↓v11, ↓n11, ↓v12, ↓n12, ↓v13, ↓n13, ↓v14, ↓n14, ↓v15, ↓n15, ↓v16, ↓n16, ↓v17, ↓n17, ↓v18, ↓n18, ↓x_seq, ↓x_if, ↓x_next, ↓x_brk, ↓x_cont, ↓x_asg, ↓x_expr, ↓x_ret, ↓x_retN, ↓x_par2, ↓x_par3, ↓x_C, ↓x_e1, ↓x_e2, ↓x_nil, ↓x_cons, ↓x_eA, ↓x_call, ↓x_tup, ↓x_lst, ↓x_eIf, ↓x_mt, ↓x_sl, ↓x_none, ↓x_some, ↓x_bol, ↓x_bolW, ↓x_tru, ↓x_not, ↓x_and, ↓x_or, ↓x_yes, ↓x_sb, ↓x_add, ↓x_sub, ↓x_mul, ↓x_mod, ↓x_div, ↓x_pow, ↓x_lt, ↓x_le, ↓x_gt, ↓x_ge, ↓x_eqI, ↓x_neI, ↓x_lenT, ↓x_int]
  refine ⟨by rfl, fun z => absurd z (by decide +kernel), fun _ => ?_⟩
  refine ⟨fun z => absurd z (by decide +kernel), fun _ => ?_⟩
  refine ⟨fun _ => ?_, fun z => absurd z (by decide +kernel)⟩
  rw [x_ixT (by decide) (w := .int s) rfl]
  refine H2 s h _ hs ?_
  rw [x_andK]
  refine ⟨fun _ => ?_, fun q => Bool.noConfusion q⟩
  simp only [↓v0, ↓n0, ↓v1, ↓n1, ↓v2, ↓n2, ↓v3, ↓n3, ↓v4, ↓n4, ↓v5, ↓n5, ↓v6, ↓n6, ↓v7, ↓n7, ↓v8, ↓n8, ↓v9, ↓n9, ↓v10, ↓n10, ↓v11, ↓n11, ↓v12, ↓n12, ↓v13, ↓n13, ↓v14, ↓n14, ↓v15, ↓n15, ↓v16, ↓n16, ↓v17, ↓n17, ↓v18, ↓n18, ↓x_seq, ↓x_if, ↓x_next, ↓x_brk, ↓x_cont, ↓x_asg, ↓x_expr, ↓x_ret, ↓x_retN, ↓x_par2, ↓x_par3, ↓x_C, ↓x_e1, ↓x_e2, ↓x_nil, ↓x_cons, ↓x_eA, ↓x_call, ↓x_tup, ↓x_lst, ↓x_eIf, ↓x_mt, ↓x_sl, ↓x_none, ↓x_some, ↓x_bol, ↓x_bolW, ↓x_tru, ↓x_not, ↓x_and, ↓x_or, ↓x_yes, ↓x_sb, ↓x_add, ↓x_sub, ↓x_mul, ↓x_mod, ↓x_div, ↓x_pow, ↓x_lt, ↓x_le, ↓x_gt, ↓x_ge, ↓x_eqI, ↓x_neI, ↓x_lenT, ↓x_int]
  rw [x_ixT (by decide) (w := .int u) rfl, x_ixT (by decide) (w := .int f) rfl]
  exact H3 cs us u f h _ lk hf k
theorem in_write (Φ : FT) (H0 : S0 Φ) (H2 : S2 Φ) (H3 : S3 Φ) (cs : List Int) (us : List W) (lk : Looks cs us) (c0 c1 place many u f s : Int) (h : IH) (P : W → IH → Prop) (H1 : Φ 1 [.tup [.str "write", .int u, .int f, .int s]] h = .ok (.bl true) h) (hs : slot s) (hf : FieldOk cs u f) (k : P (.bl true) h) : (callB (m4 Φ) 4 5 [.tup us, .tup [.int c0, .int c1], .tup [.str "write", .int u, .int f, .int s], .tup [.int place, .int many]] h).Wp P := by
  rw [x_callB (by rfl)]
  show (m4 _ [some (.tup us), some (.tup [.int c0, .int c1]), some (.tup [.str "write", .int u, .int f, .int s]), some (.tup [.int place, .int many]), none] h).Wp _
  unfold m4
  rw [x_seq]
  simp only [↓x_if, ↓x_not, ↓x_tru, ↓x_call, ↓x_cons, ↓x_nil, ↓v2]
  rw [H1, Rs.Wp_ok]
  simp only [↓x_truB]
  refine ⟨fun z => Bool.noConfusion z, fun _ => ?_⟩
  rw [x_next, x_seq, x_asg, x_e2, v2, x_C, x_ixT (by decide) (w := .str "write") rfl, n4]
  simp only [↓x_eqS, ↓x_inS, ↓x_eAnd, ↓v0, ↓n0, ↓v1, ↓n1, ↓v2, ↓n2, ↓v3, ↓n3, ↓v4, ↓n4, ↓v5, ↓n5, ↓v6, ↓n6, ↓v7, ↓n7, ↓v8, ↓n8, ↓v9, ↓n9, ↓v10, ↓n10, ↓v11, ↓n11, ↓v12, ↓n12, ↓v13, ↓n13, ↓v14, ↓n14, ↓v15, ↓n15, ↓v16, ↓n16, ↓v17, ↓n17, ↓v18, ↓n18, ↓x_seq, ↓x_if, ↓x_next, ↓x_brk, ↓x_cont, ↓x_asg, ↓x_expr, ↓x_ret, ↓x_retN, ↓x_par2, ↓x_par3, ↓x_C, ↓x_e1, ↓x_e2, ↓x_nil, ↓x_cons, ↓x_eA, ↓x_call, ↓x_tup, ↓x_lst, ↓x_eIf, ↓x_mt, ↓x_sl, ↓x_none, ↓x_some, ↓x_bol, ↓x_bolW, ↓x_tru, ↓x_not, ↓x_and, ↓x_or, ↓x_yes, ↓x_sb, ↓x_add, ↓x_sub, ↓x_mul, ↓x_mod, ↓x_div, ↓x_pow, ↓x_lt, ↓x_le, ↓x_gt, ↓x_ge, ↓x_eqI, ↓x_neI, ↓x_lenT, ↓x_int]
  refine ⟨by rfl, fun z => absurd z (by decide +kernel), fun _ => ?_⟩
  refine ⟨fun z => absurd z (by decide +kernel), fun _ => ?_⟩
  refine ⟨fun z => absurd z (by decide +kernel), fun _ => ?_⟩
  refine ⟨fun _ => ?_, fun z => absurd z (by decide +kernel)⟩
  rw [x_ixT (by decide) (w := .int u) rfl, x_ixT (by decide) (w := .int f) rfl]
  refine H3 cs us u f h _ lk hf ?_
  rw [x_andK]
  refine ⟨fun _ => ?_, fun q => Bool.noConfusion q⟩
  simp only [↓v0, ↓n0, ↓v1, ↓n1, ↓v2, ↓n2, ↓v3, ↓n3, ↓v4, ↓n4, ↓v5, ↓n5, ↓v6, ↓n6, ↓v7, ↓n7, ↓v8, ↓n8, ↓v9, ↓n9, ↓v10, ↓n10, ↓v11, ↓n11, ↓v12, ↓n12, ↓v13, ↓n13, ↓v14, ↓n14, ↓v15, ↓n15, ↓v16, ↓n16, ↓v17, ↓n17, ↓v18, ↓n18, ↓x_seq, ↓x_if, ↓x_next, ↓x_brk, ↓x_cont, ↓x_asg, ↓x_expr, ↓x_ret, ↓x_retN, ↓x_par2, ↓x_par3, ↓x_C, ↓x_e1, ↓x_e2, ↓x_nil, ↓x_cons, ↓x_eA, ↓x_call, ↓x_tup, ↓x_lst, ↓x_eIf, ↓x_mt, ↓x_sl, ↓x_none, ↓x_some, ↓x_bol, ↓x_bolW, ↓x_tru, ↓x_not, ↓x_and, ↓x_or, ↓x_yes, ↓x_sb, ↓x_add, ↓x_sub, ↓x_mul, ↓x_mod, ↓x_div, ↓x_pow, ↓x_lt, ↓x_le, ↓x_gt, ↓x_ge, ↓x_eqI, ↓x_neI, ↓x_lenT, ↓x_int]
  rw [x_ixT (by decide) (w := .int s) rfl]
  exact H2 s h _ hs k
theorem in_fail (Φ : FT) (H0 : S0 Φ) (H2 : S2 Φ) (H3 : S3 Φ) (cs : List Int) (us : List W) (lk : Looks cs us) (c0 c1 place many : Int) (h : IH) (P : W → IH → Prop) (H1 : Φ 1 [.tup [.str "fail"]] h = .ok (.bl true) h)  (k : P (.bl true) h) : (callB (m4 Φ) 4 5 [.tup us, .tup [.int c0, .int c1], .tup [.str "fail"], .tup [.int place, .int many]] h).Wp P := by
  rw [x_callB (by rfl)]
  show (m4 _ [some (.tup us), some (.tup [.int c0, .int c1]), some (.tup [.str "fail"]), some (.tup [.int place, .int many]), none] h).Wp _
  unfold m4
  rw [x_seq]
  simp only [↓x_if, ↓x_not, ↓x_tru, ↓x_call, ↓x_cons, ↓x_nil, ↓v2]
  rw [H1, Rs.Wp_ok]
  simp only [↓x_truB]
  refine ⟨fun z => Bool.noConfusion z, fun _ => ?_⟩
  rw [x_next, x_seq, x_asg, x_e2, v2, x_C, x_ixT (by decide) (w := .str "fail") rfl, n4]
  simp only [↓x_eqS, ↓x_inS, ↓x_eAnd, ↓v0, ↓n0, ↓v1, ↓n1, ↓v2, ↓n2, ↓v3, ↓n3, ↓v4, ↓n4, ↓v5, ↓n5, ↓v6, ↓n6, ↓v7, ↓n7, ↓v8, ↓n8, ↓v9, ↓n9, ↓v10, ↓n10, ↓v11, ↓n11, ↓v12, ↓n12, ↓v13, ↓n13, ↓v14, ↓n14, ↓v15, ↓n15, ↓v16, ↓n16, ↓v17, ↓n17, ↓v18, ↓n18, ↓x_seq, ↓x_if, ↓x_next, ↓x_brk, ↓x_cont, ↓x_asg, ↓x_expr, ↓x_ret, ↓x_retN, ↓x_par2, ↓x_par3, ↓x_C, ↓x_e1, ↓x_e2, ↓x_nil, ↓x_cons, ↓x_eA, ↓x_call, ↓x_tup, ↓x_lst, ↓x_eIf, ↓x_mt, ↓x_sl, ↓x_none, ↓x_some, ↓x_bol, ↓x_bolW, ↓x_tru, ↓x_not, ↓x_and, ↓x_or, ↓x_yes, ↓x_sb, ↓x_add, ↓x_sub, ↓x_mul, ↓x_mod, ↓x_div, ↓x_pow, ↓x_lt, ↓x_le, ↓x_gt, ↓x_ge, ↓x_eqI, ↓x_neI, ↓x_lenT, ↓x_int]
  refine ⟨by rfl, fun z => absurd z (by decide +kernel), fun _ => ?_⟩
  refine ⟨fun z => absurd z (by decide +kernel), fun _ => ?_⟩
  refine ⟨fun z => absurd z (by decide +kernel), fun _ => ?_⟩
  refine ⟨fun z => absurd z (by decide +kernel), fun _ => ?_⟩
  refine ⟨by rfl, fun z => absurd z (by decide +kernel), fun _ => ?_⟩
  refine ⟨fun z => absurd z (by decide +kernel), fun _ => ?_⟩
  refine ⟨fun z => absurd z (by decide +kernel), fun _ => ?_⟩
  refine ⟨fun z => absurd z (by decide +kernel), fun _ => ?_⟩
  exact k
theorem in_input (Φ : FT) (H0 : S0 Φ) (H2 : S2 Φ) (H3 : S3 Φ) (cs : List Int) (us : List W) (lk : Looks cs us) (c0 c1 place many s : Int) (h : IH) (P : W → IH → Prop) (H1 : Φ 1 [.tup [.str "input", .int s]] h = .ok (.bl true) h) (hs : slot s) (k : P (.bl true) h) : (callB (m4 Φ) 4 5 [.tup us, .tup [.int c0, .int c1], .tup [.str "input", .int s], .tup [.int place, .int many]] h).Wp P := by
  rw [x_callB (by rfl)]
  show (m4 _ [some (.tup us), some (.tup [.int c0, .int c1]), some (.tup [.str "input", .int s]), some (.tup [.int place, .int many]), none] h).Wp _
  unfold m4
  rw [x_seq]
  simp only [↓x_if, ↓x_not, ↓x_tru, ↓x_call, ↓x_cons, ↓x_nil, ↓v2]
  rw [H1, Rs.Wp_ok]
  simp only [↓x_truB]
  refine ⟨fun z => Bool.noConfusion z, fun _ => ?_⟩
  rw [x_next, x_seq, x_asg, x_e2, v2, x_C, x_ixT (by decide) (w := .str "input") rfl, n4]
  simp only [↓x_eqS, ↓x_inS, ↓x_eAnd, ↓v0, ↓n0, ↓v1, ↓n1, ↓v2, ↓n2, ↓v3, ↓n3, ↓v4, ↓n4, ↓v5, ↓n5, ↓v6, ↓n6, ↓v7, ↓n7, ↓v8, ↓n8, ↓v9, ↓n9, ↓v10, ↓n10, ↓v11, ↓n11, ↓v12, ↓n12, ↓v13, ↓n13, ↓v14, ↓n14, ↓v15, ↓n15, ↓v16, ↓n16, ↓v17, ↓n17, ↓v18, ↓n18, ↓x_seq, ↓x_if, ↓x_next, ↓x_brk, ↓x_cont, ↓x_asg, ↓x_expr, ↓x_ret, ↓x_retN, ↓x_par2, ↓x_par3, ↓x_C, ↓x_e1, ↓x_e2, ↓x_nil, ↓x_cons, ↓x_eA, ↓x_call, ↓x_tup, ↓x_lst, ↓x_eIf, ↓x_mt, ↓x_sl, ↓x_none, ↓x_some, ↓x_bol, ↓x_bolW, ↓x_tru, ↓x_not, ↓x_and, ↓x_or, ↓x_yes, ↓x_sb, ↓x_add, ↓x_sub, ↓x_mul, ↓x_mod, ↓x_div, ↓x_pow, ↓x_lt, ↓x_le, ↓x_gt, ↓x_ge, ↓x_eqI, ↓x_neI, ↓x_lenT, ↓x_int]
  refine ⟨by rfl, fun z => absurd z (by decide +kernel), fun _ => ?_⟩
  refine ⟨fun z => absurd z (by decide +kernel), fun _ => ?_⟩
  refine ⟨fun z => absurd z (by decide +kernel), fun _ => ?_⟩
  refine ⟨fun z => absurd z (by decide +kernel), fun _ => ?_⟩
  refine ⟨by rfl, fun _ => ?_, fun z => absurd z (by decide +kernel)⟩
  rw [x_ixT (by decide) (w := .int s) rfl]
  exact H2 s h _ hs k
theorem in_show (Φ : FT) (H0 : S0 Φ) (H2 : S2 Φ) (H3 : S3 Φ) (cs : List Int) (us : List W) (lk : Looks cs us) (c0 c1 place many s : Int) (h : IH) (P : W → IH → Prop) (H1 : Φ 1 [.tup [.str "show", .int s]] h = .ok (.bl true) h) (hs : slot s) (k : P (.bl true) h) : (callB (m4 Φ) 4 5 [.tup us, .tup [.int c0, .int c1], .tup [.str "show", .int s], .tup [.int place, .int many]] h).Wp P := by
  rw [x_callB (by rfl)]
  show (m4 _ [some (.tup us), some (.tup [.int c0, .int c1]), some (.tup [.str "show", .int s]), some (.tup [.int place, .int many]), none] h).Wp _
  unfold m4
  rw [x_seq]
  simp only [↓x_if, ↓x_not, ↓x_tru, ↓x_call, ↓x_cons, ↓x_nil, ↓v2]
  rw [H1, Rs.Wp_ok]
  simp only [↓x_truB]
  refine ⟨fun z => Bool.noConfusion z, fun _ => ?_⟩
  rw [x_next, x_seq, x_asg, x_e2, v2, x_C, x_ixT (by decide) (w := .str "show") rfl, n4]
  simp only [↓x_eqS, ↓x_inS, ↓x_eAnd, ↓v0, ↓n0, ↓v1, ↓n1, ↓v2, ↓n2, ↓v3, ↓n3, ↓v4, ↓n4, ↓v5, ↓n5, ↓v6, ↓n6, ↓v7, ↓n7, ↓v8, ↓n8, ↓v9, ↓n9, ↓v10, ↓n10, ↓v11, ↓n11, ↓v12, ↓n12, ↓v13, ↓n13, ↓v14, ↓n14, ↓v15, ↓n15, ↓v16, ↓n16, ↓v17, ↓n17, ↓v18, ↓n18, ↓x_seq, ↓x_if, ↓x_next, ↓x_brk, ↓x_cont, ↓x_asg, ↓x_expr, ↓x_ret, ↓x_retN, ↓x_par2, ↓x_par3, ↓x_C, ↓x_e1, ↓x_e2, ↓x_nil, ↓x_cons, ↓x_eA, ↓x_call, ↓x_tup, ↓x_lst, ↓x_eIf, ↓x_mt, ↓x_sl, ↓x_none, ↓x_some, ↓x_bol, ↓x_bolW, ↓x_tru, ↓x_not, ↓x_and, ↓x_or, ↓x_yes, ↓x_sb, ↓x_add, ↓x_sub, ↓x_mul, ↓x_mod, ↓x_div, ↓x_pow, ↓x_lt, ↓x_le, ↓x_gt, ↓x_ge, ↓x_eqI, ↓x_neI, ↓x_lenT, ↓x_int]
  refine ⟨by rfl, fun z => absurd z (by decide +kernel), fun _ => ?_⟩
  refine ⟨fun z => absurd z (by decide +kernel), fun _ => ?_⟩
  refine ⟨fun z => absurd z (by decide +kernel), fun _ => ?_⟩
  refine ⟨fun z => absurd z (by decide +kernel), fun _ => ?_⟩
  refine ⟨by rfl, fun _ => ?_, fun z => absurd z (by decide +kernel)⟩
  rw [x_ixT (by decide) (w := .int s) rfl]
  exact H2 s h _ hs k
theorem in_branch (Φ : FT) (H0 : S0 Φ) (H2 : S2 Φ) (H3 : S3 Φ) (cs : List Int) (us : List W) (lk : Looks cs us) (c0 c1 place many t : Int) (h : IH) (P : W → IH → Prop) (H1 : Φ 1 [.tup [.str "branch", .int t]] h = .ok (.bl true) h) (h0 : 0 ≤ t) (h1 : t ≤ many) (k : P (.bl true) h) : (callB (m4 Φ) 4 5 [.tup us, .tup [.int c0, .int c1], .tup [.str "branch", .int t], .tup [.int place, .int many]] h).Wp P := by
  rw [x_callB (by rfl)]
  show (m4 _ [some (.tup us), some (.tup [.int c0, .int c1]), some (.tup [.str "branch", .int t]), some (.tup [.int place, .int many]), none] h).Wp _
  unfold m4
  rw [x_seq]
  simp only [↓x_if, ↓x_not, ↓x_tru, ↓x_call, ↓x_cons, ↓x_nil, ↓v2]
  rw [H1, Rs.Wp_ok]
  simp only [↓x_truB]
  refine ⟨fun z => Bool.noConfusion z, fun _ => ?_⟩
  rw [x_next, x_seq, x_asg, x_e2, v2, x_C, x_ixT (by decide) (w := .str "branch") rfl, n4]
  simp only [↓x_eqS, ↓x_inS, ↓x_eAnd, ↓v0, ↓n0, ↓v1, ↓n1, ↓v2, ↓n2, ↓v3, ↓n3, ↓v4, ↓n4, ↓v5, ↓n5, ↓v6, ↓n6, ↓v7, ↓n7, ↓v8, ↓n8, ↓v9, ↓n9, ↓v10, ↓n10, ↓v11, ↓n11, ↓v12, ↓n12, ↓v13, ↓n13, ↓v14, ↓n14, ↓v15, ↓n15, ↓v16, ↓n16, ↓v17, ↓n17, ↓v18, ↓n18, ↓x_seq, ↓x_if, ↓x_next, ↓x_brk, ↓x_cont, ↓x_asg, ↓x_expr, ↓x_ret, ↓x_retN, ↓x_par2, ↓x_par3, ↓x_C, ↓x_e1, ↓x_e2, ↓x_nil, ↓x_cons, ↓x_eA, ↓x_call, ↓x_tup, ↓x_lst, ↓x_eIf, ↓x_mt, ↓x_sl, ↓x_none, ↓x_some, ↓x_bol, ↓x_bolW, ↓x_tru, ↓x_not, ↓x_and, ↓x_or, ↓x_yes, ↓x_sb, ↓x_add, ↓x_sub, ↓x_mul, ↓x_mod, ↓x_div, ↓x_pow, ↓x_lt, ↓x_le, ↓x_gt, ↓x_ge, ↓x_eqI, ↓x_neI, ↓x_lenT, ↓x_int]
  refine ⟨by rfl, fun z => absurd z (by decide +kernel), fun _ => ?_⟩
  refine ⟨fun z => absurd z (by decide +kernel), fun _ => ?_⟩
  refine ⟨fun z => absurd z (by decide +kernel), fun _ => ?_⟩
  refine ⟨fun z => absurd z (by decide +kernel), fun _ => ?_⟩
  refine ⟨by rfl, fun z => absurd z (by decide +kernel), fun _ => ?_⟩
  refine ⟨fun _ => ?_, fun z => absurd z (by decide +kernel)⟩
  rw [x_ixT (by decide) (w := .int t) rfl, x_ixT (by decide) (w := .int many) rfl]
  refine H0 t _ _ h _ ?_
  rw [decide_eq_true (show 0 ≤ t ∧ t ≤ many from ⟨h0, h1⟩)]
  exact k
theorem in_call (Φ : FT) (H0 : S0 Φ) (H2 : S2 Φ) (H3 : S3 Φ) (cs : List Int) (us : List W) (lk : Looks cs us) (c0 c1 place many g : Int) (h : IH) (P : W → IH → Prop) (H1 : Φ 1 [.tup [.str "call", .int g]] h = .ok (.bl true) h) (h0 : c0 ≤ g) (h1 : g ≤ c1) (k : P (.bl true) h) : (callB (m4 Φ) 4 5 [.tup us, .tup [.int c0, .int c1], .tup [.str "call", .int g], .tup [.int place, .int many]] h).Wp P := by
  rw [x_callB (by rfl)]
  show (m4 _ [some (.tup us), some (.tup [.int c0, .int c1]), some (.tup [.str "call", .int g]), some (.tup [.int place, .int many]), none] h).Wp _
  unfold m4
  rw [x_seq]
  simp only [↓x_if, ↓x_not, ↓x_tru, ↓x_call, ↓x_cons, ↓x_nil, ↓v2]
  rw [H1, Rs.Wp_ok]
  simp only [↓x_truB]
  refine ⟨fun z => Bool.noConfusion z, fun _ => ?_⟩
  rw [x_next, x_seq, x_asg, x_e2, v2, x_C, x_ixT (by decide) (w := .str "call") rfl, n4]
  simp only [↓x_eqS, ↓x_inS, ↓x_eAnd, ↓v0, ↓n0, ↓v1, ↓n1, ↓v2, ↓n2, ↓v3, ↓n3, ↓v4, ↓n4, ↓v5, ↓n5, ↓v6, ↓n6, ↓v7, ↓n7, ↓v8, ↓n8, ↓v9, ↓n9, ↓v10, ↓n10, ↓v11, ↓n11, ↓v12, ↓n12, ↓v13, ↓n13, ↓v14, ↓n14, ↓v15, ↓n15, ↓v16, ↓n16, ↓v17, ↓n17, ↓v18, ↓n18, ↓x_seq, ↓x_if, ↓x_next, ↓x_brk, ↓x_cont, ↓x_asg, ↓x_expr, ↓x_ret, ↓x_retN, ↓x_par2, ↓x_par3, ↓x_C, ↓x_e1, ↓x_e2, ↓x_nil, ↓x_cons, ↓x_eA, ↓x_call, ↓x_tup, ↓x_lst, ↓x_eIf, ↓x_mt, ↓x_sl, ↓x_none, ↓x_some, ↓x_bol, ↓x_bolW, ↓x_tru, ↓x_not, ↓x_and, ↓x_or, ↓x_yes, ↓x_sb, ↓x_add, ↓x_sub, ↓x_mul, ↓x_mod, ↓x_div, ↓x_pow, ↓x_lt, ↓x_le, ↓x_gt, ↓x_ge, ↓x_eqI, ↓x_neI, ↓x_lenT, ↓x_int]
  refine ⟨by rfl, fun z => absurd z (by decide +kernel), fun _ => ?_⟩
  refine ⟨fun z => absurd z (by decide +kernel), fun _ => ?_⟩
  refine ⟨fun z => absurd z (by decide +kernel), fun _ => ?_⟩
  refine ⟨fun z => absurd z (by decide +kernel), fun _ => ?_⟩
  refine ⟨by rfl, fun z => absurd z (by decide +kernel), fun _ => ?_⟩
  refine ⟨fun z => absurd z (by decide +kernel), fun _ => ?_⟩
  refine ⟨fun _ => ?_, fun z => absurd z (by decide +kernel)⟩
  rw [x_ixT (by decide) (w := .int g) rfl, x_ixT (by decide) (w := .int c0) rfl, x_ixT (by decide) (w := .int c1) rfl]
  refine H0 g _ _ h _ ?_
  rw [decide_eq_true (show c0 ≤ g ∧ g ≤ c1 from ⟨h0, h1⟩)]
  exact k
theorem in_wake (Φ : FT) (H0 : S0 Φ) (H2 : S2 Φ) (H3 : S3 Φ) (cs : List Int) (us : List W) (lk : Looks cs us) (c0 c1 place many u t : Int) (h : IH) (P : W → IH → Prop) (H1 : Φ 1 [.tup [.str "wake", .int u, .int t]] h = .ok (.bl true) h) (u0 : 0 ≤ u) (u1 : u < cs.length) (h0 : place < t) (h1 : t ≤ many) (k : P (.bl true) h) : (callB (m4 Φ) 4 5 [.tup us, .tup [.int c0, .int c1], .tup [.str "wake", .int u, .int t], .tup [.int place, .int many]] h).Wp P := by
  rw [x_callB (by rfl)]
  show (m4 _ [some (.tup us), some (.tup [.int c0, .int c1]), some (.tup [.str "wake", .int u, .int t]), some (.tup [.int place, .int many]), none] h).Wp _
  unfold m4
  rw [x_seq]
  simp only [↓x_if, ↓x_not, ↓x_tru, ↓x_call, ↓x_cons, ↓x_nil, ↓v2]
  rw [H1, Rs.Wp_ok]
  simp only [↓x_truB]
  refine ⟨fun z => Bool.noConfusion z, fun _ => ?_⟩
  rw [x_next, x_seq, x_asg, x_e2, v2, x_C, x_ixT (by decide) (w := .str "wake") rfl, n4]
  simp only [↓x_eqS, ↓x_inS, ↓x_eAnd, ↓v0, ↓n0, ↓v1, ↓n1, ↓v2, ↓n2, ↓v3, ↓n3, ↓v4, ↓n4, ↓v5, ↓n5, ↓v6, ↓n6, ↓v7, ↓n7, ↓v8, ↓n8, ↓v9, ↓n9, ↓v10, ↓n10, ↓v11, ↓n11, ↓v12, ↓n12, ↓v13, ↓n13, ↓v14, ↓n14, ↓v15, ↓n15, ↓v16, ↓n16, ↓v17, ↓n17, ↓v18, ↓n18, ↓x_seq, ↓x_if, ↓x_next, ↓x_brk, ↓x_cont, ↓x_asg, ↓x_expr, ↓x_ret, ↓x_retN, ↓x_par2, ↓x_par3, ↓x_C, ↓x_e1, ↓x_e2, ↓x_nil, ↓x_cons, ↓x_eA, ↓x_call, ↓x_tup, ↓x_lst, ↓x_eIf, ↓x_mt, ↓x_sl, ↓x_none, ↓x_some, ↓x_bol, ↓x_bolW, ↓x_tru, ↓x_not, ↓x_and, ↓x_or, ↓x_yes, ↓x_sb, ↓x_add, ↓x_sub, ↓x_mul, ↓x_mod, ↓x_div, ↓x_pow, ↓x_lt, ↓x_le, ↓x_gt, ↓x_ge, ↓x_eqI, ↓x_neI, ↓x_lenT, ↓x_int]
  refine ⟨by rfl, fun z => absurd z (by decide +kernel), fun _ => ?_⟩
  refine ⟨fun z => absurd z (by decide +kernel), fun _ => ?_⟩
  refine ⟨fun z => absurd z (by decide +kernel), fun _ => ?_⟩
  refine ⟨fun z => absurd z (by decide +kernel), fun _ => ?_⟩
  refine ⟨by rfl, fun z => absurd z (by decide +kernel), fun _ => ?_⟩
  refine ⟨fun z => absurd z (by decide +kernel), fun _ => ?_⟩
  refine ⟨fun z => absurd z (by decide +kernel), fun _ => ?_⟩
  refine ⟨fun _ => ?_, fun z => absurd z (by decide +kernel)⟩
  rw [x_ixT (by decide) (w := .int u) rfl]
  refine H0 u _ _ h _ ?_
  rw [decide_eq_true (show 0 ≤ u ∧ u ≤ (us.length : Int) - 1 by have := lk.1; omega), x_andK]
  refine ⟨fun _ => ?_, fun q => Bool.noConfusion q⟩
  simp only [↓v0, ↓n0, ↓v1, ↓n1, ↓v2, ↓n2, ↓v3, ↓n3, ↓v4, ↓n4, ↓v5, ↓n5, ↓v6, ↓n6, ↓v7, ↓n7, ↓v8, ↓n8, ↓v9, ↓n9, ↓v10, ↓n10, ↓v11, ↓n11, ↓v12, ↓n12, ↓v13, ↓n13, ↓v14, ↓n14, ↓v15, ↓n15, ↓v16, ↓n16, ↓v17, ↓n17, ↓v18, ↓n18, ↓x_seq, ↓x_if, ↓x_next, ↓x_brk, ↓x_cont, ↓x_asg, ↓x_expr, ↓x_ret, ↓x_retN, ↓x_par2, ↓x_par3, ↓x_C, ↓x_e1, ↓x_e2, ↓x_nil, ↓x_cons, ↓x_eA, ↓x_call, ↓x_tup, ↓x_lst, ↓x_eIf, ↓x_mt, ↓x_sl, ↓x_none, ↓x_some, ↓x_bol, ↓x_bolW, ↓x_tru, ↓x_not, ↓x_and, ↓x_or, ↓x_yes, ↓x_sb, ↓x_add, ↓x_sub, ↓x_mul, ↓x_mod, ↓x_div, ↓x_pow, ↓x_lt, ↓x_le, ↓x_gt, ↓x_ge, ↓x_eqI, ↓x_neI, ↓x_lenT, ↓x_int]
  rw [x_ixT (by decide) (w := .int t) rfl, x_ixT (by decide) (w := .int place) rfl]
  simp only [↓x_add]
  rw [x_ixT (by decide) (w := .int many) rfl]
  refine H0 t _ _ h _ ?_
  rw [decide_eq_true (show place + 1 ≤ t ∧ t ≤ many by omega)]
  exact k
end K25

set_option linter.all false
set_option linter.unusedSimpArgs false
set_option maxRecDepth 100000
set_option maxHeartbeats 1000000
namespace K25
open PySem Fw
def S4 (Φ : FT) : Prop := ∀ (cs : List Int) (us : List W), Looks cs us → ∀ (number nf place many : Int) (w : W) (h : IH) (P : W → IH → Prop), Lin cs nf number place many w → P (.bl true) h → (Φ 4 [.tup us, .tup [.int (number + 1), .int (nf - 1)], w, .tup [.int place, .int many]] h).Wp P
theorem ph1 (k : Nat) (ws : List W) (h : IH) : Phi gk tab (k + 1) 1 ws h = callB (m1 (Phi gk tab k)) 1 1 ws h := phi1 k ws h
theorem ph4 (k : Nat) : S4 (Phi gk tab (k + 3)) := fun cs us lk number nf place many w h P l z => by
  rw [phi4]
  have H0 : S0 (Phi gk tab (k + 2)) := ph0 (k + 1)
  have H2 : S2 (Phi gk tab (k + 2)) := ph2 k
  have H3 : S3 (Phi gk tab (k + 2)) := ph3 k
  cases l with
  | ins i =>
    cases i with
    | fail => exact in_fail _ H0 H2 H3 cs us lk _ _ _ _ h P (by rw [phi1]; exact hw_fail _ h) z
    | num hs h0 h1 => exact in_num _ H0 H2 H3 cs us lk _ _ _ _ _ _ h P (by rw [phi1]; exact hw_num _ h _ _) hs h0 h1 z
    | copy hs ht => exact in_copy _ H0 H2 H3 cs us lk _ _ _ _ _ _ h P (by rw [phi1]; exact hw_copy _ h _ _) hs ht z
    | add hs h0 h1 => exact in_add _ H0 H2 H3 cs us lk _ _ _ _ _ _ h P (by rw [phi1]; exact hw_add _ h _ _) hs h0 h1 z
    | read hs hf => exact in_read _ H0 H2 H3 cs us lk _ _ _ _ _ _ _ h P (by rw [phi1]; exact hw_read _ h _ _ _) hs hf z
    | write hs hf => exact in_write _ H0 H2 H3 cs us lk _ _ _ _ _ _ _ h P (by rw [phi1]; exact hw_write _ h _ _ _) hs hf z
  | input hs => exact in_input _ H0 H2 H3 cs us lk _ _ _ _ _ h P (by rw [phi1]; exact hw_input _ h _) hs z
  | show_ hs => exact in_show _ H0 H2 H3 cs us lk _ _ _ _ _ h P (by rw [phi1]; exact hw_show _ h _) hs z
  | branch h0 h1 => exact in_branch _ H0 H2 H3 cs us lk _ _ _ _ _ h P (by rw [phi1]; exact hw_branch _ h _) h0 h1 z
  | call h0 h1 => exact in_call _ H0 H2 H3 cs us lk _ _ _ _ _ h P (by rw [phi1]; exact hw_call _ h _) (by omega) (by omega) z
  | wake u0 u1 h0 h1 => exact in_wake _ H0 H2 H3 cs us lk _ _ _ _ _ _ h P (by rw [phi1]; exact hw_wake _ h _ _) u0 u1 h0 h1 z
def S5 (Φ : FT) : Prop := ∀ (cs : List Int) (i : Nat) (w : W) (h : IH) (P : W → IH → Prop), CsOk cs → UnitOk cs i w → P (.bl true) h → (Φ 5 [w, .int i] h).Wp P
theorem ph5 (k : Nat) : S5 (Phi gk tab (k + 2)) := fun cs i w h P ok ⟨par, n, body, e, hn, hp, _, hb⟩ z => by
  subst e
  obtain ⟨n0, n1⟩ := ok n (List.mem_of_getElem? hn)
  rw [phi5, x_callB (by rfl)]
  show (m5 _ [some (.tup [par, .int n, .tup body]), some (.int i)] h).Wp _
  unfold m5
  refine seq_cut (fun (e : Fw.Env) h' => e = [some (.tup [par, .int n, .tup body]), some (.int i)] ∧ h = h') ?_ ?_
  · simp only [↓x_isiT, ↓x_truB, ↓v0, ↓n0, ↓v1, ↓n1, ↓v2, ↓n2, ↓v3, ↓n3, ↓v4, ↓n4, ↓v5, ↓n5, ↓v6, ↓n6, ↓v7, ↓n7, ↓v8, ↓n8, ↓v9, ↓n9, ↓v10, ↓n10, ↓v11, ↓n11, ↓v12, ↓n12, ↓v13, ↓n13, ↓v14, ↓n14, ↓v15, ↓n15, ↓v16, ↓n16, ↓v17, ↓n17, ↓v18, ↓n18, ↓x_seq, ↓x_if, ↓x_next, ↓x_brk, ↓x_cont, ↓x_asg, ↓x_expr, ↓x_ret, ↓x_retN, ↓x_par2, ↓x_par3, ↓x_C, ↓x_e1, ↓x_e2, ↓x_nil, ↓x_cons, ↓x_eA, ↓x_call, ↓x_tup, ↓x_lst, ↓x_eIf, ↓x_mt, ↓x_sl, ↓x_none, ↓x_some, ↓x_bol, ↓x_bolW, ↓x_tru, ↓x_not, ↓x_and, ↓x_or, ↓x_yes, ↓x_sb, ↓x_add, ↓x_sub, ↓x_mul, ↓x_mod, ↓x_div, ↓x_pow, ↓x_lt, ↓x_le, ↓x_gt, ↓x_ge, ↓x_eqI, ↓x_neI, ↓x_lenT, ↓x_int]
    refine ⟨fun q => absurd q (by decide), fun _ => ⟨fun q => absurd q (by simp), fun _ => ?_⟩⟩
    rw [x_ixT (by decide) (w := .int n) rfl]
    refine ph0 k n 0 3 h _ ?_
    rw [decide_eq_true (show 0 ≤ n ∧ n ≤ 3 from ⟨n0, n1⟩)]
    simp only [↓x_truB]
    exact ⟨fun q => Bool.noConfusion q, fun _ => ⟨trivial, trivial⟩⟩
  rintro e h' ⟨rfl, rfl⟩
  refine seq_cut (fun (e : Fw.Env) h' => e = [some (.tup [par, .int n, .tup body]), some (.int i)] ∧ h = h') ?_ ?_
  · simp only [↓v0, ↓n0, ↓v1, ↓n1, ↓v2, ↓n2, ↓v3, ↓n3, ↓v4, ↓n4, ↓v5, ↓n5, ↓v6, ↓n6, ↓v7, ↓n7, ↓v8, ↓n8, ↓v9, ↓n9, ↓v10, ↓n10, ↓v11, ↓n11, ↓v12, ↓n12, ↓v13, ↓n13, ↓v14, ↓n14, ↓v15, ↓n15, ↓v16, ↓n16, ↓v17, ↓n17, ↓v18, ↓n18, ↓x_seq, ↓x_if, ↓x_next, ↓x_brk, ↓x_cont, ↓x_asg, ↓x_expr, ↓x_ret, ↓x_retN, ↓x_par2, ↓x_par3, ↓x_C, ↓x_e1, ↓x_e2, ↓x_nil, ↓x_cons, ↓x_eA, ↓x_call, ↓x_tup, ↓x_lst, ↓x_eIf, ↓x_mt, ↓x_sl, ↓x_none, ↓x_some, ↓x_bol, ↓x_bolW, ↓x_tru, ↓x_not, ↓x_and, ↓x_or, ↓x_yes, ↓x_sb, ↓x_add, ↓x_sub, ↓x_mul, ↓x_mod, ↓x_div, ↓x_pow, ↓x_lt, ↓x_le, ↓x_gt, ↓x_ge, ↓x_eqI, ↓x_neI, ↓x_lenT, ↓x_int]
    rw [x_ixT (by decide) (w := par) rfl]
    rcases hp with rfl | ⟨v, rfl, v0, v1⟩
    · rw [show oIsNot .non .non h = .ok (.bl false) h from rfl, Rs.Wp_ok]
      simp only [↓x_bolW]
      exact ⟨fun q => Bool.noConfusion q, fun _ => ⟨fun q => Bool.noConfusion q, fun _ => ⟨trivial, trivial⟩⟩⟩
    · rw [show oIsNot (.int v) .non h = .ok (.bl true) h from rfl, Rs.Wp_ok]
      simp only [↓x_bolW]
      refine ⟨fun _ => ?_, fun q => Bool.noConfusion q⟩
      rw [x_ixT (by decide) (w := .int v) rfl]
      refine ph0 k v 0 _ h _ ?_
      rw [decide_eq_true (show 0 ≤ v ∧ v ≤ (i : Int) - 1 by omega)]
      simp only [↓x_truB]
      exact ⟨fun q => Bool.noConfusion q, fun _ => ⟨trivial, trivial⟩⟩
  rintro e h' ⟨rfl, rfl⟩
  simp only [↓x_eAnd, ↓v0, ↓n0, ↓v1, ↓n1, ↓v2, ↓n2, ↓v3, ↓n3, ↓v4, ↓n4, ↓v5, ↓n5, ↓v6, ↓n6, ↓v7, ↓n7, ↓v8, ↓n8, ↓v9, ↓n9, ↓v10, ↓n10, ↓v11, ↓n11, ↓v12, ↓n12, ↓v13, ↓n13, ↓v14, ↓n14, ↓v15, ↓n15, ↓v16, ↓n16, ↓v17, ↓n17, ↓v18, ↓n18, ↓x_seq, ↓x_if, ↓x_next, ↓x_brk, ↓x_cont, ↓x_asg, ↓x_expr, ↓x_ret, ↓x_retN, ↓x_par2, ↓x_par3, ↓x_C, ↓x_e1, ↓x_e2, ↓x_nil, ↓x_cons, ↓x_eA, ↓x_call, ↓x_tup, ↓x_lst, ↓x_eIf, ↓x_mt, ↓x_sl, ↓x_none, ↓x_some, ↓x_bol, ↓x_bolW, ↓x_tru, ↓x_not, ↓x_and, ↓x_or, ↓x_yes, ↓x_sb, ↓x_add, ↓x_sub, ↓x_mul, ↓x_mod, ↓x_div, ↓x_pow, ↓x_lt, ↓x_le, ↓x_gt, ↓x_ge, ↓x_eqI, ↓x_neI, ↓x_lenT, ↓x_int]
  rw [x_ixT (by decide) (w := .tup body) rfl, x_isiT, x_andK]
  refine ⟨fun _ => ?_, fun q => absurd q (by decide)⟩
  simp only [↓v0, ↓n0, ↓v1, ↓n1, ↓v2, ↓n2, ↓v3, ↓n3, ↓v4, ↓n4, ↓v5, ↓n5, ↓v6, ↓n6, ↓v7, ↓n7, ↓v8, ↓n8, ↓v9, ↓n9, ↓v10, ↓n10, ↓v11, ↓n11, ↓v12, ↓n12, ↓v13, ↓n13, ↓v14, ↓n14, ↓v15, ↓n15, ↓v16, ↓n16, ↓v17, ↓n17, ↓v18, ↓n18, ↓x_seq, ↓x_if, ↓x_next, ↓x_brk, ↓x_cont, ↓x_asg, ↓x_expr, ↓x_ret, ↓x_retN, ↓x_par2, ↓x_par3, ↓x_C, ↓x_e1, ↓x_e2, ↓x_nil, ↓x_cons, ↓x_eA, ↓x_call, ↓x_tup, ↓x_lst, ↓x_eIf, ↓x_mt, ↓x_sl, ↓x_none, ↓x_some, ↓x_bol, ↓x_bolW, ↓x_tru, ↓x_not, ↓x_and, ↓x_or, ↓x_yes, ↓x_sb, ↓x_add, ↓x_sub, ↓x_mul, ↓x_mod, ↓x_div, ↓x_pow, ↓x_lt, ↓x_le, ↓x_gt, ↓x_ge, ↓x_eqI, ↓x_neI, ↓x_lenT, ↓x_int]
  rw [x_ixT (by decide) (w := .tup body) rfl, x_lenT, x_le, decide_eq_true (show (body.length : Int) ≤ 6 by omega)]
  exact z
def S6 (Φ : FT) : Prop := ∀ (us : List W) (u : Int) (body : List W) (h : IH) (P : W → IH → Prop), 0 ≤ u → u < us.length → 1 ≤ body.length → body.length ≤ 8 → P (.bl true) h → (Φ 6 [.tup us, .tup [.int u, .tup body]] h).Wp P
theorem ph6 (k : Nat) : S6 (Phi gk tab (k + 2)) := fun us u body h P u0 u1 b0 b1 z => by
  rw [phi6, x_callB (by rfl)]
  show (m6 _ [some (.tup us), some (.tup [.int u, .tup body])] h).Wp _
  unfold m6
  refine seq_cut (fun (e : Fw.Env) h' => e = [some (.tup us), some (.tup [.int u, .tup body])] ∧ h = h') ?_ ?_
  · simp only [↓x_isiT, ↓x_truB, ↓v0, ↓n0, ↓v1, ↓n1, ↓v2, ↓n2, ↓v3, ↓n3, ↓v4, ↓n4, ↓v5, ↓n5, ↓v6, ↓n6, ↓v7, ↓n7, ↓v8, ↓n8, ↓v9, ↓n9, ↓v10, ↓n10, ↓v11, ↓n11, ↓v12, ↓n12, ↓v13, ↓n13, ↓v14, ↓n14, ↓v15, ↓n15, ↓v16, ↓n16, ↓v17, ↓n17, ↓v18, ↓n18, ↓x_seq, ↓x_if, ↓x_next, ↓x_brk, ↓x_cont, ↓x_asg, ↓x_expr, ↓x_ret, ↓x_retN, ↓x_par2, ↓x_par3, ↓x_C, ↓x_e1, ↓x_e2, ↓x_nil, ↓x_cons, ↓x_eA, ↓x_call, ↓x_tup, ↓x_lst, ↓x_eIf, ↓x_mt, ↓x_sl, ↓x_none, ↓x_some, ↓x_bol, ↓x_bolW, ↓x_tru, ↓x_not, ↓x_and, ↓x_or, ↓x_yes, ↓x_sb, ↓x_add, ↓x_sub, ↓x_mul, ↓x_mod, ↓x_div, ↓x_pow, ↓x_lt, ↓x_le, ↓x_gt, ↓x_ge, ↓x_eqI, ↓x_neI, ↓x_lenT, ↓x_int]
    refine ⟨fun q => absurd q (by decide), fun _ => ⟨fun q => absurd q (by simp), fun _ => ?_⟩⟩
    rw [x_ixT (by decide) (w := .int u) rfl]
    refine ph0 k u 0 _ h _ ?_
    rw [decide_eq_true (show 0 ≤ u ∧ u ≤ (us.length : Int) - 1 by omega)]
    simp only [↓x_truB]
    exact ⟨fun q => Bool.noConfusion q, fun _ => ⟨trivial, trivial⟩⟩
  rintro e h' ⟨rfl, rfl⟩
  simp only [↓x_eAnd, ↓v0, ↓n0, ↓v1, ↓n1, ↓v2, ↓n2, ↓v3, ↓n3, ↓v4, ↓n4, ↓v5, ↓n5, ↓v6, ↓n6, ↓v7, ↓n7, ↓v8, ↓n8, ↓v9, ↓n9, ↓v10, ↓n10, ↓v11, ↓n11, ↓v12, ↓n12, ↓v13, ↓n13, ↓v14, ↓n14, ↓v15, ↓n15, ↓v16, ↓n16, ↓v17, ↓n17, ↓v18, ↓n18, ↓x_seq, ↓x_if, ↓x_next, ↓x_brk, ↓x_cont, ↓x_asg, ↓x_expr, ↓x_ret, ↓x_retN, ↓x_par2, ↓x_par3, ↓x_C, ↓x_e1, ↓x_e2, ↓x_nil, ↓x_cons, ↓x_eA, ↓x_call, ↓x_tup, ↓x_lst, ↓x_eIf, ↓x_mt, ↓x_sl, ↓x_none, ↓x_some, ↓x_bol, ↓x_bolW, ↓x_tru, ↓x_not, ↓x_and, ↓x_or, ↓x_yes, ↓x_sb, ↓x_add, ↓x_sub, ↓x_mul, ↓x_mod, ↓x_div, ↓x_pow, ↓x_lt, ↓x_le, ↓x_gt, ↓x_ge, ↓x_eqI, ↓x_neI, ↓x_lenT, ↓x_int]
  rw [x_ixT (by decide) (w := .tup body) rfl, x_isiT, x_andK]
  refine ⟨fun _ => ?_, fun q => absurd q (by decide)⟩
  simp only [↓x_chain, ↓v0, ↓n0, ↓v1, ↓n1, ↓v2, ↓n2, ↓v3, ↓n3, ↓v4, ↓n4, ↓v5, ↓n5, ↓v6, ↓n6, ↓v7, ↓n7, ↓v8, ↓n8, ↓v9, ↓n9, ↓v10, ↓n10, ↓v11, ↓n11, ↓v12, ↓n12, ↓v13, ↓n13, ↓v14, ↓n14, ↓v15, ↓n15, ↓v16, ↓n16, ↓v17, ↓n17, ↓v18, ↓n18, ↓x_seq, ↓x_if, ↓x_next, ↓x_brk, ↓x_cont, ↓x_asg, ↓x_expr, ↓x_ret, ↓x_retN, ↓x_par2, ↓x_par3, ↓x_C, ↓x_e1, ↓x_e2, ↓x_nil, ↓x_cons, ↓x_eA, ↓x_call, ↓x_tup, ↓x_lst, ↓x_eIf, ↓x_mt, ↓x_sl, ↓x_none, ↓x_some, ↓x_bol, ↓x_bolW, ↓x_tru, ↓x_not, ↓x_and, ↓x_or, ↓x_yes, ↓x_sb, ↓x_add, ↓x_sub, ↓x_mul, ↓x_mod, ↓x_div, ↓x_pow, ↓x_lt, ↓x_le, ↓x_gt, ↓x_ge, ↓x_eqI, ↓x_neI, ↓x_lenT, ↓x_int]
  rw [x_ixT (by decide) (w := .tup body) rfl, x_lenT, x_le, decide_eq_true (show (1 : Int) ≤ (body.length : Int) by omega), x_chK]
  refine ⟨fun _ => ?_, fun q => Bool.noConfusion q⟩
  simp only [↓v0, ↓n0, ↓v1, ↓n1, ↓v2, ↓n2, ↓v3, ↓n3, ↓v4, ↓n4, ↓v5, ↓n5, ↓v6, ↓n6, ↓v7, ↓n7, ↓v8, ↓n8, ↓v9, ↓n9, ↓v10, ↓n10, ↓v11, ↓n11, ↓v12, ↓n12, ↓v13, ↓n13, ↓v14, ↓n14, ↓v15, ↓n15, ↓v16, ↓n16, ↓v17, ↓n17, ↓v18, ↓n18, ↓x_seq, ↓x_if, ↓x_next, ↓x_brk, ↓x_cont, ↓x_asg, ↓x_expr, ↓x_ret, ↓x_retN, ↓x_par2, ↓x_par3, ↓x_C, ↓x_e1, ↓x_e2, ↓x_nil, ↓x_cons, ↓x_eA, ↓x_call, ↓x_tup, ↓x_lst, ↓x_eIf, ↓x_mt, ↓x_sl, ↓x_none, ↓x_some, ↓x_bol, ↓x_bolW, ↓x_tru, ↓x_not, ↓x_and, ↓x_or, ↓x_yes, ↓x_sb, ↓x_add, ↓x_sub, ↓x_mul, ↓x_mod, ↓x_div, ↓x_pow, ↓x_lt, ↓x_le, ↓x_gt, ↓x_ge, ↓x_eqI, ↓x_neI, ↓x_lenT, ↓x_int]
  rw [decide_eq_true (show (body.length : Int) ≤ 8 by omega)]
  exact z
theorem looks_of {cs : List Int} {us : List W} (hl : us.length = cs.length) (ok : ∀ j w, us[j]? = some w → UnitOk cs j w) : Looks cs us := ⟨hl, fun j n hn => by
  have jl := (List.getElem?_eq_some_iff.mp hn).1
  have e : us[j]? = some us[j] := List.getElem?_eq_getElem (by omega)
  obtain ⟨par, m, body, ew, hm, _⟩ := ok j _ e
  rw [hn] at hm; cases hm
  exact ⟨par, .tup body, by rw [e, ew]⟩⟩
def straightW : W := .tup [.str "number", .str "copy", .str "add", .str "read", .str "write", .str "fail"]
/-- the first word of an instruction that may stand in any body -/
theorem ins_word {cs : List Int} {w : W} (i : Ins cs w) : ∃ (s : Str) (r : List W), w = .tup (.str s :: r) ∧ ∀ h : IH, oNotIn (.str s) straightW h = .ok (.bl false) h := by
  cases i <;> exact ⟨_, _, rfl, fun h => by kernel_rfl⟩
def S8 (Φ : FT) : Prop := ∀ (cs : List Int) (us fns : List W) (lb : Int) (h : IH) (P : W → IH → Prop), us.length = cs.length → (∀ j w, us[j]? = some w → UnitOk cs j w) → (∀ j w, fns[j]? = some w → FunOk cs fns.length lb j w) → P (.bl true) h → (Φ 8 [.tup us, .tup fns] h).Wp P
theorem ph8 (k : Nat) : S8 (Phi gk tab (k + 4)) := fun cs us fns lb h P hl uok fok z => by
  have lk := looks_of hl uok
  have H4 := ph4 k
  rw [phi8, x_callB (by rfl)]
  show (m8 _ [some (.tup us), some (.tup fns), none, none, none, none, none, none] h).Wp _
  unfold m8
  refine seq_cut (fun (e : Fw.Env) h' => (∃ a b, e = [some (.tup us), some (.tup fns), a, b, none, none, none, none]) ∧ h = h') ?_ ?_
  · refine for_tup ?_
    rw [v0]
    refine ⟨us, rfl, fun i e h' => (∃ a b, e = [some (.tup us), some (.tup fns), a, b, none, none, none, none]) ∧ h = h', ⟨⟨_, _, rfl⟩, rfl⟩, ?_, fun e h' z => z⟩
    rintro i e h' y ⟨⟨a, b, rfl⟩, rfl⟩ hy
    obtain ⟨par, n, body, ew, hn, hp, hb, bl⟩ := uok i y hy
    subst ew
    rw [n2, x_seq]
    refine for_tup ?_
    simp only [↓x_e2, ↓v2, ↓x_C]
    rw [x_ixT (by decide) (w := .tup body) rfl]
    refine ⟨body, rfl, fun i e h' => (∃ a b, e = [some (.tup us), some (.tup fns), a, b, none, none, none, none]) ∧ h = h', ⟨⟨_, _, rfl⟩, rfl⟩, ?_, fun e h' z => z⟩
    rintro j e h' x ⟨⟨a, b, rfl⟩, rfl⟩ hx
    have ix := hb x (List.mem_of_getElem? hx)
    obtain ⟨s, r, ex, hw⟩ := ins_word ix
    simp only [↓v0, ↓n0, ↓v1, ↓n1, ↓v2, ↓n2, ↓v3, ↓n3, ↓v4, ↓n4, ↓v5, ↓n5, ↓v6, ↓n6, ↓v7, ↓n7, ↓v8, ↓n8, ↓v9, ↓n9, ↓v10, ↓n10, ↓v11, ↓n11, ↓v12, ↓n12, ↓v13, ↓n13, ↓v14, ↓n14, ↓v15, ↓n15, ↓v16, ↓n16, ↓v17, ↓n17, ↓v18, ↓n18, ↓x_seq, ↓x_if, ↓x_next, ↓x_brk, ↓x_cont, ↓x_asg, ↓x_expr, ↓x_ret, ↓x_retN, ↓x_par2, ↓x_par3, ↓x_C, ↓x_e1, ↓x_e2, ↓x_nil, ↓x_cons, ↓x_eA, ↓x_call, ↓x_tup, ↓x_lst, ↓x_eIf, ↓x_mt, ↓x_sl, ↓x_none, ↓x_some, ↓x_bol, ↓x_bolW, ↓x_tru, ↓x_not, ↓x_and, ↓x_or, ↓x_yes, ↓x_sb, ↓x_add, ↓x_sub, ↓x_mul, ↓x_mod, ↓x_div, ↓x_pow, ↓x_lt, ↓x_le, ↓x_gt, ↓x_ge, ↓x_eqI, ↓x_neI, ↓x_lenT, ↓x_int]
    have H4' : ∀ Q : W → IH → Prop, Q (.bl true) h → (Phi gk tab (k + 3) 4 [.tup us, .tup [.int 0, .int 0], x, .tup [.int 0, .int 0]] h).Wp Q := fun Q z => by
      have z2 := H4 cs us lk (-1) 1 0 0 x h Q (.ins ix) z
      rw [show (-1 : Int) + 1 = 0 by decide, show (1 : Int) - 1 = 0 by decide] at z2
      exact z2
    refine ⟨by rfl, by rfl, H4' _ ?_⟩
    simp only [↓x_truB]
    refine ⟨fun q => Bool.noConfusion q, fun _ => ?_⟩
    subst ex
    rw [x_ixT (by decide) (w := .str s) rfl]
    show (oNotIn (.str s) straightW h).Wp _
    rw [hw h, Rs.Wp_ok]
    simp only [↓x_bolW]
    exact ⟨fun q => Bool.noConfusion q, fun _ => ⟨⟨_, _, rfl⟩, trivial⟩⟩
  rintro e h' ⟨⟨a, b, rfl⟩, rfl⟩
  refine seq_cut (fun (e : Fw.Env) h' => h = h') ?_ ?_
  · refine for_enuT ?_
    rw [v1]
    refine ⟨fns, rfl, fun i e h' => (∃ a b c d f g, e = [some (.tup us), some (.tup fns), a, b, c, d, f, g]) ∧ h = h', ⟨⟨_, _, _, _, _, _, rfl⟩, rfl⟩, ?_, fun e h' z => z.2⟩
    rintro i e h' y ⟨⟨a, b, c, d, f, g, rfl⟩, rfl⟩ hy
    obtain ⟨u, body, ew, u0, u1, b0, b1, bok⟩ := fok i y hy
    subst ew
    simp only [↓x_tp, ↓x_gs0, ↓x_gs1, ↓n4, ↓n5]
    refine ⟨by rfl, ?_⟩
    refine seq_cut (fun (e : Fw.Env) h' => (∃ a b g, e = [some (.tup us), some (.tup fns), a, b, some (.int i), some (.tup [.int u, .tup body]), some (.tup [.int (i + 1), .int (fns.length - 1)]), g]) ∧ h = h') ?_ ?_
    · simp only [↓v0, ↓n0, ↓v1, ↓n1, ↓v2, ↓n2, ↓v3, ↓n3, ↓v4, ↓n4, ↓v5, ↓n5, ↓v6, ↓n6, ↓v7, ↓n7, ↓v8, ↓n8, ↓v9, ↓n9, ↓v10, ↓n10, ↓v11, ↓n11, ↓v12, ↓n12, ↓v13, ↓n13, ↓v14, ↓n14, ↓v15, ↓n15, ↓v16, ↓n16, ↓v17, ↓n17, ↓v18, ↓n18, ↓x_seq, ↓x_if, ↓x_next, ↓x_brk, ↓x_cont, ↓x_asg, ↓x_expr, ↓x_ret, ↓x_retN, ↓x_par2, ↓x_par3, ↓x_C, ↓x_e1, ↓x_e2, ↓x_nil, ↓x_cons, ↓x_eA, ↓x_call, ↓x_tup, ↓x_lst, ↓x_eIf, ↓x_mt, ↓x_sl, ↓x_none, ↓x_some, ↓x_bol, ↓x_bolW, ↓x_tru, ↓x_not, ↓x_and, ↓x_or, ↓x_yes, ↓x_sb, ↓x_add, ↓x_sub, ↓x_mul, ↓x_mod, ↓x_div, ↓x_pow, ↓x_lt, ↓x_le, ↓x_gt, ↓x_ge, ↓x_eqI, ↓x_neI, ↓x_lenT, ↓x_int]
      exact ⟨by rfl, ⟨_, _, _, rfl⟩, trivial⟩
    rintro e h' ⟨⟨a, b, g, rfl⟩, rfl⟩
    rw [x_seq]
    refine for_enuT ?_
    simp only [↓x_e2, ↓v5, ↓x_C]
    rw [x_ixT (by decide) (w := .tup body) rfl]
    refine ⟨body, rfl, fun j e h' => (∃ a b g, e = [some (.tup us), some (.tup fns), a, b, some (.int i), some (.tup [.int u, .tup body]), some (.tup [.int (i + 1), .int (fns.length - 1)]), g]) ∧ h = h', ⟨⟨_, _, _, rfl⟩, rfl⟩, ?_, ?_⟩
    · rintro j e h' x ⟨⟨a, b, g, rfl⟩, rfl⟩ hx
      simp only [↓x_tp, ↓x_gs0, ↓x_gs1, ↓v0, ↓n0, ↓v1, ↓n1, ↓v2, ↓n2, ↓v3, ↓n3, ↓v4, ↓n4, ↓v5, ↓n5, ↓v6, ↓n6, ↓v7, ↓n7, ↓v8, ↓n8, ↓v9, ↓n9, ↓v10, ↓n10, ↓v11, ↓n11, ↓v12, ↓n12, ↓v13, ↓n13, ↓v14, ↓n14, ↓v15, ↓n15, ↓v16, ↓n16, ↓v17, ↓n17, ↓v18, ↓n18, ↓x_seq, ↓x_if, ↓x_next, ↓x_brk, ↓x_cont, ↓x_asg, ↓x_expr, ↓x_ret, ↓x_retN, ↓x_par2, ↓x_par3, ↓x_C, ↓x_e1, ↓x_e2, ↓x_nil, ↓x_cons, ↓x_eA, ↓x_call, ↓x_tup, ↓x_lst, ↓x_eIf, ↓x_mt, ↓x_sl, ↓x_none, ↓x_some, ↓x_bol, ↓x_bolW, ↓x_tru, ↓x_not, ↓x_and, ↓x_or, ↓x_yes, ↓x_sb, ↓x_add, ↓x_sub, ↓x_mul, ↓x_mod, ↓x_div, ↓x_pow, ↓x_lt, ↓x_le, ↓x_gt, ↓x_ge, ↓x_eqI, ↓x_neI, ↓x_lenT, ↓x_int]
      refine ⟨by rfl, ?_⟩
      rw [x_ixT (by decide) (w := .tup body) rfl]
      simp only [↓x_lenT]
      refine ⟨by rfl, H4 cs us lk i fns.length j body.length x h _ (bok j x hx) ?_⟩
      simp only [↓x_truB]
      exact ⟨fun q => Bool.noConfusion q, fun _ => ⟨⟨_, _, _, rfl⟩, trivial⟩⟩
    · rintro e h' ⟨⟨a, b, g, rfl⟩, rfl⟩
      rw [x_next]
      exact ⟨⟨_, _, _, _, _, _, rfl⟩, rfl⟩
  rintro e h' rfl
  simp only [↓v0, ↓n0, ↓v1, ↓n1, ↓v2, ↓n2, ↓v3, ↓n3, ↓v4, ↓n4, ↓v5, ↓n5, ↓v6, ↓n6, ↓v7, ↓n7, ↓v8, ↓n8, ↓v9, ↓n9, ↓v10, ↓n10, ↓v11, ↓n11, ↓v12, ↓n12, ↓v13, ↓n13, ↓v14, ↓n14, ↓v15, ↓n15, ↓v16, ↓n16, ↓v17, ↓n17, ↓v18, ↓n18, ↓x_seq, ↓x_if, ↓x_next, ↓x_brk, ↓x_cont, ↓x_asg, ↓x_expr, ↓x_ret, ↓x_retN, ↓x_par2, ↓x_par3, ↓x_C, ↓x_e1, ↓x_e2, ↓x_nil, ↓x_cons, ↓x_eA, ↓x_call, ↓x_tup, ↓x_lst, ↓x_eIf, ↓x_mt, ↓x_sl, ↓x_none, ↓x_some, ↓x_bol, ↓x_bolW, ↓x_tru, ↓x_not, ↓x_and, ↓x_or, ↓x_yes, ↓x_sb, ↓x_add, ↓x_sub, ↓x_mul, ↓x_mod, ↓x_div, ↓x_pow, ↓x_lt, ↓x_le, ↓x_gt, ↓x_ge, ↓x_eqI, ↓x_neI, ↓x_lenT, ↓x_int]
  exact z
def S7 (Φ : FT) : Prop := ∀ (nu lb : Int) (w : W) (h : IH) (P : W → IH → Prop), ProgOk nu lb w → nu ≤ 6 → lb ≤ 8 → (∀ h', Keep h h' → P (.bl true) h') → (Φ 7 [w] h).Wp P
theorem rep_snoc {n : Nat} {w : W} : List.replicate n w ++ [w] = List.replicate (n + 1) w := by rw [List.replicate_succ', ]
theorem ph7 (k : Nat) : S7 (Phi gk tab (k + 5)) := fun nu lb w h P ⟨cs, us, fns, e, ok, c0, c1, hl, uok, f0, f1, fok⟩ n6 l8 z => by
  subst e
  rw [phi7, x_callB (by rfl)]
  show (m7 _ [some (.tup [.tup us, .tup fns]), none, none, none, none, none, none] h).Wp _
  unfold m7
  refine seq_cut (fun (e : Fw.Env) h' => e = [some (.tup [.tup us, .tup fns]), none, none, none, none, none, none] ∧ Keep h h') ?_ ?_
  · simp only [↓x_isiT, ↓x_truB, ↓v0, ↓n0, ↓v1, ↓n1, ↓v2, ↓n2, ↓v3, ↓n3, ↓v4, ↓n4, ↓v5, ↓n5, ↓v6, ↓n6, ↓v7, ↓n7, ↓v8, ↓n8, ↓v9, ↓n9, ↓v10, ↓n10, ↓v11, ↓n11, ↓v12, ↓n12, ↓v13, ↓n13, ↓v14, ↓n14, ↓v15, ↓n15, ↓v16, ↓n16, ↓v17, ↓n17, ↓v18, ↓n18, ↓x_seq, ↓x_if, ↓x_next, ↓x_brk, ↓x_cont, ↓x_asg, ↓x_expr, ↓x_ret, ↓x_retN, ↓x_par2, ↓x_par3, ↓x_C, ↓x_e1, ↓x_e2, ↓x_nil, ↓x_cons, ↓x_eA, ↓x_call, ↓x_tup, ↓x_lst, ↓x_eIf, ↓x_mt, ↓x_sl, ↓x_none, ↓x_some, ↓x_bol, ↓x_bolW, ↓x_tru, ↓x_not, ↓x_and, ↓x_or, ↓x_yes, ↓x_sb, ↓x_add, ↓x_sub, ↓x_mul, ↓x_mod, ↓x_div, ↓x_pow, ↓x_lt, ↓x_le, ↓x_gt, ↓x_ge, ↓x_eqI, ↓x_neI, ↓x_lenT, ↓x_int]
    refine ⟨fun q => absurd q (by decide), fun _ => ⟨fun q => absurd q (by simp), fun _ => ?_⟩⟩
    refine lc_tup ?_
    rw [v0]
    refine ⟨_, rfl, fun i xs h2 => xs = List.replicate i (.bl true) ∧ h2 = h, ⟨rfl, rfl⟩, ?_, ?_⟩
    · rintro i xs h2 y ⟨rfl, rfl⟩ hy
      have : ∃ ws, y = .tup ws := by
        have m := List.mem_of_getElem? hy
        simp only [List.mem_cons, List.not_mem_nil, or_false] at m
        rcases m with e | e <;> exact ⟨_, e⟩
      obtain ⟨ws, ey⟩ := this
      subst ey
      simp only [wipeW, List.foldl_cons, List.foldl_nil, List.set_cons_zero, List.set_cons_succ, ↓x_isiT, ↓v0, ↓n0, ↓v1, ↓n1, ↓v2, ↓n2, ↓v3, ↓n3, ↓v4, ↓n4, ↓v5, ↓n5, ↓v6, ↓n6, ↓v7, ↓n7, ↓v8, ↓n8, ↓v9, ↓n9, ↓v10, ↓n10, ↓v11, ↓n11, ↓v12, ↓n12, ↓v13, ↓n13, ↓v14, ↓n14, ↓v15, ↓n15, ↓v16, ↓n16, ↓v17, ↓n17, ↓v18, ↓n18, ↓x_seq, ↓x_if, ↓x_next, ↓x_brk, ↓x_cont, ↓x_asg, ↓x_expr, ↓x_ret, ↓x_retN, ↓x_par2, ↓x_par3, ↓x_C, ↓x_e1, ↓x_e2, ↓x_nil, ↓x_cons, ↓x_eA, ↓x_call, ↓x_tup, ↓x_lst, ↓x_eIf, ↓x_mt, ↓x_sl, ↓x_none, ↓x_some, ↓x_bol, ↓x_bolW, ↓x_tru, ↓x_not, ↓x_and, ↓x_or, ↓x_yes, ↓x_sb, ↓x_add, ↓x_sub, ↓x_mul, ↓x_mod, ↓x_div, ↓x_pow, ↓x_lt, ↓x_le, ↓x_gt, ↓x_ge, ↓x_eqI, ↓x_neI, ↓x_lenT, ↓x_int]
      exact ⟨rep_snoc, trivial⟩
    · rintro xs h2 ⟨rfl, rfl⟩
      refine ⟨by simp, ?_⟩
      rw [x_allT (n := [W.tup us, W.tup fns].length) (IH.get_new_self _ _)]
      simp only [↓x_truB]
      exact ⟨fun q => Bool.noConfusion q, fun _ => ⟨trivial, Keep.new⟩⟩
  rintro e h1 ⟨rfl, k1⟩
  refine seq_cut (fun (e : Fw.Env) h' => e = [some (.tup [.tup us, .tup fns]), none, some (.tup us), some (.tup fns), none, none, none] ∧ h1 = h') ?_ ?_
  · simp only [↓x_tp, ↓x_gs0, ↓x_gs1, ↓v0, ↓n0, ↓v1, ↓n1, ↓v2, ↓n2, ↓v3, ↓n3, ↓v4, ↓n4, ↓v5, ↓n5, ↓v6, ↓n6, ↓v7, ↓n7, ↓v8, ↓n8, ↓v9, ↓n9, ↓v10, ↓n10, ↓v11, ↓n11, ↓v12, ↓n12, ↓v13, ↓n13, ↓v14, ↓n14, ↓v15, ↓n15, ↓v16, ↓n16, ↓v17, ↓n17, ↓v18, ↓n18, ↓x_seq, ↓x_if, ↓x_next, ↓x_brk, ↓x_cont, ↓x_asg, ↓x_expr, ↓x_ret, ↓x_retN, ↓x_par2, ↓x_par3, ↓x_C, ↓x_e1, ↓x_e2, ↓x_nil, ↓x_cons, ↓x_eA, ↓x_call, ↓x_tup, ↓x_lst, ↓x_eIf, ↓x_mt, ↓x_sl, ↓x_none, ↓x_some, ↓x_bol, ↓x_bolW, ↓x_tru, ↓x_not, ↓x_and, ↓x_or, ↓x_yes, ↓x_sb, ↓x_add, ↓x_sub, ↓x_mul, ↓x_mod, ↓x_div, ↓x_pow, ↓x_lt, ↓x_le, ↓x_gt, ↓x_ge, ↓x_eqI, ↓x_neI, ↓x_lenT, ↓x_int]
    exact ⟨by rfl, trivial, trivial⟩
  rintro e h' ⟨rfl, rfl⟩
  refine seq_cut (fun (e : Fw.Env) h' => e = [some (.tup [.tup us, .tup fns]), none, some (.tup us), some (.tup fns), none, none, none] ∧ h1 = h') ?_ ?_
  · simp only [↓x_chain, ↓v0, ↓n0, ↓v1, ↓n1, ↓v2, ↓n2, ↓v3, ↓n3, ↓v4, ↓n4, ↓v5, ↓n5, ↓v6, ↓n6, ↓v7, ↓n7, ↓v8, ↓n8, ↓v9, ↓n9, ↓v10, ↓n10, ↓v11, ↓n11, ↓v12, ↓n12, ↓v13, ↓n13, ↓v14, ↓n14, ↓v15, ↓n15, ↓v16, ↓n16, ↓v17, ↓n17, ↓v18, ↓n18, ↓x_seq, ↓x_if, ↓x_next, ↓x_brk, ↓x_cont, ↓x_asg, ↓x_expr, ↓x_ret, ↓x_retN, ↓x_par2, ↓x_par3, ↓x_C, ↓x_e1, ↓x_e2, ↓x_nil, ↓x_cons, ↓x_eA, ↓x_call, ↓x_tup, ↓x_lst, ↓x_eIf, ↓x_mt, ↓x_sl, ↓x_none, ↓x_some, ↓x_bol, ↓x_bolW, ↓x_tru, ↓x_not, ↓x_and, ↓x_or, ↓x_yes, ↓x_sb, ↓x_add, ↓x_sub, ↓x_mul, ↓x_mod, ↓x_div, ↓x_pow, ↓x_lt, ↓x_le, ↓x_gt, ↓x_ge, ↓x_eqI, ↓x_neI, ↓x_lenT, ↓x_int]
    rw [decide_eq_true (show (1 : Int) ≤ us.length by omega), x_chK]
    refine ⟨fun _ => ?_, fun q => Bool.noConfusion q⟩
    simp only [↓v0, ↓n0, ↓v1, ↓n1, ↓v2, ↓n2, ↓v3, ↓n3, ↓v4, ↓n4, ↓v5, ↓n5, ↓v6, ↓n6, ↓v7, ↓n7, ↓v8, ↓n8, ↓v9, ↓n9, ↓v10, ↓n10, ↓v11, ↓n11, ↓v12, ↓n12, ↓v13, ↓n13, ↓v14, ↓n14, ↓v15, ↓n15, ↓v16, ↓n16, ↓v17, ↓n17, ↓v18, ↓n18, ↓x_seq, ↓x_if, ↓x_next, ↓x_brk, ↓x_cont, ↓x_asg, ↓x_expr, ↓x_ret, ↓x_retN, ↓x_par2, ↓x_par3, ↓x_C, ↓x_e1, ↓x_e2, ↓x_nil, ↓x_cons, ↓x_eA, ↓x_call, ↓x_tup, ↓x_lst, ↓x_eIf, ↓x_mt, ↓x_sl, ↓x_none, ↓x_some, ↓x_bol, ↓x_bolW, ↓x_tru, ↓x_not, ↓x_and, ↓x_or, ↓x_yes, ↓x_sb, ↓x_add, ↓x_sub, ↓x_mul, ↓x_mod, ↓x_div, ↓x_pow, ↓x_lt, ↓x_le, ↓x_gt, ↓x_ge, ↓x_eqI, ↓x_neI, ↓x_lenT, ↓x_int]
    rw [decide_eq_true (show (us.length : Int) ≤ 6 by omega)]
    refine ⟨fun q => Bool.noConfusion q, fun _ => ?_⟩
    rw [decide_eq_true (show (1 : Int) ≤ fns.length by omega), x_chK]
    refine ⟨fun _ => ?_, fun q => Bool.noConfusion q⟩
    simp only [↓v0, ↓n0, ↓v1, ↓n1, ↓v2, ↓n2, ↓v3, ↓n3, ↓v4, ↓n4, ↓v5, ↓n5, ↓v6, ↓n6, ↓v7, ↓n7, ↓v8, ↓n8, ↓v9, ↓n9, ↓v10, ↓n10, ↓v11, ↓n11, ↓v12, ↓n12, ↓v13, ↓n13, ↓v14, ↓n14, ↓v15, ↓n15, ↓v16, ↓n16, ↓v17, ↓n17, ↓v18, ↓n18, ↓x_seq, ↓x_if, ↓x_next, ↓x_brk, ↓x_cont, ↓x_asg, ↓x_expr, ↓x_ret, ↓x_retN, ↓x_par2, ↓x_par3, ↓x_C, ↓x_e1, ↓x_e2, ↓x_nil, ↓x_cons, ↓x_eA, ↓x_call, ↓x_tup, ↓x_lst, ↓x_eIf, ↓x_mt, ↓x_sl, ↓x_none, ↓x_some, ↓x_bol, ↓x_bolW, ↓x_tru, ↓x_not, ↓x_and, ↓x_or, ↓x_yes, ↓x_sb, ↓x_add, ↓x_sub, ↓x_mul, ↓x_mod, ↓x_div, ↓x_pow, ↓x_lt, ↓x_le, ↓x_gt, ↓x_ge, ↓x_eqI, ↓x_neI, ↓x_lenT, ↓x_int]
    rw [decide_eq_true (show (fns.length : Int) ≤ 4 by omega)]
    exact ⟨fun q => Bool.noConfusion q, fun _ => ⟨trivial, trivial⟩⟩
  rintro e h' ⟨rfl, rfl⟩
  refine seq_cut (fun (e : Fw.Env) h' => e = [some (.tup [.tup us, .tup fns]), none, some (.tup us), some (.tup fns), none, none, none] ∧ Keep h h') ?_ ?_
  · rw [x_if, x_not, x_tru, x_eA, x_cons]
    refine lc_enuT ?_
    rw [v2]
    refine ⟨us, rfl, fun i xs h2 => xs = List.replicate i (.bl true) ∧ h2 = h1, ⟨rfl, rfl⟩, ?_, ?_⟩
    · rintro i xs h2 y ⟨rfl, rfl⟩ hy
      simp only [wipeW, List.foldl_cons, List.foldl_nil, List.set_cons_zero, List.set_cons_succ, ↓x_tp, ↓x_gs0, ↓x_gs1, ↓v0, ↓n0, ↓v1, ↓n1, ↓v2, ↓n2, ↓v3, ↓n3, ↓v4, ↓n4, ↓v5, ↓n5, ↓v6, ↓n6, ↓v7, ↓n7, ↓v8, ↓n8, ↓v9, ↓n9, ↓v10, ↓n10, ↓v11, ↓n11, ↓v12, ↓n12, ↓v13, ↓n13, ↓v14, ↓n14, ↓v15, ↓n15, ↓v16, ↓n16, ↓v17, ↓n17, ↓v18, ↓n18, ↓x_seq, ↓x_if, ↓x_next, ↓x_brk, ↓x_cont, ↓x_asg, ↓x_expr, ↓x_ret, ↓x_retN, ↓x_par2, ↓x_par3, ↓x_C, ↓x_e1, ↓x_e2, ↓x_nil, ↓x_cons, ↓x_eA, ↓x_call, ↓x_tup, ↓x_lst, ↓x_eIf, ↓x_mt, ↓x_sl, ↓x_none, ↓x_some, ↓x_bol, ↓x_bolW, ↓x_tru, ↓x_not, ↓x_and, ↓x_or, ↓x_yes, ↓x_sb, ↓x_add, ↓x_sub, ↓x_mul, ↓x_mod, ↓x_div, ↓x_pow, ↓x_lt, ↓x_le, ↓x_gt, ↓x_ge, ↓x_eqI, ↓x_neI, ↓x_lenT, ↓x_int]
      exact ⟨by rfl, ph5 (k + 2) cs i y _ _ ok (uok i y hy) ⟨rep_snoc, rfl⟩⟩
    · rintro xs h2 ⟨rfl, rfl⟩
      refine ⟨by simp; omega, ?_⟩
      rw [x_nil, x_allT (n := us.length) (IH.get_new_self _ _), x_truB]
      exact ⟨fun q => Bool.noConfusion q, fun _ => ⟨rfl, k1.trans Keep.new⟩⟩
  rintro e h2 ⟨rfl, k2⟩
  refine seq_cut (fun (e : Fw.Env) h' => e = [some (.tup [.tup us, .tup fns]), none, some (.tup us), some (.tup fns), none, none, none] ∧ Keep h h') ?_ ?_
  · rw [x_if, x_not, x_tru, x_eA, x_cons]
    refine lc_tup ?_
    rw [v3]
    refine ⟨fns, rfl, fun i xs h3 => xs = List.replicate i (.bl true) ∧ h3 = h2, ⟨rfl, rfl⟩, ?_, ?_⟩
    · rintro i xs h3 y ⟨rfl, rfl⟩ hy
      obtain ⟨u, body, ey, u0, u1, b0, b1, _⟩ := fok i y hy
      subst ey
      simp only [wipeW, List.foldl_cons, List.foldl_nil, List.set_cons_zero, List.set_cons_succ, ↓v0, ↓n0, ↓v1, ↓n1, ↓v2, ↓n2, ↓v3, ↓n3, ↓v4, ↓n4, ↓v5, ↓n5, ↓v6, ↓n6, ↓v7, ↓n7, ↓v8, ↓n8, ↓v9, ↓n9, ↓v10, ↓n10, ↓v11, ↓n11, ↓v12, ↓n12, ↓v13, ↓n13, ↓v14, ↓n14, ↓v15, ↓n15, ↓v16, ↓n16, ↓v17, ↓n17, ↓v18, ↓n18, ↓x_seq, ↓x_if, ↓x_next, ↓x_brk, ↓x_cont, ↓x_asg, ↓x_expr, ↓x_ret, ↓x_retN, ↓x_par2, ↓x_par3, ↓x_C, ↓x_e1, ↓x_e2, ↓x_nil, ↓x_cons, ↓x_eA, ↓x_call, ↓x_tup, ↓x_lst, ↓x_eIf, ↓x_mt, ↓x_sl, ↓x_none, ↓x_some, ↓x_bol, ↓x_bolW, ↓x_tru, ↓x_not, ↓x_and, ↓x_or, ↓x_yes, ↓x_sb, ↓x_add, ↓x_sub, ↓x_mul, ↓x_mod, ↓x_div, ↓x_pow, ↓x_lt, ↓x_le, ↓x_gt, ↓x_ge, ↓x_eqI, ↓x_neI, ↓x_lenT, ↓x_int]
      exact ph6 (k + 2) us u body _ _ u0 (by omega) b0 (by omega) ⟨rep_snoc, rfl⟩
    · rintro xs h3 ⟨rfl, rfl⟩
      refine ⟨by simp; omega, ?_⟩
      rw [x_nil, x_allT (n := fns.length) (IH.get_new_self _ _), x_truB]
      exact ⟨fun q => Bool.noConfusion q, fun _ => ⟨rfl, k2.trans Keep.new⟩⟩
  rintro e h3 ⟨rfl, k3⟩
  simp only [↓v0, ↓n0, ↓v1, ↓n1, ↓v2, ↓n2, ↓v3, ↓n3, ↓v4, ↓n4, ↓v5, ↓n5, ↓v6, ↓n6, ↓v7, ↓n7, ↓v8, ↓n8, ↓v9, ↓n9, ↓v10, ↓n10, ↓v11, ↓n11, ↓v12, ↓n12, ↓v13, ↓n13, ↓v14, ↓n14, ↓v15, ↓n15, ↓v16, ↓n16, ↓v17, ↓n17, ↓v18, ↓n18, ↓x_seq, ↓x_if, ↓x_next, ↓x_brk, ↓x_cont, ↓x_asg, ↓x_expr, ↓x_ret, ↓x_retN, ↓x_par2, ↓x_par3, ↓x_C, ↓x_e1, ↓x_e2, ↓x_nil, ↓x_cons, ↓x_eA, ↓x_call, ↓x_tup, ↓x_lst, ↓x_eIf, ↓x_mt, ↓x_sl, ↓x_none, ↓x_some, ↓x_bol, ↓x_bolW, ↓x_tru, ↓x_not, ↓x_and, ↓x_or, ↓x_yes, ↓x_sb, ↓x_add, ↓x_sub, ↓x_mul, ↓x_mod, ↓x_div, ↓x_pow, ↓x_lt, ↓x_le, ↓x_gt, ↓x_ge, ↓x_eqI, ↓x_neI, ↓x_lenT, ↓x_int]
  exact ph8 k cs us fns lb h3 _ hl uok fok (z h3 k3)
def S9 (Φ : FT) : Prop := ∀ (nu lb : Int) (w : W) (h : IH) (P : W → IH → Prop), ProgOk nu lb w → nu ≤ 6 → lb ≤ 8 → (∀ h', Keep h h' → P .non h') → (Φ 9 [w] h).Wp P
theorem ph9 (k : Nat) : S9 (Phi gk tab (k + 6)) := fun nu lb w h P ok n6 l8 z => by
  rw [phi9, x_callB (by rfl)]
  show (m9 _ [some w] h).Wp _
  unfold m9
  rw [x_seq, x_if, x_not, x_tru, x_call, x_cons, v0, x_nil]
  refine ph7 k nu lb w h _ ok n6 l8 fun h' k' => ?_
  rw [x_truB]
  refine ⟨fun q => Bool.noConfusion q, fun _ => ?_⟩
  rw [x_next, x_next]
  exact z h' k'
def S11 (Φ : FT) : Prop := ∀ (us : List W) (fns : W) (u : Int) (h : IH) (P : W → IH → Prop), 0 ≤ u → u < us.length → P .non h → (Φ 11 [.tup [.tup us, fns], .int u] h).Wp P
theorem ph11 (k : Nat) : S11 (Phi gk tab (k + 2)) := fun us fns u h P u0 u1 z => by
  rw [phi11, x_callB (by rfl)]
  show (m11 _ [some (.tup [.tup us, fns]), some (.int u)] h).Wp _
  unfold m11
  rw [x_seq]
  simp only [↓x_if, ↓x_not, ↓x_tru, ↓x_call, ↓x_cons, ↓x_nil, ↓x_e2, ↓x_eA, ↓x_C, ↓v0, ↓v1]
  rw [x_ixT (by decide) (w := .tup us) rfl, x_lenT, x_sub]
  refine ph0 k u 0 _ h _ ?_
  rw [decide_eq_true (show 0 ≤ u ∧ u ≤ (us.length : Int) - 1 by omega), x_truB]
  refine ⟨fun q => Bool.noConfusion q, fun _ => ?_⟩
  rw [x_next, x_next]
  exact z
end K25

set_option linter.all false
set_option linter.unusedSimpArgs false
set_option maxRecDepth 100000
set_option maxHeartbeats 1000000
namespace K25
open PySem Fw
/-! ### values whose kinds are known -/
mutual
def kn (h : IH) : W → Bool
  | .non => true
  | .bl _ => true
  | .int _ => true
  | .str _ => true
  | .tup ws => kns h ws
  | .loc n => (match h.get n with
    | some (.lst _) => true
    | some (.dk _) => true
    | _ => false)
  | .ro _ => false
def kns (h : IH) : List W → Bool
  | [] => true
  | w :: ws => kn h w && kns h ws
end
mutual
theorem kn_keep {h h' : IH} (k : Keep h h') : ∀ w : W, kn h w = true → kn h' w = true
  | .non, _ => rfl
  | .bl _, _ => rfl
  | .int _, _ => rfl
  | .str _, _ => rfl
  | .tup ws, e => kns_keep k ws e
  | .loc n, e => by
    have e' : (match h.get n with
      | some (.lst _) => true
      | some (.dk _) => true
      | _ => false) = true := e
    show (match h'.get n with
      | some (.lst _) => true
      | some (.dk _) => true
      | _ => false) = true
    cases g : h.get n with
    | none => rw [g] at e'; cases e'
    | some c => rw [k.at g]; rw [g] at e'; exact e'
  | .ro _, e => by cases e
theorem kns_keep {h h' : IH} (k : Keep h h') : ∀ ws : List W, kns h ws = true → kns h' ws = true
  | [], _ => rfl
  | w :: ws, e => by
    obtain ⟨h1, h2⟩ := Bool.and_eq_true_iff.mp (show (kn h w && kns h ws) = true from e)
    show (kn h' w && kns h' ws) = true
    rw [kn_keep k w h1, kns_keep k ws h2]; rfl
end
theorem kns_mem {h : IH} : ∀ {ws : List W}, kns h ws = true → ∀ w ∈ ws, kn h w = true
  | [], _, w, m => by cases m
  | x :: ws, e, w, m => by
    obtain ⟨h1, h2⟩ := Bool.and_eq_true_iff.mp (show (kn h x && kns h ws) = true from e)
    rcases List.mem_cons.mp m with e | m
    · exact e ▸ h1
    · exact kns_mem h2 w m
theorem kns_at {h : IH} {ws : List W} (e : kns h ws = true) {i : Nat} {w : W} (q : ws[i]? = some w) : kn h w = true := kns_mem e w (List.mem_of_getElem? q)
theorem kns_of {h : IH} : ∀ {ws : List W}, (∀ w ∈ ws, kn h w = true) → kns h ws = true
  | [], _ => rfl
  | w :: ws, e => by
    show (kn h w && kns h ws) = true
    rw [e w List.mem_cons_self, kns_of fun x m => e x (List.mem_cons_of_mem _ m)]; rfl
def isT : W → Bool
  | .tup _ => true
  | _ => false
def isI : W → Bool
  | .int _ => true
  | _ => false
def isIB : W → Bool
  | .int _ => true
  | .bl _ => true
  | _ => false
def isB : W → Bool
  | .bl _ => true
  | _ => false
def isS : W → Bool
  | .str _ => true
  | _ => false
section
variable {h : IH} {P : W → IH → Prop}
theorem x_isT {w : W} (k : kn h w = true) : (oIsi [.tuple] w h).Wp P = P (.bl (isT w)) h := by
  cases w with
  | loc n =>
    unfold kn at k
    unfold oIsi tyOf; dsimp only
    cases g : h.get n with
    | none => rw [g] at k; cases k
    | some c => rw [g] at k; cases c <;> first | rfl | cases k
  | ro ws => cases k
  | _ => rfl
theorem x_isIB {w : W} (k : kn h w = true) : (oIsi [.int] w h).Wp P = P (.bl (isIB w)) h := by
  cases w with
  | loc n =>
    unfold kn at k
    unfold oIsi tyOf; dsimp only
    cases g : h.get n with
    | none => rw [g] at k; cases k
    | some c => rw [g] at k; cases c <;> first | rfl | cases k
  | ro ws => cases k
  | _ => rfl
theorem x_isB {w : W} (k : kn h w = true) : (oIsi [.bool] w h).Wp P = P (.bl (isB w)) h := by
  cases w with
  | loc n =>
    unfold kn at k
    unfold oIsi tyOf; dsimp only
    cases g : h.get n with
    | none => rw [g] at k; cases k
    | some c => rw [g] at k; cases c <;> first | rfl | cases k
  | ro ws => cases k
  | _ => rfl
theorem x_isS {w : W} (k : kn h w = true) : (oIsi [.str] w h).Wp P = P (.bl (isS w)) h := by
  cases w with
  | loc n =>
    unfold kn at k
    unfold oIsi tyOf; dsimp only
    cases g : h.get n with
    | none => rw [g] at k; cases k
    | some c => rw [g] at k; cases c <;> first | rfl | cases k
  | ro ws => cases k
  | _ => rfl
end
def intB (w : W) (lo hi : Int) : Bool := match w with
  | .int i => decide (lo ≤ i) && decide (i ≤ hi)
  | _ => false
theorem eq_wp {r : Rs W} {w : W} {h : IH} (z : r.Wp fun x h' => x = w ∧ h' = h) : r = .ok w h := by
  obtain ⟨a, h', e, rfl, rfl⟩ := z.ex
  exact e
theorem intB_ok (Φ : FT) (w : W) (lo hi : Int) (h : IH) (k : kn h w = true) : callB (m0 Φ) 3 3 [w, .int lo, .int hi] h = .ok (.bl (intB w lo hi)) h := by
  refine eq_wp ?_
  rw [x_callB (by rfl)]
  show (m0 _ [some w, some (.int lo), some (.int hi)] h).Wp _
  unfold m0
  rw [x_seq, x_ret, x_eAnd, x_e1, v0, x_isIB k, x_andK]
  cases w with
  | int i =>
    refine ⟨fun _ => ?_, fun q => Bool.noConfusion q⟩
    rw [x_eAnd, x_eNot, x_e1, v0, x_isB k, x_notK, x_andK]
    refine ⟨fun _ => ?_, fun q => Bool.noConfusion q⟩
    rw [x_chain, v1, v0, x_le, x_chK]
    refine ⟨fun q => ?_, fun q => ?_⟩
    · rw [v2, x_le]
      refine ⟨?_, rfl⟩
      show _ = W.bl (decide (lo ≤ i) && decide (i ≤ hi))
      rw [q]; rfl
    · refine ⟨?_, rfl⟩
      show _ = W.bl (decide (lo ≤ i) && decide (i ≤ hi))
      rw [q]; rfl
  | bl b =>
    refine ⟨fun _ => ?_, fun q => Bool.noConfusion q⟩
    rw [x_eAnd, x_eNot, x_e1, v0, x_isB k, x_notK, x_andK]
    exact ⟨fun q => Bool.noConfusion q, fun _ => ⟨rfl, rfl⟩⟩
  | non => exact ⟨fun q => Bool.noConfusion q, fun _ => ⟨rfl, rfl⟩⟩
  | str s => exact ⟨fun q => Bool.noConfusion q, fun _ => ⟨rfl, rfl⟩⟩
  | tup s => exact ⟨fun q => Bool.noConfusion q, fun _ => ⟨rfl, rfl⟩⟩
  | loc s => exact ⟨fun q => Bool.noConfusion q, fun _ => ⟨rfl, rfl⟩⟩
  | ro s => cases k
/-! ### what is shown: data apart from the pen -/
def toV (p : Nat → Bool) : Nat → IH → W → Option PyData
  | 0, _, _ => none
  | f + 1, h, w => match w with
    | .non => some .none
    | .bl b => some (.bool b)
    | .int i => some (.int i)
    | .str s => some (.str s)
    | .tup ws => (match mapO (toV p f h) ws with
      | some ds => some (.tuple ds)
      | none => none)
    | .loc n => (match p n with
      | true => none
      | false => (match h.get n with
        | some (.lst ws) => (match mapO (toV p f h) ws with
          | some ds => some (.list ds)
          | none => none)
        | some (.dk []) => some (.dict [])
        | _ => none))
    | .ro _ => none
def FrX (px : Nat → Bool) (h h' : IH) : Prop := h.n ≤ h'.n ∧ ∀ i, i < h.n → px i = false → h'.get i = h.get i
/-- cells that no value holds: the pen and what else is old -/
def Px (px : Nat → Bool) (p : Nat) (h : IH) : Prop := px p = true ∧ ∀ i, h.n ≤ i → px i = false
theorem FrX.of {px : Nat → Bool} {p : Nat} {h h' h0 : IH} (P : Px px p h0) (f : Fr p h h') : FrX px h h' := ⟨f.1, fun i hi e => f.2 i hi fun ei => by rw [ei, P.1] at e; cases e⟩
theorem _root_.Fw.Keep.fx {px : Nat → Bool} {h h' : IH} (k : Keep h h') : FrX px h h' := ⟨k.1, fun i hi _ => k.2 i hi⟩
theorem Px.mono {px : Nat → Bool} {p : Nat} {h h' : IH} (P : Px px p h) (q : h.n ≤ h'.n) : Px px p h' := ⟨P.1, fun i hi => P.2 i (Nat.le_trans q hi)⟩
theorem mapO_imp {α β : Type} {f g : α → Option β} : ∀ {xs : List α} {ys : List β}, (∀ x y, x ∈ xs → f x = some y → y ∈ ys → g x = some y) → mapO f xs = some ys → mapO g xs = some ys
  | [], ys, _, e => e
  | x :: xs, ys, H, e => by
    rw [mapO_cons] at e ⊢
    cases q : f x with
    | none => rw [q] at e; cases e
    | some y =>
      rw [q] at e
      dsimp only at e
      cases q2 : mapO f xs with
      | none => rw [q2] at e; cases e
      | some s =>
        rw [q2] at e
        cases e
        rw [H x y List.mem_cons_self q List.mem_cons_self]
        dsimp only
        rw [mapO_imp (g := g) (fun a b ha hf hb => H a b (List.mem_cons_of_mem _ ha) hf (List.mem_cons_of_mem _ hb)) q2]
section
variable {p : Nat → Bool}
theorem toV_E {h : IH} : ∀ (f : Nat) (w : W) (d : PyData), toV p f h w = some d → toDE f h w = some d
  | 0, _, _, e => by cases e
  | f + 1, .non, d, e => e
  | f + 1, .bl _, d, e => e
  | f + 1, .int _, d, e => e
  | f + 1, .str _, d, e => e
  | f + 1, .ro _, d, e => by cases e
  | f + 1, .tup ws, d, e => by
    have e' : (match mapO (toV p f h) ws with
      | some ds => some (PyData.tuple ds)
      | none => none) = some d := e
    show (match mapO (toDE f h) ws with
      | some ds => some (PyData.tuple ds)
      | none => none) = some d
    cases q : mapO (toV p f h) ws with
    | none => rw [q] at e'; cases e'
    | some ds => rw [q] at e'; rw [mapO_imp (fun x y _ z _ => toV_E f x y z) q]; exact e'
  | f + 1, .loc n, d, e => by
    have e' : (match p n with
      | true => none
      | false => (match h.get n with
        | some (.lst ws) => (match mapO (toV p f h) ws with
          | some ds => some (PyData.list ds)
          | none => none)
        | some (.dk []) => some (PyData.dict [])
        | _ => none)) = some d := e
    show (match h.get n with
      | some (.lst ws) => (match mapO (toDE f h) ws with
        | some ds => some (PyData.list ds)
        | none => none)
      | some (.dk []) => some (PyData.dict [])
      | _ => none) = some d
    cases b : p n with
    | true => rw [b] at e'; cases e'
    | false =>
      rw [b] at e'
      dsimp only at e'
      cases g : h.get n with
      | none => rw [g] at e'; cases e'
      | some c =>
        rw [g] at e'
        cases c with
        | lst ws =>
          dsimp only at e' ⊢
          cases q : mapO (toV p f h) ws with
          | none => rw [q] at e'; cases e'
          | some ds => rw [q] at e'; rw [mapO_imp (fun x y _ z _ => toV_E f x y z) q]; exact e'
        | dk kvs => cases kvs <;> first | exact e' | cases e'
        | dz _ => cases e'
        | ins _ _ => cases e'
        | err _ => cases e'
theorem toV_fr {h h' : IH} (k : FrX p h h') : ∀ (f : Nat) (w : W) (d : PyData), toV p f h w = some d → toV p f h' w = some d
  | 0, _, _, e => by cases e
  | f + 1, .non, d, e => e
  | f + 1, .bl _, d, e => e
  | f + 1, .int _, d, e => e
  | f + 1, .str _, d, e => e
  | f + 1, .ro _, d, e => by cases e
  | f + 1, .tup ws, d, e => by
    have e' : (match mapO (toV p f h) ws with
      | some ds => some (PyData.tuple ds)
      | none => none) = some d := e
    show (match mapO (toV p f h') ws with
      | some ds => some (PyData.tuple ds)
      | none => none) = some d
    cases q : mapO (toV p f h) ws with
    | none => rw [q] at e'; cases e'
    | some ds => rw [q] at e'; rw [mapO_imp (fun x y _ z _ => toV_fr k f x y z) q]; exact e'
  | f + 1, .loc n, d, e => by
    have e' : (match p n with
      | true => none
      | false => (match h.get n with
        | some (.lst ws) => (match mapO (toV p f h) ws with
          | some ds => some (PyData.list ds)
          | none => none)
        | some (.dk []) => some (PyData.dict [])
        | _ => none)) = some d := e
    show (match p n with
      | true => none
      | false => (match h'.get n with
        | some (.lst ws) => (match mapO (toV p f h') ws with
          | some ds => some (PyData.list ds)
          | none => none)
        | some (.dk []) => some (PyData.dict [])
        | _ => none)) = some d
    cases b : p n with
    | true => rw [b] at e'; cases e'
    | false =>
      rw [b] at e'
      dsimp only at e' ⊢
      cases g : h.get n with
      | none => rw [g] at e'; cases e'
      | some c =>
        rw [k.2 n (IH.get_lt g) b, g]
        rw [g] at e'
        cases c with
        | lst ws =>
          dsimp only at e' ⊢
          cases q : mapO (toV p f h) ws with
          | none => rw [q] at e'; cases e'
          | some ds => rw [q] at e'; rw [mapO_imp (fun x y _ z _ => toV_fr k f x y z) q]; exact e'
        | dk kvs => cases kvs <;> first | exact e' | cases e'
        | dz _ => cases e'
        | ins _ _ => cases e'
        | err _ => cases e'
theorem dep_mem : ∀ {ds : List PyData} {d : PyData}, d ∈ ds → d.depth ≤ PyData.depthAll ds
  | [], _, m => by cases m
  | x :: ds, d, m => by
    show d.depth ≤ max x.depth (PyData.depthAll ds)
    rcases List.mem_cons.mp m with e | m
    · subst e; omega
    · have := dep_mem m; omega
theorem toV_dep {h : IH} : ∀ (f f' : Nat) (w : W) (d : PyData), toV p f h w = some d → d.depth < f' → toV p f' h w = some d
  | 0, _, _, _, e, _ => by cases e
  | _ + 1, 0, _, _, _, q => by omega
  | f + 1, f' + 1, .non, d, e, _ => e
  | f + 1, f' + 1, .bl _, d, e, _ => e
  | f + 1, f' + 1, .int _, d, e, _ => e
  | f + 1, f' + 1, .str _, d, e, _ => e
  | f + 1, f' + 1, .ro _, d, e, _ => by cases e
  | f + 1, f' + 1, .tup ws, d, e, hd => by
    have e' : (match mapO (toV p f h) ws with
      | some ds => some (PyData.tuple ds)
      | none => none) = some d := e
    show (match mapO (toV p f' h) ws with
      | some ds => some (PyData.tuple ds)
      | none => none) = some d
    cases q : mapO (toV p f h) ws with
    | none => rw [q] at e'; cases e'
    | some ds =>
      rw [q] at e'
      cases e'
      have hd : PyData.depthAll ds + 1 < f' + 1 := hd
      rw [mapO_imp (fun x y _ z m => toV_dep f f' x y z (by have := dep_mem m; omega)) q]
  | f + 1, f' + 1, .loc n, d, e, hd => by
    have e' : (match p n with
      | true => none
      | false => (match h.get n with
        | some (.lst ws) => (match mapO (toV p f h) ws with
          | some ds => some (PyData.list ds)
          | none => none)
        | some (.dk []) => some (PyData.dict [])
        | _ => none)) = some d := e
    show (match p n with
      | true => none
      | false => (match h.get n with
        | some (.lst ws) => (match mapO (toV p f' h) ws with
          | some ds => some (PyData.list ds)
          | none => none)
        | some (.dk []) => some (PyData.dict [])
        | _ => none)) = some d
    cases b : p n with
    | true => rw [b] at e'; cases e'
    | false =>
      rw [b] at e'
      dsimp only at e' ⊢
      cases g : h.get n with
      | none => rw [g] at e'; cases e'
      | some c =>
        rw [g] at e'
        cases c with
        | lst ws =>
          dsimp only at e' ⊢
          cases q : mapO (toV p f h) ws with
          | none => rw [q] at e'; cases e'
          | some ds =>
            rw [q] at e'
            cases e'
            have hd : PyData.depthAll ds + 1 < f' + 1 := hd
            rw [mapO_imp (fun x y _ z m => toV_dep f f' x y z (by have := dep_mem m; omega)) q]
        | dk kvs => cases kvs <;> first | exact e' | cases e'
        | dz _ => cases e'
        | ins _ _ => cases e'
        | err _ => cases e'
mutual
theorem kn_V {h : IH} : ∀ (f : Nat) (w : W) (d : PyData), toV p f h w = some d → kn h w = true
  | 0, _, _, e => by cases e
  | f + 1, .non, d, e => rfl
  | f + 1, .bl _, d, e => rfl
  | f + 1, .int _, d, e => rfl
  | f + 1, .str _, d, e => rfl
  | f + 1, .ro _, d, e => by cases e
  | f + 1, .tup ws, d, e => by
    have e' : (match mapO (toV p f h) ws with
      | some ds => some (PyData.tuple ds)
      | none => none) = some d := e
    cases q : mapO (toV p f h) ws with
    | none => rw [q] at e'; cases e'
    | some ds => exact kns_V f ws ds q
  | f + 1, .loc n, d, e => by
    have e' : (match p n with
      | true => none
      | false => (match h.get n with
        | some (.lst ws) => (match mapO (toV p f h) ws with
          | some ds => some (PyData.list ds)
          | none => none)
        | some (.dk []) => some (PyData.dict [])
        | _ => none)) = some d := e
    cases b : p n with
    | true => rw [b] at e'; cases e'
    | false =>
      rw [b] at e'
      dsimp only at e'
      unfold kn
      cases g : h.get n with
      | none => rw [g] at e'; cases e'
      | some c =>
        rw [g] at e'
        cases c with
        | lst ws => rfl
        | dk kvs => rfl
        | dz _ => cases e'
        | ins _ _ => cases e'
        | err _ => cases e'
theorem kns_V {h : IH} : ∀ (f : Nat) (ws : List W) (ds : List PyData), mapO (toV p f h) ws = some ds → kns h ws = true
  | f, [], ds, e => rfl
  | f, w :: ws, ds, e => by
    rw [mapO_cons] at e
    cases q : toV p f h w with
    | none => rw [q] at e; cases e
    | some b =>
      rw [q] at e
      dsimp only at e
      cases q2 : mapO (toV p f h) ws with
      | none => rw [q2] at e; cases e
      | some s =>
        show (kn h w && kns h ws) = true
        rw [kn_V f w b q, kns_V f ws s q2]; rfl
end
end
theorem toDE_of_V {p : Nat → Bool} {h : IH} {f : Nat} {w : W} {d : PyData} (e : toV p f h w = some d) (f' : Nat) (q : d.depth < f') : toDE f' h w = some d := toV_E f' w d (toV_dep f f' w d e q)
/-- data with bounds: n parts, m deep -/
structure VD (p : Nat → Bool) (h : IH) (n m : Nat) (w : W) (d : PyData) : Prop where
  e : toV p 60 h w = some d
  sh : d.showable = true
  s : d.leavesShort 22 = true
  b : d.bulk ≤ n
  dp : d.depth ≤ m
structure VDs (p : Nat → Bool) (h : IH) (n m : Nat) (ws : List W) (ds : List PyData) : Prop where
  e : mapO (toV p 60 h) ws = some ds
  sh : PyData.showableAll ds = true
  s : PyData.leavesShortAll 22 ds = true
  b : PyData.bulkAll ds ≤ n
  dp : PyData.depthAll ds ≤ m
def V (p : Nat → Bool) (h : IH) (n m : Nat) (w : W) : Prop := ∃ d, VD p h n m w d
def Vs (p : Nat → Bool) (h : IH) (n m : Nat) (ws : List W) : Prop := ∃ ds, VDs p h n m ws ds
section
variable {p : Nat → Bool} {n n' m m' : Nat} {h h' : IH} {w : W} {ws us : List W} {d : PyData}
theorem VD.fr (v : VD p h n m w d) (k : FrX p h h') : VD p h' n m w d := ⟨toV_fr k _ _ _ v.e, v.sh, v.s, v.b, v.dp⟩
theorem V.fr (v : V p h n m w) (k : FrX p h h') : V p h' n m w := let ⟨d, v⟩ := v; ⟨d, v.fr k⟩
theorem Vs.fr (v : Vs p h n m ws) (k : FrX p h h') : Vs p h' n m ws := let ⟨d, v⟩ := v; ⟨d, mapO_imp (fun x y _ z _ => toV_fr k _ x y z) v.e, v.sh, v.s, v.b, v.dp⟩
theorem V.mono (v : V p h n m w) (hn : n ≤ n') (hm : m ≤ m') : V p h n' m' w := let ⟨d, v⟩ := v; ⟨d, v.e, v.sh, v.s, Nat.le_trans v.b hn, Nat.le_trans v.dp hm⟩
theorem Vs.mono (v : Vs p h n m ws) (hn : n ≤ n') (hm : m ≤ m') : Vs p h n' m' ws := let ⟨d, v⟩ := v; ⟨d, v.e, v.sh, v.s, Nat.le_trans v.b hn, Nat.le_trans v.dp hm⟩
theorem V.kn (v : V p h n m w) : kn h w = true := let ⟨_, v⟩ := v; kn_V _ _ _ v.e
theorem Vs.kns (v : Vs p h n m ws) : kns h ws = true := let ⟨_, v⟩ := v; kns_V _ _ _ v.e
theorem V.non : V p h 0 0 .non := ⟨.none, rfl, rfl, rfl, Nat.le_refl _, Nat.le_refl _⟩
theorem V.bl {b : Bool} : V p h 0 0 (.bl b) := ⟨.bool b, rfl, rfl, rfl, Nat.le_refl _, Nat.le_refl _⟩
theorem V.int {i : Int} (q : i.natAbs < 10 ^ 12) : V p h 0 0 (.int i) := ⟨.int i, rfl, (Sm.int q).sh, by
    show PyData.leavesShort 22 (.int i) = true
    simp only [PyData.leavesShort, decide_eq_true_eq]
    exact Nat.le_trans (PyData.shown_int_le q) (by decide), Nat.le_refl _, Nat.le_refl _⟩
theorem V.str {z : Str} (h2 : (z.cps.toList.all fun c => decide (c < 16 ^ 8)) = true) (h3 : z.cps.size ≤ n) : V p h n 0 (.str z) :=
  ⟨.str z, rfl, by
    show PyData.showable (.str z) = true
    simp only [PyData.showable], by
    show PyData.leavesShort 22 (.str z) = true
    simp only [PyData.leavesShort]; exact h2, by
    show PyData.bulk (.str z) ≤ n
    simp only [PyData.bulk]; exact h3, Nat.zero_le _⟩
theorem Vs.nil : Vs p h 0 m [] := ⟨[], rfl, rfl, rfl, Nat.le_refl _, Nat.zero_le _⟩
theorem Vs.cons (v : V p h n m w) (u : Vs p h n' m ws) : Vs p h (n + 1 + n') m (w :: ws) := by
  obtain ⟨d, v⟩ := v
  obtain ⟨ds, u⟩ := u
  refine ⟨d :: ds, by rw [mapO_cons, v.e, u.e], ?_, ?_, ?_, ?_⟩
  · simp only [PyData.showableAll]; rw [v.sh, u.sh]; rfl
  · simp only [PyData.leavesShortAll]; rw [v.s, u.s]; rfl
  · simp only [PyData.bulkAll]
    have := v.b
    have := u.b
    omega
  · show max d.depth (PyData.depthAll ds) ≤ m
    have := v.dp
    have := u.dp
    omega
theorem Vs.uncons (v : Vs p h n m (w :: ws)) : ∃ a b, a + 1 + b ≤ n ∧ V p h a m w ∧ Vs p h b m ws := by
  obtain ⟨ds, v⟩ := v
  have e := v.e
  rw [mapO_cons] at e
  cases q : toV p 60 h w with
  | none => rw [q] at e; cases e
  | some d =>
    rw [q] at e
    dsimp only at e
    cases q2 : mapO (toV p 60 h) ws with
    | none => rw [q2] at e; cases e
    | some s =>
      rw [q2] at e
      cases e
      have h1 := v.sh
      have h2 := v.s
      have h3 := v.b
      have h4 : max d.depth (PyData.depthAll s) ≤ m := v.dp
      simp only [PyData.showableAll, Bool.and_eq_true] at h1
      simp only [PyData.leavesShortAll, Bool.and_eq_true] at h2
      simp only [PyData.bulkAll] at h3
      exact ⟨d.bulk, PyData.bulkAll s, h3, ⟨d, q, h1.1, h2.1, Nat.le_refl _, by omega⟩, ⟨s, q2, h1.2, h2.2, Nat.le_refl _, by omega⟩⟩
theorem Vs.app : ∀ {ws : List W} {n : Nat}, Vs p h n m ws → Vs p h n' m us → Vs p h (n + n') m (ws ++ us)
  | [], n, v, u => u.mono (by omega) (Nat.le_refl _)
  | w :: ws, n, v, u => by
    obtain ⟨a, b, l, v1, v2⟩ := v.uncons
    exact (Vs.cons v1 (Vs.app v2 u)).mono (by omega) (Nat.le_refl _)
theorem Vs.split : ∀ {ws us : List W} {n : Nat}, Vs p h n m (ws ++ us) → ∃ a b, a + b ≤ n ∧ Vs p h a m ws ∧ Vs p h b m us
  | [], us, n, v => ⟨0, n, by omega, Vs.nil, v⟩
  | w :: ws, us, n, v => by
    obtain ⟨a, b, l, v1, v2⟩ := Vs.uncons (show Vs p h n m (w :: (ws ++ us)) from v)
    obtain ⟨c, d, l2, v3, v4⟩ := Vs.split v2
    exact ⟨a + 1 + c, d, by omega, Vs.cons v1 v3, v4⟩
theorem Vs.tup (v : Vs p h n m ws) (hm : m < 59) : V p h n (m + 1) (.tup ws) := by
  obtain ⟨ds, v⟩ := v
  have dp := v.dp
  refine ⟨.tuple ds, ?_, ?_, ?_, ?_, ?_⟩
  · show (match mapO (toV p 59 h) ws with
      | some ds => some (PyData.tuple ds)
      | none => none) = _
    rw [mapO_imp (fun x y _ z q => toV_dep 60 59 x y z (by have := dep_mem q; omega)) v.e]
  · simp only [PyData.showable]; exact v.sh
  · simp only [PyData.leavesShort]; exact v.s
  · simp only [PyData.bulk]; exact v.b
  · show PyData.depthAll ds + 1 ≤ m + 1
    omega
theorem Vs.lst {a : Nat} (v : Vs p h n m ws) (hm : m < 59) (g : h.get a = some (.lst ws)) (ne : p a = false) : V p h n (m + 1) (.loc a) := by
  obtain ⟨ds, v⟩ := v
  have dp := v.dp
  refine ⟨.list ds, ?_, ?_, ?_, ?_, ?_⟩
  · show (match p a with
      | true => none
      | false => (match h.get a with
        | some (.lst ws) => (match mapO (toV p 59 h) ws with
          | some ds => some (PyData.list ds)
          | none => none)
        | some (.dk []) => some (PyData.dict [])
        | _ => none)) = _
    rw [ne, g]
    dsimp only
    rw [mapO_imp (fun x y _ z q => toV_dep 60 59 x y z (by have := dep_mem q; omega)) v.e]
  · simp only [PyData.showable]; exact v.sh
  · simp only [PyData.leavesShort]; exact v.s
  · simp only [PyData.bulk]; exact v.b
  · show PyData.depthAll ds + 1 ≤ m + 1
    omega
theorem V.dct {a : Nat} (g : h.get a = some (.dk [])) (ne : p a = false) : V p h 0 1 (.loc a) := by
  refine ⟨.dict [], ?_, ?_, ?_, ?_, ?_⟩
  · show (match p a with
      | true => none
      | false => (match h.get a with
        | some (.lst ws) => (match mapO (toV p 59 h) ws with
          | some ds => some (PyData.list ds)
          | none => none)
        | some (.dk []) => some (PyData.dict [])
        | _ => none)) = _
    rw [ne, g]
  all_goals first | rfl | decide
theorem V.untup (v : V p h n m (.tup ws)) (hm : m < 60) : ∃ m', m' + 1 = m ∧ Vs p h n m' ws := by
  obtain ⟨d, v⟩ := v
  have e : (match mapO (toV p 59 h) ws with
      | some ds => some (PyData.tuple ds)
      | none => none) = some d := v.e
  cases q : mapO (toV p 59 h) ws with
  | none => rw [q] at e; cases e
  | some ds =>
    rw [q] at e
    cases e
    have h1 := v.sh
    have h2 := v.s
    have h3 := v.b
    have h4 : PyData.depthAll ds + 1 ≤ m := v.dp
    simp only [PyData.showable] at h1
    simp only [PyData.leavesShort] at h2
    simp only [PyData.bulk] at h3
    refine ⟨m - 1, by omega, ds, mapO_imp (fun x y _ z r => toV_dep 59 60 x y z (by have := dep_mem r; omega)) q, h1, h2, h3, by omega⟩
/-- what is shown of it -/
theorem x_repV {P : W → IH → Prop} (v : VD p h n m w d) (hn : n ≤ 600000) (hm : m ≤ 60) : (oRepr w h).Wp P = P (.str d.shown) h := by
  unfold oRepr
  have q : datE h w = some d := toDE_of_V v.e 65 (by have := v.dp; omega)
  rw [q]; dsimp only
  have z := PyData.shown_le_bulk 22 (by decide) d v.s
  have b := v.b
  have dp := v.dp
  have e : lenOk d.shown.length = true := lenOk_iff.mpr (by omega)
  have e2 : Nat.ble d.depth 64 = true := Nat.ble_eq_true_of_le (by omega)
  rw [v.sh, e, e2]
  rfl
end
end K25

set_option linter.all false
set_option linter.unusedSimpArgs false
set_option maxRecDepth 100000
set_option maxHeartbeats 1000000
namespace K25
open PySem Fw
/-! ### instructions as a walk sees them -/
inductive Op where
  | plain | acc (u : Int) | fail | branch (t : Int) | wake (u t : Int)
def isGoal (u : Int) (ops : List Op) (k : Nat) : Bool := match ops[k]? with
  | some (.acc v) => decide (v = u)
  | _ => false
def goalsK (u : Int) (ops : List Op) (n : Nat) : List Int := ((List.range n).filter (isGoal u ops)).map fun k : Nat => (k : Int)
def goals (u : Int) (ops : List Op) : List Int := goalsK u ops ops.length
theorem goalsK_s (u : Int) (ops : List Op) (n : Nat) : goalsK u ops (n + 1) = if isGoal u ops n = true then goalsK u ops n ++ [(n : Int)] else goalsK u ops n := by
  unfold goalsK
  rw [List.range_succ, List.filter_append, List.map_append]
  cases q : isGoal u ops n with
  | true => rw [if_pos rfl]; simp [q]
  | false => rw [if_neg (by decide)]; simp [q]
theorem goalsK_len (u : Int) (ops : List Op) : ∀ n, (goalsK u ops n).length ≤ n
  | 0 => Nat.le_refl _
  | n + 1 => by
    have := goalsK_len u ops n
    rw [goalsK_s]
    split
    · rw [List.length_append]; simp; omega
    · omega
theorem goals_rg {u : Int} {ops : List Op} {g : Int} (h : g ∈ goals u ops) : 0 ≤ g ∧ g < ops.length := by
  unfold goals goalsK at h
  obtain ⟨k, hk, e⟩ := List.mem_map.mp h
  have := List.mem_range.mp (List.mem_filter.mp hk).1
  omega
/-- the places a step leads to, as the law has them -/
def onwR (u : Int) (op : Op) (k : Int) : List Int := match op with
  | .fail => []
  | .branch t => [k + 1, t]
  | .wake w t => if w = u then [t] else [k + 1, t]
  | _ => [k + 1]
def onw (u : Int) (ops : List Op) (a : Int) : List Int := match ops[a.toNat]? with
  | some op => (onwR u op a).filter fun x => decide (x < ops.length)
  | none => []
structure OpsOk (ops : List Op) : Prop where
  len : 1 ≤ ops.length
  br : ∀ (k : Nat) (t : Int), ops[k]? = some (.branch t) → 0 ≤ t
  wk : ∀ (k : Nat) (u t : Int), ops[k]? = some (.wake u t) → 0 ≤ t
  l8 : ops.length ≤ 8
theorem onw_rg {u : Int} {ops : List Op} (ok : OpsOk ops) {a b : Int} (a0 : 0 ≤ a) (h : b ∈ onw u ops a) : 0 ≤ b ∧ b < ops.length := by
  unfold onw at h
  cases q : ops[a.toNat]? with
  | none => rw [q] at h; cases h
  | some op =>
    rw [q] at h
    obtain ⟨h1, h2⟩ := List.mem_filter.mp h
    refine ⟨?_, of_decide_eq_true h2⟩
    cases op with
    | plain => obtain rfl := List.mem_singleton.mp (show b ∈ [a + 1] from h1); omega
    | acc v => obtain rfl := List.mem_singleton.mp (show b ∈ [a + 1] from h1); omega
    | fail => cases h1
    | branch t =>
      rcases List.mem_cons.mp (show b ∈ [a + 1, t] from h1) with e | e
      · omega
      · have := List.mem_singleton.mp e; have := ok.br _ _ q; omega
    | wake w t =>
      have h1 : b ∈ (if w = u then [t] else [a + 1, t]) := h1
      have := ok.wk _ _ _ q
      split at h1
      · have := List.mem_singleton.mp h1; omega
      · rcases List.mem_cons.mp h1 with e | e
        · omega
        · have := List.mem_singleton.mp e; omega
theorem onw_len (u : Int) (ops : List Op) (a : Int) : (onw u ops a).length ≤ 2 := by
  unfold onw
  cases q : ops[a.toNat]? with
  | none => exact Nat.zero_le _
  | some op =>
    refine Nat.le_trans (List.length_filter_le _ _) ?_
    cases op with
    | wake w t => show (if w = u then [t] else [a + 1, t]).length ≤ 2; split <;> simp
    | _ => simp [onwR]
/-! ### what can be come to -/
inductive Rch (nx : Int → List Int) (cl : List Int) : Int → Prop
  | z : 0 ∉ cl → Rch nx cl 0
  | s {a b : Int} : Rch nx cl a → b ∈ nx a → b ∉ cl → Rch nx cl b
theorem Rch.out {nx : Int → List Int} {cl : List Int} {a : Int} : Rch nx cl a → a ∉ cl
  | .z h => h
  | .s _ _ h => h
def Hit (nx : Int → List Int) (cl gs : List Int) : Prop := ∃ g ∈ gs, Rch nx cl g
/-- what a search has seen, with what is left to see -/
structure Srch (nx : Int → List Int) (cl gs ks row : List Int) : Prop where
  snd : ∀ k ∈ ks, k ∉ cl → Rch nx cl k
  zero : (0 : Int) ∈ ks
  done : ∀ k ∈ ks, k ∈ row ∨ k ∈ cl ∨ (k ∉ gs ∧ ∀ b ∈ nx k, b ∈ ks)
theorem Srch.begin {nx : Int → List Int} {cl gs : List Int} : Srch nx cl gs [0] [0] :=
  ⟨fun k h q => by obtain rfl := List.mem_singleton.mp h; exact .z q, List.mem_singleton.mpr rfl, fun k h => .inl h⟩
theorem Srch.no {nx : Int → List Int} {cl gs ks : List Int} (s : Srch nx cl gs ks []) : ¬ Hit nx cl gs := by
  have all : ∀ a, Rch nx cl a → a ∈ ks := fun a r => by
    induction r with
    | z _ => exact s.zero
    | s ra hb _ ih =>
      rcases s.done _ ih with h | h | h
      · cases h
      · exact absurd h ra.out
      · exact h.2 _ hb
  rintro ⟨g, hg, r⟩
  rcases s.done g (all g r) with h | h | h
  · cases h
  · exact r.out h
  · exact h.1 hg
theorem Srch.yes {nx : Int → List Int} {cl gs ks row : List Int} (s : Srch nx cl gs ks row) {k : Int} (hk : k ∈ ks) (hc : k ∉ cl) (hg : k ∈ gs) : Hit nx cl gs := ⟨k, hg, s.snd k hk hc⟩
/-- a place that is closed is left -/
theorem Srch.skip {nx : Int → List Int} {cl gs ks row : List Int} {k : Int} (s : Srch nx cl gs ks (k :: row)) (hc : k ∈ cl) : Srch nx cl gs ks row :=
  ⟨s.snd, s.zero, fun x hx => by
    rcases s.done x hx with h | h | h
    · rcases List.mem_cons.mp h with e | h
      · exact .inr (.inl (e ▸ hc))
      · exact .inl h
    · exact .inr (.inl h)
    · exact .inr (.inr h)⟩
/-- what is added for a place: those of its next ones that are new -/
def addS (ks : List Int) : List Int → List Int
  | [] => []
  | b :: r => if b ∈ ks then addS ks r else b :: addS (ks ++ [b]) r
theorem addS_mem {ks vs : List Int} {x : Int} : x ∈ addS ks vs → x ∈ vs := by
  induction vs generalizing ks with
  | nil => intro h; cases h
  | cons b r ih =>
    intro h
    unfold addS at h
    split at h
    · exact List.mem_cons_of_mem _ (ih h)
    · rcases List.mem_cons.mp h with e | h
      · exact e ▸ List.mem_cons_self
      · exact List.mem_cons_of_mem _ (ih h)
theorem addS_new {ks vs : List Int} {x : Int} : x ∈ addS ks vs → x ∉ ks := by
  induction vs generalizing ks with
  | nil => intro h; cases h
  | cons b r ih =>
    intro h
    unfold addS at h
    split at h
    · exact ih h
    · rename_i q
      rcases List.mem_cons.mp h with e | h
      · exact e ▸ q
      · exact fun z => ih h (List.mem_append_left _ z)
theorem addS_nodup {ks vs : List Int} : (addS ks vs).Nodup := by
  induction vs generalizing ks with
  | nil => exact .nil
  | cons b r ih =>
    unfold addS
    split
    · exact ih
    · exact List.nodup_cons.mpr ⟨fun z => addS_new z (List.mem_append_right _ (List.mem_singleton.mpr rfl)), ih⟩
theorem addS_all {ks vs : List Int} {x : Int} (h : x ∈ vs) : x ∈ ks ++ addS ks vs := by
  induction vs generalizing ks with
  | nil => cases h
  | cons b r ih =>
    unfold addS
    split
    · rename_i q
      rcases List.mem_cons.mp h with e | h
      · exact List.mem_append_left _ (e ▸ q)
      · exact ih h
    · rcases List.mem_cons.mp h with e | h
      · exact List.mem_append_right _ (e ▸ List.mem_cons_self)
      · have := ih (ks := ks ++ [b]) h
        rwa [List.append_assoc] at this
theorem addS_snoc (ks : List Int) (b : Int) : ∀ vs : List Int, addS ks (vs ++ [b]) = if b ∈ ks ++ addS ks vs then addS ks vs else addS ks vs ++ [b]
  | [] => by
    show addS ks [b] = _
    unfold addS
    simp [addS]
  | x :: vs => by
    show addS ks (x :: (vs ++ [b])) = _
    unfold addS
    split
    · exact addS_snoc ks b vs
    · rw [addS_snoc (ks ++ [x]) b vs, List.append_assoc]
      show _ = if b ∈ ks ++ x :: addS (ks ++ [x]) vs then x :: addS (ks ++ [x]) vs else x :: addS (ks ++ [x]) vs ++ [b]
      show (x :: if b ∈ ks ++ x :: addS (ks ++ [x]) vs then addS (ks ++ [x]) vs else addS (ks ++ [x]) vs ++ [b]) = _
      split <;> rfl
theorem Srch.step {nx : Int → List Int} {cl gs ks row vs row' : List Int} {k : Int} (s : Srch nx cl gs ks (k :: row)) (hk : k ∈ ks) (hc : k ∉ cl) (hg : k ∉ gs) (hv : ∀ b, b ∈ vs ↔ b ∈ nx k) (hr : ∀ x, x ∈ row' ↔ x ∈ row ∨ x ∈ addS ks vs) :
    Srch nx cl gs (ks ++ addS ks vs) row' := by
  have rk := s.snd k hk hc
  refine ⟨fun x hx q => ?_, List.mem_append_left _ s.zero, fun x hx => ?_⟩
  · rcases List.mem_append.mp hx with hx | hx
    · exact s.snd x hx q
    · exact .s rk ((hv x).mp (addS_mem hx)) q
  · rcases List.mem_append.mp hx with hx | hx
    · rcases s.done x hx with h | h | h
      · rcases List.mem_cons.mp h with e | h
        · subst e
          exact .inr (.inr ⟨hg, fun b hb => addS_all ((hv b).mpr hb)⟩)
        · exact .inl ((hr x).mpr (.inl h))
      · exact .inr (.inl h)
      · exact .inr (.inr ⟨h.1, fun b hb => List.mem_append_left _ (h.2 b hb)⟩)
    · exact .inl ((hr x).mpr (.inr hx))
/-- the law's own search: what is seen, what is on the row -/
structure Srl (nx : Int → List Int) (cl gs seen row : List Int) : Prop where
  snd : ∀ k ∈ row, k ∉ cl → Rch nx cl k
  sn : ∀ k ∈ seen, Rch nx cl k ∧ k ∉ gs ∧ ∀ b ∈ nx k, b ∈ seen ∨ b ∈ cl ∨ b ∈ row
  zero : (0 : Int) ∈ seen ∨ (0 : Int) ∈ cl ∨ (0 : Int) ∈ row
theorem Srl.begin {nx : Int → List Int} {cl gs : List Int} : Srl nx cl gs [] [0] :=
  ⟨fun k h q => by obtain rfl := List.mem_singleton.mp h; exact .z q, fun k h => (by cases h), .inr (.inr (List.mem_singleton.mpr rfl))⟩
theorem Srl.no {nx : Int → List Int} {cl gs seen : List Int} (s : Srl nx cl gs seen []) : ¬ Hit nx cl gs := by
  have all : ∀ a, Rch nx cl a → a ∈ seen := fun a r => by
    induction r with
    | z h =>
      rcases s.zero with q | q | q
      · exact q
      · exact absurd q h
      · cases q
    | s ra hb h ih =>
      rcases (s.sn _ ih).2.2 _ hb with q | q | q
      · exact q
      · exact absurd q h
      · cases q
  rintro ⟨g, hg, r⟩
  exact (s.sn g (all g r)).2.1 hg
theorem Srl.skip {nx : Int → List Int} {cl gs seen row row' : List Int} {k : Int} (s : Srl nx cl gs seen row') (hr : ∀ x, x ∈ row' ↔ x ∈ row ∨ x = k) (hc : k ∈ seen ∨ k ∈ cl) : Srl nx cl gs seen row := by
  have tr : ∀ b, (b ∈ seen ∨ b ∈ cl ∨ b ∈ row') → b ∈ seen ∨ b ∈ cl ∨ b ∈ row := fun b h => by
    rcases h with h | h | h
    · exact .inl h
    · exact .inr (.inl h)
    · rcases (hr b).mp h with h | h
      · exact .inr (.inr h)
      · subst h; rcases hc with q | q
        · exact .inl q
        · exact .inr (.inl q)
  exact ⟨fun x hx => s.snd x ((hr x).mpr (.inl hx)), fun x hx => ⟨(s.sn x hx).1, (s.sn x hx).2.1, fun b hb => tr b ((s.sn x hx).2.2 b hb)⟩, tr 0 s.zero⟩
theorem Srl.step {nx : Int → List Int} {cl gs seen row row' : List Int} {k : Int} (s : Srl nx cl gs seen row') (hr : ∀ x, x ∈ row' ↔ x ∈ row ∨ x = k) (hc : k ∉ cl) (hg : k ∉ gs) : Srl nx cl gs (seen ++ [k]) (row ++ nx k) := by
  have rk := s.snd k ((hr k).mpr (.inr rfl)) hc
  have tr : ∀ b, (b ∈ seen ∨ b ∈ cl ∨ b ∈ row') → b ∈ seen ++ [k] ∨ b ∈ cl ∨ b ∈ row ++ nx k := fun b h => by
    rcases h with h | h | h
    · exact .inl (List.mem_append_left _ h)
    · exact .inr (.inl h)
    · rcases (hr b).mp h with h | h
      · exact .inr (.inr (List.mem_append_left _ h))
      · subst h; exact .inl (List.mem_append_right _ (List.mem_singleton.mpr rfl))
  refine ⟨fun x hx q => ?_, fun x hx => ?_, tr 0 s.zero⟩
  · rcases List.mem_append.mp hx with hx | hx
    · exact s.snd x ((hr x).mpr (.inl hx)) q
    · exact .s rk hx q
  · rcases List.mem_append.mp hx with hx | hx
    · exact ⟨(s.sn x hx).1, (s.sn x hx).2.1, fun b hb => tr b ((s.sn x hx).2.2 b hb)⟩
    · obtain rfl := List.mem_singleton.mp hx
      exact ⟨rk, hg, fun b hb => .inr (.inr (List.mem_append_right _ hb))⟩
theorem Srl.yes {nx : Int → List Int} {cl gs seen row : List Int} (s : Srl nx cl gs seen row) {k : Int} (hk : k ∈ row) (hc : k ∉ cl) (hg : k ∈ gs) : Hit nx cl gs := ⟨k, hg, s.snd k hk hc⟩
end K25

set_option linter.all false
set_option linter.unusedSimpArgs false
set_option maxRecDepth 100000
set_option maxHeartbeats 1000000
namespace K25
open PySem Fw
/-- an instruction and what a walk sees of it -/
inductive Is (fns : List W) : W → Op → Prop
  | fail  : Is fns (.tup [.str "fail"]) (.fail)
  | num (s v : Int) : Is fns (.tup [.str "number", .int s, .int v]) (.plain)
  | copy (s v : Int) : Is fns (.tup [.str "copy", .int s, .int v]) (.plain)
  | add (s v : Int) : Is fns (.tup [.str "add", .int s, .int v]) (.plain)
  | input (s : Int) : Is fns (.tup [.str "input", .int s]) (.plain)
  | show_ (s : Int) : Is fns (.tup [.str "show", .int s]) (.plain)
  | read (s u f : Int) : Is fns (.tup [.str "read", .int s, .int u, .int f]) (.acc u)
  | write (u f s : Int) : Is fns (.tup [.str "write", .int u, .int f, .int s]) (.acc u)
  | call (j u : Int) (b : W) : 0 ≤ j → fns[j.toNat]? = some (.tup [.int u, b]) → Is fns (.tup [.str "call", .int j]) (.acc u)
  | branch (t : Int) : Is fns (.tup [.str "branch", .int t]) (.branch t)
  | wake (u t : Int) : Is fns (.tup [.str "wake", .int u, .int t]) (.wake u t)
def uW : Op → W
  | .acc u => .int u
  | .wake u _ => .int u
  | _ => .non
def isAcc (u : Int) : Op → Bool
  | .acc v => decide (v = u)
  | _ => false
theorem isGoal_at {u : Int} {ops : List Op} {k : Nat} {op : Op} (h : ops[k]? = some op) : isGoal u ops k = isAcc u op := by
  unfold isGoal; rw [h]; cases op <;> rfl
theorem eqB {r : Rs Bool} {w : Bool} {h : IH} (z : r.Wp fun x h' => x = w ∧ h' = h) : r = .ok w h := by
  obtain ⟨a, h', e, rfl, rfl⟩ := z.ex
  exact e
theorem eqW_ {r : Rs W} {w : W} {h : IH} (z : r.Wp fun x h' => x = w ∧ h' = h) : r = .ok w h := by
  obtain ⟨a, h', e, rfl, rfl⟩ := z.ex
  exact e
theorem x_eqNI {i : Int} {h : IH} {P : W → IH → Prop} : (oEq .non (.int i) h).Wp P = P (.bl false) h := rfl
theorem x_inT0 {i : Int} {h : IH} {P : W → IH → Prop} : (oIn (.int i) (.tup []) h).Wp P = P (.bl false) h := rfl
theorem x_inT1 {i v : Int} {h : IH} {P : W → IH → Prop} : (oIn (.int i) (.tup [.int v]) h).Wp P = P (.bl (decide (v = i))) h := by
  unfold oIn inW inFlat inFlat
  by_cases q : v = i
  · subst q; simp [flatW, eqFlat]
  · simp [flatW, eqFlat, q]
theorem w_dic {kvs : List (EE × EE)} {e : Fw.Env} {h : IH} {d : List (Key × W)} {P : W → IH → Prop} (q : eDic.go e kvs h [] = .ok d h) (k : P (.loc h.n) (h.new (.dk d))) : (eDic kvs e h).Wp P := by
  unfold eDic; rw [q]; exact k
/-- unit_of -/
def S10 (Φ : FT) : Prop := ∀ (us fns : List W) (x : W) (op : Op) (h : IH), Is fns x op → Φ 10 [.tup [.tup us, .tup fns], x] h = .ok (uW op) h
theorem ph10 (k : Nat) : S10 (Phi gk tab (k + 1)) := fun us fns x op h i => by
  rw [phi10]
  cases i with
  | fail  => exact (by kernel_rfl : callB (m10 _) 2 2 [.tup [.tup us, .tup fns], .tup [.str "fail"]] h = .ok (uW (.fail)) h)
  | num s v => exact (by kernel_rfl : callB (m10 _) 2 2 [.tup [.tup us, .tup fns], .tup [.str "number", .int s, .int v]] h = .ok (uW (.plain)) h)
  | copy s v => exact (by kernel_rfl : callB (m10 _) 2 2 [.tup [.tup us, .tup fns], .tup [.str "copy", .int s, .int v]] h = .ok (uW (.plain)) h)
  | add s v => exact (by kernel_rfl : callB (m10 _) 2 2 [.tup [.tup us, .tup fns], .tup [.str "add", .int s, .int v]] h = .ok (uW (.plain)) h)
  | input s => exact (by kernel_rfl : callB (m10 _) 2 2 [.tup [.tup us, .tup fns], .tup [.str "input", .int s]] h = .ok (uW (.plain)) h)
  | show_ s => exact (by kernel_rfl : callB (m10 _) 2 2 [.tup [.tup us, .tup fns], .tup [.str "show", .int s]] h = .ok (uW (.plain)) h)
  | read s u f => exact (by kernel_rfl : callB (m10 _) 2 2 [.tup [.tup us, .tup fns], .tup [.str "read", .int s, .int u, .int f]] h = .ok (uW (.acc u)) h)
  | write u f s => exact (by kernel_rfl : callB (m10 _) 2 2 [.tup [.tup us, .tup fns], .tup [.str "write", .int u, .int f, .int s]] h = .ok (uW (.acc u)) h)
  | call j u b g0 hg =>
    refine eqW_ ?_
    rw [x_callB (by rfl)]
    show (m10 _ [some (.tup [.tup us, .tup fns]), some (.tup [.str "call", .int j])] h).Wp _
    unfold m10
    rw [x_seq]
    refine w_ifF (by kernel_rfl) ?_
    rw [x_next, x_seq]
    refine w_ifF (by kernel_rfl) ?_
    rw [x_next, x_seq, x_ret]
    refine w_eIfT (by kernel_rfl) ?_
    rw [x_e2, x_e2, x_e2, v0, x_C, x_ixT1, x_e2, v1, x_C, x_ixT1, x_ixT g0 hg, x_C, x_ixT0]
    exact ⟨rfl, rfl⟩
  | branch t => exact (by kernel_rfl : callB (m10 _) 2 2 [.tup [.tup us, .tup fns], .tup [.str "branch", .int t]] h = .ok (uW (.branch t)) h)
  | wake u t => exact (by kernel_rfl : callB (m10 _) 2 2 [.tup [.tup us, .tup fns], .tup [.str "wake", .int u, .int t]] h = .ok (uW (.wake u t)) h)
/-- a function's body and what a walk sees of it -/
structure Fun (fns : List W) (f : Int) (body : List W) (ops : List Op) : Prop where
  f0 : 0 ≤ f
  at_ : ∃ v, fns[f.toNat]? = some (.tup [v, .tup body])
  len : ops.length = body.length
  is : ∀ (k : Nat) (x : W), body[k]? = some x → ∃ op, ops[k]? = some op ∧ Is fns x op
  ok : OpsOk ops
def Gives (r : Rs W) (h : IH) (cs : List Int) : Prop := r.Wp fun w h' => ∃ a, w = .loc a ∧ h'.get a = some (.lst (cs.map .int)) ∧ h.n ≤ a ∧ Keep h h'
def S14 (Φ : FT) : Prop := ∀ (us fns : List W) (f u : Int) (body : List W) (ops : List Op) (h : IH), Fun fns f body ops → Gives (Φ 14 [.tup [.tup us, .tup fns], .int f, .int u] h) h (goals u ops)
theorem test14 {Φ : FT} (H : S10 Φ) {us fns : List W} {x : W} {op : Op} (i : Is fns x op) (s1 s3 s4 : Option W) (u : Int) (h : IH) :
    (tAnd (tBol (e2 oEq (eCall Φ 10 (aCons (eVar 0) (aCons (eVar 5) aNil))) (eVar 2))) (tBol (e2 oNe (e2 oIx (eVar 5) (eC (.int 0))) (eC (.str "wake"))))) [some (.tup [.tup us, .tup fns]), s1, some (.int u), s3, s4, some x] h = .ok (isAcc u op) h := by
  refine eqB ?_
  rw [x_and, x_bol, x_e2, x_call, x_cons, v0, x_cons, v5, x_nil, H us fns x op h i, Rs.Wp_ok, v2]
  cases i with
  | fail  => rw [show uW (.fail) = W.non from rfl, x_eqNI, x_bolW]; exact ⟨fun q => Bool.noConfusion q, fun _ => ⟨rfl, rfl⟩⟩
  | num s v => rw [show uW (.plain) = W.non from rfl, x_eqNI, x_bolW]; exact ⟨fun q => Bool.noConfusion q, fun _ => ⟨rfl, rfl⟩⟩
  | copy s v => rw [show uW (.plain) = W.non from rfl, x_eqNI, x_bolW]; exact ⟨fun q => Bool.noConfusion q, fun _ => ⟨rfl, rfl⟩⟩
  | add s v => rw [show uW (.plain) = W.non from rfl, x_eqNI, x_bolW]; exact ⟨fun q => Bool.noConfusion q, fun _ => ⟨rfl, rfl⟩⟩
  | input s => rw [show uW (.plain) = W.non from rfl, x_eqNI, x_bolW]; exact ⟨fun q => Bool.noConfusion q, fun _ => ⟨rfl, rfl⟩⟩
  | show_ s => rw [show uW (.plain) = W.non from rfl, x_eqNI, x_bolW]; exact ⟨fun q => Bool.noConfusion q, fun _ => ⟨rfl, rfl⟩⟩
  | read s v f =>
    rw [show uW (.acc v) = W.int v from rfl, x_eqI, x_bolW]
    refine ⟨fun q => ?_, fun q => ⟨q.symm, rfl⟩⟩
    rw [x_bol, x_e2, x_e2, v5, x_C, x_ixT0, x_C, x_neS, x_bolW]
    exact ⟨(show _ = true by decide +kernel).trans q.symm, rfl⟩
  | write v f s =>
    rw [show uW (.acc v) = W.int v from rfl, x_eqI, x_bolW]
    refine ⟨fun q => ?_, fun q => ⟨q.symm, rfl⟩⟩
    rw [x_bol, x_e2, x_e2, v5, x_C, x_ixT0, x_C, x_neS, x_bolW]
    exact ⟨(show _ = true by decide +kernel).trans q.symm, rfl⟩
  | call j v b g0 hg =>
    rw [show uW (.acc v) = W.int v from rfl, x_eqI, x_bolW]
    refine ⟨fun q => ?_, fun q => ⟨q.symm, rfl⟩⟩
    rw [x_bol, x_e2, x_e2, v5, x_C, x_ixT0, x_C, x_neS, x_bolW]
    exact ⟨(show _ = true by decide +kernel).trans q.symm, rfl⟩
  | branch t => rw [show uW (.branch t) = W.non from rfl, x_eqNI, x_bolW]; exact ⟨fun q => Bool.noConfusion q, fun _ => ⟨rfl, rfl⟩⟩
  | wake v t =>
    rw [show uW (.wake v t) = W.int v from rfl, x_eqI, x_bolW]
    refine ⟨fun q => ?_, fun q => ⟨rfl, rfl⟩⟩
    rw [x_bol, x_e2, x_e2, v5, x_C, x_ixT0, x_C, x_neS, x_bolW]
    exact ⟨(show (!decide (("wake" : Str) = "wake")) = false by decide +kernel), rfl⟩
theorem ph14 (k : Nat) : S14 (Phi gk tab (k + 2)) := fun us fns f u body ops h F => by
  obtain ⟨v, hv⟩ := F.at_
  rw [phi14]
  unfold Gives
  rw [x_callB (by rfl)]
  show (m14 _ [some (.tup [.tup us, .tup fns]), some (.int f), some (.int u), none, none, none] h).Wp _
  unfold m14
  rw [x_seq, x_asg, x_e2, x_e2, x_e2, v0, x_C, x_ixT1, v1, x_ixT F.f0 hv, x_C, x_ixT1, n3]
  dsimp only
  rw [x_seq, x_ret]
  refine lc_enuT ?_
  rw [v3]
  refine ⟨body, rfl, fun i xs h2 => h2 = h ∧ xs = (goalsK u ops i).map .int, ⟨rfl, rfl⟩, ?_, ?_⟩
  · rintro i xs h2 y ⟨rfl, rfl⟩ hy
    obtain ⟨op, ho, is⟩ := F.is i y hy
    show (gTp [gNm 4, gNm 5] (.tup [.int i, y]) [some (.tup [.tup us, .tup fns]), some (.int f), some (.int u), some (.tup body), none, none] h2).Wp _
    rw [x_tp]
    refine ⟨rfl, ?_⟩
    rw [x_gs1, n4, x_gs1, n5, x_gs0, test14 (ph10 k) is, Rs.Wp_ok]
    cases q : isAcc u op with
    | true =>
      rw [if_pos rfl, v4]
      exact ⟨rfl, by rw [goalsK_s, isGoal_at ho, q, if_pos rfl, List.map_append]; rfl⟩
    | false => rw [if_neg (by decide)]; exact ⟨rfl, by rw [goalsK_s, isGoal_at ho, q, if_neg (by decide)]⟩
  · rintro xs h2 ⟨rfl, rfl⟩
    rw [← F.len]
    refine ⟨?_, h2.n, rfl, IH.get_new_self _ _, Nat.le_refl _, Keep.new⟩
    have := goalsK_len u ops ops.length
    have := F.ok.l8
    rw [List.length_map]; omega
/-! ### the places a step leads to -/
theorem filt_ok {body : List W} {vs : List Int} {r : Nat} {s0 s1 s2 s3 s5 s7 : Option W} {h : IH} {P : W → IH → Prop} (g : h.get r = some (.lst (vs.map .int))) (hl : vs.length ≤ 1000) (z : P (.loc h.n) (h.new (.lst ((vs.filter fun x : Int => decide (x < (body.length : Int))).map .int)))) :
    (eLc (iAny (eVar 6)) (gNm 7) (tBol (e2 oLt (eVar 7) (eA (k1 oLen) (aCons (eVar 4) aNil)))) (eVar 7) [7] [s0, s1, s2, s3, some (.tup body), s5, some (.loc r), s7] h).Wp P := by
  refine lc_lst ?_
  rw [v6]
  refine ⟨r, _, rfl, g, fun i xs h2 => h2 = h ∧ xs = ((vs.take i).filter fun x : Int => decide (x < (body.length : Int))).map .int, ⟨rfl, rfl⟩, ?_, ?_⟩
  · rintro i xs h2 y ⟨rfl, rfl⟩ hy
    obtain ⟨u, hu, rfl⟩ := ints_at hy
    refine ⟨g, ?_⟩
    show (gNm 7 (.int u) [s0, s1, s2, s3, some (.tup body), s5, some (.loc r), none] h2).Wp _
    rw [n7, x_bol, x_e2, v7, x_eA, x_cons, v4, x_nil, x_lenT, x_lt, x_bolW]
    by_cases q : u < body.length
    · rw [decide_eq_true q, if_pos rfl, v7]
      exact ⟨rfl, by rw [filter_take _ hu, decide_eq_true q, if_pos rfl, List.map_append]; rfl⟩
    · rw [decide_eq_false q, if_neg (by decide)]
      exact ⟨rfl, by rw [filter_take _ hu, decide_eq_false q, if_neg (by decide)]⟩
  · rintro xs h2 ⟨rfl, rfl⟩
    have e : (vs.map W.int).length = vs.length := List.length_map _
    rw [e, List.take_length]
    refine ⟨g, ?_, z⟩
    rw [List.length_map]
    exact Nat.le_trans (List.length_filter_le _ _) (by omega)
def S30 (Φ : FT) : Prop := ∀ (us fns : List W) (f u a : Int) (body : List W) (ops : List Op) (h : IH), Fun fns f body ops → 0 ≤ a → a < body.length → Gives (Φ 30 [.tup [.tup us, .tup fns], .int f, .int u, .int a] h) h (onw u ops a)
def S15 (Φ : FT) : Prop := ∀ (us fns : List W) (f u a : Int) (body : List W) (ops : List Op) (h : IH), Fun fns f body ops → 0 ≤ a → a < body.length → Gives (Φ 15 [.tup [.tup us, .tup fns], .int f, .int u, .int a] h) h (setI (onw u ops a))
theorem onw_at {u a : Int} {ops : List Op} {op : Op} (h : ops[a.toNat]? = some op) : onw u ops a = (onwR u op a).filter fun x : Int => decide (x < (ops.length : Int)) := by unfold onw; rw [h]

theorem ph30 (k : Nat) : S30 (Phi gk tab (k + 1)) := fun us fns f u a body ops h F a0 a1 => by
  obtain ⟨v, hv⟩ := F.at_
  have hx : body[a.toNat]? = some body[a.toNat] := List.getElem?_eq_getElem (by omega)
  obtain ⟨op, ho, is⟩ := F.is _ _ hx
  generalize body[a.toNat] = x at hx is
  rw [phi30]
  unfold Gives
  rw [x_callB (by rfl), onw_at ho, F.len]
  show (m30 _ [some (.tup [.tup us, .tup fns]), some (.int f), some (.int u), some (.int a), none, none, none, none] h).Wp _
  unfold m30
  rw [x_seq, x_asg, x_e2, x_e2, x_e2, v0, x_C, x_ixT1, v1, x_ixT F.f0 hv, x_C, x_ixT1, n4]
  dsimp only
  rw [x_seq, x_par2, x_e2, v4, v3, x_ixT a0 hx, x_lst, x_cons, x_e2, v3, x_C, x_add, x_nil]
  refine ⟨by rfl, ?_⟩
  rw [n5, n6]
  try dsimp only
  have k1 : Keep h (h.new (.lst [.int (a + 1)])) := Keep.new
  have g1 : (h.new (.lst [.int (a + 1)])).get h.n = some (.lst ([a + 1].map .int)) := IH.get_new_self _ _
  generalize h.new (.lst [.int (a + 1)]) = h1 at k1 g1 ⊢
  have tail : ∀ (h2 : IH) (r : Nat) (vs : List Int), Keep h h2 → h2.get r = some (.lst (vs.map .int)) → vs.length ≤ 2 → vs = onwR u op a → ((sSeq (sRet (eLc (iAny (eVar 6)) (gNm 7) (tBol (e2 oLt (eVar 7) (eA (Fw.k1 oLen) (aCons (eVar 4) aNil)))) (eVar 7) [7])) sNext) [some (.tup [.tup us, .tup fns]), some (.int f), some (.int u), some (.int a), some (.tup body), some x, some (.loc r), none] h2).Wp ⟨fun _ h' => (fun (w : W) (h' : IH) => ∃ a_1, w = .loc a_1 ∧ h'.get a_1 = some (.lst (((onwR u op a).filter fun x : Int => decide (x < (body.length : Int))).map .int)) ∧ h.n ≤ a_1 ∧ Keep h h') .non h', fun (w : W) (h' : IH) => ∃ a_1, w = .loc a_1 ∧ h'.get a_1 = some (.lst (((onwR u op a).filter fun x : Int => decide (x < (body.length : Int))).map .int)) ∧ h.n ≤ a_1 ∧ Keep h h', fun _ _ => False, fun _ _ => False⟩ := fun h2 r vs k2 g2 l2 e2 => by
    subst e2
    rw [x_seq, x_ret]
    refine filt_ok g2 (by omega) ?_
    exact ⟨h2.n, rfl, IH.get_new_self _ _, k2.1, k2.trans Keep.new⟩
  cases is with
  | fail  =>
    rw [x_seq]
    refine w_ifT (by kernel_rfl) ?_
    rw [x_seq, x_ret, x_lst, x_nil]
    exact ⟨by rfl, _, rfl, IH.get_new_self _ _, k1.1, k1.trans Keep.new⟩
  | num s v =>
    rw [x_seq]
    refine w_ifF (by kernel_rfl) ?_
    rw [x_next, x_seq]
    refine w_ifF (by kernel_rfl) ?_
    rw [x_next, x_seq]
    refine w_ifF (by kernel_rfl) ?_
    rw [x_next]
    exact tail _ _ [a + 1] k1 g1 (by simp) rfl
  | copy s v =>
    rw [x_seq]
    refine w_ifF (by kernel_rfl) ?_
    rw [x_next, x_seq]
    refine w_ifF (by kernel_rfl) ?_
    rw [x_next, x_seq]
    refine w_ifF (by kernel_rfl) ?_
    rw [x_next]
    exact tail _ _ [a + 1] k1 g1 (by simp) rfl
  | add s v =>
    rw [x_seq]
    refine w_ifF (by kernel_rfl) ?_
    rw [x_next, x_seq]
    refine w_ifF (by kernel_rfl) ?_
    rw [x_next, x_seq]
    refine w_ifF (by kernel_rfl) ?_
    rw [x_next]
    exact tail _ _ [a + 1] k1 g1 (by simp) rfl
  | input s =>
    rw [x_seq]
    refine w_ifF (by kernel_rfl) ?_
    rw [x_next, x_seq]
    refine w_ifF (by kernel_rfl) ?_
    rw [x_next, x_seq]
    refine w_ifF (by kernel_rfl) ?_
    rw [x_next]
    exact tail _ _ [a + 1] k1 g1 (by simp) rfl
  | show_ s =>
    rw [x_seq]
    refine w_ifF (by kernel_rfl) ?_
    rw [x_next, x_seq]
    refine w_ifF (by kernel_rfl) ?_
    rw [x_next, x_seq]
    refine w_ifF (by kernel_rfl) ?_
    rw [x_next]
    exact tail _ _ [a + 1] k1 g1 (by simp) rfl
  | read s w f =>
    rw [x_seq]
    refine w_ifF (by kernel_rfl) ?_
    rw [x_next, x_seq]
    refine w_ifF (by kernel_rfl) ?_
    rw [x_next, x_seq]
    refine w_ifF (by kernel_rfl) ?_
    rw [x_next]
    exact tail _ _ [a + 1] k1 g1 (by simp) rfl
  | write w f s =>
    rw [x_seq]
    refine w_ifF (by kernel_rfl) ?_
    rw [x_next, x_seq]
    refine w_ifF (by kernel_rfl) ?_
    rw [x_next, x_seq]
    refine w_ifF (by kernel_rfl) ?_
    rw [x_next]
    exact tail _ _ [a + 1] k1 g1 (by simp) rfl
  | call j w b g0 hg =>
    rw [x_seq]
    refine w_ifF (by kernel_rfl) ?_
    rw [x_next, x_seq]
    refine w_ifF (by kernel_rfl) ?_
    rw [x_next, x_seq]
    refine w_ifF (by kernel_rfl) ?_
    rw [x_next]
    exact tail _ _ [a + 1] k1 g1 (by simp) rfl
  | branch t =>
    rw [x_seq]
    refine w_ifF (by kernel_rfl) ?_
    rw [x_next, x_seq]
    refine w_ifT (by kernel_rfl) ?_
    rw [x_seq, x_expr, x_mt, v6]
    refine ⟨isLst_at g1, ?_⟩
    rw [x_cons, x_e2, v5, x_C, x_ixT1, x_nil, x_app g1 (by simp), x_next, x_seq]
    have k2 := k1.set (c := .lst ([a + 1].map .int ++ [.int t])) (Nat.le_refl _) (IH.get_lt g1)
    have g2 : (h1.set h.n (.lst ([a + 1].map .int ++ [.int t]))).get h.n = some (.lst ([a + 1, t].map .int)) := by rw [IH.get_set _ _ _ _ (IH.get_lt g1), if_pos rfl]; rfl
    refine w_ifF (by kernel_rfl) ?_
    rw [x_next]
    exact tail _ _ [a + 1, t] k2 g2 (by simp) rfl
  | wake w t =>
    rw [x_seq]
    refine w_ifF (by kernel_rfl) ?_
    rw [x_next, x_seq]
    refine w_ifF (by kernel_rfl) ?_
    rw [x_next, x_seq]
    refine w_ifT (by kernel_rfl) ?_
    rw [x_seq, x_asg, x_eIf, x_bol, x_e2, x_e2, v5, x_C, x_ixT1, v2, x_eqI, x_bolW]
    refine ⟨fun q => ?_, fun q => ?_⟩
    · have q := of_decide_eq_true q
      rw [x_lst, x_cons, x_e2, v5, x_C, x_ixT2, x_nil]
      refine ⟨by rfl, ?_⟩
      rw [n6]
      dsimp only
      rw [x_next]
      exact tail _ _ [t] (k1.trans Keep.new) (IH.get_new_self _ _) (by simp) (show _ = (if w = u then [t] else [a + 1, t]) by rw [if_pos q])
    · have q := of_decide_eq_false q
      rw [x_e2, v6, x_lst, x_cons, x_e2, v5, x_C, x_ixT2, x_nil]
      refine ⟨by rfl, ?_⟩
      rw [x_catL (Keep.new.at g1) (IH.get_new_self _ _)]
      refine ⟨by rfl, ?_⟩
      rw [n6]
      dsimp only
      rw [x_next]
      exact tail _ _ [a + 1, t] ((k1.trans Keep.new).trans Keep.new) (IH.get_new_self _ _) (by simp) (show _ = (if w = u then [t] else [a + 1, t]) by rw [if_neg q])
theorem ph15 (k : Nat) : S15 (Phi gk tab (k + 1)) := fun us fns f u a body ops h F a0 a1 => by
  obtain ⟨v, hv⟩ := F.at_
  have hx : body[a.toNat]? = some body[a.toNat] := List.getElem?_eq_getElem (by omega)
  obtain ⟨op, ho, is⟩ := F.is _ _ hx
  generalize body[a.toNat] = x at hx is
  rw [phi15]
  unfold Gives
  rw [x_callB (by rfl), onw_at ho, F.len]
  show (m15 _ [some (.tup [.tup us, .tup fns]), some (.int f), some (.int u), some (.int a), none, none, none, none] h).Wp _
  unfold m15
  rw [x_seq, x_asg, x_e2, x_e2, x_e2, v0, x_C, x_ixT1, v1, x_ixT F.f0 hv, x_C, x_ixT1, n4]
  dsimp only
  rw [x_seq, x_asg, x_e2, v4, v3, x_ixT a0 hx, n5]
  dsimp only
  have tail : ∀ (h2 : IH) (r : Nat) (vs : List Int), Keep h h2 → h2.get r = some (.lst (vs.map .int)) → vs.length ≤ 2 → vs = onwR u op a → ((sSeq (sRet (e1 oSortSet (eLc (iAny (eVar 6)) (gNm 7) (tBol (e2 oLt (eVar 7) (eA (k1 oLen) (aCons (eVar 4) aNil)))) (eVar 7) [7]))) sNext) [some (.tup [.tup us, .tup fns]), some (.int f), some (.int u), some (.int a), some (.tup body), some x, some (.loc r), none] h2).Wp ⟨fun _ h' => (fun (w : W) (h' : IH) => ∃ a_1, w = .loc a_1 ∧ h'.get a_1 = some (.lst ((setI ((onwR u op a).filter fun x : Int => decide (x < (body.length : Int)))).map .int)) ∧ h.n ≤ a_1 ∧ Keep h h') .non h', fun (w : W) (h' : IH) => ∃ a_1, w = .loc a_1 ∧ h'.get a_1 = some (.lst ((setI ((onwR u op a).filter fun x : Int => decide (x < (body.length : Int)))).map .int)) ∧ h.n ≤ a_1 ∧ Keep h h', fun _ _ => False, fun _ _ => False⟩ := fun h2 r vs k2 g2 l2 e2 => by
    subst e2
    rw [x_seq, x_ret, Fw.x_e1]
    refine filt_ok g2 (by omega) ?_
    have lf := List.length_filter_le (fun x : Int => decide (x < (body.length : Int))) (onwR u op a)
    rw [x_sset (IH.get_new_self _ _) (by omega)]
    have := k2.1
    exact ⟨_, rfl, IH.get_new_self _ _, by show h.n ≤ h2.n + 1; omega, (k2.trans Keep.new).trans Keep.new⟩
  cases is with
  | fail  =>
    rw [x_seq]
    refine w_ifT (by kernel_rfl) ?_
    rw [x_seq, x_ret, x_lst, x_nil]
    exact ⟨by rfl, _, rfl, IH.get_new_self _ _, Nat.le_refl _, Keep.new⟩
  | num s v =>
    rw [x_seq]
    refine w_ifF (by kernel_rfl) ?_
    rw [x_next, x_seq]
    rw [x_asg]
    refine w_eIfF (by kernel_rfl) ?_
    rw [x_lst, x_cons, x_e2, v3, x_C, x_add, x_nil]
    refine ⟨by rfl, ?_⟩
    rw [n6]
    dsimp only
    have k1 : Keep h (h.new (.lst [.int (a + 1)])) := Keep.new
    have g1 : (h.new (.lst [.int (a + 1)])).get h.n = some (.lst ([a + 1].map .int)) := IH.get_new_self _ _
    generalize h.new (.lst [.int (a + 1)]) = h1 at k1 g1 ⊢
    rw [x_seq]
    refine w_ifF (by kernel_rfl) ?_
    rw [x_seq]
    refine w_ifF (by kernel_rfl) ?_
    rw [x_next, x_next]
    exact tail _ _ [a + 1] k1 g1 (by simp) rfl
  | copy s v =>
    rw [x_seq]
    refine w_ifF (by kernel_rfl) ?_
    rw [x_next, x_seq]
    rw [x_asg]
    refine w_eIfF (by kernel_rfl) ?_
    rw [x_lst, x_cons, x_e2, v3, x_C, x_add, x_nil]
    refine ⟨by rfl, ?_⟩
    rw [n6]
    dsimp only
    have k1 : Keep h (h.new (.lst [.int (a + 1)])) := Keep.new
    have g1 : (h.new (.lst [.int (a + 1)])).get h.n = some (.lst ([a + 1].map .int)) := IH.get_new_self _ _
    generalize h.new (.lst [.int (a + 1)]) = h1 at k1 g1 ⊢
    rw [x_seq]
    refine w_ifF (by kernel_rfl) ?_
    rw [x_seq]
    refine w_ifF (by kernel_rfl) ?_
    rw [x_next, x_next]
    exact tail _ _ [a + 1] k1 g1 (by simp) rfl
  | add s v =>
    rw [x_seq]
    refine w_ifF (by kernel_rfl) ?_
    rw [x_next, x_seq]
    rw [x_asg]
    refine w_eIfF (by kernel_rfl) ?_
    rw [x_lst, x_cons, x_e2, v3, x_C, x_add, x_nil]
    refine ⟨by rfl, ?_⟩
    rw [n6]
    dsimp only
    have k1 : Keep h (h.new (.lst [.int (a + 1)])) := Keep.new
    have g1 : (h.new (.lst [.int (a + 1)])).get h.n = some (.lst ([a + 1].map .int)) := IH.get_new_self _ _
    generalize h.new (.lst [.int (a + 1)]) = h1 at k1 g1 ⊢
    rw [x_seq]
    refine w_ifF (by kernel_rfl) ?_
    rw [x_seq]
    refine w_ifF (by kernel_rfl) ?_
    rw [x_next, x_next]
    exact tail _ _ [a + 1] k1 g1 (by simp) rfl
  | input s =>
    rw [x_seq]
    refine w_ifF (by kernel_rfl) ?_
    rw [x_next, x_seq]
    rw [x_asg]
    refine w_eIfF (by kernel_rfl) ?_
    rw [x_lst, x_cons, x_e2, v3, x_C, x_add, x_nil]
    refine ⟨by rfl, ?_⟩
    rw [n6]
    dsimp only
    have k1 : Keep h (h.new (.lst [.int (a + 1)])) := Keep.new
    have g1 : (h.new (.lst [.int (a + 1)])).get h.n = some (.lst ([a + 1].map .int)) := IH.get_new_self _ _
    generalize h.new (.lst [.int (a + 1)]) = h1 at k1 g1 ⊢
    rw [x_seq]
    refine w_ifF (by kernel_rfl) ?_
    rw [x_seq]
    refine w_ifF (by kernel_rfl) ?_
    rw [x_next, x_next]
    exact tail _ _ [a + 1] k1 g1 (by simp) rfl
  | show_ s =>
    rw [x_seq]
    refine w_ifF (by kernel_rfl) ?_
    rw [x_next, x_seq]
    rw [x_asg]
    refine w_eIfF (by kernel_rfl) ?_
    rw [x_lst, x_cons, x_e2, v3, x_C, x_add, x_nil]
    refine ⟨by rfl, ?_⟩
    rw [n6]
    dsimp only
    have k1 : Keep h (h.new (.lst [.int (a + 1)])) := Keep.new
    have g1 : (h.new (.lst [.int (a + 1)])).get h.n = some (.lst ([a + 1].map .int)) := IH.get_new_self _ _
    generalize h.new (.lst [.int (a + 1)]) = h1 at k1 g1 ⊢
    rw [x_seq]
    refine w_ifF (by kernel_rfl) ?_
    rw [x_seq]
    refine w_ifF (by kernel_rfl) ?_
    rw [x_next, x_next]
    exact tail _ _ [a + 1] k1 g1 (by simp) rfl
  | read s w f =>
    rw [x_seq]
    refine w_ifF (by kernel_rfl) ?_
    rw [x_next, x_seq]
    rw [x_asg]
    refine w_eIfF (by kernel_rfl) ?_
    rw [x_lst, x_cons, x_e2, v3, x_C, x_add, x_nil]
    refine ⟨by rfl, ?_⟩
    rw [n6]
    dsimp only
    have k1 : Keep h (h.new (.lst [.int (a + 1)])) := Keep.new
    have g1 : (h.new (.lst [.int (a + 1)])).get h.n = some (.lst ([a + 1].map .int)) := IH.get_new_self _ _
    generalize h.new (.lst [.int (a + 1)]) = h1 at k1 g1 ⊢
    rw [x_seq]
    refine w_ifF (by kernel_rfl) ?_
    rw [x_seq]
    refine w_ifF (by kernel_rfl) ?_
    rw [x_next, x_next]
    exact tail _ _ [a + 1] k1 g1 (by simp) rfl
  | write w f s =>
    rw [x_seq]
    refine w_ifF (by kernel_rfl) ?_
    rw [x_next, x_seq]
    rw [x_asg]
    refine w_eIfF (by kernel_rfl) ?_
    rw [x_lst, x_cons, x_e2, v3, x_C, x_add, x_nil]
    refine ⟨by rfl, ?_⟩
    rw [n6]
    dsimp only
    have k1 : Keep h (h.new (.lst [.int (a + 1)])) := Keep.new
    have g1 : (h.new (.lst [.int (a + 1)])).get h.n = some (.lst ([a + 1].map .int)) := IH.get_new_self _ _
    generalize h.new (.lst [.int (a + 1)]) = h1 at k1 g1 ⊢
    rw [x_seq]
    refine w_ifF (by kernel_rfl) ?_
    rw [x_seq]
    refine w_ifF (by kernel_rfl) ?_
    rw [x_next, x_next]
    exact tail _ _ [a + 1] k1 g1 (by simp) rfl
  | call j w b g0 hg =>
    rw [x_seq]
    refine w_ifF (by kernel_rfl) ?_
    rw [x_next, x_seq]
    rw [x_asg]
    refine w_eIfF (by kernel_rfl) ?_
    rw [x_lst, x_cons, x_e2, v3, x_C, x_add, x_nil]
    refine ⟨by rfl, ?_⟩
    rw [n6]
    dsimp only
    have k1 : Keep h (h.new (.lst [.int (a + 1)])) := Keep.new
    have g1 : (h.new (.lst [.int (a + 1)])).get h.n = some (.lst ([a + 1].map .int)) := IH.get_new_self _ _
    generalize h.new (.lst [.int (a + 1)]) = h1 at k1 g1 ⊢
    rw [x_seq]
    refine w_ifF (by kernel_rfl) ?_
    rw [x_seq]
    refine w_ifF (by kernel_rfl) ?_
    rw [x_next, x_next]
    exact tail _ _ [a + 1] k1 g1 (by simp) rfl
  | branch t =>
    rw [x_seq]
    refine w_ifF (by kernel_rfl) ?_
    rw [x_next, x_seq]
    rw [x_asg]
    refine w_eIfF (by kernel_rfl) ?_
    rw [x_lst, x_cons, x_e2, v3, x_C, x_add, x_nil]
    refine ⟨by rfl, ?_⟩
    rw [n6]
    dsimp only
    have k1 : Keep h (h.new (.lst [.int (a + 1)])) := Keep.new
    have g1 : (h.new (.lst [.int (a + 1)])).get h.n = some (.lst ([a + 1].map .int)) := IH.get_new_self _ _
    generalize h.new (.lst [.int (a + 1)]) = h1 at k1 g1 ⊢
    rw [x_seq]
    refine w_ifT (by kernel_rfl) ?_
    rw [x_seq, x_expr, x_mt, v6]
    refine ⟨isLst_at g1, ?_⟩
    rw [x_cons, x_e2, v5, x_C, x_ixT1, x_nil, x_app g1 (by simp), x_next]
    have k2 := k1.set (c := .lst ([a + 1].map .int ++ [.int t])) (Nat.le_refl _) (IH.get_lt g1)
    have g2 : (h1.set h.n (.lst ([a + 1].map .int ++ [.int t]))).get h.n = some (.lst ([a + 1, t].map .int)) := by rw [IH.get_set _ _ _ _ (IH.get_lt g1), if_pos rfl]; rfl
    exact tail _ _ [a + 1, t] k2 g2 (by simp) rfl
  | wake w t =>
    rw [x_seq]
    refine w_ifF (by kernel_rfl) ?_
    rw [x_next, x_seq]
    rw [x_asg, x_eIf, x_and, x_bol, x_e2, x_e2, v5, x_C, x_ixT0, x_C, x_eqS, x_bolW]
    refine ⟨fun _ => ?_, fun q => absurd (show decide (("wake" : Str) = "wake") = true by decide +kernel) (by rw [q]; decide)⟩
    rw [x_bol, x_e2, x_e2, v5, x_C, x_ixT1, v2, x_eqI, x_bolW]
    refine ⟨fun q => ?_, fun q => ?_⟩
    · have q := of_decide_eq_true q
      rw [x_lst, x_nil]
      refine ⟨by rfl, ?_⟩
      rw [n6]
      dsimp only
      have k1 : Keep h (h.new (.lst [])) := Keep.new
      have g1 : (h.new (.lst [])).get h.n = some (.lst []) := IH.get_new_self _ _
      generalize h.new (.lst []) = h1 at k1 g1 ⊢
      rw [x_seq]
      refine w_ifF (by kernel_rfl) ?_
      rw [x_seq]
      refine w_ifT (by kernel_rfl) ?_
      rw [x_seq, x_expr, x_mt, v6]
      refine ⟨isLst_at g1, ?_⟩
      rw [x_cons, x_e2, v5, x_C, x_ixT2, x_nil, x_app g1 (by simp), x_next, x_next]
      have k2 := k1.set (c := .lst ([] ++ [.int t])) (Nat.le_refl _) (IH.get_lt g1)
      have g2 : (h1.set h.n (.lst ([] ++ [.int t]))).get h.n = some (.lst ([t].map .int)) := by rw [IH.get_set _ _ _ _ (IH.get_lt g1), if_pos rfl]; rfl
      exact tail _ _ [t] k2 g2 (by simp) (show _ = (if w = u then [t] else [a + 1, t]) by rw [if_pos q])
    · have q := of_decide_eq_false q
      rw [x_lst, x_cons, x_e2, v3, x_C, x_add, x_nil]
      refine ⟨by rfl, ?_⟩
      rw [n6]
      dsimp only
      have k1 : Keep h (h.new (.lst [.int (a + 1)])) := Keep.new
      have g1 : (h.new (.lst [.int (a + 1)])).get h.n = some (.lst ([a + 1].map .int)) := IH.get_new_self _ _
      generalize h.new (.lst [.int (a + 1)]) = h1 at k1 g1 ⊢
      rw [x_seq]
      refine w_ifF (by kernel_rfl) ?_
      rw [x_seq]
      refine w_ifT (by kernel_rfl) ?_
      rw [x_seq, x_expr, x_mt, v6]
      refine ⟨isLst_at g1, ?_⟩
      rw [x_cons, x_e2, v5, x_C, x_ixT2, x_nil, x_app g1 (by simp), x_next, x_next]
      have k2 := k1.set (c := .lst ([a + 1].map .int ++ [.int t])) (Nat.le_refl _) (IH.get_lt g1)
      have g2 : (h1.set h.n (.lst ([a + 1].map .int ++ [.int t]))).get h.n = some (.lst ([a + 1, t].map .int)) := by rw [IH.get_set _ _ _ _ (IH.get_lt g1), if_pos rfl]; rfl
      exact tail _ _ [a + 1, t] k2 g2 (by simp) (show _ = (if w = u then [t] else [a + 1, t]) by rw [if_neg q])
/-! ### the law's goals -/
def bd29 : SS := (sSeq (sAsg (eMt isDk mGet2 (eDic [((eC (.str "read")), (eSl (eVar 5) (pSome (eC (.int 2))) (pSome (eC (.int 3))))), ((eC (.str "write")), (eSl (eVar 5) (pSome (eC (.int 1))) (pSome (eC (.int 2))))), ((eC (.str "call")), (eTup aNil))]) (aCons (e2 oIx (eVar 5) (eC (.int 0))) (aCons (eTup aNil) aNil))) (gNm 6)) (sSeq (sIf (tBol (e2 oEq (e2 oIx (eVar 5) (eC (.int 0))) (eC (.str "call")))) (sSeq (sAsg (eTup (aCons (e2 oIx (e2 oIx (e2 oIx (eVar 0) (eC (.int 1))) (e2 oIx (eVar 5) (eC (.int 1)))) (eC (.int 0))) aNil)) (gNm 6)) sNext) sNext) (sSeq (sIf (tBol (e2 oIn (eVar 2) (eVar 6))) (sSeq (sExpr (eMt isLst mAppend (eVar 3) (aCons (eVar 4) aNil))) sNext) sNext) sNext)))
theorem goal_in {u : Int} {i r : Nat} {gs : List Int} {h0 h : IH} {s0 s1 s5 : Option W} {R : W → IH → Prop} {N B C : Fw.Env → IH → Prop} {T : List W} {c : Bool} (g : h.get r = some (.lst (gs.map .int))) (hl : gs.length ≤ 1000) (k : Keep h0 h) (r0 : h0.n ≤ r)
    (q : ∀ P : W → IH → Prop, (oIn (.int u) (.tup T) h).Wp P = P (.bl c) h) (z : ∀ h', Keep h0 h' → h'.get r = some (.lst ((if c = true then gs ++ [(i : Int)] else gs).map .int)) → N [s0, s1, some (.int u), some (.loc r), some (.int i), s5, some (.tup T)] h') :
    ((sSeq (sIf (tBol (e2 oIn (eVar 2) (eVar 6))) (sSeq (sExpr (eMt isLst mAppend (eVar 3) (aCons (eVar 4) aNil))) sNext) sNext) sNext) [s0, s1, some (.int u), some (.loc r), some (.int i), s5, some (.tup T)] h).Wp ⟨N, R, B, C⟩ := by
  rw [x_seq, x_if, x_bol, x_e2, v2, v6, q, x_bolW]
  cases c with
  | true =>
    refine ⟨fun _ => ?_, fun w => Bool.noConfusion w⟩
    rw [x_seq, x_expr, x_mt, v3]
    refine ⟨isLst_at g, ?_⟩
    rw [x_cons, v4, x_nil, x_app g (by rw [List.length_map]; omega), x_next, x_next]
    refine z _ (k.set r0 (IH.get_lt g)) ?_
    rw [IH.get_set _ _ _ _ (IH.get_lt g), if_pos rfl, if_pos rfl, List.map_append]; rfl
  | false =>
    refine ⟨fun w => Bool.noConfusion w, fun _ => ?_⟩
    rw [x_next, x_next]
    exact z _ k (by rw [if_neg (by decide)]; exact g)
theorem step29 {us fns : List W} {x : W} {op : Op} (is : Is fns x op) {u : Int} {i r : Nat} {gs : List Int} {h0 h : IH} {s1 s6 : Option W} {R : W → IH → Prop} {N B C : Fw.Env → IH → Prop} (g : h.get r = some (.lst (gs.map .int))) (hl : gs.length ≤ 1000) (k : Keep h0 h) (r0 : h0.n ≤ r)
    (z : ∀ h' T, Keep h0 h' → h'.get r = some (.lst ((if isAcc u op = true then gs ++ [(i : Int)] else gs).map .int)) → N [some (.tup [.tup us, .tup fns]), s1, some (.int u), some (.loc r), some (.int i), some x, some (.tup T)] h') :
    (bd29 [some (.tup [.tup us, .tup fns]), s1, some (.int u), some (.loc r), some (.int i), some x, s6] h).Wp ⟨N, R, B, C⟩ := by
  unfold bd29
  cases is with
  | fail  =>
    rw [x_seq, x_asg, x_mt]
    refine w_dic (d := [(.inr "read", .tup []), (.inr "write", .tup []), (.inr "call", .tup [])]) (by kernel_rfl) ?_
    refine ⟨isDk_at (IH.get_new_self _ _), ?_⟩
    rw [x_cons, x_e2, v5, x_C, x_ixT0, x_cons, x_tup, x_nil]
    refine ⟨by rfl, ?_⟩
    rw [x_nil, mGet2_at (IH.get_new_self _ _) (w := .tup []) (by kernel_rfl), n6]
    dsimp only
    have k1 : Keep h (h.new (.dk [(.inr "read", .tup []), (.inr "write", .tup []), (.inr "call", .tup [])])) := Keep.new
    generalize h.new (.dk [(.inr "read", .tup []), (.inr "write", .tup []), (.inr "call", .tup [])]) = h1 at k1 ⊢
    rw [x_seq]
    refine w_ifF (by kernel_rfl) ?_
    rw [x_next]
    exact goal_in (T := []) (c := false) (k1.at g) hl (k.trans k1) r0 (fun P => x_inT0) fun h' kk gg => z h' _ kk gg
  | num s v =>
    rw [x_seq, x_asg, x_mt]
    refine w_dic (d := [(.inr "read", .tup [.int v]), (.inr "write", .tup [.int s]), (.inr "call", .tup [])]) (by kernel_rfl) ?_
    refine ⟨isDk_at (IH.get_new_self _ _), ?_⟩
    rw [x_cons, x_e2, v5, x_C, x_ixT0, x_cons, x_tup, x_nil]
    refine ⟨by rfl, ?_⟩
    rw [x_nil, mGet2_at (IH.get_new_self _ _) (w := .tup []) (by kernel_rfl), n6]
    dsimp only
    have k1 : Keep h (h.new (.dk [(.inr "read", .tup [.int v]), (.inr "write", .tup [.int s]), (.inr "call", .tup [])])) := Keep.new
    generalize h.new (.dk [(.inr "read", .tup [.int v]), (.inr "write", .tup [.int s]), (.inr "call", .tup [])]) = h1 at k1 ⊢
    rw [x_seq]
    refine w_ifF (by kernel_rfl) ?_
    rw [x_next]
    exact goal_in (T := []) (c := false) (k1.at g) hl (k.trans k1) r0 (fun P => x_inT0) fun h' kk gg => z h' _ kk gg
  | copy s v =>
    rw [x_seq, x_asg, x_mt]
    refine w_dic (d := [(.inr "read", .tup [.int v]), (.inr "write", .tup [.int s]), (.inr "call", .tup [])]) (by kernel_rfl) ?_
    refine ⟨isDk_at (IH.get_new_self _ _), ?_⟩
    rw [x_cons, x_e2, v5, x_C, x_ixT0, x_cons, x_tup, x_nil]
    refine ⟨by rfl, ?_⟩
    rw [x_nil, mGet2_at (IH.get_new_self _ _) (w := .tup []) (by kernel_rfl), n6]
    dsimp only
    have k1 : Keep h (h.new (.dk [(.inr "read", .tup [.int v]), (.inr "write", .tup [.int s]), (.inr "call", .tup [])])) := Keep.new
    generalize h.new (.dk [(.inr "read", .tup [.int v]), (.inr "write", .tup [.int s]), (.inr "call", .tup [])]) = h1 at k1 ⊢
    rw [x_seq]
    refine w_ifF (by kernel_rfl) ?_
    rw [x_next]
    exact goal_in (T := []) (c := false) (k1.at g) hl (k.trans k1) r0 (fun P => x_inT0) fun h' kk gg => z h' _ kk gg
  | add s v =>
    rw [x_seq, x_asg, x_mt]
    refine w_dic (d := [(.inr "read", .tup [.int v]), (.inr "write", .tup [.int s]), (.inr "call", .tup [])]) (by kernel_rfl) ?_
    refine ⟨isDk_at (IH.get_new_self _ _), ?_⟩
    rw [x_cons, x_e2, v5, x_C, x_ixT0, x_cons, x_tup, x_nil]
    refine ⟨by rfl, ?_⟩
    rw [x_nil, mGet2_at (IH.get_new_self _ _) (w := .tup []) (by kernel_rfl), n6]
    dsimp only
    have k1 : Keep h (h.new (.dk [(.inr "read", .tup [.int v]), (.inr "write", .tup [.int s]), (.inr "call", .tup [])])) := Keep.new
    generalize h.new (.dk [(.inr "read", .tup [.int v]), (.inr "write", .tup [.int s]), (.inr "call", .tup [])]) = h1 at k1 ⊢
    rw [x_seq]
    refine w_ifF (by kernel_rfl) ?_
    rw [x_next]
    exact goal_in (T := []) (c := false) (k1.at g) hl (k.trans k1) r0 (fun P => x_inT0) fun h' kk gg => z h' _ kk gg
  | input s =>
    rw [x_seq, x_asg, x_mt]
    refine w_dic (d := [(.inr "read", .tup []), (.inr "write", .tup [.int s]), (.inr "call", .tup [])]) (by kernel_rfl) ?_
    refine ⟨isDk_at (IH.get_new_self _ _), ?_⟩
    rw [x_cons, x_e2, v5, x_C, x_ixT0, x_cons, x_tup, x_nil]
    refine ⟨by rfl, ?_⟩
    rw [x_nil, mGet2_at (IH.get_new_self _ _) (w := .tup []) (by kernel_rfl), n6]
    dsimp only
    have k1 : Keep h (h.new (.dk [(.inr "read", .tup []), (.inr "write", .tup [.int s]), (.inr "call", .tup [])])) := Keep.new
    generalize h.new (.dk [(.inr "read", .tup []), (.inr "write", .tup [.int s]), (.inr "call", .tup [])]) = h1 at k1 ⊢
    rw [x_seq]
    refine w_ifF (by kernel_rfl) ?_
    rw [x_next]
    exact goal_in (T := []) (c := false) (k1.at g) hl (k.trans k1) r0 (fun P => x_inT0) fun h' kk gg => z h' _ kk gg
  | show_ s =>
    rw [x_seq, x_asg, x_mt]
    refine w_dic (d := [(.inr "read", .tup []), (.inr "write", .tup [.int s]), (.inr "call", .tup [])]) (by kernel_rfl) ?_
    refine ⟨isDk_at (IH.get_new_self _ _), ?_⟩
    rw [x_cons, x_e2, v5, x_C, x_ixT0, x_cons, x_tup, x_nil]
    refine ⟨by rfl, ?_⟩
    rw [x_nil, mGet2_at (IH.get_new_self _ _) (w := .tup []) (by kernel_rfl), n6]
    dsimp only
    have k1 : Keep h (h.new (.dk [(.inr "read", .tup []), (.inr "write", .tup [.int s]), (.inr "call", .tup [])])) := Keep.new
    generalize h.new (.dk [(.inr "read", .tup []), (.inr "write", .tup [.int s]), (.inr "call", .tup [])]) = h1 at k1 ⊢
    rw [x_seq]
    refine w_ifF (by kernel_rfl) ?_
    rw [x_next]
    exact goal_in (T := []) (c := false) (k1.at g) hl (k.trans k1) r0 (fun P => x_inT0) fun h' kk gg => z h' _ kk gg
  | read s v f =>
    rw [x_seq, x_asg, x_mt]
    refine w_dic (d := [(.inr "read", .tup [.int v]), (.inr "write", .tup [.int s]), (.inr "call", .tup [])]) (by kernel_rfl) ?_
    refine ⟨isDk_at (IH.get_new_self _ _), ?_⟩
    rw [x_cons, x_e2, v5, x_C, x_ixT0, x_cons, x_tup, x_nil]
    refine ⟨by rfl, ?_⟩
    rw [x_nil, mGet2_at (IH.get_new_self _ _) (w := .tup [.int v]) (by kernel_rfl), n6]
    dsimp only
    have k1 : Keep h (h.new (.dk [(.inr "read", .tup [.int v]), (.inr "write", .tup [.int s]), (.inr "call", .tup [])])) := Keep.new
    generalize h.new (.dk [(.inr "read", .tup [.int v]), (.inr "write", .tup [.int s]), (.inr "call", .tup [])]) = h1 at k1 ⊢
    rw [x_seq]
    refine w_ifF (by kernel_rfl) ?_
    rw [x_next]
    exact goal_in (T := [.int v]) (c := decide (v = u)) (k1.at g) hl (k.trans k1) r0 (fun P => x_inT1) fun h' kk gg => z h' _ kk gg
  | write v f s =>
    rw [x_seq, x_asg, x_mt]
    refine w_dic (d := [(.inr "read", .tup [.int f]), (.inr "write", .tup [.int v]), (.inr "call", .tup [])]) (by kernel_rfl) ?_
    refine ⟨isDk_at (IH.get_new_self _ _), ?_⟩
    rw [x_cons, x_e2, v5, x_C, x_ixT0, x_cons, x_tup, x_nil]
    refine ⟨by rfl, ?_⟩
    rw [x_nil, mGet2_at (IH.get_new_self _ _) (w := .tup [.int v]) (by kernel_rfl), n6]
    dsimp only
    have k1 : Keep h (h.new (.dk [(.inr "read", .tup [.int f]), (.inr "write", .tup [.int v]), (.inr "call", .tup [])])) := Keep.new
    generalize h.new (.dk [(.inr "read", .tup [.int f]), (.inr "write", .tup [.int v]), (.inr "call", .tup [])]) = h1 at k1 ⊢
    rw [x_seq]
    refine w_ifF (by kernel_rfl) ?_
    rw [x_next]
    exact goal_in (T := [.int v]) (c := decide (v = u)) (k1.at g) hl (k.trans k1) r0 (fun P => x_inT1) fun h' kk gg => z h' _ kk gg
  | call j v b g0 hg =>
    rw [x_seq, x_asg, x_mt]
    refine w_dic (d := [(.inr "read", .tup []), (.inr "write", .tup [.int j]), (.inr "call", .tup [])]) (by kernel_rfl) ?_
    refine ⟨isDk_at (IH.get_new_self _ _), ?_⟩
    rw [x_cons, x_e2, v5, x_C, x_ixT0, x_cons, x_tup, x_nil]
    refine ⟨by rfl, ?_⟩
    rw [x_nil, mGet2_at (IH.get_new_self _ _) (w := .tup []) (by kernel_rfl), n6]
    dsimp only
    have k1 : Keep h (h.new (.dk [(.inr "read", .tup []), (.inr "write", .tup [.int j]), (.inr "call", .tup [])])) := Keep.new
    generalize h.new (.dk [(.inr "read", .tup []), (.inr "write", .tup [.int j]), (.inr "call", .tup [])]) = h1 at k1 ⊢
    rw [x_seq]
    refine w_ifT (by kernel_rfl) ?_
    rw [x_seq, x_asg, x_tup, x_cons, x_e2, x_e2, x_e2, v0, x_C, x_ixT1, x_e2, v5, x_C, x_ixT1, x_ixT g0 hg, x_C, x_ixT0, x_nil]
    refine ⟨by rfl, ?_⟩
    rw [n6]
    dsimp only
    rw [x_next]
    exact goal_in (T := [.int v]) (c := decide (v = u)) (k1.at g) hl (k.trans k1) r0 (fun P => x_inT1) fun h' kk gg => z h' _ kk gg
  | branch t =>
    rw [x_seq, x_asg, x_mt]
    refine w_dic (d := [(.inr "read", .tup []), (.inr "write", .tup [.int t]), (.inr "call", .tup [])]) (by kernel_rfl) ?_
    refine ⟨isDk_at (IH.get_new_self _ _), ?_⟩
    rw [x_cons, x_e2, v5, x_C, x_ixT0, x_cons, x_tup, x_nil]
    refine ⟨by rfl, ?_⟩
    rw [x_nil, mGet2_at (IH.get_new_self _ _) (w := .tup []) (by kernel_rfl), n6]
    dsimp only
    have k1 : Keep h (h.new (.dk [(.inr "read", .tup []), (.inr "write", .tup [.int t]), (.inr "call", .tup [])])) := Keep.new
    generalize h.new (.dk [(.inr "read", .tup []), (.inr "write", .tup [.int t]), (.inr "call", .tup [])]) = h1 at k1 ⊢
    rw [x_seq]
    refine w_ifF (by kernel_rfl) ?_
    rw [x_next]
    exact goal_in (T := []) (c := false) (k1.at g) hl (k.trans k1) r0 (fun P => x_inT0) fun h' kk gg => z h' _ kk gg
  | wake v t =>
    rw [x_seq, x_asg, x_mt]
    refine w_dic (d := [(.inr "read", .tup [.int t]), (.inr "write", .tup [.int v]), (.inr "call", .tup [])]) (by kernel_rfl) ?_
    refine ⟨isDk_at (IH.get_new_self _ _), ?_⟩
    rw [x_cons, x_e2, v5, x_C, x_ixT0, x_cons, x_tup, x_nil]
    refine ⟨by rfl, ?_⟩
    rw [x_nil, mGet2_at (IH.get_new_self _ _) (w := .tup []) (by kernel_rfl), n6]
    dsimp only
    have k1 : Keep h (h.new (.dk [(.inr "read", .tup [.int t]), (.inr "write", .tup [.int v]), (.inr "call", .tup [])])) := Keep.new
    generalize h.new (.dk [(.inr "read", .tup [.int t]), (.inr "write", .tup [.int v]), (.inr "call", .tup [])]) = h1 at k1 ⊢
    rw [x_seq]
    refine w_ifF (by kernel_rfl) ?_
    rw [x_next]
    exact goal_in (T := []) (c := false) (k1.at g) hl (k.trans k1) r0 (fun P => x_inT0) fun h' kk gg => z h' _ kk gg
def S29 (Φ : FT) : Prop := ∀ (us fns : List W) (f u : Int) (body : List W) (ops : List Op) (h : IH), Fun fns f body ops → Gives (Φ 29 [.tup [.tup us, .tup fns], .int f, .int u] h) h (goals u ops)
theorem ph29 (k : Nat) : S29 (Phi gk tab (k + 1)) := fun us fns f u body ops h F => by
  obtain ⟨v, hv⟩ := F.at_
  rw [phi29]
  unfold Gives
  rw [x_callB (by rfl)]
  show (m29 _ [some (.tup [.tup us, .tup fns]), some (.int f), some (.int u), none, none, none, none] h).Wp _
  unfold m29
  rw [x_seq, x_asg, x_lst, x_nil]
  refine ⟨by rfl, ?_⟩
  rw [n3]
  dsimp only
  rw [x_seq]
  refine for_enuT ?_
  rw [x_e2, x_e2, x_e2, v0, x_C, x_ixT1, v1, x_ixT F.f0 hv, x_C, x_ixT1]
  refine ⟨body, rfl, fun i e h2 => ∃ s4 s5 s6, Keep h h2 ∧ h2.get h.n = some (.lst ((goalsK u ops i).map .int)) ∧ e = [some (.tup [.tup us, .tup fns]), some (.int f), some (.int u), some (.loc h.n), s4, s5, s6], ⟨none, none, none, Keep.new, IH.get_new_self _ _, rfl⟩, ?_, ?_⟩
  · rintro i e h2 y ⟨s4, s5, s6, k2, g2, rfl⟩ hy
    obtain ⟨op, ho, is⟩ := F.is i y hy
    have il := (List.getElem?_eq_some_iff.mp hy).1
    rw [x_tp]
    refine ⟨rfl, ?_⟩
    rw [x_gs1, n4, x_gs1, n5, x_gs0]
    have l8 := F.ok.l8
    have ll := goalsK_len u ops i
    have fl := F.len
    refine step29 is g2 (by omega) k2 (Nat.le_refl _) fun h' T kk gg => ⟨_, _, _, kk, ?_, rfl⟩
    rw [goalsK_s, isGoal_at ho]; exact gg
  · rintro e h2 ⟨s4, s5, s6, k2, g2, rfl⟩
    rw [x_seq, x_ret, v3]
    rw [← F.len] at g2
    exact ⟨_, rfl, g2, Nat.le_refl _, k2⟩
end K25

set_option linter.all false
set_option linter.unusedSimpArgs false
set_option maxRecDepth 100000
set_option maxHeartbeats 1000000
namespace K25
open PySem Fw
/-! ### the two searches -/
def oW : Option Int → W
  | some i => .int i
  | none => .non
abbrev Ks := List (Int × Option Int)
def keys (ks : Ks) : List Int := ks.map (·.1)
def cd (ks : Ks) : List (Key × W) := ks.map fun x => (Sum.inl x.1, oW x.2)
theorem dGet_in (k : Int) : ∀ ks : Ks, (dGet (cd ks) (.inl k : Key)).isSome = decide (k ∈ keys ks)
  | [] => by simp [cd, dGet, keys]
  | (a, q) :: ks => by
    show (match decide ((Sum.inl a : Key) = Sum.inl k) with
      | true => some (oW q)
      | false => dGet (cd ks) (.inl k)).isSome = _
    by_cases e : a = k
    · subst e; simp [keys]
    · have z : decide ((Sum.inl a : Key) = Sum.inl k) = false := decide_eq_false fun h => e (Sum.inl.inj h)
      rw [z]
      show (dGet (cd ks) (.inl k : Key)).isSome = _
      rw [dGet_in k ks]
      have z2 : ¬ k = a := fun h => e h.symm
      rw [show keys ((a, q) :: ks) = a :: keys ks from rfl]
      simp [z2]
theorem dGet_at {k : Int} {q : Option Int} : ∀ {ks : Ks} {i : Nat}, (keys ks).Nodup → ks[i]? = some (k, q) → dGet (cd ks) (.inl k : Key) = some (oW q)
  | [], i, _, h => by simp at h
  | (a, p) :: ks, 0, _, h => by
    cases h
    show (match decide ((Sum.inl k : Key) = .inl k) with
      | true => some (oW q)
      | false => dGet (cd ks) (.inl k)) = _
    rw [decide_eq_true rfl]
  | (a, p) :: ks, i + 1, nd, h => by
    obtain ⟨n1, n2⟩ := List.nodup_cons.mp (show (a :: keys ks).Nodup from nd)
    have hm : k ∈ keys ks := List.mem_map.mpr ⟨(k, q), List.mem_of_getElem? (by simpa using h), rfl⟩
    have e : ¬ a = k := fun e => n1 (e ▸ hm)
    show (match decide ((Sum.inl a : Key) = Sum.inl k) with
      | true => some (oW p)
      | false => dGet (cd ks) (.inl k)) = _
    rw [decide_eq_false fun h => e (Sum.inl.inj h)]
    exact dGet_at n2 (by simpa using h)
theorem dPut_new {k : Int} {q : Option Int} {ks : Ks} (h : k ∉ keys ks) : dPut (cd ks) (.inl k : Key) (oW q) = cd (ks ++ [(k, q)]) := by
  have z : (cd ks).any (fun p => decide (p.1 = (.inl k : Key))) = false := by
    rw [List.any_eq_false]
    intro x hx e
    obtain ⟨y, hy, rfl⟩ := List.mem_map.mp hx
    have e := of_decide_eq_true e
    exact h (List.mem_map.mpr ⟨y, hy, Sum.inl.inj e⟩)
  unfold dPut
  rw [z]
  unfold cd
  rw [List.map_append]; rfl
theorem x_ninC {u : Int} {ks : Ks} {r : Nat} {h : IH} {P : W → IH → Prop} (g : h.get r = some (.dk (cd ks))) : (oNotIn (.int u) (.loc r) h).Wp P = P (.bl !decide (u ∈ keys ks)) h := by
  unfold oNotIn inW; dsimp only; rw [g]; dsimp only
  show (Rs.ok (W.bl !(dGet (cd ks) (.inl u : Key)).isSome) h).Wp P = _
  rw [dGet_in]; rfl
theorem x_ixC {u : Int} {w : W} {ks : Ks} {r : Nat} {h : IH} {P : W → IH → Prop} (g : h.get r = some (.dk (cd ks))) (q : dGet (cd ks) (.inl u : Key) = some w) : (oIx (.loc r) (.int u) h).Wp P = P w h := by
  unfold oIx; dsimp only; rw [g]; dsimp only; rw [q]; rfl
theorem x_setC {u : Int} {q : Option Int} {ks : Ks} {r : Nat} {h : IH} {Q : Unit → IH → Prop} (g : h.get r = some (.dk (cd ks))) (n : u ∉ keys ks) (l : ks.length < 16777216) : (oSet (.loc r) (.int u) (oW q) h).Wp Q = Q () (h.set r (.dk (cd (ks ++ [(u, q)])))) := by
  unfold oSet; dsimp only; rw [g]
  show (Rs.need (Nat.blt (cd ks).length 16777216) (.ok () (h.set r (.dk (dPut (cd ks) (.inl u : Key) (oW q)))))).Wp Q = _
  rw [dPut_new n, show Nat.blt (cd ks).length 16777216 = true from blt_of (by unfold cd; rw [List.length_map]; exact l)]; rfl
structure Cm (ks : Ks) : Prop where
  nd : (keys ks).Nodup
  par : ∀ (i : Nat) (k p : Int), ks[i]? = some (k, some p) → ∃ j, j < i ∧ ∃ q, ks[j]? = some (p, q)
def S17 (Φ : FT) : Prop := ∀ (ks : Ks) (rd : Nat) (p : Int) (h : IH), Cm ks → h.get rd = some (.dk (cd ks)) → p ∈ keys ks → ks.length ≤ 100 → (Φ 17 [.loc rd, .int p] h).Wp fun w h' => (∃ a, w = .loc a) ∧ Keep h h'
theorem ph17 (k : Nat) : S17 (Phi gk tab (k + 1)) := fun ks rd p h C gd hp hl => by
  rw [phi17, x_callB (by rfl)]
  show (m17 _ [some (.loc rd), some (.int p), none] h).Wp _
  unfold m17
  rw [x_seq, x_asg, x_lst, x_cons, v1, x_nil]
  refine ⟨by rfl, ?_⟩
  rw [n2]
  dsimp only
  rw [x_seq]
  obtain ⟨x, hx, ex⟩ := List.mem_map.mp hp
  obtain ⟨i0, il, hi⟩ := List.mem_iff_getElem.mp hx
  refine W_while (fun m e h2 => ∃ (c : Int) (vs : List W) (i : Nat) (q : Option Int), Keep h h2 ∧ h2.get h.n = some (.lst (.int c :: vs)) ∧ ks[i]? = some (c, q) ∧ i ≤ m ∧ vs.length + m ≤ 100 ∧ e = [some (.loc rd), some (.int p), some (.loc h.n)]) i0
    (by unfold whileFuel; omega) ⟨p, [], i0, x.2, Keep.new, IH.get_new_self _ _, by rw [List.getElem?_eq_getElem il, hi, ← ex], Nat.le_refl _, by simp; omega, rfl⟩ ?_
  rintro m e h2 ⟨c, vs, i, q, k2, g2, hi2, im, lm, rfl⟩
  have gd2 := k2.at gd
  have hg := dGet_at C.nd hi2
  rw [x_bol, x_e2, x_e2, v0, x_e2, v2, x_C, x_ix g2 (by decide) (w := .int c) rfl, x_ixC gd2 hg, x_C, x_isNot, x_bolW]
  cases q with
  | none =>
    rw [show (!isNone (oW none)) = false from rfl, if_neg (by decide)]
    dsimp only
    rw [x_seq, x_ret, v2]
    exact ⟨⟨_, rfl⟩, k2⟩
  | some p' =>
    rw [show (!isNone (oW (some p'))) = true from rfl, if_pos rfl]
    obtain ⟨j, ji, q', hj⟩ := C.par i c p' hi2
    rw [x_seq, x_expr, x_mt, v2]
    refine ⟨isLst_at g2, ?_⟩
    rw [x_cons, x_C, x_cons, x_e2, v0, x_e2, v2, x_C, x_ix g2 (by decide) (w := .int c) rfl, x_ixC gd2 hg, x_nil, x_ins0 g2 (by simp; omega), x_next]
    refine ⟨j, by omega, p', .int c :: vs, j, q', k2.set (Nat.le_refl _) (IH.get_lt g2), ?_, hj, Nat.le_refl _, by simp; omega, rfl⟩
    rw [IH.get_set _ _ _ _ (IH.get_lt g2), if_pos rfl]; rfl
def adds (ks : Ks) (p : Int) (vs : List Int) : Ks := ks ++ (addS (keys ks) vs).map fun b => (b, some p)
theorem keys_app (a b : Ks) : keys (a ++ b) = keys a ++ keys b := List.map_append
theorem keys_len (a : Ks) : (keys a).length = a.length := List.length_map _
theorem keys_adds {ks : Ks} {p : Int} {vs : List Int} : keys (adds ks p vs) = keys ks ++ addS (keys ks) vs := by
  unfold adds
  rw [keys_app]
  congr 1
  unfold keys
  rw [List.map_map]
  exact List.map_id _
theorem Cm.adds {ks : Ks} (C : Cm ks) {p : Int} (hp : p ∈ keys ks) {vs : List Int} : Cm (adds ks p vs) := by
  refine ⟨?_, fun i c q h => ?_⟩
  · rw [keys_adds, List.nodup_append]
    exact ⟨C.nd, addS_nodup, fun a ha b hb e => addS_new hb (e ▸ ha)⟩
  · unfold K25.adds at h ⊢
    rcases Nat.lt_or_ge i ks.length with l | l
    · rw [List.getElem?_append_left l] at h
      obtain ⟨j, jl, q', hj⟩ := C.par i c q h
      exact ⟨j, jl, q', by rw [List.getElem?_append_left (by omega)]; exact hj⟩
    · rw [List.getElem?_append_right l, List.getElem?_map] at h
      obtain ⟨x, hx, ex⟩ := List.mem_map.mp hp
      obtain ⟨j, jl, hj⟩ := List.mem_iff_getElem.mp hx
      have e : q = p := by
        cases z : (addS (keys ks) vs)[i - ks.length]? with
        | none => rw [z] at h; cases h
        | some b => rw [z] at h; cases h; rfl
      subst e
      exact ⟨j, by omega, x.2, by rw [List.getElem?_append_left jl, List.getElem?_eq_getElem jl, hj, ← ex]⟩
theorem Fun.nx {fns : List W} {f : Int} {body : List W} {ops : List Op} (F : Fun fns f body ops) {u a b : Int} (a0 : 0 ≤ a) (h : b ∈ onw u ops a) : 0 ≤ b ∧ b < body.length := by
  have := onw_rg F.ok a0 h
  rw [F.len] at this; exact this
def S16 (Φ : FT) : Prop := ∀ (us fns : List W) (f u : Int) (body : List W) (ops : List Op) (rc : Nat) (cl : List Int) (h : IH), Fun fns f body ops → h.get rc = some (.lst (cl.map .int)) →
  (Φ 16 [.tup [.tup us, .tup fns], .int f, .int u, .loc rc] h).Wp fun w h' => ((w = .non ∧ ¬ Hit (onw u ops) cl (goals u ops)) ∨ ((∃ a, w = .loc a) ∧ Hit (onw u ops) cl (goals u ops))) ∧ Keep h h'
theorem ph16 (k : Nat) : S16 (Phi gk tab (k + 3)) := fun us fns f u body ops rc cl h F gc => by
  rw [phi16, x_callB (by rfl)]
  show (m16 _ [some (.tup [.tup us, .tup fns]), some (.int f), some (.int u), some (.loc rc), none, none, none, none, none] h).Wp _
  unfold m16
  rw [x_seq, x_par3, x_call, x_cons, v0, x_cons, v1, x_cons, v2, x_nil]
  refine (ph14 k us fns f u body ops h F).mono fun w h1 ⟨ag, ew, gg, a0, k1⟩ => ?_
  subst ew
  have agl := IH.get_lt gg
  refine x_dic1 ?_
  rw [x_C]
  refine ⟨0, rfl, ?_⟩
  rw [x_C, x_lst, x_cons, x_C, x_nil]
  refine ⟨by rfl, ?_⟩
  rw [n4, n5, n6]
  try dsimp only
  have k2 : Keep h1 (h1.new (.dk [(.inl 0, .non)])) := Keep.new
  have gd : (h1.new (.dk [(.inl 0, .non)])).get h1.n = some (.dk (cd [(0, none)])) := IH.get_new_self _ _
  have nn : (h1.new (.dk [(.inl 0, .non)])).n = h1.n + 1 := rfl
  generalize h1.new (.dk [(.inl 0, .non)]) = h2 at k2 gd nn ⊢
  have gr : (h2.new (.lst [.int 0])).get h2.n = some (.lst ([0].map .int)) := IH.get_new_self _ _
  have k3 : Keep h2 (h2.new (.lst [.int 0])) := Keep.new
  generalize h2.new (.lst [.int 0]) = h3 at k3 gr ⊢
  have h01 := k1.1
  have rge : ∀ b : Int, b ∈ keys [((0 : Int), (none : Option Int))] → 0 ≤ b ∧ b < body.length := fun b hb => by
    have : b = 0 := by simpa [keys] using hb
    have := F.ok.len; have := F.len; omega
  have bl := F.ok.l8
  have fl := F.len
  have f1 := F.ok.len
  rw [x_seq]
  refine W_while (fun m e h4 => ∃ (ks : Ks) (row : List Int) (s7 s8 : Option W), m = row.length + (body.length - ks.length) ∧ m ≤ 100 ∧ Keep h h4 ∧ h4.get ag = some (.lst ((goals u ops).map .int)) ∧ h4.get h1.n = some (.dk (cd ks)) ∧ h4.get h2.n = some (.lst (row.map .int)) ∧
      Cm ks ∧ Srch (onw u ops) cl (goals u ops) (keys ks) row ∧ (∀ b ∈ row, b ∈ keys ks) ∧ (∀ b ∈ keys ks, 0 ≤ b ∧ b < body.length) ∧ e = [some (.tup [.tup us, .tup fns]), some (.int f), some (.int u), some (.loc rc), some (.loc ag), some (.loc h1.n), some (.loc h2.n), s7, s8]) (1 + (body.length - 1))
    (by unfold whileFuel; omega) ⟨[(0, none)], [0], none, none, rfl, by omega, (k1.trans k2).trans k3, (k2.trans k3).at gg, k3.at gd, gr, ⟨by simp [keys], fun i c p hi => by
      cases i with
      | zero => simp at hi
      | succ i => simp at hi⟩, Srch.begin, fun b hb => hb, rge, rfl⟩ ?_
  rintro m e h4 ⟨ks, row, s7, s8, em, m100, k4, gg4, gd4, gr4, C, S, rk, rg, rfl⟩
  have kl : ks.length ≤ body.length := by rw [← keys_len]; exact nodup_len _ _ C.nd rg
  have dl := IH.get_lt gd4
  have rl := IH.get_lt gr4
  have gl := IH.get_lt gg4
  rw [x_bol, x_e2, v6, x_lst, x_nil]
  refine ⟨by rfl, x_neE (Keep.new.at gr4) (IH.get_new_self _ _) ?_⟩
  have k5 : Keep h4 (h4.new (.lst [])) := Keep.new
  have gg5 := k5.at gg4; have gd5 := k5.at gd4; have gr5 := k5.at gr4
  have k5 := k4.trans k5
  generalize h4.new (.lst []) = h5 at k5 gg5 gd5 gr5 ⊢
  rw [x_bolW]
  cases row with
  | nil =>
    rw [decide_eq_true rfl, if_neg (by decide)]
    dsimp only
    rw [x_seq, x_ret, x_C]
    exact ⟨.inl ⟨rfl, S.no⟩, k5⟩
  | cons p row =>
    rw [decide_eq_false (by simp), if_pos (show (!false) = true from rfl)]
    have hp := rk p List.mem_cons_self
    obtain ⟨p0, p1⟩ := rg p hp
    rw [x_seq, x_asg, x_mt, v6]
    refine ⟨isLst_at gr5, ?_⟩
    rw [x_cons, x_C, x_nil, x_pop0 gr5, n7]
    dsimp only
    have rl5 := IH.get_lt gr5
    have k6 : Keep h (h5.set h2.n (.lst (row.map .int))) := k5.set (by omega) rl5
    have gr6 : (h5.set h2.n (.lst (row.map .int))).get h2.n = some (.lst (row.map .int)) := by rw [IH.get_set _ _ _ _ rl5, if_pos rfl]
    have gd6 : (h5.set h2.n (.lst (row.map .int))).get h1.n = some (.dk (cd ks)) := by rw [IH.get_set _ _ _ _ rl5, if_neg (by omega)]; exact gd5
    have gg6 : (h5.set h2.n (.lst (row.map .int))).get ag = some (.lst ((goals u ops).map .int)) := by rw [IH.get_set _ _ _ _ rl5, if_neg (by omega)]; exact gg5
    generalize h5.set h2.n (.lst (row.map .int)) = h6 at k6 gr6 gd6 gg6 ⊢
    have gc6 := k6.at gc
    have d6 := IH.get_lt gd6
    have r6 := IH.get_lt gr6
    have g6 := IH.get_lt gg6
    rw [x_seq, x_if, x_bol, x_e2, v7, v3, x_inI gc6, x_bolW]
    refine ⟨fun q => ?_, fun q => ?_⟩
    · have q := of_decide_eq_true q
      rw [x_seq, x_cont]
      exact ⟨_, by rw [em, List.length_cons]; omega, ks, row, _, _, rfl, by rw [List.length_cons] at em; omega, k6, gg6, gd6, gr6, C, S.skip q, fun b hb => rk b (List.mem_cons_of_mem _ hb), rg, rfl⟩
    have q := of_decide_eq_false q
    rw [x_next, x_seq, x_if, x_bol, x_e2, v7, v4, x_inI gg6, x_bolW]
    refine ⟨fun q2 => ?_, fun q2 => ?_⟩
    · have q2 := of_decide_eq_true q2
      rw [x_seq, x_ret, x_call, x_cons, v5, x_cons, v7, x_nil]
      exact (ph17 (k + 1) ks h1.n p h6 C gd6 hp (by omega)).mono fun w h7 ⟨ea, k7⟩ => ⟨.inr ⟨ea, S.yes hp q q2⟩, k6.trans k7⟩
    have q2 := of_decide_eq_false q2
    rw [x_next, x_seq]
    refine for_lst ?_
    rw [x_call, x_cons, v0, x_cons, v1, x_cons, v2, x_cons, v7, x_nil]
    refine (ph15 (k + 1) us fns f u p body ops h6 F p0 p1).mono fun w h7 ⟨an, ew, gn, an0, k7⟩ => ?_
    subst ew
    have gg7 := k7.at gg6; have gd7 := k7.at gd6; have gr7 := k7.at gr6
    have k7 := k6.trans k7
    have hrg : ∀ b ∈ keys (adds ks p (setI (onw u ops p))), 0 ≤ b ∧ b < body.length := fun b hb => by
      rw [keys_adds] at hb
      rcases List.mem_append.mp hb with hb | hb
      · exact rg b hb
      · exact F.nx p0 ((setI_mem _ _).mp (addS_mem hb))
    have hll : (adds ks p (setI (onw u ops p))).length ≤ body.length := by rw [← keys_len]; exact nodup_len _ _ (C.adds hp).nd hrg
    have anl := IH.get_lt gn
    refine ⟨an, _, rfl, gn, fun t e h8 => ∃ (s8 : Option W), h8.get an = some (.lst ((setI (onw u ops p)).map .int)) ∧ Keep h h8 ∧ h8.get ag = some (.lst ((goals u ops).map .int)) ∧ h8.get h1.n = some (.dk (cd (adds ks p ((setI (onw u ops p)).take t)))) ∧
      h8.get h2.n = some (.lst ((row ++ addS (keys ks) ((setI (onw u ops p)).take t)).map .int)) ∧ e = [some (.tup [.tup us, .tup fns]), some (.int f), some (.int u), some (.loc rc), some (.loc ag), some (.loc h1.n), some (.loc h2.n), some (.int p), s8],
      ⟨_, gn, k7, gg7, ?_, ?_, rfl⟩, ?_, ?_⟩
    · rw [gd7]; simp [adds, addS]
    · rw [gr7]; simp [addS]
    · rintro t e h8 y ⟨s8, gn8, k8, gg8, gd8, gr8, rfl⟩ hy
      obtain ⟨b, hb, rfl⟩ := ints_at hy
      refine ⟨gn8, ?_⟩
      have tl : (setI (onw u ops p)).length ≤ 8 := by
        have := nodup_len body.length (setI (onw u ops p)) ((setI_lt _).imp fun h => by omega) fun b hb => F.nx p0 ((setI_mem _ _).mp hb)
        omega
      have lt8 : (adds ks p ((setI (onw u ops p)).take t)).length ≤ body.length := by
        rw [← keys_len]
        refine nodup_len _ _ (C.adds hp).nd fun b hb => ?_
        rw [keys_adds] at hb
        rcases List.mem_append.mp hb with hb | hb
        · exact rg b hb
        · exact F.nx p0 ((setI_mem _ _).mp (List.mem_of_mem_take (addS_mem hb)))
      rw [n8, x_seq, x_if, x_bol, x_e2, v8, v5, x_ninC gd8, x_bolW, keys_adds]
      have dl8 := IH.get_lt gd8
      have rl8 := IH.get_lt gr8
      refine ⟨fun q3 => ?_, fun q3 => ?_⟩
      · have q3 : b ∉ keys ks ++ addS (keys ks) ((setI (onw u ops p)).take t) := by simpa using q3
        rw [x_seq, x_asg, v7]
        show (gSb (eVar 5) (eVar 8) (oW (some p)) _ h8).Wp _
        rw [x_sb, v5, v8, x_setC gd8 (by rw [keys_adds]; exact q3) (by omega)]
        dsimp only
        have k9 : Keep h (h8.set h1.n (.dk (cd (adds ks p ((setI (onw u ops p)).take t) ++ [(b, some p)])))) := k8.set (by omega) dl8
        have gd9 : (h8.set h1.n (.dk (cd (adds ks p ((setI (onw u ops p)).take t) ++ [(b, some p)])))).get h1.n = some (.dk (cd (adds ks p ((setI (onw u ops p)).take t) ++ [(b, some p)]))) := by rw [IH.get_set _ _ _ _ dl8, if_pos rfl]
        have gn9 : (h8.set h1.n (.dk (cd (adds ks p ((setI (onw u ops p)).take t) ++ [(b, some p)])))).get an = some (.lst ((setI (onw u ops p)).map .int)) := by rw [IH.get_set _ _ _ _ dl8, if_neg (by omega)]; exact gn8
        have gg9 : (h8.set h1.n (.dk (cd (adds ks p ((setI (onw u ops p)).take t) ++ [(b, some p)])))).get ag = some (.lst ((goals u ops).map .int)) := by rw [IH.get_set _ _ _ _ dl8, if_neg (by omega)]; exact gg8
        have gr9 : (h8.set h1.n (.dk (cd (adds ks p ((setI (onw u ops p)).take t) ++ [(b, some p)])))).get h2.n = some (.lst ((row ++ addS (keys ks) ((setI (onw u ops p)).take t)).map .int)) := by rw [IH.get_set _ _ _ _ dl8, if_neg (by omega)]; exact gr8
        generalize h8.set h1.n (.dk (cd (adds ks p ((setI (onw u ops p)).take t) ++ [(b, some p)]))) = h9 at k9 gd9 gn9 gg9 gr9 ⊢
        have rl9 := IH.get_lt gr9
        rw [x_seq, x_expr, x_mt, v6]
        refine ⟨isLst_at gr9, ?_⟩
        have ea : addS (keys ks) ((setI (onw u ops p)).take (t + 1)) = addS (keys ks) ((setI (onw u ops p)).take t) ++ [b] := by rw [take_one hb, addS_snoc, if_neg q3]
        have rlen : (row.map W.int ++ (addS (keys ks) ((setI (onw u ops p)).take t)).map W.int).length < 16777216 := by
          have z1 : (addS (keys ks) ((setI (onw u ops p)).take t)).length ≤ body.length := by
            unfold adds at lt8
            rw [List.length_append, List.length_map] at lt8; omega
          have z2 : row.length ≤ 100 := by
            rw [em, List.length_cons] at m100; omega
          rw [List.length_append, List.length_map, List.length_map]; omega
        rw [List.map_append] at gr9
        rw [x_cons, v8, x_nil, x_app gr9 rlen, x_next, x_next]
        refine ⟨_, ?_, k9.set (by omega) rl9, ?_, ?_, ?_, rfl⟩
        · rw [IH.get_set _ _ _ _ rl9, if_neg (by omega)]; exact gn9
        · rw [IH.get_set _ _ _ _ rl9, if_neg (by omega)]; exact gg9
        · rw [IH.get_set _ _ _ _ rl9, if_neg (by omega), gd9]
          unfold adds
          rw [ea, List.map_append, ← List.append_assoc]; rfl
        · rw [IH.get_set _ _ _ _ rl9, if_pos rfl, ea, ← List.append_assoc, List.map_append (l₂ := [b]), List.map_append]; rfl
      · have q3 : b ∈ keys ks ++ addS (keys ks) ((setI (onw u ops p)).take t) := Decidable.byContradiction fun z => by rw [decide_eq_false z] at q3; exact absurd q3 (by decide)
        have ea : addS (keys ks) ((setI (onw u ops p)).take (t + 1)) = addS (keys ks) ((setI (onw u ops p)).take t) := by rw [take_one hb, addS_snoc, if_pos q3]
        rw [x_next, x_next]
        exact ⟨_, gn8, k8, gg8, by unfold adds; rw [ea]; exact gd8, by rw [ea]; exact gr8, rfl⟩
    · rintro e h8 ⟨s8, gn8, k8, gg8, gd8, gr8, rfl⟩
      refine ⟨gn8, ?_⟩
      have el : ((setI (onw u ops p)).map W.int).length = (setI (onw u ops p)).length := List.length_map _
      rw [el, List.take_length] at gd8 gr8
      rw [x_next]
      refine ⟨_, ?_, adds ks p (setI (onw u ops p)), row ++ addS (keys ks) (setI (onw u ops p)), _, _, rfl, ?_, k8, gg8, gd8, gr8, C.adds hp, ?_, ?_, hrg, rfl⟩
      · have z : (adds ks p (setI (onw u ops p))).length = ks.length + (addS (keys ks) (setI (onw u ops p))).length := by unfold adds; rw [List.length_append, List.length_map]
        rw [em, List.length_cons, List.length_append]; omega
      · have z : (adds ks p (setI (onw u ops p))).length = ks.length + (addS (keys ks) (setI (onw u ops p))).length := by unfold adds; rw [List.length_append, List.length_map]
        rw [em, List.length_cons] at m100
        rw [List.length_append]; omega
      · rw [keys_adds]
        exact S.step hp q q2 (fun b => setI_mem _ _) fun x => List.mem_append
      · intro b hb
        rw [keys_adds]
        rcases List.mem_append.mp hb with hb | hb
        · exact List.mem_append_left _ (rk b (List.mem_cons_of_mem _ hb))
        · exact List.mem_append_right _ hb
end K25

set_option linter.all false
set_option linter.unusedSimpArgs false
set_option maxRecDepth 100000
set_option maxHeartbeats 1000000
namespace K25
open PySem Fw
/-! ### the law's search -/
theorem x_popL {r : Nat} {ws : List W} {w : W} {h : IH} {P : W → IH → Prop} (g : h.get r = some (.lst (ws ++ [w]))) : (mPop0 [.loc r] h).Wp P = P w (h.set r (.lst ws)) := by
  unfold mPop0; dsimp only; rw [g]; dsimp only
  have z : (ws ++ [w])[(ws ++ [w]).length - 1]? = some w := by
    rw [List.length_append, List.getElem?_append_right (by simp)]; simp
  rw [z, List.dropLast_concat]; rfl
def S31 (Φ : FT) : Prop := ∀ (us fns : List W) (f u : Int) (body : List W) (ops : List Op) (rc : Nat) (cl : List Int) (h : IH), Fun fns f body ops → h.get rc = some (.lst (cl.map .int)) →
  (Φ 31 [.tup [.tup us, .tup fns], .int f, .int u, .loc rc] h).Wp fun w h' => ∃ b : Bool, w = .bl b ∧ (b = true ↔ ¬ Hit (onw u ops) cl (goals u ops)) ∧ Keep h h'
theorem ph31 (k : Nat) : S31 (Phi gk tab (k + 2)) := fun us fns f u body ops rc cl h F gc => by
  rw [phi31, x_callB (by rfl)]
  show (m31 _ [some (.tup [.tup us, .tup fns]), some (.int f), some (.int u), some (.loc rc), none, none, none, none] h).Wp _
  unfold m31
  rw [x_seq, x_par3, x_lst, x_cons, x_C, x_nil]
  refine ⟨by rfl, ?_⟩
  rw [x_lst, x_nil]
  refine ⟨by rfl, ?_⟩
  have g4 : (h.new (.lst [.int 0])).get h.n = some (.lst ([0].map .int)) := IH.get_new_self _ _
  have q1 : Keep h (h.new (.lst [.int 0])) := Keep.new
  have e1 : (h.new (.lst [.int 0])).n = h.n + 1 := rfl
  generalize h.new (.lst [.int 0]) = h1 at g4 q1 e1 ⊢
  have g5 : (h1.new (.lst [])).get h1.n = some (.lst (([] : List Int).map .int)) := IH.get_new_self _ _
  have q2 : Keep h1 (h1.new (.lst [])) := Keep.new
  have g4 := q2.at g4
  have e2 : (h1.new (.lst [])).n = h1.n + 1 := rfl
  generalize h1.new (.lst []) = h2 at g4 g5 q2 e2 ⊢
  rw [x_call, x_cons, v0, x_cons, v1, x_cons, v2, x_nil]
  refine (ph29 k us fns f u body ops h2 F).mono fun w h3 ⟨ag, ew, gg, a0, q3⟩ => ?_
  subst ew
  rw [n4, n5, n6]
  try dsimp only
  have g4 := q3.at g4
  have g5 := q3.at g5
  have k3 := (q1.trans q2).trans q3
  have agl := IH.get_lt gg
  have bl := F.ok.l8
  have fl := F.len
  have f1 := F.ok.len
  rw [x_seq]
  refine W_while (fun m e h4 => ∃ (rr : Nat) (row seen : List Int) (s7 : Option W), m = row.length + 3 * (body.length - seen.length) ∧ m ≤ 100 ∧ Keep h h4 ∧ h4.get ag = some (.lst ((goals u ops).map .int)) ∧ h4.get rr = some (.lst (row.map .int)) ∧ h4.get h1.n = some (.lst (seen.map .int)) ∧
      h.n ≤ rr ∧ rr ≠ h1.n ∧ rr ≠ ag ∧ Srl (onw u ops) cl (goals u ops) seen row ∧ seen.Nodup ∧ (∀ b ∈ seen, 0 ≤ b ∧ b < body.length) ∧ (∀ b ∈ row, 0 ≤ b ∧ b < body.length) ∧ e = [some (.tup [.tup us, .tup fns]), some (.int f), some (.int u), some (.loc rc), some (.loc rr), some (.loc h1.n), some (.loc ag), s7]) (1 + 3 * body.length)
    (by unfold whileFuel; omega) ⟨h.n, [0], [], none, rfl, by omega, k3, gg, g4, g5, Nat.le_refl _, by omega, by omega, Srl.begin, .nil, fun b hb => (by cases hb), fun b hb => by
      have : b = 0 := by simpa using hb
      omega, rfl⟩ ?_
  rintro m e h4 ⟨rr, row, seen, s7, em, m100, k4, gg4, gr4, gs4, r0, rs, ra, S, nd, sr, rr_, rfl⟩
  have sl : seen.length ≤ body.length := nodup_len _ _ nd sr
  have rl := IH.get_lt gr4
  have gsl := IH.get_lt gs4
  have gl := IH.get_lt gg4
  rw [x_bol, x_e2, v4, x_lst, x_nil]
  refine ⟨by rfl, x_neE (Keep.new.at gr4) (IH.get_new_self _ _) ?_⟩
  have k5 : Keep h4 (h4.new (.lst [])) := Keep.new
  have gg5 := k5.at gg4; have gs5 := k5.at gs4; have gr5 := k5.at gr4
  have k5 := k4.trans k5
  generalize h4.new (.lst []) = h5 at k5 gg5 gs5 gr5 ⊢
  rw [x_bolW]
  rcases List.eq_nil_or_concat row with er | ⟨row0, p, er⟩
  · subst er
    rw [decide_eq_true rfl, if_neg (by decide)]
    dsimp only
    rw [x_seq, x_ret, x_C]
    exact ⟨true, rfl, ⟨fun _ => S.no, fun _ => rfl⟩, k5⟩
  rw [List.concat_eq_append] at er
  subst er
  rw [decide_eq_false (by simp), if_pos (show (!false) = true from rfl)]
  obtain ⟨p0, p1⟩ := rr_ p (List.mem_append_right _ (List.mem_singleton.mpr rfl))
  rw [x_seq, x_asg, x_mt, v4]
  refine ⟨isLst_at gr5, ?_⟩
  rw [List.map_append] at gr5
  rw [x_nil, x_popL gr5, n7]
  dsimp only
  have rl5 := IH.get_lt gr5
  have k6 : Keep h (h5.set rr (.lst (row0.map .int))) := k5.set (by omega) rl5
  have gr6 : (h5.set rr (.lst (row0.map .int))).get rr = some (.lst (row0.map .int)) := by rw [IH.get_set _ _ _ _ rl5, if_pos rfl]
  have gs6 : (h5.set rr (.lst (row0.map .int))).get h1.n = some (.lst (seen.map .int)) := by rw [IH.get_set _ _ _ _ rl5, if_neg (by omega)]; exact gs5
  have gg6 : (h5.set rr (.lst (row0.map .int))).get ag = some (.lst ((goals u ops).map .int)) := by rw [IH.get_set _ _ _ _ rl5, if_neg (by omega)]; exact gg5
  generalize h5.set rr (.lst (row0.map .int)) = h6 at k6 gr6 gs6 gg6 ⊢
  have gc6 := k6.at gc
  have mr : ∀ x, x ∈ row0 ++ [p] ↔ x ∈ row0 ∨ x = p := fun x => by rw [List.mem_append, List.mem_singleton]
  have r0g : ∀ b ∈ row0, 0 ≤ b ∧ b < body.length := fun b hb => rr_ b (List.mem_append_left _ hb)
  rw [List.length_append] at em
  have l1 : [p].length = 1 := rfl
  rw [l1] at em
  rw [x_seq, x_if, x_and, x_bol, x_e2, v7, v5, x_ninI gs6, x_bolW]
  refine ⟨fun q => ?_, fun q => ?_⟩
  · have q : p ∉ seen := by simpa using q
    rw [x_bol, x_e2, v7, v3, x_ninI gc6, x_bolW]
    refine ⟨fun q2 => ?_, fun q2 => ?_⟩
    · have q2 : p ∉ cl := by simpa using q2
      rw [x_seq, x_if, x_bol, x_e2, v7, v6, x_inI gg6, x_bolW]
      refine ⟨fun q3 => ?_, fun q3 => ?_⟩
      · have q3 := of_decide_eq_true q3
        rw [x_seq, x_ret, x_C]
        have hit := S.yes (List.mem_append_right _ (List.mem_singleton.mpr rfl)) q2 q3
        exact ⟨false, rfl, ⟨fun z => Bool.noConfusion z, fun z => absurd hit z⟩, k6⟩
      · have q3 := of_decide_eq_false q3
        rw [x_next, x_seq, x_expr, x_mt, v5]
        refine ⟨isLst_at gs6, ?_⟩
        rw [x_cons, v7, x_nil, x_app gs6 (by rw [List.length_map]; omega)]
        have sl6 := IH.get_lt gs6
        have k7 := k6.set (c := .lst (seen.map .int ++ [.int p])) (show h.n ≤ h1.n by omega) sl6
        have gs7 : (h6.set h1.n (.lst (seen.map .int ++ [.int p]))).get h1.n = some (.lst ((seen ++ [p]).map .int)) := by rw [IH.get_set _ _ _ _ sl6, if_pos rfl, List.map_append]; rfl
        have gr7 : (h6.set h1.n (.lst (seen.map .int ++ [.int p]))).get rr = some (.lst (row0.map .int)) := by rw [IH.get_set _ _ _ _ sl6, if_neg rs]; exact gr6
        have gg7 : (h6.set h1.n (.lst (seen.map .int ++ [.int p]))).get ag = some (.lst ((goals u ops).map .int)) := by rw [IH.get_set _ _ _ _ sl6, if_neg (by omega)]; exact gg6
        generalize h6.set h1.n (.lst (seen.map .int ++ [.int p])) = h7 at k7 gs7 gr7 gg7 ⊢
        rw [x_seq, x_asg, x_e2, v4, x_call, x_cons, v0, x_cons, v1, x_cons, v2, x_cons, v7, x_nil]
        refine (ph30 k us fns f u p body ops h7 F p0 p1).mono fun w h8 ⟨an, ew, gn, an0, k8⟩ => ?_
        subst ew
        have on2 := onw_len u ops p
        rw [x_catL (k8.at gr7) gn]
        refine ⟨lenOk_iff.mpr (by rw [List.length_map, List.length_map]; omega), ?_⟩
        rw [n4]
        dsimp only
        rw [x_next, x_next]
        have k9 : Keep h8 (h8.new (.lst (row0.map .int ++ (onw u ops p).map .int))) := Keep.new
        have gs9 := (k8.trans k9).at gs7
        have gg9 := (k8.trans k9).at gg7
        have nd' : (seen ++ [p]).Nodup := by rw [List.nodup_append]; exact ⟨nd, by simp, fun a ha b hb e => q (by rw [List.mem_singleton.mp hb] at e; exact e ▸ ha)⟩
        have sr' : ∀ b ∈ seen ++ [p], 0 ≤ b ∧ b < body.length := fun b hb => by
          rcases List.mem_append.mp hb with hb | hb
          · exact sr b hb
          · obtain rfl := List.mem_singleton.mp hb; exact ⟨p0, p1⟩
        have sl' := nodup_len _ _ nd' sr'
        rw [List.length_append, show [p].length = 1 from rfl] at sl'
        have l9 := IH.get_lt gg7
        have l8 := k8.1
        have s9 := IH.get_lt gs7
        refine ⟨_, ?_, h8.n, row0 ++ onw u ops p, seen ++ [p], _, rfl, ?_, (k7.trans k8).trans k9, gg9, ?_, gs9, ?_, by omega, by omega, S.step mr q2 q3, nd', sr', ?_, rfl⟩
        · rw [List.length_append, List.length_append, show [p].length = 1 from rfl]; omega
        · rw [List.length_append, List.length_append, show [p].length = 1 from rfl]; omega
        · rw [IH.get_new_self, List.map_append]
        · have := k7.1; omega
        · intro b hb
          rcases List.mem_append.mp hb with hb | hb
          · exact r0g b hb
          · exact F.nx p0 hb
    · have q2 : p ∈ cl := Decidable.byContradiction fun z => by rw [decide_eq_false z] at q2; exact absurd q2 (by decide)
      rw [x_next, x_next]
      exact ⟨_, by omega, rr, row0, seen, _, rfl, by omega, k6, gg6, gr6, gs6, r0, rs, ra, S.skip mr (.inr q2), nd, sr, r0g, rfl⟩
  · have q : p ∈ seen := Decidable.byContradiction fun z => by rw [decide_eq_false z] at q; exact absurd q (by decide)
    refine ⟨fun z => Bool.noConfusion z, fun _ => ?_⟩
    rw [x_next, x_next]
    exact ⟨_, by omega, rr, row0, seen, _, rfl, by omega, k6, gg6, gr6, gs6, r0, rs, ra, S.skip mr (.inl q), nd, sr, r0g, rfl⟩
end K25

set_option linter.all false
set_option linter.unusedSimpArgs false
set_option maxRecDepth 100000
set_option maxHeartbeats 1000000
namespace K25
open PySem Fw
/-! ### lists of places -/
theorem phI (k : Nat) (w : W) (lo hi : Int) (h : IH) (q : kn h w = true) : Phi gk tab (k + 1) 0 [w, .int lo, .int hi] h = .ok (.bl (intB w lo hi)) h := by rw [phi0]; exact intB_ok _ w lo hi h q
/-- a value whose kind is known; if a list, of such, and not a long one -/
structure Kl (h : IH) (w : W) : Prop where
  k : kn h w = true
  l : ∀ a ws, w = .loc a → h.get a = some (.lst ws) → kns h ws = true ∧ ws.length ≤ 60
def isL (h : IH) (w : W) : Bool := match w with
  | .loc a => (match h.get a with
    | some (.lst _) => true
    | _ => false)
  | _ => false
theorem x_isL {w : W} {h : IH} {P : W → IH → Prop} (k : kn h w = true) : (oIsi [.list] w h).Wp P = P (.bl (isL h w)) h := by
  cases w with
  | loc n =>
    unfold kn at k
    unfold oIsi tyOf isL; dsimp only
    cases g : h.get n with
    | none => rw [g] at k; cases k
    | some c => rw [g] at k; cases c <;> first | rfl | cases k
  | ro ws => cases k
  | _ => rfl
theorem isL_yes {h : IH} {w : W} (q : isL h w = true) : ∃ a ws, w = .loc a ∧ h.get a = some (.lst ws) := by
  cases w with
  | loc n =>
    unfold isL at q
    dsimp only at q
    cases g : h.get n with
    | none => rw [g] at q; cases q
    | some c => rw [g] at q; cases c <;> first | exact ⟨n, _, rfl, g⟩ | cases q
  | _ => cases q
theorem isL_no {h : IH} {w : W} (q : isL h w = false) {a : Nat} {ws : List W} : w = .loc a → h.get a ≠ some (.lst ws) := fun e g => by
  subst e; unfold isL at q; dsimp only at q; rw [g] at q; cases q
/-- all ints of a range -/
theorem ints_b {lo hi : Int} : ∀ {ws : List W}, ws.all (fun y => intB y lo hi) = true → ∃ cs : List Int, ws = cs.map .int ∧ ∀ c ∈ cs, lo ≤ c ∧ c ≤ hi
  | [], _ => ⟨[], rfl, fun c hc => by cases hc⟩
  | w :: ws, q => by
    rw [List.all_cons, Bool.and_eq_true] at q
    obtain ⟨cs, e, hc⟩ := ints_b q.2
    cases w with
    | int i =>
      have q1 := q.1
      unfold intB at q1
      rw [Bool.and_eq_true, decide_eq_true_eq, decide_eq_true_eq] at q1
      exact ⟨i :: cs, by rw [e]; rfl, fun c h => (List.mem_cons.mp h).elim (fun z => z ▸ q1) (hc c)⟩
    | _ => have q1 := q.1; cases q1
theorem all_ints {lo hi : Int} (cs : List Int) : (cs.map W.int).all (fun y => intB y lo hi) = cs.all fun c => decide (lo ≤ c) && decide (c ≤ hi) := by
  rw [List.all_map]; rfl
def plB (h : IH) (n : Int) (w : W) : Bool := match w with
  | .loc a => (match h.get a with
    | some (.lst ws) => (match mapO asI ws with
      | some cs => decide (cs = setI cs) && cs.all fun c => decide (0 ≤ c) && decide (c < n)
      | none => false)
    | _ => false)
  | _ => false
theorem plB_no {h : IH} {n : Int} {w : W} (q : isL h w = false) : plB h n w = false := by
  cases w with
  | loc a =>
    unfold isL at q
    unfold plB
    dsimp only at q ⊢
    cases g : h.get a with
    | none => rfl
    | some c => rw [g] at q; cases c <;> first | rfl | cases q
  | _ => rfl
theorem asI_map : ∀ {ws : List W} {cs : List Int}, mapO asI ws = some cs → ws = cs.map .int
  | [], cs, e => by cases e; rfl
  | w :: ws, cs, e => by
    rw [mapO_cons] at e
    cases w <;> simp only [asI] at e <;> first | (cases e; done) | skip
    cases q : mapO asI ws with
    | none => rw [q] at e; cases e
    | some ds => rw [q] at e; cases e; rw [asI_map q]; rfl
theorem plB_lst {h : IH} {n : Int} {a : Nat} {cs : List Int} (g : h.get a = some (.lst (cs.map .int))) : plB h n (.loc a) = (decide (cs = setI cs) && cs.all fun c => decide (0 ≤ c) && decide (c < n)) := by
  unfold plB; dsimp only; rw [g]; dsimp only; rw [ints_of]
theorem plB_odd {h : IH} {n : Int} {a : Nat} {ws : List W} (g : h.get a = some (.lst ws)) (q : ws.all (fun y => intB y 0 (n - 1)) = false) : plB h n (.loc a) = false := by
  unfold plB; dsimp only; rw [g]; dsimp only
  cases z : mapO asI ws with
  | none => rfl
  | some cs =>
    have e := asI_map z
    subst e
    rw [all_ints] at q
    have : (cs.all fun c => decide (0 ≤ c) && decide (c < n)) = false := by
      rw [← q]; congr 1; funext c
      congr 1
      exact decide_eq_decide.mpr (by omega)
    dsimp only
    rw [this, Bool.and_false]
theorem eq_sset {r b : Nat} {cs ds : List Int} {h : IH} {P : W → IH → Prop} (g : h.get r = some (.lst (cs.map .int))) (g' : h.get b = some (.lst (ds.map .int))) (z : P (.bl (decide (cs = ds))) h) : (oEq (.loc r) (.loc b) h).Wp P :=
  w_eqL (eqW_lst g g' (purs_ints cs) (purs_ints ds) (by rw [depth_ints]; decide) (by rw [depth_ints]; decide)) (fun c hc => by
    have : c = decide (cs = ds) := by
      have inj : cs.map W.int = ds.map W.int ↔ cs = ds := ⟨fun e => by
        have := congrArg (mapO asI) e
        rw [ints_of, ints_of] at this
        exact Option.some.inj this, fun e => by rw [e]⟩
      cases c with
      | true => exact (decide_eq_true (inj.mp (hc.mp rfl))).symm
      | false => exact (decide_eq_false fun e => by have := hc.mpr (inj.mpr e); cases this).symm
    rw [this]; exact z)
/-- all(f(x) for x in xs), by what f is -/
theorem all_lc {x f : EE} {v : Nat} {e : Fw.Env} {h : IH} {P : W → IH → Prop} {r : Nat} {ws : List W} (g : h.get r = some (.lst ws)) (hx : x e h = .ok (.loc r) h) (fn : W → Bool) (hl : ws.length ≤ 1000)
    (hf : ∀ y ∈ ws, f ((wipeW e [v]).set v (some y)) h = .ok (.bl (fn y)) h) (z : P (.bl (ws.all fn)) (h.new (.lst ((ws.map fn).map .bl)))) : (eA (Fw.k1 oAll) (aCons (eLc (iAny x) (gNm v) tYes f [v]) aNil) e h).Wp P := by
  rw [x_eA, x_cons]
  refine lc_lst ?_
  rw [hx]
  refine ⟨r, ws, rfl, g, fun i xs h2 => h2 = h ∧ xs = ((ws.take i).map fn).map .bl, ⟨rfl, rfl⟩, ?_, ?_⟩
  · rintro i xs h2 y ⟨rfl, rfl⟩ hy
    refine ⟨g, ?_⟩
    rw [x_nm, x_yes, if_pos rfl, hf y (List.mem_of_getElem? hy)]
    exact ⟨rfl, by rw [map_take fn hy, List.map_append]; rfl⟩
  · rintro xs h2 ⟨rfl, rfl⟩
    rw [List.take_length]
    refine ⟨g, by rw [List.length_map, List.length_map]; omega, ?_⟩
    rw [x_nil, x_all (IH.get_new_self _ _)]
    rw [show (ws.map fn).all id = ws.all fn by rw [List.all_map]; rfl]
    exact z
/-- a comprehension of truths -/
theorem bl_lc {x f : EE} {v : Nat} {e : Fw.Env} {h : IH} {P : W → IH → Prop} {r : Nat} {ws : List W} (g : h.get r = some (.lst ws)) (hx : x e h = .ok (.loc r) h) (fn : W → Bool) (hl : ws.length ≤ 1000)
    (hf : ∀ y ∈ ws, f ((wipeW e [v]).set v (some y)) h = .ok (.bl (fn y)) h) (z : P (.loc h.n) (h.new (.lst ((ws.map fn).map .bl)))) : (eLc (iAny x) (gNm v) tYes f [v] e h).Wp P := by
  refine lc_lst ?_
  rw [hx]
  refine ⟨r, ws, rfl, g, fun i xs h2 => h2 = h ∧ xs = ((ws.take i).map fn).map .bl, ⟨rfl, rfl⟩, ?_, ?_⟩
  · rintro i xs h2 y ⟨rfl, rfl⟩ hy
    refine ⟨g, ?_⟩
    rw [x_nm, x_yes, if_pos rfl, hf y (List.mem_of_getElem? hy)]
    exact ⟨rfl, by rw [map_take fn hy, List.map_append]; rfl⟩
  · rintro xs h2 ⟨rfl, rfl⟩
    rw [List.take_length]
    exact ⟨g, by rw [List.length_map, List.length_map]; omega, z⟩
def S18 (Φ : FT) : Prop := ∀ (us fns : List W) (f : Int) (body : List W) (ops : List Op) (w : W) (h : IH), Fun fns f body ops → Kl h w → (Φ 18 [.tup [.tup us, .tup fns], .int f, w] h).Wp fun x h' => x = .bl (plB h body.length w) ∧ Keep h h'
theorem ph18 (k : Nat) : S18 (Phi gk tab (k + 2)) := fun us fns f body ops w h F K => by
  obtain ⟨v, hv⟩ := F.at_
  rw [phi18, x_callB (by rfl)]
  show (m18 _ [some (.tup [.tup us, .tup fns]), some (.int f), some w, none, none] h).Wp _
  unfold m18
  rw [x_seq, x_asg, x_eA, x_cons, x_e2, x_e2, x_e2, v0, x_C, x_ixT1, v1, x_ixT F.f0 hv, x_C, x_ixT1, x_nil, x_lenT, n3]
  dsimp only
  rw [x_seq, x_if, x_or, x_not, x_tru, Fw.x_e1, v2, x_isL K.k, x_truB]
  cases q : isL h w with
  | false =>
    refine ⟨fun _ => ⟨fun _ => ?_, fun z => Bool.noConfusion z⟩, fun z => Bool.noConfusion z⟩
    rw [x_seq, x_ret, x_C, plB_no q]
    exact ⟨rfl, Keep.refl⟩
  | true =>
    refine ⟨fun z => Bool.noConfusion z, fun _ => ?_⟩
    obtain ⟨a, ws, rfl, g⟩ := isL_yes q
    obtain ⟨kw, lw⟩ := K.l a ws rfl g
    rw [x_not, x_tru]
    refine all_lc g rfl (fun y => intB y 0 ((body.length : Int) - 1)) (by omega) (fun y hy => ?_) ?_
    · refine eqW_ ?_
      show (eCall _ 0 _ [some (.tup [.tup us, .tup fns]), some (.int f), some (.loc a), some (.int body.length), some y] h).Wp _
      rw [x_call, x_cons, v4, x_cons, x_C, x_cons, x_e2, v3, x_C, x_sub, x_nil, phI k y _ _ h (kns_mem kw y hy)]
      exact ⟨rfl, rfl⟩
    rw [x_truB]
    have k1 : Keep h (h.new (.lst ((ws.map (fun y => intB y 0 ((body.length : Int) - 1))).map .bl))) := Keep.new
    generalize h.new (.lst ((ws.map (fun y => intB y 0 ((body.length : Int) - 1))).map .bl)) = h1 at k1 ⊢
    cases q2 : ws.all (fun y => intB y 0 ((body.length : Int) - 1)) with
    | false =>
      refine ⟨fun _ => ?_, fun z => Bool.noConfusion z⟩
      rw [x_seq, x_ret, x_C, plB_odd g q2]
      exact ⟨rfl, k1⟩
    | true =>
      refine ⟨fun z => Bool.noConfusion z, fun _ => ?_⟩
      obtain ⟨cs, ew, hc⟩ := ints_b q2
      subst ew
      rw [List.length_map] at lw
      rw [x_next, x_seq, x_ret, x_e2, v2, Fw.x_e1, v2, x_sset (k1.at g) (by omega)]
      refine eq_sset (Keep.new.at (k1.at g)) (IH.get_new_self _ _) ?_
      refine ⟨?_, k1.trans Keep.new⟩
      rw [plB_lst g]
      have : (cs.all fun c => decide (0 ≤ c) && decide (c < (body.length : Int))) = true := by
        rw [List.all_eq_true]; intro c h
        have := hc c h
        rw [decide_eq_true (by omega), decide_eq_true (by omega)]; rfl
      rw [this, Bool.and_true]
def S34 (Φ : FT) : Prop := ∀ (n : Int) (w : W) (h : IH), Kl h w → (Φ 34 [w, .int n] h).Wp fun x h' => x = .bl (plB h n w) ∧ Keep h h'
theorem oddI {ws : List W} : ws.any (fun y => isB y || !isIB y) = false → ∃ cs : List Int, ws = cs.map .int := by
  intro q
  refine ints_map fun x hx => ?_
  have := List.any_eq_false.mp q x hx
  cases x with
  | int i => exact ⟨i, rfl⟩
  | _ => exact absurd rfl this
theorem oddB {ws : List W} {n : Int} (q : ws.any (fun y => isB y || !isIB y) = true) : ws.all (fun y => intB y 0 (n - 1)) = false := by
  cases z : ws.all (fun y => intB y 0 (n - 1)) with
  | false => rfl
  | true =>
    obtain ⟨cs, e, _⟩ := ints_b z
    subst e
    obtain ⟨x, hx, q⟩ := List.any_eq_true.mp q
    obtain ⟨c, _, rfl⟩ := List.mem_map.mp hx
    cases q
theorem cont_any {bs : List Bool} : bs.contains true = bs.any id := by
  induction bs with
  | nil => rfl
  | cons b bs ih => rw [List.contains_cons, List.any_cons, ih]; cases b <;> rfl
theorem cont_all {bs : List Bool} : (!bs.contains false) = bs.all id := by
  induction bs with
  | nil => rfl
  | cons b bs ih => rw [List.contains_cons, List.all_cons, ← ih]; cases b <;> simp
theorem ph34 (k : Nat) : S34 (Phi gk tab (k + 1)) := fun n w h K => by
  rw [phi34, x_callB (by rfl)]
  show (m34 _ [some w, some (.int n), none] h).Wp _
  unfold m34
  rw [x_seq, x_if, x_or, x_not, x_tru, Fw.x_e1, v0, x_isL K.k, x_truB]
  cases q : isL h w with
  | false =>
    refine ⟨fun _ => ⟨fun _ => ?_, fun z => Bool.noConfusion z⟩, fun z => Bool.noConfusion z⟩
    rw [x_seq, x_ret, x_C, plB_no q]
    exact ⟨rfl, Keep.refl⟩
  | true =>
    refine ⟨fun z => Bool.noConfusion z, fun _ => ?_⟩
    obtain ⟨a, ws, rfl, g⟩ := isL_yes q
    obtain ⟨kw, lw⟩ := K.l a ws rfl g
    rw [x_bol, x_e2, x_C]
    refine bl_lc g rfl (fun y => isB y || !isIB y) (by omega) (fun y hy => ?_) ?_
    · refine eqW_ ?_
      show (eOr _ _ [some (.loc a), some (.int n), some y] h).Wp _
      have ky := kns_mem kw y hy
      rw [x_eOr, Fw.x_e1, v2, x_isB ky, x_orK]
      refine ⟨fun z => ?_, fun z => ?_⟩
      · rw [z]; exact ⟨rfl, rfl⟩
      · rw [x_eNot, Fw.x_e1, v2, x_isIB ky, x_notK, z]
        exact ⟨rfl, rfl⟩
    have k1 : Keep h (h.new (.lst ((ws.map (fun y => isB y || !isIB y)).map .bl))) := Keep.new
    have g1 : (h.new (.lst ((ws.map (fun y => isB y || !isIB y)).map .bl))).get h.n = some (.lst ((ws.map (fun y => isB y || !isIB y)).map .bl)) := IH.get_new_self _ _
    generalize h.new (.lst ((ws.map (fun y => isB y || !isIB y)).map .bl)) = h1 at k1 g1 ⊢
    rw [x_inB g1, x_bolW, cont_any, show (ws.map (fun y => isB y || !isIB y)).any id = ws.any (fun y => isB y || !isIB y) by rw [List.any_map]; rfl]
    cases q2 : ws.any (fun y => isB y || !isIB y) with
    | true =>
      refine ⟨fun _ => ?_, fun z => Bool.noConfusion z⟩
      rw [x_seq, x_ret, x_C, plB_odd g (oddB q2)]
      exact ⟨rfl, k1⟩
    | false =>
      refine ⟨fun z => Bool.noConfusion z, fun _ => ?_⟩
      obtain ⟨cs, ew⟩ := oddI q2
      subst ew
      rw [List.length_map] at lw
      rw [x_next, x_seq, x_ret, x_eAnd, x_e2, v0, Fw.x_e1, v0, x_sset (k1.at g) (by omega)]
      refine eq_sset (Keep.new.at (k1.at g)) (IH.get_new_self _ _) ?_
      have k2 : Keep h1 (h1.new (.lst ((setI cs).map .int))) := Keep.new
      generalize h1.new (.lst ((setI cs).map .int)) = h2 at k2 ⊢
      have k2 := k1.trans k2
      rw [x_andK, plB_lst g]
      refine ⟨fun z => ?_, fun z => ?_⟩
      · rw [z, Bool.true_and, x_e2, x_C]
        refine bl_lc (k2.at g) rfl (fun y => intB y 0 (n - 1)) (by rw [List.length_map]; omega) (fun y hy => ?_) ?_
        · obtain ⟨c, _, rfl⟩ := List.mem_map.mp hy
          refine eqW_ ?_
          show (eChain oLe oLt _ _ _ [some (.loc a), some (.int n), some (.int c)] h2).Wp _
          rw [x_chain, x_C, v2, x_le, x_chK]
          have e : decide (c ≤ n - 1) = decide (c < n) := decide_eq_decide.mpr (by omega)
          refine ⟨fun z => ?_, fun z => ?_⟩
          · rw [v1, x_lt]
            refine ⟨?_, rfl⟩
            show _ = W.bl (decide (0 ≤ c) && decide (c ≤ n - 1))
            rw [z, e]; rfl
          · refine ⟨?_, rfl⟩
            show _ = W.bl (decide (0 ≤ c) && decide (c ≤ n - 1))
            rw [z]; rfl
        · rw [x_ninB (IH.get_new_self _ _), cont_all]
          refine ⟨?_, k2.trans Keep.new⟩
          congr 1
          rw [List.all_map, List.all_map]
          congr 1
          funext c
          show (decide (0 ≤ c) && decide (c ≤ n - 1)) = _
          congr 1
          exact decide_eq_decide.mpr (by omega)
      · rw [z, Bool.false_and]
        exact ⟨rfl, k2⟩
end K25

set_option linter.all false
set_option linter.unusedSimpArgs false
set_option maxRecDepth 100000
set_option maxHeartbeats 1000000
namespace K25
open PySem Fw
/-! ### is_placement, and what the law says -/
theorem ph12 (k : Nat) (us fns : List W) (f : Int) (h : IH) (P : W → IH → Prop) (f0 : 0 ≤ f) (f1 : f < fns.length) (z : P .non h) : (Phi gk tab (k + 2) 12 [.tup [.tup us, .tup fns], .int f] h).Wp P := by
  rw [phi12, x_callB (by rfl)]
  show (m12 _ [some (.tup [.tup us, .tup fns]), some (.int f)] h).Wp _
  unfold m12
  rw [x_seq, x_if, x_not, x_tru, x_call, x_cons, v1, x_cons, x_C, x_cons, x_e2, x_eA, x_cons, x_e2, v0, x_C, x_ixT1, x_nil, x_lenT, x_C, x_sub, x_nil, phI k _ _ _ h rfl, Rs.Wp_ok, x_truB]
  have e : intB (.int f) 0 ((fns.length : Int) - 1) = true := by
    show (decide (0 ≤ f) && decide (f ≤ (fns.length : Int) - 1)) = true
    rw [decide_eq_true f0, decide_eq_true (by omega)]; rfl
  rw [e]
  refine ⟨fun q => Bool.noConfusion q, fun _ => ?_⟩
  rw [x_next, x_next]
  exact z
/-- a value is a placement -/
def Plc (h : IH) (u : Int) (ops : List Op) (w : W) : Prop := ∃ (a : Nat) (cs : List Int), w = .loc a ∧ h.get a = some (.lst (cs.map .int)) ∧ plB h ops.length w = true ∧ ¬ Hit (onw u ops) cs (goals u ops)
theorem plB_get {h : IH} {n : Int} {w : W} (q : plB h n w = true) : ∃ (a : Nat) (cs : List Int), w = .loc a ∧ h.get a = some (.lst (cs.map .int)) := by
  cases w with
  | loc a =>
    unfold plB at q; dsimp only at q
    cases g : h.get a with
    | none => rw [g] at q; cases q
    | some c =>
      rw [g] at q
      cases c with
      | lst ws =>
        dsimp only at q
        cases z : mapO asI ws with
        | none => rw [z] at q; cases q
        | some cs => exact ⟨a, cs, rfl, by rw [asI_map z] at g; exact g⟩
      | _ => cases q
  | _ => cases q
theorem Plc_no {h : IH} {u : Int} {ops : List Op} {w : W} (q : plB h ops.length w = false) : ¬ Plc h u ops w := fun ⟨_, _, _, _, z, _⟩ => by rw [q] at z; cases z
theorem Plc_iff {h : IH} {u : Int} {ops : List Op} {a : Nat} {cs : List Int} (g : h.get a = some (.lst (cs.map .int))) (q : plB h ops.length (.loc a) = true) : Plc h u ops (.loc a) ↔ ¬ Hit (onw u ops) cs (goals u ops) := by
  refine ⟨fun ⟨a', cs', e, g', _, n⟩ => ?_, fun n => ⟨a, cs, rfl, g, q, n⟩⟩
  cases e
  rw [g] at g'
  have : cs = cs' := by
    have := congrArg (mapO asI) (Cell.lst.inj (Option.some.inj g'))
    rw [ints_of, ints_of] at this
    exact Option.some.inj this
  rw [this]; exact n
structure Prog (us fns : List W) (f u : Int) (body : List W) (ops : List Op) : Prop where
  ok : ProgOk 6 8 (.tup [.tup us, .tup fns])
  F : Fun fns f body ops
  f1 : f < fns.length
  u0 : 0 ≤ u
  u1 : u < us.length
def S19 (Φ : FT) : Prop := ∀ (us fns : List W) (f u : Int) (body : List W) (ops : List Op) (w : W) (h : IH), Prog us fns f u body ops → Kl h w → (Φ 19 [.tup [.tup us, .tup fns], .int f, .int u, w] h).Wp fun x h' => ∃ b : Bool, x = .bl b ∧ (b = true ↔ Plc h u ops w) ∧ Keep h h'
theorem kn_K {h h' : IH} {w : W} (K : Kl h w) (k : Keep h h') : Kl h' w := ⟨kn_keep k w K.k, fun a ws e g => by
  subst e
  have kk := K.k
  unfold kn at kk
  cases q : h.get a with
  | none => rw [q] at kk; cases kk
  | some c =>
    have g' := k.at q
    rw [g] at g'
    cases g'
    obtain ⟨x, y⟩ := K.l a ws rfl q
    exact ⟨kns_keep k ws x, y⟩⟩
theorem plB_keep {h h' : IH} {w : W} {n : Int} (K : Kl h w) (k : Keep h h') : plB h' n w = plB h n w := by
  cases w with
  | loc a =>
    have kk := K.k
    unfold kn at kk
    unfold plB
    dsimp only at kk ⊢
    cases q : h.get a with
    | none => rw [q] at kk; cases kk
    | some c => rw [k.at q]
  | _ => rfl
theorem Plc_keep {h h' : IH} {u : Int} {ops : List Op} {w : W} (K : Kl h w) (k : Keep h h') : Plc h' u ops w ↔ Plc h u ops w := by
  cases q : plB h ops.length w with
  | false => exact ⟨fun z => absurd z (Plc_no (by rw [plB_keep K k]; exact q)), fun z => absurd z (Plc_no q)⟩
  | true =>
    obtain ⟨a, cs, rfl, g⟩ := plB_get q
    rw [Plc_iff g q, Plc_iff (k.at g) (by rw [plB_keep K k]; exact q)]
theorem ph19 (k : Nat) : S19 (Phi gk tab (k + 7)) := fun us fns f u body ops w h O K => by
  rw [phi19, x_callB (by rfl)]
  show (m19 _ [some (.tup [.tup us, .tup fns]), some (.int f), some (.int u), some w] h).Wp _
  unfold m19
  rw [x_seq, x_expr, x_call, x_cons, v0, x_nil]
  refine ph9 k 6 8 _ h _ O.ok (by decide) (by decide) fun h1 k1 => ?_
  rw [x_seq, x_expr, x_call, x_cons, v0, x_cons, v1, x_nil]
  refine ph12 (k + 4) us fns f h1 _ O.F.f0 O.f1 ?_
  rw [x_seq, x_expr, x_call, x_cons, v0, x_cons, v2, x_nil]
  refine ph11 (k + 4) us _ u h1 _ O.u0 O.u1 ?_
  rw [x_seq, x_ret, x_eAnd, x_call, x_cons, v0, x_cons, v1, x_cons, v3, x_nil]
  refine (ph18 (k + 4) us fns f body ops w h1 O.F (kn_K K k1)).mono fun x h2 ⟨ex, k2⟩ => ?_
  subst ex
  have k12 := k1.trans k2
  rw [x_andK, plB_keep K k1, ← O.F.len]
  refine ⟨fun q => ?_, fun q => ⟨false, rfl, ⟨fun z => Bool.noConfusion z, fun z => absurd z (Plc_no q)⟩, k12⟩⟩
  obtain ⟨a, cs, rfl, g⟩ := plB_get q
  rw [x_e2, x_call, x_cons, v0, x_cons, v1, x_cons, v2, x_cons, v3, x_nil]
  refine (ph16 (k + 3) us fns f u body ops a cs h2 O.F (k12.at g)).mono fun x h3 ⟨ex, k3⟩ => ?_
  rw [x_C, x_is, Plc_iff g q]
  rcases ex with ⟨rfl, n⟩ | ⟨⟨b, rfl⟩, n⟩
  · exact ⟨true, rfl, ⟨fun _ => n, fun _ => rfl⟩, k12.trans k3⟩
  · exact ⟨false, rfl, ⟨fun z => Bool.noConfusion z, fun z => absurd n z⟩, k12.trans k3⟩
/-- what the law says is due -/
theorem due_ok (k : Nat) {us fns : List W} {f u : Int} {body : List W} {ops : List Op} {w : W} {h : IH} {e : Fw.Env} {x0 x1 x2 x3 x4 : EE} {P : W → IH → Prop} (O : Prog us fns f u body ops) (K : Kl h w)
    (q0 : ∀ h, x0 e h = .ok (.tup [.tup us, .tup fns]) h) (q1 : ∀ h, x1 e h = .ok (.int f) h) (q2 : ∀ h, x2 e h = .ok (.int u) h) (q3 : ∀ h, x3 e h = .ok w h) (q4 : ∀ h, x4 e h = .ok (.int body.length) h)
    (z : ∀ (b : Bool) h', (b = true ↔ Plc h u ops w) → Keep h h' → P (.bl b) h') :
    (eAnd (eCall (Phi gk tab (k + 3)) 34 (aCons x3 (aCons x4 aNil))) (eCall (Phi gk tab (k + 3)) 31 (aCons x0 (aCons x1 (aCons x2 (aCons x3 aNil))))) e h).Wp P := by
  rw [x_eAnd, x_call, x_cons, q3, Rs.Wp_ok, x_cons, q4, Rs.Wp_ok, x_nil]
  refine (ph34 (k + 2) body.length w h K).mono fun x h1 ⟨ex, k1⟩ => ?_
  subst ex
  rw [x_andK, ← O.F.len]
  refine ⟨fun q => ?_, fun q => z false h1 ⟨fun z => Bool.noConfusion z, fun z => absurd z (Plc_no q)⟩ k1⟩
  obtain ⟨a, cs, rfl, g⟩ := plB_get q
  rw [x_call, x_cons, q0, Rs.Wp_ok, x_cons, q1, Rs.Wp_ok, x_cons, q2, Rs.Wp_ok, x_cons, q3, Rs.Wp_ok, x_nil]
  refine (ph31 (k + 1) us fns f u body ops a cs h1 O.F (k1.at g)).mono fun x h2 ⟨b, ex, hb, k2⟩ => ?_
  subst ex
  exact z b h2 (hb.trans (Plc_iff g q).symm) (k1.trans k2)
/-- prices -/
theorem ph13 (k : Nat) {us fns : List W} {f : Int} {body : List W} {ops : List Op} {rp : Nat} {ps : List Int} (h : IH) (P : W → IH → Prop) (F : Fun fns f body ops) (g : h.get rp = some (.lst (ps.map .int))) (pl : ps.length = body.length) (pr : ∀ p ∈ ps, 0 ≤ p ∧ p ≤ 65535) (z : ∀ h', Keep h h' → P .non h') :
    (Phi gk tab (k + 2) 13 [.tup [.tup us, .tup fns], .int f, .loc rp] h).Wp P := by
  obtain ⟨v, hv⟩ := F.at_
  rw [phi13, x_callB (by rfl)]
  show (m13 _ [some (.tup [.tup us, .tup fns]), some (.int f), some (.loc rp), none] h).Wp _
  unfold m13
  have kk : kn h (.loc rp) = true := by unfold kn; rw [g]
  have il : isL h (.loc rp) = true := by unfold isL; dsimp only; rw [g]
  rw [x_seq, x_if, x_or, x_not, x_tru, Fw.x_e1, v2, x_isL kk, x_truB, il]
  refine ⟨fun q => Bool.noConfusion q, fun _ => ?_⟩
  rw [x_bol, x_e2, x_eA, x_cons, v2, x_nil, x_lenL g, x_eA, x_cons, x_e2, x_e2, x_e2, v0, x_C, x_ixT1, v1, x_ixT F.f0 hv, x_C, x_ixT1, x_nil, x_lenT, x_neI, x_bolW, List.length_map, pl]
  rw [decide_eq_true rfl]
  refine ⟨fun q => Bool.noConfusion q, fun _ => ?_⟩
  rw [x_next, x_seq, x_if, x_not, x_tru]
  have l8 := F.ok.l8
  have fl := F.len
  refine all_lc g rfl (fun y => intB y 0 65535) (by rw [List.length_map]; omega) (fun y hy => ?_) ?_
  · obtain ⟨c, _, rfl⟩ := List.mem_map.mp hy
    refine eqW_ ?_
    show (eCall _ 0 _ [some (.tup [.tup us, .tup fns]), some (.int f), some (.loc rp), some (.int c)] h).Wp _
    rw [x_call, x_cons, v3, x_cons, x_C, x_cons, x_C, x_nil, phI k _ _ _ h rfl]
    exact ⟨rfl, rfl⟩
  have e : (ps.map W.int).all (fun y => intB y 0 65535) = true := by
    rw [all_ints, List.all_eq_true]; intro c hc
    have := pr c hc
    rw [decide_eq_true this.1, decide_eq_true this.2]; rfl
  rw [x_truB, e]
  refine ⟨fun q => Bool.noConfusion q, fun _ => ?_⟩
  rw [x_next, x_next]
  exact z _ Keep.new
end K25

set_option linter.all false
set_option linter.unusedSimpArgs false
set_option maxRecDepth 100000
set_option maxHeartbeats 1000000
namespace K25
open PySem Fw
/-! ### what a walk may hold -/
inductive It (h : IH) : W → Prop
  | int (i : Int) : It h (.int i)
  | non : It h .non
  | bl (b : Bool) : It h (.bl b)
  | str (s : Str) : PyData.strOk s = true → It h (.str s)
  | tup (i : Int) : It h (.tup [.int i])
  | lst (a : Nat) (i : Int) : h.get a = some (.lst [.int i]) → It h (.loc a)
theorem It.keep {h h' : IH} (k : Keep h h') {w : W} (i : It h w) : It h' w := by
  cases i with
  | int i => exact .int i
  | non => exact .non
  | bl b => exact .bl b
  | str s q => exact .str s q
  | tup i => exact .tup i
  | lst a i g => exact .lst a i (k.at g)
theorem It.kn {h : IH} {w : W} (i : It h w) : kn h w = true := by
  cases i with
  | lst a i g => unfold K25.kn; rw [g]
  | _ => rfl
theorem It.dt {h : IH} {w : W} (i : It h w) : ∃ d, toD 64 h w = some d ∧ d.canLay0 = true ∧ d.depth ≤ 5 := by
  cases i with
  | int i => exact ⟨_, rfl, rfl, by show 0 ≤ 5; omega⟩
  | non => exact ⟨_, rfl, rfl, by show 0 ≤ 5; omega⟩
  | bl b => exact ⟨_, rfl, rfl, by show 0 ≤ 5; omega⟩
  | str s q => exact ⟨_, rfl, q, by show 0 ≤ 5; omega⟩
  | tup i => exact ⟨.tuple [.int i], rfl, rfl, by show 1 ≤ 5; omega⟩
  | lst a i g =>
    refine ⟨.list [.int i], ?_, rfl, by show 1 ≤ 5; omega⟩
    show (match listAt h a with
      | some ws => (match mapO (toD 63 h) ws with
        | some ds => some (PyData.list ds)
        | none => none)
      | none => none) = _
    rw [list_at g]; rfl
theorem its_dt {h : IH} : ∀ {ws : List W}, (∀ w ∈ ws, It h w) → ∃ ds, mapO (toD 64 h) ws = some ds ∧ PyData.canLayAll0 ds = true ∧ PyData.depthAll ds ≤ 5 ∧ ds.length = ws.length
  | [], _ => ⟨[], rfl, rfl, by show 0 ≤ 5; omega, rfl⟩
  | w :: ws, H => by
    obtain ⟨d, e1, c1, p1⟩ := (H w List.mem_cons_self).dt
    obtain ⟨ds, e2, c2, p2, l2⟩ := its_dt fun x hx => H x (List.mem_cons_of_mem _ hx)
    refine ⟨d :: ds, by rw [mapO_cons, e1]; dsimp only; rw [e2], ?_, ?_, by simp [l2]⟩
    · show (d.canLay0 && PyData.canLayAll0 ds) = true
      rw [c1, c2]; rfl
    · show max d.depth (PyData.depthAll ds) ≤ 5
      omega
theorem eqW_nil {h : IH} {r a : Nat} {ws : List W} (g : h.get r = some (.lst ws)) (ga : h.get a = some (.lst [])) (H : ∀ w ∈ ws, It h w) : ∃ c, eqW (.loc r) (.loc a) h = some c ∧ (c = true ↔ ws = []) := by
  obtain ⟨ds, e, c, p, l⟩ := its_dt H
  have d1 : dat h (.loc r) = some (.list ds) := by
    show (match listAt h r with
      | some ws => (match mapO (toD 64 h) ws with
        | some ds => some (PyData.list ds)
        | none => none)
      | none => none) = _
    rw [list_at g]; dsimp only; rw [e]
  have d2 : dat h (.loc a) = some (.list []) := by
    show (match listAt h a with
      | some ws => (match mapO (toD 64 h) ws with
        | some ds => some (PyData.list ds)
        | none => none)
      | none => none) = _
    rw [list_at ga]; rfl
  have s1 : SeqAt.shaped (.list ds) = true := by
    unfold SeqAt.shaped
    rw [show (PyData.list ds).canLay0 = PyData.canLayAll0 ds from rfl, c, show (PyData.list ds).depth = PyData.depthAll ds + 1 from rfl, decide_eq_true (by omega)]; rfl
  refine ⟨_, eqW_dat rfl d1 d2 s1 (by decide), ?_⟩
  cases ws with
  | nil =>
    cases ds with
    | nil => exact ⟨fun _ => rfl, fun _ => rfl⟩
    | cons d ds => simp at l
  | cons w ws =>
    cases ds with
    | nil => simp at l
    | cons d ds => exact ⟨fun q => (by cases q), fun q => (by cases q)⟩
theorem x_neg {i : Int} {h : IH} {P : W → IH → Prop} : (uNeg (.int i) h).Wp P = P (.int (-i)) h := rfl
theorem x_slL {a b : Option Int} {r : Nat} {ws : List W} {h : IH} {P : W → IH → Prop} (g : h.get r = some (.lst ws)) : (oSl a b (.loc r) h).Wp P = P (.loc h.n) (h.new (.lst (cutW ws a b))) := by
  unfold oSl; dsimp only; rw [list_at g]; rfl
theorem cut_drop {ws : List W} {k : Int} (h0 : 0 ≤ k) : cutW ws (some k) none = ws.drop k.toNat := by
  unfold cutW
  have e : ∀ d, HT.sIx ws.length d (some k) = min k.toNat ws.length := fun d => by
    have z := HT.sIx_nat ws.length d k.toNat
    rw [Int.toNat_of_nonneg h0] at z
    exact z
  rw [HT.sIx_none, e]
  by_cases q : k.toNat ≤ ws.length
  · rw [Nat.min_eq_left q, List.take_of_length_le (by rw [List.length_drop]; omega)]
  · rw [Nat.min_eq_right (by omega), List.drop_of_length_le (Nat.le_refl _), List.drop_of_length_le (by omega), List.take_nil]
theorem cut_take {ws : List W} {k : Int} (h0 : 0 ≤ k) : cutW ws none (some k) = ws.take k.toNat := by
  unfold cutW
  have e : HT.sIx ws.length ws.length (some k) = min k.toNat ws.length := by
    have z := HT.sIx_nat ws.length ws.length k.toNat
    rw [Int.toNat_of_nonneg h0] at z
    exact z
  rw [HT.sIx_none, e, List.drop_zero, Nat.sub_zero]
  by_cases q : k.toNat ≤ ws.length
  · rw [Nat.min_eq_left q]
  · rw [Nat.min_eq_right (by omega), List.take_of_length_le (Nat.le_refl _), List.take_of_length_le (by omega)]
/-- a walk, as [11] has it -/
structure Wk (u : Int) (ops : List Op) (cs : List Int) : Prop where
  hd : cs[0]? = some 0
  last : ∃ g, cs.getLast? = some g ∧ g ∈ goals u ops
  rg : ∀ c ∈ cs, 0 ≤ c ∧ c < ops.length
  st : ∀ (i : Nat) (a b : Int), cs[i]? = some a → cs[i + 1]? = some b → b ∈ onw u ops a
def WkV (h : IH) (u : Int) (ops : List Op) (w : W) : Prop := ∃ (a : Nat) (cs : List Int), w = .loc a ∧ h.get a = some (.lst (cs.map .int)) ∧ Wk u ops cs
theorem ints_inj {cs ds : List Int} (e : cs.map W.int = ds.map W.int) : cs = ds := by
  have := congrArg (mapO asI) e
  rw [ints_of, ints_of] at this
  exact Option.some.inj this
theorem WkV_at {h : IH} {u : Int} {ops : List Op} {a : Nat} {cs : List Int} (g : h.get a = some (.lst (cs.map .int))) : WkV h u ops (.loc a) ↔ Wk u ops cs := by
  refine ⟨fun ⟨a', cs', e, g', k⟩ => ?_, fun k => ⟨a, cs, rfl, g, k⟩⟩
  cases e
  rw [g] at g'
  rw [ints_inj (Cell.lst.inj (Option.some.inj g'))]; exact k
theorem WkV_odd {h : IH} {u : Int} {ops : List Op} {a : Nat} {ws : List W} (ok : OpsOk ops) (g : h.get a = some (.lst ws)) (q : ws.all (fun y => intB y 0 99) = false) : ¬ WkV h u ops (.loc a) := fun ⟨a', cs, e, g', k⟩ => by
  cases e
  rw [g] at g'
  have := Cell.lst.inj (Option.some.inj g')
  subst this
  rw [all_ints] at q
  have : (cs.all fun c => decide (0 ≤ c) && decide (c ≤ 99)) = true := by
    rw [List.all_eq_true]; intro c hc
    have := k.rg c hc
    have := ok.l8
    rw [decide_eq_true (by omega), decide_eq_true (by omega)]; rfl
  rw [this] at q; cases q
/-- what may be told for a walk: known, and if a list, of what a walk may hold -/
structure Gw (h : IH) (w : W) : Prop where
  k : kn h w = true
  l : ∀ a ws, w = .loc a → h.get a = some (.lst ws) → ws.length ≤ 40 ∧ ∀ y ∈ ws, It h y
theorem Gw.keep {h h' : IH} {w : W} (G : Gw h w) (k : Keep h h') : Gw h' w := ⟨kn_keep k w G.k, fun a ws e g => by
  subst e
  have kk := G.k
  unfold kn at kk
  cases q : h.get a with
  | none => rw [q] at kk; cases kk
  | some c =>
    have g' := k.at q
    rw [g] at g'
    cases g'
    obtain ⟨x, y⟩ := G.l a ws rfl q
    exact ⟨x, fun z hz => (y z hz).keep k⟩⟩
theorem WkV.keep {h h' : IH} {u : Int} {ops : List Op} {w : W} (G : Gw h w) (k : Keep h h') : WkV h' u ops w ↔ WkV h u ops w := by
  refine ⟨fun ⟨a, cs, e, g, z⟩ => ?_, fun ⟨a, cs, e, g, z⟩ => ⟨a, cs, e, k.at g, z⟩⟩
  subst e
  have kk := G.k
  unfold kn at kk
  cases q : h.get a with
  | none => rw [q] at kk; cases kk
  | some c =>
    have g' := k.at q
    rw [g] at g'
    cases g'
    exact ⟨a, cs, rfl, q, z⟩
theorem last_at {cs : List Int} {g : Int} (h : cs.getLast? = some g) : (cs.map W.int).getLast? = some (.int g) := by
  rw [List.getLast?_map, h]; rfl
def S20 (Φ : FT) : Prop := ∀ (us fns : List W) (f u : Int) (body : List W) (ops : List Op) (w : W) (h : IH), Fun fns f body ops → Gw h w → (Φ 20 [.tup [.tup us, .tup fns], .int f, .int u, w] h).Wp fun x h' => ∃ b : Bool, x = .bl b ∧ (b = true ↔ WkV h u ops w) ∧ Keep h h'
theorem ph20 (k : Nat) : S20 (Phi gk tab (k + 3)) := fun us fns f u body ops w h F G => by
  obtain ⟨v, hv⟩ := F.at_
  have bl := F.ok.l8
  have fl := F.len
  rw [phi20, x_callB (by rfl)]
  show (m20 _ [some (.tup [.tup us, .tup fns]), some (.int f), some (.int u), some w, none, none, none] h).Wp _
  unfold m20
  rw [x_seq, x_if, x_or, x_not, x_tru, Fw.x_e1, v3, x_isL G.k, x_truB]
  cases q : isL h w with
  | false =>
    refine ⟨fun _ => ⟨fun _ => ?_, fun z => Bool.noConfusion z⟩, fun z => Bool.noConfusion z⟩
    rw [x_seq, x_ret, x_C]
    exact ⟨false, rfl, ⟨fun z => Bool.noConfusion z, fun ⟨a, cs, e, g, _⟩ => absurd g (isL_no q e)⟩, Keep.refl⟩
  | true =>
  refine ⟨fun z => Bool.noConfusion z, fun _ => ?_⟩
  obtain ⟨a, ws, rfl, g⟩ := isL_yes q
  obtain ⟨lw, iw⟩ := G.l a ws rfl g
  rw [x_not, x_tru]
  refine all_lc g rfl (fun y => intB y 0 99) (by omega) (fun y hy => ?_) ?_
  · refine eqW_ ?_
    show (eCall _ 0 _ [some (.tup [.tup us, .tup fns]), some (.int f), some (.int u), some (.loc a), some y, none, none] h).Wp _
    rw [x_call, x_cons, v4, x_cons, x_C, x_cons, x_C, x_nil, phI (k + 1) y _ _ h (iw y hy).kn]
    exact ⟨rfl, rfl⟩
  rw [x_truB]
  have k1 : Keep h (h.new (.lst ((ws.map (fun y => intB y 0 99)).map .bl))) := Keep.new
  generalize h.new (.lst ((ws.map (fun y => intB y 0 99)).map .bl)) = h1 at k1 ⊢
  cases q2 : ws.all (fun y => intB y 0 99) with
  | false =>
    refine ⟨fun _ => ?_, fun z => Bool.noConfusion z⟩
    rw [x_seq, x_ret, x_C]
    exact ⟨false, rfl, ⟨fun z => Bool.noConfusion z, fun z => absurd z (WkV_odd F.ok g q2)⟩, k1⟩
  | true =>
  refine ⟨fun z => Bool.noConfusion z, fun _ => ?_⟩
  obtain ⟨cs, ew, hc⟩ := ints_b q2
  subst ew
  have no : ∀ h', Keep h h' → ¬ Wk u ops cs → ∃ b : Bool, W.bl false = .bl b ∧ (b = true ↔ WkV h u ops (.loc a)) ∧ Keep h h' := fun h' kk z => ⟨false, rfl, ⟨fun z => Bool.noConfusion z, fun y => absurd ((WkV_at g).mp y) z⟩, kk⟩
  rw [List.length_map] at lw
  rw [x_next, x_seq, x_if, x_or, x_bol, x_e2, v3, x_lst, x_nil]
  refine ⟨by rfl, eq_sset (ds := []) (Keep.new.at (k1.at g)) (IH.get_new_self _ _) ?_⟩
  have k2 : Keep h (h1.new (.lst [])) := k1.trans Keep.new
  generalize h1.new (.lst []) = h2 at k2 ⊢
  rw [x_bolW]
  cases cs with
  | nil =>
    rw [decide_eq_true rfl]
    refine ⟨fun _ => ⟨fun _ => ?_, fun z => Bool.noConfusion z⟩, fun z => Bool.noConfusion z⟩
    rw [x_seq, x_ret, x_C]
    exact no h2 k2 fun z => by have := z.hd; simp at this
  | cons c cs =>
  rw [decide_eq_false (by simp)]
  refine ⟨fun z => Bool.noConfusion z, fun _ => ?_⟩
  have g2 := k2.at g
  rw [x_or, x_bol, x_e2, x_e2, v3, x_C, x_ix g2 (by decide) (w := .int c) rfl, x_C, x_neI, x_bolW]
  by_cases c0 : c = 0
  case neg =>
    rw [decide_eq_false c0]
    refine ⟨fun _ => ⟨fun _ => ?_, fun z => Bool.noConfusion z⟩, fun z => Bool.noConfusion z⟩
    rw [x_seq, x_ret, x_C]
    exact no h2 k2 fun z => by have := z.hd; exact c0 (Option.some.inj this)
  rw [decide_eq_true c0]
  refine ⟨fun z => Bool.noConfusion z, fun _ => ?_⟩
  obtain ⟨gl, hgl⟩ : ∃ gl, (c :: cs).getLast? = some gl := ⟨_, List.getLast?_eq_some_getLast (by simp)⟩
  rw [x_bol, x_e2, x_e2, v3, Fw.x_e1, x_C, x_neg, x_last g2 (last_at hgl), x_call, x_cons, v0, x_cons, v1, x_cons, v2, x_nil]
  refine (ph14 k us fns f u body ops h2 F).mono fun x h3 ⟨ag, ex, gg, _, k3⟩ => ?_
  subst ex
  have k3 := k2.trans k3
  rw [x_ninI gg, x_bolW]
  by_cases qg : gl ∈ goals u ops
  case neg =>
    rw [decide_eq_false qg]
    refine ⟨fun _ => ?_, fun z => Bool.noConfusion z⟩
    rw [x_seq, x_ret, x_C]
    exact no h3 k3 fun z => by obtain ⟨g', e', z⟩ := z.last; rw [hgl] at e'; cases e'; exact qg z
  rw [decide_eq_true qg]
  refine ⟨fun z => Bool.noConfusion z, fun _ => ?_⟩
  rw [x_next, x_seq]
  refine for_zip ?_
  rw [v3, x_sl, v3, x_some, x_none, x_slL (k3.at g), cut_drop (by decide)]
  have k4 : Keep h (h3.new (.lst ((((c :: cs).map W.int)).drop (Int.toNat 1)))) := k3.trans Keep.new
  have g4' : (h3.new (.lst ((((c :: cs).map W.int)).drop (Int.toNat 1)))).get h3.n = some (.lst (cs.map .int)) := IH.get_new_self _ _
  generalize h3.new (.lst ((((c :: cs).map W.int)).drop (Int.toNat 1))) = h4 at k4 g4' ⊢
  have len : min ((c :: cs).map W.int).length (cs.map W.int).length = cs.length := by simp
  refine ⟨a, h3.n, _, _, rfl, rfl, k4.at g, g4', fun i e h5 => ∃ s5 s6, Keep h4 h5 ∧ (∀ (j : Nat) (x y : Int), j < i → (c :: cs)[j]? = some x → (c :: cs)[j + 1]? = some y → x < body.length ∧ y ∈ onw u ops x) ∧
    e = [some (.tup [.tup us, .tup fns]), some (.int f), some (.int u), some (.loc a), none, s5, s6], ⟨_, _, Keep.refl, fun j x y z => by omega, rfl⟩, ?_, ?_⟩
  · rintro i e h5 y y' ⟨s5, s6, k5, st, rfl⟩ hy hy'
    obtain ⟨p, hp, rfl⟩ := ints_at hy
    obtain ⟨p', hp', rfl⟩ := ints_at hy'
    have hp2 : (c :: cs)[i + 1]? = some p' := by simpa using hp'
    have k45 := k4.trans k5
    refine ⟨k45.at g, k5.at g4', ?_⟩
    obtain ⟨p0, _⟩ := hc p (List.mem_of_getElem? hp)
    rw [x_tp]
    refine ⟨rfl, ?_⟩
    rw [x_gs1, n5, x_gs1, n6, x_gs0, x_seq, x_if, x_or, x_bol, x_e2, v5, x_eA, x_cons, x_e2, x_e2, x_e2, v0, x_C, x_ixT1, v1, x_ixT F.f0 hv, x_C, x_ixT1, x_nil, x_lenT, x_ge, x_bolW]
    by_cases pb : p < body.length
    case neg =>
      rw [decide_eq_true (by omega)]
      refine ⟨fun _ => ⟨fun _ => ?_, fun z => Bool.noConfusion z⟩, fun z => Bool.noConfusion z⟩
      rw [x_seq, x_ret, x_C]
      exact no h5 k45 fun z => by have := z.rg p (List.mem_of_getElem? hp); omega
    rw [decide_eq_false (by omega)]
    refine ⟨fun z => Bool.noConfusion z, fun _ => ?_⟩
    rw [x_bol, x_e2, v6, x_call, x_cons, v0, x_cons, v1, x_cons, v2, x_cons, v5, x_nil]
    refine (ph15 (k + 1) us fns f u p body ops h5 F p0 pb).mono fun x h6 ⟨an, ex, gn, _, k6⟩ => ?_
    subst ex
    rw [x_ninI gn, x_bolW]
    by_cases pn : p' ∈ setI (onw u ops p)
    · rw [decide_eq_true pn]
      refine ⟨fun z => Bool.noConfusion z, fun _ => ?_⟩
      rw [x_next, x_next]
      refine ⟨_, _, k5.trans k6, fun j x y hj hx2 hy2 => ?_, rfl⟩
      rcases Nat.lt_or_ge j i with l | l
      · exact st j x y l hx2 hy2
      · have : j = i := by omega
        subst this
        obtain rfl := Option.some.inj (hp.symm.trans hx2)
        obtain rfl := Option.some.inj (hp2.symm.trans hy2)
        exact ⟨pb, (setI_mem _ _).mp pn⟩
    · rw [decide_eq_false pn]
      refine ⟨fun _ => ?_, fun z => Bool.noConfusion z⟩
      rw [x_seq, x_ret, x_C]
      exact no h6 (k45.trans k6) fun z => pn ((setI_mem _ _).mpr (z.st i p p' hp hp2))
  · rintro e h5 ⟨s5, s6, k5, st, rfl⟩
    have k45 := k4.trans k5
    refine ⟨k45.at g, k5.at g4', ?_⟩
    rw [len] at st
    rw [x_seq, x_ret, x_C]
    refine ⟨true, rfl, ⟨fun _ => (WkV_at g).mpr ⟨by rw [c0]; rfl, ⟨gl, hgl, qg⟩, fun x hx => ?_, fun i x y hx hy => ?_⟩, fun _ => rfl⟩, k45⟩
    · refine ⟨(hc x hx).1, ?_⟩
      obtain ⟨j, jl, hj⟩ := List.mem_iff_getElem.mp hx
      rcases Nat.lt_or_ge j cs.length with l | l
      · have hx' : (c :: cs)[j]? = some x := by rw [List.getElem?_eq_getElem jl, hj]
        have hy' : (c :: cs)[j + 1]? = some ((c :: cs)[j + 1]'(by simp; omega)) := List.getElem?_eq_getElem _
        have := (st j x _ l hx' hy').1
        omega
      · have e : x = gl := by
          have z : (c :: cs).getLast? = some x := by
            rw [List.getLast?_eq_getElem?]
            have : (c :: cs).length - 1 = j := by simp at jl ⊢; omega
            rw [this, List.getElem?_eq_getElem jl, hj]
          rw [hgl] at z; exact (Option.some.inj z).symm
        rw [e]
        exact (goals_rg qg).2
    · have : i + 1 < (c :: cs).length := (List.getElem?_eq_some_iff.mp hy).1
      exact (st i x y (by simpa using this) hx hy).2
end K25

set_option linter.all false
set_option linter.unusedSimpArgs false
set_option maxRecDepth 100000
set_option maxHeartbeats 1000000
namespace K25
open PySem Fw
/-! ### are_walks -/
structure Wl where
  a : Nat
  cs : List Int
  n : Int
def Wl.w (x : Wl) : W := .tup [.loc x.a, .int x.n]
structure WlOk (h : IH) (u : Int) (ops : List Op) (x : Wl) : Prop where
  g : h.get x.a = some (.lst (x.cs.map .int))
  k : Wk u ops x.cs
  n : 1 ≤ x.n
def tot (wl : List Wl) (i : Int) : Int := ((wl.filter fun x => decide (i ∈ x.cs)).map (·.n)).sum
def Wks (h : IH) (u : Int) (ops : List Op) (ps : List Int) (w : W) : Prop := ∃ (a : Nat) (wl : List Wl), w = .loc a ∧ h.get a = some (.lst (wl.map Wl.w)) ∧ (∀ x ∈ wl, WlOk h u ops x) ∧ ∀ (i : Nat) (p : Int), ps[i]? = some p → tot wl i ≤ p
structure Gx (h : IH) (x : W) : Prop where
  k : kn h x = true
  p : ∀ p q, x = .tup [p, q] → Gw h p ∧ It h q ∧ ∀ n, q = .int n → n ≤ 100000000000000000000
structure Gv (h : IH) (w : W) : Prop where
  k : kn h w = true
  l : ∀ a xs, w = .loc a → h.get a = some (.lst xs) → xs.length ≤ 40 ∧ ∀ x ∈ xs, Gx h x
theorem kn_get {h : IH} {a : Nat} (k : kn h (.loc a) = true) : ∃ c, h.get a = some c := by
  unfold kn at k
  cases q : h.get a with
  | none => rw [q] at k; cases k
  | some c => exact ⟨c, rfl⟩
theorem back {h h' : IH} {a : Nat} {c : Cell} (kk : kn h (.loc a) = true) (k : Keep h h') (g : h'.get a = some c) : h.get a = some c := by
  obtain ⟨c', e⟩ := kn_get kk
  have := k.at e
  rw [g] at this
  rw [e, Option.some.inj this]
theorem Gx.keep {h h' : IH} {w : W} (G : Gx h w) (k : Keep h h') : Gx h' w := ⟨kn_keep k w G.k, fun p q e => by
  obtain ⟨x, y, z⟩ := G.p p q e
  exact ⟨x.keep k, y.keep k, z⟩⟩
theorem Gv.keep {h h' : IH} {w : W} (G : Gv h w) (k : Keep h h') : Gv h' w := ⟨kn_keep k w G.k, fun a xs e g => by
  subst e
  obtain ⟨x, y⟩ := G.l a xs rfl (back G.k k g)
  exact ⟨x, fun z hz => (y z hz).keep k⟩⟩
theorem Wks.keep {h h' : IH} {u : Int} {ops : List Op} {ps : List Int} {w : W} (G : Gv h w) (k : Keep h h') : Wks h' u ops ps w ↔ Wks h u ops ps w := by
  refine ⟨fun ⟨a, wl, e, g, z, y⟩ => ?_, fun ⟨a, wl, e, g, z, y⟩ => ⟨a, wl, e, k.at g, fun x hx => ⟨k.at (z x hx).g, (z x hx).k, (z x hx).n⟩, y⟩⟩
  subst e
  have g0 := back G.k k g
  refine ⟨a, wl, rfl, g0, fun x hx => ⟨?_, (z x hx).k, (z x hx).n⟩, y⟩
  exact back ((((G.l a _ rfl g0).2 _ (List.mem_map.mpr ⟨x, hx, rfl⟩)).p _ _ rfl).1.k) k (z x hx).g
theorem wl_inj {h : IH} {u : Int} {ops : List Op} : ∀ {wl wl' : List Wl}, wl.map Wl.w = wl'.map Wl.w → (∀ x ∈ wl, WlOk h u ops x) → (∀ x ∈ wl', WlOk h u ops x) → wl = wl'
  | [], [], _, _, _ => rfl
  | [], _ :: _, e, _, _ => by cases e
  | _ :: _, [], e, _, _ => by cases e
  | x :: wl, y :: wl', e, H, H' => by
    obtain ⟨e1, e2⟩ := List.cons.inj e
    have r := wl_inj e2 (fun z hz => H z (List.mem_cons_of_mem _ hz)) fun z hz => H' z (List.mem_cons_of_mem _ hz)
    have gx := (H x List.mem_cons_self).g
    have gy := (H' y List.mem_cons_self).g
    obtain ⟨a, cs, n⟩ := x
    obtain ⟨b, ds, m⟩ := y
    unfold Wl.w at e1
    dsimp only at e1 gx gy
    injection e1 with e1
    injection e1 with e3 e4
    injection e3 with e3
    injection e4 with e4
    injection e4 with e4
    subst e3; subst e4
    rw [gx] at gy
    have := ints_inj (Cell.lst.inj (Option.some.inj gy))
    subst this
    rw [r]
def pairB : W → Bool
  | .tup ws => decide ((ws.length : Int) = 2)
  | _ => false
theorem pair_of {x : W} (q : pairB x = true) : ∃ p q, x = .tup [p, q] := by
  cases x with
  | tup ws =>
    have q := of_decide_eq_true q
    match ws, q with
    | [a, b], _ => exact ⟨a, b, rfl⟩
    | [], q => simp at q
    | [_], q => simp at q
    | _ :: _ :: _ :: _, q => simp at q; omega
  | _ => cases q
theorem pow20 : (10 : Int) ^ (20 : Int).toNat = 100000000000000000000 := by decide
def S21 (Φ : FT) : Prop := ∀ (us fns : List W) (f u : Int) (body : List W) (ops : List Op) (rp : Nat) (ps : List Int) (w : W) (h : IH), Prog us fns f u body ops → h.get rp = some (.lst (ps.map .int)) → ps.length = body.length → (∀ p ∈ ps, 0 ≤ p ∧ p ≤ 65535) → Gv h w →
  (Φ 21 [.tup [.tup us, .tup fns], .int f, .int u, .loc rp, w] h).Wp fun x h' => ∃ b : Bool, x = .bl b ∧ (b = true ↔ Wks h u ops ps w) ∧ Keep h h'
theorem ph21 (k : Nat) : S21 (Phi gk tab (k + 7)) := fun us fns f u body ops rp ps w h O gp pl pr G => by
  rw [phi21, x_callB (by rfl)]
  show (m21 _ [some (.tup [.tup us, .tup fns]), some (.int f), some (.int u), some (.loc rp), some w, none, none, none, none, none] h).Wp _
  unfold m21
  rw [x_seq, x_expr, x_call, x_cons, v0, x_nil]
  refine ph9 k 6 8 _ h _ O.ok (by decide) (by decide) fun h1 k1 => ?_
  rw [x_seq, x_expr, x_call, x_cons, v0, x_cons, v1, x_nil]
  refine ph12 (k + 4) us fns f h1 _ O.F.f0 O.f1 ?_
  rw [x_seq, x_expr, x_call, x_cons, v0, x_cons, v2, x_nil]
  refine ph11 (k + 4) us _ u h1 _ O.u0 O.u1 ?_
  rw [x_seq, x_expr, x_call, x_cons, v0, x_cons, v1, x_cons, v3, x_nil]
  refine ph13 (k + 4) h1 _ O.F (k1.at gp) pl pr fun h2 k2 => ?_
  have k2 := k1.trans k2
  have G2 := G.keep k2
  have gp2 := k2.at gp
  -- all is said of h2
  have fin : ∀ (b : Bool) h', (b = true ↔ Wks h2 u ops ps w) → Keep h2 h' → ∃ c : Bool, W.bl b = .bl c ∧ (c = true ↔ Wks h u ops ps w) ∧ Keep h h' := fun b h' hb kk => ⟨b, rfl, hb.trans (Wks.keep G k2), k2.trans kk⟩
  have no : ∀ h', Keep h2 h' → ¬ Wks h2 u ops ps w → ∃ c : Bool, W.bl false = .bl c ∧ (c = true ↔ Wks h u ops ps w) ∧ Keep h h' := fun h' kk z => fin false h' ⟨fun z => Bool.noConfusion z, fun y => absurd y z⟩ kk
  rw [x_seq, x_if, x_or, x_not, x_tru, Fw.x_e1, v4, x_isL G2.k, x_truB]
  cases q : isL h2 w with
  | false =>
    refine ⟨fun _ => ⟨fun _ => ?_, fun z => Bool.noConfusion z⟩, fun z => Bool.noConfusion z⟩
    rw [x_seq, x_ret, x_C]
    exact no h2 Keep.refl fun ⟨a, wl, e, g, _⟩ => isL_no q e g
  | true =>
  refine ⟨fun z => Bool.noConfusion z, fun _ => ?_⟩
  obtain ⟨a, xs, rfl, g⟩ := isL_yes q
  obtain ⟨lw, iw⟩ := G2.l a xs rfl g
  rw [x_not, x_tru]
  refine all_lc g rfl pairB (by omega) (fun y hy => ?_) ?_
  · refine eqW_ ?_
    show (eAnd _ _ [some (.tup [.tup us, .tup fns]), some (.int f), some (.int u), some (.loc rp), some (.loc a), some y, none, none, none, none] h2).Wp _
    rw [x_eAnd, Fw.x_e1, v5, x_isT (iw y hy).k, x_andK]
    cases y with
    | tup ws =>
      refine ⟨fun _ => ?_, fun z => Bool.noConfusion z⟩
      rw [x_e2, x_eA, x_cons, v5, x_nil, x_lenT, x_C, x_eqI]
      exact ⟨rfl, rfl⟩
    | _ => exact ⟨fun z => Bool.noConfusion z, fun _ => ⟨rfl, rfl⟩⟩
  rw [x_truB]
  have k3 : Keep h2 (h2.new (.lst ((xs.map pairB).map .bl))) := Keep.new
  generalize h2.new (.lst ((xs.map pairB).map .bl)) = h3 at k3 ⊢
  cases q2 : xs.all pairB with
  | false =>
    refine ⟨fun _ => ?_, fun z => Bool.noConfusion z⟩
    rw [x_seq, x_ret, x_C]
    refine no h3 k3 fun ⟨a', wl, e, g', _⟩ => ?_
    cases e
    rw [g] at g'
    have := Cell.lst.inj (Option.some.inj g')
    subst this
    have : (wl.map Wl.w).all pairB = true := by
      rw [List.all_map, List.all_eq_true]; intro x _; rfl
    rw [this] at q2; cases q2
  | true =>
  refine ⟨fun z => Bool.noConfusion z, fun _ => ?_⟩
  rw [x_next, x_seq]
  refine for_lst ?_
  rw [v4]
  refine ⟨a, xs, rfl, k3.at g, fun i e h4 => ∃ (s6 s7 : Option W) (wl : List Wl), Keep h2 h4 ∧ xs.take i = wl.map Wl.w ∧ (∀ x ∈ wl, WlOk h2 u ops x) ∧ e = [some (.tup [.tup us, .tup fns]), some (.int f), some (.int u), some (.loc rp), some (.loc a), none, s6, s7, none, none],
    ⟨none, none, [], k3, rfl, fun x hx => (by cases hx), rfl⟩, ?_, ?_⟩
  · rintro i e h4 y ⟨s6, s7, wl, k4, et, ok, rfl⟩ hy
    refine ⟨k4.at g, ?_⟩
    have ym := List.mem_of_getElem? hy
    obtain ⟨p, r, rfl⟩ := pair_of (List.all_eq_true.mp q2 y ym)
    obtain ⟨gw, ir, nb⟩ := (iw _ ym).p p r rfl
    rw [x_tp]
    refine ⟨rfl, ?_⟩
    rw [x_gs1, n6, x_gs1, n7, x_gs0, x_seq, x_if, x_or, x_not, x_tru, x_call, x_cons, v0, x_cons, v1, x_cons, v2, x_cons, v6, x_nil]
    refine (ph20 (k + 3) us fns f u body ops p h4 O.F (gw.keep k4)).mono fun x h5 ⟨b, ex, hb, k5⟩ => ?_
    subst ex
    have k45 := k4.trans k5
    rw [WkV.keep gw k4] at hb
    rw [x_truB]
    cases b with
    | false =>
      refine ⟨fun _ => ⟨fun _ => ?_, fun z => Bool.noConfusion z⟩, fun z => Bool.noConfusion z⟩
      rw [x_seq, x_ret, x_C]
      refine no h5 k45 fun ⟨a', wl', e, g', z, _⟩ => ?_
      cases e
      rw [g] at g'
      have := Cell.lst.inj (Option.some.inj g')
      rw [this] at ym
      obtain ⟨x, hx, ex⟩ := List.mem_map.mp ym
      unfold Wl.w at ex
      injection ex with ex
      injection ex with e1 e2
      subst e1
      have := hb.mpr ⟨x.a, x.cs, rfl, (z x hx).g, (z x hx).k⟩
      cases this
    | true =>
    refine ⟨fun z => Bool.noConfusion z, fun _ => ?_⟩
    obtain ⟨a', cs, rfl, gc, wk⟩ := hb.mp rfl
    rw [x_not, x_tru, x_call, x_cons, v7, x_cons, x_C, x_cons, x_e2, x_C, x_C, x_pow]
    refine ⟨⟨by decide, by decide⟩, ?_⟩
    rw [x_nil, phI (k + 5) r _ _ h5 (ir.keep k45).kn, Rs.Wp_ok, x_truB, pow20]
    cases qi : intB r 1 100000000000000000000 with
    | false =>
      refine ⟨fun _ => ?_, fun z => Bool.noConfusion z⟩
      rw [x_seq, x_ret, x_C]
      refine no h5 k45 fun ⟨a2, wl', e, g', z, _⟩ => ?_
      cases e
      rw [g] at g'
      have := Cell.lst.inj (Option.some.inj g')
      rw [this] at ym
      obtain ⟨x, hx, ex⟩ := List.mem_map.mp ym
      unfold Wl.w at ex
      injection ex with ex
      injection ex with e1 e2
      injection e2 with e2
      subst e2
      have b1 := nb _ rfl
      have b2 := (z x hx).n
      have : intB (.int x.n) 1 100000000000000000000 = true := by
        show (decide (1 ≤ x.n) && decide (x.n ≤ 100000000000000000000)) = true
        rw [decide_eq_true b1, decide_eq_true b2]; rfl
      rw [this] at qi; cases qi
    | true =>
    refine ⟨fun z => Bool.noConfusion z, fun _ => ?_⟩
    rw [x_next, x_next]
    cases r with
    | int n =>
      have qi : (decide (1 ≤ n) && decide (n ≤ 100000000000000000000)) = true := qi
      rw [Bool.and_eq_true, decide_eq_true_eq, decide_eq_true_eq] at qi
      refine ⟨_, _, wl ++ [⟨a', cs, n⟩], k45, ?_, fun x hx => ?_, rfl⟩
      · rw [List.map_append, ← et, List.take_add_one, hy]; rfl
      · rcases List.mem_append.mp hx with hx | hx
        · exact ok x hx
        · obtain rfl := List.mem_singleton.mp hx
          exact ⟨gc, wk, qi.1⟩
    | _ => cases qi
  rintro e h4 ⟨s6, s7, wl, k4, et, ok, rfl⟩
  rw [List.take_length] at et
  subst et
  refine ⟨k4.at g, ?_⟩
  have uni : Wks h2 u ops ps (.loc a) → ∀ (i : Nat) (p : Int), ps[i]? = some p → tot wl i ≤ p := fun ⟨a', wl', e, g', z, y⟩ => by
    cases e
    rw [g] at g'
    rw [wl_inj (Cell.lst.inj (Option.some.inj g')) ok z]; exact y
  rw [List.length_map] at lw
  rw [x_seq]
  refine for_enuL ?_
  rw [v3]
  refine ⟨rp, ps.map .int, rfl, k4.at gp2, fun i e h5 => ∃ (s8 s9 : Option W), Keep h2 h5 ∧ (∀ (j : Nat) (p : Int), j < i → ps[j]? = some p → tot wl j ≤ p) ∧ e = [some (.tup [.tup us, .tup fns]), some (.int f), some (.int u), some (.loc rp), some (.loc a), none, s6, s7, s8, s9],
    ⟨none, none, k4, fun j p z => by omega, rfl⟩, ?_, ?_⟩
  · rintro i e h5 y ⟨s8, s9, k5, st, rfl⟩ hy
    obtain ⟨p, hp, rfl⟩ := ints_at hy
    refine ⟨k5.at gp2, ?_⟩
    rw [x_tp]
    refine ⟨rfl, ?_⟩
    rw [x_gs1, n8, x_gs1, n9, x_gs0, x_seq, x_if, x_bol, x_e2, x_eA, x_cons]
    refine lc_lst ?_
    rw [v4]
    refine ⟨a, _, rfl, k5.at g, fun j us_ h6 => h6 = h5 ∧ us_ = (((wl.take j).filter fun x => decide ((i : Int) ∈ x.cs)).map (·.n)).map .int, ⟨rfl, rfl⟩, ?_, ?_⟩
    · rintro j us_ h6 y ⟨rfl, rfl⟩ hy
      rw [List.getElem?_map] at hy
      obtain ⟨x, hx, rfl⟩ := Option.map_eq_some_iff.mp hy
      refine ⟨k5.at g, ?_⟩
      show (gTp [gNm 6, gNm 7] (.tup [.loc x.a, .int x.n]) [some (.tup [.tup us, .tup fns]), some (.int f), some (.int u), some (.loc rp), some (.loc a), none, none, none, some (.int i), some (.int p)] h6).Wp _
      rw [x_tp]
      refine ⟨rfl, ?_⟩
      rw [x_gs1, n6, x_gs1, n7, x_gs0, x_bol, x_e2, v8, v6, x_inI (k5.at (ok x (List.mem_of_getElem? hx)).g), x_bolW]
      by_cases qq : (i : Int) ∈ x.cs
      · rw [decide_eq_true qq, if_pos rfl, v7]
        exact ⟨rfl, by rw [filter_take _ hx, decide_eq_true qq, if_pos rfl, List.map_append, List.map_append]; rfl⟩
      · rw [decide_eq_false qq, if_neg (by decide)]
        exact ⟨rfl, by rw [filter_take _ hx, decide_eq_false qq, if_neg (by decide)]⟩
    · rintro us_ h6 ⟨rfl, rfl⟩
      have le : (wl.map Wl.w).length = wl.length := List.length_map _
      rw [le, List.take_length]
      refine ⟨k5.at g, ?_, ?_⟩
      · rw [List.length_map, List.length_map]
        exact Nat.le_trans (List.length_filter_le _ _) (by omega)
      rw [x_nil, x_sum (IH.get_new_self _ _), v9, x_gt, x_bolW]
      have k6 : Keep h2 (h6.new (.lst ((((wl.filter fun x => decide ((i : Int) ∈ x.cs)).map (·.n)).map .int)))) := k5.trans Keep.new
      show (decide (p < tot wl i) = true → _) ∧ (decide (p < tot wl i) = false → _)
      refine ⟨fun z => ?_, fun z => ?_⟩
      · have z := of_decide_eq_true z
        rw [x_seq, x_ret, x_C]
        refine no _ k6 fun y => ?_
        have := uni y i p hp
        omega
      · have z := of_decide_eq_false z
        rw [x_next, x_next]
        refine ⟨_, _, k6, fun j p' hj hp' => ?_, rfl⟩
        rcases Nat.lt_or_ge j i with l | l
        · exact st j p' l hp'
        · have : j = i := by omega
          subst this
          rw [hp] at hp'; cases hp'
          omega
  · rintro e h5 ⟨s8, s9, k5, st, rfl⟩
    refine ⟨k5.at gp2, ?_⟩
    rw [x_seq, x_ret, x_C]
    rw [List.length_map] at st
    exact fin true h5 ⟨fun _ => ⟨a, wl, rfl, g, ok, fun i p hp => st i p (List.getElem?_eq_some_iff.mp hp).1 hp⟩, fun _ => rfl⟩ k5
end K25

set_option linter.all false
set_option linter.unusedSimpArgs false
set_option maxRecDepth 100000
set_option maxHeartbeats 1000000
namespace K25
open PySem Fw
/-! ### the law's own check of walks: one pair -/
def bd32 (Φ : FT) : SS := (sSeq (sIf (tOr (tNot (tTru (e1 (oIsi [.tuple]) (eVar 8)))) (tOr (tBol (e2 oNe (eA (k1 oLen) (aCons (eVar 8) aNil)) (eC (.int 2)))) (tOr (tNot (tTru (e1 (oIsi [.list]) (e2 oIx (eVar 8) (eC (.int 0)))))) (tBol (e2 oEq (e2 oIx (eVar 8) (eC (.int 0))) (eLst aNil)))))) (sSeq (sRet (eC (.bl false))) sNext) sNext) (sSeq (sAsg (eVar 8) (gTp [(gNm 9), (gNm 10)])) (sSeq (sAsg (eLc (iAny (e2 oAdd (eVar 9) (eLst (aCons (eVar 10) aNil)))) (gNm 11) (tOr (tTru (e1 (oIsi [.bool]) (eVar 11))) (tNot (tTru (e1 (oIsi [.int]) (eVar 11))))) (eVar 11) [11]) (gNm 12)) (sSeq (sIf (tOr (tBol (e2 oNe (eVar 12) (eLst aNil))) (tBol (e2 oLt (eVar 10) (eC (.int 1))))) (sSeq (sRet (eC (.bl false))) sNext) sNext) (sSeq (sIf (tOr (tBol (e2 oNe (e2 oIx (eVar 9) (eC (.int 0))) (eC (.int 0)))) (tOr (tBol (e2 oNotIn (e2 oIx (eVar 9) (e1 uNeg (eC (.int 1)))) (eVar 5))) (tOr (tBol (e2 oLt (eA (kMin) (aCons (eVar 9) aNil)) (eC (.int 0)))) (tBol (e2 oGe (eA (k1 oMax1) (aCons (eVar 9) aNil)) (eVar 6)))))) (sSeq (sRet (eC (.bl false))) sNext) sNext) (sSeq (sFor (iA kRng1 (aCons (e2 oSub (eA (k1 oLen) (aCons (eVar 9) aNil)) (eC (.int 1))) aNil)) (gNm 13) (sSeq (sIf (tBol (e2 oNotIn (e2 oIx (eVar 9) (e2 oAdd (eVar 13) (eC (.int 1)))) (eCall Φ 30 (aCons (eVar 0) (aCons (eVar 1) (aCons (eVar 2) (aCons (e2 oIx (eVar 9) (eVar 13)) aNil))))))) (sSeq (sRet (eC (.bl false))) sNext) sNext) sNext)) (sSeq (sFor (iAny (e1 oSortSet (eVar 9))) (gNm 14) (sSeq (sAsg (e2 oAdd (e2 oIx (eVar 7) (eVar 14)) (eVar 10)) (gSb (eVar 7) (eVar 14))) sNext)) sNext)))))))
def stp32 (Φ : FT) : SS := (sFor (iA kRng1 (aCons (e2 oSub (eA (k1 oLen) (aCons (eVar 9) aNil)) (eC (.int 1))) aNil)) (gNm 13) (sSeq (sIf (tBol (e2 oNotIn (e2 oIx (eVar 9) (e2 oAdd (eVar 13) (eC (.int 1)))) (eCall Φ 30 (aCons (eVar 0) (aCons (eVar 1) (aCons (eVar 2) (aCons (e2 oIx (eVar 9) (eVar 13)) aNil))))))) (sSeq (sRet (eC (.bl false))) sNext) sNext) sNext))
def sum32 : SS := (sFor (iAny (e1 oSortSet (eVar 9))) (gNm 14) (sSeq (sAsg (e2 oAdd (e2 oIx (eVar 7) (eVar 14)) (eVar 10)) (gSb (eVar 7) (eVar 14))) sNext))
/-- sums of places -/
structure Sm_ (n : Nat) (S : List Int) (t : Nat → Int) : Prop where
  len : S.length = n
  at_ : ∀ j, j < n → S[j]? = some (t j)
theorem Sm_.add {n : Nat} {S : List Int} {t : Nat → Int} {j : Nat} {m : Int} (s : Sm_ n S t) (hj : j < n) : Sm_ n (S.set j (t j + m)) fun i => t i + if i = j then m else 0 := by
  refine ⟨by rw [List.length_set]; exact s.len, fun i hi => ?_⟩
  rw [List.getElem?_set]
  by_cases q : j = i
  · subst q
    rw [if_pos rfl, if_pos (by rw [s.len]; exact hj), if_pos rfl]
  · rw [if_neg q, s.at_ i hi, if_neg (fun e => q e.symm), Int.add_zero]
theorem Sm_.congr {n : Nat} {S : List Int} {t t' : Nat → Int} (s : Sm_ n S t) (e : ∀ j, j < n → t j = t' j) : Sm_ n S t' := ⟨s.len, fun j hj => by rw [s.at_ j hj, e j hj]⟩
theorem sums_ok {n r7 b : Nat} {cs S : List Int} {t0 : Nat → Int} {m : Int} {h0 h : IH} {s0 s1 s2 s3 s4 s5 s6 s8 s11 s12 s13 s14 s15 : Option W} {R : W → IH → Prop} {N B C : Fw.Env → IH → Prop} (gb : h.get b = some (.lst (cs.map .int))) (hl : cs.length < 64) (rg : ∀ c ∈ cs, 0 ≤ c ∧ c < n)
    (g7 : h.get r7 = some (.lst (S.map .int))) (sm : Sm_ n S t0) (k : Keep h0 h) (r0 : h0.n ≤ r7)
    (z : ∀ h' S' s14, Keep h0 h' → (∀ q c, q ≠ r7 → h.get q = some c → h'.get q = some c) → h'.get r7 = some (.lst (S'.map .int)) → Sm_ n S' (fun j => t0 j + if (j : Int) ∈ cs then m else 0) → N [s0, s1, s2, s3, s4, s5, s6, some (.loc r7), s8, some (.loc b), some (.int m), s11, s12, s13, s14, s15] h') :
    (sum32 [s0, s1, s2, s3, s4, s5, s6, some (.loc r7), s8, some (.loc b), some (.int m), s11, s12, s13, s14, s15] h).Wp ⟨N, R, B, C⟩ := by
  unfold sum32
  refine for_lst ?_
  rw [Fw.x_e1, v9, x_sset gb hl]
  have k1 : Keep h (h.new (.lst ((setI cs).map .int))) := Keep.new
  have gs : (h.new (.lst ((setI cs).map .int))).get h.n = some (.lst ((setI cs).map .int)) := IH.get_new_self _ _
  have nn : (h.new (.lst ((setI cs).map .int))).n = h.n + 1 := rfl
  generalize h.new (.lst ((setI cs).map .int)) = h1 at k1 gs nn ⊢
  have l7 := IH.get_lt g7
  have nd : (setI cs).Nodup := (setI_lt cs).imp fun q => by omega
  refine ⟨h.n, _, rfl, gs, fun t e h2 => ∃ S' s14, h2.get h.n = some (.lst ((setI cs).map .int)) ∧ Keep h0 h2 ∧ (∀ q c, q ≠ r7 → h.get q = some c → h2.get q = some c) ∧ h2.get r7 = some (.lst (S'.map .int)) ∧ Sm_ n S' (fun j => t0 j + if (j : Int) ∈ (setI cs).take t then m else 0) ∧
    e = [s0, s1, s2, s3, s4, s5, s6, some (.loc r7), s8, some (.loc b), some (.int m), s11, s12, s13, s14, s15], ⟨S, s14, gs, k.trans k1, fun q c _ g => k1.at g, k1.at g7, sm.congr fun j _ => by simp, rfl⟩, ?_, ?_⟩
  · rintro t e h2 y ⟨S', s14, gs2, k2, ot, g72, sm2, rfl⟩ hy
    obtain ⟨p, hp, rfl⟩ := ints_at hy
    refine ⟨gs2, ?_⟩
    obtain ⟨p0, p1⟩ := rg p ((setI_mem _ _).mp (List.mem_of_getElem? hp))
    have pn : p.toNat < n := by omega
    have pe : ((p.toNat : Nat) : Int) = p := by omega
    have e0 := sm2.at_ p.toNat pn
    have notin : p ∉ (setI cs).take t := fun h => by
      obtain ⟨i, il, hi⟩ := List.mem_take_iff_getElem.mp h
      obtain ⟨l2, l3⟩ := List.getElem?_eq_some_iff.mp hp
      have := List.pairwise_iff_getElem.mp (setI_lt cs) i t (by omega) l2 (by omega)
      omega
    rw [pe, if_neg notin, Int.add_zero] at e0
    have l72 := IH.get_lt g72
    rw [n14, x_seq, x_asg, x_e2, x_e2, v7, v14, x_ix g72 p0 (w := .int (t0 p.toNat)) (by rw [List.getElem?_map, e0]; rfl), v10, x_add, x_sb, v7, v14, x_set g72 p0 (by rw [List.length_map, sm2.len]; omega)]
    dsimp only
    rw [x_next]
    have hm := (sm2.add (m := m) pn)
    refine ⟨S'.set p.toNat (t0 p.toNat + m), _, ?_, k2.set r0 l72, fun q c ne g => ?_, ?_, ?_, rfl⟩
    · rw [IH.get_set _ _ _ _ l72, if_neg (by omega)]; exact gs2
    · rw [IH.get_set _ _ _ _ l72, if_neg ne]; exact ot q c ne g
    · rw [IH.get_set _ _ _ _ l72, if_pos rfl, List.map_set]
    · rw [pe, if_neg notin, Int.add_zero] at hm
      refine hm.congr fun j hj => ?_
      rw [take_one hp]
      by_cases q : j = p.toNat
      · subst q
        rw [pe, if_neg notin, if_pos rfl, if_pos (List.mem_append_right _ (List.mem_singleton.mpr rfl)), Int.add_zero]
      · have q2 : (j : Int) ≠ p := by omega
        rw [if_neg q, Int.add_zero]
        by_cases q3 : (j : Int) ∈ (setI cs).take t
        · rw [if_pos q3, if_pos (List.mem_append_left _ q3)]
        · rw [if_neg q3, if_neg (by rw [List.mem_append, List.mem_singleton]; exact fun z => z.elim q3 q2)]
  · rintro e h2 ⟨S', s14, gs2, k2, ot, g72, sm2, rfl⟩
    refine ⟨gs2, z h2 S' s14 k2 ot g72 (sm2.congr fun j _ => ?_)⟩
    rw [List.length_map, List.take_length]
    by_cases q : (j : Int) ∈ cs
    · rw [if_pos ((setI_mem _ _).mpr q), if_pos q]
    · rw [if_neg (fun z => q ((setI_mem _ _).mp z)), if_neg q]
theorem steps_ok {k : Nat} {us fns : List W} {f u : Int} {body : List W} {ops : List Op} {c : Int} {cs : List Int} {b : Nat} {h : IH} {s3 s4 s5 s6 s7 s8 s10 s11 s12 s13 s14 s15 : Option W} {R : W → IH → Prop} {N B C : Fw.Env → IH → Prop} (F : Fun fns f body ops) (gb : h.get b = some (.lst ((c :: cs).map .int))) (hl : cs.length < 1000) (rg : ∀ x ∈ c :: cs, 0 ≤ x ∧ x < ops.length)
    (no : ∀ h', Keep h h' → ¬ (∀ (i : Nat) (x y : Int), (c :: cs)[i]? = some x → (c :: cs)[i + 1]? = some y → y ∈ onw u ops x) → R (.bl false) h')
    (z : ∀ h' s13, Keep h h' → (∀ (i : Nat) (x y : Int), (c :: cs)[i]? = some x → (c :: cs)[i + 1]? = some y → y ∈ onw u ops x) → N [some (.tup [.tup us, .tup fns]), some (.int f), some (.int u), s3, s4, s5, s6, s7, s8, some (.loc b), s10, s11, s12, s13, s14, s15] h') :
    (stp32 (Phi gk tab (k + 1)) [some (.tup [.tup us, .tup fns]), some (.int f), some (.int u), s3, s4, s5, s6, s7, s8, some (.loc b), s10, s11, s12, s13, s14, s15] h).Wp ⟨N, R, B, C⟩ := by
  unfold stp32
  refine for_rng ?_
  rw [x_e2, x_eA, x_cons, v9, x_nil, x_lenL gb, x_C, x_sub]
  refine ⟨cs.length, by rw [List.length_map, List.length_cons]; congr 1; omega, by omega, fun i e h2 => ∃ s13, Keep h h2 ∧ (∀ (j : Nat) (x y : Int), j < i → (c :: cs)[j]? = some x → (c :: cs)[j + 1]? = some y → y ∈ onw u ops x) ∧
    e = [some (.tup [.tup us, .tup fns]), some (.int f), some (.int u), s3, s4, s5, s6, s7, s8, some (.loc b), s10, s11, s12, s13, s14, s15], ⟨s13, Keep.refl, fun j x y z => by omega, rfl⟩, ?_, ?_⟩
  · rintro i e h2 il ⟨s13, k2, st, rfl⟩
    have hx : (c :: cs)[i]? = some ((c :: cs)[i]'(by simp; omega)) := List.getElem?_eq_getElem _
    have hy : (c :: cs)[i + 1]? = some ((c :: cs)[i + 1]'(by simp; omega)) := List.getElem?_eq_getElem _
    generalize (c :: cs)[i]'(by simp; omega) = x at hx
    generalize (c :: cs)[i + 1]'(by simp; omega) = y at hy
    obtain ⟨x0, x1⟩ := rg x (List.mem_of_getElem? hx)
    rw [F.len] at x1
    have g2 := k2.at gb
    rw [n13, x_seq, x_if, x_bol, x_e2, x_e2, v9, x_e2, v13, x_C, x_add, x_ix g2 (by omega) (w := .int y) (by rw [show ((i : Int) + 1).toNat = i + 1 by omega, List.getElem?_map, hy]; rfl)]
    rw [x_call, x_cons, v0, x_cons, v1, x_cons, v2, x_cons, x_e2, v9, v13, x_ix g2 (by omega) (w := .int x) (by rw [show (i : Int).toNat = i by omega, List.getElem?_map, hx]; rfl), x_nil]
    refine (ph30 k us fns f u x body ops h2 F x0 x1).mono fun w h3 ⟨an, ew, gn, _, k3⟩ => ?_
    subst ew
    rw [x_ninI gn, x_bolW]
    by_cases q : y ∈ onw u ops x
    · rw [decide_eq_true q]
      refine ⟨fun z => Bool.noConfusion z, fun _ => ?_⟩
      rw [x_next, x_next]
      refine ⟨_, k2.trans k3, fun j x' y' hj hx' hy' => ?_, rfl⟩
      rcases Nat.lt_or_ge j i with l | l
      · exact st j x' y' l hx' hy'
      · have e : j = i := by omega
        rw [e] at hx' hy'
        obtain rfl := Option.some.inj (hx.symm.trans hx')
        obtain rfl := Option.some.inj (hy.symm.trans hy')
        exact q
    · rw [decide_eq_false q]
      refine ⟨fun _ => ?_, fun z => Bool.noConfusion z⟩
      rw [x_seq, x_ret, x_C]
      exact no h3 (k2.trans k3) fun z => q (z i x y hx hy)
  · rintro e h2 ⟨s13, k2, st, rfl⟩
    refine z h2 s13 k2 fun i x y hx hy => st i x y ?_ hx hy
    have := (List.getElem?_eq_some_iff.mp hy).1
    simpa using this
theorem min_lt {c : Int} {cs : List Int} : minL c cs < 0 ↔ ∃ x ∈ c :: cs, x < 0 := by
  obtain ⟨l1, l2⟩ := minL_le cs c
  constructor
  · intro h
    rcases minL_mem cs c with e | e
    · exact ⟨c, List.mem_cons_self, by omega⟩
    · exact ⟨_, List.mem_cons_of_mem _ e, h⟩
  · rintro ⟨x, hx, h⟩
    rcases List.mem_cons.mp hx with e | e
    · omega
    · have := l2 x e; omega
theorem max_ge {n c : Int} {cs : List Int} : n ≤ maxL c cs ↔ ∃ x ∈ c :: cs, n ≤ x := by
  obtain ⟨l1, l2⟩ := maxL_ge cs c
  constructor
  · intro h
    rcases maxL_mem cs c with e | e
    · exact ⟨c, List.mem_cons_self, by omega⟩
    · exact ⟨_, List.mem_cons_of_mem _ e, h⟩
  · rintro ⟨x, hx, h⟩
    rcases List.mem_cons.mp hx with e | e
    · omega
    · have := l2 x e; omega
theorem step32 {k : Nat} {us fns : List W} {f u : Int} {body : List W} {ops : List Op} {rp a ag r7 : Nat} {S : List Int} {t0 : Nat → Int} {y : W} {h0 h : IH} {s9 s10 s11 s12 s13 s14 s15 : Option W} {R : W → IH → Prop} {N B C : Fw.Env → IH → Prop} (F : Fun fns f body ops) (G : Gx h0 y) (k0 : Keep h0 h)
    (gg : h.get ag = some (.lst ((goals u ops).map .int))) (g7 : h.get r7 = some (.lst (S.map .int))) (sm : Sm_ ops.length S t0) (r0 : h0.n ≤ r7) (r1 : ag ≠ r7)
    (no : ∀ h', Keep h0 h' → (¬ ∃ x : Wl, y = x.w ∧ WlOk h0 u ops x) → R (.bl false) h')
    (z : ∀ h' S' (x : Wl) s9 s10 s11 s12 s13 s14 s15, y = x.w → WlOk h0 u ops x → Keep h0 h' → h'.get ag = some (.lst ((goals u ops).map .int)) → h'.get r7 = some (.lst (S'.map .int)) → Sm_ ops.length S' (fun j => t0 j + if (j : Int) ∈ x.cs then x.n else 0) →
      N [some (.tup [.tup us, .tup fns]), some (.int f), some (.int u), some (.loc rp), some (.loc a), some (.loc ag), some (.int ops.length), some (.loc r7), some y, s9, s10, s11, s12, s13, s14, s15] h') :
    (bd32 (Phi gk tab (k + 1)) [some (.tup [.tup us, .tup fns]), some (.int f), some (.int u), some (.loc rp), some (.loc a), some (.loc ag), some (.int ops.length), some (.loc r7), some y, s9, s10, s11, s12, s13, s14, s15] h).Wp ⟨N, R, B, C⟩ := by
  have bl := F.ok.l8
  unfold bd32
  rw [x_seq, x_if, x_or, x_not, x_tru, Fw.x_e1, v8, x_isT (kn_keep k0 y G.k), x_truB]
  cases qT : isT y with
  | false =>
    refine ⟨fun _ => ⟨fun _ => ?_, fun z => Bool.noConfusion z⟩, fun z => Bool.noConfusion z⟩
    rw [x_seq, x_ret, x_C]
    exact no h k0 fun ⟨x, e, _⟩ => by subst e; cases qT
  | true =>
  refine ⟨fun z => Bool.noConfusion z, fun _ => ?_⟩
  cases y with
  | tup ws =>
    rw [x_or, x_bol, x_e2, x_eA, x_cons, v8, x_nil, x_lenT, x_C, x_neI, x_bolW]
    by_cases q2 : (ws.length : Int) = 2
    case neg =>
      rw [decide_eq_false q2]
      refine ⟨fun _ => ⟨fun _ => ?_, fun z => Bool.noConfusion z⟩, fun z => Bool.noConfusion z⟩
      rw [x_seq, x_ret, x_C]
      exact no h k0 fun ⟨x, e, _⟩ => by unfold Wl.w at e; injection e with e; subst e; exact q2 rfl
    rw [decide_eq_true q2]
    refine ⟨fun z => Bool.noConfusion z, fun _ => ?_⟩
    obtain ⟨p, r, e⟩ := pair_of (x := .tup ws) (decide_eq_true q2)
    injection e with e
    subst e
    obtain ⟨gw0, ir0, nb⟩ := G.p p r rfl
    rw [x_or, x_not, x_tru, Fw.x_e1, x_e2, v8, x_C, x_ixT0, x_isL (gw0.keep k0).k, x_truB]
    cases qL : isL h p with
    | false =>
      refine ⟨fun _ => ⟨fun _ => ?_, fun z => Bool.noConfusion z⟩, fun z => Bool.noConfusion z⟩
      rw [x_seq, x_ret, x_C]
      exact no h k0 fun ⟨x, e, o⟩ => by
        unfold Wl.w at e; injection e with e; injection e with e1 e2
        exact isL_no qL e1 (k0.at o.g)
    | true =>
    refine ⟨fun z => Bool.noConfusion z, fun _ => ?_⟩
    obtain ⟨b, wl, rfl, gb⟩ := isL_yes qL
    have gb0 := back gw0.k k0 gb
    obtain ⟨lw, iw⟩ := gw0.l b wl rfl gb0
    rw [x_bol, x_e2, x_e2, v8, x_C, x_ixT0, x_lst, x_nil]
    refine ⟨by rfl, w_eqL (eqW_nil (Keep.new.at gb) (IH.get_new_self _ _) fun w hw => (iw w hw).keep (k0.trans Keep.new)) (fun c hc => ?_)⟩
    have k1 : Keep h (h.new (.lst [])) := Keep.new
    have gg1 := k1.at gg; have g71 := k1.at g7
    generalize h.new (.lst []) = h1 at k1 gg1 g71 ⊢
    have k01 := k0.trans k1
    rw [x_bolW]
    cases c with
    | true =>
      refine ⟨fun _ => ?_, fun z => Bool.noConfusion z⟩
      rw [x_seq, x_ret, x_C]
      have e0 := hc.mp rfl
      exact no h1 k01 fun ⟨x, e, o⟩ => by
        unfold Wl.w at e; injection e with e; injection e with e1 e2; injection e1 with e1
        subst e1
        have g' := o.g
        rw [gb0, e0] at g'
        have e := Cell.lst.inj (Option.some.inj g')
        have hd := o.k.hd
        cases hx : x.cs with
        | nil => rw [hx] at hd; cases hd
        | cons _ _ => rw [hx] at e; cases e
    | false =>
    refine ⟨fun z => Bool.noConfusion z, fun _ => ?_⟩
    have ne : wl ≠ [] := fun e => by have := hc.mpr e; cases this
    rw [x_next, x_seq, x_asg, v8, x_tp]
    refine ⟨rfl, ?_⟩
    rw [x_gs1, n9, x_gs1, n10, x_gs0]
    dsimp only
    rw [x_seq, x_asg]
    refine lc_lst ?_
    rw [x_e2, v9, x_lst, x_cons, v10, x_nil]
    refine ⟨by rfl, ?_⟩
    rw [x_catL (Keep.new.at (k1.at gb)) (IH.get_new_self _ _)]
    refine ⟨lenOk_iff.mpr (by simp; omega), ?_⟩
    have k2 : Keep h1 ((h1.new (.lst [r])).new (.lst (wl ++ [r]))) := Keep.new.trans Keep.new
    have g2 : ((h1.new (.lst [r])).new (.lst (wl ++ [r]))).get (h1.new (.lst [r])).n = some (.lst (wl ++ [r])) := IH.get_new_self _ _
    generalize (h1.new (.lst [r])).n = r2 at g2 ⊢
    generalize (h1.new (.lst [r])).new (.lst (wl ++ [r])) = h2 at k2 g2 ⊢
    have k02 := k01.trans k2
    have gg2 := k2.at gg1; have g72 := k2.at g71
    have iw2 : ∀ w ∈ wl ++ [r], It h0 w := fun w hw => (List.mem_append.mp hw).elim (iw w) fun hw => by rw [List.mem_singleton.mp hw]; exact ir0
    refine ⟨r2, _, rfl, g2, fun i us_ h3 => h3 = h2 ∧ us_ = ((wl ++ [r]).take i).filter fun w => isB w || !isIB w, ⟨rfl, rfl⟩, ?_, ?_⟩
    · rintro i us_ h3 w ⟨rfl, rfl⟩ hw
      refine ⟨g2, ?_⟩
      have kw := kn_keep k02 w (iw2 w (List.mem_of_getElem? hw)).kn
      show (gNm 11 w [some (.tup [.tup us, .tup fns]), some (.int f), some (.int u), some (.loc rp), some (.loc a), some (.loc ag), some (.int ops.length), some (.loc r7), some (.tup [.loc b, r]), some (.loc b), some r, none, s12, s13, s14, s15] h3).Wp _
      rw [n11, x_or, x_tru, Fw.x_e1, v11, x_isB kw, x_truB]
      have key : ∀ c : Bool, (isB w || !isIB w) = c → if c = true then (eVar 11 [some (.tup [.tup us, .tup fns]), some (.int f), some (.int u), some (.loc rp), some (.loc a), some (.loc ag), some (.int ops.length), some (.loc r7), some (.tup [.loc b, r]), some (.loc b), some r, some w, s12, s13, s14, s15] h3).Wp (fun y h5 => (fun (i : Nat) (us_ : List W) (h3 : IH) => h3 = h3 ∧ us_ = us_) (i + 1) [] h5 ∧ h5 = h3 ∧ (((wl ++ [r]).take i).filter fun w => isB w || !isIB w) ++ [y] = ((wl ++ [r]).take (i + 1)).filter fun w => isB w || !isIB w) else (((wl ++ [r]).take i).filter fun w => isB w || !isIB w) = ((wl ++ [r]).take (i + 1)).filter fun w => isB w || !isIB w := fun c hc => by
        cases c with
        | true => rw [if_pos rfl, v11]; exact ⟨⟨rfl, rfl⟩, rfl, by rw [filter_take _ hw, hc, if_pos rfl]⟩
        | false => rw [if_neg (by decide), filter_take _ hw, hc, if_neg (by decide)]
      refine ⟨fun q => ?_, fun q => ?_⟩
      · rw [if_pos rfl, v11]
        have := key true (by rw [q]; rfl)
        rw [if_pos rfl, v11] at this
        exact ⟨rfl, this.2.2⟩
      · rw [x_not, x_tru, Fw.x_e1, v11, x_isIB kw, x_truB]
        have := key (!isIB w) (by rw [q]; rfl)
        cases q3 : isIB w with
        | true => rw [q3] at this; rw [if_neg (by decide)] at this ⊢; exact ⟨rfl, this⟩
        | false => rw [q3] at this; rw [if_pos (by decide), v11] at this ⊢; exact ⟨rfl, this.2.2⟩
    rintro us_ h3 ⟨rfl, rfl⟩
    rw [List.take_length]
    refine ⟨g2, Nat.le_trans (List.length_filter_le _ _) (by simp; omega), ?_⟩
    have k4 : Keep h3 (h3.new (.lst ((wl ++ [r]).filter fun w => isB w || !isIB w))) := Keep.new
    have g4 : (h3.new (.lst ((wl ++ [r]).filter fun w => isB w || !isIB w))).get h3.n = some (.lst ((wl ++ [r]).filter fun w => isB w || !isIB w)) := IH.get_new_self _ _
    generalize h3.n = r4 at g4 ⊢
    generalize h3.new (.lst ((wl ++ [r]).filter fun w => isB w || !isIB w)) = h4 at k4 g4 ⊢
    have gg4 := k4.at gg2; have g74 := k4.at g72
    have k04 := k02.trans k4
    rw [n12]
    dsimp only
    rw [x_seq, x_if, x_or, x_bol, x_e2, v12, x_lst, x_nil]
    refine ⟨by rfl, w_neL (eqW_nil (Keep.new.at g4) (IH.get_new_self _ _) fun w hw => (iw2 w (List.mem_filter.mp hw).1).keep (k04.trans Keep.new)) (fun c hc => ?_)⟩
    have k5 : Keep h4 (h4.new (.lst [])) := Keep.new
    have gg5 := k5.at gg4; have g75 := k5.at g74
    have k05 := k04.trans k5
    generalize h4.new (.lst []) = h5 at k5 gg5 g75 k05 ⊢
    rw [x_bolW]
    cases c with
    | false =>
      refine ⟨fun _ => ⟨fun _ => ?_, fun z => Bool.noConfusion z⟩, fun z => Bool.noConfusion z⟩
      rw [x_seq, x_ret, x_C]
      exact no h5 k05 fun ⟨x, e, o⟩ => by
        unfold Wl.w at e; injection e with e; injection e with e1 e2; injection e1 with e1; injection e2 with e2
        subst e1; subst e2
        have := o.g
        rw [gb0] at this
        have ew := Cell.lst.inj (Option.some.inj this)
        subst ew
        have : (x.cs.map W.int ++ [W.int x.n]).filter (fun w => isB w || !isIB w) = [] := by
          rw [List.filter_eq_nil_iff]
          intro w hw
          rcases List.mem_append.mp hw with hw | hw
          · obtain ⟨c, _, rfl⟩ := List.mem_map.mp hw; exact fun z => Bool.noConfusion (show false = true from z)
          · rw [List.mem_singleton.mp hw]; exact fun z => Bool.noConfusion (show false = true from z)
        have := hc.mpr this
        cases this
    | true =>
    refine ⟨fun z => Bool.noConfusion z, fun _ => ?_⟩
    have ev := hc.mp rfl
    obtain ⟨all, ea⟩ : ∃ cs : List Int, wl ++ [r] = cs.map .int := ints_map fun w hw => by
      have := List.filter_eq_nil_iff.mp ev w hw
      cases w with
      | int i => exact ⟨i, rfl⟩
      | _ => exact absurd rfl this
    obtain ⟨cs, rfl⟩ : ∃ cs : List Int, wl = cs.map .int := ints_map fun w hw => by
      have : w ∈ all.map W.int := by rw [← ea]; exact List.mem_append_left _ hw
      obtain ⟨c, _, e⟩ := List.mem_map.mp this
      exact ⟨c, e.symm⟩
    obtain ⟨m, rfl⟩ : ∃ m : Int, r = .int m := by
      have : r ∈ all.map W.int := by rw [← ea]; exact List.mem_append_right _ (List.mem_singleton.mpr rfl)
      obtain ⟨c, _, e⟩ := List.mem_map.mp this
      exact ⟨c, e.symm⟩
    have no2 : ∀ h', Keep h0 h' → ¬ (Wk u ops cs ∧ 1 ≤ m) → R (.bl false) h' := fun h' kk nw => no h' kk fun ⟨x, e, o⟩ => nw (by
      unfold Wl.w at e; injection e with e; injection e with e1 e2; injection e1 with e1; injection e2 with e2; injection e2 with e2
      subst e1; subst e2
      have := o.g
      rw [gb0] at this
      rw [ints_inj (Cell.lst.inj (Option.some.inj this))]
      exact ⟨o.k, o.n⟩)
    rw [x_bol, x_e2, v10, x_C, x_lt, x_bolW]
    by_cases qm : m < 1
    case pos =>
      rw [decide_eq_true qm]
      refine ⟨fun _ => ?_, fun z => Bool.noConfusion z⟩
      rw [x_seq, x_ret, x_C]
      exact no2 h5 k05 fun z => by omega
    rw [decide_eq_false qm]
    refine ⟨fun z => Bool.noConfusion z, fun _ => ?_⟩
    cases cs with
    | nil => exact absurd rfl ne
    | cons c cs =>
    have g5 := k05.at gb0
    rw [List.length_map, List.length_cons] at lw
    rw [x_next, x_seq, x_if, x_or, x_bol, x_e2, x_e2, v9, x_C, x_ix g5 (by decide) (w := .int c) rfl, x_C, x_neI, x_bolW]
    by_cases c0 : c = 0
    case neg =>
      rw [decide_eq_false c0]
      refine ⟨fun _ => ⟨fun _ => ?_, fun z => Bool.noConfusion z⟩, fun z => Bool.noConfusion z⟩
      rw [x_seq, x_ret, x_C]
      exact no2 h5 k05 fun z => c0 (Option.some.inj z.1.hd)
    rw [decide_eq_true c0]
    refine ⟨fun z => Bool.noConfusion z, fun _ => ?_⟩
    obtain ⟨gl, hgl⟩ : ∃ gl, (c :: cs).getLast? = some gl := ⟨_, List.getLast?_eq_some_getLast (by simp)⟩
    rw [x_or, x_bol, x_e2, x_e2, v9, Fw.x_e1, x_C, x_neg, x_last g5 (last_at hgl), v5, x_ninI gg5, x_bolW]
    by_cases qg : gl ∈ goals u ops
    case neg =>
      rw [decide_eq_false qg]
      refine ⟨fun _ => ⟨fun _ => ?_, fun z => Bool.noConfusion z⟩, fun z => Bool.noConfusion z⟩
      rw [x_seq, x_ret, x_C]
      exact no2 h5 k05 fun z => by obtain ⟨g', e', y⟩ := z.1.last; rw [hgl] at e'; cases e'; exact qg y
    rw [decide_eq_true qg]
    refine ⟨fun z => Bool.noConfusion z, fun _ => ?_⟩
    rw [x_or, x_bol, x_e2, x_eA, x_cons, v9, x_nil, x_min1 g5, x_C, x_lt, x_bolW]
    by_cases qn : minL c cs < 0
    case pos =>
      rw [decide_eq_true qn]
      refine ⟨fun _ => ⟨fun _ => ?_, fun z => Bool.noConfusion z⟩, fun z => Bool.noConfusion z⟩
      rw [x_seq, x_ret, x_C]
      exact no2 h5 k05 fun z => by obtain ⟨x, hx, l⟩ := min_lt.mp qn; have := z.1.rg x hx; omega
    rw [decide_eq_false qn]
    refine ⟨fun z => Bool.noConfusion z, fun _ => ?_⟩
    rw [x_bol, x_e2, x_eA, x_cons, v9, x_nil, x_max1 g5, v6, x_ge, x_bolW]
    by_cases qx : (ops.length : Int) ≤ maxL c cs
    case pos =>
      rw [decide_eq_true qx]
      refine ⟨fun _ => ?_, fun z => Bool.noConfusion z⟩
      rw [x_seq, x_ret, x_C]
      exact no2 h5 k05 fun z => by obtain ⟨x, hx, l⟩ := max_ge.mp qx; have := z.1.rg x hx; omega
    rw [decide_eq_false qx]
    refine ⟨fun z => Bool.noConfusion z, fun _ => ?_⟩
    have rg : ∀ x ∈ c :: cs, 0 ≤ x ∧ x < ops.length := fun x hx =>
      ⟨by rcases Int.lt_or_le x 0 with l | l
          · exact absurd (min_lt.mpr ⟨x, hx, l⟩) qn
          · exact l, by rcases Int.lt_or_le x ops.length with l | l
                        · exact l
                        · exact absurd (max_ge.mpr ⟨x, hx, l⟩) qx⟩
    rw [x_next, x_seq]
    refine steps_ok (k := k) F g5 (by omega) rg (fun h' kk nw => no2 h' (k05.trans kk) fun z => nw z.1.st) fun h6 s13 k6 st => ?_
    rw [x_seq]
    have wk : Wk u ops (c :: cs) := ⟨by rw [c0]; rfl, ⟨gl, hgl, qg⟩, rg, st⟩
    have k06 := k05.trans k6
    refine sums_ok (n := ops.length) (h0 := h0) (k06.at gb0) (by simp; omega) (by exact rg) (k6.at g75) sm k06 r0 fun h7 S' s14 k7 ot g77 sm7 => ?_
    rw [x_next]
    exact z h7 S' ⟨b, c :: cs, m⟩ _ _ _ _ _ _ _ rfl ⟨gb0, wk, (show 1 ≤ m by omega)⟩ k7 (ot ag _ r1 (k6.at gg5)) g77 sm7
  | _ => cases qT
end K25

set_option linter.all false
set_option linter.unusedSimpArgs false
set_option maxRecDepth 100000
set_option maxHeartbeats 1000000
namespace K25
open PySem Fw
/-! ### the law's own check of walks -/
theorem x_mulR {a : Nat} {n : Nat} {h : IH} {P : W → IH → Prop} (g : h.get a = some (.lst [.int 0])) (l : n ≤ 1000) : (oMul (.loc a) (.int n) h).Wp P = P (.loc h.n) (h.new (.lst ((List.replicate n (0 : Int)).map .int))) := by
  unfold oMul
  dsimp only
  rw [g]
  dsimp only
  rw [need_wp]
  have e : (decide ((0 : Int) ≤ (n : Int)) && decide ((n : Int) < 1000000) && lenOk ([W.int 0].length * (n : Int).toNat)) = true := by
    rw [lenOk_iff.mpr (by show 1 * (n : Int).toNat ≤ _; omega), decide_eq_true (by omega), decide_eq_true (by omega)]; rfl
  rw [e]
  have e2 : (List.replicate (n : Int).toNat [W.int 0]).flatten = (List.replicate n (0 : Int)).map .int := by
    rw [Int.toNat_natCast, List.map_replicate]
    induction n with
    | zero => rfl
    | succ n ih => rw [List.replicate_succ, List.replicate_succ, List.flatten_cons, ih (by omega)]; · rfl
                   · rw [lenOk_iff.mpr (by show 1 * (n : Int).toNat ≤ _; omega), decide_eq_true (by omega), decide_eq_true (by omega)]; rfl
  rw [e2]
  exact propext ⟨fun z => z.2, fun z => ⟨rfl, z⟩⟩
theorem tot_snoc {wl : List Wl} {x : Wl} {i : Int} : tot (wl ++ [x]) i = tot wl i + if i ∈ x.cs then x.n else 0 := by
  unfold tot
  rw [List.filter_append, List.map_append, List.sum_append]
  congr 1
  by_cases q : i ∈ x.cs
  · rw [if_pos q]; simp [q]
  · rw [if_neg q]; simp [q]
def S32 (Φ : FT) : Prop := ∀ (us fns : List W) (f u : Int) (body : List W) (ops : List Op) (rp : Nat) (ps : List Int) (w : W) (h : IH), Fun fns f body ops → h.get rp = some (.lst (ps.map .int)) → ps.length = body.length → Gv h w →
  (Φ 32 [.tup [.tup us, .tup fns], .int f, .int u, .loc rp, w] h).Wp fun x h' => ∃ b : Bool, x = .bl b ∧ (b = true ↔ Wks h u ops ps w) ∧ Keep h h'
theorem ph32 (k : Nat) : S32 (Phi gk tab (k + 2)) := fun us fns f u body ops rp ps w h F gp pl G => by
  have bl := F.ok.l8
  have fl := F.len
  rw [phi32, x_callB (by rfl)]
  show (m32 _ [some (.tup [.tup us, .tup fns]), some (.int f), some (.int u), some (.loc rp), some w, none, none, none, none, none, none, none, none, none, none, none] h).Wp _
  unfold m32
  rw [x_seq, x_par2, x_call, x_cons, v0, x_cons, v1, x_cons, v2, x_nil]
  refine (ph29 k us fns f u body ops h F).mono fun x h1 ⟨ag, ex, gg, a0, k1⟩ => ?_
  subst ex
  have gp1 := k1.at gp
  have no : ∀ h', Keep h h' → ¬ Wks h u ops ps w → ∃ c : Bool, W.bl false = .bl c ∧ (c = true ↔ Wks h u ops ps w) ∧ Keep h h' := fun h' kk z => ⟨false, rfl, ⟨fun z => Bool.noConfusion z, fun y => absurd y z⟩, kk⟩
  rw [x_eA, x_cons, v3, x_nil, x_lenL gp1, n5, n6, List.length_map, pl, ← fl]
  try dsimp only
  rw [x_seq, x_if, x_not, x_tru, Fw.x_e1, v4, x_isL (G.keep k1).k, x_truB]
  cases q : isL h1 w with
  | false =>
    refine ⟨fun _ => ?_, fun z => Bool.noConfusion z⟩
    rw [x_seq, x_ret, x_C]
    exact no h1 k1 fun ⟨a, wl, e, g, _⟩ => isL_no q e (k1.at g)
  | true =>
  refine ⟨fun z => Bool.noConfusion z, fun _ => ?_⟩
  obtain ⟨a, xs, rfl, g1⟩ := isL_yes q
  have g := back G.k k1 g1
  obtain ⟨lw, iw⟩ := G.l a xs rfl g
  rw [x_next, x_seq, x_asg, x_e2, x_lst, x_cons, x_C, x_nil]
  refine ⟨by rfl, ?_⟩
  rw [v6, x_mulR (IH.get_new_self _ _) (by omega), n7]
  dsimp only
  have k2 : Keep h1 ((h1.new (.lst [.int 0])).new (.lst ((List.replicate ops.length (0 : Int)).map .int))) := Keep.new.trans Keep.new
  have g7 : ((h1.new (.lst [.int 0])).new (.lst ((List.replicate ops.length (0 : Int)).map .int))).get (h1.new (.lst [.int 0])).n = some (.lst ((List.replicate ops.length (0 : Int)).map .int)) := IH.get_new_self _ _
  have nn : (h1.new (.lst [.int 0])).n = h1.n + 1 := rfl
  have gl := IH.get_lt gg
  have gg2 := k2.at gg
  generalize (h1.new (.lst [.int 0])).n = r7 at g7 nn ⊢
  generalize (h1.new (.lst [.int 0])).new (.lst ((List.replicate ops.length (0 : Int)).map .int)) = h2 at k2 g7 gg2 ⊢
  have k2 := k1.trans k2
  have k10 := k1.1
  rw [x_seq]
  refine for_lst ?_
  rw [v4]
  refine ⟨a, xs, rfl, k2.at g, fun i e h3 => ∃ (S : List Int) (wl : List Wl) (s8 s9 s10 s11 s12 s13 s14 s15 : Option W), Keep h h3 ∧ h3.get ag = some (.lst ((goals u ops).map .int)) ∧ h3.get r7 = some (.lst (S.map .int)) ∧ Sm_ ops.length S (fun j => tot wl j) ∧ xs.take i = wl.map Wl.w ∧ (∀ x ∈ wl, WlOk h u ops x) ∧
    e = [some (.tup [.tup us, .tup fns]), some (.int f), some (.int u), some (.loc rp), some (.loc a), some (.loc ag), some (.int ops.length), some (.loc r7), s8, s9, s10, s11, s12, s13, s14, s15],
    ⟨_, [], none, none, none, none, none, none, none, none, k2, gg2, g7, ⟨List.length_replicate, fun j hj => by rw [List.getElem?_replicate, if_pos hj]; rfl⟩, rfl, fun x hx => (by cases hx), rfl⟩, ?_, ?_⟩
  · rintro i e h3 y ⟨S, wl, s8, s9, s10, s11, s12, s13, s14, s15, k3, gg3, g73, sm, et, ok, rfl⟩ hy
    refine ⟨k3.at g, ?_⟩
    have ym := List.mem_of_getElem? hy
    rw [n8]
    refine step32 (k := k) F (iw y ym) k3 gg3 g73 sm (by omega) (by omega) (fun h' kk nx => no h' kk fun ⟨a', wl', e, g', z, _⟩ => ?_) fun h' S' x s9 s10 s11 s12 s13 s14 s15 ey okx kk gg' g7' sm' => ?_
    · cases e
      rw [g] at g'
      have := Cell.lst.inj (Option.some.inj g')
      rw [this] at ym
      obtain ⟨x, hx, ex⟩ := List.mem_map.mp ym
      exact nx ⟨x, ex.symm, z x hx⟩
    · refine ⟨S', wl ++ [x], _, _, _, _, _, _, _, _, kk, gg', g7', sm'.congr fun j _ => tot_snoc.symm, ?_, fun z hz => ?_, rfl⟩
      · rw [List.map_append, ← et, List.take_add_one, hy, ey]; rfl
      · rcases List.mem_append.mp hz with hz | hz
        · exact ok z hz
        · rw [List.mem_singleton.mp hz]; exact okx
  rintro e h3 ⟨S, wl, s8, s9, s10, s11, s12, s13, s14, s15, k3, gg3, g73, sm, et, ok, rfl⟩
  rw [List.take_length] at et
  subst et
  refine ⟨k3.at g, ?_⟩
  rw [x_seq, x_ret, x_e2, x_C]
  refine lc_zip ?_
  rw [v7, v3]
  refine ⟨r7, rp, _, _, rfl, rfl, g73, k3.at gp, fun i us_ h4 => h4 = h3 ∧ us_ = (((S.zip ps).take i).map fun x => decide (x.1 ≤ x.2)).map .bl, ⟨rfl, rfl⟩, ?_, ?_⟩
  · rintro i us_ h4 y y' ⟨rfl, rfl⟩ hy hy'
    obtain ⟨p, hp, rfl⟩ := ints_at hy
    obtain ⟨p', hp', rfl⟩ := ints_at hy'
    refine ⟨g73, k3.at gp, ?_⟩
    show (gTp [gNm 11, gNm 15] (.tup [.int p, .int p']) [some (.tup [.tup us, .tup fns]), some (.int f), some (.int u), some (.loc rp), some (.loc a), some (.loc ag), some (.int ops.length), some (.loc r7), s8, s9, s10, none, s12, s13, s14, none] h4).Wp _
    rw [x_tp]
    refine ⟨rfl, ?_⟩
    have hz : (S.zip ps)[i]? = some (p, p') := List.getElem?_zip_eq_some.mpr ⟨hp, hp'⟩
    rw [x_gs1, n11, x_gs1, n15, x_gs0, x_e2, v11, v15, x_le]
    exact ⟨rfl, by rw [map_take _ hz, List.map_append]; rfl⟩
  · rintro us_ h4 ⟨rfl, rfl⟩
    have zl : (S.zip ps).length = min (S.map W.int).length (ps.map W.int).length := by rw [List.length_zip, List.length_map, List.length_map]
    rw [← zl, List.take_length]
    refine ⟨g73, k3.at gp, by rw [List.length_map, List.length_map, List.length_zip, sm.len]; omega, ?_⟩
    rw [x_ninB (IH.get_new_self _ _), cont_all]
    have sl := sm.len
    refine ⟨_, rfl, ⟨fun q => ⟨a, wl, rfl, g, ok, fun i p hp => ?_⟩, fun ⟨a', wl', e, g', z, y⟩ => ?_⟩, k3.trans Keep.new⟩
    · rw [List.all_map, List.all_eq_true] at q
      have il := (List.getElem?_eq_some_iff.mp hp).1
      have hs := sm.at_ i (by omega)
      have := q (tot wl i, p) (List.mem_of_getElem? (List.getElem?_zip_eq_some.mpr ⟨hs, hp⟩))
      exact of_decide_eq_true this
    · cases e
      rw [g] at g'
      have e := wl_inj (Cell.lst.inj (Option.some.inj g')) ok z
      subst e
      rw [List.all_map, List.all_eq_true]
      rintro ⟨s, p⟩ hm
      obtain ⟨i, il, hi⟩ := List.mem_iff_getElem.mp hm
      have hz : (S.zip ps)[i]? = some (s, p) := by rw [List.getElem?_eq_getElem il, hi]
      obtain ⟨h1, h2⟩ := List.getElem?_zip_eq_some.mp hz
      have := sm.at_ i (by have := (List.getElem?_eq_some_iff.mp h1).1; omega)
      rw [h1] at this
      have := Option.some.inj this
      have := y i p h2
      show decide (s ≤ p) = true
      exact decide_eq_true (by omega)
end K25

set_option linter.all false
set_option linter.unusedSimpArgs false
set_option maxRecDepth 100000
set_option maxHeartbeats 1000000
namespace K25
open PySem Fw
/-! ### values near a list of places -/
section
variable {px : Nat → Bool} {h h' : IH} {n m : Nat} {w : W} {ws : List W} {a : Nat}
theorem V.kns_at (v : V px h n m (.loc a)) (g : h.get a = some (.lst ws)) : kns h ws = true := by
  obtain ⟨d, v⟩ := v
  have e : (match px a with
      | true => none
      | false => (match h.get a with
        | some (.lst ws) => (match mapO (toV px 59 h) ws with
          | some ds => some (PyData.list ds)
          | none => none)
        | some (.dk []) => some (PyData.dict [])
        | _ => none)) = some d := v.e
  cases b : px a with
  | true => rw [b] at e; cases e
  | false =>
    rw [b] at e
    dsimp only at e
    rw [g] at e
    dsimp only at e
    cases q : mapO (toV px 59 h) ws with
    | none => rw [q] at e; cases e
    | some ds => exact kns_V 59 ws ds q
theorem V_loc (v : V px h n m (.loc a)) : px a = false ∧ ∃ c, h.get a = some c := by
  obtain ⟨d, v⟩ := v
  have e : (match px a with
      | true => none
      | false => (match h.get a with
        | some (.lst ws) => (match mapO (toV px 59 h) ws with
          | some ds => some (PyData.list ds)
          | none => none)
        | some (.dk []) => some (PyData.dict [])
        | _ => none)) = some d := v.e
  cases b : px a with
  | true => rw [b] at e; cases e
  | false =>
    rw [b] at e
    dsimp only at e
    cases g : h.get a with
    | none => rw [g] at e; cases e
    | some c => exact ⟨rfl, c, rfl⟩
theorem Vs.of {n m : Nat} : ∀ {ws : List W}, (∀ w ∈ ws, V px h n m w) → Vs px h (ws.length * (n + 1)) m ws
  | [], _ => Vs.nil.mono (Nat.zero_le _) (Nat.le_refl _)
  | w :: ws, H => (Vs.cons (H w List.mem_cons_self) (Vs.of fun x hx => H x (List.mem_cons_of_mem _ hx))).mono (by rw [List.length_cons, Nat.succ_mul]; omega) (Nat.le_refl _)
theorem small_i {i : Int} (h0 : -1000000000 ≤ i) (h1 : i ≤ 1000000000) : i.natAbs < 10 ^ 12 := by
  have : i.natAbs ≤ 1000000000 := by omega
  exact Nat.lt_of_le_of_lt this (by decide)
theorem Vi {i : Int} (q : i.natAbs < 10 ^ 12) : V px h 10 2 (.int i) := (V.int q).mono (by decide) (by decide)
/-- shown, and if a list not long -/
structure Pv (px : Nat → Bool) (h : IH) (w : W) : Prop where
  v : V px h 700 4 w
  l : ∀ a ws, w = .loc a → h.get a = some (.lst ws) → ws.length ≤ 60
theorem Pv.fr (P : Pv px h w) (k : FrX px h h') : Pv px h' w := ⟨P.v.fr k, fun a ws e g => by
  subst e
  obtain ⟨pa, c, g0⟩ := V_loc P.v
  exact P.l a ws rfl (by rw [← k.2 a (IH.get_lt g0) pa]; exact g)⟩
theorem Pv.kl (P : Pv px h w) : Kl h w := ⟨P.v.kn, fun a ws e g => by subst e; exact ⟨P.v.kns_at g, P.l a ws rfl g⟩⟩
theorem Pv.ints {cs : List Int} (g : h.get a = some (.lst (cs.map .int))) (pa : px a = false) (s : ∀ c ∈ cs, -1000 ≤ c ∧ c ≤ 1000) (l : cs.length ≤ 60) : Pv px h (.loc a) := by
  refine ⟨(Vs.lst (m := 0) (Vs.of (n := 0) (m := 0) fun w hw => ?_) (by decide) g pa).mono (by rw [List.length_map]; omega) (by decide), fun a' ws e g' => ?_⟩
  · obtain ⟨c, hc, rfl⟩ := List.mem_map.mp hw
    have := s c hc
    exact V.int (small_i (by omega) (by omega))
  · cases e
    rw [g] at g'
    rw [← Cell.lst.inj (Option.some.inj g'), List.length_map]; exact l
theorem Pv.mix (g : h.get a = some (.lst ws)) (pa : px a = false) (s : ∀ w ∈ ws, V px h 10 2 w) (l : ws.length ≤ 60) : Pv px h (.loc a) := by
  refine ⟨(Vs.lst (m := 2) (Vs.of s) (by decide) g pa).mono (by omega) (by decide), fun a' us e g' => ?_⟩
  cases e
  rw [g] at g'
  rw [← Cell.lst.inj (Option.some.inj g')]; exact l
theorem Pv.flat {n m : Nat} (v : V px h n m w) (q : ∀ a, w ≠ .loc a) (hn : n ≤ 700 := by decide) (hm : m ≤ 4 := by decide) : Pv px h w := ⟨v.mono hn hm, fun a ws e _ => absurd e (q a)⟩
theorem Pv.tints {cs : List Int} (s : ∀ c ∈ cs, -1000 ≤ c ∧ c ≤ 1000) (l : cs.length ≤ 60) : Pv px h (.tup (cs.map .int)) := by
  refine ⟨(Vs.tup (m := 0) (Vs.of (n := 0) (m := 0) fun w hw => ?_) (by decide)).mono (by rw [List.length_map]; omega) (by decide), fun a' ws e _ => (by cases e)⟩
  obtain ⟨c, hc, rfl⟩ := List.mem_map.mp hw
  have := s c hc
  exact V.int (small_i (by omega) (by omega))
theorem Pv.dct (g : h.get a = some (.dk [])) (pa : px a = false) : Pv px h (.loc a) := ⟨(V.dct g pa).mono (by decide) (by decide), fun a' ws e g' => by cases e; rw [g] at g'; cases g'⟩
def AllP (px : Nat → Bool) (h : IH) (ws : List W) : Prop := ∀ w ∈ ws, Pv px h w
theorem AllP.fr (A : AllP px h ws) (k : FrX px h h') : AllP px h' ws := fun w hw => (A w hw).fr k
theorem AllP.app {us : List W} (A : AllP px h ws) (B : AllP px h us) : AllP px h (ws ++ us) := fun w hw => (List.mem_append.mp hw).elim (A w) (B w)
theorem AllP.nil : AllP px h [] := fun w hw => by cases hw
theorem AllP.cons (v : Pv px h w) (A : AllP px h ws) : AllP px h (w :: ws) := fun x hx => by
  rcases List.mem_cons.mp hx with e | hx
  · exact e ▸ v
  · exact A x hx
def AllI (px : Nat → Bool) (h : IH) (ws : List W) : Prop := ∀ w ∈ ws, V px h 10 2 w
theorem AllI.fr (A : AllI px h ws) (k : FrX px h h') : AllI px h' ws := fun w hw => (A w hw).fr k
theorem AllI.app {us : List W} (A : AllI px h ws) (B : AllI px h us) : AllI px h (ws ++ us) := fun w hw => (List.mem_append.mp hw).elim (A w) (B w)
theorem AllI.nil : AllI px h [] := fun w hw => by cases hw
theorem AllI.cons {n m : Nat} (v : V px h n m w) (A : AllI px h ws) (hn : n ≤ 10 := by decide) (hm : m ≤ 2 := by decide) : AllI px h (w :: ws) := fun x hx => by
  rcases List.mem_cons.mp hx with e | hx
  · exact e ▸ v.mono hn hm
  · exact A x hx
theorem AllI.ints {cs : List Int} (s : ∀ c ∈ cs, -1000 ≤ c ∧ c ≤ 1000) : AllI px h (cs.map .int) := fun w hw => by
  obtain ⟨c, hc, rfl⟩ := List.mem_map.mp hw
  have := s c hc
  exact Vi (small_i (by omega) (by omega))
theorem x_revL {r : Nat} {P : W → IH → Prop} (g : h.get r = some (.lst ws)) : (oRev (.loc r) h).Wp P = P (.loc h.n) (h.new (.lst ws.reverse)) := by
  unfold oRev; dsimp only; rw [list_at g]; rfl
theorem x_dic0 {e : Fw.Env} {P : W → IH → Prop} : (eDic [] e h).Wp P = P (.loc h.n) (h.new (.dk [])) := rfl
theorem x_mulN {r k : Nat} {P : W → IH → Prop} (g : h.get r = some (.lst ws)) (l : ws.length ≤ 1000) (kl : k ≤ 100) : (oMul (.loc r) (.int k) h).Wp P = P (.loc h.n) (h.new (.lst (List.replicate k ws).flatten)) := by
  unfold oMul
  dsimp only
  rw [g]
  dsimp only
  rw [need_wp, Int.toNat_natCast]
  have e : (decide ((0 : Int) ≤ (k : Int)) && decide ((k : Int) < 1000000) && lenOk (ws.length * k)) = true := by
    have : ws.length * k ≤ 1000 * 100 := Nat.mul_le_mul l kl
    rw [lenOk_iff.mpr (by omega), decide_eq_true (by omega), decide_eq_true (by omega)]; rfl
  rw [e]
  exact propext ⟨fun z => z.2, fun z => ⟨rfl, z⟩⟩
theorem mem_rep {k : Nat} {w x : W} : x ∈ (List.replicate k [w]).flatten → x = w := fun hx => by
  obtain ⟨l, hl, hx⟩ := List.mem_flatten.mp hx
  rw [(List.mem_replicate.mp hl).2] at hx
  exact List.mem_singleton.mp hx
theorem len_rep {k : Nat} {w : W} : (List.replicate k [w]).flatten.length = k := by
  induction k with
  | zero => rfl
  | succ k ih => rw [List.replicate_succ, List.flatten_cons, List.length_append, ih, show [w].length = 1 from rfl]; omega
theorem cut_len {lo hi : Option Int} : (cutW ws lo hi).length ≤ ws.length := by
  unfold cutW
  rw [List.length_take, List.length_drop]; omega
theorem cut_ints {cs : List Int} {lo hi : Option Int} : ∃ ds : List Int, cutW (cs.map .int) lo hi = ds.map .int ∧ ds.length ≤ cs.length ∧ ∀ d ∈ ds, d ∈ cs := by
  obtain ⟨ds, e⟩ : ∃ ds : List Int, cutW (cs.map .int) lo hi = ds.map .int := ints_map fun x hx => by
    obtain ⟨c, _, e⟩ := List.mem_map.mp (cut_mem hx)
    exact ⟨c, e.symm⟩
  refine ⟨ds, e, ?_, fun d hd => ?_⟩
  · have := cut_len (ws := cs.map W.int) (lo := lo) (hi := hi)
    rw [e, List.length_map, List.length_map] at this; exact this
  · have : W.int d ∈ cutW (cs.map .int) lo hi := by rw [e]; exact List.mem_map.mpr ⟨d, hd, rfl⟩
    obtain ⟨c, hc, e⟩ := List.mem_map.mp (cut_mem this)
    cases e; exact hc
end
section
variable {x f : EE} {t : ET} {g : EG} {vs : List Nat} {e : Fw.Env} {h : IH} {P : W → IH → Prop}
theorem lc_rngT (w : (x e h).Wp fun v h1 => ∃ n : Nat, v = .int n ∧ n < 1000000 ∧ ∃ I : Nat → List W → IH → Prop, I 0 [] h1 ∧
    (∀ i xs h2, i < n → I i xs h2 → (g (.int i) (wipeW e vs) h2).Wp fun e h3 => (t e h3).Wp fun c h4 => if c = true then (f e h4).Wp fun y h5 => I (i + 1) (xs ++ [y]) h5 else I (i + 1) xs h4) ∧ ∀ xs h2, I n xs h2 → xs.length ≤ 16777216 ∧ P (.loc h2.n) (h2.new (.lst xs))) : (eLc (iA kRng1 (aCons x aNil)) g t f vs e h).Wp P := by
  refine W_lc (Rs.Wp.bind ?_)
  rw [x_cons]
  refine w.mono fun v h1 ⟨n, ev, hn, I, i0, st, fn⟩ => ?_
  subst ev
  rw [x_nil]
  unfold kRng1
  rw [need_wp]
  refine ⟨small_nat hn, I, i0, fun i xs h2 hI hi => ⟨_, rng_nth hi, ?_⟩, fun xs h2 hI => ⟨rng_fin, fn xs h2 hI⟩⟩
  rw [Int.zero_add]
  exact st i xs h2 hi hI
end
section
variable {h : IH} {P : W → IH → Prop} {e : Fw.Env}
theorem cat_step {r q : Nat} {xs ys : List W} (g : h.get r = some (.lst xs)) (g' : h.get q = some (.lst ys)) (l : xs.length + ys.length ≤ 1000) (z : ∀ h' a, Keep h h' → h'.get a = some (.lst (xs ++ ys)) → h.n ≤ a → P (.loc a) h') : (oAdd (.loc r) (.loc q) h).Wp P := by
  rw [x_catL g g']
  exact ⟨lenOk_iff.mpr (by omega), z _ _ Keep.new (IH.get_new_self _ _) (Nat.le_refl _)⟩
theorem sl_step {lo hi : Option Int} {r : Nat} {ws : List W} (g : h.get r = some (.lst ws)) (z : ∀ h' a, Keep h h' → h'.get a = some (.lst (cutW ws lo hi)) → h.n ≤ a → P (.loc a) h') : (oSl lo hi (.loc r) h).Wp P := by
  rw [x_slL g]
  exact z _ _ Keep.new (IH.get_new_self _ _) (Nat.le_refl _)
theorem lst_step {g : EA} (w : (g e h).Wp fun ws h1 => ws.length ≤ 1000 ∧ ∀ h' a, Keep h1 h' → h'.get a = some (.lst ws) → h1.n ≤ a → P (.loc a) h') : (eLst g e h).Wp P := by
  rw [x_lst]
  exact w.mono fun ws h1 ⟨l, z⟩ => ⟨lenOk_iff.mpr (by omega), z _ _ Keep.new (IH.get_new_self _ _) (Nat.le_refl _)⟩
theorem x_someE {f : EE} {i : Int} {Q : Option Int → IH → Prop} (q : f e h = .ok (.int i) h) : (pSome f e h).Wp Q = Q (some i) h := by
  unfold pSome; rw [q]; rfl
theorem x_someW {f : EE} {Q : Option Int → IH → Prop} (w : (f e h).Wp fun x h' => ∃ i : Int, x = .int i ∧ Q (some i) h') : (pSome f e h).Wp Q := by
  unfold pSome
  rw [Rs.Wp_bind]
  refine w.mono fun x h' ⟨i, ex, q⟩ => ?_
  subst ex; exact q
end
end K25

set_option linter.all false
set_option linter.unusedSimpArgs false
set_option maxRecDepth 100000
set_option maxHeartbeats 1000000
namespace K25
open PySem Fw
/-! ### the law's values near a list of places -/
def plP (px : Nat → Bool) (c p : Nat) (b : Int) (h0 : IH) (w : W) (h' : IH) : Prop := Pv px h' w ∧ Fr p h0 h' ∧ Pen c h' p (b + 20)
def S33 (Φ : FT) : Prop := ∀ {c : Nat} {px : Nat → Bool} (p : Nat) (b : Int) (n : Nat) (h : IH), Px px p h → Pen c h p b → b < 500000 → 1 ≤ n → n ≤ 8 → (Φ 33 [.loc p, .int n] h).Wp (plP px c p b h)
theorem ph33 (k : Nat) : S33 (Phi gk tab (k + 4)) := fun {c px} p b n h P hp hb n1 n8 => by
  have H : TkO (Phi gk tab (k + 3)) := phTk (k + 1)
  have H2 : PkO (Phi gk tab (k + 3)) := phPk k
  have pl := hp.lt
  have cl := hp.ltc
  rw [phi33, x_callB (by rfl)]
  show (m33 _ [some (.loc p), some (.int n), none, none, none, none, none] h).Wp _
  unfold m33
  rw [x_seq, x_asg]
  refine lc_rngT ?_
  rw [v1]
  refine ⟨n, rfl, by omega, fun i xs h2 => ∃ cs : List Int, xs = cs.map .int ∧ cs.length ≤ i ∧ (∀ c ∈ cs, 0 ≤ c ∧ c < n) ∧ Fr p h h2 ∧ Pen c h2 p (b + i), ⟨[], rfl, Nat.le_refl _, fun c hc => (by cases hc), Fr.refl, hp.mono (by omega)⟩, ?_, ?_⟩
  · rintro i xs h2 il ⟨cs, rfl, l, rg, f2, p2⟩
    show (gNm 2 (.int i) [some (.loc p), some (.int n), none, none, none, none, none] h2).Wp _
    rw [n2, x_bol, x_e2, x_call, x_cons, v0, x_cons, x_C, x_nil]
    refine (H p (b + i) 2 h2 p2 (by omega) (by omega) (by omega)).mono fun w h3 ⟨v, ew, v0', v1', f3, p3⟩ => ?_
    subst ew
    rw [x_C, x_eqI, x_bolW]
    by_cases q : v = 0
    · rw [decide_eq_true q, if_pos rfl, v2]
      refine ⟨cs ++ [(i : Int)], by rw [List.map_append]; rfl, by simp; omega, fun c hc => ?_, f2.trans f3, p3.mono (by omega)⟩
      rcases List.mem_append.mp hc with hc | hc
      · exact rg c hc
      · rw [List.mem_singleton.mp hc]; omega
    · rw [decide_eq_false q, if_neg (by decide)]
      exact ⟨cs, rfl, by omega, rg, f2.trans f3, p3.mono (by omega)⟩
  rintro xs h2 ⟨cs, rfl, l, rg, f2, p2⟩
  refine ⟨by rw [List.length_map]; omega, ?_⟩
  have sm : ∀ c ∈ cs, -1000 ≤ c ∧ c ≤ 1000 := fun c hc => by have := rg c hc; omega
  have f20 := f2.1
  have g3 : (h2.new (.lst (cs.map .int))).get h2.n = some (.lst (cs.map .int)) := IH.get_new_self _ _
  have px3 : px h2.n = false := P.2 _ f20
  have F := f2.trans (Fr.new (p := p) (h := h2) (c := .lst (cs.map .int)))
  have p3 := p2.keep (Keep.new (h := h2) (c := .lst (cs.map .int)))
  have r3l : h.n ≤ h2.n := f20
  generalize h2.n = r3 at g3 px3 r3l ⊢
  generalize h2.new (.lst (cs.map .int)) = h3 at g3 F p3 ⊢
  clear f2 p2 f20
  rw [n3]
  dsimp only
  have A0 : Pv px h3 (.loc r3) := Pv.ints g3 px3 sm (by omega)
  rw [x_seq, x_asg, x_lst, x_cons, Fw.x_e1, v3, x_revL g3]
  have K : Keep h3 (h3.new (.lst (cs.map W.int).reverse)) := Keep.new
  have A1 : Pv px (h3.new (.lst (cs.map W.int).reverse)) (.loc h3.n) := Pv.ints (cs := cs.reverse) (by rw [List.map_reverse]; exact IH.get_new_self _ _) (P.2 _ F.1) (fun c hc => sm c (List.mem_reverse.mp hc)) (by rw [List.length_reverse]; omega)
  have g3 := K.at g3; have A0 := A0.fr K.fx; have F := F.trans K.fr; have p3 := p3.keep K
  generalize h3.n = r4 at A1 ⊢
  generalize h3.new (.lst (cs.map W.int).reverse) = h4 at g3 A0 A1 F p3 ⊢
  rw [x_cons, x_e2, v3, x_sl, v3, x_none, x_some, x_slL g3]
  obtain ⟨ds, ed, dl, dm⟩ := cut_ints (cs := cs) (lo := none) (hi := some 1)
  rw [ed]
  have K : Keep h4 (h4.new (.lst (ds.map .int))) := Keep.new
  have gd : (h4.new (.lst (ds.map .int))).get h4.n = some (.lst (ds.map .int)) := IH.get_new_self _ _
  have g3 := K.at g3; have A0 := A0.fr K.fx; have A1 := A1.fr K.fx; have F := F.trans K.fr; have p3 := p3.keep K
  generalize h4.n = r5 at gd ⊢
  generalize h4.new (.lst (ds.map .int)) = h5 at g3 A0 A1 F p3 gd ⊢
  rw [x_catL g3 gd]
  refine ⟨lenOk_iff.mpr (by rw [List.length_map, List.length_map]; omega), ?_⟩
  have K : Keep h5 (h5.new (.lst (cs.map .int ++ ds.map .int))) := Keep.new
  have A2 : Pv px (h5.new (.lst (cs.map .int ++ ds.map .int))) (.loc h5.n) := Pv.ints (cs := cs ++ ds) (by rw [List.map_append]; exact IH.get_new_self _ _) (P.2 _ F.1) (fun c hc => (List.mem_append.mp hc).elim (sm c) fun z => sm c (dm c z)) (by rw [List.length_append]; omega)
  have g3 := K.at g3; have A0 := A0.fr K.fx; have A1 := A1.fr K.fx; have F := F.trans K.fr; have p3 := p3.keep K
  generalize h5.n = r6 at A2 ⊢
  generalize h5.new (.lst (cs.map .int ++ ds.map .int)) = h6 at g3 A0 A1 A2 F p3 ⊢
  rw [x_cons, x_eA, x_cons, v3, x_nil, x_tupL g3, x_cons, x_e2, v3, x_lst, x_cons, v1, x_nil]
  refine ⟨by rfl, ?_⟩
  rw [x_catL (Keep.new.at g3) (IH.get_new_self _ _)]
  refine ⟨lenOk_iff.mpr (by rw [List.length_map]; simp; omega), ?_⟩
  have K : Keep h6 ((h6.new (.lst [.int n])).new (.lst (cs.map .int ++ [.int n]))) := Keep.new.trans Keep.new
  have A4 : Pv px ((h6.new (.lst [.int n])).new (.lst (cs.map .int ++ [.int n]))) (.loc (h6.new (.lst [.int n])).n) := Pv.ints (cs := cs ++ [(n : Int)]) (by rw [List.map_append]; exact IH.get_new_self _ _) (P.2 _ (by have := F.1; show h.n ≤ h6.n + 1; omega)) (fun c hc => (List.mem_append.mp hc).elim (sm c) fun z => by rw [List.mem_singleton.mp z]; omega) (by simp; omega)
  have g3 := K.at g3; have A0 := A0.fr K.fx; have A1 := A1.fr K.fx; have A2 := A2.fr K.fx; have F := F.trans K.fr; have p3 := p3.keep K
  generalize (h6.new (.lst [.int n])).n = r7 at A4 ⊢
  generalize (h6.new (.lst [.int n])).new (.lst (cs.map .int ++ [.int n])) = h7 at g3 A0 A1 A2 A4 F p3 ⊢
  rw [x_cons, x_e2, x_lst, x_cons, Fw.x_e1, x_C, x_neg, x_nil]
  refine ⟨by rfl, ?_⟩
  rw [v3, x_catL (IH.get_new_self _ _) (Keep.new.at g3)]
  refine ⟨lenOk_iff.mpr (by rw [List.length_map]; simp; omega), ?_⟩
  have K : Keep h7 ((h7.new (.lst [.int (-1)])).new (.lst ([.int (-1)] ++ cs.map .int))) := Keep.new.trans Keep.new
  have A5 : Pv px ((h7.new (.lst [.int (-1)])).new (.lst ([.int (-1)] ++ cs.map .int))) (.loc (h7.new (.lst [.int (-1)])).n) := Pv.ints (cs := [-1] ++ cs) (by rw [List.map_append]; exact IH.get_new_self _ _) (P.2 _ (by have := F.1; show h.n ≤ h7.n + 1; omega)) (fun c hc => (List.mem_append.mp hc).elim (fun z => by rw [List.mem_singleton.mp z]; omega) (sm c)) (by simp; omega)
  have g3 := K.at g3; have A0 := A0.fr K.fx; have A1 := A1.fr K.fx; have A2 := A2.fr K.fx; have A4 := A4.fr K.fx; have F := F.trans K.fr; have p3 := p3.keep K
  generalize (h7.new (.lst [.int (-1)])).n = r8 at A5 ⊢
  generalize (h7.new (.lst [.int (-1)])).new (.lst ([.int (-1)] ++ cs.map .int)) = h8 at g3 A0 A1 A2 A4 A5 F p3 ⊢
  rw [x_cons, x_C, x_cons, x_dic0]
  have K : Keep h8 (h8.new (.dk [])) := Keep.new
  have A7 : Pv px (h8.new (.dk [])) (.loc h8.n) := Pv.dct (IH.get_new_self _ _) (P.2 _ F.1)
  have g3 := K.at g3; have A0 := A0.fr K.fx; have A1 := A1.fr K.fx; have A2 := A2.fr K.fx; have A4 := A4.fr K.fx; have A5 := A5.fr K.fx; have F := F.trans K.fr; have p3 := p3.keep K
  generalize h8.n = r9 at A7 ⊢
  generalize h8.new (.dk []) = h9 at g3 A0 A1 A2 A4 A5 A7 F p3 ⊢
  rw [x_cons, x_C, x_nil]
  refine ⟨by rfl, ?_⟩
  have A3 : Pv px h9 (.tup (cs.map .int)) := Pv.tints sm (by omega)
  have B : AllP px h9 [.loc r4, .loc r6, .tup (cs.map .int), .loc r7, .loc r8, .non, .loc r9, .int 0] :=
    .cons A1 (.cons A2 (.cons A3 (.cons A4 (.cons A5 (.cons (Pv.flat V.non fun _ e => by cases e) (.cons A7 (.cons (Pv.flat (V.int (by decide)) fun _ e => by cases e) .nil)))))))
  have ll : [W.loc r4, .loc r6, .tup (cs.map .int), .loc r7, .loc r8, .non, .loc r9, .int 0].length = 8 := rfl
  generalize [W.loc r4, .loc r6, .tup (cs.map .int), .loc r7, .loc r8, .non, .loc r9, .int 0] = L at B ll ⊢
  clear A1 A2 A3 A4 A5 A7
  have z10 : h9.n ≠ p := by have := p3.lt; omega
  have K : Keep h9 (h9.new (.lst L)) := Keep.new
  have gl : (h9.new (.lst L)).get h9.n = some (.lst L) := IH.get_new_self _ _
  have g3 := K.at g3; have A0 := A0.fr K.fx; have B := B.fr K.fx; have F := F.trans K.fr; have p3 := p3.keep K
  generalize h9.n = r10 at gl z10 ⊢
  generalize h9.new (.lst L) = h10 at g3 A0 B F p3 gl ⊢
  rw [n4]
  dsimp only
  -- one more
  rw [x_seq, x_asg, x_call, x_cons, v0, x_cons, x_lst, x_cons, x_C, x_cons, x_C, x_cons, x_C, x_cons, x_C, x_cons, x_tup, x_cons, x_C, x_nil]
  refine ⟨by rfl, ?_⟩
  rw [x_cons, x_lst, x_cons, x_C, x_nil]
  refine ⟨by rfl, ?_⟩
  have K : Keep h10 (h10.new (.lst [.int 0])) := Keep.new
  have V6 : V px (h10.new (.lst [.int 0])) 10 2 (.loc h10.n) := (Vs.lst (m := 0) (Vs.cons (V.int (by decide)) Vs.nil) (by decide) (IH.get_new_self _ _) (P.2 _ F.1)).mono (by decide) (by decide)
  have g3 := K.at g3; have gl := K.at gl; have A0 := A0.fr K.fx; have B := B.fr K.fx; have F := F.trans K.fr; have p3 := p3.keep K
  generalize h10.n = r11 at V6 ⊢
  generalize h10.new (.lst [.int 0]) = h11 at g3 gl A0 B F p3 V6 ⊢
  rw [x_cons, x_dic0]
  have K : Keep h11 (h11.new (.dk [])) := Keep.new
  have V7 : V px (h11.new (.dk [])) 10 2 (.loc h11.n) := (V.dct (IH.get_new_self _ _) (P.2 _ F.1)).mono (by decide) (by decide)
  have g3 := K.at g3; have gl := K.at gl; have A0 := A0.fr K.fx; have B := B.fr K.fx; have F := F.trans K.fr; have p3 := p3.keep K; have V6 := V6.fr K.fx
  generalize h11.n = r12 at V7 ⊢
  generalize h11.new (.dk []) = h12 at g3 gl A0 B F p3 V6 V7 ⊢
  rw [x_cons, Fw.x_e1, x_C, x_neg, x_cons, x_C, x_cons, x_C, x_cons, v1, x_nil]
  refine ⟨by rfl, ?_⟩
  have J : AllI px h12 [.bl true, .bl false, .non, .str "0", .tup [.int 0], .loc r11, .loc r12, .int (-1), .int 0, .int 1, .int n] :=
    .cons V.bl (.cons V.bl (.cons V.non (.cons (V.str (n := 2) (by decide +kernel) (by decide +kernel)) (.cons (Vs.tup (m := 0) (Vs.cons (V.int (by decide)) Vs.nil) (by decide)) (.cons V6 (.cons V7 (.cons (V.int (by decide)) (.cons (V.int (by decide)) (.cons (V.int (by decide)) (.cons (V.int (small_i (by omega) (by omega))) .nil))))))))))
  have lj : [W.bl true, .bl false, .non, .str "0", .tup [.int 0], .loc r11, .loc r12, .int (-1), .int 0, .int 1, .int n].length = 11 := rfl
  generalize [W.bl true, .bl false, .non, .str "0", .tup [.int 0], .loc r11, .loc r12, .int (-1), .int 0, .int 1, .int n] = M at J lj ⊢
  clear V6 V7
  have K : Keep h12 (h12.new (.lst M)) := Keep.new
  have gm : (h12.new (.lst M)).get h12.n = some (.lst M) := IH.get_new_self _ _
  have g3 := K.at g3; have gl := K.at gl; have A0 := A0.fr K.fx; have B := B.fr K.fx; have J := J.fr K.fx; have F := F.trans K.fr
  have p12 := p3.lt
  have p3 := p3.keep K
  have nm : h12.n ≠ p := by omega
  generalize h12.n = r13 at gm nm ⊢
  generalize h12.new (.lst M) = h13 at g3 gl A0 B J F p3 gm ⊢
  rw [x_nil]
  have rp3 : r3 ≠ p := by omega
  refine (H2 p r13 _ M h13 p3 gm nm (by omega) (by intro e; rw [e] at lj; cases lj) (by omega)).mono fun one h14 ⟨om, f14, p14⟩ => ?_
  have J1 := (J one om).fr (FrX.of P f14)
  have g3 := (f14.2 _ (IH.get_lt g3) rp3).trans g3
  have gl := (f14.2 _ (IH.get_lt gl) z10).trans gl
  have A0 := A0.fr (FrX.of P f14); have B := B.fr (FrX.of P f14); have F := F.trans f14
  clear f14 gm J p3
  rw [n5]
  dsimp only
  rw [x_seq, x_asg, x_call, x_cons, v0, x_cons, x_e2, x_eA, x_cons, v3, x_nil, x_lenL g3, x_C, x_add, x_nil, List.length_map]
  refine (H p _ ((cs.length : Int) + 1) h14 p14 (by omega) (by omega) (by omega)).mono fun w h15 ⟨spot, ew, s0, s1, f15, p15⟩ => ?_
  subst ew
  have J1 := J1.fr (FrX.of P f15)
  have g3 := (f15.2 _ (IH.get_lt g3) rp3).trans g3
  have gl := (f15.2 _ (IH.get_lt gl) z10).trans gl
  have A0 := A0.fr (FrX.of P f15); have B := B.fr (FrX.of P f15); have F := F.trans f15
  clear f15 p14
  rw [n6]
  dsimp only
  -- the two that are made at the spot
  rw [x_seq, x_asg, x_e2, v4]
  refine lst_step ?_
  rw [x_cons, x_e2, x_e2, x_sl, v3, x_none, x_someE (i := spot) rfl]
  refine sl_step g3 fun h16 a1 K ga1 l1 => ?_
  obtain ⟨d1, e1, dl1, dm1⟩ := cut_ints (cs := cs) (lo := none) (hi := some spot)
  rw [e1] at ga1
  have g3 := K.at g3; have gl := K.at gl; have A0 := A0.fr K.fx; have B := B.fr K.fx; have J1 := J1.fr K.fx; have F := F.trans K.fr; have p15 := p15.keep K
  refine lst_step ?_
  rw [x_cons, v5, x_nil]
  refine ⟨by simp, fun h17 a2 K ga2 l2 => ?_⟩
  have g3 := K.at g3; have gl := K.at gl; have ga1 := K.at ga1; have A0 := A0.fr K.fx; have B := B.fr K.fx; have J1 := J1.fr K.fx; have F := F.trans K.fr; have p15 := p15.keep K
  refine cat_step ga1 ga2 (by rw [List.length_map]; simp; omega) fun h18 a3 K ga3 l3 => ?_
  have g3 := K.at g3; have gl := K.at gl; have A0 := A0.fr K.fx; have B := B.fr K.fx; have J1 := J1.fr K.fx; have F := F.trans K.fr; have p15 := p15.keep K
  rw [x_sl, v3, x_someE (i := spot) rfl, x_none]
  refine sl_step g3 fun h19 a4 K ga4 l4 => ?_
  obtain ⟨d2, e2', dl2, dm2⟩ := cut_ints (cs := cs) (lo := some spot) (hi := none)
  rw [e2'] at ga4
  have g3 := K.at g3; have gl := K.at gl; have ga3 := K.at ga3; have A0 := A0.fr K.fx; have B := B.fr K.fx; have J1 := J1.fr K.fx; have F := F.trans K.fr; have p15 := p15.keep K
  refine cat_step ga3 ga4 (by simp; omega) fun h20 a5 K ga5 l5 => ?_
  have g3 := K.at g3; have gl := K.at gl; have A0 := A0.fr K.fx; have B := B.fr K.fx; have J1 := J1.fr K.fx; have F19 := F.1; have F := F.trans K.fr; have p15 := p15.keep K
  have A6 : Pv px h20 (.loc a5) := Pv.mix ga5 (P.2 _ (by omega)) (((AllI.ints (fun c hc => sm c (dm1 c hc))).app (.cons J1 .nil)).app (AllI.ints (fun c hc => sm c (dm2 c hc)))) (by simp; omega)
  clear ga5 J1
  rw [x_cons, x_e2, x_e2, x_sl, v3, x_none, x_someE (i := spot) rfl]
  refine sl_step g3 fun h21 b1 K gb1 m1 => ?_
  rw [e1] at gb1
  have g3 := K.at g3; have gl := K.at gl; have A0 := A0.fr K.fx; have B := B.fr K.fx; have A6 := A6.fr K.fx; have F := F.trans K.fr; have p15 := p15.keep K
  rw [x_sl, v3]
  refine x_someW ?_
  rw [x_e2, v6, x_C, x_add]
  refine ⟨_, rfl, ?_⟩
  refine x_someW ?_
  rw [x_e2, v6, x_C, x_add]
  refine ⟨_, rfl, ?_⟩
  refine sl_step g3 fun h22 b2 K gb2 m2 => ?_
  obtain ⟨d3, e3, dl3, dm3⟩ := cut_ints (cs := cs) (lo := some (spot + 1)) (hi := some (spot + 2))
  rw [e3] at gb2
  have g3 := K.at g3; have gl := K.at gl; have gb1 := K.at gb1; have A0 := A0.fr K.fx; have B := B.fr K.fx; have A6 := A6.fr K.fx; have F := F.trans K.fr; have p15 := p15.keep K
  refine cat_step gb1 gb2 (by simp; omega) fun h23 b3 K gb3 m3 => ?_
  have g3 := K.at g3; have gl := K.at gl; have A0 := A0.fr K.fx; have B := B.fr K.fx; have A6 := A6.fr K.fx; have F := F.trans K.fr; have p15 := p15.keep K
  rw [x_sl, v3, x_someE (i := spot) rfl, x_none]
  refine sl_step g3 fun h24 b4 K gb4 m4 => ?_
  rw [e2'] at gb4
  have g3 := K.at g3; have gl := K.at gl; have gb3 := K.at gb3; have A0 := A0.fr K.fx; have B := B.fr K.fx; have A6 := A6.fr K.fx; have F := F.trans K.fr; have p15 := p15.keep K
  refine cat_step gb3 gb4 (by simp; omega) fun h25 b5 K gb5 m5 => ?_
  have g3 := K.at g3; have gl := K.at gl; have A0 := A0.fr K.fx; have B := B.fr K.fx; have A6 := A6.fr K.fx; have F24 := F.1; have F := F.trans K.fr; have p15 := p15.keep K
  have A7 : Pv px h25 (.loc b5) := Pv.mix gb5 (P.2 _ (by omega)) (((AllI.ints (fun c hc => sm c (dm1 c hc))).app (AllI.ints (fun c hc => sm c (dm3 c hc)))).app (AllI.ints (fun c hc => sm c (dm2 c hc)))) (by simp; omega)
  clear gb5
  rw [x_nil]
  refine ⟨by simp, fun h26 c1 K gc1 o1 => ?_⟩
  have g3 := K.at g3; have gl := K.at gl; have A0 := A0.fr K.fx; have B := B.fr K.fx; have A6 := A6.fr K.fx; have A7 := A7.fr K.fx; have F := F.trans K.fr; have p15 := p15.keep K
  refine cat_step gl gc1 (by simp; omega) fun h27 c2 K gc2 o2 => ?_
  have B := B.app (.cons A6 (.cons A7 .nil))
  have ll : (L ++ [W.loc a5, .loc b5]).length = 10 := by rw [List.length_append, ll]; rfl
  generalize L ++ [W.loc a5, .loc b5] = L2 at B ll gc2
  have z27 : c2 ≠ p := by have := p15.lt; omega
  have g3 := K.at g3; have A0 := A0.fr K.fx; have B := B.fr K.fx; have F := F.trans K.fr; have p15 := p15.keep K
  clear A6 A7 gl gc1
  rw [n4]
  dsimp only
  -- one of all
  rw [x_seq, x_ret, x_call, x_cons, v0, x_cons, x_e2, x_e2, x_e2]
  refine lst_step ?_
  rw [x_cons, v3, x_nil]
  refine ⟨by simp, fun h28 q1 K gq1 t1 => ?_⟩
  have gc2 := K.at gc2; have A0 := A0.fr K.fx; have B := B.fr K.fx; have F := F.trans K.fr; have p15 := p15.keep K
  rw [x_C]
  show (oMul (.loc q1) (.int ((8 : Nat) : Int)) h28).Wp _
  rw [x_mulN gq1 (by simp) (by decide)]
  have K : Keep h28 (h28.new (.lst (List.replicate 8 [W.loc r3]).flatten)) := Keep.new
  have gq2 : (h28.new (.lst (List.replicate 8 [W.loc r3]).flatten)).get h28.n = some (.lst (List.replicate 8 [W.loc r3]).flatten) := IH.get_new_self _ _
  have gc2 := K.at gc2; have A0 := A0.fr K.fx; have B := B.fr K.fx; have F := F.trans K.fr; have p15 := p15.keep K
  generalize h28.n = q2 at gq2 ⊢
  generalize h28.new (.lst (List.replicate 8 [W.loc r3]).flatten) = h29 at gq2 gc2 A0 B F p15 ⊢
  have l8 : (List.replicate 8 [W.loc r3]).flatten.length = 8 := len_rep
  refine lst_step ?_
  rw [x_cons]
  refine lst_step ?_
  rw [x_nil]
  refine ⟨by simp, fun h30 q3 K gq3 t3 => ?_⟩
  have gc2 := K.at gc2; have gq2 := K.at gq2; have A0 := A0.fr K.fx; have B := B.fr K.fx; have F29 := F.1; have F := F.trans K.fr; have p15 := p15.keep K
  have A8 : Pv px h30 (.loc q3) := Pv.ints (cs := []) gq3 (P.2 _ (by omega)) (fun c hc => by cases hc) (by simp)
  rw [x_cons, Fw.x_e1, v1, x_lrg (by omega)]
  have K : Keep h30 (h30.new (.lst ((Fw.rg n).map .int))) := Keep.new
  have A9 : Pv px (h30.new (.lst ((Fw.rg n).map .int))) (.loc h30.n) := Pv.ints (cs := Fw.rg n) (IH.get_new_self _ _) (P.2 _ F.1) (fun c hc => by
    obtain ⟨i, hi⟩ := List.mem_iff_getElem?.mp hc
    have := rg_at hi; omega) (by rw [rg_len]; omega)
  have gc2 := K.at gc2; have gq2 := K.at gq2; have A0 := A0.fr K.fx; have B := B.fr K.fx; have A8 := A8.fr K.fx; have F := F.trans K.fr; have p15 := p15.keep K
  generalize h30.n = q4 at A9 ⊢
  generalize h30.new (.lst ((Fw.rg n).map .int)) = h31 at gq2 gc2 A0 B A8 A9 F p15 ⊢
  rw [x_nil]
  refine ⟨by simp, fun h32 q5 K gq5 t5 => ?_⟩
  have gc2 := K.at gc2; have gq2 := K.at gq2; have A0 := A0.fr K.fx; have B := B.fr K.fx; have A8 := A8.fr K.fx; have A9 := A9.fr K.fx; have F := F.trans K.fr; have p15 := p15.keep K
  refine cat_step gq2 gq5 (by rw [l8]; simp) fun h33 q6 K gq6 t6 => ?_
  have z33 : q6 ≠ p := by have := p15.lt; omega
  have C : AllP px h32 ((List.replicate 8 [W.loc r3]).flatten ++ [.loc q3, .loc q4]) := AllP.app (fun w hw => by rw [mem_rep hw]; exact A0) (.cons A8 (.cons A9 .nil))
  have lC : ((List.replicate 8 [W.loc r3]).flatten ++ [W.loc q3, .loc q4]).length = 10 := by rw [List.length_append, l8]; rfl
  generalize (List.replicate 8 [W.loc r3]).flatten ++ [W.loc q3, .loc q4] = Cs at C lC gq6
  have gc2 := K.at gc2; have B := B.fr K.fx; have C := C.fr K.fx; have F := F.trans K.fr; have p15 := p15.keep K
  clear A8 A9 gq2 gq5 A0
  rw [x_e2]
  refine lst_step ?_
  rw [x_cons, x_e2, v4, x_call, x_cons, v0, x_cons, x_eA, x_cons, v4, x_nil, x_lenL gc2, x_nil]
  refine (H p _ (L2.length : Int) h33 p15 (by omega) (by omega) (by omega)).mono fun w h34 ⟨v, ew, w0, w1, f34, p34⟩ => ?_
  subst ew
  have gc2 := (f34.2 _ (IH.get_lt gc2) z27).trans gc2
  have gq6 := (f34.2 _ (IH.get_lt gq6) z33).trans gq6
  have B := B.fr (FrX.of P f34); have C := C.fr (FrX.of P f34); have F := F.trans f34
  have hv : L2[v.toNat]? = some L2[v.toNat] := List.getElem?_eq_getElem (by omega)
  generalize L2[v.toNat] = od at hv
  have A10 := B od (List.mem_of_getElem? hv)
  rw [x_ix gc2 w0 hv, x_nil]
  refine ⟨by simp, fun h35 q7 K gq7 t7 => ?_⟩
  have gq6 := K.at gq6; have C := C.fr K.fx; have A10 := A10.fr K.fx; have F := F.trans K.fr; have p34 := p34.keep K
  rw [x_C]
  show (oMul (.loc q7) (.int ((4 : Nat) : Int)) h35).Wp _
  rw [x_mulN gq7 (by simp) (by decide)]
  have K : Keep h35 (h35.new (.lst (List.replicate 4 [od]).flatten)) := Keep.new
  have gq8 : (h35.new (.lst (List.replicate 4 [od]).flatten)).get h35.n = some (.lst (List.replicate 4 [od]).flatten) := IH.get_new_self _ _
  have gq6 := K.at gq6; have C := C.fr K.fx; have A10 := A10.fr K.fx; have F := F.trans K.fr; have p34 := p34.keep K
  generalize h35.n = q8 at gq8 ⊢
  generalize h35.new (.lst (List.replicate 4 [od]).flatten) = h36 at gq8 gq6 C A10 F p34 ⊢
  have l4 : (List.replicate 4 [od]).flatten.length = 4 := len_rep
  refine cat_step gq6 gq8 (by rw [lC, l4]; decide) fun h37 q9 K gq9 t9 => ?_
  have z37 : q9 ≠ p := by have := p34.lt; omega
  have C : AllP px h36 (Cs ++ (List.replicate 4 [od]).flatten) := AllP.app C (fun w hw => by rw [mem_rep hw]; exact A10)
  have lD : (Cs ++ (List.replicate 4 [od]).flatten).length = 14 := by rw [List.length_append, lC, l4]
  generalize Cs ++ (List.replicate 4 [od]).flatten = Ds at C lD gq9
  have C := C.fr K.fx; have F := F.trans K.fr; have p34 := p34.keep K
  rw [x_nil]
  exact (H2 p q9 _ Ds h37 p34 gq9 z37 (by omega) (by intro e; rw [e] at lD; cases lD) (by omega)).mono fun w h38 ⟨wm, f38, p38⟩ => ⟨(C w wm).fr (FrX.of P f38), F.trans f38, p38.mono (by omega)⟩
end K25

set_option linter.all false
set_option linter.unusedSimpArgs false
set_option maxRecDepth 100000
set_option maxHeartbeats 1000000
namespace K25
open PySem Fw
/-! ### walks drawn step by step -/
def wkP (ops : List Op) (c p : Nat) (b : Int) (h0 : IH) (w : W) (h' : IH) : Prop := ∃ (a : Nat) (cs : List Int), w = .loc a ∧ h'.get a = some (.lst (cs.map .int)) ∧ cs ≠ [] ∧ cs.length ≤ 13 ∧ (∀ x ∈ cs, 0 ≤ x ∧ x < ops.length) ∧ h0.n ≤ a ∧ Fr p h0 h' ∧ Pen c h' p (b + 40)
def S35 (Φ : FT) : Prop := ∀ {c : Nat} (p : Nat) (b : Int) (us fns : List W) (f u : Int) (body : List W) (ops : List Op) (h : IH), Pen c h p b → b < 500000 → Fun fns f body ops → (Φ 35 [.loc p, .tup [.tup us, .tup fns], .int f, .int u] h).Wp (wkP ops c p b h)
theorem ph35 (k : Nat) : S35 (Phi gk tab (k + 4)) := fun {c} p b us fns f u body ops h hp hb F => by
  have H : TkO (Phi gk tab (k + 3)) := phTk (k + 1)
  have H2 : PkO (Phi gk tab (k + 3)) := phPk k
  have l8 := F.ok.l8
  have fl := F.len
  have pl := hp.lt
  rw [phi35, x_callB (by rfl)]
  show (m35 _ [some (.loc p), some (.tup [.tup us, .tup fns]), some (.int f), some (.int u), none, none, none, none] h).Wp _
  unfold m35
  rw [x_seq, x_par2]
  refine lst_step ?_
  rw [x_cons, x_C, x_nil]
  refine ⟨by simp, fun h1 r4 k1 g4 a4 => ?_⟩
  rw [x_call, x_cons, v1, x_cons, v2, x_cons, v3, x_nil]
  refine (ph29 (k + 2) us fns f u body ops h1 F).mono fun w h2 ⟨ag, ew, gg, a5, k2⟩ => ?_
  subst ew
  rw [n4, n5]
  try dsimp only
  have zag : ag ≠ r4 := by have := IH.get_lt g4; omega
  have g4 := k2.at g4
  have F2 := (k1.trans k2).fr (p := p)
  have p2 := hp.keep (k1.trans k2)
  have z4 : r4 ≠ p := by omega
  have zg : ag ≠ p := by have := k1.1; omega
  have f1 := F.ok.len
  clear k1 k2
  rw [x_seq]
  refine for_rng ?_
  rw [x_e2, x_C, x_call, x_cons, v0, x_cons, x_C, x_nil]
  refine (H p b 12 h2 p2 (by omega) (by omega) (by omega)).mono fun w h3 ⟨v, ew, w0, w1, f3, p3⟩ => ?_
  subst ew
  rw [x_add]
  have g4 := (f3.2 _ (IH.get_lt g4) z4).trans g4
  have gg := (f3.2 _ (IH.get_lt gg) zg).trans gg
  have F3 := F2.trans f3
  refine ⟨(1 + v).toNat, by rw [Int.toNat_of_nonneg (by omega)], by omega, fun i e h4 => ∃ (cs : List Int) (s6 s7 : Option W), h4.get r4 = some (.lst (cs.map .int)) ∧ cs ≠ [] ∧ cs.length ≤ i + 1 ∧ (∀ x ∈ cs, 0 ≤ x ∧ x < ops.length) ∧ Fr p h h4 ∧ Pen c h4 p (b + 1 + 2 * i) ∧ h4.get ag = some (.lst ((goals u ops).map .int)) ∧
    e = [some (.loc p), some (.tup [.tup us, .tup fns]), some (.int f), some (.int u), some (.loc r4), some (.loc ag), s6, s7], ⟨[0], none, none, g4, by simp, Nat.le_refl _, fun x hx => by rw [List.mem_singleton.mp hx]; omega, F3, p3.mono (by omega), gg, rfl⟩, ?_, ?_⟩
  · rintro i e h4 il ⟨cs, s6, s7, g4, ne, ln, rg, f4, p4, gg4, rfl⟩
    have i12 : i ≤ 12 := by omega
    obtain ⟨gl, hgl⟩ : ∃ gl, cs.getLast? = some gl := ⟨_, List.getLast?_eq_some_getLast ne⟩
    have hg := rg gl (List.mem_of_getLast? hgl)
    rw [n6, x_seq, x_asg, x_call, x_cons, v1, x_cons, v2, x_cons, v3, x_cons, x_e2, v4, Fw.x_e1, x_C, x_neg, x_last g4 (last_at hgl), x_nil]
    refine (ph30 (k + 2) us fns f u gl body ops h4 F hg.1 (by omega)).mono fun w h5 ⟨an, ew, gn, a7, k5⟩ => ?_
    subst ew
    rw [n7]
    dsimp only
    have f5 := f4.trans (k5.fr (p := p)); have p5 := p4.keep k5; have g5 := k5.at g4; have gg5 := k5.at gg4
    have zn : an ≠ p := by have := p4.lt; omega
    have z45 : r4 ≠ an := by have := IH.get_lt g4; omega
    rw [x_seq, x_if, x_or, x_bol, x_e2, v7]
    refine lst_step ?_
    rw [x_nil]
    refine ⟨by simp, fun h6 q1 k6 gq _ => ?_⟩
    have f6 := f5.trans (k6.fr (p := p)); have p6 := p5.keep k6; have g6 := k6.at g5; have gg6 := k6.at gg5; have gn6 := k6.at gn
    refine eq_sset (ds := []) gn6 gq ?_
    rw [x_bolW]
    have ret : ∀ h' b', h'.get r4 = some (.lst (cs.map .int)) → Fr p h h' → Pen c h' p b' → b' ≤ b + 40 → wkP ops c p b h (.loc r4) h' := fun h' b' g' f' p' bb => ⟨r4, cs, rfl, g', ne, by omega, rg, a4, f', p'.mono bb⟩
    by_cases q : onw u ops gl = []
    · rw [decide_eq_true q]
      refine ⟨fun _ => ⟨fun _ => ?_, fun z => Bool.noConfusion z⟩, fun z => Bool.noConfusion z⟩
      rw [x_seq, x_ret, v4]
      exact ret h6 _ g6 f6 p6 (by omega)
    rw [decide_eq_false q]
    refine ⟨fun z => Bool.noConfusion z, fun _ => ?_⟩
    have go : ∀ h7, h7.get r4 = some (.lst (cs.map .int)) → h7.get an = some (.lst ((onw u ops gl).map .int)) → h7.get ag = some (.lst ((goals u ops).map .int)) → Fr p h h7 → Pen c h7 p (b + 1 + 2 * i + 1) →
        (sSeq (sExpr (eMt isLst mAppend (eVar 4) (aCons (eCall (Phi gk tab (k + 3)) 25 (aCons (eVar 0) (aCons (eVar 7) aNil))) aNil))) sNext [some (.loc p), some (.tup [.tup us, .tup fns]), some (.int f), some (.int u), some (.loc r4), some (.loc ag), some (.int i), some (.loc an)] h7).Wp
          ⟨fun e h4 => ∃ (cs : List Int) (s6 s7 : Option W), h4.get r4 = some (.lst (cs.map .int)) ∧ cs ≠ [] ∧ cs.length ≤ i + 1 + 1 ∧ (∀ x ∈ cs, 0 ≤ x ∧ x < ops.length) ∧ Fr p h h4 ∧ Pen c h4 p (b + 1 + 2 * ((i + 1 : Nat) : Int)) ∧ h4.get ag = some (.lst ((goals u ops).map .int)) ∧
    e = [some (.loc p), some (.tup [.tup us, .tup fns]), some (.int f), some (.int u), some (.loc r4), some (.loc ag), s6, s7], wkP ops c p b h, fun e h4 => (sSeq (sRet (eVar 4)) sNext e h4).Wp ⟨fun _ h' => wkP ops c p b h .non h', wkP ops c p b h, fun _ _ => False, fun _ _ => False⟩, fun e h4 => ∃ (cs : List Int) (s6 s7 : Option W), h4.get r4 = some (.lst (cs.map .int)) ∧ cs ≠ [] ∧ cs.length ≤ i + 1 + 1 ∧ (∀ x ∈ cs, 0 ≤ x ∧ x < ops.length) ∧ Fr p h h4 ∧ Pen c h4 p (b + 1 + 2 * ((i + 1 : Nat) : Int)) ∧ h4.get ag = some (.lst ((goals u ops).map .int)) ∧
    e = [some (.loc p), some (.tup [.tup us, .tup fns]), some (.int f), some (.int u), some (.loc r4), some (.loc ag), s6, s7]⟩ := fun h7 g7 gn7 gg7 f7 p7 => by
      rw [x_seq, x_expr, x_mt, v4]
      refine ⟨isLst_at g7, ?_⟩
      rw [x_cons, x_call, x_cons, v0, x_cons, v7, x_nil]
      have ol := onw_len u ops gl
      refine (H2 p an _ _ h7 p7 gn7 zn (by omega) (by intro e; exact q (List.map_eq_nil_iff.mp e)) (by rw [List.length_map]; omega)).mono fun w h8 ⟨wm, f8, p8⟩ => ?_
      obtain ⟨d, hd, rfl⟩ := List.mem_map.mp wm
      have g8 := (f8.2 _ (IH.get_lt g7) z4).trans g7
      have gg8 := (f8.2 _ (IH.get_lt gg7) zg).trans gg7
      have l8' := IH.get_lt g8
      rw [x_nil, x_app g8 (by rw [List.length_map]; omega), x_next]
      have dr := F.nx hg.1 hd
      refine ⟨cs ++ [d], _, _, ?_, by simp, by simp; omega, fun x hx => ?_, (f7.trans f8).setr l8' a4, ?_, ?_, rfl⟩
      · rw [IH.get_set _ _ _ _ l8', if_pos rfl, List.map_append]; rfl
      · rcases List.mem_append.mp hx with hx | hx
        · exact rg x hx
        · rw [List.mem_singleton.mp hx]; omega
      · have cl := p8.ltc
        exact (p8.setr z4 (fun e => by
          have := hp.ltc
          omega) l8').mono (by omega)
      · rw [IH.get_set _ _ _ _ l8', if_neg zag]; exact gg8
    rw [x_and, x_bol, x_e2, x_e2, v4, Fw.x_e1, x_C, x_neg, x_last g6 (last_at hgl), v5, x_inI gg6, x_bolW]
    refine ⟨fun qg => ?_, fun qg => ?_⟩
    · rw [x_bol, x_e2, x_call, x_cons, v0, x_cons, x_C, x_nil]
      refine (H p _ 3 h6 p6 (by omega) (by omega) (by omega)).mono fun w h7 ⟨v', ew, w0', w1', f7, p7⟩ => ?_
      subst ew
      have g7 := (f7.2 _ (IH.get_lt g6) z4).trans g6
      have gg7 := (f7.2 _ (IH.get_lt gg6) zg).trans gg6
      have gn7 := (f7.2 _ (IH.get_lt gn6) zn).trans gn6
      rw [x_C, x_gt, x_bolW]
      refine ⟨fun _ => ?_, fun _ => ?_⟩
      · rw [x_seq, x_ret, v4]
        exact ret h7 _ g7 (f6.trans f7) p7 (by omega)
      · rw [x_next]
        exact go h7 g7 gn7 gg7 (f6.trans f7) p7
    · refine ⟨fun z => Bool.noConfusion z, fun _ => ?_⟩
      rw [x_next]
      exact go h6 g6 gn6 gg6 f6 (p6.mono (by omega))
  · rintro e h4 ⟨cs, s6, s7, g4, ne, ln, rg, f4, p4, gg4, rfl⟩
    rw [x_seq, x_ret, v4]
    exact ⟨r4, cs, rfl, g4, ne, by omega, rg, a4, f4, p4.mono (by omega)⟩
end K25

set_option linter.all false
set_option linter.unusedSimpArgs false
set_option maxRecDepth 100000
set_option maxHeartbeats 1000000
namespace K25
open PySem Fw
/-! ### values near a list of walks -/
section
variable {px : Nat → Bool} {h h' : IH}
/-- what stands in a list of walks: shown, and of a kind that is_walk looks at -/
structure Fx (px : Nat → Bool) (h : IH) (x : W) : Prop where
  v : V px h 600 5 x
  g : Gx h x
theorem Fx.keep {x : W} (f : Fx px h x) (k : Keep h h') : Fx px h' x := ⟨f.v.fr k.fx, f.g.keep k⟩
/-- a walk's item: shown, and of the kinds that may stand there -/
structure Iv (px : Nat → Bool) (h : IH) (y : W) : Prop where
  v : V px h 10 2 y
  i : It h y
theorem It.fr {p : Nat} {h : IH} {y : W} (i : It h y) (v : V px h 10 2 y) (k : FrX px h h') : It h' y := by
  cases i with
  | int i => exact .int i
  | non => exact .non
  | bl b => exact .bl b
  | str s q => exact .str s q
  | tup i => exact .tup i
  | lst a i g =>
    obtain ⟨pa, _⟩ := V_loc v
    exact .lst a i ((k.2 a (IH.get_lt g) pa).trans g)
theorem Iv.fr {y : W} (i : Iv px h y) (k : FrX px h h') : Iv px h' y := ⟨i.v.fr k, i.i.fr (p := 0) i.v k⟩
theorem Iv.int {i : Int} (s : i.natAbs < 10 ^ 12) : Iv px h (.int i) := ⟨Vi s, .int i⟩
theorem Gw.list {a : Nat} {us : List W} (g : h.get a = some (.lst us)) (i : ∀ y ∈ us, It h y) (l : us.length ≤ 40) : Gw h (.loc a) := by
  refine ⟨by unfold kn; rw [g], fun a' ws e g' => ?_⟩
  cases e
  rw [g] at g'
  rw [← Cell.lst.inj (Option.some.inj g')]
  exact ⟨l, i⟩
theorem Gw.other {w : W} (k : kn h w = true) (q : ∀ a, w ≠ .loc a) : Gw h w := ⟨k, fun a ws e _ => absurd e (q a)⟩
theorem Fx.pair {p q : W} {n m : Nat} (vp : V px h n m p) (gp : Gw h p) (vq : V px h 10 2 q) (iq : It h q) (bd : ∀ n, q = .int n → n ≤ 100000000000000000000) (hn : n ≤ 580) (hm : m ≤ 4) : Fx px h (.tup [p, q]) := by
  have v : V px h 600 5 (.tup [p, q]) := (Vs.tup (m := 4) (Vs.cons (vp.mono hn hm) (Vs.cons (vq.mono (Nat.le_refl _) (by decide)) Vs.nil)) (by decide)).mono (by omega) (by decide)
  refine ⟨v, v.kn, fun p' q' e => ?_⟩
  cases e
  exact ⟨gp, iq, bd⟩
theorem V_items {a : Nat} {us : List W} (g : h.get a = some (.lst us)) (pa : px a = false) (i : ∀ y ∈ us, Iv px h y) (l : us.length ≤ 40) : V px h 450 3 (.loc a) := (Vs.lst (m := 2) (Vs.of fun y hy => (i y hy).v) (by decide) g pa).mono (by omega) (Nat.le_refl _)
theorem Fx.walk {a : Nat} {us : List W} {m : Int} (g : h.get a = some (.lst us)) (pa : px a = false) (i : ∀ y ∈ us, Iv px h y) (l : us.length ≤ 40) (m0 : -10 ≤ m) (m1 : m ≤ 10) : Fx px h (.tup [.loc a, .int m]) :=
  Fx.pair (V_items g pa i l) (Gw.list g (fun y hy => (i y hy).i) l) (Vi (small_i (by omega) (by omega))) (.int m) (fun n e => by cases e; omega) (by decide) (by decide)
/-- no pair -/
theorem Fx.no {x : W} {n m : Nat} (v : V px h n m x) (q : ∀ a b, x ≠ .tup [a, b]) (hn : n ≤ 600 := by decide) (hm : m ≤ 5 := by decide) : Fx px h x := ⟨v.mono hn hm, v.kn, fun p r e => absurd e (q p r)⟩
def wlsP (px : Nat → Bool) (c p : Nat) (b : Int) (h0 : IH) (w : W) (h' : IH) : Prop := V px h' 8000 8 w ∧ Gv h' w ∧ Fr p h0 h' ∧ Pen c h' p (b + 400)
theorem fin_list {r : Nat} {xs : List W} (g : h.get r = some (.lst xs)) (pr : px r = false) (f : ∀ x ∈ xs, Fx px h x) (l : xs.length ≤ 5) : V px h 8000 8 (.loc r) ∧ Gv h (.loc r) := by
  have v : V px h 8000 8 (.loc r) := (Vs.lst (m := 5) (Vs.of (n := 600) fun x hx => (f x hx).v) (by decide) g pr).mono (by omega) (by decide)
  refine ⟨v, v.kn, fun a ws e g' => ?_⟩
  cases e
  rw [g] at g'
  rw [← Cell.lst.inj (Option.some.inj g')]
  exact ⟨by omega, fun x hx => (f x hx).g⟩
theorem Gv.other {w : W} (k : kn h w = true) (q : ∀ a ws, w = .loc a → h.get a ≠ some (.lst ws)) : Gv h w := ⟨k, fun a ws e g => absurd g (q a ws e)⟩
/-- as drawn: a walk of places, and a number -/
def Wp_ (px : Nat → Bool) (r n0 : Nat) (h : IH) (x : W) : Prop := ∃ (a : Nat) (cs : List Int) (m : Int), x = .tup [.loc a, .int m] ∧ h.get a = some (.lst (cs.map .int)) ∧ px a = false ∧ a ≠ r ∧ n0 ≤ a ∧ cs ≠ [] ∧ cs.length ≤ 13 ∧ (∀ c ∈ cs, 0 ≤ c ∧ c ≤ 8) ∧ 1 ≤ m ∧ m ≤ 3
theorem Wp_.fr {r n0 : Nat} {x : W} (w : Wp_ px r n0 h x) (k : ∀ a c, px a = false → a ≠ r → h.get a = some c → h'.get a = some c) : Wp_ px r n0 h' x := by
  obtain ⟨a, cs, m, e, g, pa, ne, q⟩ := w
  exact ⟨a, cs, m, e, k a _ pa ne g, pa, ne, q⟩
theorem Iv.ints {cs : List Int} (s : ∀ c ∈ cs, 0 ≤ c ∧ c ≤ 8) : ∀ y ∈ cs.map W.int, Iv px h y := fun y hy => by
  obtain ⟨c, hc, rfl⟩ := List.mem_map.mp hy
  have := s c hc
  exact Iv.int (small_i (by omega) (by omega))
theorem Wp_.fx {r n0 : Nat} {x : W} (w : Wp_ px r n0 h x) : Fx px h x := by
  obtain ⟨a, cs, m, rfl, g, pa, ne, _, _, l, rg, m0, m1⟩ := w
  exact Fx.walk g pa (Iv.ints rg) (by rw [List.length_map]; omega) (by omega) (by omega)
/-- == [] of such a list -/
theorem eqW_prs {r0 n0 r a : Nat} {ws : List W} (g : h.get r = some (.lst ws)) (ga : h.get a = some (.lst [])) (H : ∀ w ∈ ws, Wp_ px r0 n0 h w) : ∃ c, eqW (.loc r) (.loc a) h = some c ∧ (c = true ↔ ws = []) := by
  have go : ∀ us : List W, (∀ w ∈ us, Wp_ px r0 n0 h w) → ∃ ds, mapO (toD 64 h) us = some ds ∧ PyData.canLayAll0 ds = true ∧ PyData.depthAll ds ≤ 5 ∧ ds.length = us.length := by
    intro us
    induction us with
    | nil => exact fun _ => ⟨[], rfl, rfl, by show 0 ≤ 5; omega, rfl⟩
    | cons w us ih =>
      intro H
      obtain ⟨ds, e2, c2, p2, l2⟩ := ih fun x hx => H x (List.mem_cons_of_mem _ hx)
      obtain ⟨a, cs, m, rfl, g, _⟩ := H w List.mem_cons_self
      have e1 : toD 64 h (.tup [.loc a, .int m]) = some (.tuple [.list (pds (cs.map .int)), .int m]) := by
        have e3 : mapO (toD 62 h) (cs.map .int) = some (pds (cs.map .int)) := toDs_pur 62 _ (purs_ints cs) (by rw [depth_ints]; decide)
        have e4 : toD 63 h (.loc a) = some (.list (pds (cs.map .int))) := by
          show (match listAt h a with
            | some ws => (match mapO (toD 62 h) ws with
              | some ds => some (PyData.list ds)
              | none => none)
            | none => none) = _
          rw [list_at g]; dsimp only; rw [e3]
        show (match mapO (toD 63 h) [.loc a, .int m] with
          | some ds => some (PyData.tuple ds)
          | none => none) = _
        rw [mapO_cons, e4]; rfl
      refine ⟨_ :: ds, by rw [mapO_cons, e1]; dsimp only; rw [e2], ?_, ?_, by simp [l2]⟩
      · show ((PyData.canLayAll0 (pds (cs.map .int)) && (true && true)) && PyData.canLayAll0 ds) = true
        rw [lays_pur _ (purs_ints cs), c2]; rfl
      · show max (max (PyData.depthAll (pds (cs.map .int)) + 1) (max 0 0) + 1) (PyData.depthAll ds) ≤ 5
        rw [depth_ints]; omega
  obtain ⟨ds, e, c, p, l⟩ := go ws H
  have d1 : dat h (.loc r) = some (.list ds) := by
    show (match listAt h r with
      | some ws => (match mapO (toD 64 h) ws with
        | some ds => some (PyData.list ds)
        | none => none)
      | none => none) = _
    rw [list_at g]; dsimp only; rw [e]
  have d2 : dat h (.loc a) = some (.list []) := by
    show (match listAt h a with
      | some ws => (match mapO (toD 64 h) ws with
        | some ds => some (PyData.list ds)
        | none => none)
      | none => none) = _
    rw [list_at ga]; rfl
  have s1 : SeqAt.shaped (.list ds) = true := by
    unfold SeqAt.shaped
    rw [show (PyData.list ds).canLay0 = PyData.canLayAll0 ds from rfl, c, show (PyData.list ds).depth = PyData.depthAll ds + 1 from rfl, decide_eq_true (by omega)]; rfl
  refine ⟨_, eqW_dat rfl d1 d2 s1 (by decide), ?_⟩
  cases ws with
  | nil =>
    cases ds with
    | nil => exact ⟨fun _ => rfl, fun _ => rfl⟩
    | cons d ds => simp at l
  | cons w ws =>
    cases ds with
    | nil => simp at l
    | cons d ds => exact ⟨fun q => (by cases q), fun q => (by cases q)⟩
/-- what may be put at a walk's place -/
def Itm (q : Nat) (y : W) : Prop := (∃ i : Int, y = .int i ∧ i.natAbs < 10 ^ 12) ∨ y = .non ∨ y = .str "0" ∨ y = .tup [.int 0] ∨ y = .loc q ∨ y = .bl true
theorem Itm.iv {q : Nat} {y : W} (i : Itm q y) (g : h.get q = some (.lst [.int 0])) (pq : px q = false) : Iv px h y := by
  rcases i with ⟨i, e, s⟩ | e | e | e | e | e
  · rw [e]; exact Iv.int s
  · rw [e]; exact ⟨V.non.mono (by decide) (by decide), .non⟩
  · rw [e]; exact ⟨(V.str (n := 2) (by decide +kernel) (by decide +kernel)).mono (by decide) (by decide), .str _ (by decide +kernel)⟩
  · rw [e]; exact ⟨(Vs.tup (m := 0) (Vs.cons (V.int (by decide)) Vs.nil) (by decide)).mono (by decide) (by decide), .tup 0⟩
  · rw [e]; exact ⟨(Vs.lst (m := 0) (Vs.cons (V.int (by decide)) Vs.nil) (by decide) g pq).mono (by decide) (by decide), .lst q 0 g⟩
  · rw [e]; exact ⟨V.bl.mono (by decide) (by decide), .bl true⟩
theorem x_insN {r : Nat} {i : Int} {w : W} {ws : List W} {P : W → IH → Prop} (g : h.get r = some (.lst ws)) (hl : ws.length < 16777216) (i0 : 0 ≤ i) (i1 : i < 1000000) : (mInsert [.loc r, .int i, w] h).Wp P = P .non (h.set r (.lst (ws.take i.toNat ++ [w] ++ ws.drop i.toNat))) := by
  unfold mInsert; dsimp only; rw [g]; dsimp only
  rw [need_wp, blt_of hl, decide_eq_true i0, decide_eq_true i1]
  exact propext ⟨fun z => z.2, fun z => ⟨rfl, z⟩⟩
theorem x_popN {r : Nat} {i : Int} {ws : List W} {P : W → IH → Prop} (g : h.get r = some (.lst ws)) (i0 : 0 ≤ i) (i1 : i < ws.length) (l : ws.length ≤ 1000) : (mPop1 [.loc r, .int i] h).Wp P = P (ws[i.toNat]'(by omega)) (h.set r (.lst (ws.eraseIdx i.toNat))) := by
  unfold mPop1; dsimp only; rw [g]; dsimp only
  have e : L2.ixN ws.length i = some i.toNat := by
    unfold L2.ixN
    rw [if_pos i0, if_pos i1]
  rw [e]; dsimp only
  rw [List.getElem?_eq_getElem (show i.toNat < ws.length by omega)]; dsimp only
  have s : small i = true := by
    unfold small; rw [decide_eq_true (by omega), decide_eq_true (by omega)]; rfl
  rw [need_wp, s]
  exact propext ⟨fun z => z.2, fun z => ⟨rfl, z⟩⟩
end
end K25

set_option linter.all false
set_option linter.unusedSimpArgs false
set_option maxRecDepth 100000
set_option maxHeartbeats 1000000
namespace K25
open PySem Fw
/-! ### the law's values near a list of walks -/
def S36 (Φ : FT) : Prop := ∀ {c : Nat} {px : Nat → Bool} (p : Nat) (b : Int) (us fns : List W) (f u : Int) (body : List W) (ops : List Op) (h : IH), Px px p h → Pen c h p b → b < 400000 → Fun fns f body ops → (Φ 36 [.loc p, .tup [.tup us, .tup fns], .int f, .int u, .int ops.length] h).Wp (wlsP px c p b h)
theorem ph36 (k : Nat) : S36 (Phi gk tab (k + 5)) := fun {c px} p b us fns f u body ops h P hp hb F => by
  have H : TkO (Phi gk tab (k + 4)) := phTk (k + 2)
  have H2 : PkO (Phi gk tab (k + 4)) := phPk (k + 1)
  have H3 : S35 (Phi gk tab (k + 4)) := ph35 k
  have l8 := F.ok.l8
  have pl := hp.lt
  have cl := hp.ltc
  rw [phi36, x_callB (by rfl)]
  show (m36 _ [some (.loc p), some (.tup [.tup us, .tup fns]), some (.int f), some (.int u), some (.int ops.length), none, none, none, none, none, none, none, none, none] h).Wp _
  unfold m36
  rw [x_seq, x_asg]
  refine lst_step ?_
  rw [x_nil]
  refine ⟨by simp, fun h1 r5 k1 g5 a5 => ?_⟩
  rw [n5]
  dsimp only
  have z5 : r5 ≠ p := by omega
  have p5 : px r5 = false := P.2 _ a5
  rw [x_seq]
  refine for_rng ?_
  rw [x_call, x_cons, v0, x_cons, x_C, x_nil]
  refine (H p b 4 h1 (hp.keep k1) (by omega) (by omega) (by omega)).mono fun w h2 ⟨v, ew, w0, w1, f2, p2⟩ => ?_
  subst ew
  have F2 := (k1.fr (p := p)).trans f2
  have g5 := (f2.2 _ (IH.get_lt g5) z5).trans g5
  refine ⟨v.toNat, by rw [Int.toNat_of_nonneg w0], by omega, fun i e h3 => ∃ (xs : List W) (s6 : Option W), h3.get r5 = some (.lst xs) ∧ xs.length = i ∧ (∀ x ∈ xs, Wp_ px r5 h.n h3 x) ∧ Fr p h h3 ∧ Pen c h3 p (b + 1 + 50 * i) ∧
    e = [some (.loc p), some (.tup [.tup us, .tup fns]), some (.int f), some (.int u), some (.int ops.length), some (.loc r5), s6, none, none, none, none, none, none, none], ⟨[], none, g5, rfl, fun x hx => (by cases hx), F2, p2.mono (by omega), rfl⟩, ?_, ?_⟩
  · rintro i e h3 il ⟨xs, s6, g3, xl, wx, f3, p3, rfl⟩
    rw [n6, x_seq, x_expr, x_mt, v5]
    refine ⟨isLst_at g3, ?_⟩
    rw [x_cons, x_tup, x_cons, x_call, x_cons, v0, x_cons, v1, x_cons, v2, x_cons, v3, x_nil]
    refine (H3 p _ us fns f u body ops h3 p3 (by omega) F).mono fun w h4 ⟨a, cs, ew, ga, ne, cl', rg, al, f4, p4⟩ => ?_
    subst ew
    rw [x_cons, x_e2, x_C, x_call, x_cons, v0, x_cons, x_C, x_nil]
    refine (H p _ 3 h4 p4 (by omega) (by omega) (by omega)).mono fun w h5 ⟨v', ew, w0', w1', f5, p5'⟩ => ?_
    subst ew
    rw [x_add, x_nil]
    refine ⟨by rfl, ?_⟩
    have f45 := f4.trans f5
    have g5' := (f45.2 _ (IH.get_lt g3) z5).trans g3
    have pa : px a = false := P.2 _ (by have := f3.1; omega)
    have ap : a ≠ p := fun e => by rw [e, P.1] at pa; cases pa
    have ga5 := (f5.2 _ (IH.get_lt ga) ap).trans ga
    have ar : a ≠ r5 := by have := IH.get_lt g3; omega
    rw [x_nil, x_app g5' (by omega), x_next]
    have l5 := IH.get_lt g5'
    have cl5 := p5'.ltc
    have hc0 := hp.ltc
    refine ⟨xs ++ [.tup [.loc a, .int (1 + v')]], _, by rw [IH.get_set _ _ _ _ l5, if_pos rfl], by rw [List.length_append, xl]; rfl, fun x hx => ?_, (f3.trans f45).setr l5 a5, (p5'.setr z5 (fun e => by omega) l5).mono (by omega), rfl⟩
    have set' : ∀ (a : Nat) (cc : Cell), px a = false → a ≠ r5 → h5.get a = some cc → (h5.set r5 (.lst (xs ++ [.tup [.loc a, .int (1 + v')]]))).get a = some cc := fun a cc _ ne g => by rw [IH.get_set _ _ _ _ l5, if_neg ne]; exact g
    rcases List.mem_append.mp hx with hx | hx
    · refine (wx x hx).fr fun a' cc pa' ne' g' => ?_
      rw [IH.get_set _ _ _ _ l5, if_neg ne']
      have : a' ≠ p := fun e => by rw [e, P.1] at pa'; cases pa'
      rw [f45.2 _ (IH.get_lt g') this]; exact g'
    · rw [List.mem_singleton.mp hx]
      exact ⟨a, cs, 1 + v', rfl, by rw [IH.get_set _ _ _ _ l5, if_neg ar]; exact ga5, pa, ar, by have := f3.1; omega, ne, cl', fun c hc => by have := rg c hc; omega, by omega, by omega⟩
  rintro e h3 ⟨xs, s6, g3, xl, wx, f3, p3, rfl⟩
  have vb : v.toNat ≤ 3 := by omega
  rw [x_seq, x_asg, x_call, x_cons, v0, x_cons, x_C, x_nil]
  refine (H p _ 12 h3 p3 (by omega) (by omega) (by omega)).mono fun w h4 ⟨way, ew, y0, y1, f4, p4⟩ => ?_
  subst ew
  have tr : ∀ {h h' : IH}, Fr p h h' → ∀ (a : Nat) (cc : Cell), px a = false → h.get a = some cc → h'.get a = some cc := fun {h h'} ff a cc pa g => by
    have : a ≠ p := fun e => by rw [e, P.1] at pa; cases pa
    rw [ff.2 _ (IH.get_lt g) this]; exact g
  have wx : ∀ x ∈ xs, Wp_ px r5 h.n h4 x := fun x hx => (wx x hx).fr fun a cc pa _ g => tr f4 a cc pa g
  have g4 := tr f4 r5 _ p5 g3
  have F4 := f3.trans f4
  clear f4 g3 p3 f3 F2 f2 p2 g5
  have bb : b + 1 + 50 * (v.toNat : Int) + 1 ≤ b + 152 := by omega
  have p4 := p4.mono bb
  rw [n7]
  dsimp only
  rw [x_seq, x_if, x_or, x_bol, x_e2, v5]
  refine lst_step ?_
  rw [x_nil]
  refine ⟨by simp, fun h5 q1 K gq _ => ?_⟩
  have wx : ∀ x ∈ xs, Wp_ px r5 h.n h5 x := fun x hx => (wx x hx).fr fun a cc pa _ g => K.at g
  have g4 := K.at g4; have F4 := F4.trans K.fr; have p4 := p4.keep K
  refine w_eqL (eqW_prs g4 gq wx) fun cc hc => ?_
  rw [x_bolW]
  have ret : (wlsP px c p b h (.loc r5) h5) := by
    obtain ⟨x, y⟩ := fin_list g4 p5 (fun x hx => (wx x hx).fx) (by omega)
    exact ⟨x, y, F4, p4.mono (by omega)⟩
  cases cc with
  | true =>
    refine ⟨fun _ => ⟨fun _ => ?_, fun z => Bool.noConfusion z⟩, fun z => Bool.noConfusion z⟩
    rw [x_seq, x_ret, v5]
    exact ret
  | false =>
  refine ⟨fun z => Bool.noConfusion z, fun _ => ?_⟩
  rw [x_bol, x_e2, v7, x_C, x_gt, x_bolW]
  refine ⟨fun _ => ?_, fun qw => ?_⟩
  · rw [x_seq, x_ret, v5]
    exact ret
  have qw := of_decide_eq_false qw
  have xne : xs ≠ [] := fun e => by have := hc.mpr e; cases this
  have xpos : 0 < xs.length := List.length_pos_iff.mpr xne
  rw [x_next, x_seq, x_asg, x_call, x_cons, v0, x_cons, x_eA, x_cons, v5, x_nil, x_lenL g4, x_nil]
  refine (H p _ (xs.length : Int) h5 p4 (by omega) (by omega) (by omega)).mono fun w h6 ⟨bent, ew, b0, b1, f6, p6⟩ => ?_
  subst ew
  have wx : ∀ x ∈ xs, Wp_ px r5 h.n h6 x := fun x hx => (wx x hx).fr fun a cc pa _ g => tr f6 a cc pa g
  have g6 := tr f6 r5 _ p5 g4
  have F6 := F4.trans f6
  clear ret f6 F4 p4 g4 K gq
  rw [n8]
  dsimp only
  have hx : xs[bent.toNat]? = some xs[bent.toNat] := List.getElem?_eq_getElem (by omega)
  generalize xs[bent.toNat] = x at hx
  obtain ⟨a, cs, m, rfl, ga, pa, ar, a0, ne, cl', rg, m0, m1⟩ := wx x (List.mem_of_getElem? hx)
  rw [x_seq, x_asg, x_e2, v5, v8, x_ix g6 b0 hx, x_tp]
  refine ⟨rfl, ?_⟩
  rw [x_gs1, n9, x_gs1, n10, x_gs0]
  dsimp only
  have cpos : 0 < cs.length := List.length_pos_iff.mpr ne
  rw [x_seq, x_par2, x_call, x_cons, v0, x_cons, x_eA, x_cons, v9, x_nil, x_lenL ga, x_nil, List.length_map]
  refine (H p _ (cs.length : Int) h6 p6 (by omega) (by omega) (by omega)).mono fun w h7 ⟨at_, ew, t0, t1, f7, p7⟩ => ?_
  subst ew
  rw [x_call, x_cons, v0, x_cons, x_e2, v4, x_C, x_add, x_nil]
  refine (H p _ ((ops.length : Int) + 1) h7 p7 (by omega) (by omega) (by omega)).mono fun w h8 ⟨pla, ew, e0, e1', f8, p8⟩ => ?_
  subst ew
  have f78 := f7.trans f8
  have wx : ∀ x ∈ xs, Wp_ px r5 h.n h8 x := fun x hx => (wx x hx).fr fun a cc pa _ g => tr f78 a cc pa g
  have g8 := tr f78 r5 _ p5 g6
  have ga := tr f78 a _ pa ga
  have F8 := F6.trans f78
  clear f78 f7 f8 p6 p7 F6 g6
  rw [n11, n12]
  try dsimp only
  -- the place, or what is none
  rw [x_seq, x_asg, x_call, x_cons, v0, x_cons, x_e2, x_e2]
  refine lst_step ?_
  rw [x_cons, v12, x_nil]
  refine ⟨by simp, fun h9 q1 K gq1 _ => ?_⟩
  have wx : ∀ x ∈ xs, Wp_ px r5 h.n h9 x := fun x hx => (wx x hx).fr fun a cc pa _ g => K.at g
  have g9 := K.at g8; have ga := K.at ga; have F9 := F8.trans K.fr; have p9 := p8.keep K
  rw [x_C]
  show (oMul (.loc q1) (.int ((6 : Nat) : Int)) h9).Wp _
  rw [x_mulN gq1 (by simp) (by decide)]
  have K : Keep h9 (h9.new (.lst (List.replicate 6 [W.int pla]).flatten)) := Keep.new
  have gq2 : (h9.new (.lst (List.replicate 6 [W.int pla]).flatten)).get h9.n = some (.lst (List.replicate 6 [W.int pla]).flatten) := IH.get_new_self _ _
  have wx : ∀ x ∈ xs, Wp_ px r5 h.n (h9.new (.lst (List.replicate 6 [W.int pla]).flatten)) x := fun x hx => (wx x hx).fr fun a cc pa _ g => K.at g
  have g9 := K.at g9; have ga := K.at ga; have F9 := F9.trans K.fr; have p9 := p9.keep K
  generalize h9.n = q2 at gq2 ⊢
  generalize h9.new (.lst (List.replicate 6 [W.int pla]).flatten) = h10 at gq2 wx g9 ga F9 p9 ⊢
  refine lst_step ?_
  rw [x_cons, x_C, x_cons, x_C, x_cons, x_tup, x_cons, x_C, x_nil]
  refine ⟨by rfl, ?_⟩
  rw [x_cons]
  refine lst_step ?_
  rw [x_cons, x_C, x_nil]
  refine ⟨by simp, fun h11 q3 K gq3 q3l => ?_⟩
  have wx : ∀ x ∈ xs, Wp_ px r5 h.n h11 x := fun x hx => (wx x hx).fr fun a cc pa _ g => K.at g
  have F10 := F9.1
  have q3r : a ≠ q3 := by have := IH.get_lt ga; omega
  have p3' : px q3 = false := P.2 _ (by omega)
  have g9 := K.at g9; have ga := K.at ga; have gq2 := K.at gq2; have F9 := F9.trans K.fr; have p9 := p9.keep K
  rw [x_cons, x_C, x_nil]
  refine ⟨by simp, fun h12 q4 K gq4 _ => ?_⟩
  have wx : ∀ x ∈ xs, Wp_ px r5 h.n h12 x := fun x hx => (wx x hx).fr fun a cc pa _ g => K.at g
  have g9 := K.at g9; have ga := K.at ga; have gq2 := K.at gq2; have gq3 := K.at gq3; have F9 := F9.trans K.fr; have p9 := p9.keep K
  have l6 : (List.replicate 6 [W.int pla]).flatten.length = 6 := len_rep
  refine cat_step gq2 gq4 (by rw [l6]; show 6 + 5 ≤ 1000; omega) fun h13 q5 K gq5 q5l => ?_
  have z13 : q5 ≠ p := by have := p9.lt; omega
  have wx : ∀ x ∈ xs, Wp_ px r5 h.n h13 x := fun x hx => (wx x hx).fr fun a cc pa _ g => K.at g
  have g9 := K.at g9; have ga := K.at ga; have gq3 := K.at gq3; have F9 := F9.trans K.fr; have p9 := p9.keep K
  have IL : ∀ y ∈ (List.replicate 6 [W.int pla]).flatten ++ [.non, .str "0", .tup [.int 0], .loc q3, .bl true], Itm q3 y := fun y hy => by
    rcases List.mem_append.mp hy with hy | hy
    · rw [mem_rep hy]; exact .inl ⟨pla, rfl, small_i (by omega) (by omega)⟩
    · rcases List.mem_cons.mp hy with e | hy
      · exact .inr (.inl e)
      rcases List.mem_cons.mp hy with e | hy
      · exact .inr (.inr (.inl e))
      rcases List.mem_cons.mp hy with e | hy
      · exact .inr (.inr (.inr (.inl e)))
      rcases List.mem_cons.mp hy with e | hy
      · exact .inr (.inr (.inr (.inr (.inl e))))
      · exact .inr (.inr (.inr (.inr (.inr (List.mem_singleton.mp hy)))))
  have lI : ((List.replicate 6 [W.int pla]).flatten ++ [W.non, .str "0", .tup [.int 0], .loc q3, .bl true]).length = 11 := by rw [List.length_append, l6]; rfl
  generalize (List.replicate 6 [W.int pla]).flatten ++ [W.non, .str "0", .tup [.int 0], .loc q3, .bl true] = IT_ at IL lI gq5
  rw [x_nil]
  refine (H2 p q5 _ IT_ h13 p9 gq5 z13 (by omega) (by intro e; rw [e] at lI; cases lI) (by omega)).mono fun it h14 ⟨im, f14, p14⟩ => ?_
  have I1 := IL it im
  have wx : ∀ x ∈ xs, Wp_ px r5 h.n h14 x := fun x hx => (wx x hx).fr fun a cc pa _ g => tr f14 a cc pa g
  have g14 := tr f14 r5 _ p5 g9
  have ga := tr f14 a _ pa ga
  have gq3 := tr f14 q3 _ p3' gq3
  have F14 := F9.trans f14
  have p14 : Pen c h14 p (b + 160) := p14.mono (by omega)
  clear IL gq5 f14 gq4 gq2 gq1 p9 p8
  rw [n12]
  dsimp only
  have la := IH.get_lt ga
  have l14 := IH.get_lt g14
  have ap : a ≠ p := by omega
  have ac : a ≠ c := by omega
  -- a walk changed in place
  have inPl : ∀ us : List W, us.length ≤ 40 → (∀ y ∈ us, (∃ c ∈ cs, y = .int c) ∨ y = it) → wlsP px c p b h (.loc r5) (h14.set a (.lst us)) := fun us ul ui => by
    have e5 : (h14.set a (.lst us)).get r5 = some (.lst xs) := by rw [IH.get_set _ _ _ _ la, if_neg (fun e => ar e.symm)]; exact g14
    have e3 : (h14.set a (.lst us)).get q3 = some (.lst [.int 0]) := by rw [IH.get_set _ _ _ _ la, if_neg (fun e => q3r e.symm)]; exact gq3
    have ea : (h14.set a (.lst us)).get a = some (.lst us) := by rw [IH.get_set _ _ _ _ la, if_pos rfl]
    have iv : ∀ y ∈ us, Iv px (h14.set a (.lst us)) y := fun y hy => by
      rcases ui y hy with ⟨d, hd, e⟩ | e
      · rw [e]; have := rg d hd; exact Iv.int (small_i (by omega) (by omega))
      · rw [e]; exact I1.iv e3 p3'
    obtain ⟨x, y⟩ := fin_list e5 p5 (fun x hx => by
      obtain ⟨a', cs', m', rfl, g', pa', _, _, _, l', rg', n0, n1⟩ := wx x hx
      by_cases q : a' = a
      · subst q; exact Fx.walk ea pa iv ul (by omega) (by omega)
      · exact Fx.walk (by rw [IH.get_set _ _ _ _ la, if_neg q]; exact g') pa' (Iv.ints rg') (by rw [List.length_map]; omega) (by omega) (by omega)) (by omega)
    exact ⟨x, y, F14.setr la a0, (p14.setr ap ac la).mono (by omega)⟩
  -- a pair replaced
  have rep : ∀ (h' : IH) (b' : Int) (y : W), h'.get r5 = some (.lst xs) → (∀ x ∈ xs, Wp_ px r5 h.n h' x) → Fr p h h' → Pen c h' p b' → b' ≤ b + 400 → Fx px (h'.set r5 (.lst (xs.set bent.toNat y))) y → wlsP px c p b h (.loc r5) (h'.set r5 (.lst (xs.set bent.toNat y))) := fun h' b' y g' wx' f' p' bb fy => by
    have l' := IH.get_lt g'
    have e5 : (h'.set r5 (.lst (xs.set bent.toNat y))).get r5 = some (.lst (xs.set bent.toNat y)) := by rw [IH.get_set _ _ _ _ l', if_pos rfl]
    obtain ⟨x, y⟩ := fin_list e5 p5 (fun x hx => by
      rcases List.mem_or_eq_of_mem_set hx with hx | e
      · exact ((wx' x hx).fr fun a cc _ ne g => by rw [IH.get_set _ _ _ _ l', if_neg ne]; exact g).fx
      · rw [e]; exact fy) (by rw [List.length_set]; omega)
    exact ⟨x, y, f'.setr l' a5, (p'.setr z5 (by omega) l').mono bb⟩
  have mr : ∀ (us : List W) (i : Nat), (∀ y ∈ us, y ∈ cs.map W.int ∨ y = it) → ∀ y ∈ us, (∃ c ∈ cs, y = .int c) ∨ y = it := fun us i hu y hy => by
    rcases hu y hy with q | q
    · obtain ⟨d, hd, e⟩ := List.mem_map.mp q
      exact .inl ⟨d, hd, e.symm⟩
    · exact .inr q
  have lm : (cs.map W.int).length = cs.length := List.length_map _
  rw [x_seq, x_if, x_bol, x_e2, v7, x_C, x_eqI, x_bolW]
  refine ⟨fun _ => ?_, fun _ => ?_⟩
  · rw [x_seq, x_asg, v12, x_sb, v9, v11, x_set ga t0 (by omega)]
    dsimp only
    rw [x_next, x_seq, x_ret, v5]
    exact inPl _ (by rw [List.length_set]; omega) (mr _ 0 fun y hy => List.mem_or_eq_of_mem_set hy)
  rw [x_seq, x_if, x_bol, x_e2, v7, x_C, x_eqI, x_bolW]
  refine ⟨fun _ => ?_, fun _ => ?_⟩
  · rw [x_seq, x_expr, x_mt, v9]
    refine ⟨isLst_at ga, ?_⟩
    rw [x_cons, v11, x_cons, v12, x_nil, x_insN ga (by omega) t0 (by omega), x_next, x_next, x_seq, x_ret, v5]
    refine inPl _ (by simp; omega) (mr _ 0 fun y hy => ?_)
    rcases List.mem_append.mp hy with hy | hy
    · rcases List.mem_append.mp hy with hy | hy
      · exact .inl (List.mem_of_mem_take hy)
      · exact .inr (List.mem_singleton.mp hy)
    · exact .inl (List.mem_of_mem_drop hy)
  rw [x_seq, x_if, x_bol, x_e2, v7, x_C, x_eqI, x_bolW]
  refine ⟨fun _ => ?_, fun _ => ?_⟩
  · rw [x_seq, x_expr, x_mt, v9]
    refine ⟨isLst_at ga, ?_⟩
    rw [x_cons, v11, x_nil, x_popN ga t0 (by omega) (by omega), x_next, x_next, x_next, x_seq, x_ret, v5]
    exact inPl _ (by have := List.length_eraseIdx_le (cs.map W.int) at_.toNat; omega) (mr _ 0 fun y hy => .inl (List.mem_of_mem_eraseIdx hy))
  rw [x_seq, x_if, x_bol, x_e2, v7, x_C, x_eqI, x_bolW]
  refine ⟨fun _ => ?_, fun _ => ?_⟩
  · rw [x_seq, x_asg, x_tup, x_cons, v9, x_cons, x_call, x_cons, v0, x_cons]
    refine lst_step ?_
    rw [x_cons, x_C, x_cons, Fw.x_e1, x_C, x_neg, x_cons, x_C, x_cons, x_C, x_cons, x_C, x_cons, x_e2, x_C, x_C, x_pow]
    refine ⟨⟨by decide, by decide⟩, ?_⟩
    rw [x_nil]
    refine ⟨by simp, fun h15 q6 K gq6 q6l => ?_⟩
    have wx : ∀ x ∈ xs, Wp_ px r5 h.n h15 x := fun x hx => (wx x hx).fr fun a cc pa _ g => K.at g
    have g15 := K.at g14; have ga := K.at ga; have F15 := F14.trans K.fr
    have z15 : q6 ≠ p := by have := p14.lt; omega
    have p15 := p14.keep K
    rw [x_nil]
    refine (H2 p q6 _ _ h15 p15 gq6 z15 (by omega) (by simp) (by simp)).mono fun y h16 ⟨ym, f16, p16⟩ => ?_
    have wx : ∀ x ∈ xs, Wp_ px r5 h.n h16 x := fun x hx => (wx x hx).fr fun a cc pa _ g => tr f16 a cc pa g
    have g16 := tr f16 r5 _ p5 g15
    have ga := tr f16 a _ pa ga
    have F16 := F15.trans f16
    have l16 := IH.get_lt g16
    rw [x_nil]
    refine ⟨by rfl, ?_⟩
    rw [x_sb, v5, v8, x_set g16 b0 (by omega)]
    dsimp only
    rw [x_next, x_next, x_next, x_next, x_seq, x_ret, v5]
    refine rep h16 _ _ g16 wx F16 p16 (by omega) ?_
    have ea : ∀ cc, (h16.set r5 cc).get a = some (.lst (cs.map .int)) := fun cc => by rw [IH.get_set _ _ _ _ l16, if_neg ar]; exact ga
    have e9 : (10 : Int) ^ (9 : Int).toNat = 1000000000 := by decide
    rw [e9] at ym
    have yy : ∀ hh, V px hh 10 2 y ∧ It hh y ∧ ∀ n, y = .int n → n ≤ 100000000000000000000 := fun hh => by
      rcases List.mem_cons.mp ym with e | ym
      · rw [e]; exact ⟨Vi (by decide), .int 0, fun n e => by cases e; decide⟩
      rcases List.mem_cons.mp ym with e | ym
      · rw [e]; exact ⟨Vi (by decide), .int (-1), fun n e => by cases e; decide⟩
      rcases List.mem_cons.mp ym with e | ym
      · rw [e]; exact ⟨V.bl.mono (by decide) (by decide), .bl true, fun n e => by cases e⟩
      rcases List.mem_cons.mp ym with e | ym
      · rw [e]; exact ⟨V.non.mono (by decide) (by decide), .non, fun n e => by cases e⟩
      rcases List.mem_cons.mp ym with e | ym
      · rw [e]; exact ⟨(V.str (n := 2) (by decide +kernel) (by decide +kernel)).mono (by decide) (by decide), .str _ (by decide +kernel), fun n e => by cases e⟩
      · rw [List.mem_singleton.mp ym]; exact ⟨Vi (by decide), .int _, fun n e => by cases e; decide⟩
    obtain ⟨y1', y2, y3⟩ := yy (h16.set r5 (.lst (xs.set bent.toNat (.tup [.loc a, y]))))
    exact Fx.pair (V_items (ea _) pa (Iv.ints rg) (by omega)) (Gw.list (ea _) (fun z hz => (Iv.ints (px := px) rg z hz).i) (by omega)) y1' y2 y3 (by decide) (by decide)
  rw [x_seq, x_if, x_bol, x_e2, v7, x_C, x_eqI, x_bolW]
  refine ⟨fun _ => ?_, fun _ => ?_⟩
  · rw [x_seq, x_asg]
    refine lst_step ?_
    rw [x_cons, v9, x_cons]
    refine lst_step ?_
    rw [x_cons, v9, x_cons, v10, x_nil]
    refine ⟨by simp, fun h15 w1 K gw1 w1l => ?_⟩
    have wx : ∀ x ∈ xs, Wp_ px r5 h.n h15 x := fun x hx => (wx x hx).fr fun a cc pa _ g => K.at g
    have g15 := K.at g14; have ga := K.at ga; have F14n := F14.1; have F15 := F14.trans K.fr; have p15 := p14.keep K
    have pw1 : px w1 = false := P.2 _ (by omega)
    have w1r : w1 ≠ r5 := by omega
    rw [x_cons, x_tup, x_cons, x_eA, x_cons, v9, x_nil, x_tupL ga, x_cons, v10, x_nil]
    refine ⟨by rfl, ?_⟩
    rw [x_cons, x_tup, x_cons, v9, x_cons, v10, x_cons, x_C, x_nil]
    refine ⟨by rfl, ?_⟩
    rw [x_cons, x_C, x_cons, x_tup, x_cons, x_C, x_cons, x_C, x_nil]
    refine ⟨by rfl, ?_⟩
    rw [x_cons, x_tup, x_cons, x_C, x_cons, x_C, x_nil]
    refine ⟨by rfl, ?_⟩
    rw [x_cons, x_tup, x_cons, x_dic0]
    have K : Keep h15 (h15.new (.dk [])) := Keep.new
    have gd1 : (h15.new (.dk [])).get h15.n = some (.dk []) := IH.get_new_self _ _
    have pd1 : px h15.n = false := P.2 _ F15.1
    have d1r : h15.n ≠ r5 := by have := IH.get_lt g15; omega
    have wx : ∀ x ∈ xs, Wp_ px r5 h.n (h15.new (.dk [])) x := fun x hx => (wx x hx).fr fun a cc pa _ g => K.at g
    have g15 := K.at g15; have ga := K.at ga; have gw1 := K.at gw1; have F15 := F15.trans K.fr; have p15 := p15.keep K
    generalize h15.n = d1 at gd1 pd1 d1r ⊢
    generalize h15.new (.dk []) = h16 at gd1 wx g15 ga gw1 F15 p15 ⊢
    rw [x_cons, x_C, x_nil]
    refine ⟨by rfl, ?_⟩
    rw [x_nil]
    refine ⟨by simp, fun h17 q6 K gq6 q6l => ?_⟩
    have wx : ∀ x ∈ xs, Wp_ px r5 h.n h17 x := fun x hx => (wx x hx).fr fun a cc pa _ g => K.at g
    have z17 : q6 ≠ p := by have := p15.lt; omega
    have g17 := K.at g15; have ga := K.at ga; have gw1 := K.at gw1; have gd1 := K.at gd1; have F17 := F15.trans K.fr; have p17 := p15.keep K
    rw [n13]
    dsimp only
    rw [x_seq, x_asg, x_call, x_cons, v0, x_cons, v13, x_nil]
    refine (H2 p q6 _ _ h17 p17 gq6 z17 (by omega) (by simp) (by simp)).mono fun y h18 ⟨ym, f18, p18⟩ => ?_
    have wx : ∀ x ∈ xs, Wp_ px r5 h.n h18 x := fun x hx => (wx x hx).fr fun a cc pa _ g => tr f18 a cc pa g
    have g18 := tr f18 r5 _ p5 g17
    have ga := tr f18 a _ pa ga
    have gw1 := tr f18 w1 _ pw1 gw1
    have gd1 := tr f18 d1 _ pd1 gd1
    have F18 := F17.trans f18
    have l18 := IH.get_lt g18
    rw [x_sb, v5, v8, x_set g18 b0 (by omega)]
    dsimp only
    rw [x_next, x_next, x_next, x_next, x_next, x_seq, x_ret, v5]
    refine rep h18 _ _ g18 wx F18 p18 (by omega) ?_
    have keep : ∀ q cc ce, q ≠ r5 → h18.get q = some ce → (h18.set r5 cc).get q = some ce := fun q cc ce ne g => by rw [IH.get_set _ _ _ _ l18, if_neg ne]; exact g
    generalize hcc : Cell.lst (xs.set bent.toNat y) = cc
    have ea := keep a cc _ ar ga
    have ew := keep w1 cc _ w1r gw1
    have ed := keep d1 cc _ d1r gd1
    generalize h18.set r5 cc = h19 at ea ew ed ⊢
    have va : V px h19 450 3 (.loc a) := V_items ea pa (Iv.ints rg) (by omega)
    have vm : V px h19 10 2 (.int m) := Vi (small_i (by omega) (by omega))
    have vt : V px h19 20 1 (.tup (cs.map .int)) := (Vs.tup (m := 0) (Vs.of (n := 0) (m := 0) fun w hw => by
      obtain ⟨d, hd, rfl⟩ := List.mem_map.mp hw
      have := rg d hd
      exact V.int (small_i (by omega) (by omega))) (by decide)).mono (by omega) (by decide)
    rcases List.mem_cons.mp ym with e | ym
    · rw [e]; exact Fx.no va (fun _ _ e => by cases e)
    rcases List.mem_cons.mp ym with e | ym
    · rw [e]; exact Fx.no ((Vs.lst (m := 3) (Vs.cons va (Vs.cons (vm.mono (Nat.le_refl _) (by decide)) Vs.nil)) (by decide) ew pw1)) (fun _ _ e => by cases e)
    rcases List.mem_cons.mp ym with e | ym
    · rw [e]; exact Fx.pair vt (Gw.other vt.kn fun _ e => by cases e) vm (.int m) (fun n e => by cases e; omega) (by decide) (by decide)
    rcases List.mem_cons.mp ym with e | ym
    · rw [e]; exact Fx.no (Vs.tup (m := 3) (Vs.cons va (Vs.cons (vm.mono (Nat.le_refl _) (by decide)) (Vs.cons ((V.int (i := 0) (by decide)).mono (n' := 0) (m' := 3) (by decide) (by decide)) Vs.nil))) (by decide)) (fun _ _ e => by cases e)
    rcases List.mem_cons.mp ym with e | ym
    · rw [e]; exact Fx.no V.non (fun _ _ e => by cases e)
    rcases List.mem_cons.mp ym with e | ym
    · rw [e]; exact Fx.pair V.non (Gw.other rfl fun _ e => by cases e) (Vi (by decide)) (.int 1) (fun n e => by cases e; decide) (by decide) (by decide)
    rcases List.mem_cons.mp ym with e | ym
    · rw [e]; exact Fx.pair (V.int (i := 7) (by decide)) (Gw.other rfl fun _ e => by cases e) (Vi (by decide)) (.int 1) (fun n e => by cases e; decide) (by decide) (by decide)
    · rw [List.mem_singleton.mp ym]
      have vd := V.dct ed pd1
      exact Fx.pair vd ⟨vd.kn, fun a' ws e g' => by cases e; rw [ed] at g'; cases g'⟩ (Vi (by decide)) (.int 1) (fun n e => by cases e; decide) (by decide) (by decide)
  · rw [x_seq, x_ret, x_call, x_cons, v0, x_cons]
    refine lst_step ?_
    rw [x_cons, x_C, x_cons, x_eA, x_cons, v5, x_nil, x_tupL g14, x_cons, x_dic0]
    have K : Keep h14 (h14.new (.dk [])) := Keep.new
    have gd1 : (h14.new (.dk [])).get h14.n = some (.dk []) := IH.get_new_self _ _
    have pd1 : px h14.n = false := P.2 _ F14.1
    have wx : ∀ x ∈ xs, Wp_ px r5 h.n (h14.new (.dk [])) x := fun x hx => (wx x hx).fr fun a cc pa _ g => K.at g
    have F15 := F14.trans K.fr
    have p15 := p14.keep K
    generalize h14.n = d1 at gd1 pd1 ⊢
    generalize h14.new (.dk []) = h15 at gd1 wx F15 p15 ⊢
    rw [x_cons, x_C, x_cons]
    refine lst_step ?_
    rw [x_cons]
    refine lst_step ?_
    rw [x_nil]
    refine ⟨by simp, fun h16 i1 K gi1 i1l => ?_⟩
    have wx : ∀ x ∈ xs, Wp_ px r5 h.n h16 x := fun x hx => (wx x hx).fr fun a cc pa _ g => K.at g
    have F15n := F15.1
    have pi1 : px i1 = false := P.2 _ (by omega)
    have gd1 := K.at gd1; have F16 := F15.trans K.fr; have p16 := p15.keep K
    rw [x_nil]
    refine ⟨by simp, fun h17 i2 K gi2 i2l => ?_⟩
    have wx : ∀ x ∈ xs, Wp_ px r5 h.n h17 x := fun x hx => (wx x hx).fr fun a cc pa _ g => K.at g
    have F16n := F16.1
    have pi2 : px i2 = false := P.2 _ (by omega)
    have gd1 := K.at gd1; have gi1 := K.at gi1; have F17 := F16.trans K.fr; have p17 := p16.keep K
    rw [x_cons]
    refine lst_step ?_
    rw [x_cons, x_tup, x_nil]
    refine ⟨by rfl, ?_⟩
    rw [x_nil]
    refine ⟨by simp, fun h18 i3 K gi3 i3l => ?_⟩
    have wx : ∀ x ∈ xs, Wp_ px r5 h.n h18 x := fun x hx => (wx x hx).fr fun a cc pa _ g => K.at g
    have F17n := F17.1
    have pi3 : px i3 = false := P.2 _ (by omega)
    have gd1 := K.at gd1; have gi1 := K.at gi1; have gi2 := K.at gi2; have F18 := F17.trans K.fr; have p18 := p17.keep K
    rw [x_nil]
    refine ⟨by simp, fun h19 q6 K gq6 q6l => ?_⟩
    have wx : ∀ x ∈ xs, Wp_ px r5 h.n h19 x := fun x hx => (wx x hx).fr fun a cc pa _ g => K.at g
    have z19 : q6 ≠ p := by have := p18.lt; omega
    have gd1 := K.at gd1; have gi1 := K.at gi1; have gi2 := K.at gi2; have gi3 := K.at gi3; have F19 := F18.trans K.fr; have p19 := p18.keep K
    rw [x_nil]
    refine (H2 p q6 _ _ h19 p19 gq6 z19 (by omega) (by simp) (by simp)).mono fun y h20 ⟨ym, f20, p20⟩ => ?_
    have wx : ∀ x ∈ xs, Wp_ px r5 h.n h20 x := fun x hx => (wx x hx).fr fun a cc pa _ g => tr f20 a cc pa g
    have gd1 := tr f20 d1 _ pd1 gd1
    have gi1 := tr f20 i1 _ pi1 gi1
    have gi2 := tr f20 i2 _ pi2 gi2
    have gi3 := tr f20 i3 _ pi3 gi3
    have F20 := F19.trans f20
    have ve : V px h20 0 1 (.loc i1) := Vs.lst (m := 0) Vs.nil (by decide) gi1 pi1
    have res : V px h20 8000 8 y ∧ Gv h20 y := by
      rcases List.mem_cons.mp ym with e | ym
      · rw [e]; exact ⟨V.non.mono (by decide) (by decide), Gv.other rfl fun _ _ e => by cases e⟩
      rcases List.mem_cons.mp ym with e | ym
      · rw [e]
        have v : V px h20 8000 8 (.tup xs) := (Vs.tup (m := 5) (Vs.of (n := 600) fun x hx => ((wx x hx).fx).v) (by decide)).mono (by omega) (by decide)
        exact ⟨v, Gv.other v.kn fun _ _ e => by cases e⟩
      rcases List.mem_cons.mp ym with e | ym
      · rw [e]
        have v : V px h20 8000 8 (.loc d1) := (V.dct gd1 pd1).mono (by decide) (by decide)
        exact ⟨v, Gv.other v.kn fun a ws e g => by cases e; rw [gd1] at g; cases g⟩
      rcases List.mem_cons.mp ym with e | ym
      · rw [e]; exact ⟨(V.int (by decide)).mono (by decide) (by decide), Gv.other rfl fun _ _ e => by cases e⟩
      rcases List.mem_cons.mp ym with e | ym
      · rw [e]
        exact fin_list gi2 pi2 (fun x hx => by rw [List.mem_singleton.mp hx]; exact Fx.no ve (fun _ _ e => by cases e)) (by simp)
      · rw [List.mem_singleton.mp ym]
        exact fin_list gi3 pi3 (fun x hx => by rw [List.mem_singleton.mp hx]; exact Fx.no (Vs.tup (m := 0) Vs.nil (by decide)) (fun _ _ e => by cases e)) (by simp)
    exact ⟨res.1, res.2, F20, p20.mono (by omega)⟩
end K25

set_option linter.all false
set_option linter.unusedSimpArgs false
set_option maxRecDepth 100000
set_option maxHeartbeats 1000000
namespace K25
open PySem Fw
/-! ### the drawn program, as it is shown and as it is walked -/
section
variable {p : Nat → Bool} {h : IH} {n m : Nat}
theorem Vj {i : Int} (q : i.natAbs < 10 ^ 12) : V p h 0 m (.int i) := (V.int q).mono (Nat.le_refl _) (Nat.zero_le _)
theorem Vm : V p h 0 m .non := V.non.mono (Nat.le_refl _) (Nat.zero_le _)
theorem Vt {z : Str} (n : Nat) (h2 : (z.cps.toList.all fun c => decide (c < 16 ^ 8)) = true) (h3 : z.cps.size ≤ n) : V p h n m (.str z) := (V.str h2 h3).mono (Nat.le_refl _) (Nat.zero_le _)
theorem V1 {s : Str} {i : Int} (h2 : (s.cps.toList.all fun c => decide (c < 16 ^ 8)) = true) (h3 : s.cps.size ≤ 6) (h0 : -1000000 ≤ i) (h1 : i ≤ 1000000) : V p h 10 1 (.tup [.str s, .int i]) :=
  (Vs.tup (m := 0) (Vs.cons (Vt 6 h2 h3) (Vs.cons (Vj (small_i (by omega) (by omega))) Vs.nil)) (by decide)).mono (by decide) (by decide)
theorem V2 {s : Str} {i j : Int} (h2 : (s.cps.toList.all fun c => decide (c < 16 ^ 8)) = true) (h3 : s.cps.size ≤ 6) (h0 : -1000000 ≤ i) (h1 : i ≤ 1000000) (h0' : -1000000 ≤ j) (h1' : j ≤ 1000000) : V p h 10 1 (.tup [.str s, .int i, .int j]) :=
  (Vs.tup (m := 0) (Vs.cons (Vt 6 h2 h3) (Vs.cons (Vj (small_i (by omega) (by omega))) (Vs.cons (Vj (small_i (by omega) (by omega))) Vs.nil))) (by decide)).mono (by decide) (by decide)
theorem V3 {s : Str} {i j k : Int} (h2 : (s.cps.toList.all fun c => decide (c < 16 ^ 8)) = true) (h3 : s.cps.size ≤ 6) (h0 : -1000000 ≤ i) (h1 : i ≤ 1000000) (h0' : -1000000 ≤ j) (h1' : j ≤ 1000000) (h0'' : -1000000 ≤ k) (h1'' : k ≤ 1000000) : V p h 10 1 (.tup [.str s, .int i, .int j, .int k]) :=
  (Vs.tup (m := 0) (Vs.cons (Vt 6 h2 h3) (Vs.cons (Vj (small_i (by omega) (by omega))) (Vs.cons (Vj (small_i (by omega) (by omega))) (Vs.cons (Vj (small_i (by omega) (by omega))) Vs.nil)))) (by decide)).mono (by decide) (by decide)
theorem fo_b {cs : List Int} (ok : CsOk cs) (cl : cs.length ≤ 6) {u f : Int} (q : FieldOk cs u f) : 0 ≤ u ∧ u ≤ 6 ∧ 0 ≤ f ∧ f ≤ 3 := by
  obtain ⟨u0, n, hn, f0, f1⟩ := q
  have := (List.getElem?_eq_some_iff.mp hn).1
  have := ok n (List.mem_of_getElem? hn)
  omega
theorem V_ins {cs : List Int} (ok : CsOk cs) (cl : cs.length ≤ 6) {w : W} (i : Ins cs w) : V p h 10 1 w := by
  cases i with
  | fail => exact (Vs.tup (m := 0) (Vs.cons (Vt 6 (by decide +kernel) (by decide +kernel)) Vs.nil) (by decide)).mono (by decide) (by decide)
  | num a b c => exact V2 (by decide +kernel) (by decide +kernel) (by have := a.1; omega) (by have := a.2; omega) (by omega) (by omega)
  | copy a b => exact V2 (by decide +kernel) (by decide +kernel) (by have := a.1; omega) (by have := a.2; omega) (by have := b.1; omega) (by have := b.2; omega)
  | add a b c => exact V2 (by decide +kernel) (by decide +kernel) (by have := a.1; omega) (by have := a.2; omega) (by omega) (by omega)
  | read a b =>
    obtain ⟨x, y, z, t⟩ := fo_b ok cl b
    exact V3 (by decide +kernel) (by decide +kernel) (by have := a.1; omega) (by have := a.2; omega) (by omega) (by omega) (by omega) (by omega)
  | write a b =>
    obtain ⟨x, y, z, t⟩ := fo_b ok cl b
    exact V3 (by decide +kernel) (by decide +kernel) (by omega) (by omega) (by omega) (by omega) (by have := a.1; omega) (by have := a.2; omega)
theorem V_lin {cs : List Int} (ok : CsOk cs) (cl : cs.length ≤ 6) {nf number place many : Int} (n0 : 0 ≤ number) (nl : nf ≤ 4) (p0 : 0 ≤ place) (ml : many ≤ 8) {w : W} (l : Lin cs nf number place many w) : V p h 10 1 w := by
  cases l with
  | ins i => exact V_ins ok cl i
  | input a => exact V1 (by decide +kernel) (by decide +kernel) (by have := a.1; omega) (by have := a.2; omega)
  | show_ a => exact V1 (by decide +kernel) (by decide +kernel) (by have := a.1; omega) (by have := a.2; omega)
  | branch a b => exact V1 (by decide +kernel) (by decide +kernel) (by omega) (by omega)
  | call a b => exact V1 (by decide +kernel) (by decide +kernel) (by omega) (by omega)
  | wake a b c d => exact V2 (by decide +kernel) (by decide +kernel) (by omega) (by omega) (by omega) (by omega)
theorem V_body {b : List W} (H : ∀ x ∈ b, V p h 10 1 x) (bl : b.length ≤ 8) : V p h 88 2 (.tup b) := (Vs.tup (m := 1) (Vs.of H) (by decide)).mono (by omega) (by decide)
theorem V_units {us : List W} {cs : List Int} (ok : CsOk cs) (cl : cs.length ≤ 6) (ul : us.length ≤ 6) (uok : ∀ j w, us[j]? = some w → UnitOk cs j w) : Vs p h 600 3 us := by
  refine (Vs.of (n := 95) fun w hw => ?_).mono (by omega) (Nat.le_refl _)
  obtain ⟨j, hj⟩ := List.getElem?_of_mem hw
  have jl := (List.getElem?_eq_some_iff.mp hj).1
  obtain ⟨par, n, body, rfl, hn, hp, bok, bl⟩ := (uok j w hj).ex
  obtain ⟨n0, n1⟩ := ok n (List.mem_of_getElem? hn)
  have vp : V p h 0 2 par := by
    rcases hp with rfl | ⟨v, rfl, v0, v1⟩
    · exact Vm
    · exact Vj (small_i (by omega) (by omega))
  exact (Vs.tup (m := 2) (Vs.cons vp (Vs.cons (Vj (small_i (by omega) (by omega))) (Vs.cons (V_body (fun x hx => V_ins ok cl (bok x hx)) (by omega)) Vs.nil))) (by decide)).mono (by decide) (by decide)
theorem V_fun {fns : List W} {cs : List Int} (ok : CsOk cs) (cl : cs.length ≤ 6) (fl : fns.length ≤ 4) {j : Nat} {w : W} (jl : j < fns.length) (f : FunOk cs fns.length 8 j w) : V p h 95 3 w := by
  obtain ⟨u, body, rfl, u0, u1, b0, b1, bok⟩ := f.ex
  refine (Vs.tup (m := 2) (Vs.cons (Vj (small_i (by omega) (by omega))) (Vs.cons (V_body (fun x hx => ?_) (by omega)) Vs.nil)) (by decide)).mono (by decide) (by decide)
  obtain ⟨k, hk⟩ := List.getElem?_of_mem hx
  exact V_lin ok cl (by omega) (by omega) (by omega) (by omega) (bok k x hk)
theorem V_funs {fns : List W} {cs : List Int} (ok : CsOk cs) (cl : cs.length ≤ 6) (fl : fns.length ≤ 4) (fok : ∀ j w, fns[j]? = some w → FunOk cs fns.length 8 j w) : Vs p h 390 3 fns := by
  refine (Vs.of (n := 95) fun w hw => ?_).mono (by omega) (Nat.le_refl _)
  obtain ⟨j, hj⟩ := List.getElem?_of_mem hw
  exact V_fun ok cl fl (List.getElem?_eq_some_iff.mp hj).1 (fok j w hj)
theorem V_prog {us fns : List W} (ok : ProgOk 6 8 (.tup [.tup us, .tup fns])) : V p h 1000 5 (.tup [.tup us, .tup fns]) := by
  obtain ⟨cs, us', fns', e, cok, c0, c1, ul, uok, f0, f1, fok⟩ := ok.ex
  injection e with e
  injection e with e1 e2
  injection e1 with e1
  injection e2 with e2
  injection e2 with e2
  subst e1; subst e2
  exact (Vs.tup (m := 4) (Vs.cons (Vs.tup (m := 3) (V_units cok (by omega) (by omega) uok) (by decide)) (Vs.cons (Vs.tup (m := 3) (V_funs cok (by omega) f1 fok) (by decide)) Vs.nil)) (by decide)).mono (by decide) (by decide)
end
theorem ProgOk.up {nu nu' lb : Int} {w : W} (o : ProgOk nu lb w) (l : nu ≤ nu') : ProgOk nu' lb w := by
  obtain ⟨cs, us, fns, e, a, b, c, d⟩ := o.ex
  exact ⟨cs, us, fns, e, a, b, by omega, d⟩
/-- an instruction of a drawn function, as it is walked -/
def OkOp (op : Op) : Prop := (∀ t, op = .branch t → 0 ≤ t) ∧ ∀ u t, op = .wake u t → 0 ≤ t
theorem okOp {op : Op} (h1 : ∀ t, op ≠ .branch t) (h2 : ∀ u t, op ≠ .wake u t) : OkOp op := ⟨fun t e => absurd e (h1 t), fun u t e => absurd e (h2 u t)⟩
theorem is_lin {cs : List Int} {fns : List W} {number place many : Int} (n0 : 0 ≤ number) (p0 : 0 ≤ place) (fok : ∀ j w, fns[j]? = some w → FunOk cs fns.length 8 j w) {w : W} (l : Lin cs fns.length number place many w) : ∃ op, Is fns w op ∧ OkOp op := by
  cases l with
  | ins i =>
    cases i with
    | fail => exact ⟨_, .fail, okOp (fun _ e => by cases e) fun _ _ e => by cases e⟩
    | num a b c => exact ⟨_, .num _ _, okOp (fun _ e => by cases e) fun _ _ e => by cases e⟩
    | copy a b => exact ⟨_, .copy _ _, okOp (fun _ e => by cases e) fun _ _ e => by cases e⟩
    | add a b c => exact ⟨_, .add _ _, okOp (fun _ e => by cases e) fun _ _ e => by cases e⟩
    | read a b => exact ⟨_, .read _ _ _, okOp (fun _ e => by cases e) fun _ _ e => by cases e⟩
    | write a b => exact ⟨_, .write _ _ _, okOp (fun _ e => by cases e) fun _ _ e => by cases e⟩
  | input a => exact ⟨_, .input _, okOp (fun _ e => by cases e) fun _ _ e => by cases e⟩
  | show_ a => exact ⟨_, .show_ _, okOp (fun _ e => by cases e) fun _ _ e => by cases e⟩
  | branch a b => exact ⟨_, .branch _, ⟨fun t e => (by cases e; exact a), fun _ _ e => (by cases e)⟩⟩
  | @call g a b =>
    have hg : fns[g.toNat]? = some fns[g.toNat] := List.getElem?_eq_getElem (by omega)
    obtain ⟨u, body, e, _⟩ := (fok _ _ hg).ex
    rw [e] at hg
    exact ⟨_, .call g u (.tup body) (by omega) hg, okOp (fun _ e => by cases e) fun _ _ e => by cases e⟩
  | wake a b c d => exact ⟨_, .wake _ _, ⟨fun _ e => (by cases e), fun u t e => (by cases e; omega)⟩⟩
theorem ops_of {R : W → Op → Prop} : ∀ {body : List W}, (∀ x ∈ body, ∃ op, R x op) → ∃ ops : List Op, ops.length = body.length ∧ ∀ (k : Nat) (x : W), body[k]? = some x → ∃ op, ops[k]? = some op ∧ R x op
  | [], _ => ⟨[], rfl, fun k x h => by simp at h⟩
  | x :: body, H => by
    obtain ⟨op, ho⟩ := H x List.mem_cons_self
    obtain ⟨ops, l, h⟩ := ops_of fun y hy => H y (List.mem_cons_of_mem _ hy)
    refine ⟨op :: ops, by simp [l], fun k y hk => ?_⟩
    cases k with
    | zero => cases hk; exact ⟨op, rfl, ho⟩
    | succ k => exact h k y hk
theorem prog_of {us fns : List W} {f u : Int} (ok : ProgOk 6 8 (.tup [.tup us, .tup fns])) (f0 : 0 ≤ f) (f1 : f < fns.length) (u0 : 0 ≤ u) (u1 : u < us.length) : ∃ (v : W) (body : List W) (ops : List Op), fns[f.toNat]? = some (.tup [v, .tup body]) ∧ Prog us fns f u body ops := by
  have ok' := ok
  obtain ⟨cs, us', fns', e, cok, c0, c1, ul, uok, g0, g1, fok⟩ := ok'.ex
  injection e with e
  injection e with e1 e2
  injection e1 with e1
  injection e2 with e2
  injection e2 with e2
  subst e1; subst e2
  have hf : fns[f.toNat]? = some fns[f.toNat] := List.getElem?_eq_getElem (by omega)
  obtain ⟨v, body, e, v0', v1', b0, b1, bok⟩ := (fok _ _ hf).ex
  rw [e] at hf
  obtain ⟨ops, ol, oi⟩ := ops_of (R := fun x op => Is fns x op ∧ OkOp op) (body := body) fun x hx => by
    obtain ⟨k, hk⟩ := List.getElem?_of_mem hx
    exact is_lin (by omega) (by omega) fok (bok k x hk)
  have at_ : ∀ (k : Nat) (op : Op), ops[k]? = some op → OkOp op := fun k op hk => by
    have kl := (List.getElem?_eq_some_iff.mp hk).1
    obtain ⟨op', ho, _, z⟩ := oi k _ (List.getElem?_eq_getElem (by omega))
    rw [hk] at ho; cases ho; exact z
  exact ⟨_, body, ops, hf, ok, ⟨f0, ⟨_, hf⟩, ol, fun k x hk => by
    obtain ⟨op, ho, i, _⟩ := oi k x hk
    exact ⟨op, ho, i⟩, ⟨by omega, fun k t hk => (at_ k _ hk).1 t rfl, fun k u t hk => (at_ k _ hk).2 u t rfl, by omega⟩⟩, f1, u0, u1⟩
end K25

set_option linter.all false
set_option linter.unusedSimpArgs false
set_option maxRecDepth 100000
set_option maxHeartbeats 1000000
namespace K25
open PySem Fw
/-! ### the law -/
abbrev QQ : FT := Phi gk tab 29
theorem q33 : S33 QQ := ph33 25
theorem q36 : S36 QQ := ph36 24
theorem qPg : PgO QQ := phPg 23
theorem qTk : TkO QQ := phTk 27
theorem qPk : PkO QQ := phPk 26
theorem q19 : S19 QQ := ph19 22
theorem q21 : S21 QQ := ph21 22
theorem q32 : S32 QQ := ph32 27
theorem x_neB {a b : Bool} {h : IH} {P : W → IH → Prop} : (oNe (.bl a) (.bl b) h).Wp P = P (.bl !decide (a = b)) h := rfl
theorem VD_keep {px : Nat → Bool} {n m : Nat} {h h' : IH} {w : W} {d : PyData} (v : VD px h n m w d) (k : Keep h h') : VD px h' n m w d := v.fr k.fx
/-- one look at drawn places and walks -/
theorem look_ok {us fns : List W} {f u : Int} {body : List W} {ops : List Op} {p c rp : Nat} {ps : List Int} {b : Int} {h : IH} {s0 s2 s7 s9 s10 s11 s12 s13 s14 : Option W} {R : W → IH → Prop} {N B C : Fw.Env → IH → Prop} {rest : SS} (hr : rest = (sSeq (sPar2 10 11 (aCons (eCall QQ 33 (aCons (eVar 1) (aCons (eVar 6) aNil))) (aCons (eCall QQ 36 (aCons (eVar 1) (aCons (eVar 3) (aCons (eVar 4) (aCons (eVar 5) (aCons (eVar 6) aNil)))))) aNil))) (sSeq (sAsg (e1 oRepr (eTup (aCons (eVar 3) (aCons (eVar 8) (aCons (eVar 10) (aCons (eVar 11) aNil)))))) (gNm 12)) (sSeq (sAsg (eAnd (eCall QQ 34 (aCons (eVar 10) (aCons (eVar 6) aNil))) (eCall QQ 31 (aCons (eVar 3) (aCons (eVar 4) (aCons (eVar 5) (aCons (eVar 10) aNil)))))) (gNm 13)) (sSeq (sAsg (eCall QQ 19 (aCons (eVar 3) (aCons (eVar 4) (aCons (eVar 5) (aCons (eVar 10) aNil))))) (gNm 14)) (sSeq (sIf (tOr (tNot (tTru (e1 (oIsi [.bool]) (eVar 14)))) (tBol (e2 oNe (eVar 14) (eVar 13)))) (sSeq (sRet (eC (.bl false))) sNext) sNext) (sSeq (sAsg (eCall QQ 21 (aCons (eVar 3) (aCons (eVar 4) (aCons (eVar 5) (aCons (eVar 8) (aCons (eVar 11) aNil)))))) (gNm 14)) (sSeq (sIf (tOr (tNot (tTru (e1 (oIsi [.bool]) (eVar 14)))) (tBol (e2 oNe (eVar 14) (eCall QQ 32 (aCons (eVar 3) (aCons (eVar 4) (aCons (eVar 5) (aCons (eVar 8) (aCons (eVar 11) aNil))))))))) (sSeq (sRet (eC (.bl false))) sNext) sNext) (sSeq (sIf (tBol (e2 oNe (e1 oRepr (eTup (aCons (eVar 3) (aCons (eVar 8) (aCons (eVar 10) (aCons (eVar 11) aNil)))))) (eVar 12))) (sSeq (sRet (eC (.bl false))) sNext) sNext) sNext)))))))))
    (O : Prog us fns f u body ops) (hp : Pen c h p b) (hb : b < 300000) (gp : h.get rp = some (.lst (ps.map .int))) (rpp : rp ≠ p) (pl : ps.length = body.length) (pr : ∀ x ∈ ps, 0 ≤ x ∧ x ≤ 65535)
    (z : ∀ h' s10 s11 s12 s13 s14, Fr p h h' → Pen c h' p (b + 420) → N [s0, some (.loc p), s2, some (.tup [.tup us, .tup fns]), some (.int f), some (.int u), some (.int body.length), s7, some (.loc rp), s9, s10, s11, s12, s13, s14] h') :
    (rest [s0, some (.loc p), s2, some (.tup [.tup us, .tup fns]), some (.int f), some (.int u), some (.int body.length), s7, some (.loc rp), s9, s10, s11, s12, s13, s14] h).Wp ⟨N, R, B, C⟩ := by
  subst hr
  have pl0 := hp.lt
  have l8 := O.F.ok.l8
  have l1 := O.F.ok.len
  have fl := O.F.len
  have P : Px (fun i => Nat.beq i p) p h := ⟨Nat.beq_refl p, fun i hi => by
    cases q : Nat.beq i p with
    | false => exact q
    | true => have := Nat.eq_of_beq_eq_true q; omega⟩
  have pp : Nat.beq rp p = false := by
    cases q : Nat.beq rp p with
    | false => rfl
    | true => exact absurd (Nat.eq_of_beq_eq_true q) rpp
  rw [x_seq, x_par2, x_call, x_cons, v1, x_cons, v6, x_nil]
  refine (q33 p b body.length h P hp (by omega) (by omega) (by omega)).mono fun w1 h1 ⟨A1, f1, p1⟩ => ?_
  rw [x_call, x_cons, v1, x_cons, v3, x_cons, v4, x_cons, v5, x_cons, v6, x_nil, ← fl]
  refine (q36 (px := fun i => Nat.beq i p) p _ us fns f u body ops h1 ⟨P.1, fun i hi => P.2 i (Nat.le_trans f1.1 hi)⟩ p1 (by omega) O.F).mono fun w2 h2 ⟨V2, G2, f2, p2⟩ => ?_
  have A1 := A1.fr (FrX.of P f2)
  have f12 := f1.trans f2
  have gp2 := (f12.2 _ (IH.get_lt gp) rpp).trans gp
  rw [n10, n11]
  try dsimp only
  -- what is shown
  have Vp : V (fun i => Nat.beq i p) h2 20 2 (.loc rp) := (Vs.lst (m := 0) (Vs.of (n := 0) (m := 0) fun w hw => by
    obtain ⟨x, hx, rfl⟩ := List.mem_map.mp hw
    have := pr x hx
    exact V.int (small_i (by omega) (by omega))) (by decide) gp2 pp).mono (by rw [List.length_map]; omega) (by decide)
  have VV : V (fun i => Nat.beq i p) h2 11000 10 (.tup [.tup [.tup us, .tup fns], .loc rp, w1, w2]) :=
    (Vs.tup (m := 9) (Vs.cons ((V_prog O.ok).mono (Nat.le_refl _) (by decide)) (Vs.cons (Vp.mono (Nat.le_refl _) (by decide)) (Vs.cons (A1.v.mono (Nat.le_refl _) (by decide)) (Vs.cons (V2.mono (Nat.le_refl _) (by decide)) Vs.nil)))) (by decide)).mono (by decide) (by decide)
  obtain ⟨d, VV⟩ := VV
  rw [x_seq, x_asg, Fw.x_e1, x_tup, x_cons, v3, x_cons, v8, x_cons, v10, x_cons, v11, x_nil]
  refine ⟨by rfl, ?_⟩
  rw [x_repV VV (by decide) (by decide), n12]
  dsimp only
  -- what is due
  rw [x_seq, x_asg]
  refine due_ok 26 O A1.kl (fun _ => rfl) (fun _ => rfl) (fun _ => rfl) (fun _ => rfl) (fun _ => by rw [← fl]; rfl) fun due h3 hd k3 => ?_
  rw [n13]
  dsimp only
  rw [x_seq, x_asg, x_call, x_cons, v3, x_cons, v4, x_cons, v5, x_cons, v10, x_nil]
  refine (q19 us fns f u body ops w1 h3 O (kn_K A1.kl k3)).mono fun x h4 ⟨fd, ex, hf, k4⟩ => ?_
  subst ex
  have k4 := k3.trans k4
  rw [n14]
  dsimp only
  have e1 : fd = due := by
    have := hf.trans ((Plc_keep A1.kl k3).trans hd.symm)
    cases fd <;> cases due <;> simp_all
  subst e1
  rw [x_seq, x_if, x_or, x_not, x_tru, Fw.x_e1, v14, x_isB rfl, x_truB]
  refine ⟨fun z => Bool.noConfusion z, fun _ => ?_⟩
  rw [x_bol, x_e2, v14, v13, x_neB, x_bolW, decide_eq_true rfl]
  refine ⟨fun z => Bool.noConfusion z, fun _ => ?_⟩
  rw [x_next, x_seq, x_asg, x_call, x_cons, v3, x_cons, v4, x_cons, v5, x_cons, v8, x_cons, v11, x_nil]
  refine (q21 us fns f u body ops rp ps w2 h4 O (k4.at gp2) pl pr (G2.keep k4)).mono fun x h5 ⟨fa, ex, ha, k5⟩ => ?_
  subst ex
  have k5 := k4.trans k5
  rw [n14]
  dsimp only
  rw [x_seq, x_if, x_or, x_not, x_tru, Fw.x_e1, v14, x_isB rfl, x_truB]
  refine ⟨fun z => Bool.noConfusion z, fun _ => ?_⟩
  rw [x_bol, x_e2, v14, x_call, x_cons, v3, x_cons, v4, x_cons, v5, x_cons, v8, x_cons, v11, x_nil]
  refine (q32 us fns f u body ops rp ps w2 h5 O.F (k5.at gp2) pl (G2.keep k5)).mono fun x h6 ⟨fb, ex, hb', k6⟩ => ?_
  subst ex
  have k6 := k5.trans k6
  have e2 : fa = fb := by
    have := (ha.trans (Wks.keep G2 k4)).trans (hb'.trans (Wks.keep G2 k5)).symm
    cases fa <;> cases fb <;> simp_all
  subst e2
  rw [x_neB, x_bolW, decide_eq_true rfl]
  refine ⟨fun z => Bool.noConfusion z, fun _ => ?_⟩
  rw [x_next, x_seq, x_if, x_bol, x_e2, Fw.x_e1, x_tup, x_cons, v3, x_cons, v8, x_cons, v10, x_cons, v11, x_nil]
  refine ⟨by rfl, ?_⟩
  rw [x_repV (VD_keep VV k6) (by decide) (by decide), v12, x_neS, x_bolW, decide_eq_true rfl]
  refine ⟨fun z => Bool.noConfusion z, fun _ => ?_⟩
  rw [x_next, x_next, fl]
  exact z h6 _ _ _ _ _ (f12.trans k6.fr) ((p2.keep k6).mono (by omega))
end K25

set_option linter.all false
set_option linter.unusedSimpArgs false
set_option maxRecDepth 100000
set_option maxHeartbeats 1000000
namespace K25
open PySem Fw
theorem law_ok (ns : List Int) (h : IH) : (Phi gk tab 30 37 [.ro (ns.map .int)] h).Wp fun w _ => w = .bl true := by
  have e37 : Phi gk tab 30 37 [.ro (ns.map .int)] h = callB (m37 QQ) 1 15 [.ro (ns.map .int)] h := phi37 29 _ _
  rw [e37, x_callB (by rfl)]
  show (m37 QQ [some (.ro (ns.map .int)), none, none, none, none, none, none, none, none, none, none, none, none, none, none] h).Wp _
  unfold m37
  have e23 : ∀ ws h, QQ 23 ws h = callB (m23 (Phi gk tab 28)) 1 4 ws h := fun ws h => phi23 28 ws h
  rw [x_seq, x_asg, x_call, x_cons, v0, x_nil, e23]
  refine (open_ok _ ns h).mono fun w1 h1 ⟨p, c, e1, p1⟩ => ?_
  subst e1
  rw [n1]
  try dsimp only
  rw [x_seq]
  refine for_rng ?_
  rw [x_C]
  refine ⟨5, rfl, by decide, fun i e h2 => (∃ s2 s3 s4 s5 s6 s7 s8 s9 s10 s11 s12 s13 s14, e = [some (.ro (ns.map .int)), some (.loc p), s2, s3, s4, s5, s6, s7, s8, s9, s10, s11, s12, s13, s14]) ∧ Pen c h2 p (15000 * i), ⟨⟨_, _, _, _, _, _, _, _, _, _, _, _, _, rfl⟩, p1.mono (by omega)⟩, ?_, ?_⟩
  · rintro i e h2 hi ⟨⟨s2, s3, s4, s5, s6, s7, s8, s9, s10, s11, s12, s13, s14, rfl⟩, p2⟩
    rw [n2]
    try dsimp only
    rw [x_seq, x_asg, x_call, x_cons, v1, x_cons, x_C, x_cons, x_C, x_nil]
    refine (qPg p _ 3 8 h2 p2 (by omega) (by decide) (by decide) (by decide) (by decide)).mono fun w3 h3 ⟨po, f3, p3⟩ => ?_
    have po := po.up (nu' := 6) (by decide)
    have po' := po
    obtain ⟨cs, us, fns, e3, cok, c0, c1, ul, uok, g0, g1, fok⟩ := po'.ex
    subst e3
    clear fok uok
    rw [n3]
    try dsimp only
    rw [x_seq, x_par2, x_call, x_cons, v1, x_cons, x_eA, x_cons, x_e2, v3, x_C, x_ixT1, x_nil, x_lenT, x_nil]
    refine (qTk p _ (fns.length : Int) h3 p3 (by omega) (by omega) (by omega)).mono fun w4 h4 ⟨f, e4, f0, fl, f4, p4⟩ => ?_
    subst e4
    rw [x_call, x_cons, v1, x_cons, x_eA, x_cons, x_e2, v3, x_C, x_ixT0, x_nil, x_lenT, x_nil]
    refine (qTk p _ (us.length : Int) h4 p4 (by omega) (by omega) (by omega)).mono fun w5 h5 ⟨u, e5, u0, u1, f5, p5⟩ => ?_
    subst e5
    obtain ⟨vv, body, ops, hf, O⟩ := prog_of po f0 fl u0 u1
    have l8 := O.F.ok.l8
    have ol := O.F.len
    rw [n4, n5]
    try dsimp only
    rw [x_seq, x_asg, x_eA, x_cons, x_e2, x_e2, x_e2, v3, x_C, x_ixT1, v4, x_ixT f0 hf, x_C, x_ixT1, x_nil, x_lenT, n6]
    try dsimp only
    rw [x_seq, x_asg]
    refine lc_rng ?_
    rw [v6]
    have p5n := p5.lt
    refine ⟨body.length, rfl, by omega, fun j xs h6 => ∃ ps : List Int, xs = ps.map .int ∧ ps.length = j ∧ (∀ x ∈ ps, 0 ≤ x ∧ x ≤ 65535) ∧ Fr p h5 h6 ∧ Pen c h6 p (15000 * i + 12000 + 1 + 1 + j), ⟨[], rfl, rfl, fun x hx => (by cases hx), Fr.refl, p5.mono (by omega)⟩, ?_, ?_⟩
    · rintro j xs h6 jl ⟨ps, rfl, pl, pr, f6, p6⟩
      show (gNm 7 (.int j) [some (.ro (ns.map .int)), some (.loc p), some (.int i), some (.tup [.tup us, .tup fns]), some (.int f), some (.int u), some (.int body.length), none, s8, s9, s10, s11, s12, s13, s14] h6).Wp _
      rw [n7, x_call, x_cons, v1, x_cons]
      refine lst_step ?_
      rw [x_cons, x_C, x_cons, x_C, x_cons, x_C, x_cons, x_C, x_cons, x_C, x_nil]
      refine ⟨by simp, fun h7 q K gq ql => ?_⟩
      rw [x_nil]
      have zq : q ≠ p := by have := p6.lt; omega
      refine (qPk p q _ _ h7 (p6.keep K) gq zq (by omega) (by simp) (by simp)).mono fun y h8 ⟨ym, f8, p8⟩ => ?_
      have yy : ∃ x : Int, y = .int x ∧ 0 ≤ x ∧ x ≤ 65535 := by
        rcases List.mem_cons.mp ym with e | ym
        · exact ⟨0, e, by decide, by decide⟩
        rcases List.mem_cons.mp ym with e | ym
        · exact ⟨1, e, by decide, by decide⟩
        rcases List.mem_cons.mp ym with e | ym
        · exact ⟨3, e, by decide, by decide⟩
        rcases List.mem_cons.mp ym with e | ym
        · exact ⟨9, e, by decide, by decide⟩
        · exact ⟨9, List.mem_singleton.mp ym, by decide, by decide⟩
      obtain ⟨x, rfl, x0, x1⟩ := yy
      refine ⟨ps ++ [x], by rw [List.map_append]; rfl, by rw [List.length_append, pl]; rfl, fun z hz => ?_, (f6.trans K.fr).trans f8, p8.mono (by omega)⟩
      rcases List.mem_append.mp hz with hz | hz
      · exact pr z hz
      · rw [List.mem_singleton.mp hz]; exact ⟨x0, x1⟩
    rintro xs h6 ⟨ps, rfl, pl, pr, f6, p6⟩
    refine ⟨by rw [List.length_map]; omega, ?_⟩
    have K : Keep h6 (h6.new (.lst (ps.map .int))) := Keep.new
    have gp : (h6.new (.lst (ps.map .int))).get h6.n = some (.lst (ps.map .int)) := IH.get_new_self _ _
    have rp : h6.n ≠ p := by have := p6.lt; omega
    have p7 := p6.keep K
    generalize h6.n = r at gp rp ⊢
    generalize h6.new (.lst (ps.map .int)) = h7 at gp p7 ⊢
    rw [n8]
    try dsimp only
    rw [x_seq]
    refine for_rng ?_
    rw [x_C]
    refine ⟨6, rfl, by decide, fun j e h8 => (∃ s9 s10 s11 s12 s13 s14, e = [some (.ro (ns.map .int)), some (.loc p), some (.int i), some (.tup [.tup us, .tup fns]), some (.int f), some (.int u), some (.int body.length), s7, some (.loc r), s9, s10, s11, s12, s13, s14]) ∧ h8.get r = some (.lst (ps.map .int)) ∧ Pen c h8 p (15000 * i + 12010 + 420 * j), ⟨⟨_, _, _, _, _, _, rfl⟩, gp, p7.mono (by omega)⟩, ?_, ?_⟩
    · rintro j e h8 jl ⟨⟨s9, s10, s11, s12, s13, s14, rfl⟩, g8, p8⟩
      rw [n9]
      refine look_ok rfl O p8 (by omega) g8 rp pl pr fun h' s10 s11 s12 s13 s14 f' p' => ?_
      exact ⟨⟨_, _, _, _, _, _, rfl⟩, (f'.2 _ (IH.get_lt g8) rp).trans g8, p'.mono (by omega)⟩
    · rintro e h8 ⟨⟨s9, s10, s11, s12, s13, s14, rfl⟩, g8, p8⟩
      rw [x_next]
      exact ⟨⟨_, _, _, _, _, _, _, _, _, _, _, _, _, rfl⟩, p8.mono (by omega)⟩
  · rintro e h2 ⟨⟨s2, s3, s4, s5, s6, s7, s8, s9, s10, s11, s12, s13, s14, rfl⟩, p2⟩
    rw [x_seq, x_ret, x_C]
theorem eval_ (ns : List Int) (hn : ns.length ≤ 63) : ∃ h', Phi gk tab 30 lawId [.ro (ns.map W.int)] ih0 = .ok (.bl true) h' := by
  obtain ⟨w, h', e, q⟩ := (law_ok ns ih0).ex
  exact ⟨h', by rw [← q]; exact e⟩
end K25

set_option maxRecDepth 100000
set_option maxHeartbeats 0
open PySem PySem.W PySem.Calls PyProof.Rows
theorem PySem.Challenge.cw_firstwake_k25_placements_and_walks_recog_holds : PySem.Challenge.rw_firstwake_k25_placements_and_walks_recog.Holds := by
  w_on; o_law
  refine HandSHeadRun.head_any (r := OpenLaw.row PySem.Challenge.rw_firstwake_k25_placements_and_walks_recog) (q := view (OpenLaw.row PySem.Challenge.rw_firstwake_k25_placements_and_walks_recog).prog [55]) (H := K25.hk) (ob := K25.ob) (M := 6000) (loose := K25.loose) (d := HandSHeadRun.topDef (OpenLaw.row PySem.Challenge.rw_firstwake_k25_placements_and_walks_recog).prog 55) (kwd := []) K25.ob_eq
    (by kernel_rfl) (fun s => by kernel_rfl) K25.run (by kernel_rfl) (by kernel_rfl) (by kernel_rfl) (by rfl) (by first | assumption | decide +kernel) (by decide +kernel) ⟨rfl, rfl, rfl, rfl, rfl, by decide +kernel⟩ ?hw ?hc
  case hw => w_witness2
  case hc =>
    exact Fw.walkF (l := PySem.Challenge.rw_firstwake_k25_placements_and_walks_recog) (n := 63) (k := 30) (x := "script") (tab := K25.tab) (xs := K25.xs) (id := K25.lawId) (dl := K25.d37) rfl (by decide) (by kernel_rfl) ⟨rfl, by decide, by decide⟩ (by kernel_rfl) (by kernel_rfl) (by kernel_rfl) K25.gsok K25.all_ K25.eval_

