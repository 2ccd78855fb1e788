import PyProof.Rows.All
import Wide.All
import HandS.ForMost
import KE.GoesEnum
import HandS.Exc
import HandS.ExcIs
import HandS.ExcValue
import HandS.TupAny
import HandS.Style
import KE.KEqNest
import KE.KRevSl
import HandS.TupMul
import HandS.Deep
import HandS.SortInts
import HandS.IsInst
import HandS.More
import HandS.Conv
import HandS.Zip
import HandS.Small
import HandS.Comp
import HandS.ExcOwn
import HandS.Words
import HandS.WordsExc
import HandS.Ends
import PyProof.CallType
import KE.GoesMore
import PyProof.Rows.CallKwBuiltin
import PyProof.Rows.CallKw2
import HandS.SetFor
import HandS.Strs
import HandS.TryMany
import HandS.WordsDict
import HandS.AnyAll
import HandS.Defaults
import HandS.Head2
import HandS.HeadHook2
import HandS.HeadHook3
import PyProof.ExcBaseAll.ValueError
import PyProof.ReprBulk
import Wide.Once
import KE.KStateDown
import HandS.Head0
import HandS.Head1
import PySem.Challenge.RW_firstwake_k85_rooms_of_inputs
set_option Elab.async false
set_option linter.all false
set_option maxRecDepth 100000
set_option maxHeartbeats 1000000
/-! Fw, part T: enumerate over a tuple. -/
namespace Fw
open PySem PySem.Spec PyProof.Rows L2
theorem meets_enu1 {v : Value} {o : Obj} {G : Heap → Prop} (B : Begins v o G) :
    Meets (Builtin.«enumerate.__new__» ⟨[.type "enumerate", v], []⟩) (fun _ R st => G st.heap ∧ R (.ok (.ret (.ref (st.heap.push o).objs.size))) { st with heap := (st.heap.push o).push { cls := .type "enumerate", data := .fields #[.none, .bool false, .ref st.heap.objs.size, rawInt 0, .none, .none] } }) :=
  .of_wp fun pr wd Ar R st hy => by
    obtain ⟨hp, gs, dr, tk, os⟩ := st
    obtain ⟨hG, hR⟩ := hy
    have sb := sub_enumerate
    have go : ∀ {A' : Around} {E : Value → Shared → Prop} {Q : Value → Shared → Prop}, Q (.ref hp.objs.size) ⟨hp.push o, gs, dr, tk, os⟩ → wpAny (model pr wd) A' (pyIter v) Q E ⟨hp, gs, dr, tk, os⟩ := fun q => B.iter pr wd _ _ ⟨hp, gs, dr, tk, os⟩ _ hG q
    wp_walk using go
    refine wpAny_stack_any fun st => wpAny_pure ?_
    split
    · rename_i cc _ _ _ _ _
      cases (cc == Value.type "enumerate") <;> (wp_walk using go; exact ⟨_, rfl, hR⟩)
    · wp_walk using go; exact ⟨_, rfl, hR⟩
section
variable {prog : Program} {w : World} {A : Around} {E : Value → Shared → Prop} {s : Shared}
/-- enumerate(v): its two new cells -/
theorem enu1_made {v : Value} {o : Obj} {G : Heap → Prop} {Q : Value → Shared → Prop} (B : Begins v o G) (hG : G s.heap)
    (k : ∀ h', IsEnum h' (s.heap.objs.size + 1) s.heap.objs.size 0 .none → h'.get? s.heap.objs.size = some o → (∀ b u, s.heap.get? b = some u → h'.get? b = some u) → Q (.ref (s.heap.objs.size + 1)) { s with heap := h' }) :
    wpAny (model prog w) A (call (.type "enumerate") [v]) Q E s := by
  refine callType_new F.called_enumerate (by decide) (F.typeCall_enumerate_1 _) (F.newCall_enumerate_1 _) (fun ob => F.args_object_init_2 ob _) F.entry_enumerate_new (meets_enu1 B) ⟨hG, ?_⟩
  have z : (s.heap.push o).objs.size = s.heap.objs.size + 1 := Heap.size_push ..
  have e := Heap.get?_push_size (s.heap.push o) (o := { cls := .type "enumerate", data := .fields #[.none, .bool false, .ref s.heap.objs.size, rawInt 0, .none, .none] }) rfl
  show _ ∧ _
  rw [z] at e ⊢
  exact ⟨⟨_, e, rfl⟩, k _ e (Heap.get?_push_of_some _ (Heap.get?_push_size _ B.free)) fun b u x => Heap.get?_push_of_some _ (Heap.get?_push_of_some _ x)⟩
end
theorem mem2 {a b c : Addr} (h : a ∈ [b, c]) : a = b ∨ a = c := by simpa using h
/-- the tuple at a, each item in a new pair -/
def IteT (K : PySem.W.Frag) (a : Addr) : It where
  go := fun i H => ∃ (xs : List V) (x : V), SqT K H a xs ∧ xs[i]? = some x
  yld := fun i H v H' => ∃ T x, v = .ref T ∧ H T = none ∧ H' = upd H T (.tup [.int (i : Nat), x]) ∧ ∀ xs, SqT K H a xs → xs[i]? = some x
  stop := fun i H => ∃ xs : List V, SqT K H a xs ∧ xs.length ≤ i
theorem turn_enuT {P : Program} {w : World} {K : PySem.W.Frag} {elts : List Expr} {kk : Nat} {tpos : Pos} (a c it : Addr) (hca : a ≠ it) :
    Turn P w K (.Tuple elts kk tpos) (IteT K a) [c, it] c (fun i h => (∃ old, IsEnum h c it ((i : Nat) : Int) old) ∧ h.IsTupleIter it a i ∧ c ≠ it ∧ c ≠ a) where
  mem := by simp
  obj := fun i h st b hb => by
    obtain ⟨⟨old, hc⟩, ⟨o, ho, _, hd⟩, _⟩ := st
    rcases mem2 hb with z | z <;> subst z
    · exact ⟨_, hc, fun v q => nomatch q⟩
    · exact ⟨o, ho, fun v q => by rw [hd] at q; cases q⟩
  keep := fun i h h' ⟨⟨old, hc⟩, hi, ne⟩ k => ⟨⟨old, k c (by simp) _ hc⟩, hi.at fun o q => k it (by simp) o q, ne⟩
  item := by
    intro X hP hw hK hcalm i pins s σ H E I hf st hg
    subst hP hw hK
    obtain ⟨⟨old, hc⟩, hit, ne, nea⟩ := st
    obtain ⟨xs, x, hq, hx⟩ := hg
    obtain ⟨its, rv, pt, hz⟩ := I.tuple hq
    obtain ⟨u, hu, ru⟩ := rv.get hx
    have lc : c < s.heap.objs.size := Heap.lt_size hc
    have li : it < s.heap.objs.size := by obtain ⟨_, q, _⟩ := hit; exact Heap.lt_size q
    have lt : i < its.toArray.size := by simpa using (List.getElem?_eq_some_iff.mp hu).1
    refine wpAny_pyNext_enum_itemD (Draws.tuple (A := X.A.in1) (I.ok.hd hcalm) it a hca its.toArray) hc ⟨hit, pt⟩ lt ne (by simp [ne, nea]) fun y h' tk hy ho st' hT hsz hk => ?_
    have ey : y = u := by
      have hy' : its[i]? = some y := by simpa using hy
      exact Option.some.inj (hy'.symm.trans hu)
    subst ey
    refine ⟨_, rfl, wpAny_letOwnedTupleGo_enum (s := { s with heap := h', toks := tk + 1 }) ho fun h2 he2 sb => ?_⟩
    have hT2 := (sb.2 _ (Nat.ne_of_gt lc)).trans hT
    have new : ObjOk X.prog X.w (upd H s.heap.objs.size (.tup [.int (i : Nat), x])) h2 s.heap.objs.size (.tup [.int (i : Nat), x]) :=
      ⟨by show 2 ≤ sizeLine; decide, [.int i tk, y], .cons ⟨_, rfl⟩ (.cons ru .nil), ⟨_, hT2, rfl, _, rfl⟩⟩
    have I1 : Inv X pins σ (upd H s.heap.objs.size (.tup [.int (i : Nat), x])) { s with heap := h2, toks := tk + 1 } :=
      I.turnedNew (ch := [c, it]) (fun b ob hb q => (sb.2 b (fun z => hb (by simp [z]))).trans (hk b ob (fun z => hb (by simp [z])) (fun z => hb (by simp [z])) q)) hf (Nat.le_refl _) new
    refine ⟨.ref s.heap.objs.size, _, I1, rfl, ⟨_, x, rfl, I.hok.fresh (Nat.le_refl _), rfl, fun ys hy => by rw [I.tuple_inj hy hq]; exact hx⟩, ⟨⟨y, ?_⟩, st'.1.at fun o q => (sb.2 it (Ne.symm ne)).trans q, ne, nea⟩, fun b hb => ?_⟩
    · have e1 : ((i + 1 : Nat) : Int) = (i : Int) + 1 := by omega
      rw [e1]; exact he2
    · have lb : b < s.heap.objs.size := by rcases mem2 hb with z | z <;> subst z <;> assumption
      rw [upd_ne (Nat.ne_of_lt lb)]; exact (hf b hb).1
  done := by
    intro X hP hw hK hcalm i pins s σ H E I hf st hg
    subst hP hw hK
    obtain ⟨⟨old, hc⟩, hit, ne, nea⟩ := st
    obtain ⟨xs, hq, hx⟩ := hg
    obtain ⟨its, rv, pt, hz⟩ := I.tuple hq
    obtain ⟨f0, f1, f2, f3, f4, f5⟩ := hf it (by simp)
    have hl := rv.length
    have dn : ∀ (s' : Shared) (Q : Value → Shared → Prop) (E : Value → Shared → Prop), s'.heap.IsTupleIter it a i ∧ s'.heap.IsTuple a its.toArray → (∀ h' x, Heap.ExtBut it s'.heap h' → (∃ o, h'.get? x = some o ∧ o.cls = .type "StopIteration") → E (.ref x) { s' with heap := h' }) →
        wpAny (model X.prog X.w) X.A.in1 (Builtin.SmallTypes.nextOf (.ref it)) Q E s' := fun s' Q E st k => wpAny_nextOf_tuple_end (I.ok.hd hcalm) st.1 st.2 (by simp; omega) k
    have D2 : Draws X.prog X.w X.A.in1 it [it, a] i (fun i v => i < its.toArray.size ∧ its.toArray[i]? = some v) (fun j h => if j < i then False else h.IsTupleIter it a i ∧ h.IsTuple a its.toArray) :=
      ⟨fun j h st => by by_cases q : j < i <;> simp only [q, if_true, if_false] at st; obtain ⟨o, ho, _⟩ := st.1; exact ⟨o, ho⟩,
       fun j h h' st k => by by_cases q : j < i <;> simp only [q, if_true, if_false] at st ⊢; exact ⟨st.1.at fun o e => k it (by simp) o e, st.2.at fun o e => k a (by simp) o e⟩,
       fun j s Q E hj st => by rw [if_pos hj] at st; exact st.elim,
       fun s' Q E st k => by rw [if_neg (Nat.lt_irrefl _)] at st; exact dn s' Q E st k⟩
    exact wpAny_pyNext_enum_endD D2 hc (by show (if i < i then False else _); rw [if_neg (Nat.lt_irrefl _)]; exact ⟨hit, pt⟩) fun h' eb => ⟨rfl, I.turned (t' := s.toks) (fun b o hb q => eb b o hb q) f0 f1 f3 f4 f5⟩
  self := fun A i s Q E ⟨⟨_, hc⟩, _⟩ k => wpAny_pyIter_enum hc k
/-- a list or a tuple -/
def iEnuA (K : PySem.W.Frag) (ta : TA) : TI := fun σ H R => ta σ H fun vs H1 => ∃ a xs, vs = [.ref a] ∧ ((SqL K H1 a xs ∧ R (Ite K a) H1) ∨ (SqT K H1 a xs ∧ R (IteT K a) H1))
theorem pi_enuA {X : Cx} {e : Expr} {ta : TA} {p pos tpos : Pos} {elts : List Expr} {kk : Nat} (hg : Gl X "enumerate") (hm : X.mg "enumerate" = none) (ha : PA X [e] ta) (hs : starEach [e] X.env = [(false, eval e X.env)]) :
    PI X (.Tuple elts kk tpos) (.Call (.Name "enumerate" p) [e] [] pos) (iEnuA X.K ta) := by
  refine ⟨fun pins s σ H R I h => ?_⟩
  refine Call_ (ld_blt I hg hm boot_enumerate (callWith_type1 (thn (ha.run pos pins s σ H _ I h) fun us s1 ⟨vs, H1, I1, r1, q1⟩ => ?_) hs rfl))
  obtain ⟨a, xs, rfl, q⟩ := q1
  cases r1 with
  | cons r rr =>
    cases rr
    cases r
    have fp : ∀ b ∈ [s1.heap.objs.size + 1, s1.heap.objs.size], ∀ h' : Heap, FpOk X pins H1 b := fun b hb _ => by
      have hle : s1.heap.objs.size ≤ b := by rcases mem2 hb with z | z <;> rw [z] <;> first | exact Nat.le_succ _ | exact Nat.le_refl _
      exact I1.fpOk hle (I1.hok.fresh hle)
    rcases q with ⟨hq, q⟩ | ⟨hq, q⟩
    · obtain ⟨its, rv, pl, hz⟩ := I1.list hq
      refine call_enumerate_list pl.isList fun h' he hit hsz hk => wpAny_pyIter_enum he ?_
      exact ⟨_, _, _, _, H1, rfl, I1.kept (t' := s1.toks) hk, turn_enum a (s1.heap.objs.size + 1) s1.heap.objs.size, ⟨⟨.none, he⟩, hit, Nat.succ_ne_self _⟩, fun b hb => fp b hb h', q⟩
    · obtain ⟨its, rv, pt, hz⟩ := I1.tuple hq
      have la : a < s1.heap.objs.size := by obtain ⟨o, q, _⟩ := pt; exact Heap.lt_size q
      refine enu1_made (begins_tuple a its.toArray) pt fun h' he hit hk => wpAny_pyIter_enum he ?_
      exact ⟨_, _, _, _, H1, rfl, I1.kept (t' := s1.toks) hk, turn_enuT a (s1.heap.objs.size + 1) s1.heap.objs.size (Nat.ne_of_lt la), ⟨⟨.none, he⟩, ⟨_, hit, rfl, rfl⟩, Nat.succ_ne_self _, Nat.ne_of_gt (Nat.lt_succ_of_lt la)⟩, fun b hb => fp b hb h', q⟩
end Fw

set_option Elab.async false
set_option linter.all false
set_option maxRecDepth 100000
set_option maxHeartbeats 1000000
/-! Fw, part U: a caught exception that is kept behind the suite; isinstance of an exception held. -/
namespace Fw
open PySem PySem.Spec PyProof.Rows L2
/-- of an exception at a nothing but its class is known -/
def ExAt (D a : Addr) (h : Heap) : Prop := ∃ oe : Obj, h.get? a = some oe ∧ Zc (.ref D) none oe ∧ ∃ vs, oe.data = .fields vs
def ExK (D a : Addr) : HO := .ext (ExAt D a)
theorem exK_ok {P : Program} {w : World} {H : Hp} {h : Heap} {D a : Addr} (x : ExAt D a h) : ObjOk P w H h a (ExK D a) := by
  refine ⟨x, ?_, ?_⟩
  · obtain ⟨oe, e, _⟩ := x
    exact ⟨oe, e⟩
  · rintro h1 h2 ⟨oe, e, z⟩ k
    exact ⟨oe, k oe e, z⟩
section
variable {X : Cx} {pins : List (Addr × Obj)} {σ : L2.St} {H : Hp} {s : Shared}
/-- a pinned exception, tracked from here on -/
theorem track {D a : Addr} {oe : Obj} (I : L2.Inv X ((a, oe) :: pins) σ H s) (hz : Zc (.ref D) none oe) (hd : ∃ vs, oe.data = .fields vs)
    (n0 : X.s_0.heap.get? a = none) (np : ∀ p ∈ X.pn ++ pins, p.1 ≠ a) : L2.Inv X pins σ (upd H a (ExK D a)) s := by
  have pa := I.pin (a, oe) (List.mem_append_right _ List.mem_cons_self)
  have ga : s.heap.get? a = some oe := pa.1
  have na : H a = none := pa.2.1
  have nl : a ≠ X.env.locals := pa.2.2.1
  have nc : ∀ v, oe.data ≠ .cell v := pa.2.2.2.2
  have ne : ∀ {b : Addr} {u : HO}, H b = some u → b ≠ a := fun q z => by rw [z, na] at q; cases q
  have b0 := I.base
  refine ⟨I.ok, I.os, I.bare, ?base, I.loc, I.cell, ?free, ?freeC, ?pin, ?hok, I.len⟩
  case base =>
    refine ⟨b0.keep, b0.slot, ?_, b0.there, ?_, ?_, ?_⟩
    · intro b o q n hx
      rw [upd_ne fun z => by rw [z, n0] at q; cases q]
      exact b0.free b o q n hx
    · intro b xs q
      have q2 := b0.tups b xs q
      rw [upd_ne (ne q2)]; exact q2
    · intro b o u q
      have q2 := b0.frzs b o u q
      rw [upd_ne (ne q2)]; exact q2
    · intro b ps q
      obtain ⟨m, q2⟩ := b0.tbls b ps q
      exact ⟨m, by rw [upd_ne (ne q2)]; exact q2⟩
  case free => rw [upd_ne (Ne.symm nl)]; exact I.free
  case freeC =>
    intro x c q
    obtain ⟨v, o, q2, q3⟩ := I.cell x c q
    rw [upd_ne fun z => ?_]
    · exact I.freeC x c q
    · rw [z, ga] at q2
      cases q2
      exact nc v q3
  case pin =>
    intro p hp
    obtain ⟨q1, q2, q3⟩ := I.pin p (by
      rcases List.mem_append.mp hp with z | z
      · exact List.mem_append_left _ z
      · exact List.mem_append_right _ (List.mem_cons_of_mem _ z))
    exact ⟨q1, by rw [upd_ne (np p hp)]; exact q2, q3⟩
  case hok =>
    intro b u q
    by_cases hb : b = a
    · subst hb
      rw [upd_same] at q
      cases q
      exact exK_ok ⟨oe, ga, hz, hd⟩
    · rw [upd_ne hb] at q
      refine (I.hok b u q).stay (fun _ _ _ z => z) (fun c z => ?_) fun c xs z => ?_
      · rw [upd_ne (ne z)]; exact z
      · rw [upd_ne (ne z)]; exact z
end
/-- what an except clause wishes whose suite keeps the exception -/
def wKeep (K : PySem.W.Frag) (c : Value) (i : Nat) (ts : Addr → L2.TS) (Wout : WX) (D : Ends) : WX := fun cls d σ H =>
  ∃ b, PySem.W.exmOne K cls c = some b ∧ (b = false → Wout cls d σ H) ∧
    (b = true → ∃ C, cls = .ref C ∧ d = none ∧ ∀ a, H a = none → ts a { nx := fun σ' H' => H' a = none → D.nx (σ'.set i none) (upd H' a (ExK C a)), rt := fun _ _ => False, bk := fun _ _ => False, ct := fun _ _ => False } (σ.set i (some (.ref a))) H)
section
variable {X : Cx} {x n : Str} {c : Value} {i : Nat} {body suite : List Stmt} {b₀ : Stmt} {np pos pos' : Pos} {tb : WX → L2.TS} {ts : Addr → L2.TS} {Wout : WX}
theorem ps_try_keep (hs : X.stack = X.env :: X.outer) (hf : X.env.frame = some X.env.locals) (hex : X.ex = []) (hN : X.N.Nodup) (hi : X.N[i]? = some n) (hln : X.env.kindOf n = some .local) (hc : Names X x c) (tk : Takes X Wout)
    (hb : ∀ (W : WX) (pn : List (Addr × Obj)) (xe : Value → Shared → Prop), Takes (X.tr pn xe) W → PassesOwn (model X.prog X.w) X.A X.env xe → PSs (X.tr pn xe) body (tb W))
    (hsu : ∀ (a : Addr) (pn : List (Addr × Obj)), PSs (X.suite a pn) (b₀ :: suite) (ts a)) :
    PS X (.Try body [.ExceptHandler (some (.Name x np)) (some n) (b₀ :: suite) pos'] [] [] pos) (fun D σ H => tb (wKeep X.K c i ts Wout D) D σ H) := by
  constructor
  intro pins s σ H D I h
  have ok := I.ok
  have hfr : X.A.frames = some (X.env :: X.outer) := by rw [ok.frames, hs]
  let hd₁ : ExceptHandler := .ExceptHandler (some (.Name x np)) (some n) (b₀ :: suite) pos'
  let M := model X.prog X.w
  let xe : Value → Shared → Prop := fun e t1 => wpAny M X.A (noteFrame e X.env) (fun _ t2 => wpAny M X.A (setFlight e none) (fun _ t3 => wpAny M X.A (handleBy e X.env [hd₁]) (SP X pins D) X.xe t3) X.xe t2) X.xe t1
  have takes : Takes (X.tr (X.pn ++ pins) xe) (wKeep X.K c i ts Wout D) := by
    rintro u s' ⟨a, B, sI, pins', σ', H', cls, d, rfl, J', nb, up, sky, na, os, ag, b, hb1, hno, hyes⟩
    have J : L2.Inv X pins σ' H' sI := J'.ofTry ok
    have sky' : Sky B (X.env :: X.outer) a (Zc cls d) X.env.locals s'.heap := by rw [← hs]; exact sky
    show wpAny M X.A (noteFrame (.ref a) X.env) _ _ _
    refine Sky.land Zc.steady hfr hf sky' fun h3 fl3 up3 => ?_
    have J3 : L2.Inv X pins σ' H' { s' with heap := h3 } := J.landed nb fl3.1 (up.trans up3) os ag
    obtain ⟨o3, v3, e3, z3, d3⟩ := fl3.there
    have nfr : a ∉ frs (X.env :: X.outer) := fun hm => by
      obtain ⟨_, o', e', hnf⟩ := fl3.2.2.1.mem hm
      rw [e3] at e'; cases e'
      exact hnf _ d3
    have nL : a ≠ X.env.locals := fun z => nfr (List.mem_filterMap.mpr ⟨X.env, List.mem_cons_self, by rw [hf, z]⟩)
    have nF : a ∉ X.fs := fun hm => by
      obtain ⟨e, he, q⟩ := List.mem_filterMap.mp hm
      exact nfr (List.mem_filterMap.mpr ⟨e, List.mem_cons_of_mem _ he, q⟩)
    -- it is none of what was there
    have nI : sI.heap.get? a = none := by
      cases q : sI.heap.get? a with
      | none => rfl
      | some o =>
        have z := nb a o q (by rw [hs]; exact nfr)
        rw [fl3.2.1] at z; cases z
    have n0 : X.s_0.heap.get? a = none := by
      cases q : X.s_0.heap.get? a with
      | none => rfl
      | some o =>
        obtain ⟨o', z⟩ := J.base.there a o q (by rw [hex]; exact fun z => nomatch z)
        rw [nI] at z; cases z
    have npn : ∀ p ∈ X.pn ++ pins, p.1 ≠ a := fun p hp z => by
      have q := (J.pin p hp).1
      rw [z, nI] at q; cases q
    have S3 := J3.suite e3 d3 na nL nF
    refine wpAny_handleBy_cons (codeAny_handlers_test ?_) (by intro q; cases q)
    have LT : PySem.W.Looks M h3 (typeOf (.ref a)) cls := fun A Q E s k q => wpAny_typeOf_ref (k _ _ e3) (by rw [z3.1]; exact q)
    have LM := PySem.W.exm_one (M := M) J3.kIn LT hb1
    have test : ∀ {Q E : Value → Shared → Prop}, Q c { s' with heap := h3 } → wpAny M (X.A.mark (some (.ref a))) (eval (.Name x np) X.env) Q E { s' with heap := h3 } := fun {Q E} q => by
      obtain ⟨hg, hdbg, hm | ⟨hm, hv, hnn⟩⟩ := hc
      · exact ld_glob (X := X.suite a ((a, o3) :: (X.pn ++ pins))) S3 hg hm q hdbg
      · exact ld_blt (X := X.suite a ((a, o3) :: (X.pn ++ pins))) S3 hg hm hv q hnn hdbg
    refine test (LM.here ?_)
    cases b with
    | true =>
      obtain ⟨Ca, ec, ed, go⟩ := hyes rfl
      refine codeAny_handlers_suite_as ?_
      refine HandSPX.lands_againZ fl3 fun h4 fl4 up4 => ?_
      have J4 : L2.Inv X pins σ' H' { s' with heap := h4 } := J.landed nb fl4.1 ((up.trans up3).trans up4) os ag
      obtain ⟨o4, v4, e4, z4, d4⟩ := fl4.there
      have S4 := J4.suite e4 d4 na nL nF
      refine store_ok (X := X.suite a ((a, o4) :: (X.pn ++ pins))) (v := .ref a) S4 hN hi (.inl hln) rfl (fun s5 S5 => ?_) (.inr hln)
      refine wpAny_mono ((hsu a ((a, o4) :: (X.pn ++ pins))).run [] s5 _ H' _ S5 (go a na)) (fun f s6 hsp => ?_) fun _ _ z => False.elim z
      cases f with
      | next =>
        obtain ⟨σ6, H6, S6, q6⟩ := hsp
        have I6 : L2.Inv X ((a, o4) :: pins) σ6 H6 s6 := by
          refine ⟨ok, S6.os, S6.bare, S6.base, S6.loc, S6.cell, S6.free, S6.freeC, fun p hp => S6.pin p ?_, S6.hok, S6.len⟩
          refine List.mem_append_left _ ?_
          rcases List.mem_append.mp hp with z | z
          · exact List.mem_cons_of_mem _ (List.mem_append_left _ z)
          · rcases List.mem_cons.mp z with z | z
            · rw [z]; exact List.mem_cons_self
            · exact List.mem_cons_of_mem _ (List.mem_append_right _ z)
        refine gone_ok I6 hN hi hln fun s7 I7 => ?_
        have na7 := (I7.pin (a, o4) (List.mem_append_right _ List.mem_cons_self)).2.1
        subst ec; subst ed
        exact ⟨_, _, track I7 z4 ⟨_, d4⟩ n0 npn, q6 na7⟩
      | brk => obtain ⟨_, _, _, q6⟩ := hsp; exact q6.elim
      | cont => obtain ⟨_, _, _, q6⟩ := hsp; exact q6.elim
      | ret u => obtain ⟨_, _, _, _, _, q6⟩ := hsp; exact q6.elim
    | false =>
      show wpAny M X.A (handleBy (.ref a) X.env []) _ _ _
      refine wpAny_handleBy_nil ?_
      obtain ⟨k1, k2, k3, oe, vs, T, oT, ts', he, hz, hd, h1, hr⟩ := id fl3
      unfold PySem.passOn
      refine wpAny_bind (wpAny_field he hd h1 ?_)
      rw [if_neg (by simp : ¬ ((Value.ref T == Value.none) = true))]
      have up_ : wpAny M X.A (setFlight (.ref a) X.env.frame) (fun _ t4 => wpAny M X.A (throw (.ref a) : Sem Flow) (SP X pins D) X.xe t4) X.xe { s' with heap := h3 } := by
        rw [hf]
        refine HandSPX.setFlight_upZ fl3 fun h4 hh4 up4 => wpAny_throw (tk _ _ ?_)
        exact ⟨a, B, sI, pins, σ', H', cls, d, rfl, J, nb, (up.trans up3).trans up4, .inr (.inr (by rw [hs]; exact hh4)), na, os, ag, hno rfl⟩
      first | exact wpAny_bind up_ | exact wpAny_bind (wpAny_pure (wpAny_bind up_))
  refine wpAny_Try_except (wpAny_mono ((hb _ _ _ takes PassesOwn.looking).run [] s σ H D (I.toTry _) h) (fun f s1 hsp => ?_) fun _ _ he => he)
  cases f with
  | next =>
    obtain ⟨σ', H', J', q⟩ := hsp
    exact wpAny_execs_nil ⟨σ', H', J'.ofTry ok, q⟩
  | brk => obtain ⟨σ', H', J', q⟩ := hsp; exact ⟨σ', H', J'.ofTry ok, q⟩
  | cont => obtain ⟨σ', H', J', q⟩ := hsp; exact ⟨σ', H', J'.ofTry ok, q⟩
  | ret u => obtain ⟨v, σ', H', J', r, q⟩ := hsp; exact ⟨v, σ', H', J'.ofTry ok, r, q⟩
end
/-- isinstance(e, c), e an exception held -/
def rIsX (K : PySem.W.Frag) : List V → Hp → VK → Prop := fun xs H Q => ∃ (a D : Addr) (φ : Heap → Prop) (c : V) (cv : Value) (b : Bool), xs = [.ref a, c] ∧ H a = some (.ext φ) ∧ (∀ h, φ h → ExAt D a h) ∧ ExcC K D ∧ (∀ u, RelV c u → u = cv) ∧ PySem.W.kitOne K (.ref D) cv = some b ∧ Q (.bl b) H
theorem call_isX {X : Cx} : CallR X (.builtin "isinstance") (rIsX X.K) := by
  intro pins s σ H xs us Q I r h
  obtain ⟨a, D, φ, c, cv, b, rfl, ha, hφ, C, hcv, e, q⟩ := h
  cases r with
  | cons rx rr =>
    cases rr with
    | cons rt rr =>
      cases rr
      cases rx
      have ec := hcv _ rt
      subst ec
      obtain ⟨⟨oc, od, oda, osl⟩, hget, ⟨h1, h2⟩, vs, hv⟩ := hφ _ (I.hok a _ ha).1
      dsimp only at h1 h2 hv
      subst h1; subst h2; subst hv
      have J : PySem.W.InstAt s.heap a _ D none := ⟨hget, rfl, rfl, trivial⟩
      refine PySem.W.kia_one (PySem.W.handS_kitx_exc C.hg C.hk C.hs C.hd C.ha C.hn C.ht C.hm) I.kIn J e (fun z => nomatch z) fun tk => ?_
      exact ⟨.bl b, H, I.kept (t' := tk) fun _ _ z => z, rfl, q⟩
end Fw

set_option Elab.async false
set_option linter.all false
set_option maxRecDepth 100000
set_option maxHeartbeats 1000000
/-! Fw, part U2: a tuple turned round; == of a tuple and the empty one. -/
namespace Fw
open PySem PySem.Spec PyProof.Rows L2 HT
theorem back_pick (xs : Array Value) : ((List.range xs.size).filterMap fun (m : Nat) => xs[(((xs.size : Int) - 1) + (m : Int) * (-1)).toNat]?).toArray = xs.toList.reverse.toArray := by
  congr 1
  have e : ∀ m, m < xs.size → xs[(((xs.size : Int) - 1) + (m : Int) * (-1)).toNat]? = xs.toList.reverse[m]? := fun m hm => by
    have q : (((xs.size : Int) - 1) + (m : Int) * (-1)).toNat = xs.size - 1 - m := by omega
    rw [q, List.getElem?_reverse (by simpa using hm), ← Array.getElem?_toList, Array.length_toList]
  have g : ∀ (n : Nat), n ≤ xs.size → ((List.range n).filterMap fun (m : Nat) => xs[(((xs.size : Int) - 1) + (m : Int) * (-1)).toNat]?) = xs.toList.reverse.take n := by
    intro n
    induction n with
    | zero => intro _; rfl
    | succ n ih =>
      intro hn
      rw [List.range_succ, List.filterMap_append, ih (by omega), List.take_add_one]
      congr 1
      rw [List.filterMap_cons, List.filterMap_nil, e n (by omega)]
      cases xs.toList.reverse[n]? <;> rfl
  rw [g xs.size (Nat.le_refl _), List.take_of_length_le (by simp)]
section
variable {prog : Program} {w : World} {A : Around} {E : Value → Shared → Prop} {s : Shared}
theorem back_parts {sl : Addr} {vl vu vs : Value} {n : Nat} {Q : Int × Int × Nat → Shared → Prop} (hs : s.heap.IsSliceOf sl vl vu vs) (pl : IsPart vl none) (pu : IsPart vu none) (ps : IsPart vs (some (-1)))
    (h : Q ((n : Int) - 1, -1, n) s) : wpAny (model prog w) A (Builtin.Slice.sliceApplied (.ref sl) (pure (n : Int))) Q E s := by
  obtain ⟨os, hos, _, hds⟩ := id hs
  cases pl; cases pu
  cases ps with
  | int i t =>
  unfold Builtin.Slice.sliceApplied Builtin.Slice.sliceFields
  refine wpAny_bind (wpAny_bind (wpAny_field hos hds (x := .none) rfl (wpAny_bind ?_)))
  refine wpAny_field hos hds (x := .none) rfl (wpAny_bind (wpAny_field hos hds (x := .int (-1) t) rfl (wpAny_pure ?_)))
  refine wpAny_bind (slicePart_int ?_)
  show wpAny _ _ (if ((-1 : Int) == 0) = true then _ else _) _ _ s
  rw [if_neg (by decide)]
  refine wpAny_bind (slicePart_none (wpAny_bind (slicePart_none (wpAny_bind (wpAny_pure ?_)))))
  have ea : Builtin.Slice.sliceAdjust none none (-1) (n : Int) = ((n : Int) - 1, -1) := rfl
  have ep : Builtin.Slice.slicePlaces ((n : Int) - 1) (-1) (-1) = n := by
    unfold Builtin.Slice.slicePlaces
    rw [if_neg (by decide)]
    by_cases q : n = 0
    · subst q; rfl
    · rw [if_pos (by omega)]
      have : ((n : Int) - 1 - -1 - 1) / (- -1) + 1 = n := by
        rw [show (- -1 : Int) = 1 by rfl, Int.ediv_one]; omega
      rw [this]; rfl
  show wpAny _ _ (match Builtin.Slice.sliceAdjust none none (-1) (n : Int) with | (lo, hi) => pure (lo, (-1 : Int), Builtin.Slice.slicePlaces lo hi (-1))) _ _ s
  rw [ea]
  show wpAny _ _ (pure ((n : Int) - 1, (-1 : Int), Builtin.Slice.slicePlaces ((n : Int) - 1) (-1) (-1))) _ _ s
  rw [ep]
  exact wpAny_pure h
theorem tuple_back {t sl : Addr} {items : Array Value} {vl vu vs : Value} {Q : Value → Shared → Prop} (ht : IsTup s.heap t items) (hs : s.heap.IsSliceOf sl vl vu vs) (pl : IsPart vl none) (pu : IsPart vu none) (ps : IsPart vs (some (-1)))
    (h : Q (.ref s.heap.objs.size) { s with heap := s.heap.push { cls := .type "tuple", data := .seq items.toList.reverse.toArray } }) (hsz : items.size ≤ sizeLine) : wpAny (model prog w) A (getItem (.ref t) (.ref sl)) Q E s := by
  have ok : sizeOk (.seq items.toList.reverse.toArray) := by
    show items.toList.reverse.toArray.size ≤ sizeLine
    simpa using hsz
  obtain ⟨os, hos, hcs, _⟩ := id hs
  unfold getItem
  try with_reducible refine wpAny_holding ?_
  first | refine wpAny_bind (wpAny_pure ?_) | skip
  have T := ht.typeIs (s := s)
  refine wpAny_bind (wpAny_sequenceKey T (by decide) (wpAny_bind ?_))
  refine wpAny_callSpecial?_slot (name := Str.ofString "__getitem__") T PyProof.Rows.slot_tuple_getitem (wpAny_call_entry PyProof.Rows.slot_tuple_getitem T entry_tuple_getitem ?_ (args_tuple_getitem _ _))
  show wpAny _ _ (Builtin.Tuple.tupleItemsOf (.ref t) >>= _) _ _ s
  refine wpAny_bind (tupleItemsOf_ ht (wpAny_bind (wpAny_typeOf (T := "slice") ⟨os, hos, hcs⟩ ?_)))
  rw [if_pos (by decide)]
  refine wpAny_bind (back_parts hs pl pu ps ?_)
  have no : ¬ ((((items.size : Int) - 1) == 0 && (-1 : Int) == 1 && items.size == items.size) = true) := by
    rw [show ((-1 : Int) == 1) = false from rfl, Bool.and_false, Bool.false_and]
    exact Bool.false_ne_true
  show wpAny _ _ (if (((items.size : Int) - 1) == 0 && (-1 : Int) == 1 && items.size == items.size) = true then _ else _) _ _ s
  rw [if_neg no, back_pick]
  first
    | exact wpAny_bind (m := Builtin.Tuple.tupleExact _) (wpAny_newObj_type (wpAny_pure ⟨_, rfl, wpAny_pure h⟩) ok)
    | exact wpAny_bind (m := Builtin.Tuple.tupleExact _) (wpAny_newObj_type (wpAny_bind (wpAny_pure (wpAny_pure ⟨_, rfl, wpAny_pure h⟩))) ok)
    | exact wpAny_bind (wpAny_bind (m := Builtin.Tuple.tupleExact _) (wpAny_newObj_type (wpAny_pure (wpAny_pure ⟨_, rfl, wpAny_pure h⟩)) ok))
end
section
variable {X : Cx} {e : Expr} {te : L2.TE} {k : Nat} {p1 p2 p3 pos : Pos}
def tRevT (K : PySem.W.Frag) (te : L2.TE) : L2.TE := fun σ H Q => te σ H fun x H1 => ∃ a xs, x = .ref a ∧ SqT K H1 a xs ∧ ∀ p, H1 p = none → Q (.ref p) (upd H1 p (.tup xs.reverse))
/-- t[::-1] of a tuple -/
theorem pe_revT (he : PE X e te) : PE X (.Subscript e (.Slice none none (some (.UnaryOp .USub (.Constant (.int 1) k p1) p2)) p3) pos) (tRevT X.K te) := by
  constructor
  intro pins s σ H Q I h
  refine Subscript_ (thn (he.run pins s σ H _ I h) ?_)
  rintro v s1 ⟨x, H1, I1, r1, a, xs, rfl, hx, q⟩
  cases r1
  have back : PO X (some (.UnaryOp .USub (.Constant (.int 1) k p1) p2)) (tPart (tUn (rU fun i => .int (-i)) (tC (.int 1)))) := po_some (pe_un un_neg pe_int)
  refine wpAny_Slice (thn (po_none.run pins s1 σ H1 (fun o H2 => o = none ∧ H2 = H1) I1 ⟨rfl, rfl⟩) ?_)
  rintro vl s2 ⟨l, H2, I2, pl, rfl, rfl⟩
  refine thn (po_none.run pins s2 σ H2 (fun o H3 => o = none ∧ H3 = H2) I2 ⟨rfl, rfl⟩) ?_
  rintro vu s3 ⟨u, H3, I3, pu, rfl, rfl⟩
  refine thn (back.run pins s3 σ H3 (fun o H4 => o = some (-1) ∧ H4 = H3) I3 ⟨1, rfl, -1, rfl, rfl, rfl⟩) ?_
  rintro vs s4 ⟨o, H4, I4, ps, rfl, rfl⟩
  let sl : Obj := { cls := .type "slice", data := .fields #[vl, vu, vs] }
  have I5 : L2.Inv X pins σ H4 { s4 with heap := s4.heap.push sl } := I4.kept (t' := s4.toks) fun b ob q => Heap.get?_push_of_some _ q
  obtain ⟨its, r, ht, hz⟩ := I5.tuple hx
  have hl := r.length
  show wpAny (model X.prog X.w) X.A (subscriptTail e (.Slice none none (some (.UnaryOp .USub (.Constant (.int 1) k p1) p2)) p3) (.ref a) (.ref s4.heap.objs.size)) (EP X pins σ Q) X.xe { s4 with heap := s4.heap.push sl }
  refine tail_any (ops := [.ref a, .ref s4.heap.objs.size]) ht.typeIs PyProof.Rows.slot_tuple_getitem.lookup ?_ (by with_unfolding_all rfl)
  refine tuple_back ht (Heap.IsSliceOf.new _ vl vu vs) pl pu ps ?_ (by rw [List.size_toArray]; omega)
  refine ⟨.ref _, _, I5.laid (t' := s4.toks) (o := .tup xs.reverse) (fun b ob q => Heap.get?_push_of_some _ q) (Nat.le_refl _) ?_, rfl, q _ (I5.hok.fresh (Nat.le_refl _))⟩
  exact ⟨by rw [List.length_reverse]; exact hz, its.reverse, r.reverse, ⟨_, Heap.get?_push_size _ rfl, rfl, 0, by simp⟩⟩
/-- t == () -/
def rEqE (K : PySem.W.Frag) : R2 := fun x y H Q => ∃ a b xs, x = .ref a ∧ y = .ref b ∧ SqT K H a xs ∧ SqT K H b [] ∧ Q (.bl xs.isEmpty) H
theorem op_eqE (hu : X.A.units + 64 < cLine) : OpR X (compareOp .Eq) (rEqE X.K) := by
  intro pins s σ H x y v u Q I rx ry h
  obtain ⟨a, b, xs, rfl, rfl, ha, hb, q⟩ := h
  cases rx
  cases ry
  obtain ⟨its, r, ht, _⟩ := I.tuple ha
  obtain ⟨its2, r2, ht2, _⟩ := I.tuple hb
  cases r2
  refine SeqAt.rcIn_tuples (e := fun _ => true) ht ht2 (by omega) (fun j h1 h2 => absurd h2 (by simp)) ?_
  have e : ((List.range (min its.toArray.size ([] : List Value).toArray.size)).all (fun _ => true) && its.toArray.size == ([] : List Value).toArray.size) = xs.isEmpty := by
    have hl := r.length
    cases xs with
    | nil => cases r; rfl
    | cons x xs => cases r; simp
  rw [e]
  exact ⟨.bl xs.isEmpty, H, I, rfl, q⟩
end
end Fw

set_option Elab.async false
set_option linter.all false
set_option maxRecDepth 100000
/-! Fw, part A: the evaluator's values, its heap, its combinators. -/
namespace Fw
open PySem

/-- a value: plain data, or a place of the evaluator's heap -/
inductive W where
  | non | bl (b : Bool) | int (i : Int) | str (s : Str) | tup (ws : List W) | loc (n : Nat) | ro (ws : List W)

abbrev Key := Sum Int Str
/-- what stands at a place -/
inductive Cell where
  | lst (ws : List W)
  | dk (kvs : List (Key × W))
  | dz (kvs : List (Key × W))
  | ins (c : Nat) (fs : List (Str × W))
  | err (c : Nat)

/-- a tree of cells by places -/
inductive BT where
  | nil | node (v : Option Cell) (l r : BT)
def BT.get : Nat → BT → Nat → Option Cell
  | 0, _, _ => none
  | _ + 1, .nil, _ => none
  | f + 1, .node v l r, i => match Nat.beq i 0 with
    | true => v
    | false => match Nat.beq (i % 2) 1 with
      | true => BT.get f l (i / 2)
      | false => BT.get f r (i / 2 - 1)
def BT.put : Nat → BT → Nat → Cell → BT
  | 0, t, _, _ => t
  | f + 1, .nil, i, c => match Nat.beq i 0 with
    | true => .node (some c) .nil .nil
    | false => match Nat.beq (i % 2) 1 with
      | true => .node none (BT.put f .nil (i / 2) c) .nil
      | false => .node none .nil (BT.put f .nil (i / 2 - 1) c)
  | f + 1, .node v l r, i, c => match Nat.beq i 0 with
    | true => .node (some c) l r
    | false => match Nat.beq (i % 2) 1 with
      | true => .node v (BT.put f l (i / 2) c) r
      | false => .node v l (BT.put f r (i / 2 - 1) c)
theorem BT.get_nil : ∀ (f i : Nat), BT.get f .nil i = none
  | 0, _ => rfl
  | _ + 1, _ => rfl
theorem BT.get_put : ∀ (f g : Nat) (t : BT) (i j : Nat) (c : Cell), i < f → j < g → BT.get g (BT.put f t i c) j = if j = i then some c else BT.get g t j
  | 0, _, _, _, _, _, h, _ => by omega
  | _ + 1, 0, _, _, _, _, _, h => by omega
  | f + 1, g + 1, t, i, j, c, hi, hj => by
    cases ei : Nat.beq i 0 with
    | true =>
      have e0 : i = 0 := Nat.eq_of_beq_eq_true ei
      subst e0
      cases ej : Nat.beq j 0 with
      | true =>
        have e0 : j = 0 := Nat.eq_of_beq_eq_true ej
        subst e0
        cases t <;> simp [BT.put, BT.get]
      | false =>
        have hj0 : j ≠ 0 := Nat.ne_of_beq_eq_false ej
        cases t with
        | nil =>
          simp only [BT.put, BT.get, ei, ej, if_neg hj0]
          cases Nat.beq (j % 2) 1 <;> simp [BT.get_nil]
        | node v l r => simp only [BT.put, BT.get, ei, ej, if_neg hj0]
    | false =>
      have hi0 : i ≠ 0 := Nat.ne_of_beq_eq_false ei
      cases ej : Nat.beq j 0 with
      | true =>
        have e0 : j = 0 := Nat.eq_of_beq_eq_true ej
        subst e0
        rw [if_neg (fun h => hi0 h.symm)]
        cases t with
        | nil =>
          simp only [BT.put, ei]
          cases Nat.beq (i % 2) 1 <;> rfl
        | node v l r =>
          simp only [BT.put, ei]
          cases Nat.beq (i % 2) 1 <;> rfl
      | false =>
        have hj0 : j ≠ 0 := Nat.ne_of_beq_eq_false ej
        cases oi : Nat.beq (i % 2) 1 with
        | true =>
          have o1 : i % 2 = 1 := Nat.eq_of_beq_eq_true oi
          cases oj : Nat.beq (j % 2) 1 with
          | true =>
            have o2 : j % 2 = 1 := Nat.eq_of_beq_eq_true oj
            have ih := fun t => BT.get_put f g t (i / 2) (j / 2) c (by omega) (by omega)
            have eq : (j = i) ↔ (j / 2 = i / 2) := by omega
            cases t with
            | nil => simp only [BT.put, BT.get, ei, ej, oi, oj, ih, eq, BT.get_nil]
            | node v l r => simp only [BT.put, BT.get, ei, ej, oi, oj, ih, eq]
          | false =>
            have o2 : j % 2 ≠ 1 := Nat.ne_of_beq_eq_false oj
            rw [if_neg (by omega)]
            cases t with
            | nil => simp only [BT.put, BT.get, ei, ej, oi, oj, BT.get_nil]
            | node v l r => simp only [BT.put, BT.get, ei, ej, oi, oj]
        | false =>
          have o1 : i % 2 ≠ 1 := Nat.ne_of_beq_eq_false oi
          cases oj : Nat.beq (j % 2) 1 with
          | true =>
            have o2 : j % 2 = 1 := Nat.eq_of_beq_eq_true oj
            rw [if_neg (by omega)]
            cases t with
            | nil => simp only [BT.put, BT.get, ei, ej, oi, oj, BT.get_nil]
            | node v l r => simp only [BT.put, BT.get, ei, ej, oi, oj]
          | false =>
            have o2 : j % 2 ≠ 1 := Nat.ne_of_beq_eq_false oj
            have ih := fun t => BT.get_put f g t (i / 2 - 1) (j / 2 - 1) c (by omega) (by omega)
            have eq : (j = i) ↔ (j / 2 - 1 = i / 2 - 1) := by omega
            cases t with
            | nil => simp only [BT.put, BT.get, ei, ej, oi, oj, ih, eq, BT.get_nil]
            | node v l r => simp only [BT.put, BT.get, ei, ej, oi, oj, ih, eq]

/-- the evaluator's heap -/
structure IH where
  n : Nat
  t : BT
def IH.get (h : IH) (i : Nat) : Option Cell := match Nat.blt i h.n with
  | true => BT.get (i + 1) h.t i
  | false => none
def IH.set (h : IH) (i : Nat) (c : Cell) : IH := ⟨h.n, BT.put (i + 1) h.t i c⟩
def IH.new (h : IH) (c : Cell) : IH := ⟨h.n + 1, BT.put (h.n + 1) h.t h.n c⟩
theorem IH.get_lt {h : IH} {i : Nat} {c : Cell} (e : h.get i = some c) : i < h.n := by
  unfold IH.get at e
  cases q : Nat.blt i h.n with
  | true => exact Nat.le_of_ble_eq_true q
  | false => rw [q] at e; cases e
theorem blt_of {i n : Nat} (h : i < n) : Nat.blt i n = true := Nat.ble_eq_true_of_le h
theorem blt_of_not {i n : Nat} (h : ¬ i < n) : Nat.blt i n = false := by
  cases q : Nat.blt i n with
  | false => rfl
  | true => exact absurd (Nat.le_of_ble_eq_true q) h
theorem BT.get_mono : ∀ (f g : Nat) (t : BT) (i : Nat), i < f → i < g → BT.get f t i = BT.get g t i
  | 0, _, _, _, h, _ => by omega
  | _ + 1, 0, _, _, _, h => by omega
  | f + 1, g + 1, .nil, i, _, _ => rfl
  | f + 1, g + 1, .node v l r, i, h1, h2 => by
    simp only [BT.get]
    cases ei : Nat.beq i 0 with
    | true => rfl
    | false =>
      have hi0 : i ≠ 0 := Nat.ne_of_beq_eq_false ei
      cases Nat.beq (i % 2) 1 with
      | true => exact BT.get_mono f g l (i / 2) (by omega) (by omega)
      | false => exact BT.get_mono f g r (i / 2 - 1) (by omega) (by omega)
@[simp] theorem IH.n_new (h : IH) (c : Cell) : (h.new c).n = h.n + 1 := rfl
@[simp] theorem IH.n_set (h : IH) (i : Nat) (c : Cell) : (h.set i c).n = h.n := rfl
theorem IH.get_new (h : IH) (c : Cell) (i : Nat) : (h.new c).get i = if i = h.n then some c else h.get i := by
  unfold IH.get IH.new
  dsimp only
  by_cases e : i = h.n
  · subst e
    rw [if_pos rfl, blt_of (Nat.lt_succ_self _), BT.get_put _ _ _ _ _ _ (Nat.lt_succ_self _) (Nat.lt_succ_self _), if_pos rfl]
  · rw [if_neg e]
    by_cases q : i < h.n
    · rw [blt_of q, blt_of (Nat.lt_succ_of_lt q), BT.get_put _ _ _ _ _ _ (Nat.lt_succ_self _) (Nat.lt_succ_self _), if_neg e]
    · rw [blt_of_not q, blt_of_not (by omega)]
theorem IH.get_set (h : IH) (c : Cell) (i j : Nat) (hj : j < h.n) : (h.set j c).get i = if i = j then some c else h.get i := by
  unfold IH.get IH.set
  dsimp only
  by_cases q : i < h.n
  · rw [blt_of q, BT.get_put _ _ _ _ _ _ (Nat.lt_succ_self _) (Nat.lt_succ_self _)]
  · rw [blt_of_not q, if_neg (by omega)]
@[simp] theorem IH.get_new_self (h : IH) (c : Cell) : (h.new c).get h.n = some c := by rw [IH.get_new, if_pos rfl]

/-! ### results -/
inductive Rs (α : Type) where
  | ok (a : α) (h : IH)
  | exc (c : Nat) (h : IH)
  | stuck
def Rs.bind {α β : Type} (r : Rs α) (k : α → IH → Rs β) : Rs β := match r with
  | .ok a h => k a h
  | .exc c h => .exc c h
  | .stuck => .stuck
@[simp] theorem Rs.bind_ok {α β : Type} (a : α) (h : IH) (k : α → IH → Rs β) : (Rs.ok a h).bind k = k a h := rfl
@[simp] theorem Rs.bind_exc {α β : Type} (c : Nat) (h : IH) (k : α → IH → Rs β) : (Rs.exc c h : Rs α).bind k = .exc c h := rfl
@[simp] theorem Rs.bind_stuck {α β : Type} (k : α → IH → Rs β) : (Rs.stuck : Rs α).bind k = .stuck := rfl

abbrev Env := List (Option W)
abbrev EE := Env → IH → Rs W
abbrev EA := Env → IH → Rs (List W)
abbrev ET := Env → IH → Rs Bool
inductive RS where
  | nx (e : Env) (h : IH)
  | bk (e : Env) (h : IH)
  | ct (e : Env) (h : IH)
  | rt (w : W) (h : IH)
  | ex (c : Nat) (e : Env) (h : IH)
  | stuck
abbrev SS := Env → IH → RS
abbrev FT := Nat → List W → IH → Rs W
/-- an expression in a statement: where it raises, the names are as they stand -/
def Rs.st {α : Type} (r : Rs α) (e : Env) (k : α → IH → RS) : RS := match r with
  | .ok a h => k a h
  | .exc c h => .ex c e h
  | .stuck => .stuck
@[simp] theorem Rs.st_ok {α : Type} (a : α) (h : IH) (e : Env) (k : α → IH → RS) : (Rs.ok a h).st e k = k a h := rfl
@[simp] theorem Rs.st_exc {α : Type} (c : Nat) (h : IH) (e : Env) (k : α → IH → RS) : (Rs.exc c h : Rs α).st e k = .ex c e h := rfl
@[simp] theorem Rs.st_stuck {α : Type} (e : Env) (k : α → IH → RS) : (Rs.stuck : Rs α).st e k = .stuck := rfl

/-- a target's end in a statement: it raises nothing -/
def Rs.sg (r : Rs Env) (k : Env → IH → RS) : RS := match r with
  | .ok e h => k e h
  | _ => .stuck
@[simp] theorem Rs.sg_ok (e : Env) (h : IH) (k : Env → IH → RS) : (Rs.ok e h).sg k = k e h := rfl
def lenOk (n : Nat) : Bool := Nat.ble n 16777216
theorem lenOk_iff {n : Nat} : lenOk n = true ↔ n ≤ 16777216 := ⟨Nat.le_of_ble_eq_true, Nat.ble_eq_true_of_le⟩
/-- a test, else no word -/
def Rs.need {α : Type} (b : Bool) (r : Rs α) : Rs α := match b with
  | true => r
  | false => .stuck

/-! ### data -/
def listAt (h : IH) (n : Nat) : Option (List W) := match h.get n with
  | some (.lst ws) => some ws
  | _ => none
def mapO {α β : Type} (f : α → Option β) : List α → Option (List β)
  | [] => some []
  | a :: r => match f a with
    | some b => (match mapO f r with
      | some s => some (b :: s)
      | none => none)
    | none => none
theorem mapO_cons {α β : Type} (f : α → Option β) (a : α) (r : List α) : mapO f (a :: r) = (match f a with
    | some b => (match mapO f r with
      | some s => some (b :: s)
      | none => none)
    | none => none) := rfl
/-- data all the way down, to a depth -/
def toD : Nat → IH → W → Option PyData
  | 0, _, _ => none
  | f + 1, h, w => match w with
    | .non => some .none
    | .bl b => some (.bool b)
    | .int i => some (.int i)
    | .str s => some (.str s)
    | .tup ws => (match mapO (toD f h) ws with
      | some ds => some (.tuple ds)
      | none => none)
    | .loc n => (match listAt h n with
      | some ws => (match mapO (toD f h) ws with
        | some ds => some (.list ds)
        | none => none)
      | none => none)
    | .ro _ => none
/-- the same with empty dicts, for what is shown -/
def toDE : Nat → IH → W → Option PyData
  | 0, _, _ => none
  | f + 1, h, w => match w with
    | .non => some .none
    | .bl b => some (.bool b)
    | .int i => some (.int i)
    | .str s => some (.str s)
    | .tup ws => (match mapO (toDE f h) ws with
      | some ds => some (.tuple ds)
      | none => none)
    | .loc n => (match h.get n with
      | some (.lst ws) => (match mapO (toDE f h) ws with
        | some ds => some (.list ds)
        | none => none)
      | some (.dk []) => some (.dict [])
      | _ => none)
    | .ro _ => none
def datE (h : IH) (w : W) : Option PyData := toDE 65 h w
def dat (h : IH) (w : W) : Option PyData := toD 65 h w

/-! ### expressions -/
def eVar (i : Nat) : EE := fun e h => match e[i]? with
  | some (some w) => .ok w h
  | _ => .stuck
def eC (w : W) : EE := fun _ h => .ok w h
def aNil : EA := fun _ h => .ok [] h
def aCons (f : EE) (g : EA) : EA := fun e h => (f e h).bind fun w h => (g e h).bind fun ws h => .ok (w :: ws) h
def eTup (g : EA) : EE := fun e h => (g e h).bind fun ws h => .need (lenOk ws.length) (.ok (.tup ws) h)
def eLst (g : EA) : EE := fun e h => (g e h).bind fun ws h => .need (lenOk ws.length) (.ok (.loc h.n) (h.new (.lst ws)))
def e1 (k : W → IH → Rs W) (f : EE) : EE := fun e h => (f e h).bind k
def e2 (k : W → W → IH → Rs W) (f g : EE) : EE := fun e h => (f e h).bind fun x h => (g e h).bind fun y h => k x y h
def eCall (Φ : FT) (id : Nat) (g : EA) : EE := fun e h => (g e h).bind fun ws h => Φ id ws h
def eA (k : List W → IH → Rs W) (g : EA) : EE := fun e h => (g e h).bind k

/-! ### operators by values -/
def inPow64 (i : Int) : Bool := decide (-(18446744073709551616 : Int) < i) && decide (i < 18446744073709551616)
def oAdd : W → W → IH → Rs W
  | .int i, .int j, h => .ok (.int (i + j)) h
  | .str a, .str b, h => .need (lenOk (a.length + b.length)) (.ok (.str (a ++ b)) h)
  | .tup a, .tup b, h => .need (lenOk (a.length + b.length)) (.ok (.tup (a ++ b)) h)
  | .loc a, .loc b, h => match h.get a with
    | some (.lst xs) => (match h.get b with
      | some (.lst ys) => .need (lenOk (xs.length + ys.length)) (.ok (.loc h.n) (h.new (.lst (xs ++ ys))))
      | _ => .stuck)
    | _ => .stuck
  | _, _, _ => .stuck
def oSub : W → W → IH → Rs W
  | .int i, .int j, h => .ok (.int (i - j)) h
  | _, _, _ => .stuck
def oMul : W → W → IH → Rs W
  | .int i, .int j, h => .need (inPow64 i || inPow64 j) (.ok (.int (i * j)) h)
  | .loc a, .int k, h => match h.get a with
    | some (.lst xs) => .need (decide (0 ≤ k) && decide (k < 1000000) && lenOk (xs.length * k.toNat)) (.ok (.loc h.n) (h.new (.lst (List.replicate k.toNat xs).flatten)))
    | _ => .stuck
  | .tup xs, .int k, h => .need (!xs.isEmpty && decide (2 ≤ k) && decide (k ≤ 1000) && Nat.ble xs.length 1000) (.ok (.tup (List.replicate k.toNat xs).flatten) h)
  | _, _, _ => .stuck
def oMod : W → W → IH → Rs W
  | .int i, .int j, h => .need (decide (0 < j)) (.ok (.int (i % j)) h)
  | _, _, _ => .stuck
def oDiv : W → W → IH → Rs W
  | .int i, .int j, h => .need (decide (0 < j) && decide (j < 1073741824)) (.ok (.int (i / j)) h)
  | _, _, _ => .stuck
def oPow : W → W → IH → Rs W
  | .int i, .int j, h => .need (decide (0 ≤ j) && decide (j ≤ 1000000) && inPow64 i) (.ok (.int (i ^ j.toNat)) h)
  | _, _, _ => .stuck
def uNeg : W → IH → Rs W
  | .int i, h => .ok (.int (-i)) h
  | _, _ => .stuck

/-! ### comparisons by values -/
def cInt (p : Int → Int → Bool) : W → W → IH → Rs W
  | .int i, .int j, h => .ok (.bl (p i j)) h
  | _, _, _ => .stuck
def oLt := cInt fun i j => decide (i < j)
def oLe := cInt fun i j => decide (i ≤ j)
def oGt := cInt fun i j => decide (j < i)
def oGe := cInt fun i j => decide (j ≤ i)
/-- two plain values of the kinds that are compared at once -/
def scalW : W → W → Option Bool
  | .non, .non => some true
  | .non, .int _ => some false
  | .int _, .non => some false
  | .non, .bl _ => some false
  | .bl _, .non => some false
  | .non, .str _ => some false
  | .str _, .non => some false
  | .int i, .int j => some (decide (i = j))
  | .bl i, .bl j => some (decide (i = j))
  | .str i, .str j => some (decide (i = j))
  | .int _, .str _ => some false
  | .str _, .int _ => some false
  | .bl _, .str _ => some false
  | .str _, .bl _ => some false
  | _, _ => none
def eqW (x y : W) (h : IH) : Option Bool := match scalW x y with
  | some b => some b
  | none => (match dat h x with
    | some d => (match dat h y with
      | some e => (match SeqAt.shaped d && SeqAt.shaped e with
        | true => some (PyData.eqv d e)
        | false => none)
      | none => none)
    | none => none)
/-- a tuple and the empty one: nothing of its items is asked -/
def tupE : W → W → Option Bool
  | .tup ws, .tup [] => some ws.isEmpty
  | _, _ => none
def oEq (x y : W) (h : IH) : Rs W := match tupE x y with
  | some b => .ok (.bl b) h
  | none => (match eqW x y h with
    | some b => .ok (.bl b) h
    | none => .stuck)
def oNe (x y : W) (h : IH) : Rs W := match eqW x y h with
  | some b => .ok (.bl !b) h
  | none => .stuck
def isNone : W → Bool
  | .non => true
  | _ => false
def oIs (x y : W) (h : IH) : Rs W := match y with
  | .non => .ok (.bl (isNone x)) h
  | .bl b => (match x with
    | .bl a => .ok (.bl (decide (a = b))) h
    | _ => .stuck)
  | _ => .stuck
def oIsNot (x y : W) (h : IH) : Rs W := match y with
  | .non => .ok (.bl (!isNone x)) h
  | .bl b => (match x with
    | .bl a => .ok (.bl (!decide (a = b))) h
    | _ => .stuck)
  | _ => .stuck

/-! ### containers by values -/
variable {κ : Type} [DecidableEq κ]
def dGet : List (κ × W) → κ → Option W
  | [], _ => none
  | (a, w) :: r, k => match decide (a = k) with
    | true => some w
    | false => dGet r k
def dPut (kvs : List (κ × W)) (k : κ) (v : W) : List (κ × W) := match kvs.any fun p => decide (p.1 = k) with
  | true => kvs.map fun p => match decide (p.1 = k) with
    | true => (p.1, v)
    | false => p
  | false => kvs ++ [(k, v)]
/-- a key of a dict -/
def keyOf : W → Option Key
  | .int i => some (.inl i)
  | .str s => some (.inr s)
  | _ => none
def keyW : Key → W
  | .inl i => .int i
  | .inr s => .str s
def ofO (o : Option W) (h : IH) : Rs W := match o with
  | some w => .ok w h
  | none => .stuck
/-- x[i] -/
def oIx : W → W → IH → Rs W
  | .loc a, .int i, h => match h.get a with
    | some (.lst ws) => ofO (L2.atI ws i) h
    | some (.dk kvs) => ofO (dGet kvs (.inl i)) h
    | _ => .stuck
  | .loc a, .str s, h => match h.get a with
    | some (.dk kvs) => ofO (dGet kvs (.inr s)) h
    | _ => .stuck
  | .tup ws, .int i, h => ofO (L2.atI ws i) h
  | .str z, .int i, h => match L2.atI z.cps.toList i with
    | some c => .need (lenOk z.length) (.ok (.str ⟨#[c]⟩) h)
    | none => .stuck
  | _, _, _ => .stuck
/-- x[lo:hi] -/
def cutW (xs : List W) (lo hi : Option Int) : List W := (xs.drop (HT.sIx xs.length 0 lo)).take (HT.sIx xs.length xs.length hi - HT.sIx xs.length 0 lo)
def oSl (lo hi : Option Int) : W → IH → Rs W
  | .loc a, h => match listAt h a with
    | some ws => .ok (.loc h.n) (h.new (.lst (cutW ws lo hi)))
    | none => .stuck
  | .tup ws, h => .ok (.tup (cutW ws lo hi)) h
  | .ro ws, h => .ok (.loc h.n) (h.new (.lst (cutW ws lo hi)))
  | _, _ => .stuck
/-- x[::-1] -/
def oRev : W → IH → Rs W
  | .loc a, h => match listAt h a with
    | some ws => .ok (.loc h.n) (h.new (.lst ws.reverse))
    | none => .stuck
  | .tup ws, h => .ok (.tup ws.reverse) h
  | _, _ => .stuck
/-- a part of a slice -/
abbrev EO := Env → IH → Rs (Option Int)
def pNone : EO := fun _ h => .ok none h
def pSome (f : EE) : EO := fun e h => (f e h).bind fun w h => match w with
  | .int i => .ok (some i) h
  | _ => .stuck
def eSl (f : EE) (lo hi : EO) : EE := fun e h => (f e h).bind fun w h => (lo e h).bind fun l h => (hi e h).bind fun u h => oSl l u w h
/-- k in d, x in xs -/
def memO (x : W) (ws : List W) (h : IH) : Option Bool := match dat h x with
  | some d => (match mapO (toD 64 h) ws with
    | some ds => (match SeqAt.shaped d && SeqAt.shaped (.list ds) with
      | true => some (ds.any fun z => PyData.eqv z d)
      | false => none)
    | none => none)
  | none => none
def flatW : W → Bool
  | .tup _ => false
  | .loc _ => false
  | .ro _ => false
  | _ => true
/-- == of two flat values -/
def eqFlat : W → W → Bool
  | .non, .non => true
  | .bl a, .bl b => a == b
  | .int a, .int b => decide (a = b)
  | .bl a, .int b => decide ((if a then 1 else 0) = b)
  | .int a, .bl b => decide (a = (if b then 1 else 0))
  | .str a, .str b => decide (a = b)
  | _, _ => false
def inFlat (x : W) : List W → Bool
  | [] => false
  | y :: r => match eqFlat y x with
    | true => true
    | false => inFlat x r
def inW (x y : W) (h : IH) : Option Bool := match y with
  | .tup ws => (match flatW x && ws.all flatW with
    | true => some (inFlat x ws)
    | false => none)
  | .loc a => (match h.get a with
    | some (.lst ws) => (match flatW x && ws.all flatW with
      | true => some (inFlat x ws)
      | false => memO x ws h)
    | some (.dk kvs) => (match keyOf x with
      | some k => some (dGet kvs k).isSome
      | none => none)
    | _ => none)
  | _ => none
def oIn (x y : W) (h : IH) : Rs W := match inW x y h with
  | some b => .ok (.bl b) h
  | none => .stuck
def oNotIn (x y : W) (h : IH) : Rs W := match inW x y h with
  | some b => .ok (.bl !b) h
  | none => .stuck

/-! ### kinds -/
inductive Ty where
  | non | bool | int | str | tuple | list | dict | own (c : Nat)
  deriving DecidableEq
def tyOf (h : IH) : W → Option Ty
  | .non => some .non
  | .bl _ => some .bool
  | .int _ => some .int
  | .str _ => some .str
  | .tup _ => some .tuple
  | .loc n => (match h.get n with
    | some (.lst _) => some .list
    | some (.dk _) => some .dict
    | some (.ins c _) => some (.own c)
    | some (.dz _) => none
    | some (.err _) => none
    | none => none)
  | .ro _ => none
/-- isinstance of a built-in class -/
def isTy : Ty → Ty → Bool
  | .bool, .int => true
  | a, b => decide (a = b)
def isOwn : Ty → Bool
  | .own _ => true
  | _ => false
def oIsi (ts : List Ty) (x : W) (h : IH) : Rs W := match tyOf h x with
  | some t => .need (!isOwn t) (.ok (.bl (ts.any fun u => isTy t u)) h)
  | none => .stuck

/-- isinstance of an exception held: by what its class is below -/
def oIsE (ds : List (Nat × Bool)) : W → IH → Rs W
  | .loc a, h => (match h.get a with
    | some (.err c) => (match ds.lookup c with
      | some b => .ok (.bl b) h
      | none => .stuck)
    | _ => .stuck)
  | _, _ => .stuck
/-- a new exception object -/
def eErr (c : Nat) (f : EE) : EE := fun e h => (f e h).bind fun _ h => .ok (.loc h.n) (h.new (.err c))
/-! ### built-ins by values -/
def oLen : W → IH → Rs W
  | .tup ws, h => .ok (.int ws.length) h
  | .str z, h => .need (lenOk z.length) (.ok (.int z.length) h)
  | .loc a, h => match h.get a with
    | some (.lst ws) => .ok (.int ws.length) h
    | some (.dk kvs) => .ok (.int kvs.length) h
    | _ => .stuck
  | _, _ => .stuck
def asB : W → Option Bool
  | .bl b => some b
  | _ => none
def asI : W → Option Int
  | .int i => some i
  | _ => none
def asS : W → Option Str
  | .str i => some i
  | _ => none
def oAll : W → IH → Rs W
  | .loc a, h => match listAt h a with
    | some ws => (match mapO asB ws with
      | some bs => .ok (.bl (bs.all id)) h
      | none => .stuck)
    | none => .stuck
  | _, _ => .stuck
def oAny : W → IH → Rs W
  | .loc a, h => match listAt h a with
    | some ws => (match mapO asB ws with
      | some bs => .ok (.bl (bs.any id)) h
      | none => .stuck)
    | none => .stuck
  | _, _ => .stuck
def oSum : W → IH → Rs W
  | .loc a, h => match listAt h a with
    | some ws => (match mapO asI ws with
      | some ns => .ok (.int ns.sum) h
      | none => .stuck)
    | none => .stuck
  | _, _ => .stuck
def insI (i : Int) : List Int → List Int
  | [] => [i]
  | j :: r => match decide (i ≤ j) with
    | true => i :: j :: r
    | false => j :: insI i r
def sortI : List Int → List Int
  | [] => []
  | i :: r => insI i (sortI r)
def intKey : Key × W → Option Int
  | (.inl i, _) => some i
  | _ => none
def oSorted : W → IH → Rs W
  | .loc a, h => match h.get a with
    | some (.lst ws) => (match mapO asI ws with
      | some ns => .ok (.loc h.n) (h.new (.lst ((sortI ns).map W.int)))
      | none => .stuck)
    | some (.dk kvs) => (match mapO intKey kvs with
      | some ns => .need (Nat.ble ns.length 63) (.ok (.loc h.n) (h.new (.lst ((sortI ns).map W.int))))
      | none => .stuck)
    | _ => .stuck
  | _, _ => .stuck
/-- an int put into an ascending list, once -/
def insU (i : Int) : List Int → List Int
  | [] => [i]
  | j :: r => match decide (i < j) with
    | true => i :: j :: r
    | false => match decide (i = j) with
      | true => j :: r
      | false => j :: insU i r
def setI : List Int → List Int
  | [] => []
  | i :: r => insU i (setI r)
/-- sorted(set(xs)) -/
def oSortSet : W → IH → Rs W
  | .loc a, h => match listAt h a with
    | some ws => (match mapO asI ws with
      | some ns => .need (Nat.blt ns.length 64) (.ok (.loc h.n) (h.new (.lst ((setI ns).map W.int))))
      | none => .stuck)
    | none => .stuck
  | _, _ => .stuck
def nodupB : List Int → Bool
  | [] => true
  | i :: r => !r.contains i && nodupB r
/-- len(set(xs)), xs without twins -/
def oLenSet : W → IH → Rs W
  | .loc a, h => match listAt h a with
    | some ws => (match mapO asI ws with
      | some ns => .need (Nat.ble ns.length 4000 && nodupB ns) (.ok (.int (ns.length : Nat)) h)
      | none => .stuck)
    | none => .stuck
  | _, _ => .stuck
def minL (i : Int) : List Int → Int
  | [] => i
  | j :: r => minL (if j < i then j else i) r
def maxL (i : Int) : List Int → Int
  | [] => i
  | j :: r => maxL (if i < j then j else i) r
def oMin1 : W → IH → Rs W
  | .loc a, h => match listAt h a with
    | some ws => (match mapO asI ws with
      | some (i :: r) => .ok (.int (minL i r)) h
      | _ => .stuck)
    | none => .stuck
  | _, _ => .stuck
def oMax1 : W → IH → Rs W
  | .loc a, h => match listAt h a with
    | some ws => (match mapO asI ws with
      | some (i :: r) => .ok (.int (maxL i r)) h
      | _ => .stuck)
    | none => .stuck
  | _, _ => .stuck
def oTuple : W → IH → Rs W
  | .loc a, h => match listAt h a with
    | some ws => .ok (.tup ws) h
    | none => .stuck
  | .tup ws, h => .ok (.tup ws) h
  | _, _ => .stuck
def oList : W → IH → Rs W
  | .loc a, h => match listAt h a with
    | some ws => .ok (.loc h.n) (h.new (.lst ws))
    | none => .stuck
  | .tup ws, h => .ok (.loc h.n) (h.new (.lst ws))
  | _, _ => .stuck
def small (i : Int) : Bool := decide (-1000000000 ≤ i) && decide (i ≤ 1000000000)
/-- list(range(n)) -/
def oListRange : W → IH → Rs W
  | .int n, h => .need (small n && decide (n < 1000000)) (.ok (.loc h.n) (h.new (.lst ((List.range n.toNat).map fun i => W.int (i : Nat)))))
  | _, _ => .stuck
def oListRange2 : W → W → IH → Rs W
  | .int m, .int n, h => .need (small m && small n && decide (n - m < 1000000)) (.ok (.loc h.n) (h.new (.lst ((List.range (n - m).toNat).map fun i => W.int (m + (i : Nat))))))
  | _, _, _ => .stuck
def oRepr (w : W) (h : IH) : Rs W := match datE h w with
  | some d => (match PyData.showable d && lenOk d.shown.length && Nat.ble d.depth 64 with
    | true => .ok (.str d.shown) h
    | false => .stuck)
  | none => .stuck
def oMin2 : W → W → IH → Rs W
  | .int i, .int j, h => .ok (.int (if j < i then j else i)) h
  | _, _, _ => .stuck
def oInt : W → IH → Rs W
  | .int i, h => .ok (.int i) h
  | .bl b, h => .ok (.int (if b then 1 else 0)) h
  | _, _ => .stuck
/-- dict(d) -/
def oDictC : W → IH → Rs W
  | .loc a, h => match h.get a with
    | some (.dk kvs) => .ok (.loc h.n) (h.new (.dk kvs))
    | _ => .stuck
  | _, _ => .stuck
/-- str(i) -/
def oStr1 : W → IH → Rs W
  | .int i, h => .need (Nat.blt i.natAbs 18446744073709551616) (.ok (.str (Str.ofString (toString i))) h)
  | _, _ => .stuck
def k1 (k : W → IH → Rs W) : List W → IH → Rs W
  | [w], h => k w h
  | _, _ => .stuck
def k2 (k : W → W → IH → Rs W) : List W → IH → Rs W
  | [w, u], h => k w u h
  | _, _ => .stuck
def kMin : List W → IH → Rs W
  | [w], h => oMin1 w h
  | [w, u], h => oMin2 w u h
  | _, _ => .stuck
/-! ### methods -/
def isLst (w : W) (h : IH) : Bool := match w with
  | .loc a => (match h.get a with
    | some (.lst _) => true
    | _ => false)
  | _ => false
def isDk (w : W) (h : IH) : Bool := match w with
  | .loc a => (match h.get a with
    | some (.dk _) => true
    | _ => false)
  | _ => false
def eMt (chk : W → IH → Bool) (k : List W → IH → Rs W) (f : EE) (g : EA) : EE := fun e h => (f e h).bind fun x h => .need (chk x h) ((g e h).bind fun ws h => k (x :: ws) h)
def mAppend : List W → IH → Rs W
  | [.loc a, w], h => (match h.get a with
    | some (.lst ws) => .need (Nat.blt ws.length 16777216) (.ok .non (h.set a (.lst (ws ++ [w]))))
    | _ => .stuck)
  | _, _ => .stuck
def mPop0 : List W → IH → Rs W
  | [.loc a], h => (match h.get a with
    | some (.lst ws) => (match ws[ws.length - 1]? with
      | some w => .ok w (h.set a (.lst ws.dropLast))
      | none => .stuck)
    | _ => .stuck)
  | _, _ => .stuck
def mPop1 : List W → IH → Rs W
  | [.loc a, .int i], h => (match h.get a with
    | some (.lst ws) => (match L2.ixN ws.length i with
      | some k => (match ws[k]? with
        | some w => .need (small i) (.ok w (h.set a (.lst (ws.eraseIdx k))))
        | none => .stuck)
      | none => .stuck)
    | _ => .stuck)
  | _, _ => .stuck
def mInsert : List W → IH → Rs W
  | [.loc a, .int i, w], h => (match h.get a with
    | some (.lst ws) => .need (Nat.blt ws.length 16777216 && decide (0 ≤ i) && decide (i < 1000000)) (.ok .non (h.set a (.lst (ws.take i.toNat ++ [w] ++ ws.drop i.toNat))))
    | _ => .stuck)
  | _, _ => .stuck
def mGet2 : List W → IH → Rs W
  | [.loc a, k, d], h => (match h.get a with
    | some (.dk kvs) => (match keyOf k with
      | some k => (match dGet kvs k with
        | some w => .ok w h
        | none => .ok d h)
      | none => .stuck)
    | _ => .stuck)
  | _, _ => .stuck
def mCount : List W → IH → Rs W
  | [.loc a, w], h => (match dat h (.loc a) with
    | some (.list ds) => (match dat h w with
      | some d => .need (SeqAt.shaped (.list ds) && SeqAt.shaped d) (.ok (.int ((ds.countP fun z => PyData.eqv z d : Nat) : Int)) h)
      | none => .stuck)
    | _ => .stuck)
  | _, _ => .stuck
def mExtend : List W → IH → Rs W
  | [.loc a, .loc b], h => (match h.get a with
    | some (.lst xs) => (match h.get b with
      | some (.lst ys) => .need (lenOk (xs.length + ys.length)) (.ok .non (h.set a (.lst (xs ++ ys))))
      | _ => .stuck)
    | _ => .stuck)
  | _, _ => .stuck
/-- x[i] = w -/
def oSet (o i w : W) (h : IH) : Rs Unit := match o with
  | .loc a => (match h.get a with
    | some (.lst ws) => (match i with
      | .int k => (match L2.ixN ws.length k with
        | some j => .ok () (h.set a (.lst (ws.set j w)))
        | none => .stuck)
      | _ => .stuck)
    | some (.dk kvs) => (match keyOf i with
      | some k => .need (Nat.blt kvs.length 16777216) (.ok () (h.set a (.dk (dPut kvs k w))))
      | none => .stuck)
    | _ => .stuck)
  | _ => .stuck

/-! ### tests -/
def truW (w : W) (h : IH) : Rs Bool := match w with
  | .non => .ok false h
  | .bl b => .ok b h
  | .int i => .ok (i != 0) h
  | .tup ws => .ok (!ws.isEmpty) h
  | .loc a => (match h.get a with
    | some (.lst ws) => .ok (!ws.isEmpty) h
    | some (.dk kvs) => .ok (!kvs.isEmpty) h
    | _ => .stuck)
  | .str _ => .stuck
  | .ro _ => .stuck
def bolW (w : W) (h : IH) : Rs Bool := match w with
  | .bl b => .ok b h
  | _ => .stuck
def tTru (f : EE) : ET := fun e h => (f e h).bind truW
def tBol (f : EE) : ET := fun e h => (f e h).bind bolW
def tNot (t : ET) : ET := fun e h => (t e h).bind fun b h => .ok (!b) h
def tAnd (t u : ET) : ET := fun e h => (t e h).bind fun b h => match b with
  | true => u e h
  | false => .ok false h
def tOr (t u : ET) : ET := fun e h => (t e h).bind fun b h => match b with
  | true => .ok true h
  | false => u e h
/-- values -/
def eNot (f : EE) : EE := fun e h => (f e h).bind fun w h => match w with
  | .bl b => .ok (.bl !b) h
  | _ => .stuck
def eAnd (f g : EE) : EE := fun e h => (f e h).bind fun w h => match w with
  | .bl true => g e h
  | .bl false => .ok (.bl false) h
  | _ => .stuck
def eOr (f g : EE) : EE := fun e h => (f e h).bind fun w h => match w with
  | .bl true => .ok (.bl true) h
  | .bl false => g e h
  | _ => .stuck
def eIf (t : ET) (f g : EE) : EE := fun e h => (t e h).bind fun b h => match b with
  | true => f e h
  | false => g e h
/-- a < b < c -/
def eChain (k k' : W → W → IH → Rs W) (f g l : EE) : EE := fun e h => (f e h).bind fun x h => (g e h).bind fun y h => (k x y h).bind fun z h => match z with
  | .bl true => (l e h).bind fun w h => k' y w h
  | .bl false => .ok (.bl false) h
  | _ => .stuck

/-! ### targets -/
abbrev EG := W → Env → IH → Rs Env
def gNm (i : Nat) : EG := fun w e h => .ok (e.set i (some w)) h
def gSeq : List EG → List W → Env → IH → Rs Env
  | [], [], e, h => .ok e h
  | g :: gs, w :: ws, e, h => (g w e h).bind fun e h => gSeq gs ws e h
  | _, _, _, _ => .stuck
def gTp (gs : List EG) : EG := fun w e h => match w with
  | .tup ws => .need (Nat.beq ws.length gs.length) (gSeq gs ws e h)
  | _ => .stuck
def gSb (o i : EE) : EG := fun w e h => (o e h).bind fun x h => (i e h).bind fun y h => (oSet x y w h).bind fun _ h => .ok e h

/-! ### statements -/
def sNext : SS := fun e h => .nx e h
def sSeq (s t : SS) : SS := fun e h => match s e h with
  | .nx e h => t e h
  | r => r
def sExpr (f : EE) : SS := fun e h => (f e h).st e fun _ h => .nx e h
def sRet (f : EE) : SS := fun e h => (f e h).st e fun w h => .rt w h
def sRetN : SS := fun _ h => .rt .non h
def sIf (t : ET) (a b : SS) : SS := fun e h => (t e h).st e fun c h => match c with
  | true => a e h
  | false => b e h
def sAsg (f : EE) (g : EG) : SS := fun e h => (f e h).st e fun w h => (g w e h).sg fun e h => .nx e h
def sBreak : SS := fun e h => .bk e h
def sCont : SS := fun e h => .ct e h
def sAug (i : Nat) (k : W → W → IH → Rs W) (f : EE) : SS := fun e h => match e[i]? with
  | some (some x) => (f e h).st e fun y h => (k x y h).st e fun z h => .nx (e.set i (some z)) h
  | _ => .stuck
def sRaise (c : Nat) : SS := fun e h => .ex c e h
/-- try: b, except .. as n: m = n; i is n's place -/
def sTryK (i m : Nat) (ds : List (Nat × Bool)) (b : SS) : SS := fun e h => match b e h with
  | .ex c e1 h1 => (match ds.lookup c with
    | some true => (match Nat.blt i e1.length with
      | true => .nx ((e1.set m (some (.loc h1.n))).set i none) (h1.new (.err c))
      | false => .stuck)
    | some false => .ex c e1 h1
    | none => .stuck)
  | r => r
/-- a suite that is plain: a value returned, or one kept -/
inductive Su where
  | rt (w : W) | st (i : Nat) (w : W)
def runSu (u : Su) (e : Env) (h : IH) : RS := match u with
  | .rt w => .rt w h
  | .st i w => .nx (e.set i (some w)) h
def handM : List (List (Nat × Bool) × Su) → Nat → Env → IH → RS
  | [], c, e, h => .ex c e h
  | (ds, u) :: r, c, e, h => match ds.lookup c with
    | some true => runSu u e h
    | some false => handM r c e h
    | none => .stuck
/-- try: b, except .. : u, except .. -/
def sTryM (hs : List (List (Nat × Bool) × Su)) (b : SS) : SS := fun e h => match b e h with
  | .ex c e1 h1 => handM hs c e1 h1
  | r => r
def whileN (t : ET) (b : SS) : Nat → Env → IH → RS
  | 0, _, _ => .stuck
  | n + 1, e, h => (t e h).st e fun c h => match c with
    | false => .nx e h
    | true => (match b e h with
      | .nx e h => whileN t b n e h
      | .ct e h => whileN t b n e h
      | .bk e h => .nx e h
      | .rt w h => .rt w h
      | .ex c e h => .ex c e h
      | .stuck => .stuck)
def whileFuel : Nat := 1000000
def sWhile (t : ET) (b : SS) : SS := fun e h => whileN t b whileFuel e h

/-! ### what is walked -/
def kW : Key → W
  | .inl i => .int i
  | .inr s => .str s
inductive IT where
  | lst (a : Nat) | tup (ws : List W) | rng (lo : Int) (n : Nat) | enu (a : Nat) | enuT (ws : List W) | keys (a : Nat) | zip (a b : Nat) | zipT (ws us : List W)
def IT.nth (h : IH) (i : Nat) : IT → Option W
  | .lst a => (listAt h a).bind fun ws => ws[i]?
  | .tup ws => ws[i]?
  | .rng lo n => match Nat.blt i n with
    | true => some (.int (lo + i))
    | false => none
  | .enu a => (listAt h a).bind fun ws => ws[i]?.bind fun w => some (.tup [.int i, w])
  | .enuT ws => ws[i]?.bind fun w => some (.tup [.int i, w])
  | .keys a => (match h.get a with
    | some (.dz kvs) => (match kvs[i]? with
      | some p => some (kW p.1)
      | none => none)
    | _ => none)
  | .zip a b => (listAt h a).bind fun ws => (listAt h b).bind fun us => ws[i]?.bind fun w => us[i]?.bind fun u => some (.tup [w, u])
  | .zipT ws us => ws[i]?.bind fun w => us[i]?.bind fun u => some (.tup [w, u])
/-- nothing is left -/
def IT.fin (h : IH) (i : Nat) : IT → Bool
  | .lst a => (match listAt h a with
    | some ws => Nat.ble ws.length i
    | none => false)
  | .tup ws => Nat.ble ws.length i
  | .rng _ n => Nat.ble n i
  | .enu a => (match listAt h a with
    | some ws => Nat.ble ws.length i
    | none => false)
  | .enuT ws => Nat.ble ws.length i
  | .keys a => (match h.get a with
    | some (.dz kvs) => Nat.ble kvs.length i
    | _ => false)
  | .zip a b => (match listAt h a with
    | some ws => (match listAt h b with
      | some us => Nat.ble ws.length i || Nat.ble us.length i
      | none => false)
    | none => false)
  | .zipT ws us => Nat.ble ws.length i || Nat.ble us.length i
def IT.cnt (h : IH) : IT → Nat
  | .lst a => ((listAt h a).getD []).length
  | .tup ws => ws.length
  | .rng _ n => n
  | .enu a => ((listAt h a).getD []).length
  | .enuT ws => ws.length
  | .keys a => (match h.get a with
    | some (.dz kvs) => kvs.length
    | _ => 0)
  | .zip a b => min ((listAt h a).getD []).length ((listAt h b).getD []).length
  | .zipT ws us => min ws.length us.length
abbrev EI := Env → IH → Rs IT
def iVal (f : EE) : EI := fun e h => (f e h).bind fun w h => match w with
  | .loc a => (match listAt h a with
    | some _ => .ok (.lst a) h
    | none => .stuck)
  | .tup ws => .ok (.tup ws) h
  | _ => .stuck
def iA (k : List W → IH → Rs IT) (g : EA) : EI := fun e h => (g e h).bind k
/-- a dict is walked by its keys; it stays as it is from there on -/
def iAny (f : EE) : EI := fun e h => match f e h with
  | .ok (.loc a) h1 => (match h1.get a with
    | some (.dk kvs) => .ok (.keys a) (h1.set a (.dz kvs))
    | _ => iVal f e h)
  | _ => iVal f e h
def kRng1 : List W → IH → Rs IT
  | [.int j], h => .need (small j) (.ok (.rng 0 j.toNat) h)
  | _, _ => .stuck
def kRng2 : List W → IH → Rs IT
  | [.int i, .int j], h => .need (small i && small j) (.ok (.rng i (j - i).toNat) h)
  | _, _ => .stuck
def kEnu : List W → IH → Rs IT
  | [.loc a], h => (match listAt h a with
    | some _ => .ok (.enu a) h
    | none => .stuck)
  | [.tup ws], h => .ok (.enuT ws) h
  | _, _ => .stuck
def kZip : List W → IH → Rs IT
  | [.loc a, .loc b], h => (match listAt h a with
    | some _ => (match listAt h b with
      | some _ => .ok (.zip a b) h
      | none => .stuck)
    | none => .stuck)
  | [.tup ws, .tup us], h => .ok (.zipT ws us) h
  | _, _ => .stuck
def forL (g : EG) (b : SS) (J : IT) : Nat → Nat → Env → IH → RS
  | 0, i, e, h => match J.fin h i with
    | true => .nx e h
    | false => .stuck
  | m + 1, i, e, h => match J.nth h i with
    | none => .stuck
    | some w => (g w e h).sg fun e h => match b e h with
      | .nx e h => forL g b J m (i + 1) e h
      | .ct e h => forL g b J m (i + 1) e h
      | .bk e h => .nx e h
      | .rt w h => .rt w h
      | .ex c e h => .ex c e h
      | .stuck => .stuck
def sFor (s : EI) (g : EG) (b : SS) : SS := fun e h => (s e h).st e fun J h => forL g b J (J.cnt h) 0 e h
/-- names wiped -/
def wipeW (e : Env) (vs : List Nat) : Env := vs.foldl (fun e i => e.set i none) e
def lcL (g : EG) (t : ET) (f : EE) (J : IT) (e0 : Env) : Nat → Nat → IH → Rs (List W)
  | 0, i, h => match J.fin h i with
    | true => .ok [] h
    | false => .stuck
  | m + 1, i, h => match J.nth h i with
    | none => .stuck
    | some w => (g w e0 h).bind fun e h => (t e h).bind fun c h => match c with
      | true => (f e h).bind fun x h => (lcL g t f J e0 m (i + 1) h).bind fun xs h => .ok (x :: xs) h
      | false => lcL g t f J e0 m (i + 1) h
def noExc {α : Type} (r : Rs α) : Rs α := match r with
  | .ok a h => .ok a h
  | _ => .stuck
def tYes : ET := fun _ h => .ok true h
def eLc (s : EI) (g : EG) (t : ET) (f : EE) (vs : List Nat) : EE := fun e h => (s e h).bind fun J h => (noExc (lcL g t f J (wipeW e vs) (J.cnt h) 0 h)).bind fun xs h => .need (lenOk xs.length) (.ok (.loc h.n) (h.new (.lst xs)))
/-- a dict's display with int or text keys -/
def eDic (kvs : List (EE × EE)) : EE := fun e h => (go e kvs h []).bind fun d h => .ok (.loc h.n) (h.new (.dk d))
where go (e : Env) : List (EE × EE) → IH → List (Key × W) → Rs (List (Key × W))
  | [], h, d => .ok d h
  | (f, g) :: r, h, d => (f e h).bind fun k h => (g e h).bind fun v h => match keyOf k with
    | some k => go e r h (dPut d k v)
    | none => .stuck
/-! ### instances: their fields, their making, their methods -/
/-- a plain class: its number, name, its instances' fields, its methods' defs -/
structure Cd where
  c : Nat
  name : Str
  fields : List Str
  meths : List (Str × Nat)
def putW (f : Str) (w : W) : List (Str × W) → List (Str × W)
  | [] => [(f, w)]
  | (g, x) :: r => if g = f then (g, w) :: r else (g, x) :: putW f w r
/-- x.f, x of one of some classes -/
def oFld (cs : List Nat) (f : Str) : W → IH → Rs W
  | .loc a, h => (match h.get a with
    | some (.ins c fs) => (match cs.contains c with
      | true => ofO (fs.lookup f) h
      | false => .stuck)
    | _ => .stuck)
  | _, _ => .stuck
/-- x.f = w -/
def oFSet (cs : List Nat) (f : Str) (x w : W) (h : IH) : Rs Unit := match x with
  | .loc a => (match h.get a with
    | some (.ins c fs) => (match cs.contains c && Nat.blt fs.length 1000 with
      | true => .ok () (h.set a (.ins c (putW f w fs)))
      | false => .stuck)
    | _ => .stuck)
  | _ => .stuck
def gFld (cs : List Nat) (f : Str) (o : EE) : EG := fun w e h => (o e h).bind fun x h => (oFSet cs f x w h).bind fun _ h => .ok e h
def sameCls (x : W) (h1 h2 : IH) : Bool := match x with
  | .loc a => (match h1.get a with
    | some (.ins c _) => (match h2.get a with
      | some (.ins d _) => Nat.beq c d
      | _ => false)
    | _ => false)
  | _ => false
/-- x.f += v, ints -/
def sFldAug (cs : List Nat) (f : Str) (sg : Bool) (o v : EE) : SS := fun e h => (o e h).st e fun x h => (oFld cs f x h).st e fun y h1 => (v e h1).st e fun z h => match y, z with
  | .int i, .int j => (match sameCls x h1 h with
    | true => (oFSet cs f x (.int (if sg then i + j else i - j)) h).st e fun _ h => .nx e h
    | false => .stuck)
  | _, _ => .stuck
/-- x.m(..): which def, by the class -/
def eMeth (Φ : FT) (ms : List (Nat × Nat)) (m : Str) (o : EE) (g : EA) : EE := fun e h => (o e h).bind fun x h => match x with
  | .loc a => (match h.get a with
    | some (.ins c fs) => (match ms.lookup c with
      | some id => (match (fs.lookup m).isNone with
        | true => (g e h).bind fun ws h => Φ id (x :: ws) h
        | false => .stuck)
      | none => .stuck)
    | _ => .stuck)
  | _ => .stuck
/-- the defs one level down: what makes an instance takes one more -/
def downId (id : Nat) : Nat := id + 1000000
/-- C(..) -/
def mkK (Φ : FT) (c id : Nat) (ws : List W) (h : IH) : Rs W := (Φ (downId id) (.loc h.n :: ws) (h.new (.ins c []))).bind fun r h2 => match r with
  | .non => .ok (.loc h.n) h2
  | _ => .stuck
def eMake (Φ : FT) (c id : Nat) (g : EA) : EE := fun e h => (noExc (g e h)).bind fun ws h => mkK Φ c id ws h
/-- a def's body, called -/
def runBody (n : Nat) (b : SS) (ws : List W) (h : IH) : Rs W := match b (ws.map some ++ List.replicate (n - ws.length) none) h with
  | .nx _ h => .ok .non h
  | .rt w h => .ok w h
  | .ex c _ h => .exc c h
  | _ => .stuck
end Fw

set_option Elab.async false
set_option linter.all false
set_option maxRecDepth 100000
/-! Fw, part B: what the evaluator's values stand for; what an evaluation promises. -/
namespace Fw
open PySem L2

/-- a list that is only read -/
def RoL (K : PySem.W.Frag) (H : Hp) (a : Addr) (xs : List V) : Prop :=
  (∃ o, H a = some (.frz o (.lst xs))) ∨
    ∃ (o : Obj) (its : Array Value) (n : Nat), K.lookup a = some o ∧ o.cls = .type "list" ∧ o.dict = none ∧ o.data = .seq its n ∧ its.size ≤ sizeLine ∧ Vals xs its.toList
mutual
/-- a value of the evaluator's and one of the layer's -/
inductive RV (K : PySem.W.Frag) (ρ : Nat → Addr) (n : Nat) (H : Hp) : W → V → Prop
  | non : RV K ρ n H .non .non
  | bl {b : Bool} : RV K ρ n H (.bl b) (.bl b)
  | int {i : Int} : RV K ρ n H (.int i) (.int i)
  | str {s : Str} : RV K ρ n H (.str s) (.str s)
  | tup {ws : List W} {a : Addr} {vs : List V} : SqT K H a vs → RVs K ρ n H ws vs → RV K ρ n H (.tup ws) (.ref a)
  | loc {i : Nat} : i < n → RV K ρ n H (.loc i) (.ref (ρ i))
  | ro {ws : List W} {a : Addr} {vs : List V} : RoL K H a vs → RVs K ρ n H ws vs → RV K ρ n H (.ro ws) (.ref a)
inductive RVs (K : PySem.W.Frag) (ρ : Nat → Addr) (n : Nat) (H : Hp) : List W → List V → Prop
  | nil : RVs K ρ n H [] []
  | cons {w : W} {ws : List W} {v : V} {vs : List V} : RV K ρ n H w v → RVs K ρ n H ws vs → RVs K ρ n H (w :: ws) (v :: vs)
end
/-- the entries of a dict -/
inductive RKs (K : PySem.W.Frag) (ρ : Nat → Addr) (n : Nat) (H : Hp) : List (Key × W) → List (Key × V) → Prop
  | nil : RKs K ρ n H [] []
  | cons {k : Key} {w : W} {ws : List (Key × W)} {v : V} {vs : List (Key × V)} : RV K ρ n H w v → RKs K ρ n H ws vs → RKs K ρ n H ((k, w) :: ws) ((k, v) :: vs)
inductive RFs (K : PySem.W.Frag) (ρ : Nat → Addr) (n : Nat) (H : Hp) : List (Str × W) → List (Str × V) → Prop
  | nil : RFs K ρ n H [] []
  | cons {k : Str} {w : W} {ws : List (Str × W)} {v : V} {vs : List (Str × V)} : RV K ρ n H w v → RFs K ρ n H ws vs → RFs K ρ n H ((k, w) :: ws) ((k, v) :: vs)

/-- what stands at a place; C: where the classes stand -/
def RC (K : PySem.W.Frag) (C : Nat → Addr) (ρ : Nat → Addr) (n : Nat) (H : Hp) (a : Addr) : Cell → Prop
  | .lst ws => ∃ vs, H a = some (.lst vs) ∧ RVs K ρ n H ws vs
  | .dk kvs => ∃ es, H a = some (.dK es) ∧ RKs K ρ n H kvs es
  | .dz kvs => ∃ o es, H a = some (.frz o (.dK es)) ∧ RKs K ρ n H kvs es
  | .ins c fs => ∃ dx gs, H a = some (.ins (C c) dx gs) ∧ RFs K ρ n H fs gs
  | .err c => ∃ φ, H a = some (.ext φ) ∧ ∀ hp, φ hp → ExAt (C c) a hp
def isMut : Cell → Bool
  | _ => true
structure RH (K : PySem.W.Frag) (C : Nat → Addr) (ρ : Nat → Addr) (h : IH) (H : Hp) : Prop where
  cell : ∀ i c, h.get i = some c → RC K C ρ h.n H (ρ i) c
  inj : ∀ i j c d, h.get i = some c → h.get j = some d → isMut c = true → isMut d = true → ρ i = ρ j → i = j
  full : ∀ i, i < h.n → ∃ c, h.get i = some c
  sys : ∃ o φ, H sysModules = some (.frz o (.ext φ))
/-- the modules' own dict is none of ours: it is told apart from the first -/
abbrev SysH (H : Hp) : Prop := ∃ o φ, H sysModules = some (.frz o (.ext φ))
theorem sys_new {H : Hp} {p : Addr} {o : HO} (s : SysH H) (hp : H p = none) : SysH (upd H p o) := by
  obtain ⟨q, φ, e⟩ := s
  exact ⟨q, φ, by rw [upd_ne fun z => by rw [← z, e] at hp; cases hp]; exact e⟩
theorem sys_upd {H : Hp} {p : Addr} {o u : HO} (s : SysH H) (hp : H p = some u) (hu : ∀ o x, u ≠ .frz o x) : SysH (upd H p o) := by
  obtain ⟨q, φ, e⟩ := s
  exact ⟨q, φ, by rw [upd_ne fun z => by rw [← z, e] at hp; exact hu _ _ (Option.some.inj hp).symm]; exact e⟩

section
variable {K : PySem.W.Frag} {C : Nat → Addr} {ρ ρ' : Nat → Addr} {n n' : Nat} {H H' : Hp}
/-- how what is known goes on -/
structure Ext (ρ ρ' : Nat → Addr) (n n' : Nat) (H H' : Hp) : Prop where
  le : n ≤ n'
  same : ∀ i, i < n → ρ' i = ρ i
  frame : ∀ a o, H a = some o → (∀ i, i < n → ρ i ≠ a) → H' a = some o ∧ ∀ i, i < n' → ρ' i ≠ a
  tups : ∀ a xs, H a = some (.tup xs) → H' a = some (.tup xs)
  frzs : ∀ a o u, H a = some (.frz o u) → H' a = some (.frz o u)
theorem SqT.ext {a : Addr} {xs : List V} (t : ∀ a xs, H a = some (.tup xs) → H' a = some (.tup xs)) (f : ∀ a o u, H a = some (.frz o u) → H' a = some (.frz o u)) (h : SqT K H a xs) : SqT K H' a xs := by
  rcases h with (h | ⟨o, h⟩) | h
  · exact .inl (.inl (t _ _ h))
  · exact .inl (.inr ⟨o, f _ _ _ h⟩)
  · exact .inr h
theorem RoL.ext {a : Addr} {xs : List V} (f : ∀ a o u, H a = some (.frz o u) → H' a = some (.frz o u)) (h : RoL K H a xs) : RoL K H' a xs := by
  rcases h with ⟨o, h⟩ | h
  · exact .inl ⟨o, f _ _ _ h⟩
  · exact .inr h
mutual
theorem RV.mono (le : n ≤ n') (same : ∀ i, i < n → ρ' i = ρ i) (t : ∀ a xs, H a = some (.tup xs) → H' a = some (.tup xs)) (f : ∀ a o u, H a = some (.frz o u) → H' a = some (.frz o u)) :
    ∀ {w : W} {v : V}, RV K ρ n H w v → RV K ρ' n' H' w v
  | _, _, .non => .non
  | _, _, .bl => .bl
  | _, _, .int => .int
  | _, _, .str => .str
  | _, _, .tup s r => .tup (SqT.ext t f s) (RVs.mono le same t f r)
  | _, _, .loc (i := i) h => by rw [← same i h]; exact .loc (Nat.lt_of_lt_of_le h le)
  | _, _, .ro s r => .ro (RoL.ext f s) (RVs.mono le same t f r)
theorem RVs.mono (le : n ≤ n') (same : ∀ i, i < n → ρ' i = ρ i) (t : ∀ a xs, H a = some (.tup xs) → H' a = some (.tup xs)) (f : ∀ a o u, H a = some (.frz o u) → H' a = some (.frz o u)) :
    ∀ {ws : List W} {vs : List V}, RVs K ρ n H ws vs → RVs K ρ' n' H' ws vs
  | _, _, .nil => .nil
  | _, _, .cons a b => .cons (RV.mono le same t f a) (RVs.mono le same t f b)
end
theorem RKs.mono (le : n ≤ n') (same : ∀ i, i < n → ρ' i = ρ i) (t : ∀ a xs, H a = some (.tup xs) → H' a = some (.tup xs)) (f : ∀ a o u, H a = some (.frz o u) → H' a = some (.frz o u))
    {ws : List (Key × W)} {vs : List (Key × V)} (h : RKs K ρ n H ws vs) : RKs K ρ' n' H' ws vs := by
  induction h with
  | nil => exact .nil
  | cons a _ ih => exact .cons (RV.mono le same t f a) ih
theorem RFs.mono (le : n ≤ n') (same : ∀ i, i < n → ρ' i = ρ i) (t : ∀ a xs, H a = some (.tup xs) → H' a = some (.tup xs)) (f : ∀ a o u, H a = some (.frz o u) → H' a = some (.frz o u))
    {ws : List (Str × W)} {vs : List (Str × V)} (h : RFs K ρ n H ws vs) : RFs K ρ' n' H' ws vs := by
  induction h with
  | nil => exact .nil
  | cons a _ ih => exact .cons (RV.mono le same t f a) ih
theorem Ext.refl : Ext ρ ρ n n H H := ⟨Nat.le_refl _, fun _ _ => rfl, fun _ _ h k => ⟨h, k⟩, fun _ _ h => h, fun _ _ _ h => h⟩
theorem Ext.trans {ρ'' : Nat → Addr} {n'' : Nat} {H'' : Hp} (x : Ext ρ ρ' n n' H H') (y : Ext ρ' ρ'' n' n'' H' H'') : Ext ρ ρ'' n n'' H H'' :=
  ⟨Nat.le_trans x.le y.le, fun i hi => (y.same i (Nat.lt_of_lt_of_le hi x.le)).trans (x.same i hi), fun a o h k => let ⟨h1, k1⟩ := x.frame a o h k; y.frame a o h1 k1, fun a xs h => y.tups a xs (x.tups a xs h), fun a o u h => y.frzs a o u (x.frzs a o u h)⟩
theorem Ext.rv (x : Ext ρ ρ' n n' H H') {w : W} {v : V} (h : RV K ρ n H w v) : RV K ρ' n' H' w v := h.mono x.le x.same x.tups x.frzs
theorem Ext.rvs (x : Ext ρ ρ' n n' H H') {w : List W} {v : List V} (h : RVs K ρ n H w v) : RVs K ρ' n' H' w v := h.mono x.le x.same x.tups x.frzs
theorem RVs.length : ∀ {ws : List W} {vs : List V}, RVs K ρ n H ws vs → ws.length = vs.length
  | _, _, .nil => rfl
  | _, _, .cons _ r => congrArg (· + 1) (RVs.length r)
theorem RVs.get : ∀ {ws : List W} {vs : List V} {i : Nat} {w : W}, RVs K ρ n H ws vs → ws[i]? = some w → ∃ v, vs[i]? = some v ∧ RV K ρ n H w v
  | _, _, _, _, .nil, e => by simp at e
  | _, _, 0, w, .cons a _, e => by simp at e; subst e; exact ⟨_, rfl, a⟩
  | _, _, i + 1, w, .cons _ r, e => by
    obtain ⟨v, h1, h2⟩ := RVs.get (i := i) (w := w) r (by simpa using e)
    exact ⟨v, by simpa using h1, h2⟩
theorem RVs.getV : ∀ {ws : List W} {vs : List V} {i : Nat} {v : V}, RVs K ρ n H ws vs → vs[i]? = some v → ∃ w, ws[i]? = some w ∧ RV K ρ n H w v
  | _, _, _, _, .nil, e => by simp at e
  | _, _, 0, w, .cons a _, e => by simp at e; subst e; exact ⟨_, rfl, a⟩
  | _, _, i + 1, w, .cons _ r, e => by
    obtain ⟨v, h1, h2⟩ := RVs.getV (i := i) (v := w) r (by simpa using e)
    exact ⟨v, by simpa using h1, h2⟩
theorem RVs.append : ∀ {ws us : List W} {vs xs : List V}, RVs K ρ n H ws vs → RVs K ρ n H us xs → RVs K ρ n H (ws ++ us) (vs ++ xs)
  | _, _, _, _, .nil, r => r
  | _, _, _, _, .cons a b, r => .cons a (RVs.append b r)
theorem RVs.take : ∀ {ws : List W} {vs : List V} (k : Nat), RVs K ρ n H ws vs → RVs K ρ n H (ws.take k) (vs.take k)
  | _, _, 0, _ => .nil
  | _, _, _ + 1, .nil => .nil
  | _, _, k + 1, .cons a r => .cons a (RVs.take k r)
theorem RVs.drop : ∀ {ws : List W} {vs : List V} (k : Nat), RVs K ρ n H ws vs → RVs K ρ n H (ws.drop k) (vs.drop k)
  | _, _, 0, r => r
  | _, _, _ + 1, .nil => .nil
  | _, _, k + 1, .cons _ r => RVs.drop k r
theorem RVs.set {w : W} {v : V} (q : RV K ρ n H w v) : ∀ {ws : List W} {vs : List V} (k : Nat), RVs K ρ n H ws vs → RVs K ρ n H (ws.set k w) (vs.set k v)
  | _, _, _, .nil => .nil
  | _, _, 0, .cons _ r => .cons q r
  | _, _, k + 1, .cons a r => .cons a (RVs.set q k r)
theorem RVs.eraseIdx : ∀ {ws : List W} {vs : List V} (k : Nat), RVs K ρ n H ws vs → RVs K ρ n H (ws.eraseIdx k) (vs.eraseIdx k)
  | _, _, _, .nil => .nil
  | _, _, 0, .cons _ r => r
  | _, _, k + 1, .cons a r => .cons a (RVs.eraseIdx k r)
theorem RVs.dropLast : ∀ {ws : List W} {vs : List V}, RVs K ρ n H ws vs → RVs K ρ n H ws.dropLast vs.dropLast
  | _, _, .nil => .nil
  | _, _, .cons _ .nil => .nil
  | _, _, .cons a (.cons b r) => .cons a (RVs.dropLast (.cons b r))
theorem RVs.replicate {ws : List W} {vs : List V} (r : RVs K ρ n H ws vs) : ∀ k : Nat, RVs K ρ n H (List.replicate k ws).flatten (List.replicate k vs).flatten
  | 0 => .nil
  | k + 1 => by
    rw [List.replicate_succ, List.replicate_succ, List.flatten_cons, List.flatten_cons]
    exact r.append (RVs.replicate r k)

/-- nothing is there yet at a new place -/
theorem RH.fresh {h : IH} (r : RH K C ρ h H) {p : Addr} (hp : H p = none) : ∀ i c, h.get i = some c → isMut c = true → ρ i ≠ p := fun i c e m q => by
  have z := r.cell i c e
  rw [q] at z
  cases c with
  | lst ws => obtain ⟨_, z, _⟩ := z; rw [hp] at z; cases z
  | dk kvs => obtain ⟨_, z, _⟩ := z; rw [hp] at z; cases z
  | dz kvs => obtain ⟨_, _, z, _⟩ := z; rw [hp] at z; cases z
  | ins c fs => obtain ⟨_, _, z, _⟩ := z; rw [hp] at z; cases z
  | err c => obtain ⟨_, z, _⟩ := z; rw [hp] at z; cases z
theorem RC.mono {a : Addr} {c : Cell} (le : n ≤ n') (same : ∀ i, i < n → ρ' i = ρ i) (t : ∀ a xs, H a = some (.tup xs) → H' a = some (.tup xs)) (f : ∀ a o u, H a = some (.frz o u) → H' a = some (.frz o u))
    (k : isMut c = true → ∀ o, H a = some o → H' a = some o) (h : RC K C ρ n H a c) : RC K C ρ' n' H' a c := by
  cases c with
  | lst ws => obtain ⟨vs, e, r⟩ := h; exact ⟨vs, k rfl _ e, r.mono le same t f⟩
  | dk kvs => obtain ⟨vs, e, r⟩ := h; exact ⟨vs, k rfl _ e, r.mono le same t f⟩
  | dz kvs => obtain ⟨o, vs, e, r⟩ := h; exact ⟨o, vs, k rfl _ e, r.mono le same t f⟩
  | ins c fs => obtain ⟨dx, gs, e, r⟩ := h; exact ⟨dx, gs, k rfl _ e, r.mono le same t f⟩
  | err c => obtain ⟨φ, e, r⟩ := h; exact ⟨φ, k rfl _ e, r⟩
theorem RoL.sq {a : Addr} {xs : List V} (h : RoL K H a xs) : SqL K H a xs := by
  rcases h with ⟨o, h⟩ | h
  · exact .inl (.inr ⟨o, h⟩)
  · exact .inr h
/-- the list at a place, to be read -/
theorem RH.list {h : IH} (r : RH K C ρ h H) {i : Nat} {ws : List W} (e : listAt h i = some ws) : ∃ vs, SqL K H (ρ i) vs ∧ RVs K ρ h.n H ws vs ∧ i < h.n := by
  unfold listAt at e
  cases g : h.get i with
  | none => rw [g] at e; cases e
  | some c =>
    rw [g] at e
    have z := r.cell i c g
    have lt := IH.get_lt g
    cases c with
    | lst us => cases e; obtain ⟨vs, e, q⟩ := z; exact ⟨vs, .inl (.inl e), q, lt⟩
    | dk _ => cases e
    | dz _ => cases e
    | ins _ _ => cases e
    | err _ => cases e
/-- a new object -/
def rhoN (ρ : Nat → Addr) (n : Nat) (p : Addr) : Nat → Addr := fun i => if i = n then p else ρ i
theorem rhoN_self {p : Addr} : rhoN ρ n p n = p := if_pos rfl
theorem rhoN_lt {p : Addr} {i : Nat} (h : i < n) : rhoN ρ n p i = ρ i := if_neg (Nat.ne_of_lt h)
theorem ext_new {h : IH} {p : Addr} {o : HO} (hp : H p = none) : Ext ρ (rhoN ρ h.n p) h.n (h.n + 1) H (upd H p o) where
  le := Nat.le_succ _
  same := fun i hi => rhoN_lt hi
  frame := fun a u e k => ⟨by rw [upd_ne (ne_of_none e hp)]; exact e, fun i hi => by
    by_cases z : i = h.n
    · rw [z, rhoN_self]; exact (ne_of_none e hp).symm
    · rw [rhoN_lt (by omega)]; exact k i (by omega)⟩
  tups := fun a xs e => by rw [upd_ne (ne_of_none e hp)]; exact e
  frzs := fun a u xs e => by rw [upd_ne (ne_of_none e hp)]; exact e
theorem RH.new {h : IH} (r : RH K C ρ h H) {p : Addr} {o : HO} {c : Cell} (hp : H p = none) (m : isMut c = true) (q : RC K C (rhoN ρ h.n p) (h.n + 1) (upd H p o) p c) : RH K C (rhoN ρ h.n p) (h.new c) (upd H p o) where
  cell := fun i d e => by
    rw [IH.get_new] at e
    by_cases z : i = h.n
    · rw [if_pos z] at e; cases e; rw [z, rhoN_self]; exact q
    · rw [if_neg z] at e
      have lt := IH.get_lt e
      rw [rhoN_lt lt]
      have x := ext_new (ρ := ρ) (h := h) (o := o) hp
      refine (r.cell i d e).mono x.le x.same x.tups x.frzs fun hm u hu => ?_
      rw [upd_ne (r.fresh hp i d e hm)]; exact hu
  inj := fun i j c1 c2 e1 e2 m1 m2 e => by
    rw [IH.get_new] at e1 e2
    by_cases z1 : i = h.n
    · by_cases z2 : j = h.n
      · rw [z1, z2]
      · rw [if_neg z2] at e2
        rw [z1, rhoN_self, rhoN_lt (IH.get_lt e2)] at e
        exact absurd e.symm (r.fresh hp j c2 e2 m2)
    · rw [if_neg z1] at e1
      by_cases z2 : j = h.n
      · rw [z2, rhoN_self, rhoN_lt (IH.get_lt e1)] at e
        exact absurd e (r.fresh hp i c1 e1 m1)
      · rw [if_neg z2] at e2
        rw [rhoN_lt (IH.get_lt e1), rhoN_lt (IH.get_lt e2)] at e
        exact r.inj i j c1 c2 e1 e2 m1 m2 e
  full := fun i hi => by
    by_cases z : i = h.n
    · exact ⟨c, by rw [IH.get_new, if_pos z]⟩
    · obtain ⟨d, e⟩ := r.full i (by have : i < h.n + 1 := hi; omega)
      exact ⟨d, by rw [IH.get_new, if_neg z]; exact e⟩
  sys := sys_new r.sys hp
/-- an object is changed -/
theorem RH.at_ne {h : IH} (r : RH K C ρ h H) {i j : Nat} {c d : Cell} (e1 : h.get i = some c) (m1 : isMut c = true) (e2 : h.get j = some d) (m2 : isMut d = true) (ne : i ≠ j) : ρ i ≠ ρ j := fun e => ne (r.inj i j c d e1 e2 m1 m2 e)
def notTF : HO → Prop
  | .tup _ => False
  | .frz _ _ => False
  | _ => True
theorem ext_set {a : Addr} {u o : HO} {i : Nat} (hi : i < n) (ha : H (ρ i) = some u) (hu : notTF u) : Ext ρ ρ n n H (upd H (ρ i) o) where
  le := Nat.le_refl _
  same := fun _ _ => rfl
  frame := fun a u e k => ⟨by rw [upd_ne (k i hi).symm]; exact e, k⟩
  tups := fun a xs e => by rw [upd_ne fun z => ?_]; exact e; rw [z, ha] at e; cases e; exact hu
  frzs := fun a w xs e => by rw [upd_ne fun z => ?_]; exact e; rw [z, ha] at e; cases e; exact hu
theorem RH.upd {h : IH} (r : RH K C ρ h H) {i : Nat} {u o : HO} {c d : Cell} (g : h.get i = some c) (mc : isMut c = true) (ha : H (ρ i) = some u) (hu : notTF u) (m : isMut d = true) (q : RC K C ρ h.n (L2.upd H (ρ i) o) (ρ i) d) : RH K C ρ (h.set i d) (L2.upd H (ρ i) o) where
  cell := fun j b e => by
    have lt := IH.get_lt g
    rw [IH.get_set _ _ _ _ lt] at e
    by_cases z : j = i
    · rw [if_pos z] at e; cases e; rw [z]; exact q
    · rw [if_neg z] at e
      have x := ext_set (a := ρ i) (o := o) lt ha hu
      refine (r.cell j b e).mono x.le x.same x.tups x.frzs fun hm w hw => ?_
      rw [upd_ne (r.at_ne e hm g mc z)]; exact hw
  inj := fun a b c1 c2 e1 e2 m1 m2 e => by
    have lt := IH.get_lt g
    rw [IH.get_set _ _ _ _ lt] at e1 e2
    by_cases z1 : a = i
    · by_cases z2 : b = i
      · rw [z1, z2]
      · rw [if_neg z2] at e2
        rw [z1] at e ⊢
        exact r.inj i b c c2 g e2 mc m2 e
    · rw [if_neg z1] at e1
      by_cases z2 : b = i
      · rw [z2] at e ⊢
        exact r.inj a i c1 c e1 g m1 mc e
      · rw [if_neg z2] at e2
        exact r.inj a b c1 c2 e1 e2 m1 m2 e
  full := fun j hj => by
    by_cases z : j = i
    · exact ⟨d, by rw [IH.get_set _ _ _ _ (IH.get_lt g), if_pos z]⟩
    · obtain ⟨b, e⟩ := r.full j hj
      exact ⟨b, by rw [IH.get_set _ _ _ _ (IH.get_lt g), if_neg z]; exact e⟩
  sys := sys_upd r.sys ha fun o x z => by rw [z] at hu; exact hu
/-- a free place is none of ours -/
theorem RH.free {h : IH} (r : RH K C ρ h H) {p : Addr} (hp : H p = none) : ∀ i, i < h.n → ρ i ≠ p := fun i hi => by
  obtain ⟨c, e⟩ := r.full i hi
  exact r.fresh hp i c e rfl
end

/-! ### evaluations -/
/-- names and values -/
structure REnv (K : PySem.W.Frag) (ρ : Nat → Addr) (n : Nat) (H : Hp) (e : Env) (σ : L2.St) : Prop where
  len : e.length = σ.length
  at_ : ∀ (i : Nat) (w : W), e[i]? = some (some w) → ∃ v, σ[i]? = some (some v) ∧ RV K ρ n H w v
/-- the fixed part: K, where the classes stand, what is wished of what is raised -/
structure Fx where
  K : PySem.W.Frag
  C : Nat → Addr
  We : Nat → L2.St → Hp → Prop
section
variable (F : Fx)
def Post {α β : Type} (RA : (Nat → Addr) → Nat → Hp → α → β → Prop) (σ : L2.St) (ρ : Nat → Addr) (n : Nat) (H : Hp) (r : Rs α) (Q : β → Hp → Prop) : Prop := match r with
  | .ok a h' => ∀ ρ' b H', Ext ρ ρ' n h'.n H H' → RH F.K F.C ρ' h' H' → RA ρ' h'.n H' a b → Q b H'
  | .exc c h' => ∀ ρ' H', Ext ρ ρ' n h'.n H H' → RH F.K F.C ρ' h' H' → F.We c σ H'
  | .stuck => False
def TG_ {α β : Type} (RA : (Nat → Addr) → Nat → Hp → α → β → Prop) (f : Env → IH → Rs α) (σ : L2.St) (H : Hp) (Q : β → Hp → Prop) : Prop :=
  ∃ ρ e h, RH F.K F.C ρ h H ∧ REnv F.K ρ h.n H e σ ∧ Post F RA σ ρ h.n H (f e h) Q
def TI (f : EE) : L2.TE := TG_ F (RV F.K) f
def TIA (f : EA) : L2.TA := TG_ F (RVs F.K) f
def TIT (f : ET) : L2.TT := TG_ F (fun _ _ _ a b => a = b) f
end
section
variable {F : Fx} {σ : L2.St} {ρ ρ1 : Nat → Addr} {H H1 : Hp} {e : Env}
theorem REnv.ext {n n' : Nat} (x : Ext ρ ρ1 n n' H H1) (r : REnv F.K ρ n H e σ) : REnv F.K ρ1 n' H1 e σ :=
  ⟨r.len, fun i w q => let ⟨v, h1, h2⟩ := r.at_ i w q; ⟨v, h1, x.rv h2⟩⟩
theorem Post.shift {α β : Type} {RA : (Nat → Addr) → Nat → Hp → α → β → Prop} {n n1 : Nat} {r : Rs α} {Q : β → Hp → Prop} (x : Ext ρ ρ1 n n1 H H1) (p : Post F RA σ ρ n H r Q) : Post F RA σ ρ1 n1 H1 r Q := by
  cases r with
  | ok a h' => exact fun ρ' b H' y r q => p ρ' b H' (x.trans y) r q
  | exc c h' => exact fun ρ' H' y r => p ρ' H' (x.trans y) r
  | stuck => exact p
theorem Post.imp {α β : Type} {RA : (Nat → Addr) → Nat → Hp → α → β → Prop} {n : Nat} {r : Rs α} {Q Q' : β → Hp → Prop} (p : Post F RA σ ρ n H r Q) (k : ∀ b H, Q b H → Q' b H) : Post F RA σ ρ n H r Q' := by
  cases r with
  | ok a h' => exact fun ρ' b H' y r q => k _ _ (p ρ' b H' y r q)
  | exc c h' => exact p
  | stuck => exact p
/-- one evaluation, then the rest -/
theorem TG_.bind {α β γ δ : Type} {RA : (Nat → Addr) → Nat → Hp → α → β → Prop} {RB : (Nat → Addr) → Nat → Hp → γ → δ → Prop} {h : IH} {f : Env → IH → Rs α} {k : α → IH → Rs γ} {Q : δ → Hp → Prop} {P : β → Hp → Prop}
    (rh : RH F.K F.C ρ h H) (re : REnv F.K ρ h.n H e σ) (p : Post F RB σ ρ h.n H ((f e h).bind k) Q)
    (hP : ∀ ρ1 a h1 b H1, RH F.K F.C ρ1 h1 H1 → REnv F.K ρ1 h1.n H1 e σ → Ext ρ ρ1 h.n h1.n H H1 → RA ρ1 h1.n H1 a b → Post F RB σ ρ1 h1.n H1 (k a h1) Q → P b H1) : TG_ F RA f σ H P := by
  refine ⟨ρ, e, h, rh, re, ?_⟩
  cases q : f e h with
  | ok a h1 => exact fun ρ1 b H1 x r y => hP ρ1 a h1 b H1 r (re.ext x) x y (by rw [q] at p; exact Post.shift x p)
  | exc c h1 => rw [q] at p; exact p
  | stuck => rw [q] at p; exact p.elim
theorem Post.ok_ {α β : Type} {RA : (Nat → Addr) → Nat → Hp → α → β → Prop} {h : IH} {a : α} {b : β} {Q : β → Hp → Prop} (rh : RH F.K F.C ρ h H) (p : Post F RA σ ρ h.n H (.ok a h) Q) (r : RA ρ h.n H a b) : Q b H := p ρ b H Ext.refl rh r
end
end Fw

set_option Elab.async false
set_option linter.all false
set_option maxRecDepth 100000
set_option maxHeartbeats 1000000
/-! Fw, part C: each combinator is served by the layer's rules. Operators by values. -/
namespace Fw
open PySem L2

section
variable {X : Cx}
theorem PEmono {e : Expr} {t t' : L2.TE} (h : PE X e t) (k : ∀ σ H Q, t' σ H Q → t σ H Q) : PE X e t' := ⟨fun pins s σ H Q I q => h.run pins s σ H Q I (k σ H Q q)⟩
theorem PEor {e : Expr} {t t' : L2.TE} (h : PE X e t) (h' : PE X e t') : PE X e (fun σ H Q => t σ H Q ∨ t' σ H Q) :=
  ⟨fun pins s σ H Q I q => q.elim (h.run pins s σ H Q I) (h'.run pins s σ H Q I)⟩
theorem PTmono {e : Expr} {t t' : TT} (h : PT X e t) (k : ∀ σ H Q, t' σ H Q → t σ H Q) : PT X e t' := ⟨fun pins s σ H Q I q => h.run pins s σ H Q I (k σ H Q q)⟩
theorem PSmono {e : Stmt} {t t' : L2.TS} (h : PS X e t) (k : ∀ D σ H, t' D σ H → t D σ H) : PS X e t' := ⟨fun pins s σ H D I q => h.run pins s σ H D I (k D σ H q)⟩
end

/-- lenOk is the line -/
theorem line_of {n : Nat} (h : lenOk n = true) : n ≤ sizeLine := by rw [sizeLine_eq]; exact lenOk_iff.mp h
theorem need_inv {α β : Type} {F : Fx} {RA : (Nat → Addr) → Nat → Hp → α → β → Prop} {σ : L2.St} {ρ : Nat → Addr} {n : Nat} {H : Hp} {b : Bool} {r : Rs α} {Q : β → Hp → Prop} (p : Post F RA σ ρ n H (.need b r) Q) : b = true ∧ Post F RA σ ρ n H r Q := by
  cases b with
  | true => exact ⟨rfl, p⟩
  | false => exact p.elim

section
variable (F : Fx)
/-- an operation of two values is served by r -/
def Op2 (k : W → W → IH → Rs W) (r : R2) : Prop := ∀ (ρ : Nat → Addr) (h : IH) (H : Hp) (σ : L2.St) (x y : W) (v u : V) (Q : VK), RH F.K F.C ρ h H → RV F.K ρ h.n H x v → RV F.K ρ h.n H y u → Post F (RV F.K) σ ρ h.n H (k x y h) Q → r v u H Q
def Op1 (k : W → IH → Rs W) (r : V → Hp → VK → Prop) : Prop := ∀ (ρ : Nat → Addr) (h : IH) (H : Hp) (σ : L2.St) (x : W) (v : V) (Q : VK), RH F.K F.C ρ h H → RV F.K ρ h.n H x v → Post F (RV F.K) σ ρ h.n H (k x h) Q → r v H Q
end
section
variable {F : Fx} {σ : L2.St} {ρ : Nat → Addr} {h : IH} {H : Hp} {Q : VK}
/-- a new tuple: for every free place -/
theorem post_tup {ws : List W} {vs : List V} (rh : RH F.K F.C ρ h H) (r : RVs F.K ρ h.n H ws vs) (p : Post F (RV F.K) σ ρ h.n H (.ok (.tup ws) h) Q) : ∀ a, H a = none → Q (.ref a) (upd H a (.tup vs)) := fun a ha => by
  have x : Ext ρ ρ h.n h.n H (upd H a (.tup vs)) := ⟨Nat.le_refl _, fun _ _ => rfl, fun b o e k => ⟨by rw [upd_ne (ne_of_none e ha)]; exact e, k⟩, fun b xs e => by rw [upd_ne (ne_of_none e ha)]; exact e, fun b o xs e => by rw [upd_ne (ne_of_none e ha)]; exact e⟩
  refine p ρ (.ref a) _ x ⟨fun i c e => ?_, rh.inj, rh.full, sys_new rh.sys ha⟩ (.tup (.inl (.inl upd_same)) (x.rvs r))
  exact (rh.cell i c e).mono x.le x.same x.tups x.frzs fun m o ho => by rw [upd_ne (rh.fresh ha i c e m)]; exact ho
/-- a new list -/
theorem post_lst {ws : List W} {vs : List V} (rh : RH F.K F.C ρ h H) (r : RVs F.K ρ h.n H ws vs) (p : Post F (RV F.K) σ ρ h.n H (.ok (.loc h.n) (h.new (.lst ws))) Q) : ∀ a, H a = none → Q (.ref a) (upd H a (.lst vs)) := fun a ha => by
  have x : Ext ρ (rhoN ρ h.n a) h.n (h.new (.lst ws)).n H (upd H a (.lst vs)) := ext_new ha
  have e : V.ref a = V.ref (rhoN ρ h.n a h.n) := by rw [rhoN_self]
  refine p (rhoN ρ h.n a) (.ref a) _ x (rh.new ha rfl ⟨vs, upd_same, x.rvs r⟩) ?_
  rw [e]
  exact .loc (Nat.lt_succ_self _)
theorem post_dk {kvs : List (Key × W)} {es : List (Key × V)} (rh : RH F.K F.C ρ h H) (r : RKs F.K ρ h.n H kvs es) (p : Post F (RV F.K) σ ρ h.n H (.ok (.loc h.n) (h.new (.dk kvs))) Q) : ∀ a, H a = none → Q (.ref a) (upd H a (.dK es)) := fun a ha => by
  have x : Ext ρ (rhoN ρ h.n a) h.n (h.new (.dk kvs)).n H (upd H a (.dK es)) := ext_new ha
  have e : V.ref a = V.ref (rhoN ρ h.n a h.n) := by rw [rhoN_self]
  refine p (rhoN ρ h.n a) (.ref a) _ x (rh.new ha rfl ⟨es, upd_same, r.mono x.le x.same x.tups x.frzs⟩) ?_
  rw [e]
  exact .loc (Nat.lt_succ_self _)
/-- a list is changed -/
theorem post_setL {α β : Type} {RA : (Nat → Addr) → Nat → Hp → α → β → Prop} {R : β → Hp → Prop} {a : α} {b : β} {i : Nat} {ws us : List W} {vs xs : List V} (rh : RH F.K F.C ρ h H) (g : h.get i = some (.lst us)) (e : H (ρ i) = some (.lst xs)) (r : RVs F.K ρ h.n H ws vs)
    (p : Post F RA σ ρ h.n H (.ok a (h.set i (.lst ws))) R) (ra : ∀ ρ' n' H', Ext ρ ρ' h.n n' H H' → RA ρ' n' H' a b) : R b (upd H (ρ i) (.lst vs)) := by
  have x : Ext ρ ρ h.n (h.set i (.lst ws)).n H (upd H (ρ i) (.lst vs)) := ext_set (a := ρ i) (IH.get_lt g) e trivial
  exact p ρ b _ x (rh.upd g rfl e trivial rfl ⟨vs, upd_same, x.rvs r⟩) (ra _ _ _ x)
theorem post_same {α β : Type} {RA : (Nat → Addr) → Nat → Hp → α → β → Prop} {R : β → Hp → Prop} {a : α} {b : β} (rh : RH F.K F.C ρ h H) (p : Post F RA σ ρ h.n H (.ok a h) R) (r : RA ρ h.n H a b) : R b H := p ρ b H Ext.refl rh r
theorem RH.lst (rh : RH F.K F.C ρ h H) {i : Nat} {ws : List W} (g : h.get i = some (.lst ws)) : ∃ vs, H (ρ i) = some (.lst vs) ∧ RVs F.K ρ h.n H ws vs := rh.cell i _ g
theorem RH.dk (rh : RH F.K F.C ρ h H) {i : Nat} {ws : List (Key × W)} (g : h.get i = some (.dk ws)) : ∃ vs, H (ρ i) = some (.dK vs) ∧ RKs F.K ρ h.n H ws vs := rh.cell i _ g

theorem o2_int {k : W → W → IH → Rs W} {C : Int → Int → Prop} {gw : Int → Int → W} {g : Int → Int → V} (hk : ∀ x y h, (∃ i j, x = .int i ∧ y = .int j ∧ C i j ∧ k x y h = .ok (gw i j) h) ∨ k x y h = .stuck) (hg : ∀ ρ n H i j, RV F.K ρ n H (gw i j) (g i j)) : Op2 F k (rI C g) := by
  intro ρ h H σ x y v u Q rh rx ry p
  rcases hk x y h with ⟨i, j, rfl, rfl, c, e⟩ | e
  · rw [e] at p
    cases rx; cases ry
    exact ⟨i, j, rfl, rfl, c, post_same rh p (hg _ _ _ _ _)⟩
  · rw [e] at p; exact p.elim
end
end Fw

set_option Elab.async false
set_option linter.all false
set_option maxRecDepth 100000
set_option maxHeartbeats 1000000
namespace Fw
open PySem L2
section
variable {F : Fx}
theorem s_add : Op2 F oAdd (fun x y H Q => rI0 (fun i j => .int (i + j)) x y H Q ∨ (∃ i j, x = .str i ∧ y = .str j ∧ i.length + j.length ≤ sizeLine ∧ Q (.str (i ++ j)) H) ∨ rCatA F.K x y H Q ∨ rCat x y H Q) := by
  intro ρ h H σ x y v u Q rh rx ry p
  cases rx <;> cases ry <;> first | exact False.elim p | skip
  case int.int => exact .inl ⟨_, _, rfl, rfl, post_same rh p .int⟩
  case str.str =>
    obtain ⟨hb, p⟩ := need_inv p
    exact .inr (.inl ⟨_, _, rfl, rfl, line_of hb, post_same rh p .str⟩)
  case tup.tup ws a vs s1 r1 us b xs s2 r2 =>
    obtain ⟨hb, p⟩ := need_inv p
    have hb' := line_of hb
    rw [r1.length, r2.length] at hb'
    refine .inr (.inr (.inl ⟨a, b, vs, xs, rfl, rfl, s1, s2, hb', fun e => ?_, fun e1 e2 => ?_, fun e1 e2 => ?_⟩))
    · subst e
      cases r1
      exact post_same rh p (.tup s2 r2)
    · subst e2
      cases r2
      rw [List.append_nil] at p
      exact post_same rh p (.tup s1 r1)
    · exact post_tup rh (r1.append r2) p
  case loc.loc a ha b hb =>
    refine .inr (.inr (.inr ?_))
    have p' : Post F (RV F.K) σ ρ h.n H (match h.get a with
      | some (.lst xs) => (match h.get b with
        | some (.lst ys) => .need (lenOk (xs.length + ys.length)) (.ok (.loc h.n) (h.new (.lst (xs ++ ys))))
        | _ => .stuck)
      | _ => .stuck) Q := p
    clear p
    cases ga : h.get a with
    | none => rw [ga] at p'; exact p'.elim
    | some c =>
      rw [ga] at p'
      cases c with
      | lst xs =>
        cases gb : h.get b with
        | none => rw [gb] at p'; exact p'.elim
        | some d =>
          rw [gb] at p'
          cases d with
          | lst ys =>
            obtain ⟨q, p'⟩ := need_inv p'
            obtain ⟨vs, e1, r1⟩ := rh.lst ga
            obtain ⟨us, e2, r2⟩ := rh.lst gb
            have q' := line_of q
            rw [r1.length, r2.length] at q'
            exact ⟨_, _, vs, us, rfl, rfl, e1, e2, q', post_lst rh (r1.append r2) p'⟩
          | dk _ => exact p'.elim
          | dz _ => exact p'.elim
          | ins _ _ => exact p'.elim
          | err _ => exact p'.elim
      | dk _ => exact p'.elim
      | dz _ => exact p'.elim
      | ins _ _ => exact p'.elim
      | err _ => exact p'.elim
theorem s_sub : Op2 F oSub (rI0 fun i j => .int (i - j)) := by
  intro ρ h H σ x y v u Q rh rx ry p
  cases rx <;> cases ry <;> first | exact False.elim p | skip
  exact ⟨_, _, rfl, rfl, post_same rh p .int⟩
theorem inPow_of {i : Int} (h : inPow64 i = true) : -(2 ^ 64) < i ∧ i < 2 ^ 64 := by
  obtain ⟨a, b⟩ := Bool.and_eq_true_iff.mp h
  exact ⟨of_decide_eq_true a, of_decide_eq_true b⟩
theorem s_mul : Op2 F oMul (fun x y H Q => rI CMul (fun i j => .int (i * j)) x y H Q ∨ rRepT F.K x y H Q ∨ rRep x y H Q) := by
  intro ρ h H σ x y v u Q rh rx ry p
  cases rx <;> cases ry <;> first | exact False.elim p | skip
  case int.int i j =>
    obtain ⟨hb, p⟩ := need_inv p
    refine .inl ⟨_, _, rfl, rfl, ?_, post_same rh p .int⟩
    rcases Bool.or_eq_true_iff.mp hb with hb | hb
    · exact .inl (inPow_of hb)
    · exact .inr (inPow_of hb)
  case tup.int ws a vs s1 r1 k =>
    obtain ⟨hb, p⟩ := need_inv p
    simp only [Bool.and_eq_true, decide_eq_true_eq] at hb
    obtain ⟨⟨⟨h1, h2⟩, h3⟩, h4⟩ := hb
    refine .inr (.inl ⟨a, k, vs, rfl, rfl, s1, fun e => ?_, h2, h3, ?_, post_tup rh (r1.replicate _) p⟩)
    · subst e; cases r1; simp at h1
    · rw [← r1.length]; exact Nat.le_of_ble_eq_true h4
  case loc.int a ha k =>
    have p' : Post F (RV F.K) σ ρ h.n H (match h.get a with
      | some (.lst xs) => .need (decide (0 ≤ k) && decide (k < 1000000) && lenOk (xs.length * k.toNat)) (.ok (.loc h.n) (h.new (.lst (List.replicate k.toNat xs).flatten)))
      | _ => .stuck) Q := p
    clear p
    cases ga : h.get a with
    | none => rw [ga] at p'; exact p'.elim
    | some c =>
      rw [ga] at p'
      cases c with
      | lst xs =>
        obtain ⟨hb, p'⟩ := need_inv p'
        simp only [Bool.and_eq_true, decide_eq_true_eq] at hb
        obtain ⟨⟨h1, h2⟩, h3⟩ := hb
        obtain ⟨vs, e1, r1⟩ := rh.lst ga
        have h3' := line_of h3
        rw [r1.length] at h3'
        exact .inr (.inr ⟨_, k, vs, rfl, rfl, e1, by omega, by omega, h3', post_lst rh (r1.replicate _) p'⟩)
      | dk _ => exact p'.elim
      | dz _ => exact p'.elim
      | ins _ _ => exact p'.elim
      | err _ => exact p'.elim
theorem s_mod : Op2 F oMod (rI (fun _ j => 0 < j) fun i j => .int (i % j)) := by
  intro ρ h H σ x y v u Q rh rx ry p
  cases rx <;> cases ry <;> first | exact False.elim p | skip
  obtain ⟨hb, p⟩ := need_inv p
  exact ⟨_, _, rfl, rfl, of_decide_eq_true hb, post_same rh p .int⟩
theorem s_div : Op2 F oDiv (rI CDiv fun i j => .int (i / j)) := by
  intro ρ h H σ x y v u Q rh rx ry p
  cases rx <;> cases ry <;> first | exact False.elim p | skip
  obtain ⟨hb, p⟩ := need_inv p
  obtain ⟨a, b⟩ := Bool.and_eq_true_iff.mp hb
  exact ⟨_, _, rfl, rfl, ⟨of_decide_eq_true a, of_decide_eq_true b⟩, post_same rh p .int⟩
theorem s_pow : Op2 F oPow (rI CPow fun i j => .int (i ^ j.toNat)) := by
  intro ρ h H σ x y v u Q rh rx ry p
  cases rx <;> cases ry <;> first | exact False.elim p | skip
  obtain ⟨hb, p⟩ := need_inv p
  obtain ⟨ab, c⟩ := Bool.and_eq_true_iff.mp hb
  obtain ⟨a, b⟩ := Bool.and_eq_true_iff.mp ab
  obtain ⟨c1, c2⟩ := inPow_of c
  exact ⟨_, _, rfl, rfl, ⟨of_decide_eq_true a, of_decide_eq_true b, by omega⟩, post_same rh p .int⟩
theorem s_neg : Op1 F uNeg (rU fun i => .int (-i)) := by
  intro ρ h H σ x v Q rh rx p
  cases rx <;> first | exact False.elim p | skip
  exact ⟨_, rfl, post_same rh p .int⟩
theorem s_cInt (g : Int → Int → Bool) : Op2 F (cInt g) (rI0 fun i j => .bl (g i j)) := by
  intro ρ h H σ x y v u Q rh rx ry p
  cases rx <;> cases ry <;> first | exact False.elim p | skip
  exact ⟨_, _, rfl, rfl, post_same rh p .bl⟩

/-! ### data -/
section
variable {ρ : Nat → Addr} {h : IH} {H : Hp}
mutual
theorem toD_dp (rh : RH F.K F.C ρ h H) : ∀ (f : Nat) (w : W) (v : V) (d : PyData), RV F.K ρ h.n H w v → toD f h w = some d → Dp F.K H v d
  | 0, _, _, _, _, e => by cases e
  | f + 1, _, _, d, .non, e => by cases e; exact .non
  | f + 1, _, _, d, .bl, e => by cases e; exact .bl _
  | f + 1, _, _, d, .int, e => by cases e; exact .int _
  | f + 1, _, _, d, .str, e => by cases e; exact .str _
  | f + 1, _, _, d, .ro _ _, e => by cases e
  | f + 1, _, _, d, .tup (ws := ws) (vs := vs) s r, e => by
    have e' : (match mapO (toD f h) ws with
      | some ds => some (PyData.tuple ds)
      | none => none) = some d := e
    cases q : mapO (toD f h) ws with
    | none => rw [q] at e'; cases e'
    | some ds => rw [q] at e'; cases e'; exact .tup s (toDs_dp rh f ws vs ds r q)
  | f + 1, _, _, d, .loc (i := i) hi, e => by
    have e' : (match listAt h i with
      | some ws => (match mapO (toD f h) ws with
        | some ds => some (PyData.list ds)
        | none => none)
      | none => none) = some d := e
    cases g : listAt h i with
    | none => rw [g] at e'; cases e'
    | some ws =>
      rw [g] at e'
      obtain ⟨vs, s, r, _⟩ := rh.list g
      have e2 : (match mapO (toD f h) ws with
        | some ds => some (PyData.list ds)
        | none => none) = some d := e'
      cases q : mapO (toD f h) ws with
      | none => rw [q] at e2; cases e2
      | some ds => rw [q] at e2; cases e2; exact .lst s (toDs_dp rh f ws vs ds r q)
theorem toDs_dp (rh : RH F.K F.C ρ h H) : ∀ (f : Nat) (ws : List W) (vs : List V) (ds : List PyData), RVs F.K ρ h.n H ws vs → mapO (toD f h) ws = some ds → DpAll F.K H vs ds
  | _, [], _, ds, .nil, e => by cases e; exact .nil
  | f, w :: ws, _, ds, .cons (v := v) (vs := vs) a r, e => by
    rw [mapO_cons] at e
    cases q : toD f h w with
    | none => rw [q] at e; cases e
    | some b =>
      rw [q] at e
      dsimp only at e
      have e2 := e
      cases q2 : mapO (toD f h) ws with
      | none => rw [q2] at e2; cases e2
      | some s =>
        rw [q2] at e2; cases e2
        exact .cons (toD_dp rh f w v b a q) (toDs_dp rh f ws vs s r q2)
end
theorem scal_ok {x y : W} {v u : V} {n : Nat} {b : Bool} (rx : RV F.K ρ n H x v) (ry : RV F.K ρ n H y u) (e : scalW x y = some b) : scal v u = true ∧ decide (v = u) = b := by
  cases rx <;> cases ry <;> simp only [scalW] at e <;> first
    | (cases e; done)
    | (cases e; exact ⟨rfl, by simp⟩)
    | (injection e with e; subst e; refine ⟨rfl, ?_⟩; simp)
end
theorem tupE_ok {ρ : Nat → Addr} {n : Nat} {H : Hp} {x y : W} {v u : V} {b : Bool} {Q : VK} (rx : RV F.K ρ n H x v) (ry : RV F.K ρ n H y u) (e : tupE x y = some b) (q : Q (.bl b) H) : rEqE F.K v u H Q := by
  cases rx <;> cases ry <;> first | (cases e; done) | skip
  case tup.tup ws a vs s r us b' vs' s' r' =>
    cases us with
    | nil =>
      cases e
      cases r'
      refine ⟨_, _, vs, rfl, rfl, s, s', ?_⟩
      have z : vs.isEmpty = ws.isEmpty := by cases r <;> rfl
      rw [z]; exact q
    | cons _ _ => cases e
theorem s_eq : Op2 F oEq (fun x y H Q => (rEq x y H Q ∨ rEqD F.K x y H Q) ∨ rEqE F.K x y H Q) := by
  intro ρ h H σ x y v u Q rh rx ry p
  unfold oEq at p
  cases qe : tupE x y with
  | some b => rw [qe] at p; exact .inr (tupE_ok rx ry qe (post_same rh p .bl))
  | none =>
  rw [qe] at p
  dsimp only at p
  refine .inl ?_
  unfold eqW at p
  cases q : scalW x y with
  | some b =>
    rw [q] at p
    obtain ⟨h1, h2⟩ := scal_ok rx ry q
    refine .inl ⟨h1, ?_⟩
    rw [h2]
    exact post_same rh p .bl
  | none =>
    rw [q] at p
    dsimp only at p
    cases qx : dat h x with
    | none => rw [qx] at p; exact p.elim
    | some d =>
      cases qy : dat h y with
      | none => rw [qx, qy] at p; exact p.elim
      | some e =>
        rw [qx, qy] at p
        dsimp only at p
        cases qs : SeqAt.shaped d && SeqAt.shaped e with
        | false => rw [qs] at p; exact p.elim
        | true =>
          rw [qs] at p
          obtain ⟨s1, s2⟩ := Bool.and_eq_true_iff.mp qs
          exact .inr ⟨d, e, toD_dp rh _ _ _ _ rx qx, toD_dp rh _ _ _ _ ry qy, s1, s2, post_same rh p .bl⟩
theorem s_ne : Op2 F oNe (fun x y H Q => rNe x y H Q ∨ rNeD F.K x y H Q) := by
  intro ρ h H σ x y v u Q rh rx ry p
  unfold oNe eqW at p
  cases q : scalW x y with
  | some b =>
    rw [q] at p
    obtain ⟨h1, h2⟩ := scal_ok rx ry q
    refine .inl ⟨h1, ?_⟩
    rw [h2]
    exact post_same rh p .bl
  | none =>
    rw [q] at p
    dsimp only at p
    cases qx : dat h x with
    | none => rw [qx] at p; exact p.elim
    | some d =>
      cases qy : dat h y with
      | none => rw [qx, qy] at p; exact p.elim
      | some e =>
        rw [qx, qy] at p
        dsimp only at p
        cases qs : SeqAt.shaped d && SeqAt.shaped e with
        | false => rw [qs] at p; exact p.elim
        | true =>
          rw [qs] at p
          obtain ⟨s1, s2⟩ := Bool.and_eq_true_iff.mp qs
          exact .inr ⟨d, e, toD_dp rh _ _ _ _ rx qx, toD_dp rh _ _ _ _ ry qy, s1, s2, post_same rh p .bl⟩
theorem isNone_ok {ρ : Nat → Addr} {n : Nat} {H : Hp} {x : W} {v : V} (r : RV F.K ρ n H x v) : decide (v = .non) = isNone x := by
  cases r <;> simp [isNone]
theorem s_is : Op2 F oIs (fun x y H Q => (y = .non ∧ Q (.bl (decide (x = .non))) H) ∨ rIsB x y H Q) := by
  intro ρ h H σ x y v u Q rh rx ry p
  cases ry <;> first | exact False.elim p | skip
  · refine .inl ⟨rfl, ?_⟩
    rw [isNone_ok (F := F) rx]
    exact post_same rh p .bl
  · cases rx <;> first | exact False.elim p | skip
    exact .inr ⟨_, _, rfl, rfl, post_same rh p .bl⟩
theorem s_isnot : Op2 F oIsNot (fun x y H Q => (y = .non ∧ Q (.bl (!decide (x = .non))) H) ∨ rNotB x y H Q) := by
  intro ρ h H σ x y v u Q rh rx ry p
  cases ry <;> first | exact False.elim p | skip
  · refine .inl ⟨rfl, ?_⟩
    rw [isNone_ok (F := F) rx]
    exact post_same rh p .bl
  · cases rx <;> first | exact False.elim p | skip
    exact .inr ⟨_, _, rfl, rfl, post_same rh p .bl⟩
end
end Fw

set_option Elab.async false
set_option linter.all false
set_option maxRecDepth 100000
set_option maxHeartbeats 1000000
namespace Fw
open PySem L2
section
variable {F : Fx} {ρ : Nat → Addr} {h : IH} {H : Hp}
theorem RKs.get : ∀ {ws : List (Key × W)} {es : List (Key × V)} {n : Nat} {k : Key} {w : W}, RKs F.K ρ n H ws es → dGet ws k = some w → ∃ v, valV es k = some v ∧ RV F.K ρ n H w v
  | _, _, _, k, w, .nil, e => by cases e
  | _, _, _, k, w, .cons (k := a) (w := x) (ws := ws) a1 r, e => by
    by_cases z : a = k
    · have e' : some x = some w := by simpa [dGet, z] using e
      cases e'
      exact ⟨_, valV_pos z, a1⟩
    · have e' : dGet ws k = some w := by simpa [dGet, z] using e
      obtain ⟨v, h1, h2⟩ := RKs.get r e'
      exact ⟨v, by rw [valV_neg z]; exact h1, h2⟩
theorem RKs.getN : ∀ {ws : List (Key × W)} {es : List (Key × V)} {n : Nat} {k : Key}, RKs F.K ρ n H ws es → dGet ws k = none → valV es k = none
  | _, _, _, k, .nil, e => rfl
  | _, _, _, k, .cons (k := a) (w := x) (ws := ws) a1 r, e => by
    by_cases z : a = k
    · exfalso
      simp [dGet, z] at e
    · have e' : dGet ws k = none := by simpa [dGet, z] using e
      rw [valV_neg z]; exact RKs.getN r e'
theorem RKs.length : ∀ {ws : List (Key × W)} {es : List (Key × V)} {n : Nat}, RKs F.K ρ n H ws es → ws.length = es.length
  | _, _, _, .nil => rfl
  | _, _, _, .cons _ r => congrArg (· + 1) (RKs.length r)
theorem RKs.keys : ∀ {ws : List (Key × W)} {es : List (Key × V)} {n : Nat}, RKs F.K ρ n H ws es → ws.map (·.1) = es.map (·.1)
  | _, _, _, .nil => rfl
  | _, _, _, .cons _ r => by rw [List.map_cons, List.map_cons, RKs.keys r]
theorem RKs.any_ {ws : List (Key × W)} {es : List (Key × V)} {n : Nat} (k : Key) (r : RKs F.K ρ n H ws es) : (ws.any fun p => decide (p.1 = k)) = es.any fun p => decide (p.1 = k) := by
  have e := r.keys
  have h1 : (ws.any fun p => decide (p.1 = k)) = (ws.map (·.1)).any fun q => decide (q = k) := by rw [List.any_map]; rfl
  have h2 : (es.any fun p => decide (p.1 = k)) = (es.map (·.1)).any fun q => decide (q = k) := by rw [List.any_map]; rfl
  rw [h1, h2, e]
theorem RKs.snoc {w : W} {v : V} {k : Key} {n : Nat} (q : RV F.K ρ n H w v) : ∀ {ws : List (Key × W)} {es : List (Key × V)}, RKs F.K ρ n H ws es → RKs F.K ρ n H (ws ++ [(k, w)]) (es ++ [(k, v)])
  | _, _, .nil => .cons q .nil
  | _, _, .cons a r => .cons a (RKs.snoc q r)
theorem RKs.mapP {w : W} {v : V} {k : Key} {n : Nat} (q : RV F.K ρ n H w v) : ∀ {ws : List (Key × W)} {es : List (Key × V)}, RKs F.K ρ n H ws es →
    RKs F.K ρ n H (ws.map fun p => match decide (p.1 = k) with | true => (p.1, w) | false => p) (es.map fun kv => if kv.1 = k then (kv.1, v) else kv)
  | _, _, .nil => .nil
  | _, _, .cons (k := a) (w := x) (v := y) a1 r => by
    rw [List.map_cons, List.map_cons]
    by_cases z : a = k
    · rw [if_pos z, show decide (a = k) = true from decide_eq_true z]
      exact .cons q (RKs.mapP q r)
    · rw [if_neg z, show decide (a = k) = false from decide_eq_false z]
      exact .cons a1 (RKs.mapP q r)
theorem RKs.put {ws : List (Key × W)} {es : List (Key × V)} {w : W} {v : V} {k : Key} {n : Nat} (r : RKs F.K ρ n H ws es) (q : RV F.K ρ n H w v) : RKs F.K ρ n H (dPut ws k w) (putK es k v) := by
  unfold dPut putK
  rw [← r.any_ k]
  cases ws.any fun p => decide (p.1 = k) with
  | true => rw [if_pos rfl]; exact r.mapP q
  | false => rw [if_neg (by decide)]; exact r.snoc q
theorem atI_ok {ws : List W} {vs : List V} {n : Nat} {i : Int} {w : W} (r : RVs F.K ρ n H ws vs) (e : atI ws i = some w) : ∃ v, atI vs i = some v ∧ RV F.K ρ n H w v := by
  unfold atI at e ⊢
  rw [r.length] at e
  cases q : ixN vs.length i with
  | none => rw [q] at e; cases e
  | some j => rw [q] at e; exact r.get e
theorem keyOf_ok {w : W} {v : V} {n : Nat} {k : Key} (r : RV F.K ρ n H w v) (e : keyOf w = some k) : v = kV k := by
  cases r <;> simp only [keyOf] at e <;> first
    | (cases e; done)
    | (cases e; rfl)
theorem ofO_inv {α : Type} {RA : (Nat → Addr) → Nat → Hp → W → V → Prop} {σ : L2.St} {n : Nat} {o : Option W} {Q : VK} (p : Post F RA σ ρ n H (ofO o h) Q) : ∃ w, o = some w ∧ Post F RA σ ρ n H (.ok w h) Q := by
  cases o with
  | none => exact p.elim
  | some w => exact ⟨w, rfl, p⟩
end
section
variable {F : Fx}
theorem s_ix : Op2 F oIx (fun x y H Q => rIx F.K x y H Q ∨ ∃ a v, x = .ref a ∧ DGet H a y (some v) ∧ Q v H) := by
  intro ρ h H σ x y v u Q rh rx ry p
  cases rx <;> cases ry <;> first | exact False.elim p | skip
  case str.int z i =>
    have p' : Post F (RV F.K) σ ρ h.n H (match atI z.cps.toList i with
      | some c => .need (lenOk z.length) (.ok (.str ⟨#[c]⟩) h)
      | none => .stuck) Q := p
    cases e : atI z.cps.toList i with
    | none => rw [e] at p'; exact p'.elim
    | some c =>
      rw [e] at p'
      obtain ⟨q, p'⟩ := need_inv p'
      exact .inl (.inr (.inr ⟨z, i, c, rfl, rfl, line_of q, e, post_same rh p' .str⟩))
  case tup.int ws a vs s1 r1 i =>
    obtain ⟨w, e, p⟩ := ofO_inv (α := Unit) p
    obtain ⟨v, e2, q⟩ := atI_ok r1 e
    exact .inl (.inr (.inl ⟨a, vs, i, v, rfl, rfl, s1, e2, post_same rh p q⟩))
  case loc.int a ha i =>
    have p' : Post F (RV F.K) σ ρ h.n H (match h.get a with
      | some (.lst ws) => ofO (atI ws i) h
      | some (.dk kvs) => ofO (dGet kvs (.inl i)) h
      | _ => .stuck) Q := p
    clear p
    cases ga : h.get a with
    | none => rw [ga] at p'; exact p'.elim
    | some c =>
      rw [ga] at p'
      cases c with
      | lst ws =>
        obtain ⟨w, e, p⟩ := ofO_inv (α := Unit) p'
        obtain ⟨vs, s, r, _⟩ := rh.list (show listAt h a = some ws by unfold listAt; rw [ga])
        obtain ⟨v, e2, q⟩ := atI_ok r e
        exact .inl (.inl ⟨_, vs, i, v, rfl, rfl, s, e2, post_same rh p q⟩)
      | dk kvs =>
        obtain ⟨w, e, p⟩ := ofO_inv (α := Unit) p'
        obtain ⟨es, e1, r⟩ := rh.dk ga
        obtain ⟨v, e2, q⟩ := r.get e
        exact .inr ⟨_, v, rfl, by rw [← e2]; exact DGet.k (k := Sum.inl i) e1, post_same rh p q⟩
      | dz _ => exact p'.elim
      | ins _ _ => exact p'.elim
      | err _ => exact p'.elim
  case loc.str a ha i =>
    have p' : Post F (RV F.K) σ ρ h.n H (match h.get a with
      | some (.dk kvs) => ofO (dGet kvs (.inr i)) h
      | _ => .stuck) Q := p
    clear p
    cases ga : h.get a with
    | none => rw [ga] at p'; exact p'.elim
    | some c =>
      rw [ga] at p'
      cases c with
      | lst ws => exact p'.elim
      | dk kvs =>
        obtain ⟨w, e, p⟩ := ofO_inv (α := Unit) p'
        obtain ⟨es, e1, r⟩ := rh.dk ga
        obtain ⟨v, e2, q⟩ := r.get e
        exact .inr ⟨_, v, rfl, by rw [← e2]; exact DGet.k (k := Sum.inr i) e1, post_same rh p q⟩
      | dz _ => exact p'.elim
      | ins _ _ => exact p'.elim
      | err _ => exact p'.elim
/-- a slice -/
theorem s_sl {ρ : Nat → Addr} {h : IH} {H : Hp} {σ : L2.St} {x : W} {v : V} {lo hi : Option Int} {Q : VK} (rh : RH F.K F.C ρ h H) (rx : RV F.K ρ h.n H x v) (p : Post F (RV F.K) σ ρ h.n H (oSl lo hi x h) Q) : rSlL F.K v lo hi H Q ∨ rSlA F.K v lo hi H Q := by
  cases rx <;> first | exact False.elim p | skip
  case tup ws a vs s1 r1 =>
    refine .inr ⟨a, vs, rfl, s1, fun e => ?_, fun _ => ?_⟩
    · have e2 : cutW ws lo hi = ws := by
        unfold cutW
        rw [r1.length, e.1, e.2, List.drop_zero, Nat.sub_zero, ← r1.length, List.take_length]
      have p' : Post F (RV F.K) σ ρ h.n H (.ok (.tup (cutW ws lo hi)) h) Q := p
      rw [e2] at p'
      exact post_same rh p' (.tup s1 r1)
    · refine post_tup rh ?_ p
      unfold cutW cutV
      rw [r1.length]
      exact (r1.drop _).take _
  case loc a ha =>
    have p' : Post F (RV F.K) σ ρ h.n H (match listAt h a with
      | some ws => .ok (.loc h.n) (h.new (.lst (cutW ws lo hi)))
      | none => .stuck) Q := p
    cases g : listAt h a with
    | none => rw [g] at p'; exact p'.elim
    | some ws =>
      rw [g] at p'
      obtain ⟨vs, s, r, _⟩ := rh.list g
      refine .inl ⟨_, vs, rfl, s, post_lst rh ?_ p'⟩
      unfold cutW cutV
      rw [r.length]
      exact (r.drop _).take _
  case ro ws a vs s r =>
    refine .inl ⟨_, vs, rfl, s.sq, post_lst rh ?_ p⟩
    unfold cutW cutV
    rw [r.length]
    exact (r.drop _).take _
/-! ### in -/
theorem flat_ok {ρ : Nat → Addr} {n : Nat} {H : Hp} {x : W} {v : V} (r : RV F.K ρ n H x v) (e : flatW x = true) : flatV v = true := by
  cases r <;> first | rfl | cases e
theorem flats_ok {ρ : Nat → Addr} {n : Nat} {H : Hp} : ∀ {x : List W} {v : List V}, RVs F.K ρ n H x v → x.all flatW = true → v.all flatV = true
  | _, _, .nil, _ => rfl
  | _, _, .cons a r, e => by
    rw [List.all_cons, Bool.and_eq_true_iff] at e
    rw [List.all_cons, flat_ok a e.1, flats_ok r e.2]; rfl
theorem eqFlat_ok {ρ : Nat → Addr} {n : Nat} {H : Hp} {x y : W} {v u : V} (rx : RV F.K ρ n H x v) (ry : RV F.K ρ n H y u) (hx : flatW x = true) (hy : flatW y = true) : eqV v u = eqFlat x y := by
  cases rx <;> cases ry <;> first | (cases hx; done) | (cases hy; done) | rfl | skip
theorem inFlat_ok {ρ : Nat → Addr} {n : Nat} {H : Hp} {x : W} {v : V} (rx : RV F.K ρ n H x v) (hx : flatW x = true) : ∀ {ws : List W} {vs : List V}, RVs F.K ρ n H ws vs → ws.all flatW = true → inV v vs = inFlat x ws
  | _, _, .nil, _ => rfl
  | _, _, .cons (w := w) (ws := ws) (v := u) (vs := us) a r, e => by
    rw [List.all_cons, Bool.and_eq_true_iff] at e
    have ih := inFlat_ok rx hx r e.2
    show (eqV u v || inV v us) = (match eqFlat w x with
      | true => true
      | false => inFlat x ws)
    rw [eqFlat_ok a rx e.1 hx, ih]
    cases eqFlat w x <;> rfl
end
end Fw

set_option Elab.async false
set_option linter.all false
set_option maxRecDepth 100000
set_option maxHeartbeats 1000000
namespace Fw
open PySem L2
section
variable (F : Fx)
def OpN (k : List W → IH → Rs W) (r : List V → Hp → VK → Prop) : Prop := ∀ (ρ : Nat → Addr) (h : IH) (H : Hp) (σ : L2.St) (ws : List W) (vs : List V) (Q : VK), RH F.K F.C ρ h H → RVs F.K ρ h.n H ws vs → Post F (RV F.K) σ ρ h.n H (k ws h) Q → r vs H Q
/-- a method: the receiver, the arguments -/
def OpM (k : List W → IH → Rs W) (r : V → List V → Hp → VK → Prop) : Prop := ∀ (ρ : Nat → Addr) (h : IH) (H : Hp) (σ : L2.St) (w : W) (ws : List W) (v : V) (vs : List V) (Q : VK), RH F.K F.C ρ h H → RV F.K ρ h.n H w v → RVs F.K ρ h.n H ws vs → Post F (RV F.K) σ ρ h.n H (k (w :: ws) h) Q → r v vs H Q
end
section
variable {F : Fx}
/-- in: over a list or tuple of flat things, a list of data, a dict -/
theorem in_ok {ρ : Nat → Addr} {h : IH} {H : Hp} {x y : W} {v u : V} {b : Bool} (rh : RH F.K F.C ρ h H) (rx : RV F.K ρ h.n H x v) (ry : RV F.K ρ h.n H y u) (e : inW x y h = some b) :
    (∃ p xs, u = .ref p ∧ (SqL F.K H p xs ∨ SqT F.K H p xs) ∧ flatV v = true ∧ xs.all flatV = true ∧ inV v xs = b) ∨ (∃ d ds, Dp F.K H v d ∧ Dp F.K H u (.list ds) ∧ SeqAt.shaped d = true ∧ SeqAt.shaped (.list ds) = true ∧ (ds.any fun z => PyData.eqv z d) = b) ∨ ∃ a o, u = .ref a ∧ DGet H a v o ∧ o.isSome = b := by
  have lists : ∀ {a : Nat} {ws : List W}, a < h.n → listAt h a = some ws → (match flatW x && ws.all flatW with
      | true => some (inFlat x ws)
      | false => memO x ws h) = some b → (∃ p xs, V.ref (ρ a) = .ref p ∧ (SqL F.K H p xs ∨ SqT F.K H p xs) ∧ flatV v = true ∧ xs.all flatV = true ∧ inV v xs = b) ∨ (∃ d ds, Dp F.K H v d ∧ Dp F.K H (V.ref (ρ a)) (.list ds) ∧ SeqAt.shaped d = true ∧ SeqAt.shaped (.list ds) = true ∧ (ds.any fun z => PyData.eqv z d) = b) := fun {a ws} ha g e => by
    obtain ⟨vs, s, r, _⟩ := rh.list g
    cases q : flatW x && ws.all flatW with
    | true =>
      rw [q] at e
      cases e
      obtain ⟨q1, q2⟩ := Bool.and_eq_true_iff.mp q
      exact .inl ⟨_, vs, rfl, .inl s, flat_ok rx q1, flats_ok r q2, inFlat_ok rx q1 r q2⟩
    | false =>
      rw [q] at e
      dsimp only at e
      unfold memO at e
      cases qx : dat h x with
      | none => rw [qx] at e; cases e
      | some d =>
        rw [qx] at e
        dsimp only at e
        cases qw : mapO (toD 64 h) ws with
        | none => rw [qw] at e; cases e
        | some ds =>
          rw [qw] at e
          dsimp only at e
          cases qs : SeqAt.shaped d && SeqAt.shaped (.list ds) with
          | false => rw [qs] at e; cases e
          | true =>
            rw [qs] at e
            cases e
            obtain ⟨s1, s2⟩ := Bool.and_eq_true_iff.mp qs
            exact .inr ⟨d, ds, toD_dp rh _ _ _ _ rx qx, .lst s (toDs_dp rh _ _ _ _ r qw), s1, s2, rfl⟩
  cases ry <;> simp only [inW] at e <;> first | (cases e; done) | skip
  case tup ws a vs s1 r1 =>
    cases q : flatW x && ws.all flatW with
    | false => rw [q] at e; cases e
    | true =>
      rw [q] at e
      cases e
      obtain ⟨q1, q2⟩ := Bool.and_eq_true_iff.mp q
      exact .inl ⟨_, vs, rfl, .inr s1, flat_ok rx q1, flats_ok r1 q2, inFlat_ok rx q1 r1 q2⟩
  case loc a ha =>
    cases ga : h.get a with
    | none => rw [ga] at e; cases e
    | some c =>
      rw [ga] at e
      cases c with
      | lst ws =>
        rcases lists ha (show listAt h a = some ws by unfold listAt; rw [ga]) e with z | z
        · exact .inl z
        · exact .inr (.inl z)
      | dk kvs =>
        dsimp only at e
        cases qk : keyOf x with
        | none => rw [qk] at e; cases e
        | some k =>
          rw [qk] at e
          cases e
          obtain ⟨es, e1, r⟩ := rh.dk ga
          have ek := keyOf_ok rx qk
          subst ek
          refine .inr (.inr ⟨_, _, rfl, DGet.k e1, ?_⟩)
          cases g : dGet kvs k with
          | none => rw [r.getN g]; rfl
          | some w => obtain ⟨z, h1, _⟩ := r.get g; rw [h1]; rfl
      | dz _ => cases e
      | ins _ _ => cases e
      | err _ => cases e
theorem s_in : Op2 F oIn (fun x y H Q => (rIn F.K false x y H Q ∨ rInD F.K x y H Q) ∨ ∃ a o, y = .ref a ∧ DGet H a x o ∧ Q (.bl o.isSome) H) := by
  intro ρ h H σ x y v u Q rh rx ry p
  unfold oIn at p
  cases q : inW x y h with
  | none => rw [q] at p; exact p.elim
  | some b =>
    rw [q] at p
    have hq : Q (.bl b) H := post_same rh p .bl
    rcases in_ok rh rx ry q with ⟨pl, xs, e, s, f1, f2, e2⟩ | ⟨d, ds, h1, h2, h3, h4, e2⟩ | ⟨a, o, e, g, e2⟩
    · refine .inl (.inl ⟨pl, xs, e, s, f1, f2, ?_⟩)
      rw [if_neg (by decide), e2]; exact hq
    · exact .inl (.inr ⟨d, ds, h1, h2, h3, h4, by rw [e2]; exact hq⟩)
    · exact .inr ⟨a, o, e, g, by rw [e2]; exact hq⟩
theorem s_notin : Op2 F oNotIn (fun x y H Q => (rIn F.K true x y H Q ∨ rNotInD F.K x y H Q) ∨ ∃ a o, y = .ref a ∧ DGet H a x o ∧ Q (.bl (!o.isSome)) H) := by
  intro ρ h H σ x y v u Q rh rx ry p
  unfold oNotIn at p
  cases q : inW x y h with
  | none => rw [q] at p; exact p.elim
  | some b =>
    rw [q] at p
    have hq : Q (.bl !b) H := post_same rh p .bl
    rcases in_ok rh rx ry q with ⟨pl, xs, e, s, f1, f2, e2⟩ | ⟨d, ds, h1, h2, h3, h4, e2⟩ | ⟨a, o, e, g, e2⟩
    · refine .inl (.inl ⟨pl, xs, e, s, f1, f2, ?_⟩)
      rw [if_pos rfl, e2]; exact hq
    · exact .inl (.inr ⟨d, ds, h1, h2, h3, h4, by rw [e2]; exact hq⟩)
    · exact .inr ⟨a, o, e, g, by rw [e2]; exact hq⟩

/-! ### kinds -/
def tyN : Ty → String
  | .non => "NoneType" | .bool => "bool" | .int => "int" | .str => "str" | .tuple => "tuple" | .list => "list" | .dict => "dict" | .own _ => "object"
theorem ty_ok {ρ : Nat → Addr} {h : IH} {H : Hp} {x : W} {v : V} {t : Ty} (rh : RH F.K F.C ρ h H) (rx : RV F.K ρ h.n H x v) (e : tyOf h x = some t) (o : isOwn t = false) : TyX F.K H v (.type (tyN t)) := by
  cases rx <;> simp only [tyOf] at e
  case non => cases e; exact .base .non
  case bl => cases e; exact .base (.bl _)
  case int => cases e; exact .base (.int _)
  case str => cases e; exact .base (.str _)
  case ro => cases e
  case tup ws a vs s1 r1 =>
    cases e
    rcases s1 with (s | ⟨o, s⟩) | ⟨o, its, n, s, c, _⟩
    · exact .base (.tup s)
    · exact .fTuple s
    · exact .kTuple s c
  case loc a ha =>
    cases ga : h.get a with
    | none => rw [ga] at e; cases e
    | some c =>
      rw [ga] at e
      have z := rh.cell a c ga
      cases c with
      | lst ws => cases e; obtain ⟨vs, z, _⟩ := z; exact .base (.lst z)
      | dk kvs => cases e; obtain ⟨vs, z, _⟩ := z; exact .base (.dK z)
      | dz _ => cases e
      | ins c fs => cases e; cases o
      | err _ => cases e
theorem kit_tab : ∀ t u : Ty, isOwn t = false → isOwn u = false → kitB (tyN t) (tyN u) = some (isTy t u)
  | .own _, _, h, _ => by cases h
  | _, .own _, _, h => by cases h
  | .non, .non, _, _ => by decide +kernel
  | .non, .bool, _, _ => by decide +kernel
  | .non, .int, _, _ => by decide +kernel
  | .non, .str, _, _ => by decide +kernel
  | .non, .tuple, _, _ => by decide +kernel
  | .non, .list, _, _ => by decide +kernel
  | .non, .dict, _, _ => by decide +kernel
  | .bool, .non, _, _ => by decide +kernel
  | .bool, .bool, _, _ => by decide +kernel
  | .bool, .int, _, _ => by decide +kernel
  | .bool, .str, _, _ => by decide +kernel
  | .bool, .tuple, _, _ => by decide +kernel
  | .bool, .list, _, _ => by decide +kernel
  | .bool, .dict, _, _ => by decide +kernel
  | .int, .non, _, _ => by decide +kernel
  | .int, .bool, _, _ => by decide +kernel
  | .int, .int, _, _ => by decide +kernel
  | .int, .str, _, _ => by decide +kernel
  | .int, .tuple, _, _ => by decide +kernel
  | .int, .list, _, _ => by decide +kernel
  | .int, .dict, _, _ => by decide +kernel
  | .str, .non, _, _ => by decide +kernel
  | .str, .bool, _, _ => by decide +kernel
  | .str, .int, _, _ => by decide +kernel
  | .str, .str, _, _ => by decide +kernel
  | .str, .tuple, _, _ => by decide +kernel
  | .str, .list, _, _ => by decide +kernel
  | .str, .dict, _, _ => by decide +kernel
  | .tuple, .non, _, _ => by decide +kernel
  | .tuple, .bool, _, _ => by decide +kernel
  | .tuple, .int, _, _ => by decide +kernel
  | .tuple, .str, _, _ => by decide +kernel
  | .tuple, .tuple, _, _ => by decide +kernel
  | .tuple, .list, _, _ => by decide +kernel
  | .tuple, .dict, _, _ => by decide +kernel
  | .list, .non, _, _ => by decide +kernel
  | .list, .bool, _, _ => by decide +kernel
  | .list, .int, _, _ => by decide +kernel
  | .list, .str, _, _ => by decide +kernel
  | .list, .tuple, _, _ => by decide +kernel
  | .list, .list, _, _ => by decide +kernel
  | .list, .dict, _, _ => by decide +kernel
  | .dict, .non, _, _ => by decide +kernel
  | .dict, .bool, _, _ => by decide +kernel
  | .dict, .int, _, _ => by decide +kernel
  | .dict, .str, _, _ => by decide +kernel
  | .dict, .tuple, _, _ => by decide +kernel
  | .dict, .list, _, _ => by decide +kernel
  | .dict, .dict, _, _ => by decide +kernel
theorem kit_anyT {K : PySem.W.Frag} {t : Ty} (ht : isOwn t = false) : ∀ us : List Ty, (us.all fun u => !isOwn u) = true → PySem.W.kitAny K (.type (tyN t)) (us.map fun u => Value.type (tyN u)) = some (us.any fun u => isTy t u)
  | [], _ => rfl
  | u :: us, h => by
    rw [List.all_cons, Bool.and_eq_true_iff] at h
    have hu : isOwn u = false := by simpa using h.1
    have e := kit_tab t u ht hu
    rw [List.map_cons, List.any_cons]
    cases q : isTy t u with
    | true => exact kitAny_cons (kit_ty (by rw [e, q])) (fun z => by cases z) fun _ => rfl
    | false => exact kitAny_cons (kit_ty (by rw [e, q])) (fun _ => by rw [Bool.false_or]; exact kit_anyT ht us h.2) fun z => by cases z
theorem clsVs : ∀ us : List Ty, Paired ClsV (us.map fun u => V.ty (tyN u)) (us.map fun u => Value.type (tyN u))
  | [] => .nil
  | u :: us => .cons (.ty _) (clsVs us)
end
end Fw

set_option Elab.async false
set_option linter.all false
set_option maxRecDepth 100000
set_option maxHeartbeats 1000000
namespace Fw
open PySem L2
section
variable {F : Fx}
theorem rvs1 {ρ : Nat → Addr} {n : Nat} {H : Hp} {w : W} {vs : List V} (r : RVs F.K ρ n H [w] vs) : ∃ v, vs = [v] ∧ RV F.K ρ n H w v := by
  cases r with
  | cons a b => cases b; exact ⟨_, rfl, a⟩
theorem rvs2 {ρ : Nat → Addr} {n : Nat} {H : Hp} {w x : W} {vs : List V} (r : RVs F.K ρ n H [w, x] vs) : ∃ v u, vs = [v, u] ∧ RV F.K ρ n H w v ∧ RV F.K ρ n H x u := by
  cases r with
  | cons a b => obtain ⟨u, rfl, q⟩ := rvs1 b; exact ⟨_, _, rfl, a, q⟩
theorem OpN.of1 {k : W → IH → Rs W} {r : List V → Hp → VK → Prop} (hk : Op1 F k fun v H Q => r [v] H Q) : OpN F (k1 k) r := by
  intro ρ h H σ ws vs Q rh rv p
  match ws, rv, p with
  | [], _, p => exact False.elim p
  | [w], rv, p =>
    obtain ⟨v, rfl, q⟩ := rvs1 rv
    exact hk ρ h H σ w v Q rh q p
  | _ :: _ :: _, _, p => exact False.elim p
theorem OpN.of2 {k : W → W → IH → Rs W} {r : List V → Hp → VK → Prop} (hk : Op2 F k fun v u H Q => r [v, u] H Q) : OpN F (k2 k) r := by
  intro ρ h H σ ws vs Q rh rv p
  match ws, rv, p with
  | [], _, p => exact False.elim p
  | [_], _, p => exact False.elim p
  | [w, x], rv, p =>
    obtain ⟨v, u, rfl, q1, q2⟩ := rvs2 rv
    exact hk ρ h H σ w x v u Q rh q1 q2 p
  | _ :: _ :: _ :: _, _, p => exact False.elim p
theorem s_len : Op1 F oLen (fun v H Q => (∃ p ys, [v] = [V.ref p] ∧ (SqL F.K H p ys ∨ SqT F.K H p ys) ∧ Q (.int ys.length) H) ∨ (∃ z, [v] = [V.str z] ∧ z.length ≤ sizeLine ∧ Q (.int z.length) H) ∨ ∃ d kvs, [v] = [V.ref d] ∧ H d = some (.dK kvs) ∧ Q (.int kvs.length) H) := by
  intro ρ h H σ x v Q rh rx p
  cases rx <;> first | exact False.elim p | skip
  case str z =>
    obtain ⟨q, p⟩ := need_inv p
    exact .inr (.inl ⟨z, rfl, line_of q, post_same rh p .int⟩)
  case tup ws a vs s1 r1 =>
    refine .inl ⟨a, vs, rfl, .inr s1, ?_⟩
    rw [← r1.length]
    exact post_same rh p .int
  case loc a ha =>
    have p' : Post F (RV F.K) σ ρ h.n H (match h.get a with
      | some (.lst ws) => .ok (.int ws.length) h
      | some (.dk kvs) => .ok (.int kvs.length) h
      | _ => .stuck) Q := p
    clear p
    cases ga : h.get a with
    | none => rw [ga] at p'; exact p'.elim
    | some c =>
      rw [ga] at p'
      cases c with
      | lst ws =>
        obtain ⟨vs, s, r, _⟩ := rh.list (show listAt h a = some ws by unfold listAt; rw [ga])
        exact .inl ⟨_, vs, rfl, .inl s, by rw [← r.length]; exact post_same rh p' .int⟩
      | dk kvs =>
        obtain ⟨es, e1, r⟩ := rh.dk ga
        exact .inr (.inr ⟨_, es, rfl, e1, by rw [← r.length]; exact post_same rh p' .int⟩)
      | dz _ => exact p'.elim
      | ins _ _ => exact p'.elim
      | err _ => exact p'.elim
theorem asB_ok {ρ : Nat → Addr} {n : Nat} {H : Hp} : ∀ {ws : List W} {vs : List V} {bs : List Bool}, RVs F.K ρ n H ws vs → mapO asB ws = some bs → vs = bs.map V.bl
  | _, _, _, .nil, e => by cases e; rfl
  | _, _, bs, .cons (w := w) (ws := ws) a r, e => by
    rw [mapO_cons] at e
    cases a <;> simp only [asB] at e <;> first | (cases e; done) | skip
    cases q : mapO asB ws with
    | none => rw [q] at e; cases e
    | some cs => rw [q] at e; cases e; rw [asB_ok r q]; rfl
theorem asI_ok {ρ : Nat → Addr} {n : Nat} {H : Hp} : ∀ {ws : List W} {vs : List V} {bs : List Int}, RVs F.K ρ n H ws vs → mapO asI ws = some bs → vs = bs.map V.int
  | _, _, _, .nil, e => by cases e; rfl
  | _, _, bs, .cons (w := w) (ws := ws) a r, e => by
    rw [mapO_cons] at e
    cases a <;> simp only [asI] at e <;> first | (cases e; done) | skip
    cases q : mapO asI ws with
    | none => rw [q] at e; cases e
    | some cs => rw [q] at e; cases e; rw [asI_ok r q]; rfl
theorem s_all : Op1 F oAll (fun v H Q => rAll F.K [v] H Q) := by
  intro ρ h H σ x v Q rh rx p
  cases rx <;> first | exact False.elim p | skip
  case loc a ha =>
    unfold oAll at p
    dsimp only at p
    cases g : listAt h a with
    | none => rw [g] at p; exact p.elim
    | some ws =>
      rw [g] at p
      dsimp only at p
      obtain ⟨vs, s, r, _⟩ := rh.list g
      cases q : mapO asB ws with
      | none => rw [q] at p; exact p.elim
      | some bs =>
        rw [q] at p
        have e := asB_ok r q
        subst e
        exact ⟨_, bs, rfl, s, post_same rh p .bl⟩
theorem s_any : Op1 F oAny (fun v H Q => rAny F.K [v] H Q) := by
  intro ρ h H σ x v Q rh rx p
  cases rx <;> first | exact False.elim p | skip
  case loc a ha =>
    unfold oAny at p
    dsimp only at p
    cases g : listAt h a with
    | none => rw [g] at p; exact p.elim
    | some ws =>
      rw [g] at p
      dsimp only at p
      obtain ⟨vs, s, r, _⟩ := rh.list g
      cases q : mapO asB ws with
      | none => rw [q] at p; exact p.elim
      | some bs =>
        rw [q] at p
        have e := asB_ok r q
        subst e
        exact ⟨_, bs, rfl, s, post_same rh p .bl⟩
theorem s_sum : Op1 F oSum (fun v H Q => rSum F.K [v] H Q) := by
  intro ρ h H σ x v Q rh rx p
  cases rx <;> first | exact False.elim p | skip
  case loc a ha =>
    unfold oSum at p
    dsimp only at p
    cases g : listAt h a with
    | none => rw [g] at p; exact p.elim
    | some ws =>
      rw [g] at p
      dsimp only at p
      obtain ⟨vs, s, r, _⟩ := rh.list g
      cases q : mapO asI ws with
      | none => rw [q] at p; exact p.elim
      | some bs =>
        rw [q] at p
        have e := asI_ok r q
        subst e
        exact ⟨_, bs, rfl, s, post_same rh p .int⟩
/-! ### sorted -/
theorem insI_perm (i : Int) : ∀ l : List Int, (insI i l).Perm (i :: l)
  | [] => .refl _
  | j :: r => by
    unfold insI
    cases decide (i ≤ j) with
    | true => exact .refl _
    | false => exact ((insI_perm i r).cons j).trans (.swap i j r)
theorem sortI_perm : ∀ l : List Int, (sortI l).Perm l
  | [] => .refl _
  | i :: r => (insI_perm i _).trans ((sortI_perm r).cons i)
theorem insI_sorted (i : Int) : ∀ l : List Int, l.Pairwise (· ≤ ·) → (insI i l).Pairwise (· ≤ ·)
  | [], _ => List.pairwise_singleton _ _
  | j :: r, h => by
    unfold insI
    cases q : decide (i ≤ j) with
    | true =>
      have q' := of_decide_eq_true q
      rw [List.pairwise_cons] at h
      exact List.pairwise_cons.mpr ⟨fun x hx => by
        rcases List.mem_cons.mp hx with rfl | hx
        · exact q'
        · exact Int.le_trans q' (h.1 x hx), List.pairwise_cons.mpr h⟩
    | false =>
      have q' := of_decide_eq_false q
      rw [List.pairwise_cons] at h
      refine List.pairwise_cons.mpr ⟨fun x hx => ?_, insI_sorted i r h.2⟩
      rcases List.mem_cons.mp ((insI_perm i r).mem_iff.mp hx) with rfl | hx
      · omega
      · exact h.1 x hx
theorem sortI_sorted : ∀ l : List Int, (sortI l).Pairwise (· ≤ ·)
  | [] => .nil
  | i :: r => insI_sorted i _ (sortI_sorted r)
theorem sorted_one : ∀ {l m : List Int}, l.Perm m → l.Pairwise (· ≤ ·) → m.Pairwise (· ≤ ·) → l = m
  | [], m, p, _, _ => by rw [List.nil_perm.mp p]
  | i :: r, [], p, _, _ => absurd p.length_eq (by simp)
  | i :: r, j :: s, p, h1, h2 => by
    rw [List.pairwise_cons] at h1 h2
    have e : i = j := by
      have a : j ∈ i :: r := p.mem_iff.mpr List.mem_cons_self
      have b : i ∈ j :: s := p.mem_iff.mp List.mem_cons_self
      rcases List.mem_cons.mp a with a | a
      · exact a.symm
      · rcases List.mem_cons.mp b with b | b
        · exact b
        · exact Int.le_antisymm (h1.1 j a) (h2.1 i b)
    subst e
    rw [sorted_one ((List.perm_cons i).mp p) h1.2 h2.2]
theorem sortI_one {ns ys : List Int} (p : ys.Perm ns) (s : ys.Pairwise (· ≤ ·)) : ys = sortI ns := sorted_one (p.trans (sortI_perm ns).symm) s (sortI_sorted ns)
theorem rvs_ints {ρ : Nat → Addr} {n : Nat} {H : Hp} : ∀ ns : List Int, RVs F.K ρ n H (ns.map W.int) (ns.map V.int)
  | [] => .nil
  | _ :: r => .cons .int (rvs_ints r)
theorem intKey_ok {ρ : Nat → Addr} {n : Nat} {H : Hp} : ∀ {ws : List (Key × W)} {es : List (Key × V)} {ns : List Int}, RKs F.K ρ n H ws es → mapO intKey ws = some ns → es.map (·.1) = ns.map Sum.inl
  | _, _, _, .nil, e => by cases e; rfl
  | _, _, ns, .cons (k := k) (ws := ws) a r, e => by
    rw [mapO_cons] at e
    cases k with
    | inr s => cases e
    | inl i =>
      simp only [intKey] at e
      cases q : mapO intKey ws with
      | none => rw [q] at e; cases e
      | some cs => rw [q] at e; cases e; rw [List.map_cons, intKey_ok r q]; rfl
def rSortedDI : V → Hp → VK → Prop := fun v H Q => ∃ (a : Addr) (kvs : List (Key × V)) (ks : List Int), [v] = [.ref a] ∧ Rd H a (.dK kvs) ∧ kvs.map (·.1) = ks.map Sum.inl ∧ ks.length < 64 ∧
    ∀ (ys : List Int) (p : Addr), ys.Perm ks → ys.Pairwise (· ≤ ·) → H p = none → Q (.ref p) (upd H p (.lst (ys.map V.int)))
theorem s_sorted : Op1 F oSorted (fun v H Q => rSortedI F.K [v] H Q ∨ rSortedDI v H Q) := by
  intro ρ h H σ x v Q rh rx p
  cases rx <;> first | exact False.elim p | skip
  case loc a ha =>
    have p' : Post F (RV F.K) σ ρ h.n H (match h.get a with
      | some (.lst ws) => (match mapO asI ws with
        | some ns => .ok (.loc h.n) (h.new (.lst ((sortI ns).map W.int)))
        | none => .stuck)
      | some (.dk kvs) => (match mapO intKey kvs with
        | some ns => .need (Nat.ble ns.length 63) (.ok (.loc h.n) (h.new (.lst ((sortI ns).map W.int))))
        | none => .stuck)
      | _ => .stuck) Q := p
    clear p
    cases ga : h.get a with
    | none => rw [ga] at p'; exact p'.elim
    | some c =>
      rw [ga] at p'
      cases c with
      | lst ws =>
        obtain ⟨vs, s, r, _⟩ := rh.list (show listAt h a = some ws by unfold listAt; rw [ga])
        dsimp only at p'
        cases q : mapO asI ws with
        | none => rw [q] at p'; exact p'.elim
        | some ns =>
          rw [q] at p'
          have e := asI_ok r q
          subst e
          refine .inl ⟨_, ns, rfl, s, fun ys q hp hs hq => ?_⟩
          rw [sortI_one hp hs]
          exact post_lst rh (rvs_ints _) p' q hq
      | dk kvs =>
        obtain ⟨es, e1, r⟩ := rh.dk ga
        dsimp only at p'
        cases q : mapO intKey kvs with
        | none => rw [q] at p'; exact p'.elim
        | some ns =>
          rw [q] at p'
          obtain ⟨hl, p'⟩ := need_inv p'
          refine .inr ⟨_, es, ns, rfl, .inl e1, intKey_ok r q, Nat.lt_succ_of_le (Nat.le_of_ble_eq_true hl), fun ys q hp hs hq => ?_⟩
          rw [sortI_one hp hs]
          exact post_lst rh (rvs_ints _) p' q hq
      | dz _ => exact p'.elim
      | ins _ _ => exact p'.elim
      | err _ => exact p'.elim
theorem s_tuple : Op1 F oTuple (fun v H Q => ∃ p ys, [v] = [V.ref p] ∧ ((SqL F.K H p ys ∧ ∀ l, H l = none → Q (.ref l) (upd H l (.tup ys))) ∨ (SqT F.K H p ys ∧ Q (.ref p) H))) := by
  intro ρ h H σ x v Q rh rx p
  cases rx <;> first | exact False.elim p | skip
  case tup ws a vs s1 r1 => exact ⟨a, vs, rfl, .inr ⟨s1, post_same rh p (.tup s1 r1)⟩⟩
  case loc a ha =>
    unfold oTuple at p
    dsimp only at p
    cases g : listAt h a with
    | none => rw [g] at p; exact p.elim
    | some ws =>
      rw [g] at p
      obtain ⟨vs, s, r, _⟩ := rh.list g
      exact ⟨_, vs, rfl, .inl ⟨s, post_tup rh r p⟩⟩
theorem s_list : Op1 F oList (fun v H Q => ∃ p ys, [v] = [V.ref p] ∧ (SqL F.K H p ys ∨ SqT F.K H p ys) ∧ ∀ l, H l = none → Q (.ref l) (upd H l (.lst ys))) := by
  intro ρ h H σ x v Q rh rx p
  cases rx <;> first | exact False.elim p | skip
  case tup ws a vs s1 r1 => exact ⟨a, vs, rfl, .inr s1, post_lst rh r1 p⟩
  case loc a ha =>
    unfold oList at p
    dsimp only at p
    cases g : listAt h a with
    | none => rw [g] at p; exact p.elim
    | some ws =>
      rw [g] at p
      obtain ⟨vs, s, r, _⟩ := rh.list g
      exact ⟨_, vs, rfl, .inl s, post_lst rh r p⟩
theorem s_min2 : Op2 F oMin2 (fun x y H Q => ∃ i j, [x, y] = [.int i, .int j] ∧ Q (.int (if j < i then j else i)) H) := by
  intro ρ h H σ x y v u Q rh rx ry p
  cases rx <;> cases ry <;> first | exact False.elim p | skip
  exact ⟨_, _, rfl, post_same rh p .int⟩
theorem insU_mem (i : Int) : ∀ (l : List Int) (k : Int), k ∈ insU i l ↔ k = i ∨ k ∈ l
  | [], k => by simp [insU]
  | j :: r, k => by
    unfold insU
    cases q : decide (i < j) with
    | true => simp
    | false =>
      cases q2 : decide (i = j) with
      | true =>
        have e := of_decide_eq_true q2
        subst e
        simp
      | false =>
        simp only [List.mem_cons, insU_mem i r k]
        constructor
        · rintro (h | h | h)
          · exact .inr (.inl h)
          · exact .inl h
          · exact .inr (.inr h)
        · rintro (h | h | h)
          · exact .inr (.inl h)
          · exact .inl h
          · exact .inr (.inr h)
theorem insU_lt (i : Int) : ∀ l : List Int, l.Pairwise (· < ·) → (insU i l).Pairwise (· < ·)
  | [], _ => List.pairwise_singleton _ _
  | j :: r, h => by
    unfold insU
    obtain ⟨h1, h2⟩ := List.pairwise_cons.mp h
    cases q : decide (i < j) with
    | true =>
      have q' := of_decide_eq_true q
      exact List.pairwise_cons.mpr ⟨fun x hx => by
        rcases List.mem_cons.mp hx with rfl | hx
        · exact q'
        · exact Int.lt_trans q' (h1 x hx), h⟩
    | false =>
      have q' := of_decide_eq_false q
      cases q2 : decide (i = j) with
      | true => exact h
      | false =>
        have q3 := of_decide_eq_false q2
        refine List.pairwise_cons.mpr ⟨fun x hx => ?_, insU_lt i r h2⟩
        rcases (insU_mem i r x).mp hx with rfl | hx
        · omega
        · exact h1 x hx
theorem setI_lt : ∀ l : List Int, (setI l).Pairwise (· < ·)
  | [] => .nil
  | i :: r => insU_lt i _ (setI_lt r)
theorem setI_mem : ∀ (l : List Int) (k : Int), k ∈ setI l ↔ k ∈ l
  | [], k => Iff.rfl
  | i :: r, k => by rw [setI, insU_mem, setI_mem r k, List.mem_cons]
theorem asc_one : ∀ {l m : List Int}, l.Pairwise (· < ·) → m.Pairwise (· < ·) → (∀ k, k ∈ l ↔ k ∈ m) → l = m
  | [], [], _, _, _ => rfl
  | [], b :: m, _, _, h => absurd ((h b).mpr List.mem_cons_self) (by simp)
  | a :: l, [], _, _, h => absurd ((h a).mp List.mem_cons_self) (by simp)
  | a :: l, b :: m, h1, h2, h => by
    obtain ⟨p1, p2⟩ := List.pairwise_cons.mp h1
    obtain ⟨q1, q2⟩ := List.pairwise_cons.mp h2
    have e : a = b := by
      rcases List.mem_cons.mp ((h a).mp List.mem_cons_self) with e | e
      · exact e
      · rcases List.mem_cons.mp ((h b).mpr List.mem_cons_self) with f | f
        · exact f.symm
        · have := p1 b f; have := q1 a e; omega
    subst e
    rw [asc_one p2 q2 fun k => ?_]
    constructor
    · intro z
      rcases List.mem_cons.mp ((h k).mp (List.mem_cons_of_mem _ z)) with e | e
      · have := p1 k z; omega
      · exact e
    · intro z
      rcases List.mem_cons.mp ((h k).mpr (List.mem_cons_of_mem _ z)) with e | e
      · have := q1 k z; omega
      · exact e
def rSortSet (K : PySem.W.Frag) : V → Hp → VK → Prop := fun x H1 Q => ∃ (l : Addr) (ns : List Int), x = V.ref l ∧ SqL K H1 l (ns.map V.int) ∧ ns.length < 64 ∧
  ∀ (ms : List Int) (p : Addr), ms.Pairwise (· < ·) → (∀ k : Int, k ∈ ms ↔ k ∈ ns) → H1 p = none → Q (.ref p) (upd H1 p (.lst (ms.map V.int)))
theorem s_sortSet : Op1 F oSortSet (rSortSet F.K) := by
  intro ρ h H σ x v Q rh rx p
  cases rx <;> first | exact False.elim p | skip
  case loc a ha =>
    unfold oSortSet at p
    dsimp only at p
    cases g : listAt h a with
    | none => rw [g] at p; exact p.elim
    | some ws =>
      rw [g] at p
      dsimp only at p
      obtain ⟨vs, s, r, _⟩ := rh.list g
      cases q : mapO asI ws with
      | none => rw [q] at p; exact p.elim
      | some ns =>
        rw [q] at p
        obtain ⟨hl, p⟩ := need_inv p
        have e := asI_ok r q
        subst e
        refine ⟨_, ns, rfl, s, Nat.le_of_ble_eq_true hl, fun ms q hs hm hq => ?_⟩
        rw [asc_one hs (setI_lt ns) fun k => (hm k).trans (setI_mem ns k).symm]
        exact post_lst rh (rvs_ints _) p q hq
theorem minL_mem : ∀ (l : List Int) (i : Int), minL i l = i ∨ minL i l ∈ l
  | [], i => .inl rfl
  | j :: r, i => by
    unfold minL
    rcases minL_mem r (if j < i then j else i) with h | h
    · rw [h]
      by_cases q : j < i
      · rw [if_pos q]; exact .inr List.mem_cons_self
      · rw [if_neg q]; exact .inl rfl
    · exact .inr (List.mem_cons_of_mem _ h)
theorem minL_le : ∀ (l : List Int) (i : Int), minL i l ≤ i ∧ ∀ y ∈ l, minL i l ≤ y
  | [], i => ⟨Int.le_refl _, fun _ h => absurd h (by simp)⟩
  | j :: r, i => by
    unfold minL
    obtain ⟨h1, h2⟩ := minL_le r (if j < i then j else i)
    have : (if j < i then j else i) ≤ i ∧ (if j < i then j else i) ≤ j := by
      by_cases q : j < i
      · rw [if_pos q]; omega
      · rw [if_neg q]; omega
    refine ⟨by omega, fun y hy => ?_⟩
    rcases List.mem_cons.mp hy with rfl | hy
    · omega
    · exact h2 y hy
theorem maxL_mem : ∀ (l : List Int) (i : Int), maxL i l = i ∨ maxL i l ∈ l
  | [], i => .inl rfl
  | j :: r, i => by
    unfold maxL
    rcases maxL_mem r (if i < j then j else i) with h | h
    · rw [h]
      by_cases q : i < j
      · rw [if_pos q]; exact .inr List.mem_cons_self
      · rw [if_neg q]; exact .inl rfl
    · exact .inr (List.mem_cons_of_mem _ h)
theorem maxL_ge : ∀ (l : List Int) (i : Int), i ≤ maxL i l ∧ ∀ y ∈ l, y ≤ maxL i l
  | [], i => ⟨Int.le_refl _, fun _ h => absurd h (by simp)⟩
  | j :: r, i => by
    unfold maxL
    obtain ⟨h1, h2⟩ := maxL_ge r (if i < j then j else i)
    have : i ≤ (if i < j then j else i) ∧ j ≤ (if i < j then j else i) := by
      by_cases q : i < j
      · rw [if_pos q]; omega
      · rw [if_neg q]; omega
    refine ⟨by omega, fun y hy => ?_⟩
    rcases List.mem_cons.mp hy with rfl | hy
    · omega
    · exact h2 y hy
theorem s_min1 : Op1 F oMin1 (fun v H Q => rMin F.K [v] H Q) := by
  intro ρ h H σ x v Q rh rx p
  cases rx <;> first | exact False.elim p | skip
  case loc a ha =>
    unfold oMin1 at p
    dsimp only at p
    cases g : listAt h a with
    | none => rw [g] at p; exact p.elim
    | some ws =>
      rw [g] at p
      dsimp only at p
      obtain ⟨vs, s, r, _⟩ := rh.list g
      cases q : mapO asI ws with
      | none => rw [q] at p; exact p.elim
      | some bs =>
        rw [q] at p
        have e := asI_ok r q
        subst e
        cases bs with
        | nil => exact p.elim
        | cons i bs =>
          refine ⟨_, i :: bs, rfl, s, Nat.succ_pos _, fun m h1 h2 => ?_⟩
          have e : m = minL i bs := by
            obtain ⟨l1, l2⟩ := minL_le bs i
            have a1 : m ≤ minL i bs := by
              rcases minL_mem bs i with z | z
              · rw [z]; exact h2 i List.mem_cons_self
              · exact h2 _ (List.mem_cons_of_mem _ z)
            have a2 : minL i bs ≤ m := by
              rcases List.mem_cons.mp h1 with z | z
              · omega
              · exact l2 m z
            omega
          rw [e]
          exact post_same rh p .int
theorem s_max1 : Op1 F oMax1 (fun v H Q => rMax F.K [v] H Q) := by
  intro ρ h H σ x v Q rh rx p
  cases rx <;> first | exact False.elim p | skip
  case loc a ha =>
    unfold oMax1 at p
    dsimp only at p
    cases g : listAt h a with
    | none => rw [g] at p; exact p.elim
    | some ws =>
      rw [g] at p
      dsimp only at p
      obtain ⟨vs, s, r, _⟩ := rh.list g
      cases q : mapO asI ws with
      | none => rw [q] at p; exact p.elim
      | some bs =>
        rw [q] at p
        have e := asI_ok r q
        subst e
        cases bs with
        | nil => exact p.elim
        | cons i bs =>
          refine ⟨_, i :: bs, rfl, s, Nat.succ_pos _, fun m h1 h2 => ?_⟩
          have e : m = maxL i bs := by
            obtain ⟨l1, l2⟩ := maxL_ge bs i
            have a1 : maxL i bs ≤ m := by
              rcases maxL_mem bs i with z | z
              · rw [z]; exact h2 i List.mem_cons_self
              · exact h2 _ (List.mem_cons_of_mem _ z)
            have a2 : m ≤ maxL i bs := by
              rcases List.mem_cons.mp h1 with z | z
              · omega
              · exact l2 m z
            omega
          rw [e]
          exact post_same rh p .int
theorem s_kMin : OpN F kMin (fun vs H Q => rMin F.K vs H Q ∨ ∃ i j, vs = [.int i, .int j] ∧ Q (.int (if j < i then j else i)) H) := by
  intro ρ h H σ ws vs Q rh rv p
  match ws, rv, p with
  | [], _, p => exact False.elim p
  | [w], rv, p =>
    obtain ⟨v, rfl, q⟩ := rvs1 rv
    exact .inl (s_min1 ρ h H σ w v Q rh q p)
  | [w, x], rv, p =>
    obtain ⟨v, u, rfl, q1, q2⟩ := rvs2 rv
    exact .inr (s_min2 ρ h H σ w x v u Q rh q1 q2 p)
  | _ :: _ :: _ :: _, _, p => exact False.elim p
theorem s_int : Op1 F oInt (fun v H Q => (∃ i, [v] = [.int i] ∧ Q (.int i) H) ∨ ∃ k, [v] = [.bl k] ∧ Q (.int (if k then 1 else 0)) H) := by
  intro ρ h H σ x v Q rh rx p
  cases rx <;> first | exact False.elim p | skip
  · exact .inr ⟨_, rfl, post_same rh p .int⟩
  · exact .inl ⟨_, rfl, post_same rh p .int⟩

/-! ### methods -/
theorem m_append : OpM F mAppend rAppend := by
  intro ρ h H σ w ws v vs Q rh rw_ rv p
  cases rw_ <;> first | exact False.elim p | skip
  case loc a ha =>
    match ws, rv, p with
    | [], _, p => exact False.elim p
    | _ :: _ :: _, _, p => exact False.elim p
    | [w], rv, p =>
      obtain ⟨y, rfl, q⟩ := rvs1 rv
      have p' : Post F (RV F.K) σ ρ h.n H (match h.get a with
        | some (.lst ws) => .need (Nat.blt ws.length 16777216) (.ok .non (h.set a (.lst (ws ++ [w]))))
        | _ => .stuck) Q := p
      clear p
      cases ga : h.get a with
      | none => rw [ga] at p'; exact p'.elim
      | some c =>
        rw [ga] at p'
        cases c with
        | lst us =>
          obtain ⟨hl, p'⟩ := need_inv p'
          obtain ⟨xs, e1, r⟩ := rh.lst ga
          have hl' : us.length < 16777216 := Nat.le_of_ble_eq_true hl
          refine ⟨_, xs, y, rfl, rfl, e1, by rw [← r.length, sizeLine_eq]; exact hl', ?_⟩
          exact post_setL rh ga e1 (r.append (.cons q .nil)) p' fun _ _ _ _ => .non
        | dk _ => exact p'.elim
        | dz _ => exact p'.elim
        | ins _ _ => exact p'.elim
        | err _ => exact p'.elim
theorem m_pop0 : OpM F mPop0 rPop := by
  intro ρ h H σ w ws v vs Q rh rw_ rv p
  cases rw_ <;> first | exact False.elim p | skip
  case loc a ha =>
    match ws, rv, p with
    | _ :: _, _, p => exact False.elim p
    | [], rv, p =>
      cases rv
      have p' : Post F (RV F.K) σ ρ h.n H (match h.get a with
        | some (.lst ws) => (match ws[ws.length - 1]? with
          | some w => .ok w (h.set a (.lst ws.dropLast))
          | none => .stuck)
        | _ => .stuck) Q := p
      clear p
      cases ga : h.get a with
      | none => rw [ga] at p'; exact p'.elim
      | some c =>
        rw [ga] at p'
        cases c with
        | lst us =>
          dsimp only at p'
          obtain ⟨xs, e1, r⟩ := rh.lst ga
          cases q : us[us.length - 1]? with
          | none => rw [q] at p'; exact p'.elim
          | some w =>
            rw [q] at p'
            obtain ⟨y, e2, q2⟩ := r.get q
            refine ⟨_, xs, y, rfl, rfl, e1, by rw [← r.length]; exact e2, ?_⟩
            exact post_setL rh ga e1 r.dropLast p' fun _ _ _ x => x.rv q2
        | dk _ => exact p'.elim
        | dz _ => exact p'.elim
        | ins _ _ => exact p'.elim
        | err _ => exact p'.elim
theorem m_pop1 : OpM F mPop1 rPopAt := by
  intro ρ h H σ w ws v vs Q rh rw_ rv p
  cases rw_ <;> first | exact False.elim p | skip
  case loc a ha =>
    match ws, rv, p with
    | [], _, p => exact False.elim p
    | _ :: _ :: _, rv, p =>
      cases rv with
      | cons b _ => cases b <;> exact False.elim p
    | [w], rv, p =>
      obtain ⟨y, rfl, q⟩ := rvs1 rv
      cases q <;> first | exact False.elim p | skip
      case int i _ =>
        have p' : Post F (RV F.K) σ ρ h.n H (match h.get a with
          | some (.lst ws) => (match ixN ws.length i with
            | some k => (match ws[k]? with
              | some w => .need (small i) (.ok w (h.set a (.lst (ws.eraseIdx k))))
              | none => .stuck)
            | none => .stuck)
          | _ => .stuck) Q := p
        clear p
        cases ga : h.get a with
        | none => rw [ga] at p'; exact p'.elim
        | some c =>
          rw [ga] at p'
          cases c with
          | lst us =>
            dsimp only at p'
            obtain ⟨xs, e1, r⟩ := rh.lst ga
            cases q : ixN us.length i with
            | none => rw [q] at p'; exact p'.elim
            | some k =>
              rw [q] at p'
              dsimp only at p'
              cases q3 : us[k]? with
              | none => rw [q3] at p'; exact p'.elim
              | some w =>
                rw [q3] at p'
                obtain ⟨y, e2, q2⟩ := r.get q3
                obtain ⟨s1, s2, s3, s4⟩ := ixN_seq q
                obtain ⟨sz, p'⟩ := need_inv p'
                simp only [small, Bool.and_eq_true, decide_eq_true_eq] at sz
                refine ⟨_, xs, i, k, y, rfl, rfl, e1, by omega, by omega, by rw [← r.length]; exact s1, e2, ?_⟩
                exact post_setL rh ga e1 (r.eraseIdx k) p' fun _ _ _ x => x.rv q2
          | dk _ => exact p'.elim
          | dz _ => exact p'.elim
          | ins _ _ => exact p'.elim
          | err _ => exact p'.elim
theorem m_insert : OpM F mInsert (fun x vs H Q => ∃ (l : Addr) (xs : List V) (i : Int) (y : V), x = .ref l ∧ vs = [.int i, y] ∧ H l = some (.lst xs) ∧ xs.length < sizeLine ∧ 0 ≤ i ∧ i < 2 ^ 63 ∧ Q .non (upd H l (.lst (xs.take i.toNat ++ [y] ++ xs.drop i.toNat)))) := by
  intro ρ h H σ w ws v vs Q rh rw_ rv p
  cases rw_ <;> first | exact False.elim p | skip
  case loc a ha =>
    match ws, rv, p with
    | [], _, p => exact False.elim p
    | [w], rv, p =>
      obtain ⟨y, rfl, q⟩ := rvs1 rv
      cases q <;> exact False.elim p
    | _ :: _ :: _ :: _, rv, p =>
      cases rv with
      | cons b _ => cases b <;> exact False.elim p
    | [i, w], rv, p =>
      obtain ⟨j, y, rfl, qi, q⟩ := rvs2 rv
      cases qi <;> first | exact False.elim p | skip
      case int i _ =>
        have p' : Post F (RV F.K) σ ρ h.n H (match h.get a with
          | some (.lst ws) => .need (Nat.blt ws.length 16777216 && decide (0 ≤ i) && decide (i < 1000000)) (.ok .non (h.set a (.lst (ws.take i.toNat ++ [w] ++ ws.drop i.toNat))))
          | _ => .stuck) Q := p
        clear p
        cases ga : h.get a with
        | none => rw [ga] at p'; exact p'.elim
        | some c =>
          rw [ga] at p'
          cases c with
          | lst us =>
            obtain ⟨hb, p'⟩ := need_inv p'
            simp only [Bool.and_eq_true, decide_eq_true_eq] at hb
            obtain ⟨⟨hl, h0⟩, h1⟩ := hb
            have hl' : us.length < 16777216 := Nat.le_of_ble_eq_true hl
            obtain ⟨xs, e1, r⟩ := rh.lst ga
            refine ⟨_, xs, i, y, rfl, rfl, e1, by rw [← r.length, sizeLine_eq]; exact hl', h0, by omega, ?_⟩
            exact post_setL rh ga e1 (((r.take _).append (.cons q .nil)).append (r.drop _)) p' fun _ _ _ _ => .non
          | dk _ => exact p'.elim
          | dz _ => exact p'.elim
          | ins _ _ => exact p'.elim
          | err _ => exact p'.elim
end
end Fw

set_option Elab.async false
set_option linter.all false
set_option maxRecDepth 100000
set_option maxHeartbeats 1000000
/-! Fw, part D: expressions, tests, targets, statements. -/
namespace Fw
open PySem L2
abbrev FX (X : Cx) (C : Nat → Addr) (We : Nat → L2.St → Hp → Prop) : Fx := ⟨X.K, C, We⟩
section
variable {X : Cx} {C : Nat → Addr} {We : Nat → L2.St → Hp → Prop} {a b c : Expr} {pos : Pos} {fa fb fc : EE} {e : Expr} {es : List Expr}
theorem c_var {i : Nat} {x : Str} (h : PE X (.Name x pos) (tVar i)) : PE X (.Name x pos) (TI (FX X C We) (eVar i)) := PEmono h fun σ H Q ⟨ρ, e, h, rh, re, p⟩ => by
  unfold eVar at p
  cases q : e[i]? with
  | none => rw [q] at p; exact p.elim
  | some o =>
    cases o with
    | none => rw [q] at p; exact p.elim
    | some w =>
      rw [q] at p
      obtain ⟨v, h1, h2⟩ := re.at_ i w q
      exact ⟨v, h1, post_same rh p h2⟩
theorem c_C {w : W} {v : V} (h : PE X e (tC v)) (hv : ∀ ρ n H, RV X.K ρ n H w v) : PE X e (TI (FX X C We) (eC w)) := PEmono h fun σ H Q ⟨ρ, e, h, rh, re, p⟩ => post_same rh p (hv _ _ _)
theorem c_e2 {k : W → W → IH → Rs W} {r : R2} (h : PE X e (tOp r (TI (FX X C We) fa) (TI (FX X C We) fb))) (hk : Op2 (FX X C We) k r) : PE X e (TI (FX X C We) (e2 k fa fb)) := PEmono h fun σ H Q ⟨ρ, e, h, rh, re, p⟩ =>
  TG_.bind (k := fun x h => (fb e h).bind fun y h => k x y h) rh re p fun ρ1 x h1 v H1 rh1 re1 x1 rv p1 =>
    TG_.bind (k := fun y h => k x y h) rh1 re1 p1 fun ρ2 y h2 u H2 rh2 re2 x2 ru p2 => hk ρ2 h2 H2 σ x y v u Q rh2 (x2.rv rv) ru p2
theorem c_e1 {k : W → IH → Rs W} {r : V → Hp → VK → Prop} (h : PE X e (tUn r (TI (FX X C We) fa))) (hk : Op1 (FX X C We) k r) : PE X e (TI (FX X C We) (e1 k fa)) := PEmono h fun σ H Q ⟨ρ, e, h, rh, re, p⟩ =>
  TG_.bind (k := k) rh re p fun ρ1 x h1 v H1 rh1 re1 x1 rv p1 => hk ρ1 h1 H1 σ x v Q rh1 rv p1
/-- two ways for one expression, by what is asked last -/
theorem c_e2or {k : W → W → IH → Rs W} {r : R2} {t t' : L2.TE} (h1 : PE X e t) (h2 : PE X e t')
    (hk : ∀ σ H Q ρ (en : Env) h, RH X.K C ρ h H → REnv X.K ρ h.n H en σ → Post (FX X C We) (RV X.K) σ ρ h.n H (e2 k fa fb en h) Q → t σ H Q ∨ t' σ H Q) : PE X e (TI (FX X C We) (e2 k fa fb)) :=
  PEmono (PEor h1 h2) fun σ H Q ⟨ρ, e, h, rh, re, p⟩ => hk σ H Q ρ e h rh re p
/-! ### arguments -/
theorem a_nil : PA X [] (TIA (FX X C We) aNil) := ⟨fun pos pins s σ H Q I ⟨ρ, e, h, rh, re, p⟩ => pa_nil.run pos pins s σ H Q I (post_same rh p .nil)⟩
theorem a_cons {f : EE} {g : EA} (ha : PE X e (TI (FX X C We) f)) (hr : PA X es (TIA (FX X C We) g)) (hs : starEach (e :: es) X.env = (false, eval e X.env) :: starEach es X.env) : PA X (e :: es) (TIA (FX X C We) (aCons f g)) :=
  ⟨fun pos pins s σ H Q I ⟨ρ, e, h, rh, re, p⟩ => (pa_cons ha hr hs).run pos pins s σ H Q I
    (TG_.bind (k := fun w h => (g e h).bind fun ws h => .ok (w :: ws) h) rh re p fun ρ1 x h1 v H1 rh1 re1 x1 rv p1 =>
      TG_.bind (RA := RVs X.K) (k := fun ws h => .ok (x :: ws) h) rh1 re1 p1 fun ρ2 ws h2 vs H2 rh2 re2 x2 rvs p2 => post_same rh2 p2 (.cons (x2.rv rv) rvs))⟩
theorem isLst_ok {F : Fx} {ρ : Nat → Addr} {h : IH} {H : Hp} {x : W} {v : V} (rh : RH F.K F.C ρ h H) (rv : RV F.K ρ h.n H x v) (q : isLst x h = true) : ∃ p vs, v = .ref p ∧ H p = some (.lst vs) := by
  cases rv <;> first | (cases q; done) | skip
  case loc a ha =>
    have q' : (match h.get a with
      | some (.lst _) => true
      | _ => false) = true := q
    cases ga : h.get a with
    | none => rw [ga] at q'; cases q'
    | some c =>
      rw [ga] at q'
      cases c with
      | lst ws => obtain ⟨vs, e1, _⟩ := rh.lst ga; exact ⟨_, vs, rfl, e1⟩
      | dk _ => cases q'
      | dz _ => cases q'
      | ins _ _ => cases q'
      | err _ => cases q'
theorem isDk_ok {F : Fx} {ρ : Nat → Addr} {h : IH} {H : Hp} {x : W} {v : V} (rh : RH F.K F.C ρ h H) (rv : RV F.K ρ h.n H x v) (q : isDk x h = true) : ∃ p vs, v = .ref p ∧ H p = some (.dK vs) := by
  cases rv <;> first | (cases q; done) | skip
  case loc a ha =>
    have q' : (match h.get a with
      | some (.dk _) => true
      | _ => false) = true := q
    cases ga : h.get a with
    | none => rw [ga] at q'; cases q'
    | some c =>
      rw [ga] at q'
      cases c with
      | lst ws => cases q'
      | dk _ => obtain ⟨vs, e1, _⟩ := rh.dk ga; exact ⟨_, vs, rfl, e1⟩
      | dz _ => cases q'
      | ins _ _ => cases q'
      | err _ => cases q'
theorem c_tup {g : EA} {kk : Nat} (h : PA X es (TIA (FX X C We) g)) : PE X (.Tuple es kk pos) (TI (FX X C We) (eTup g)) := PEmono (pe_tup h) fun σ H Q ⟨ρ, e, h, rh, re, p⟩ =>
  TG_.bind (RA := RVs X.K) (RB := RV X.K) (k := fun ws h => .need (lenOk ws.length) (.ok (W.tup ws) h)) rh re p fun ρ1 ws h1 vs H1 rh1 re1 x1 rv p1 => by
    obtain ⟨q, p1⟩ := need_inv p1
    exact ⟨by rw [← rv.length]; exact line_of q, post_tup rh1 rv p1⟩
theorem c_lst {g : EA} (h : PA X es (TIA (FX X C We) g)) : PE X (.List es pos) (TI (FX X C We) (eLst g)) := PEmono (pe_lst h) fun σ H Q ⟨ρ, e, h, rh, re, p⟩ =>
  TG_.bind (RA := RVs X.K) (RB := RV X.K) (k := fun ws h => .need (lenOk ws.length) (.ok (W.loc h.n) (h.new (.lst ws)))) rh re p fun ρ1 ws h1 vs H1 rh1 re1 x1 rv p1 => by
    obtain ⟨q, p1⟩ := need_inv p1
    exact ⟨by rw [← rv.length]; exact line_of q, post_lst rh1 rv p1⟩
/-- a built-in's call -/
theorem c_eA {k : List W → IH → Rs W} {r : List V → Hp → VK → Prop} {g : EA} (h : PE X e (tCB r (TIA (FX X C We) g))) (hk : OpN (FX X C We) k r) : PE X e (TI (FX X C We) (eA k g)) := PEmono h fun σ H Q ⟨ρ, e, h, rh, re, p⟩ =>
  TG_.bind (RA := RVs X.K) (k := k) rh re p fun ρ1 ws h1 vs H1 rh1 re1 x1 rv p1 => hk ρ1 h1 H1 σ ws vs Q rh1 rv p1
/-- a method of a list -/
theorem c_mtL {k : List W → IH → Rs W} {r : V → List V → Hp → VK → Prop} {g : EA} (h : PE X e (tBM X.K "list" r (TI (FX X C We) fa) (TIA (FX X C We) g))) (hk : OpM (FX X C We) k r) : PE X e (TI (FX X C We) (eMt isLst k fa g)) := PEmono h fun σ H Q ⟨ρ, e, h, rh, re, p⟩ =>
  TG_.bind (k := fun x h => .need (isLst x h) ((g e h).bind fun ws h => k (x :: ws) h)) rh re p fun ρ1 x h1 v H1 rh1 re1 x1 rv p1 => by
    obtain ⟨q, p1⟩ := need_inv p1
    refine ⟨?_, TG_.bind (RA := RVs X.K) (k := fun ws h => k (x :: ws) h) rh1 re1 p1 fun ρ2 ws h2 vs H2 rh2 re2 x2 rvs p2 => hk ρ2 h2 H2 σ x ws v vs Q rh2 (x2.rv rv) rvs p2⟩
    obtain ⟨a, vs, rfl, e1⟩ := isLst_ok rh1 rv q
    exact .inl ⟨rfl, vs, .inl (.inl e1)⟩
theorem c_mtL0 {k : List W → IH → Rs W} {r : V → List V → Hp → VK → Prop} (h : PE X e (tBM0 X.K "list" r (TI (FX X C We) fa))) (hk : OpM (FX X C We) k r) : PE X e (TI (FX X C We) (eMt isLst k fa aNil)) := PEmono h fun σ H Q ⟨ρ, e, h, rh, re, p⟩ =>
  TG_.bind (k := fun x h => .need (isLst x h) ((aNil e h).bind fun ws h => k (x :: ws) h)) rh re p fun ρ1 x h1 v H1 rh1 re1 x1 rv p1 => by
    obtain ⟨q, p1⟩ := need_inv p1
    refine ⟨?_, hk ρ1 h1 H1 σ x [] v [] Q rh1 rv .nil p1⟩
    obtain ⟨a, vs, rfl, e1⟩ := isLst_ok rh1 rv q
    exact .inl ⟨rfl, vs, .inl (.inl e1)⟩
/-! ### subscripts, slices, in -/
def rDG : R2 := fun x y H Q => ∃ a v, x = .ref a ∧ DGet H a y (some v) ∧ Q v H
theorem ix_dict (hu : X.A.units + 1 < cLine) : IxR X rDG := by
  intro value slice pins s σ H x y v u Q I rx ry h hs
  obtain ⟨a, w, rfl, g, q⟩ := h
  obtain rfl : v = Value.ref a := rx
  exact PyProof.Rows.tail_any (dict_typeIs I g) PySem.F.slot_dict_getitem.lookup (d_getItem hu I g ry fun w' s3 I3 rw' => ⟨w, H, I3, rw', q⟩) hs
def rDI : R2 := fun x y H Q => ∃ a o, y = .ref a ∧ DGet H a x o ∧ Q (.bl o.isSome) H
def rDNI : R2 := fun x y H Q => ∃ a o, y = .ref a ∧ DGet H a x o ∧ Q (.bl (!o.isSome)) H
theorem op_inDict (hu : X.A.units + 1 < cLine) : OpR X (compareOp .In) rDI := by
  intro pins s σ H x y v u Q I rx ry h
  obtain ⟨a, o, rfl, g, q⟩ := h
  obtain rfl : u = Value.ref a := ry
  exact d_in hu I g rx fun s3 I3 => ⟨.bl o.isSome, H, I3, rfl, q⟩
theorem op_ninDict (hu : X.A.units + 1 < cLine) : OpR X (compareOp .NotIn) rDNI := by
  intro pins s σ H x y v u Q I rx ry h
  obtain ⟨a, o, rfl, g, q⟩ := h
  obtain rfl : u = Value.ref a := ry
  exact d_notIn hu I g rx fun s3 I3 => ⟨.bl (!o.isSome), H, I3, rfl, q⟩
theorem c_ix (hb : PlainIx b) (hu : X.A.units + 1 < cLine) (ha : PE X a (TI (FX X C We) fa)) (hi : PE X b (TI (FX X C We) fb)) : PE X (.Subscript a b pos) (TI (FX X C We) (e2 oIx fa fb)) :=
  c_e2 (pe_ix (IxR.or ix_seq (ix_dict hu)) ha hi hb) s_ix
theorem c_in (hm : behindInMarks .In b = false) (hu : X.A.units + 65 < cLine) (ha : PE X a (TI (FX X C We) fa)) (hi : PE X b (TI (FX X C We) fb)) : PE X (.Compare a [.In] [b] pos) (TI (FX X C We) (e2 oIn fa fb)) :=
  c_e2 (pe_cmpR (OpR.or (OpR.or op_in_seq (op_inD hu)) (op_inDict (by omega))) ha hi hm) s_in
theorem c_nin (hm : behindInMarks .NotIn b = false) (hu : X.A.units + 65 < cLine) (ha : PE X a (TI (FX X C We) fa)) (hi : PE X b (TI (FX X C We) fb)) : PE X (.Compare a [.NotIn] [b] pos) (TI (FX X C We) (e2 oNotIn fa fb)) :=
  c_e2 (pe_cmpR (OpR.or (OpR.or op_notIn_seq (op_notInD hu)) (op_ninDict (by omega))) ha hi hm) s_notin
/-! ### slices -/
def TIO (F : Fx) (f : EO) : L2.TO := TG_ F (fun _ _ _ a b => a = b) f
theorem o_none : PO X none (TIO (FX X C We) pNone) := ⟨fun pins s σ H Q I ⟨ρ, e, h, rh, re, p⟩ => po_none.run pins s σ H Q I (post_same rh p rfl)⟩
theorem o_some (ha : PE X a (TI (FX X C We) fa)) : PO X (some a) (TIO (FX X C We) (pSome fa)) := ⟨fun pins s σ H Q I ⟨ρ, e, h, rh, re, p⟩ => (po_some ha).run pins s σ H Q I
  (TG_.bind (RB := fun _ _ _ a b => a = b) (k := fun w h => match w with
    | .int i => .ok (some i) h
    | _ => .stuck) rh re p fun ρ1 x h1 v H1 rh1 re1 x1 rv p1 => by
      cases rv <;> first | exact False.elim p1 | skip
      exact ⟨_, rfl, post_same rh1 p1 rfl⟩)⟩
theorem c_sl {lo hi : Option Expr} {gl gh : EO} {p2 : Pos} (ha : PE X a (TI (FX X C We) fa)) (hl : PO X lo (TIO (FX X C We) gl)) (hh : PO X hi (TIO (FX X C We) gh)) : PE X (.Subscript a (.Slice lo hi none p2) pos) (TI (FX X C We) (eSl fa gl gh)) :=
  PEmono (pe_slice (SlR.or sl_list sl_tupA) ha hl hh) fun σ H Q ⟨ρ, e, h, rh, re, p⟩ =>
    TG_.bind (k := fun w h => (gl e h).bind fun l h => (gh e h).bind fun u h => oSl l u w h) rh re p fun ρ1 x h1 v H1 rh1 re1 x1 rv p1 =>
      TG_.bind (RA := fun _ _ _ a b => a = b) (k := fun l h => (gh e h).bind fun u h => oSl l u x h) rh1 re1 p1 fun ρ2 l h2 l' H2 rh2 re2 x2 el p2 => by
        subst el
        exact TG_.bind (RA := fun _ _ _ a b => a = b) (k := fun u h => oSl l u x h) rh2 re2 p2 fun ρ3 u h3 u' H3 rh3 re3 x3 eu p3 => by
          subst eu
          exact s_sl rh3 ((x2.trans x3).rv rv) p3
/-! ### tests and truth -/
theorem tru_w {F : Fx} {ρ : Nat → Addr} {h : IH} {H : Hp} {σ : L2.St} {w : W} {v : V} {Q : Bool → Hp → Prop} (rh : RH F.K F.C ρ h H) (rv : RV F.K ρ h.n H w v) (p : Post F (fun _ _ _ a b => a = b) σ ρ h.n H (truW w h) Q) : ∃ k, TruV F.K v H k ∧ Q k H := by
  cases rv <;> first | exact False.elim p | skip
  · exact ⟨false, rfl, post_same rh p rfl⟩
  · exact ⟨_, rfl, post_same rh p rfl⟩
  · exact ⟨_, rfl, post_same rh p rfl⟩
  case tup ws a vs s1 r1 =>
    refine ⟨!vs.isEmpty, .inr (.inl ⟨vs, s1, rfl⟩), post_same rh p ?_⟩
    cases r1 <;> rfl
  case loc a ha =>
    have p' : Post F (fun _ _ _ a b => a = b) σ ρ h.n H (match h.get a with
      | some (.lst ws) => .ok (!ws.isEmpty) h
      | some (.dk kvs) => .ok (!kvs.isEmpty) h
      | _ => .stuck) Q := p
    clear p
    cases ga : h.get a with
    | none => rw [ga] at p'; exact p'.elim
    | some c =>
      rw [ga] at p'
      cases c with
      | lst ws =>
        obtain ⟨vs, s, r, _⟩ := rh.list (show listAt h a = some ws by unfold listAt; rw [ga])
        refine ⟨!vs.isEmpty, .inl ⟨vs, s, rfl⟩, post_same rh p' ?_⟩
        cases r <;> rfl
      | dk kvs =>
        obtain ⟨es, e1, r⟩ := rh.dk ga
        refine ⟨!es.isEmpty, .inr (.inr ⟨es, e1, rfl⟩), post_same rh p' ?_⟩
        cases r <;> rfl
      | dz _ => exact p'.elim
      | ins _ _ => exact p'.elim
      | err _ => exact p'.elim
theorem t_tru (ha : PE X a (TI (FX X C We) fa)) (he : ∀ whole, isTrue a X.env whole = (do let v ← whole; standAt a.pos; holding [v] (truthy v))) : PT X a (TIT (FX X C We) (tTru fa)) :=
  PTmono (pt_truth ha he) fun σ H Q ⟨ρ, e, h, rh, re, p⟩ => TG_.bind (k := truW) rh re p fun ρ1 x h1 v H1 rh1 re1 x1 rv p1 => tru_w rh1 rv p1
theorem t_cmp {op : CmpOp} {k : W → W → IH → Rs W} {r : R2} (ho : OpR X (compareOp op) r) (hk : Op2 (FX X C We) k r) (hm : behindInMarks op b = false) (ha : PE X a (TI (FX X C We) fa)) (hb : PE X b (TI (FX X C We) fb)) : PT X (.Compare a [op] [b] pos) (TIT (FX X C We) (tBol (e2 k fa fb))) :=
  PTmono (pt_cmpR ho ha hb hm) fun σ H Q ⟨ρ, e, h, rh, re, p⟩ => by
    have p0 : Post (FX X C We) (fun _ _ _ a b => a = b) σ ρ h.n H ((fa e h).bind fun x h => ((fb e h).bind fun y h => k x y h).bind bolW) Q := by
      have z : tBol (e2 k fa fb) e h = (fa e h).bind fun x h => ((fb e h).bind fun y h => k x y h).bind bolW := by
        show ((fa e h).bind _).bind bolW = _
        cases fa e h <;> rfl
      rw [z] at p; exact p
    refine TG_.bind rh re p0 fun ρ1 x h1 v H1 rh1 re1 x1 rv p1 => ?_
    have z : ((fb e h1).bind fun y h => k x y h).bind bolW = (fb e h1).bind fun y h => (k x y h).bind bolW := by cases fb e h1 <;> rfl
    rw [z] at p1
    refine TG_.bind (k := fun y h => (k x y h).bind bolW) rh1 re1 p1 fun ρ2 y h2 u H2 rh2 re2 x2 ru p2 => ?_
    refine hk ρ2 h2 H2 σ x y v u _ rh2 (x2.rv rv) ru ?_
    cases q : k x y h2 with
    | stuck => rw [q] at p2; exact p2.elim
    | exc c h3 => rw [q] at p2; exact p2
    | ok w h3 =>
      rw [q] at p2
      intro ρ3 v3 H3 x3 rh3 rv3
      have p3 := Post.shift x3 p2
      have p4 : Post (FX X C We) (fun _ _ _ a b => a = b) σ ρ3 h3.n H3 (bolW w h3) Q := p3
      cases rv3 <;> first | exact False.elim p4 | skip
      exact ⟨_, rfl, post_same rh3 p4 rfl⟩
theorem t_not {t : ET} (ha : PT X a (TIT (FX X C We) t)) : PT X (.UnaryOp .Not a pos) (TIT (FX X C We) (tNot t)) :=
  PTmono (pt_not ha) fun σ H Q ⟨ρ, e, h, rh, re, p⟩ => TG_.bind (RA := fun _ _ _ a b => a = b) (k := fun b h => .ok (!b) h) rh re p fun ρ1 x h1 v H1 rh1 re1 x1 ev p1 => by
    subst ev; exact post_same rh1 p1 rfl
theorem PWmono {e : Expr} {t t' : TT} (h : PW X e t) (k : ∀ σ H Q, t' σ H Q → t σ H Q) : PW X e t' := ⟨fun whole pins s σ H Q I q => h.run whole pins s σ H Q I (k σ H Q q)⟩
theorem t_and1 {t : ET} (ha : PT X a (TIT (FX X C We) t)) : PW X (.BoolOp .And [a] pos) (TIT (FX X C We) t) := pw_and1 ha
theorem t_or1 {t : ET} (ha : PT X a (TIT (FX X C We) t)) : PW X (.BoolOp .Or [a] pos) (TIT (FX X C We) t) := pw_or1 ha
theorem t_and {t u : ET} (ha : PT X a (TIT (FX X C We) t)) (hb : PW X (.BoolOp .And (b :: es) pos) (TIT (FX X C We) u)) : PW X (.BoolOp .And (a :: b :: es) pos) (TIT (FX X C We) (tAnd t u)) :=
  PWmono (pw_and ha hb) fun σ H Q ⟨ρ, e, h, rh, re, p⟩ => TG_.bind (RA := fun _ _ _ a b => a = b) (k := fun b h => match b with
    | true => u e h
    | false => .ok false h) rh re p fun ρ1 x h1 v H1 rh1 re1 x1 ev p1 => by
      subst ev
      cases x with
      | true => rw [if_pos rfl]; exact ⟨ρ1, e, h1, rh1, re1, p1⟩
      | false => rw [if_neg (by decide)]; exact post_same rh1 p1 rfl
theorem t_or {t u : ET} (ha : PT X a (TIT (FX X C We) t)) (hb : PW X (.BoolOp .Or (b :: es) pos) (TIT (FX X C We) u)) : PW X (.BoolOp .Or (a :: b :: es) pos) (TIT (FX X C We) (tOr t u)) :=
  PWmono (pw_or ha hb) fun σ H Q ⟨ρ, e, h, rh, re, p⟩ => TG_.bind (RA := fun _ _ _ a b => a = b) (k := fun b h => match b with
    | true => .ok true h
    | false => u e h) rh re p fun ρ1 x h1 v H1 rh1 re1 x1 ev p1 => by
      subst ev
      cases x with
      | true => rw [if_pos rfl]; exact post_same rh1 p1 rfl
      | false => rw [if_neg (by decide)]; exact ⟨ρ1, e, h1, rh1, re1, p1⟩
theorem c_not (ha : PE X a (TI (FX X C We) fa)) : PE X (.UnaryOp .Not a pos) (TI (FX X C We) (eNot fa)) :=
  PEmono (pe_not ha) fun σ H Q ⟨ρ, e, h, rh, re, p⟩ => TG_.bind (k := (fun w h => match w with
    | .bl b => .ok (.bl !b) h
    | _ => .stuck : W → IH → Rs W)) rh re p fun ρ1 x h1 v H1 rh1 re1 x1 rv p1 => by
      cases rv <;> first | exact False.elim p1 | skip
      exact ⟨_, rfl, post_same rh1 p1 .bl⟩
theorem c_and1 (ha : PE X a (TI (FX X C We) fa)) : PE X (.BoolOp .And [a] pos) (TI (FX X C We) fa) := pe_one ha
theorem c_or1 (ha : PE X a (TI (FX X C We) fa)) : PE X (.BoolOp .Or [a] pos) (TI (FX X C We) fa) := pe_one ha
theorem c_and (ha : PE X a (TI (FX X C We) fa)) (hb : PE X (.BoolOp .And (b :: es) pos) (TI (FX X C We) fb)) : PE X (.BoolOp .And (a :: b :: es) pos) (TI (FX X C We) (eAnd fa fb)) :=
  PEmono (pe_and ha hb) fun σ H Q ⟨ρ, e, h, rh, re, p⟩ => TG_.bind (k := fun w h => match w with
    | .bl true => fb e h
    | .bl false => .ok (.bl false) h
    | _ => .stuck) rh re p fun ρ1 x h1 v H1 rh1 re1 x1 rv p1 => by
      cases rv <;> first | exact False.elim p1 | skip
      case bl k =>
        refine ⟨k, rfl, ?_⟩
        cases k with
        | true => rw [if_pos rfl]; exact ⟨ρ1, e, h1, rh1, re1, p1⟩
        | false => rw [if_neg (by decide)]; exact post_same rh1 p1 .bl
theorem c_or (ha : PE X a (TI (FX X C We) fa)) (hb : PE X (.BoolOp .Or (b :: es) pos) (TI (FX X C We) fb)) : PE X (.BoolOp .Or (a :: b :: es) pos) (TI (FX X C We) (eOr fa fb)) :=
  PEmono (pe_or ha hb) fun σ H Q ⟨ρ, e, h, rh, re, p⟩ => TG_.bind (k := fun w h => match w with
    | .bl true => .ok (.bl true) h
    | .bl false => fb e h
    | _ => .stuck) rh re p fun ρ1 x h1 v H1 rh1 re1 x1 rv p1 => by
      cases rv <;> first | exact False.elim p1 | skip
      case bl k =>
        refine ⟨k, rfl, ?_⟩
        cases k with
        | true => rw [if_pos rfl]; exact post_same rh1 p1 .bl
        | false => rw [if_neg (by decide)]; exact ⟨ρ1, e, h1, rh1, re1, p1⟩
theorem c_if {t : ET} (ht : PT X c (TIT (FX X C We) t)) (ha : PE X a (TI (FX X C We) fa)) (hb : PE X b (TI (FX X C We) fb)) : PE X (.IfExp c a b pos) (TI (FX X C We) (eIf t fa fb)) :=
  PEmono (pe_ifExp ht ha hb) fun σ H Q ⟨ρ, e, h, rh, re, p⟩ => TG_.bind (RA := fun _ _ _ a b => a = b) (k := (fun b h => match b with
    | true => fa e h
    | false => fb e h : Bool → IH → Rs W)) rh re p fun ρ1 x h1 v H1 rh1 re1 x1 ev p1 => by
      subst ev
      cases x with
      | true => rw [if_pos rfl]; exact ⟨ρ1, e, h1, rh1, re1, p1⟩
      | false => rw [if_neg (by decide)]; exact ⟨ρ1, e, h1, rh1, re1, p1⟩
theorem chain_imp {k k' : W → W → IH → Rs W} {r r' : R2} {σ : L2.St} {H : Hp} {Q : VK} (hk : Op2 (FX X C We) k r) (hk' : Op2 (FX X C We) k' r') : TI (FX X C We) (eChain k k' fa fb fc) σ H Q → tChain r r' (TI (FX X C We) fa) (TI (FX X C We) fb) (TI (FX X C We) fc) σ H Q :=
  fun ⟨ρ, en, h, rh, re, p⟩ =>
    TG_.bind (k := fun x h => (fb en h).bind fun y h => (k x y h).bind fun z h => match z with
      | .bl true => (fc en h).bind fun w h => k' y w h
      | .bl false => .ok (.bl false) h
      | _ => .stuck) rh re p fun ρ1 x h1 v H1 rh1 re1 x1 rv p1 =>
      TG_.bind (k := fun y h => (k x y h).bind fun z h => match z with
        | .bl true => (fc en h).bind fun w h => k' y w h
        | .bl false => .ok (.bl false) h
        | _ => .stuck) rh1 re1 p1 fun ρ2 y h2 u H2 rh2 re2 x2 ru p2 => by
        refine hk ρ2 h2 H2 σ x y v u _ rh2 (x2.rv rv) ru ?_
        cases q : k x y h2 with
        | stuck => rw [q] at p2; exact p2.elim
        | exc c h3 => rw [q] at p2; exact p2
        | ok w h3 =>
          rw [q] at p2
          intro ρ3 v3 H3 x3 rh3 rv3
          have p3 := Post.shift x3 p2
          cases rv3 <;> first | exact False.elim p3 | skip
          case bl b3 =>
            refine ⟨b3, rfl, ?_⟩
            cases b3 with
            | true =>
              rw [if_pos rfl]
              exact TG_.bind (k := fun w h => k' y w h) rh3 (re2.ext x3) p3 fun ρ4 w h4 u4 H4 rh4 re4 x4 ru4 p4 => hk' ρ4 h4 H4 σ y w u u4 Q rh4 ((x3.trans x4).rv ru) ru4 p4
            | false => rw [if_neg (by decide)]; exact post_same rh3 p3 .bl
end
end Fw

set_option Elab.async false
set_option linter.all false
set_option maxRecDepth 100000
set_option maxHeartbeats 1000000
/-! Fw, part E: targets, statements, loops. -/
namespace Fw
open PySem L2
/-- how a block ends, and what is wished -/
def PostS (F : Fx) (ρ : Nat → Addr) (n : Nat) (H : Hp) (r : RS) (D : Ends) : Prop := match r with
  | .nx e' h' => ∀ ρ' σ' H', Ext ρ ρ' n h'.n H H' → RH F.K F.C ρ' h' H' → REnv F.K ρ' h'.n H' e' σ' → D.nx σ' H'
  | .bk e' h' => ∀ ρ' σ' H', Ext ρ ρ' n h'.n H H' → RH F.K F.C ρ' h' H' → REnv F.K ρ' h'.n H' e' σ' → D.bk σ' H'
  | .ct e' h' => ∀ ρ' σ' H', Ext ρ ρ' n h'.n H H' → RH F.K F.C ρ' h' H' → REnv F.K ρ' h'.n H' e' σ' → D.ct σ' H'
  | .rt w h' => ∀ ρ' v H', Ext ρ ρ' n h'.n H H' → RH F.K F.C ρ' h' H' → RV F.K ρ' h'.n H' w v → D.rt v H'
  | .ex c e' h' => ∀ ρ' σ' H', Ext ρ ρ' n h'.n H H' → RH F.K F.C ρ' h' H' → REnv F.K ρ' h'.n H' e' σ' → F.We c σ' H'
  | .stuck => False
def TIS (F : Fx) (f : SS) : L2.TS := fun D σ H => ∃ ρ e h, RH F.K F.C ρ h H ∧ REnv F.K ρ h.n H e σ ∧ PostS F ρ h.n H (f e h) D
def RE (F : Fx) : (Nat → Addr) → Nat → Hp → Env → L2.St → Prop := fun ρ n H e σ => REnv F.K ρ n H e σ
/-- nothing raised is wished -/
def Fx.no (F : Fx) : Fx := ⟨F.K, F.C, fun _ _ _ => False⟩
theorem Post.no {F : Fx} {α β : Type} {RA : (Nat → Addr) → Nat → Hp → α → β → Prop} {σ : L2.St} {ρ : Nat → Addr} {n : Nat} {H : Hp} {r : Rs α} {Q : β → Hp → Prop} (p : Post F.no RA σ ρ n H r Q) : Post F RA σ ρ n H r Q := by
  cases r with
  | ok a h => exact p
  | exc c h => exact fun ρ' H' x r => (p ρ' H' x r).elim
  | stuck => exact p
def TIG (F : Fx) (g : EG) : L2.TG := fun v σ H Q => ∃ ρ e h w, RH F.K F.C ρ h H ∧ REnv F.K ρ h.n H e σ ∧ RV F.K ρ h.n H w v ∧ Post F.no (RE F) σ ρ h.n H (g w e h) Q
section
variable {F : Fx} {σ : L2.St} {ρ ρ1 : Nat → Addr} {H H1 : Hp} {e : Env} {D : Ends}
theorem PostS.shift {n n1 : Nat} {r : RS} (x : Ext ρ ρ1 n n1 H H1) (p : PostS F ρ n H r D) : PostS F ρ1 n1 H1 r D := by
  cases r with
  | nx e h => exact fun ρ' σ' H' y a b => p ρ' σ' H' (x.trans y) a b
  | bk e h => exact fun ρ' σ' H' y a b => p ρ' σ' H' (x.trans y) a b
  | ct e h => exact fun ρ' σ' H' y a b => p ρ' σ' H' (x.trans y) a b
  | rt w h => exact fun ρ' σ' H' y a b => p ρ' σ' H' (x.trans y) a b
  | ex c e h => exact fun ρ' σ' H' y a b => p ρ' σ' H' (x.trans y) a b
  | stuck => exact p
/-- one evaluation in a statement, then the rest -/
theorem TG_.bindS {α β : Type} {RA : (Nat → Addr) → Nat → Hp → α → β → Prop} {h : IH} {f : Env → IH → Rs α} {k : α → IH → RS} {P : β → Hp → Prop}
    (rh : RH F.K F.C ρ h H) (re : REnv F.K ρ h.n H e σ) (p : PostS F ρ h.n H ((f e h).st e k) D)
    (hP : ∀ ρ1 a h1 b H1, RH F.K F.C ρ1 h1 H1 → REnv F.K ρ1 h1.n H1 e σ → Ext ρ ρ1 h.n h1.n H H1 → RA ρ1 h1.n H1 a b → PostS F ρ1 h1.n H1 (k a h1) D → P b H1) : TG_ F RA f σ H P := by
  refine ⟨ρ, e, h, rh, re, ?_⟩
  cases q : f e h with
  | ok a h1 => exact fun ρ1 b H1 x r y => hP ρ1 a h1 b H1 r (re.ext x) x y (by rw [q] at p; exact PostS.shift x p)
  | exc c h1 => rw [q] at p; exact fun ρ1 H1 x r => p ρ1 σ H1 x r (re.ext x)
  | stuck => rw [q] at p; exact p.elim
theorem PostS.nx_ {h : IH} (rh : RH F.K F.C ρ h H) (re : REnv F.K ρ h.n H e σ) (p : PostS F ρ h.n H (.nx e h) D) : D.nx σ H := p ρ σ H Ext.refl rh re
theorem REnv.set {n : Nat} {w : W} {v : V} {i : Nat} (r : REnv F.K ρ n H e σ) (q : RV F.K ρ n H w v) : REnv F.K ρ n H (e.set i (some w)) (σ.set i (some v)) where
  len := by rw [List.length_set, List.length_set]; exact r.len
  at_ := fun j x z => by
    by_cases ej : i = j
    · subst ej
      rw [List.getElem?_set] at z
      split at z
      · split at z
        · cases z
          refine ⟨v, ?_, q⟩
          rw [List.getElem?_set_self (by rw [← r.len]; assumption)]
        · cases z
      · exact absurd rfl (by assumption)
    · rw [List.getElem?_set_ne ej] at z
      obtain ⟨u, h1, h2⟩ := r.at_ j x z
      exact ⟨u, by rw [List.getElem?_set_ne ej]; exact h1, h2⟩
/-- a target, after a value has come -/
theorem TIG.sg {h : IH} {g : EG} {w : W} {v : V} {k : Env → IH → RS} {P : L2.St → Hp → Prop} (rh : RH F.K F.C ρ h H) (re : REnv F.K ρ h.n H e σ) (rv : RV F.K ρ h.n H w v) (p : PostS F ρ h.n H ((g w e h).sg k) D)
    (hP : ∀ ρ1 e1 h1 σ1 H1, RH F.K F.C ρ1 h1 H1 → REnv F.K ρ1 h1.n H1 e1 σ1 → Ext ρ ρ1 h.n h1.n H H1 → PostS F ρ1 h1.n H1 (k e1 h1) D → P σ1 H1) : TIG F g v σ H P := by
  refine ⟨ρ, e, h, w, rh, re, rv, ?_⟩
  cases q : g w e h with
  | ok a h1 => exact fun ρ1 b H1 x r y => hP ρ1 a h1 b H1 r y x (by rw [q] at p; exact PostS.shift x p)
  | exc c h1 => rw [q] at p; exact p.elim
  | stuck => rw [q] at p; exact p.elim
end
section
variable {X : Cx} {C : Nat → Addr} {We : Nat → L2.St → Hp → Prop} {a b c : Expr} {pos : Pos} {fa fb fc : EE} {e : Expr} {es : List Expr}
/-! ### targets -/
theorem no_same {F : Fx} {α β : Type} {RA : (Nat → Addr) → Nat → Hp → α → β → Prop} {σ : L2.St} {ρ : Nat → Addr} {h : IH} {H : Hp} {R : β → Hp → Prop} {a : α} {b : β} (rh : RH F.K F.C ρ h H) (p : Post F.no RA σ ρ h.n H (.ok a h) R) (r : RA ρ h.n H a b) : R b H := p ρ b H Ext.refl rh r
theorem PGmono {e : Expr} {t t' : L2.TG} (h : PG X e t) (k : ∀ v σ H Q, t' v σ H Q → t v σ H Q) : PG X e t' := ⟨fun pins s σ H v u Q I r q => h.run pins s σ H v u Q I r (k v σ H Q q)⟩
theorem g_name {i : Nat} {x : Str} (h : PG X (.Name x pos) (gName i)) : PG X (.Name x pos) (TIG (FX X C We) (gNm i)) := PGmono h fun v σ H Q ⟨ρ, e, h, w, rh, re, rv, p⟩ => no_same rh p (show RE (FX X C We) _ _ _ _ _ from re.set rv)
def TIGs (F : Fx) (gs : List EG) : L2.TGs := fun vs σ H Q => ∃ ρ e h ws, RH F.K F.C ρ h H ∧ REnv F.K ρ h.n H e σ ∧ RVs F.K ρ h.n H ws vs ∧ Post F.no (RE F) σ ρ h.n H (gSeq gs ws e h) Q
theorem gs_nil : PGs X [] (TIGs (FX X C We) []) := ⟨fun pins s σ H vs us Q I r ⟨ρ, e, h, ws, rh, re, rv, p⟩ => by
  cases rv with
  | nil => exact pgs_nil.run pins s σ H [] us Q I r ⟨rfl, no_same rh p (show RE (FX X C We) _ _ _ _ _ from re)⟩
  | cons _ _ => exact False.elim p⟩
theorem post_no_any {F : Fx} {α β : Type} {RA : (Nat → Addr) → Nat → Hp → α → β → Prop} {σ σ' : L2.St} {ρ : Nat → Addr} {n : Nat} {H : Hp} {r : Rs α} {Q : β → Hp → Prop} (p : Post F.no RA σ ρ n H r Q) : Post F.no RA σ' ρ n H r Q := by
  cases r with
  | ok a h => exact p
  | exc c h => exact p
  | stuck => exact p
theorem gs_cons {g : EG} {gs : List EG} (h1 : PG X e (TIG (FX X C We) g)) (h2 : PGs X es (TIGs (FX X C We) gs)) (hs : (assignEach (e :: es) X.env).map (·.2) = assign e X.env :: (assignEach es X.env).map (·.2)) : PGs X (e :: es) (TIGs (FX X C We) (g :: gs)) :=
  ⟨fun pins s σ H vs us Q I r ⟨ρ, en, h, ws, rh, re, rv, p⟩ => by
    cases rv with
    | nil => exact False.elim p
    | @cons w ws v vs a b =>
      refine (pgs_cons h1 h2 hs).run pins s σ H (v :: vs) us Q I r ⟨v, vs, rfl, ρ, en, h, w, rh, re, a, ?_⟩
      have p' : Post (FX X C We).no (RE (FX X C We)) σ ρ h.n H ((g w en h).bind fun e h => gSeq gs ws e h) Q := p
      cases q : g w en h with
      | stuck => rw [q] at p'; exact p'.elim
      | exc c h3 => rw [q] at p'; exact p'
      | ok e1 h3 =>
        rw [q] at p'
        exact fun ρ1 σ1 H1 x1 rh1 re1 => ⟨ρ1, e1, h3, ws, rh1, re1, x1.rvs b, post_no_any (Post.shift x1 p')⟩⟩
theorem g_tup {gs : List EG} {kk : Nat} (hc : X.calm = true) (h : PGs X es (TIGs (FX X C We) gs)) (hn : (assignEach es X.env).length = gs.length) (hst : (assignEach es X.env).findIdx? (·.1) = none) : PG X (.Tuple es kk pos) (TIG (FX X C We) (gTp gs)) :=
  PGmono (pg_tup hc h hn hst) fun v σ H Q ⟨ρ, e, h, w, rh, re, rv, p⟩ => by
    cases rv with
    | @tup ws a vs s1 r1 =>
      obtain ⟨hl, p⟩ := need_inv p
      exact ⟨a, vs, rfl, s1, by rw [← r1.length]; exact Nat.eq_of_beq_eq_true hl, ρ, e, h, ws, rh, re, r1, p⟩
    | _ => exact False.elim p
theorem TI.no {F : Fx} {f : EE} {σ : L2.St} {H : Hp} {Q : VK} (h : TI F.no f σ H Q) : TI F f σ H Q := by
  obtain ⟨ρ, e, h, rh, re, p⟩ := h
  exact ⟨ρ, e, h, rh, re, Post.no p⟩
def rSet : L2.TSet := fun o i v H Q => rSetL o i v H Q ∨ rSetD o i v H Q
theorem set_any (hu : X.A.units + 1 < cLine) : PSet X rSet := fun pins s σ H o i v ov iv u Q I r1 r2 r3 q => q.elim (set_list pins s σ H o i v ov iv u Q I r1 r2 r3) (set_dict hu pins s σ H o i v ov iv u Q I r1 r2 r3)
theorem set_ok {F : Fx} {ρ : Nat → Addr} {h : IH} {H : Hp} {σ : L2.St} {o i w : W} {x y v : V} {Q : Hp → Prop} (rh : RH F.K F.C ρ h H) (ro : RV F.K ρ h.n H o x) (ri : RV F.K ρ h.n H i y) (rw_ : RV F.K ρ h.n H w v) (p : Post F (fun _ _ _ (_ : Unit) (_ : Unit) => True) σ ρ h.n H (oSet o i w h) (fun _ H => Q H)) : rSet x y v H Q := by
  cases ro <;> first | exact False.elim p | skip
  case loc a ha =>
    unfold oSet at p
    dsimp only at p
    cases ga : h.get a with
    | none => rw [ga] at p; exact p.elim
    | some c =>
      rw [ga] at p
      cases c with
      | lst us =>
        dsimp only at p
        obtain ⟨xs, e1, r⟩ := rh.lst ga
        cases ri <;> first | exact False.elim p | skip
        case int k =>
          dsimp only at p
          cases q : ixN us.length k with
          | none => rw [q] at p; exact p.elim
          | some j =>
            rw [q] at p
            refine .inl ⟨_, xs, k, j, rfl, rfl, e1, by rw [← r.length]; exact q, ?_⟩
            exact post_setL (b := ()) (R := fun _ H => Q H) rh ga e1 (r.set rw_ j) p fun _ _ _ _ => trivial
      | dk kvs =>
        dsimp only at p
        obtain ⟨es, e1, r⟩ := rh.dk ga
        cases q : keyOf i with
        | none => rw [q] at p; exact p.elim
        | some k =>
          rw [q] at p
          obtain ⟨hl, p⟩ := need_inv p
          have hl' : kvs.length < 16777216 := Nat.le_of_ble_eq_true hl
          have ek := keyOf_ok ri q
          subst ek
          refine .inr ⟨_, _, rfl, DPut.k e1 (by rw [← r.length, sizeLine_eq]; exact hl'), ?_⟩
          have x : Ext ρ ρ h.n (h.set a (.dk (dPut kvs k w))).n H (upd H (ρ a) (.dK (putK es k v))) := ext_set (a := ρ a) (IH.get_lt ga) e1 trivial
          exact p ρ () _ x (rh.upd ga rfl e1 trivial rfl ⟨_, upd_same, (r.put rw_).mono x.le x.same x.tups x.frzs⟩) trivial
      | dz _ => exact p.elim
      | ins _ _ => exact p.elim
      | err _ => exact p.elim
theorem g_sub (hu : X.A.units + 1 < cLine) (hx : ∀ v, assign (.Subscript a b pos) X.env v = (do let ov ← holding [v] (eval a X.env); let iv ← holding [v, ov] (eval b X.env); standAt pos; holding [v, ov, iv] (setItem ov iv v); release [v, ov, iv] [])) (ha : PE X a (TI (FX X C We) fa)) (hb : PE X b (TI (FX X C We) fb)) : PG X (.Subscript a b pos) (TIG (FX X C We) (gSb fa fb)) :=
  PGmono (pg_sub ha hb (set_any hu) hx) fun v σ H Q ⟨ρ, e, h, w, rh, re, rv, p⟩ =>
    TI.no (TG_.bind (F := (FX X C We).no) (k := fun x h => (fb e h).bind fun y h => (oSet x y w h).bind fun _ h => .ok e h) rh re p fun ρ1 x h1 vx H1 rh1 re1 x1 rx p1 =>
      TI.no (TG_.bind (F := (FX X C We).no) (k := fun y h => (oSet x y w h).bind fun _ h => .ok e h) rh1 re1 p1 fun ρ2 y h2 vy H2 rh2 re2 x2 ry p2 =>
        set_ok (F := (FX X C We).no) (σ := σ) rh2 (x2.rv rx) ry ((x1.trans x2).rv rv) (by
          cases q : oSet x y w h2 with
          | stuck => rw [q] at p2; exact p2.elim
          | exc c h3 => rw [q] at p2; exact p2
          | ok u h3 =>
            rw [q] at p2
            exact fun ρ3 u3 H3 x3 rh3 _ => p2 ρ3 σ H3 x3 rh3 (re2.ext x3))))
/-! ### statements -/
theorem s_next_ : PSs X [] (TIS (FX X C We) sNext) := ⟨fun pins s σ H D I ⟨ρ, e, h, rh, re, p⟩ => pss_nil.run pins s σ H D I (p.nx_ rh re)⟩
theorem s_pass : PS X (.Pass pos) (TIS (FX X C We) sNext) := PSmono ps_pass fun D σ H ⟨ρ, e, h, rh, re, p⟩ => p.nx_ rh re
theorem s_break : PS X (.Break pos) (TIS (FX X C We) sBreak) := PSmono ps_break fun D σ H ⟨ρ, e, h, rh, re, p⟩ => p ρ σ H Ext.refl rh re
theorem s_cont : PS X (.Continue pos) (TIS (FX X C We) sCont) := PSmono ps_continue fun D σ H ⟨ρ, e, h, rh, re, p⟩ => p ρ σ H Ext.refl rh re
theorem PSsmono {e : List Stmt} {t t' : L2.TS} (h : PSs X e t) (k : ∀ D σ H, t' D σ H → t D σ H) : PSs X e t' := ⟨fun pins s σ H D I q => h.run pins s σ H D I (k D σ H q)⟩
theorem ss_cons {st : Stmt} {sts : List Stmt} {f g : SS} (h1 : PS X st (TIS (FX X C We) f)) (h2 : PSs X sts (TIS (FX X C We) g)) : PSs X (st :: sts) (TIS (FX X C We) (sSeq f g)) :=
  PSsmono (pss_cons h1 h2) fun D σ H ⟨ρ, e, h, rh, re, p⟩ => by
    refine ⟨ρ, e, h, rh, re, ?_⟩
    have p' : PostS (FX X C We) ρ h.n H (match f e h with
      | .nx e h => g e h
      | r => r) D := p
    cases q : f e h with
    | nx e1 h1 => rw [q] at p'; exact fun ρ1 σ1 H1 x1 rh1 re1 => ⟨ρ1, e1, h1, rh1, re1, PostS.shift x1 p'⟩
    | bk e1 h1 => rw [q] at p'; exact p'
    | ct e1 h1 => rw [q] at p'; exact p'
    | rt w h1 => rw [q] at p'; exact p'
    | ex c e1 h1 => rw [q] at p'; exact p'
    | stuck => rw [q] at p'; exact p'
theorem s_expr (hs : swapsWith a none pos.line X.env = pure false) (ha : PE X a (TI (FX X C We) fa)) : PS X (.Expr a pos) (TIS (FX X C We) (sExpr fa)) := PSmono (ps_expr ha hs) fun D σ H ⟨ρ, e, h, rh, re, p⟩ => TG_.bindS rh re p fun ρ1 x h1 v H1 rh1 re1 x1 rv p1 => p1.nx_ rh1 re1
theorem s_ret (ha : PE X a (TI (FX X C We) fa)) : PS X (.Return (some a) pos) (TIS (FX X C We) (sRet fa)) := PSmono (ps_ret ha) fun D σ H ⟨ρ, e, h, rh, re, p⟩ => TG_.bindS rh re p fun ρ1 x h1 v H1 rh1 re1 x1 rv p1 => p1 ρ1 v H1 Ext.refl rh1 rv
theorem s_retN : PS X (.Return none pos) (TIS (FX X C We) sRetN) := PSmono ps_retN fun D σ H ⟨ρ, e, h, rh, re, p⟩ => p ρ .non H Ext.refl rh .non
theorem s_if {t : ET} {st su : List Stmt} {f g : SS} (hc : PT X c (TIT (FX X C We) t)) (h1 : PSs X st (TIS (FX X C We) f)) (h2 : PSs X su (TIS (FX X C We) g)) : PS X (.If c st su pos) (TIS (FX X C We) (sIf t f g)) :=
  PSmono (ps_if hc h1 h2) fun D σ H ⟨ρ, e, h, rh, re, p⟩ => TG_.bindS (RA := fun _ _ _ a b => a = b) (k := (fun c h => match c with
    | true => f e h
    | false => g e h : Bool → IH → RS)) rh re p fun ρ1 x h1 v H1 rh1 re1 x1 ev p1 => by
      subst ev
      cases x with
      | true => rw [if_pos rfl]; exact ⟨ρ1, e, h1, rh1, re1, p1⟩
      | false => rw [if_neg (by decide)]; exact ⟨ρ1, e, h1, rh1, re1, p1⟩
theorem s_asg {tg : Expr} {g : EG} {st : Stmt} (h : PS X st (tAsg (TI (FX X C We) fa) (TIG (FX X C We) g))) : PS X st (TIS (FX X C We) (sAsg fa g)) :=
  PSmono h fun D σ H ⟨ρ, e, h, rh, re, p⟩ => TG_.bindS rh re p fun ρ1 x h1 v H1 rh1 re1 x1 rv p1 =>
    TIG.sg (k := fun e h => .nx e h) rh1 re1 rv p1 fun ρ2 e2 h2 σ2 H2 rh2 re2 x2 p2 => p2.nx_ rh2 re2
theorem s_raise {cl : Nat} {ex : Expr} (h : PS X (.Raise (some ex) none pos) (fun _ σ H => We cl σ H)) : PS X (.Raise (some ex) none pos) (TIS (FX X C We) (sRaise cl)) :=
  PSmono h fun D σ H ⟨ρ, e, h, rh, re, p⟩ => p ρ σ H Ext.refl rh re
/-! ### what is walked -/
inductive RI (K : PySem.W.Frag) (ρ : Nat → Addr) (n : Nat) (H : Hp) : IT → It → Prop
  | lst {a : Nat} (ha : a < n) : RI K ρ n H (.lst a) (Itl K (ρ a))
  | tup {ws : List W} {b : Addr} {vs : List V} (s : SqT K H b vs) (r : RVs K ρ n H ws vs) : RI K ρ n H (.tup ws) (Itt K b)
  | rng {lo : Int} {k : Nat} : RI K ρ n H (.rng lo k) (Itr lo k)
  | enu {a : Nat} (ha : a < n) : RI K ρ n H (.enu a) (Ite K (ρ a))
  | enuT {ws : List W} {b : Addr} {vs : List V} (s : SqT K H b vs) (r : RVs K ρ n H ws vs) : RI K ρ n H (.enuT ws) (IteT K b)
  | keys {a : Nat} {o : Obj} {es : List (Key × V)} (ha : a < n) (e : H (ρ a) = some (.frz o (.dK es))) : RI K ρ n H (.keys a) (Itk (ρ a) o es)
  | zipT {ws us : List W} {a b : Addr} {vs xs : List V} (s : SqT K H a vs) (r : RVs K ρ n H ws vs) (s' : SqT K H b xs) (r' : RVs K ρ n H us xs) : RI K ρ n H (.zipT ws us) (RZ.ItzT K a b)
  | zip {a b : Nat} (ha : a < n) (hb : b < n) : RI K ρ n H (.zip a b) (Itz K (ρ a) (ρ b))
def TII (F : Fx) (s : EI) : L2.TI := TG_ F (RI F.K) s
end
end Fw

set_option Elab.async false
set_option linter.all false
set_option maxRecDepth 100000
set_option maxHeartbeats 1000000
/-! Fw, part G: loops, comprehensions. -/
namespace Fw
open PySem L2
section
variable {F : Fx} {ρ ρ' : Nat → Addr} {n n' : Nat} {H H' : Hp} {h : IH}
theorem RI.mono (x : Ext ρ ρ' n n' H H') {J : IT} {J' : It} (r : RI F.K ρ n H J J') : RI F.K ρ' n' H' J J' := by
  cases r with
  | lst ha => rw [← x.same _ ha]; exact .lst (Nat.lt_of_lt_of_le ha x.le)
  | tup s r => exact .tup (SqT.ext x.tups x.frzs s) (x.rvs r)
  | rng => exact .rng
  | enu ha => rw [← x.same _ ha]; exact .enu (Nat.lt_of_lt_of_le ha x.le)
  | enuT s r => exact .enuT (SqT.ext x.tups x.frzs s) (x.rvs r)
  | keys ha e => rw [← x.same _ ha]; exact .keys (Nat.lt_of_lt_of_le ha x.le) (by rw [x.same _ ha]; exact x.frzs _ _ _ e)
  | zipT s r s' r' => exact .zipT (SqT.ext x.tups x.frzs s) (x.rvs r) (SqT.ext x.tups x.frzs s') (x.rvs r')
  | zip ha hb => rw [← x.same _ ha, ← x.same _ hb]; exact .zip (Nat.lt_of_lt_of_le ha x.le) (Nat.lt_of_lt_of_le hb x.le)
theorem sqL_one {K : PySem.W.Frag} {a : Addr} {xs ys : List V} {i : Nat} {x y : V} (q : SqL K H a xs) (e : xs[i]? = some x) (p : ∀ xs, SqL K H a xs → xs[i]? = some y) : x = y := by
  have z := p xs q
  rw [e] at z; exact Option.some.inj z
/-- a new tuple beside -/
theorem ext_tup {p : Addr} {vs : List V} (hp : H p = none) : Ext ρ ρ n n H (upd H p (.tup vs)) := ⟨Nat.le_refl _, fun _ _ => rfl, fun b o e k => ⟨by rw [upd_ne (ne_of_none e hp)]; exact e, k⟩, fun b xs e => by rw [upd_ne (ne_of_none e hp)]; exact e, fun b o xs e => by rw [upd_ne (ne_of_none e hp)]; exact e⟩
theorem RH.tup_ {p : Addr} {vs : List V} (rh : RH F.K F.C ρ h H) (hp : H p = none) : RH F.K F.C ρ h (L2.upd H p (.tup vs)) := by
  have x : Ext ρ ρ h.n h.n H (L2.upd H p (.tup vs)) := ext_tup hp
  exact ⟨fun i c e => (rh.cell i c e).mono x.le x.same x.tups x.frzs fun m o ho => by rw [upd_ne (rh.fresh hp i c e m)]; exact ho, rh.inj, rh.full, sys_new rh.sys hp⟩
theorem RH.dz_ {a : Nat} {o : Obj} {es : List (Key × V)} {w : W} {i : Nat} (rh : RH F.K F.C ρ h H) (ha : a < h.n) (hz : H (ρ a) = some (.frz o (.dK es))) (e : (match h.get a with
      | some (.dz kvs) => (match kvs[i]? with
        | some p => some (kW p.1)
        | none => none)
      | _ => none) = some w) : ∃ kvs, h.get a = some (.dz kvs) ∧ RKs F.K ρ h.n H kvs es := by
  cases g : h.get a with
  | none => rw [g] at e; cases e
  | some c =>
    rw [g] at e
    cases c with
    | dz kvs =>
      obtain ⟨o', es', q, rk⟩ := rh.cell a _ g
      rw [hz] at q; cases q
      exact ⟨kvs, rfl, rk⟩
    | _ => cases e
theorem keys_get {w : W} {i : Nat} : ∀ {kvs : List (Key × W)} {es : List (Key × V)} {i : Nat}, RKs F.K ρ n H kvs es → (∃ p : Key × W, kvs[i]? = some p ∧ kW p.1 = w) → ∃ k v, es[i]? = some (k, v) ∧ w = kW k
  | _, _, _, .nil, ⟨p, e, _⟩ => by cases e
  | _, _, 0, .cons _ _, ⟨p, e, h⟩ => by cases e; exact ⟨_, _, rfl, h.symm⟩
  | _, _, i + 1, .cons _ r, ⟨p, e, h⟩ => by
    obtain ⟨k, v, h1, h2⟩ := keys_get (i := i) r ⟨p, by simpa using e, h⟩
    exact ⟨k, v, by simpa using h1, h2⟩
theorem nth_ok {J : IT} {J' : It} {i : Nat} {w : W} (rh : RH F.K F.C ρ h H) (r : RI F.K ρ h.n H J J') (e : J.nth h i = some w) :
    J'.go i H ∧ ∀ x H', J'.yld i H x H' → Ext ρ ρ h.n h.n H H' ∧ RH F.K F.C ρ h H' ∧ RV F.K ρ h.n H' w x := by
  cases r with
  | @lst a ha =>
    obtain ⟨ws, g, e⟩ := Option.bind_eq_some_iff.mp e
    obtain ⟨vs, s, r, _⟩ := rh.list g
    obtain ⟨v, e2, q⟩ := r.get e
    refine ⟨⟨vs, v, s, e2⟩, fun x H' ⟨eH, y⟩ => ?_⟩
    subst eH
    have z := sqL_one (ys := vs) s e2 y
    subst z
    exact ⟨Ext.refl, rh, q⟩
  | @tup ws b vs s r =>
    obtain ⟨v, e2, q⟩ := r.get e
    refine ⟨⟨vs, v, s, e2⟩, fun x H' ⟨eH, y⟩ => ?_⟩
    subst eH
    have z := y vs s
    rw [e2] at z; cases z
    exact ⟨Ext.refl, rh, q⟩
  | @rng lo k =>
    have e' : (match Nat.blt i k with
      | true => some (W.int (lo + i))
      | false => none) = some w := e
    cases q : Nat.blt i k with
    | false => rw [q] at e'; cases e'
    | true =>
      rw [q] at e'
      cases e'
      refine ⟨Nat.le_of_ble_eq_true q, fun x H' ⟨eH, y⟩ => ?_⟩
      subst eH
      subst y
      exact ⟨Ext.refl, rh, .int⟩
  | @enu a ha =>
    obtain ⟨ws, g, e⟩ := Option.bind_eq_some_iff.mp e
    obtain ⟨u, g2, e⟩ := Option.bind_eq_some_iff.mp e
    cases e
    obtain ⟨vs, s, r, _⟩ := rh.list g
    obtain ⟨v, e2, q⟩ := r.get g2
    refine ⟨⟨vs, v, s, e2⟩, fun x H' ⟨T, y, ex, hT, eH, hy⟩ => ?_⟩
    subst ex; subst eH
    have z := sqL_one (ys := vs) s e2 hy
    subst z
    exact ⟨ext_tup hT, rh.tup_ hT, .tup (.inl (.inl upd_same)) (.cons .int (.cons ((ext_tup (ρ := ρ) (n := h.n) hT).rv q) .nil))⟩
  | @enuT ws b vs s r =>
    obtain ⟨u, g2, e⟩ := Option.bind_eq_some_iff.mp e
    cases e
    obtain ⟨v, e2, q⟩ := r.get g2
    refine ⟨⟨vs, v, s, e2⟩, fun x H' ⟨T, y, ex, hT, eH, hy⟩ => ?_⟩
    subst ex; subst eH
    have z := hy vs s
    rw [e2] at z; cases z
    exact ⟨ext_tup hT, rh.tup_ hT, .tup (.inl (.inl upd_same)) (.cons .int (.cons ((ext_tup (ρ := ρ) (n := h.n) hT).rv q) .nil))⟩
  | @keys a o es ha hz =>
    have e' : (match h.get a with
      | some (.dz kvs) => (match kvs[i]? with
        | some p => some (kW p.1)
        | none => none)
      | _ => none) = some w := e
    obtain ⟨kvs, g, rk⟩ := rh.dz_ ha hz e'
    rw [g] at e'
    obtain ⟨k, v, h1, h2⟩ := keys_get (F := F) (w := w) (i := i) rk (by
      cases q : kvs[i]? with
      | none => simp only [q] at e'; cases e'
      | some p => simp only [q] at e'; cases e'; exact ⟨p, rfl, rfl⟩)
    refine ⟨⟨hz, (List.getElem?_eq_some_iff.mp h1).1⟩, fun x H' ⟨eH, k', v', h3, ex⟩ => ?_⟩
    subst eH; subst ex
    rw [h1] at h3; cases h3
    exact ⟨Ext.refl, rh, by rw [h2]; cases k <;> first | exact .int | exact .str⟩
  | @zipT ws us a b vs xs s r s' r' =>
    obtain ⟨w1, g2, e⟩ := Option.bind_eq_some_iff.mp e
    obtain ⟨w2, g3, e⟩ := Option.bind_eq_some_iff.mp e
    cases e
    obtain ⟨v, e2, q⟩ := r.get g2
    obtain ⟨v', e2', q'⟩ := r'.get g3
    refine ⟨⟨vs, xs, v, v', s, s', e2, e2'⟩, fun x H' ⟨T, y, y', ex, hT, eH, hy, hy'⟩ => ?_⟩
    subst ex; subst eH
    have z := hy vs s
    rw [e2] at z; cases z
    have z := hy' xs s'
    rw [e2'] at z; cases z
    exact ⟨ext_tup hT, rh.tup_ hT, .tup (.inl (.inl upd_same)) (.cons ((ext_tup (ρ := ρ) (n := h.n) hT).rv q) (.cons ((ext_tup (ρ := ρ) (n := h.n) hT).rv q') .nil))⟩
  | @zip a b ha hb =>
    obtain ⟨ws, g, e⟩ := Option.bind_eq_some_iff.mp e
    obtain ⟨us, g', e⟩ := Option.bind_eq_some_iff.mp e
    obtain ⟨w1, g2, e⟩ := Option.bind_eq_some_iff.mp e
    obtain ⟨w2, g3, e⟩ := Option.bind_eq_some_iff.mp e
    cases e
    obtain ⟨vs, s, r, _⟩ := rh.list g
    obtain ⟨vs', s', r', _⟩ := rh.list g'
    obtain ⟨v, e2, q⟩ := r.get g2
    obtain ⟨v', e2', q'⟩ := r'.get g3
    refine ⟨⟨vs, vs', v, v', s, s', e2, e2'⟩, fun x H' ⟨T, y, y', ex, hT, eH, hy, hy'⟩ => ?_⟩
    subst ex; subst eH
    have z := sqL_one (ys := vs) s e2 hy
    subst z
    have z := sqL_one (ys := vs) s' e2' hy'
    subst z
    exact ⟨ext_tup hT, rh.tup_ hT, .tup (.inl (.inl upd_same)) (.cons ((ext_tup (ρ := ρ) (n := h.n) hT).rv q) (.cons ((ext_tup (ρ := ρ) (n := h.n) hT).rv q') .nil))⟩
theorem fin_ok {J : IT} {J' : It} {i : Nat} (rh : RH F.K F.C ρ h H) (r : RI F.K ρ h.n H J J') (e : J.fin h i = true) : J'.stop i H := by
  cases r with
  | @lst a ha =>
    unfold IT.fin at e
    dsimp only at e
    cases g : listAt h a with
    | none => rw [g] at e; cases e
    | some ws =>
      rw [g] at e
      obtain ⟨vs, s, r, _⟩ := rh.list g
      exact ⟨vs, s, by rw [← r.length]; exact Nat.le_of_ble_eq_true e⟩
  | @tup ws b vs s r => exact ⟨vs, s, by rw [← r.length]; exact Nat.le_of_ble_eq_true e⟩
  | @rng lo k => exact Nat.le_of_ble_eq_true e
  | @enu a ha =>
    unfold IT.fin at e
    dsimp only at e
    cases g : listAt h a with
    | none => rw [g] at e; cases e
    | some ws =>
      rw [g] at e
      obtain ⟨vs, s, r, _⟩ := rh.list g
      exact ⟨vs, s, by rw [← r.length]; exact Nat.le_of_ble_eq_true e⟩
  | @enuT ws b vs s r => exact ⟨vs, s, by rw [← r.length]; exact Nat.le_of_ble_eq_true e⟩
  | @keys a o es ha hz =>
    have e' : (match h.get a with
      | some (.dz kvs) => Nat.ble kvs.length i
      | _ => false) = true := e
    cases g : h.get a with
    | none => rw [g] at e'; cases e'
    | some c =>
      rw [g] at e'
      cases c with
      | dz kvs =>
        obtain ⟨o', es', q, rk⟩ := rh.cell a _ g
        rw [hz] at q; cases q
        exact ⟨hz, by rw [← RKs.length (F := F) rk]; exact Nat.le_of_ble_eq_true e'⟩
      | _ => cases e'
  | @zipT ws us a b vs xs s r s' r' =>
    refine ⟨vs, xs, s, s', ?_⟩
    rw [← r.length, ← r'.length]
    rcases Bool.or_eq_true_iff.mp e with e | e
    · exact .inl (Nat.le_of_ble_eq_true e)
    · exact .inr (Nat.le_of_ble_eq_true e)
  | @zip a b ha hb =>
    unfold IT.fin at e
    dsimp only at e
    cases g : listAt h a with
    | none => rw [g] at e; cases e
    | some ws =>
      rw [g] at e
      dsimp only at e
      cases g' : listAt h b with
      | none => rw [g'] at e; cases e
      | some us =>
        rw [g'] at e
        obtain ⟨vs, s, r, _⟩ := rh.list g
        obtain ⟨vs', s', r', _⟩ := rh.list g'
        refine ⟨vs, vs', s, s', ?_⟩
        rw [← r.length, ← r'.length]
        rcases Bool.or_eq_true_iff.mp e with e | e
        · exact .inl (Nat.le_of_ble_eq_true e)
        · exact .inr (Nat.le_of_ble_eq_true e)
end
section
variable {X : Cx} {C : Nat → Addr} {We : Nat → L2.St → Hp → Prop} {a b c : Expr} {pos : Pos} {fa fb fc : EE} {e : Expr} {es : List Expr}
/-! ### for -/
theorem s_for {tg iter : Expr} {body : List Stmt} {s : EI} {g : EG} {f : SS} (hp : PassesOwn (model X.prog X.w) X.A X.env X.xe) (hc : X.calm = true) (hi : PI X tg iter (TII (FX X C We) s)) (hg : PG X tg (TIG (FX X C We) g)) (hb : PSs X body (TIS (FX X C We) f))
    (hs : ∀ x, foldedSetIterable iter X.env x = pure x) : PS X (.For tg iter body [] pos) (TIS (FX X C We) (sFor s g f)) :=
  PSmono (ps_for hp hc hi hg hb hs) fun D σ H ⟨ρ, e, h, rh, re, p⟩ => by
    refine TG_.bindS (RA := RI X.K) (k := fun J h => forL g f J (J.cnt h) 0 e h) rh re p fun ρ1 J h1 J' H1 rh1 re1 x1 ri p1 => ?_
    refine ⟨fun i m σ H => ∃ ρ e h, RH X.K C ρ h H ∧ REnv X.K ρ h.n H e σ ∧ RI X.K ρ h.n H J J' ∧ PostS (FX X C We) ρ h.n H (forL g f J m i e h) D, ⟨_, ρ1, e, h1, rh1, re1, ri, p1⟩, ?_⟩
    rintro i m σ H ⟨ρ, e, h, rh, re, ri, p⟩
    cases m with
    | zero =>
      have p' : PostS (FX X C We) ρ h.n H (match J.fin h i with
        | true => .nx e h
        | false => .stuck) D := p
      cases q : J.fin h i with
      | false => rw [q] at p'; exact p'.elim
      | true => rw [q] at p'; exact .inl ⟨fin_ok (F := FX X C We) rh ri q, p'.nx_ rh re⟩
    | succ m =>
      have p' : PostS (FX X C We) ρ h.n H (match J.nth h i with
        | none => .stuck
        | some w => (g w e h).sg fun e h => match f e h with
          | .nx e h => forL g f J m (i + 1) e h
          | .ct e h => forL g f J m (i + 1) e h
          | .bk e h => .nx e h
          | .rt w h => .rt w h
          | .ex c e h => .ex c e h
          | .stuck => .stuck) D := p
      cases q : J.nth h i with
      | none => rw [q] at p'; exact p'.elim
      | some w =>
        rw [q] at p'
        obtain ⟨go, y⟩ := nth_ok (F := FX X C We) rh ri q
        refine .inr ⟨go, fun σ' H' => ∃ ρ e h, RH X.K C ρ h H' ∧ REnv X.K ρ h.n H' e σ' ∧ RI X.K ρ h.n H' J J' ∧ PostS (FX X C We) ρ h.n H' (forL g f J m (i + 1) e h) D, fun σ' H' z => ⟨m, Nat.lt_succ_self m, z⟩, fun x H' hy => ?_⟩
        obtain ⟨xy, rhy, rvy⟩ := y x H' hy
        refine TIG.sg rhy (re.ext xy) rvy (PostS.shift xy p') fun ρ2 e2 h2 σ2 H2 rh2 re2 x2 p2 => ?_
        have ri2 : RI X.K ρ2 h2.n H2 J J' := RI.mono (F := FX X C We) (xy.trans x2) ri
        refine ⟨ρ2, e2, h2, rh2, re2, ?_⟩
        cases qf : f e2 h2 with
        | nx e3 h3 => rw [qf] at p2; exact fun ρ3 σ3 H3 x3 rh3 re3 => ⟨ρ3, e3, h3, rh3, re3, RI.mono (F := FX X C We) x3 ri2, PostS.shift x3 p2⟩
        | ct e3 h3 => rw [qf] at p2; exact fun ρ3 σ3 H3 x3 rh3 re3 => ⟨ρ3, e3, h3, rh3, re3, RI.mono (F := FX X C We) x3 ri2, PostS.shift x3 p2⟩
        | bk e3 h3 => rw [qf] at p2; exact p2
        | rt w h3 => rw [qf] at p2; exact p2
        | ex c e3 h3 => rw [qf] at p2; exact p2
        | stuck => rw [qf] at p2; exact p2
/-! ### while -/
theorem s_while {t : ET} {body : List Stmt} {f : SS} (hp : PassesOwn (model X.prog X.w) X.A X.env X.xe) (hc : PT X c (TIT (FX X C We) t)) (hb : PSs X body (TIS (FX X C We) f)) : PS X (.While c body [] pos) (TIS (FX X C We) (sWhile t f)) :=
  PSmono (ps_while hp hc hb) fun D σ H ⟨ρ, e, h, rh, re, p⟩ => by
    refine ⟨fun m σ H => ∃ ρ e h, RH X.K C ρ h H ∧ REnv X.K ρ h.n H e σ ∧ PostS (FX X C We) ρ h.n H (whileN t f m e h) D, ⟨whileFuel, ρ, e, h, rh, re, p⟩, ?_⟩
    rintro m σ H ⟨ρ, e, h, rh, re, p⟩
    cases m with
    | zero => exact False.elim p
    | succ m =>
      refine TG_.bindS (RA := fun _ _ _ a b => a = b) (k := (fun c h => match c with
        | false => .nx e h
        | true => (match f e h with
          | .nx e h => whileN t f m e h
          | .ct e h => whileN t f m e h
          | .bk e h => .nx e h
          | .rt w h => .rt w h
          | .ex c e h => .ex c e h
          | .stuck => .stuck) : Bool → IH → RS)) rh re p fun ρ1 x h1 v H1 rh1 re1 x1 ev p1 => ?_
      subst ev
      cases x with
      | false => rw [if_neg (by decide)]; exact p1.nx_ rh1 re1
      | true =>
        rw [if_pos rfl]
        refine ⟨fun σ H => ∃ ρ e h, RH X.K C ρ h H ∧ REnv X.K ρ h.n H e σ ∧ PostS (FX X C We) ρ h.n H (whileN t f m e h) D, fun σ' H' z => ⟨m, Nat.lt_succ_self m, z⟩, ρ1, e, h1, rh1, re1, ?_⟩
        dsimp only at p1
        cases qf : f e h1 with
        | nx e3 h3 => rw [qf] at p1; exact fun ρ3 σ3 H3 x3 rh3 re3 => ⟨ρ3, e3, h3, rh3, re3, PostS.shift x3 p1⟩
        | ct e3 h3 => rw [qf] at p1; exact fun ρ3 σ3 H3 x3 rh3 re3 => ⟨ρ3, e3, h3, rh3, re3, PostS.shift x3 p1⟩
        | bk e3 h3 => rw [qf] at p1; exact p1
        | rt w h3 => rw [qf] at p1; exact p1
        | ex c e3 h3 => rw [qf] at p1; exact p1
        | stuck => rw [qf] at p1; exact p1
/-! ### iterables -/
theorem PImono {tg iter : Expr} {t t' : L2.TI} (h : PI X tg iter t) (k : ∀ σ H Q, t' σ H Q → t σ H Q) : PI X tg iter t' := ⟨fun pins s σ H R I q => h.run pins s σ H R I (k σ H R q)⟩
theorem PIor {tg iter : Expr} {t t' : L2.TI} (h : PI X tg iter t) (h' : PI X tg iter t') : PI X tg iter (fun σ H R => t σ H R ∨ t' σ H R) := ⟨fun pins s σ H R I q => q.elim (h.run pins s σ H R I) (h'.run pins s σ H R I)⟩
theorem i_val {tg : Expr} (ha : PE X a (TI (FX X C We) fa)) : PI X tg a (TII (FX X C We) (iVal fa)) := by
  refine PImono (PIor (pi_list ha) (pi_tup ha)) fun σ H Q ⟨ρ, e, h, rh, re, p⟩ => ?_
  have key : ∀ (P : V → Hp → Prop), (∀ ρ1 w h1 v H1, fa e h = .ok w h1 → RH X.K C ρ1 h1 H1 → RV X.K ρ1 h1.n H1 w v → Post (FX X C We) (RI X.K) σ ρ1 h1.n H1 (match w with
      | .loc a => (match listAt h1 a with
        | some _ => .ok (.lst a) h1
        | none => .stuck)
      | .tup ws => .ok (.tup ws) h1
      | _ => .stuck : Rs IT) Q → P v H1) → TI (FX X C We) fa σ H P := fun P hP => by
    refine ⟨ρ, e, h, rh, re, ?_⟩
    have p' : Post (FX X C We) (RI X.K) σ ρ h.n H ((fa e h).bind fun w h => match w with
      | .loc a => (match listAt h a with
        | some _ => .ok (.lst a) h
        | none => .stuck)
      | .tup ws => .ok (.tup ws) h
      | _ => .stuck) Q := p
    cases q : fa e h with
    | stuck => rw [q] at p'; exact p'.elim
    | exc c h1 => rw [q] at p'; exact p'
    | ok w h1 => rw [q] at p'; exact fun ρ1 v H1 x1 rh1 rv => hP ρ1 w h1 v H1 q rh1 rv (Post.shift x1 p')
  cases qa : fa e h with
  | stuck =>
    have p' : Post (FX X C We) (RI X.K) σ ρ h.n H ((fa e h).bind fun w h => match w with
      | .loc a => (match listAt h a with
        | some _ => .ok (.lst a) h
        | none => .stuck)
      | .tup ws => .ok (.tup ws) h
      | _ => .stuck) Q := p
    rw [qa] at p'; exact p'.elim
  | exc c h1 => exact .inl (key _ fun _ w _ _ _ z => by rw [qa] at z; cases z)
  | ok w h1 =>
    cases w with
    | tup ws =>
      refine .inr (key _ fun ρ1 w h2 v H1 z rh1 rv p1 => ?_)
      rw [qa] at z
      cases z
      cases rv with
      | tup s r => exact ⟨_, rfl, ⟨_, s⟩, post_same rh1 p1 (.tup s r)⟩
    | _ =>
      refine .inl (key _ fun ρ1 w h2 v H1 z rh1 rv p1 => ?_)
      rw [qa] at z
      cases z
      cases rv <;> first | exact False.elim p1 | skip
      all_goals
        rename_i i hi
        dsimp only at p1
        cases g : listAt h1 i with
        | none => rw [g] at p1; exact p1.elim
        | some ws =>
          rw [g] at p1
          obtain ⟨vs, s, r, _⟩ := rh1.list g
          exact ⟨_, rfl, ⟨vs, s⟩, post_same rh1 p1 (.lst hi)⟩
theorem small_of {i : Int} (h : small i = true) : -(2 ^ 62) ≤ i ∧ i < 2 ^ 62 := by
  simp only [small, Bool.and_eq_true, decide_eq_true_eq] at h
  omega
theorem i_rng1 {tg : Expr} {p : Pos} {g : EA} (hg : Gl X "range") (hm : X.mg "range" = none) (ha : PA X [a] (TIA (FX X C We) g)) (hs : starEach [a] X.env = [(false, eval a X.env)]) : PI X tg (.Call (.Name "range" p) [a] [] pos) (TII (FX X C We) (iA kRng1 g)) :=
  PImono (pi_range1 hg hm ha hs) fun σ H Q ⟨ρ, e, h, rh, re, p⟩ => TG_.bind (RA := RVs X.K) (k := kRng1) rh re p fun ρ1 ws h1 vs H1 rh1 re1 x1 rv p1 => by
    cases rv with
    | nil => exact False.elim p1
    | cons r1 r2 =>
      cases r2 with
      | cons _ _ => cases r1 <;> exact False.elim p1
      | nil =>
        cases r1 with
        | @int j =>
          obtain ⟨q, p1⟩ := need_inv p1
          have q' := small_of q
          exact ⟨j, rfl, q'.1, q'.2, post_same rh1 p1 .rng⟩
        | _ => exact False.elim p1
theorem i_rng2 {tg : Expr} {p : Pos} {g : EA} (h : PI X tg (.Call (.Name "range" p) [a, b] [] pos) (iRng2 (TIA (FX X C We) g))) : PI X tg (.Call (.Name "range" p) [a, b] [] pos) (TII (FX X C We) (iA kRng2 g)) :=
  PImono h fun σ H Q ⟨ρ, e, h, rh, re, p⟩ => TG_.bind (RA := RVs X.K) (k := kRng2) rh re p fun ρ1 ws h1 vs H1 rh1 re1 x1 rv p1 => by
    cases rv with
    | nil => exact False.elim p1
    | cons r1 r2 =>
      cases r2 with
      | nil => cases r1 <;> exact False.elim p1
      | cons r2 r3 =>
        cases r3 with
        | cons _ _ => cases r1 <;> cases r2 <;> exact False.elim p1
        | nil =>
          cases r1 with
          | @int i =>
            cases r2 with
            | @int j =>
              obtain ⟨q, p1⟩ := need_inv p1
              obtain ⟨q1, q2⟩ := Bool.and_eq_true_iff.mp q
              have q1' := small_of q1
              have q2' := small_of q2
              exact ⟨i, j, rfl, ⟨q1'.1, q1'.2, q2'.1, q2'.2⟩, post_same rh1 p1 .rng⟩
            | _ => exact False.elim p1
          | _ => cases r2 <;> exact False.elim p1
theorem i_enu {elts : List Expr} {kk : Nat} {tpos p : Pos} {g : EA} (hg : Gl X "enumerate") (hm : X.mg "enumerate" = none) (ha : PA X [a] (TIA (FX X C We) g)) (hs : starEach [a] X.env = [(false, eval a X.env)]) : PI X (.Tuple elts kk tpos) (.Call (.Name "enumerate" p) [a] [] pos) (TII (FX X C We) (iA kEnu g)) :=
  PImono (pi_enuA hg hm ha hs) fun σ H Q ⟨ρ, e, h, rh, re, p⟩ => TG_.bind (RA := RVs X.K) (k := kEnu) rh re p fun ρ1 ws h1 vs H1 rh1 re1 x1 rv p1 => by
    cases rv with
    | nil => exact False.elim p1
    | cons r1 r2 =>
      cases r2 with
      | cons _ _ => cases r1 <;> exact False.elim p1
      | nil =>
        cases r1 with
        | @loc i hi =>
          have p2 : Post (FX X C We) (RI X.K) σ ρ1 h1.n H1 (match listAt h1 i with
            | some _ => .ok (.enu i) h1
            | none => .stuck) Q := p1
          cases q : listAt h1 i with
          | none => rw [q] at p2; exact p2.elim
          | some ws =>
            rw [q] at p2
            obtain ⟨vs, s, r, _⟩ := rh1.list q
            exact ⟨_, vs, rfl, .inl ⟨s, post_same rh1 p2 (.enu hi)⟩⟩
        | tup s r => exact ⟨_, _, rfl, .inr ⟨s, post_same rh1 p1 (.enuT s r)⟩⟩
        | _ => exact False.elim p1
theorem i_zip {elts : List Expr} {kk : Nat} {tpos : Pos} {g : EA} {ze : Expr} (h : PI X (.Tuple elts kk tpos) ze (RZ.iZipA X.K (TIA (FX X C We) g))) : PI X (.Tuple elts kk tpos) ze (TII (FX X C We) (iA kZip g)) :=
  PImono h fun σ H Q ⟨ρ, e, h, rh, re, p⟩ => TG_.bind (RA := RVs X.K) (k := kZip) rh re p fun ρ1 ws h1 vs H1 rh1 re1 x1 rv p1 => by
    cases rv with
    | nil => exact False.elim p1
    | cons r1 r2 =>
      cases r2 with
      | nil => cases r1 <;> exact False.elim p1
      | cons r2 r3 =>
        cases r3 with
        | cons _ _ => cases r1 <;> cases r2 <;> exact False.elim p1
        | nil =>
          cases r1 with
          | @loc i hi =>
            cases r2 with
            | @loc j hj =>
              have p2 : Post (FX X C We) (RI X.K) σ ρ1 h1.n H1 (match listAt h1 i with
                | some _ => (match listAt h1 j with
                  | some _ => .ok (.zip i j) h1
                  | none => .stuck)
                | none => .stuck) Q := p1
              cases q : listAt h1 i with
              | none => rw [q] at p2; exact p2.elim
              | some ws =>
                rw [q] at p2
                dsimp only at p2
                cases q' : listAt h1 j with
                | none => rw [q'] at p2; exact p2.elim
                | some us =>
                  rw [q'] at p2
                  obtain ⟨vs, s, r, _⟩ := rh1.list q
                  obtain ⟨vs', s', r', _⟩ := rh1.list q'
                  exact ⟨_, _, vs, vs', rfl, .inl ⟨s, s', post_same rh1 p2 (.zip hi hj)⟩⟩
            | _ => exact False.elim p1
          | tup s1 q1 =>
            cases r2 with
            | tup s2 q2 => exact ⟨_, _, _, _, rfl, .inr ⟨s1, s2, post_same rh1 p1 (.zipT s1 q1 s2 q2)⟩⟩
            | _ => exact False.elim p1
          | _ => cases r2 <;> exact False.elim p1
/-! ### comprehensions -/
theorem pe_lockB {e : Expr} {td : L2.TE} (he : PE X e td) : PE X e (fun σ H Q => td σ H fun x H1 => ∃ d u, H1 d = some u ∧ L2.Mut (some u) ∧ ∀ od, Q x (upd H1 d (.frz od u))) := ⟨fun pins s σ H Q I h => thn (he.run pins s σ H _ I h) fun v s1 ⟨x, H1, I1, r, d, u, hd, mu, q⟩ => by
  obtain ⟨od, I2⟩ := I1.lock hd mu
  exact ⟨x, _, I2, r, q od⟩⟩
theorem i_any {tg : Expr} (ha : PE X a (TI (FX X C We) fa)) : PI X tg a (TII (FX X C We) (iAny fa)) := by
  refine PImono (PIor (i_val ha) (pi_keys (pe_lockB ha))) fun σ H Q ⟨ρ, e, h, rh, re, p⟩ => ?_
  have left : iAny fa e h = iVal fa e h → TII (FX X C We) (iVal fa) σ H Q := fun z => ⟨ρ, e, h, rh, re, by rw [← z]; exact p⟩
  cases qa : fa e h with
  | stuck => exact .inl (left (by unfold iAny; rw [qa]))
  | exc c h1 => exact .inl (left (by unfold iAny; rw [qa]))
  | ok w h1 =>
    cases w with
    | loc i =>
      cases g : h1.get i with
      | none => exact .inl (left (by unfold iAny; rw [qa]; dsimp only; rw [g]))
      | some c =>
        cases c with
        | dk kvs =>
          have z : iAny fa e h = .ok (.keys i) (h1.set i (.dz kvs)) := by unfold iAny; rw [qa]; dsimp only; rw [g]
          rw [z] at p
          refine .inr ⟨ρ, e, h, rh, re, ?_⟩
          show Post (FX X C We) (RV X.K) σ ρ h.n H (fa e h) _
          rw [qa]
          intro ρ1 v H1 x1 rh1 rv
          cases rv with
          | loc hi =>
            obtain ⟨es, e1, rk⟩ := rh1.dk g
            refine ⟨ρ1 i, .dK es, e1, True.intro, fun od => ⟨ρ1 i, od, rfl, .inl ⟨es, upd_same, ?_⟩⟩⟩
            have x2 : Ext ρ1 ρ1 h1.n h1.n H1 (upd H1 (ρ1 i) (.frz od (.dK es))) := ext_set (a := ρ1 i) hi e1 True.intro
            exact p ρ1 _ _ (x1.trans x2) (rh1.upd g rfl e1 True.intro rfl ⟨od, es, upd_same, rk.mono x2.le x2.same x2.tups x2.frzs⟩) (.keys hi upd_same)
        | _ => exact .inl (left (by unfold iAny; rw [qa]; dsimp only; rw [g]))
    | _ => exact .inl (left (by unfold iAny; rw [qa]))
theorem wipe_len (e : Env) : ∀ vs : List Nat, (wipeW e vs).length = e.length := by
  intro vs
  unfold wipeW
  induction vs generalizing e with
  | nil => rfl
  | cons i vs ih => rw [List.foldl_cons, ih, List.length_set]
end
end Fw

set_option Elab.async false
set_option linter.all false
set_option maxRecDepth 100000
set_option maxHeartbeats 1000000
namespace Fw
open PySem L2
/-! ### comprehensions -/
theorem wipe_at : ∀ (vs : List Nat) (σ : L2.St) (j : Nat), (wipe σ vs)[j]? = if j ∈ vs ∧ j < σ.length then some none else σ[j]?
  | [], σ, j => by simp [wipe]
  | v :: vs, σ, j => by
    unfold wipe
    by_cases e : v = j
    · subst e
      by_cases hl : v < σ.length
      · rw [List.getElem?_set_self (by rw [wipe_length]; exact hl), if_pos ⟨List.mem_cons_self, hl⟩]
      · rw [if_neg (fun z => hl z.2), List.getElem?_eq_none (by rw [List.length_set, wipe_length]; omega), List.getElem?_eq_none (by omega)]
    · rw [List.getElem?_set_ne e, wipe_at vs σ j]
      by_cases hm : j ∈ vs
      · by_cases hl : j < σ.length
        · rw [if_pos ⟨hm, hl⟩, if_pos ⟨List.mem_cons_of_mem _ hm, hl⟩]
        · rw [if_neg (fun z => hl z.2), if_neg (fun z => hl z.2)]
      · rw [if_neg (fun z => hm z.1), if_neg (fun z => by rcases List.mem_cons.mp z.1 with q | q; exact e q.symm; exact hm q)]
theorem wipe_set {σ : L2.St} {vs : List Nat} {i : Nat} {x : Option V} (hi : i ∈ vs) : wipe (σ.set i x) vs = wipe σ vs := by
  apply List.ext_getElem?
  intro j
  rw [wipe_at, wipe_at, List.length_set]
  by_cases hm : j ∈ vs
  · by_cases hl : j < σ.length
    · rw [if_pos ⟨hm, hl⟩, if_pos ⟨hm, hl⟩]
    · rw [if_neg (fun z => hl z.2), if_neg (fun z => hl z.2), List.getElem?_eq_none (by rw [List.length_set]; omega), List.getElem?_eq_none (by omega)]
  · rw [if_neg (fun z => hm z.1), if_neg (fun z => hm z.1), List.getElem?_set_ne (fun e : i = j => hm (e ▸ hi))]
theorem wipeW_at : ∀ (vs : List Nat) (e : Env) (j : Nat), (wipeW e vs)[j]? = if j ∈ vs ∧ j < e.length then some none else e[j]?
  | [], e, j => by simp [wipeW]
  | v :: vs, e, j => by
    have ih := wipeW_at vs (e.set v none) j
    show (wipeW (e.set v none) vs)[j]? = _
    rw [ih, List.length_set]
    by_cases hm : j ∈ vs
    · by_cases hl : j < e.length
      · rw [if_pos ⟨hm, hl⟩, if_pos ⟨List.mem_cons_of_mem _ hm, hl⟩]
      · rw [if_neg (fun z => hl z.2), if_neg (fun z => hl z.2), List.getElem?_eq_none (by rw [List.length_set]; omega), List.getElem?_eq_none (by omega)]
    · rw [if_neg (fun z => hm z.1)]
      by_cases ev : v = j
      · subst ev
        by_cases hl : v < e.length
        · rw [List.getElem?_set_self hl, if_pos ⟨List.mem_cons_self, hl⟩]
        · rw [if_neg (fun z => hl z.2), List.getElem?_eq_none (by rw [List.length_set]; omega), List.getElem?_eq_none (by omega)]
      · rw [List.getElem?_set_ne ev, if_neg (fun z => by rcases List.mem_cons.mp z.1 with q | q; exact ev q.symm; exact hm q)]
theorem REnv.wipe_ {K : PySem.W.Frag} {ρ : Nat → Addr} {n : Nat} {H : Hp} {e : Env} {σ : L2.St} (r : REnv K ρ n H e σ) (vs : List Nat) : REnv K ρ n H (wipeW e vs) (wipe σ vs) where
  len := by rw [wipe_length, wipe_len]; exact r.len
  at_ := fun i w z => by
    rw [wipeW_at] at z
    by_cases hm : i ∈ vs ∧ i < e.length
    · rw [if_pos hm] at z; cases z
    · rw [if_neg hm] at z
      obtain ⟨v, h1, h2⟩ := r.at_ i w z
      exact ⟨v, by rw [wipe_at, if_neg (by rw [← r.len]; exact hm)]; exact h1, h2⟩
/-- a target that stores its own names alone -/
def RW_ (F : Fx) (vs : List Nat) (τ : L2.St) : (Nat → Addr) → Nat → Hp → Env → L2.St → Prop := fun ρ n H e σ => REnv F.K ρ n H e σ ∧ wipe σ vs = wipe τ vs
def TIGw (F : Fx) (vs : List Nat) (g : EG) : L2.TG := fun v σ H Q => ∃ ρ e h w, RH F.K F.C ρ h H ∧ REnv F.K ρ h.n H e σ ∧ RV F.K ρ h.n H w v ∧ Post F.no (RW_ F vs σ) σ ρ h.n H (g w e h) Q
def TIGsw (F : Fx) (vs : List Nat) (gs : List EG) : L2.TGs := fun us σ H Q => ∃ ρ e h ws, RH F.K F.C ρ h H ∧ REnv F.K ρ h.n H e σ ∧ RVs F.K ρ h.n H ws us ∧ Post F.no (RW_ F vs σ) σ ρ h.n H (gSeq gs ws e h) Q
section
variable {X : Cx} {C : Nat → Addr} {We : Nat → L2.St → Hp → Prop} {a b c : Expr} {pos : Pos} {fa fb fc : EE} {e : Expr} {es : List Expr} {vs : List Nat}
theorem gw_name {i : Nat} {x : Str} (hi : i ∈ vs) (h : PG X (.Name x pos) (gName i)) : PG X (.Name x pos) (TIGw (FX X C We) vs (gNm i)) :=
  PGmono h fun v σ H Q ⟨ρ, e, h, w, rh, re, rv, p⟩ => no_same rh p (show RW_ (FX X C We) vs σ _ _ _ _ _ from ⟨re.set rv, wipe_set hi⟩)
theorem gsw_nil : PGs X [] (TIGsw (FX X C We) vs []) := ⟨fun pins s σ H us us' Q I r ⟨ρ, e, h, ws, rh, re, rv, p⟩ => by
  cases rv with
  | nil => exact pgs_nil.run pins s σ H [] us' Q I r ⟨rfl, no_same rh p (show RW_ (FX X C We) vs σ _ _ _ _ _ from ⟨re, rfl⟩)⟩
  | cons _ _ => exact False.elim p⟩
theorem gsw_cons {g : EG} {gs : List EG} (h1 : PG X e (TIGw (FX X C We) vs g)) (h2 : PGs X es (TIGsw (FX X C We) vs gs)) (hs : (assignEach (e :: es) X.env).map (·.2) = assign e X.env :: (assignEach es X.env).map (·.2)) : PGs X (e :: es) (TIGsw (FX X C We) vs (g :: gs)) :=
  ⟨fun pins s σ H us us' Q I r ⟨ρ, en, h, ws, rh, re, rv, p⟩ => by
    cases rv with
    | nil => exact False.elim p
    | @cons w ws v us a b =>
      refine (pgs_cons h1 h2 hs).run pins s σ H (v :: us) us' Q I r ⟨v, us, rfl, ρ, en, h, w, rh, re, a, ?_⟩
      have p' : Post (FX X C We).no (RW_ (FX X C We) vs σ) σ ρ h.n H ((g w en h).bind fun e h => gSeq gs ws e h) Q := p
      cases q : g w en h with
      | stuck => rw [q] at p'; exact p'.elim
      | exc c h3 => rw [q] at p'; exact p'
      | ok e1 h3 =>
        rw [q] at p'
        intro ρ1 σ1 H1 x1 rh1 ⟨re1, rw1⟩
        refine ⟨ρ1, e1, h3, ws, rh1, re1, x1.rvs b, ?_⟩
        have p2 := post_no_any (σ' := σ1) (Post.shift x1 p')
        cases q2 : gSeq gs ws e1 h3 with
        | stuck => rw [Rs.bind_ok, q2] at p2; exact p2
        | exc c h3 => rw [Rs.bind_ok, q2] at p2; exact p2
        | ok e2 h4 => rw [Rs.bind_ok, q2] at p2; exact fun ρ2 σ2 H2 x2 rh2 ⟨re2, rw2⟩ => p2 ρ2 σ2 H2 x2 rh2 ⟨re2, rw2.trans rw1⟩⟩
theorem gw_tup {gs : List EG} {kk : Nat} (hc : X.calm = true) (h : PGs X es (TIGsw (FX X C We) vs gs)) (hn : (assignEach es X.env).length = gs.length) (hst : (assignEach es X.env).findIdx? (·.1) = none) : PG X (.Tuple es kk pos) (TIGw (FX X C We) vs (gTp gs)) :=
  PGmono (pg_tup hc h hn hst) fun v σ H Q ⟨ρ, e, h, w, rh, re, rv, p⟩ => by
    cases rv with
    | @tup ws a us s1 r1 =>
      obtain ⟨hl, p⟩ := need_inv p
      exact ⟨a, us, rfl, s1, by rw [← r1.length]; exact Nat.eq_of_beq_eq_true hl, ρ, e, h, ws, rh, re, r1, p⟩
    | _ => exact False.elim p
/-- the list that grows stands beside -/
theorem RH.beside {F : Fx} {ρ : Nat → Addr} {h : IH} {H : Hp} {D : Addr} {xs ys : List V} (rh : RH F.K F.C ρ h H) (hD : H D = some (.lst xs)) (hn : ∀ i, i < h.n → ρ i ≠ D) : RH F.K F.C ρ h (L2.upd H D (.lst ys)) :=
  ⟨fun i c e => (rh.cell i c e).mono (Nat.le_refl _) (fun _ _ => rfl) (fun a xs q => by rw [upd_ne fun z => by rw [z, hD] at q; cases q]; exact q) (fun a o u q => by rw [upd_ne fun z => by rw [z, hD] at q; cases q]; exact q) fun m o ho => by rw [upd_ne (hn i (IH.get_lt e))]; exact ho, rh.inj, rh.full, sys_upd rh.sys hD fun _ _ z => by cases z⟩
theorem Ext.beside {ρ ρ' : Nat → Addr} {n n' : Nat} {H H' : Hp} {D : Addr} {xs ys : List V} (x : Ext ρ ρ' n n' H H') (h0 : H D = none) (hD : H' D = some (.lst xs)) : Ext ρ ρ' n n' H (upd H' D (.lst ys)) where
  le := x.le
  same := x.same
  frame := fun a o e k => ⟨by rw [upd_ne (ne_of_none e h0)]; exact (x.frame a o e k).1, (x.frame a o e k).2⟩
  tups := fun a xs e => by rw [upd_ne (ne_of_none e h0)]; exact x.tups a xs e
  frzs := fun a o u e => by rw [upd_ne (ne_of_none e h0)]; exact x.frzs a o u e
/-- the end of a comprehension -/
def lcEnd (r : Rs (List W)) : Rs W := r.bind fun xs h => .need (lenOk xs.length) (.ok (.loc h.n) (h.new (.lst xs)))
theorem lc_imp {s : EI} {g : EG} {t : ET} {f : EE} {σ : L2.St} {H : Hp} {Q : VK} : TI (FX X C We) (eLc s g t f vs) σ H Q → tLc (TII (FX X C We) s) (TIGw (FX X C We) vs g) (TIT (FX X C fun _ _ _ => False) t) (TI (FX X C fun _ _ _ => False) f) vs σ H Q :=
  fun ⟨ρ, e, h, rh, re, p⟩ => by
    refine TG_.bind (RA := RI X.K) (RB := RV X.K) (k := fun J h => lcEnd (noExc (lcL g t f J (wipeW e vs) (J.cnt h) 0 h))) rh re p fun ρ1 J h1 J' H1 rh1 re1 x1 ri1 p1 => ?_
    intro D hD
    cases qa : lcL g t f J (wipeW e vs) (J.cnt h1) 0 h1 with
    | stuck => rw [qa] at p1; exact p1.elim
    | exc c h2 => rw [qa] at p1; exact p1.elim
    | ok all hE =>
      rw [qa] at p1
      obtain ⟨hl, p1⟩ := need_inv p1
      have xD : Ext ρ1 ρ1 h1.n h1.n H1 (upd H1 D (.lst [])) := ⟨Nat.le_refl _, fun _ _ => rfl, fun a o q k => ⟨by rw [upd_ne (ne_of_none q hD)]; exact q, k⟩, fun a xs q => by rw [upd_ne (ne_of_none q hD)]; exact q, fun a o u q => by rw [upd_ne (ne_of_none q hD)]; exact q⟩
      have rD : RH X.K C ρ1 h1 (upd H1 D (.lst [])) := ⟨fun i c q => (rh1.cell i c q).mono xD.le xD.same xD.tups xD.frzs fun m o ho => by rw [upd_ne (rh1.free hD i (IH.get_lt q))]; exact ho, rh1.inj, rh1.full, sys_new rh1.sys hD⟩
      refine ⟨fun i m H => ∃ ρ h acc vacc xs, all = acc ++ xs ∧ lcL g t f J (wipeW e vs) m i h = .ok xs hE ∧ RH X.K C ρ h H ∧ Ext ρ1 ρ h1.n h.n H1 H ∧ H D = some (.lst vacc) ∧ (∀ i, i < h.n → ρ i ≠ D) ∧ RVs X.K ρ h.n H acc vacc, ⟨J.cnt h1, ρ1, h1, [], [], all, rfl, qa, rD, xD, upd_same, rh1.free hD, .nil⟩, ?_⟩
      rintro i m H2 ⟨ρ2, h2, acc, vacc, xs, ea, ql, rh2, x2, hD2, fr2, ra⟩
      cases m with
      | zero =>
        have ql' : (match J.fin h2 i with
          | true => Rs.ok [] h2
          | false => .stuck) = .ok xs hE := ql
        cases qf : J.fin h2 i with
        | false => rw [qf] at ql'; cases ql'
        | true =>
          rw [qf] at ql'
          cases ql'
          rw [List.append_nil] at ea
          subst ea
          refine .inl ⟨fin_ok (F := FX X C We) rh2 (RI.mono (F := FX X C We) x2 ri1) qf, ?_⟩
          -- the list comes to its place
          have e1 : V.ref D = V.ref (rhoN ρ2 hE.n D hE.n) := by rw [rhoN_self]
          have xN : Ext ρ1 (rhoN ρ2 hE.n D) h1.n (hE.n + 1) H1 H2 := ⟨Nat.le_succ_of_le x2.le, fun i hi => by rw [rhoN_lt (Nat.lt_of_lt_of_le hi x2.le)]; exact x2.same i hi, fun a o q k => ⟨(x2.frame a o q k).1, fun i hi => by
            by_cases z : i = hE.n
            · rw [z, rhoN_self]; exact (ne_of_none q hD).symm
            · rw [rhoN_lt (by omega)]; exact (x2.frame a o q k).2 i (by omega)⟩, x2.tups, x2.frzs⟩
          have m2 : ∀ {w : W} {v : V}, RV X.K ρ2 hE.n H2 w v → RV X.K (rhoN ρ2 hE.n D) (hE.n + 1) H2 w v := fun r => r.mono (Nat.le_succ _) (fun i hi => rhoN_lt hi) (fun _ _ q => q) fun _ _ _ q => q
          have ms : ∀ {w : List W} {v : List V}, RVs X.K ρ2 hE.n H2 w v → RVs X.K (rhoN ρ2 hE.n D) (hE.n + 1) H2 w v := fun r => r.mono (Nat.le_succ _) (fun i hi => rhoN_lt hi) (fun _ _ q => q) fun _ _ _ q => q
          refine p1 (rhoN ρ2 hE.n D) (.ref D) H2 xN ⟨fun i c q => ?_, fun i j c d q1 q2 _ _ q => ?_, fun i hi => ?_, rh2.sys⟩ (by rw [e1]; exact .loc (Nat.lt_succ_self _))
          · rw [IH.get_new] at q
            by_cases z : i = hE.n
            · rw [if_pos z] at q; cases q; rw [z, rhoN_self]; exact ⟨vacc, hD2, ms ra⟩
            · rw [if_neg z] at q
              rw [rhoN_lt (IH.get_lt q)]
              exact (rh2.cell i c q).mono (Nat.le_succ _) (fun i hi => rhoN_lt hi) (fun _ _ q => q) (fun _ _ _ q => q) fun _ _ q => q
          · rw [IH.get_new] at q1 q2
            by_cases z1 : i = hE.n
            · by_cases z2 : j = hE.n
              · rw [z1, z2]
              · rw [if_neg z2] at q2
                rw [z1, rhoN_self, rhoN_lt (IH.get_lt q2)] at q
                exact absurd q.symm (fr2 j (IH.get_lt q2))
            · rw [if_neg z1] at q1
              by_cases z2 : j = hE.n
              · rw [z2, rhoN_self, rhoN_lt (IH.get_lt q1)] at q
                exact absurd q (fr2 i (IH.get_lt q1))
              · rw [if_neg z2] at q2
                rw [rhoN_lt (IH.get_lt q1), rhoN_lt (IH.get_lt q2)] at q
                exact rh2.inj i j c d q1 q2 rfl rfl q
          · by_cases z : i = hE.n
            · exact ⟨.lst all, by rw [IH.get_new, if_pos z]⟩
            · obtain ⟨d, q⟩ := rh2.full i (by have : i < hE.n + 1 := hi; omega)
              exact ⟨d, by rw [IH.get_new, if_neg z]; exact q⟩
      | succ m =>
        have ql' : (match J.nth h2 i with
          | none => Rs.stuck
          | some w => (g w (wipeW e vs) h2).bind fun e' h => (t e' h).bind fun c h => match c with
            | true => (f e' h).bind fun x h => (lcL g t f J (wipeW e vs) m (i + 1) h).bind fun xs h => .ok (x :: xs) h
            | false => lcL g t f J (wipeW e vs) m (i + 1) h) = .ok xs hE := ql
        clear ql
        cases qn : J.nth h2 i with
        | none => rw [qn] at ql'; cases ql'
        | some w =>
          rw [qn] at ql'
          dsimp only at ql'
          have ri2 := RI.mono (F := FX X C We) x2 ri1
          obtain ⟨go, y⟩ := nth_ok (F := FX X C We) rh2 ri2 qn
          refine .inr ⟨go, fun H => ∃ ρ h acc vacc xs, all = acc ++ xs ∧ lcL g t f J (wipeW e vs) m (i + 1) h = .ok xs hE ∧ RH X.K C ρ h H ∧ Ext ρ1 ρ h1.n h.n H1 H ∧ H D = some (.lst vacc) ∧ (∀ i, i < h.n → ρ i ≠ D) ∧ RVs X.K ρ h.n H acc vacc, fun H' z => ⟨m, Nat.lt_succ_self m, z⟩, fun x H3 hy => ?_⟩
          obtain ⟨x3, rh3, rv3⟩ := y x H3 hy
          obtain ⟨hD3, fr3⟩ := x3.frame D _ hD2 fr2
          have re3 : REnv X.K ρ2 h2.n H3 (wipeW e vs) (wipe σ vs) := (REnv.ext (F := FX X C We) (x2.trans x3) re1).wipe_ vs
          refine ⟨ρ2, wipeW e vs, h2, w, rh3, re3, rv3, ?_⟩
          cases qg : g w (wipeW e vs) h2 with
          | stuck => rw [qg] at ql'; cases ql'
          | exc c h3 => rw [qg] at ql'; cases ql'
          | ok e4 h4 =>
            rw [qg, Rs.bind_ok] at ql'
            intro ρ4 σ4 H4 x4 rh4 ⟨re4, rw4⟩
            obtain ⟨hD4, fr4⟩ := x4.frame D _ hD3 fr3
            refine ⟨by rw [rw4]; apply List.ext_getElem?; intro j; rw [wipe_at, wipe_at, wipe_length]; by_cases z : j ∈ vs ∧ j < σ.length <;> simp [z], ρ4, e4, h4, rh4, re4, ?_⟩
            cases qt : t e4 h4 with
            | stuck => rw [qt] at ql'; cases ql'
            | exc c h3 => rw [qt] at ql'; cases ql'
            | ok b h5 =>
              rw [qt, Rs.bind_ok] at ql'
              intro ρ5 b' H5 x5 rh5 eb
              subst eb
              obtain ⟨hD5, fr5⟩ := x5.frame D _ hD4 fr4
              cases b with
              | false =>
                rw [if_neg (by decide)]
                exact ⟨ρ5, h5, acc, vacc, xs, ea, ql', rh5, ((x2.trans x3).trans x4).trans x5, hD5, fr5, ((x3.trans x4).trans x5).rvs ra⟩
              | true =>
                rw [if_pos rfl]
                refine ⟨ρ5, e4, h5, rh5, REnv.ext (F := FX X C We) x5 re4, ?_⟩
                dsimp only at ql'
                cases qf : f e4 h5 with
                | stuck => rw [qf] at ql'; cases ql'
                | exc c h3 => rw [qf] at ql'; cases ql'
                | ok u h6 =>
                  rw [qf, Rs.bind_ok] at ql'
                  intro ρ6 v6 H6 x6 rh6 rv6
                  obtain ⟨hD6, fr6⟩ := x6.frame D _ hD5 fr5
                  cases qr : lcL g t f J (wipeW e vs) m (i + 1) h6 with
                  | stuck => rw [qr] at ql'; cases ql'
                  | exc c h3 => rw [qr] at ql'; cases ql'
                  | ok us h7 =>
                    rw [qr, Rs.bind_ok] at ql'
                    cases ql'
                    have xx := (((x2.trans x3).trans x4).trans x5).trans x6
                    have ra6 := (((x3.trans x4).trans x5).trans x6).rvs ra
                    have len : vacc.length < sizeLine := by
                      have q := line_of hl
                      rw [ea, List.length_append, List.length_cons] at q
                      rw [← ra.length]; omega
                    have mm : ∀ {w : W} {v : V}, RV X.K ρ6 h6.n H6 w v → RV X.K ρ6 h6.n (upd H6 D (.lst (vacc ++ [v6]))) w v := fun r => r.mono (Nat.le_refl _) (fun _ _ => rfl) (fun a xs q => by rw [upd_ne fun z => by rw [z, hD6] at q; cases q]; exact q) fun a o u q => by rw [upd_ne fun z => by rw [z, hD6] at q; cases q]; exact q
                    have mms : ∀ {w : List W} {v : List V}, RVs X.K ρ6 h6.n H6 w v → RVs X.K ρ6 h6.n (upd H6 D (.lst (vacc ++ [v6]))) w v := fun r => r.mono (Nat.le_refl _) (fun _ _ => rfl) (fun a xs q => by rw [upd_ne fun z => by rw [z, hD6] at q; cases q]; exact q) fun a o u q => by rw [upd_ne fun z => by rw [z, hD6] at q; cases q]; exact q
                    exact ⟨vacc, hD6, len, ρ6, h6, acc ++ [u], vacc ++ [v6], us, by rw [ea, List.append_assoc]; rfl, qr, RH.beside (F := FX X C We) rh6 hD6 fr6, xx.beside hD hD6, upd_same, fr6, (mms ra6).append (.cons (mm rv6) .nil)⟩
end
end Fw

set_option Elab.async false
set_option linter.all false
set_option maxRecDepth 100000
set_option maxHeartbeats 1000000
/-! Fw, part H: defs and their calls, where no text of an object is being made (the guards' list is empty: repr asks it). -/
namespace Fw
open PySem PySem.Spec PyProof.Rows L2
/-- a def keeps a promise, where nothing is being written out -/
structure FnG (P : Program) (w : World) (K : PySem.W.Frag) (mg : Str → Option Value) (base : Heap) (CX : CXT) (k : Nat) (f : Addr) (fd : FuncData) (ps : List Str) (sp : Sp) : Prop where
  len : ∀ vs H Q E, sp vs H Q E → vs.length = ps.length
  run : ∀ (A : Around) (outer : List PySem.Env) (s : Shared) (H : Hp) (args : Args) (us : List Value) (vs : List V) (Q : VK) (E : XK),
    A.guards = some [] → Room k A → Env0 P w K mg base A outer s H → BindsTo s fd args (ps.zip us) → Vals vs us → sp vs H Q E → codeAny (model P w) A (.call (.ref f) args) (CR CX outer P w H s Q E) s
theorem FnG.mono {P : Program} {w : World} {K : PySem.W.Frag} {mg : Str → Option Value} {base : Heap} {CX : CXT} {j k : Nat} {f : Addr} {fd : FuncData} {ps : List Str} {sp : Sp} (F : FnG P w K mg base CX j f fd ps sp) (h : j ≤ k) : FnG P w K mg base CX k f fd ps sp :=
  ⟨F.len, fun A outer s H args us vs Q E g hr => F.run A outer s H args us vs Q E g (hr.mono h)⟩
/-- by the def's body -/
theorem FnG.of {CX : CXT} {P : Program} {w : World} {K : PySem.W.Frag} {mg : Str → Option Value} {base : Heap} {k : Nat} {f : Addr} {name qual : Str} {params : Arguments} {body : List Stmt} {scope : Scope} {dV kV doc pm cdv ct oc : Value} {an od : Option Addr}
    {osl : Array (Option Value)} {N ps : List Str} {sp : Sp} (found : K.lookup f = some ⟨oc, od, .func (PySem.W.fnOf name qual params body scope dV kV doc pm an cdv ct), osl⟩) (code : PySem.W.codeIn K cdv qual = true) (S : FnScope N ps scope)
    (len : ∀ vs H Q E, sp vs H Q E → vs.length = ps.length)
    (B : ∀ (A : Around) (outer : List PySem.Env) (s : Shared) (H : Hp) (vs : List V) (Q : VK) (E : XK), A.guards = some [] → Room k (A.deeper (envOfC qual scope s.heap.objs.size f cdv)) → sp vs H Q E →
      ∃ t, PSs (cxOf CX P w K mg base N qual scope f cdv A outer s H E) body t ∧ t { nx := fun _ H' => Q .non H', rt := Q } (start N vs) H) :
    FnG P w K mg base CX (k + 1) f (PySem.W.fnOf name qual params body scope dV kV doc pm an cdv ct) ps sp where
  len := len
  run := fun A outer s H args us vs Q E g hr e0 hb r q => by
    have keepB : ∀ b o, base.get? b = some o → s.heap.get? b = some o := fun b o e => (e0.bs b o e).1
    have inK : K.In s.heap := e0.mod.kin.keeps keepB
    have free : s.heap.NoLimit := e0.mod.nolimit.keeps keepB
    have kinds : ∀ y ∈ ps.zip us, scope.names.lookup y.1 = some .local ∨ (scope.names.lookup y.1 = some .cell ∧ ((cellsFrom (s.heap.objs.size + 1) scope.names []).lookup y.1).isSome = true) := fun y hy =>
      (S.par y.1 (List.of_mem_zip (a := y.1) (b := y.2) hy).1).imp id fun c => ⟨c, PySem.W.cellsFrom_some _ _ _ (.inl c)⟩
    refine codeAny_call_function hr.depth (inK _ _ found) rfl S.co S.gen rfl (PySem.W.codeRec_of inK code) (hb _ _ _ _ (wpAny_newFunctionEnv_cells S.kind kinds fun env he s1 x => ?_))
    subst he
    obtain ⟨t, body_, reads⟩ := B A outer s H vs Q E g (hr.deeper _) q
    have I0 := inv_start (CX := CX) (P := P) (w := w) (K := K) (mg := mg) (base := base) (N := N) (E := E) S hr.hd e0 (len _ _ _ _ q) r x
    refine ⟨free.keeps x.toInCall.keep, codeAny_func (wpAny_mono (body_.run [] s1 (start N vs) H _ I0 reads) (fun fl s' ends => ?_) fun e s' out => out)⟩
    match fl, ends with
    | .ret u, ⟨v, σ', H', J, rv, q'⟩ => exact ⟨v, H', J.os, J.bare, J.base, J.hok, rv, q'⟩
    | .next, ⟨σ', H', J, q'⟩ => exact ⟨V.non, H', J.os, J.bare, J.base, J.hok, rfl, q'⟩
    | .brk, ⟨_, _, _, q'⟩ => exact q'.elim
    | .cont, ⟨_, _, _, q'⟩ => exact q'.elim
section
variable {X : Cx} {CX : CXT} {k : Nat} {f : Addr} {fd : FuncData} {ps : List Str} {sp : Sp} {E : L2.St → XK} {x m : Str} {p pos apos : Pos} {e o : Expr} {es : List Expr} {ta : L2.TE} {t : L2.TA}
theorem runG {pins : List (Addr × Obj)} {σ : L2.St} {H : Hp} {s : Shared} {Q : VK} {us : List Value} {vs : List V} (F : FnG X.prog X.w X.K X.mg X.base CX k f fd ps sp) (g : X.A.guards = some []) (hr : Room k X.A) (hb : Binds X.K fd ps []) (hx : PassesAt CX X σ (E σ))
    (I : L2.Inv X pins σ H s) (r : Vals vs us) (q : sp vs H Q (E σ)) : wpAny (model X.prog X.w) X.A (PySem.call (.ref f) us) (EP X pins σ Q) X.xe s := by
  have n : us.length = ps.length := r.length.symm.trans (F.len _ _ _ _ q)
  have b : BindsTo s fd ⟨us, []⟩ (ps.zip us) := by simpa using hb s us I.kIn (by simpa using n)
  refine wpAny_call (codeAny_mono (F.run X.A X.stack s H ⟨us, []⟩ us vs Q (E σ) g hr I.env0 b r q) fun r s' out => ?_)
  match r, out with
  | .error e, out => exact hx pins H s e s' I out
  | .ok (.ret u), out => exact I.after out
  | .ok .next, out => exact False.elim out
  | .ok .brk, out => exact False.elim out
  | .ok .cont, out => exact False.elim out
def tCallG (sp : Sp) (E : L2.St → XK) (t : L2.TA) : L2.TE := fun σ H Q => t σ H fun vs H1 => sp vs H1 Q (E σ)
theorem pe_callG (F : FnG X.prog X.w X.K X.mg X.base CX k f fd ps sp) (g : X.A.guards = some []) (hr : Room k X.A) (hg : Gl X x) (hm : X.mg x = some (.ref f)) (hk : PySem.W.keepIn X.K (.ref f) = true) (hb : Binds X.K fd ps []) (hx : ∀ σ, PassesAt CX X σ (E σ))
    (ha : PA X (e :: es) t) (hdb : (x == ("__debug__" : Str)) = false) (he : starEach (e :: es) X.env = (false, eval e X.env) :: starEach es X.env) (hpl : (backTo pos (starEach es X.env)).any (·.1) = false) : PE X (.Call (.Name x p) (e :: es) [] pos) (tCallG sp E t) :=
  ⟨fun pins s σ H Q I h => wpAny_Call_Name_kw (ld_glob I hg hm (PySem.W.callWith_K (h₀ := X.base) I.ok.mod.kin hk (thn (ha.run pos pins s σ H _ I h) fun us s1 ⟨vs, H1, I1, r, q⟩ => ⟨I1.kIn, runG F g hr hb (hx σ) I1 r q⟩) he hpl) hdb)⟩
theorem pe_callG0 (F : FnG X.prog X.w X.K X.mg X.base CX k f fd ps sp) (g : X.A.guards = some []) (hr : Room k X.A) (hg : Gl X x) (hm : X.mg x = some (.ref f)) (hk : PySem.W.keepIn X.K (.ref f) = true) (hb : Binds X.K fd ps []) (hx : ∀ σ, PassesAt CX X σ (E σ))
    (hdb : (x == ("__debug__" : Str)) = false) : PE X (.Call (.Name x p) [] [] pos) (tCallG sp E tNil) :=
  ⟨fun pins s σ H Q I h => wpAny_Call_Name_kw (ld_glob I hg hm (PySem.W.callWith_K0 I.kIn hk (runG (us := []) F g hr hb (hx σ) I .nil h)) hdb)⟩
end
/-! ### the law's own call -/
theorem lawG {P : Program} {w : World} {K : PySem.W.Frag} {mg mb : Str → Option Value} {CX : CXT} {k : Nat} {fa a : Addr} {fd : FuncData} {x : Str} {sp : Sp} {s₁ : Shared} {vs : List Value} {ns : List Int}
    (inK : K.In s₁.heap) (hns : s₁.heap.Ns mainGlobals mg) (hb : s₁.heap.Ns builtinsNs mb) (hbb : ∀ x : Str, x ≠ "__name__" → mb x = bootBuiltins x) (hlim : s₁.heap.NoLimit) (hg : s₁.gens = #[])
    (ha : s₁.heap.get? a = some { cls := .type "list", data := .seq vs.toArray }) (hi : IntsAre vs ns) (hl : ns.length ≤ sizeLine) (hr : Room k callerA) (hk1 : K.lookup sysModules = none) (hs1 : ∃ o, s₁.heap.get? sysModules = some o ∧ o.cls = .type "dict")
    (F : ∀ base : Heap, K.In base → base.Ns mainGlobals mg → FnG P w K mg base CX k fa fd [x] sp) (hbind : ∀ (s : Shared) (u : Value), BindsTo s fd ⟨[u], []⟩ [(x, u)])
    (hsp : ∀ H : Hp, SysH H → RoL K H a (ns.map V.int) → sp [.ref a] H (fun v _ => v = .bl true) fun _ _ _ => False)
    (hCX : ∀ H e s', CX [] H s₁ (fun _ _ _ => False) e s' → False) :
    codeAny (model P w) callerA (.call (.ref fa) ⟨[.ref a], []⟩) (fun r s' => r = .ok (.ret (.bool true)) ∧ OldK s₁.heap s'.heap ∧ s'.os = s₁.os ∧ AllBare s'.gens) s₁ := by
  have rv := vals_ints hi
  have n := hi.length
  let ob : Obj := { cls := .type "list", data := .seq vs.toArray }
  obtain ⟨od, hod, hcd⟩ := hs1
  have an : a ≠ sysModules := fun z => by rw [z, hod] at ha; cases ha; exact absurd (show (Value.type "list" : Value) = .type "dict" from hcd) (by decide)
  let φ : Heap → Prop := fun h => h.get? sysModules = some od
  -- H tracks the script, where it is none of the module's own objects, and the modules' dict
  have main : ∀ H : Hp, (∀ b u, H b = some u → (b = a ∧ K.lookup a = none ∧ u = .frz ob (.lst (ns.map V.int))) ∨ (b = sysModules ∧ u = .frz od (.ext φ))) → HOk P w H s₁.heap → SysH H → RoL K H a (ns.map V.int) →
      codeAny (model P w) callerA (.call (.ref fa) ⟨[.ref a], []⟩) (fun r s' => r = .ok (.ret (.bool true)) ∧ OldK s₁.heap s'.heap ∧ s'.os = s₁.os ∧ AllBare s'.gens) s₁ := by
    intro H only ok hY hS
    have bare_ : ∀ {b : Addr} {o : Obj}, s₁.heap.get? b = some o → (b = a → K.lookup a ≠ none ∨ o ≠ ob) → b ≠ sysModules → H b = none := fun {b o} e d d1 => by
      cases q : H b with
      | none => rfl
      | some u =>
        rcases only b u q with ⟨rfl, q2, _⟩ | ⟨z, _⟩
        · rcases d rfl with z | z
          · exact absurd q2 z
          · exact absurd (Option.some.inj (e.symm.trans ha)) z
        · exact absurd z d1
    have ns_ : ∀ {b : Addr} {m : Str → Option Value}, b ≠ sysModules → s₁.heap.Ns b m → (hidT s₁.heap H).Ns b m := fun d1 ⟨o, es, ep, e, d, r⟩ =>
      ⟨o, es, ep, hidT_get e (bare_ e (fun _ => .inr fun z => by rw [z] at d; cases d) d1), d, r⟩
    have kin : K.In (hidT s₁.heap H) := fun b o e => hidT_get (inK b o e) (bare_ (inK b o e) (fun z => .inl fun q => by rw [z, q] at e; cases e) fun z => by rw [z, hk1] at e; cases e)
    have hM : Mod K mg (hidT s₁.heap H) := ⟨kin, ns_ (by decide) hns, ⟨mb, ns_ (by decide) hb, hbb⟩, let ⟨mc, h1, h2⟩ := hlim; ⟨mc, ns_ (by decide) h1, h2⟩⟩
    have e0 : Env0 P w K mg (hidT s₁.heap H) callerA [] s₁ H := ⟨rfl, hM, fun b o e => of_hidT e, Nat.le_of_eq (hidT_size _ _), trivial, fun b z => absurd (show b ∈ ([] : List Addr) from z) (by simp), ok, .of_eq hg⟩
    refine codeAny_mono ((F _ kin (ns_ (by decide) hns)).run callerA [] s₁ H ⟨[.ref a], []⟩ [.ref a] [.ref a] _ _ rfl hr e0 (hbind s₁ (.ref a)) (.cons rfl .nil) (hsp H hY hS)) fun r s' out => ?_
    match r, out with
    | .error e, out => exact (hCX H e s' out).elim
    | .ok .next, out => exact False.elim out
    | .ok .brk, out => exact False.elim out
    | .ok .cont, out => exact False.elim out
    | .ok (.ret u), ⟨v, H', os, bare, un, ok', r', q⟩ =>
      cases q
      cases r'
      refine ⟨rfl, OldK.of_keep fun b o e => ?_, os, bare⟩
      cases q : H b with
      | none => exact un.keep b o e q (fun z => absurd (show b ∈ ([] : List Addr) from z) (by simp)) (by simp)
      | some u =>
        have fz : ∃ o' u', u = .frz o' u' := by
          rcases only b u q with ⟨_, _, z⟩ | ⟨_, z⟩
          · exact ⟨_, _, z⟩
          · exact ⟨_, _, z⟩
        obtain ⟨o', u', rfl⟩ := fz
        have e1 := (ok b _ q).1
        have e2 := (ok' b _ (un.frzs b o' _ q)).1
        exact e2.trans (e1.symm.trans e)
  have oks : ObjOk P w (fun _ => none) s₁.heap sysModules (.ext φ) := ⟨hod, ⟨od, hod⟩, fun h1 h2 e k => k od e⟩
  have sysOk : ∀ H : Hp, ObjOk P w H s₁.heap sysModules (.frz od (.ext φ)) := fun H => ⟨hod, hod, ⟨od, hod⟩, fun h1 h2 e k => k od e⟩
  cases hk : K.lookup a with
  | some o =>
    have e := (inK a o hk).symm.trans ha
    have one : ∀ b u, (if b = sysModules then some (HO.frz od (.ext φ)) else none) = some u → b = sysModules ∧ u = .frz od (.ext φ) := fun b u z => by
      by_cases e : b = sysModules
      · rw [if_pos e] at z; cases z; exact ⟨e, rfl⟩
      · rw [if_neg e] at z; cases z
    refine main (fun b => if b = sysModules then some (.frz od (.ext φ)) else none) (fun b u z => .inr (one b u z)) (fun b u z => ?_) ⟨od, φ, if_pos rfl⟩ (.inr ⟨o, vs.toArray, 0, hk, ?_⟩)
    · obtain ⟨rfl, rfl⟩ := one b u z
      exact sysOk _
    · cases e
      exact ⟨rfl, rfl, rfl, by rw [List.size_toArray, n]; exact hl, by simpa using rv⟩
  | none =>
    have one : ∀ b u, (if b = a then some (HO.frz ob (.lst (ns.map V.int))) else if b = sysModules then some (HO.frz od (.ext φ)) else none) = some u → (b = a ∧ u = .frz ob (.lst (ns.map V.int))) ∨ (b = sysModules ∧ u = .frz od (.ext φ)) := fun b u z => by
      by_cases e : b = a
      · rw [if_pos e] at z; cases z; exact .inl ⟨e, rfl⟩
      · rw [if_neg e] at z
        by_cases e2 : b = sysModules
        · rw [if_pos e2] at z; cases z; exact .inr ⟨e2, rfl⟩
        · rw [if_neg e2] at z; cases z
    refine main (fun b => if b = a then some (.frz ob (.lst (ns.map V.int))) else if b = sysModules then some (.frz od (.ext φ)) else none) (fun b u z => ?_) (fun b u z => ?_) ⟨od, φ, ?_⟩ (.inl ⟨ob, if_pos rfl⟩)
    · rcases one b u z with ⟨h1, h2⟩ | h
      · exact .inl ⟨h1, hk, h2⟩
      · exact .inr h
    · rcases one b u z with ⟨rfl, rfl⟩ | ⟨rfl, rfl⟩
      · exact ⟨ha, by rw [List.length_map]; exact hl, vs, _, rv, ha⟩
      · exact sysOk _
    · show (if sysModules = a then _ else if sysModules = sysModules then _ else _) = _
      rw [if_neg (Ne.symm an), if_pos rfl]
end Fw

set_option Elab.async false
set_option linter.all false
set_option maxRecDepth 100000
set_option maxHeartbeats 1000000
/-! Fw, part I: what is seen of a text alone, and the rest of the rules. -/
namespace Fw
open PySem PySem.Spec PyProof.Rows L2
/-! ### what is seen of a text alone -/
def noStar : Expr → Bool
  | .Starred _ _ => false
  | _ => true
theorem star_cons {e : Expr} {es : List Expr} {env : PySem.Env} (h : noStar e = true) : starEach (e :: es) env = (false, eval e env) :: starEach es env := by
  cases e <;> first | rfl | cases h
theorem star_back {pos : Pos} {env : PySem.Env} : ∀ {es : List Expr}, es.all noStar = true → (backTo pos (starEach es env)).any (·.1) = false
  | [], _ => rfl
  | e :: es, h => by
    obtain ⟨h1, h2⟩ := Bool.and_eq_true_iff.mp (show (noStar e && es.all noStar) = true from h)
    rw [star_cons h1]
    exact star_back h2
theorem star_few {pos : Pos} {env : PySem.Env} : ∀ {es : List Expr}, es.all noStar = true → (backTo pos (starEach es env)).all (fun x => !x.1) = true
  | [], _ => rfl
  | e :: es, h => by
    obtain ⟨h1, h2⟩ := Bool.and_eq_true_iff.mp (show (noStar e && es.all noStar) = true from h)
    rw [star_cons h1]
    exact star_few h2
theorem asg_cons {e : Expr} {es : List Expr} {env : PySem.Env} (h : noStar e = true) : assignEach (e :: es) env = (false, assign e env) :: assignEach es env := by
  cases e <;> first | rfl | cases h
theorem asg_len {env : PySem.Env} : ∀ {es : List Expr}, es.all noStar = true → (assignEach es env).length = es.length
  | [], _ => rfl
  | e :: es, h => by
    obtain ⟨h1, h2⟩ := Bool.and_eq_true_iff.mp (show (noStar e && es.all noStar) = true from h)
    rw [asg_cons h1]
    simp [asg_len h2]
theorem asg_plain {env : PySem.Env} : ∀ {es : List Expr}, es.all noStar = true → (assignEach es env).findIdx? (·.1) = none
  | [], _ => rfl
  | e :: es, h => by
    obtain ⟨h1, h2⟩ := Bool.and_eq_true_iff.mp (show (noStar e && es.all noStar) = true from h)
    rw [asg_cons h1, List.findIdx?_cons]
    simp [asg_plain h2]
/-- as a test it is its value's truth -/
def plainT : Expr → Bool
  | .UnaryOp .. => false
  | .BoolOp .. => false
  | .IfExp .. => false
  | .Compare .. => false
  | _ => true
theorem plainT_ok {e : Expr} {env : PySem.Env} (h : plainT e = true) (whole : Sem Value) : isTrue e env whole = (do let v ← whole; standAt e.pos; holding [v] (truthy v)) := by
  cases e <;> first | rfl | cases h
/-- no call of super -/
def noSup : Expr → Bool
  | .Call (.Attribute _ _ _) [] [] _ => true
  | .Call _ [] [] _ => false
  | _ => true
theorem base_ok {e : Expr} {m : Str} {env : PySem.Env} (h : noSup e = true) : attributeBase e m env (eval e env) = eval e env := by
  cases e with
  | Call f as ks p =>
    cases as with
    | cons a as => cases f <;> rfl
    | nil =>
      cases ks with
      | nil => cases f <;> first | rfl | cases h
      | cons k ks => cases f <;> rfl
  | _ => rfl
def noSet : Expr → Bool
  | .Set _ _ _ => false
  | _ => true
theorem set_ok_ {e : Expr} {op : CmpOp} (h : noSet e = true) : behindInMarks op e = false := by
  cases e <;> first | rfl | cases h
theorem fold_ok {e : Expr} {env : PySem.Env} (h : noSet e = true) (x : Value) : foldedSetIterable e env x = pure x := by
  cases e <;> first | rfl | cases h
theorem last_ok {op op' : CmpOp} {b c : Expr} (h : noSet c = true) : lastMarks [op, op'] [b, c] = false := set_ok_ h
/-- no comprehension -/
def noComp : Expr → Bool
  | .ListComp .. => false
  | .SetComp .. => false
  | .DictComp .. => false
  | _ => true
theorem swaps_ok {e : Expr} {tg : Option Expr} {l : Nat} {env : PySem.Env} (h : noComp e = true) : swapsWith e tg l env = pure false := by
  cases e <;> first | rfl | cases h
/-- an index that is no slice -/
def noSlice : Expr → Bool
  | .Slice .. => false
  | .Tuple .. => false
  | .Constant .. => true
  | _ => true
theorem ix_plain {e : Expr} (h : noSlice e = true) : PlainIx e := by
  intro o i
  cases e <;> first | rfl | cases h
def noTup : Expr → Bool
  | .Tuple .. => false
  | _ => true
/-- a target that is no display -/
def noTL : Expr → Bool
  | .Tuple .. => false
  | .List .. => false
  | _ => true
/-- a display of two or three in a display of as many names is another statement -/
theorem stores_ok {tg e : Expr} {env : PySem.Env} (h : noTup e = true) : swappedStores [tg] e env = pure none := by
  unfold swappedStores
  cases tg <;> cases e <;> first | rfl | cases h
theorem stores_ok2 {tg e : Expr} {env : PySem.Env} (h : noTL tg = true) : swappedStores [tg] e env = pure none := by
  unfold swappedStores
  cases tg <;> first | rfl | cases h
theorem rvs_nats {K : PySem.W.Frag} {ρ : Nat → Addr} {n : Nat} {H : Hp} (m : Nat) : RVs K ρ n H ((List.range m).map fun i => W.int (i : Nat)) ((List.range m).map fun i => V.int (0 + (i : Nat))) := by
  generalize List.range m = l
  induction l with
  | nil => exact .nil
  | cons a r ih => rw [List.map_cons, List.map_cons, Int.zero_add]; exact .cons .int ih
/-! ### kinds -/
section
variable {X : Cx} {C : Nat → Addr} {We : Nat → L2.St → Hp → Prop} {a b c : Expr} {pos : Pos} {fa fb fc : EE} {e : Expr} {es : List Expr}
/-- isinstance(x, T) -/
theorem c_isi {cl : Expr} {p : Pos} {u : Ty} (hu : isOwn u = false) (hg : Gl X "isinstance") (hm : X.mg "isinstance" = none) (ha : PE X a (TI (FX X C We) fa)) (hc : PE X cl (tC (.ty (tyN u)))) (h1 : noStar a = true) (h2 : noStar cl = true) :
    PE X (.Call (.Name "isinstance" p) [a, cl] [] pos) (TI (FX X C We) (e1 (oIsi [u]) fa)) :=
  PEmono (pe_callB call_isi hg hm (by rfl) (pa_cons ha (pa_cons hc pa_nil (star_cons h2)) (star_cons h1)) (by decide) (by decide) (star_cons h1) (star_back (by simp [h2]))) fun σ H Q ⟨ρ, e, h, rh, re, p⟩ =>
    TG_.bind (k := oIsi [u]) rh re p fun ρ1 x h1 v H1 rh1 re1 x1 rv p1 => by
      unfold oIsi at p1
      cases q : tyOf h1 x with
      | none => rw [q] at p1; exact p1.elim
      | some t =>
        rw [q] at p1
        obtain ⟨ho, p1⟩ := need_inv p1
        have ho' : isOwn t = false := by simpa using ho
        have z := kit_anyT (K := X.K) ho' [u] (by simp [hu])
        refine ⟨v, .ty (tyN u), _, _, isTy t u, rfl, .ty _, ty_ok rh1 rv q ho', ?_, ?_⟩
        · exact kit_ty (kit_tab t u ho' hu)
        · have p2 := post_same rh1 p1 .bl
          simpa using p2
/-- isinstance(x, (T, U)) -/
theorem c_isi2 {c1 c2 : Expr} {p tp : Pos} {kk : Nat} {u t : Ty} (hu : isOwn u = false) (ht : isOwn t = false) (hg : Gl X "isinstance") (hm : X.mg "isinstance" = none) (ha : PE X a (TI (FX X C We) fa)) (hc1 : PE X c1 (tC (.ty (tyN u)))) (hc2 : PE X c2 (tC (.ty (tyN t)))) (h1 : noStar a = true) (n1 : noStar c1 = true) (n2 : noStar c2 = true) :
    PE X (.Call (.Name "isinstance" p) [a, .Tuple [c1, c2] kk tp] [] pos) (TI (FX X C We) (e1 (oIsi [u, t]) fa)) :=
  PEmono (pe_callB call_isiT hg hm (by rfl) (pa_cons ha (pa_cons (pe_tup (pa_cons hc1 (pa_cons hc2 pa_nil (star_cons n2)) (star_cons n1))) pa_nil (star_cons rfl)) (star_cons h1)) (by decide) (by decide) (star_cons h1) (star_back (by simp [noStar]))) fun σ H Q ⟨ρ, e, h, rh, re, p⟩ =>
    TG_.bind (k := oIsi [u, t]) rh re p fun ρ1 x h1 v H1 rh1 re1 x1 rv p1 => by
      unfold oIsi at p1
      cases q : tyOf h1 x with
      | none => rw [q] at p1; exact p1.elim
      | some t' =>
        rw [q] at p1
        obtain ⟨ho, p1⟩ := need_inv p1
        have ho' : isOwn t' = false := by simpa using ho
        have z := kit_anyT (K := X.K) ho' [u, t] (by simp [hu, ht])
        refine ⟨by show 2 ≤ sizeLine; rw [sizeLine_eq]; omega, fun tp htp => ?_⟩
        have xt : Ext ρ1 ρ1 h1.n h1.n H1 (upd H1 tp (.tup [.ty (tyN u), .ty (tyN t)])) := ⟨Nat.le_refl _, fun _ _ => rfl, fun b o e k => ⟨by rw [upd_ne (ne_of_none e htp)]; exact e, k⟩, fun b xs e => by rw [upd_ne (ne_of_none e htp)]; exact e, fun b o xs e => by rw [upd_ne (ne_of_none e htp)]; exact e⟩
        have rt : RH X.K C ρ1 h1 (upd H1 tp (.tup [.ty (tyN u), .ty (tyN t)])) := ⟨fun i c e => (rh1.cell i c e).mono xt.le xt.same xt.tups xt.frzs fun m o ho => by rw [upd_ne (rh1.fresh htp i c e m)]; exact ho, rh1.inj, rh1.full, sys_new rh1.sys htp⟩
        exact ⟨v, tp, [.ty (tyN u), .ty (tyN t)], _, [.type (tyN u), .type (tyN t)], _, rfl, upd_same, .cons (.ty _) (.cons (.ty _) .nil), ty_ok rt (xt.rv rv) q ho', z, p1 ρ1 _ _ xt rt .bl⟩
/-- list(range(a, b)) -/
theorem rvs_from {K : PySem.W.Frag} {ρ : Nat → Addr} {n : Nat} {H : Hp} (i : Int) (m : Nat) : RVs K ρ n H ((List.range m).map fun k => W.int (i + (k : Nat))) ((List.range m).map fun k => V.int (i + (k : Nat))) := by
  generalize List.range m = l
  induction l with
  | nil => exact .nil
  | cons a r ih => rw [List.map_cons, List.map_cons]; exact .cons .int ih
theorem c_lrg2 {p p2 pos2 : Pos} (hc : X.calm = true) (hg : Gl X "list") (hm : X.mg "list" = none) (hg2 : Gl X "range") (hm2 : X.mg "range" = none) (ha : PE X a (TI (FX X C We) fa)) (hb : PE X b (TI (FX X C We) fb)) (h1 : noStar a = true) (h2 : noStar b = true) :
    PE X (.Call (.Name "list" p) [.Call (.Name "range" p2) [a, b] [] pos2] [] pos) (TI (FX X C We) (e2 oListRange2 fa fb)) :=
  PEmono (pe_listRg hc hg hm (prg_2 hg2 hm2 ha hb (star_cons h1) (star_cons h2) (star_back (by simp [h2])))) fun σ H Q ⟨ρ, e, h, rh, re, p⟩ =>
    TG_.bind (k := fun x h => (fb e h).bind fun y h => oListRange2 x y h) rh re p fun ρ1 x h1 v H1 rh1 re1 x1 rv p1 =>
      TG_.bind (k := fun y h => oListRange2 x y h) rh1 re1 p1 fun ρ2 y h2 u H2 rh2 re2 x2 ru p2 => by
        cases rv <;> first | exact False.elim p2 | skip
        case int m =>
          cases ru <;> first | exact False.elim p2 | skip
          case int n =>
            obtain ⟨hn, p2⟩ := need_inv p2
            obtain ⟨q1, q2⟩ := Bool.and_eq_true_iff.mp hn
            obtain ⟨q3, q4⟩ := Bool.and_eq_true_iff.mp q1
            have q2 := of_decide_eq_true q2
            have q3 := small_of q3
            have q4 := small_of q4
            exact ⟨m, n, rfl, rfl, ⟨by omega, by omega, by omega, by omega, by omega⟩, post_lst rh2 (rvs_from m (n - m).toNat) p2⟩
/-- list(range(n)) -/
theorem c_lrg {p p2 pos2 : Pos} (hc : X.calm = true) (hg : Gl X "list") (hm : X.mg "list" = none) (hg2 : Gl X "range") (hm2 : X.mg "range" = none) (ha : PE X a (TI (FX X C We) fa)) (h1 : noStar a = true) :
    PE X (.Call (.Name "list" p) [.Call (.Name "range" p2) [a] [] pos2] [] pos) (TI (FX X C We) (e1 oListRange fa)) :=
  PEmono (pe_listRg hc hg hm (prg_1 hg2 hm2 ha (star_cons h1))) fun σ H Q ⟨ρ, e, h, rh, re, p⟩ =>
    TG_.bind (k := oListRange) rh re p fun ρ1 x h1 v H1 rh1 re1 x1 rv p1 => by
      cases rv <;> first | exact False.elim p1 | skip
      case int n =>
        obtain ⟨hn, p1⟩ := need_inv p1
        obtain ⟨h1, h2⟩ := Bool.and_eq_true_iff.mp hn
        have hn : n < 1000000 := of_decide_eq_true h2
        obtain ⟨h3, h4⟩ := Bool.and_eq_true_iff.mp h1
        have h3 := of_decide_eq_true h3
        refine ⟨n, rfl, ⟨by omega, by omega, by omega, by omega, by omega⟩, post_lst rh1 ?_ p1⟩
        unfold rgV
        rw [Int.sub_zero]
        exact rvs_nats _
/-- {k: v, ..} -/
theorem dic_ok {F : Fx} {σ : L2.St} {en : Env} {p : Addr} {ρ0 : Nat → Addr} {n0 : Nat} {H0 : Hp} {Q : VK} (h0 : H0 p = none) : ∀ (fgs : List (EE × EE)) (ρ : Nat → Addr) (h : IH) (H : Hp) (d : List (Key × W)) (es : List (Key × V)) (R : List (V × V) → Hp → Prop),
    RH F.K F.C ρ h H → REnv F.K ρ h.n H en σ → H p = some (.dK []) → (∀ i, i < h.n → ρ i ≠ p) → RKs F.K ρ h.n H d es → Ext ρ0 ρ n0 h.n H0 H → Post F (RV F.K) σ ρ0 n0 H0 ((eDic.go en fgs h d).bind fun d h => .ok (.loc h.n) (h.new (.dk d))) Q →
    (∀ (kvs : List (Key × V)) (H2 : Hp), H2 p = some (.dK []) → kvs.length ≤ fgs.length → Q (.ref p) (upd H2 p (.dK (mergeK es kvs))) → R (kvs.map fun kv => (kV kv.1, kv.2)) H2) → tPairs (fgs.map fun q => (TI F q.1, TI F q.2)) σ H R
  | [], ρ, h, H, d, es, R, rh, re, hp, fr, rk, x, ps, k => by
    refine k [] H hp (Nat.le_refl _) ?_
    have ps : Post F (RV F.K) σ ρ0 n0 H0 (.ok (.loc h.n) (h.new (.dk d))) Q := ps
    have e : V.ref p = V.ref (rhoN ρ h.n p h.n) := by rw [rhoN_self]
    have le : h.n ≤ h.n + 1 := Nat.le_succ _
    have same : ∀ i, i < h.n → rhoN ρ h.n p i = ρ i := fun i hi => rhoN_lt hi
    have tu : ∀ a xs, H a = some (.tup xs) → upd H p (.dK es) a = some (.tup xs) := fun a xs q => by rw [upd_ne fun z => by rw [z, hp] at q; cases q]; exact q
    have fz : ∀ a o u, H a = some (.frz o u) → upd H p (.dK es) a = some (.frz o u) := fun a o u q => by rw [upd_ne fun z => by rw [z, hp] at q; cases q]; exact q
    refine ps (rhoN ρ h.n p) (.ref p) _ ⟨Nat.le_trans x.le le, fun i hi => by rw [rhoN_lt (Nat.lt_of_lt_of_le hi x.le)]; exact x.same i hi, fun a o q f => ⟨by rw [upd_ne (ne_of_none q h0)]; exact (x.frame a o q f).1, fun i (hi : i < h.n + 1) => ?_⟩, fun a xs q => tu a xs (x.tups a xs q), fun a o u q => fz a o u (x.frzs a o u q)⟩
      ⟨fun i c q => ?_, fun i j c1 c2 q1 q2 _ _ q => ?_, fun i hi => ?_, sys_upd rh.sys hp fun _ _ z => by cases z⟩ (by rw [e]; exact .loc (Nat.lt_succ_self _))
    · by_cases z : i = h.n
      · rw [z, rhoN_self]; exact (ne_of_none q h0).symm
      · rw [rhoN_lt (by omega)]; exact (x.frame a o q f).2 i (by omega)
    · rw [IH.get_new] at q
      by_cases z : i = h.n
      · rw [if_pos z] at q; cases q; rw [z, rhoN_self]; exact ⟨es, upd_same, rk.mono le same tu fz⟩
      · rw [if_neg z] at q
        rw [rhoN_lt (IH.get_lt q)]
        exact (rh.cell i c q).mono le same tu fz fun _ o ho => by rw [upd_ne (fr i (IH.get_lt q))]; exact ho
    · rw [IH.get_new] at q1 q2
      by_cases z1 : i = h.n
      · by_cases z2 : j = h.n
        · rw [z1, z2]
        · rw [if_neg z2] at q2
          rw [z1, rhoN_self, rhoN_lt (IH.get_lt q2)] at q
          exact absurd q.symm (fr j (IH.get_lt q2))
      · rw [if_neg z1] at q1
        by_cases z2 : j = h.n
        · rw [z2, rhoN_self, rhoN_lt (IH.get_lt q1)] at q
          exact absurd q (fr i (IH.get_lt q1))
        · rw [if_neg z2] at q2
          rw [rhoN_lt (IH.get_lt q1), rhoN_lt (IH.get_lt q2)] at q
          exact rh.inj i j c1 c2 q1 q2 (by assumption) (by assumption) q
    · by_cases z : i = h.n
      · exact ⟨.dk d, by rw [IH.get_new, if_pos z]⟩
      · obtain ⟨c, q⟩ := rh.full i (by have : i < h.n + 1 := hi; omega)
        exact ⟨c, by rw [IH.get_new, if_neg z]; exact q⟩
  | (f, g) :: r, ρ, h, H, d, es, R, rh, re, hp, fr, rk, x, ps, k => by
    have ps : Post F (RV F.K) σ ρ0 n0 H0 (((f en h).bind fun kw h => (g en h).bind fun v h => match keyOf kw with
      | some k => eDic.go en r h (dPut d k v)
      | none => .stuck).bind fun d h => .ok (.loc h.n) (h.new (.dk d))) Q := ps
    refine ⟨ρ, en, h, rh, re, ?_⟩
    show Post F (RV F.K) σ ρ h.n H (f en h) _
    cases q1 : f en h with
    | stuck => rw [q1] at ps; exact ps.elim
    | exc c h1 => rw [q1] at ps; exact fun ρ' H' y z => ps ρ' H' (x.trans y) z
    | ok kw h1 =>
      rw [q1] at ps
      have ps : Post F (RV F.K) σ ρ0 n0 H0 (((g en h1).bind fun v h => match keyOf kw with
        | some k => eDic.go en r h (dPut d k v)
        | none => .stuck).bind fun d h => .ok (.loc h.n) (h.new (.dk d))) Q := ps
      intro ρ1 v1 H1 x1 rh1 rv1
      refine ⟨ρ1, en, h1, rh1, re.ext x1, ?_⟩
      show Post F (RV F.K) σ ρ1 h1.n H1 (g en h1) _
      cases q2 : g en h1 with
      | stuck => rw [q2] at ps; exact ps.elim
      | exc c h2 => rw [q2] at ps; exact fun ρ' H' y z => ps ρ' H' ((x.trans x1).trans y) z
      | ok w2 h2 =>
        rw [q2] at ps
        have ps : Post F (RV F.K) σ ρ0 n0 H0 ((match keyOf kw with
          | some k => eDic.go en r h2 (dPut d k w2)
          | none => .stuck).bind fun d h => .ok (.loc h.n) (h.new (.dk d))) Q := ps
        intro ρ2 v2 H2 x2 rh2 rv2
        cases qk : keyOf kw with
        | none => rw [qk] at ps; exact ps.elim
        | some kk =>
          rw [qk] at ps
          have ek := keyOf_ok (F := F) rv1 qk
          obtain ⟨f1, f2⟩ := x1.frame p _ hp fr
          obtain ⟨f3, f4⟩ := x2.frame p _ f1 f2
          have x12 := x1.trans x2
          refine dic_ok h0 r ρ2 h2 H2 (dPut d kk w2) (putK es kk v2) _ rh2 ((re.ext x1).ext x2) f3 f4 (RKs.put (F := F) (rk.mono x12.le x12.same x12.tups x12.frzs) rv2) (x.trans x12) ps fun kvs H3 a1 a2 a3 => ?_
          subst ek
          exact k ((kk, v2) :: kvs) H3 a1 (by simp only [List.length_cons]; omega) a3
theorem c_dic {keys : List (Option Expr)} {values : List Expr} {fgs : List (EE × EE)} (h : PPs X pos keys values (fgs.map fun q => (TI (FX X C We) q.1, TI (FX X C We) q.2))) (hall : keys.all (·.isSome) = true) (hl : keys.length = values.length) (h0 : keys ≠ []) (h15 : keys.length ≤ 15) (hf : fgs.length = keys.length) :
    PE X (.Dict keys values pos) (TI (FX X C We) (eDic fgs)) := PEmono (pe_disp h hall hl h0 h15) fun σ H Q ⟨ρ, en, h, rh, re, ps⟩ p hp => by
  have xD : Ext ρ ρ h.n h.n H (upd H p (.dK [])) := ⟨Nat.le_refl _, fun _ _ => rfl, fun a o q k => ⟨by rw [upd_ne (ne_of_none q hp)]; exact q, k⟩, fun a xs q => by rw [upd_ne (ne_of_none q hp)]; exact q, fun a o u q => by rw [upd_ne (ne_of_none q hp)]; exact q⟩
  have rD : RH X.K C ρ h (upd H p (.dK [])) := ⟨fun i c q => (rh.cell i c q).mono xD.le xD.same xD.tups xD.frzs fun m o ho => by rw [upd_ne (rh.free hp i (IH.get_lt q))]; exact ho, rh.inj, rh.full, sys_new rh.sys hp⟩
  exact dic_ok (F := FX X C We) (Q := Q) hp fgs ρ h _ [] [] _ rD (re.ext xD) upd_same (rh.free hp) .nil xD ps fun kvs H2 a1 a2 a3 => ⟨a1, kvs, rfl, by omega, a3⟩
theorem c_dic0 : PE X (.Dict [] [] pos) (TI (FX X C We) (eDic [])) := PEmono pe_dnewK fun σ H Q ⟨ρ, e, h, rh, re, p⟩ => post_dk rh .nil p
/-! ### what is shown: data, with empty dicts -/
mutual
inductive DpE (K : PySem.W.Frag) (H : Hp) : V → PyData → Prop
  | non : DpE K H .non .none
  | bl (b : Bool) : DpE K H (.bl b) (.bool b)
  | int (i : Int) : DpE K H (.int i) (.int i)
  | str (x : Str) : DpE K H (.str x) (.str x)
  | lst {a : Addr} {xs : List V} {ds : List PyData} (s : SqL K H a xs) (r : DpEs K H xs ds) : DpE K H (.ref a) (.list ds)
  | tup {a : Addr} {xs : List V} {ds : List PyData} (s : SqT K H a xs) (r : DpEs K H xs ds) : DpE K H (.ref a) (.tuple ds)
  | dk0 {a : Addr} (e : H a = some (.dK [])) : DpE K H (.ref a) (.dict [])
inductive DpEs (K : PySem.W.Frag) (H : Hp) : List V → List PyData → Prop
  | nil : DpEs K H [] []
  | cons {v : V} {vs : List V} {d : PyData} {ds : List PyData} (a : DpE K H v d) (r : DpEs K H vs ds) : DpEs K H (v :: vs) (d :: ds)
end
section
variable {F : Fx} {ρ : Nat → Addr} {h : IH} {H : Hp}
mutual
theorem toDE_ok (rh : RH F.K F.C ρ h H) : ∀ (f : Nat) (w : W) (v : V) (d : PyData), RV F.K ρ h.n H w v → toDE f h w = some d → DpE F.K H v d
  | 0, _, _, _, _, e => by cases e
  | f + 1, _, _, d, .non, e => by cases e; exact .non
  | f + 1, _, _, d, .bl, e => by cases e; exact .bl _
  | f + 1, _, _, d, .int, e => by cases e; exact .int _
  | f + 1, _, _, d, .str, e => by cases e; exact .str _
  | f + 1, _, _, d, .ro _ _, e => by cases e
  | f + 1, _, _, d, .tup (ws := ws) (vs := vs) s r, e => by
    have e' : (match mapO (toDE f h) ws with
      | some ds => some (PyData.tuple ds)
      | none => none) = some d := e
    cases q : mapO (toDE f h) ws with
    | none => rw [q] at e'; cases e'
    | some ds => rw [q] at e'; cases e'; exact .tup s (toDEs_ok rh f ws vs ds r q)
  | f + 1, _, _, d, .loc (i := i) hi, e => by
    have e' : (match h.get i with
      | some (.lst ws) => (match mapO (toDE f h) ws with
        | some ds => some (PyData.list ds)
        | none => none)
      | some (.dk []) => some (PyData.dict [])
      | _ => none) = some d := e
    cases g : h.get i with
    | none => rw [g] at e'; cases e'
    | some c =>
      rw [g] at e'
      cases c with
      | lst ws =>
        obtain ⟨vs, e1, r⟩ := rh.lst g
        have e2 : (match mapO (toDE f h) ws with
          | some ds => some (PyData.list ds)
          | none => none) = some d := e'
        cases q : mapO (toDE f h) ws with
        | none => rw [q] at e2; cases e2
        | some ds => rw [q] at e2; cases e2; exact .lst (.inl (.inl e1)) (toDEs_ok rh f ws vs ds r q)
      | dk kvs =>
        cases kvs with
        | nil =>
          cases e'
          obtain ⟨es, e1, r⟩ := rh.dk g
          cases r
          exact .dk0 e1
        | cons _ _ => cases e'
      | dz _ => cases e'
      | ins _ _ => cases e'
      | err _ => cases e'
theorem toDEs_ok (rh : RH F.K F.C ρ h H) : ∀ (f : Nat) (ws : List W) (vs : List V) (ds : List PyData), RVs F.K ρ h.n H ws vs → mapO (toDE f h) ws = some ds → DpEs F.K H vs ds
  | _, [], _, ds, .nil, e => by cases e; exact .nil
  | f, w :: ws, _, ds, .cons (v := v) (vs := vs) a r, e => by
    rw [mapO_cons] at e
    cases q : toDE f h w with
    | none => rw [q] at e; cases e
    | some b =>
      rw [q] at e
      dsimp only at e
      have e2 := e
      cases q2 : mapO (toDE f h) ws with
      | none => rw [q2] at e2; cases e2
      | some s =>
        rw [q2] at e2; cases e2
        exact .cons (toDE_ok rh f w v b a q) (toDEs_ok rh f ws vs s r q2)
end
end
section
variable {pins : List (Addr × Obj)} {σ : L2.St} {H : Hp} {s : Shared}
theorem sq_sys (I : L2.Inv X pins σ H s) (sy : SysH H) {a : Addr} {xs : List V} (q : SqL X.K H a xs) : a ≠ sysModules := fun z => by
  subst z
  obtain ⟨o, φ, e⟩ := sy
  rcases q with (q | ⟨o', q⟩) | ⟨o', its, n, hk, _⟩
  · rw [e] at q; cases q
  · rw [e] at q; cases q
  · have z := (I.bs _ _ (I.mod.kin _ o' hk)).2
    rw [e] at z; cases z
mutual
theorem DpE.reads (I : L2.Inv X pins σ H s) (sy : SysH H) : ∀ (d : PyData) (v : V) (u : Value), DpE X.K H v d → RelV v u → ∃ as, Reads s.heap u d as ∧ sysModules ∉ as
  | .none, _, _, h, r => by cases h; cases r; exact ⟨_, .none, List.not_mem_nil⟩
  | .bool b, _, _, h, r => by cases h; cases r; exact ⟨_, .bool b, List.not_mem_nil⟩
  | .int i, _, _, h, r => by cases h; obtain ⟨t, e⟩ := r; subst e; exact ⟨_, .int i t, List.not_mem_nil⟩
  | .str x, _, _, h, r => by cases h; obtain ⟨t, e⟩ := r; subst e; exact ⟨_, .str x t, List.not_mem_nil⟩
  | .list ds, _, _, h, r => by
    cases h with
    | lst q rs =>
      cases r
      obtain ⟨its, rv, pl, _⟩ := I.list q
      obtain ⟨o, hg, hc, n, hd⟩ := pl.isList
      obtain ⟨as, rr, na⟩ := DpEs.reads I sy ds _ its rs rv
      exact ⟨_, .list hg hc hd rr, fun z => (List.mem_cons.mp z).elim (fun z => sq_sys I sy q z.symm) na⟩
  | .tuple ds, _, _, h, r => by
    cases h with
    | tup q rs =>
      cases r
      obtain ⟨its, rv, pl, _⟩ := I.tuple q
      obtain ⟨o, hg, hc, n, hd⟩ := pl
      obtain ⟨as, rr, na⟩ := DpEs.reads I sy ds _ its rs rv
      exact ⟨as, .tuple hg hc hd rr, na⟩
  | .dict kvs, _, _, h, r => by
    cases h with
    | dk0 e =>
      cases r
      obtain ⟨_, hn, vs, kv, o, es, ep, hg, hx, hd, _, hp, _⟩ := dk_of I.hok e
      cases kv
      have z : es.toList = [] := by generalize es.toList = l at hp; cases hp; rfl
      refine ⟨_, .dict (as := []) (bs := []) hg hx.1 hd (by rw [z]; exact .nil) (by rw [z]; exact .nil), fun m => ?_⟩
      have m := List.mem_singleton.mp m
      rw [← m] at hn
      exact absurd hn (by decide)
theorem DpEs.reads (I : L2.Inv X pins σ H s) (sy : SysH H) : ∀ (ds : List PyData) (vs : List V) (us : List Value), DpEs X.K H vs ds → Vals vs us → ∃ as, ReadsAll s.heap us ds as ∧ sysModules ∉ as
  | [], _, _, h, r => by cases h; cases r; exact ⟨_, .nil, List.not_mem_nil⟩
  | d :: ds, _, _, h, r => by
    cases h with
    | cons a rs =>
      cases r with
      | cons ra rr =>
        obtain ⟨as, z1, n1⟩ := DpE.reads I sy d _ _ a ra
        obtain ⟨bs, z2, n2⟩ := DpEs.reads I sy ds _ _ rs rr
        exact ⟨as ++ bs, .cons z1 z2, fun m => (List.mem_append.mp m).elim n1 n2⟩
end
end
/-- repr of data -/
def rRepr (K : PySem.W.Frag) : V → Hp → VK → Prop := fun x H Q => ∃ d, DpE K H x d ∧ SysH H ∧ d.showable = true ∧ d.depth ≤ 64 ∧ d.shown.length ≤ sizeLine ∧ Q (.str d.shown) H
theorem call_repr (g : X.A.guards = some []) (hu : X.A.units + 66 < cLine) : CallR X (.builtin "repr") (fun xs H Q => ∃ x, xs = [x] ∧ rRepr X.K x H Q) := by
  intro pins s σ H xs us Q I r h
  obtain ⟨x, rfl, d, hd, sy, hs, dp, hl, q⟩ := h
  obtain ⟨u, rfl, ru⟩ := Vals.one r
  obtain ⟨as, rd, na⟩ := DpE.reads I sy d x u hd ru
  have fin : ∀ (h' : Heap) (v : Tok) (tk : Nat), (∀ b o, s.heap.get? b = some o → h'.get? b = some o) → EP X pins σ Q (.str d.shown v) { s with heap := h', toks := tk } := fun h' v tk k => ⟨.str d.shown, H, I.kept k, ⟨v, rfl⟩, q⟩
  cases rd with
  | none => exact P.repr_of_none (fin s.heap _ _ fun _ _ z => z)
  | bool b => exact P.repr_of_bool (fin s.heap _ _ fun _ _ z => z)
  | int i t => exact P.repr_of_int (by simpa [PyData.showable] using hs) (fin s.heap _ _ fun _ _ z => z)
  | str y t => exact P.repr_of_str (fin s.heap _ _ fun _ _ z => z) hl
  | list a1 a2 a3 a4 => exact repr_of_reads' (.list a1 a2 a3 a4) hs (fun _ => na) g (by omega) (fun _ _ z => z) fin hl
  | tuple a1 a2 a3 a4 => exact repr_of_reads' (.tuple a1 a2 a3 a4) hs (fun _ => na) g (by omega) (fun _ _ z => z) fin hl
  | dict a1 a2 a3 a4 a5 => exact repr_of_reads' (.dict a1 a2 a3 a4 a5) hs (fun _ => na) g (by omega) (fun _ _ z => z) fin hl
theorem c_repr {p : Pos} (g : X.A.guards = some []) (hu : X.A.units + 66 < cLine) (hg : Gl X "repr") (hm : X.mg "repr" = none) (ha : PE X a (TI (FX X C We) fa)) (h1 : noStar a = true) : PE X (.Call (.Name "repr" p) [a] [] pos) (TI (FX X C We) (e1 oRepr fa)) :=
  PEmono (pe_callB (call_repr g hu) hg hm (by rfl) (pa_cons ha pa_nil (star_cons h1)) (by decide) (by decide) (star_cons h1) rfl) fun σ H Q ⟨ρ, e, h, rh, re, p⟩ =>
    TG_.bind (k := oRepr) rh re p fun ρ1 x h1 v H1 rh1 re1 x1 rv p1 => by
      unfold oRepr at p1
      cases q : datE h1 x with
      | none => rw [q] at p1; exact p1.elim
      | some d =>
        rw [q] at p1
        have p2 : Post (FX X C We) (RV X.K) σ ρ1 h1.n H1 (match PyData.showable d && lenOk d.shown.length && Nat.ble d.depth 64 with
          | true => .ok (.str d.shown) h1
          | false => .stuck) Q := p1
        cases z : PyData.showable d && lenOk d.shown.length && Nat.ble d.depth 64 with
        | false => rw [z] at p2; exact p2.elim
        | true =>
          rw [z] at p2
          simp only [Bool.and_eq_true] at z
          obtain ⟨⟨z1, z2⟩, z3⟩ := z
          exact ⟨v, rfl, d, toDE_ok rh1 _ _ _ _ rv q, rh1.sys, z1, Nat.le_of_ble_eq_true z3, lenOk_iff.mp z2, post_same rh1 p2 .str⟩
end
end Fw

set_option Elab.async false
set_option linter.all false
set_option maxRecDepth 100000
set_option maxHeartbeats 1000000
/-! Fw, part I2: methods, several names at once, calls of defs. -/
namespace Fw
open PySem PySem.Spec PyProof.Rows L2
def sPar2 (i j : Nat) (g : EA) : SS := fun e h => (g e h).st e fun ws h => match ws with
  | [v, w] => .nx ((e.set i (some v)).set j (some w)) h
  | _ => .stuck
def sPar3 (i j l : Nat) (g : EA) : SS := fun e h => (g e h).st e fun ws h => match ws with
  | [u, v, w] => .nx (((e.set i (some u)).set j (some v)).set l (some w)) h
  | _ => .stuck
/-- the names that are stored from the right -/
def parNames (sc : Scope) (ts : List Expr) : List Str := ts.filterMap fun t => match t with
  | .Name id pos => if sc.names.lookup id == some .local && pos.line == (ts.head?.map (·.pos.line)).getD 0 then some id else none
  | _ => none
def parOk (sc : Scope) (ts vs : List Expr) : Bool :=
  (ts.length == 2 || ts.length == 3) && vs.length == ts.length && (if sc.kind.isAnnotationScope then .function else sc.kind) == .function && vs.all noStar && (parNames sc ts).length == ts.length && (parNames sc ts).eraseDups.length == (parNames sc ts).length && !vs.all (foldedForSure 8) && !vs.all (constantsAlone 8)
theorem par_ok {sc : Scope} {ts vs : List Expr} {k k2 : Nat} {p p2 : Pos} {env : PySem.Env} (he : env.scope = sc) (h : parOk sc ts vs = true) : swappedStores [.Tuple ts k p] (.Tuple vs k2 p2) env = pure (some (parNames sc ts)) := by
  subst he
  unfold parOk at h
  simp only [Bool.and_eq_true, Bool.not_eq_true'] at h
  obtain ⟨⟨⟨⟨⟨⟨⟨h1, h2⟩, h3⟩, h4⟩, h5⟩, h6⟩, h7⟩, h8⟩ := h
  have h4' : (vs.any fun | .Starred .. => true | _ => false) = false := by
    rw [List.any_eq_false]
    intro e he
    have z := List.all_eq_true.mp h4 e he
    cases e with
    | Starred v p => cases z
    | _ => intro q; cases q
  have h3' : (env.blockKind != .function) = false := by
    unfold Env.blockKind
    simpa using h3
  have h2' : (vs.length != ts.length) = false := by simpa using h2
  have e : swappedStores [.Tuple ts k p] (.Tuple vs k2 p2) env = (if (!(ts.length == 2 || ts.length == 3) || vs.length != ts.length || env.blockKind != .function) = true then pure none else
    if (vs.any fun | .Starred .. => true | _ => false) = true then pure none else
    if ((parNames env.scope ts).length != ts.length || (parNames env.scope ts).eraseDups.length != (parNames env.scope ts).length) = true then pure none else
    if vs.all (foldedForSure 8) = true then pure none else
    if vs.all (constantsAlone 8) = true then (do unsupported "assign.tuple-of-constant-expressions:order-of-the-stores"; pure (some (parNames env.scope ts))) else pure (some (parNames env.scope ts))) := rfl
  rw [e, h1, h2', h3', h4', h7, h8]
  have h5' : ((parNames env.scope ts).length != ts.length) = false := by simpa using h5
  have h6' : ((parNames env.scope ts).eraseDups.length != (parNames env.scope ts).length) = false := by simpa using h6
  rw [h5', h6']
  rfl
section
variable {X : Cx} {C : Nat → Addr} {We : Nat → L2.St → Hp → Prop} {a b c : Expr} {pos : Pos} {fa fb fc : EE} {e : Expr} {es : List Expr}
theorem s_par2 {i j : Nat} {g : EA} {st : Stmt} (h : PS X st (tPar i j (TIA (FX X C We) g))) : PS X st (TIS (FX X C We) (sPar2 i j g)) :=
  PSmono h fun D σ H ⟨ρ, e, h, rh, re, p⟩ => TG_.bindS (RA := RVs X.K) rh re p fun ρ1 ws h1 vs H1 rh1 re1 x1 rv p1 => by
    cases rv with
    | nil => exact p1.elim
    | cons r1 r =>
      cases r with
      | nil => exact p1.elim
      | cons r2 r =>
        cases r with
        | nil => exact ⟨_, _, rfl, p1.nx_ rh1 ((re1.set r1).set r2)⟩
        | cons r3 r => exact p1.elim
theorem s_par3 {i j l : Nat} {g : EA} {st : Stmt} (h : PS X st (tPar3 i j l (TIA (FX X C We) g))) : PS X st (TIS (FX X C We) (sPar3 i j l g)) :=
  PSmono h fun D σ H ⟨ρ, e, h, rh, re, p⟩ => TG_.bindS (RA := RVs X.K) rh re p fun ρ1 ws h1 vs H1 rh1 re1 x1 rv p1 => by
    cases rv with
    | nil => exact p1.elim
    | cons r1 r =>
      cases r with
      | nil => exact p1.elim
      | cons r2 r =>
        cases r with
        | nil => exact p1.elim
        | cons r3 r =>
          cases r with
          | nil => exact ⟨_, _, _, rfl, p1.nx_ rh1 (((re1.set r1).set r2).set r3)⟩
          | cons r4 r => exact p1.elim
/-- d.get(k, x) -/
theorem c_get2 {apos : Pos} (hu : X.A.units + 1 < cLine) (ha : PE X a (TI (FX X C We) fa)) (hb : PE X b (TI (FX X C We) fb)) (hc : PE X c (TI (FX X C We) fc)) (h1 : noStar b = true) (h2 : noStar c = true) (h3 : noSup a = true) (h4 : (apos.endLine == pos.line) = true) :
    PE X (.Call (.Attribute a "get" apos) [b, c] [] pos) (TI (FX X C We) (eMt isDk mGet2 fa (aCons fb (aCons fc aNil)))) :=
  have m : M2 X a "get" apos b c pos := ⟨base_ok h3, by
    have z := star_few (pos := pos) (env := X.env) (es := [b, c]) (by simp [h1, h2])
    rw [z]; rfl, h4, by rw [star_cons h1, star_cons h2]; rfl⟩
  PEmono (pe_dget2 hu ha hb hc m) fun σ H Q ⟨ρ, e, h, rh, re, p⟩ =>
    TG_.bind (k := fun x h => .need (isDk x h) ((aCons fb (aCons fc aNil) e h).bind fun ws h => mGet2 (x :: ws) h)) rh re p fun ρ1 x h1 v H1 rh1 re1 x1 rv p1 => by
      obtain ⟨q, p1⟩ := need_inv p1
      obtain ⟨ad, vs, rfl, e1⟩ := isDk_ok rh1 rv q
      refine ⟨ad, rfl, .inl ⟨vs, .inl e1⟩, ?_⟩
      have p2 : Post (FX X C We) (RV X.K) σ ρ1 h1.n H1 ((fb e h1).bind fun y h => (fc e h).bind fun z h => mGet2 [x, y, z] h) Q := by
        have z : ((aCons fb (aCons fc aNil) e h1).bind fun ws h => mGet2 (x :: ws) h) = ((fb e h1).bind fun y h => (fc e h).bind fun z h => mGet2 [x, y, z] h) := by
          unfold aCons aNil
          cases fb e h1 with
          | ok y h2 =>
            show (Rs.bind (Rs.bind (fc e h2) _) _).bind _ = (fc e h2).bind _
            cases fc e h2 <;> rfl
          | _ => rfl
        rw [z] at p1; exact p1
      refine TG_.bind (k := fun y h => (fc e h).bind fun z h => mGet2 [x, y, z] h) rh1 re1 p2 fun ρ2 y h2 u H2 rh2 re2 x2 ru p3 => ?_
      refine TG_.bind (k := fun z h => mGet2 [x, y, z] h) rh2 re2 p3 fun ρ3 z h3 t H3 rh3 re3 x3 rt p4 => ?_
      have rx : RV X.K ρ3 h3.n H3 x (.ref ad) := (x2.trans x3).rv rv
      have ry := x3.rv ru
      generalize hv0 : V.ref ad = v0 at rx
      cases rx <;> first | exact False.elim p4 | skip
      case loc =>
        cases hv0
        rename_i i hi _
        have p5 : Post (FX X C We) (RV X.K) σ ρ3 h3.n H3 (match h3.get i with
          | some (.dk kvs) => (match keyOf y with
            | some k => (match dGet kvs k with
              | some w => .ok w h3
              | none => .ok z h3)
            | none => .stuck)
          | _ => .stuck) Q := p4
        cases g : h3.get i with
        | none => rw [g] at p5; exact p5.elim
        | some cc =>
          rw [g] at p5
          cases cc with
          | lst _ => exact p5.elim
          | dz _ => exact p5.elim
          | ins _ _ => exact p5.elim
          | err _ => exact p5.elim
          | dk kvs =>
            obtain ⟨es, g2, rk⟩ := rh3.dk g
            cases k : keyOf y with
            | none => simp only [k] at p5; exact p5.elim
            | some kk =>
              simp only [k] at p5
              have ek := keyOf_ok (F := FX X C We) ry k
              subst ek
              refine ⟨_, DGet.k g2, ?_⟩
              cases d : dGet kvs kk with
              | some w =>
                simp only [d] at p5
                obtain ⟨v2, hv, r2⟩ := RKs.get (F := FX X C We) rk d
                rw [hv]; exact post_same rh3 p5 r2
              | none =>
                simp only [d] at p5
                rw [RKs.getN (F := FX X C We) rk d]; exact post_same rh3 p5 rt
end
end Fw

set_option Elab.async false
set_option linter.all false
set_option maxRecDepth 100000
set_option maxHeartbeats 2000000
/-! Fw, part R: a built-in type called with a keyword. -/
namespace Fw
open PySem PySem.Spec PyProof.Rows L2
section
variable {P : Program} {w : World} {A : Around} {E : Value → Shared → Prop} {s : Shared}
/-- object.__init__ hands nothing on, whatever else it is told -/
theorem oinit_kw {T nid : String} {o : Value} {r : List Value} {kw : List (Str × Value)} (a1 : typeLookup (.type T) "__init__" = pure (some (.builtin "object.__init__")))
    (a2 : Bind.madeBy (.type T) = pure (some nid)) (a3 : (some nid != some "object.__new__") = true) :
    Meets (Builtin.«object.__init__» ⟨o :: r, kw⟩) (fun _ R t => t.TypeIs o T ∧ R (.ok (.ret .none)) t) := by
  refine Meets.of_wp fun pr wd Ar R t z => ?_
  obtain ⟨z1, z2⟩ := z
  cases r with
  | nil => cases kw with
    | nil => exact wpAny_pure ⟨_, rfl, z2⟩
    | cons k kw =>
      repeat (first | (any_goals assumption) | (any_goals wp_step))
      exact ⟨_, rfl, z2⟩
  | cons a r =>
    repeat (first | (any_goals assumption) | (any_goals wp_step))
    exact ⟨_, rfl, z2⟩
theorem ty_kw {T nid : String} {B : Builtin} {as : List Value} {kw : List (Str × Value)} {S : PySem.Spec} {Q : Value → Shared → Prop} (ft : TypeCalled T nid "object.__init__") (a3 : (some nid != some "object.__new__") = true)
    (c1 : checkTypeCall T ⟨as, kw⟩ = pure ()) (c2 : checkBuiltinCall nid ⟨.type T :: as, kw⟩ = pure ()) (c3 : ∀ o, argsOk "object.__init__" ⟨o :: as, kw⟩) (en : entryFor table nid = some B) (g : Meets (B ⟨.type T :: as, kw⟩) S)
    (k : S A.in1 (wants (fun o t => t.TypeIs o T ∧ Q o t) E) s) : wpAny (model P w) A (call (.type T) as kw) Q E s := by
  obtain ⟨mc, mt, m0⟩ := ft.mro
  have m1 := ft.made
  have m2 := ft.sub
  have m3 := ft.notType
  have m4 := ft.canCreate
  refine wpAny_call (codeAny_of_tree (show wpAny _ _ (callAny (.type T) _) _ _ _ from wpAny_pure ⟨Code.quiet_builtin _ (by decide +kernel), codeAny_builtin F.entry_type_call ?_⟩))
  rw [Around.under_plain (weight_type_call_type T as kw) (units_type_call_type T as kw)]
  repeat (first | (any_goals assumption) | (any_goals wp_step))
  refine codeAny_mono (codeAny_call_builtin ft.plain en (wpAny_of_eq c2 (g P w A.in1 _ s k))) fun r t hr => ?_
  cases r with
  | error e => exact hr
  | ok fl => cases fl with
    | ret o =>
      obtain ⟨hT, hq⟩ := hr
      have i1 := ft.init.lookup
      have i2 := ft.init.bind o
      repeat (first | (any_goals assumption) | (any_goals wp_step))
      refine codeAny_mono (codeAny_call_builtin (R := wants (fun r u => r = .none ∧ Q o u) E) ft.init.plain F.entry_object_init (ft.init.check _ _ _ _ _ _ _ _ hT (c3 o) (oinit_kw i1 m1 a3 P w A.in1 _ t ⟨hT, rfl, hq⟩))) fun r u hr => ?_
      cases r with
      | error e => exact hr
      | ok fl => cases fl with
        | ret v =>
          obtain ⟨ev, z⟩ := hr
          subst ev
          repeat (first | (any_goals assumption) | (any_goals wp_step))
        | _ => exact hr.elim
    | _ => exact hr.elim
end
end Fw

set_option Elab.async false
set_option linter.all false
set_option maxRecDepth 100000
set_option maxHeartbeats 2000000
/-! Fw, part R2: zip(a, b, strict=False). -/
namespace Fw
open PySem PySem.Spec PyProof.Rows L2
/-- the keyword -/
abbrev noStrict : List (Str × Value) := [("strict", .bool false)]
theorem zk1 (a b : Value) : checkTypeCall "zip" ⟨[a, b], noStrict⟩ = pure () := by kernel_rfl
theorem zk2 (a b : Value) : checkBuiltinCall "zip.__new__" ⟨[.type "zip", a, b], noStrict⟩ = pure () := by kernel_rfl
theorem zk3 (o a b : Value) : argsOk "object.__init__" ⟨[o, a, b], noStrict⟩ := by
  unfold argsOk; rw [signature?_of (id := "object.__init__") (n := ['_', '_', 't', 'i', 'n', 'i', '_', '_']) (o := ['t', 'c', 'e', 'j', 'b', 'o']) (by kernel_rfl) F.owner_object]; kernel_rfl
theorem zk_new {u v : Value} {o1 o2 : Obj} {G1 G2 : Heap → Prop} (b1 : Begins u o1 G1) (b2 : Begins v o2 G2) :
    Meets (Builtin.«zip.__new__» ⟨[.type "zip", u, v], noStrict⟩) (fun _ R t => (G1 t.heap ∧ G2 t.heap) ∧ R (.ok (.ret (.ref (gzO2 t.heap o1 o2).objs.size))) { t with heap := gzZ2 t.heap o1 o2 }) :=
  .of_wp fun pr wd Ar R t z => by
    obtain ⟨hp, gs, dr, tk, os⟩ := t
    obtain ⟨⟨z1, z2⟩, z3⟩ := z
    have sb := sub_zip
    have p1 : ∀ {A' : Around} {E Q : Value → Shared → Prop}, Q (.ref hp.objs.size) ⟨hp.push o1, gs, dr, tk, os⟩ → wpAny (model pr wd) A' (pyIter u) Q E ⟨hp, gs, dr, tk, os⟩ := fun q => b1.iter pr wd _ _ ⟨hp, gs, dr, tk, os⟩ _ z1 q
    have p2 : ∀ {A' : Around} {E Q : Value → Shared → Prop}, Q (.ref (hp.push o1).objs.size) ⟨(hp.push o1).push o2, gs, dr, tk, os⟩ → wpAny (model pr wd) A' (pyIter v) Q E ⟨hp.push o1, gs, dr, tk, os⟩ :=
      fun q => b2.iter pr wd _ _ ⟨hp.push o1, gs, dr, tk, os⟩ _ (b2.keeps _ _ z2 fun b o' e => Heap.get?_push_of_some _ e) q
    wp_walk using p1, p2
    exact ⟨_, rfl, z3⟩
theorem pg {h : Heap} {a : Addr} {o q : Obj} (e : h.get? a = some o) : (h.push q).get? a = some o := Heap.get?_push_of_some _ e
theorem zk_call {P : Program} {w : World} {A : Around} {E Q : Value → Shared → Prop} {s : Shared} {u v : Value} {o1 o2 : Obj} {G1 G2 : Heap → Prop} (b1 : Begins u o1 G1) (b2 : Begins v o2 G2) (h1 : G1 s.heap) (h2 : G2 s.heap)
    (k : ∀ h', IsZip h' (s.heap.objs.size + 4) (s.heap.objs.size + 2) (s.heap.objs.size + 3) .none → IsTupOf2 h' (s.heap.objs.size + 2) (.ref s.heap.objs.size) (.ref (s.heap.objs.size + 1)) → IsTupOf2 h' (s.heap.objs.size + 3) .none .none →
      h'.get? s.heap.objs.size = some o1 → h'.get? (s.heap.objs.size + 1) = some o2 → h'.objs.size = s.heap.objs.size + 5 → (∀ c o, s.heap.get? c = some o → h'.get? c = some o) → Q (.ref (s.heap.objs.size + 4)) { s with heap := h' }) :
    wpAny (model P w) A (call (.type "zip") [u, v] noStrict) Q E s := by
  refine ty_kw F.called_zip (by decide) (zk1 _ _) (zk2 _ _) (fun o => zk3 o _ _) F.entry_zip_new (zk_new b1 b2) ⟨⟨h1, h2⟩, ?_⟩
  generalize s.heap = h at k
  have n1 : (h.push o1).objs.size = h.objs.size + 1 := Heap.size_push ..
  have n2 : ((h.push o1).push o2).objs.size = h.objs.size + 2 := (Heap.size_push ..).trans (congrArg (· + 1) n1)
  have n3 : (gzT2 h o1 o2).objs.size = h.objs.size + 3 := (Heap.size_push ..).trans (congrArg (· + 1) n2)
  have n4 : (gzO2 h o1 o2).objs.size = h.objs.size + 4 := (Heap.size_push ..).trans (congrArg (· + 1) n3)
  have n5 : (gzZ2 h o1 o2).objs.size = h.objs.size + 5 := (Heap.size_push ..).trans (congrArg (· + 1) n4)
  have c1 : (gzZ2 h o1 o2).get? h.objs.size = some o1 := pg (pg (pg (pg (Heap.get?_push_size _ b1.free))))
  have c2 : (gzZ2 h o1 o2).get? (h.push o1).objs.size = some o2 := pg (pg (pg (Heap.get?_push_size _ b2.free)))
  have c3 : (gzZ2 h o1 o2).get? ((h.push o1).push o2).objs.size = some { cls := .type "tuple", data := .seq #[.ref h.objs.size, .ref (h.push o1).objs.size] } := pg (pg (Heap.get?_push_size _ rfl))
  have c4 : (gzZ2 h o1 o2).get? (gzT2 h o1 o2).objs.size = some { cls := .type "tuple", data := .seq #[.none, .none] } := pg (Heap.get?_push_size _ rfl)
  have c5 : (gzZ2 h o1 o2).get? (gzO2 h o1 o2).objs.size = some { cls := .type "zip", data := .fields #[.none, .bool false, .bool false, .ref ((h.push o1).push o2).objs.size, .ref (gzT2 h o1 o2).objs.size] } := Heap.get?_push_size _ rfl
  rw [n4, n3, n2] at c5
  rw [n3] at c4
  rw [n2, n1] at c3
  rw [n1] at c2
  show _ ∧ _
  rw [n4]
  exact ⟨⟨_, c5, rfl⟩, k _ c5 c3 c4 c1 c2 n5 fun c o e => pg (pg (pg (pg (pg e))))⟩
end Fw

set_option Elab.async false
set_option linter.all false
set_option maxRecDepth 100000
set_option maxHeartbeats 2000000
/-! Fw, part R3: zip(a, b, strict=False) as what is walked. -/
namespace Fw
open PySem PySem.Spec PyProof.Rows L2
section
variable {P : Program} {w : World} {A : Around} {E : Value → Shared → Prop} {s : Shared} {env : Env}
theorem callWith_tyK {pos : Pos} {T : String} {args : List (Bool × Sem Value)} {keywords : List (Option Str × Sem Value)} {Q : Value → Shared → Prop}
    (hplain : args.any (·.1) = false) (hkw : keywords.any (·.1.isNone) = false)
    (h : wpAny (model P w) A (evalArgs (.type T) true args keywords) (fun a s₁ => wpAny (model P w) A (call (.type T) a.pos a.kw) Q E s₁) E s) :
    wpAny (model P w) A (callWith pos (.type T) [] args keywords) Q E s := by
  unfold callWith
  refine wpAny_bind (wpAny_holding (wpAny_mono h (fun a s₁ h₁ => wpAny_bind (wpAny_standAt ?_)) fun _ _ x => x))
  simp only [hplain, hkw, Bool.or_false]
  refine wpAny_bind (wpAny_pure ?_)
  exact wpAny_bind (wpAny_mono h₁ (fun r s₂ hr => wpAny_bind (wpAny_holding (wpAny_point (wpAny_pure hr)))) fun _ _ x => x)
end
theorem pi_zipAK {X : Cx} {e e2 : Expr} {ta : TA} {p pos tpos kp p1 : Pos} {elts : List Expr} {kk k1 : Nat} (hg : Gl X "zip") (hm : X.mg "zip" = none) (ha : PA X [e, e2] ta)
    (hs : starEach [e, e2] X.env = (false, eval e X.env) :: starEach [e2] X.env := by rfl) (hpl : (backTo pos (starEach [e, e2] X.env)).any (·.1) = false := by rfl) :
    PI X (.Tuple elts kk tpos) (.Call (.Name "zip" p) [e, e2] [⟨some "strict", .Constant (.bool false) k1 p1, kp⟩] pos) (RZ.iZipA X.K ta) := by
  refine ⟨fun pins s σ H R I h => ?_⟩
  refine wpAny_Call_Name_kw (ld_blt I hg hm PyProof.Rows.boot_zip (callWith_tyK hpl (by rfl) (PyProof.Rows.evalArgs_kw2 (by rfl) (thn (ha.run pos pins s σ H _ I h) fun us s1 ⟨vs, H1, I1, r1, q1⟩ => ?_) hs)))
  refine PyProof.Rows.kwAll_cons (thn ((pe_bl (X := X) (b := false) (j := k1) (pos := p1)).run pins s1 σ H1 (fun x H => x = .bl false ∧ H = H1) I1 ⟨rfl, rfl⟩) fun kv s2 ⟨kx, H2, I2, kr, ke⟩ => PyProof.Rows.kwAll_nil ?_)
  obtain ⟨ke1, ke2⟩ := ke
  subst ke1; subst ke2
  have kr : kv = .bool false := kr
  subst kr
  show wpAny _ _ (call (.type "zip") us noStrict) _ _ _
  obtain ⟨a, b, xs, ys, ex, q1⟩ := q1
  subst ex
  cases r1 with
  | cons r rr =>
    cases rr with
    | cons r' rr =>
      cases rr
      cases r
      cases r'
      have fresh5 : ∀ c, c ∈ [s2.heap.objs.size + 4, s2.heap.objs.size + 2, s2.heap.objs.size + 3, s2.heap.objs.size, s2.heap.objs.size + 1] → FpOk X pins H2 c := fun c hcm => by
        have e' : c = s2.heap.objs.size + 4 ∨ c = s2.heap.objs.size + 2 ∨ c = s2.heap.objs.size + 3 ∨ c = s2.heap.objs.size ∨ c = s2.heap.objs.size + 1 := by simpa using hcm
        have hle : s2.heap.objs.size ≤ c := by
          rcases e' with z | z | z | z | z <;> omega
        exact I2.fpOk hle (I2.hok.fresh hle)
      rcases q1 with ⟨hqx, hqy, q⟩ | ⟨hqx, hqy, q⟩
      · obtain ⟨its, rv, p1, _⟩ := I2.list hqx
        obtain ⟨its2, rv2, p2, _⟩ := I2.list hqy
        refine zk_call (begins_list a its.toArray) (begins_list b its2.toArray) p1.isList p2.isList fun h' hz hTI hTO h1 h2 hsz hk => wpAny_pyIter_zip hz ?_
        have I3 : Inv X pins σ H2 { s2 with heap := h' } := I2.kept (t' := s2.toks) hk
        exact ⟨s2.heap.objs.size + 4, [s2.heap.objs.size + 4, s2.heap.objs.size + 2, s2.heap.objs.size + 3, s2.heap.objs.size, s2.heap.objs.size + 1], _, _, H2, rfl, I3, turn_zip (PySem.W.ktu_apart s2.heap.objs.size a b p1.lt p2.lt), ⟨hz, hTI, ⟨_, _, hTO⟩, ⟨_, h1, rfl, rfl⟩, ⟨_, h2, rfl, rfl⟩⟩, fresh5, q⟩
      · obtain ⟨its, rv, p1, _⟩ := I2.tuple hqx
        obtain ⟨its2, rv2, p2, _⟩ := I2.tuple hqy
        obtain ⟨o1, ho1, _⟩ := id p1
        obtain ⟨o2, ho2, _⟩ := id p2
        refine zk_call (begins_tuple a its.toArray) (begins_tuple b its2.toArray) p1 p2 fun h' hz hTI hTO h1 h2 hsz hk => wpAny_pyIter_zip hz ?_
        have I3 : Inv X pins σ H2 { s2 with heap := h' } := I2.kept (t' := s2.toks) hk
        exact ⟨s2.heap.objs.size + 4, [s2.heap.objs.size + 4, s2.heap.objs.size + 2, s2.heap.objs.size + 3, s2.heap.objs.size, s2.heap.objs.size + 1], _, _, H2, rfl, I3, RZ.turn_zipT (PySem.W.ktu_apart s2.heap.objs.size a b (Heap.lt_size ho1) (Heap.lt_size ho2)), ⟨hz, hTI, ⟨_, _, hTO⟩, ⟨_, h1, rfl, rfl⟩, ⟨_, h2, rfl, rfl⟩⟩, fresh5, q⟩
end Fw

set_option Elab.async false
set_option linter.all false
set_option maxRecDepth 100000
set_option maxHeartbeats 4000000
/-! Fw, part S: sorted(set(xs)) of a list of ints. -/
namespace Fw
open PySem PySem.Spec PyProof.Rows L2
/-- a set just made -/
abbrev sOb (w : World) : Obj := { cls := .type "set", dict := none, data := .set #[] 0 (.fresh 0 0 (!w.params.followText "set-order")) }
/-- the heap with it -/
abbrev sHp (w : World) (h : Heap) : Heap := h.push (sOb w)
section
variable {P : Program} {w : World} {A : Around} {E : Value → Shared → Prop} {s : Shared} {l : Addr} {xs : Array Value} {ns : List Int}
/-- what set(xs) leaves -/
abbrev sEnd (w : World) (s : Shared) (ns : List Int) (t : Shared) : Prop := ∃ (h' : Heap) (tk c : Nat), t = { s with heap := h', toks := tk } ∧ SetR w h' s.heap.objs.size (fun j => decide (j ∈ ns)) c ∧ c ≤ ns.length ∧ (∀ b o, s.heap.get? b = some o → h'.get? b = some o)
theorem set_lst {Q : Value → Shared → Prop} (hh : A.handled = none) (hl : s.heap.IsList l xs) (hi : IntsAre xs.toList ns) (hb : ns.length + 1 < scanBound)
    (k : ∀ t, sEnd w s ns t → Q (.ref s.heap.objs.size) t) : wpAny (model P w) A (call (.type "set") [.ref l]) Q E s := by
  have n0 : xs.size = ns.length := (Array.length_toList (xs := xs)).symm.trans (IntsAre.length hi)
  obtain ⟨mc, mt, m0⟩ := F.called_set.mro
  have m1 := F.called_set.made
  have m2 := F.called_set.sub
  have m3 := F.called_set.notType
  have m4 := F.called_set.canCreate
  have m5 := F.typeCall_set_1 (.ref l)
  refine wpAny_call (codeAny_of_tree (show wpAny _ _ (callAny (.type "set") _) _ _ _ from wpAny_pure ⟨Code.quiet_builtin _ (by decide +kernel), codeAny_builtin F.entry_type_call ?_⟩))
  rw [Around.under_plain (weight_type_call_type "set" [.ref l] []) rfl]
  repeat (first | (any_goals assumption) | (any_goals wp_step))
  refine codeAny_mono (code_set_led1 (.ref l) (E := E) (Q₁ := fun v t => v = .ref s.heap.objs.size ∧ t = { s with heap := sHp w s.heap }) ⟨rfl, rfl⟩) fun r t hr => ?_
  cases r with
  | error e => exact hr
  | ok fl => cases fl with
    | ret v =>
      obtain ⟨ev, et⟩ := hr
      subst ev; subst et
      have gS : (sHp w s.heap).get? s.heap.objs.size = some (sOb w) := Heap.get?_push_size _ rfl
      have tS : Shared.TypeIs { s with heap := sHp w s.heap } (.ref s.heap.objs.size) "set" := ⟨_, gS, rfl⟩
      have i1 := F.called_set.init.lookup
      have i2 := F.called_set.init.bind (.ref s.heap.objs.size)
      repeat (first | (any_goals assumption) | (any_goals wp_step))
      refine codeAny_mono (codeAny_call_builtin (R := wants (fun v t => v = .none ∧ sEnd w s ns t) E) F.called_set.init.plain F.entry_set_init (check_set_init_1 tS ?_)) fun r t hr => ?_
      · obtain ⟨ob, q0, q1, q2, q3⟩ := hl
        obtain ⟨oc, od, oda, osl⟩ := ob
        simp only at q1 q3
        subst q1; subst q3
        have l0 : s.heap.objs.size ≠ l := Nat.ne_of_gt (Heap.lt_size q0)
        have gL : (sHp w s.heap).get? l = some { cls := .type "list", dict := od, data := .seq xs q2, slots := osl } := Heap.get?_push_of_some _ q0
        have lS : (sHp w s.heap).IsList l xs := ⟨_, gL, rfl, q2, rfl⟩
        have sz : (sHp w s.heap).objs.size = s.heap.objs.size + 1 := Heap.size_push ..
        have b1 := F.sub_list_set
        have b2 := F.sub_list_frozenset
        have b3 : (Value.type "list" == Value.type "dict") = false := by decide
        unfold Builtin.«set.__init__» noKeywords Builtin.Frozenset.updateFrom
        generalize eI : pyIter = PI
        wp_walk
        subst eI
        refine wpAny_pyIter_list lS (wpAny_bind (wpAny_runValue ?_))
        have un : A.in1.in1.in1.handled = none := by simp [hh]
        have lI : l ≠ (sHp w s.heap).objs.size := by rw [sz]; exact Nat.ne_of_lt (Nat.lt_succ_of_lt (Heap.lt_size q0))
        refine set_update_ints ((Walks.list un _ l lI xs).toS) s.heap.objs.size ?_ ns n0 hb (fun i v hv => ?_) (xs.size - 0) 0 _ (by omega) (Nat.zero_le _) ⟨⟨_, Heap.get?_push_size _ rfl, rfl, rfl⟩, lS.push _⟩ ⟨0, Nat.le_refl 0, setR_new_at (Heap.get?_push_of_some _ gS)⟩ fun t c mv hc R => ?_
        · simp only [List.mem_cons, List.not_mem_nil, or_false, not_or]
          exact ⟨by rw [sz]; exact Nat.ne_of_lt (Nat.lt_succ_self _), l0⟩
        · have il : i < ns.length := n0 ▸ (Array.getElem?_eq_some_iff.mp hv).1
          obtain ⟨tk, e⟩ := PyProof.Rows.IntsAre.int_at hi i v (by rw [Array.getElem?_toList]; exact hv)
          refine ⟨ns[i], tk, List.getElem?_eq_getElem il, ?_⟩
          rw [e, List.getD_eq_getElem?_getD, List.getElem?_eq_getElem il]; rfl
        · obtain ⟨h', g', d', tk', os'⟩ := t
          have e1 : g' = s.gens := mv.gens
          have e2 : d' = s.drawn := mv.drawn
          have e3 : os' = s.os := mv.os
          subst e1; subst e2; subst e3
          show wpAny _ _ _ _ _ _
          refine wpAny_pure ?_
          show wpAny _ _ (ret Value.none) _ _ _
          refine wpAny_pure ⟨rfl, h', tk', c, rfl, R, n0 ▸ hc, fun b o e => mv.heap b o ?_ (Heap.get?_push_of_some _ (Heap.get?_push_of_some _ e))⟩
          have bl := Heap.lt_size e
          simp only [List.mem_cons, List.not_mem_nil, or_false, not_or]
          exact ⟨Nat.ne_of_lt bl, by rw [sz]; exact Nat.ne_of_lt (Nat.lt_succ_of_lt bl)⟩
      · cases r with
        | error e => exact hr
        | ok fl => cases fl with
          | ret v =>
            obtain ⟨ev, z⟩ := hr
            subst ev
            obtain ⟨h', tk, c, et, R, hc, kk⟩ := z
            subst et
            repeat (first | (any_goals assumption) | (any_goals wp_step))
            exact k _ ⟨h', tk, c, rfl, R, hc, kk⟩
          | _ => exact hr.elim
    | _ => exact hr.elim
end
end Fw

set_option Elab.async false
set_option linter.all false
set_option maxRecDepth 100000
set_option maxHeartbeats 1000000
/-! Fw, part S2: sorted(set(xs)) as an expression. -/
namespace Fw
open PySem PySem.Spec PyProof.Rows L2
section
variable {X : Cx}
theorem pe_sortSet {a : Expr} {ta : TE} {p p2 q pos : Pos} (hc : X.calm = true) (hg : Gl X "sorted") (hm : X.mg "sorted" = none) (hg2 : Gl X "set") (hm2 : X.mg "set" = none) (ha : PE X a ta)
    (na : starEach [a] X.env = (false, eval a X.env) :: starEach [] X.env := by rfl) : PE X (.Call (.Name "sorted" p) [.Call (.Name "set" p2) [a] [] q] [] pos) (tUn (rSortSet X.K) ta) := by
  refine ⟨fun pins s σ H Q I h => ?_⟩
  refine Call_ (ld_blt I hg hm PyProof.Rows.boot_sorted (PyProof.Rows.callWith_builtin1 (PyProof.Rows.args_cons ?_ rfl) rfl rfl))
  refine Call_ (ld_blt I hg2 hm2 PyProof.Rows.boot_set (PyProof.Rows.callWith_type1 (PyProof.Rows.args_cons (thn (ha.run pins s σ H _ I h) fun v s1 ⟨x, H1, I1, r1, q1⟩ => PyProof.Rows.args_nil ?_) na) na rfl))
  obtain ⟨l, ns, rfl, hq, h64, q1⟩ := q1
  cases r1
  obtain ⟨its, r, pl, hz⟩ := I1.list hq
  have hd := I1.ok.hd hc
  refine set_lst (ns := ns) hd pl.isList (by simpa using r.ints) (by unfold scanBound; omega) fun t z => ?_
  obtain ⟨h', tk, c, et, R, cn, kk⟩ := z
  subst et
  refine PyProof.Rows.args_nil ?_
  have I2 : Inv X pins σ H1 { s1 with heap := h', toks := tk } := I1.kept fun b o e => kk b o e
  refine sorted_set R hd (by omega) fun s' pp out cc ms k2 g2 o2 hp hg3 hi hs hm3 hl3 => ?_
  have e : s' = { ({ s1 with heap := h', toks := tk } : Shared) with heap := s'.heap, gens := s'.gens, drawn := s'.drawn, toks := s'.toks } := by
    cases s'; cases s1; cases o2; rfl
  have len : (ms.map V.int).length ≤ sizeLine := by
    rw [List.length_map, hl3, sizeLine_eq]; omega
  have no : H1 pp = none := I2.hok.fresh hp
  have J : Inv X pins σ (upd H1 pp (.lst (ms.map V.int))) { ({ s1 with heap := h', toks := tk } : Shared) with heap := s'.heap, gens := s'.gens, drawn := s'.drawn, toks := s'.toks } :=
    I2.call (ch := []) (Un.laid k2 hp no) (I2.hok.laid k2 hp ⟨len, out.toList, cc, vals_of_ints hi, hg3⟩) (by rw [g2]; exact I2.bare) (fun _ z => nomatch z)
  rw [e]
  exact ⟨.ref pp, _, J, rfl, q1 ms pp hs (fun j => by rw [hm3, decide_eq_true_eq]) no⟩
end
end Fw

set_option Elab.async false
set_option linter.all false
set_option maxRecDepth 100000
set_option maxHeartbeats 1000000
/-! Fw, part Cl: instances of plain classes. -/
namespace Fw
open PySem PySem.Spec PyProof.Rows L2
section
variable {K : PySem.W.Frag} {C : Nat → Addr} {ρ : Nat → Addr} {n : Nat} {H : Hp}
theorem RFs.length : ∀ {fs : List (Str × W)} {gs : List (Str × V)}, RFs K ρ n H fs gs → fs.length = gs.length
  | _, _, .nil => rfl
  | _, _, .cons _ r => congrArg (· + 1) (RFs.length r)
theorem RFs.look {f : Str} : ∀ {fs : List (Str × W)} {gs : List (Str × V)}, RFs K ρ n H fs gs → (match fs.lookup f with
    | some w => ∃ v, gs.lookup f = some v ∧ RV K ρ n H w v
    | none => gs.lookup f = none)
  | _, _, .nil => rfl
  | _, _, .cons (k := k) (w := w) (ws := ws) (v := v) (vs := vs) a r => by
    rw [List.lookup_cons, List.lookup_cons]
    cases f == k with
    | true => exact ⟨v, rfl, a⟩
    | false => exact RFs.look r
theorem RFs.put {f : Str} {w : W} {v : V} (q : RV K ρ n H w v) : ∀ {fs : List (Str × W)} {gs : List (Str × V)}, RFs K ρ n H fs gs → RFs K ρ n H (putW f w fs) (putF f v gs)
  | _, _, .nil => .cons q .nil
  | _, _, .cons (k := k) (w := x) (ws := ws) (v := y) (vs := vs) a r => by
    show RFs K ρ n H (if k = f then (k, w) :: ws else (k, x) :: putW f w ws) (if k = f then (k, v) :: vs else (k, y) :: putF f v vs)
    by_cases e : k = f
    · rw [if_pos e, if_pos e]; exact .cons q r
    · rw [if_neg e, if_neg e]; exact .cons a (RFs.put q r)
/-- an object of nobody's put at a free place -/
theorem RH.other {h : IH} (r : RH K C ρ h H) {p : Addr} {o : HO} (hp : H p = none) : RH K C ρ h (L2.upd H p o) ∧ Ext ρ ρ h.n h.n H (L2.upd H p o) := by
  have x : Ext ρ ρ h.n h.n H (L2.upd H p o) := ⟨Nat.le_refl _, fun _ _ => rfl, fun b u e k => ⟨by rw [upd_ne (ne_of_none e hp)]; exact e, k⟩, fun b xs e => by rw [upd_ne (ne_of_none e hp)]; exact e, fun b u xs e => by rw [upd_ne (ne_of_none e hp)]; exact e⟩
  refine ⟨⟨fun i c e => ?_, r.inj, r.full, sys_new r.sys hp⟩, x⟩
  exact (r.cell i c e).mono x.le x.same x.tups x.frzs fun m u hu => by rw [upd_ne (r.fresh hp i c e m)]; exact hu
end
section
variable {F : Fx} {ρ : Nat → Addr} {h : IH} {H : Hp} {σ : L2.St}
theorem RH.ins (rh : RH F.K F.C ρ h H) {i c : Nat} {fs : List (Str × W)} (g : h.get i = some (.ins c fs)) : ∃ dx gs, H (ρ i) = some (.ins (F.C c) dx gs) ∧ RFs F.K ρ h.n H fs gs := rh.cell i _ g
/-- which classes' instances have a field of this name, none of the class's own -/
def FldsOk (K : PySem.W.Frag) (C : Nat → Addr) (cs : List Nat) (f : Str) : Prop := ∀ c ∈ cs, Cls K (C c) ∧ NoAttr K (C c) f
def rFld (K : PySem.W.Frag) (f : Str) : V → Hp → VK → Prop := fun x H1 Q => ∃ a C dx fs v, x = V.ref a ∧ H1 a = some (.ins C dx fs) ∧ Cls K C ∧ NoAttr K C f ∧ fs.lookup f = some v ∧ Q v H1
theorem s_fld {cs : List Nat} {f : Str} (O : FldsOk F.K F.C cs f) : Op1 F (oFld cs f) (rFld F.K f) := by
  intro ρ h H σ x v Q rh rx p
  cases rx <;> first | exact False.elim p | skip
  case loc a ha =>
    unfold oFld at p
    dsimp only at p
    cases ga : h.get a with
    | none => rw [ga] at p; exact p.elim
    | some c =>
      rw [ga] at p
      cases c with
      | ins c fs =>
        dsimp only at p
        cases q : cs.contains c with
        | false => rw [q] at p; exact p.elim
        | true =>
          rw [q] at p
          dsimp only at p
          obtain ⟨dx, gs, e, r⟩ := rh.ins ga
          obtain ⟨k1, k2⟩ := O c (by simpa using q)
          have l := r.look (f := f)
          cases ql : fs.lookup f with
          | none => rw [ql] at p; exact p.elim
          | some w =>
            rw [ql] at p l
            obtain ⟨v, h1, h2⟩ := l
            exact ⟨_, _, dx, gs, v, rfl, e, k1, k2, h1, post_same rh p h2⟩
      | _ => exact p.elim
theorem fset_ok {cs : List Nat} {f : Str} (O : FldsOk F.K F.C cs f) {x w : W} {y v : V} {Q : Hp → Prop} (rh : RH F.K F.C ρ h H) (rx : RV F.K ρ h.n H x y) (rw_ : RV F.K ρ h.n H w v) (p : Post F (fun _ _ _ (_ : Unit) (_ : Unit) => True) σ ρ h.n H (oFSet cs f x w h) (fun _ H => Q H)) :
    ∃ a C dx fs, y = V.ref a ∧ H a = some (.ins C dx fs) ∧ Cls F.K C ∧ NoAttr F.K C f ∧ fs.length < 1000 ∧ Q (upd H a (.ins C dx (putF f v fs))) := by
  cases rx <;> first | exact False.elim p | skip
  case loc a ha =>
    unfold oFSet at p
    dsimp only at p
    cases ga : h.get a with
    | none => rw [ga] at p; exact p.elim
    | some c =>
      rw [ga] at p
      cases c with
      | ins c fs =>
        dsimp only at p
        cases q : cs.contains c && Nat.blt fs.length 1000 with
        | false => rw [q] at p; exact p.elim
        | true =>
          rw [q] at p
          obtain ⟨q1, q2⟩ := Bool.and_eq_true_iff.mp q
          obtain ⟨dx, gs, e, r⟩ := rh.ins ga
          obtain ⟨k1, k2⟩ := O c (by simpa using q1)
          have hl : fs.length < 1000 := Nat.le_of_ble_eq_true q2
          refine ⟨_, _, dx, gs, rfl, e, k1, k2, by rw [← r.length]; exact hl, ?_⟩
          have x : Ext ρ ρ h.n (h.set a (.ins c (putW f w fs))).n H (upd H (ρ a) (.ins (F.C c) dx (putF f v gs))) := ext_set (a := ρ a) (IH.get_lt ga) e trivial
          exact p ρ () _ x (rh.upd ga rfl e trivial rfl ⟨dx, _, upd_same, (r.put rw_).mono x.le x.same x.tups x.frzs⟩) trivial
      | _ => exact p.elim
end
section
variable {X : Cx} {C : Nat → Addr} {We : Nat → L2.St → Hp → Prop} {pos tpos : Pos} {o value e : Expr} {es : List Expr} {fo fv : EE} {g : EA} {cs : List Nat} {f m : Str}
theorem c_fld (O : FldsOk X.K C cs f) (ho : PE X o (TI (FX X C We) fo)) (h2 : noSup o = true) : PE X (.Attribute o f pos) (TI (FX X C We) (e1 (oFld cs f) fo)) :=
  c_e1 (r := rFld X.K f) (pe_fld ho (base_ok h2)) (s_fld O)
theorem swaps_attr {l : Nat} {env : PySem.Env} : swapsWith value (some (.Attribute o f tpos)) l env = pure false := by cases value <;> rfl
theorem s_fset (O : FldsOk X.K C cs f) (ho : PE X o (TI (FX X C We) fo)) (hv : PE X value (TI (FX X C We) fv)) : PS X (.Assign [.Attribute o f tpos] value pos) (TIS (FX X C We) (sAsg fv (gFld cs f fo))) :=
  PSmono (ps_fld ho hv swaps_attr) fun D σ H ⟨ρ, e, h, rh, re, p⟩ =>
    TG_.bindS rh re p fun ρ1 x h1 v H1 rh1 re1 x1 rv p1 => by
      have p1' : PostS (FX X C We) ρ1 h1.n H1 (((fo e h1).bind fun y h => (oFSet cs f y x h).bind fun _ h => .ok e h).sg fun e h => .nx e h) D := p1
      cases q : fo e h1 with
      | stuck => rw [q] at p1'; exact p1'.elim
      | exc c h2 => rw [q] at p1'; exact p1'.elim
      | ok y h2 =>
        rw [q, Rs.bind_ok] at p1'
        refine ⟨ρ1, e, h1, rh1, re1, ?_⟩
        rw [q]
        intro ρ2 y' H2 x2 rh2 ry
        have p2 := PostS.shift x2 p1'
        refine fset_ok (F := FX X C We) (σ := σ) O rh2 ry (x2.rv rv) ?_
        cases q2 : oFSet cs f y x h2 with
        | stuck => rw [q2] at p2; exact p2.elim
        | exc c h3 => rw [q2] at p2; exact p2.elim
        | ok u h3 =>
          rw [q2] at p2
          exact fun ρ3 u3 H3 x3 rh3 _ => p2 ρ3 σ H3 x3 rh3 ((re1.ext x2).ext x3)
end
end Fw

set_option Elab.async false
set_option linter.all false
set_option maxRecDepth 100000
set_option maxHeartbeats 1000000
/-! Fw, part Cnt: list.count of data. -/
namespace Fw
open PySem PySem.Spec PyProof.Rows L2
def rCountD (K : PySem.W.Frag) (x : V) (xs : List V) (H : Hp) (Q : VK) : Prop := ∃ a y d ds, x = V.ref a ∧ xs = [y] ∧ Dp K H (V.ref a) (.list ds) ∧ Dp K H y d ∧ SeqAt.shaped (.list ds) = true ∧ SeqAt.shaped d = true ∧ Q (.int ((ds.countP fun z => PyData.eqv z d : Nat) : Int)) H
theorem mt_countD {X : Cx} (hu : X.A.units + 65 < cLine) : MtR X "list.count" (rCountD X.K) := by
  intro pins s σ H x xs v us Q I rx rs h
  obtain ⟨a, y, d, ds, rfl, rfl, h1, h2, s1, s2, q⟩ := h
  cases rx
  cases rs with
  | cons ry rr =>
  cases rr
  rename_i w
  obtain ⟨as2, R2⟩ := Dp.reads I _ _ _ h2 ry
  cases h1 with
  | lst hl hd =>
  obtain ⟨its, r, ⟨o, n, ho, hc, hdict, hdat⟩, hsz⟩ := I.list hl
  obtain ⟨as1, R1⟩ := Dp.readsAll I ds _ its hd r
  have lay1 : PyData.canLayAll0 ds = true := by
    have z := SeqAt.canLay_of_shaped s1
    exact z
  have lay2 := SeqAt.canLay_of_shaped s2
  have eq := SeqAt.items_eqAt (A := X.A) (s := s) (vs := its.toArray) (x := w) R1 R2 lay1 lay2 (room_in_shaped s2 hu)
  obtain ⟨cls, dict, data, slots⟩ := o
  dsimp only at hc hdict hdat
  subst hc; subst hdict; subst hdat
  refine call_meets (self := .ref a) (rest := [w]) PySem.F.slot_list_count ⟨_, ho, rfl⟩ PySem.F.entry_list_count (PySem.F.args_list_count_2 _ _) (SeqAt.list_countAt a its.toArray n none slots w fun u => (SeqAt.readOf s.heap u).eqv d) ⟨ho, eq, ?_⟩
  have e : its.countP (fun u => (SeqAt.readOf s.heap u).eqv d) = ds.countP fun z => PyData.eqv z d := by
    rw [← SeqAt.readsAll_map ds its as1 lay1 R1, List.countP_map]
    rfl
  rw [← e] at q
  exact ⟨.int _, H, I.tok _, ⟨_, rfl⟩, q⟩
end Fw

set_option Elab.async false
set_option linter.all false
set_option maxRecDepth 100000
set_option maxHeartbeats 1000000
/-! Fw, part Xt: more operations served. -/
namespace Fw
open PySem PySem.Spec PyProof.Rows L2
section
variable {F : Fx}
theorem s_dictC : Op1 F oDictC (fun v H Q => ∃ (a : Addr) (kvs : List (L2.Key × V)), [v] = [.ref a] ∧ Rd H a (.dK kvs) ∧ ∀ p, H p = none → Q (.ref p) (upd H p (.dK kvs))) := by
  intro ρ h H σ x v Q rh rx p
  cases rx <;> first | exact False.elim p | skip
  case loc a ha =>
    unfold oDictC at p
    dsimp only at p
    cases ga : h.get a with
    | none => rw [ga] at p; exact p.elim
    | some c =>
      rw [ga] at p
      cases c with
      | dk kvs =>
        obtain ⟨es, e1, r⟩ := rh.dk ga
        exact ⟨_, es, rfl, .inl e1, post_dk rh r p⟩
      | _ => exact p.elim
theorem s_str1 : Op1 F oStr1 (fun v H Q => ∃ i, [v] = [V.int i] ∧ i.natAbs.log2 < 1920 ∧ Q (.str (Str.ofString (toString i))) H) := by
  intro ρ h H σ x v Q rh rx p
  cases rx <;> first | exact False.elim p | skip
  case int i =>
    obtain ⟨hl, p⟩ := need_inv p
    refine ⟨i, rfl, ?_, post_same rh p .str⟩
    have hl : i.natAbs < 18446744073709551616 := Nat.le_of_ble_eq_true hl
    by_cases z : i.natAbs = 0
    · rw [z]; decide
    · have := (Nat.log2_lt z (k := 64)).mpr (by simpa using hl)
      omega
theorem nodupB_ok : ∀ {ns : List Int}, nodupB ns = true → ns.Nodup
  | [], _ => List.nodup_nil
  | i :: r, h => by
    obtain ⟨h1, h2⟩ := Bool.and_eq_true_iff.mp (show (!r.contains i && nodupB r) = true from h)
    exact List.nodup_cons.mpr ⟨by simpa using h1, nodupB_ok h2⟩
theorem s_lenSet : Op1 F oLenSet (fun x H1 Q => ∃ (l : Addr) (ns : List Int), x = V.ref l ∧ SqL F.K H1 l (ns.map V.int) ∧ ns.Nodup ∧ ns.length ≤ 4000 ∧ Q (.int ns.length) H1) := by
  intro ρ h H σ x v Q rh rx p
  cases rx <;> first | exact False.elim p | skip
  case loc a ha =>
    unfold oLenSet at p
    dsimp only at p
    cases g : listAt h a with
    | none => rw [g] at p; exact p.elim
    | some ws =>
      rw [g] at p
      dsimp only at p
      cases q : mapO asI ws with
      | none => rw [q] at p; exact p.elim
      | some ns =>
        rw [q] at p
        obtain ⟨vs, s, r, _⟩ := rh.list g
        obtain ⟨hl, p⟩ := need_inv p
        obtain ⟨h1, h2⟩ := Bool.and_eq_true_iff.mp hl
        have e := asI_ok r q
        subst e
        exact ⟨_, ns, rfl, s, nodupB_ok h2, Nat.le_of_ble_eq_true h1, post_same rh p .int⟩
theorem m_extend : OpM F mExtend rExtend := by
  intro ρ h H σ w ws v vs Q rh rw_ rv p
  cases rw_ <;> first | exact False.elim p | skip
  case loc a ha =>
    match ws, rv, p with
    | [], _, p => exact False.elim p
    | w1 :: _ :: _, _, p => cases w1 <;> exact False.elim p
    | [w], rv, p =>
      obtain ⟨y, rfl, q⟩ := rvs1 rv
      cases q <;> first | exact False.elim p | skip
      case loc =>
        rename_i b hb q0
        have p' : Post F (RV F.K) σ ρ h.n H (match h.get a with
          | some (.lst xs) => (match h.get b with
            | some (.lst ys) => .need (lenOk (xs.length + ys.length)) (.ok .non (h.set a (.lst (xs ++ ys))))
            | _ => .stuck)
          | _ => .stuck) Q := p
        clear p
        cases ga : h.get a with
        | none => rw [ga] at p'; exact p'.elim
        | some c =>
          rw [ga] at p'
          cases c with
          | lst us =>
            dsimp only at p'
            cases gb : h.get b with
            | none => rw [gb] at p'; exact p'.elim
            | some c =>
              rw [gb] at p'
              cases c with
              | lst ys =>
                obtain ⟨hl, p'⟩ := need_inv p'
                obtain ⟨xs, e1, r⟩ := rh.lst ga
                obtain ⟨zs, e2, r2⟩ := rh.lst gb
                refine ⟨_, _, xs, zs, rfl, rfl, e1, e2, by rw [← r.length, ← r2.length, sizeLine_eq]; exact lenOk_iff.mp hl, ?_⟩
                exact post_setL rh ga e1 (r.append r2) p' fun _ _ _ _ => .non
              | _ => exact p'.elim
          | _ => exact p'.elim
theorem m_count : OpM F mCount (rCountD F.K) := by
  intro ρ h H σ w ws v vs Q rh rw_ rv p
  cases rw_ <;> first | exact False.elim p | skip
  case loc a ha =>
    match ws, rv, p with
    | [], _, p => exact False.elim p
    | _ :: _ :: _, _, p => exact False.elim p
    | [w], rv, p =>
      obtain ⟨y, rfl, q⟩ := rvs1 rv
      have p' : Post F (RV F.K) σ ρ h.n H (match dat h (.loc a) with
        | some (.list ds) => (match dat h w with
          | some d => .need (SeqAt.shaped (.list ds) && SeqAt.shaped d) (.ok (.int ((ds.countP fun z => PyData.eqv z d : Nat) : Int)) h)
          | none => .stuck)
        | _ => .stuck) Q := p
      clear p
      cases g1 : dat h (.loc a) with
      | none => rw [g1] at p'; exact p'.elim
      | some dl =>
        rw [g1] at p'
        cases dl with
        | list ds =>
          dsimp only at p'
          cases g2 : dat h w with
          | none => rw [g2] at p'; exact p'.elim
          | some d =>
            rw [g2] at p'
            obtain ⟨hs, p'⟩ := need_inv p'
            obtain ⟨s1, s2⟩ := Bool.and_eq_true_iff.mp hs
            exact ⟨_, y, d, ds, rfl, rfl, toD_dp rh 65 _ _ _ (.loc ha) g1, toD_dp rh 65 _ _ _ q g2, s1, s2, post_same rh p' .int⟩
        | _ => exact p'.elim
end
end Fw

set_option Elab.async false
set_option linter.all false
set_option maxRecDepth 100000
set_option maxHeartbeats 1000000
/-! Fw, part Tr: fields added to; try with clauses whose suites are plain. -/
namespace Fw
open PySem PySem.Spec PyProof.Rows L2
theorem fld_inv {cs : List Nat} {f : Str} {x : W} {h : IH} : oFld cs f x h = .stuck ∨ ∃ a c fs w, x = .loc a ∧ h.get a = some (.ins c fs) ∧ cs.contains c = true ∧ fs.lookup f = some w ∧ oFld cs f x h = .ok w h := by
  cases x <;> first | exact .inl rfl | skip
  case loc a =>
    unfold oFld
    dsimp only
    cases ga : h.get a with
    | none => exact .inl rfl
    | some c =>
      cases c with
      | ins c fs =>
        dsimp only
        cases q : cs.contains c with
        | false => exact .inl rfl
        | true =>
          dsimp only
          cases ql : fs.lookup f with
          | none => exact .inl rfl
          | some w => exact .inr ⟨a, c, fs, w, rfl, ga, q, ql, rfl⟩
      | _ => exact .inl rfl
section
variable {X : Cx} {C : Nat → Addr} {We : Nat → L2.St → Hp → Prop} {pos tpos : Pos} {o value e : Expr} {es : List Expr} {fo fv : EE} {g : EA} {cs : List Nat} {f m : Str}
def sgO : Bool → Operator
  | true => .Add
  | false => .Sub
theorem s_fldAug {sg : Bool} (O : FldsOk X.K C cs f) (ho : PE X o (TI (FX X C We) fo)) (hv : PE X value (TI (FX X C We) fv)) : PS X (.AugAssign (.Attribute o f tpos) (sgO sg) value pos) (TIS (FX X C We) (sFldAug cs f sg fo fv)) := by
  have hop : InOp X (sgO sg) (fun x y H Q => ∃ i j, x = V.int i ∧ y = V.int j ∧ Q (V.int (if sg then i + j else i - j)) H) := by
    cases sg
    · exact in_sub
    · exact in_add
  refine PSmono (ps_fldaug ho hv hop) fun D σ H ⟨ρ, e, h, rh, re, p⟩ => ?_
  refine TG_.bindS rh re p fun ρ1 x h1 v H1 rh1 re1 x1 rv p1 => ?_
  have p1' : PostS (FX X C We) ρ1 h1.n H1 ((oFld cs f x h1).st e fun y h5 => (fv e h5).st e fun z h => match y, z with
    | .int i, .int j => (match sameCls x h5 h with
      | true => (oFSet cs f x (.int (if sg then i + j else i - j)) h).st e fun _ h => .nx e h
      | false => .stuck)
    | _, _ => .stuck) D := p1
  rcases fld_inv (cs := cs) (f := f) (x := x) (h := h1) with z | ⟨a, c, fs, w, ex, ga, q, ql, z⟩
  · rw [z] at p1'; exact p1'.elim
  · rw [z, Rs.st_ok] at p1'
    subst ex
    cases rv with
    | loc ha =>
    obtain ⟨dx, gs, e1, r⟩ := rh1.ins ga
    obtain ⟨k1, k2⟩ := O c (by simpa using q)
    have l := r.look (f := f)
    rw [ql] at l
    obtain ⟨y, l1, l2⟩ := l
    refine ⟨_, _, dx, gs, y, rfl, e1, k1, k2, l1, ?_⟩
    refine TG_.bindS rh1 re1 p1' fun ρ2 z0 h2 u H2 rh2 re2 x2 ru p2 => ?_
    clear z
    cases w <;> first | exact False.elim p2 | skip
    case int i =>
    cases z0 <;> first | exact False.elim p2 | skip
    case int j =>
    cases l2
    cases ru
    refine ⟨i, j, rfl, rfl, ?_⟩
    have rl : RV X.K ρ2 h2.n H2 (.loc a) (.ref (ρ1 a)) := x2.rv (.loc ha)
    have p3 : PostS (FX X C We) ρ2 h2.n H2 (match sameCls (.loc a) h1 h2 with
      | true => (oFSet cs f (.loc a) (.int (if sg then i + j else i - j)) h2).st e fun _ h => .nx e h
      | false => .stuck) D := p2
    clear p2
    cases sc : sameCls (.loc a) h1 h2 with
    | false => rw [sc] at p3; exact p3.elim
    | true =>
    rw [sc] at p3
    have p3 : PostS (FX X C We) ρ2 h2.n H2 ((oFSet cs f (.loc a) (.int (if sg then i + j else i - j)) h2).st e fun _ h => .nx e h) D := p3
    obtain ⟨a2, C2, dx2, fs2, ea, e2, kk1, kk2, hl, fin⟩ := fset_ok (F := FX X C We) (σ := σ) (v := .int (if sg then i + j else i - j)) (Q := fun H => D.nx σ H) O rh2 rl .int (by
      cases q2 : oFSet cs f (.loc a) (.int (if sg then i + j else i - j)) h2 with
      | stuck => rw [q2] at p3; exact p3.elim
      | exc c h3 => rw [q2] at p3; exact fun ρ3 H3 x3 rh3 => p3 ρ3 σ H3 x3 rh3 (re2.ext x3)
      | ok u h3 => rw [q2] at p3; exact fun ρ3 u3 H3 x3 rh3 _ => p3 ρ3 σ H3 x3 rh3 ((re2.ext x3)))
    cases ea
    have er : ρ2 a = ρ1 a := x2.same a ha
    unfold sameCls at sc
    dsimp only at sc
    rw [ga] at sc
    dsimp only at sc
    cases gb : h2.get a with
    | none => rw [gb] at sc; cases sc
    | some cb =>
      rw [gb] at sc
      cases cb with
      | ins d fs3 =>
        have ed : c = d := Nat.eq_of_beq_eq_true sc
        subst ed
        obtain ⟨dx3, gs3, e3, _⟩ := rh2.ins gb
        rw [er] at e3
        rw [e2] at e3
        cases e3
        exact ⟨dx2, fs2, e2, hl, fin⟩
      | _ => cases sc
end
end Fw

set_option Elab.async false
set_option linter.all false
set_option maxRecDepth 100000
set_option maxHeartbeats 1000000
/-! Fw, part Cl2: methods called, instances made, where no text is being made. -/
namespace Fw
open PySem PySem.Spec PyProof.Rows L2
theorem make_guards {A : Around} {C : Addr} {us : List Value} {kw : List (Str × Value)} : (A.under (.builtin "type.__call__" ⟨.ref C :: us, kw⟩)).guards = A.guards := by rfl
section
variable {X : Cx} {CX : CXT} {k : Nat} {f Ca : Addr} {fd : FuncData} {ps : List Str} {sp : Sp} {E : L2.St → XK} {x m : Str} {p pos apos : Pos} {e o : Expr} {es : List Expr} {ta : L2.TE} {t : L2.TA}
def tMethG (Ca : Addr) (m : Str) (sp : Sp) (E : L2.St → XK) (ta : L2.TE) (t : L2.TA) : L2.TE := fun σ H Q => ta σ H fun x H1 => ∃ a dx fs, x = V.ref a ∧ H1 a = some (.ins Ca dx fs) ∧ fs.lookup m = none ∧ t σ H1 fun vs H2 => sp (x :: vs) H2 Q (E σ)
theorem pe_methG {pl : Sem Bool} (he : PE X o ta) (c : Cls X.K Ca) (hm : Meth X.K Ca m f) (F : FnG X.prog X.w X.K X.mg X.base CX k f fd ps sp) (g : X.A.guards = some []) (hr : Room k X.A) (hb : Binds X.K fd ps []) (hx : ∀ σ, PassesAt CX X σ (E σ)) (ha : PA X (e :: es) t)
    (hst : starEach (e :: es) X.env = (false, eval e X.env) :: starEach es X.env) (hpl : (backTo pos (starEach es X.env)).any (·.1) = false)
    (ht : eval (.Call (.Attribute o m apos) (e :: es) [] pos) X.env = (do
      let ov ← eval o X.env
      standAt apos.atName
      let (f, first) ← holding [ov] (getMethod ov m pl)
      callWith pos f first (backTo pos (starEach (e :: es) X.env)) (backToKw pos (keywordEach [] X.env)))) :
    PE X (.Call (.Attribute o m apos) (e :: es) [] pos) (tMethG Ca m sp E ta t) := by
  refine ⟨fun pins s σ H Q I h => ?_⟩
  refine PySem.W.methodCall_KW (pl := pl) (thn (he.run pins s σ H _ I h) fun u s1 ⟨x, H1, I1, rx, a, dx, fs, ex, ea, l, q⟩ => ?_) ht
  subst ex
  obtain rfl : u = Value.ref a := rx
  refine getmeth_ok I1 ea c hm l ?_
  refine PySem.W.callWith_K (first := [.ref a]) (h₀ := X.base) I.ok.mod.kin hm.kp (thn (ha.run pos pins s1 σ H1 _ I1 q) fun us s2 ⟨vs, H2, I2, r, q2⟩ => ⟨I2.kIn, ?_⟩) hst hpl
  exact runG (us := .ref a :: us) (vs := .ref a :: vs) F g hr hb (hx σ) I2 (.cons rfl r) q2
theorem pe_methG0 {pl : Sem Bool} (he : PE X o ta) (c : Cls X.K Ca) (hm : Meth X.K Ca m f) (F : FnG X.prog X.w X.K X.mg X.base CX k f fd ps sp) (g : X.A.guards = some []) (hr : Room k X.A) (hb : Binds X.K fd ps []) (hx : ∀ σ, PassesAt CX X σ (E σ))
    (ht : eval (.Call (.Attribute o m apos) [] [] pos) X.env = (do
      let ov ← eval o X.env
      standAt apos.atName
      let (f, first) ← holding [ov] (getMethod ov m pl)
      callWith pos f first (backTo pos (starEach [] X.env)) (backToKw pos (keywordEach [] X.env)))) :
    PE X (.Call (.Attribute o m apos) [] [] pos) (tMethG Ca m sp E ta tNil) := by
  refine ⟨fun pins s σ H Q I h => ?_⟩
  refine PySem.W.methodCall_KW (pl := pl) (thn (he.run pins s σ H _ I h) fun u s1 ⟨x, H1, I1, rx, a, dx, fs, ex, ea, l, q⟩ => ?_) ht
  subst ex
  obtain rfl : u = Value.ref a := rx
  refine getmeth_ok I1 ea c hm l ?_
  exact PySem.W.callWith_K0 (first := [.ref a]) I1.kIn hm.kp (runG (us := [.ref a]) (vs := [.ref a]) F g hr hb (hx σ) I1 (.cons rfl .nil) q)
def tMakeG (Ca : Addr) (sp : Sp) (E : L2.St → XK) (t : L2.TA) : L2.TE := fun σ H Q => t σ H fun vs H1 => ∀ x dx, H1 x = none → H1 dx = none → dx ≠ x →
  sp (.ref x :: vs) (upd (upd H1 dx (.own x)) x (.ins Ca dx [])) (fun v H2 => v = .non ∧ Q (.ref x) H2) (E σ)
theorem run_makeG {pins : List (Addr × Obj)} {σ : L2.St} {H : Hp} {s : Shared} {Q : VK} {us : List Value} {vs : List V} (M : Mk X.K Ca f) (F : FnG X.prog X.w X.K X.mg X.base CX k f fd ps sp) (g : X.A.guards = some []) (hr : Room (k + 1) X.A) (hb : Binds X.K fd ps [])
    (hx : PassesAt CX X σ (E σ)) (I : L2.Inv X pins σ H s) (r : Vals vs us)
    (h : ∀ x dx, H x = none → H dx = none → dx ≠ x → sp (.ref x :: vs) (upd (upd H dx (.own x)) x (.ins Ca dx [])) (fun v H2 => v = .non ∧ Q (.ref x) H2) (E σ)) :
    wpAny (model X.prog X.w) X.A (call (.ref Ca) us) (EP X pins σ Q) X.xe s := by
  have hq := h (s.heap.objs.size + 1) s.heap.objs.size (I.hok.fresh (Nat.le_succ _)) (I.hok.fresh (Nat.le_refl _)) (Nat.ne_of_lt (Nat.lt_succ_self _))
  have I2 := L2.Inv.made (C := Ca) I
  have r2 : Vals (V.ref (s.heap.objs.size + 1) :: vs) (Value.ref (s.heap.objs.size + 1) :: us) := .cons rfl r
  have hl : (Value.ref (s.heap.objs.size + 1) :: us ++ []).length = ps.length := by
    have e := r2.length
    rw [F.len _ _ _ _ hq] at e
    rw [List.append_nil]
    exact e.symm
  have hb' := hb _ (Value.ref (s.heap.objs.size + 1) :: us) I2.kIn hl
  rw [List.append_nil] at hb'
  refine wpAny_call (make_map (f := f) I.kIn M.makes M.init (beq_iff_eq.mp M.fn) (codeAny_mono (F.run _ X.stack _ _ ⟨Value.ref (s.heap.objs.size + 1) :: us, []⟩ (Value.ref (s.heap.objs.size + 1) :: us) _ _ (E σ) (make_guards.trans g) (hr.make Ca us [])
    (I2.env0.make Ca us []) hb' r2 hq) fun r s' hq' => ?_))
  cases r with
  | error e => exact hx pins _ _ e s' I2 hq'
  | ok fl =>
    cases fl with
    | ret u =>
      obtain ⟨v, H', I3, rv, ev, q3⟩ := I2.after hq'
      subst ev
      exact ⟨rv, ⟨V.ref (s.heap.objs.size + 1), H', I3, rfl, q3⟩⟩
    | next => exact False.elim hq'
    | brk => exact False.elim hq'
    | cont => exact False.elim hq'
theorem pe_makeG (M : Mk X.K Ca f) (F : FnG X.prog X.w X.K X.mg X.base CX k f fd ps sp) (g : X.A.guards = some []) (hr : Room (k + 1) X.A) (hg : Gl X x) (hm : X.mg x = some (.ref Ca)) (hb : Binds X.K fd ps []) (hx : ∀ σ, PassesAt CX X σ (E σ))
    (ha : PA X (e :: es) t) (hdb : (x == ("__debug__" : Str)) = false) (he : starEach (e :: es) X.env = (false, eval e X.env) :: starEach es X.env) (hpl : (backTo pos (starEach es X.env)).any (·.1) = false) :
    PE X (.Call (.Name x p) (e :: es) [] pos) (tMakeG Ca sp E t) := by
  refine ⟨fun pins s σ H Q I h => ?_⟩
  refine wpAny_Call_Name_kw (ld_glob I hg hm ?_ hdb)
  refine PySem.W.callWith_K (h₀ := X.base) I.ok.mod.kin M.kp (thn (ha.run pos pins s σ H _ I h) fun us s1 ⟨vs, H1, I1, r, q⟩ => ⟨I1.kIn, ?_⟩) he hpl
  exact run_makeG M F g hr hb (hx σ) I1 r q
theorem pe_makeG0 (M : Mk X.K Ca f) (F : FnG X.prog X.w X.K X.mg X.base CX k f fd ps sp) (g : X.A.guards = some []) (hr : Room (k + 1) X.A) (hg : Gl X x) (hm : X.mg x = some (.ref Ca)) (hb : Binds X.K fd ps []) (hx : ∀ σ, PassesAt CX X σ (E σ))
    (hdb : (x == ("__debug__" : Str)) = false) : PE X (.Call (.Name x p) [] [] pos) (tMakeG Ca sp E tNil) := by
  refine ⟨fun pins s σ H Q I h => ?_⟩
  refine wpAny_Call_Name_kw (ld_glob I hg hm ?_ hdb)
  exact PySem.W.callWith_K0 I.kIn M.kp (run_makeG (us := []) M F g hr hb (hx σ) I .nil h)
end
end Fw
namespace Fw
open PySem PySem.Spec PyProof.Rows L2
theorem call_tree {o : Expr} {m : Str} {apos pos : Pos} {args : List Expr} {env : PySem.Env} (hbase : attributeBase o m env (eval o env) = eval o env)
    (hfew : ((backTo pos (starEach args env)).all (fun x => !x.1) && (backToKw pos (keywordEach [] env)).all (fun x => x.1.isSome) && decide (args.length + ([] : List Keyword).length + (if ([] : List Keyword).isEmpty then 0 else 1) < 30)) = true)
    (hline : (apos.endLine == pos.line) = true) : ∃ pl : Sem Bool, eval (.Call (.Attribute o m apos) args [] pos) env = (do
      let ov ← eval o env
      standAt apos.atName
      let (f, first) ← holding [ov] (getMethod ov m pl)
      callWith pos f first (backTo pos (starEach args env)) (backToKw pos (keywordEach [] env))) := by
  have hform : methodCallForm (args.length + ([] : List Keyword).length) (backTo pos (starEach args env)) (backToKw pos (keywordEach [] env)) = true := hfew
  have hpos : methodCallPos true o env apos pos = pure pos := by unfold methodCallPos; simp [hline]
  rw [arm_eval_Call, hbase]
  unfold methodCall
  rw [hform]
  simp only [hpos]
  exact ⟨_, rfl⟩
end Fw

set_option Elab.async false
set_option linter.all false
set_option maxRecDepth 100000
set_option maxHeartbeats 1000000
/-! Fw, part J: built-ins and methods by their names. -/
namespace Fw
open PySem PySem.Spec PyProof.Rows L2
theorem callR_imp {X : Cx} {f : Value} {r r' : List V → Hp → VK → Prop} (h : CallR X f r) (k : ∀ xs H Q, r' xs H Q → r xs H Q) : CallR X f r' := fun pins s σ H xs us Q I rv q => h pins s σ H xs us Q I rv (k xs H Q q)
theorem callR_or {X : Cx} {f : Value} {r r' : List V → Hp → VK → Prop} (h : CallR X f r) (h' : CallR X f r') : CallR X f (fun xs H Q => r xs H Q ∨ r' xs H Q) := fun pins s σ H xs us Q I rv q => q.elim (h pins s σ H xs us Q I rv) (h' pins s σ H xs us Q I rv)
def bltB : Str → Option (List W → IH → Rs W) := fun x =>
  if x = "len" then some (k1 oLen) else
  if x = "all" then some (k1 oAll) else
  if x = "any" then some (k1 oAny) else
  if x = "sum" then some (k1 oSum) else
  if x = "sorted" then some (k1 oSorted) else
  if x = "min" then some kMin else
  if x = "max" then some (k1 oMax1) else none
def bltT : Str → Option (List W → IH → Rs W) := fun x =>
  if x = "list" then some (k1 oList) else
  if x = "tuple" then some (k1 oTuple) else
  if x = "int" then some (k1 oInt) else
  if x = "dict" then some (k1 oDictC) else
  if x = "str" then some (k1 oStr1) else none
section
variable {X : Cx} {C : Nat → Addr} {We : Nat → L2.St → Hp → Prop} {pos : Pos} {e : Expr} {es : List Expr} {g : EA}
theorem c_bltB {x : Str} {p : Pos} {k : List W → IH → Rs W} (hc : X.calm = true) (hk : bltB x = some k) (hg : Gl X x) (hm : X.mg x = none) (ha : PA X (e :: es) (TIA (FX X C We) g)) (h1 : (e :: es).all noStar = true) : PE X (.Call (.Name x p) (e :: es) [] pos) (TI (FX X C We) (eA k g)) := by
  obtain ⟨n1, n2⟩ := Bool.and_eq_true_iff.mp (show (noStar e && es.all noStar) = true from h1)
  unfold bltB at hk
  split at hk
  · rename_i q; subst q; cases hk
    exact c_eA (pe_callB (callR_or call_len_seq (callR_or call_len_str call_lenD)) hg hm rfl ha (by decide) (by decide) (star_cons n1) (star_back n2)) (OpN.of1 s_len)
  split at hk
  · rename_i q; subst q; cases hk
    exact c_eA (pe_callB (cr_all hc) hg hm rfl ha (by decide) (by decide) (star_cons n1) (star_back n2)) (OpN.of1 s_all)
  split at hk
  · rename_i q; subst q; cases hk
    exact c_eA (pe_callB (cr_any hc) hg hm rfl ha (by decide) (by decide) (star_cons n1) (star_back n2)) (OpN.of1 s_any)
  split at hk
  · rename_i q; subst q; cases hk
    exact c_eA (pe_callB (cr_sum hc) hg hm rfl ha (by decide) (by decide) (star_cons n1) (star_back n2)) (OpN.of1 s_sum)
  split at hk
  · rename_i q; subst q; cases hk
    exact c_eA (pe_callB (callR_or cr_sortedI (call_sortedDI hc)) hg hm rfl ha (by decide) (by decide) (star_cons n1) (star_back n2)) (OpN.of1 s_sorted)
  split at hk
  · rename_i q; subst q; cases hk
    exact c_eA (pe_callB (callR_or (cr_min hc) (call_min2 hc)) hg hm rfl ha (by decide) (by decide) (star_cons n1) (star_back n2)) s_kMin
  split at hk
  · rename_i q; subst q; cases hk
    exact c_eA (pe_callB (cr_max hc) hg hm rfl ha (by decide) (by decide) (star_cons n1) (star_back n2)) (OpN.of1 s_max1)
  · cases hk
theorem c_bltT {x : Str} {p : Pos} {k : List W → IH → Rs W} (hc : X.calm = true) (hk : bltT x = some k) (hg : Gl X x) (hm : X.mg x = none) (ha : PA X (e :: es) (TIA (FX X C We) g)) (h1 : (e :: es).all noStar = true) : PE X (.Call (.Name x p) (e :: es) [] pos) (TI (FX X C We) (eA k g)) := by
  obtain ⟨n1, n2⟩ := Bool.and_eq_true_iff.mp (show (noStar e && es.all noStar) = true from h1)
  unfold bltT at hk
  split at hk
  · rename_i q; subst q; cases hk
    exact c_eA (pe_callTy call_list_of hg hm rfl ha (by decide) (by decide) (star_cons n1) (star_back n2)) (OpN.of1 s_list)
  split at hk
  · rename_i q; subst q; cases hk
    exact c_eA (pe_callTy call_tuple_of hg hm rfl ha (by decide) (by decide) (star_cons n1) (star_back n2)) (OpN.of1 s_tuple)
  split at hk
  · rename_i q; subst q; cases hk
    exact c_eA (pe_callTy call_int1 hg hm rfl ha (by decide) (by decide) (star_cons n1) (star_back n2)) (OpN.of1 s_int)
  split at hk
  · rename_i q; subst q; cases hk
    exact c_eA (pe_callTy call_dictD hg hm rfl ha (by decide) (by decide) (star_cons n1) (star_back n2)) (OpN.of1 s_dictC)
  split at hk
  · rename_i q; subst q; cases hk
    exact c_eA (pe_callTy call_str_int hg hm rfl ha (by decide) (by decide) (star_cons n1) (star_back n2)) (OpN.of1 s_str1)
  · cases hk
theorem c_sortSet {p p2 q : Pos} {a : Expr} {fa : EE} (hc : X.calm = true) (hg : Gl X "sorted") (hm : X.mg "sorted" = none) (hg2 : Gl X "set") (hm2 : X.mg "set" = none) (ha : PE X a (TI (FX X C We) fa)) (h1 : noStar a = true) :
    PE X (.Call (.Name "sorted" p) [.Call (.Name "set" p2) [a] [] q] [] pos) (TI (FX X C We) (e1 oSortSet fa)) :=
  c_e1 (pe_sortSet hc hg hm hg2 hm2 ha (star_cons h1)) s_sortSet
theorem c_lenSet {p p2 q : Pos} {a : Expr} {fa : EE} (hc : X.calm = true) (hg : Gl X "len") (hm : X.mg "len" = none) (hg2 : Gl X "set") (hm2 : X.mg "set" = none) (ha : PE X a (TI (FX X C We) fa)) (h1 : noStar a = true) :
    PE X (.Call (.Name "len" p) [.Call (.Name "set" p2) [a] [] q] [] pos) (TI (FX X C We) (e1 oLenSet fa)) :=
  c_e1 (r := fun x H1 Q => ∃ (l : Addr) (ns : List Int), x = V.ref l ∧ SqL X.K H1 l (ns.map V.int) ∧ ns.Nodup ∧ ns.length ≤ 4000 ∧ Q (.int ns.length) H1) (RZ.pe_lenSetI hg hm hg2 hm2 ha hc (star_cons h1)) s_lenSet
/-! ### methods of lists -/
def lstM : Str → Option (List W → IH → Rs W) := fun m =>
  if m = "append" then some mAppend else
  if m = "pop" then some mPop1 else
  if m = "insert" then some mInsert else
  if m = "count" then some mCount else
  if m = "extend" then some mExtend else none
theorem c_lstM {m : Str} {o : Expr} {fo : EE} {apos : Pos} {k : List W → IH → Rs W} (hu : X.A.units + 65 < cLine) (hc : X.calm = true) (hk : lstM m = some k) (ho : PE X o (TI (FX X C We) fo)) (ha : PA X (e :: es) (TIA (FX X C We) g)) (h1 : (e :: es).all noStar = true) (h2 : noSup o = true) (h3 : (apos.endLine == pos.line) = true) (h4 : Nat.blt (e :: es).length 20 = true) :
    PE X (.Call (.Attribute o m apos) (e :: es) [] pos) (TI (FX X C We) (eMt isLst k fo g)) := by
  obtain ⟨n1, n2⟩ := Bool.and_eq_true_iff.mp (show (noStar e && es.all noStar) = true from h1)
  have few : ((backTo pos (starEach (e :: es) X.env)).all (fun x => !x.1) && (backToKw pos (keywordEach [] X.env)).all (fun x => x.1.isSome) && decide ((e :: es).length + ([] : List Keyword).length + (if ([] : List Keyword).isEmpty then 0 else 1) < 30)) = true := by
    rw [star_few h1]
    have : (e :: es).length < 20 := Nat.le_of_ble_eq_true h4
    simp only [List.length_cons] at this
    simp [keywordEach, backToKw]
    omega
  unfold lstM at hk
  split at hk
  · rename_i q; subst q; cases hk
    exact c_mtL (pe_bm PySem.F.plainAttrs_list PySem.F.slot_list_append PySem.F.type_list_append mt_append ho ha (base_ok h2) few h3 (star_cons n1) (star_back n2)) m_append
  split at hk
  · rename_i q; subst q; cases hk
    exact c_mtL (pe_bm PySem.F.plainAttrs_list PySem.F.slot_list_pop PySem.F.type_list_pop mt_popAt ho ha (base_ok h2) few h3 (star_cons n1) (star_back n2)) m_pop1
  split at hk
  · rename_i q; subst q; cases hk
    exact c_mtL (pe_bm PySem.F.plainAttrs_list PySem.F.slot_list_insert PySem.F.type_list_insert mt_insert ho ha (base_ok h2) few h3 (star_cons n1) (star_back n2)) m_insert
  split at hk
  · rename_i q; subst q; cases hk
    exact c_mtL (pe_bm PySem.F.plainAttrs_list PySem.F.slot_list_count PySem.F.type_list_count (mt_countD hu) ho ha (base_ok h2) few h3 (star_cons n1) (star_back n2)) m_count
  split at hk
  · rename_i q; subst q; cases hk
    exact c_mtL (pe_bm PySem.F.plainAttrs_list PySem.F.slot_list_extend PySem.F.type_list_extend mt_extend ho ha (base_ok h2) few h3 (star_cons n1) (star_back n2)) m_extend
  · cases hk
theorem c_pop0 {o : Expr} {fo : EE} {apos : Pos} (ho : PE X o (TI (FX X C We) fo)) (h2 : noSup o = true) (h3 : (apos.endLine == pos.line) = true) : PE X (.Call (.Attribute o "pop" apos) [] [] pos) (TI (FX X C We) (eMt isLst mPop0 fo aNil)) :=
  c_mtL0 (pe_bm0 PySem.F.plainAttrs_list PySem.F.slot_list_pop PySem.F.type_list_pop mt_pop ho (base_ok h2) h3) m_pop0
/-- x[::-1] -/
theorem RVs.reverse {K : PySem.W.Frag} {ρ : Nat → Addr} {n : Nat} {H : Hp} : ∀ {ws : List W} {vs : List V}, RVs K ρ n H ws vs → RVs K ρ n H ws.reverse vs.reverse
  | _, _, .nil => .nil
  | _, _, .cons a r => by rw [List.reverse_cons, List.reverse_cons]; exact (RVs.reverse r).append (.cons a .nil)
theorem c_rev {k : Nat} {p1 p2 p3 : Pos} (ha : PE X a (TI (FX X C We) fa)) : PE X (.Subscript a (.Slice none none (some (.UnaryOp .USub (.Constant (.int 1) k p1) p2)) p3) pos) (TI (FX X C We) (e1 oRev fa)) :=
  PEmono (PEor (pe_revL ha) (pe_revT ha)) fun σ H Q ⟨ρ, e, h, rh, re, p⟩ => by
    have p0 : Post (FX X C We) (RV X.K) σ ρ h.n H ((fa e h).bind oRev) Q := p
    cases q : fa e h with
    | stuck => rw [q] at p0; exact p0.elim
    | exc c h1 => rw [q] at p0; exact .inl ⟨ρ, e, h, rh, re, by rw [q]; exact p0⟩
    | ok x h1 =>
      rw [q] at p0
      have p0 : Post (FX X C We) (RV X.K) σ ρ h.n H (oRev x h1) Q := p0
      cases x with
      | loc i =>
        refine .inl ⟨ρ, e, h, rh, re, ?_⟩
        rw [q]
        intro ρ1 v H1 x1 rh1 rv
        cases rv with
        | loc hi =>
          have p1 := Post.shift x1 p0
          have p2 : Post (FX X C We) (RV X.K) σ ρ1 h1.n H1 (match listAt h1 i with
            | some ws => .ok (.loc h1.n) (h1.new (.lst ws.reverse))
            | none => .stuck) Q := p1
          cases g : listAt h1 i with
          | none => rw [g] at p2; exact p2.elim
          | some ws =>
            rw [g] at p2
            obtain ⟨vs, s, r, _⟩ := rh1.list g
            exact ⟨_, vs, rfl, s, post_lst rh1 r.reverse p2⟩
      | tup ws =>
        refine .inr ⟨ρ, e, h, rh, re, ?_⟩
        rw [q]
        intro ρ1 v H1 x1 rh1 rv
        cases rv with
        | tup s r =>
          have p1 := Post.shift x1 p0
          exact ⟨_, _, rfl, s, post_tup rh1 r.reverse p1⟩
      | non => exact p0.elim
      | bl _ => exact p0.elim
      | int _ => exact p0.elim
      | str _ => exact p0.elim
      | ro _ => exact p0.elim
end
end Fw

set_option Elab.async false
set_option linter.all false
set_option maxRecDepth 100000
set_option maxHeartbeats 1000000
/-! Fw, part K: from the text of an expression to its evaluation. -/
namespace Fw
open PySem PySem.Spec PyProof.Rows L2
/-- what a global name stands for -/
inductive GK where
  | fn (id : Nat)
  | con (w : W)
  | kd (kvs : List (Str × Int))
  | bt
  | exc (c : Nat) (ds : List (Nat × Bool))
  | ve (ds : List (Nat × Bool))
  | cls (c id : Nat)
  | ct (l : List Cd)
/-- a block: its places, its scope, whether it is a def's own, the module's names -/
structure SC where
  N : List Str
  sc : Scope
  top : Bool
  gk : Str → Option GK
def ixOf : List Str → Str → Option Nat
  | [], _ => none
  | y :: r, x => if y = x then some 0 else (match ixOf r x with
    | some i => some (i + 1)
    | none => none)
theorem ixOf_ok : ∀ {N : List Str} {x : Str} {i : Nat}, ixOf N x = some i → N[i]? = some x
  | [], _, _, h => by cases h
  | y :: r, x, i, h => by
    unfold ixOf at h
    split at h
    · rename_i q; cases h; rw [q]; rfl
    · cases q : ixOf r x with
      | none => rw [q] at h; cases h
      | some j => rw [q] at h; cases h; rw [List.getElem?_cons_succ]; exact ixOf_ok q
/-- what the scope says of a name: 0 a place of the block's own, 1 the module's, 2 captured -/
def kn (S : SC) (x : Str) : Option Nat := match S.sc.names.lookup x with
  | some .local => some 0
  | some .cell => some 1
  | some .free => some 2
  | some .globalImplicit => some 3
  | _ => none
def glo (S : SC) (x : Str) : Option GK := match S.sc.names.lookup x with
  | some .globalImplicit => S.gk x
  | _ => none
def seen (S : SC) (x : Str) : Option Nat := match S.sc.names.lookup x with
  | some .local => ixOf S.N x
  | some .cell => ixOf S.N x
  | some .free => ixOf S.N x
  | _ => none
/-- where it may be stored -/
def put (S : SC) (x : Str) : Option Nat := match S.sc.names.lookup x with
  | some .local => ixOf S.N x
  | some .cell => (match S.top with
    | true => ixOf S.N x
    | false => none)
  | _ => none
def hid (x : Str) : Bool := x == ("__debug__" : Str) || x == ("__classdict__" : Str)
def EXK (cl : Nat → Value) (We : Nat → L2.St → Hp → Prop) : L2.St → XK := fun σ c d H => ∃ i, c = cl i ∧ d = none ∧ We i σ H
/-- what a def's evaluation promises of the def -/
def spF (K : PySem.W.Frag) (C : Nat → Addr) (cl : Nat → Value) (n : Nat) (f : List W → IH → Rs W) : Sp := fun vs H Q E => vs.length = n ∧ ∃ ρ ws h, RH K C ρ h H ∧ RVs K ρ h.n H ws vs ∧ (match f ws h with
  | .ok w h' => ∀ ρ' v H', Ext ρ ρ' h.n h'.n H H' → RH K C ρ' h' H' → RV K ρ' h'.n H' w v → Q v H'
  | .exc c h' => ∀ ρ' H', Ext ρ ρ' h.n h'.n H H' → RH K C ρ' h' H' → E (cl c) none H'
  | .stuck => False)
/-- the arity is asked -/
def arOk (n : Nat) (f : List W → IH → Rs W) : Prop := ∀ ws h, ws.length ≠ n → f ws h = .stuck
/-- the exception class k is one of cv's, or not -/
structure ExIs (K : PySem.W.Frag) (cl : Nat → Value) (C : Nat → Addr) (k : Nat) (b : Bool) (cv : Value) : Prop where
  cl : cl k = .ref (C k)
  cls : ExcC K (C k)
  kit : PySem.W.kitOne K (.ref (C k)) cv = some b
  exm : PySem.W.exmOne K (.ref (C k)) cv = some b
/-- what is asked of a class's own facts -/
def CdOk (cl : Nat → Value) (C : Nat → Addr) (Φ : FT) (X : Cx) (d : Cd) : Prop := Cls X.K (C d.c) ∧ (∀ f ∈ d.fields, NoAttr X.K (C d.c) f) ∧ ∀ q ∈ d.meths, ∃ k f fd ps, Meth X.K (C d.c) q.1 f ∧ FnG X.prog X.w X.K X.mg X.base (L2.CX X.prog X.w) k f fd ps (spF X.K C cl ps.length (Φ q.2)) ∧ arOk ps.length (Φ q.2) ∧ Room k X.A ∧ Binds X.K fd ps []
def GlobOk (cl : Nat → Value) (C : Nat → Addr) (Φ : FT) (X : Cx) (x : Str) : GK → Prop
  | .fn id => ∃ k f fd ps, FnG X.prog X.w X.K X.mg X.base (L2.CX X.prog X.w) k f fd ps (spF X.K C cl ps.length (Φ id)) ∧ arOk ps.length (Φ id) ∧ Room k X.A ∧ X.mg x = some (.ref f) ∧ PySem.W.keepIn X.K (.ref f) = true ∧ Binds X.K fd ps []
  | .con w => ∃ u v, X.mg x = some u ∧ RelV v u ∧ ∀ ρ n H, RV X.K ρ n H w v
  | .kd kvs => ∃ d es n, KDict X.K X.w d es n ∧ X.mg x = some (.ref d) ∧ ∀ z, ∃ r, PySem.W.nsIn X.K d z = some r ∧ (match kvs.lookup z with
    | some i => ∃ u, r = some u ∧ RelV (.int i) u
    | none => r = none)
  | .bt => X.mg x = none
  | .ve ds => x = "ValueError" ∧ X.mg x = none ∧ ∀ k b, ds.lookup k = some b → ExIs X.K cl C k b (.type "ValueError")
  | .exc c ds => ∃ Ca B newId initId bmB, (C c = Ca ∧ ∀ k b, ds.lookup k = some b → ExIs X.K cl C k b (.ref Ca)) ∧ ExcBaseFacts B newId initId bmB ∧ cl c = .ref Ca ∧ PySem.W.excIn X.K Ca bmB newId = true ∧ X.mg x = some (.ref Ca) ∧ PySem.W.keepIn X.K (.ref Ca) = true ∧ PySem.W.subIn X.K (.ref Ca) (.type "BaseException") = some true ∧ PySem.W.typeIn X.K (.ref Ca) = some (.type "type")
  | .cls c id => (∀ ws h, Φ (downId id) ws h = .stuck) ∨ ∃ k f fd ps, Mk X.K (C c) f ∧ FnG X.prog X.w X.K X.mg X.base (L2.CX X.prog X.w) k f fd ps (spF X.K C cl ps.length (Φ (downId id))) ∧ arOk ps.length (Φ (downId id)) ∧ Room (k + 1) X.A ∧ X.mg x = some (.ref (C c)) ∧ Binds X.K fd ps []
  | .ct l => ∀ d ∈ l, CdOk cl C Φ X d
structure OkE (cl : Nat → Value) (C : Nat → Addr) (Φ : FT) (S : SC) (X : Cx) (We : Nat → L2.St → Hp → Prop) : Prop where
  nd : X.N.Nodup
  eN : X.N = S.N
  sc : X.env.scope = S.sc
  calm : X.calm = true
  units : X.A.units + 70 < cLine
  guards : X.A.guards = some []
  tk : Takes X fun c d σ H => EXK cl We σ c d H
  fn : S.top = true → ∀ x, X.fn x = true
  glob : ∀ x g, S.gk x = some g → GlobOk cl C Φ X x g
def relS (sc scope : Scope) : Scope := { scope with names := scope.names.map fun (n, k) => if (k == .free && sc.kind == .function && sc.names.lookup n == some .cell) then (n, .cell) else (n, k) }
def SC.inn (S : SC) (scope : Scope) : SC := { S with sc := relS S.sc scope, top := false }
theorem OkE.blk {cl : Nat → Value} {C : Nat → Addr} {Φ : FT} {S : SC} {X : Cx} {We : Nat → L2.St → Hp → Prop} (O : OkE cl C Φ S X We) (s : Shared) (H : Hp) (scope : Scope) (cs : List (Str × Addr)) (Ca : Addr) (fp : List Addr) :
    OkE cl C Φ (S.inn scope) (X.blk s H scope (compEnvC scope cs Ca X.env) fp) fun _ _ _ => False where
  nd := O.nd
  eN := O.eN
  sc := by show relabel scope X.env = relS S.sc scope; rw [← O.sc]; rfl
  calm := O.calm
  units := O.units
  guards := O.guards
  tk := fun u s' ⟨_, _, _, _, _, _, _, _, _, _, _, _, _, _, _, _, _, _, _, w⟩ => w.elim
  fn := fun z => by cases z
  glob := fun x g e => by
    have z := O.glob x g e
    cases g <;> exact z
section
variable {cl : Nat → Value} {C : Nat → Addr} {Φ : FT} {S : SC} {X : Cx} {We : Nat → L2.St → Hp → Prop} {x : Str} {pos p : Pos}
theorem OkE.gl (O : OkE cl C Φ S X We) {g : GK} (h : glo S x = some g) : Gl X x ∧ GlobOk cl C Φ X x g := by
  unfold glo at h
  split at h
  · rename_i q
    exact ⟨by unfold Gl Env.kindOf; rw [O.sc]; exact q, O.glob _ _ h⟩
  · cases h
theorem OkE.vis (O : OkE cl C Φ S X We) {i : Nat} (h : seen S x = some i) : X.N[i]? = some x ∧ Vis X.env.scope x := by
  unfold seen at h
  rw [O.eN, O.sc]
  split at h
  · rename_i q; exact ⟨ixOf_ok h, .inl q⟩
  · rename_i q; exact ⟨ixOf_ok h, .inr (.inl q)⟩
  · rename_i q; exact ⟨ixOf_ok h, .inr (.inr q)⟩
  · cases h
theorem OkE.loc (O : OkE cl C Φ S X We) {i : Nat} (h : put S x = some i) : X.N[i]? = some x ∧ Loc X.env.scope x ∧ (X.fn x = true ∨ X.env.scope.names.lookup x = some .local) := by
  unfold put at h
  rw [O.eN, O.sc]
  split at h
  · rename_i q; exact ⟨ixOf_ok h, .inl q, .inr q⟩
  · rename_i q
    split at h
    · rename_i q2; exact ⟨ixOf_ok h, .inr q, .inl (O.fn q2 x)⟩
    · cases h
  · cases h
theorem stuckE {F : Fx} {f : EE} (hf : ∀ e h, f e h = .stuck) {e : Expr} : PE X e (TI F f) := ⟨fun pins s σ H Q I ⟨ρ, e, h, _, _, p⟩ => by rw [hf] at p; exact p.elim⟩
theorem stuckT {F : Fx} {f : ET} (hf : ∀ e h, f e h = .stuck) {e : Expr} : PT X e (TIT F f) := ⟨fun pins s σ H Q I ⟨ρ, e, h, _, _, p⟩ => by rw [hf] at p; exact p.elim⟩
end
def eBad : EE := fun _ _ => .stuck
def tBad : ET := fun _ _ => .stuck
def sBad : SS := fun _ _ => .stuck
def gBad : EG := fun _ _ _ => .stuck
def iBad : EI := fun _ _ => .stuck
/-! ### the steps -/
structure RR where
  e : SC → Expr → EE
  t : SC → Expr → ET
def opK : Operator → Option (W → W → IH → Rs W)
  | .Add => some oAdd
  | .Sub => some oSub
  | .Mult => some oMul
  | .Mod => some oMod
  | .FloorDiv => some oDiv
  | .Pow => some oPow
  | _ => none
def cmpK : CmpOp → W → W → IH → Rs W
  | .Lt => oLt
  | .LtE => oLe
  | .Gt => oGt
  | .GtE => oGe
  | .Eq => oEq
  | .NotEq => oNe
  | .Is => oIs
  | .IsNot => oIsNot
  | .In => oIn
  | .NotIn => oNotIn
/-- the comparisons of a chain -/
def chK : CmpOp → Option (W → W → IH → Rs W)
  | .Lt => some oLt
  | .LtE => some oLe
  | .Gt => some oGt
  | .GtE => some oGe
  | _ => none
def oInKd (kvs : List (Str × Int)) : W → IH → Rs W
  | .str z, h => .ok (.bl (kvs.lookup z).isSome) h
  | _, _ => .stuck
def oIxKd (kvs : List (Str × Int)) : W → IH → Rs W
  | .str z, h => (match kvs.lookup z with
    | some i => .ok (.int i) h
    | none => .stuck)
  | _, _ => .stuck
def args (f : Expr → EE) : List Expr → EA
  | [] => aNil
  | e :: es => aCons (f e) (args f es)
def andL (f : Expr → EE) : List Expr → EE
  | [] => eBad
  | [e] => f e
  | e :: es => eAnd (f e) (andL f es)
def orL (f : Expr → EE) : List Expr → EE
  | [] => eBad
  | [e] => f e
  | e :: es => eOr (f e) (orL f es)
def andT (f : Expr → ET) : List Expr → ET
  | [] => tBad
  | [e] => f e
  | e :: es => tAnd (f e) (andT f es)
def orT (f : Expr → ET) : List Expr → ET
  | [] => tBad
  | [e] => f e
  | e :: es => tOr (f e) (orT f es)
def kdOf (S : SC) : Expr → Option (List (Str × Int))
  | .Name x _ => (match hid x with
    | true => none
    | false => match glo S x with
      | some (.kd kvs) => some kvs
      | _ => none)
  | _ => none
def tyOf_ : Str → Option Ty := fun x =>
  if x = "int" then some .int else if x = "bool" then some .bool else if x = "str" then some .str else if x = "tuple" then some .tuple else if x = "list" then some .list else if x = "dict" then some .dict else none
def pairs (f : Expr → EE) : List (Option Expr) → List Expr → List (EE × EE)
  | some k :: ks, v :: vs => (f k, f v) :: pairs f ks vs
  | _, _ => []
/-- the block's own names, by place -/
def ownOf (N : List Str) : List (Str × NameKind) → List (Str × Nat)
  | [] => []
  | (y, k) :: r => match k with
    | .local => (match ixOf N y with
      | some i => (y, i) :: ownOf N r
      | none => ownOf N r)
    | .cell => (match ixOf N y with
      | some i => (y, i) :: ownOf N r
      | none => ownOf N r)
    | _ => ownOf N r
/-- a comprehension's targets -/
def tgW (S : SC) (vs : List Nat) : Nat → Expr → EG
  | 0, _ => gBad
  | n + 1, e => match e with
    | .Name x _ => (match put S x with
      | some i => (match vs.contains i with
        | true => gNm i
        | false => gBad)
      | none => gBad)
    | .Tuple es _ _ => (match es.all noStar with
      | true => gTp (es.map (tgW S vs n))
      | false => gBad)
    | _ => gBad
def isBt (S : SC) (x : Str) : Bool := match glo S x with
  | some .bt => true
  | _ => false
def isTupE : Expr → Bool
  | .Tuple _ _ _ => true
  | _ => false
def iterC (r : RR) (S : SC) (tg iter : Expr) : EI := match iter with
  | .Call (.Name f _) [a] [] _ => (match hid f || !noStar a with
    | true => iBad
    | false => if f = "range" then (match isBt S "range" with
        | true => iA kRng1 (args (r.e S) [a])
        | false => iBad)
      else if f = "enumerate" then (match isBt S "enumerate" && isTupE tg with
        | true => iA kEnu (args (r.e S) [a])
        | false => iBad)
      else iAny (r.e S iter))
  | .Call (.Name f _) [a, b] [] _ => (match hid f || !noStar a || !noStar b with
    | true => iBad
    | false => if f = "range" then (match isBt S "range" with
        | true => iA kRng2 (args (r.e S) [a, b])
        | false => iBad)
      else if f = "zip" then (match isBt S "zip" && isTupE tg with
        | true => iA kZip (args (r.e S) [a, b])
        | false => iBad)
      else iAny (r.e S iter))
  | .Call (.Name f _) [a, b] [⟨some kw, .Constant (.bool false) _ _, _⟩] _ => (match hid f || !noStar a || !noStar b with
    | true => iBad
    | false => if f = "zip" ∧ kw = "strict" then (match isBt S "zip" && isTupE tg with
        | true => iA kZip (args (r.e S) [a, b])
        | false => iBad)
      else iBad)
  | _ => iAny (r.e S iter)
def ifsC (r : RR) (S : SC) : List Expr → ET
  | [] => tYes
  | [c] => r.t S c
  | _ => tBad
def compC (r : RR) (S : SC) (elt : Expr) (gens : List Comprehension) (scope : Scope) : EE := match gens with
  | [⟨tg, iter, ifs, 0⟩] =>
    (match blkC S.N S.sc scope (ownOf S.N scope.names) && noSet iter with
    | true => eLc (iterC r S tg iter) (tgW (S.inn scope) ((ownOf S.N scope.names).map (·.2)) 9 tg) (ifsC r (S.inn scope) ifs) (r.e (S.inn scope) elt) ((ownOf S.N scope.names).map (·.2))
    | false => eBad)
  | _ => eBad
/-- sorted(set(b)) -/
def setArg (S : SC) (f : Str) (a : Expr) (rest : List Expr) : Option Expr := match rest with
  | [] => (match a with
    | .Call (.Name g _) [b] [] _ => if (f = "sorted" ∨ f = "len") ∧ g = "set" then (match isBt S "set" && noStar b with
        | true => some b
        | false => none)
      else none
    | _ => none)
  | _ => none
def setK (f : Str) : W → IH → Rs W := if f = "sorted" then oSortSet else oLenSet
/-- the module's classes -/
def ctOf (S : SC) : List Cd := match S.gk "" with
  | some (.ct l) => l
  | _ => []
/-- the classes whose instances have a field of this name -/
def fldCs (S : SC) (f : Str) : List Nat := ((ctOf S).filter fun d => d.fields.contains f).map (·.c)
/-- the classes that have a method of this name, with its def -/
def mthCs (S : SC) (m : Str) : List (Nat × Nat) := (ctOf S).filterMap fun d => match d.meths.lookup m with
  | some id => some (d.c, id)
  | none => none
def callC (Φ : FT) (r : RR) (S : SC) (f : Str) (as : List Expr) : EE := match hid f || !as.all noStar with
  | true => eBad
  | false => match glo S f with
    | some (.fn id) => eCall Φ id (args (r.e S) as)
    | some .bt => (match as with
      | [] => eBad
      | a :: rest => match bltB f with
        | some k => (match setArg S f a rest with
          | some b => e1 (setK f) (r.e S b)
          | none => eA k (args (r.e S) as))
        | none => if f = "repr" then (match rest with
            | [] => e1 oRepr (r.e S a)
            | _ => eBad)
          else if f = "isinstance" then (match rest with
            | [.Tuple [.Name c _, .Name d _] _ _] => (match hid c, glo S c, tyOf_ c, hid d, glo S d, tyOf_ d with
              | false, some .bt, some u, false, some .bt, some t => e1 (oIsi [u, t]) (r.e S a)
              | _, _, _, _, _, _ => eBad)
            | [.Name c _] => (match hid c, glo S c, tyOf_ c with
              | false, some .bt, some u => e1 (oIsi [u]) (r.e S a)
              | false, some (.exc _ ds), _ => e1 (oIsE ds) (r.e S a)
              | false, some (.ve ds), _ => e1 (oIsE ds) (r.e S a)
              | _, _, _ => eBad)
            | _ => eBad)
          else match bltT f with
            | some k => (match a, rest with
              | .Call (.Name g _) [b] [] _, [] => if f = "list" ∧ g = "range" then (match isBt S "range" && noStar b with
                  | true => e1 oListRange (r.e S b)
                  | false => eBad)
                else eA k (args (r.e S) as)
              | .Call (.Name g _) [b, c] [] _, [] => if f = "list" ∧ g = "range" then (match isBt S "range" && noStar b && noStar c with
                  | true => e2 oListRange2 (r.e S b) (r.e S c)
                  | false => eBad)
                else eA k (args (r.e S) as)
              | _, _ => eA k (args (r.e S) as))
            | none => eBad)
    | some (.exc c _) => (match as with
      | [a] => eErr c (r.e S a)
      | _ => eBad)
    | some (.cls c id) => eMake Φ c id (args (r.e S) as)
    | _ => eBad
def methC (Φ : FT) (r : RR) (S : SC) (o : Expr) (m : Str) (as : List Expr) (apos pos : Pos) : EE := match as.all noStar && noSup o && apos.endLine == pos.line && Nat.blt as.length 20 with
  | false => eBad
  | true => match mthCs S m with
  | q :: ms => eMeth Φ (q :: ms) m (r.e S o) (args (r.e S) as)
  | [] => match as with
    | [] => if m = "pop" then eMt isLst mPop0 (r.e S o) aNil else eBad
    | a :: rest => match lstM m with
      | some k => eMt isLst k (r.e S o) (args (r.e S) as)
      | none => if m = "get" then (match rest with
          | [b] => eMt isDk mGet2 (r.e S o) (aCons (r.e S a) (aCons (r.e S b) aNil))
          | _ => eBad)
        else eBad
def boundC (r : RR) (S : SC) : Option Expr → EO
  | none => pNone
  | some e => pSome (r.e S e)
def cmpC (r : RR) (S : SC) (a : Expr) (ops : List CmpOp) (bs : List Expr) : EE := match ops, bs with
  | [op], [b] => (match noSet b with
    | false => eBad
    | true => match kdOf S b with
      | some kvs => (match op with
        | .In => e1 (oInKd kvs) (r.e S a)
        | _ => eBad)
      | none => e2 (cmpK op) (r.e S a) (r.e S b))
  | [op, op'], [b, c] => (match noSet c with
    | false => eBad
    | true => match chK op, chK op' with
      | some k, some k' => eChain k k' (r.e S a) (r.e S b) (r.e S c)
      | _, _ => eBad)
  | _, _ => eBad
def stepE (Φ : FT) (r : RR) (S : SC) (e : Expr) : EE := match e with
  | .Name x _ => (match hid x with
    | true => eBad
    | false => match seen S x with
      | some i => eVar i
      | none => match glo S x with
        | some (.con w) => eC w
        | _ => eBad)
  | .Constant c _ _ => (match c with
    | .int i => eC (.int i)
    | .bool b => eC (.bl b)
    | .none => eC .non
    | .str z => eC (.str z)
    | _ => eBad)
  | .BinOp a op b _ => (match opK op with
    | some k => e2 k (r.e S a) (r.e S b)
    | none => eBad)
  | .UnaryOp op a _ => (match op with
    | .Not => eNot (r.e S a)
    | .USub => e1 uNeg (r.e S a)
    | _ => eBad)
  | .BoolOp op es _ => (match op with
    | .And => andL (r.e S) es
    | .Or => orL (r.e S) es)
  | .IfExp c a b _ => eIf (r.t S c) (r.e S a) (r.e S b)
  | .Compare a ops bs _ => cmpC r S a ops bs
  | .Tuple es _ _ => (match es.all noStar with
    | true => eTup (args (r.e S) es)
    | false => eBad)
  | .List es _ => (match es.all noStar with
    | true => eLst (args (r.e S) es)
    | false => eBad)
  | .Dict keys values _ => (match keys.all (·.isSome) && Nat.beq keys.length values.length && Nat.blt keys.length 16 with
    | true => eDic (pairs (r.e S) keys values)
    | false => eBad)
  | .ListComp elt gens scope _ => compC r S elt gens scope
  | .Subscript a i _ => (match i with
    | .Slice none none (some (.UnaryOp .USub (.Constant (.int 1) _ _) _)) _ => e1 oRev (r.e S a)
    | .Slice lo hi none _ => eSl (r.e S a) (boundC r S lo) (boundC r S hi)
    | _ => match noSlice i with
      | false => eBad
      | true => match kdOf S a with
        | some kvs => e1 (oIxKd kvs) (r.e S i)
        | none => e2 oIx (r.e S a) (r.e S i))
  | .Attribute o f _ => (match noSup o with
    | true => e1 (oFld (fldCs S f) f) (r.e S o)
    | false => eBad)
  | .Call f as ks pos => (match ks with
    | [] => (match f with
      | .Name x _ => callC Φ r S x as
      | .Attribute o m apos => methC Φ r S o m as apos pos
      | _ => eBad)
    | _ => eBad)
  | _ => eBad
def stepT (r : RR) (S : SC) (e : Expr) : ET := match e with
  | .UnaryOp op a _ => (match op with
    | .Not => tNot (r.t S a)
    | _ => tBad)
  | .BoolOp op es _ => (match op with
    | .And => andT (r.t S) es
    | .Or => orT (r.t S) es)
  | .Compare a ops bs _ => tBol (cmpC r S a ops bs)
  | .IfExp _ _ _ _ => tBad
  | e => tTru (r.e S e)
def rk (Φ : FT) : Nat → RR
  | 0 => ⟨fun _ _ => eBad, fun _ _ => tBad⟩
  | n + 1 => ⟨fun S e => stepE Φ (rk Φ n) S e, fun S e => stepT (rk Φ n) S e⟩
end Fw

set_option Elab.async false
set_option linter.all false
set_option maxRecDepth 100000
set_option maxHeartbeats 1000000
/-! Fw, part L: the evaluation of an expression's text is true to it. -/
namespace Fw
open PySem PySem.Spec PyProof.Rows L2
section
variable {cl : Nat → Value} {C : Nat → Addr} {Φ : FT} {S : SC} {X : Cx} {We : Nat → L2.St → Hp → Prop} {x : Str} {pos p : Pos} {e : Expr} {es : List Expr}
theorem args_ok {f : Expr → EE} (hf : ∀ e, PE X e (TI (FX X C We) (f e))) : ∀ {es : List Expr}, es.all noStar = true → PA X es (TIA (FX X C We) (args f es))
  | [], _ => a_nil
  | e :: es, h => by
    obtain ⟨h1, h2⟩ := Bool.and_eq_true_iff.mp (show (noStar e && es.all noStar) = true from h)
    exact a_cons (hf e) (args_ok hf h2) (star_cons h1)
theorem andL_ok {f : Expr → EE} (hf : ∀ e, PE X e (TI (FX X C We) (f e))) : ∀ {es : List Expr}, PE X (.BoolOp .And es pos) (TI (FX X C We) (andL f es))
  | [] => stuckE fun _ _ => rfl
  | [e] => c_and1 (hf e)
  | e :: b :: r => c_and (hf e) (andL_ok hf)
theorem orL_ok {f : Expr → EE} (hf : ∀ e, PE X e (TI (FX X C We) (f e))) : ∀ {es : List Expr}, PE X (.BoolOp .Or es pos) (TI (FX X C We) (orL f es))
  | [] => stuckE fun _ _ => rfl
  | [e] => c_or1 (hf e)
  | e :: b :: r => c_or (hf e) (orL_ok hf)
theorem andT_ok {f : Expr → ET} (hf : ∀ e, PT X e (TIT (FX X C We) (f e))) : ∀ {es : List Expr}, PW X (.BoolOp .And es pos) (TIT (FX X C We) (andT f es))
  | [] => ⟨fun whole pins s σ H Q I ⟨ρ, e, h, _, _, p⟩ => p.elim⟩
  | [e] => t_and1 (hf e)
  | e :: b :: r => t_and (hf e) (andT_ok hf)
theorem orT_ok {f : Expr → ET} (hf : ∀ e, PT X e (TIT (FX X C We) (f e))) : ∀ {es : List Expr}, PW X (.BoolOp .Or es pos) (TIT (FX X C We) (orT f es))
  | [] => ⟨fun whole pins s σ H Q I ⟨ρ, e, h, _, _, p⟩ => p.elim⟩
  | [e] => t_or1 (hf e)
  | e :: b :: r => t_or (hf e) (orT_ok hf)
/-! ### comparisons -/
def cmpR (X : Cx) : CmpOp → R2
  | .Lt => rI0 fun i j => .bl (decide (i < j))
  | .LtE => rI0 fun i j => .bl (decide (i ≤ j))
  | .Gt => rI0 fun i j => .bl (decide (j < i))
  | .GtE => rI0 fun i j => .bl (decide (j ≤ i))
  | .Eq => fun x y H Q => (rEq x y H Q ∨ rEqD X.K x y H Q) ∨ rEqE X.K x y H Q
  | .NotEq => fun x y H Q => rNe x y H Q ∨ rNeD X.K x y H Q
  | .Is => fun x y H Q => (y = .non ∧ Q (.bl (decide (x = .non))) H) ∨ rIsB x y H Q
  | .IsNot => fun x y H Q => (y = .non ∧ Q (.bl (!decide (x = .non))) H) ∨ rNotB x y H Q
  | .In => fun x y H Q => (rIn X.K false x y H Q ∨ rInD X.K x y H Q) ∨ ∃ a o, y = .ref a ∧ DGet H a x o ∧ Q (.bl o.isSome) H
  | .NotIn => fun x y H Q => (rIn X.K true x y H Q ∨ rNotInD X.K x y H Q) ∨ ∃ a o, y = .ref a ∧ DGet H a x o ∧ Q (.bl (!o.isSome)) H
theorem cmp_op (hu : X.A.units + 70 < cLine) : ∀ op : CmpOp, OpR X (compareOp op) (cmpR X op)
  | .Lt => op_lt
  | .LtE => op_le
  | .Gt => op_gt
  | .GtE => op_ge
  | .Eq => OpR.or (OpR.or op_eq (op_eqD (by omega))) (op_eqE (by omega))
  | .NotEq => OpR.or op_ne (op_neD (by omega))
  | .Is => OpR.or op_isN op_isBl
  | .IsNot => OpR.or op_notN op_notBl
  | .In => OpR.or (OpR.or op_in_seq (op_inD (by omega))) (op_inDict (by omega))
  | .NotIn => OpR.or (OpR.or op_notIn_seq (op_notInD (by omega))) (op_ninDict (by omega))
theorem cmp_sv : ∀ op : CmpOp, Op2 (FX X C We) (cmpK op) (cmpR X op)
  | .Lt => s_cInt _
  | .LtE => s_cInt _
  | .Gt => s_cInt _
  | .GtE => s_cInt _
  | .Eq => s_eq
  | .NotEq => s_ne
  | .Is => s_is
  | .IsNot => s_isnot
  | .In => s_in
  | .NotIn => s_notin
theorem chK_eq {op : CmpOp} {k : W → W → IH → Rs W} (h : chK op = some k) : k = cmpK op := by
  cases op <;> simp only [chK] at h <;> cases h <;> rfl
def opR2 (X : Cx) : Operator → R2
  | .Add => fun x y H Q => rI0 (fun i j => .int (i + j)) x y H Q ∨ (∃ i j, x = .str i ∧ y = .str j ∧ i.length + j.length ≤ sizeLine ∧ Q (.str (i ++ j)) H) ∨ rCatA X.K x y H Q ∨ rCat x y H Q
  | .Sub => rI0 fun i j => .int (i - j)
  | .Mult => fun x y H Q => rI CMul (fun i j => .int (i * j)) x y H Q ∨ rRepT X.K x y H Q ∨ rRep x y H Q
  | .Mod => rI (fun _ j => 0 < j) fun i j => .int (i % j)
  | .FloorDiv => rI CDiv fun i j => .int (i / j)
  | .Pow => rI CPow fun i j => .int (i ^ j.toNat)
  | _ => fun _ _ _ _ => False
theorem op_ok {op : Operator} {k : W → W → IH → Rs W} (h : opK op = some k) : OpR X (binaryOp op) (opR2 X op) ∧ Op2 (FX X C We) k (opR2 X op) := by
  cases op <;> simp only [opK] at h <;> cases h
  · exact ⟨OpR.or op_add (OpR.or op_add_str (OpR.or op_catA op_cat)), s_add⟩
  · exact ⟨op_sub, s_sub⟩
  · exact ⟨OpR.or op_mul (OpR.or op_repT op_rep), s_mul⟩
  · exact ⟨op_mod, s_mod⟩
  · exact ⟨op_pow, s_pow⟩
  · exact ⟨op_fdiv, s_div⟩
end
end Fw

set_option Elab.async false
set_option linter.all false
set_option maxRecDepth 100000
set_option maxHeartbeats 1000000
/-! Fw, part M: steps. -/
namespace Fw
open PySem PySem.Spec PyProof.Rows L2
def RSound (cl : Nat → Value) (C : Nat → Addr) (Φ : FT) (r : RR) : Prop := ∀ (S : SC) (X : Cx) (We : Nat → L2.St → Hp → Prop), OkE cl C Φ S X We → (∀ e, PE X e (TI (FX X C We) (r.e S e))) ∧ ∀ e, PT X e (TIT (FX X C We) (r.t S e))
section
variable {cl : Nat → Value} {C : Nat → Addr} {Φ : FT} {S : SC} {X : Cx} {We : Nat → L2.St → Hp → Prop} {x : Str} {pos p : Pos} {a b c e : Expr} {es : List Expr} {r : RR} {fa fb fc : EE} {g : EA}
/-! ### written dicts -/
theorem glob_ref {d : Addr} (G : Gl X x) (hm : X.mg x = some (.ref d)) (hd : (x == ("__debug__" : Str)) = false) : PE X (.Name x p) (tC (.ref d)) := ⟨fun pins s σ H Q I h => ld_glob I G hm ⟨.ref d, H, I, rfl, h⟩ hd⟩
theorem hid_d (h : hid x = false) : (x == ("__debug__" : Str)) = false := by unfold hid at h; rw [Bool.or_eq_false_iff] at h; exact h.1
theorem hid_c (h : hid x = false) : (x == ("__classdict__" : Str)) = false := by unfold hid at h; rw [Bool.or_eq_false_iff] at h; exact h.2
theorem kd_of {kvs : List (Str × Int)} (O : OkE cl C Φ S X We) (hk : kdOf S b = some kvs) : ∃ d es n, KDict X.K X.w d es n ∧ PE X b (tC (.ref d)) ∧ ∀ z, ∃ r, PySem.W.nsIn X.K d z = some r ∧ (match kvs.lookup z with
    | some i => ∃ u, r = some u ∧ RelV (.int i) u
    | none => r = none) := by
  unfold kdOf at hk
  split at hk
  · rename_i x p
    split at hk
    · cases hk
    · rename_i hh
      split at hk
      · rename_i kk hg
        cases hk
        obtain ⟨G, d, es, n, D, hm, hz⟩ := O.gl hg
        exact ⟨d, es, n, D, glob_ref G hm (hid_d hh), hz⟩
      · cases hk
  · cases hk
theorem inKd_imp {kvs : List (Str × Int)} {d : Addr} (hz : ∀ z, ∃ r, PySem.W.nsIn X.K d z = some r ∧ (match kvs.lookup z with
    | some i => ∃ u, r = some u ∧ RelV (.int i) u
    | none => r = none)) (σ : L2.St) (H : Hp) (Q : VK) (h : TI (FX X C We) (e1 (oInKd kvs) fa) σ H Q) :
    tOp (fun x y H Q => ∃ (z : Str) (r : Option Value), x = .str z ∧ y = .ref d ∧ PySem.W.nsIn X.K d z = some r ∧ Q (.bl r.isSome) H) (TI (FX X C We) fa) (tC (.ref d)) σ H Q := by
  obtain ⟨ρ, en, h, rh, re, p⟩ := h
  refine TG_.bind (k := oInKd kvs) rh re p fun ρ1 x h1 v H1 rh1 re1 x1 rv p1 => ?_
  cases rv <;> first | exact False.elim p1 | skip
  case str z =>
    obtain ⟨r, e, q⟩ := hz z
    have p2 : Post (FX X C We) (RV X.K) σ ρ1 h1.n H1 (.ok (.bl (kvs.lookup z).isSome) h1) Q := p1
    have er : (kvs.lookup z).isSome = r.isSome := by
      cases l : kvs.lookup z with
      | none => rw [l] at q; rw [q]; rfl
      | some i => rw [l] at q; obtain ⟨u, q, _⟩ := q; rw [q]; rfl
    rw [er] at p2
    exact ⟨z, r, rfl, rfl, e, post_same rh1 p2 .bl⟩
theorem c_inKd {kvs : List (Str × Int)} (O : OkE cl C Φ S X We) (hk : kdOf S b = some kvs) (hb : noSet b = true) (ha : PE X a (TI (FX X C We) fa)) (t_test : ∀ {e : Expr} {fa : EE} {t0 : L2.TE}, PT X e (tTest t0) → (∀ σ H Q, TI (FX X C We) fa σ H Q → t0 σ H Q) → PT X e (TIT (FX X C We) (tBol fa))) :
    PE X (.Compare a [.In] [b] pos) (TI (FX X C We) (e1 (oInKd kvs) fa)) ∧ PT X (.Compare a [.In] [b] pos) (TIT (FX X C We) (tBol (e1 (oInKd kvs) fa))) := by
  obtain ⟨d, es, n, D, hp, hz⟩ := kd_of O hk
  exact ⟨PEmono (pe_cmpR (op_in_kd D) ha hp (set_ok_ hb)) (inKd_imp hz), t_test (pt_cmpR (op_in_kd D) ha hp (set_ok_ hb)) (inKd_imp hz)⟩
theorem ix_kd {d : Addr} {es : Array DictEntry} {n : Nat} (D : KDict X.K X.w d es n) : IxR X (fun x y H Q => ∃ (z : Str) (u0 : Value) (v0 : V), x = .ref d ∧ y = .str z ∧ PySem.W.nsIn X.K d z = some (some u0) ∧ RelV v0 u0 ∧ Q v0 H) := by
  intro value slice pins s σ H x y v u Q I rx ry h hs
  obtain ⟨z, u0, v0, rfl, rfl, e, r, q⟩ := h
  obtain rfl : v = Value.ref d := rx
  exact PyProof.Rows.tail_any (kd_type D I) PySem.F.slot_dict_getitem.lookup (op_item_kd D pins s σ H (.ref d) (.str z) (.ref d) u Q I rfl ry ⟨z, u0, v0, rfl, rfl, e, r, q⟩) hs
theorem c_ixKd {kvs : List (Str × Int)} (O : OkE cl C Φ S X We) (hk : kdOf S a = some kvs) (hb : noSlice b = true) (ha : PE X b (TI (FX X C We) fb)) : PE X (.Subscript a b pos) (TI (FX X C We) (e1 (oIxKd kvs) fb)) := by
  obtain ⟨d, es, n, D, hp, hz⟩ := kd_of O hk
  refine PEmono (pe_ix (ix_kd D) hp ha (ix_plain hb)) fun σ H Q ⟨ρ, en, h, rh, re, p⟩ => ?_
  refine TG_.bind (k := oIxKd kvs) rh re p fun ρ1 x h1 v H1 rh1 re1 x1 rv p1 => ?_
  cases rv <;> first | exact False.elim p1 | skip
  case str z =>
    obtain ⟨r, e, q⟩ := hz z
    have p2 : Post (FX X C We) (RV X.K) σ ρ1 h1.n H1 (match kvs.lookup z with
      | some i => .ok (.int i) h1
      | none => .stuck) Q := p1
    cases l : kvs.lookup z with
    | none => rw [l] at p2; exact p2.elim
    | some i =>
      rw [l] at p2 q
      obtain ⟨u, q, ru⟩ := q
      subst q
      exact ⟨z, u, .int i, rfl, rfl, e, ru, post_same rh1 p2 .int⟩
/-! ### tests -/
theorem t_test {t0 : L2.TE} (h : PT X e (tTest t0)) (k : ∀ σ H Q, TI (FX X C We) fa σ H Q → t0 σ H Q) : PT X e (TIT (FX X C We) (tBol fa)) :=
  PTmono h fun σ H Q ⟨ρ, en, h, rh, re, p⟩ => k σ H _ (TG_.bind (RA := RV X.K) (k := bolW) rh re p fun ρ1 x h1 v H1 rh1 re1 x1 rv p1 => by
    cases rv <;> first | exact False.elim p1 | skip
    exact ⟨_, rfl, post_same rh1 p1 rfl⟩)
theorem cmpC_ok (O : OkE cl C Φ S X We) (hr : RSound cl C Φ r) {ops : List CmpOp} {bs : List Expr} :
    PE X (.Compare a ops bs pos) (TI (FX X C We) (cmpC r S a ops bs)) ∧ PT X (.Compare a ops bs pos) (TIT (FX X C We) (tBol (cmpC r S a ops bs))) := by
  have bad : PE X (.Compare a ops bs pos) (TI (FX X C We) eBad) ∧ PT X (.Compare a ops bs pos) (TIT (FX X C We) (tBol eBad)) := ⟨stuckE fun _ _ => rfl, stuckT fun _ _ => rfl⟩
  have H := (hr S X We O).1
  unfold cmpC
  split
  · rename_i op b
    split
    · exact bad
    · rename_i hs
      split
      · rename_i kvs hk
        split
        · exact c_inKd O hk hs (H _) t_test
        · exact bad
      · exact ⟨c_e2 (pe_cmpR (cmp_op O.units op) (H _) (H _) (set_ok_ hs)) (cmp_sv op), t_cmp (cmp_op O.units op) (cmp_sv op) (set_ok_ hs) (H _) (H _)⟩
  · rename_i op op' b c
    split
    · exact bad
    · rename_i hs
      split
      · rename_i k k' h1 h2
        rw [chK_eq h1, chK_eq h2]
        exact ⟨PEmono (pe_chain (cmp_op O.units op) (cmp_op O.units op') (H _) (H _) (H _) (last_ok hs)) fun _ _ _ => chain_imp (cmp_sv op) (cmp_sv op'), t_test (pt_chain (cmp_op O.units op) (cmp_op O.units op') (H _) (H _) (H _) (last_ok hs)) fun _ _ _ => chain_imp (cmp_sv op) (cmp_sv op')⟩
      · exact bad
  · exact bad
/-! ### calls -/
theorem c_call {id : Nat} (O : OkE cl C Φ S X We) (hg : glo S x = some (.fn id)) (hh : hid x = false) (ha : PA X es (TIA (FX X C We) g)) (hn : es.all noStar = true) (g0 : es = [] → g = aNil) : PE X (.Call (.Name x p) es [] pos) (TI (FX X C We) (eCall Φ id g)) := by
  obtain ⟨G, k, f, fd, ps, F, ar, hr, hm, hk, hb⟩ := O.gl hg
  have hd : (x == ("__debug__" : Str)) = false := by unfold hid at hh; rw [Bool.or_eq_false_iff] at hh; exact hh.1
  have imp : ∀ σ H Q, TI (FX X C We) (eCall Φ id g) σ H Q → tCallG (spF X.K C cl ps.length (Φ id)) (EXK cl We) (TIA (FX X C We) g) σ H Q := fun σ H Q ⟨ρ, en, h, rh, re, p⟩ =>
    TG_.bind (RA := RVs X.K) (k := fun ws h => Φ id ws h) rh re p fun ρ1 ws h1 vs H1 rh1 re1 x1 rv p1 => by
      have hl : ws.length = ps.length := Classical.byContradiction fun ne => by rw [ar ws h1 ne] at p1; exact p1.elim
      refine ⟨rv.length.symm.trans hl, ρ1, ws, h1, rh1, rv, ?_⟩
      cases q : Φ id ws h1 with
      | stuck => rw [q] at p1; exact p1.elim
      | ok w h2 => rw [q] at p1; exact p1
      | exc c h2 => rw [q] at p1; exact fun ρ' H' x r => ⟨c, rfl, rfl, p1 ρ' H' x r⟩
  have h0 : es = [] → ∀ σ H Q, TI (FX X C We) (eCall Φ id g) σ H Q → tCallG (spF X.K C cl ps.length (Φ id)) (EXK cl We) tNil σ H Q := fun z σ H Q h => by
    obtain ⟨ρ, en, h1, rh1, re, p1⟩ := h
    rw [g0 z] at p1
    have p1 : Post (FX X C We) (RV X.K) σ ρ h1.n H (Φ id [] h1) Q := p1
    have hl : ([] : List W).length = ps.length := Classical.byContradiction fun ne => by rw [ar [] h1 ne] at p1; exact p1.elim
    refine ⟨hl, ρ, [], h1, rh1, .nil, ?_⟩
    cases q : Φ id [] h1 with
    | stuck => rw [q] at p1; exact p1.elim
    | ok w h2 => rw [q] at p1; exact p1
    | exc c h2 => rw [q] at p1; exact fun ρ' H' x r => ⟨c, rfl, rfl, p1 ρ' H' x r⟩
  cases es with
  | nil => exact ⟨fun pins s σ H Q I h => (pe_callG0 (pos := pos) (p := p) F O.guards hr G hm hk hb (passAt O.tk) hd).run pins s σ H Q I (h0 rfl σ H Q h)⟩
  | cons e es =>
    obtain ⟨n1, n2⟩ := Bool.and_eq_true_iff.mp (show (noStar e && es.all noStar) = true from hn)
    exact PEmono (pe_callG F O.guards hr G hm hk hb (passAt O.tk) ha hd (star_cons n1) (star_back n2)) imp
/-! ### calls of built-ins -/
theorem isBt_ok (O : OkE cl C Φ S X We) (h : isBt S x = true) : Gl X x ∧ X.mg x = none := by
  unfold isBt at h
  split at h
  · rename_i q; exact O.gl q
  · cases h
theorem ty_name {u : Ty} (h : tyOf_ x = some u) (hg : Gl X x) (hm : X.mg x = none) : isOwn u = false ∧ PE X (.Name x p) (tC (.ty (tyN u))) := by
  unfold tyOf_ at h
  repeat' split at h
  all_goals first
    | (rename_i q; subst q; cases h; exact ⟨rfl, pe_bltn hg hm rfl rfl⟩)
    | cases h
theorem post_err {c : Nat} {σ : L2.St} {ρ : Nat → Addr} {h : IH} {H : Hp} {Q : VK} (rh : RH X.K C ρ h H) (p : Post (FX X C We) (RV X.K) σ ρ h.n H (.ok (.loc h.n) (h.new (.err c))) Q) : ∀ a, H a = none → Q (.ref a) (upd H a (ExO (.ref (C c)) a)) := fun a ha => by
  have x : Ext ρ (rhoN ρ h.n a) h.n (h.new (.err c)).n H (upd H a (ExO (.ref (C c)) a)) := ext_new ha
  have e : V.ref a = V.ref (rhoN ρ h.n a h.n) := by rw [rhoN_self]
  refine p (rhoN ρ h.n a) (.ref a) _ x (rh.new ha rfl ⟨_, upd_same, fun hp ⟨oe, vs, q1, q2, q3, _⟩ => ⟨oe, q1, q2, vs, q3⟩⟩) ?_
  rw [e]
  exact .loc (Nat.lt_succ_self _)
theorem c_err {c : Nat} {ds : List (Nat × Bool)} {fa : EE} {a : Expr} (O : OkE cl C Φ S X We) (hh : hid x = false) (hg : glo S x = some (.exc c ds)) (ha : PE X a (TI (FX X C We) fa)) (hn : noStar a = true) : PE X (.Call (.Name x p) [a] [] pos) (TI (FX X C We) (eErr c fa)) := by
  obtain ⟨G, Ca, B, newId, initId, bmB, ⟨ec, _⟩, F, _, q1, q2, q3, _⟩ := O.gl hg
  subst ec
  have hd : (x == ("__debug__" : Str)) = false := by unfold hid at hh; rw [Bool.or_eq_false_iff] at hh; exact hh.1
  exact PEmono (pe_exc1 F q1 q2 q3 G ha (star_cons hn) hd) fun σ H Q ⟨ρ, e, h, rh, re, p⟩ =>
    TG_.bind (RB := RV X.K) (k := fun _ h => .ok (W.loc h.n) (h.new (.err c))) rh re p fun ρ1 x1 h1 v H1 rh1 re1 xx rv p1 => post_err rh1 p1
theorem c_isE {ds : List (Nat × Bool)} {fa : EE} {a clx : Expr} {u : V} {cv : Value} (hD : ∀ k b, ds.lookup k = some b → ExIs X.K cl C k b cv) (hu : ∀ y, RelV u y → y = cv) (hg : Gl X "isinstance") (hm : X.mg "isinstance" = none) (ha : PE X a (TI (FX X C We) fa)) (hc : PE X clx (tC u)) (h1 : noStar a = true) (h2 : noStar clx = true) :
    PE X (.Call (.Name "isinstance" p) [a, clx] [] pos) (TI (FX X C We) (e1 (oIsE ds) fa)) :=
  PEmono (pe_callB call_isX hg hm (by rfl) (pa_cons ha (pa_cons hc pa_nil (star_cons h2)) (star_cons h1)) (by decide) (by decide) (star_cons h1) (star_back (by simp [h2]))) fun σ H Q ⟨ρ, e, h, rh, re, p⟩ =>
    TG_.bind (k := oIsE ds) rh re p fun ρ1 x h1 v H1 rh1 re1 x1 rv p1 => by
      cases rv <;> first | exact False.elim p1 | skip
      case loc i hi =>
        have p2 : Post (FX X C We) (RV X.K) σ ρ1 h1.n H1 (match h1.get i with
          | some (.err c) => (match ds.lookup c with
            | some b => .ok (.bl b) h1
            | none => .stuck)
          | _ => .stuck) Q := p1
        cases g : h1.get i with
        | none => rw [g] at p2; exact p2.elim
        | some ce =>
          rw [g] at p2
          cases ce with
          | err c =>
            dsimp only at p2
            cases l : ds.lookup c with
            | none => rw [l] at p2; exact p2.elim
            | some b =>
              rw [l] at p2
              obtain ⟨φ, q1, q2⟩ := rh1.cell i _ g
              have E := hD c b l
              exact ⟨ρ1 i, C c, φ, u, cv, b, rfl, q1, q2, E.cls, hu, E.kit, post_same rh1 p2 .bl⟩
          | lst _ => exact p2.elim
          | dk _ => exact p2.elim
          | dz _ => exact p2.elim
          | ins _ _ => exact p2.elim
/-! ### classes -/
theorem ct_ok (O : OkE cl C Φ S X We) : ∀ d ∈ ctOf S, CdOk cl C Φ X d := fun d hd => by
  unfold ctOf at hd
  split at hd
  · rename_i l q
    exact O.glob "" (.ct l) q d hd
  · cases hd
theorem flds_ok (O : OkE cl C Φ S X We) (f : Str) : FldsOk X.K C (fldCs S f) f := fun c hc => by
  obtain ⟨d, hd, e⟩ := List.mem_map.mp hc
  obtain ⟨h1, h2⟩ := List.mem_filter.mp hd
  obtain ⟨k1, k2, _⟩ := ct_ok O d h1
  subst e
  exact ⟨k1, k2 f (by simpa using h2)⟩
theorem look_mem {α : Type} {m : Str} {w : α} : ∀ {l : List (Str × α)}, l.lookup m = some w → (m, w) ∈ l
  | [], h => by cases h
  | (k, x) :: r, h => by
    rw [List.lookup_cons] at h
    by_cases q : m = k
    · subst q
      rw [beq_self_eq_true] at h
      cases h
      exact List.mem_cons_self
    · have : (m == k) = false := by
        cases z : m == k with
        | false => rfl
        | true => exact absurd (eq_of_beq z) q
      rw [this] at h
      exact List.mem_cons_of_mem _ (look_mem h)
theorem lookN {m : Nat} {w : Nat} : ∀ {l : List (Nat × Nat)}, l.lookup m = some w → (m, w) ∈ l
  | [], h => by cases h
  | (k, x) :: r, h => by
    rw [List.lookup_cons] at h
    by_cases q : m = k
    · subst q
      rw [beq_self_eq_true] at h
      cases h
      exact List.mem_cons_self
    · have : (m == k) = false := by simpa using q
      rw [this] at h
      exact List.mem_cons_of_mem _ (lookN h)
/-- one class's method, as a rule -/
def MOne (X : Cx) (cl : Nat → Value) (C : Nat → Addr) (Φ : FT) (We : Nat → L2.St → Hp → Prop) (m : Str) (o : Expr) (apos pos : Pos) (es : List Expr) (fo : EE) (g : EA) (q : Nat × Nat) : Prop :=
  ∃ n, arOk n (Φ q.2) ∧ PE X (.Call (.Attribute o m apos) es [] pos) (tMethG (C q.1) m (spF X.K C cl n (Φ q.2)) (EXK cl We) (TI (FX X C We) fo) (TIA (FX X C We) g))
theorem mth_one {m : Str} {o : Expr} {apos pos : Pos} {fo : EE} (O : OkE cl C Φ S X We) (ho : PE X o (TI (FX X C We) fo)) (ha : PA X es (TIA (FX X C We) g)) (hn : es.all noStar = true) (g0 : es = [] → g = aNil) (h2 : noSup o = true) (h3 : (apos.endLine == pos.line) = true) (h4 : Nat.blt es.length 20 = true) :
    ∀ q ∈ mthCs S m, MOne X cl C Φ We m o apos pos es fo g q := fun q hq => by
  unfold mthCs at hq
  obtain ⟨d, hd, e⟩ := List.mem_filterMap.mp hq
  cases l : d.meths.lookup m with
  | none => rw [l] at e; cases e
  | some id =>
    rw [l] at e
    cases e
    obtain ⟨k1, _, k3⟩ := ct_ok O d hd
    obtain ⟨k, f, fd, ps, M, F, ar, hr, hb⟩ := k3 _ (look_mem l)
    refine ⟨ps.length, ar, ?_⟩
    have few : ((backTo pos (starEach es X.env)).all (fun x => !x.1) && (backToKw pos (keywordEach [] X.env)).all (fun x => x.1.isSome) && decide (es.length + ([] : List Keyword).length + (if ([] : List Keyword).isEmpty then 0 else 1) < 30)) = true := by
      rw [star_few hn]
      have : es.length < 20 := Nat.le_of_ble_eq_true h4
      simp [keywordEach, backToKw]
      omega
    obtain ⟨pl, ht⟩ := call_tree (m := m) (base_ok h2) few h3
    cases es with
    | nil =>
      rw [g0 rfl]
      refine PEmono (pe_methG0 (E := EXK cl We) ho k1 M F O.guards hr hb (passAt O.tk) ht) fun σ H Q ⟨ρ, en, h, rh, re, p⟩ => ⟨ρ, en, h, rh, re, Post.imp p fun x H1 ⟨a, dx, fs, e1, e2, e3, ρ2, en2, h2, rh2, re2, p2⟩ => ⟨a, dx, fs, e1, e2, e3, ?_⟩⟩
      exact post_same (F := FX X C We) (RA := RVs X.K) (σ := σ) rh2 p2 .nil
    | cons a es =>
      obtain ⟨n1, n2⟩ := Bool.and_eq_true_iff.mp (show (noStar a && es.all noStar) = true from hn)
      exact pe_methG ho k1 M F O.guards hr hb (passAt O.tk) ha (star_cons n1) (star_back n2) ht
theorem c_meth {m : Str} {o : Expr} {apos pos : Pos} {fo : EE} {q0 : Nat × Nat} {ms : List (Nat × Nat)} (h : ∀ q ∈ q0 :: ms, MOne X cl C Φ We m o apos pos es fo g q) : PE X (.Call (.Attribute o m apos) es [] pos) (TI (FX X C We) (eMeth Φ (q0 :: ms) m fo g)) :=
  ⟨fun pins s σ H Q I ⟨ρ, en, h0, rh, re, p⟩ => by
    have p' : Post (FX X C We) (RV X.K) σ ρ h0.n H ((fo en h0).bind fun x h => match x with
      | .loc a => (match h.get a with
        | some (.ins c fs) => (match (q0 :: ms).lookup c with
          | some id => (match (fs.lookup m).isNone with
            | true => (g en h).bind fun ws h => Φ id (x :: ws) h
            | false => .stuck)
          | none => .stuck)
        | _ => .stuck)
      | _ => .stuck) Q := p
    cases q : fo en h0 with
    | stuck => rw [q] at p'; exact p'.elim
    | exc c h1 =>
      rw [q] at p'
      obtain ⟨n, _, P⟩ := h q0 List.mem_cons_self
      exact P.run pins s σ H Q I ⟨ρ, en, h0, rh, re, by rw [q]; exact p'⟩
    | ok x h1 =>
      rw [q, Rs.bind_ok] at p'
      cases x with
      | loc a =>
        dsimp only at p'
        cases ga : h1.get a with
        | none => rw [ga] at p'; exact p'.elim
        | some ce =>
          rw [ga] at p'
          cases ce with
          | ins c fs =>
            dsimp only at p'
            cases ql : (q0 :: ms).lookup c with
            | none => rw [ql] at p'; exact p'.elim
            | some id =>
              rw [ql] at p'
              dsimp only at p'
              cases qn : (fs.lookup m).isNone with
              | false => rw [qn] at p'; exact p'.elim
              | true =>
                rw [qn] at p'
                dsimp only at p'
                obtain ⟨n, ar, P⟩ := h _ (lookN ql)
                refine P.run pins s σ H Q I ⟨ρ, en, h0, rh, re, ?_⟩
                rw [q]
                intro ρ1 v H1 x1 rh1 rv
                cases rv with
                | loc hi =>
                  obtain ⟨dx, gs, e1, r1⟩ := rh1.ins ga
                  have lk := r1.look (f := m)
                  have nn : fs.lookup m = none := by cases z : fs.lookup m with | none => rfl | some _ => rw [z] at qn; cases qn
                  rw [nn] at lk
                  refine ⟨_, dx, gs, rfl, e1, lk, ?_⟩
                  refine TG_.bind (RA := RVs X.K) (k := fun ws h => Φ id (.loc a :: ws) h) rh1 (re.ext x1) (Post.shift x1 p') fun ρ2 ws h2 vs H2 rh2 re2 x2 rv2 p2 => ?_
                  have hl : (W.loc a :: ws).length = n := Classical.byContradiction fun ne => by rw [ar _ h2 ne] at p2; exact p2.elim
                  have rvv : RVs X.K ρ2 h2.n H2 (.loc a :: ws) (.ref (ρ1 a) :: vs) := .cons (x2.rv (.loc hi)) rv2
                  refine ⟨rvv.length.symm.trans hl, ρ2, .loc a :: ws, h2, rh2, rvv, ?_⟩
                  cases q2 : Φ id (.loc a :: ws) h2 with
                  | stuck => rw [q2] at p2; exact p2.elim
                  | ok w h3 => rw [q2] at p2; exact p2
                  | exc c h3 => rw [q2] at p2; exact fun ρ' H' x r => ⟨c, rfl, rfl, p2 ρ' H' x r⟩
          | _ => exact p'.elim
      | _ => exact p'.elim⟩
theorem mk_sp {c id n : Nat} (ar : arOk n (Φ (downId id))) {ρ1 : Nat → Addr} {h1 : IH} {H1 : Hp} {σ : L2.St} {Q : VK} {ws : List W} {vs : List V} (rh1 : RH X.K C ρ1 h1 H1) (rv : RVs X.K ρ1 h1.n H1 ws vs) (p : Post (FX X C We) (RV X.K) σ ρ1 h1.n H1 (mkK Φ c id ws h1) Q) :
    ∀ x dx, H1 x = none → H1 dx = none → dx ≠ x → spF X.K C cl n (Φ (downId id)) (.ref x :: vs) (upd (upd H1 dx (.own x)) x (.ins (C c) dx [])) (fun v H2 => v = .non ∧ Q (.ref x) H2) (EXK cl We σ) := fun x dx hx hdx ne => by
  obtain ⟨rhA, xA⟩ := rh1.other (o := .own x) hdx
  have hx' : upd H1 dx (.own x) x = none := by rw [upd_ne (fun e => ne e.symm)]; exact hx
  have rhB : RH X.K C (rhoN ρ1 h1.n x) (h1.new (.ins c [])) (upd (upd H1 dx (.own x)) x (.ins (C c) dx [])) := rhA.new hx' rfl ⟨dx, [], upd_same, .nil⟩
  have xB : Ext ρ1 (rhoN ρ1 h1.n x) h1.n (h1.n + 1) H1 (upd (upd H1 dx (.own x)) x (.ins (C c) dx [])) := xA.trans (ext_new hx')
  have hl : (W.loc h1.n :: ws).length = n := Classical.byContradiction fun ne => by
    unfold mkK at p
    rw [ar _ _ ne] at p; exact p.elim
  have self : rhoN ρ1 h1.n x h1.n = x := rhoN_self
  have rvv : RVs X.K (rhoN ρ1 h1.n x) (h1.n + 1) (upd (upd H1 dx (.own x)) x (.ins (C c) dx [])) (.loc h1.n :: ws) (.ref x :: vs) := .cons (by
    have z := RV.loc (K := X.K) (ρ := rhoN ρ1 h1.n x) (n := h1.n + 1) (H := upd (upd H1 dx (.own x)) x (.ins (C c) dx [])) (Nat.lt_succ_self h1.n)
    rw [self] at z; exact z) (xB.rvs rv)
  refine ⟨rvv.length.symm.trans hl, rhoN ρ1 h1.n x, .loc h1.n :: ws, h1.new (.ins c []), rhB, rvv, ?_⟩
  have p' : Post (FX X C We) (RV X.K) σ ρ1 h1.n H1 ((Φ (downId id) (.loc h1.n :: ws) (h1.new (.ins c []))).bind fun r h2 => match r with
    | .non => .ok (.loc h1.n) h2
    | _ => .stuck) Q := p
  have p' := Post.shift (n1 := (h1.new (.ins c [])).n) xB p'
  cases q : Φ (downId id) (.loc h1.n :: ws) (h1.new (.ins c [])) with
  | stuck => rw [q] at p'; exact p'.elim
  | exc k h2 => rw [q] at p'; exact fun ρ' H' x r => ⟨k, rfl, rfl, p' ρ' H' x r⟩
  | ok w h2 =>
    rw [q, Rs.bind_ok] at p'
    cases w with
    | non =>
      intro ρ' v H' x2 rh2 rvn
      cases rvn
      refine ⟨rfl, p' ρ' (.ref x) H' x2 rh2 ?_⟩
      have e : ρ' h1.n = x := (x2.same h1.n (Nat.lt_succ_self _)).trans self
      have z := RV.loc (K := X.K) (ρ := ρ') (n := h2.n) (H := H') (Nat.lt_of_lt_of_le (Nat.lt_succ_self h1.n) x2.le)
      rw [e] at z; exact z
    | _ => exact p'.elim
theorem c_make {c id : Nat} (O : OkE cl C Φ S X We) (hg : glo S x = some (.cls c id)) (hh : hid x = false) (ha : PA X es (TIA (FX X C We) g)) (hn : es.all noStar = true) (g0 : es = [] → g = aNil) : PE X (.Call (.Name x p) es [] pos) (TI (FX X C We) (eMake Φ c id g)) := by
  obtain ⟨G, z⟩ := O.gl hg
  have hd : (x == ("__debug__" : Str)) = false := by unfold hid at hh; rw [Bool.or_eq_false_iff] at hh; exact hh.1
  rcases z with st | ⟨k, f, fd, ps, M, F, ar, hr, hm, hb⟩
  · refine ⟨fun pins s σ H Q I ⟨ρ, en, h, rh, re, p⟩ => ?_⟩
    have p' : Post (FX X C We) (RV X.K) σ ρ h.n H ((noExc (g en h)).bind fun ws h => mkK Φ c id ws h) Q := p
    cases es with
    | nil =>
      rw [g0 rfl] at p'
      have : mkK Φ c id [] h = .stuck := by unfold mkK; rw [st]; rfl
      have p' : Post (FX X C We) (RV X.K) σ ρ h.n H (mkK Φ c id [] h) Q := p'
      rw [this] at p'; exact p'.elim
    | cons e es =>
      cases q : g en h with
      | stuck => rw [q] at p'; exact p'.elim
      | ok ws h1 =>
        rw [q] at p'
        have p' : Post (FX X C We) (RV X.K) σ ρ h.n H (mkK Φ c id ws h1) Q := p'
        have : mkK Φ c id ws h1 = .stuck := by unfold mkK; rw [st]; rfl
        rw [this] at p'; exact p'.elim
      | exc k h1 => rw [q] at p'; exact p'.elim
  · cases es with
    | nil =>
      refine PEmono (pe_makeG0 (E := EXK cl We) M F O.guards hr G hm hb (passAt O.tk) hd) fun σ H Q ⟨ρ, en, h1, rh1, re1, p1⟩ => ?_
      rw [g0 rfl] at p1
      exact mk_sp ar rh1 .nil p1
    | cons e es =>
      obtain ⟨n1, n2⟩ := Bool.and_eq_true_iff.mp (show (noStar e && es.all noStar) = true from hn)
      refine PEmono (pe_makeG (E := EXK cl We) M F O.guards hr G hm hb (passAt O.tk) ha hd (star_cons n1) (star_back n2)) fun σ H Q ⟨ρ, en, h, rh, re, p⟩ => ?_
      have p' : Post (FX X C We) (RV X.K) σ ρ h.n H ((g en h).bind fun ws h => mkK Φ c id ws h) Q := by
        have p : Post (FX X C We) (RV X.K) σ ρ h.n H ((noExc (g en h)).bind fun ws h => mkK Φ c id ws h) Q := p
        cases q : g en h with
        | stuck => rw [q] at p; exact p.elim
        | exc k h1 => rw [q] at p; exact p.elim
        | ok ws h1 => rw [q] at p; exact p
      exact TG_.bind (RA := RVs X.K) (k := fun ws h => mkK Φ c id ws h) rh re p' fun ρ1 ws h1 vs H1 rh1 re1 x1 rv p1 => mk_sp ar rh1 rv p1
theorem setArg_ok {f : Str} {a b : Expr} {rest : List Expr} (h : setArg S f a rest = some b) : rest = [] ∧ (∃ p q, a = .Call (.Name "set" p) [b] [] q) ∧ (f = "sorted" ∨ f = "len") ∧ (isBt S "set" && noStar b) = true := by
  unfold setArg at h
  split at h
  · split at h
    · split at h
      · rename_i q
        obtain ⟨q1, q2⟩ := q
        subst q2
        split at h
        · rename_i z
          cases h
          exact ⟨rfl, ⟨_, _, rfl⟩, q1, z⟩
        · cases h
      · cases h
    · cases h
  · cases h
theorem callC_ok (O : OkE cl C Φ S X We) (hr : RSound cl C Φ r) {f : Str} {as : List Expr} : PE X (.Call (.Name f p) as [] pos) (TI (FX X C We) (callC Φ r S f as)) := by
  have H := (hr S X We O).1
  have bad : PE X (.Call (.Name f p) as [] pos) (TI (FX X C We) eBad) := stuckE fun _ _ => rfl
  unfold callC
  split
  · exact bad
  · rename_i hh
    simp only [Bool.or_eq_false_iff, Bool.not_eq_false'] at hh
    obtain ⟨hh, hn⟩ := hh
    have A := args_ok (X := X) (C := C) (We := We) H hn
    split
    · rename_i id hg
      exact c_call O hg hh A hn fun z => by subst z; rfl
    · rename_i hg
      obtain ⟨G, hm⟩ := O.gl hg
      split
      · exact bad
      · rename_i a rest
        have n1 : noStar a = true := (Bool.and_eq_true_iff.mp (show (noStar a && rest.all noStar) = true from hn)).1
        split
        · rename_i k hk
          split
          · rename_i b hb
            obtain ⟨e1, ⟨p2, q2, e2⟩, e3, z⟩ := setArg_ok hb
            subst e1; subst e2
            obtain ⟨z1, z2⟩ := Bool.and_eq_true_iff.mp z
            obtain ⟨G2, m2⟩ := isBt_ok O z1
            rcases e3 with e3 | e3
            · subst e3
              exact c_sortSet O.calm G hm G2 m2 (H _) z2
            · subst e3
              exact c_lenSet O.calm G hm G2 m2 (H _) z2
          · exact c_bltB O.calm hk G hm A hn
        · split
          · rename_i q
            subst q
            split
            · exact c_repr O.guards (by have := O.units; omega) G hm (H _) n1
            · exact bad
          · split
            · rename_i q
              subst q
              split
              · rename_i c pc d pd kk tp
                split
                · rename_i h1 h2 h3 h4 h5 h6
                  obtain ⟨Gc, mc⟩ := O.gl h2
                  obtain ⟨Gd, md⟩ := O.gl h5
                  obtain ⟨o, pn⟩ := ty_name (p := pc) h3 Gc mc
                  obtain ⟨o2, pn2⟩ := ty_name (p := pd) h6 Gd md
                  exact c_isi2 o o2 G hm (H _) pn pn2 n1 rfl rfl
                · exact bad
              · rename_i c pc
                split
                · rename_i h1 h2 h3
                  obtain ⟨Gc, mc⟩ := O.gl h2
                  obtain ⟨o, pn⟩ := ty_name (p := pc) h3 Gc mc
                  exact c_isi o G hm (H _) pn n1 rfl
                · rename_i h1 h2
                  obtain ⟨Gc, Ca, B, newId, initId, bmB, ⟨ec, hD⟩, F, _, q1, q2, q3, _⟩ := O.gl h2
                  exact c_isE (u := .ref Ca) hD (fun y hy => hy) G hm (H _) (pe_glob Gc q2 rfl (hid_d h1)) n1 rfl
                · rename_i h1 h2
                  obtain ⟨Gc, ex, mc, hD⟩ := O.gl h2
                  subst ex
                  exact c_isE (u := .ty "ValueError") hD (fun y hy => hy) G hm (H _) (pe_bltn Gc mc rfl rfl) n1 rfl
                · exact bad
              · exact bad
            · split
              · rename_i k hk
                split
                · rename_i g pg b pb
                  split
                  · rename_i q
                    obtain ⟨q1, q2⟩ := q
                    subst q1; subst q2
                    split
                    · rename_i z
                      obtain ⟨z1, z2⟩ := Bool.and_eq_true_iff.mp z
                      obtain ⟨G2, m2⟩ := isBt_ok O z1
                      exact c_lrg O.calm G hm G2 m2 (H _) z2
                    · exact bad
                  · exact c_bltT O.calm hk G hm A hn
                · rename_i g pg b c pb
                  split
                  · rename_i q
                    obtain ⟨q1, q2⟩ := q
                    subst q1; subst q2
                    split
                    · rename_i z
                      obtain ⟨z1, z3⟩ := Bool.and_eq_true_iff.mp z
                      obtain ⟨z1, z2⟩ := Bool.and_eq_true_iff.mp z1
                      obtain ⟨G2, m2⟩ := isBt_ok O z1
                      exact c_lrg2 O.calm G hm G2 m2 (H _) (H _) z2 z3
                    · exact bad
                  · exact c_bltT O.calm hk G hm A hn
                · exact c_bltT O.calm hk G hm A hn
              · exact bad
    · rename_i c ds hg
      split
      · rename_i a
        exact c_err O hh hg (H _) (by simpa using hn)
      · exact bad
    · rename_i c id hg
      exact c_make O hg hh A hn fun z => by subst z; rfl
    · exact bad
theorem methC_ok (O : OkE cl C Φ S X We) (hr : RSound cl C Φ r) {o : Expr} {m : Str} {as : List Expr} {apos : Pos} : PE X (.Call (.Attribute o m apos) as [] pos) (TI (FX X C We) (methC Φ r S o m as apos pos)) := by
  have H := (hr S X We O).1
  have bad : PE X (.Call (.Attribute o m apos) as [] pos) (TI (FX X C We) eBad) := stuckE fun _ _ => rfl
  unfold methC
  split
  · exact bad
  · rename_i hh
    simp only [Bool.and_eq_true] at hh
    obtain ⟨⟨⟨h1, h2⟩, h3⟩, h4⟩ := hh
    split
    · rename_i q ms hq
      refine c_meth (cl := cl) ?_
      rw [← hq]
      exact mth_one O (H _) (args_ok H h1) h1 (fun z => by subst z; rfl) h2 h3 h4
    split
    · split
      · rename_i q; subst q; exact c_pop0 (H _) h2 h3
      · exact bad
    · rename_i a rest
      split
      · rename_i k hk
        exact c_lstM (by have := O.units; omega) O.calm hk (H _) (args_ok H h1) h1 h2 h3 h4
      · split
        · rename_i q
          subst q
          split
          · rename_i b
            simp only [List.all_cons, List.all_nil, Bool.and_eq_true] at h1
            exact c_get2 (by have := O.units; omega) (H _) (H _) (H _) h1.1 h1.2.1 h2 h3
          · exact bad
        · exact bad
/-! ### comprehensions -/
theorem tgW_ok {vs : List Nat} (O : OkE cl C Φ S X We) : ∀ (n : Nat) (e : Expr), PG X e (TIGw (FX X C We) vs (tgW S vs n e))
  | 0, e => ⟨fun pins s σ H v u Q I _ ⟨ρ, en, h, w, _, _, _, p⟩ => p.elim⟩
  | n + 1, e => by
    have bad : PG X e (TIGw (FX X C We) vs gBad) := ⟨fun pins s σ H v u Q I _ ⟨ρ, en, h, w, _, _, _, p⟩ => p.elim⟩
    unfold tgW
    split
    · rename_i x px
      split
      · rename_i i hi
        split
        · rename_i hc
          obtain ⟨h1, h2, h3⟩ := O.loc hi
          exact gw_name (by simpa using hc) (pg_name O.nd h1 h2 h3)
        · exact bad
      · exact bad
    · rename_i es kk px
      split
      · rename_i hn
        have go : ∀ es : List Expr, es.all noStar = true → PGs X es (TIGsw (FX X C We) vs (es.map (tgW S vs n))) := by
          intro es
          induction es with
          | nil => intro _; exact gsw_nil
          | cons e es ih =>
            intro h
            obtain ⟨h1, h2⟩ := Bool.and_eq_true_iff.mp (show (noStar e && es.all noStar) = true from h)
            exact gsw_cons (tgW_ok O n e) (ih h2) (by rw [asg_cons h1]; rfl)
        exact gw_tup O.calm (go es hn) (by rw [asg_len hn, List.length_map]) (asg_plain hn)
      · exact bad
    · exact bad
end
end Fw

set_option Elab.async false
set_option linter.all false
set_option maxRecDepth 100000
set_option maxHeartbeats 1000000
/-! Fw, part N: comprehensions; all expressions. -/
namespace Fw
open PySem PySem.Spec PyProof.Rows L2
section
variable {cl : Nat → Value} {C : Nat → Addr} {Φ : FT} {S : SC} {X : Cx} {We : Nat → L2.St → Hp → Prop} {x : Str} {pos p : Pos} {a b c e : Expr} {es : List Expr} {r : RR} {fa fb fc : EE} {g : EA}
theorem iterC_ok (O : OkE cl C Φ S X We) (hr : RSound cl C Φ r) {tg iter : Expr} : PI X tg iter (TII (FX X C We) (iterC r S tg iter)) := by
  have H := (hr S X We O).1
  have bad : ∀ iter, PI X tg iter (TII (FX X C We) iBad) := fun iter => ⟨fun pins s σ H R I ⟨ρ, en, h, _, _, p⟩ => p.elim⟩
  unfold iterC
  split
  · rename_i f pf a ps
    split
    · exact bad _
    · rename_i hh
      simp only [Bool.or_eq_false_iff, Bool.not_eq_false'] at hh
      obtain ⟨hh, n1⟩ := hh
      have A := args_ok (X := X) (C := C) (We := We) H (es := [a]) (by simp [n1])
      split
      · rename_i q
        subst q
        split
        · rename_i z
          obtain ⟨G, m⟩ := isBt_ok O z
          exact i_rng1 G m A (star_cons n1)
        · exact bad _
      · split
        · rename_i q
          subst q
          split
          · rename_i z
            obtain ⟨z1, z2⟩ := Bool.and_eq_true_iff.mp z
            obtain ⟨G, m⟩ := isBt_ok O z1
            cases tg <;> first | cases z2 | skip
            exact i_enu G m A (star_cons n1)
          · exact bad _
        · exact i_any (H _)
  · rename_i f pf a b ps
    split
    · exact bad _
    · rename_i hh
      simp only [Bool.or_eq_false_iff, Bool.not_eq_false'] at hh
      obtain ⟨⟨hh, n1⟩, n2⟩ := hh
      have A := args_ok (X := X) (C := C) (We := We) H (es := [a, b]) (by simp [n1, n2])
      have s2 : starEach [a, b] X.env = (false, eval a X.env) :: starEach [b] X.env := star_cons n1
      have s1 : starEach [b] X.env = [(false, eval b X.env)] := star_cons n2
      split
      · rename_i q
        subst q
        split
        · rename_i z
          obtain ⟨G, m⟩ := isBt_ok O z
          exact i_rng2 (pi_range2 G m A (by rw [s2, s1]) s1)
        · exact bad _
      · split
        · rename_i q
          subst q
          split
          · rename_i z
            obtain ⟨z1, z2⟩ := Bool.and_eq_true_iff.mp z
            obtain ⟨G, m⟩ := isBt_ok O z1
            cases tg <;> first | cases z2 | skip
            exact i_zip (RZ.pi_zipA G m A s2 (by rw [s1]; rfl))
          · exact bad _
        · exact i_any (H _)
  · rename_i f pf a b kw k1 p1 kp ps
    split
    · exact bad _
    · rename_i hh
      simp only [Bool.or_eq_false_iff, Bool.not_eq_false'] at hh
      obtain ⟨⟨hh, n1⟩, n2⟩ := hh
      have A := args_ok (X := X) (C := C) (We := We) H (es := [a, b]) (by simp [n1, n2])
      have s2 : starEach [a, b] X.env = (false, eval a X.env) :: starEach [b] X.env := star_cons n1
      have s1 : starEach [b] X.env = [(false, eval b X.env)] := star_cons n2
      split
      · rename_i q
        obtain ⟨q, q'⟩ := q
        subst q; subst q'
        split
        · rename_i z
          obtain ⟨z1, z2⟩ := Bool.and_eq_true_iff.mp z
          obtain ⟨G, m⟩ := isBt_ok O z1
          cases tg <;> first | cases z2 | skip
          exact i_zip (pi_zipAK G m A s2 (by rw [s2, s1]; rfl))
        · exact bad _
      · exact bad _
  · exact i_any (H _)
theorem PTsmono {ifs : List Expr} {t t' : TT} (h : PTs X ifs t) (k : ∀ σ H Q, t' σ H Q → t σ H Q) : PTs X ifs t' := ⟨fun pins s σ H Q I q => h.run pins s σ H Q I (k σ H Q q)⟩
theorem ifsC_ok (O : OkE cl C Φ S X We) (hr : RSound cl C Φ r) {ifs : List Expr} : PTs X ifs (TIT (FX X C We) (ifsC r S ifs)) := by
  unfold ifsC
  split
  · exact PTsmono pts_nil fun σ H Q ⟨ρ, en, h, rh, re, p⟩ => post_same rh p rfl
  · exact pts_one ((hr S X We O).2 _)
  · exact ⟨fun pins s σ H Q I ⟨ρ, en, h, _, _, p⟩ => p.elim⟩
/-- what a comprehension asks, all in one -/
theorem compC_ok (O : OkE cl C Φ S X We) (hr : RSound cl C Φ r) {elt : Expr} {gens : List Comprehension} {scope : Scope} : PE X (.ListComp elt gens scope pos) (TI (FX X C We) (compC r S elt gens scope)) := by
  unfold compC
  split
  · rename_i tg iter ifs
    split
    · rename_i hb
      obtain ⟨h1, h2⟩ := Bool.and_eq_true_iff.mp hb
      have ok : BlkOk X.N X.env.scope scope (ownOf S.N scope.names) := by rw [O.eN, O.sc]; exact blkOk_by h1
      exact PEmono (pe_lc O.calm O.nd (iterC_ok O hr) ok (fun s H Ca cs fp => tgW_ok (O.blk s H scope cs Ca fp) 9 tg) (fun s H Ca cs fp => ifsC_ok (O.blk s H scope cs Ca fp) hr) (fun s H Ca cs fp => (hr _ _ _ (O.blk s H scope cs Ca fp)).1 elt) (fold_ok h2)) fun σ H Q => lc_imp
    · exact stuckE fun _ _ => rfl
  · exact stuckE fun _ _ => rfl
theorem boundC_ok (O : OkE cl C Φ S X We) (hr : RSound cl C Φ r) : ∀ o : Option Expr, PO X o (TIO (FX X C We) (boundC r S o))
  | none => o_none
  | some e => o_some ((hr S X We O).1 e)
theorem pairs_ok {f : Expr → EE} (hf : ∀ e, PE X e (TI (FX X C We) (f e))) : ∀ {ks : List (Option Expr)} {vs : List Expr}, ks.all (·.isSome) = true → ks.length = vs.length →
    PPs X pos ks vs ((pairs f ks vs).map fun q => (TI (FX X C We) q.1, TI (FX X C We) q.2)) ∧ (pairs f ks vs).length = ks.length
  | [], [], _, _ => ⟨pps_nil, rfl⟩
  | [], _ :: _, _, h => by cases h
  | _ :: _, [], _, h => by cases h
  | none :: _, _ :: _, h, _ => by cases h
  | some k :: ks, v :: vs, h, hl => by
    obtain ⟨h1, h2⟩ := pairs_ok hf (ks := ks) (vs := vs) (by simpa using h) (by simpa using hl)
    exact ⟨pps_cons (hf k) (hf v) h1, by simp [pairs, h2]⟩
theorem stepE_ok (O : OkE cl C Φ S X We) (hr : RSound cl C Φ r) (e : Expr) : PE X e (TI (FX X C We) (stepE Φ r S e)) := by
  have H := (hr S X We O).1
  have bad : ∀ e, PE X e (TI (FX X C We) eBad) := fun e => stuckE fun _ _ => rfl
  unfold stepE
  split
  · rename_i x px
    split
    · exact bad _
    · rename_i hh
      split
      · rename_i i hi
        obtain ⟨h1, h2⟩ := O.vis hi
        exact c_var (pe_var h1 h2 (hid_d hh) (hid_c hh))
      · split
        · rename_i w hg
          obtain ⟨G, u, v, hm, rv, rw_⟩ := O.gl hg
          exact c_C (v := v) ⟨fun pins s σ H Q I h => ld_glob I G hm ⟨v, H, I, rv, h⟩ (hid_d hh)⟩ rw_
        · exact bad _
  · rename_i cc j pc
    split
    · exact c_C pe_int fun _ _ _ => .int
    · exact c_C pe_bl fun _ _ _ => .bl
    · exact c_C pe_non fun _ _ _ => .non
    · exact c_C pe_str fun _ _ _ => .str
    · exact bad _
  · rename_i a op b pb
    split
    · rename_i k hk
      exact c_e2 (pe_op (op_ok (C := C) (We := We) hk).1 (H _) (H _)) (op_ok hk).2
    · exact bad _
  · rename_i op a pa
    split
    · exact c_not (H _)
    · exact c_e1 (pe_un un_neg (H _)) s_neg
    · exact bad _
  · rename_i op es pe
    split
    · exact andL_ok H
    · exact orL_ok H
  · exact c_if ((hr S X We O).2 _) (H _) (H _)
  · exact (cmpC_ok O hr).1
  · split
    · rename_i hn; exact c_tup (args_ok H hn)
    · exact bad _
  · split
    · rename_i hn; exact c_lst (args_ok H hn)
    · exact bad _
  · rename_i keys values pd
    split
    · rename_i hk
      simp only [Bool.and_eq_true] at hk
      obtain ⟨⟨h1, h2⟩, h3⟩ := hk
      have h2 := Nat.eq_of_beq_eq_true h2
      cases keys with
      | nil =>
        cases values with
        | nil => exact c_dic0
        | cons _ _ => cases h2
      | cons k ks =>
        obtain ⟨q1, q2⟩ := pairs_ok (X := X) (C := C) (We := We) (pos := pd) H h1 h2
        exact c_dic q1 h1 h2 (by simp) (by have := Nat.le_of_ble_eq_true h3; omega) q2
    · exact bad _
  · exact compC_ok O hr
  · rename_i a i ps
    split
    · exact c_rev (H _)
    · exact c_sl (H _) (boundC_ok O hr _) (boundC_ok O hr _)
    · split
      · exact bad _
      · rename_i hs
        split
        · rename_i kvs hk
          exact c_ixKd O hk (by simpa using hs) (H _)
        · exact c_ix (ix_plain (by simpa using hs)) (by have := O.units; omega) (H _) (H _)
  · split
    · rename_i hs
      exact c_fld (flds_ok O _) (H _) hs
    · exact bad _
  · split
    · split
      · exact callC_ok O hr
      · exact methC_ok O hr
      · exact bad _
    · exact bad _
  · exact bad _
theorem stepT_ok (O : OkE cl C Φ S X We) (hr : RSound cl C Φ r) (e : Expr) : PT X e (TIT (FX X C We) (stepT r S e)) := by
  have H := (hr S X We O).1
  have T := (hr S X We O).2
  have bad : ∀ e, PT X e (TIT (FX X C We) tBad) := fun e => stuckT fun _ _ => rfl
  unfold stepT
  split
  · split
    · exact t_not (T _)
    · exact bad _
  · split
    · exact (andT_ok T).pt
    · exact (orT_ok T).pt
  · exact (cmpC_ok O hr).2
  · exact bad _
  · rename_i h1 h2 h3 h4
    exact t_tru (H _) (plainT_ok (by cases e <;> first | rfl | exact absurd rfl (h1 _ _ _) | exact absurd rfl (h2 _ _ _) | exact absurd rfl (h3 _ _ _ _) | exact absurd rfl (h4 _ _ _ _)))
theorem rk_ok : ∀ n : Nat, RSound cl C Φ (rk Φ n)
  | 0 => fun S X We O => ⟨fun e => stuckE fun _ _ => rfl, fun e => stuckT fun _ _ => rfl⟩
  | n + 1 => fun S X We O => ⟨fun e => stepE_ok O (rk_ok n) e, fun e => stepT_ok O (rk_ok n) e⟩
end
end Fw

set_option Elab.async false
set_option linter.all false
set_option maxRecDepth 100000
set_option maxHeartbeats 1000000
/-! Fw, part O: statements. -/
namespace Fw
open PySem PySem.Spec PyProof.Rows L2
def tgC (r : RR) (S : SC) : Nat → Expr → EG
  | 0, _ => gBad
  | n + 1, e => match e with
    | .Name x _ => (match put S x with
      | some i => gNm i
      | none => gBad)
    | .Tuple es _ _ => (match es.all noStar with
      | true => gTp (es.map (tgC r S n))
      | false => gBad)
    | .Subscript a i _ => (match noSlice i with
      | true => gSb (r.e S a) (r.e S i)
      | false => gBad)
    | _ => gBad
def locI (S : SC) (x : Str) : Option Nat := match S.sc.names.lookup x with
  | some .local => ixOf S.N x
  | _ => none
/-- a list of names is stored with a comprehension's end in one -/
def swB (S : SC) (scope : Scope) (x : Str) (px pe : Pos) : Bool :=
  (if S.sc.kind.isAnnotationScope then .function else S.sc.kind) == .function && S.sc.names.lookup x == some .local && px.line == pe.line && !(scope.names.any fun (n, k) => n == x && (k == .local || k == .cell))
def asgC (r : RR) (S : SC) (tg e : Expr) : SS := match tg, e with
  | .Attribute o f _, e => sAsg (r.e S e) (gFld (fldCs S f) f (r.e S o))
  | .Tuple [.Name x px, .Name y py] k p, .Tuple [a, b] _ _ => (match locI S x, locI S y with
    | some i, some j => (match parOk S.sc [.Name x px, .Name y py] [a, b] && decide (parNames S.sc [.Name x px, .Name y py] = [x, y]) && !Nat.beq i j && noStar a && noStar b with
      | true => sPar2 i j (args (r.e S) [a, b])
      | false => sBad)
    | _, _ => (match Nat.beq (parNames S.sc [.Name x px, .Name y py]).length 2 with
      | true => sBad
      | false => sAsg (r.e S e) (tgC r S 9 tg)))
  | .Tuple [.Name x px, .Name y py, .Name z pz] k p, .Tuple [a, b, c] _ _ => (match locI S x, locI S y, locI S z with
    | some i, some j, some l => (match parOk S.sc [.Name x px, .Name y py, .Name z pz] [a, b, c] && decide (parNames S.sc [.Name x px, .Name y py, .Name z pz] = [x, y, z]) && !Nat.beq i j && !Nat.beq i l && !Nat.beq j l && noStar a && noStar b && noStar c with
      | true => sPar3 i j l (args (r.e S) [a, b, c])
      | false => sBad)
    | _, _, _ => (match Nat.beq (parNames S.sc [.Name x px, .Name y py, .Name z pz]).length 3 with
      | true => sBad
      | false => sAsg (r.e S e) (tgC r S 9 tg)))
  | .Name x px, .ListComp elt gens scope pe => (match swB S scope x px pe with
    | true => (match locI S x with
      | some i => sAsg (compC r S elt gens scope) (gNm i)
      | none => sBad)
    | false => sAsg (r.e S e) (tgC r S 9 tg))
  | _, _ => (match noComp e && (noTL tg || noTup e) && noStar tg with
    | true => sAsg (r.e S e) (tgC r S 9 tg)
    | false => sBad)
def suW : Const → Option W
  | .int i => some (.int i)
  | .bool b => some (.bl b)
  | .none => some .non
  | .str z => some (.str z)
  | _ => none
def suC (S : SC) : List Stmt → Option Su
  | [.Return (some (.Constant c _ _)) _] => (match suW c with
    | some w => some (.rt w)
    | none => none)
  | [.Assign [.Name m _] (.Constant c _ _) _] => (match locI S m, suW c with
    | some i, some w => some (.st i w)
    | _, _ => none)
  | _ => none
def hdC (S : SC) : List ExceptHandler → Option (List (List (Nat × Bool) × Su))
  | [] => some []
  | .ExceptHandler (some (.Name x _)) none (b :: su) _ :: r => (match hid x, glo S x, suC S (b :: su), hdC S r with
    | false, some (.exc _ ds), some u, some l => some ((ds, u) :: l)
    | _, _, _, _ => none)
  | _ => none
def augC (S : SC) (r : RR) (f : Str) (o e : Expr) (op : Operator) : SS := match noSup o && noComp e with
  | true => (match op with
    | .Add => sFldAug (fldCs S f) f true (r.e S o) (r.e S e)
    | .Sub => sFldAug (fldCs S f) f false (r.e S o) (r.e S e)
    | _ => sBad)
  | false => sBad
def tryC (r : RR) (rec_ : List Stmt → SS) (S : SC) (body : List Stmt) (hds : List ExceptHandler) (orelse fin : List Stmt) : SS := match hds, orelse, fin with
  | h :: hs, [], [] => (match hdC S (h :: hs) with
    | some l => sTryM l (rec_ body)
    | none => sBad)
  | _, _, _ => sBad
def stepS (r : RR) (rec_ : List Stmt → SS) (S : SC) (st : Stmt) : SS := match st with
  | .Expr a _ => (match noComp a with
    | true => sExpr (r.e S a)
    | false => sBad)
  | .Return v _ => (match v with
    | none => sRetN
    | some a => sRet (r.e S a))
  | .Pass _ => sNext
  | .Break _ => sBreak
  | .Continue _ => sCont
  | .If c a b _ => sIf (r.t S c) (rec_ a) (rec_ b)
  | .While c b orelse _ => (match orelse with
    | [] => sWhile (r.t S c) (rec_ b)
    | _ => sBad)
  | .For tg iter b orelse _ => (match orelse with
    | [] => (match noSet iter with
      | true => sFor (iterC r S tg iter) (tgC r S 9 tg) (rec_ b)
      | false => sBad)
    | _ => sBad)
  | .Assign tgs e _ => (match tgs with
    | [tg] => asgC r S tg e
    | _ => sBad)
  | .Raise ex cause _ => (match ex, cause with
    | some (.Call (.Name x _) [.Constant (.str _) _ _] [] _), none => (match hid x, glo S x with
      | false, some (.exc c _) => sRaise c
      | _, _ => sBad)
    | _, _ => sBad)
  | .Try body hds orelse fin _ => (match hds, orelse, fin with
    | [.ExceptHandler (some (.Name x _)) (some n) [.Assign [.Name m _] (.Name n2 _) _] _], [], [] => (match hid x, glo S x, locI S n, locI S m with
      | false, some (.exc _ ds), some i, some j => (match decide (n2 = n) && !Nat.beq i j && !hid n with
        | true => sTryK i j ds (rec_ body)
        | false => sBad)
      | _, _, _, _ => sBad)
    | _, _, _ => tryC r rec_ S body hds orelse fin)
  | .AugAssign (.Attribute o f _) op e _ => augC S r f o e op
  | _ => sBad
def seqC (f : Stmt → SS) : List Stmt → SS
  | [] => sNext
  | s :: r => sSeq (f s) (seqC f r)
def sk (r : RR) (S : SC) : Nat → List Stmt → SS
  | 0 => fun _ => sBad
  | n + 1 => seqC (stepS r (sk r S n) S)
section
variable {cl : Nat → Value} {C : Nat → Addr} {Φ : FT} {S : SC} {X : Cx} {We : Nat → L2.St → Hp → Prop} {x : Str} {pos p : Pos} {a b c e : Expr} {es : List Expr} {r : RR} {fa fb fc : EE} {g : EA}
theorem tgC_ok (O : OkE cl C Φ S X We) (hr : RSound cl C Φ r) : ∀ (n : Nat) (e : Expr), PG X e (TIG (FX X C We) (tgC r S n e))
  | 0, e => ⟨fun pins s σ H v u Q I _ ⟨ρ, en, h, w, _, _, _, p⟩ => p.elim⟩
  | n + 1, e => by
    have H := (hr S X We O).1
    have bad : PG X e (TIG (FX X C We) gBad) := ⟨fun pins s σ H v u Q I _ ⟨ρ, en, h, w, _, _, _, p⟩ => p.elim⟩
    unfold tgC
    split
    · rename_i x px
      split
      · rename_i i hi
        obtain ⟨h1, h2, h3⟩ := O.loc hi
        exact g_name (pg_name O.nd h1 h2 h3)
      · exact bad
    · rename_i es kk px
      split
      · rename_i hn
        have go : ∀ es : List Expr, es.all noStar = true → PGs X es (TIGs (FX X C We) (es.map (tgC r S n))) := by
          intro es
          induction es with
          | nil => intro _; exact gs_nil
          | cons e es ih =>
            intro h
            obtain ⟨h1, h2⟩ := Bool.and_eq_true_iff.mp (show (noStar e && es.all noStar) = true from h)
            exact gs_cons (tgC_ok O hr n e) (ih h2) (by rw [asg_cons h1]; rfl)
        exact g_tup O.calm (go es hn) (by rw [asg_len hn, List.length_map]) (asg_plain hn)
      · exact bad
    · rename_i a i ps
      split
      · rename_i hs
        refine g_sub (by have := O.units; omega) (fun v => ?_) (H _) (H _)
        rw [arm_assign_Subscript]
        cases i <;> first | rfl | cases hs
      · exact bad
    · exact bad
structure OkS (cl : Nat → Value) (C : Nat → Addr) (Φ : FT) (S : SC) (X : Cx) (We : Nat → L2.St → Hp → Prop) : Prop extends OkE cl C Φ S X We where
  own : PassesOwn (model X.prog X.w) X.A X.env X.xe
  stk : X.stack = X.env :: X.outer
  frm : X.env.frame = some X.env.locals
  ex : X.ex = []
theorem stuckS {f : SS} (hf : ∀ e h, f e h = .stuck) {st : Stmt} : PS X st (TIS (FX X C We) f) := ⟨fun pins s σ H D I ⟨ρ, e, h, _, _, p⟩ => by rw [hf] at p; exact p.elim⟩
theorem loc_ok (O : OkE cl C Φ S X We) {i : Nat} (h : locI S x = some i) : X.N[i]? = some x ∧ X.env.scope.names.lookup x = some .local := by
  unfold locI at h
  rw [O.eN, O.sc]
  split at h
  · rename_i q; exact ⟨ixOf_ok h, q⟩
  · cases h
theorem nbeq {i j : Nat} (h : (!Nat.beq i j) = true) : i ≠ j := fun e => by subst e; rw [Nat.beq_refl] at h; cases h
theorem swaps_name {elt : Expr} {gens : List Comprehension} {scope : Scope} {pe px : Pos} {l : Nat} (O : OkE cl C Φ S X We) : swapsWith (.ListComp elt gens scope pe) (some (.Name x px)) l X.env = pure (swB S scope x px pe) := by
  unfold swB
  rw [← O.sc]
  rfl
theorem TI_imp {f : EE} {σ : L2.St} {H : Hp} {Q Q' : VK} (k : ∀ v H, Q v H → Q' v H) : TI (FX X C We) f σ H Q → TI (FX X C We) f σ H Q' := fun ⟨ρ, e, h, rh, re, p⟩ => ⟨ρ, e, h, rh, re, p.imp k⟩
theorem asg_one {tg : Expr} (h : noStar tg = true) : (assignEach [tg] X.env).map (·.2) = [assign tg X.env] := by rw [asg_cons h]; rfl
theorem par_no {sc : Scope} {ts vs : List Expr} {k k2 : Nat} {p p2 : Pos} {env : PySem.Env} (he : env.scope = sc) (h : Nat.beq (parNames sc ts).length ts.length = false) : swappedStores [.Tuple ts k p] (.Tuple vs k2 p2) env = pure none := by
  subst he
  have e : swappedStores [.Tuple ts k p] (.Tuple vs k2 p2) env = (if (!(ts.length == 2 || ts.length == 3) || vs.length != ts.length || env.blockKind != .function) = true then pure none else
    if (vs.any fun | .Starred .. => true | _ => false) = true then pure none else
    if ((parNames env.scope ts).length != ts.length || (parNames env.scope ts).eraseDups.length != (parNames env.scope ts).length) = true then pure none else
    if vs.all (foldedForSure 8) = true then pure none else
    if vs.all (constantsAlone 8) = true then (do unsupported "assign.tuple-of-constant-expressions:order-of-the-stores"; pure (some (parNames env.scope ts))) else pure (some (parNames env.scope ts))) := rfl
  rw [e]
  have h' : ((parNames env.scope ts).length != ts.length) = true := by
    cases q : ((parNames env.scope ts).length != ts.length) with
    | true => rfl
    | false =>
      have z : (parNames env.scope ts).length = ts.length := by simpa using q
      rw [z, Nat.beq_refl] at h
      cases h
  rw [h', Bool.true_or]
  split
  · rfl
  · split
    · rfl
    · rfl
theorem asgC_ok (O : OkE cl C Φ S X We) (hr : RSound cl C Φ r) {tg e : Expr} : PS X (.Assign [tg] e pos) (TIS (FX X C We) (asgC r S tg e)) := by
  have H := (hr S X We O).1
  have G := tgC_ok O hr 9
  have bad : ∀ e, PS X (.Assign [tg] e pos) (TIS (FX X C We) sBad) := fun e => stuckS fun _ _ => rfl
  unfold asgC
  split
  · rename_i o f tp
    exact s_fset (flds_ok O f) (H _) (H _)
  · rename_i x px y py k p a b k2 p2
    split
    · rename_i i j h1 h2
      split
      · rename_i hh
        simp only [Bool.and_eq_true, decide_eq_true_eq] at hh
        obtain ⟨⟨⟨⟨q1, q2⟩, q3⟩, n1⟩, n2⟩ := hh
        obtain ⟨i1, i2⟩ := loc_ok O h1
        obtain ⟨j1, j2⟩ := loc_ok O h2
        exact s_par2 (ps_par O.calm O.nd i1 j1 (nbeq q3) i2 j2 (args_ok H (by simp [n1, n2])) (by rw [par_ok O.sc q1, q2]) rfl)
      · exact stuckS fun _ _ => rfl
    · split
      · exact stuckS fun _ _ => rfl
      · rename_i hne
        exact s_asg (tg := .Name x px) (ps_asg (H _) (G _) rfl (par_no O.sc hne) (asg_one rfl))
  · rename_i x px y py z pz k p a b c k2 p2
    split
    · rename_i i j l h1 h2 h3
      split
      · rename_i hh
        simp only [Bool.and_eq_true, decide_eq_true_eq] at hh
        obtain ⟨⟨⟨⟨⟨⟨⟨q1, q2⟩, q3⟩, q4⟩, q5⟩, n1⟩, n2⟩, n3⟩ := hh
        obtain ⟨i1, i2⟩ := loc_ok O h1
        obtain ⟨j1, j2⟩ := loc_ok O h2
        obtain ⟨l1, l2⟩ := loc_ok O h3
        exact s_par3 (ps_par3 O.calm O.nd i1 j1 l1 (nbeq q3) (nbeq q4) (nbeq q5) i2 j2 l2 (args_ok H (by simp [n1, n2, n3])) (by rw [par_ok O.sc q1, q2]) rfl)
      · exact stuckS fun _ _ => rfl
    · split
      · exact stuckS fun _ _ => rfl
      · rename_i hne
        exact s_asg (tg := .Name x px) (ps_asg (H _) (G _) rfl (par_no O.sc hne) (asg_one rfl))
  · rename_i x px elt gens scope pe
    split
    · rename_i hs
      split
      · rename_i i hi
        obtain ⟨i1, i2⟩ := loc_ok O hi
        unfold compC
        split
        · rename_i tg iter ifs
          split
          · rename_i hb
            obtain ⟨h1, h2⟩ := Bool.and_eq_true_iff.mp hb
            have ok : BlkOk X.N X.env.scope scope (ownOf S.N scope.names) := by rw [O.eN, O.sc]; exact blkOk_by h1
            refine s_asg (tg := .Name x px) (PSmono (ps_setLc O.calm O.nd i1 i2 (by rw [swaps_name O, hs]) (iterC_ok O hr) ok (fun s H Ca cs fp => tgW_ok (O.blk s H scope cs Ca fp) 9 tg) (fun s H Ca cs fp => ifsC_ok (O.blk s H scope cs Ca fp) hr)
              (fun s H Ca cs fp => (hr _ _ _ (O.blk s H scope cs Ca fp)).1 elt) (fold_ok h2)) fun D σ H h => lc_imp (TI_imp (fun v H1 q => ?_) h))
            obtain ⟨ρ, en, h', w, rh, re, rv, p⟩ := q
            exact no_same rh p (show RE (FX X C We) _ _ _ _ _ from re.set rv)
          · exact stuckS fun _ _ => rfl
        · exact stuckS fun _ _ => rfl
      · exact stuckS fun _ _ => rfl
    · rename_i hs
      exact s_asg (tg := .Name x px) (ps_asg (H _) (G _) (by have z := swaps_name (elt := elt) (gens := gens) (scope := scope) (pe := pe) (x := x) (px := px) (l := pos.line) O; rw [hs] at z; exact z) (stores_ok2 rfl) (asg_one rfl))
  · split
    · rename_i hh
      simp only [Bool.and_eq_true, Bool.or_eq_true] at hh
      obtain ⟨⟨h1, h2⟩, h3⟩ := hh
      exact s_asg (tg := tg) (ps_asg (H _) (G _) (swaps_ok h1) (h2.elim stores_ok2 stores_ok) (asg_one h3))
    · exact stuckS fun _ _ => rfl
theorem OkS.tr (O : OkS cl C Φ S X We) {W : WX} {pn : List (Addr × Obj)} {xe : Value → Shared → Prop} (tk : Takes (X.tr pn xe) W) (own : PassesOwn (model X.prog X.w) X.A X.env xe) : OkS cl C Φ S (X.tr pn xe) fun c σ H => W (cl c) none σ H where
  nd := O.nd
  eN := O.eN
  sc := O.sc
  calm := O.calm
  units := O.units
  guards := O.guards
  tk := tk.imp fun c d σ H ⟨i, e1, e2, z⟩ => by subst e1; subst e2; exact z
  fn := O.fn
  glob := fun x g e => by
    have z := O.glob x g e
    cases g <;> exact z
  own := own
  stk := O.stk
  frm := O.frm
  ex := O.ex
/-- the suite that keeps it -/
theorem suite_keep (O : OkE cl C Φ S X We) {n m : Str} {i j : Nat} {pa pb pc : Pos} (hi : X.N[i]? = some n) (hj : X.N[j]? = some m) (li : X.env.scope.names.lookup n = some .local) (lj : X.env.scope.names.lookup m = some .local) (hh : hid n = false) (a : Addr) (pn : List (Addr × Obj)) :
    PSs (X.suite a pn) [.Assign [.Name m pa] (.Name n pb) pc] (tSeq (tAsg (tVar i) (gName j)) tNext) :=
  pss_cons (ps_asg (X := X.suite a pn) (pe_var (X := X.suite a pn) hi (.inl li) (hid_d hh) (hid_c hh)) (pg_name (X := X.suite a pn) O.nd hj (.inl lj) (.inr lj))) pss_nil
theorem s_tryK (O : OkS cl C Φ S X We) {body : List Stmt} {b : SS} {x n m : Str} {c i j : Nat} {ds : List (Nat × Bool)} {np pa pb pc pos' : Pos} (hb : ∀ (X : Cx) (We : Nat → L2.St → Hp → Prop), OkS cl C Φ S X We → PSs X body (TIS (FX X C We) b))
    (hx : hid x = false) (hg : glo S x = some (.exc c ds)) (hi : locI S n = some i) (hj : locI S m = some j) (ne : i ≠ j) (hn : hid n = false) :
    PS X (.Try body [.ExceptHandler (some (.Name x np)) (some n) [.Assign [.Name m pa] (.Name n pb) pc] pos'] [] [] pos) (TIS (FX X C We) (sTryK i j ds b)) := by
  obtain ⟨G, Ca, B, newId, initId, bmB, ⟨ec, hD⟩, F, _, q1, q2, q3, _⟩ := O.toOkE.gl hg
  obtain ⟨i1, i2⟩ := loc_ok O.toOkE hi
  obtain ⟨j1, j2⟩ := loc_ok O.toOkE hj
  refine PSmono (ps_try_keep (i := i) (x := x) (n := n) (c := .ref Ca) (tb := fun W => TIS ⟨X.K, C, fun c σ H => W (cl c) none σ H⟩ b) (ts := fun _ => tSeq (tAsg (tVar i) (gName j)) tNext) O.stk O.frm O.ex O.nd i1 i2 ⟨G, hid_d hx, .inl q2⟩ O.tk (fun W pn xe tk own => hb _ _ (O.tr tk own)) (fun a pn => suite_keep O.toOkE i1 j1 i2 j2 hn a pn)) ?_
  rintro D σ H ⟨ρ, e, h, rh, re, p⟩
  refine ⟨ρ, e, h, rh, re, ?_⟩
  have p : PostS (FX X C We) ρ h.n H (match b e h with
    | .ex c e1 h1 => (match ds.lookup c with
      | some true => (match Nat.blt i e1.length with
        | true => .nx ((e1.set j (some (.loc h1.n))).set i none) (h1.new (.err c))
        | false => .stuck)
      | some false => .ex c e1 h1
      | none => .stuck)
    | r => r) D := p
  cases q : b e h with
  | nx e1 h1 => rw [q] at p; exact p
  | bk e1 h1 => rw [q] at p; exact p
  | ct e1 h1 => rw [q] at p; exact p
  | rt w h1 => rw [q] at p; exact p
  | stuck => rw [q] at p; exact p
  | ex k e1 h1 =>
    rw [q] at p
    dsimp only at p
    intro ρ' σ' H' x' rh' re'
    show wKeep X.K (.ref Ca) i (fun _ => tSeq (tAsg (tVar i) (gName j)) tNext) (fun c d σ H => EXK cl We σ c d H) D (cl k) none σ' H'
    cases l : ds.lookup k with
    | none => rw [l] at p; exact p.elim
    | some v =>
      rw [l] at p
      have E := hD k v l
      have hc : cl k = .ref (C k) := E.cl
      refine ⟨v, by rw [hc]; exact E.exm, fun z => ?_, fun z => ?_⟩
      · subst z
        exact ⟨k, rfl, rfl, p ρ' σ' H' x' rh' re'⟩
      · subst z
        cases bl : Nat.blt i e1.length with
        | false => rw [bl] at p; exact p.elim
        | true =>
        rw [bl] at p
        refine ⟨C k, hc, rfl, fun a na => ?_⟩
        have il : i < σ'.length := by
          rw [← re'.len]
          exact Nat.le_of_ble_eq_true bl
        refine ⟨.ref a, List.getElem?_set_self il, ?_⟩
        show H' a = none → D.nx _ _
        intro _
        have y : Ext ρ' (rhoN ρ' h1.n a) h1.n (h1.new (.err k)).n H' (upd H' a (ExK (C k) a)) := ext_new na
        refine p (rhoN ρ' h1.n a) _ _ (x'.trans y) (rh'.new na rfl ⟨_, upd_same, fun hp z => z⟩) ?_
        have re2 : REnv X.K (rhoN ρ' h1.n a) (h1.n + 1) (upd H' a (ExK (C k) a)) e1 σ' := re'.ext y
        refine ⟨by simp only [List.length_set]; exact re2.len, fun t w hw => ?_⟩
        by_cases ti : t = i
        · subst ti
          rw [List.getElem?_set] at hw
          simp only [if_true] at hw
          split at hw <;> cases hw
        · rw [List.getElem?_set_ne (Ne.symm ti)] at hw ⊢
          by_cases tj : t = j
          · subst tj
            rw [List.getElem?_set] at hw
            simp only [if_true] at hw
            split at hw
            · rename_i tl
              cases hw
              refine ⟨.ref a, List.getElem?_set_self (by simpa only [List.length_set, ← re2.len] using tl), ?_⟩
              have e5 : V.ref a = V.ref (rhoN ρ' h1.n a h1.n) := by rw [rhoN_self]
              rw [e5]
              exact .loc (Nat.lt_succ_self _)
            · cases hw
          · rw [List.getElem?_set_ne (Ne.symm tj)] at hw ⊢
            rw [List.getElem?_set_ne (Ne.symm ti)]
            exact re2.at_ t w hw
def suV : W → V
  | .int i => .int i
  | .bl b => .bl b
  | .str z => .str z
  | _ => .non
def tSu : Su → L2.TS
  | .rt w => tSeq (tRet (tC (suV w))) tNext
  | .st i w => tSeq (tAsg (tC (suV w)) (gName i)) tNext
theorem pe_suW {X : Cx} {c : Const} {w : W} {k : Nat} (h : suW c = some w) : PE X (.Constant c k pos) (tC (suV w)) := by
  cases c <;> simp only [suW] at h <;> cases h
  all_goals first
    | exact pe_int
    | exact pe_bl
    | exact pe_non
    | exact pe_str
theorem suW_rv {c : Const} {w : W} (h : suW c = some w) {K : PySem.W.Frag} {ρ : Nat → Addr} {n : Nat} {H : Hp} : RV K ρ n H w (suV w) := by
  cases c <;> simp only [suW] at h <;> cases h
  all_goals first
    | exact .int
    | exact .bl
    | exact .non
    | exact .str
theorem su_ok (O : OkE cl C Φ S X We) {su : List Stmt} {u : Su} (h : suC S su = some u) (a : Addr) (pn : List (Addr × Obj)) : PSs (X.suite a pn) su (tSu u) ∧ (∀ K ρ n H, ∃ w, (u = .rt w ∨ ∃ i, u = .st i w) ∧ RV K ρ n H w (suV w)) := by
  unfold suC at h
  split at h
  · rename_i c k p1 p2
    split at h
    · rename_i w hw
      cases h
      exact ⟨pss_cons (ps_ret (pe_suW hw)) pss_nil, fun K ρ n H => ⟨w, .inl rfl, suW_rv hw⟩⟩
    · cases h
  · rename_i m pm c k p1 p2
    split at h
    · rename_i i w hi hw
      cases h
      obtain ⟨i1, i2⟩ := loc_ok O hi
      exact ⟨pss_cons (ps_asg (X := X.suite a pn) (pe_suW hw) (pg_name (X := X.suite a pn) O.nd i1 (.inl i2) (.inr i2))) pss_nil, fun K ρ n H => ⟨w, .inr ⟨i, rfl⟩, suW_rv hw⟩⟩
    · cases h
  · cases h
theorem hds_ok (O : OkE cl C Φ S X We) : ∀ {hds : List ExceptHandler} {l : List (List (Nat × Bool) × Su)}, hdC S hds = some l → ∃ l', HdsOk X hds l' ∧ ∀ (D : Ends) (k : Nat) (e1 : Env) (h1 : IH) (ρ' : Nat → Addr) (σ' : L2.St) (H' : Hp), RH X.K C ρ' h1 H' → REnv X.K ρ' h1.n H' e1 σ' → PostS (FX X C We) ρ' h1.n H' (handM l k e1 h1) D → wMany X.K (fun c d σ H => EXK cl We σ c d H) D l' (cl k) none σ' H'
  | [], l, h => by
    cases h
    exact ⟨[], .nil, fun D k e1 h1 ρ' σ' H' rh re p => ⟨k, rfl, rfl, p ρ' σ' H' Ext.refl rh re⟩⟩
  | hd :: r, l, h => by
    unfold hdC at h
    split at h
    · rename_i e; cases e
    · rename_i x px b su pp rr heq
      cases heq
      split at h
      · rename_i c ds u l2 h1 h2 h3 h4
        cases h
        obtain ⟨l', L, P⟩ := hds_ok O h4
        obtain ⟨G, Ca, B, newId, initId, bmB, ⟨ec, hD⟩, F, _, q1, q2, q3, _⟩ := O.gl h2
        refine ⟨(.ref Ca, fun _ _ _ => tSu u) :: l', .cons ⟨G, hid_d h1, .inl q2⟩ (fun a oe cls d pn _ _ => (su_ok O h3 a _).1) L, fun D k e1 h1 ρ' σ' H' rh re p => ?_⟩
        have p : PostS (FX X C We) ρ' h1.n H' (match ds.lookup k with
          | some true => runSu u e1 h1
          | some false => handM l2 k e1 h1
          | none => .stuck) D := p
        cases lk : ds.lookup k with
        | none => rw [lk] at p; exact p.elim
        | some v =>
          rw [lk] at p
          have E := hD k v lk
          have hc : cl k = .ref (C k) := E.cl
          refine ⟨v, by rw [hc]; exact E.exm, fun z => ?_, fun z => ?_⟩
          · subst z
            intro a na
            obtain ⟨w, hw, rv⟩ := (su_ok O h3 a []).2 X.K ρ' h1.n H'
            rcases hw with e | ⟨i, e⟩
            · subst e
              exact p ρ' (suV w) H' Ext.refl rh rv
            · subst e
              exact p ρ' _ H' Ext.refl rh (re.set rv)
          · subst z
            exact P D k e1 h1 ρ' σ' H' rh re p
      · cases h
    · cases h
theorem s_tryM (O : OkS cl C Φ S X We) {body : List Stmt} {b : SS} {hd : ExceptHandler} {hds : List ExceptHandler} {l : List (List (Nat × Bool) × Su)} (hb : ∀ (X : Cx) (We : Nat → L2.St → Hp → Prop), OkS cl C Φ S X We → PSs X body (TIS (FX X C We) b))
    (h : hdC S (hd :: hds) = some l) : PS X (.Try body (hd :: hds) [] [] pos) (TIS (FX X C We) (sTryM l b)) := by
  obtain ⟨l', L, P⟩ := hds_ok O.toOkE h
  refine PSmono (ps_try_many (tb := fun W => TIS ⟨X.K, C, fun c σ H => W (cl c) none σ H⟩ b) O.stk O.frm O.tk (fun W pn xe tk own => hb _ _ (O.tr tk own)) L) ?_
  rintro D σ H ⟨ρ, e, h, rh, re, p⟩
  refine ⟨ρ, e, h, rh, re, ?_⟩
  have p : PostS (FX X C We) ρ h.n H (match b e h with
    | .ex c e1 h1 => handM l c e1 h1
    | r => r) D := p
  cases q : b e h with
  | nx e1 h1 => rw [q] at p; exact p
  | bk e1 h1 => rw [q] at p; exact p
  | ct e1 h1 => rw [q] at p; exact p
  | rt w h1 => rw [q] at p; exact p
  | stuck => rw [q] at p; exact p
  | ex k e1 h1 =>
    rw [q] at p
    dsimp only at p
    intro ρ' σ' H' x' rh' re'
    exact P D k e1 h1 ρ' σ' H' rh' re' (PostS.shift x' p)
theorem tryC_ok (O : OkS cl C Φ S X We) {rec_ : List Stmt → SS} (hrec_ : ∀ (X : Cx) (We : Nat → L2.St → Hp → Prop), OkS cl C Φ S X We → ∀ b, PSs X b (TIS (FX X C We) (rec_ b))) {body : List Stmt} {hds : List ExceptHandler} {orelse fin : List Stmt} : PS X (.Try body hds orelse fin pos) (TIS (FX X C We) (tryC r rec_ S body hds orelse fin)) := by
  unfold tryC
  split
  · split
    · rename_i l h
      exact s_tryM O (fun X We O' => hrec_ X We O' _) h
    · exact stuckS fun _ _ => rfl
  · exact stuckS fun _ _ => rfl
theorem augC_ok (O : OkE cl C Φ S X We) (hr : RSound cl C Φ r) {o : Expr} {f : Str} {op : Operator} {tpos : Pos} : PS X (.AugAssign (.Attribute o f tpos) op e pos) (TIS (FX X C We) (augC S r f o e op)) := by
  have H := (hr S X We O).1
  unfold augC
  split
  · rename_i hh
    obtain ⟨h1, h2⟩ := Bool.and_eq_true_iff.mp hh
    cases op <;> first
      | exact s_fldAug (sg := true) (flds_ok O f) (H _) (H _)
      | exact s_fldAug (sg := false) (flds_ok O f) (H _) (H _)
      | exact stuckS fun _ _ => rfl
  · exact stuckS fun _ _ => rfl
theorem stepS_ok (O : OkS cl C Φ S X We) (hr : RSound cl C Φ r) {rec_ : List Stmt → SS} (hrec_ : ∀ (X : Cx) (We : Nat → L2.St → Hp → Prop), OkS cl C Φ S X We → ∀ b, PSs X b (TIS (FX X C We) (rec_ b))) (st : Stmt) : PS X st (TIS (FX X C We) (stepS r rec_ S st)) := by
  have hrec := hrec_ X We O
  have H := (hr S X We O.toOkE).1
  have T := (hr S X We O.toOkE).2
  have G := tgC_ok O.toOkE hr 9
  have bad : ∀ st, PS X st (TIS (FX X C We) sBad) := fun st => stuckS fun _ _ => rfl
  unfold stepS
  split
  · split
    · rename_i hn; exact s_expr (swaps_ok hn) (H _)
    · exact bad _
  · split
    · exact s_retN
    · exact s_ret (H _)
  · exact s_pass
  · exact s_break
  · exact s_cont
  · exact s_if (T _) (hrec _) (hrec _)
  · split
    · exact s_while O.own (T _) (hrec _)
    · exact bad _
  · split
    · split
      · rename_i hn; exact s_for O.own O.calm (iterC_ok O.toOkE hr) (G _) (hrec _) (fold_ok hn)
      · exact bad _
    · exact bad _
  · split
    · exact asgC_ok O.toOkE hr
    · exact bad _
  · split
    · rename_i x px m j p2 pc
      split
      · rename_i hh hg
        rename_i c ds
        obtain ⟨Gx, Ca, B, newId, initId, bmB, _, F, ec, q1, q2, q3, q4, q5⟩ := O.toOkE.gl hg
        refine s_raise (PSmono (ps_raise O.calm O.tk (pmk_own F q1 q2 q3 (raises_own q4 q5) Gx (hid_d hh))) fun D σ H h => ?_)
        exact ⟨c, ec.symm, rfl, h⟩
      · exact bad _
    · exact bad _
  · split
    · split
      · rename_i h1 h2 h3 h4
        split
        · rename_i hh
          simp only [Bool.and_eq_true, decide_eq_true_eq, Bool.not_eq_true'] at hh
          obtain ⟨⟨q1, q2⟩, q3⟩ := hh
          subst q1
          exact s_tryK O (fun X We O' => hrec_ X We O' _) h1 h2 h3 h4 (fun e => by subst e; rw [Nat.beq_refl] at q2; cases q2) q3
        · exact bad _
      · exact bad _
    · exact tryC_ok O hrec_
  · exact augC_ok O.toOkE hr
  · exact bad _
theorem seqC_ok {f : Stmt → SS} (hf : ∀ st, PS X st (TIS (FX X C We) (f st))) : ∀ b : List Stmt, PSs X b (TIS (FX X C We) (seqC f b))
  | [] => s_next_
  | s :: r => ss_cons (hf s) (seqC_ok hf r)
theorem sk_ok (hr : RSound cl C Φ r) : ∀ (n : Nat) (X : Cx) (We : Nat → L2.St → Hp → Prop) (O : OkS cl C Φ S X We) (b : List Stmt), PSs X b (TIS (FX X C We) (sk r S n b))
  | 0, X, We, O, b => ⟨fun pins s σ H D I ⟨ρ, e, h, _, _, p⟩ => p.elim⟩
  | n + 1, X, We, O, b => seqC_ok (stepS_ok O hr fun X We O => sk_ok hr n X We O) b
end
end Fw

set_option Elab.async false
set_option linter.all false
set_option maxRecDepth 100000
set_option maxHeartbeats 1000000
/-! Fw, part P: the defs of a law, its end. -/
namespace Fw
open PySem PySem.Spec PyProof.Rows L2
/-- a def: its name in the module's text, its arguments, names, scope, body -/
structure Df where
  name : Str
  qual : Str
  params : Arguments
  scope : Scope
  body : List Stmt
  ps : List Str
  N : List Str
  own : Option Str := none
def callB (b : SS) (n m : Nat) (ws : List W) (h : IH) : Rs W := match Nat.beq ws.length n with
  | true => runBody m b ws h
  | false => .stuck
/-- what makes an instance, one level down -/
def lowB (b : Bool) (x y : Rs W) : Rs W := match b with
  | true => x
  | false => y
def lower (Φ : FT) (id : Nat) (ws : List W) (h : IH) : Rs W := lowB (Nat.ble 1000000 id) (Φ (id - 1000000) ws h) .stuck
theorem lz (id : Nat) : Nat.ble 1000000 (downId id) = true := Nat.ble_eq_true_of_le (Nat.le_add_left 1000000 id)
theorem lq (id : Nat) : downId id - 1000000 = id := Nat.add_sub_cancel id 1000000
theorem lower_down (Φ : FT) (id : Nat) (ws : List W) (h : IH) : lower Φ (downId id) ws h = Φ id ws h := by
  unfold lower
  rw [lz, lq]; rfl
def Phi (gk : Str → Option GK) (tab : List Df) : Nat → FT
  | 0 => fun _ _ _ => .stuck
  | k + 1 => fun id ws h => match tab[id]? with
    | some d => callB (sk (rk (Phi gk tab k) 40) ⟨d.N, d.scope, true, gk⟩ 40 d.body) d.ps.length d.N.length ws h
    | none => lower (Phi gk tab k) id ws h
theorem Phi_down {gk : Str → Option GK} {tab : List Df} (ht : tab.length ≤ 1000000) (k id : Nat) : Phi gk tab (k + 1) (downId id) = Phi gk tab k id := by
  funext ws h
  have e : tab[downId id]? = none := by
    rw [List.getElem?_eq_none]
    unfold downId; omega
  show (match tab[downId id]? with
    | some d => callB (sk (rk (Phi gk tab k) 40) ⟨d.N, d.scope, true, gk⟩ 40 d.body) d.ps.length d.N.length ws h
    | none => lower (Phi gk tab k) (downId id) ws h) = _
  rw [e]
  exact lower_down _ _ _ _
theorem Phi_ar {gk : Str → Option GK} {tab : List Df} {id : Nat} {d : Df} (e : tab[id]? = some d) : ∀ k : Nat, arOk d.ps.length (Phi gk tab k id)
  | 0 => fun _ _ _ => rfl
  | k + 1 => fun ws h ne => by
    unfold Phi
    rw [e]
    show callB _ _ _ ws h = .stuck
    unfold callB
    have z : Nat.beq ws.length d.ps.length = false := by
      cases q : Nat.beq ws.length d.ps.length with
      | false => rfl
      | true => exact absurd (Nat.eq_of_beq_eq_true q) ne
    rw [z]
def isFn : GK → Bool
  | .fn _ => true
  | _ => false
def GlobK (cl : Nat → Value) (C : Nat → Addr) (w : World) (K : PySem.W.Frag) (mg : Str → Option Value) (x : Str) : GK → Prop
  | .fn _ => True
  | .cls _ _ => True
  | .ct _ => True
  | .con u => ∃ y v, mg x = some y ∧ RelV v y ∧ ∀ ρ n H, RV K ρ n H u v
  | .kd kvs => ∃ d es n, KDict K w d es n ∧ mg x = some (.ref d) ∧ ∀ z, ∃ r, PySem.W.nsIn K d z = some r ∧ (match kvs.lookup z with
    | some i => ∃ u, r = some u ∧ RelV (.int i) u
    | none => r = none)
  | .bt => mg x = none
  | .ve ds => x = "ValueError" ∧ mg x = none ∧ ∀ k b, ds.lookup k = some b → ExIs K cl C k b (.type "ValueError")
  | .exc c ds => ∃ Ca B newId initId bmB, (C c = Ca ∧ ∀ k b, ds.lookup k = some b → ExIs K cl C k b (.ref Ca)) ∧ ExcBaseFacts B newId initId bmB ∧ cl c = .ref Ca ∧ PySem.W.excIn K Ca bmB newId = true ∧ mg x = some (.ref Ca) ∧ PySem.W.keepIn K (.ref Ca) = true ∧ PySem.W.subIn K (.ref Ca) (.type "BaseException") = some true ∧ PySem.W.typeIn K (.ref Ca) = some (.type "type")
/-- the module, as the walks need it -/
structure ModOk (w : World) (K : PySem.W.Frag) (mg : Str → Option Value) (cl : Nat → Value) (C : Nat → Addr) (gk : Str → Option GK) (tab : List Df) (f : Nat → Addr) (fd : Nat → FuncData) : Prop where
  fn : ∀ x id, gk x = some (.fn id) → mg x = some (.ref (f id)) ∧ ∃ d, tab[id]? = some d
  def_ : ∀ id d, tab[id]? = some d → FunD K d.name d.qual d.params d.body d.scope [] [] (f id) (fd id) ∧ FnScope d.N d.ps d.scope ∧ Binds K (fd id) d.ps []
  glob : ∀ x g, gk x = some g → GlobK cl C w K mg x g
  few : tab.length ≤ 1000000
  cls : ∀ x c id, gk x = some (.cls c id) → Mk K (C c) (f id) ∧ mg x = some (.ref (C c)) ∧ ∃ d, tab[id]? = some d
  ct : ∀ x l, gk x = some (.ct l) → ∀ d ∈ l, Cls K (C d.c) ∧ (∀ f ∈ d.fields, NoAttr K (C d.c) f) ∧ ∀ q ∈ d.meths, Meth K (C d.c) q.1 (f q.2) ∧ ∃ e, tab[q.2]? = some e
theorem start_env {K : PySem.W.Frag} {ρ : Nat → Addr} {n : Nat} {H : Hp} {ws : List W} {vs : List V} {N : List Str} (r : RVs K ρ n H ws vs) : REnv K ρ n H (ws.map some ++ List.replicate (N.length - ws.length) none) (L2.start N vs) where
  len := by simp [L2.start, r.length]
  at_ := fun i w e => by
    by_cases hi : i < ws.length
    · rw [List.getElem?_append_left (by simpa using hi)] at e
      have e : ws[i]? = some w := by simpa using e
      obtain ⟨v, h1, h2⟩ := r.get e
      refine ⟨v, ?_, h2⟩
      unfold L2.start
      rw [List.getElem?_append_left (by simpa [← r.length] using hi)]
      simpa using h1
    · rw [List.getElem?_append_right (by simpa using Nat.le_of_not_lt hi)] at e
      exfalso
      have := List.mem_of_getElem? e
      simp at this
section
variable {P : Program} {w : World} {K : PySem.W.Frag} {mg : Str → Option Value} {base : Heap} {cl : Nat → Value} {C : Nat → Addr} {gk : Str → Option GK} {tab : List Df} {f : Nat → Addr} {fd : Nat → FuncData}
theorem phi_ok (M : ModOk w K mg cl C gk tab f fd) : ∀ (k id : Nat) (d : Df), tab[id]? = some d → FnG P w K mg base (L2.CX P w) k (f id) (fd id) d.ps (spF K C cl d.ps.length (Phi gk tab k id))
  | 0, id, d, e => ⟨fun vs H Q E h => h.1, fun A outer s H args us vs Q E _ _ _ _ _ h => by obtain ⟨_, ρ, ws, h0, _, _, z⟩ := h; exact z.elim⟩
  | k + 1, id, d, e => by
    obtain ⟨F, S, B⟩ := M.def_ id d e
    obtain ⟨oc, od, dV, kV, doc, pm, an, cdv, ct, osl, efd, lk, hcd, _, _⟩ := F.ex
    rw [efd] at lk ⊢
    refine FnG.of lk hcd S (fun vs H Q E h => h.1) fun A outer s H vs Q E hg hr h => ?_
    obtain ⟨hl, ρ, ws, h0, rh, rv, q⟩ := h
    let X := cxOf (L2.CX P w) P w K mg base d.N d.qual d.scope (f id) cdv A outer s H E
    let We : Nat → L2.St → Hp → Prop := fun c _ H' => E (cl c) none H'
    have tk0 : Takes X fun c d _ H' => E c d H' := takes_of (X := X) rfl rfl rfl (E₁ := fun e' s'' => L2.CX P w outer H s E e' s'') rfl
    have O : OkS cl C (Phi gk tab k) ⟨d.N, d.scope, true, gk⟩ X We := {
      nd := S.nd, eN := rfl, sc := rfl, calm := rfl
      units := by have := hr.un; show (A.deeper _).units + 70 < cLine; omega
      guards := hg
      tk := tk0.imp fun c dd σ H' ⟨i, e1, e2, z⟩ => by subst e1; subst e2; exact z
      fn := fun _ _ => rfl
      glob := fun x g eg => by
        have z := M.glob x g eg
        cases g with
        | fn j =>
          obtain ⟨hm, dj, ej⟩ := M.fn x j eg
          obtain ⟨Fj, Sj, Bj⟩ := M.def_ j dj ej
          exact ⟨k, f j, fd j, dj.ps, phi_ok M k j dj ej, Phi_ar ej k, hr, hm, Fj.kp, Bj⟩
        | cls c j =>
          obtain ⟨mk, hm, dj, ej⟩ := M.cls x c j eg
          obtain ⟨Fj, Sj, Bj⟩ := M.def_ j dj ej
          cases k with
          | zero => exact .inl fun _ _ => rfl
          | succ k =>
            refine .inr ⟨k, f j, fd j, dj.ps, mk, ?_, ?_, hr, hm, Bj⟩
            · rw [Phi_down M.few]; exact phi_ok M k j dj ej
            · rw [Phi_down M.few]; exact Phi_ar ej k
        | ct l =>
          intro d hd
          obtain ⟨k1, k2, k3⟩ := M.ct x l eg d hd
          refine ⟨k1, k2, fun q hq => ?_⟩
          obtain ⟨m, dj, ej⟩ := k3 q hq
          obtain ⟨Fj, Sj, Bj⟩ := M.def_ q.2 dj ej
          exact ⟨k, f q.2, fd q.2, dj.ps, m, phi_ok M k q.2 dj ej, Phi_ar ej k, hr, Bj⟩
        | _ => exact z
      own := passes_of (X := X) (K := fun e s'' => L2.CX P w outer H s E e s'') (E₁ := fun e' s'' => L2.CX P w outer H s E e' s'') rfl
      stk := rfl
      frm := rfl
      ex := rfl }
    refine ⟨_, sk_ok (rk_ok 40) 40 X We O d.body, ρ, ws.map some ++ List.replicate (d.N.length - ws.length) none, h0, rh, start_env rv, ?_⟩
    have e2 : Phi gk tab (k + 1) id ws h0 = callB (sk (rk (Phi gk tab k) 40) ⟨d.N, d.scope, true, gk⟩ 40 d.body) d.ps.length d.N.length ws h0 := by
      show (match tab[id]? with
        | some d => callB (sk (rk (Phi gk tab k) 40) ⟨d.N, d.scope, true, gk⟩ 40 d.body) d.ps.length d.N.length ws h0
        | none => lower (Phi gk tab k) id ws h0) = _
      rw [e]
    rw [e2] at q
    unfold callB at q
    rw [rv.length.trans hl, Nat.beq_refl] at q
    unfold runBody at q
    dsimp only at q
    cases r : sk (rk (Phi gk tab k) 40) ⟨d.N, d.scope, true, gk⟩ 40 d.body (ws.map some ++ List.replicate (d.N.length - ws.length) none) h0 with
    | nx e' h' => rw [r] at q; exact fun ρ' σ' H' x rh' re' => q ρ' .non H' x rh' .non
    | rt u h' => rw [r] at q; exact fun ρ' v H' x rh' ru => q ρ' v H' x rh' ru
    | ex c e' h' => rw [r] at q; exact fun ρ' σ' H' x rh' re' => q ρ' H' x rh'
    | bk e' h' => rw [r] at q; exact q.elim
    | ct e' h' => rw [r] at q; exact q.elim
    | stuck => rw [r] at q; exact q.elim
end
def ih0 : IH := ⟨0, .nil⟩
theorem get0 {i : Nat} {c : Cell} (e : ih0.get i = some c) : False := absurd (IH.get_lt e) (Nat.not_lt_zero i)
theorem rh0 {K : PySem.W.Frag} {C : Nat → Addr} {ρ : Nat → Addr} {H : Hp} (hs : SysH H) : RH K C ρ ih0 H where
  sys := hs
  cell := fun i c e => (get0 e).elim
  inj := fun i j c1 c2 e => (get0 e).elim
  full := fun i hi => absurd hi (Nat.not_lt_zero i)
/-- THE LAW'S END: the module's facts, then the evaluator's word -/
theorem walkG {l : PySem.W.OpenLaw} {n k : Nat} {q : Program} {loose : List Str} {XP : (Str → Option Value) → Heap → Prop} {YP : World → Heap → Prop} {d : DefRec} {x : Str} {gk : Str → Option GK} {tab : List Df} {id : Nat} {dl : Df}
    (hn : l.most = some n) (hn2 : n ≤ sizeLine) (hdf : d.params.defaults = []) (hr : Room k callerA) (he : tab[id]? = some dl) (hx : dl.ps = [x])
    (F : ∀ (w : World) (mg : Str → Option Value) (fa : Addr) (h : Heap), YP w h → h.Ns mainGlobals mg → mg d.name = some (.ref fa) →
      ∃ (K : PySem.W.Frag) (cl : Nat → Value) (C : Nat → Addr) (f : Nat → Addr) (fd : Nat → FuncData), K.In h ∧ ModOk w K mg cl C gk tab f fd ∧ f id = fa ∧ K.lookup sysModules = none ∧ (∃ o, h.get? sysModules = some o ∧ o.cls = .type "dict") ∧ ∀ (s : Shared) (u : Value), BindsTo s (fd id) ⟨[u], []⟩ [(x, u)])
    (E : ∀ ns : List Int, ns.length ≤ n → ∃ h', Phi gk tab k id [.ro (ns.map W.int)] ih0 = .ok (.bl true) h') :
    PySem.W.WalkO q loose XP YP l.row.toRowW d [] (fun f vs => PySem.call f vs) := by
  refine Att.attach_call hn hdf fun w s₀ s₁ mg mb fa o pm cd doc a vs ns G Y ho hd hcd hmg hobj hints hlen hg => ?_
  obtain ⟨K, cl, C, f, fd, KX, M, rfl, hk1, hs1, hb⟩ := F w mg fa _ Y G.T.g hmg
  refine lawG KX G.T.g G.T.b G.T.builtins G.T.nolimit hg hobj hints (Nat.le_trans hlen hn2) hr hk1 hs1 (CX := L2.CX l.prog w) (sp := spF K C cl 1 (Phi gk tab k id)) (fun base _ _ => ?_) hb (fun H hY ro => ?_) fun H e s' c => ?_
  · have z := phi_ok (P := l.prog) (base := base) (C := C) M k id dl he
    rw [hx] at z
    exact z
  · obtain ⟨h', e⟩ := E ns hlen
    refine ⟨rfl, fun _ => 0, [.ro (ns.map W.int)], ih0, rh0 hY, .cons (.ro ro (rvs_ints (F := ⟨K, C, fun _ _ _ => False⟩) ns)) .nil, ?_⟩
    rw [e]
    intro ρ' v H' _ _ rv
    cases rv
    rfl
  · obtain ⟨_, _, _, _, _, _, _, _, _, _, _, _, z⟩ := c
    exact z
end Fw

set_option Elab.async false
set_option linter.all false
set_option maxRecDepth 100000
set_option maxHeartbeats 1000000
/-! Fw, part Q: the module's facts from one look at the heap behind the top. -/
namespace Fw
open PySem PySem.Spec PyProof.Rows L2
def conGo (f : W → Value → Bool) : List W → List Value → Bool
  | [], [] => true
  | w :: ws, u :: us => f w u && conGo f ws us
  | _, _ => false
/-- a constant, as it lies -/
def conW (K : PySem.W.Frag) : Nat → W → Value → Bool
  | 0, _, _ => false
  | n + 1, w, u => match w, u with
    | .non, .none => true
    | .bl a, .bool b => a == b
    | .int i, .int j _ => decide (i = j)
    | .str x, .str y _ => decide (x = y)
    | .tup ws, .ref a => (match K.lookup a with
      | some ⟨.type c, _, .seq its _, _⟩ => decide (c = "tuple") && decide (its.size ≤ sizeLine) && conGo (conW K n) ws its.toList
      | _ => false)
    | _, _ => false
theorem conGo_ok {K : PySem.W.Frag} {f : W → Value → Bool} (hf : ∀ w u, f w u = true → ∃ v, RelV v u ∧ ∀ ρ m H, RV K ρ m H w v) : ∀ (ws : List W) (us : List Value), conGo f ws us = true → ∃ vs, Vals vs us ∧ ∀ ρ m H, RVs K ρ m H ws vs
  | [], [], _ => ⟨[], .nil, fun _ _ _ => .nil⟩
  | [], _ :: _, h => by cases h
  | _ :: _, [], h => by cases h
  | w :: ws, u :: us, h => by
    obtain ⟨h1, h2⟩ := Bool.and_eq_true_iff.mp (show (f w u && conGo f ws us) = true from h)
    obtain ⟨v, a, b⟩ := hf w u h1
    obtain ⟨vs, c, d⟩ := conGo_ok hf ws us h2
    exact ⟨v :: vs, .cons a c, fun ρ m H => .cons (b ρ m H) (d ρ m H)⟩
theorem conW_ok {K : PySem.W.Frag} : ∀ (n : Nat) (w : W) (u : Value), conW K n w u = true → ∃ v, RelV v u ∧ ∀ ρ m H, RV K ρ m H w v
  | 0, _, _, h => by cases h
  | n + 1, w, u, h => by
    unfold conW at h
    split at h
    · exact ⟨.non, rfl, fun _ _ _ => .non⟩
    · rename_i a b
      have e : a = b := eq_of_beq h
      subst e
      exact ⟨.bl a, rfl, fun _ _ _ => .bl⟩
    · rename_i i j t
      have e : i = j := of_decide_eq_true h
      subst e
      exact ⟨.int i, ⟨t, rfl⟩, fun _ _ _ => .int⟩
    · rename_i x y t
      have e : x = y := of_decide_eq_true h
      subst e
      exact ⟨.str x, ⟨t, rfl⟩, fun _ _ _ => .str⟩
    · rename_i ws a
      split at h
      · rename_i c d its k sl hl
        simp only [Bool.and_eq_true, decide_eq_true_eq] at h
        obtain ⟨⟨h1, h2⟩, h3⟩ := h
        obtain ⟨vs, r1, r2⟩ := conGo_ok (conW_ok n) ws its.toList h3
        exact ⟨.ref a, rfl, fun ρ m H => .tup (.inr ⟨_, its, k, hl, congrArg Value.type h1, rfl, h2, r1⟩) (r2 ρ m H)⟩
      · cases h
    · cases h
/-- a written dict of ints -/
def kdGo : List DictEntry → List (Str × Int) → Bool
  | [], [] => true
  | e :: r, (k, i) :: s => (match e.key, e.val with
    | .str x _, .int j _ => decide (x = k) && decide (j = i)
    | _, _ => false) && kdGo r s
  | _, _ => false
/-- the class D, as isinstance asks it -/
def excB (K : PySem.W.Frag) (D : Addr) : Bool := decide (PySem.W.findIn K (.ref D) "__getattribute__" = some (some (.builtin "BaseException.__getattribute__"))) && decide (PySem.W.findIn K (.ref D) "__getattr__" = some none) &&
  decide (PySem.W.subIn K (.ref D) (.type "BaseException") = some true) && PySem.W.hasDictIn K D && decide (PySem.W.findIn K (.ref D) "__class__" = some (some (.builtin "object.__class__"))) &&
  decide (PySem.W.specialIn K (.builtin "object.__class__") "__get__" = some (some (.builtin "getset_descriptor.__get__"))) && decide (PySem.W.takesIn K (.builtin "object.__class__") = some true) && decide (PySem.W.mroIn K D (.type "object") = some true)
theorem excB_ok {K : PySem.W.Frag} {D : Addr} (h : excB K D = true) : ExcC K D := by
  unfold excB at h
  simp only [Bool.and_eq_true, decide_eq_true_eq] at h
  obtain ⟨⟨⟨⟨⟨⟨⟨h1, h2⟩, h3⟩, h4⟩, h5⟩, h6⟩, h7⟩, h8⟩ := h
  exact ⟨h1, h2, h3, h4, h5, h6, h7, h8⟩
def exIsB (K : PySem.W.Frag) (xs : List Str) (cv : Value) (p : Nat × Bool) : Bool := match xs[p.1]? with
  | some y => excB K (He.ga K y) && decide (PySem.W.kitOne K (.ref (He.ga K y)) cv = some p.2) && decide (PySem.W.exmOne K (.ref (He.ga K y)) cv = some p.2)
  | none => false
def exB (xs : List Str) (K : PySem.W.Frag) (x : Str) : GK → Bool
  | .exc _ ds => ds.all (exIsB K xs (.ref (He.ga K x)))
  | .ve ds => decide (x = "ValueError") && ds.all (exIsB K xs (.type "ValueError"))
  | .con w => (match PySem.W.nsIn K mainGlobals x with
    | some (some u) => conW K 20 w u
    | _ => false)
  | .kd kvs => (match K.lookup (He.ga K x) with
    | some ⟨_, _, .dict es _, _⟩ => kdGo es.toList kvs
    | _ => false)
  | _ => true
theorem kdGo_ok : ∀ {es : List DictEntry} {kvs : List (Str × Int)}, kdGo es kvs = true → (es.any (·.refKey) = false) ∧ ∀ z, (match kvs.lookup z with
    | some i => ∃ e t, es.find? (·.key.isStr z) = some e ∧ e.val = .int i t
    | none => es.find? (·.key.isStr z) = none)
  | [], [], _ => ⟨rfl, fun z => rfl⟩
  | [], _ :: _, h => by cases h
  | _ :: _, [], h => by cases h
  | e :: r, (k, i) :: s, h => by
    obtain ⟨h1, h2⟩ := Bool.and_eq_true_iff.mp (show ((match e.key, e.val with
      | .str x _, .int j _ => decide (x = k) && decide (j = i)
      | _, _ => false) && kdGo r s) = true from h)
    obtain ⟨a, b⟩ := kdGo_ok h2
    split at h1
    · rename_i x t j t2 q1 q2
      simp only [Bool.and_eq_true, decide_eq_true_eq] at h1
      obtain ⟨e1, e2⟩ := h1
      subst e1; subst e2
      refine ⟨?_, fun z => ?_⟩
      · rw [List.any_cons, a, Bool.or_false]
        unfold DictEntry.refKey
        rw [q1]
      · have ez : e.key.isStr z = (x == z) := by rw [q1]; rfl
        rw [List.lookup_cons, List.find?_cons, ez]
        by_cases q : x = z
        · subst q
          have : (x == x) = true := beq_self_eq_true x
          rw [this]
          exact ⟨e, t2, rfl, q2⟩
        · have n1 : (x == z) = false := by cases y : x == z with | false => rfl | true => exact absurd (eq_of_beq y) q
          have n2 : (z == x) = false := by cases y : z == x with | false => rfl | true => exact absurd (eq_of_beq y).symm q
          rw [n1, n2]
          exact b z
    · cases h1
/-! ### the look -/
def faOf : List (Str × GK) → List He.Fa
  | [] => []
  | (x, g) :: r => match g with
    | .fn _ => .glo x :: faOf r
    | .kd _ => .glo x :: faOf r
    | .bt => .free x :: faOf r
    | .exc _ _ => .glo x :: .exc x :: faOf r
    | .ve _ => .free x :: faOf r
    | .con _ => faOf r
    | .cls _ _ => .glo x :: .mkr x :: faOf r
    | .ct l => (l.flatMap fun d => He.Fa.cls d.name :: (d.fields.map (He.Fa.noat d.name) ++ d.meths.map fun q => He.Fa.meth d.name q.1)) ++ faOf r
def tsOf : List (Str × GK) → List He.Tab
  | [] => []
  | (x, g) :: r => match g with
    | .kd kvs => (fun K => He.ga K x, kvs.map (·.1)) :: tsOf r
    | _ => tsOf r
def atOf (d : Df) : Str × Option Str := match d.own with
  | none => (d.name, none)
  | some c => (c, some d.name)
def ddOf (d : Df) : He.DefD := ⟨atOf d, d.name, d.qual, d.params, d.body, d.scope, [], []⟩
/-- the modules' dict is there -/
def sysB (g : Addr → Option Obj) : Bool := match g sysModules with
  | some o => decide (o.cls = .type "dict")
  | none => false
abbrev AlF : Type := He.AlT × Bool × Bool
def obsF (gs : List (Str × GK)) (xs : List Str) (tab : List Df) (K : PySem.W.Frag) : AlF := (He.obsT (faOf gs) (tab.map ddOf) (tsOf gs) K, (gs.all fun p => exB xs K p.1 p.2), (K.lookup sysModules).isNone)
def valF (gs : List (Str × GK)) (tab : List Df) (w : World) : AlF := (He.valT (tab.map ddOf) (tsOf gs) w, true, true)
def obsFG (n : Nat) (gs : List (Str × GK)) (xs : List Str) (tab : List Df) (g : Addr → Option Obj) : AlF × Bool := (obsF gs xs tab (He.frG g (He.asD g n)), sysB g)
def SaysF (gs : List (Str × GK)) (xs : List Str) (tab : List Df) (w : World) (K : PySem.W.Frag) : Prop := obsF gs xs tab K = valF gs tab w
def hookF (n : Nat) (gs : List (Str × GK)) (xs : List Str) (tab : List Df) : PySem.W.Hook where
  α := AlF × Bool
  obs := fun s => obsFG n gs xs tab s.heap.get?
  val := fun w => (valF gs tab w, true)
  says := fun w h => (∃ K : PySem.W.Frag, K.In h ∧ SaysF gs xs tab w K) ∧ ∃ o, h.get? sysModules = some o ∧ o.cls = .type "dict"
  of := fun _ s e => by
    have e1 := congrArg Prod.fst e
    have e2 : sysB s.heap.get? = true := congrArg Prod.snd e
    refine ⟨⟨_, He.frG_in, e1⟩, ?_⟩
    unfold sysB at e2
    cases q : s.heap.get? sysModules with
    | none => rw [q] at e2; cases e2
    | some o => rw [q] at e2; exact ⟨o, rfl, of_decide_eq_true e2⟩
  keeps := fun _ _ _ ⟨⟨K, hK, c⟩, o, ho, hc⟩ k => ⟨⟨K, PySem.W.Frag.In.keeps hK k, c⟩, o, k _ _ ho, hc⟩
theorem obsFG_eq {n : Nat} {gs : List (Str × GK)} {xs : List Str} {tab : List Df} {g : Addr → Option Obj} {s : Shared} (h : ∀ a, g a = s.heap.get? a) : obsFG n gs xs tab g = (hookF n gs xs tab).obs s := by
  have e : g = s.heap.get? := funext h
  rw [e] <;> rfl
def clOf (xs : List Str) (K : PySem.W.Frag) : Nat → Value := fun c => match xs[c]? with
  | some x => .ref (He.ga K x)
  | none => .none
def cOf (xs : List Str) (K : PySem.W.Frag) : Nat → Addr := fun c => match xs[c]? with
  | some x => He.ga K x
  | none => 0
theorem lookN_mem {k : Nat} {b : Bool} : ∀ {ds : List (Nat × Bool)}, ds.lookup k = some b → (k, b) ∈ ds
  | [], h => by cases h
  | (j, c) :: r, h => by
    rw [List.lookup_cons] at h
    by_cases q : k = j
    · subst q
      rw [beq_self_eq_true] at h
      cases h
      exact List.mem_cons_self
    · have : (k == j) = false := by simpa using q
      rw [this] at h
      exact List.mem_cons_of_mem _ (lookN_mem h)
theorem exIs_ok {xs : List Str} {K : PySem.W.Frag} {cv : Value} {ds : List (Nat × Bool)} (h : ds.all (exIsB K xs cv) = true) (k : Nat) (b : Bool) (l : ds.lookup k = some b) : ExIs K (clOf xs K) (cOf xs K) k b cv := by
  have z := List.all_eq_true.mp h (k, b) (lookN_mem l)
  unfold exIsB at z
  dsimp only at z
  cases q : xs[k]? with
  | none => rw [q] at z; cases z
  | some y =>
    rw [q] at z
    simp only [Bool.and_eq_true, decide_eq_true_eq] at z
    have e : cOf xs K k = He.ga K y := by unfold cOf; rw [q]
    have e2 : clOf xs K k = .ref (He.ga K y) := by unfold clOf; rw [q]
    exact ⟨by rw [e, e2], by rw [e]; exact excB_ok z.1.1, by rw [e]; exact z.1.2, by rw [e]; exact z.2⟩
def ownB (tab : List Df) (x m : Str) (id : Nat) : Bool := match tab[id]? with
  | some d => decide (atOf d = (x, some m))
  | none => false
def gsB (gs : List (Str × GK)) (tab : List Df) (xs : List Str) : Bool := Nat.ble tab.length 1000000 && gs.all fun p => match p.2 with
  | .fn id => (match tab[id]? with
    | some d => decide (atOf d = (p.1, none))
    | none => false)
  | .exc c _ => decide (xs[c]? = some p.1)
  | .cls c id => decide (xs[c]? = some p.1) && ownB tab p.1 "__init__" id
  | .ct l => l.all fun d => decide (xs[d.c]? = some d.name) && d.meths.all fun q => ownB tab d.name q.1 q.2
  | _ => true
def bindOk (d : Df) : Prop := ∀ (kV doc pm : Value) (an : Option Addr) (cdv ct : Value) (us : List Value), us.length = d.ps.length → bindArgs (PySem.W.fnOf d.name d.qual d.params d.body d.scope .none kV doc pm an cdv ct) ⟨us, []⟩ = pure (d.ps.zip us)
theorem fa_cons {y : Str} {k : GK} {r : List (Str × GK)} : faOf ((y, k) :: r) = faOf [(y, k)] ++ faOf r := by
  cases k <;> first | rfl | simp [faOf]
theorem fa_mem {x : Str} {g : GK} {f : He.Fa} : ∀ {gs : List (Str × GK)}, (x, g) ∈ gs → f ∈ faOf [(x, g)] → f ∈ faOf gs
  | [], h, _ => by cases h
  | (y, k) :: r, h, hf => by
    rw [fa_cons, List.mem_append]
    rcases List.mem_cons.mp h with e | h
    · cases e; exact .inl hf
    · exact .inr (fa_mem h hf)
theorem ts_mem {x : Str} {kvs : List (Str × Int)} : ∀ {gs : List (Str × GK)}, (x, GK.kd kvs) ∈ gs → ∃ i : Nat, (tsOf gs)[i]? = some ((fun K => He.ga K x, kvs.map (·.1)) : He.Tab)
  | [], h => by cases h
  | (y, k) :: r, h => by
    rcases List.mem_cons.mp h with e | h
    · cases e
      exact ⟨0, rfl⟩
    · obtain ⟨i, z⟩ := ts_mem h
      cases k <;> first | exact ⟨i, z⟩ | exact ⟨i + 1, z⟩
def fOf (tab : List Df) (K : PySem.W.Frag) (id : Nat) : Addr := match tab[id]? with
  | some d => He.fAd K (atOf d)
  | none => 0
theorem own_ok {tab : List Df} {x m : Str} {id : Nat} (h : ownB tab x m id = true) (K : PySem.W.Frag) : fOf tab K id = He.ma K (He.ga K x) m ∧ ∃ d, tab[id]? = some d := by
  unfold ownB at h
  cases q : tab[id]? with
  | none => rw [q] at h; cases h
  | some d =>
    rw [q] at h
    have e : atOf d = (x, some m) := of_decide_eq_true h
    refine ⟨?_, d, rfl⟩
    unfold fOf
    rw [q]
    show He.fAd K (atOf d) = _
    rw [e]; rfl
theorem modOk_of {gs : List (Str × GK)} {tab : List Df} {xs : List Str} {w : World} {K : PySem.W.Frag} {h : Heap} {mg : Str → Option Value} (X : K.In h) (G : h.Ns mainGlobals mg) (c : SaysF gs xs tab w K) (hb : gsB gs tab xs = true) (hd : ∀ d ∈ tab, FnScope d.N d.ps d.scope ∧ bindOk d) :
    ∃ fd, ModOk w K mg (clOf xs K) (cOf xs K) (fun x => gs.lookup x) tab (fOf tab K) fd := by
  have cT : He.SaysT (faOf gs) (tab.map ddOf) (tsOf gs) w K := congrArg (fun z : AlF => z.1) c
  have cD := cT.d
  have cE : (gs.all fun p => exB xs K p.1 p.2) = true := congrArg (fun z : AlF => z.2.1) c
  have fact : ∀ f ∈ faOf gs, f.ok K = true := fun f hf => List.all_eq_true.mp (He.ba (show ((faOf gs).all (fun f => f.ok K) && (tab.map ddOf).all fun d => d.ok K) = true from congrArg (fun z : He.AlD => z.1) cD)).1 f hf
  have ex : ∀ id, ∃ fd, ∀ d, tab[id]? = some d → FunD K d.name d.qual d.params d.body d.scope [] [] (fOf tab K id) fd := fun id => by
    cases e : tab[id]? with
    | none => exact ⟨default, fun d z => by cases z⟩
    | some d =>
      obtain ⟨fd, F⟩ := cD.def_ id (d := ddOf d) (by rw [List.getElem?_map, e]; rfl)
      refine ⟨fd, fun d' z => ?_⟩
      cases z
      have ef : fOf tab K id = He.fAd K (ddOf d).at_ := by unfold fOf; rw [e]; rfl
      rw [ef]
      exact F
  obtain ⟨hfew, hb⟩ := Bool.and_eq_true_iff.mp hb
  refine ⟨fun id => Classical.choose (ex id), ⟨fun x id e => ?_, fun id d e => ?_, fun x g e => ?_, Nat.le_of_ble_eq_true hfew, fun x c id e => ?_, fun x l e d hd => ?_⟩⟩
  · have m := mem_of_lookup e
    have z := List.all_eq_true.mp hb _ m
    have z : (match tab[id]? with
      | some d => decide (atOf d = (x, none))
      | none => false) = true := z
    cases q : tab[id]? with
    | none => rw [q] at z; cases z
    | some d =>
      rw [q] at z
      have en : atOf d = (x, none) := of_decide_eq_true z
      refine ⟨?_, d, rfl⟩
      have g1 := He.glo_ok X G (fact _ (fa_mem (f := .glo x) m (by simp [faOf])))
      unfold fOf
      rw [q]
      show _ = some (Value.ref (He.fAd K (atOf d)))
      rw [en]
      exact g1
  · obtain ⟨S, b⟩ := hd d (List.mem_of_getElem? e)
    have F := Classical.choose_spec (ex id) d e
    exact ⟨F, S, F.bindsN b⟩
  · have m := mem_of_lookup e
    have z := List.all_eq_true.mp cE _ m
    have zb := List.all_eq_true.mp hb _ m
    cases g with
    | fn id => exact trivial
    | cls c id => exact trivial
    | ct l => exact trivial
    | bt => exact He.free_ok X G (fact _ (fa_mem (f := .free x) m (by simp [faOf])))
    | con u =>
      have z : (match PySem.W.nsIn K mainGlobals x with
        | some (some y) => conW K 20 u y
        | _ => false) = true := z
      cases q : PySem.W.nsIn K mainGlobals x with
      | none => rw [q] at z; cases z
      | some r =>
        rw [q] at z
        cases r with
        | none => cases z
        | some y =>
          obtain ⟨v, h1, h2⟩ := conW_ok 20 u y z
          exact ⟨y, v, PySem.W.mg_of X G q, h1, h2⟩
    | kd kvs =>
      have g1 := He.glo_ok X G (fact _ (fa_mem (f := .glo x) m (by simp [faOf])))
      obtain ⟨i, hi⟩ := ts_mem m
      obtain ⟨es, n, D⟩ := cT.tab i hi
      have D : KDict K w (He.ga K x) es n := D
      refine ⟨He.ga K x, es, n, D, g1, fun y => ?_⟩
      have z : (match K.lookup (He.ga K x) with
        | some ⟨_, _, .dict es _, _⟩ => kdGo es.toList kvs
        | _ => false) = true := z
      rw [D.at_] at z
      obtain ⟨n1, n2⟩ := kdGo_ok (show kdGo es.toList kvs = true from z)
      have n2 := n2 y
      unfold PySem.W.nsIn
      rw [D.at_]
      cases l : kvs.lookup y with
      | none =>
        rw [l] at n2
        have n2 : es.toList.find? (·.key.isStr y) = none := n2
        refine ⟨none, ?_, rfl⟩
        show (match es.toList.find? (·.key.isStr y) with
          | some e => some (some e.val)
          | none => if es.toList.any (·.refKey) then none else some none) = some none
        rw [n2]
        show (if es.toList.any (·.refKey) = true then none else some none) = some none
        rw [n1]; rfl
      | some j =>
        rw [l] at n2
        obtain ⟨e, t, f1, f2⟩ := n2
        refine ⟨some e.val, ?_, e.val, rfl, t, f2⟩
        show (match es.toList.find? (·.key.isStr y) with
          | some e => some (some e.val)
          | none => if es.toList.any (·.refKey) then none else some none) = some (some e.val)
        rw [f1]
    | ve ds =>
      obtain ⟨z1, z2⟩ := Bool.and_eq_true_iff.mp (show (decide (x = "ValueError") && ds.all (exIsB K xs (.type "ValueError"))) = true from z)
      exact ⟨of_decide_eq_true z1, He.free_ok X G (fact _ (fa_mem (f := .free x) m (by simp [faOf]))), exIs_ok z2⟩
    | exc k ds =>
      have z : ds.all (exIsB K xs (.ref (He.ga K x))) = true := z
      have zb : decide (xs[k]? = some x) = true := zb
      have zb := of_decide_eq_true zb
      have g1 := He.glo_ok X G (fact _ (fa_mem (f := .glo x) m (by simp [faOf])))
      obtain ⟨a1, a2, a3, a4⟩ := He.exc_ok (fact _ (fa_mem (f := .exc x) m (by simp [faOf])))
      exact ⟨He.ga K x, "ValueError", "ValueError.__new__", "ValueError.__init__", He.veBase, ⟨by unfold cOf; rw [zb], exIs_ok z⟩, PySem.F.excBase_ValueError, by unfold clOf; rw [zb], a1, g1, a2, a3, a4⟩
  · have m := mem_of_lookup e
    have zb : (decide (xs[c]? = some x) && ownB tab x "__init__" id) = true := List.all_eq_true.mp hb _ m
    obtain ⟨z1, z2⟩ := Bool.and_eq_true_iff.mp zb
    have z1 := of_decide_eq_true z1
    obtain ⟨e1, e2⟩ := own_ok z2 K
    have g1 := He.glo_ok X G (fact _ (fa_mem (f := .glo x) m (by simp [faOf])))
    have g2 := He.mkr_ok (fact _ (fa_mem (f := .mkr x) m (by simp [faOf])))
    have ec : cOf xs K c = He.ga K x := by unfold cOf; rw [z1]
    rw [ec, e1]
    exact ⟨g2, g1, e2⟩
  · have m := mem_of_lookup e
    have zb : (l.all fun d => decide (xs[d.c]? = some d.name) && d.meths.all fun q => ownB tab d.name q.1 q.2) = true := List.all_eq_true.mp hb _ m
    obtain ⟨z1, z2⟩ := Bool.and_eq_true_iff.mp (List.all_eq_true.mp zb d hd)
    have z1 := of_decide_eq_true z1
    have ec : cOf xs K d.c = He.ga K d.name := by unfold cOf; rw [z1]
    have inn : ∀ f, f ∈ (He.Fa.cls d.name :: (d.fields.map (He.Fa.noat d.name) ++ d.meths.map fun q => He.Fa.meth d.name q.1)) → f.ok K = true := fun f hf => fact f (fa_mem (f := f) m (by
      show f ∈ faOf [(x, GK.ct l)]
      unfold faOf
      exact List.mem_append_left _ (List.mem_flatMap.mpr ⟨d, hd, hf⟩)))
    rw [ec]
    refine ⟨He.cls_ok (inn _ List.mem_cons_self), fun f hf => He.noat_ok (inn _ (List.mem_cons_of_mem _ (List.mem_append_left _ (List.mem_map_of_mem hf)))), fun q hq => ?_⟩
    obtain ⟨e1, e2⟩ := own_ok (List.all_eq_true.mp z2 q hq) K
    rw [e1]
    exact ⟨He.meth_ok (inn _ (List.mem_cons_of_mem _ (List.mem_append_right _ (List.mem_map.mpr ⟨q, hq, rfl⟩)))), e2⟩
/-- THE LAW'S END, from the look -/
theorem walkF {l : PySem.W.OpenLaw} {n k m : Nat} {q : Program} {loose : List Str} {XP : (Str → Option Value) → Heap → Prop} {d : DefRec} {x : Str} {gs : List (Str × GK)} {tab : List Df} {xs : List Str} {id : Nat} {dl : Df}
    (hn : l.most = some n) (hn2 : n ≤ sizeLine) (hdf : d.params.defaults = []) (hr : Room k callerA) (he : tab[id]? = some dl) (hx : dl.ps = [x]) (hl : gs.lookup d.name = some (.fn id)) (hb : gsB gs tab xs = true) (hd : ∀ d ∈ tab, FnScope d.N d.ps d.scope ∧ bindOk d)
    (E : ∀ ns : List Int, ns.length ≤ n → ∃ h', Phi (fun x => gs.lookup x) tab k id [.ro (ns.map W.int)] ih0 = .ok (.bl true) h') :
    PySem.W.WalkO q loose XP (hookF m gs xs tab).says l.row.toRowW d [] (fun f vs => PySem.call f vs) := by
  refine walkG hn hn2 hdf hr he hx (fun w mg fa h Y G hm => ?_) E
  obtain ⟨⟨K, X, c⟩, hs1⟩ := Y
  obtain ⟨fd, M⟩ := modOk_of (xs := xs) X G c hb hd
  refine ⟨K, clOf xs K, cOf xs K, fOf tab K, fd, X, M, ?_, by have z : (K.lookup sysModules).isNone = true := congrArg (fun z : AlF => z.2.2) c; simpa using z, hs1, fun s u => ?_⟩
  · have z := (M.fn _ id hl).1
    rw [hm] at z
    cases z
    rfl
  · obtain ⟨F, _, _⟩ := M.def_ id dl he
    have b := FunD.bindsA F (hd dl (List.mem_of_getElem? he)).2 s [u] (by rw [hx]; rfl)
    rw [hx] at b
    exact b
end Fw

set_option Elab.async false
set_option linter.all false
set_option maxRecDepth 100000
/-! Fw, part W: what an evaluation ends in, told forwards. -/
namespace Fw
open PySem
/-- it ends well, and P holds -/
def Rs.Wp {α : Type} (r : Rs α) (P : α → IH → Prop) : Prop := match r with
  | .ok a h => P a h
  | _ => False
@[simp] theorem Rs.Wp_ok {α : Type} (a : α) (h : IH) (P : α → IH → Prop) : (Rs.ok a h).Wp P = P a h := rfl
theorem Rs.Wp.mono {α : Type} {r : Rs α} {P Q : α → IH → Prop} (w : r.Wp P) (k : ∀ a h, P a h → Q a h) : r.Wp Q := by
  cases r with
  | ok a h => exact k a h w
  | exc c h => exact w
  | stuck => exact w
theorem Rs.Wp_bind {α β : Type} {r : Rs α} {k : α → IH → Rs β} {P : β → IH → Prop} : (r.bind k).Wp P = r.Wp fun a h => (k a h).Wp P := by
  cases r <;> rfl
theorem Rs.Wp.bind {α β : Type} {r : Rs α} {k : α → IH → Rs β} {P : β → IH → Prop} (w : r.Wp fun a h => (k a h).Wp P) : (r.bind k).Wp P := by
  cases r with
  | ok a h => exact w
  | exc c h => exact w
  | stuck => exact w
theorem Rs.Wp.ex {α : Type} {r : Rs α} {P : α → IH → Prop} (w : r.Wp P) : ∃ a h, r = .ok a h ∧ P a h := by
  cases r with
  | ok a h => exact ⟨a, h, rfl, w⟩
  | exc c h => exact w.elim
  | stuck => exact w.elim
/-- a block's ends: on, return, break, continue -/
structure Dn where
  n : Env → IH → Prop
  r : W → IH → Prop
  b : Env → IH → Prop := fun _ _ => False
  c : Env → IH → Prop := fun _ _ => False
def RS.Wp (s : RS) (D : Dn) : Prop := match s with
  | .nx e h => D.n e h
  | .rt w h => D.r w h
  | .bk e h => D.b e h
  | .ct e h => D.c e h
  | _ => False
@[simp] theorem RS.Wp_nx (e : Env) (h : IH) (D : Dn) : (RS.nx e h).Wp D = D.n e h := rfl
@[simp] theorem RS.Wp_rt (w : W) (h : IH) (D : Dn) : (RS.rt w h).Wp D = D.r w h := rfl
@[simp] theorem RS.Wp_bk (e : Env) (h : IH) (D : Dn) : (RS.bk e h).Wp D = D.b e h := rfl
@[simp] theorem RS.Wp_ct (e : Env) (h : IH) (D : Dn) : (RS.ct e h).Wp D = D.c e h := rfl
theorem W_st {α : Type} {r : Rs α} {e : Env} {k : α → IH → RS} {D : Dn} (w : r.Wp fun a h => (k a h).Wp D) : (r.st e k).Wp D := by
  cases r with
  | ok a h => exact w
  | exc c h => exact w.elim
  | stuck => exact w.elim
theorem W_sg {r : Rs Env} {k : Env → IH → RS} {D : Dn} (w : r.Wp fun a h => (k a h).Wp D) : (r.sg k).Wp D := by
  cases r with
  | ok a h => exact w
  | exc c h => exact w.elim
  | stuck => exact w.elim
theorem W_seq {s t : SS} {e : Env} {h : IH} {D : Dn} (w : (s e h).Wp { D with n := fun e h => (t e h).Wp D }) : (sSeq s t e h).Wp D := by
  unfold sSeq
  cases q : s e h with
  | nx e h => rw [q] at w; exact w
  | rt x h => rw [q] at w; exact w
  | bk e h => rw [q] at w; exact w
  | ct e h => rw [q] at w; exact w
  | ex c e h => rw [q] at w; exact w
  | stuck => rw [q] at w; exact w
theorem RS.Wp.mono {s : RS} {D D' : Dn} (w : s.Wp D) (hn : ∀ e h, D.n e h → D'.n e h) (hr : ∀ x h, D.r x h → D'.r x h) (hb : ∀ e h, D.b e h → D'.b e h) (hc : ∀ e h, D.c e h → D'.c e h) : s.Wp D' := by
  cases s with
  | nx e h => exact hn _ _ w
  | rt x h => exact hr _ _ w
  | bk e h => exact hb _ _ w
  | ct e h => exact hc _ _ w
  | ex c e h => exact w
  | stuck => exact w
/-- an if whose test's value is known when it is known -/
theorem W_if {t : ET} {a b : SS} {e : Env} {h : IH} {D : Dn} (w : (t e h).Wp fun c h => if c = true then (a e h).Wp D else (b e h).Wp D) : (sIf t a b e h).Wp D := by
  unfold sIf
  refine W_st (w.mono fun c h z => ?_)
  cases c with
  | true => exact z
  | false => exact z
/-- a walk over what stands still: I by the turns done -/
theorem W_for {s : EI} {g : EG} {b : SS} {e : Env} {h : IH} {D : Dn} (w : (s e h).Wp fun J h1 => ∃ (I : Nat → Env → IH → Prop), I 0 e h1 ∧
    (∀ i e h2, I i e h2 → i < J.cnt h1 → ∃ x, J.nth h2 i = some x ∧ (g x e h2).Wp fun e h3 => (b e h3).Wp { n := I (i + 1), r := D.r, b := D.n, c := I (i + 1) }) ∧
    ∀ e h2, I (J.cnt h1) e h2 → J.fin h2 (J.cnt h1) = true ∧ D.n e h2) : (sFor s g b e h).Wp D := by
  unfold sFor
  refine W_st (w.mono fun J h1 z => ?_)
  obtain ⟨I, i0, step, fin⟩ := z
  have go : ∀ (m i : Nat) (e : Env) (h2 : IH), i + m = J.cnt h1 → I i e h2 → (forL g b J m i e h2).Wp D := by
    intro m
    induction m with
    | zero =>
      intro i e h2 hi hI
      have ei : i = J.cnt h1 := by omega
      subst ei
      obtain ⟨f, d⟩ := fin e h2 hI
      unfold forL
      rw [f]
      exact d
    | succ m ih =>
      intro i e h2 hi hI
      obtain ⟨x, hx, st⟩ := step i e h2 hI (by omega)
      unfold forL
      rw [hx]
      refine W_sg (st.mono fun e h3 z => ?_)
      cases q : b e h3 with
      | nx e h => rw [q] at z; exact ih (i + 1) e h (by omega) z
      | ct e h => rw [q] at z; exact ih (i + 1) e h (by omega) z
      | bk e h => rw [q] at z; exact z
      | rt x h => rw [q] at z; exact z
      | ex c e h => rw [q] at z; exact z
      | stuck => rw [q] at z; exact z
  exact go _ 0 e h1 (by omega) i0
/-- a while: I with what grows less -/
theorem W_while {t : ET} {b : SS} {e : Env} {h : IH} {D : Dn} (I : Nat → Env → IH → Prop) (m0 : Nat) (hm : m0 < whileFuel) (i0 : I m0 e h)
    (step : ∀ m e h, I m e h → (t e h).Wp fun c h => if c = true then (b e h).Wp { n := fun e h => ∃ m', m' < m ∧ I m' e h, r := D.r, b := D.n, c := fun e h => ∃ m', m' < m ∧ I m' e h } else D.n e h) : (sWhile t b e h).Wp D := by
  have go : ∀ (n m : Nat) (e : Env) (h : IH), m < n → I m e h → (whileN t b n e h).Wp D := by
    intro n
    induction n with
    | zero => intro m e h hm; omega
    | succ n ih =>
      intro m e h hm hI
      unfold whileN
      refine W_st ((step m e h hI).mono fun c h z => ?_)
      cases c with
      | false => exact z
      | true =>
        have z : (b e h).Wp _ := z
        dsimp only
        cases q : b e h with
        | nx e h => rw [q] at z; obtain ⟨m', hl, z⟩ := z; exact ih m' e h (by omega) z
        | ct e h => rw [q] at z; obtain ⟨m', hl, z⟩ := z; exact ih m' e h (by omega) z
        | bk e h => rw [q] at z; exact z
        | rt x h => rw [q] at z; exact z
        | ex c e h => rw [q] at z; exact z
        | stuck => rw [q] at z; exact z
  exact go _ m0 e h hm i0
/-- a comprehension: I by the turns done and what is made so far -/
theorem W_lc {s : EI} {g : EG} {t : ET} {f : EE} {vs : List Nat} {e : Env} {h : IH} {P : W → IH → Prop} (w : (s e h).Wp fun J h1 => ∃ (I : Nat → List W → IH → Prop), I 0 [] h1 ∧
    (∀ i xs h2, I i xs h2 → i < J.cnt h1 → ∃ x, J.nth h2 i = some x ∧ (g x (wipeW e vs) h2).Wp fun e h3 => (t e h3).Wp fun c h4 => if c = true then (f e h4).Wp fun y h5 => I (i + 1) (xs ++ [y]) h5 else I (i + 1) xs h4) ∧
    ∀ xs h2, I (J.cnt h1) xs h2 → J.fin h2 (J.cnt h1) = true ∧ xs.length ≤ 16777216 ∧ P (.loc h2.n) (h2.new (.lst xs))) : (eLc s g t f vs e h).Wp P := by
  unfold eLc
  refine Rs.Wp.bind (w.mono fun J h1 z => ?_)
  obtain ⟨I, i0, step, fin⟩ := z
  have go : ∀ (m i : Nat) (acc : List W) (h2 : IH), i + m = J.cnt h1 → I i acc h2 → ∃ xs h3, lcL g t f J (wipeW e vs) m i h2 = .ok xs h3 ∧ I (J.cnt h1) (acc ++ xs) h3 := by
    intro m
    induction m with
    | zero =>
      intro i acc h2 hi hI
      have ei : i = J.cnt h1 := by omega
      subst ei
      refine ⟨[], h2, ?_, by rw [List.append_nil]; exact hI⟩
      unfold lcL
      rw [(fin acc h2 hI).1]
    | succ m ih =>
      intro i acc h2 hi hI
      obtain ⟨x, hx, st⟩ := step i acc h2 hI (by omega)
      unfold lcL
      rw [hx]
      dsimp only
      obtain ⟨e3, h3, q3, st⟩ := st.ex
      rw [q3, Rs.bind_ok]
      obtain ⟨c, h4, q4, st⟩ := st.ex
      rw [q4, Rs.bind_ok]
      cases c with
      | true =>
        obtain ⟨y, h5, q5, st⟩ := Rs.Wp.ex (show (f e3 h4).Wp _ from st)
        dsimp only
        rw [q5, Rs.bind_ok]
        obtain ⟨xs, h6, q6, z⟩ := ih (i + 1) _ h5 (by omega) st
        rw [q6, Rs.bind_ok]
        exact ⟨y :: xs, h6, rfl, by rw [List.append_assoc] at z; exact z⟩
      | false => exact ih (i + 1) acc h4 (by omega) st
  obtain ⟨xs, h3, q, z⟩ := go (J.cnt h1) 0 [] h1 (by omega) i0
  rw [q]
  obtain ⟨_, hl, p⟩ := fin xs h3 z
  show (Rs.need (lenOk xs.length) _).Wp P
  rw [lenOk_iff.mpr hl]
  exact p
end Fw

set_option Elab.async false
set_option linter.all false
set_option maxRecDepth 100000
/-! Fw, part X: the same as equations, for simp. -/
namespace Fw
open PySem
section
variable {e : Env} {h : IH} {P : W → IH → Prop} {N : Env → IH → Prop} {R : W → IH → Prop} {B1 C1 : Env → IH → Prop} {f g l : EE} {k k' : W → W → IH → Rs W} {t u : ET} {a b : SS}
theorem x_seq : (sSeq a b e h).Wp (Dn.mk N R B1 C1) = (a e h).Wp (Dn.mk (fun e h => (b e h).Wp (Dn.mk N R B1 C1)) R B1 C1) := by
  unfold sSeq
  cases a e h <;> rfl
theorem x_next : (sNext e h).Wp (Dn.mk N R B1 C1) = N e h := rfl
theorem x_brk : (sBreak e h).Wp (Dn.mk N R B1 C1) = B1 e h := rfl
theorem x_cont : (sCont e h).Wp (Dn.mk N R B1 C1) = C1 e h := rfl
theorem x_asg {tg : EG} : (sAsg f tg e h).Wp (Dn.mk N R B1 C1) = (f e h).Wp fun w h => (tg w e h).Wp (Dn.mk N R B1 C1).n := by
  unfold sAsg
  cases f e h with
  | ok w h1 =>
    show ((tg w e h1).sg _).Wp (Dn.mk N R B1 C1) = (tg w e h1).Wp (Dn.mk N R B1 C1).n
    cases tg w e h1 <;> rfl
  | exc c h1 => rfl
  | stuck => rfl
theorem x_expr : (sExpr f e h).Wp (Dn.mk N R B1 C1) = (f e h).Wp fun _ h => N e h := by
  unfold sExpr
  cases f e h <;> rfl
theorem x_ret : (sRet f e h).Wp (Dn.mk N R B1 C1) = (f e h).Wp (Dn.mk N R B1 C1).r := by
  unfold sRet
  cases f e h <;> rfl
theorem x_retN : (sRetN e h).Wp (Dn.mk N R B1 C1) = R .non h := rfl
theorem x_if : (sIf t a b e h).Wp (Dn.mk N R B1 C1) = (t e h).Wp fun c h => (c = true → (a e h).Wp (Dn.mk N R B1 C1)) ∧ (c = false → (b e h).Wp (Dn.mk N R B1 C1)) := by
  unfold sIf
  cases t e h with
  | ok c h1 => cases c <;> simp [Rs.st, Rs.Wp]
  | exc c h1 => rfl
  | stuck => rfl
theorem x_par2 {i j : Nat} {x y : EE} : (sPar2 i j (aCons x (aCons y aNil)) e h).Wp (Dn.mk N R B1 C1) = (x e h).Wp fun v h => (y e h).Wp fun w h => (gNm i v e h).Wp fun e h => (gNm j w e h).Wp N := by
  unfold sPar2 aCons aNil
  cases x e h with
  | ok v h1 =>
    show ((Rs.bind (Rs.bind (y e h1) _) _).st e _).Wp (Dn.mk N R B1 C1) = (y e h1).Wp _
    cases y e h1 <;> rfl
  | exc c h1 => rfl
  | stuck => rfl
theorem x_par3 {i j m : Nat} {x y z : EE} : (sPar3 i j m (aCons x (aCons y (aCons z aNil))) e h).Wp (Dn.mk N R B1 C1) = (x e h).Wp fun v h => (y e h).Wp fun w h => (z e h).Wp fun u h => (gNm i v e h).Wp fun e h => (gNm j w e h).Wp fun e h => (gNm m u e h).Wp N := by
  unfold sPar3 aCons aNil
  cases x e h with
  | ok v h1 =>
    show ((Rs.bind (Rs.bind (y e h1) _) _).st e _).Wp (Dn.mk N R B1 C1) = (y e h1).Wp _
    cases y e h1 with
    | ok w h2 =>
      show ((Rs.bind (Rs.bind (Rs.bind (z e h2) _) _) _).st e _).Wp (Dn.mk N R B1 C1) = (z e h2).Wp _
      cases z e h2 <;> rfl
    | exc c h1 => rfl
    | stuck => rfl
  | exc c h1 => rfl
  | stuck => rfl
/-! expressions -/
theorem x_var {i : Nat} {w : W} (q : e[i]? = some (some w)) : (eVar i e h).Wp P = P w h := by
  unfold eVar; rw [q]; rfl
theorem x_C {w : W} : (eC w e h).Wp P = P w h := rfl
theorem x_e1 {k : W → IH → Rs W} : (e1 k f e h).Wp P = (f e h).Wp fun x h => (k x h).Wp P := Rs.Wp_bind
theorem x_e2 : (e2 k f g e h).Wp P = (f e h).Wp fun x h => (g e h).Wp fun y h => (k x y h).Wp P := by
  unfold e2
  rw [Rs.Wp_bind]
  congr; funext x h; rw [Rs.Wp_bind]
theorem x_nil {Q : List W → IH → Prop} : (aNil e h).Wp Q = Q [] h := rfl
theorem x_cons {r : EA} {Q : List W → IH → Prop} : (aCons f r e h).Wp Q = (f e h).Wp fun w h => (r e h).Wp fun ws h => Q (w :: ws) h := by
  unfold aCons
  rw [Rs.Wp_bind]
  congr; funext x h; rw [Rs.Wp_bind]; rfl
theorem x_eA {k : List W → IH → Rs W} {r : EA} : (eA k r e h).Wp P = (r e h).Wp fun ws h => (k ws h).Wp P := Rs.Wp_bind
theorem x_call {Φ : FT} {id : Nat} {r : EA} : (eCall Φ id r e h).Wp P = (r e h).Wp fun ws h => (Φ id ws h).Wp P := Rs.Wp_bind
theorem need_wp {α : Type} {c : Bool} {r : Rs α} {Q : α → IH → Prop} : (Rs.need c r).Wp Q = (c = true ∧ r.Wp Q) := by
  cases c <;> simp [Rs.need, Rs.Wp]
theorem x_tup {r : EA} : (eTup r e h).Wp P = (r e h).Wp fun ws h => lenOk ws.length = true ∧ P (.tup ws) h := by
  unfold eTup
  rw [Rs.Wp_bind]
  congr; funext x h; rw [need_wp]; rfl
theorem x_lst {r : EA} : (eLst r e h).Wp P = (r e h).Wp fun ws h => lenOk ws.length = true ∧ P (.loc h.n) (h.new (.lst ws)) := by
  unfold eLst
  rw [Rs.Wp_bind]
  congr; funext x h; rw [need_wp]; rfl
theorem x_eIf : (eIf t f g e h).Wp P = (t e h).Wp fun c h => (c = true → (f e h).Wp P) ∧ (c = false → (g e h).Wp P) := by
  unfold eIf
  rw [Rs.Wp_bind]
  congr; funext x h; cases x <;> simp
theorem x_mt {chk : W → IH → Bool} {m : List W → IH → Rs W} {r : EA} : (eMt chk m f r e h).Wp P = (f e h).Wp fun x h => chk x h = true ∧ (r e h).Wp fun ws h => (m (x :: ws) h).Wp P := by
  unfold eMt
  rw [Rs.Wp_bind]
  congr; funext x h; rw [need_wp, Rs.Wp_bind]
theorem x_sl {lo hi : EO} : (eSl f lo hi e h).Wp P = (f e h).Wp fun w h => (lo e h).Wp fun a h => (hi e h).Wp fun b h => (oSl a b w h).Wp P := by
  unfold eSl
  rw [Rs.Wp_bind]
  congr; funext x h; rw [Rs.Wp_bind]
  congr; funext y h; rw [Rs.Wp_bind]
theorem x_none {Q : Option Int → IH → Prop} : (pNone e h).Wp Q = Q none h := rfl
theorem x_some {Q : Option Int → IH → Prop} {w : Int} : (pSome (eC (.int w)) e h).Wp Q = Q (some w) h := rfl
/-! tests -/
variable {B : Bool → IH → Prop}
theorem x_bol : (tBol f e h).Wp B = (f e h).Wp fun w h => (bolW w h).Wp B := Rs.Wp_bind
theorem x_bolW {c : Bool} : (bolW (.bl c) h).Wp B = B c h := rfl
theorem x_tru : (tTru f e h).Wp B = (f e h).Wp fun w h => (truW w h).Wp B := Rs.Wp_bind
theorem x_not : (tNot t e h).Wp B = (t e h).Wp fun c h => B (!c) h := Rs.Wp_bind
theorem x_and : (tAnd t u e h).Wp B = (t e h).Wp fun c h => (c = true → (u e h).Wp B) ∧ (c = false → B false h) := by
  unfold tAnd
  rw [Rs.Wp_bind]
  congr; funext x h; cases x <;> simp
theorem x_or : (tOr t u e h).Wp B = (t e h).Wp fun c h => (c = true → B true h) ∧ (c = false → (u e h).Wp B) := by
  unfold tOr
  rw [Rs.Wp_bind]
  congr; funext x h; cases x <;> simp
theorem x_yes : (tYes e h).Wp B = B true h := rfl
/-! targets -/
theorem x_nm {i : Nat} {w : W} {Q : Env → IH → Prop} : (gNm i w e h).Wp Q = Q (e.set i (some w)) h := rfl
theorem x_sb {o i : EE} {w : W} {Q : Env → IH → Prop} : (gSb o i w e h).Wp Q = (o e h).Wp fun x h => (i e h).Wp fun y h => (oSet x y w h).Wp fun _ h => Q e h := by
  unfold gSb
  rw [Rs.Wp_bind]
  congr; funext x h; rw [Rs.Wp_bind]
  congr; funext y h; rw [Rs.Wp_bind]; rfl
/-! ints -/
variable {i j : Int}
theorem x_add : (oAdd (.int i) (.int j) h).Wp P = P (.int (i + j)) h := rfl
theorem x_sub : (oSub (.int i) (.int j) h).Wp P = P (.int (i - j)) h := rfl
theorem x_mul : (oMul (.int i) (.int j) h).Wp P = ((inPow64 i || inPow64 j) = true ∧ P (.int (i * j)) h) := need_wp
theorem x_mod : (oMod (.int i) (.int j) h).Wp P = (0 < j ∧ P (.int (i % j)) h) := by
  show (Rs.need _ _).Wp P = _
  rw [need_wp, decide_eq_true_eq]; rfl
theorem x_div : (oDiv (.int i) (.int j) h).Wp P = ((0 < j ∧ j < 1073741824) ∧ P (.int (i / j)) h) := by
  show (Rs.need _ _).Wp P = _
  rw [need_wp, Bool.and_eq_true, decide_eq_true_eq, decide_eq_true_eq]; rfl
theorem x_pow : (oPow (.int i) (.int j) h).Wp P = (((0 ≤ j ∧ j ≤ 1000000) ∧ inPow64 i = true) ∧ P (.int (i ^ j.toNat)) h) := by
  show (Rs.need _ _).Wp P = _
  rw [need_wp, Bool.and_eq_true, Bool.and_eq_true, decide_eq_true_eq, decide_eq_true_eq]; rfl
theorem x_lt : (oLt (.int i) (.int j) h).Wp P = P (.bl (decide (i < j))) h := rfl
theorem x_le : (oLe (.int i) (.int j) h).Wp P = P (.bl (decide (i ≤ j))) h := rfl
theorem x_gt : (oGt (.int i) (.int j) h).Wp P = P (.bl (decide (j < i))) h := rfl
theorem x_ge : (oGe (.int i) (.int j) h).Wp P = P (.bl (decide (j ≤ i))) h := rfl
theorem x_eqI : (oEq (.int i) (.int j) h).Wp P = P (.bl (decide (i = j))) h := rfl
theorem x_neI : (oNe (.int i) (.int j) h).Wp P = P (.bl (!decide (i = j))) h := rfl
theorem atI_ok_ {ws : List W} {w : W} (h0 : 0 ≤ i) (hw : ws[i.toNat]? = some w) : L2.atI ws i = some w := by
  have hl : i.toNat < ws.length := (List.getElem?_eq_some_iff.mp hw).1
  unfold L2.atI L2.ixN
  rw [if_pos h0, if_pos (by omega)]
  exact hw
theorem x_ix {a : Nat} {ws : List W} {w : W} (g : h.get a = some (.lst ws)) (h0 : 0 ≤ i) (hw : ws[i.toNat]? = some w) : (oIx (.loc a) (.int i) h).Wp P = P w h := by
  unfold oIx; dsimp only; rw [g]; dsimp only; rw [atI_ok_ h0 hw]; rfl
theorem x_ixT {ws : List W} {w : W} (h0 : 0 ≤ i) (hw : ws[i.toNat]? = some w) : (oIx (.tup ws) (.int i) h).Wp P = P w h := by
  unfold oIx; dsimp only; rw [atI_ok_ h0 hw]; rfl
theorem x_lenL {a : Nat} {ws : List W} (g : h.get a = some (.lst ws)) : (k1 oLen [.loc a] h).Wp P = P (.int ws.length) h := by
  unfold k1 oLen; dsimp only; rw [g]; rfl
theorem x_lenT {ws : List W} : (k1 oLen [.tup ws] h).Wp P = P (.int ws.length) h := rfl
theorem x_catL {a b : Nat} {xs ys : List W} (g1 : h.get a = some (.lst xs)) (g2 : h.get b = some (.lst ys)) : (oAdd (.loc a) (.loc b) h).Wp P = (lenOk (xs.length + ys.length) = true ∧ P (.loc h.n) (h.new (.lst (xs ++ ys)))) := by
  unfold oAdd; dsimp only; rw [g1]; dsimp only; rw [g2]; dsimp only; rw [need_wp]; rfl
theorem x_set {a : Nat} {ws : List W} {w : W} (g : h.get a = some (.lst ws)) (h0 : 0 ≤ i) (h1 : i < ws.length) {Q : Unit → IH → Prop} : (oSet (.loc a) (.int i) w h).Wp Q = Q () (h.set a (.lst (ws.set i.toNat w))) := by
  unfold oSet; dsimp only; rw [g]; dsimp only
  unfold L2.ixN
  rw [if_pos h0, if_pos h1]; rfl
/-- a def's call -/
theorem x_callB {n m : Nat} {ws : List W} (hl : ws.length = n) : (callB a n m ws h).Wp P = (a (ws.map some ++ List.replicate (m - ws.length) none) h).Wp ⟨fun _ h => P .non h, P, fun _ _ => False, fun _ _ => False⟩ := by
  unfold callB
  rw [hl, Nat.beq_refl]
  show (runBody m a ws h).Wp P = _
  unfold runBody
  rw [hl]
  cases a (ws.map some ++ List.replicate (m - n) none) h <;> rfl
theorem v0 {w : W} {e : Env} : (eVar 0 (some w :: e) h).Wp P = P w h := rfl
theorem n0 {y : Option W} {w : W} {e : Env} {Q : Env → IH → Prop} : (gNm 0 w (y :: e) h).Wp Q = Q (some w :: e) h := rfl
theorem v1 {x0 : Option W} {w : W} {e : Env} : (eVar 1 (x0 :: some w :: e) h).Wp P = P w h := rfl
theorem n1 {x0 : Option W} {y : Option W} {w : W} {e : Env} {Q : Env → IH → Prop} : (gNm 1 w (x0 :: y :: e) h).Wp Q = Q (x0 :: some w :: e) h := rfl
theorem v2 {x0 x1 : Option W} {w : W} {e : Env} : (eVar 2 (x0 :: x1 :: some w :: e) h).Wp P = P w h := rfl
theorem n2 {x0 x1 : Option W} {y : Option W} {w : W} {e : Env} {Q : Env → IH → Prop} : (gNm 2 w (x0 :: x1 :: y :: e) h).Wp Q = Q (x0 :: x1 :: some w :: e) h := rfl
theorem v3 {x0 x1 x2 : Option W} {w : W} {e : Env} : (eVar 3 (x0 :: x1 :: x2 :: some w :: e) h).Wp P = P w h := rfl
theorem n3 {x0 x1 x2 : Option W} {y : Option W} {w : W} {e : Env} {Q : Env → IH → Prop} : (gNm 3 w (x0 :: x1 :: x2 :: y :: e) h).Wp Q = Q (x0 :: x1 :: x2 :: some w :: e) h := rfl
theorem v4 {x0 x1 x2 x3 : Option W} {w : W} {e : Env} : (eVar 4 (x0 :: x1 :: x2 :: x3 :: some w :: e) h).Wp P = P w h := rfl
theorem n4 {x0 x1 x2 x3 : Option W} {y : Option W} {w : W} {e : Env} {Q : Env → IH → Prop} : (gNm 4 w (x0 :: x1 :: x2 :: x3 :: y :: e) h).Wp Q = Q (x0 :: x1 :: x2 :: x3 :: some w :: e) h := rfl
theorem v5 {x0 x1 x2 x3 x4 : Option W} {w : W} {e : Env} : (eVar 5 (x0 :: x1 :: x2 :: x3 :: x4 :: some w :: e) h).Wp P = P w h := rfl
theorem n5 {x0 x1 x2 x3 x4 : Option W} {y : Option W} {w : W} {e : Env} {Q : Env → IH → Prop} : (gNm 5 w (x0 :: x1 :: x2 :: x3 :: x4 :: y :: e) h).Wp Q = Q (x0 :: x1 :: x2 :: x3 :: x4 :: some w :: e) h := rfl
theorem v6 {x0 x1 x2 x3 x4 x5 : Option W} {w : W} {e : Env} : (eVar 6 (x0 :: x1 :: x2 :: x3 :: x4 :: x5 :: some w :: e) h).Wp P = P w h := rfl
theorem n6 {x0 x1 x2 x3 x4 x5 : Option W} {y : Option W} {w : W} {e : Env} {Q : Env → IH → Prop} : (gNm 6 w (x0 :: x1 :: x2 :: x3 :: x4 :: x5 :: y :: e) h).Wp Q = Q (x0 :: x1 :: x2 :: x3 :: x4 :: x5 :: some w :: e) h := rfl
theorem v7 {x0 x1 x2 x3 x4 x5 x6 : Option W} {w : W} {e : Env} : (eVar 7 (x0 :: x1 :: x2 :: x3 :: x4 :: x5 :: x6 :: some w :: e) h).Wp P = P w h := rfl
theorem n7 {x0 x1 x2 x3 x4 x5 x6 : Option W} {y : Option W} {w : W} {e : Env} {Q : Env → IH → Prop} : (gNm 7 w (x0 :: x1 :: x2 :: x3 :: x4 :: x5 :: x6 :: y :: e) h).Wp Q = Q (x0 :: x1 :: x2 :: x3 :: x4 :: x5 :: x6 :: some w :: e) h := rfl
theorem v8 {x0 x1 x2 x3 x4 x5 x6 x7 : Option W} {w : W} {e : Env} : (eVar 8 (x0 :: x1 :: x2 :: x3 :: x4 :: x5 :: x6 :: x7 :: some w :: e) h).Wp P = P w h := rfl
theorem n8 {x0 x1 x2 x3 x4 x5 x6 x7 : Option W} {y : Option W} {w : W} {e : Env} {Q : Env → IH → Prop} : (gNm 8 w (x0 :: x1 :: x2 :: x3 :: x4 :: x5 :: x6 :: x7 :: y :: e) h).Wp Q = Q (x0 :: x1 :: x2 :: x3 :: x4 :: x5 :: x6 :: x7 :: some w :: e) h := rfl
theorem v9 {x0 x1 x2 x3 x4 x5 x6 x7 x8 : Option W} {w : W} {e : Env} : (eVar 9 (x0 :: x1 :: x2 :: x3 :: x4 :: x5 :: x6 :: x7 :: x8 :: some w :: e) h).Wp P = P w h := rfl
theorem n9 {x0 x1 x2 x3 x4 x5 x6 x7 x8 : Option W} {y : Option W} {w : W} {e : Env} {Q : Env → IH → Prop} : (gNm 9 w (x0 :: x1 :: x2 :: x3 :: x4 :: x5 :: x6 :: x7 :: x8 :: y :: e) h).Wp Q = Q (x0 :: x1 :: x2 :: x3 :: x4 :: x5 :: x6 :: x7 :: x8 :: some w :: e) h := rfl
theorem v10 {x0 x1 x2 x3 x4 x5 x6 x7 x8 x9 : Option W} {w : W} {e : Env} : (eVar 10 (x0 :: x1 :: x2 :: x3 :: x4 :: x5 :: x6 :: x7 :: x8 :: x9 :: some w :: e) h).Wp P = P w h := rfl
theorem n10 {x0 x1 x2 x3 x4 x5 x6 x7 x8 x9 : Option W} {y : Option W} {w : W} {e : Env} {Q : Env → IH → Prop} : (gNm 10 w (x0 :: x1 :: x2 :: x3 :: x4 :: x5 :: x6 :: x7 :: x8 :: x9 :: y :: e) h).Wp Q = Q (x0 :: x1 :: x2 :: x3 :: x4 :: x5 :: x6 :: x7 :: x8 :: x9 :: some w :: e) h := rfl
theorem v11 {x0 x1 x2 x3 x4 x5 x6 x7 x8 x9 x10 : Option W} {w : W} {e : Env} : (eVar 11 (x0 :: x1 :: x2 :: x3 :: x4 :: x5 :: x6 :: x7 :: x8 :: x9 :: x10 :: some w :: e) h).Wp P = P w h := rfl
theorem n11 {x0 x1 x2 x3 x4 x5 x6 x7 x8 x9 x10 : Option W} {y : Option W} {w : W} {e : Env} {Q : Env → IH → Prop} : (gNm 11 w (x0 :: x1 :: x2 :: x3 :: x4 :: x5 :: x6 :: x7 :: x8 :: x9 :: x10 :: y :: e) h).Wp Q = Q (x0 :: x1 :: x2 :: x3 :: x4 :: x5 :: x6 :: x7 :: x8 :: x9 :: x10 :: some w :: e) h := rfl
theorem v12 {x0 x1 x2 x3 x4 x5 x6 x7 x8 x9 x10 x11 : Option W} {w : W} {e : Env} : (eVar 12 (x0 :: x1 :: x2 :: x3 :: x4 :: x5 :: x6 :: x7 :: x8 :: x9 :: x10 :: x11 :: some w :: e) h).Wp P = P w h := rfl
theorem n12 {x0 x1 x2 x3 x4 x5 x6 x7 x8 x9 x10 x11 : Option W} {y : Option W} {w : W} {e : Env} {Q : Env → IH → Prop} : (gNm 12 w (x0 :: x1 :: x2 :: x3 :: x4 :: x5 :: x6 :: x7 :: x8 :: x9 :: x10 :: x11 :: y :: e) h).Wp Q = Q (x0 :: x1 :: x2 :: x3 :: x4 :: x5 :: x6 :: x7 :: x8 :: x9 :: x10 :: x11 :: some w :: e) h := rfl
theorem v13 {x0 x1 x2 x3 x4 x5 x6 x7 x8 x9 x10 x11 x12 : Option W} {w : W} {e : Env} : (eVar 13 (x0 :: x1 :: x2 :: x3 :: x4 :: x5 :: x6 :: x7 :: x8 :: x9 :: x10 :: x11 :: x12 :: some w :: e) h).Wp P = P w h := rfl
theorem n13 {x0 x1 x2 x3 x4 x5 x6 x7 x8 x9 x10 x11 x12 : Option W} {y : Option W} {w : W} {e : Env} {Q : Env → IH → Prop} : (gNm 13 w (x0 :: x1 :: x2 :: x3 :: x4 :: x5 :: x6 :: x7 :: x8 :: x9 :: x10 :: x11 :: x12 :: y :: e) h).Wp Q = Q (x0 :: x1 :: x2 :: x3 :: x4 :: x5 :: x6 :: x7 :: x8 :: x9 :: x10 :: x11 :: x12 :: some w :: e) h := rfl
theorem v14 {x0 x1 x2 x3 x4 x5 x6 x7 x8 x9 x10 x11 x12 x13 : Option W} {w : W} {e : Env} : (eVar 14 (x0 :: x1 :: x2 :: x3 :: x4 :: x5 :: x6 :: x7 :: x8 :: x9 :: x10 :: x11 :: x12 :: x13 :: some w :: e) h).Wp P = P w h := rfl
theorem n14 {x0 x1 x2 x3 x4 x5 x6 x7 x8 x9 x10 x11 x12 x13 : Option W} {y : Option W} {w : W} {e : Env} {Q : Env → IH → Prop} : (gNm 14 w (x0 :: x1 :: x2 :: x3 :: x4 :: x5 :: x6 :: x7 :: x8 :: x9 :: x10 :: x11 :: x12 :: x13 :: y :: e) h).Wp Q = Q (x0 :: x1 :: x2 :: x3 :: x4 :: x5 :: x6 :: x7 :: x8 :: x9 :: x10 :: x11 :: x12 :: x13 :: some w :: e) h := rfl
theorem v15 {x0 x1 x2 x3 x4 x5 x6 x7 x8 x9 x10 x11 x12 x13 x14 : Option W} {w : W} {e : Env} : (eVar 15 (x0 :: x1 :: x2 :: x3 :: x4 :: x5 :: x6 :: x7 :: x8 :: x9 :: x10 :: x11 :: x12 :: x13 :: x14 :: some w :: e) h).Wp P = P w h := rfl
theorem n15 {x0 x1 x2 x3 x4 x5 x6 x7 x8 x9 x10 x11 x12 x13 x14 : Option W} {y : Option W} {w : W} {e : Env} {Q : Env → IH → Prop} : (gNm 15 w (x0 :: x1 :: x2 :: x3 :: x4 :: x5 :: x6 :: x7 :: x8 :: x9 :: x10 :: x11 :: x12 :: x13 :: x14 :: y :: e) h).Wp Q = Q (x0 :: x1 :: x2 :: x3 :: x4 :: x5 :: x6 :: x7 :: x8 :: x9 :: x10 :: x11 :: x12 :: x13 :: x14 :: some w :: e) h := rfl
theorem v16 {x0 x1 x2 x3 x4 x5 x6 x7 x8 x9 x10 x11 x12 x13 x14 x15 : Option W} {w : W} {e : Env} : (eVar 16 (x0 :: x1 :: x2 :: x3 :: x4 :: x5 :: x6 :: x7 :: x8 :: x9 :: x10 :: x11 :: x12 :: x13 :: x14 :: x15 :: some w :: e) h).Wp P = P w h := rfl
theorem n16 {x0 x1 x2 x3 x4 x5 x6 x7 x8 x9 x10 x11 x12 x13 x14 x15 : Option W} {y : Option W} {w : W} {e : Env} {Q : Env → IH → Prop} : (gNm 16 w (x0 :: x1 :: x2 :: x3 :: x4 :: x5 :: x6 :: x7 :: x8 :: x9 :: x10 :: x11 :: x12 :: x13 :: x14 :: x15 :: y :: e) h).Wp Q = Q (x0 :: x1 :: x2 :: x3 :: x4 :: x5 :: x6 :: x7 :: x8 :: x9 :: x10 :: x11 :: x12 :: x13 :: x14 :: x15 :: some w :: e) h := rfl
theorem v17 {x0 x1 x2 x3 x4 x5 x6 x7 x8 x9 x10 x11 x12 x13 x14 x15 x16 : Option W} {w : W} {e : Env} : (eVar 17 (x0 :: x1 :: x2 :: x3 :: x4 :: x5 :: x6 :: x7 :: x8 :: x9 :: x10 :: x11 :: x12 :: x13 :: x14 :: x15 :: x16 :: some w :: e) h).Wp P = P w h := rfl
theorem n17 {x0 x1 x2 x3 x4 x5 x6 x7 x8 x9 x10 x11 x12 x13 x14 x15 x16 : Option W} {y : Option W} {w : W} {e : Env} {Q : Env → IH → Prop} : (gNm 17 w (x0 :: x1 :: x2 :: x3 :: x4 :: x5 :: x6 :: x7 :: x8 :: x9 :: x10 :: x11 :: x12 :: x13 :: x14 :: x15 :: x16 :: y :: e) h).Wp Q = Q (x0 :: x1 :: x2 :: x3 :: x4 :: x5 :: x6 :: x7 :: x8 :: x9 :: x10 :: x11 :: x12 :: x13 :: x14 :: x15 :: x16 :: some w :: e) h := rfl
theorem v18 {x0 x1 x2 x3 x4 x5 x6 x7 x8 x9 x10 x11 x12 x13 x14 x15 x16 x17 : Option W} {w : W} {e : Env} : (eVar 18 (x0 :: x1 :: x2 :: x3 :: x4 :: x5 :: x6 :: x7 :: x8 :: x9 :: x10 :: x11 :: x12 :: x13 :: x14 :: x15 :: x16 :: x17 :: some w :: e) h).Wp P = P w h := rfl
theorem n18 {x0 x1 x2 x3 x4 x5 x6 x7 x8 x9 x10 x11 x12 x13 x14 x15 x16 x17 : Option W} {y : Option W} {w : W} {e : Env} {Q : Env → IH → Prop} : (gNm 18 w (x0 :: x1 :: x2 :: x3 :: x4 :: x5 :: x6 :: x7 :: x8 :: x9 :: x10 :: x11 :: x12 :: x13 :: x14 :: x15 :: x16 :: x17 :: y :: e) h).Wp Q = Q (x0 :: x1 :: x2 :: x3 :: x4 :: x5 :: x6 :: x7 :: x8 :: x9 :: x10 :: x11 :: x12 :: x13 :: x14 :: x15 :: x16 :: x17 :: some w :: e) h := rfl
end
end Fw

set_option Elab.async false
set_option linter.all false
set_option maxRecDepth 100000
/-! Fw, part Y: plain data (no bools in it): what compares, what is shown. -/
namespace Fw
open PySem
mutual
def pur : W → Bool
  | .non => true
  | .int _ => true
  | .str s => PyData.strOk s
  | .tup ws => purs ws
  | .bl _ => false
  | .loc _ => false
  | .ro _ => false
def purs : List W → Bool
  | [] => true
  | w :: ws => pur w && purs ws
end
mutual
def pd : W → PyData
  | .int i => .int i
  | .str s => .str s
  | .tup ws => .tuple (pds ws)
  | .non => .none
  | .bl b => .bool b
  | .loc _ => .none
  | .ro _ => .none
def pds : List W → List PyData
  | [] => []
  | w :: ws => pd w :: pds ws
end
mutual
theorem toD_pur {h : IH} : ∀ (f : Nat) (w : W), pur w = true → (pd w).depth < f → toD f h w = some (pd w)
  | 0, _, _, hf => by omega
  | f + 1, .non, _, _ => rfl
  | f + 1, .int _, _, _ => rfl
  | f + 1, .str _, _, _ => rfl
  | f + 1, .tup ws, hp, hf => by
    have hd : PyData.depthAll (pds ws) < f := by
      have : (pd (.tup ws)).depth = PyData.depthAll (pds ws) + 1 := rfl
      omega
    have z := toDs_pur (h := h) f ws hp hd
    show (match mapO (toD f h) ws with
      | some ds => some (PyData.tuple ds)
      | none => none) = _
    rw [z]; rfl
  | f + 1, .bl _, hp, _ => by cases hp
  | f + 1, .loc _, hp, _ => by cases hp
  | f + 1, .ro _, hp, _ => by cases hp
theorem toDs_pur {h : IH} : ∀ (f : Nat) (ws : List W), purs ws = true → PyData.depthAll (pds ws) < f → mapO (toD f h) ws = some (pds ws)
  | f, [], _, _ => rfl
  | f, w :: ws, hp, hf => by
    obtain ⟨h1, h2⟩ := Bool.and_eq_true_iff.mp (show (pur w && purs ws) = true from hp)
    have hm : PyData.depthAll (pds (w :: ws)) = max (pd w).depth (PyData.depthAll (pds ws)) := rfl
    have z1 := toD_pur (h := h) f w h1 (by omega)
    have z2 := toDs_pur (h := h) f ws h2 (by omega)
    rw [mapO_cons, z1, z2]; rfl
end
mutual
theorem lay_pur : ∀ w : W, pur w = true → (pd w).canLay0 = true
  | .non, _ => rfl
  | .int _, _ => rfl
  | .str _, h => h
  | .tup ws, h => lays_pur ws h
  | .bl _, h => by cases h
  | .loc _, h => by cases h
  | .ro _, h => by cases h
theorem lays_pur : ∀ ws : List W, purs ws = true → PyData.canLayAll0 (pds ws) = true
  | [], _ => rfl
  | w :: ws, h => by
    obtain ⟨h1, h2⟩ := Bool.and_eq_true_iff.mp (show (pur w && purs ws) = true from h)
    show ((pd w).canLay0 && PyData.canLayAll0 (pds ws)) = true
    rw [lay_pur w h1, lays_pur ws h2]; rfl
end
mutual
theorem eqv_pur : ∀ a b : W, pur a = true → pur b = true → ((PyData.eqv (pd a) (pd b) = true) ↔ a = b)
  | .non, b, _, hb => by
    cases b with
    | bl _ => cases hb
    | loc _ => cases hb
    | ro _ => cases hb
    | _ => simp [pd, PyData.eqv]
  | .int i, b, _, hb => by
    cases b with
    | bl _ => cases hb
    | loc _ => cases hb
    | ro _ => cases hb
    | _ => simp [pd, PyData.eqv]
  | .str i, b, _, hb => by
    cases b with
    | bl _ => cases hb
    | loc _ => cases hb
    | ro _ => cases hb
    | _ => simp [pd, PyData.eqv]
  | .tup ws, b, ha, hb => by
    cases b with
    | tup us =>
      have z := eqvs_pur ws us ha hb
      constructor
      · intro e; rw [z.mp e]
      · intro e; cases e; exact z.mpr rfl
    | bl _ => cases hb
    | loc _ => cases hb
    | ro _ => cases hb
    | _ => simp [pd, PyData.eqv]
  | .bl _, _, h, _ => by cases h
  | .loc _, _, h, _ => by cases h
  | .ro _, _, h, _ => by cases h
theorem eqvs_pur : ∀ a b : List W, purs a = true → purs b = true → ((PyData.eqvAll (pds a) (pds b) = true) ↔ a = b)
  | [], [], _, _ => by simp [pds, PyData.eqvAll]
  | [], _ :: _, _, _ => by simp [pds, PyData.eqvAll]
  | _ :: _, [], _, _ => by simp [pds, PyData.eqvAll]
  | x :: xs, y :: ys, ha, hb => by
    obtain ⟨h1, h2⟩ := Bool.and_eq_true_iff.mp (show (pur x && purs xs) = true from ha)
    obtain ⟨h3, h4⟩ := Bool.and_eq_true_iff.mp (show (pur y && purs ys) = true from hb)
    have z1 := eqv_pur x y h1 h3
    have z2 := eqvs_pur xs ys h2 h4
    show ((PyData.eqv (pd x) (pd y) && PyData.eqvAll (pds xs) (pds ys)) = true) ↔ _
    rw [Bool.and_eq_true, z1, z2, List.cons.injEq]
end
section
variable {h : IH} {P : W → IH → Prop}
theorem dat_pur {w : W} (hp : pur w = true) (hd : (pd w).depth ≤ 60) : dat h w = some (pd w) := toD_pur 65 w hp (by omega)
theorem dat_lst {q : Nat} {ws : List W} (g : h.get q = some (.lst ws)) (hp : purs ws = true) (hd : PyData.depthAll (pds ws) ≤ 60) : dat h (.loc q) = some (.list (pds ws)) := by
  have z := toDs_pur (h := h) 64 ws hp (by omega)
  show (match listAt h q with
    | some ws => (match mapO (toD 64 h) ws with
      | some ds => some (PyData.list ds)
      | none => none)
    | none => none) = _
  have l : listAt h q = some ws := by unfold listAt; rw [g]
  rw [l]; dsimp only; rw [z]
theorem shaped_pur {w : W} (hp : pur w = true) (hd : (pd w).depth ≤ 60) : SeqAt.shaped (pd w) = true := by
  unfold SeqAt.shaped
  rw [lay_pur w hp, Bool.true_and]
  exact decide_eq_true (by omega)
theorem shaped_lst {ws : List W} (hp : purs ws = true) (hd : PyData.depthAll (pds ws) ≤ 60) : SeqAt.shaped (.list (pds ws)) = true := by
  unfold SeqAt.shaped
  have e1 : (PyData.list (pds ws)).canLay0 = PyData.canLayAll0 (pds ws) := rfl
  have e2 : (PyData.list (pds ws)).depth = PyData.depthAll (pds ws) + 1 := rfl
  rw [e1, e2, lays_pur ws hp, Bool.true_and]
  exact decide_eq_true (by omega)
theorem eqW_dat {a b : W} {d e : PyData} (hs : scalW a b = none) (ha : dat h a = some d) (hb : dat h b = some e) (sa : SeqAt.shaped d = true) (sb : SeqAt.shaped e = true) : eqW a b h = some (PyData.eqv d e) := by
  unfold eqW
  rw [hs]; dsimp only; rw [ha]; dsimp only; rw [hb]; dsimp only; rw [sa, sb]; rfl
theorem scal_pur {a b : W} {c : Bool} (h : scalW a b = some c) (ha : pur a = true) (hb : pur b = true) : c = true ↔ a = b := by
  cases a <;> cases b <;> simp only [scalW] at h <;> first | (cases h; done) | (cases ha; done) | (cases hb; done) | (cases h; simp)
theorem eqW_pur {a b : W} (ha : pur a = true) (hb : pur b = true) (da : (pd a).depth ≤ 60) (db : (pd b).depth ≤ 60) : ∃ c, eqW a b h = some c ∧ (c = true ↔ a = b) := by
  cases hs : scalW a b with
  | some c => exact ⟨c, by unfold eqW; rw [hs], scal_pur hs ha hb⟩
  | none => exact ⟨_, eqW_dat hs (dat_pur ha da) (dat_pur hb db) (shaped_pur ha da) (shaped_pur hb db), eqv_pur a b ha hb⟩
theorem eqW_lst {q r : Nat} {ws us : List W} (g : h.get q = some (.lst ws)) (g' : h.get r = some (.lst us)) (ha : purs ws = true) (hb : purs us = true) (da : PyData.depthAll (pds ws) ≤ 60) (db : PyData.depthAll (pds us) ≤ 60) : ∃ c, eqW (.loc q) (.loc r) h = some c ∧ (c = true ↔ ws = us) :=
  ⟨_, eqW_dat rfl (dat_lst g ha da) (dat_lst g' hb db) (shaped_lst ha da) (shaped_lst hb db), eqvs_pur ws us ha hb⟩
theorem tupE_iff {a b : W} {c : Bool} (e : tupE a b = some c) : c = true ↔ a = b := by
  unfold tupE at e
  split at e
  · rename_i ws
    cases e
    cases ws <;> simp
  · cases e
theorem w_eq {a b : W} (q : ∃ c, eqW a b h = some c ∧ (c = true ↔ a = b)) (k : ∀ c, (c = true ↔ a = b) → P (.bl c) h) : (oEq a b h).Wp P := by
  obtain ⟨c, e, z⟩ := q
  unfold oEq
  cases t : tupE a b with
  | some d => exact k d (tupE_iff t)
  | none => rw [e]; exact k c z
theorem w_eqL {a b : W} {p : Prop} (q : ∃ c, eqW a b h = some c ∧ (c = true ↔ p)) (k : ∀ c, (c = true ↔ p) → P (.bl c) h) (t : tupE a b = none := by rfl) : (oEq a b h).Wp P := by
  obtain ⟨c, e, z⟩ := q
  unfold oEq
  rw [t]
  dsimp only
  rw [e]
  exact k c z
/-- x == () -/
theorem x_eq0 {ws : List W} : (oEq (.tup ws) (.tup []) h).Wp P = P (.bl ws.isEmpty) h := rfl
theorem w_neL {a b : W} {p : Prop} (q : ∃ c, eqW a b h = some c ∧ (c = true ↔ p)) (k : ∀ c, (c = true ↔ p) → P (.bl !c) h) : (oNe a b h).Wp P := by
  obtain ⟨c, e, z⟩ := q
  unfold oNe
  rw [e]
  exact k c z
end
end Fw

set_option Elab.async false
set_option linter.all false
set_option maxRecDepth 100000
/-! Fw, part Z: walks, told by what stays true. -/
namespace Fw
open PySem
section
variable {e : Fw.Env} {h : IH} {P : W → IH → Prop} {N : Fw.Env → IH → Prop} {R : W → IH → Prop} {B C : Fw.Env → IH → Prop} {f x : EE} {t : ET} {b : SS} {g : EG} {vs : List Nat}
theorem small_nat {n : Nat} (hn : n < 1000000) : small (n : Int) = true := by
  unfold small
  simp only [Bool.and_eq_true, decide_eq_true_eq]
  omega
theorem rng_nth {n i : Nat} {lo : Int} {h : IH} (hi : i < n) : (IT.rng lo n).nth h i = some (.int (lo + i)) := by
  show (match Nat.blt i n with
    | true => some (W.int (lo + i))
    | false => none) = _
  rw [blt_of hi]
theorem rng_fin {n : Nat} {lo : Int} {h : IH} : (IT.rng lo n).fin h n = true := Nat.ble_eq_true_of_le (Nat.le_refl n)
/-- for i in range(n) -/
theorem for_rng (w : (x e h).Wp fun v h1 => ∃ n : Nat, v = .int n ∧ n < 1000000 ∧ ∃ I : Nat → Fw.Env → IH → Prop, I 0 e h1 ∧
    (∀ i e h2, i < n → I i e h2 → (g (.int i) e h2).Wp fun e h3 => (b e h3).Wp ⟨I (i + 1), R, N, I (i + 1)⟩) ∧ ∀ e h2, I n e h2 → N e h2) : (sFor (iA kRng1 (aCons x aNil)) g b e h).Wp ⟨N, R, B, C⟩ := by
  refine W_for (Rs.Wp.bind ?_)
  rw [x_cons]
  refine w.mono fun v h1 ⟨n, ev, hn, I, i0, st, fn⟩ => ?_
  subst ev
  show (Rs.need _ _).Wp _
  rw [need_wp]
  refine ⟨small_nat hn, I, i0, fun i e h2 hI hi => ⟨_, rng_nth hi, ?_⟩, fun e h2 hI => ⟨rng_fin, fn e h2 hI⟩⟩
  rw [Int.zero_add]
  exact st i e h2 hi hI
/-- [f for i in range(n)] -/
theorem lc_rng (w : (x e h).Wp fun v h1 => ∃ n : Nat, v = .int n ∧ n < 1000000 ∧ ∃ I : Nat → List W → IH → Prop, I 0 [] h1 ∧
    (∀ i xs h2, i < n → I i xs h2 → (g (.int i) (wipeW e vs) h2).Wp fun e h3 => (f e h3).Wp fun y h4 => I (i + 1) (xs ++ [y]) h4) ∧ ∀ xs h2, I n xs h2 → xs.length ≤ 16777216 ∧ P (.loc h2.n) (h2.new (.lst xs))) : (eLc (iA kRng1 (aCons x aNil)) g tYes f vs e h).Wp P := by
  refine W_lc (Rs.Wp.bind ?_)
  rw [x_cons]
  refine w.mono fun v h1 ⟨n, ev, hn, I, i0, st, fn⟩ => ?_
  subst ev
  show (Rs.need _ _).Wp _
  rw [need_wp]
  refine ⟨small_nat hn, I, i0, fun i xs h2 hI hi => ⟨_, rng_nth hi, ?_⟩, fun xs h2 hI => ⟨rng_fin, fn xs h2 hI⟩⟩
  rw [Int.zero_add]
  refine (st i xs h2 hi hI).mono fun e h3 z => ?_
  rw [x_yes, if_pos rfl]
  exact z
theorem list_at {a : Nat} {ws : List W} (g : h.get a = some (.lst ws)) : listAt h a = some ws := by unfold listAt; rw [g]
/-- for x in xs, a list that stays -/
theorem for_lst (w : (x e h).Wp fun v h1 => ∃ (a : Nat) (ws : List W), v = .loc a ∧ h1.get a = some (.lst ws) ∧ ∃ I : Nat → Fw.Env → IH → Prop, I 0 e h1 ∧
    (∀ i e h2 y, I i e h2 → ws[i]? = some y → h2.get a = some (.lst ws) ∧ (g y e h2).Wp fun e h3 => (b e h3).Wp ⟨I (i + 1), R, N, I (i + 1)⟩) ∧ ∀ e h2, I ws.length e h2 → h2.get a = some (.lst ws) ∧ N e h2) : (sFor (iAny x) g b e h).Wp ⟨N, R, B, C⟩ := by
  obtain ⟨v, h1, q, a, ws, ev, ga, I, i0, st, fn⟩ := w.ex
  subst ev
  refine W_for ?_
  have z : iAny x e h = .ok (.lst a) h1 := by
    unfold iAny iVal; rw [q]; dsimp only; rw [ga, Rs.bind_ok]; dsimp only; rw [list_at ga]
  rw [z]
  have cn : (IT.lst a).cnt h1 = ws.length := by show ((listAt h1 a).getD []).length = _; rw [list_at ga]; rfl
  refine ⟨I, i0, fun i e h2 hI hi => ?_, fun e h2 hI => ?_⟩
  · rw [cn] at hi
    have hy : ws[i]? = some ws[i] := List.getElem?_eq_getElem hi
    obtain ⟨g2, z⟩ := st i e h2 _ hI hy
    exact ⟨_, by show (listAt h2 a).bind _ = _; rw [list_at g2]; exact hy, z⟩
  · rw [cn] at hI ⊢
    obtain ⟨g2, z⟩ := fn e h2 hI
    exact ⟨by show (match listAt h2 a with
      | some ws' => Nat.ble ws'.length ws.length
      | none => false) = true; rw [list_at g2]; exact Nat.ble_eq_true_of_le (Nat.le_refl _), z⟩
/-- for x in a tuple -/
theorem for_tup (w : (x e h).Wp fun v h1 => ∃ ws : List W, v = .tup ws ∧ ∃ I : Nat → Fw.Env → IH → Prop, I 0 e h1 ∧
    (∀ i e h2 y, I i e h2 → ws[i]? = some y → (g y e h2).Wp fun e h3 => (b e h3).Wp ⟨I (i + 1), R, N, I (i + 1)⟩) ∧ ∀ e h2, I ws.length e h2 → N e h2) : (sFor (iAny x) g b e h).Wp ⟨N, R, B, C⟩ := by
  obtain ⟨v, h1, q, ws, ev, I, i0, st, fn⟩ := w.ex
  subst ev
  refine W_for ?_
  have z : iAny x e h = .ok (.tup ws) h1 := by
    unfold iAny iVal; rw [q]; rfl
  rw [z]
  refine ⟨I, i0, fun i e h2 hI hi => ?_, fun e h2 hI => ⟨Nat.ble_eq_true_of_le (Nat.le_refl _), fn e h2 hI⟩⟩
  have hi : i < ws.length := hi
  exact ⟨_, List.getElem?_eq_getElem hi, st i e h2 _ hI (List.getElem?_eq_getElem hi)⟩
/-- for i, x in enumerate(xs), a list that stays -/
theorem for_enuL (w : (x e h).Wp fun v h1 => ∃ (a : Nat) (ws : List W), v = .loc a ∧ h1.get a = some (.lst ws) ∧ ∃ I : Nat → Fw.Env → IH → Prop, I 0 e h1 ∧
    (∀ i e h2 y, I i e h2 → ws[i]? = some y → h2.get a = some (.lst ws) ∧ (g (.tup [.int i, y]) e h2).Wp fun e h3 => (b e h3).Wp ⟨I (i + 1), R, N, I (i + 1)⟩) ∧ ∀ e h2, I ws.length e h2 → h2.get a = some (.lst ws) ∧ N e h2) : (sFor (iA kEnu (aCons x aNil)) g b e h).Wp ⟨N, R, B, C⟩ := by
  refine W_for (Rs.Wp.bind ?_)
  rw [x_cons]
  refine w.mono fun v h1 ⟨a, ws, ev, ga, I, i0, st, fn⟩ => ?_
  subst ev
  rw [x_nil]
  have z : kEnu [.loc a] h1 = .ok (.enu a) h1 := by unfold kEnu; dsimp only; rw [list_at ga]
  rw [z]
  have cn : (IT.enu a).cnt h1 = ws.length := by show ((listAt h1 a).getD []).length = _; rw [list_at ga]; rfl
  refine ⟨I, i0, fun i e h2 hI hi => ?_, fun e h2 hI => ?_⟩
  · rw [cn] at hi
    have hy : ws[i]? = some ws[i] := List.getElem?_eq_getElem hi
    obtain ⟨g2, z⟩ := st i e h2 _ hI hy
    exact ⟨_, by show (listAt h2 a).bind _ = _; rw [list_at g2]; show (ws[i]?).bind _ = _; rw [hy]; rfl, z⟩
  · rw [cn] at hI ⊢
    obtain ⟨g2, z⟩ := fn e h2 hI
    exact ⟨by show (match listAt h2 a with
      | some ws' => Nat.ble ws'.length ws.length
      | none => false) = true; rw [list_at g2]; exact Nat.ble_eq_true_of_le (Nat.le_refl _), z⟩
/-- for i, x in enumerate(a tuple) -/
theorem for_enuT (w : (x e h).Wp fun v h1 => ∃ ws : List W, v = .tup ws ∧ ∃ I : Nat → Fw.Env → IH → Prop, I 0 e h1 ∧
    (∀ i e h2 y, I i e h2 → ws[i]? = some y → (g (.tup [.int i, y]) e h2).Wp fun e h3 => (b e h3).Wp ⟨I (i + 1), R, N, I (i + 1)⟩) ∧ ∀ e h2, I ws.length e h2 → N e h2) : (sFor (iA kEnu (aCons x aNil)) g b e h).Wp ⟨N, R, B, C⟩ := by
  refine W_for (Rs.Wp.bind ?_)
  rw [x_cons]
  refine w.mono fun v h1 ⟨ws, ev, I, i0, st, fn⟩ => ?_
  subst ev
  refine ⟨I, i0, fun i e h2 hI hi => ?_, fun e h2 hI => ⟨Nat.ble_eq_true_of_le (Nat.le_refl _), fn e h2 hI⟩⟩
  have hi : i < ws.length := hi
  have hy : ws[i]? = some ws[i] := List.getElem?_eq_getElem hi
  exact ⟨_, by show (ws[i]?).bind _ = _; rw [hy]; rfl, st i e h2 _ hI hy⟩
end
end Fw

set_option Elab.async false
set_option linter.all false
set_option maxRecDepth 100000
/-! Fw, part Z2: comprehensions, told by what stays true. -/
namespace Fw
open PySem
section
variable {e : Fw.Env} {h : IH} {P : W → IH → Prop} {f x : EE} {t : ET} {g : EG} {vs : List Nat}
/-- [f for y in a tuple if t] -/
theorem lc_tup (w : (x e h).Wp fun v h1 => ∃ ws : List W, v = .tup ws ∧ ∃ I : Nat → List W → IH → Prop, I 0 [] h1 ∧
    (∀ i xs h2 y, I i xs h2 → ws[i]? = some y → (g y (wipeW e vs) h2).Wp fun e h3 => (t e h3).Wp fun c h4 => if c = true then (f e h4).Wp fun y h5 => I (i + 1) (xs ++ [y]) h5 else I (i + 1) xs h4) ∧ ∀ xs h2, I ws.length xs h2 → xs.length ≤ 16777216 ∧ P (.loc h2.n) (h2.new (.lst xs))) : (eLc (iAny x) g t f vs e h).Wp P := by
  obtain ⟨v, h1, q, ws, ev, I, i0, st, fn⟩ := w.ex
  subst ev
  refine W_lc ?_
  have z : iAny x e h = .ok (.tup ws) h1 := by unfold iAny iVal; rw [q]; rfl
  rw [z]
  refine ⟨I, i0, fun i xs h2 hI hi => ?_, fun xs h2 hI => ⟨Nat.ble_eq_true_of_le (Nat.le_refl _), fn xs h2 hI⟩⟩
  have hi : i < ws.length := hi
  exact ⟨_, List.getElem?_eq_getElem hi, st i xs h2 _ hI (List.getElem?_eq_getElem hi)⟩
/-- [f for i, y in enumerate(a tuple) if t] -/
theorem lc_enuT (w : (x e h).Wp fun v h1 => ∃ ws : List W, v = .tup ws ∧ ∃ I : Nat → List W → IH → Prop, I 0 [] h1 ∧
    (∀ i xs h2 y, I i xs h2 → ws[i]? = some y → (g (.tup [.int i, y]) (wipeW e vs) h2).Wp fun e h3 => (t e h3).Wp fun c h4 => if c = true then (f e h4).Wp fun y h5 => I (i + 1) (xs ++ [y]) h5 else I (i + 1) xs h4) ∧ ∀ xs h2, I ws.length xs h2 → xs.length ≤ 16777216 ∧ P (.loc h2.n) (h2.new (.lst xs))) : (eLc (iA kEnu (aCons x aNil)) g t f vs e h).Wp P := by
  refine W_lc (Rs.Wp.bind ?_)
  rw [x_cons]
  refine w.mono fun v h1 ⟨ws, ev, I, i0, st, fn⟩ => ?_
  subst ev
  refine ⟨I, i0, fun i xs h2 hI hi => ?_, fun xs h2 hI => ⟨Nat.ble_eq_true_of_le (Nat.le_refl _), fn xs h2 hI⟩⟩
  have hi : i < ws.length := hi
  have hy : ws[i]? = some ws[i] := List.getElem?_eq_getElem hi
  exact ⟨_, by show (ws[i]?).bind _ = _; rw [hy]; rfl, st i xs h2 _ hI hy⟩
/-- [f for y in a list that stays if t] -/
theorem lc_lst (w : (x e h).Wp fun v h1 => ∃ (a : Nat) (ws : List W), v = .loc a ∧ h1.get a = some (.lst ws) ∧ ∃ I : Nat → List W → IH → Prop, I 0 [] h1 ∧
    (∀ i xs h2 y, I i xs h2 → ws[i]? = some y → h2.get a = some (.lst ws) ∧ (g y (wipeW e vs) h2).Wp fun e h3 => (t e h3).Wp fun c h4 => if c = true then (f e h4).Wp fun y h5 => I (i + 1) (xs ++ [y]) h5 else I (i + 1) xs h4) ∧ ∀ xs h2, I ws.length xs h2 → h2.get a = some (.lst ws) ∧ xs.length ≤ 16777216 ∧ P (.loc h2.n) (h2.new (.lst xs))) : (eLc (iAny x) g t f vs e h).Wp P := by
  obtain ⟨v, h1, q, a, ws, ev, ga, I, i0, st, fn⟩ := w.ex
  subst ev
  refine W_lc ?_
  have z : iAny x e h = .ok (.lst a) h1 := by
    unfold iAny iVal; rw [q]; dsimp only; rw [ga, Rs.bind_ok]; dsimp only; rw [list_at ga]
  rw [z]
  have cn : (IT.lst a).cnt h1 = ws.length := by show ((listAt h1 a).getD []).length = _; rw [list_at ga]; rfl
  refine ⟨I, i0, fun i xs h2 hI hi => ?_, fun xs h2 hI => ?_⟩
  · rw [cn] at hi
    have hy : ws[i]? = some ws[i] := List.getElem?_eq_getElem hi
    obtain ⟨g2, z⟩ := st i xs h2 _ hI hy
    exact ⟨_, by show (listAt h2 a).bind _ = _; rw [list_at g2]; exact hy, z⟩
  · rw [cn] at hI ⊢
    obtain ⟨g2, z⟩ := fn xs h2 hI
    exact ⟨by show (match listAt h2 a with
      | some ws' => Nat.ble ws'.length ws.length
      | none => false) = true; rw [list_at g2]; exact Nat.ble_eq_true_of_le (Nat.le_refl _), z⟩
/-- all over a list of truths that are all true -/
theorem x_allT {a n : Nat} {P : W → IH → Prop} {h : IH} (g : h.get a = some (.lst (List.replicate n (.bl true)))) : (k1 oAll [.loc a] h).Wp P = P (.bl true) h := by
  unfold k1 oAll; dsimp only; rw [list_at g]; dsimp only
  have m : ∀ n, mapO asB (List.replicate n (W.bl true)) = some (List.replicate n true) := by
    intro n
    induction n with
    | zero => rfl
    | succ n ih => rw [List.replicate_succ, List.replicate_succ, mapO_cons, ih]; rfl
  rw [m n]
  have z : (List.replicate n true).all id = true := by simp
  dsimp only
  rw [z]; rfl
end
end Fw

set_option Elab.async false
set_option linter.all false
set_option maxRecDepth 100000
/-! Fw, part Y2: what is shown of plain data. -/
namespace Fw
open PySem
/-- plain, of a depth, of so many parts, its numbers short -/
structure Sm (d n : Nat) (w : W) : Prop where
  p : pur w = true
  s : (pd w).leavesShort 13 = true
  sh : (pd w).showable = true
  b : (pd w).bulk ≤ n
  dp : (pd w).depth ≤ d
structure Sms (d n : Nat) (ws : List W) : Prop where
  p : purs ws = true
  s : PyData.leavesShortAll 13 (pds ws) = true
  sh : PyData.showableAll (pds ws) = true
  b : PyData.bulkAll (pds ws) ≤ n
  dp : PyData.depthAll (pds ws) ≤ d
theorem Sm.mono {d d' n n' : Nat} {w : W} (h : Sm d n w) (hd : d ≤ d') (hn : n ≤ n') : Sm d' n' w := ⟨h.p, h.s, h.sh, Nat.le_trans h.b hn, Nat.le_trans h.dp hd⟩
theorem Sm.non : Sm 0 0 .non := ⟨rfl, rfl, rfl, Nat.le_refl _, Nat.le_refl _⟩
theorem Sm.int {i : Int} (h : i.natAbs < 10 ^ 12) : Sm 0 0 (.int i) :=
  ⟨rfl, by
    show PyData.leavesShort 13 (.int i) = true
    simp only [PyData.leavesShort, decide_eq_true_eq]
    exact PyData.shown_int_le h, by
    show PyData.showable (.int i) = true
    simp only [PyData.showable, decide_eq_true_eq]
    have z : i.natAbs < 2 ^ 40 := Nat.lt_trans h (by decide)
    by_cases q : i.natAbs = 0
    · rw [q]; decide
    · have := (Nat.log2_lt q).mpr z
      omega, Nat.le_refl _, Nat.le_refl _⟩
theorem Sms.of {d n : Nat} : ∀ {ws : List W}, (∀ w ∈ ws, Sm d n w) → Sms d (ws.length * (n + 1)) ws
  | [], _ => ⟨rfl, rfl, rfl, Nat.zero_le _, Nat.zero_le _⟩
  | w :: ws, h => by
    have a := h w List.mem_cons_self
    have b := Sms.of (ws := ws) fun x hx => h x (List.mem_cons_of_mem _ hx)
    have m : (w :: ws).length * (n + 1) = n + 1 + ws.length * (n + 1) := by
      rw [List.length_cons, Nat.succ_mul]; omega
    refine ⟨?_, ?_, ?_, ?_, ?_⟩
    · show (pur w && purs ws) = true
      rw [a.p, b.p]; rfl
    · show PyData.leavesShortAll 13 (pd w :: pds ws) = true
      simp only [PyData.leavesShortAll]
      rw [a.s, b.s]; rfl
    · show PyData.showableAll (pd w :: pds ws) = true
      simp only [PyData.showableAll]
      rw [a.sh, b.sh]; rfl
    · show PyData.bulkAll (pd w :: pds ws) ≤ _
      simp only [PyData.bulkAll]
      have := a.b
      have := b.b
      omega
    · show max (pd w).depth (PyData.depthAll (pds ws)) ≤ d
      have := a.dp
      have := b.dp
      omega
theorem Sms.tup {d n : Nat} {ws : List W} (h : Sms d n ws) : Sm (d + 1) n (.tup ws) :=
  ⟨h.p, by
    show PyData.leavesShort 13 (.tuple (pds ws)) = true
    simp only [PyData.leavesShort]; exact h.s, by
    show PyData.showable (.tuple (pds ws)) = true
    simp only [PyData.showable]; exact h.sh, by
    show PyData.bulk (.tuple (pds ws)) ≤ n
    simp only [PyData.bulk]; exact h.b, by
    have := h.dp
    show PyData.depthAll (pds ws) + 1 ≤ d + 1
    omega⟩
theorem Sm.tup {d n m : Nat} {ws : List W} (h : ∀ w ∈ ws, Sm d n w) (hm : ws.length * (n + 1) ≤ m) : Sm (d + 1) m (.tup ws) := (Sms.of h).tup.mono (Nat.le_refl _) hm
theorem Sm.str {n : Nat} {z : Str} (h1 : PyData.strOk z = true) (h2 : (z.cps.toList.all fun c => decide (c < 16 ^ 8)) = true) (h3 : z.cps.size ≤ n) : Sm 0 n (.str z) :=
  ⟨h1, by
    show PyData.leavesShort 13 (.str z) = true
    simp only [PyData.leavesShort]; exact h2, by
    show PyData.showable (.str z) = true
    simp only [PyData.showable], by
    show PyData.bulk (.str z) ≤ n
    simp only [PyData.bulk]; exact h3, Nat.zero_le _⟩
section
variable {h : IH} {P : W → IH → Prop}
mutual
/-- data without dicts is shown as it is -/
theorem toDE_of : ∀ (f : Nat) (w : W) (d : PyData), toD f h w = some d → toDE f h w = some d
  | 0, _, _, e => by cases e
  | f + 1, .non, d, e => e
  | f + 1, .bl _, d, e => e
  | f + 1, .int _, d, e => e
  | f + 1, .str _, d, e => e
  | f + 1, .ro _, d, e => by cases e
  | f + 1, .tup ws, d, e => by
    have e' : (match mapO (toD f h) ws with
      | some ds => some (PyData.tuple ds)
      | none => none) = some d := e
    show (match mapO (toDE f h) ws with
      | some ds => some (PyData.tuple ds)
      | none => none) = some d
    cases q : mapO (toD f h) ws with
    | none => rw [q] at e'; cases e'
    | some ds => rw [q] at e'; rw [toDEs_of f ws ds q]; exact e'
  | f + 1, .loc n, d, e => by
    have e' : (match listAt h n with
      | some ws => (match mapO (toD f h) ws with
        | some ds => some (PyData.list ds)
        | none => none)
      | none => none) = some d := e
    show (match h.get n with
      | some (.lst ws) => (match mapO (toDE f h) ws with
        | some ds => some (PyData.list ds)
        | none => none)
      | some (.dk []) => some (PyData.dict [])
      | _ => none) = some d
    unfold listAt at e'
    cases g : h.get n with
    | none => rw [g] at e'; cases e'
    | some c =>
      rw [g] at e'
      cases c with
      | lst ws =>
        have e2 : (match mapO (toD f h) ws with
          | some ds => some (PyData.list ds)
          | none => none) = some d := e'
        dsimp only
        cases q : mapO (toD f h) ws with
        | none => rw [q] at e2; cases e2
        | some ds => rw [q] at e2; rw [toDEs_of f ws ds q]; exact e2
      | dk _ => cases e'
      | dz _ => cases e'
      | ins _ _ => cases e'
      | err _ => cases e'
theorem toDEs_of : ∀ (f : Nat) (ws : List W) (ds : List PyData), mapO (toD f h) ws = some ds → mapO (toDE f h) ws = some ds
  | f, [], ds, e => e
  | f, w :: ws, ds, e => by
    rw [mapO_cons] at e ⊢
    cases q : toD f h w with
    | none => rw [q] at e; cases e
    | some b =>
      rw [q] at e
      dsimp only at e
      rw [toDE_of f w b q]
      dsimp only
      cases q2 : mapO (toD f h) ws with
      | none => rw [q2] at e; cases e
      | some s => rw [q2] at e; rw [toDEs_of f ws s q2]; exact e
end
theorem rep_go {w : W} {d : PyData} {n : Nat} (hd : dat h w = some d) (l : d.canLay0 = true) (sh : d.showable = true) (s : d.leavesShort 13 = true) (dp : d.depth ≤ 60) (b : d.bulk ≤ n) (hn : n ≤ 1000000) : (oRepr w h).Wp P = P (.str d.shown) h := by
  unfold oRepr
  have q : datE h w = some d := toDE_of 65 w d hd
  rw [q]; dsimp only
  have z := PyData.shown_le_bulk 13 (by decide) d s
  have e : lenOk d.shown.length = true := lenOk_iff.mpr (by omega)
  have e2 : Nat.ble d.depth 64 = true := Nat.ble_eq_true_of_le (by omega)
  rw [sh, e, e2]
  rfl
theorem x_rep {w : W} {d n : Nat} (s : Sm d n w) (hd : d ≤ 60) (hn : n ≤ 1000000) : (oRepr w h).Wp P = P (.str (pd w).shown) h :=
  rep_go (dat_pur s.p (Nat.le_trans s.dp hd)) (lay_pur w s.p) s.sh s.s (Nat.le_trans s.dp hd) s.b hn
theorem x_repL {r : Nat} {ws : List W} {d n : Nat} (g : h.get r = some (.lst ws)) (s : Sms d n ws) (hd : d < 60) (hn : n ≤ 1000000) : (oRepr (.loc r) h).Wp P = P (.str (PyData.list (pds ws)).shown) h := by
  have dp := s.dp
  refine rep_go (dat_lst g s.p (by omega)) (lays_pur ws s.p) ?_ ?_ ?_ (n := n) ?_ hn
  · simp only [PyData.showable]; exact s.sh
  · simp only [PyData.leavesShort]; exact s.s
  · show PyData.depthAll (pds ws) + 1 ≤ 60
    omega
  · simp only [PyData.bulk]; exact s.b
theorem Sms.ints {cs : List Int} (h : ∀ c ∈ cs, c.natAbs < 10 ^ 12) : Sms 0 cs.length (cs.map .int) := by
  have z : Sms 0 _ (cs.map .int) := Sms.of (d := 0) (n := 0) fun w hw => by
    obtain ⟨c, hc, e⟩ := List.mem_map.mp hw
    subst e
    exact Sm.int (h c hc)
  have e : (cs.map W.int).length * (0 + 1) = cs.length := by rw [List.length_map]; omega
  rw [e] at z
  exact z
theorem x_neS {a b : Str} : (oNe (.str a) (.str b) h).Wp P = P (.bl !decide (a = b)) h := rfl
end
end Fw

set_option Elab.async false
set_option linter.all false
set_option maxRecDepth 100000
/-! Fw, part Z3: comprehensions over a dict's keys; any. -/
namespace Fw
open PySem
section
variable {e : Fw.Env} {h : IH} {P : W → IH → Prop} {f x : EE} {t : ET} {g : EG} {vs : List Nat}
/-- [f for y in a dict if t]: the dict is locked from there on -/
theorem lc_keys (w : (x e h).Wp fun v h1 => ∃ (a : Nat) (kvs : List (Key × W)), v = .loc a ∧ h1.get a = some (.dk kvs) ∧ ∃ I : Nat → List W → IH → Prop, I 0 [] (h1.set a (.dz kvs)) ∧
    (∀ i xs h2 y, I i xs h2 → kvs[i]? = some y → h2.get a = some (.dz kvs) ∧ (g (kW y.1) (wipeW e vs) h2).Wp fun e h3 => (t e h3).Wp fun c h4 => if c = true then (f e h4).Wp fun y h5 => I (i + 1) (xs ++ [y]) h5 else I (i + 1) xs h4) ∧ ∀ xs h2, I kvs.length xs h2 → h2.get a = some (.dz kvs) ∧ xs.length ≤ 16777216 ∧ P (.loc h2.n) (h2.new (.lst xs))) : (eLc (iAny x) g t f vs e h).Wp P := by
  obtain ⟨v, h1, q, a, kvs, ev, ga, I, i0, st, fn⟩ := w.ex
  subst ev
  refine W_lc ?_
  have z : iAny x e h = .ok (.keys a) (h1.set a (.dz kvs)) := by
    unfold iAny; rw [q]; dsimp only; rw [ga]
  rw [z]
  have al := IH.get_lt ga
  have cn : (IT.keys a).cnt (h1.set a (.dz kvs)) = kvs.length := by
    show (match (h1.set a (.dz kvs)).get a with
      | some (.dz kvs) => kvs.length
      | _ => 0) = _
    rw [IH.get_set _ _ _ _ al, if_pos rfl]
  refine ⟨I, i0, fun i xs h2 hI hi => ?_, fun xs h2 hI => ?_⟩
  · rw [cn] at hi
    have hy : kvs[i]? = some kvs[i] := List.getElem?_eq_getElem hi
    obtain ⟨g2, z⟩ := st i xs h2 _ hI hy
    exact ⟨_, by
      show (match h2.get a with
        | some (.dz kvs) => (match kvs[i]? with
          | some p => some (kW p.1)
          | none => none)
        | _ => none) = _
      rw [g2]; dsimp only; rw [hy], z⟩
  · rw [cn] at hI ⊢
    obtain ⟨g2, z⟩ := fn xs h2 hI
    exact ⟨by
      show (match h2.get a with
        | some (.dz kvs') => Nat.ble kvs'.length kvs.length
        | _ => false) = true
      rw [g2]; exact Nat.ble_eq_true_of_le (Nat.le_refl _), z⟩
theorem bls_of : ∀ bs : List Bool, mapO asB (bs.map W.bl) = some bs
  | [] => rfl
  | b :: bs => by rw [List.map_cons, mapO_cons, bls_of bs]; rfl
theorem x_any {a : Nat} {bs : List Bool} {P : W → IH → Prop} {h : IH} (g : h.get a = some (.lst (bs.map .bl))) : (k1 oAny [.loc a] h).Wp P = P (.bl (bs.any id)) h := by
  unfold k1 oAny; dsimp only; rw [list_at g]; dsimp only
  rw [bls_of]; rfl
theorem x_all {a : Nat} {bs : List Bool} {P : W → IH → Prop} {h : IH} (g : h.get a = some (.lst (bs.map .bl))) : (k1 oAll [.loc a] h).Wp P = P (.bl (bs.all id)) h := by
  unfold k1 oAll; dsimp only; rw [list_at g]; dsimp only
  rw [bls_of]; rfl
theorem flat_bls : ∀ bs : List Bool, (bs.map W.bl).all flatW = true
  | [] => rfl
  | c :: cs => by rw [List.map_cons, List.all_cons, flat_bls cs]; rfl
theorem in_bls (u : Bool) : ∀ bs : List Bool, inFlat (.bl u) (bs.map .bl) = bs.contains u
  | [] => rfl
  | c :: cs => by
    rw [List.map_cons]
    unfold inFlat
    rw [in_bls u cs, List.contains_cons]
    show (match (c == u) with
      | true => true
      | false => cs.contains u) = _
    cases c <;> cases u <;> rfl
theorem inW_bls {u : Bool} {bs : List Bool} {r : Nat} {h : IH} (g : h.get r = some (.lst (bs.map .bl))) : inW (.bl u) (.loc r) h = some (bs.contains u) := by
  unfold inW; dsimp only; rw [g]; dsimp only
  rw [flat_bls, in_bls]; rfl
theorem x_inB {u : Bool} {bs : List Bool} {r : Nat} {h : IH} {P : W → IH → Prop} (g : h.get r = some (.lst (bs.map .bl))) : (oIn (.bl u) (.loc r) h).Wp P = P (.bl (bs.contains u)) h := by
  unfold oIn; rw [inW_bls g]; rfl
theorem x_ninB {u : Bool} {bs : List Bool} {r : Nat} {h : IH} {P : W → IH → Prop} (g : h.get r = some (.lst (bs.map .bl))) : (oNotIn (.bl u) (.loc r) h).Wp P = P (.bl !(bs.contains u)) h := by
  unfold oNotIn; rw [inW_bls g]; rfl
end
end Fw

set_option Elab.async false
set_option linter.all false
set_option maxRecDepth 100000
set_option maxHeartbeats 1000000
/-! Fw, part V: words that any law may use: heaps that stay, the pen, lists of ints, dicts by nodes. -/
namespace Fw
open PySem

theorem pow64 {i : Int} (h0 : 0 ≤ i) (h1 : i < 18446744073709551616) : inPow64 i = true := by
  unfold inPow64
  simp only [Bool.and_eq_true, decide_eq_true_eq]
  omega
def Keep (h h' : IH) : Prop := h.n ≤ h'.n ∧ ∀ i, i < h.n → h'.get i = h.get i
theorem Keep.refl {h : IH} : Keep h h := ⟨Nat.le_refl _, fun _ _ => rfl⟩
theorem Keep.trans {a b c : IH} (x : Keep a b) (y : Keep b c) : Keep a c := ⟨Nat.le_trans x.1 y.1, fun i hi => (y.2 i (Nat.lt_of_lt_of_le hi x.1)).trans (x.2 i hi)⟩
theorem Keep.new {h : IH} {c : Cell} : Keep h (h.new c) := ⟨Nat.le_succ _, fun i hi => by rw [IH.get_new, if_neg (Nat.ne_of_lt hi)]⟩
theorem ix_wp {a : Nat} {ws : List W} {i : Int} {h : IH} {P : W → IH → Prop} (g : h.get a = some (.lst ws)) (h0 : 0 ≤ i) (h1 : i < ws.length) (k : ∀ w, ws[i.toNat]? = some w → P w h) : (oIx (.loc a) (.int i) h).Wp P := by
  have q : ws[i.toNat]? = some ws[i.toNat] := List.getElem?_eq_getElem (by omega)
  rw [x_ix g h0 q]
  exact k _ q
def primes : List Int := [2147483629, 2147483587, 2147483579, 2147483563, 2147483549, 2147483543, 2147483497, 2147483489, 2147483477, 2147483423, 2147483399, 2147483353, 2147483323]
def pr13 : List W := primes.map .int
theorem pr_at {j : Nat} {w : W} (e : pr13[j]? = some w) : ∃ p : Int, w = .int p ∧ 0 < p ∧ p < 2147483648 := by
  have m := List.mem_of_getElem? e
  simp only [pr13, primes, List.map_cons, List.map_nil, List.mem_cons, List.not_mem_nil, or_false] at m
  rcases m with h | h | h | h | h | h | h | h | h | h | h | h | h <;> exact ⟨_, h, by decide, by decide⟩
theorem mod_lt {a b : Int} (h : 0 < b) : 0 ≤ a % b ∧ a % b < b := ⟨Int.emod_nonneg _ (by omega), Int.emod_lt_of_pos _ h⟩
theorem mul_lt {a b A B : Int} (a0 : 0 ≤ a) (a1 : a < A) (b0 : 0 ≤ b) (b1 : b < B) : 0 ≤ a * b ∧ a * b < A * B := ⟨Int.mul_nonneg a0 b0, by
  have z := Int.mul_le_mul (show a ≤ A - 1 by omega) (show b ≤ B - 1 by omega) b0 (show 0 ≤ A - 1 by omega)
  rw [Int.sub_mul, Int.mul_sub, Int.mul_one, Int.one_mul] at z
  omega⟩
theorem x_tp {gs : List EG} {ws : List W} {e : Fw.Env} {h : IH} {Q : Fw.Env → IH → Prop} : (gTp gs (.tup ws) e h).Wp Q = ((Nat.beq ws.length gs.length = true) ∧ (gSeq gs ws e h).Wp Q) := need_wp
theorem x_gs0 {e : Fw.Env} {h : IH} {Q : Fw.Env → IH → Prop} : (gSeq [] [] e h).Wp Q = Q e h := rfl
theorem x_gs1 {g : EG} {gs : List EG} {w : W} {ws : List W} {e : Fw.Env} {h : IH} {Q : Fw.Env → IH → Prop} : (gSeq (g :: gs) (w :: ws) e h).Wp Q = (g w e h).Wp fun e h => (gSeq gs ws e h).Wp Q := Rs.Wp_bind
theorem seq_cut {a b : SS} {e : Fw.Env} {h : IH} {N : Fw.Env → IH → Prop} {R : W → IH → Prop} {B C : Fw.Env → IH → Prop} (N' : Fw.Env → IH → Prop) (ha : (a e h).Wp ⟨N', R, B, C⟩) (hb : ∀ e h, N' e h → (b e h).Wp ⟨N, R, B, C⟩) : (sSeq a b e h).Wp ⟨N, R, B, C⟩ := by
  rw [x_seq]
  exact ha.mono hb (fun _ _ z => z) (fun _ _ z => z) fun _ _ z => z
def Fr (p : Nat) (h h' : IH) : Prop := h.n ≤ h'.n ∧ ∀ i, i < h.n → i ≠ p → h'.get i = h.get i
theorem Fr.refl {p : Nat} {h : IH} : Fr p h h := ⟨Nat.le_refl _, fun _ _ _ => rfl⟩
theorem Fr.trans {p : Nat} {a b c : IH} (x : Fr p a b) (y : Fr p b c) : Fr p a c := ⟨Nat.le_trans x.1 y.1, fun i hi ne => (y.2 i (Nat.lt_of_lt_of_le hi x.1) ne).trans (x.2 i hi ne)⟩
theorem Keep.fr {p : Nat} {h h' : IH} (k : Keep h h') : Fr p h h' := ⟨k.1, fun i hi _ => k.2 i hi⟩
theorem Fr.set {p : Nat} {h : IH} {c : Cell} (hp : p < h.n) : Fr p h (h.set p c) := ⟨Nat.le_refl _, fun i hi ne => by rw [IH.get_set _ _ _ _ hp, if_neg ne]⟩
structure PenAt (h : IH) (p c : Nat) (at_ left : Int) (cs : List Int) : Prop where
  pen : h.get p = some (.lst [.loc c, .int at_, .int left])
  cells : h.get c = some (.lst (cs.map .int))
  ne : c ≠ p
theorem PenAt.set {h : IH} {p c : Nat} {a l a' l' : Int} {cs : List Int} (x : PenAt h p c a l cs) : PenAt (h.set p (.lst [.loc c, .int a', .int l'])) p c a' l' cs :=
  ⟨by rw [IH.get_set _ _ _ _ (IH.get_lt x.pen), if_pos rfl], by rw [IH.get_set _ _ _ _ (IH.get_lt x.pen), if_neg x.ne]; exact x.cells, x.ne⟩
theorem PenAt.keep {h h' : IH} {p c : Nat} {a l : Int} {cs : List Int} (x : PenAt h p c a l cs) (k : Keep h h') : PenAt h' p c a l cs := ⟨(k.2 _ (IH.get_lt x.pen)).trans x.pen, (k.2 _ (IH.get_lt x.cells)).trans x.cells, x.ne⟩
def Pen (c : Nat) (h : IH) (p : Nat) (b : Int) : Prop := ∃ at_ left cs, PenAt h p c at_ left cs ∧ 0 ≤ at_ ∧ at_ ≤ b ∧ 0 ≤ left
theorem Pen.mono {h : IH} {c p : Nat} {b b' : Int} (x : Pen c h p b) (hb : b ≤ b') : Pen c h p b' := let ⟨a, l, cs, y, h0, h1, h2⟩ := x; ⟨a, l, cs, y, h0, Int.le_trans h1 hb, h2⟩
theorem Pen.lt {h : IH} {c p : Nat} {b : Int} (x : Pen c h p b) : p < h.n := let ⟨_, _, _, y, _⟩ := x; IH.get_lt y.pen
theorem Pen.keep {h h' : IH} {c p : Nat} {b : Int} (x : Pen c h p b) (k : Keep h h') : Pen c h' p b := let ⟨a, l, cs, y, z⟩ := x; ⟨a, l, cs, y.keep k, z⟩
def takeP (c p : Nat) (b many : Int) (h0 : IH) (w : W) (h' : IH) : Prop := ∃ v : Int, w = .int v ∧ 0 ≤ v ∧ v < many ∧ Fr p h0 h' ∧ Pen c h' p (b + 1)
theorem take_tail {p c : Nat} {b many a l : Int} {cs : List Int} {h0 h' : IH} (m0 : 0 < many) (m1 : many < 1073741824) (x : PenAt h' p c a l cs) (a0 : 0 ≤ a) (a1 : a ≤ b + 1) (l0 : 0 ≤ l) (fr : Fr p h0 h') :
    (oIx (.loc p) (.int 2) h').Wp fun x h => (oMod x (.int many) h).Wp fun w h => (oIx (.loc p) (.int 2) h).Wp fun x h => (oDiv x (.int many) h).Wp fun w_1 h => (oSet (.loc p) (.int 2) w_1 h).Wp fun x h => takeP c p b many h0 w h := by
  rw [x_ix x.pen (by decide) rfl]
  simp only [↓x_mod]
  refine ⟨m0, ?_⟩
  rw [x_ix x.pen (by decide) rfl]
  simp only [↓x_div]
  refine ⟨⟨m0, m1⟩, ?_⟩
  rw [x_set x.pen (by decide) (by simp)]
  have q := mod_lt (a := l) m0
  exact ⟨_, rfl, q.1, q.2, fr.trans (Fr.set (IH.get_lt x.pen)), a, l / many, cs, x.set, a0, a1, Int.ediv_nonneg l0 (by omega)⟩
theorem Fr.new {p : Nat} {h : IH} {c : Cell} : Fr p h (h.new c) := Keep.new.fr
theorem x_app {r : Nat} {ws : List W} {w : W} {h : IH} {P : W → IH → Prop} (g : h.get r = some (.lst ws)) (hl : ws.length < 16777216) : (mAppend [.loc r, w] h).Wp P = P .non (h.set r (.lst (ws ++ [w]))) := by
  unfold mAppend; dsimp only; rw [g]; dsimp only
  have z : Nat.blt ws.length 16777216 = true := blt_of hl
  rw [z]; rfl
theorem isLst_at {r : Nat} {ws : List W} {h : IH} (g : h.get r = some (.lst ws)) : isLst (.loc r) h = true := by unfold isLst; dsimp only; rw [g]
theorem x_tupL {r : Nat} {ws : List W} {h : IH} {P : W → IH → Prop} (g : h.get r = some (.lst ws)) : (k1 oTuple [.loc r] h).Wp P = P (.tup ws) h := by
  unfold k1 oTuple; dsimp only; rw [list_at g]; rfl
section
variable {e : Fw.Env} {h : IH} {P : W → IH → Prop} {f g l : EE} {k k' : W → W → IH → Rs W}
def andK (g : EE) (e : Fw.Env) (w : W) (h : IH) : Rs W := match w with
  | .bl true => g e h
  | .bl false => .ok (.bl false) h
  | _ => .stuck
def orK (g : EE) (e : Fw.Env) (w : W) (h : IH) : Rs W := match w with
  | .bl true => .ok (.bl true) h
  | .bl false => g e h
  | _ => .stuck
theorem x_eAnd : (eAnd f g e h).Wp P = (f e h).Wp fun w h => (andK g e w h).Wp P := Rs.Wp_bind
theorem x_eOr : (eOr f g e h).Wp P = (f e h).Wp fun w h => (orK g e w h).Wp P := Rs.Wp_bind
theorem x_andK {c : Bool} : (andK g e (.bl c) h).Wp P = ((c = true → (g e h).Wp P) ∧ (c = false → P (.bl false) h)) := by cases c <;> simp [andK]
theorem x_orK {c : Bool} : (orK g e (.bl c) h).Wp P = ((c = true → P (.bl true) h) ∧ (c = false → (g e h).Wp P)) := by cases c <;> simp [orK]
def notK (w : W) (h : IH) : Rs W := match w with
  | .bl b => .ok (.bl !b) h
  | _ => .stuck
theorem x_eNot : (eNot f e h).Wp P = (f e h).Wp fun w h => (notK w h).Wp P := Rs.Wp_bind
theorem x_notK {c : Bool} : (notK (.bl c) h).Wp P = P (.bl !c) h := rfl
def chK_ (k' : W → W → IH → Rs W) (l : EE) (e : Fw.Env) (y : W) (z : W) (h : IH) : Rs W := match z with
  | .bl true => (l e h).bind fun w h => k' y w h
  | .bl false => .ok (.bl false) h
  | _ => .stuck
theorem x_chain : (eChain k k' f g l e h).Wp P = (f e h).Wp fun x h => (g e h).Wp fun y h => (k x y h).Wp fun z h => (chK_ k' l e y z h).Wp P := by
  unfold eChain
  rw [Rs.Wp_bind]
  congr; funext x h; rw [Rs.Wp_bind]
  congr; funext y h; rw [Rs.Wp_bind]; rfl
theorem x_chK {c : Bool} {y : W} : (chK_ k' l e y (.bl c) h).Wp P = ((c = true → (l e h).Wp fun w h => (k' y w h).Wp P) ∧ (c = false → P (.bl false) h)) := by
  cases c
  · simp [chK_]
  · show (Rs.bind _ _).Wp P = _
    rw [Rs.Wp_bind]; simp
theorem x_isiI {ts : List Ty} {i : Int} : (oIsi ts (.int i) h).Wp P = P (.bl (ts.any fun u => isTy .int u)) h := rfl
theorem x_isiN {ts : List Ty} : (oIsi ts .non h).Wp P = P (.bl (ts.any fun u => isTy .non u)) h := rfl
theorem x_isiS {ts : List Ty} {s : Str} : (oIsi ts (.str s) h).Wp P = P (.bl (ts.any fun u => isTy .str u)) h := rfl
theorem x_isiT {ts : List Ty} {ws : List W} : (oIsi ts (.tup ws) h).Wp P = P (.bl (ts.any fun u => isTy .tuple u)) h := rfl
end
theorem x_truB {c : Bool} {h : IH} {B : Bool → IH → Prop} : (truW (.bl c) h).Wp B = B c h := rfl
theorem x_isNot {w : W} {h : IH} {P : W → IH → Prop} : (oIsNot w .non h).Wp P = P (.bl (!isNone w)) h := rfl
theorem x_is {w : W} {h : IH} {P : W → IH → Prop} : (oIs w .non h).Wp P = P (.bl (isNone w)) h := rfl
theorem flat_ints : ∀ cs : List Int, (cs.map W.int).all flatW = true
  | [] => rfl
  | c :: cs => by rw [List.map_cons, List.all_cons, flat_ints cs]; rfl
theorem in_ints (u : Int) : ∀ cs : List Int, inFlat (.int u) (cs.map .int) = decide (u ∈ cs)
  | [] => by simp [inFlat]
  | c :: cs => by
    rw [List.map_cons]
    unfold inFlat
    by_cases q : c = u
    · subst q; simp [eqFlat]
    · have : eqFlat (.int c) (.int u) = false := by simp [eqFlat, q]
      rw [this, in_ints u cs]
      have n : u ≠ c := fun e => q e.symm
      simp [n]
theorem inW_ints {u : Int} {cs : List Int} {r : Nat} {h : IH} (g : h.get r = some (.lst (cs.map .int))) : inW (.int u) (.loc r) h = some (decide (u ∈ cs)) := by
  unfold inW; dsimp only; rw [g]; dsimp only
  rw [flat_ints, in_ints]; rfl
theorem x_ninI {u : Int} {cs : List Int} {r : Nat} {h : IH} {P : W → IH → Prop} (g : h.get r = some (.lst (cs.map .int))) : (oNotIn (.int u) (.loc r) h).Wp P = P (.bl !decide (u ∈ cs)) h := by
  unfold oNotIn; rw [inW_ints g]; rfl
theorem x_inI {u : Int} {cs : List Int} {r : Nat} {h : IH} {P : W → IH → Prop} (g : h.get r = some (.lst (cs.map .int))) : (oIn (.int u) (.loc r) h).Wp P = P (.bl (decide (u ∈ cs))) h := by
  unfold oIn; rw [inW_ints g]; rfl
theorem cut_mem {ws : List W} {lo hi : Option Int} {x : W} (h : x ∈ cutW ws lo hi) : x ∈ ws := List.mem_of_mem_drop (List.mem_of_mem_take h)
theorem ints_map : ∀ {ws : List W}, (∀ x ∈ ws, ∃ i : Int, x = .int i) → ∃ cs : List Int, ws = cs.map .int
  | [], _ => ⟨[], rfl⟩
  | x :: ws, H => by
    obtain ⟨i, e⟩ := H x List.mem_cons_self
    obtain ⟨cs, e2⟩ := ints_map (ws := ws) fun y hy => H y (List.mem_cons_of_mem _ hy)
    exact ⟨i :: cs, by rw [e, e2]; rfl⟩
theorem cut_lens {ws : List W} : (cutW ws none (some 12)).length = min 12 ws.length ∧ (cutW ws (some 12) (some 63)).length = min 63 ws.length - 12 := by
  have e1 : ∀ d, HT.sIx ws.length d (some 12) = min 12 ws.length := fun d => HT.sIx_nat ws.length d 12
  have e2 : ∀ d, HT.sIx ws.length d (some 63) = min 63 ws.length := fun d => HT.sIx_nat ws.length d 63
  unfold cutW
  rw [e1, e1, e2, HT.sIx_none]
  simp only [List.length_take, List.length_drop]
  omega
theorem x_slR {a b : Option Int} {ws : List W} {h : IH} {P : W → IH → Prop} : (oSl a b (.ro ws) h).Wp P = P (.loc h.n) (h.new (.lst (cutW ws a b))) := rfl
theorem x_list {r : Nat} {ws : List W} {h : IH} {P : W → IH → Prop} (g : h.get r = some (.lst ws)) : (k1 oList [.loc r] h).Wp P = P (.loc h.n) (h.new (.lst ws)) := by
  unfold k1 oList; dsimp only; rw [list_at g]; rfl
theorem nodup_len : ∀ (n : Nat) (l : List Int), l.Nodup → (∀ u ∈ l, 0 ≤ u ∧ u < n) → l.length ≤ n
  | 0, l, _, h => by
    cases l with
    | nil => exact Nat.le_refl _
    | cons a l => have := h a List.mem_cons_self; omega
  | n + 1, l, nd, h => by
    by_cases q : (n : Int) ∈ l
    · have z := nodup_len n (l.erase n) (nd.erase _) fun u hu => by
        have hu := nd.mem_erase_iff.mp hu
        have := h u hu.2
        have := hu.1
        omega
      rw [List.length_erase_of_mem q] at z
      omega
    · have z := nodup_len n l nd fun u hu => by
        have := h u hu
        have : u ≠ n := fun e => q (e ▸ hu)
        omega
      omega
theorem x_dic1 {f g : EE} {e : Fw.Env} {h : IH} {P : W → IH → Prop} (w : (f e h).Wp fun k h => ∃ i : Int, k = .int i ∧ (g e h).Wp fun v h => P (.loc h.n) (h.new (.dk [(.inl i, v)]))) : (eDic [(f, g)] e h).Wp P := by
  unfold eDic
  obtain ⟨k, h1, q1, i, ek, w⟩ := w.ex
  subst ek
  obtain ⟨v, h2, q2, w⟩ := w.ex
  unfold eDic.go
  rw [q1, Rs.bind_ok, q2, Rs.bind_ok]
  exact w
theorem x_pop0 {r : Nat} {w : W} {ws : List W} {h : IH} {P : W → IH → Prop} (g : h.get r = some (.lst (w :: ws))) : (mPop1 [.loc r, .int 0] h).Wp P = P w (h.set r (.lst ws)) := by
  unfold mPop1; dsimp only; rw [g]; dsimp only
  have z : L2.ixN (w :: ws).length 0 = some 0 := by
    unfold L2.ixN
    rw [if_pos (by omega), if_pos (by simp)]; rfl
  rw [z]; rfl
theorem purs_ints : ∀ cs : List Int, purs (cs.map .int) = true
  | [] => rfl
  | c :: cs => by show (true && purs (cs.map .int)) = true; rw [purs_ints cs]; rfl
theorem depth_ints : ∀ cs : List Int, PyData.depthAll (pds (cs.map .int)) = 0
  | [] => rfl
  | c :: cs => by
    show max 0 (PyData.depthAll (pds (cs.map .int))) = 0
    rw [depth_ints cs]; rfl
theorem x_neE {r a : Nat} {cs : List Int} {h : IH} {P : W → IH → Prop} (g : h.get r = some (.lst (cs.map .int))) (ga : h.get a = some (.lst [])) (z : P (.bl !decide (cs = [])) h) : (oNe (.loc r) (.loc a) h).Wp P := by
  refine w_neL (eqW_lst g ga (purs_ints cs) rfl (by rw [depth_ints]; omega) (Nat.zero_le _)) fun c hc => ?_
  have e : c = decide (cs = []) := by
    rw [Bool.eq_iff_iff, hc, decide_eq_true_eq]
    simp
  rw [e]; exact z
theorem Keep.set {h h' : IH} {r : Nat} {c : Cell} (k : Keep h h') (r0 : h.n ≤ r) (rl : r < h'.n) : Keep h (h'.set r c) := ⟨k.1, fun q hq => by rw [IH.get_set _ _ _ _ rl, if_neg (by omega)]; exact k.2 q hq⟩
theorem take_one {vs : List Int} {t : Nat} {u : Int} (h : vs[t]? = some u) : vs.take (t + 1) = vs.take t ++ [u] := by
  rw [List.take_add_one, h]; rfl
theorem ints_at {vs : List Int} {t : Nat} {y : W} (h : (vs.map W.int)[t]? = some y) : ∃ u, vs[t]? = some u ∧ y = .int u := by
  rw [List.getElem?_map] at h
  cases q : vs[t]? with
  | none => rw [q] at h; cases h
  | some u => rw [q] at h; exact ⟨u, rfl, (Option.some.inj h).symm⟩
theorem filter_take {α : Type} (p : α → Bool) {l : List α} {i : Nat} {x : α} (h : l[i]? = some x) : (l.take (i + 1)).filter p = if p x = true then (l.take i).filter p ++ [x] else (l.take i).filter p := by
  rw [List.take_add_one, h, List.filter_append]
  cases q : p x <;> simp [q]
theorem map_take {α β : Type} (f : α → β) {l : List α} {i : Nat} {x : α} (h : l[i]? = some x) : (l.take (i + 1)).map f = (l.take i).map f ++ [f x] := by
  rw [List.take_add_one, h, List.map_append]; rfl
theorem x_ins0 {r : Nat} {w : W} {ws : List W} {h : IH} {P : W → IH → Prop} (g : h.get r = some (.lst ws)) (hl : ws.length < 16777216) : (mInsert [.loc r, .int 0, w] h).Wp P = P .non (h.set r (.lst (w :: ws))) := by
  unfold mInsert; dsimp only; rw [g]; dsimp only
  have z : Nat.blt ws.length 16777216 = true := blt_of hl
  rw [z]; rfl
theorem isDk_at {a : Nat} {kvs : List (Key × W)} {h : IH} (g : h.get a = some (.dk kvs)) : isDk (.loc a) h = true := by unfold isDk; dsimp only; rw [g]
theorem x_isiL {ts : List Ty} {a : Nat} {ws : List W} {h : IH} {P : W → IH → Prop} (g : h.get a = some (.lst ws)) : (oIsi ts (.loc a) h).Wp P = P (.bl (ts.any fun u => isTy .list u)) h := by
  unfold oIsi tyOf; dsimp only; rw [g]; rfl
theorem x_last {r : Nat} {ws : List W} {w : W} {h : IH} {P : W → IH → Prop} (g : h.get r = some (.lst ws)) (hw : ws.getLast? = some w) : (oIx (.loc r) (.int (-1)) h).Wp P = P w h := by
  unfold oIx; dsimp only; rw [g]; dsimp only
  have hl : ws ≠ [] := fun e => by rw [e] at hw; cases hw
  have l0 : 0 < ws.length := List.length_pos_iff.mpr hl
  have e : L2.atI ws (-1) = some w := by
    unfold L2.atI L2.ixN
    rw [if_neg (by decide), if_pos (by omega)]
    rw [List.getLast?_eq_getElem?] at hw
    have e2 : ((-1 : Int) + (ws.length : Int)).toNat = ws.length - 1 := by omega
    simp only [Option.bind_some]
    first | (rw [e2]; exact hw) | (rw [show ((ws.length : Int) + (-1 : Int)).toNat = ws.length - 1 by omega]; exact hw)
  rw [e]; rfl
def rg (n : Nat) : List Int := (List.range n).map fun i : Nat => (i : Int)
theorem rg_len (n : Nat) : (rg n).length = n := by unfold rg; rw [List.length_map, List.length_range]
theorem rg_at {n i : Nat} {u : Int} (h : (rg n)[i]? = some u) : u = i ∧ i < n := by
  have l := (List.getElem?_eq_some_iff.mp h).1
  rw [rg_len] at l
  unfold rg at h
  rw [List.getElem?_map, List.getElem?_range l] at h
  exact ⟨(Option.some.inj h).symm, l⟩
theorem x_lrg {n : Nat} {h : IH} {P : W → IH → Prop} (hn : n < 1000) : (oListRange (.int n) h).Wp P = P (.loc h.n) (h.new (.lst ((rg n).map .int))) := by
  unfold oListRange; dsimp only
  rw [need_wp]
  have e : (small (n : Int) && decide ((n : Int) < 1000000)) = true := by
    rw [small_nat (by omega), decide_eq_true (by omega)]; rfl
  rw [e, Int.toNat_natCast]
  have e2 : ((List.range n).map fun i => W.int (i : Nat)) = (rg n).map .int := by unfold rg; rw [List.map_map]; rfl
  rw [e2]
  exact propext ⟨fun z => z.2, fun z => ⟨rfl, z⟩⟩
theorem mem_insI {i x : Int} : ∀ {l : List Int}, x ∈ insI i l → x = i ∨ x ∈ l
  | [], h => by left; simpa [insI] using h
  | j :: r, h => by
    unfold insI at h
    split at h
    · rcases List.mem_cons.mp h with h | h
      · exact .inl h
      · exact .inr h
    · rcases List.mem_cons.mp h with h | h
      · exact .inr (h ▸ List.mem_cons_self)
      · rcases mem_insI h with h | h
        · exact .inl h
        · exact .inr (List.mem_cons_of_mem _ h)
theorem mem_sortI {x : Int} : ∀ {l : List Int}, x ∈ sortI l → x ∈ l
  | [], h => h
  | i :: r, h => by
    unfold sortI at h
    rcases mem_insI h with h | h
    · exact h ▸ List.mem_cons_self
    · exact List.mem_cons_of_mem _ (mem_sortI h)
theorem len_insI {i : Int} : ∀ l : List Int, (insI i l).length = l.length + 1
  | [] => rfl
  | j :: r => by
    unfold insI
    split
    · rfl
    · rw [List.length_cons, len_insI r, List.length_cons]
theorem len_sortI : ∀ l : List Int, (sortI l).length = l.length
  | [] => rfl
  | i :: r => by unfold sortI; rw [len_insI, len_sortI r]; rfl
theorem x_int {i : Int} {h : IH} {P : W → IH → Prop} : (k1 oInt [.int i] h).Wp P = P (.int i) h := rfl
theorem x_err {c : Nat} {f : EE} {e : Fw.Env} {h : IH} {P : W → IH → Prop} : (eErr c f e h).Wp P = (f e h).Wp fun _ h => P (.loc h.n) (h.new (.err c)) := Rs.Wp_bind
theorem x_isE {ds : List (Nat × Bool)} {a c : Nat} {b : Bool} {h : IH} {P : W → IH → Prop} (g : h.get a = some (.err c)) (l : ds.lookup c = some b) : (oIsE ds (.loc a) h).Wp P = P (.bl b) h := by
  unfold oIsE; dsimp only; rw [g]; dsimp only; rw [l]; rfl
theorem Keep.at {h h' : IH} (k : Keep h h') {q : Nat} {c : Cell} (g : h.get q = some c) : h'.get q = some c := by rw [k.2 _ (IH.get_lt g)]; exact g
end Fw

set_option linter.all false
set_option maxRecDepth 100000
set_option maxHeartbeats 1000000
/-! Fw, part Z4: what walks two lists at once; tests that are known; ascending lists of a list's ints. -/
namespace Fw
open PySem
section
variable {t : ET} {a b : SS} {f g x y : EE} {tg : EG} {vs : List Nat} {e : Env} {h h' : IH} {P : W → IH → Prop} {D : Dn} {N : Env → IH → Prop} {R : W → IH → Prop} {B C : Env → IH → Prop}
theorem w_ifT (q : t e h = .ok true h) (k : (a e h).Wp ⟨N, R, B, C⟩) : (sIf t a b e h).Wp ⟨N, R, B, C⟩ := by
  rw [x_if, q]; exact ⟨fun _ => k, fun z => Bool.noConfusion z⟩
theorem w_ifF (q : t e h = .ok false h) (k : (b e h).Wp ⟨N, R, B, C⟩) : (sIf t a b e h).Wp ⟨N, R, B, C⟩ := by
  rw [x_if, q]; exact ⟨fun z => Bool.noConfusion z, fun _ => k⟩
theorem w_eIfT (q : t e h = .ok true h) (k : (f e h).Wp P) : (eIf t f g e h).Wp P := by
  rw [x_eIf, q]; exact ⟨fun _ => k, fun z => Bool.noConfusion z⟩
theorem w_eIfF (q : t e h = .ok false h) (k : (g e h).Wp P) : (eIf t f g e h).Wp P := by
  rw [x_eIf, q]; exact ⟨fun z => Bool.noConfusion z, fun _ => k⟩
theorem x_ixT0 {w : W} {ws : List W} : (oIx (.tup (w :: ws)) (.int 0) h).Wp P = P w h := x_ixT (by decide) rfl
theorem x_ixT1 {w u : W} {ws : List W} : (oIx (.tup (u :: w :: ws)) (.int 1) h).Wp P = P w h := x_ixT (by decide) rfl
theorem x_ixT2 {w u v : W} {ws : List W} : (oIx (.tup (u :: v :: w :: ws)) (.int 2) h).Wp P = P w h := x_ixT (by decide) rfl
/-- zip of two lists -/
theorem for_zip (w : (x e h).Wp fun v h1 => (y e h1).Wp fun v' h1 => ∃ (p q : Nat) (xs ys : List W), v = .loc p ∧ v' = .loc q ∧ h1.get p = some (.lst xs) ∧ h1.get q = some (.lst ys) ∧ ∃ I : Nat → Env → IH → Prop, I 0 e h1 ∧
    (∀ i e h2 u u', I i e h2 → xs[i]? = some u → ys[i]? = some u' → h2.get p = some (.lst xs) ∧ h2.get q = some (.lst ys) ∧ (tg (.tup [u, u']) e h2).Wp fun e h3 => (b e h3).Wp ⟨I (i + 1), R, N, I (i + 1)⟩) ∧
    ∀ e h2, I (min xs.length ys.length) e h2 → h2.get p = some (.lst xs) ∧ h2.get q = some (.lst ys) ∧ N e h2) : (sFor (iA kZip (aCons x (aCons y aNil))) tg b e h).Wp ⟨N, R, B, C⟩ := by
  refine W_for (Rs.Wp.bind ?_)
  rw [x_cons]
  refine w.mono fun v h1 w => ?_
  rw [x_cons]
  refine w.mono fun v' h1 ⟨p, q, xs, ys, e1, e2, gp, gq, I, i0, st, fn⟩ => ?_
  subst e1; subst e2
  rw [x_nil]
  have z : kZip [.loc p, .loc q] h1 = .ok (.zip p q) h1 := by
    unfold kZip; dsimp only; rw [list_at gp, list_at gq]
  rw [z, Rs.Wp_ok]
  have cn : (IT.zip p q).cnt h1 = min xs.length ys.length := by
    unfold IT.cnt; dsimp only; rw [list_at gp, list_at gq]; rfl
  refine ⟨I, i0, fun i e h2 hI hi => ?_, fun e h2 hI => ?_⟩
  · rw [cn] at hi
    have l1 : i < xs.length := by omega
    have l2 : i < ys.length := by omega
    have g1 := List.getElem?_eq_getElem l1
    have g2 := List.getElem?_eq_getElem l2
    obtain ⟨k1, k2, k3⟩ := st i e h2 _ _ hI g1 g2
    refine ⟨_, ?_, k3⟩
    unfold IT.nth; dsimp only; rw [list_at k1, list_at k2]
    show (xs[i]?.bind fun w => ys[i]?.bind fun u => some (W.tup [w, u])) = _
    rw [g1, g2]; rfl
  · rw [cn] at hI ⊢
    obtain ⟨k1, k2, k3⟩ := fn e h2 hI
    refine ⟨?_, k3⟩
    unfold IT.fin; dsimp only; rw [list_at k1, list_at k2]; dsimp only
    rcases Nat.le_total xs.length ys.length with l | l
    · rw [Nat.min_eq_left l, Nat.ble_eq_true_of_le (Nat.le_refl _), Bool.true_or]
    · rw [Nat.min_eq_right l, Nat.ble_eq_true_of_le (Nat.le_refl ys.length), Bool.or_true]
theorem lc_zip (w : (x e h).Wp fun v h1 => (y e h1).Wp fun v' h1 => ∃ (p q : Nat) (xs ys : List W), v = .loc p ∧ v' = .loc q ∧ h1.get p = some (.lst xs) ∧ h1.get q = some (.lst ys) ∧ ∃ I : Nat → List W → IH → Prop, I 0 [] h1 ∧
    (∀ i us h2 u u', I i us h2 → xs[i]? = some u → ys[i]? = some u' → h2.get p = some (.lst xs) ∧ h2.get q = some (.lst ys) ∧ (tg (.tup [u, u']) (wipeW e vs) h2).Wp fun e h3 => (f e h3).Wp fun r h4 => I (i + 1) (us ++ [r]) h4) ∧
    ∀ us h2, I (min xs.length ys.length) us h2 → h2.get p = some (.lst xs) ∧ h2.get q = some (.lst ys) ∧ us.length ≤ 16777216 ∧ P (.loc h2.n) (h2.new (.lst us))) : (eLc (iA kZip (aCons x (aCons y aNil))) tg tYes f vs e h).Wp P := by
  refine W_lc (Rs.Wp.bind ?_)
  rw [x_cons]
  refine w.mono fun v h1 w => ?_
  rw [x_cons]
  refine w.mono fun v' h1 ⟨p, q, xs, ys, e1, e2, gp, gq, I, i0, st, fn⟩ => ?_
  subst e1; subst e2
  rw [x_nil]
  have z : kZip [.loc p, .loc q] h1 = .ok (.zip p q) h1 := by
    unfold kZip; dsimp only; rw [list_at gp, list_at gq]
  rw [z, Rs.Wp_ok]
  have cn : (IT.zip p q).cnt h1 = min xs.length ys.length := by
    unfold IT.cnt; dsimp only; rw [list_at gp, list_at gq]; rfl
  refine ⟨I, i0, fun i us h2 hI hi => ?_, fun us h2 hI => ?_⟩
  · rw [cn] at hi
    have l1 : i < xs.length := by omega
    have l2 : i < ys.length := by omega
    have g1 := List.getElem?_eq_getElem l1
    have g2 := List.getElem?_eq_getElem l2
    obtain ⟨k1, k2, k3⟩ := st i us h2 _ _ hI g1 g2
    refine ⟨_, ?_, k3.mono fun e h3 k => by rw [x_yes, if_pos rfl]; exact k⟩
    unfold IT.nth; dsimp only; rw [list_at k1, list_at k2]
    show (xs[i]?.bind fun w => ys[i]?.bind fun u => some (W.tup [w, u])) = _
    rw [g1, g2]; rfl
  · rw [cn] at hI ⊢
    obtain ⟨k1, k2, k3⟩ := fn us h2 hI
    refine ⟨?_, k3⟩
    unfold IT.fin; dsimp only; rw [list_at k1, list_at k2]; dsimp only
    rcases Nat.le_total xs.length ys.length with l | l
    · rw [Nat.min_eq_left l, Nat.ble_eq_true_of_le (Nat.le_refl _), Bool.true_or]
    · rw [Nat.min_eq_right l, Nat.ble_eq_true_of_le (Nat.le_refl ys.length), Bool.or_true]
theorem ints_of : ∀ cs : List Int, mapO asI (cs.map W.int) = some cs
  | [] => rfl
  | c :: cs => by rw [List.map_cons, mapO_cons, asI, ints_of cs]
theorem x_sset {r : Nat} {cs : List Int} (g : h.get r = some (.lst (cs.map .int))) (hl : cs.length < 64) : (oSortSet (.loc r) h).Wp P = P (.loc h.n) (h.new (.lst ((setI cs).map .int))) := by
  unfold oSortSet; dsimp only; rw [list_at g]; dsimp only; rw [ints_of]; dsimp only
  rw [need_wp, blt_of hl]; simp
theorem x_min1 {r : Nat} {c : Int} {cs : List Int} (g : h.get r = some (.lst ((c :: cs).map .int))) : (kMin [.loc r] h).Wp P = P (.int (minL c cs)) h := by
  unfold kMin oMin1; dsimp only; rw [list_at g]; dsimp only; rw [ints_of]; rfl
theorem x_max1 {r : Nat} {c : Int} {cs : List Int} (g : h.get r = some (.lst ((c :: cs).map .int))) : (k1 oMax1 [.loc r] h).Wp P = P (.int (maxL c cs)) h := by
  unfold k1 oMax1; dsimp only; rw [list_at g]; dsimp only; rw [ints_of]; rfl
theorem x_sum {r : Nat} {cs : List Int} (g : h.get r = some (.lst (cs.map .int))) : (k1 oSum [.loc r] h).Wp P = P (.int cs.sum) h := by
  unfold k1 oSum; dsimp only; rw [list_at g]; dsimp only; rw [ints_of]; rfl
theorem mGet2_at {p : Nat} {kvs : List (Key × W)} {s : Str} {d w : W} (g : h.get p = some (.dk kvs)) (q : (dGet kvs (.inr s)).getD d = w) : (mGet2 [.loc p, .str s, d] h).Wp P = P w h := by
  unfold mGet2; dsimp only; rw [g]; dsimp only
  show (match dGet kvs (.inr s) with
    | some w => Rs.ok w h
    | none => .ok d h).Wp P = P w h
  subst q
  cases dGet kvs (.inr s) <;> rfl
end
end Fw

set_option Elab.async false
set_option linter.all false
set_option maxRecDepth 100000
set_option maxHeartbeats 1000000
/-! Fw, part Z5: rules of fields, methods, makes, tries; words of heaps. -/
namespace Fw
open PySem
section
variable {e : Env} {h : IH} {P : W → IH → Prop} {cs : List Nat} {f : Str} {a c : Nat} {fs : List (Str × W)} {w : W}
theorem x_fld (g : h.get a = some (.ins c fs)) (hc : cs.contains c = true) (hl : fs.lookup f = some w) : (oFld cs f (.loc a) h).Wp P = P w h := by
  unfold oFld; dsimp only; rw [g]; dsimp only; rw [hc]; dsimp only; rw [hl]; rfl
theorem x_fset {Q : Unit → IH → Prop} (g : h.get a = some (.ins c fs)) (hc : (cs.contains c && Nat.blt fs.length 1000) = true) : (oFSet cs f (.loc a) w h).Wp Q = Q () (h.set a (.ins c (putW f w fs))) := by
  unfold oFSet; dsimp only; rw [g]; dsimp only; rw [hc]; rfl
theorem x_gf {o : EE} {Q : Env → IH → Prop} : (gFld cs f o w e h).Wp Q = (o e h).Wp fun x h => (oFSet cs f x w h).Wp fun _ h => Q e h := by
  unfold gFld
  rw [Rs.Wp_bind]
  congr; funext x h; rw [Rs.Wp_bind]; rfl
def mthK (Φ : FT) (ms : List (Nat × Nat)) (m : Str) (g : EA) (e : Env) (x : W) (h : IH) : Rs W := match x with
  | .loc a => (match h.get a with
    | some (.ins c fs) => (match ms.lookup c with
      | some id => (match (fs.lookup m).isNone with
        | true => (g e h).bind fun ws h => Φ id (x :: ws) h
        | false => .stuck)
      | none => .stuck)
    | _ => .stuck)
  | _ => .stuck
theorem x_meth {Φ : FT} {ms : List (Nat × Nat)} {m : Str} {o : EE} {g : EA} : (eMeth Φ ms m o g e h).Wp P = (o e h).Wp fun x h => (mthK Φ ms m g e x h).Wp P := Rs.Wp_bind
theorem x_mthK {Φ : FT} {ms : List (Nat × Nat)} {m : Str} {g : EA} {id : Nat} (ga : h.get a = some (.ins c fs)) (q : ms.lookup c = some id) (n : (fs.lookup m).isNone = true) : (mthK Φ ms m g e (.loc a) h).Wp P = (g e h).Wp fun ws h => (Φ id (.loc a :: ws) h).Wp P := by
  unfold mthK; dsimp only; rw [ga]; dsimp only; rw [q]; dsimp only; rw [n]; dsimp only; rw [Rs.Wp_bind]
theorem meth_eq {Φ : FT} {ms : List (Nat × Nat)} {m : Str} {o : EE} {g : EA} {id : Nat} {ws : List W} {h1 h2 : IH} (qo : o e h = .ok (.loc a) h1) (ga : h1.get a = some (.ins c fs)) (q : ms.lookup c = some id) (n : (fs.lookup m).isNone = true) (qg : g e h1 = .ok ws h2) : eMeth Φ ms m o g e h = Φ id (.loc a :: ws) h2 := by
  unfold eMeth; rw [qo]; dsimp only [Rs.bind]; rw [ga]; dsimp only; rw [q]; dsimp only; rw [n]; dsimp only; rw [qg]
theorem wp_noExc {α : Type} {r : Rs α} {Q : α → IH → Prop} : (noExc r).Wp Q = r.Wp Q := by cases r <;> rfl
theorem x_make {gk : Str → Option GK} {tab : List Df} (ht : tab.length ≤ 1000000) {k c id : Nat} {g : EA} : (eMake (Phi gk tab (k + 1)) c id g e h).Wp P = (g e h).Wp fun ws h => (Phi gk tab k id (.loc h.n :: ws) (h.new (.ins c []))).Wp fun r h2 => r = .non ∧ P (.loc h.n) h2 := by
  unfold eMake
  rw [Rs.Wp_bind, wp_noExc]
  congr; funext ws h
  unfold mkK
  rw [Rs.Wp_bind, Phi_down ht]
  congr; funext r h2
  cases r <;> simp [Rs.Wp]
/-- the last of a list -/
theorem y_last {b : Nat} {ws : List W} {u : W} (g : h.get b = some (.lst (ws ++ [u]))) : (oIx (.loc b) (.int (-1)) h).Wp P = P u h := x_last g (by simp)
theorem x_neg {i : Int} : (uNeg (.int i) h).Wp P = P (.int (-i)) h := rfl
theorem x_eqSI {a : Str} {i : Int} : (oEq (.int i) (.int i) h).Wp P = P (.bl (decide (i = i))) h := rfl
theorem x_str1 {i : Int} (hi : i.natAbs < 18446744073709551616) : (k1 oStr1 [.int i] h).Wp P = P (.str (Str.ofString (toString i))) h := by
  unfold k1 oStr1
  dsimp only
  have z : Nat.blt i.natAbs 18446744073709551616 = true := blt_of hi
  rw [z]; rfl
theorem x_dictC {kvs : List (Key × W)} {b : Nat} (g : h.get b = some (.dk kvs)) : (k1 oDictC [.loc b] h).Wp P = P (.loc h.n) (h.new (.dk kvs)) := by
  unfold k1 oDictC; dsimp only; rw [g]; rfl
theorem x_listL {ws : List W} {b : Nat} (g : h.get b = some (.lst ws)) : (k1 oList [.loc b] h).Wp P = P (.loc h.n) (h.new (.lst ws)) := by
  unfold k1 oList; dsimp only; rw [list_at g]; rfl
theorem y_pop0 {ws : List W} {u : W} {b : Nat} (g : h.get b = some (.lst (ws ++ [u]))) : (mPop0 [.loc b] h).Wp P = P u (h.set b (.lst ws)) := by
  unfold mPop0; dsimp only; rw [g]; dsimp only
  have e : (ws ++ [u])[(ws ++ [u]).length - 1]? = some u := by simp
  rw [e, List.dropLast_concat]; rfl
/-- statements by equations -/
theorem seq_nx {s t : SS} {e1 : Env} {h1 : IH} (q : s e h = .nx e1 h1) : sSeq s t e h = t e1 h1 := by unfold sSeq; rw [q]
theorem seq_ex {s t : SS} {e1 : Env} {h1 : IH} {c : Nat} (q : s e h = .ex c e1 h1) : sSeq s t e h = .ex c e1 h1 := by unfold sSeq; rw [q]
theorem if_ok {t : ET} {a b : SS} {c : Bool} {h1 : IH} (q : t e h = .ok c h1) : sIf t a b e h = (if c then a e h1 else b e h1) := by
  unfold sIf; rw [q]; cases c <;> rfl
theorem asg_ok {x : EE} {i : Nat} {u : W} {h1 : IH} (q : x e h = .ok u h1) : sAsg x (gNm i) e h = .nx (e.set i (some u)) h1 := by
  unfold sAsg; rw [q]; rfl
theorem expr_exc {x : EE} {c : Nat} {h1 : IH} (q : x e h = .exc c h1) : sExpr x e h = .ex c e h1 := by unfold sExpr; rw [q]; rfl
theorem ok_of {α : Type} {r : Rs α} {x : α} {h1 : IH} (w : r.Wp fun y h' => y = x ∧ h' = h1) : r = .ok x h1 := by
  obtain ⟨y, h', q, e1, e2⟩ := w.ex
  rw [q, e1, e2]
theorem nx_of {r : RS} {e1 : Env} {h1 : IH} (w : r.Wp ⟨fun e' h' => e' = e1 ∧ h' = h1, fun _ _ => False, fun _ _ => False, fun _ _ => False⟩) : r = .nx e1 h1 := by
  cases r with
  | nx e' h' => obtain ⟨a, b⟩ := w; rw [a, b]
  | rt _ _ => exact w.elim
  | bk _ _ => exact w.elim
  | ct _ _ => exact w.elim
  | ex _ _ _ => exact w.elim
  | stuck => exact w.elim
theorem tt_and {A B : Prop} : ((true = true → A) ∧ (true = false → B)) = A := by simp
theorem ff_and {A B : Prop} : ((false = true → A) ∧ (false = false → B)) = B := by simp
theorem nt_and {A B : Prop} : (((!true) = true → A) ∧ ((!true) = false → B)) = B := by simp
theorem nf_and {A B : Prop} : (((!false) = true → A) ∧ ((!false) = false → B)) = A := by simp
theorem is_nn : (oIs .non .non h).Wp P = P (.bl true) h := rfl
theorem is_in {i : Int} : (oIs (.int i) .non h).Wp P = P (.bl false) h := rfl
theorem is_sn {s : Str} : (oIs (.str s) .non h).Wp P = P (.bl false) h := rfl
theorem is_tn {ws : List W} : (oIs (.tup ws) .non h).Wp P = P (.bl false) h := rfl
theorem no_nn : (oIsNot .non .non h).Wp P = P (.bl false) h := rfl
theorem no_in {i : Int} : (oIsNot (.int i) .non h).Wp P = P (.bl true) h := rfl
theorem no_sn {s : Str} : (oIsNot (.str s) .non h).Wp P = P (.bl true) h := rfl
theorem no_tn {ws : List W} : (oIsNot (.tup ws) .non h).Wp P = P (.bl true) h := rfl
theorem eq_ss {s : Str} : (oEq (.str s) (.str s) h).Wp P = P (.bl true) h := by
  show P (.bl (decide (s = s))) h = _
  rw [decide_eq_true rfl]
theorem ne_ss {s : Str} : (oNe (.str s) (.str s) h).Wp P = P (.bl false) h := by
  show P (.bl (!decide (s = s))) h = _
  rw [decide_eq_true rfl]; rfl
theorem eq_sd {s t : Str} (n : decide (s = t) = false) : (oEq (.str s) (.str t) h).Wp P = P (.bl false) h := by
  show P (.bl (decide (s = t))) h = _
  rw [n]
theorem ne_sd {s t : Str} (n : decide (s = t) = false) : (oNe (.str s) (.str t) h).Wp P = P (.bl true) h := by
  show P (.bl (!decide (s = t))) h = _
  rw [n]; rfl
theorem y_asg {x : EE} {N : Env → IH → Prop} {R : W → IH → Prop} {B1 C1 : Env → IH → Prop} {tg : EG} : (sAsg x tg e h).Wp (Dn.mk N R B1 C1) = (x e h).Wp fun w h => (tg w e h).Wp N := x_asg
theorem y_ret {x : EE} {N : Env → IH → Prop} {R : W → IH → Prop} {B1 C1 : Env → IH → Prop} : (sRet x e h).Wp (Dn.mk N R B1 C1) = (x e h).Wp R := x_ret
theorem gs_same {c0 c1 : Cell} (g : h.get a = some c0) : (h.set a c1).get a = some c1 := by rw [IH.get_set _ _ _ _ (IH.get_lt g), if_pos rfl]
theorem gs_ne {b : Nat} {c0 c1 : Cell} (g : h.get a = some c0) (n : b ≠ a) : (h.set a c1).get b = h.get b := by rw [IH.get_set _ _ _ _ (IH.get_lt g), if_neg n]
theorem y_aug {o : EE} {j : Int} {N : Env → IH → Prop} {R : W → IH → Prop} {B1 C1 : Env → IH → Prop} (q : (o e h).Wp fun x h1 => ∃ a c fs i, x = .loc a ∧ h1.get a = some (.ins c fs) ∧ (cs.contains c && Nat.blt fs.length 1000) = true ∧ fs.lookup f = some (.int i) ∧ N e (h1.set a (.ins c (putW f (.int (i + j)) fs)))) :
    (sFldAug cs f true o (eC (.int j)) e h).Wp (Dn.mk N R B1 C1) := by
  unfold sFldAug
  refine W_st (q.mono fun x h1 ⟨a, c, fs, i, ex, g, hc, hl, z⟩ => ?_)
  subst ex
  refine W_st ?_
  rw [x_fld g (Bool.and_eq_true_iff.mp hc).1 hl]
  refine W_st ?_
  rw [x_C]
  dsimp only
  have sc : sameCls (.loc a) h1 h1 = true := by
    unfold sameCls; dsimp only; rw [g]; exact Nat.beq_refl c
  rw [sc]
  refine W_st ?_
  rw [x_fset g hc]
  exact z
end
end Fw

set_option maxRecDepth 100000
set_option maxHeartbeats 0
namespace K85
open PySem PySem.Spec PyProof.Rows L2 Fw
abbrev L : PySem.W.OpenLaw := PySem.Challenge.rw_firstwake_k85_rooms_of_inputs
def md (x : Str) (i : Nat) : Str × Nat := (x, i)
def top (i : Nat) : Stmt := L.prog.main.body.getD i (.Pass ⟨0, 0, 0, 0⟩)
def mk (i : Nat) (x : Str) (ps N : List Str) : Df := ⟨x, x, defArgs (top i), defScope (top i), defBody (top i), ps, N, none⟩
def mkm (i j : Nat) (c x q : Str) (ps N : List Str) : Df := ⟨x, q, defArgs (inClass (top i) j), defScope (inClass (top i) j), defBody (inClass (top i) j), ps, N, some c⟩
def d0 : Df := mk 0 "_wall" ["k"] ["k"]
def d1 : Df := mk 21 "is_integer" ["thing", "least", "most"] ["thing", "least", "most"]
def d2 : Df := mk 22 "has_word" ["thing"] ["thing"]
def d3 : Df := mk 23 "is_slot" ["thing"] ["thing"]
def d4 : Df := mk 24 "is_field" ["units", "unit", "field"] ["units", "unit", "field"]
def d5 : Df := mk 25 "is_instruction" ["units", "callees", "thing", "where"] ["units", "callees", "thing", "where", "word"]
def d6 : Df := mk 26 "is_unit_head" ["thing", "number"] ["thing", "number"]
def d7 : Df := mk 27 "is_function_head" ["units", "thing"] ["units", "thing"]
def d8 : Df := mk 28 "is_program" ["thing"] ["thing", "part", "units", "functions", "number", "unit", "function"]
def d9 : Df := mk 29 "has_instructions" ["units", "functions"] ["units", "functions", "unit", "one", "number", "function", "callees", "place"]
def d10 : Df := mk 30 "need_program" ["program"] ["program"]
def d11 : Df := mk 31 "body_of" ["program", "name"] ["program", "name"]
def d12 : Df := mk 32 "unit_of" ["program", "one"] ["program", "one"]
def d13 : Df := mk 33 "need_unit" ["program", "unit"] ["program", "unit"]
def d14 : Df := mk 34 "is_order" ["program", "thing"] ["program", "thing", "unit"]
def d15 : Df := mk 35 "need_order" ["program", "order"] ["program", "order"]
def d16 : Df := mk 38 "need_starts" ["program", "starts"] ["program", "starts", "one"]
def d17 : Df := mkm 40 0 "Frame" "__init__" "Frame.__init__" ["self", "name", "place"] ["self", "name", "place"]
def d18 : Df := mkm 40 1 "Frame" "copied" "Frame.copied" ["self"] ["self", "other"]
def d19 : Df := mkm 41 0 "Worker" "__init__" "Worker.__init__" ["self", "number", "function", "unit"] ["self", "number", "function", "unit"]
def d20 : Df := mkm 41 1 "Worker" "copied" "Worker.copied" ["self"] ["self", "other", "frame"]
def d21 : Df := mkm 41 2 "Worker" "stack" "Worker.stack" ["self"] ["self"]
def d22 : Df := mkm 42 0 "World" "__init__" "World.__init__" ["self", "program"] ["self", "program", "unit"]
def d23 : Df := mkm 42 1 "World" "copied" "World.copied" ["self"] ["self", "other", "some", "worker"]
def d24 : Df := mkm 42 2 "World" "access_ahead" "World.access_ahead" ["self", "unit"] ["self", "unit", "worker", "one"]
def d25 : Df := mkm 42 3 "World" "next_one" "World.next_one" ["self", "worker"] ["self", "worker", "frame", "body"]
def d26 : Df := mkm 42 4 "World" "next_unit" "World.next_unit" ["self", "worker"] ["self", "worker", "frame", "one"]
def d27 : Df := mkm 42 5 "World" "holder" "World.holder" ["self", "unit"] ["self", "unit", "worker", "some"]
def d28 : Df := mkm 42 6 "World" "stand" "World.stand" ["self", "worker"] ["self", "worker", "unit", "one"]
def d29 : Df := mkm 42 7 "World" "wake" "World.wake" ["self", "worker", "unit"] ["self", "worker", "unit"]
def d30 : Df := mkm 42 8 "World" "fail" "World.fail" ["self", "worker"] ["self", "worker", "one", "frame"]
def d31 : Df := mkm 42 9 "World" "move" "World.move" ["self", "worker"] ["self", "worker", "unit", "frame"]
def d32 : Df := mkm 42 10 "World" "leave" "World.leave" ["self", "worker"] ["self", "worker", "frame"]
def d33 : Df := mkm 42 11 "World" "execute" "World.execute" ["self", "worker", "one"] ["self", "worker", "one", "frame"]
def d34 : Df := mkm 42 12 "World" "simple" "World.simple" ["self", "worker", "one"] ["self", "worker", "one", "slots"]
def d35 : Df := mk 43 "held_by" ["number"] ["number"]
def d36 : Df := mk 44 "reason_of" ["worker"] ["worker", "found", "frame"]
def d37 : Df := mkm 45 0 "Machine" "__init__" "Machine.__init__" ["self", "program", "starts", "ahead"] ["self", "program", "starts", "ahead", "unit", "number", "function"]
def d38 : Df := mkm 45 1 "Machine" "worker" "Machine.worker" ["self", "thread"] ["self", "thread"]
def d39 : Df := mkm 45 2 "Machine" "feed" "Machine.feed" ["self", "thread", "number"] ["self", "thread", "number", "worker"]
def d40 : Df := mkm 45 3 "Machine" "step" "Machine.step" ["self", "thread"] ["self", "thread", "worker", "one", "is_choice"]
def d41 : Df := mkm 45 4 "Machine" "output" "Machine.output" ["self", "thread"] ["self", "thread"]
def d42 : Df := mkm 45 5 "Machine" "stands" "Machine.stands" ["self", "thread"] ["self", "thread"]
def d43 : Df := mkm 45 6 "Machine" "state" "Machine.state" ["self"] ["self"]
def d44 : Df := mkm 45 7 "Machine" "schedule" "Machine.schedule" ["self"] ["self"]
def d45 : Df := mkm 45 8 "Machine" "why" "Machine.why" ["self", "unit"] ["self", "unit"]
def d46 : Df := mkm 45 9 "Machine" "blocker" "Machine.blocker" ["self", "thread"] ["self", "thread"]
def d47 : Df := mkm 45 10 "Machine" "cycle" "Machine.cycle" ["self"] ["self"]
def d48 : Df := mkm 45 11 "Machine" "mark" "Machine.mark" ["self"] ["self"]
def d49 : Df := mkm 45 12 "Machine" "back" "Machine.back" ["self", "number"] ["self", "number"]
def d50 : Df := mk 47 "_law_spread" ["cell", "at"] ["cell", "at", "primes", "one", "two", "three"]
def d51 : Df := mk 48 "_law_open" ["script"] ["script", "cells", "k", "cell"]
def d52 : Df := mk 49 "_law_take" ["pen", "many"] ["pen", "many", "at", "cell", "found"]
def d53 : Df := mk 50 "_law_w_pick" ["pen", "some"] ["pen", "some"]
def d54 : Df := mk 51 "_law_w_fed" ["machine", "thread", "number"] ["machine", "thread", "number"]
def d55 : Df := mk 52 "_law_w_feeds_right" ["pen", "machine", "thread", "counts"] ["pen", "machine", "thread", "counts", "turn", "odd", "found"]
def d56 : Df := mk 53 "_law_w_taken_right" ["machine", "thread", "count"] ["machine", "thread", "count", "turn"]
def d57 : Df := mk 54 "law" ["script"] ["script", "pen", "program", "turn", "starts", "machine", "counts", "marks", "way", "thread", "number", "again", "function"]
def tab : List Df := [d0, d1, d2, d3, d4, d5, d6, d7, d8, d9, d10, d11, d12, d13, d14, d15, d16, d17, d18, d19, d20, d21, d22, d23, d24, d25, d26, d27, d28, d29, d30, d31, d32, d33, d34, d35, d36, d37, d38, d39, d40, d41, d42, d43, d44, d45, d46, d47, d48, d49, d50, d51, d52, d53, d54, d55, d56, d57]
def xs : List Str := ["NoProgram", "NoOrder", "NoUnit", "NoNumber", "NoStarts", "NoMove", "NoRoom", "Frame", "Worker", "World", "Machine"]
def cd0 : Cd := ⟨7, "Frame", ["name", "place", "slots"], [md "__init__" 17, md "copied" 18]⟩
def cd1 : Cd := ⟨8, "Worker", ["number", "function", "unit", "frames", "inputs", "fed", "outputs", "end"], [md "__init__" 19, md "copied" 20, md "stack" 21]⟩
def cd2 : Cd := ⟨9, "World", ["program", "statuses", "numbers", "reasons", "workers", "moves"], [md "__init__" 22, md "copied" 23, md "access_ahead" 24, md "next_one" 25, md "next_unit" 26, md "holder" 27, md "stand" 28, md "wake" 29, md "fail" 30, md "move" 31, md "leave" 32, md "execute" 33, md "simple" 34]⟩
def cd3 : Cd := ⟨10, "Machine", ["world", "marks"], [md "__init__" 37, md "worker" 38, md "feed" 39, md "step" 40, md "output" 41, md "stands" 42, md "state" 43, md "schedule" 44, md "why" 45, md "blocker" 46, md "cycle" 47, md "mark" 48, md "back" 49]⟩
def ds0 : List (Nat × Bool) := [(0, true), (1, false), (2, false), (3, false), (4, false), (5, false), (6, false)]
def ds1 : List (Nat × Bool) := [(0, false), (1, true), (2, false), (3, false), (4, false), (5, false), (6, false)]
def ds2 : List (Nat × Bool) := [(0, false), (1, false), (2, true), (3, false), (4, false), (5, false), (6, false)]
def ds3 : List (Nat × Bool) := [(0, false), (1, false), (2, false), (3, true), (4, false), (5, false), (6, false)]
def ds4 : List (Nat × Bool) := [(0, false), (1, false), (2, false), (3, false), (4, true), (5, false), (6, false)]
def ds5 : List (Nat × Bool) := [(0, false), (1, false), (2, false), (3, false), (4, false), (5, true), (6, false)]
def ds6 : List (Nat × Bool) := [(0, false), (1, false), (2, false), (3, false), (4, false), (5, false), (6, true)]
def en (x : Str) (g : GK) : Str × GK := (x, g)
def kv (x : Str) (i : Int) : Str × Int := (x, i)
def gs : List (Str × GK) := [en "" (.ct [cd0, cd1, cd2, cd3]),
  en "Frame" (.cls 7 17),
  en "Worker" (.cls 8 19),
  en "World" (.cls 9 22),
  en "Machine" (.cls 10 37),
  en "_wall" (.fn 0),
  en "is_integer" (.fn 1),
  en "has_word" (.fn 2),
  en "is_slot" (.fn 3),
  en "is_field" (.fn 4),
  en "is_instruction" (.fn 5),
  en "is_unit_head" (.fn 6),
  en "is_function_head" (.fn 7),
  en "is_program" (.fn 8),
  en "has_instructions" (.fn 9),
  en "need_program" (.fn 10),
  en "body_of" (.fn 11),
  en "unit_of" (.fn 12),
  en "need_unit" (.fn 13),
  en "is_order" (.fn 14),
  en "need_order" (.fn 15),
  en "need_starts" (.fn 16),
  en "held_by" (.fn 35),
  en "reason_of" (.fn 36),
  en "_law_spread" (.fn 50),
  en "_law_open" (.fn 51),
  en "_law_take" (.fn 52),
  en "_law_w_pick" (.fn 53),
  en "_law_w_fed" (.fn 54),
  en "_law_w_feeds_right" (.fn 55),
  en "_law_w_taken_right" (.fn 56),
  en "law" (.fn 57),
  en "MOST_NUMBER" (.con (.int 65535)),
  en "MOST_UNITS" (.con (.int 6)),
  en "MOST_FIELDS" (.con (.int 3)),
  en "MOST_INITIALIZER" (.con (.int 6)),
  en "MOST_FUNCTIONS" (.con (.int 4)),
  en "MOST_BODY" (.con (.int 8)),
  en "MOST_SLOT" (.con (.int 2)),
  en "MOST_INPUTS" (.con (.int 100)),
  en "SIZES" (.kd [kv "number" 3, kv "copy" 3, kv "add" 3, kv "read" 4, kv "write" 4, kv "fail" 1, kv "input" 2, kv "show" 2, kv "branch" 2, kv "call" 2, kv "wake" 3]),
  en "STRAIGHT" (.con (.tup [.str "number", .str "copy", .str "add", .str "read", .str "write", .str "fail"])),
  en "MOST_THREADS" (.con (.int 3)),
  en "NoProgram" (.exc 0 ds0),
  en "NoOrder" (.exc 1 ds1),
  en "NoUnit" (.exc 2 ds2),
  en "NoNumber" (.exc 3 ds3),
  en "NoStarts" (.exc 4 ds4),
  en "NoMove" (.exc 5 ds5),
  en "NoRoom" (.exc 6 ds6),
  en "all" .bt,
  en "bool" .bt,
  en "dict" .bt,
  en "enumerate" .bt,
  en "int" .bt,
  en "isinstance" .bt,
  en "len" .bt,
  en "list" .bt,
  en "range" .bt,
  en "set" .bt,
  en "str" .bt,
  en "tuple" .bt]
abbrev gk : Str → Option GK := fun x => gs.lookup x
theorem b0 : bindOk d0 := by
  intro _ _ _ _ _ _ us hl
  match us, hl with
  | [_], _ => kernel_rfl
theorem s0 : FnScope d0.N d0.ps d0.scope := ⟨by kernel_rfl, by kernel_rfl, by kernel_rfl, by decide +kernel, by kernel_rfl, by decide +kernel, by decide +kernel⟩
theorem b1 : bindOk d1 := by
  intro _ _ _ _ _ _ us hl
  match us, hl with
  | [_, _, _], _ => kernel_rfl
theorem s1 : FnScope d1.N d1.ps d1.scope := ⟨by kernel_rfl, by kernel_rfl, by kernel_rfl, by decide +kernel, by kernel_rfl, by decide +kernel, by decide +kernel⟩
theorem b2 : bindOk d2 := by
  intro _ _ _ _ _ _ us hl
  match us, hl with
  | [_], _ => kernel_rfl
theorem s2 : FnScope d2.N d2.ps d2.scope := ⟨by kernel_rfl, by kernel_rfl, by kernel_rfl, by decide +kernel, by kernel_rfl, by decide +kernel, by decide +kernel⟩
theorem b3 : bindOk d3 := by
  intro _ _ _ _ _ _ us hl
  match us, hl with
  | [_], _ => kernel_rfl
theorem s3 : FnScope d3.N d3.ps d3.scope := ⟨by kernel_rfl, by kernel_rfl, by kernel_rfl, by decide +kernel, by kernel_rfl, by decide +kernel, by decide +kernel⟩
theorem b4 : bindOk d4 := by
  intro _ _ _ _ _ _ us hl
  match us, hl with
  | [_, _, _], _ => kernel_rfl
theorem s4 : FnScope d4.N d4.ps d4.scope := ⟨by kernel_rfl, by kernel_rfl, by kernel_rfl, by decide +kernel, by kernel_rfl, by decide +kernel, by decide +kernel⟩
theorem b5 : bindOk d5 := by
  intro _ _ _ _ _ _ us hl
  match us, hl with
  | [_, _, _, _], _ => kernel_rfl
theorem s5 : FnScope d5.N d5.ps d5.scope := ⟨by kernel_rfl, by kernel_rfl, by kernel_rfl, by decide +kernel, by kernel_rfl, by decide +kernel, by decide +kernel⟩
theorem b6 : bindOk d6 := by
  intro _ _ _ _ _ _ us hl
  match us, hl with
  | [_, _], _ => kernel_rfl
theorem s6 : FnScope d6.N d6.ps d6.scope := ⟨by kernel_rfl, by kernel_rfl, by kernel_rfl, by decide +kernel, by kernel_rfl, by decide +kernel, by decide +kernel⟩
theorem b7 : bindOk d7 := by
  intro _ _ _ _ _ _ us hl
  match us, hl with
  | [_, _], _ => kernel_rfl
theorem s7 : FnScope d7.N d7.ps d7.scope := ⟨by kernel_rfl, by kernel_rfl, by kernel_rfl, by decide +kernel, by kernel_rfl, by decide +kernel, by decide +kernel⟩
theorem b8 : bindOk d8 := by
  intro _ _ _ _ _ _ us hl
  match us, hl with
  | [_], _ => kernel_rfl
theorem s8 : FnScope d8.N d8.ps d8.scope := ⟨by kernel_rfl, by kernel_rfl, by kernel_rfl, by decide +kernel, by kernel_rfl, by decide +kernel, by decide +kernel⟩
theorem b9 : bindOk d9 := by
  intro _ _ _ _ _ _ us hl
  match us, hl with
  | [_, _], _ => kernel_rfl
theorem s9 : FnScope d9.N d9.ps d9.scope := ⟨by kernel_rfl, by kernel_rfl, by kernel_rfl, by decide +kernel, by kernel_rfl, by decide +kernel, by decide +kernel⟩
theorem b10 : bindOk d10 := by
  intro _ _ _ _ _ _ us hl
  match us, hl with
  | [_], _ => kernel_rfl
theorem s10 : FnScope d10.N d10.ps d10.scope := ⟨by kernel_rfl, by kernel_rfl, by kernel_rfl, by decide +kernel, by kernel_rfl, by decide +kernel, by decide +kernel⟩
theorem b11 : bindOk d11 := by
  intro _ _ _ _ _ _ us hl
  match us, hl with
  | [_, _], _ => kernel_rfl
theorem s11 : FnScope d11.N d11.ps d11.scope := ⟨by kernel_rfl, by kernel_rfl, by kernel_rfl, by decide +kernel, by kernel_rfl, by decide +kernel, by decide +kernel⟩
theorem b12 : bindOk d12 := by
  intro _ _ _ _ _ _ us hl
  match us, hl with
  | [_, _], _ => kernel_rfl
theorem s12 : FnScope d12.N d12.ps d12.scope := ⟨by kernel_rfl, by kernel_rfl, by kernel_rfl, by decide +kernel, by kernel_rfl, by decide +kernel, by decide +kernel⟩
theorem b13 : bindOk d13 := by
  intro _ _ _ _ _ _ us hl
  match us, hl with
  | [_, _], _ => kernel_rfl
theorem s13 : FnScope d13.N d13.ps d13.scope := ⟨by kernel_rfl, by kernel_rfl, by kernel_rfl, by decide +kernel, by kernel_rfl, by decide +kernel, by decide +kernel⟩
theorem b14 : bindOk d14 := by
  intro _ _ _ _ _ _ us hl
  match us, hl with
  | [_, _], _ => kernel_rfl
theorem s14 : FnScope d14.N d14.ps d14.scope := ⟨by kernel_rfl, by kernel_rfl, by kernel_rfl, by decide +kernel, by kernel_rfl, by decide +kernel, by decide +kernel⟩
theorem b15 : bindOk d15 := by
  intro _ _ _ _ _ _ us hl
  match us, hl with
  | [_, _], _ => kernel_rfl
theorem s15 : FnScope d15.N d15.ps d15.scope := ⟨by kernel_rfl, by kernel_rfl, by kernel_rfl, by decide +kernel, by kernel_rfl, by decide +kernel, by decide +kernel⟩
theorem b16 : bindOk d16 := by
  intro _ _ _ _ _ _ us hl
  match us, hl with
  | [_, _], _ => kernel_rfl
theorem s16 : FnScope d16.N d16.ps d16.scope := ⟨by kernel_rfl, by kernel_rfl, by kernel_rfl, by decide +kernel, by kernel_rfl, by decide +kernel, by decide +kernel⟩
theorem b17 : bindOk d17 := by
  intro _ _ _ _ _ _ us hl
  match us, hl with
  | [_, _, _], _ => kernel_rfl
theorem s17 : FnScope d17.N d17.ps d17.scope := ⟨by kernel_rfl, by kernel_rfl, by kernel_rfl, by decide +kernel, by kernel_rfl, by decide +kernel, by decide +kernel⟩
theorem b18 : bindOk d18 := by
  intro _ _ _ _ _ _ us hl
  match us, hl with
  | [_], _ => kernel_rfl
theorem s18 : FnScope d18.N d18.ps d18.scope := ⟨by kernel_rfl, by kernel_rfl, by kernel_rfl, by decide +kernel, by kernel_rfl, by decide +kernel, by decide +kernel⟩
theorem b19 : bindOk d19 := by
  intro _ _ _ _ _ _ us hl
  match us, hl with
  | [_, _, _, _], _ => kernel_rfl
theorem s19 : FnScope d19.N d19.ps d19.scope := ⟨by kernel_rfl, by kernel_rfl, by kernel_rfl, by decide +kernel, by kernel_rfl, by decide +kernel, by decide +kernel⟩
theorem b20 : bindOk d20 := by
  intro _ _ _ _ _ _ us hl
  match us, hl with
  | [_], _ => kernel_rfl
theorem s20 : FnScope d20.N d20.ps d20.scope := ⟨by kernel_rfl, by kernel_rfl, by kernel_rfl, by decide +kernel, by kernel_rfl, by decide +kernel, by decide +kernel⟩
theorem b21 : bindOk d21 := by
  intro _ _ _ _ _ _ us hl
  match us, hl with
  | [_], _ => kernel_rfl
theorem s21 : FnScope d21.N d21.ps d21.scope := ⟨by kernel_rfl, by kernel_rfl, by kernel_rfl, by decide +kernel, by kernel_rfl, by decide +kernel, by decide +kernel⟩
theorem b22 : bindOk d22 := by
  intro _ _ _ _ _ _ us hl
  match us, hl with
  | [_, _], _ => kernel_rfl
theorem s22 : FnScope d22.N d22.ps d22.scope := ⟨by kernel_rfl, by kernel_rfl, by kernel_rfl, by decide +kernel, by kernel_rfl, by decide +kernel, by decide +kernel⟩
theorem b23 : bindOk d23 := by
  intro _ _ _ _ _ _ us hl
  match us, hl with
  | [_], _ => kernel_rfl
theorem s23 : FnScope d23.N d23.ps d23.scope := ⟨by kernel_rfl, by kernel_rfl, by kernel_rfl, by decide +kernel, by kernel_rfl, by decide +kernel, by decide +kernel⟩
theorem b24 : bindOk d24 := by
  intro _ _ _ _ _ _ us hl
  match us, hl with
  | [_, _], _ => kernel_rfl
theorem s24 : FnScope d24.N d24.ps d24.scope := ⟨by kernel_rfl, by kernel_rfl, by kernel_rfl, by decide +kernel, by kernel_rfl, by decide +kernel, by decide +kernel⟩
theorem b25 : bindOk d25 := by
  intro _ _ _ _ _ _ us hl
  match us, hl with
  | [_, _], _ => kernel_rfl
theorem s25 : FnScope d25.N d25.ps d25.scope := ⟨by kernel_rfl, by kernel_rfl, by kernel_rfl, by decide +kernel, by kernel_rfl, by decide +kernel, by decide +kernel⟩
theorem b26 : bindOk d26 := by
  intro _ _ _ _ _ _ us hl
  match us, hl with
  | [_, _], _ => kernel_rfl
theorem s26 : FnScope d26.N d26.ps d26.scope := ⟨by kernel_rfl, by kernel_rfl, by kernel_rfl, by decide +kernel, by kernel_rfl, by decide +kernel, by decide +kernel⟩
theorem b27 : bindOk d27 := by
  intro _ _ _ _ _ _ us hl
  match us, hl with
  | [_, _], _ => kernel_rfl
theorem s27 : FnScope d27.N d27.ps d27.scope := ⟨by kernel_rfl, by kernel_rfl, by kernel_rfl, by decide +kernel, by kernel_rfl, by decide +kernel, by decide +kernel⟩
theorem b28 : bindOk d28 := by
  intro _ _ _ _ _ _ us hl
  match us, hl with
  | [_, _], _ => kernel_rfl
theorem s28 : FnScope d28.N d28.ps d28.scope := ⟨by kernel_rfl, by kernel_rfl, by kernel_rfl, by decide +kernel, by kernel_rfl, by decide +kernel, by decide +kernel⟩
theorem b29 : bindOk d29 := by
  intro _ _ _ _ _ _ us hl
  match us, hl with
  | [_, _, _], _ => kernel_rfl
theorem s29 : FnScope d29.N d29.ps d29.scope := ⟨by kernel_rfl, by kernel_rfl, by kernel_rfl, by decide +kernel, by kernel_rfl, by decide +kernel, by decide +kernel⟩
theorem b30 : bindOk d30 := by
  intro _ _ _ _ _ _ us hl
  match us, hl with
  | [_, _], _ => kernel_rfl
theorem s30 : FnScope d30.N d30.ps d30.scope := ⟨by kernel_rfl, by kernel_rfl, by kernel_rfl, by decide +kernel, by kernel_rfl, by decide +kernel, by decide +kernel⟩
theorem b31 : bindOk d31 := by
  intro _ _ _ _ _ _ us hl
  match us, hl with
  | [_, _], _ => kernel_rfl
theorem s31 : FnScope d31.N d31.ps d31.scope := ⟨by kernel_rfl, by kernel_rfl, by kernel_rfl, by decide +kernel, by kernel_rfl, by decide +kernel, by decide +kernel⟩
theorem b32 : bindOk d32 := by
  intro _ _ _ _ _ _ us hl
  match us, hl with
  | [_, _], _ => kernel_rfl
theorem s32 : FnScope d32.N d32.ps d32.scope := ⟨by kernel_rfl, by kernel_rfl, by kernel_rfl, by decide +kernel, by kernel_rfl, by decide +kernel, by decide +kernel⟩
theorem b33 : bindOk d33 := by
  intro _ _ _ _ _ _ us hl
  match us, hl with
  | [_, _, _], _ => kernel_rfl
theorem s33 : FnScope d33.N d33.ps d33.scope := ⟨by kernel_rfl, by kernel_rfl, by kernel_rfl, by decide +kernel, by kernel_rfl, by decide +kernel, by decide +kernel⟩
theorem b34 : bindOk d34 := by
  intro _ _ _ _ _ _ us hl
  match us, hl with
  | [_, _, _], _ => kernel_rfl
theorem s34 : FnScope d34.N d34.ps d34.scope := ⟨by kernel_rfl, by kernel_rfl, by kernel_rfl, by decide +kernel, by kernel_rfl, by decide +kernel, by decide +kernel⟩
theorem b35 : bindOk d35 := by
  intro _ _ _ _ _ _ us hl
  match us, hl with
  | [_], _ => kernel_rfl
theorem s35 : FnScope d35.N d35.ps d35.scope := ⟨by kernel_rfl, by kernel_rfl, by kernel_rfl, by decide +kernel, by kernel_rfl, by decide +kernel, by decide +kernel⟩
theorem b36 : bindOk d36 := by
  intro _ _ _ _ _ _ us hl
  match us, hl with
  | [_], _ => kernel_rfl
theorem s36 : FnScope d36.N d36.ps d36.scope := ⟨by kernel_rfl, by kernel_rfl, by kernel_rfl, by decide +kernel, by kernel_rfl, by decide +kernel, by decide +kernel⟩
theorem b37 : bindOk d37 := by
  intro _ _ _ _ _ _ us hl
  match us, hl with
  | [_, _, _, _], _ => kernel_rfl
theorem s37 : FnScope d37.N d37.ps d37.scope := ⟨by kernel_rfl, by kernel_rfl, by kernel_rfl, by decide +kernel, by kernel_rfl, by decide +kernel, by decide +kernel⟩
theorem b38 : bindOk d38 := by
  intro _ _ _ _ _ _ us hl
  match us, hl with
  | [_, _], _ => kernel_rfl
theorem s38 : FnScope d38.N d38.ps d38.scope := ⟨by kernel_rfl, by kernel_rfl, by kernel_rfl, by decide +kernel, by kernel_rfl, by decide +kernel, by decide +kernel⟩
theorem b39 : bindOk d39 := by
  intro _ _ _ _ _ _ us hl
  match us, hl with
  | [_, _, _], _ => kernel_rfl
theorem s39 : FnScope d39.N d39.ps d39.scope := ⟨by kernel_rfl, by kernel_rfl, by kernel_rfl, by decide +kernel, by kernel_rfl, by decide +kernel, by decide +kernel⟩
theorem b40 : bindOk d40 := by
  intro _ _ _ _ _ _ us hl
  match us, hl with
  | [_, _], _ => kernel_rfl
theorem s40 : FnScope d40.N d40.ps d40.scope := ⟨by kernel_rfl, by kernel_rfl, by kernel_rfl, by decide +kernel, by kernel_rfl, by decide +kernel, by decide +kernel⟩
theorem b41 : bindOk d41 := by
  intro _ _ _ _ _ _ us hl
  match us, hl with
  | [_, _], _ => kernel_rfl
theorem s41 : FnScope d41.N d41.ps d41.scope := ⟨by kernel_rfl, by kernel_rfl, by kernel_rfl, by decide +kernel, by kernel_rfl, by decide +kernel, by decide +kernel⟩
theorem b42 : bindOk d42 := by
  intro _ _ _ _ _ _ us hl
  match us, hl with
  | [_, _], _ => kernel_rfl
theorem s42 : FnScope d42.N d42.ps d42.scope := ⟨by kernel_rfl, by kernel_rfl, by kernel_rfl, by decide +kernel, by kernel_rfl, by decide +kernel, by decide +kernel⟩
theorem b43 : bindOk d43 := by
  intro _ _ _ _ _ _ us hl
  match us, hl with
  | [_], _ => kernel_rfl
theorem s43 : FnScope d43.N d43.ps d43.scope := ⟨by kernel_rfl, by kernel_rfl, by kernel_rfl, by decide +kernel, by kernel_rfl, by decide +kernel, by decide +kernel⟩
theorem b44 : bindOk d44 := by
  intro _ _ _ _ _ _ us hl
  match us, hl with
  | [_], _ => kernel_rfl
theorem s44 : FnScope d44.N d44.ps d44.scope := ⟨by kernel_rfl, by kernel_rfl, by kernel_rfl, by decide +kernel, by kernel_rfl, by decide +kernel, by decide +kernel⟩
theorem b45 : bindOk d45 := by
  intro _ _ _ _ _ _ us hl
  match us, hl with
  | [_, _], _ => kernel_rfl
theorem s45 : FnScope d45.N d45.ps d45.scope := ⟨by kernel_rfl, by kernel_rfl, by kernel_rfl, by decide +kernel, by kernel_rfl, by decide +kernel, by decide +kernel⟩
theorem b46 : bindOk d46 := by
  intro _ _ _ _ _ _ us hl
  match us, hl with
  | [_, _], _ => kernel_rfl
theorem s46 : FnScope d46.N d46.ps d46.scope := ⟨by kernel_rfl, by kernel_rfl, by kernel_rfl, by decide +kernel, by kernel_rfl, by decide +kernel, by decide +kernel⟩
theorem b47 : bindOk d47 := by
  intro _ _ _ _ _ _ us hl
  match us, hl with
  | [_], _ => kernel_rfl
theorem s47 : FnScope d47.N d47.ps d47.scope := ⟨by kernel_rfl, by kernel_rfl, by kernel_rfl, by decide +kernel, by kernel_rfl, by decide +kernel, by decide +kernel⟩
theorem b48 : bindOk d48 := by
  intro _ _ _ _ _ _ us hl
  match us, hl with
  | [_], _ => kernel_rfl
theorem s48 : FnScope d48.N d48.ps d48.scope := ⟨by kernel_rfl, by kernel_rfl, by kernel_rfl, by decide +kernel, by kernel_rfl, by decide +kernel, by decide +kernel⟩
theorem b49 : bindOk d49 := by
  intro _ _ _ _ _ _ us hl
  match us, hl with
  | [_, _], _ => kernel_rfl
theorem s49 : FnScope d49.N d49.ps d49.scope := ⟨by kernel_rfl, by kernel_rfl, by kernel_rfl, by decide +kernel, by kernel_rfl, by decide +kernel, by decide +kernel⟩
theorem b50 : bindOk d50 := by
  intro _ _ _ _ _ _ us hl
  match us, hl with
  | [_, _], _ => kernel_rfl
theorem s50 : FnScope d50.N d50.ps d50.scope := ⟨by kernel_rfl, by kernel_rfl, by kernel_rfl, by decide +kernel, by kernel_rfl, by decide +kernel, by decide +kernel⟩
theorem b51 : bindOk d51 := by
  intro _ _ _ _ _ _ us hl
  match us, hl with
  | [_], _ => kernel_rfl
theorem s51 : FnScope d51.N d51.ps d51.scope := ⟨by kernel_rfl, by kernel_rfl, by kernel_rfl, by decide +kernel, by kernel_rfl, by decide +kernel, by decide +kernel⟩
theorem b52 : bindOk d52 := by
  intro _ _ _ _ _ _ us hl
  match us, hl with
  | [_, _], _ => kernel_rfl
theorem s52 : FnScope d52.N d52.ps d52.scope := ⟨by kernel_rfl, by kernel_rfl, by kernel_rfl, by decide +kernel, by kernel_rfl, by decide +kernel, by decide +kernel⟩
theorem b53 : bindOk d53 := by
  intro _ _ _ _ _ _ us hl
  match us, hl with
  | [_, _], _ => kernel_rfl
theorem s53 : FnScope d53.N d53.ps d53.scope := ⟨by kernel_rfl, by kernel_rfl, by kernel_rfl, by decide +kernel, by kernel_rfl, by decide +kernel, by decide +kernel⟩
theorem b54 : bindOk d54 := by
  intro _ _ _ _ _ _ us hl
  match us, hl with
  | [_, _, _], _ => kernel_rfl
theorem s54 : FnScope d54.N d54.ps d54.scope := ⟨by kernel_rfl, by kernel_rfl, by kernel_rfl, by decide +kernel, by kernel_rfl, by decide +kernel, by decide +kernel⟩
theorem b55 : bindOk d55 := by
  intro _ _ _ _ _ _ us hl
  match us, hl with
  | [_, _, _, _], _ => kernel_rfl
theorem s55 : FnScope d55.N d55.ps d55.scope := ⟨by kernel_rfl, by kernel_rfl, by kernel_rfl, by decide +kernel, by kernel_rfl, by decide +kernel, by decide +kernel⟩
theorem b56 : bindOk d56 := by
  intro _ _ _ _ _ _ us hl
  match us, hl with
  | [_, _, _], _ => kernel_rfl
theorem s56 : FnScope d56.N d56.ps d56.scope := ⟨by kernel_rfl, by kernel_rfl, by kernel_rfl, by decide +kernel, by kernel_rfl, by decide +kernel, by decide +kernel⟩
theorem b57 : bindOk d57 := by
  intro _ _ _ _ _ _ us hl
  match us, hl with
  | [_], _ => kernel_rfl
theorem s57 : FnScope d57.N d57.ps d57.scope := ⟨by kernel_rfl, by kernel_rfl, by kernel_rfl, by decide +kernel, by kernel_rfl, by decide +kernel, by decide +kernel⟩
theorem all_ : ∀ d ∈ tab, FnScope d.N d.ps d.scope ∧ bindOk d := by
  intro d h
  simp only [tab, List.mem_cons, List.not_mem_nil, or_false] at h
  rcases h with h | h | h | h | h | h | h | h | h | h | h | h | h | h | h | h | h | h | h | h | h | h | h | h | h | h | h | h | h | h | h | h | h | h | h | h | h | h | h | h | h | h | h | h | h | h | h | h | h | h | h | h | h | h | h | h | h | h
  · subst h; exact ⟨s0, b0⟩
  · subst h; exact ⟨s1, b1⟩
  · subst h; exact ⟨s2, b2⟩
  · subst h; exact ⟨s3, b3⟩
  · subst h; exact ⟨s4, b4⟩
  · subst h; exact ⟨s5, b5⟩
  · subst h; exact ⟨s6, b6⟩
  · subst h; exact ⟨s7, b7⟩
  · subst h; exact ⟨s8, b8⟩
  · subst h; exact ⟨s9, b9⟩
  · subst h; exact ⟨s10, b10⟩
  · subst h; exact ⟨s11, b11⟩
  · subst h; exact ⟨s12, b12⟩
  · subst h; exact ⟨s13, b13⟩
  · subst h; exact ⟨s14, b14⟩
  · subst h; exact ⟨s15, b15⟩
  · subst h; exact ⟨s16, b16⟩
  · subst h; exact ⟨s17, b17⟩
  · subst h; exact ⟨s18, b18⟩
  · subst h; exact ⟨s19, b19⟩
  · subst h; exact ⟨s20, b20⟩
  · subst h; exact ⟨s21, b21⟩
  · subst h; exact ⟨s22, b22⟩
  · subst h; exact ⟨s23, b23⟩
  · subst h; exact ⟨s24, b24⟩
  · subst h; exact ⟨s25, b25⟩
  · subst h; exact ⟨s26, b26⟩
  · subst h; exact ⟨s27, b27⟩
  · subst h; exact ⟨s28, b28⟩
  · subst h; exact ⟨s29, b29⟩
  · subst h; exact ⟨s30, b30⟩
  · subst h; exact ⟨s31, b31⟩
  · subst h; exact ⟨s32, b32⟩
  · subst h; exact ⟨s33, b33⟩
  · subst h; exact ⟨s34, b34⟩
  · subst h; exact ⟨s35, b35⟩
  · subst h; exact ⟨s36, b36⟩
  · subst h; exact ⟨s37, b37⟩
  · subst h; exact ⟨s38, b38⟩
  · subst h; exact ⟨s39, b39⟩
  · subst h; exact ⟨s40, b40⟩
  · subst h; exact ⟨s41, b41⟩
  · subst h; exact ⟨s42, b42⟩
  · subst h; exact ⟨s43, b43⟩
  · subst h; exact ⟨s44, b44⟩
  · subst h; exact ⟨s45, b45⟩
  · subst h; exact ⟨s46, b46⟩
  · subst h; exact ⟨s47, b47⟩
  · subst h; exact ⟨s48, b48⟩
  · subst h; exact ⟨s49, b49⟩
  · subst h; exact ⟨s50, b50⟩
  · subst h; exact ⟨s51, b51⟩
  · subst h; exact ⟨s52, b52⟩
  · subst h; exact ⟨s53, b53⟩
  · subst h; exact ⟨s54, b54⟩
  · subst h; exact ⟨s55, b55⟩
  · subst h; exact ⟨s56, b56⟩
  · subst h; exact ⟨s57, b57⟩
theorem gsok : gsB gs tab xs = true := by kernel_rfl
def lawId : Nat := 57
def lawAt : Nat := 54
def o0 : List Str := ["_wall", "WakeError", "NoProgram", "NoOrder", "NoUnit", "NoNumber", "NoStarts", "NoMove", "NoRoom", "MOST_NUMBER", "MOST_UNITS", "MOST_FIELDS", "MOST_INITIALIZER", "MOST_FUNCTIONS", "MOST_BODY", "MOST_SLOT", "MOST_INPUTS", "SIZES", "STRAIGHT", "is_integer", "has_word", "is_slot", "is_field", "is_instruction", "is_unit_head", "is_function_head", "is_program", "has_instructions", "need_program", "body_of"]
def o1 : List Str := ["unit_of", "need_unit", "is_order", "need_order", "MOST_THREADS", "need_starts", "Frame", "Worker", "World", "held_by", "reason_of", "Machine", "_law_spread", "_law_open", "_law_take", "_law_w_pick", "_law_w_fed", "_law_w_feeds_right", "_law_w_taken_right"]
def loose : List Str := o0 ++ o1
abbrev R : PySem.W.OpenRow := PySem.W.OpenLaw.row L
abbrev hk : PySem.W.Hook := hookF 6 gs xs tab
def ob (s : PySem.W.SharedT) : AlF × Bool := obsFG 6 gs xs tab (HandSHeadRun.getT s)
theorem ob_eq (s : PySem.W.SharedT) : ob s = hk.obs s.abs := obsFG_eq (HandSHeadRun.getT_eq s)
abbrev RunP (w : World) : Prop := HandSHeadRun.RunEq R (PySem.W.view R.prog [54]) hk ob 6000 loose w
theorem run0 (w : World) : RunP (w.withFollow "special-get-raises" false) := by
  intro os
  kernel_rfl
theorem run1 (w : World) : RunP (w.withFollow "special-get-raises" true) := by
  intro os
  kernel_rfl
theorem run (w : World) : RunP w := PySem.W.byRow2 "special-get-raises" run0 run1 w
end K85

set_option maxRecDepth 100000
set_option maxHeartbeats 0
set_option linter.all false
namespace K85
open PySem Fw
def kd_SIZES : List (Str × Int) := [kv "number" 3, kv "copy" 3, kv "add" 3, kv "read" 4, kv "write" 4, kv "fail" 1, kv "input" 2, kv "show" 2, kv "branch" 2, kv "call" 2, kv "wake" 3]
/-- _wall -/
def m0 (Φ : FT) : SS := (sSeq (sWhile (tTru (eC (.bl true))) (sSeq sNext
   sNext))
  sNext)
theorem m0_ok (Φ : FT) : sk (rk Φ 40) ⟨d0.N, d0.scope, true, gk⟩ 40 d0.body = m0 Φ := by kernel_rfl
/-- is_integer -/
def m1 (Φ : FT) : SS := (sSeq (sRet (eAnd (e1 (oIsi [.int]) (eVar 0)) (eAnd (eNot (e1 (oIsi [.bool]) (eVar 0))) (eChain oLe oLe (eVar 1) (eVar 0) (eVar 2)))))
  sNext)
theorem m1_ok (Φ : FT) : sk (rk Φ 40) ⟨d1.N, d1.scope, true, gk⟩ 40 d1.body = m1 Φ := by kernel_rfl
/-- has_word -/
def m2 (Φ : FT) : SS := (sSeq (sIf (tOr (tNot (tTru (e1 (oIsi [.tuple]) (eVar 0)))) (tOr (tBol (e2 oEq (eVar 0) (eTup aNil))) (tNot (tTru (e1 (oIsi [.str]) (e2 oIx (eVar 0) (eC (.int 0)))))))) (sSeq (sRet (eC (.bl false)))
   sNext) sNext)
  (sSeq (sRet (eAnd (e1 (oInKd kd_SIZES) (e2 oIx (eVar 0) (eC (.int 0)))) (e2 oEq (eA (k1 oLen) (aCons (eVar 0) aNil)) (e1 (oIxKd kd_SIZES) (e2 oIx (eVar 0) (eC (.int 0)))))))
  sNext))
theorem m2_ok (Φ : FT) : sk (rk Φ 40) ⟨d2.N, d2.scope, true, gk⟩ 40 d2.body = m2 Φ := by kernel_rfl
/-- is_slot -/
def m3 (Φ : FT) : SS := (sSeq (sRet (eCall Φ 1 (aCons (eVar 0) (aCons (eC (.int 0)) (aCons (eC (.int 2)) aNil)))))
  sNext)
theorem m3_ok (Φ : FT) : sk (rk Φ 40) ⟨d3.N, d3.scope, true, gk⟩ 40 d3.body = m3 Φ := by kernel_rfl
/-- is_field -/
def m4 (Φ : FT) : SS := (sSeq (sRet (eAnd (eCall Φ 1 (aCons (eVar 1) (aCons (eC (.int 0)) (aCons (e2 oSub (eA (k1 oLen) (aCons (eVar 0) aNil)) (eC (.int 1))) aNil)))) (eCall Φ 1 (aCons (eVar 2) (aCons (eC (.int 0)) (aCons (e2 oSub (e2 oIx (e2 oIx (eVar 0) (eVar 1)) (eC (.int 1))) (eC (.int 1))) aNil))))))
  sNext)
theorem m4_ok (Φ : FT) : sk (rk Φ 40) ⟨d4.N, d4.scope, true, gk⟩ 40 d4.body = m4 Φ := by kernel_rfl
/-- is_instruction -/
def m5 (Φ : FT) : SS := (sSeq (sIf (tNot (tTru (eCall Φ 2 (aCons (eVar 2) aNil)))) (sSeq (sRet (eC (.bl false)))
   sNext) sNext)
  (sSeq (sAsg (e2 oIx (eVar 2) (eC (.int 0))) (gNm 4))
  (sSeq (sIf (tBol (e2 oIn (eVar 4) (eTup (aCons (eC (.str "number")) (aCons (eC (.str "add")) aNil))))) (sSeq (sRet (eAnd (eCall Φ 3 (aCons (e2 oIx (eVar 2) (eC (.int 1))) aNil)) (eCall Φ 1 (aCons (e2 oIx (eVar 2) (eC (.int 2))) (aCons (eC (.int 0)) (aCons (eC (.int 65535)) aNil))))))
   sNext) sNext)
  (sSeq (sIf (tBol (e2 oEq (eVar 4) (eC (.str "copy")))) (sSeq (sRet (eAnd (eCall Φ 3 (aCons (e2 oIx (eVar 2) (eC (.int 1))) aNil)) (eCall Φ 3 (aCons (e2 oIx (eVar 2) (eC (.int 2))) aNil))))
   sNext) sNext)
  (sSeq (sIf (tBol (e2 oEq (eVar 4) (eC (.str "read")))) (sSeq (sRet (eAnd (eCall Φ 3 (aCons (e2 oIx (eVar 2) (eC (.int 1))) aNil)) (eCall Φ 4 (aCons (eVar 0) (aCons (e2 oIx (eVar 2) (eC (.int 2))) (aCons (e2 oIx (eVar 2) (eC (.int 3))) aNil))))))
   sNext) sNext)
  (sSeq (sIf (tBol (e2 oEq (eVar 4) (eC (.str "write")))) (sSeq (sRet (eAnd (eCall Φ 4 (aCons (eVar 0) (aCons (e2 oIx (eVar 2) (eC (.int 1))) (aCons (e2 oIx (eVar 2) (eC (.int 2))) aNil)))) (eCall Φ 3 (aCons (e2 oIx (eVar 2) (eC (.int 3))) aNil))))
   sNext) sNext)
  (sSeq (sIf (tBol (e2 oIn (eVar 4) (eTup (aCons (eC (.str "input")) (aCons (eC (.str "show")) aNil))))) (sSeq (sRet (eCall Φ 3 (aCons (e2 oIx (eVar 2) (eC (.int 1))) aNil)))
   sNext) sNext)
  (sSeq (sIf (tBol (e2 oEq (eVar 4) (eC (.str "branch")))) (sSeq (sRet (eCall Φ 1 (aCons (e2 oIx (eVar 2) (eC (.int 1))) (aCons (eC (.int 0)) (aCons (e2 oIx (eVar 3) (eC (.int 1))) aNil)))))
   sNext) sNext)
  (sSeq (sIf (tBol (e2 oEq (eVar 4) (eC (.str "call")))) (sSeq (sRet (eCall Φ 1 (aCons (e2 oIx (eVar 2) (eC (.int 1))) (aCons (e2 oIx (eVar 1) (eC (.int 0))) (aCons (e2 oIx (eVar 1) (eC (.int 1))) aNil)))))
   sNext) sNext)
  (sSeq (sIf (tBol (e2 oEq (eVar 4) (eC (.str "wake")))) (sSeq (sRet (eAnd (eCall Φ 1 (aCons (e2 oIx (eVar 2) (eC (.int 1))) (aCons (eC (.int 0)) (aCons (e2 oSub (eA (k1 oLen) (aCons (eVar 0) aNil)) (eC (.int 1))) aNil)))) (eCall Φ 1 (aCons (e2 oIx (eVar 2) (eC (.int 2))) (aCons (e2 oAdd (e2 oIx (eVar 3) (eC (.int 0))) (eC (.int 1))) (aCons (e2 oIx (eVar 3) (eC (.int 1))) aNil))))))
   sNext) sNext)
  (sSeq (sRet (eC (.bl true)))
  sNext)))))))))))
theorem m5_ok (Φ : FT) : sk (rk Φ 40) ⟨d5.N, d5.scope, true, gk⟩ 40 d5.body = m5 Φ := by kernel_rfl
/-- is_unit_head -/
def m6 (Φ : FT) : SS := (sSeq (sIf (tOr (tNot (tTru (e1 (oIsi [.tuple]) (eVar 0)))) (tOr (tBol (e2 oNe (eA (k1 oLen) (aCons (eVar 0) aNil)) (eC (.int 3)))) (tNot (tTru (eCall Φ 1 (aCons (e2 oIx (eVar 0) (eC (.int 1))) (aCons (eC (.int 0)) (aCons (eC (.int 3)) aNil)))))))) (sSeq (sRet (eC (.bl false)))
   sNext) sNext)
  (sSeq (sIf (tAnd (tBol (e2 oIsNot (e2 oIx (eVar 0) (eC (.int 0))) (eC (.non)))) (tNot (tTru (eCall Φ 1 (aCons (e2 oIx (eVar 0) (eC (.int 0))) (aCons (eC (.int 0)) (aCons (e2 oSub (eVar 1) (eC (.int 1))) aNil))))))) (sSeq (sRet (eC (.bl false)))
   sNext) sNext)
  (sSeq (sRet (eAnd (e1 (oIsi [.tuple]) (e2 oIx (eVar 0) (eC (.int 2)))) (e2 oLe (eA (k1 oLen) (aCons (e2 oIx (eVar 0) (eC (.int 2))) aNil)) (eC (.int 6)))))
  sNext)))
theorem m6_ok (Φ : FT) : sk (rk Φ 40) ⟨d6.N, d6.scope, true, gk⟩ 40 d6.body = m6 Φ := by kernel_rfl
/-- is_function_head -/
def m7 (Φ : FT) : SS := (sSeq (sIf (tOr (tNot (tTru (e1 (oIsi [.tuple]) (eVar 1)))) (tOr (tBol (e2 oNe (eA (k1 oLen) (aCons (eVar 1) aNil)) (eC (.int 2)))) (tNot (tTru (eCall Φ 1 (aCons (e2 oIx (eVar 1) (eC (.int 0))) (aCons (eC (.int 0)) (aCons (e2 oSub (eA (k1 oLen) (aCons (eVar 0) aNil)) (eC (.int 1))) aNil)))))))) (sSeq (sRet (eC (.bl false)))
   sNext) sNext)
  (sSeq (sRet (eAnd (e1 (oIsi [.tuple]) (e2 oIx (eVar 1) (eC (.int 1)))) (eChain oLe oLe (eC (.int 1)) (eA (k1 oLen) (aCons (e2 oIx (eVar 1) (eC (.int 1))) aNil)) (eC (.int 8)))))
  sNext))
theorem m7_ok (Φ : FT) : sk (rk Φ 40) ⟨d7.N, d7.scope, true, gk⟩ 40 d7.body = m7 Φ := by kernel_rfl
/-- is_program -/
def m8 (Φ : FT) : SS := (sSeq (sIf (tOr (tNot (tTru (e1 (oIsi [.tuple]) (eVar 0)))) (tOr (tBol (e2 oNe (eA (k1 oLen) (aCons (eVar 0) aNil)) (eC (.int 2)))) (tNot (tTru (eA (k1 oAll) (aCons (eLc (iAny (eVar 0)) (gNm 1) tYes (e1 (oIsi [.tuple]) (eVar 1)) [1]) aNil)))))) (sSeq (sRet (eC (.bl false)))
   sNext) sNext)
  (sSeq (sAsg (eVar 0) (gTp [(gNm 2), (gNm 3)]))
  (sSeq (sIf (tOr (tNot (tBol (eChain oLe oLe (eC (.int 1)) (eA (k1 oLen) (aCons (eVar 2) aNil)) (eC (.int 6))))) (tNot (tBol (eChain oLe oLe (eC (.int 1)) (eA (k1 oLen) (aCons (eVar 3) aNil)) (eC (.int 4)))))) (sSeq (sRet (eC (.bl false)))
   sNext) sNext)
  (sSeq (sIf (tNot (tTru (eA (k1 oAll) (aCons (eLc (iA kEnu (aCons (eVar 2) aNil)) (gTp [(gNm 4), (gNm 5)]) tYes (eCall Φ 6 (aCons (eVar 5) (aCons (eVar 4) aNil))) [4, 5]) aNil)))) (sSeq (sRet (eC (.bl false)))
   sNext) sNext)
  (sSeq (sIf (tNot (tTru (eA (k1 oAll) (aCons (eLc (iAny (eVar 3)) (gNm 6) tYes (eCall Φ 7 (aCons (eVar 2) (aCons (eVar 6) aNil))) [6]) aNil)))) (sSeq (sRet (eC (.bl false)))
   sNext) sNext)
  (sSeq (sRet (eCall Φ 9 (aCons (eVar 2) (aCons (eVar 3) aNil))))
  sNext))))))
theorem m8_ok (Φ : FT) : sk (rk Φ 40) ⟨d8.N, d8.scope, true, gk⟩ 40 d8.body = m8 Φ := by kernel_rfl
/-- has_instructions -/
def m9 (Φ : FT) : SS := (sSeq (sFor (iAny (eVar 0)) (gNm 2) (sSeq (sFor (iAny (e2 oIx (eVar 2) (eC (.int 2)))) (gNm 3) (sSeq (sIf (tOr (tNot (tTru (eCall Φ 5 (aCons (eVar 0) (aCons (eTup (aCons (eC (.int 0)) (aCons (eC (.int 0)) aNil))) (aCons (eVar 3) (aCons (eTup (aCons (eC (.int 0)) (aCons (eC (.int 0)) aNil))) aNil))))))) (tBol (e2 oNotIn (e2 oIx (eVar 3) (eC (.int 0))) (eC (.tup [.str "number", .str "copy", .str "add", .str "read", .str "write", .str "fail"]))))) (sSeq (sRet (eC (.bl false)))
     sNext) sNext)
    sNext))
   sNext))
  (sSeq (sFor (iA kEnu (aCons (eVar 1) aNil)) (gTp [(gNm 4), (gNm 5)]) (sSeq (sAsg (eTup (aCons (e2 oAdd (eVar 4) (eC (.int 1))) (aCons (e2 oSub (eA (k1 oLen) (aCons (eVar 1) aNil)) (eC (.int 1))) aNil))) (gNm 6))
   (sSeq (sFor (iA kEnu (aCons (e2 oIx (eVar 5) (eC (.int 1))) aNil)) (gTp [(gNm 7), (gNm 3)]) (sSeq (sIf (tNot (tTru (eCall Φ 5 (aCons (eVar 0) (aCons (eVar 6) (aCons (eVar 3) (aCons (eTup (aCons (eVar 7) (aCons (eA (k1 oLen) (aCons (e2 oIx (eVar 5) (eC (.int 1))) aNil)) aNil))) aNil))))))) (sSeq (sRet (eC (.bl false)))
     sNext) sNext)
    sNext))
   sNext)))
  (sSeq (sRet (eC (.bl true)))
  sNext)))
theorem m9_ok (Φ : FT) : sk (rk Φ 40) ⟨d9.N, d9.scope, true, gk⟩ 40 d9.body = m9 Φ := by kernel_rfl
/-- need_program -/
def m10 (Φ : FT) : SS := (sSeq (sIf (tNot (tTru (eCall Φ 8 (aCons (eVar 0) aNil)))) (sSeq (sRaise 0)
   sNext) sNext)
  sNext)
theorem m10_ok (Φ : FT) : sk (rk Φ 40) ⟨d10.N, d10.scope, true, gk⟩ 40 d10.body = m10 Φ := by kernel_rfl
/-- body_of -/
def m11 (Φ : FT) : SS := (sSeq (sRet (eIf (tBol (e2 oEq (e2 oIx (eVar 1) (eC (.int 0))) (eC (.str "unit")))) (e2 oIx (e2 oIx (e2 oIx (eVar 0) (eC (.int 0))) (e2 oIx (eVar 1) (eC (.int 1)))) (eC (.int 2))) (e2 oIx (e2 oIx (e2 oIx (eVar 0) (eC (.int 1))) (e2 oIx (eVar 1) (eC (.int 1)))) (eC (.int 1)))))
  sNext)
theorem m11_ok (Φ : FT) : sk (rk Φ 40) ⟨d11.N, d11.scope, true, gk⟩ 40 d11.body = m11 Φ := by kernel_rfl
/-- unit_of -/
def m12 (Φ : FT) : SS := (sSeq (sIf (tBol (e2 oIn (e2 oIx (eVar 1) (eC (.int 0))) (eTup (aCons (eC (.str "write")) (aCons (eC (.str "wake")) aNil))))) (sSeq (sRet (e2 oIx (eVar 1) (eC (.int 1))))
   sNext) sNext)
  (sSeq (sIf (tBol (e2 oEq (e2 oIx (eVar 1) (eC (.int 0))) (eC (.str "read")))) (sSeq (sRet (e2 oIx (eVar 1) (eC (.int 2))))
   sNext) sNext)
  (sSeq (sRet (eIf (tBol (e2 oEq (e2 oIx (eVar 1) (eC (.int 0))) (eC (.str "call")))) (e2 oIx (e2 oIx (e2 oIx (eVar 0) (eC (.int 1))) (e2 oIx (eVar 1) (eC (.int 1)))) (eC (.int 0))) (eC (.non))))
  sNext)))
theorem m12_ok (Φ : FT) : sk (rk Φ 40) ⟨d12.N, d12.scope, true, gk⟩ 40 d12.body = m12 Φ := by kernel_rfl
/-- need_unit -/
def m13 (Φ : FT) : SS := (sSeq (sIf (tNot (tTru (eCall Φ 1 (aCons (eVar 1) (aCons (eC (.int 0)) (aCons (e2 oSub (eA (k1 oLen) (aCons (e2 oIx (eVar 0) (eC (.int 0))) aNil)) (eC (.int 1))) aNil)))))) (sSeq (sRaise 2)
   sNext) sNext)
  sNext)
theorem m13_ok (Φ : FT) : sk (rk Φ 40) ⟨d13.N, d13.scope, true, gk⟩ 40 d13.body = m13 Φ := by kernel_rfl
/-- is_order -/
def m14 (Φ : FT) : SS := (sSeq (sIf (tOr (tNot (tTru (e1 (oIsi [.list]) (eVar 1)))) (tNot (tTru (eA (k1 oAll) (aCons (eLc (iAny (eVar 1)) (gNm 2) tYes (eCall Φ 1 (aCons (eVar 2) (aCons (eC (.int 0)) (aCons (e2 oSub (eA (k1 oLen) (aCons (e2 oIx (eVar 0) (eC (.int 0))) aNil)) (eC (.int 1))) aNil)))) [2]) aNil))))) (sSeq (sRet (eC (.bl false)))
   sNext) sNext)
  (sSeq (sRet (e2 oEq (e1 (setK "len") (eVar 1)) (eA (k1 oLen) (aCons (eVar 1) aNil))))
  sNext))
theorem m14_ok (Φ : FT) : sk (rk Φ 40) ⟨d14.N, d14.scope, true, gk⟩ 40 d14.body = m14 Φ := by kernel_rfl
/-- need_order -/
def m15 (Φ : FT) : SS := (sSeq (sIf (tNot (tTru (eCall Φ 14 (aCons (eVar 0) (aCons (eVar 1) aNil))))) (sSeq (sRaise 1)
   sNext) sNext)
  sNext)
theorem m15_ok (Φ : FT) : sk (rk Φ 40) ⟨d15.N, d15.scope, true, gk⟩ 40 d15.body = m15 Φ := by kernel_rfl
/-- need_starts -/
def m16 (Φ : FT) : SS := (sSeq (sIf (tOr (tNot (tTru (e1 (oIsi [.tuple]) (eVar 1)))) (tNot (tBol (eChain oLe oLe (eC (.int 1)) (eA (k1 oLen) (aCons (eVar 1) aNil)) (eC (.int 3)))))) (sSeq (sRaise 4)
   sNext) sNext)
  (sSeq (sIf (tNot (tTru (eA (k1 oAll) (aCons (eLc (iAny (eVar 1)) (gNm 2) tYes (eCall Φ 1 (aCons (eVar 2) (aCons (eC (.int 0)) (aCons (e2 oSub (eA (k1 oLen) (aCons (e2 oIx (eVar 0) (eC (.int 1))) aNil)) (eC (.int 1))) aNil)))) [2]) aNil)))) (sSeq (sRaise 4)
   sNext) sNext)
  sNext))
theorem m16_ok (Φ : FT) : sk (rk Φ 40) ⟨d16.N, d16.scope, true, gk⟩ 40 d16.body = m16 Φ := by kernel_rfl
/-- __init__ -/
def m17 (Φ : FT) : SS := (sSeq (sAsg (eVar 1) (gFld [7] "name" (eVar 0)))
  (sSeq (sAsg (eVar 2) (gFld [7] "place" (eVar 0)))
  (sSeq (sAsg (eLst (aCons (eC (.int 0)) (aCons (eC (.int 0)) (aCons (eC (.int 0)) aNil)))) (gFld [7] "slots" (eVar 0)))
  sNext)))
theorem m17_ok (Φ : FT) : sk (rk Φ 40) ⟨d17.N, d17.scope, true, gk⟩ 40 d17.body = m17 Φ := by kernel_rfl
/-- copied -/
def m18 (Φ : FT) : SS := (sSeq (sAsg (eMake Φ 7 17 (aCons (e1 (oFld [7] "name") (eVar 0)) (aCons (e1 (oFld [7] "place") (eVar 0)) aNil))) (gNm 1))
  (sSeq (sAsg (eA (k1 oList) (aCons (e1 (oFld [7] "slots") (eVar 0)) aNil)) (gFld [7] "slots" (eVar 1)))
  (sSeq (sRet (eVar 1))
  sNext)))
theorem m18_ok (Φ : FT) : sk (rk Φ 40) ⟨d18.N, d18.scope, true, gk⟩ 40 d18.body = m18 Φ := by kernel_rfl
/-- __init__ -/
def m19 (Φ : FT) : SS := (sSeq (sAsg (eVar 1) (gFld [8] "number" (eVar 0)))
  (sSeq (sAsg (eVar 2) (gFld [8] "function" (eVar 0)))
  (sSeq (sAsg (eVar 3) (gFld [8] "unit" (eVar 0)))
  (sSeq (sAsg (eLst (aCons (eMake Φ 7 17 (aCons (eTup (aCons (eC (.str "start")) (aCons (eVar 1) aNil))) (aCons (eC (.int 0)) aNil))) aNil)) (gFld [8] "frames" (eVar 0)))
  (sSeq (sAsg (eLst aNil) (gFld [8] "inputs" (eVar 0)))
  (sSeq (sAsg (eC (.int 0)) (gFld [8] "fed" (eVar 0)))
  (sSeq (sAsg (eLst aNil) (gFld [8] "outputs" (eVar 0)))
  (sSeq (sAsg (eC (.non)) (gFld [8] "end" (eVar 0)))
  sNext))))))))
theorem m19_ok (Φ : FT) : sk (rk Φ 40) ⟨d19.N, d19.scope, true, gk⟩ 40 d19.body = m19 Φ := by kernel_rfl
/-- copied -/
def m20 (Φ : FT) : SS := (sSeq (sAsg (eMake Φ 8 19 (aCons (e1 (oFld [8] "number") (eVar 0)) (aCons (e1 (oFld [8] "function") (eVar 0)) (aCons (e1 (oFld [8] "unit") (eVar 0)) aNil)))) (gNm 1))
  (sSeq (sAsg (eLc (iAny (e1 (oFld [8] "frames") (eVar 0))) (gNm 2) tYes (eMeth Φ [(7, 18), (8, 20), (9, 23)] "copied" (eVar 2) aNil) [2]) (gFld [8] "frames" (eVar 1)))
  (sSeq (sAsg (eA (k1 oList) (aCons (e1 (oFld [8] "inputs") (eVar 0)) aNil)) (gFld [8] "inputs" (eVar 1)))
  (sSeq (sAsg (e1 (oFld [8] "fed") (eVar 0)) (gFld [8] "fed" (eVar 1)))
  (sSeq (sAsg (eA (k1 oList) (aCons (e1 (oFld [8] "outputs") (eVar 0)) aNil)) (gFld [8] "outputs" (eVar 1)))
  (sSeq (sAsg (e1 (oFld [8] "end") (eVar 0)) (gFld [8] "end" (eVar 1)))
  (sSeq (sRet (eVar 1))
  sNext)))))))
theorem m20_ok (Φ : FT) : sk (rk Φ 40) ⟨d20.N, d20.scope, true, gk⟩ 40 d20.body = m20 Φ := by kernel_rfl
/-- stack -/
def m21 (Φ : FT) : SS := (sSeq (sExpr (eCall Φ 0 (aCons (eC (.int 0)) aNil)))
  sNext)
theorem m21_ok (Φ : FT) : sk (rk Φ 40) ⟨d21.N, d21.scope, true, gk⟩ 40 d21.body = m21 Φ := by kernel_rfl
/-- __init__ -/
def m22 (Φ : FT) : SS := (sSeq (sAsg (eVar 1) (gFld [9] "program" (eVar 0)))
  (sSeq (sAsg (e2 oMul (eLst (aCons (eC (.str "asleep")) aNil)) (eA (k1 oLen) (aCons (e2 oIx (eVar 1) (eC (.int 0))) aNil))) (gFld [9] "statuses" (eVar 0)))
  (sSeq (sAsg (eDic []) (gFld [9] "numbers" (eVar 0)))
  (sSeq (sAsg (eLc (iAny (e2 oIx (eVar 1) (eC (.int 0)))) (gNm 2) tYes (eLst aNil) [2]) (gFld [9] "reasons" (eVar 0)))
  (sSeq (sAsg (eLst aNil) (gFld [9] "workers" (eVar 0)))
  (sSeq (sAsg (eLst aNil) (gFld [9] "moves" (eVar 0)))
  sNext))))))
theorem m22_ok (Φ : FT) : sk (rk Φ 40) ⟨d22.N, d22.scope, true, gk⟩ 40 d22.body = m22 Φ := by kernel_rfl
/-- copied -/
def m23 (Φ : FT) : SS := (sSeq (sAsg (eMake Φ 9 22 (aCons (e1 (oFld [9] "program") (eVar 0)) aNil)) (gNm 1))
  (sSeq (sAsg (eA (k1 oList) (aCons (e1 (oFld [9] "statuses") (eVar 0)) aNil)) (gFld [9] "statuses" (eVar 1)))
  (sSeq (sAsg (eA (k1 oDictC) (aCons (e1 (oFld [9] "numbers") (eVar 0)) aNil)) (gFld [9] "numbers" (eVar 1)))
  (sSeq (sAsg (eLc (iAny (e1 (oFld [9] "reasons") (eVar 0))) (gNm 2) tYes (eA (k1 oList) (aCons (eVar 2) aNil)) [2]) (gFld [9] "reasons" (eVar 1)))
  (sSeq (sAsg (eLc (iAny (e1 (oFld [9] "workers") (eVar 0))) (gNm 3) tYes (eMeth Φ [(7, 18), (8, 20), (9, 23)] "copied" (eVar 3) aNil) [3]) (gFld [9] "workers" (eVar 1)))
  (sSeq (sAsg (eA (k1 oList) (aCons (e1 (oFld [9] "moves") (eVar 0)) aNil)) (gFld [9] "moves" (eVar 1)))
  (sSeq (sRet (eVar 1))
  sNext)))))))
theorem m23_ok (Φ : FT) : sk (rk Φ 40) ⟨d23.N, d23.scope, true, gk⟩ 40 d23.body = m23 Φ := by kernel_rfl
/-- access_ahead -/
def m24 (Φ : FT) : SS := (sSeq (sAsg (eMake Φ 8 19 (aCons (e1 uNeg (eC (.int 1))) (aCons (eC (.non)) (aCons (eVar 1) aNil)))) (gNm 2))
  (sSeq (sWhile (tAnd (tBol (e2 oIs (e1 (oFld [8] "end") (eVar 2)) (eC (.non)))) (tOr (tBol (e2 oGt (eA (k1 oLen) (aCons (e1 (oFld [8] "frames") (eVar 2)) aNil)) (eC (.int 1)))) (tBol (e2 oNe (e2 oIx (e1 (oFld [9] "statuses") (eVar 0)) (eVar 1)) (eC (.str "awake")))))) (sSeq (sExpr (eMeth Φ [(9, 31)] "move" (eVar 0) (aCons (eVar 2) aNil)))
   sNext))
  (sSeq (sAsg (eLc (iAny (e2 oIx (e1 (oFld [9] "program") (eVar 0)) (eC (.int 0)))) (gNm 3) tYes (eLst aNil) [3]) (gFld [9] "reasons" (eVar 0)))
  (sSeq (sRet (e2 oIs (e1 (oFld [8] "end") (eVar 2)) (eC (.non))))
  sNext))))
theorem m24_ok (Φ : FT) : sk (rk Φ 40) ⟨d24.N, d24.scope, true, gk⟩ 40 d24.body = m24 Φ := by kernel_rfl
/-- next_one -/
def m25 (Φ : FT) : SS := (sSeq (sAsg (e2 oIx (e1 (oFld [8] "frames") (eVar 1)) (e1 uNeg (eC (.int 1)))) (gNm 2))
  (sSeq (sIf (tOr (tBol (e2 oEq (e2 oIx (e1 (oFld [7] "name") (eVar 2)) (eC (.int 0))) (eC (.str "start")))) (tBol (e2 oEq (e1 (oFld [7] "place") (eVar 2)) (e1 uNeg (eC (.int 1)))))) (sSeq (sRet (eC (.non)))
   sNext) sNext)
  (sSeq (sAsg (eCall Φ 11 (aCons (e1 (oFld [9] "program") (eVar 0)) (aCons (e1 (oFld [7] "name") (eVar 2)) aNil))) (gNm 3))
  (sSeq (sRet (eIf (tBol (e2 oLt (e1 (oFld [7] "place") (eVar 2)) (eA (k1 oLen) (aCons (eVar 3) aNil)))) (e2 oIx (eVar 3) (e1 (oFld [7] "place") (eVar 2))) (eC (.non))))
  sNext))))
theorem m25_ok (Φ : FT) : sk (rk Φ 40) ⟨d25.N, d25.scope, true, gk⟩ 40 d25.body = m25 Φ := by kernel_rfl
/-- next_unit -/
def m26 (Φ : FT) : SS := (sSeq (sAsg (e2 oIx (e1 (oFld [8] "frames") (eVar 1)) (e1 uNeg (eC (.int 1)))) (gNm 2))
  (sSeq (sIf (tBol (e2 oEq (e2 oIx (e1 (oFld [7] "name") (eVar 2)) (eC (.int 0))) (eC (.str "start")))) (sSeq (sRet (e1 (oFld [8] "unit") (eVar 1)))
   sNext) sNext)
  (sSeq (sIf (tBol (e2 oEq (e1 (oFld [7] "place") (eVar 2)) (e1 uNeg (eC (.int 1))))) (sSeq (sRet (e2 oIx (e2 oIx (e2 oIx (e1 (oFld [9] "program") (eVar 0)) (eC (.int 0))) (e2 oIx (e1 (oFld [7] "name") (eVar 2)) (eC (.int 1)))) (eC (.int 0))))
   sNext) sNext)
  (sSeq (sAsg (eMeth Φ [(9, 25)] "next_one" (eVar 0) (aCons (eVar 1) aNil)) (gNm 3))
  (sSeq (sRet (eIf (tBol (e2 oIs (eVar 3) (eC (.non)))) (eC (.non)) (eCall Φ 12 (aCons (e1 (oFld [9] "program") (eVar 0)) (aCons (eVar 3) aNil)))))
  sNext)))))
theorem m26_ok (Φ : FT) : sk (rk Φ 40) ⟨d26.N, d26.scope, true, gk⟩ 40 d26.body = m26 Φ := by kernel_rfl
/-- holder -/
def m27 (Φ : FT) : SS := (sSeq (sAsg (eLc (iAny (e1 (oFld [9] "workers") (eVar 0))) (gNm 2) (tBol (e2 oEq (e2 oIx (e1 (oFld [9] "statuses") (eVar 0)) (eVar 1)) (eCall Φ 35 (aCons (e1 (oFld [8] "number") (eVar 2)) aNil)))) (e1 (oFld [8] "number") (eVar 2)) [2]) (gNm 3))
  (sSeq (sRet (eIf (tBol (e2 oNe (eVar 3) (eLst aNil))) (e2 oIx (eVar 3) (eC (.int 0))) (eC (.non))))
  sNext))
theorem m27_ok (Φ : FT) : sk (rk Φ 40) ⟨d27.N, d27.scope, true, gk⟩ 40 d27.body = m27 Φ := by kernel_rfl
/-- stand -/
def m28 (Φ : FT) : SS := (sSeq (sIf (tBol (e2 oIsNot (e1 (oFld [8] "end") (eVar 1)) (eC (.non)))) (sSeq (sRet (e1 (oFld [8] "end") (eVar 1)))
   sNext) sNext)
  (sSeq (sPar2 2 3 (aCons (eMeth Φ [(9, 26)] "next_unit" (eVar 0) (aCons (eVar 1) aNil)) (aCons (eMeth Φ [(9, 25)] "next_one" (eVar 0) (aCons (eVar 1) aNil)) aNil)))
  (sSeq (sIf (tAnd (tBol (e2 oIsNot (eVar 2) (eC (.non)))) (tBol (e2 oNotIn (eMeth Φ [(9, 27)] "holder" (eVar 0) (aCons (eVar 2) aNil)) (eTup (aCons (eC (.non)) (aCons (e1 (oFld [8] "number") (eVar 1)) aNil)))))) (sSeq (sRet (eTup (aCons (eC (.str "blocked")) (aCons (eVar 2) aNil))))
   sNext) sNext)
  (sSeq (sIf (tAnd (tBol (e2 oIsNot (eVar 3) (eC (.non)))) (tAnd (tBol (e2 oIn (e2 oIx (eVar 3) (eC (.int 0))) (eTup (aCons (eC (.str "input")) (aCons (eC (.str "branch")) aNil))))) (tBol (e2 oEq (e1 (oFld [8] "inputs") (eVar 1)) (eLst aNil))))) (sSeq (sRet (eC (.str "waits")))
   sNext) sNext)
  (sSeq (sRet (eC (.str "moves")))
  sNext)))))
theorem m28_ok (Φ : FT) : sk (rk Φ 40) ⟨d28.N, d28.scope, true, gk⟩ 40 d28.body = m28 Φ := by kernel_rfl
/-- wake -/
def m29 (Φ : FT) : SS := (sSeq (sAsg (eCall Φ 35 (aCons (e1 (oFld [8] "number") (eVar 1)) aNil)) (gSb (e1 (oFld [9] "statuses") (eVar 0)) (eVar 2)))
  (sSeq (sAsg (eCall Φ 36 (aCons (eVar 1) aNil)) (gSb (e1 (oFld [9] "reasons") (eVar 0)) (eVar 2)))
  (sSeq (sExpr (eMt isLst mAppend (e1 (oFld [8] "frames") (eVar 1)) (aCons (eMake Φ 7 17 (aCons (eTup (aCons (eC (.str "unit")) (aCons (eVar 2) aNil))) (aCons (eIf (tBol (e2 oIs (e2 oIx (e2 oIx (e2 oIx (e1 (oFld [9] "program") (eVar 0)) (eC (.int 0))) (eVar 2)) (eC (.int 0))) (eC (.non)))) (eC (.int 0)) (e1 uNeg (eC (.int 1)))) aNil))) aNil)))
  sNext)))
theorem m29_ok (Φ : FT) : sk (rk Φ 40) ⟨d29.N, d29.scope, true, gk⟩ 40 d29.body = m29 Φ := by kernel_rfl
/-- fail -/
def m30 (Φ : FT) : SS := (sSeq (sWhile (tBol (e2 oNe (e1 (oFld [8] "frames") (eVar 1)) (eLst aNil))) (sSeq (sPar2 2 3 (aCons (eMeth Φ [(9, 25)] "next_one" (eVar 0) (aCons (eVar 1) aNil)) (aCons (e2 oIx (e1 (oFld [8] "frames") (eVar 1)) (e1 uNeg (eC (.int 1)))) aNil)))
   (sSeq (sIf (tAnd (tBol (e2 oIsNot (eVar 2) (eC (.non)))) (tBol (e2 oEq (e2 oIx (eVar 2) (eC (.int 0))) (eC (.str "wake"))))) (sSeq (sAsg (e2 oIx (eVar 2) (eC (.int 2))) (gFld [7] "place" (eVar 3)))
    (sSeq sRetN
    sNext)) sNext)
   (sSeq (sIf (tBol (e2 oEq (e2 oIx (e1 (oFld [7] "name") (eVar 3)) (eC (.int 0))) (eC (.str "unit")))) (sSeq (sAsg (eC (.str "broken")) (gSb (e1 (oFld [9] "statuses") (eVar 0)) (e2 oIx (e1 (oFld [7] "name") (eVar 3)) (eC (.int 1)))))
    sNext) sNext)
   (sSeq (sExpr (eMt isLst mPop0 (e1 (oFld [8] "frames") (eVar 1)) aNil))
   sNext)))))
  (sSeq (sAsg (eC (.str "failed")) (gFld [8] "end" (eVar 1)))
  sNext))
theorem m30_ok (Φ : FT) : sk (rk Φ 40) ⟨d30.N, d30.scope, true, gk⟩ 40 d30.body = m30 Φ := by kernel_rfl
/-- move -/
def m31 (Φ : FT) : SS := (sSeq (sPar2 2 3 (aCons (eMeth Φ [(9, 26)] "next_unit" (eVar 0) (aCons (eVar 1) aNil)) (aCons (e2 oIx (e1 (oFld [8] "frames") (eVar 1)) (e1 uNeg (eC (.int 1)))) aNil)))
  (sSeq (sIf (tAnd (tBol (e2 oIsNot (eVar 2) (eC (.non)))) (tBol (e2 oEq (e2 oIx (e1 (oFld [9] "statuses") (eVar 0)) (eVar 2)) (eC (.str "asleep"))))) (sSeq (sExpr (eMeth Φ [(9, 29)] "wake" (eVar 0) (aCons (eVar 1) (aCons (eVar 2) aNil))))
   sNext) (sSeq (sIf (tAnd (tBol (e2 oIsNot (eVar 2) (eC (.non)))) (tBol (e2 oEq (e2 oIx (e1 (oFld [9] "statuses") (eVar 0)) (eVar 2)) (eC (.str "broken"))))) (sSeq (sExpr (eMeth Φ [(9, 30)] "fail" (eVar 0) (aCons (eVar 1) aNil)))
    sNext) (sSeq (sIf (tBol (e2 oEq (e2 oIx (e1 (oFld [7] "name") (eVar 3)) (eC (.int 0))) (eC (.str "start")))) (sSeq (sExpr (eMt isLst mAppend (e1 (oFld [8] "frames") (eVar 1)) (aCons (eMake Φ 7 17 (aCons (eTup (aCons (eC (.str "function")) (aCons (e1 (oFld [8] "function") (eVar 1)) aNil))) (aCons (eC (.int 0)) aNil))) aNil)))
     sNext) (sSeq (sIf (tBol (e2 oEq (e1 (oFld [7] "place") (eVar 3)) (e1 uNeg (eC (.int 1))))) (sSeq (sAsg (eC (.int 0)) (gFld [7] "place" (eVar 3)))
      sNext) (sSeq (sIf (tBol (e2 oIs (eMeth Φ [(9, 25)] "next_one" (eVar 0) (aCons (eVar 1) aNil)) (eC (.non)))) (sSeq (sExpr (eMeth Φ [(9, 32)] "leave" (eVar 0) (aCons (eVar 1) aNil)))
       sNext) (sSeq (sExpr (eMeth Φ [(9, 33)] "execute" (eVar 0) (aCons (eVar 1) (aCons (eMeth Φ [(9, 25)] "next_one" (eVar 0) (aCons (eVar 1) aNil)) aNil))))
       sNext))
      sNext))
     sNext))
    sNext))
   sNext))
  sNext))
theorem m31_ok (Φ : FT) : sk (rk Φ 40) ⟨d31.N, d31.scope, true, gk⟩ 40 d31.body = m31 Φ := by kernel_rfl
/-- leave -/
def m32 (Φ : FT) : SS := (sSeq (sAsg (eMt isLst mPop0 (e1 (oFld [8] "frames") (eVar 1)) aNil) (gNm 2))
  (sSeq (sIf (tBol (e2 oEq (e2 oIx (e1 (oFld [7] "name") (eVar 2)) (eC (.int 0))) (eC (.str "unit")))) (sSeq (sAsg (eC (.str "awake")) (gSb (e1 (oFld [9] "statuses") (eVar 0)) (e2 oIx (e1 (oFld [7] "name") (eVar 2)) (eC (.int 1)))))
   sNext) (sSeq (sIf (tBol (e2 oEq (e2 oIx (e1 (oFld [7] "name") (e2 oIx (e1 (oFld [8] "frames") (eVar 1)) (e1 uNeg (eC (.int 1))))) (eC (.int 0))) (eC (.str "start")))) (sSeq (sExpr (eMt isLst mPop0 (e1 (oFld [8] "frames") (eVar 1)) aNil))
    (sSeq (sAsg (eC (.str "done")) (gFld [8] "end" (eVar 1)))
    sNext)) (sSeq (sFldAug [7] "place" true (e2 oIx (e1 (oFld [8] "frames") (eVar 1)) (e1 uNeg (eC (.int 1)))) (eC (.int 1)))
    sNext))
   sNext))
  sNext))
theorem m32_ok (Φ : FT) : sk (rk Φ 40) ⟨d32.N, d32.scope, true, gk⟩ 40 d32.body = m32 Φ := by kernel_rfl
/-- execute -/
def m33 (Φ : FT) : SS := (sSeq (sAsg (e2 oIx (e1 (oFld [8] "frames") (eVar 1)) (e1 uNeg (eC (.int 1)))) (gNm 3))
  (sSeq (sIf (tBol (e2 oEq (e2 oIx (eVar 2) (eC (.int 0))) (eC (.str "fail")))) (sSeq (sExpr (eMeth Φ [(9, 30)] "fail" (eVar 0) (aCons (eVar 1) aNil)))
   sNext) (sSeq (sIf (tBol (e2 oEq (e2 oIx (eVar 2) (eC (.int 0))) (eC (.str "call")))) (sSeq (sExpr (eMt isLst mAppend (e1 (oFld [8] "frames") (eVar 1)) (aCons (eMake Φ 7 17 (aCons (eTup (aCons (eC (.str "function")) (aCons (e2 oIx (eVar 2) (eC (.int 1))) aNil))) (aCons (eC (.int 0)) aNil))) aNil)))
    sNext) (sSeq (sIf (tBol (e2 oEq (e2 oIx (eVar 2) (eC (.int 0))) (eC (.str "branch")))) (sSeq (sAsg (eIf (tBol (e2 oNe (eMt isLst mPop1 (e1 (oFld [8] "inputs") (eVar 1)) (aCons (eC (.int 0)) aNil)) (eC (.int 0)))) (e2 oIx (eVar 2) (eC (.int 1))) (e2 oAdd (e1 (oFld [7] "place") (eVar 3)) (eC (.int 1)))) (gFld [7] "place" (eVar 3)))
     sNext) (sSeq (sExpr (eMeth Φ [(9, 34)] "simple" (eVar 0) (aCons (eVar 1) (aCons (eVar 2) aNil))))
     (sSeq (sFldAug [7] "place" true (eVar 3) (eC (.int 1)))
     sNext)))
    sNext))
   sNext))
  sNext))
theorem m33_ok (Φ : FT) : sk (rk Φ 40) ⟨d33.N, d33.scope, true, gk⟩ 40 d33.body = m33 Φ := by kernel_rfl
/-- simple -/
def m34 (Φ : FT) : SS := (sSeq (sAsg (e1 (oFld [7] "slots") (e2 oIx (e1 (oFld [8] "frames") (eVar 1)) (e1 uNeg (eC (.int 1))))) (gNm 3))
  (sSeq (sIf (tBol (e2 oEq (e2 oIx (eVar 2) (eC (.int 0))) (eC (.str "number")))) (sSeq (sAsg (e2 oIx (eVar 2) (eC (.int 2))) (gSb (eVar 3) (e2 oIx (eVar 2) (eC (.int 1)))))
   sNext) (sSeq (sIf (tBol (e2 oEq (e2 oIx (eVar 2) (eC (.int 0))) (eC (.str "copy")))) (sSeq (sAsg (e2 oIx (eVar 3) (e2 oIx (eVar 2) (eC (.int 2)))) (gSb (eVar 3) (e2 oIx (eVar 2) (eC (.int 1)))))
    sNext) (sSeq (sIf (tBol (e2 oEq (e2 oIx (eVar 2) (eC (.int 0))) (eC (.str "add")))) (sSeq (sAsg (e2 oMod (e2 oAdd (e2 oIx (eVar 3) (e2 oIx (eVar 2) (eC (.int 1)))) (e2 oIx (eVar 2) (eC (.int 2)))) (e2 oAdd (eC (.int 65535)) (eC (.int 1)))) (gSb (eVar 3) (e2 oIx (eVar 2) (eC (.int 1)))))
     sNext) (sSeq (sIf (tBol (e2 oEq (e2 oIx (eVar 2) (eC (.int 0))) (eC (.str "input")))) (sSeq (sAsg (eMt isLst mPop1 (e1 (oFld [8] "inputs") (eVar 1)) (aCons (eC (.int 0)) aNil)) (gSb (eVar 3) (e2 oIx (eVar 2) (eC (.int 1)))))
      sNext) (sSeq (sIf (tBol (e2 oEq (e2 oIx (eVar 2) (eC (.int 0))) (eC (.str "show")))) (sSeq (sExpr (eMt isLst mAppend (e1 (oFld [8] "outputs") (eVar 1)) (aCons (e2 oIx (eVar 3) (e2 oIx (eVar 2) (eC (.int 1)))) aNil)))
       sNext) (sSeq (sIf (tBol (e2 oEq (e2 oIx (eVar 2) (eC (.int 0))) (eC (.str "read")))) (sSeq (sAsg (eMt isDk mGet2 (e1 (oFld [9] "numbers") (eVar 0)) (aCons (eTup (aCons (e2 oIx (eVar 2) (eC (.int 2))) (aCons (e2 oIx (eVar 2) (eC (.int 3))) aNil))) (aCons (eC (.int 0)) aNil))) (gSb (eVar 3) (e2 oIx (eVar 2) (eC (.int 1)))))
        sNext) (sSeq (sIf (tBol (e2 oEq (e2 oIx (eVar 2) (eC (.int 0))) (eC (.str "write")))) (sSeq (sAsg (e2 oIx (eVar 3) (e2 oIx (eVar 2) (eC (.int 3)))) gBad)
         sNext) sNext)
        sNext))
       sNext))
      sNext))
     sNext))
    sNext))
   sNext))
  sNext))
theorem m34_ok (Φ : FT) : sk (rk Φ 40) ⟨d34.N, d34.scope, true, gk⟩ 40 d34.body = m34 Φ := by kernel_rfl
/-- held_by -/
def m35 (Φ : FT) : SS := (sSeq (sRet (e2 oAdd (eC (.str "held ")) (eA (k1 oStr1) (aCons (eVar 0) aNil))))
  sNext)
theorem m35_ok (Φ : FT) : sk (rk Φ 40) ⟨d35.N, d35.scope, true, gk⟩ 40 d35.body = m35 Φ := by kernel_rfl
/-- reason_of -/
def m36 (Φ : FT) : SS := (sSeq (sAsg (eLst aNil) (gNm 1))
  (sSeq (sFor (iAny (e1 oRev (e1 (oFld [8] "frames") (eVar 0)))) (gNm 2) (sSeq (sExpr (eMt isLst mInsert (eVar 1) (aCons (eC (.int 0)) (aCons (eTup (aCons (e1 (oFld [7] "name") (eVar 2)) (aCons (e1 (oFld [7] "place") (eVar 2)) aNil))) aNil))))
   (sSeq (sIf (tBol (e2 oNe (e2 oIx (e1 (oFld [7] "name") (eVar 2)) (eC (.int 0))) (eC (.str "unit")))) (sSeq (sRet (eVar 1))
    sNext) sNext)
   sNext)))
  (sSeq (sRet (eVar 1))
  sNext)))
theorem m36_ok (Φ : FT) : sk (rk Φ 40) ⟨d36.N, d36.scope, true, gk⟩ 40 d36.body = m36 Φ := by kernel_rfl
/-- __init__ -/
def m37 (Φ : FT) : SS := (sSeq (sExpr (eCall Φ 10 (aCons (eVar 1) aNil)))
  (sSeq (sExpr (eCall Φ 16 (aCons (eVar 1) (aCons (eVar 2) aNil))))
  (sSeq (sExpr (eCall Φ 15 (aCons (eVar 1) (aCons (eVar 3) aNil))))
  (sSeq (sAsg (eMake Φ 9 22 (aCons (eVar 1) aNil)) (gFld [10] "world" (eVar 0)))
  (sSeq (sFor (iAny (eVar 3)) (gNm 4) (sSeq (sIf (tNot (tTru (eMeth Φ [(9, 24)] "access_ahead" (e1 (oFld [10] "world") (eVar 0)) (aCons (eVar 4) aNil)))) (sSeq (sRaise 5)
    sNext) sNext)
   sNext))
  (sSeq (sFor (iA kEnu (aCons (eVar 2) aNil)) (gTp [(gNm 5), (gNm 6)]) (sSeq (sExpr (eMt isLst mAppend (e1 (oFld [9] "workers") (e1 (oFld [10] "world") (eVar 0))) (aCons (eMake Φ 8 19 (aCons (eVar 5) (aCons (eVar 6) (aCons (e2 oIx (e2 oIx (e2 oIx (eVar 1) (eC (.int 1))) (eVar 6)) (eC (.int 0))) aNil)))) aNil)))
   sNext))
  (sSeq (sAsg (eLst aNil) (gFld [10] "marks" (eVar 0)))
  sNext)))))))
theorem m37_ok (Φ : FT) : sk (rk Φ 40) ⟨d37.N, d37.scope, true, gk⟩ 40 d37.body = m37 Φ := by kernel_rfl
/-- worker -/
def m38 (Φ : FT) : SS := (sSeq (sIf (tNot (tTru (eCall Φ 1 (aCons (eVar 1) (aCons (eC (.int 0)) (aCons (e2 oSub (eA (k1 oLen) (aCons (e1 (oFld [9] "workers") (e1 (oFld [10] "world") (eVar 0))) aNil)) (eC (.int 1))) aNil)))))) (sSeq (sRaise 3)
   sNext) sNext)
  (sSeq (sRet (e2 oIx (e1 (oFld [9] "workers") (e1 (oFld [10] "world") (eVar 0))) (eVar 1)))
  sNext))
theorem m38_ok (Φ : FT) : sk (rk Φ 40) ⟨d38.N, d38.scope, true, gk⟩ 40 d38.body = m38 Φ := by kernel_rfl
/-- feed -/
def m39 (Φ : FT) : SS := (sSeq (sAsg (eMeth Φ [(10, 38)] "worker" (eVar 0) (aCons (eVar 1) aNil)) (gNm 3))
  (sSeq (sIf (tNot (tTru (eCall Φ 1 (aCons (eVar 2) (aCons (eC (.int 0)) (aCons (eC (.int 65535)) aNil)))))) (sSeq (sRaise 3)
   sNext) sNext)
  (sSeq (sIf (tBol (e2 oEq (e1 (oFld [8] "fed") (eVar 3)) (eC (.int 100)))) (sSeq (sRaise 6)
   sNext) sNext)
  (sSeq (sExpr (eMt isLst mAppend (e1 (oFld [8] "inputs") (eVar 3)) (aCons (eVar 2) aNil)))
  (sSeq (sFldAug [8] "fed" true (eVar 3) (eC (.int 1)))
  sNext)))))
theorem m39_ok (Φ : FT) : sk (rk Φ 40) ⟨d39.N, d39.scope, true, gk⟩ 40 d39.body = m39 Φ := by kernel_rfl
/-- step -/
def m40 (Φ : FT) : SS := (sSeq (sAsg (eMeth Φ [(10, 38)] "worker" (eVar 0) (aCons (eVar 1) aNil)) (gNm 2))
  (sSeq (sIf (tBol (e2 oNe (eMeth Φ [(9, 28)] "stand" (e1 (oFld [10] "world") (eVar 0)) (aCons (eVar 2) aNil)) (eC (.str "moves")))) (sSeq (sRaise 5)
   sNext) sNext)
  (sSeq (sAsg (eMeth Φ [(9, 25)] "next_one" (e1 (oFld [10] "world") (eVar 0)) (aCons (eVar 2) aNil)) (gNm 3))
  (sSeq (sAsg (eAnd (e2 oIsNot (eVar 3) (eC (.non))) (e2 oIn (e2 oIx (eVar 3) (eC (.int 0))) (eTup (aCons (eC (.str "input")) (aCons (eC (.str "branch")) aNil))))) (gNm 4))
  (sSeq (sExpr (eMt isLst mAppend (e1 (oFld [9] "moves") (e1 (oFld [10] "world") (eVar 0))) (aCons (eTup (aCons (eVar 1) (aCons (eIf (tAnd (tTru (eVar 4)) (tBol (e2 oNe (e2 oIx (e1 (oFld [8] "inputs") (eVar 2)) (eC (.int 0))) (eC (.int 0))))) (eC (.int 1)) (eC (.int 0))) aNil))) aNil)))
  (sSeq (sExpr (eMeth Φ [(9, 31)] "move" (e1 (oFld [10] "world") (eVar 0)) (aCons (eVar 2) aNil)))
  sNext))))))
theorem m40_ok (Φ : FT) : sk (rk Φ 40) ⟨d40.N, d40.scope, true, gk⟩ 40 d40.body = m40 Φ := by kernel_rfl
/-- output -/
def m41 (Φ : FT) : SS := (sSeq (sExpr (eCall Φ 0 (aCons (eC (.int 1)) aNil)))
  sNext)
theorem m41_ok (Φ : FT) : sk (rk Φ 40) ⟨d41.N, d41.scope, true, gk⟩ 40 d41.body = m41 Φ := by kernel_rfl
/-- stands -/
def m42 (Φ : FT) : SS := (sSeq (sRet (eMeth Φ [(9, 28)] "stand" (e1 (oFld [10] "world") (eVar 0)) (aCons (eMeth Φ [(10, 38)] "worker" (eVar 0) (aCons (eVar 1) aNil)) aNil)))
  sNext)
theorem m42_ok (Φ : FT) : sk (rk Φ 40) ⟨d42.N, d42.scope, true, gk⟩ 40 d42.body = m42 Φ := by kernel_rfl
/-- state -/
def m43 (Φ : FT) : SS := (sSeq (sExpr (eCall Φ 0 (aCons (eC (.int 2)) aNil)))
  sNext)
theorem m43_ok (Φ : FT) : sk (rk Φ 40) ⟨d43.N, d43.scope, true, gk⟩ 40 d43.body = m43 Φ := by kernel_rfl
/-- schedule -/
def m44 (Φ : FT) : SS := (sSeq (sRet (eA (k1 oList) (aCons (e1 (oFld [9] "moves") (e1 (oFld [10] "world") (eVar 0))) aNil)))
  sNext)
theorem m44_ok (Φ : FT) : sk (rk Φ 40) ⟨d44.N, d44.scope, true, gk⟩ 40 d44.body = m44 Φ := by kernel_rfl
/-- why -/
def m45 (Φ : FT) : SS := (sSeq (sExpr (eCall Φ 13 (aCons (e1 (oFld [9] "program") (e1 (oFld [10] "world") (eVar 0))) (aCons (eVar 1) aNil))))
  (sSeq (sRet (eA (k1 oList) (aCons (e2 oIx (e1 (oFld [9] "reasons") (e1 (oFld [10] "world") (eVar 0))) (eVar 1)) aNil)))
  sNext))
theorem m45_ok (Φ : FT) : sk (rk Φ 40) ⟨d45.N, d45.scope, true, gk⟩ 40 d45.body = m45 Φ := by kernel_rfl
/-- blocker -/
def m46 (Φ : FT) : SS := (sSeq (sExpr (eCall Φ 0 (aCons (eC (.int 3)) aNil)))
  sNext)
theorem m46_ok (Φ : FT) : sk (rk Φ 40) ⟨d46.N, d46.scope, true, gk⟩ 40 d46.body = m46 Φ := by kernel_rfl
/-- cycle -/
def m47 (Φ : FT) : SS := (sSeq (sExpr (eCall Φ 0 (aCons (eC (.int 4)) aNil)))
  sNext)
theorem m47_ok (Φ : FT) : sk (rk Φ 40) ⟨d47.N, d47.scope, true, gk⟩ 40 d47.body = m47 Φ := by kernel_rfl
/-- mark -/
def m48 (Φ : FT) : SS := (sSeq (sExpr (eMt isLst mAppend (e1 (oFld [10] "marks") (eVar 0)) (aCons (eMeth Φ [(7, 18), (8, 20), (9, 23)] "copied" (e1 (oFld [10] "world") (eVar 0)) aNil) aNil)))
  (sSeq (sRet (e2 oSub (eA (k1 oLen) (aCons (e1 (oFld [10] "marks") (eVar 0)) aNil)) (eC (.int 1))))
  sNext))
theorem m48_ok (Φ : FT) : sk (rk Φ 40) ⟨d48.N, d48.scope, true, gk⟩ 40 d48.body = m48 Φ := by kernel_rfl
/-- back -/
def m49 (Φ : FT) : SS := (sSeq (sIf (tNot (tTru (eCall Φ 1 (aCons (eVar 1) (aCons (eC (.int 0)) (aCons (e2 oSub (eA (k1 oLen) (aCons (e1 (oFld [10] "marks") (eVar 0)) aNil)) (eC (.int 1))) aNil)))))) (sSeq (sRaise 3)
   sNext) sNext)
  (sSeq (sAsg (eMeth Φ [(7, 18), (8, 20), (9, 23)] "copied" (e2 oIx (e1 (oFld [10] "marks") (eVar 0)) (eVar 1)) aNil) (gFld [10] "world" (eVar 0)))
  (sSeq (sAsg (eSl (e1 (oFld [10] "marks") (eVar 0)) pNone (pSome (e2 oAdd (eVar 1) (eC (.int 1))))) (gFld [10] "marks" (eVar 0)))
  sNext)))
theorem m49_ok (Φ : FT) : sk (rk Φ 40) ⟨d49.N, d49.scope, true, gk⟩ 40 d49.body = m49 Φ := by kernel_rfl
/-- _law_spread -/
def m50 (Φ : FT) : SS := (sSeq (sIf (tBol (e2 oGe (eVar 0) (e2 oPow (eC (.int 10)) (eC (.int 18))))) (sSeq (sRet (eVar 0))
   sNext) sNext)
  (sSeq (sAsg (eLst (aCons (eC (.int 2147483629)) (aCons (eC (.int 2147483587)) (aCons (eC (.int 2147483579)) (aCons (eC (.int 2147483563)) (aCons (eC (.int 2147483549)) (aCons (eC (.int 2147483543)) (aCons (eC (.int 2147483497)) (aCons (eC (.int 2147483489)) aNil))))))))) (gNm 2))
  (sSeq (sAsg (e2 oAdd (eVar 2) (eLst (aCons (eC (.int 2147483477)) (aCons (eC (.int 2147483423)) (aCons (eC (.int 2147483399)) (aCons (eC (.int 2147483353)) (aCons (eC (.int 2147483323)) aNil))))))) (gNm 2))
  (sSeq (sAsg (e2 oMod (e2 oPow (e2 oAdd (e2 oAdd (e2 oMul (e2 oMod (eVar 0) (eC (.int 1000000007))) (e2 oAdd (e2 oMul (eC (.int 2)) (eVar 1)) (eC (.int 69069)))) (e2 oMul (eVar 1) (eC (.int 40503)))) (eC (.int 977))) (eC (.int 3))) (e2 oIx (eVar 2) (e2 oMod (eVar 1) (eC (.int 13))))) (gNm 3))
  (sSeq (sAsg (e2 oMod (e2 oPow (e2 oAdd (e2 oAdd (e2 oMul (eVar 3) (e2 oAdd (eVar 1) (eC (.int 3)))) (e2 oMod (eVar 0) (eC (.int 65537)))) (eC (.int 5))) (eC (.int 5))) (e2 oIx (eVar 2) (e2 oMod (e2 oAdd (eVar 1) (eC (.int 5))) (eC (.int 13))))) (gNm 4))
  (sSeq (sAsg (e2 oMod (e2 oPow (e2 oAdd (e2 oAdd (eVar 4) (e2 oMod (eVar 3) (eC (.int 1009)))) (eVar 1)) (eC (.int 3))) (e2 oIx (eVar 2) (e2 oMod (e2 oAdd (eVar 1) (eC (.int 7))) (eC (.int 13))))) (gNm 5))
  (sSeq (sRet (e2 oAdd (e2 oMul (e2 oAdd (e2 oMul (eVar 3) (eC (.int 2147483647))) (eVar 4)) (eC (.int 2147483647))) (eVar 5)))
  sNext)))))))
theorem m50_ok (Φ : FT) : sk (rk Φ 40) ⟨d50.N, d50.scope, true, gk⟩ 40 d50.body = m50 Φ := by kernel_rfl
/-- _law_open -/
def m51 (Φ : FT) : SS := (sSeq (sAsg (eA (k1 oList) (aCons (eSl (eVar 0) pNone (pSome (eC (.int 12)))) aNil)) (gNm 1))
  (sSeq (sFor (iA kEnu (aCons (eSl (eVar 0) (pSome (eC (.int 12))) (pSome (eC (.int 63)))) aNil)) (gTp [(gNm 2), (gNm 3)]) (sSeq (sAsg (e2 oAdd (e2 oIx (eVar 1) (e2 oMod (eVar 2) (eC (.int 12)))) (eVar 3)) (gSb (eVar 1) (e2 oMod (eVar 2) (eC (.int 12)))))
   sNext))
  (sSeq (sRet (eLst (aCons (eVar 1) (aCons (eC (.int 0)) (aCons (eC (.int 0)) aNil)))))
  sNext)))
theorem m51_ok (Φ : FT) : sk (rk Φ 40) ⟨d51.N, d51.scope, true, gk⟩ 40 d51.body = m51 Φ := by kernel_rfl
/-- _law_take -/
def m52 (Φ : FT) : SS := (sSeq (sIf (tBol (e2 oLt (e2 oIx (eVar 0) (eC (.int 2))) (eVar 1))) (sSeq (sAsg (e2 oIx (eVar 0) (eC (.int 1))) (gNm 2))
   (sSeq (sAsg (eC (.int 0)) (gNm 3))
   (sSeq (sIf (tBol (e2 oLt (eVar 2) (eA (k1 oLen) (aCons (e2 oIx (eVar 0) (eC (.int 0))) aNil)))) (sSeq (sAsg (e2 oIx (e2 oIx (eVar 0) (eC (.int 0))) (eVar 2)) (gNm 3))
    sNext) (sSeq (sIf (tBol (e2 oGt (eA (k1 oLen) (aCons (e2 oIx (eVar 0) (eC (.int 0))) aNil)) (eC (.int 0)))) (sSeq (sAsg (e2 oMod (e2 oIx (e2 oIx (eVar 0) (eC (.int 0))) (e2 oMod (e2 oAdd (e2 oMul (eVar 2) (eC (.int 5))) (eC (.int 3))) (eA (k1 oLen) (aCons (e2 oIx (eVar 0) (eC (.int 0))) aNil)))) (e2 oAdd (e2 oPow (eC (.int 10)) (eC (.int 17))) (eVar 2))) (gNm 3))
     sNext) sNext)
    sNext))
   (sSeq (sAsg (e2 oAdd (eVar 2) (eC (.int 1))) (gSb (eVar 0) (eC (.int 1))))
   (sSeq (sAsg (eCall Φ 50 (aCons (eVar 3) (aCons (eVar 2) aNil))) (gSb (eVar 0) (eC (.int 2))))
   sNext))))) sNext)
  (sSeq (sAsg (e2 oMod (e2 oIx (eVar 0) (eC (.int 2))) (eVar 1)) (gNm 4))
  (sSeq (sAsg (e2 oDiv (e2 oIx (eVar 0) (eC (.int 2))) (eVar 1)) (gSb (eVar 0) (eC (.int 2))))
  (sSeq (sRet (eVar 4))
  sNext))))
theorem m52_ok (Φ : FT) : sk (rk Φ 40) ⟨d52.N, d52.scope, true, gk⟩ 40 d52.body = m52 Φ := by kernel_rfl
/-- _law_w_pick -/
def m53 (Φ : FT) : SS := (sSeq (sRet (e2 oIx (eVar 1) (eCall Φ 52 (aCons (eVar 0) (aCons (eA (k1 oLen) (aCons (eVar 1) aNil)) aNil)))))
  sNext)
theorem m53_ok (Φ : FT) : sk (rk Φ 40) ⟨d53.N, d53.scope, true, gk⟩ 40 d53.body = m53 Φ := by kernel_rfl
/-- _law_w_fed -/
def m54 (Φ : FT) : SS := (sSeq (sTryM [(ds6, .rt (.str "room")), (ds3, .rt (.str "number"))] (sSeq (sExpr (eMeth Φ [(10, 39)] "feed" (eVar 0) (aCons (eVar 1) (aCons (eVar 2) aNil))))
   sNext))
  (sSeq (sRet (eC (.str "told")))
  sNext))
theorem m54_ok (Φ : FT) : sk (rk Φ 40) ⟨d54.N, d54.scope, true, gk⟩ 40 d54.body = m54 Φ := by kernel_rfl
/-- _law_w_feeds_right -/
def m55 (Φ : FT) : SS := (sSeq (sFor (iA kRng1 (aCons (e2 oAdd (eC (.int 1)) (eCall Φ 52 (aCons (eVar 0) (aCons (eC (.int 60)) aNil)))) aNil)) (gNm 4) (sSeq (sAsg (eCall Φ 53 (aCons (eVar 0) (aCons (eLst (aCons (e1 uNeg (eC (.int 1))) (aCons (eC (.int 65536)) (aCons (eC (.bl true)) (aCons (eC (.non)) aNil))))) aNil))) (gNm 5))
   (sSeq (sIf (tAnd (tBol (e2 oEq (eCall Φ 52 (aCons (eVar 0) (aCons (eC (.int 12)) aNil))) (eC (.int 0)))) (tBol (e2 oNe (eCall Φ 54 (aCons (eVar 1) (aCons (eVar 2) (aCons (eVar 5) aNil)))) (eC (.str "number"))))) (sSeq (sRet (eC (.bl false)))
    sNext) sNext)
   (sSeq (sAsg (eCall Φ 54 (aCons (eVar 1) (aCons (eVar 2) (aCons (eC (.int 1)) aNil)))) (gNm 6))
   (sSeq (sIf (tBol (e2 oNe (eVar 6) (eIf (tBol (e2 oLt (e2 oIx (eVar 3) (eVar 2)) (eC (.int 100)))) (eC (.str "told")) (eC (.str "room"))))) (sSeq (sRet (eC (.bl false)))
    sNext) sNext)
   (sSeq (sAsg (e2 oAdd (e2 oIx (eVar 3) (eVar 2)) (eA (k1 oInt) (aCons (e2 oEq (eVar 6) (eC (.str "told"))) aNil))) (gSb (eVar 3) (eVar 2)))
   sNext))))))
  (sSeq (sRet (eC (.bl true)))
  sNext))
theorem m55_ok (Φ : FT) : sk (rk Φ 40) ⟨d55.N, d55.scope, true, gk⟩ 40 d55.body = m55 Φ := by kernel_rfl
/-- _law_w_taken_right -/
def m56 (Φ : FT) : SS := (sSeq (sFor (iA kRng1 (aCons (eC (.int 300)) aNil)) (gNm 3) (sSeq (sIf (tBol (e2 oEq (eMeth Φ [(10, 42)] "stands" (eVar 0) (aCons (eVar 1) aNil)) (eC (.str "moves")))) (sSeq (sExpr (eMeth Φ [(10, 40)] "step" (eVar 0) (aCons (eVar 1) aNil)))
    sNext) sNext)
   sNext))
  (sSeq (sRet (eAnd (e2 oEq (eMeth Φ [(10, 42)] "stands" (eVar 0) (aCons (eVar 1) aNil)) (eC (.str "waits"))) (e2 oEq (eMt isLst mCount (eMeth Φ [(10, 44)] "schedule" (eVar 0) aNil) (aCons (eTup (aCons (eVar 1) (aCons (eC (.int 1)) aNil))) aNil)) (eVar 2))))
  sNext))
theorem m56_ok (Φ : FT) : sk (rk Φ 40) ⟨d56.N, d56.scope, true, gk⟩ 40 d56.body = m56 Φ := by kernel_rfl
/-- law -/
def m57 (Φ : FT) : SS := (sSeq (sAsg (eCall Φ 51 (aCons (eVar 0) aNil)) (gNm 1))
  (sSeq (sAsg (eTup (aCons (eTup (aCons (eTup (aCons (eC (.non)) (aCons (eC (.int 0)) (aCons (eTup aNil) aNil)))) aNil)) (aCons (eTup (aCons (eTup (aCons (eC (.int 0)) (aCons (eTup (aCons (eTup (aCons (eC (.str "branch")) (aCons (eC (.int 0)) aNil))) aNil)) aNil))) (aCons (eTup (aCons (eC (.int 0)) (aCons (eTup (aCons (eTup (aCons (eC (.str "input")) (aCons (eC (.int 0)) aNil))) (aCons (eTup (aCons (eC (.str "show")) (aCons (eC (.int 0)) aNil))) aNil))) aNil))) (aCons (eTup (aCons (eC (.int 0)) (aCons (eTup (aCons (eTup (aCons (eC (.str "show")) (aCons (eC (.int 0)) aNil))) aNil)) aNil))) aNil)))) aNil))) (gNm 2))
  (sSeq (sAsg (eA (k1 oTuple) (aCons (eLc (iA kRng1 (aCons (e2 oAdd (eC (.int 1)) (eCall Φ 52 (aCons (eVar 1) (aCons (eC (.int 3)) aNil)))) aNil)) (gNm 3) tYes (eCall Φ 53 (aCons (eVar 1) (aCons (eLst (aCons (eC (.int 0)) (aCons (eC (.int 0)) (aCons (eC (.int 1)) (aCons (eC (.int 2)) aNil))))) aNil))) [3]) aNil)) (gNm 4))
  (sSeq (sPar3 5 6 7 (aCons (eMake Φ 10 37 (aCons (eVar 2) (aCons (eVar 4) (aCons (eLst (aCons (eC (.int 0)) aNil)) aNil)))) (aCons (e2 oMul (eLst (aCons (eC (.int 0)) aNil)) (eA (k1 oLen) (aCons (eVar 4) aNil))) (aCons (eLst aNil) aNil))))
  (sSeq (sFor (iA kRng1 (aCons (e2 oAdd (eC (.int 4)) (eCall Φ 52 (aCons (eVar 1) (aCons (eC (.int 12)) aNil)))) aNil)) (gNm 3) (sSeq (sPar2 8 9 (aCons (eCall Φ 52 (aCons (eVar 1) (aCons (eC (.int 8)) aNil))) (aCons (eCall Φ 52 (aCons (eVar 1) (aCons (eA (k1 oLen) (aCons (eVar 4) aNil)) aNil))) aNil)))
   (sSeq (sIf (tBol (e2 oEq (eVar 8) (eC (.int 0)))) (sSeq (sExpr (eMeth Φ [(10, 48)] "mark" (eVar 5) aNil))
    (sSeq (sExpr (eMt isLst mAppend (eVar 7) (aCons (eA (k1 oList) (aCons (eVar 6) aNil)) aNil)))
    sNext)) (sSeq (sIf (tAnd (tBol (e2 oEq (eVar 8) (eC (.int 1)))) (tBol (e2 oNe (eVar 7) (eLst aNil)))) (sSeq (sAsg (eCall Φ 52 (aCons (eVar 1) (aCons (eA (k1 oLen) (aCons (eVar 7) aNil)) aNil))) (gNm 10))
     (sSeq (sExpr (eMeth Φ [(10, 49)] "back" (eVar 5) (aCons (eVar 10) aNil)))
     (sSeq (sPar2 6 7 (aCons (eA (k1 oList) (aCons (e2 oIx (eVar 7) (eVar 10)) aNil)) (aCons (eSl (eVar 7) pNone (pSome (e2 oAdd (eVar 10) (eC (.int 1))))) aNil)))
     sNext))) (sSeq (sIf (tBol (e2 oLt (eVar 8) (eC (.int 6)))) (sSeq (sIf (tNot (tTru (eCall Φ 55 (aCons (eVar 1) (aCons (eVar 5) (aCons (eVar 9) (aCons (eVar 6) aNil))))))) (sSeq (sRet (eC (.bl false)))
       sNext) sNext)
      sNext) (sSeq (sFor (iA kRng1 (aCons (eCall Φ 52 (aCons (eVar 1) (aCons (eC (.int 30)) aNil))) aNil)) (gNm 11) (sSeq (sIf (tBol (e2 oEq (eMeth Φ [(10, 42)] "stands" (eVar 5) (aCons (eVar 9) aNil)) (eC (.str "moves")))) (sSeq (sExpr (eMeth Φ [(10, 40)] "step" (eVar 5) (aCons (eVar 9) aNil)))
        sNext) sNext)
       sNext))
      sNext))
     sNext))
    sNext))
   sNext)))
  (sSeq (sFor (iA kEnu (aCons (eVar 4) aNil)) (gTp [(gNm 9), (gNm 12)]) (sSeq (sIf (tAnd (tBol (e2 oEq (eVar 12) (eC (.int 0)))) (tNot (tTru (eCall Φ 56 (aCons (eVar 5) (aCons (eVar 9) (aCons (e2 oIx (eVar 6) (eVar 9)) aNil))))))) (sSeq (sRet (eC (.bl false)))
    sNext) sNext)
   sNext))
  (sSeq (sRet (eC (.bl true)))
  sNext)))))))
theorem m57_ok (Φ : FT) : sk (rk Φ 40) ⟨d57.N, d57.scope, true, gk⟩ 40 d57.body = m57 Φ := by kernel_rfl
end K85

set_option maxRecDepth 100000
set_option maxHeartbeats 0
namespace K85
open PySem Fw
theorem lp0 : d0.ps.length = 1 := by kernel_rfl
theorem ln0 : d0.N.length = 1 := by kernel_rfl
theorem phi0 (k : Nat) (ws : List W) (h : IH) : Phi gk tab (k + 1) 0 ws h = callB (m0 (Phi gk tab k)) 1 1 ws h := by
  show callB (sk (rk (Phi gk tab k) 40) ⟨d0.N, d0.scope, true, gk⟩ 40 d0.body) d0.ps.length d0.N.length ws h = _
  rw [m0_ok, lp0, ln0]
theorem lp1 : d1.ps.length = 3 := by kernel_rfl
theorem ln1 : d1.N.length = 3 := by kernel_rfl
theorem phi1 (k : Nat) (ws : List W) (h : IH) : Phi gk tab (k + 1) 1 ws h = callB (m1 (Phi gk tab k)) 3 3 ws h := by
  show callB (sk (rk (Phi gk tab k) 40) ⟨d1.N, d1.scope, true, gk⟩ 40 d1.body) d1.ps.length d1.N.length ws h = _
  rw [m1_ok, lp1, ln1]
theorem lp2 : d2.ps.length = 1 := by kernel_rfl
theorem ln2 : d2.N.length = 1 := by kernel_rfl
theorem phi2 (k : Nat) (ws : List W) (h : IH) : Phi gk tab (k + 1) 2 ws h = callB (m2 (Phi gk tab k)) 1 1 ws h := by
  show callB (sk (rk (Phi gk tab k) 40) ⟨d2.N, d2.scope, true, gk⟩ 40 d2.body) d2.ps.length d2.N.length ws h = _
  rw [m2_ok, lp2, ln2]
theorem lp3 : d3.ps.length = 1 := by kernel_rfl
theorem ln3 : d3.N.length = 1 := by kernel_rfl
theorem phi3 (k : Nat) (ws : List W) (h : IH) : Phi gk tab (k + 1) 3 ws h = callB (m3 (Phi gk tab k)) 1 1 ws h := by
  show callB (sk (rk (Phi gk tab k) 40) ⟨d3.N, d3.scope, true, gk⟩ 40 d3.body) d3.ps.length d3.N.length ws h = _
  rw [m3_ok, lp3, ln3]
theorem lp4 : d4.ps.length = 3 := by kernel_rfl
theorem ln4 : d4.N.length = 3 := by kernel_rfl
theorem phi4 (k : Nat) (ws : List W) (h : IH) : Phi gk tab (k + 1) 4 ws h = callB (m4 (Phi gk tab k)) 3 3 ws h := by
  show callB (sk (rk (Phi gk tab k) 40) ⟨d4.N, d4.scope, true, gk⟩ 40 d4.body) d4.ps.length d4.N.length ws h = _
  rw [m4_ok, lp4, ln4]
theorem lp5 : d5.ps.length = 4 := by kernel_rfl
theorem ln5 : d5.N.length = 5 := by kernel_rfl
theorem phi5 (k : Nat) (ws : List W) (h : IH) : Phi gk tab (k + 1) 5 ws h = callB (m5 (Phi gk tab k)) 4 5 ws h := by
  show callB (sk (rk (Phi gk tab k) 40) ⟨d5.N, d5.scope, true, gk⟩ 40 d5.body) d5.ps.length d5.N.length ws h = _
  rw [m5_ok, lp5, ln5]
theorem lp6 : d6.ps.length = 2 := by kernel_rfl
theorem ln6 : d6.N.length = 2 := by kernel_rfl
theorem phi6 (k : Nat) (ws : List W) (h : IH) : Phi gk tab (k + 1) 6 ws h = callB (m6 (Phi gk tab k)) 2 2 ws h := by
  show callB (sk (rk (Phi gk tab k) 40) ⟨d6.N, d6.scope, true, gk⟩ 40 d6.body) d6.ps.length d6.N.length ws h = _
  rw [m6_ok, lp6, ln6]
theorem lp7 : d7.ps.length = 2 := by kernel_rfl
theorem ln7 : d7.N.length = 2 := by kernel_rfl
theorem phi7 (k : Nat) (ws : List W) (h : IH) : Phi gk tab (k + 1) 7 ws h = callB (m7 (Phi gk tab k)) 2 2 ws h := by
  show callB (sk (rk (Phi gk tab k) 40) ⟨d7.N, d7.scope, true, gk⟩ 40 d7.body) d7.ps.length d7.N.length ws h = _
  rw [m7_ok, lp7, ln7]
theorem lp8 : d8.ps.length = 1 := by kernel_rfl
theorem ln8 : d8.N.length = 7 := by kernel_rfl
theorem phi8 (k : Nat) (ws : List W) (h : IH) : Phi gk tab (k + 1) 8 ws h = callB (m8 (Phi gk tab k)) 1 7 ws h := by
  show callB (sk (rk (Phi gk tab k) 40) ⟨d8.N, d8.scope, true, gk⟩ 40 d8.body) d8.ps.length d8.N.length ws h = _
  rw [m8_ok, lp8, ln8]
theorem lp9 : d9.ps.length = 2 := by kernel_rfl
theorem ln9 : d9.N.length = 8 := by kernel_rfl
theorem phi9 (k : Nat) (ws : List W) (h : IH) : Phi gk tab (k + 1) 9 ws h = callB (m9 (Phi gk tab k)) 2 8 ws h := by
  show callB (sk (rk (Phi gk tab k) 40) ⟨d9.N, d9.scope, true, gk⟩ 40 d9.body) d9.ps.length d9.N.length ws h = _
  rw [m9_ok, lp9, ln9]
theorem lp10 : d10.ps.length = 1 := by kernel_rfl
theorem ln10 : d10.N.length = 1 := by kernel_rfl
theorem phi10 (k : Nat) (ws : List W) (h : IH) : Phi gk tab (k + 1) 10 ws h = callB (m10 (Phi gk tab k)) 1 1 ws h := by
  show callB (sk (rk (Phi gk tab k) 40) ⟨d10.N, d10.scope, true, gk⟩ 40 d10.body) d10.ps.length d10.N.length ws h = _
  rw [m10_ok, lp10, ln10]
theorem lp11 : d11.ps.length = 2 := by kernel_rfl
theorem ln11 : d11.N.length = 2 := by kernel_rfl
theorem phi11 (k : Nat) (ws : List W) (h : IH) : Phi gk tab (k + 1) 11 ws h = callB (m11 (Phi gk tab k)) 2 2 ws h := by
  show callB (sk (rk (Phi gk tab k) 40) ⟨d11.N, d11.scope, true, gk⟩ 40 d11.body) d11.ps.length d11.N.length ws h = _
  rw [m11_ok, lp11, ln11]
theorem lp12 : d12.ps.length = 2 := by kernel_rfl
theorem ln12 : d12.N.length = 2 := by kernel_rfl
theorem phi12 (k : Nat) (ws : List W) (h : IH) : Phi gk tab (k + 1) 12 ws h = callB (m12 (Phi gk tab k)) 2 2 ws h := by
  show callB (sk (rk (Phi gk tab k) 40) ⟨d12.N, d12.scope, true, gk⟩ 40 d12.body) d12.ps.length d12.N.length ws h = _
  rw [m12_ok, lp12, ln12]
theorem lp13 : d13.ps.length = 2 := by kernel_rfl
theorem ln13 : d13.N.length = 2 := by kernel_rfl
theorem phi13 (k : Nat) (ws : List W) (h : IH) : Phi gk tab (k + 1) 13 ws h = callB (m13 (Phi gk tab k)) 2 2 ws h := by
  show callB (sk (rk (Phi gk tab k) 40) ⟨d13.N, d13.scope, true, gk⟩ 40 d13.body) d13.ps.length d13.N.length ws h = _
  rw [m13_ok, lp13, ln13]
theorem lp14 : d14.ps.length = 2 := by kernel_rfl
theorem ln14 : d14.N.length = 3 := by kernel_rfl
theorem phi14 (k : Nat) (ws : List W) (h : IH) : Phi gk tab (k + 1) 14 ws h = callB (m14 (Phi gk tab k)) 2 3 ws h := by
  show callB (sk (rk (Phi gk tab k) 40) ⟨d14.N, d14.scope, true, gk⟩ 40 d14.body) d14.ps.length d14.N.length ws h = _
  rw [m14_ok, lp14, ln14]
theorem lp15 : d15.ps.length = 2 := by kernel_rfl
theorem ln15 : d15.N.length = 2 := by kernel_rfl
theorem phi15 (k : Nat) (ws : List W) (h : IH) : Phi gk tab (k + 1) 15 ws h = callB (m15 (Phi gk tab k)) 2 2 ws h := by
  show callB (sk (rk (Phi gk tab k) 40) ⟨d15.N, d15.scope, true, gk⟩ 40 d15.body) d15.ps.length d15.N.length ws h = _
  rw [m15_ok, lp15, ln15]
theorem lp16 : d16.ps.length = 2 := by kernel_rfl
theorem ln16 : d16.N.length = 3 := by kernel_rfl
theorem phi16 (k : Nat) (ws : List W) (h : IH) : Phi gk tab (k + 1) 16 ws h = callB (m16 (Phi gk tab k)) 2 3 ws h := by
  show callB (sk (rk (Phi gk tab k) 40) ⟨d16.N, d16.scope, true, gk⟩ 40 d16.body) d16.ps.length d16.N.length ws h = _
  rw [m16_ok, lp16, ln16]
theorem lp17 : d17.ps.length = 3 := by kernel_rfl
theorem ln17 : d17.N.length = 3 := by kernel_rfl
theorem phi17 (k : Nat) (ws : List W) (h : IH) : Phi gk tab (k + 1) 17 ws h = callB (m17 (Phi gk tab k)) 3 3 ws h := by
  show callB (sk (rk (Phi gk tab k) 40) ⟨d17.N, d17.scope, true, gk⟩ 40 d17.body) d17.ps.length d17.N.length ws h = _
  rw [m17_ok, lp17, ln17]
theorem lp18 : d18.ps.length = 1 := by kernel_rfl
theorem ln18 : d18.N.length = 2 := by kernel_rfl
theorem phi18 (k : Nat) (ws : List W) (h : IH) : Phi gk tab (k + 1) 18 ws h = callB (m18 (Phi gk tab k)) 1 2 ws h := by
  show callB (sk (rk (Phi gk tab k) 40) ⟨d18.N, d18.scope, true, gk⟩ 40 d18.body) d18.ps.length d18.N.length ws h = _
  rw [m18_ok, lp18, ln18]
theorem lp19 : d19.ps.length = 4 := by kernel_rfl
theorem ln19 : d19.N.length = 4 := by kernel_rfl
theorem phi19 (k : Nat) (ws : List W) (h : IH) : Phi gk tab (k + 1) 19 ws h = callB (m19 (Phi gk tab k)) 4 4 ws h := by
  show callB (sk (rk (Phi gk tab k) 40) ⟨d19.N, d19.scope, true, gk⟩ 40 d19.body) d19.ps.length d19.N.length ws h = _
  rw [m19_ok, lp19, ln19]
theorem lp20 : d20.ps.length = 1 := by kernel_rfl
theorem ln20 : d20.N.length = 3 := by kernel_rfl
theorem phi20 (k : Nat) (ws : List W) (h : IH) : Phi gk tab (k + 1) 20 ws h = callB (m20 (Phi gk tab k)) 1 3 ws h := by
  show callB (sk (rk (Phi gk tab k) 40) ⟨d20.N, d20.scope, true, gk⟩ 40 d20.body) d20.ps.length d20.N.length ws h = _
  rw [m20_ok, lp20, ln20]
theorem lp21 : d21.ps.length = 1 := by kernel_rfl
theorem ln21 : d21.N.length = 1 := by kernel_rfl
theorem phi21 (k : Nat) (ws : List W) (h : IH) : Phi gk tab (k + 1) 21 ws h = callB (m21 (Phi gk tab k)) 1 1 ws h := by
  show callB (sk (rk (Phi gk tab k) 40) ⟨d21.N, d21.scope, true, gk⟩ 40 d21.body) d21.ps.length d21.N.length ws h = _
  rw [m21_ok, lp21, ln21]
theorem lp22 : d22.ps.length = 2 := by kernel_rfl
theorem ln22 : d22.N.length = 3 := by kernel_rfl
theorem phi22 (k : Nat) (ws : List W) (h : IH) : Phi gk tab (k + 1) 22 ws h = callB (m22 (Phi gk tab k)) 2 3 ws h := by
  show callB (sk (rk (Phi gk tab k) 40) ⟨d22.N, d22.scope, true, gk⟩ 40 d22.body) d22.ps.length d22.N.length ws h = _
  rw [m22_ok, lp22, ln22]
theorem lp23 : d23.ps.length = 1 := by kernel_rfl
theorem ln23 : d23.N.length = 4 := by kernel_rfl
theorem phi23 (k : Nat) (ws : List W) (h : IH) : Phi gk tab (k + 1) 23 ws h = callB (m23 (Phi gk tab k)) 1 4 ws h := by
  show callB (sk (rk (Phi gk tab k) 40) ⟨d23.N, d23.scope, true, gk⟩ 40 d23.body) d23.ps.length d23.N.length ws h = _
  rw [m23_ok, lp23, ln23]
theorem lp24 : d24.ps.length = 2 := by kernel_rfl
theorem ln24 : d24.N.length = 4 := by kernel_rfl
theorem phi24 (k : Nat) (ws : List W) (h : IH) : Phi gk tab (k + 1) 24 ws h = callB (m24 (Phi gk tab k)) 2 4 ws h := by
  show callB (sk (rk (Phi gk tab k) 40) ⟨d24.N, d24.scope, true, gk⟩ 40 d24.body) d24.ps.length d24.N.length ws h = _
  rw [m24_ok, lp24, ln24]
theorem lp25 : d25.ps.length = 2 := by kernel_rfl
theorem ln25 : d25.N.length = 4 := by kernel_rfl
theorem phi25 (k : Nat) (ws : List W) (h : IH) : Phi gk tab (k + 1) 25 ws h = callB (m25 (Phi gk tab k)) 2 4 ws h := by
  show callB (sk (rk (Phi gk tab k) 40) ⟨d25.N, d25.scope, true, gk⟩ 40 d25.body) d25.ps.length d25.N.length ws h = _
  rw [m25_ok, lp25, ln25]
theorem lp26 : d26.ps.length = 2 := by kernel_rfl
theorem ln26 : d26.N.length = 4 := by kernel_rfl
theorem phi26 (k : Nat) (ws : List W) (h : IH) : Phi gk tab (k + 1) 26 ws h = callB (m26 (Phi gk tab k)) 2 4 ws h := by
  show callB (sk (rk (Phi gk tab k) 40) ⟨d26.N, d26.scope, true, gk⟩ 40 d26.body) d26.ps.length d26.N.length ws h = _
  rw [m26_ok, lp26, ln26]
theorem lp27 : d27.ps.length = 2 := by kernel_rfl
theorem ln27 : d27.N.length = 4 := by kernel_rfl
theorem phi27 (k : Nat) (ws : List W) (h : IH) : Phi gk tab (k + 1) 27 ws h = callB (m27 (Phi gk tab k)) 2 4 ws h := by
  show callB (sk (rk (Phi gk tab k) 40) ⟨d27.N, d27.scope, true, gk⟩ 40 d27.body) d27.ps.length d27.N.length ws h = _
  rw [m27_ok, lp27, ln27]
theorem lp28 : d28.ps.length = 2 := by kernel_rfl
theorem ln28 : d28.N.length = 4 := by kernel_rfl
theorem phi28 (k : Nat) (ws : List W) (h : IH) : Phi gk tab (k + 1) 28 ws h = callB (m28 (Phi gk tab k)) 2 4 ws h := by
  show callB (sk (rk (Phi gk tab k) 40) ⟨d28.N, d28.scope, true, gk⟩ 40 d28.body) d28.ps.length d28.N.length ws h = _
  rw [m28_ok, lp28, ln28]
theorem lp29 : d29.ps.length = 3 := by kernel_rfl
theorem ln29 : d29.N.length = 3 := by kernel_rfl
theorem phi29 (k : Nat) (ws : List W) (h : IH) : Phi gk tab (k + 1) 29 ws h = callB (m29 (Phi gk tab k)) 3 3 ws h := by
  show callB (sk (rk (Phi gk tab k) 40) ⟨d29.N, d29.scope, true, gk⟩ 40 d29.body) d29.ps.length d29.N.length ws h = _
  rw [m29_ok, lp29, ln29]
theorem lp30 : d30.ps.length = 2 := by kernel_rfl
theorem ln30 : d30.N.length = 4 := by kernel_rfl
theorem phi30 (k : Nat) (ws : List W) (h : IH) : Phi gk tab (k + 1) 30 ws h = callB (m30 (Phi gk tab k)) 2 4 ws h := by
  show callB (sk (rk (Phi gk tab k) 40) ⟨d30.N, d30.scope, true, gk⟩ 40 d30.body) d30.ps.length d30.N.length ws h = _
  rw [m30_ok, lp30, ln30]
theorem lp31 : d31.ps.length = 2 := by kernel_rfl
theorem ln31 : d31.N.length = 4 := by kernel_rfl
theorem phi31 (k : Nat) (ws : List W) (h : IH) : Phi gk tab (k + 1) 31 ws h = callB (m31 (Phi gk tab k)) 2 4 ws h := by
  show callB (sk (rk (Phi gk tab k) 40) ⟨d31.N, d31.scope, true, gk⟩ 40 d31.body) d31.ps.length d31.N.length ws h = _
  rw [m31_ok, lp31, ln31]
theorem lp32 : d32.ps.length = 2 := by kernel_rfl
theorem ln32 : d32.N.length = 3 := by kernel_rfl
theorem phi32 (k : Nat) (ws : List W) (h : IH) : Phi gk tab (k + 1) 32 ws h = callB (m32 (Phi gk tab k)) 2 3 ws h := by
  show callB (sk (rk (Phi gk tab k) 40) ⟨d32.N, d32.scope, true, gk⟩ 40 d32.body) d32.ps.length d32.N.length ws h = _
  rw [m32_ok, lp32, ln32]
theorem lp33 : d33.ps.length = 3 := by kernel_rfl
theorem ln33 : d33.N.length = 4 := by kernel_rfl
theorem phi33 (k : Nat) (ws : List W) (h : IH) : Phi gk tab (k + 1) 33 ws h = callB (m33 (Phi gk tab k)) 3 4 ws h := by
  show callB (sk (rk (Phi gk tab k) 40) ⟨d33.N, d33.scope, true, gk⟩ 40 d33.body) d33.ps.length d33.N.length ws h = _
  rw [m33_ok, lp33, ln33]
theorem lp34 : d34.ps.length = 3 := by kernel_rfl
theorem ln34 : d34.N.length = 4 := by kernel_rfl
theorem phi34 (k : Nat) (ws : List W) (h : IH) : Phi gk tab (k + 1) 34 ws h = callB (m34 (Phi gk tab k)) 3 4 ws h := by
  show callB (sk (rk (Phi gk tab k) 40) ⟨d34.N, d34.scope, true, gk⟩ 40 d34.body) d34.ps.length d34.N.length ws h = _
  rw [m34_ok, lp34, ln34]
theorem lp35 : d35.ps.length = 1 := by kernel_rfl
theorem ln35 : d35.N.length = 1 := by kernel_rfl
theorem phi35 (k : Nat) (ws : List W) (h : IH) : Phi gk tab (k + 1) 35 ws h = callB (m35 (Phi gk tab k)) 1 1 ws h := by
  show callB (sk (rk (Phi gk tab k) 40) ⟨d35.N, d35.scope, true, gk⟩ 40 d35.body) d35.ps.length d35.N.length ws h = _
  rw [m35_ok, lp35, ln35]
theorem lp36 : d36.ps.length = 1 := by kernel_rfl
theorem ln36 : d36.N.length = 3 := by kernel_rfl
theorem phi36 (k : Nat) (ws : List W) (h : IH) : Phi gk tab (k + 1) 36 ws h = callB (m36 (Phi gk tab k)) 1 3 ws h := by
  show callB (sk (rk (Phi gk tab k) 40) ⟨d36.N, d36.scope, true, gk⟩ 40 d36.body) d36.ps.length d36.N.length ws h = _
  rw [m36_ok, lp36, ln36]
theorem lp37 : d37.ps.length = 4 := by kernel_rfl
theorem ln37 : d37.N.length = 7 := by kernel_rfl
theorem phi37 (k : Nat) (ws : List W) (h : IH) : Phi gk tab (k + 1) 37 ws h = callB (m37 (Phi gk tab k)) 4 7 ws h := by
  show callB (sk (rk (Phi gk tab k) 40) ⟨d37.N, d37.scope, true, gk⟩ 40 d37.body) d37.ps.length d37.N.length ws h = _
  rw [m37_ok, lp37, ln37]
theorem lp38 : d38.ps.length = 2 := by kernel_rfl
theorem ln38 : d38.N.length = 2 := by kernel_rfl
theorem phi38 (k : Nat) (ws : List W) (h : IH) : Phi gk tab (k + 1) 38 ws h = callB (m38 (Phi gk tab k)) 2 2 ws h := by
  show callB (sk (rk (Phi gk tab k) 40) ⟨d38.N, d38.scope, true, gk⟩ 40 d38.body) d38.ps.length d38.N.length ws h = _
  rw [m38_ok, lp38, ln38]
theorem lp39 : d39.ps.length = 3 := by kernel_rfl
theorem ln39 : d39.N.length = 4 := by kernel_rfl
theorem phi39 (k : Nat) (ws : List W) (h : IH) : Phi gk tab (k + 1) 39 ws h = callB (m39 (Phi gk tab k)) 3 4 ws h := by
  show callB (sk (rk (Phi gk tab k) 40) ⟨d39.N, d39.scope, true, gk⟩ 40 d39.body) d39.ps.length d39.N.length ws h = _
  rw [m39_ok, lp39, ln39]
theorem lp40 : d40.ps.length = 2 := by kernel_rfl
theorem ln40 : d40.N.length = 5 := by kernel_rfl
theorem phi40 (k : Nat) (ws : List W) (h : IH) : Phi gk tab (k + 1) 40 ws h = callB (m40 (Phi gk tab k)) 2 5 ws h := by
  show callB (sk (rk (Phi gk tab k) 40) ⟨d40.N, d40.scope, true, gk⟩ 40 d40.body) d40.ps.length d40.N.length ws h = _
  rw [m40_ok, lp40, ln40]
theorem lp41 : d41.ps.length = 2 := by kernel_rfl
theorem ln41 : d41.N.length = 2 := by kernel_rfl
theorem phi41 (k : Nat) (ws : List W) (h : IH) : Phi gk tab (k + 1) 41 ws h = callB (m41 (Phi gk tab k)) 2 2 ws h := by
  show callB (sk (rk (Phi gk tab k) 40) ⟨d41.N, d41.scope, true, gk⟩ 40 d41.body) d41.ps.length d41.N.length ws h = _
  rw [m41_ok, lp41, ln41]
theorem lp42 : d42.ps.length = 2 := by kernel_rfl
theorem ln42 : d42.N.length = 2 := by kernel_rfl
theorem phi42 (k : Nat) (ws : List W) (h : IH) : Phi gk tab (k + 1) 42 ws h = callB (m42 (Phi gk tab k)) 2 2 ws h := by
  show callB (sk (rk (Phi gk tab k) 40) ⟨d42.N, d42.scope, true, gk⟩ 40 d42.body) d42.ps.length d42.N.length ws h = _
  rw [m42_ok, lp42, ln42]
theorem lp43 : d43.ps.length = 1 := by kernel_rfl
theorem ln43 : d43.N.length = 1 := by kernel_rfl
theorem phi43 (k : Nat) (ws : List W) (h : IH) : Phi gk tab (k + 1) 43 ws h = callB (m43 (Phi gk tab k)) 1 1 ws h := by
  show callB (sk (rk (Phi gk tab k) 40) ⟨d43.N, d43.scope, true, gk⟩ 40 d43.body) d43.ps.length d43.N.length ws h = _
  rw [m43_ok, lp43, ln43]
theorem lp44 : d44.ps.length = 1 := by kernel_rfl
theorem ln44 : d44.N.length = 1 := by kernel_rfl
theorem phi44 (k : Nat) (ws : List W) (h : IH) : Phi gk tab (k + 1) 44 ws h = callB (m44 (Phi gk tab k)) 1 1 ws h := by
  show callB (sk (rk (Phi gk tab k) 40) ⟨d44.N, d44.scope, true, gk⟩ 40 d44.body) d44.ps.length d44.N.length ws h = _
  rw [m44_ok, lp44, ln44]
theorem lp45 : d45.ps.length = 2 := by kernel_rfl
theorem ln45 : d45.N.length = 2 := by kernel_rfl
theorem phi45 (k : Nat) (ws : List W) (h : IH) : Phi gk tab (k + 1) 45 ws h = callB (m45 (Phi gk tab k)) 2 2 ws h := by
  show callB (sk (rk (Phi gk tab k) 40) ⟨d45.N, d45.scope, true, gk⟩ 40 d45.body) d45.ps.length d45.N.length ws h = _
  rw [m45_ok, lp45, ln45]
theorem lp46 : d46.ps.length = 2 := by kernel_rfl
theorem ln46 : d46.N.length = 2 := by kernel_rfl
theorem phi46 (k : Nat) (ws : List W) (h : IH) : Phi gk tab (k + 1) 46 ws h = callB (m46 (Phi gk tab k)) 2 2 ws h := by
  show callB (sk (rk (Phi gk tab k) 40) ⟨d46.N, d46.scope, true, gk⟩ 40 d46.body) d46.ps.length d46.N.length ws h = _
  rw [m46_ok, lp46, ln46]
theorem lp47 : d47.ps.length = 1 := by kernel_rfl
theorem ln47 : d47.N.length = 1 := by kernel_rfl
theorem phi47 (k : Nat) (ws : List W) (h : IH) : Phi gk tab (k + 1) 47 ws h = callB (m47 (Phi gk tab k)) 1 1 ws h := by
  show callB (sk (rk (Phi gk tab k) 40) ⟨d47.N, d47.scope, true, gk⟩ 40 d47.body) d47.ps.length d47.N.length ws h = _
  rw [m47_ok, lp47, ln47]
theorem lp48 : d48.ps.length = 1 := by kernel_rfl
theorem ln48 : d48.N.length = 1 := by kernel_rfl
theorem phi48 (k : Nat) (ws : List W) (h : IH) : Phi gk tab (k + 1) 48 ws h = callB (m48 (Phi gk tab k)) 1 1 ws h := by
  show callB (sk (rk (Phi gk tab k) 40) ⟨d48.N, d48.scope, true, gk⟩ 40 d48.body) d48.ps.length d48.N.length ws h = _
  rw [m48_ok, lp48, ln48]
theorem lp49 : d49.ps.length = 2 := by kernel_rfl
theorem ln49 : d49.N.length = 2 := by kernel_rfl
theorem phi49 (k : Nat) (ws : List W) (h : IH) : Phi gk tab (k + 1) 49 ws h = callB (m49 (Phi gk tab k)) 2 2 ws h := by
  show callB (sk (rk (Phi gk tab k) 40) ⟨d49.N, d49.scope, true, gk⟩ 40 d49.body) d49.ps.length d49.N.length ws h = _
  rw [m49_ok, lp49, ln49]
theorem lp50 : d50.ps.length = 2 := by kernel_rfl
theorem ln50 : d50.N.length = 6 := by kernel_rfl
theorem phi50 (k : Nat) (ws : List W) (h : IH) : Phi gk tab (k + 1) 50 ws h = callB (m50 (Phi gk tab k)) 2 6 ws h := by
  show callB (sk (rk (Phi gk tab k) 40) ⟨d50.N, d50.scope, true, gk⟩ 40 d50.body) d50.ps.length d50.N.length ws h = _
  rw [m50_ok, lp50, ln50]
theorem lp51 : d51.ps.length = 1 := by kernel_rfl
theorem ln51 : d51.N.length = 4 := by kernel_rfl
theorem phi51 (k : Nat) (ws : List W) (h : IH) : Phi gk tab (k + 1) 51 ws h = callB (m51 (Phi gk tab k)) 1 4 ws h := by
  show callB (sk (rk (Phi gk tab k) 40) ⟨d51.N, d51.scope, true, gk⟩ 40 d51.body) d51.ps.length d51.N.length ws h = _
  rw [m51_ok, lp51, ln51]
theorem lp52 : d52.ps.length = 2 := by kernel_rfl
theorem ln52 : d52.N.length = 5 := by kernel_rfl
theorem phi52 (k : Nat) (ws : List W) (h : IH) : Phi gk tab (k + 1) 52 ws h = callB (m52 (Phi gk tab k)) 2 5 ws h := by
  show callB (sk (rk (Phi gk tab k) 40) ⟨d52.N, d52.scope, true, gk⟩ 40 d52.body) d52.ps.length d52.N.length ws h = _
  rw [m52_ok, lp52, ln52]
theorem lp53 : d53.ps.length = 2 := by kernel_rfl
theorem ln53 : d53.N.length = 2 := by kernel_rfl
theorem phi53 (k : Nat) (ws : List W) (h : IH) : Phi gk tab (k + 1) 53 ws h = callB (m53 (Phi gk tab k)) 2 2 ws h := by
  show callB (sk (rk (Phi gk tab k) 40) ⟨d53.N, d53.scope, true, gk⟩ 40 d53.body) d53.ps.length d53.N.length ws h = _
  rw [m53_ok, lp53, ln53]
theorem lp54 : d54.ps.length = 3 := by kernel_rfl
theorem ln54 : d54.N.length = 3 := by kernel_rfl
theorem phi54 (k : Nat) (ws : List W) (h : IH) : Phi gk tab (k + 1) 54 ws h = callB (m54 (Phi gk tab k)) 3 3 ws h := by
  show callB (sk (rk (Phi gk tab k) 40) ⟨d54.N, d54.scope, true, gk⟩ 40 d54.body) d54.ps.length d54.N.length ws h = _
  rw [m54_ok, lp54, ln54]
theorem lp55 : d55.ps.length = 4 := by kernel_rfl
theorem ln55 : d55.N.length = 7 := by kernel_rfl
theorem phi55 (k : Nat) (ws : List W) (h : IH) : Phi gk tab (k + 1) 55 ws h = callB (m55 (Phi gk tab k)) 4 7 ws h := by
  show callB (sk (rk (Phi gk tab k) 40) ⟨d55.N, d55.scope, true, gk⟩ 40 d55.body) d55.ps.length d55.N.length ws h = _
  rw [m55_ok, lp55, ln55]
theorem lp56 : d56.ps.length = 3 := by kernel_rfl
theorem ln56 : d56.N.length = 4 := by kernel_rfl
theorem phi56 (k : Nat) (ws : List W) (h : IH) : Phi gk tab (k + 1) 56 ws h = callB (m56 (Phi gk tab k)) 3 4 ws h := by
  show callB (sk (rk (Phi gk tab k) 40) ⟨d56.N, d56.scope, true, gk⟩ 40 d56.body) d56.ps.length d56.N.length ws h = _
  rw [m56_ok, lp56, ln56]
theorem lp57 : d57.ps.length = 1 := by kernel_rfl
theorem ln57 : d57.N.length = 13 := by kernel_rfl
theorem phi57 (k : Nat) (ws : List W) (h : IH) : Phi gk tab (k + 1) 57 ws h = callB (m57 (Phi gk tab k)) 1 13 ws h := by
  show callB (sk (rk (Phi gk tab k) 40) ⟨d57.N, d57.scope, true, gk⟩ 40 d57.body) d57.ps.length d57.N.length ws h = _
  rw [m57_ok, lp57, ln57]
end K85

set_option linter.all false
set_option maxRecDepth 100000
set_option maxHeartbeats 1000000
namespace K85
open PySem Fw
theorem spread_ok (Φ : FT) (cell at_ : Int) (h : IH) (ha : 0 ≤ at_) (hb : at_ < 1000000) : (callB (m50 Φ) 2 6 [.int cell, .int at_] h).Wp fun w h' => ∃ v : Int, w = .int v ∧ 0 ≤ v ∧ Keep h h' := by
  rw [x_callB (by rfl)]
  show (m50 _ [some (.int cell), some (.int at_), none, none, none, none] h).Wp _
  unfold m50
  simp only [↓v0, ↓n0, ↓v1, ↓n1, ↓v2, ↓n2, ↓v3, ↓n3, ↓v4, ↓n4, ↓v5, ↓n5, ↓v6, ↓n6, ↓v7, ↓n7, ↓v8, ↓n8, ↓v9, ↓n9, ↓v10, ↓n10, ↓v11, ↓n11, ↓v12, ↓n12, ↓v13, ↓n13, ↓v14, ↓n14, ↓v15, ↓n15, ↓v16, ↓n16, ↓v17, ↓n17, ↓v18, ↓n18, ↓x_seq, ↓x_if, ↓x_next, ↓x_brk, ↓x_cont, ↓x_asg, ↓x_expr, ↓x_ret, ↓x_retN, ↓x_par2, ↓x_par3, ↓x_C, ↓x_e1, ↓x_e2, ↓x_nil, ↓x_cons, ↓x_eA, ↓x_call, ↓x_tup, ↓x_lst, ↓x_eIf, ↓x_mt, ↓x_sl, ↓x_none, ↓x_some, ↓x_bol, ↓x_bolW, ↓x_tru, ↓x_not, ↓x_and, ↓x_or, ↓x_yes, ↓x_sb, ↓x_add, ↓x_sub, ↓x_mul, ↓x_mod, ↓x_div, ↓x_pow, ↓x_lt, ↓x_le, ↓x_gt, ↓x_ge, ↓x_eqI, ↓x_neI, ↓x_lenT, ↓x_int]
  refine ⟨⟨by decide, by decide⟩, fun hc => ?_, fun _ => ⟨by decide, by decide, ?_⟩⟩
  · have hc := of_decide_eq_true hc
    exact ⟨cell, rfl, by have : (0 : Int) ≤ 10 ^ Int.toNat 18 := by decide
                         omega, Keep.refl⟩
  generalize eh1 : h.new (.lst [W.int 2147483629, W.int 2147483587, W.int 2147483579, W.int 2147483563, W.int 2147483549, W.int 2147483543, W.int 2147483497, W.int 2147483489]) = h1
  have k1 : Keep h h1 := by rw [← eh1]; exact Keep.new
  have n1 : h1.n = h.n + 1 := by rw [← eh1]; rfl
  have g1 : h1.get h.n = some (.lst [W.int 2147483629, W.int 2147483587, W.int 2147483579, W.int 2147483563, W.int 2147483549, W.int 2147483543, W.int 2147483497, W.int 2147483489]) := by rw [← eh1]; exact IH.get_new_self h _
  generalize eh2 : h1.new (.lst [W.int 2147483477, W.int 2147483423, W.int 2147483399, W.int 2147483353, W.int 2147483323]) = h2
  have k2 : Keep h1 h2 := by rw [← eh2]; exact Keep.new
  have n2 : h2.n = h1.n + 1 := by rw [← eh2]; rfl
  have g2 : h2.get h1.n = some (.lst [W.int 2147483477, W.int 2147483423, W.int 2147483399, W.int 2147483353, W.int 2147483323]) := by rw [← eh2]; exact IH.get_new_self h1 _
  rw [x_catL ((k2.2 _ (by omega)).trans g1) g2]
  refine ⟨by decide, ?_⟩
  generalize eh3 : h2.new _ = h3
  have g3 : h3.get h2.n = some (.lst pr13) := by rw [← eh3]; exact IH.get_new_self h2 _
  have k3 : Keep h h3 := (k1.trans k2).trans (by rw [← eh3]; exact Keep.new)
  have c1 := mod_lt (a := cell) (b := 1000000007) (by decide)
  have c2 := mod_lt (a := cell) (b := 65537) (by decide)
  have m1 := mul_lt c1.1 c1.2 (show 0 ≤ 2 * at_ + 69069 by omega) (show 2 * at_ + 69069 < 2100000 by omega)
  have i1 := mod_lt (a := at_) (b := 13) (by decide)
  have i2 := mod_lt (a := at_ + 5) (b := 13) (by decide)
  have i3 := mod_lt (a := at_ + 7) (b := 13) (by decide)
  refine ⟨by decide, by rw [pow64 (i := 2) (by decide) (by decide)]; rfl, by rw [pow64 c1.1 (by omega)]; rfl, by rw [pow64 ha (by omega)]; rfl, ⟨by decide, pow64 (by omega) (by omega)⟩, by decide, ?_⟩
  refine ix_wp g3 i1.1 i1.2 fun w hw => ?_
  obtain ⟨p, rfl, p0, p1⟩ := pr_at hw
  generalize (cell % 1000000007 * (2 * at_ + 69069) + at_ * 40503 + 977) ^ Int.toNat 3 = b1
  simp only [↓x_mod, ↓x_mul, ↓x_add, ↓x_pow]
  have o1 := mod_lt (a := b1) p0
  generalize b1 % p = one at o1 ⊢
  have m2 := mul_lt o1.1 (show one < 2147483648 by omega) (show 0 ≤ at_ + 3 by omega) (show at_ + 3 < 1000003 by omega)
  refine ⟨p0, by rw [pow64 o1.1 (by omega)]; rfl, by decide, ⟨by decide, pow64 (by omega) (by omega)⟩, by decide, ?_⟩
  refine ix_wp g3 i2.1 i2.2 fun w hw => ?_
  obtain ⟨q, rfl, q0, q1⟩ := pr_at hw
  generalize (one * (at_ + 3) + cell % 65537 + 5) ^ Int.toNat 5 = b2
  simp only [↓x_mod, ↓x_mul, ↓x_add, ↓x_pow]
  have o2 := mod_lt (a := b2) q0
  generalize b2 % q = two at o2 ⊢
  have c3 := mod_lt (a := one) (b := 1009) (by decide)
  refine ⟨q0, by decide, ⟨by decide, pow64 (by omega) (by omega)⟩, by decide, ?_⟩
  refine ix_wp g3 i3.1 i3.2 fun w hw => ?_
  obtain ⟨r, rfl, r0, r1⟩ := pr_at hw
  generalize (two + one % 1009 + at_) ^ Int.toNat 3 = b3
  simp only [↓x_mod, ↓x_mul, ↓x_add, ↓x_pow]
  have o3 := mod_lt (a := b3) r0
  have z1 : inPow64 2147483647 = true := pow64 (by decide) (by decide)
  have y1 : 0 ≤ one * 2147483647 := Int.mul_nonneg o1.1 (by decide)
  have y2 : 0 ≤ (one * 2147483647 + two) * 2147483647 := Int.mul_nonneg (by omega) (by decide)
  exact ⟨r0, by rw [z1, Bool.or_true], by rw [z1, Bool.or_true], _, rfl, by omega, k3⟩
def SpO (Φ : FT) : Prop := ∀ (cell at_ : Int) (h : IH), 0 ≤ at_ → at_ < 1000000 → (Φ 50 [.int cell, .int at_] h).Wp fun w h' => ∃ v : Int, w = .int v ∧ 0 ≤ v ∧ Keep h h'
theorem tk_tail {p c : Nat} {b many a l : Int} {cs : List Int} {h0 h' : IH} (m0 : 0 < many) (m1 : many < 1073741824) (x : PenAt h' p c a l cs) (a0 : 0 ≤ a) (a1 : a ≤ b + 1) (l0 : 0 ≤ l) (fr : Fr p h0 h') :
    (oIx (.loc p) (.int 2) h').Wp fun x h => (oMod x (.int many) h).Wp fun w h => (oIx (.loc p) (.int 2) h).Wp fun x h => (oDiv x (.int many) h).Wp fun w_1 h => (oSet (.loc p) (.int 2) w_1 h).Wp fun x h => takeP c p b many h0 w h := by
  rw [x_ix x.pen (by decide) rfl]
  simp only [↓x_mod]
  refine ⟨m0, ?_⟩
  rw [x_ix x.pen (by decide) rfl]
  simp only [↓x_div]
  refine ⟨⟨m0, m1⟩, ?_⟩
  rw [x_set x.pen (by decide) (by simp)]
  have q := mod_lt (a := l) m0
  exact ⟨_, rfl, q.1, q.2, fr.trans (Fr.set (IH.get_lt x.pen)), a, l / many, cs, x.set, a0, a1, Int.ediv_nonneg l0 (by omega)⟩
theorem take_mid {Φ : FT} (H : SpO Φ) {p c : Nat} {b many a l cell : Int} {cs : List Int} {h0 h' : IH} (m0 : 0 < many) (m1 : many < 1073741824) (x : PenAt h' p c a l cs) (a0 : 0 ≤ a) (a1 : a ≤ b) (hb : b < 999999) (fr : Fr p h0 h') :
    (oSet (.loc p) (.int 1) (.int (a + 1)) h').Wp fun x h => (Φ 50 [.int cell, .int a] h).Wp fun w h => (oSet (.loc p) (.int 2) w h).Wp fun x h => (oIx (.loc p) (.int 2) h).Wp fun x h => (oMod x (.int many) h).Wp fun w h => (oIx (.loc p) (.int 2) h).Wp fun x h => (oDiv x (.int many) h).Wp fun w_1 h => (oSet (.loc p) (.int 2) w_1 h).Wp fun x h => takeP c p b many h0 w h := by
  rw [x_set x.pen (by decide) (by simp)]
  have x1 : PenAt (h'.set p (.lst ([W.loc c, .int a, .int l].set (Int.toNat 1) (.int (a + 1))))) p c (a + 1) l cs := x.set
  refine (H cell a _ a0 (by omega)).mono fun w h2 ⟨v, e, v0, k⟩ => ?_
  subst e
  have x2 := x1.keep k
  rw [x_set x2.pen (by decide) (by simp)]
  have x3 : PenAt (h2.set p (.lst ([W.loc c, .int (a + 1), .int l].set (Int.toNat 2) (.int v)))) p c (a + 1) v cs := x2.set
  exact tk_tail m0 m1 x3 (by omega) (by omega) v0 (((fr.trans (Fr.set (IH.get_lt x.pen))).trans k.fr).trans (Fr.set (IH.get_lt x2.pen)))
theorem take_ok (Φ : FT) (H : SpO Φ) {c : Nat} (p : Nat) (b many : Int) (h : IH) (hp : Pen c h p b) (hb : b < 999999) (m0 : 0 < many) (m1 : many < 1073741824) : (callB (m52 Φ) 2 5 [.loc p, .int many] h).Wp (takeP c p b many h) := by
  obtain ⟨a, l, cs, x, a0, a1, l0⟩ := hp
  have hlt := IH.get_lt x.pen
  rw [x_callB (by rfl)]
  show (m52 _ [some (.loc p), some (.int many), none, none, none] h).Wp _
  unfold m52
  simp only [↓v0, ↓n0, ↓v1, ↓n1, ↓v2, ↓n2, ↓v3, ↓n3, ↓v4, ↓n4, ↓v5, ↓n5, ↓v6, ↓n6, ↓v7, ↓n7, ↓v8, ↓n8, ↓v9, ↓n9, ↓v10, ↓n10, ↓v11, ↓n11, ↓v12, ↓n12, ↓v13, ↓n13, ↓v14, ↓n14, ↓v15, ↓n15, ↓v16, ↓n16, ↓v17, ↓n17, ↓v18, ↓n18, ↓x_seq, ↓x_if, ↓x_next, ↓x_brk, ↓x_cont, ↓x_asg, ↓x_expr, ↓x_ret, ↓x_retN, ↓x_par2, ↓x_par3, ↓x_C, ↓x_e1, ↓x_e2, ↓x_nil, ↓x_cons, ↓x_eA, ↓x_call, ↓x_tup, ↓x_lst, ↓x_eIf, ↓x_mt, ↓x_sl, ↓x_none, ↓x_some, ↓x_bol, ↓x_bolW, ↓x_tru, ↓x_not, ↓x_and, ↓x_or, ↓x_yes, ↓x_sb, ↓x_add, ↓x_sub, ↓x_mul, ↓x_mod, ↓x_div, ↓x_pow, ↓x_lt, ↓x_le, ↓x_gt, ↓x_ge, ↓x_eqI, ↓x_neI, ↓x_lenT, ↓x_int]
  rw [x_ix x.pen (by decide) rfl]
  simp only [↓x_lt, ↓x_bolW]
  refine ⟨fun _ => ?_, fun _ => tk_tail m0 m1 x a0 (by omega) l0 Fr.refl⟩
  rw [x_ix x.pen (by decide) rfl, x_ix x.pen (by decide) rfl, x_lenL x.cells]
  simp only [↓x_lt, ↓x_bolW]
  rw [List.length_map]
  refine ⟨fun q => ?_, fun q => ?_⟩
  · have q := of_decide_eq_true q
    rw [x_ix x.pen (by decide) rfl]
    refine ix_wp x.cells a0 (by rw [List.length_map]; exact q) fun w hw => ?_
    rw [List.getElem?_map] at hw
    obtain ⟨v, _, e⟩ := Option.map_eq_some_iff.mp hw
    subst e
    simp only [↓x_add]
    exact take_mid H m0 m1 x a0 a1 hb Fr.refl
  · rw [x_ix x.pen (by decide) rfl, x_lenL x.cells]
    simp only [↓x_gt, ↓x_bolW]
    rw [List.length_map]
    refine ⟨fun z => ?_, fun z => ?_⟩
    · have z := of_decide_eq_true z
      rw [x_ix x.pen (by decide) rfl]
      simp only [↓x_mul, ↓x_add]
      refine ⟨by rw [pow64 a0 (by omega)]; rfl, ?_⟩
      rw [x_ix x.pen (by decide) rfl, x_lenL x.cells, List.length_map]
      simp only [↓x_mod]
      refine ⟨z, ?_⟩
      have i1 := mod_lt (a := a * 5 + 3) z
      refine ix_wp x.cells i1.1 (by rw [List.length_map]; exact i1.2) fun w hw => ?_
      rw [List.getElem?_map] at hw
      obtain ⟨v, _, e⟩ := Option.map_eq_some_iff.mp hw
      subst e
      simp only [↓x_add, ↓x_mod]
      have t : (0 : Int) < 10 ^ Int.toNat 17 := by decide
      exact ⟨⟨by decide, by decide⟩, by omega, take_mid H m0 m1 x a0 a1 hb Fr.refl⟩
    · simp only [↓x_add]
      exact take_mid H m0 m1 x a0 a1 hb Fr.refl
def TkO (Φ : FT) : Prop := ∀ {c : Nat} (p : Nat) (b many : Int) (h : IH), Pen c h p b → b < 999999 → 0 < many → many < 1073741824 → (Φ 52 [.loc p, .int many] h).Wp (takeP c p b many h)
theorem phSp (k : Nat) : SpO (Phi gk tab (k + 1)) := fun cell a h h0 h1 => by rw [phi50]; exact spread_ok _ cell a h h0 h1
theorem phTk (k : Nat) : TkO (Phi gk tab (k + 2)) := fun {c} p b many h hp hb m0 m1 => by rw [phi52]; exact take_ok _ (phSp k) p b many h hp hb m0 m1
theorem open_ok (Φ : FT) (ns : List Int) (h : IH) : (callB (m51 Φ) 1 4 [.ro (ns.map .int)] h).Wp fun w h' => ∃ p c : Nat, w = .loc p ∧ Pen c h' p 0 := by
  rw [x_callB (by rfl)]
  show (m51 _ [some (.ro (ns.map .int)), none, none, none] h).Wp _
  unfold m51
  obtain ⟨l1, l2⟩ := cut_lens (ws := ns.map W.int)
  have mi : ∀ {lo hi : Option Int}, ∀ x ∈ cutW (ns.map W.int) lo hi, ∃ i : Int, x = .int i := fun x hx => by
    obtain ⟨i, _, e⟩ := List.mem_map.mp (cut_mem hx)
    exact ⟨i, e.symm⟩
  obtain ⟨cs, ecs⟩ := ints_map (mi (lo := none) (hi := some 12))
  rw [x_seq]
  simp only [↓x_asg, ↓x_eA, ↓x_cons, ↓x_nil, ↓x_sl, ↓v0, ↓x_none, ↓x_some, ↓x_slR]
  rw [x_list (IH.get_new_self h _), n1, ecs]
  rw [ecs, List.length_map] at l1
  generalize hh : (h.new (.lst (cs.map W.int))).new (.lst (cs.map W.int)) = h1
  have g1 : h1.get (h.new (.lst (cs.map W.int))).n = some (.lst (cs.map W.int)) := by rw [← hh]; exact IH.get_new_self _ _
  generalize (h.new (.lst (cs.map W.int))).n = c at g1
  have cl := IH.get_lt g1
  try dsimp only
  rw [x_seq]
  refine for_enuL ?_
  simp only [↓x_sl, ↓v0, ↓x_some, ↓x_slR]
  have k1 : Keep h1 (h1.new (.lst (cutW (ns.map W.int) (some 12) (some 63)))) := Keep.new
  refine ⟨h1.n, _, rfl, IH.get_new_self h1 _, fun i e h2 => ∃ (cs2 : List Int) (u v : Option W), e = [some (.ro (ns.map .int)), some (.loc c), u, v] ∧ h2.get c = some (.lst (cs2.map .int)) ∧ cs2.length = cs.length ∧ h2.get h1.n = some (.lst (cutW (ns.map W.int) (some 12) (some 63))),
    ⟨cs, _, _, rfl, (k1.2 c cl).trans g1, rfl, IH.get_new_self h1 _⟩, ?_, ?_⟩
  · rintro i e h2 y ⟨cs2, u, v, rfl, g2, e2, gl⟩ hy
    obtain ⟨z, ez⟩ := mi y (List.mem_of_getElem? hy)
    subst ez
    have il := (List.getElem?_eq_some_iff.mp hy).1
    rw [l2] at il
    refine ⟨gl, ?_⟩
    simp only [↓x_tp, ↓x_gs0, ↓x_gs1, ↓v0, ↓n0, ↓v1, ↓n1, ↓v2, ↓n2, ↓v3, ↓n3, ↓v4, ↓n4, ↓v5, ↓n5, ↓v6, ↓n6, ↓v7, ↓n7, ↓v8, ↓n8, ↓v9, ↓n9, ↓v10, ↓n10, ↓v11, ↓n11, ↓v12, ↓n12, ↓v13, ↓n13, ↓v14, ↓n14, ↓v15, ↓n15, ↓v16, ↓n16, ↓v17, ↓n17, ↓v18, ↓n18, ↓x_seq, ↓x_if, ↓x_next, ↓x_brk, ↓x_cont, ↓x_asg, ↓x_expr, ↓x_ret, ↓x_retN, ↓x_par2, ↓x_par3, ↓x_C, ↓x_e1, ↓x_e2, ↓x_nil, ↓x_cons, ↓x_eA, ↓x_call, ↓x_tup, ↓x_lst, ↓x_eIf, ↓x_mt, ↓x_sl, ↓x_none, ↓x_some, ↓x_bol, ↓x_bolW, ↓x_tru, ↓x_not, ↓x_and, ↓x_or, ↓x_yes, ↓x_sb, ↓x_add, ↓x_sub, ↓x_mul, ↓x_mod, ↓x_div, ↓x_pow, ↓x_lt, ↓x_le, ↓x_gt, ↓x_ge, ↓x_eqI, ↓x_neI, ↓x_lenT, ↓x_int]
    have q := mod_lt (a := (i : Int)) (b := 12) (by decide)
    rw [List.length_map] at l1 il
    have c12 : cs.length = 12 := by omega
    refine ⟨by rfl, by decide, ?_⟩
    refine ix_wp g2 q.1 (by rw [List.length_map]; omega) fun w hw => ?_
    rw [List.getElem?_map] at hw
    obtain ⟨x, _, ex⟩ := Option.map_eq_some_iff.mp hw
    subst ex
    simp only [↓x_add, ↓x_mod]
    refine ⟨by decide, ?_⟩
    rw [x_set g2 q.1 (by rw [List.length_map]; omega)]
    have c2l := IH.get_lt g2
    refine ⟨cs2.set ((i : Int) % 12).toNat (x + z), _, _, rfl, by rw [IH.get_set _ _ _ _ c2l, if_pos rfl, List.map_set], by rw [List.length_set]; exact e2, by rw [IH.get_set _ _ _ _ c2l, if_neg (by omega)]; exact gl⟩
  · rintro e h2 ⟨cs2, u, v, rfl, g2, e2, gl⟩
    refine ⟨gl, ?_⟩
    simp only [↓v0, ↓n0, ↓v1, ↓n1, ↓v2, ↓n2, ↓v3, ↓n3, ↓v4, ↓n4, ↓v5, ↓n5, ↓v6, ↓n6, ↓v7, ↓n7, ↓v8, ↓n8, ↓v9, ↓n9, ↓v10, ↓n10, ↓v11, ↓n11, ↓v12, ↓n12, ↓v13, ↓n13, ↓v14, ↓n14, ↓v15, ↓n15, ↓v16, ↓n16, ↓v17, ↓n17, ↓v18, ↓n18, ↓x_seq, ↓x_if, ↓x_next, ↓x_brk, ↓x_cont, ↓x_asg, ↓x_expr, ↓x_ret, ↓x_retN, ↓x_par2, ↓x_par3, ↓x_C, ↓x_e1, ↓x_e2, ↓x_nil, ↓x_cons, ↓x_eA, ↓x_call, ↓x_tup, ↓x_lst, ↓x_eIf, ↓x_mt, ↓x_sl, ↓x_none, ↓x_some, ↓x_bol, ↓x_bolW, ↓x_tru, ↓x_not, ↓x_and, ↓x_or, ↓x_yes, ↓x_sb, ↓x_add, ↓x_sub, ↓x_mul, ↓x_mod, ↓x_div, ↓x_pow, ↓x_lt, ↓x_le, ↓x_gt, ↓x_ge, ↓x_eqI, ↓x_neI, ↓x_lenT, ↓x_int]
    refine ⟨by rfl, h2.n, c, rfl, 0, 0, cs2, ⟨IH.get_new_self h2 _, by rw [IH.get_new, if_neg (by have := IH.get_lt g2; omega)]; exact g2, by have := IH.get_lt g2; omega⟩, by omega, by omega, by omega⟩
end K85


set_option linter.all false
set_option linter.unusedSimpArgs false
set_option maxRecDepth 100000
set_option maxHeartbeats 1000000
namespace K85
open PySem Fw
/-! ### what stands where -/
inductive Tg where
  | law | cnt | lmk | pen | old | mach | mks | wo | st | nu | re | re0 | wl | mv | wk (k : Nat) | frs (k : Nat) | f0 (k : Nat) | f1 (k : Nat) | s0 (k : Nat) | s1 (k : Nat) | ins (k : Nat) | outs (k : Nat)
inductive Ph where
  | st | run (p : Nat) | dn
structure Wk where
  f : Nat
  ph : Ph
  ins : Nat
  fed : Nat
structure Wo where
  wks : List Wk
  mv : List (Int × Int)
def bod : Nat → List W
  | 0 => [.tup [.str "branch", .int 0]]
  | 1 => [.tup [.str "input", .int 0], .tup [.str "show", .int 0]]
  | _ => [.tup [.str "show", .int 0]]
def PRw : W := .tup [.tup [.tup [.non, .int 0, .tup []]], .tup [.tup [.int 0, .tup (bod 0)], .tup [.int 0, .tup (bod 1)], .tup [.int 0, .tup (bod 2)]]]
def nm0 (k : Int) : W := .tup [.str "start", .int k]
def nmF (f : Nat) : W := .tup [.str "function", .int f]
def frC (nm pl sl : W) : Cell := .ins 7 [("name", nm), ("place", pl), ("slots", sl)]
def wkC (nu f u fr is fd os en : W) : Cell := .ins 8 [("number", nu), ("function", f), ("unit", u), ("frames", fr), ("inputs", is), ("fed", fd), ("outputs", os), ("end", en)]
def woC (pr st nu re wl mv : W) : Cell := .ins 9 [("program", pr), ("statuses", st), ("numbers", nu), ("reasons", re), ("workers", wl), ("moves", mv)]
def maC (w mk : W) : Cell := .ins 10 [("world", w), ("marks", mk)]
section
variable {a : Nat} {h : IH} {P : W → IH → Prop} {Q : Unit → IH → Prop} {nm pl sl nu f u fr is fd os en pr st re wl mv w mk x : W}
theorem fr_name (g : h.get a = some (frC nm pl sl)) : (oFld [7] "name" (.loc a) h).Wp P = P nm h := x_fld g rfl rfl
theorem fr_place (g : h.get a = some (frC nm pl sl)) : (oFld [7] "place" (.loc a) h).Wp P = P pl h := x_fld g rfl rfl
theorem fr_slots (g : h.get a = some (frC nm pl sl)) : (oFld [7] "slots" (.loc a) h).Wp P = P sl h := x_fld g rfl rfl
theorem fr_sPlace (g : h.get a = some (frC nm pl sl)) : (oFSet [7] "place" (.loc a) x h).Wp Q = Q () (h.set a (frC nm x sl)) := x_fset g rfl
theorem fr_sSlots (g : h.get a = some (frC nm pl sl)) : (oFSet [7] "slots" (.loc a) x h).Wp Q = Q () (h.set a (frC nm pl x)) := x_fset g rfl
theorem wk_nu (g : h.get a = some (wkC nu f u fr is fd os en)) : (oFld [8] "number" (.loc a) h).Wp P = P nu h := x_fld g rfl rfl
theorem wk_f (g : h.get a = some (wkC nu f u fr is fd os en)) : (oFld [8] "function" (.loc a) h).Wp P = P f h := x_fld g rfl rfl
theorem wk_u (g : h.get a = some (wkC nu f u fr is fd os en)) : (oFld [8] "unit" (.loc a) h).Wp P = P u h := x_fld g rfl rfl
theorem wk_fr (g : h.get a = some (wkC nu f u fr is fd os en)) : (oFld [8] "frames" (.loc a) h).Wp P = P fr h := x_fld g rfl rfl
theorem wk_is (g : h.get a = some (wkC nu f u fr is fd os en)) : (oFld [8] "inputs" (.loc a) h).Wp P = P is h := x_fld g rfl rfl
theorem wk_fd (g : h.get a = some (wkC nu f u fr is fd os en)) : (oFld [8] "fed" (.loc a) h).Wp P = P fd h := x_fld g rfl rfl
theorem wk_os (g : h.get a = some (wkC nu f u fr is fd os en)) : (oFld [8] "outputs" (.loc a) h).Wp P = P os h := x_fld g rfl rfl
theorem wk_en (g : h.get a = some (wkC nu f u fr is fd os en)) : (oFld [8] "end" (.loc a) h).Wp P = P en h := x_fld g rfl rfl
theorem wk_sFr (g : h.get a = some (wkC nu f u fr is fd os en)) : (oFSet [8] "frames" (.loc a) x h).Wp Q = Q () (h.set a (wkC nu f u x is fd os en)) := x_fset g rfl
theorem wk_sIs (g : h.get a = some (wkC nu f u fr is fd os en)) : (oFSet [8] "inputs" (.loc a) x h).Wp Q = Q () (h.set a (wkC nu f u fr x fd os en)) := x_fset g rfl
theorem wk_sFd (g : h.get a = some (wkC nu f u fr is fd os en)) : (oFSet [8] "fed" (.loc a) x h).Wp Q = Q () (h.set a (wkC nu f u fr is x os en)) := x_fset g rfl
theorem wk_sOs (g : h.get a = some (wkC nu f u fr is fd os en)) : (oFSet [8] "outputs" (.loc a) x h).Wp Q = Q () (h.set a (wkC nu f u fr is fd x en)) := x_fset g rfl
theorem wk_sEn (g : h.get a = some (wkC nu f u fr is fd os en)) : (oFSet [8] "end" (.loc a) x h).Wp Q = Q () (h.set a (wkC nu f u fr is fd os x)) := x_fset g rfl
theorem wo_pr (g : h.get a = some (woC pr st nu re wl mv)) : (oFld [9] "program" (.loc a) h).Wp P = P pr h := x_fld g rfl rfl
theorem wo_st (g : h.get a = some (woC pr st nu re wl mv)) : (oFld [9] "statuses" (.loc a) h).Wp P = P st h := x_fld g rfl rfl
theorem wo_nu (g : h.get a = some (woC pr st nu re wl mv)) : (oFld [9] "numbers" (.loc a) h).Wp P = P nu h := x_fld g rfl rfl
theorem wo_re (g : h.get a = some (woC pr st nu re wl mv)) : (oFld [9] "reasons" (.loc a) h).Wp P = P re h := x_fld g rfl rfl
theorem wo_wl (g : h.get a = some (woC pr st nu re wl mv)) : (oFld [9] "workers" (.loc a) h).Wp P = P wl h := x_fld g rfl rfl
theorem wo_mv (g : h.get a = some (woC pr st nu re wl mv)) : (oFld [9] "moves" (.loc a) h).Wp P = P mv h := x_fld g rfl rfl
theorem wo_sSt (g : h.get a = some (woC pr st nu re wl mv)) : (oFSet [9] "statuses" (.loc a) x h).Wp Q = Q () (h.set a (woC pr x nu re wl mv)) := x_fset g rfl
theorem wo_sNu (g : h.get a = some (woC pr st nu re wl mv)) : (oFSet [9] "numbers" (.loc a) x h).Wp Q = Q () (h.set a (woC pr st x re wl mv)) := x_fset g rfl
theorem wo_sRe (g : h.get a = some (woC pr st nu re wl mv)) : (oFSet [9] "reasons" (.loc a) x h).Wp Q = Q () (h.set a (woC pr st nu x wl mv)) := x_fset g rfl
theorem wo_sWl (g : h.get a = some (woC pr st nu re wl mv)) : (oFSet [9] "workers" (.loc a) x h).Wp Q = Q () (h.set a (woC pr st nu re x mv)) := x_fset g rfl
theorem wo_sMv (g : h.get a = some (woC pr st nu re wl mv)) : (oFSet [9] "moves" (.loc a) x h).Wp Q = Q () (h.set a (woC pr st nu re wl x)) := x_fset g rfl
theorem ma_wo (g : h.get a = some (maC w mk)) : (oFld [10] "world" (.loc a) h).Wp P = P w h := x_fld g rfl rfl
theorem ma_mk (g : h.get a = some (maC w mk)) : (oFld [10] "marks" (.loc a) h).Wp P = P mk h := x_fld g rfl rfl
theorem ma_sWo (g : h.get a = some (maC w mk)) : (oFSet [10] "world" (.loc a) x h).Wp Q = Q () (h.set a (maC x mk)) := x_fset g rfl
theorem ma_sMk (g : h.get a = some (maC w mk)) : (oFSet [10] "marks" (.loc a) x h).Wp Q = Q () (h.set a (maC w x)) := x_fset g rfl
variable {Φ : FT} {m : Str} {g0 : EA} {e : Fw.Env} {id : Nat}
theorem m_wo {ms : List (Nat × Nat)} (g : h.get a = some (woC pr st nu re wl mv)) (q : ms.lookup 9 = some id) (n : (([("program", pr), ("statuses", st), ("numbers", nu), ("reasons", re), ("workers", wl), ("moves", mv)] : List (Str × W)).lookup m).isNone = true) : (mthK Φ ms m g0 e (.loc a) h).Wp P = (g0 e h).Wp fun ws h => (Φ id (.loc a :: ws) h).Wp P := x_mthK g q n
theorem m_wk {ms : List (Nat × Nat)} (g : h.get a = some (wkC nu f u fr is fd os en)) (q : ms.lookup 8 = some id) (n : (([("number", nu), ("function", f), ("unit", u), ("frames", fr), ("inputs", is), ("fed", fd), ("outputs", os), ("end", en)] : List (Str × W)).lookup m).isNone = true) : (mthK Φ ms m g0 e (.loc a) h).Wp P = (g0 e h).Wp fun ws h => (Φ id (.loc a :: ws) h).Wp P := x_mthK g q n
theorem m_fr {ms : List (Nat × Nat)} (g : h.get a = some (frC nm pl sl)) (q : ms.lookup 7 = some id) (n : (([("name", nm), ("place", pl), ("slots", sl)] : List (Str × W)).lookup m).isNone = true) : (mthK Φ ms m g0 e (.loc a) h).Wp P = (g0 e h).Wp fun ws h => (Φ id (.loc a :: ws) h).Wp P := x_mthK g q n
theorem m_ma {ms : List (Nat × Nat)} (g : h.get a = some (maC w mk)) (q : ms.lookup 10 = some id) (n : (([("world", w), ("marks", mk)] : List (Str × W)).lookup m).isNone = true) : (mthK Φ ms m g0 e (.loc a) h).Wp P = (g0 e h).Wp fun ws h => (Φ id (.loc a :: ws) h).Wp P := x_mthK g q n
end
theorem few_ : tab.length ≤ 1000000 := by decide +kernel
def enW : Ph → W
  | .dn => .str "done"
  | _ => .non
def pN : Ph → Nat
  | .st => 0
  | .run p => p
  | .dn => 9
/-- a frame and its slots -/
def Frm (R : Tg → Nat → Prop) (h : IH) (tf ts : Tg) (nm : W) (p : Nat) (w : W) : Prop := ∃ (a s : Nat) (x y z : W), w = .loc a ∧ R tf a ∧ h.get a = some (frC nm (.int p) (.loc s)) ∧ R ts s ∧ h.get s = some (.lst [x, y, z])
def Frs (R : Tg → Nat → Prop) (h : IH) (k f : Nat) : Ph → List W → Prop
  | .st, fl => ∃ w, fl = [w] ∧ Frm R h (.f0 k) (.s0 k) (nm0 k) 0 w
  | .run p, fl => ∃ w u, fl = [w, u] ∧ Frm R h (.f0 k) (.s0 k) (nm0 k) 0 w ∧ Frm R h (.f1 k) (.s1 k) (nmF f) p u
  | .dn, fl => fl = []
structure WkD (R : Tg → Nat → Prop) (h : IH) (k a : Nat) (g : Wk) (af ai ao : Nat) (fl os : List W) : Prop where
  ra : R (.wk k) a
  ga : h.get a = some (wkC (.int k) (.int g.f) (.int 0) (.loc af) (.loc ai) (.int g.fed) (.loc ao) (enW g.ph))
  rf : R (.frs k) af
  gf : h.get af = some (.lst fl)
  ri : R (.ins k) ai
  gi : h.get ai = some (.lst (List.replicate g.ins (.int 1)))
  ro : R (.outs k) ao
  go : h.get ao = some (.lst os)
  fr : Frs R h k g.f g.ph fl
def WkAt (R : Tg → Nat → Prop) (h : IH) (k a : Nat) (g : Wk) : Prop := ∃ (af ai ao : Nat) (fl os : List W), WkD R h k a g af ai ao fl os ∧ os.length ≤ pN g.ph
def pairW (p : Int × Int) : W := .tup [.int p.1, .int p.2]
structure WoD (R : Tg → Nat → Prop) (h : IH) (w : Nat) (G : Wo) (st nu re r0 wl mv : Nat) (ws : List Nat) : Prop where
  rw_ : R .wo w
  gw : h.get w = some (woC PRw (.loc st) (.loc nu) (.loc re) (.loc wl) (.loc mv))
  rs : R .st st
  gs : h.get st = some (.lst [.str "awake"])
  rn : R .nu nu
  gn : h.get nu = some (.dk [])
  rr : R .re re
  gr : h.get re = some (.lst [.loc r0])
  r0_ : R .re0 r0
  g0 : h.get r0 = some (.lst [])
  rl : R .wl wl
  gl : h.get wl = some (.lst (ws.map .loc))
  len : ws.length = G.wks.length
  wk : ∀ (k : Nat) (g : Wk), G.wks[k]? = some g → ∃ a, ws[k]? = some a ∧ WkAt R h k a g
  rm : R .mv mv
  gm : h.get mv = some (.lst (G.mv.map pairW))
def WoAt (R : Tg → Nat → Prop) (h : IH) (w : Nat) (G : Wo) : Prop := ∃ (st nu re r0 wl mv : Nat) (ws : List Nat), WoD R h w G st nu re r0 wl mv ws
/-- what is read stays -/
def Rx (R : Tg → Nat → Prop) (h : IH) (R' : Tg → Nat → Prop) (h' : IH) : Prop := ∀ t a c, R t a → h.get a = some c → R' t a ∧ h'.get a = some c
theorem Frm.rx {R R' : Tg → Nat → Prop} {h h' : IH} {tf ts : Tg} {nm : W} {p : Nat} {w : W} (x : Rx R h R' h') (q : Frm R h tf ts nm p w) : Frm R' h' tf ts nm p w :=
  let ⟨a, s, u, v, z, e, r1, g1, r2, g2⟩ := q
  ⟨a, s, u, v, z, e, (x _ _ _ r1 g1).1, (x _ _ _ r1 g1).2, (x _ _ _ r2 g2).1, (x _ _ _ r2 g2).2⟩
theorem Frs.rx {R R' : Tg → Nat → Prop} {h h' : IH} {k f : Nat} {ph : Ph} {fl : List W} (x : Rx R h R' h') (q : Frs R h k f ph fl) : Frs R' h' k f ph fl := by
  cases ph with
  | st => obtain ⟨w, e, z⟩ := q; exact ⟨w, e, z.rx x⟩
  | run p => obtain ⟨w, u, e, z1, z2⟩ := q; exact ⟨w, u, e, z1.rx x, z2.rx x⟩
  | dn => exact q
theorem WkD.rx {R R' : Tg → Nat → Prop} {h h' : IH} {k a : Nat} {g : Wk} {af ai ao : Nat} {fl os : List W} (x : Rx R h R' h') (q : WkD R h k a g af ai ao fl os) : WkD R' h' k a g af ai ao fl os :=
  ⟨(x _ _ _ q.ra q.ga).1, (x _ _ _ q.ra q.ga).2, (x _ _ _ q.rf q.gf).1, (x _ _ _ q.rf q.gf).2, (x _ _ _ q.ri q.gi).1, (x _ _ _ q.ri q.gi).2, (x _ _ _ q.ro q.go).1, (x _ _ _ q.ro q.go).2, q.fr.rx x⟩
theorem WkAt.rx {R R' : Tg → Nat → Prop} {h h' : IH} {k a : Nat} {g : Wk} (x : Rx R h R' h') (q : WkAt R h k a g) : WkAt R' h' k a g := let ⟨af, ai, ao, fl, os, D, l⟩ := q; ⟨af, ai, ao, fl, os, D.rx x, l⟩
theorem WoD.rx {R R' : Tg → Nat → Prop} {h h' : IH} {w : Nat} {G : Wo} {st nu re r0 wl mv : Nat} {ws : List Nat} (x : Rx R h R' h') (q : WoD R h w G st nu re r0 wl mv ws) : WoD R' h' w G st nu re r0 wl mv ws :=
  ⟨(x _ _ _ q.rw_ q.gw).1, (x _ _ _ q.rw_ q.gw).2, (x _ _ _ q.rs q.gs).1, (x _ _ _ q.rs q.gs).2, (x _ _ _ q.rn q.gn).1, (x _ _ _ q.rn q.gn).2, (x _ _ _ q.rr q.gr).1, (x _ _ _ q.rr q.gr).2, (x _ _ _ q.r0_ q.g0).1, (x _ _ _ q.r0_ q.g0).2,
    (x _ _ _ q.rl q.gl).1, (x _ _ _ q.rl q.gl).2, q.len, fun k g e => let ⟨a, e2, z⟩ := q.wk k g e; ⟨a, e2, z.rx x⟩, (x _ _ _ q.rm q.gm).1, (x _ _ _ q.rm q.gm).2⟩
theorem WoAt.rx {R R' : Tg → Nat → Prop} {h h' : IH} {w : Nat} {G : Wo} (x : Rx R h R' h') (q : WoAt R h w G) : WoAt R' h' w G := let ⟨st, nu, re, r0, wl, mv, ws, D⟩ := q; ⟨st, nu, re, r0, wl, mv, ws, D.rx x⟩
theorem _root_.Fw.Keep.rx {R : Tg → Nat → Prop} {h h' : IH} (k : Keep h h') : Rx R h R h' := fun t a c r g => ⟨r, (k.2 a (IH.get_lt g)).trans g⟩
def Val (g : Wk) : Prop := g.f ≤ 2 ∧ g.ins ≤ g.fed ∧ g.fed ≤ 100 ∧ (g.f = 0 → g.ph = .st ∨ g.ph = .run 0) ∧ ∀ p, g.ph = .run p → p ≤ (bod g.f).length
end K85

set_option linter.all false
set_option linter.unusedSimpArgs false
set_option maxRecDepth 100000
set_option maxHeartbeats 1000000
namespace K85
open PySem Fw
/-! ### what is only read -/
def oneW (g : Wk) : W := match g.ph with
  | .run p => ((bod g.f)[p]?).getD .non
  | _ => .non
def unW (g : Wk) : W := match g.ph with
  | .st => .int 0
  | _ => .non
def isWt (g : Wk) : Bool := match g.ph with
  | .run 0 => decide (g.f ≤ 1) && decide (g.ins = 0)
  | _ => false
def stW (g : Wk) : W := match g.ph with
  | .dn => .str "done"
  | _ => if isWt g then .str "waits" else .str "moves"
theorem ph11 (k f : Nat) (hf : f ≤ 2) (h : IH) : Phi gk tab (k + 1) 11 [PRw, nmF f] h = .ok (.tup (bod f)) h := by
  rw [phi11]
  match f, hf with
  | 0, _ => kernel_rfl
  | 1, _ => kernel_rfl
  | 2, _ => kernel_rfl
  | n + 3, h => omega
theorem bod_at {f p : Nat} {one : W} (q : (bod f)[p]? = some one) : (f = 0 ∧ p = 0 ∧ one = .tup [.str "branch", .int 0]) ∨ (f = 1 ∧ p = 0 ∧ one = .tup [.str "input", .int 0]) ∨ one = .tup [.str "show", .int 0] := by
  match f, p with
  | 0, 0 => cases q; exact .inl ⟨rfl, rfl, rfl⟩
  | 0, p + 1 => simp [bod] at q
  | 1, 0 => cases q; exact .inr (.inl ⟨rfl, rfl, rfl⟩)
  | 1, 1 => cases q; exact .inr (.inr rfl)
  | 1, p + 2 => simp [bod] at q
  | f + 2, 0 => cases q; exact .inr (.inr rfl)
  | f + 2, p + 1 => simp [bod] at q
theorem ph12 (k : Nat) {f p : Nat} {one : W} (q : (bod f)[p]? = some one) (h : IH) : Phi gk tab (k + 1) 12 [PRw, one] h = .ok .non h := by
  rw [phi12]
  rcases bod_at q with ⟨_, _, e⟩ | ⟨_, _, e⟩ | e <;> subst e <;> kernel_rfl
def hW (i : Int) : Str := Str.ofString "held " ++ Str.ofString (toString i)
theorem ph35 (k : Nat) (i : Int) (h0 : -1 ≤ i) (h1 : i ≤ 2) (h : IH) : Phi gk tab (k + 1) 35 [.int i] h = .ok (.str (hW i)) h := by
  rw [phi35]
  have : i = -1 ∨ i = 0 ∨ i = 1 ∨ i = 2 := by omega
  rcases this with e | e | e | e <;> subst e <;> kernel_rfl
theorem aw_held (i : Int) (h0 : -1 ≤ i) (h1 : i ≤ 2) : decide ((Str.ofString "awake") = hW i) = false := by
  have : i = -1 ∨ i = 0 ∨ i = 1 ∨ i = 2 := by omega
  rcases this with e | e | e | e <;> subst e <;> kernel_rfl
section
variable {P : W → IH → Prop} {h : IH} {k : Int} {f : Nat}
theorem ix_s0 : (oIx (nm0 k) (.int 0) h).Wp P = P (.str "start") h := x_ixT0
theorem ix_s1 : (oIx (nm0 k) (.int 1) h).Wp P = P (.int k) h := x_ixT1
theorem ix_f0 : (oIx (nmF f) (.int 0) h).Wp P = P (.str "function") h := x_ixT0
theorem ix_f1 : (oIx (nmF f) (.int 1) h).Wp P = P (.int f) h := x_ixT1
theorem ff_st : (oEq (.str "function") (.str "start") h).Wp P = P (.bl false) h := eq_sd (by kernel_rfl)
theorem ff_un : (oEq (.str "function") (.str "unit") h).Wp P = P (.bl false) h := eq_sd (by kernel_rfl)
theorem ff_su : (oEq (.str "start") (.str "unit") h).Wp P = P (.bl false) h := eq_sd (by kernel_rfl)
theorem ff_aa : (oEq (.str "awake") (.str "asleep") h).Wp P = P (.bl false) h := eq_sd (by kernel_rfl)
theorem ff_ab : (oEq (.str "awake") (.str "broken") h).Wp P = P (.bl false) h := eq_sd (by kernel_rfl)
theorem eq_p1 {p : Nat} : (oEq (.int (p : Int)) (.int (-1)) h).Wp P = P (.bl false) h := by
  rw [x_eqI, decide_eq_false (by omega)]
end
theorem ph25 (k : Nat) {R : Tg → Nat → Prop} {h : IH} {w a i af ai ao : Nat} {g : Wk} {fl os : List W} {st nu re wl mv : W} (D : WkD R h i a g af ai ao fl os) (gw : h.get w = some (woC PRw st nu re wl mv)) (n : g.ph ≠ .dn) (hf : g.f ≤ 2) :
    Phi gk tab (k + 2) 25 [.loc w, .loc a] h = .ok (oneW g) h := by
  refine ok_of ?_
  rw [phi25, x_callB (by rfl)]
  show (m25 _ [some (.loc w), some (.loc a), none, none] h).Wp _
  unfold m25
  obtain ⟨f, ph, is, fd⟩ := g
  have Df := D.fr
  cases ph with
  | dn => exact absurd rfl n
  | st =>
    obtain ⟨u, e, a0, s, x, y, z, e2, r1, g1, r2, g2⟩ := Df
    subst e; subst e2
    have gl : h.get af = some (.lst ([] ++ [.loc a0])) := D.gf
    rw [x_seq, y_asg, x_e2, x_e1, v1, wk_fr D.ga, x_e1, x_C, x_neg, y_last gl, n2, x_seq, x_if, x_or, x_bol, x_e2, x_e2, x_e1, v2, fr_name g1, x_C, ix_s0, x_C, eq_ss, x_bolW, tt_and, tt_and, x_seq, y_ret, x_C]
    exact ⟨rfl, rfl⟩
  | run p =>
    obtain ⟨u, u2, e, ⟨a0, s, x, y, z, e2, r1, g1, r2, g2⟩, a1, s1, x1, y1, z1, e3, r3, g3, r4, g4⟩ := Df
    subst e; subst e2; subst e3
    have gl : h.get af = some (.lst ([.loc a0] ++ [.loc a1])) := D.gf
    rw [x_seq, y_asg, x_e2, x_e1, v1, wk_fr D.ga, x_e1, x_C, x_neg, y_last gl, n2, x_seq, x_if, x_or, x_bol, x_e2, x_e2, x_e1, v2, fr_name g3, x_C, ix_f0, x_C, ff_st, x_bolW, ff_and, x_bol, x_e2, x_e1, v2, fr_place g3, x_e1, x_C, x_neg, eq_p1, x_bolW, ff_and, x_next]
    rw [x_seq, y_asg, x_call, x_cons, x_e1, v0, wo_pr gw, x_cons, x_e1, v2, fr_name g3, x_nil, ph11 _ f hf, Rs.Wp_ok, n3, x_seq, y_ret, x_eIf, x_bol, x_e2, x_e1, v2, fr_place g3, x_eA, x_cons, v3, x_nil, x_lenT, x_lt, x_bolW]
    refine ⟨fun q => ?_, fun q => ?_⟩
    · have q := of_decide_eq_true q
      have hp : p < (bod f).length := by omega
      rw [x_e2, v3, x_e1, v2, fr_place g3, x_ixT (by omega) (show (bod f)[((p : Nat) : Int).toNat]? = some (bod f)[p] by rw [Int.toNat_natCast]; exact List.getElem?_eq_getElem hp)]
      refine ⟨?_, rfl⟩
      unfold oneW
      dsimp only
      rw [List.getElem?_eq_getElem hp]; rfl
    · have q := of_decide_eq_false q
      rw [x_C]
      refine ⟨?_, rfl⟩
      unfold oneW
      dsimp only
      rw [List.getElem?_eq_none (by omega)]; rfl
theorem ph26 (k : Nat) {R : Tg → Nat → Prop} {h : IH} {w a i af ai ao : Nat} {g : Wk} {fl os : List W} {st nu re wl mv : W} (D : WkD R h i a g af ai ao fl os) (gw : h.get w = some (woC PRw st nu re wl mv)) (n : g.ph ≠ .dn) (hf : g.f ≤ 2) :
    Phi gk tab (k + 3) 26 [.loc w, .loc a] h = .ok (unW g) h := by
  refine ok_of ?_
  rw [phi26, x_callB (by rfl)]
  show (m26 _ [some (.loc w), some (.loc a), none, none] h).Wp _
  unfold m26
  have one := ph25 k D gw n hf
  obtain ⟨f, ph, is, fd⟩ := g
  have Df := D.fr
  cases ph with
  | dn => exact absurd rfl n
  | st =>
    obtain ⟨u, e, a0, s, x, y, z, e2, r1, g1, r2, g2⟩ := Df
    subst e; subst e2
    have gl : h.get af = some (.lst ([] ++ [.loc a0])) := D.gf
    rw [x_seq, y_asg, x_e2, x_e1, v1, wk_fr D.ga, x_e1, x_C, x_neg, y_last gl, n2, x_seq, x_if, x_bol, x_e2, x_e2, x_e1, v2, fr_name g1, x_C, ix_s0, x_C, eq_ss, x_bolW, tt_and, x_seq, y_ret, x_e1, v1, wk_u D.ga]
    exact ⟨rfl, rfl⟩
  | run p =>
    obtain ⟨u, u2, e, ⟨a0, s, x, y, z, e2, r1, g1, r2, g2⟩, a1, s1, x1, y1, z1, e3, r3, g3, r4, g4⟩ := Df
    subst e; subst e2; subst e3
    have gl : h.get af = some (.lst ([.loc a0] ++ [.loc a1])) := D.gf
    rw [x_seq, y_asg, x_e2, x_e1, v1, wk_fr D.ga, x_e1, x_C, x_neg, y_last gl, n2, x_seq, x_if, x_bol, x_e2, x_e2, x_e1, v2, fr_name g3, x_C, ix_f0, x_C, ff_st, x_bolW, ff_and, x_next, x_seq, x_if, x_bol, x_e2, x_e1, v2, fr_place g3, x_e1, x_C, x_neg, eq_p1, x_bolW, ff_and, x_next]
    rw [x_seq, y_asg, x_meth, v0, m_wo gw rfl rfl, x_cons, v1, x_nil, one, Rs.Wp_ok, n3, x_seq, y_ret, x_eIf, x_bol, x_e2, v3, x_C]
    unfold oneW
    dsimp only
    cases q : (bod f)[p]? with
    | none =>
      rw [Option.getD_none, is_nn, x_bolW, tt_and, x_C]
      exact ⟨rfl, rfl⟩
    | some o =>
      rw [Option.getD_some]
      have eo : ∀ (P : W → IH → Prop), (oIs o .non h).Wp P = P (.bl false) h := fun P => by
        rcases bod_at q with ⟨_, _, e⟩ | ⟨_, _, e⟩ | e <;> subst e <;> rfl
      rw [eo, x_bolW, ff_and, x_call, x_cons, x_e1, v0, wo_pr gw, x_cons, v3, x_nil, ph12 _ q, Rs.Wp_ok]
      exact ⟨rfl, rfl⟩
end K85

set_option linter.all false
set_option linter.unusedSimpArgs false
set_option maxRecDepth 100000
set_option maxHeartbeats 1000000
namespace K85
open PySem Fw
/-! ### who holds, how one stands -/
theorem loc_at {ws : List Nat} {i : Nat} {y : W} (hy : (ws.map W.loc)[i]? = some y) : ∃ a, ws[i]? = some a ∧ y = .loc a := by
  rw [List.getElem?_map] at hy
  cases q : ws[i]? with
  | none => rw [q] at hy; cases hy
  | some a => rw [q] at hy; cases hy; exact ⟨a, rfl, rfl⟩
theorem WoD.one {R : Tg → Nat → Prop} {h : IH} {w : Nat} {G : Wo} {st nu re r0 wl mv : Nat} {ws : List Nat} (D : WoD R h w G st nu re r0 wl mv ws) {i a : Nat} (ha : ws[i]? = some a) : ∃ g, G.wks[i]? = some g ∧ WkAt R h i a g := by
  have hi : i < G.wks.length := by rw [← D.len]; exact (List.getElem?_eq_some_iff.mp ha).1
  obtain ⟨b, e, z⟩ := D.wk i _ (List.getElem?_eq_getElem hi)
  rw [ha] at e; cases e
  exact ⟨_, List.getElem?_eq_getElem hi, z⟩
theorem ph27 (k : Nat) {R : Tg → Nat → Prop} {h : IH} {w : Nat} {G : Wo} {st nu re r0 wl mv : Nat} {ws : List Nat} (D : WoD R h w G st nu re r0 wl mv ws) (hl : ws.length ≤ 3) : (Phi gk tab (k + 2) 27 [.loc w, .int 0] h).Wp fun x h' => x = .non ∧ Keep h h' := by
  rw [phi27, x_callB (by rfl)]
  show (m27 _ [some (.loc w), some (.int 0), none, none] h).Wp _
  unfold m27
  rw [x_seq, y_asg]
  refine lc_lst ?_
  rw [x_e1, v0, wo_wl D.gw]
  refine ⟨wl, _, rfl, D.gl, fun i xs h2 => xs = [] ∧ h2 = h, ⟨rfl, rfl⟩, fun i xs h2 y ⟨e1, e2⟩ hy => ?_, fun xs h2 ⟨e1, e2⟩ => ?_⟩
  · subst e1; subst e2
    obtain ⟨a, ha, ey⟩ := loc_at hy
    subst ey
    obtain ⟨g, hg, af, ai, ao, fl, os, E, _⟩ := D.one ha
    have hi : i < ws.length := (List.getElem?_eq_some_iff.mp ha).1
    refine ⟨D.gl, ?_⟩
    show (gNm 2 _ [some (.loc w), some (.int 0), none, none] h2).Wp _
    rw [n2, x_bol, x_e2, x_e2, x_e1, v0, wo_st D.gw, v1, x_ix D.gs (by decide) rfl, x_call, x_cons, x_e1, v2, wk_nu E.ga, x_nil, ph35 k i (by omega) (by omega), Rs.Wp_ok, eq_sd (aw_held _ (by omega) (by omega)), x_bolW, if_neg (by decide)]
    exact ⟨rfl, rfl⟩
  · subst e1; subst e2
    refine ⟨D.gl, by decide, ?_⟩
    rw [n3, x_seq, y_ret, x_eIf, x_bol, x_e2, v3, x_lst, x_nil]
    refine ⟨rfl, w_neL (eqW_lst (Keep.new.at (IH.get_new_self h2 (.lst []))) (IH.get_new_self _ _) rfl rfl (by decide) (by decide)) fun c hc => ?_⟩
    have ec : c = true := hc.mpr rfl
    subst ec
    rw [x_bolW]
    refine ⟨fun z => Bool.noConfusion z, fun _ => ?_⟩
    rw [x_C]
    exact ⟨rfl, Keep.new.trans Keep.new⟩
section
variable {P : W → IH → Prop} {h : IH} {i : Int}
theorem nin_non : (oNotIn .non (.tup [.non, .int i]) h).Wp P = P (.bl false) h := rfl
theorem in_br : (oIn (.str "branch") (.tup [.str "input", .str "branch"]) h).Wp P = P (.bl true) h := by
  have e : oIn (.str "branch") (.tup [.str "input", .str "branch"]) h = .ok (.bl true) h := by kernel_rfl
  rw [e]; rfl
theorem in_in : (oIn (.str "input") (.tup [.str "input", .str "branch"]) h).Wp P = P (.bl true) h := by
  have e : oIn (.str "input") (.tup [.str "input", .str "branch"]) h = .ok (.bl true) h := by kernel_rfl
  rw [e]; rfl
theorem in_sh : (oIn (.str "show") (.tup [.str "input", .str "branch"]) h).Wp P = P (.bl false) h := by
  have e : oIn (.str "show") (.tup [.str "input", .str "branch"]) h = .ok (.bl false) h := by kernel_rfl
  rw [e]; rfl
theorem purs_ones : ∀ n : Nat, purs (List.replicate n (.int 1)) = true
  | 0 => rfl
  | n + 1 => by rw [List.replicate_succ]; exact purs_ones n
theorem dep_ones : ∀ n : Nat, PyData.depthAll (pds (List.replicate n (.int 1))) = 0
  | 0 => rfl
  | n + 1 => by rw [List.replicate_succ]; show max 0 (PyData.depthAll (pds (List.replicate n (.int 1)))) = 0; rw [dep_ones n]; rfl
theorem eq_ins {a b n : Nat} (g : h.get a = some (.lst (List.replicate n (.int 1)))) (g' : h.get b = some (.lst [])) (z : P (.bl (decide (n = 0))) h) : (oEq (.loc a) (.loc b) h).Wp P :=
  w_eqL (eqW_lst g g' (purs_ones n) rfl (by rw [dep_ones]; decide) (by decide)) fun c hc => by
    have e : c = decide (n = 0) := by
      cases n with
      | zero => rw [decide_eq_true rfl]; exact hc.mpr rfl
      | succ n =>
        rw [decide_eq_false (Nat.succ_ne_zero n)]
        cases c with
        | false => rfl
        | true => cases hc.mp rfl
    rw [e]; exact z
end
/-- the places at which a running body may stand -/
theorem Val.at_ {g : Wk} {p : Nat} (V : Val g) (e : g.ph = .run p) : (g.f = 0 ∧ p = 0) ∨ (g.f = 1 ∧ p = 0) ∨ (g.f = 1 ∧ p = 1) ∨ (g.f = 1 ∧ p = 2) ∨ (g.f = 2 ∧ p = 0) ∨ (g.f = 2 ∧ p = 1) := by
  obtain ⟨v1, _, _, v4, v5⟩ := V
  have l := v5 p e
  have : g.f = 0 ∨ g.f = 1 ∨ g.f = 2 := by omega
  rcases this with q | q | q
  · rcases v4 q with z | z
    · rw [z] at e; cases e
    · rw [z] at e; cases e; exact .inl ⟨q, rfl⟩
  · rw [q] at l
    have l : p ≤ 2 := l
    omega
  · rw [q] at l
    have l : p ≤ 1 := l
    omega
theorem ph28 (k : Nat) {R : Tg → Nat → Prop} {h : IH} {w : Nat} {G : Wo} {st nu re r0 wl mv : Nat} {ws : List Nat} (D : WoD R h w G st nu re r0 wl mv ws) (hl : ws.length ≤ 3) {i a af ai ao : Nat} {g : Wk} {fl os : List W} (E : WkD R h i a g af ai ao fl os) (V : Val g) :
    (Phi gk tab (k + 4) 28 [.loc w, .loc a] h).Wp fun x h' => x = stW g ∧ Keep h h' := by
  rw [phi28, x_callB (by rfl)]
  show (m28 _ [some (.loc w), some (.loc a), none, none] h).Wp _
  unfold m28
  by_cases dn : g.ph = .dn
  · have ga := E.ga
    rw [dn] at ga
    have ga : h.get a = some (wkC (.int i) (.int g.f) (.int 0) (.loc af) (.loc ai) (.int g.fed) (.loc ao) (.str "done")) := ga
    rw [x_seq, x_if, x_bol, x_e2, x_e1, v1, wk_en ga, x_C, no_sn, x_bolW, tt_and, x_seq, y_ret, x_e1, v1, wk_en ga]
    refine ⟨?_, Keep.refl⟩
    unfold stW; rw [dn]
  · have ga := E.ga
    have en : enW g.ph = .non := by
      cases q : g.ph with
      | dn => exact absurd q dn
      | st => rfl
      | run p => rfl
    rw [en] at ga
    rw [x_seq, x_if, x_bol, x_e2, x_e1, v1, wk_en ga, x_C, no_nn, x_bolW, ff_and, x_next, x_seq, x_par2]
    rw [x_meth, v0, m_wo D.gw rfl rfl, x_cons, v1, x_nil, ph26 k E D.gw dn V.1, Rs.Wp_ok]
    rw [x_meth, v0, m_wo D.gw rfl rfl, x_cons, v1, x_nil, ph25 (k + 1) E D.gw dn V.1, Rs.Wp_ok, n2, n3]
    cases q : g.ph with
    | dn => exact absurd q dn
    | st =>
      have e1 : unW g = .int 0 := by unfold unW; rw [q]
      have e2 : oneW g = .non := by unfold oneW; rw [q]
      rw [e1, e2, x_seq, x_if, x_and, x_bol, x_e2, v2, x_C, no_in, x_bolW, tt_and, x_bol, x_e2, x_meth, v0, m_wo D.gw rfl rfl, x_cons, v2, x_nil]
      refine (ph27 (k + 1) D hl).mono fun x h1 ⟨ex, k1⟩ => ?_
      subst ex
      rw [x_tup, x_cons, x_C, x_cons, x_e1, v1, wk_nu (k1.at ga), x_nil]
      refine ⟨rfl, ?_⟩
      rw [nin_non, x_bolW, ff_and, x_next, x_seq, x_if, x_and, x_bol, x_e2, v3, x_C, no_nn, x_bolW, ff_and, ff_and, x_next, x_seq, y_ret, x_C]
      refine ⟨?_, k1⟩
      unfold stW isWt; rw [q]; rfl
    | run p =>
      have e1 : unW g = .non := by unfold unW; rw [q]
      rw [e1, x_seq, x_if, x_and, x_bol, x_e2, v2, x_C, no_nn, x_bolW, ff_and, ff_and, x_next]
      rcases V.at_ q with ⟨ef, ep⟩ | ⟨ef, ep⟩ | ⟨ef, ep⟩ | ⟨ef, ep⟩ | ⟨ef, ep⟩ | ⟨ef, ep⟩ <;> subst ep
      · have e2 : oneW g = .tup [.str "branch", .int 0] := by unfold oneW; rw [q, ef]; rfl
        rw [e2, x_seq, x_if, x_and, x_bol, x_e2, v3, x_C, no_tn, x_bolW, tt_and, x_and, x_bol, x_e2, x_e2, v3, x_C, x_ixT0, x_tup, x_cons, x_C, x_cons, x_C, x_nil]
        refine ⟨rfl, ?_⟩
        rw [in_br, x_bolW, tt_and, x_bol, x_e2, x_e1, v1, wk_is ga, x_lst, x_nil]
        refine ⟨rfl, eq_ins (Keep.new.at E.gi) (IH.get_new_self _ _) ?_⟩
        rw [x_bolW]
        have es : stW g = if g.ins = 0 then .str "waits" else .str "moves" := by
          unfold stW isWt; rw [q, ef]; simp
        rw [es]
        by_cases z : g.ins = 0
        · rw [decide_eq_true z, if_pos z, tt_and, x_seq, y_ret, x_C]
          exact ⟨rfl, Keep.new⟩
        · rw [decide_eq_false z, if_neg z, ff_and, x_next, x_seq, y_ret, x_C]
          exact ⟨rfl, Keep.new⟩
      · have e2 : oneW g = .tup [.str "input", .int 0] := by unfold oneW; rw [q, ef]; rfl
        rw [e2, x_seq, x_if, x_and, x_bol, x_e2, v3, x_C, no_tn, x_bolW, tt_and, x_and, x_bol, x_e2, x_e2, v3, x_C, x_ixT0, x_tup, x_cons, x_C, x_cons, x_C, x_nil]
        refine ⟨rfl, ?_⟩
        rw [in_in, x_bolW, tt_and, x_bol, x_e2, x_e1, v1, wk_is ga, x_lst, x_nil]
        refine ⟨rfl, eq_ins (Keep.new.at E.gi) (IH.get_new_self _ _) ?_⟩
        rw [x_bolW]
        have es : stW g = if g.ins = 0 then .str "waits" else .str "moves" := by
          unfold stW isWt; rw [q, ef]; simp
        rw [es]
        by_cases z : g.ins = 0
        · rw [decide_eq_true z, if_pos z, tt_and, x_seq, y_ret, x_C]
          exact ⟨rfl, Keep.new⟩
        · rw [decide_eq_false z, if_neg z, ff_and, x_next, x_seq, y_ret, x_C]
          exact ⟨rfl, Keep.new⟩
      · have e2 : oneW g = .tup [.str "show", .int 0] := by unfold oneW; rw [q, ef]; rfl
        have es : stW g = .str "moves" := by unfold stW isWt; rw [q]; rfl
        rw [e2, es, x_seq, x_if, x_and, x_bol, x_e2, v3, x_C, no_tn, x_bolW, tt_and, x_and, x_bol, x_e2, x_e2, v3, x_C, x_ixT0, x_tup, x_cons, x_C, x_cons, x_C, x_nil]
        refine ⟨rfl, ?_⟩
        rw [in_sh, x_bolW, ff_and, ff_and, x_next, x_seq, y_ret, x_C]
        exact ⟨rfl, Keep.refl⟩
      · have e2 : oneW g = .non := by unfold oneW; rw [q, ef]; rfl
        have es : stW g = .str "moves" := by unfold stW isWt; rw [q]; rfl
        rw [e2, es, x_seq, x_if, x_and, x_bol, x_e2, v3, x_C, no_nn, x_bolW, ff_and, ff_and, x_next, x_seq, y_ret, x_C]
        exact ⟨rfl, Keep.refl⟩
      · have e2 : oneW g = .tup [.str "show", .int 0] := by unfold oneW; rw [q, ef]; rfl
        have es : stW g = .str "moves" := by unfold stW isWt; rw [q, ef]; rfl
        rw [e2, es, x_seq, x_if, x_and, x_bol, x_e2, v3, x_C, no_tn, x_bolW, tt_and, x_and, x_bol, x_e2, x_e2, v3, x_C, x_ixT0, x_tup, x_cons, x_C, x_cons, x_C, x_nil]
        refine ⟨rfl, ?_⟩
        rw [in_sh, x_bolW, ff_and, ff_and, x_next, x_seq, y_ret, x_C]
        exact ⟨rfl, Keep.refl⟩
      · have e2 : oneW g = .non := by unfold oneW; rw [q, ef]; rfl
        have es : stW g = .str "moves" := by unfold stW isWt; rw [q]; rfl
        rw [e2, es, x_seq, x_if, x_and, x_bol, x_e2, v3, x_C, no_nn, x_bolW, ff_and, ff_and, x_next, x_seq, y_ret, x_C]
        exact ⟨rfl, Keep.refl⟩
end K85

set_option linter.all false
set_option linter.unusedSimpArgs false
set_option maxRecDepth 100000
set_option maxHeartbeats 1000000
namespace K85
open PySem Fw
/-! ### what is changed: one thread's move -/
abbrev Cur (t : Nat → Tg) : Tg → Nat → Prop := fun r a => t a = r
def ofW (i : Nat) : Tg → Prop
  | .wk k => k = i
  | .frs k => k = i
  | .f0 k => k = i
  | .f1 k => k = i
  | .s0 k => k = i
  | .s1 k => k = i
  | .ins k => k = i
  | .outs k => k = i
  | _ => False
structure Mv (i : Nat) (t : Nat → Tg) (h : IH) (t' : Nat → Tg) (h' : IH) : Prop where
  n : h.n ≤ h'.n
  tg : ∀ a, a < h.n → t' a = t a
  k : ∀ a, a < h.n → ¬ ofW i (t a) → h'.get a = h.get a
theorem Mv.refl {i : Nat} {t : Nat → Tg} {h : IH} : Mv i t h t h := ⟨Nat.le_refl _, fun _ _ => rfl, fun _ _ _ => rfl⟩
theorem Mv.trans {i : Nat} {t t1 t2 : Nat → Tg} {h h1 h2 : IH} (x : Mv i t h t1 h1) (y : Mv i t1 h1 t2 h2) : Mv i t h t2 h2 :=
  ⟨Nat.le_trans x.n y.n, fun a ha => (y.tg a (Nat.lt_of_lt_of_le ha x.n)).trans (x.tg a ha), fun a ha hn => (y.k a (Nat.lt_of_lt_of_le ha x.n) (by rw [x.tg a ha]; exact hn)).trans (x.k a ha hn)⟩
theorem Mv.keep {i : Nat} {t : Nat → Tg} {h h' : IH} (k : Keep h h') : Mv i t h t h' := ⟨k.1, fun _ _ => rfl, fun a ha _ => k.2 a ha⟩
theorem Mv.set {i : Nat} {t : Nat → Tg} {h : IH} {a : Nat} {c0 c : Cell} (g : h.get a = some c0) (o : ofW i (t a)) : Mv i t h t (h.set a c) :=
  ⟨Nat.le_refl _, fun _ _ => rfl, fun b _ hn => gs_ne g fun e => hn (e ▸ o)⟩
theorem tne {t : Nat → Tg} {a b : Nat} {r s : Tg} (x : t a = r) (y : t b = s) (n : r ≠ s) : b ≠ a := fun e => n (by rw [← x, ← y, e])
theorem Frm.set {t : Nat → Tg} {h : IH} {tf ts : Tg} {nm : W} {p : Nat} {w : W} {b : Nat} {c0 c : Cell} {r : Tg} (q : Frm (Cur t) h tf ts nm p w) (g : h.get b = some c0) (rb : t b = r) (n1 : r ≠ tf) (n2 : r ≠ ts) : Frm (Cur t) (h.set b c) tf ts nm p w :=
  let ⟨a, s, u, v, z, e, r1, g1, r2, g2⟩ := q
  ⟨a, s, u, v, z, e, r1, (gs_ne g (tne rb r1 n1)).trans g1, r2, (gs_ne g (tne rb r2 n2)).trans g2⟩
theorem Frs.set {t : Nat → Tg} {h : IH} {k f : Nat} {ph : Ph} {fl : List W} {b : Nat} {c0 c : Cell} {r : Tg} (q : Frs (Cur t) h k f ph fl) (g : h.get b = some c0) (rb : t b = r) (n1 : r ≠ .f0 k) (n2 : r ≠ .f1 k) (n3 : r ≠ .s0 k) (n4 : r ≠ .s1 k) : Frs (Cur t) (h.set b c) k f ph fl := by
  cases ph with
  | st => obtain ⟨w, e, z⟩ := q; exact ⟨w, e, z.set g rb n1 n3⟩
  | run p => obtain ⟨w, u, e, z1, z2⟩ := q; exact ⟨w, u, e, z1.set g rb n1 n3, z2.set g rb n2 n4⟩
  | dn => exact q
theorem WkD.set {t : Nat → Tg} {h : IH} {k a : Nat} {g : Wk} {af ai ao : Nat} {fl os : List W} {b : Nat} {c0 c : Cell} {r : Tg} {f : Nat} {ph : Ph} (D : WkD (Cur t) h k a g af ai ao fl os) (gb : h.get b = some c0) (rb : t b = r) (n1 : r ≠ .wk k) (n2 : r ≠ .frs k) (n3 : r ≠ .ins k) (n4 : r ≠ .outs k)
    (fr : Frs (Cur t) (h.set b c) k g.f g.ph fl) : WkD (Cur t) (h.set b c) k a g af ai ao fl os :=
  ⟨D.ra, (gs_ne gb (tne rb D.ra n1)).trans D.ga, D.rf, (gs_ne gb (tne rb D.rf n2)).trans D.gf, D.ri, (gs_ne gb (tne rb D.ri n3)).trans D.gi, D.ro, (gs_ne gb (tne rb D.ro n4)).trans D.go, fr⟩
theorem set_ins {t : Nat → Tg} {h : IH} {k a : Nat} {g : Wk} {af ai ao : Nat} {fl os : List W} (D : WkD (Cur t) h k a g af ai ao fl os) (n : Nat) : WkD (Cur t) (h.set ai (.lst (List.replicate n (.int 1)))) k a { g with ins := n } af ai ao fl os :=
  ⟨D.ra, (gs_ne D.gi (tne D.ri D.ra nofun)).trans D.ga, D.rf, (gs_ne D.gi (tne D.ri D.rf nofun)).trans D.gf, D.ri, gs_same D.gi, D.ro, (gs_ne D.gi (tne D.ri D.ro nofun)).trans D.go, D.fr.set D.gi D.ri nofun nofun nofun nofun⟩
theorem set_out {t : Nat → Tg} {h : IH} {k a : Nat} {g : Wk} {af ai ao : Nat} {fl os : List W} (D : WkD (Cur t) h k a g af ai ao fl os) (us : List W) : WkD (Cur t) (h.set ao (.lst us)) k a g af ai ao fl us :=
  ⟨D.ra, (gs_ne D.go (tne D.ro D.ra nofun)).trans D.ga, D.rf, (gs_ne D.go (tne D.ro D.rf nofun)).trans D.gf, D.ri, (gs_ne D.go (tne D.ro D.ri nofun)).trans D.gi, D.ro, gs_same D.go, D.fr.set D.go D.ro nofun nofun nofun nofun⟩
theorem set_pl {t : Nat → Tg} {h : IH} {k a : Nat} {f p is fd : Nat} {af ai ao : Nat} {fl os : List W} {w : W} {a1 s1 : Nat} {x y z : W} (D : WkD (Cur t) h k a ⟨f, .run p, is, fd⟩ af ai ao fl os) (ef : fl = [w, .loc a1]) (F0 : Frm (Cur t) h (.f0 k) (.s0 k) (nm0 k) 0 w)
    (r3 : t a1 = .f1 k) (g3 : h.get a1 = some (frC (nmF f) (.int p) (.loc s1))) (r4 : t s1 = .s1 k) (g4 : h.get s1 = some (.lst [x, y, z])) (p' : Nat) : WkD (Cur t) (h.set a1 (frC (nmF f) (.int p') (.loc s1))) k a ⟨f, .run p', is, fd⟩ af ai ao fl os :=
  ⟨D.ra, (gs_ne g3 (tne r3 D.ra nofun)).trans D.ga, D.rf, (gs_ne g3 (tne r3 D.rf nofun)).trans D.gf, D.ri, (gs_ne g3 (tne r3 D.ri nofun)).trans D.gi, D.ro, (gs_ne g3 (tne r3 D.ro nofun)).trans D.go,
    ⟨w, .loc a1, ef, F0.set g3 r3 nofun nofun, a1, s1, x, y, z, rfl, r3, gs_same g3, r4, (gs_ne g3 (tne r3 r4 nofun)).trans g4⟩⟩
theorem set_sl {t : Nat → Tg} {h : IH} {k a : Nat} {f p is fd : Nat} {af ai ao : Nat} {fl os : List W} {w : W} {a1 s1 : Nat} {x y z : W} (D : WkD (Cur t) h k a ⟨f, .run p, is, fd⟩ af ai ao fl os) (ef : fl = [w, .loc a1]) (F0 : Frm (Cur t) h (.f0 k) (.s0 k) (nm0 k) 0 w)
    (r3 : t a1 = .f1 k) (g3 : h.get a1 = some (frC (nmF f) (.int p) (.loc s1))) (r4 : t s1 = .s1 k) (g4 : h.get s1 = some (.lst [x, y, z])) (x' y' z' : W) : WkD (Cur t) (h.set s1 (.lst [x', y', z'])) k a ⟨f, .run p, is, fd⟩ af ai ao fl os :=
  ⟨D.ra, (gs_ne g4 (tne r4 D.ra nofun)).trans D.ga, D.rf, (gs_ne g4 (tne r4 D.rf nofun)).trans D.gf, D.ri, (gs_ne g4 (tne r4 D.ri nofun)).trans D.gi, D.ro, (gs_ne g4 (tne r4 D.ro nofun)).trans D.go,
    ⟨w, .loc a1, ef, F0.set g4 r4 nofun nofun, a1, s1, x', y', z', rfl, r3, (gs_ne g4 (tne r4 r3 nofun)).trans g3, r4, gs_same g4⟩⟩
/-- a frame is made -/
theorem ph17 (k : Nat) {h : IH} {a : Nat} {nm pl : W} (g : h.get a = some (.ins 7 [])) {P : W → IH → Prop} (z : ∀ h', h'.n = h.n + 1 → (∀ b, b < h.n → b ≠ a → h'.get b = h.get b) → h'.get a = some (frC nm pl (.loc h.n)) → h'.get h.n = some (.lst [.int 0, .int 0, .int 0]) → P .non h') : (Phi gk tab (k + 1) 17 [.loc a, nm, pl] h).Wp P := by
  rw [phi17, x_callB (by rfl)]
  show (m17 _ [some (.loc a), some nm, some pl] h).Wp _
  unfold m17
  have al := IH.get_lt g
  rw [x_seq, y_asg, v1, x_gf, v0, x_fset g rfl]
  have g1 : (h.set a (.ins 7 (putW "name" nm []))).get a = some (.ins 7 [("name", nm)]) := gs_same g
  have f1 : ∀ b, b ≠ a → (h.set a (.ins 7 (putW "name" nm []))).get b = h.get b := fun b n => gs_ne g n
  have n1 : (h.set a (.ins 7 (putW "name" nm []))).n = h.n := rfl
  generalize h.set a (.ins 7 (putW "name" nm [])) = h1 at g1 f1 n1 ⊢
  rw [x_seq, y_asg, v2, x_gf, v0, x_fset g1 rfl]
  have g2 : (h1.set a (.ins 7 (putW "place" pl [("name", nm)]))).get a = some (.ins 7 [("name", nm), ("place", pl)]) := gs_same g1
  have f2 : ∀ b, b ≠ a → (h1.set a (.ins 7 (putW "place" pl [("name", nm)]))).get b = h.get b := fun b n => (gs_ne g1 n).trans (f1 b n)
  have n2' : (h1.set a (.ins 7 (putW "place" pl [("name", nm)]))).n = h.n := n1
  generalize h1.set a (.ins 7 (putW "place" pl [("name", nm)])) = h2 at g2 f2 n2' ⊢
  rw [x_seq, y_asg, x_lst, x_cons, x_C, x_cons, x_C, x_cons, x_C, x_nil]
  refine ⟨rfl, ?_⟩
  have g3 : (h2.new (.lst [.int 0, .int 0, .int 0])).get a = some (.ins 7 [("name", nm), ("place", pl)]) := Keep.new.at g2
  rw [x_gf, v0, x_fset g3 rfl, x_next]
  refine z _ (by show h2.n + 1 = _; rw [n2']) (fun b hb nb => ?_) ?_ ?_
  · rw [gs_ne g3 nb, IH.get_new, if_neg (by omega)]; exact f2 b nb
  · rw [gs_same g3, n2']; rfl
  · rw [gs_ne g3 (by omega), ← n2', IH.get_new_self]
/-- what a make of a frame leaves -/
theorem mk_fr (k : Nat) {r : EA} {e : Fw.Env} {h : IH} {P : W → IH → Prop} (w : (r e h).Wp fun ws h1 => ∃ nm pl, ws = [nm, pl] ∧ ∀ h2, h2.n = h1.n + 2 → Keep h1 h2 → h2.get h1.n = some (frC nm pl (.loc (h1.n + 1))) → h2.get (h1.n + 1) = some (.lst [.int 0, .int 0, .int 0]) → P (.loc h1.n) h2) : (eMake (Phi gk tab (k + 2)) 7 17 r e h).Wp P := by
  rw [x_make few_]
  refine w.mono fun ws h1 ⟨nm, pl, ew, z⟩ => ?_
  subst ew
  refine ph17 k (IH.get_new_self h1 _) fun h' q1 q2 q3 q4 => ?_
  refine ⟨rfl, z h' (by rw [q1]; rfl) ⟨by rw [q1]; show h1.n ≤ h1.n + 1 + 1; omega, fun b hb => ?_⟩ q3 q4⟩
  rw [q2 b (Nat.lt_succ_of_lt hb) (Nat.ne_of_lt hb), IH.get_new, if_neg (Nat.ne_of_lt hb)]
end K85

set_option linter.all false
set_option linter.unusedSimpArgs false
set_option maxRecDepth 100000
set_option maxHeartbeats 1000000
namespace K85
open PySem Fw
/-! ### a thread's move -/
def mvG (g : Wk) : Wk := match g.ph with
  | .st => { g with ph := .run 0 }
  | .dn => g
  | .run p => match g.f, p with
    | 0, _ => { g with ins := g.ins - 1 }
    | 1, 0 => { g with ins := g.ins - 1, ph := .run 1 }
    | 1, 1 => { g with ph := .run 2 }
    | 1, _ => { g with ph := .dn }
    | _, 0 => { g with ph := .run 1 }
    | _, _ => { g with ph := .dn }
section
variable {P : W → IH → Prop} {h : IH}
theorem ns1 : (oEq (.str "input") (.str "number") h).Wp P = P (.bl false) h := eq_sd (by kernel_rfl)
theorem ns2 : (oEq (.str "input") (.str "copy") h).Wp P = P (.bl false) h := eq_sd (by kernel_rfl)
theorem ns3 : (oEq (.str "input") (.str "add") h).Wp P = P (.bl false) h := eq_sd (by kernel_rfl)
theorem ns4 : (oEq (.str "input") (.str "fail") h).Wp P = P (.bl false) h := eq_sd (by kernel_rfl)
theorem ns5 : (oEq (.str "input") (.str "call") h).Wp P = P (.bl false) h := eq_sd (by kernel_rfl)
theorem ns6 : (oEq (.str "input") (.str "branch") h).Wp P = P (.bl false) h := eq_sd (by kernel_rfl)
theorem nh1 : (oEq (.str "show") (.str "number") h).Wp P = P (.bl false) h := eq_sd (by kernel_rfl)
theorem nh2 : (oEq (.str "show") (.str "copy") h).Wp P = P (.bl false) h := eq_sd (by kernel_rfl)
theorem nh3 : (oEq (.str "show") (.str "add") h).Wp P = P (.bl false) h := eq_sd (by kernel_rfl)
theorem nh4 : (oEq (.str "show") (.str "fail") h).Wp P = P (.bl false) h := eq_sd (by kernel_rfl)
theorem nh5 : (oEq (.str "show") (.str "call") h).Wp P = P (.bl false) h := eq_sd (by kernel_rfl)
theorem nh6 : (oEq (.str "show") (.str "branch") h).Wp P = P (.bl false) h := eq_sd (by kernel_rfl)
theorem nh7 : (oEq (.str "show") (.str "input") h).Wp P = P (.bl false) h := eq_sd (by kernel_rfl)
theorem nb4 : (oEq (.str "branch") (.str "fail") h).Wp P = P (.bl false) h := eq_sd (by kernel_rfl)
theorem nb5 : (oEq (.str "branch") (.str "call") h).Wp P = P (.bl false) h := eq_sd (by kernel_rfl)
end
section
variable {st nu re wl mv : W} {t : Nat → Tg} {h : IH} {k a : Nat} {f p is fd : Nat} {af ai ao w : Nat} {fl os : List W} {w0 : W} {a1 s1 : Nat} {x y z : W}
theorem ph34_in (q : Nat) (D : WkD (Cur t) h k a ⟨f, .run p, is + 1, fd⟩ af ai ao fl os) (ef : fl = [w0, .loc a1]) (F0 : Frm (Cur t) h (.f0 k) (.s0 k) (nm0 k) 0 w0)
    (r3 : t a1 = .f1 k) (g3 : h.get a1 = some (frC (nmF f) (.int p) (.loc s1))) (r4 : t s1 = .s1 k) (g4 : h.get s1 = some (.lst [x, y, z])) :
    (Phi gk tab (q + 1) 34 [.loc w, .loc a, .tup [.str "input", .int 0]] h).Wp fun x h' => x = .non ∧ h' = (h.set ai (.lst (List.replicate is (.int 1)))).set s1 (.lst [.int 1, y, z]) := by
  rw [phi34, x_callB (by rfl)]
  show (m34 _ [some (.loc w), some (.loc a), some (.tup [.str "input", .int 0]), none] h).Wp _
  unfold m34
  have gl : h.get af = some (.lst ([w0] ++ [.loc a1])) := by rw [D.gf, ef]; rfl
  have gi : h.get ai = some (.lst (.int 1 :: List.replicate is (.int 1))) := by rw [D.gi]; rfl
  rw [x_seq, y_asg, x_e1, x_e2, x_e1, v1, wk_fr D.ga, x_e1, x_C, x_neg, y_last gl, fr_slots g3, n3]
  rw [x_seq, x_if, x_bol, x_e2, x_e2, v2, x_C, x_ixT0, x_C, ns1, x_bolW, ff_and]
  rw [x_seq, x_if, x_bol, x_e2, x_e2, v2, x_C, x_ixT0, x_C, ns2, x_bolW, ff_and]
  rw [x_seq, x_if, x_bol, x_e2, x_e2, v2, x_C, x_ixT0, x_C, ns3, x_bolW, ff_and]
  rw [x_seq, x_if, x_bol, x_e2, x_e2, v2, x_C, x_ixT0, x_C, eq_ss, x_bolW, tt_and]
  rw [x_seq, y_asg, x_mt, x_e1, v1, wk_is D.ga]
  refine ⟨isLst_at gi, ?_⟩
  have D1 := set_ins D is
  have g4' : (h.set ai (.lst (List.replicate is (.int 1)))).get s1 = some (.lst [x, y, z]) := (gs_ne D.gi (tne D.ri r4 nofun)).trans g4
  rw [x_cons, x_C, x_nil, x_pop0 gi, x_sb, v3, x_e2, v2, x_C, x_ixT1, x_set g4' (by decide) (by simp)]
  repeat rw [x_next]
  exact ⟨rfl, rfl⟩
theorem ph34_sh (q : Nat) (D : WkD (Cur t) h k a ⟨f, .run p, is, fd⟩ af ai ao fl os) (ef : fl = [w0, .loc a1]) (lo : os.length < 1000)
    (g3 : h.get a1 = some (frC (nmF f) (.int p) (.loc s1))) (g4 : h.get s1 = some (.lst [x, y, z])) :
    (Phi gk tab (q + 1) 34 [.loc w, .loc a, .tup [.str "show", .int 0]] h).Wp fun u h' => u = .non ∧ h' = h.set ao (.lst (os ++ [x])) := by
  rw [phi34, x_callB (by rfl)]
  show (m34 _ [some (.loc w), some (.loc a), some (.tup [.str "show", .int 0]), none] h).Wp _
  unfold m34
  have gl : h.get af = some (.lst ([w0] ++ [.loc a1])) := by rw [D.gf, ef]; rfl
  rw [x_seq, y_asg, x_e1, x_e2, x_e1, v1, wk_fr D.ga, x_e1, x_C, x_neg, y_last gl, fr_slots g3, n3]
  rw [x_seq, x_if, x_bol, x_e2, x_e2, v2, x_C, x_ixT0, x_C, nh1, x_bolW, ff_and]
  rw [x_seq, x_if, x_bol, x_e2, x_e2, v2, x_C, x_ixT0, x_C, nh2, x_bolW, ff_and]
  rw [x_seq, x_if, x_bol, x_e2, x_e2, v2, x_C, x_ixT0, x_C, nh3, x_bolW, ff_and]
  rw [x_seq, x_if, x_bol, x_e2, x_e2, v2, x_C, x_ixT0, x_C, nh7, x_bolW, ff_and]
  rw [x_seq, x_if, x_bol, x_e2, x_e2, v2, x_C, x_ixT0, x_C, eq_ss, x_bolW, tt_and]
  rw [x_seq, x_expr, x_mt, x_e1, v1, wk_os D.ga]
  refine ⟨isLst_at D.go, ?_⟩
  rw [x_cons, x_e2, v3, x_e2, v2, x_C, x_ixT1, x_ix g4 (by decide) rfl, x_nil, x_app D.go (by omega)]
  repeat rw [x_next]
  exact ⟨rfl, rfl⟩
theorem ph33_br (q : Nat) (D : WkD (Cur t) h k a ⟨f, .run p, is + 1, fd⟩ af ai ao fl os) (ef : fl = [w0, .loc a1]) (r3 : t a1 = .f1 k) (g3 : h.get a1 = some (frC (nmF f) (.int p) (.loc s1))) :
    (Phi gk tab (q + 1) 33 [.loc w, .loc a, .tup [.str "branch", .int 0]] h).Wp fun u h' => u = .non ∧ h' = (h.set ai (.lst (List.replicate is (.int 1)))).set a1 (frC (nmF f) (.int ((0 : Nat) : Int)) (.loc s1)) := by
  rw [phi33, x_callB (by rfl)]
  show (m33 _ [some (.loc w), some (.loc a), some (.tup [.str "branch", .int 0]), none] h).Wp _
  unfold m33
  have gl : h.get af = some (.lst ([w0] ++ [.loc a1])) := by rw [D.gf, ef]; rfl
  have gi : h.get ai = some (.lst (.int 1 :: List.replicate is (.int 1))) := by rw [D.gi]; rfl
  rw [x_seq, y_asg, x_e2, x_e1, v1, wk_fr D.ga, x_e1, x_C, x_neg, y_last gl, n3]
  rw [x_seq, x_if, x_bol, x_e2, x_e2, v2, x_C, x_ixT0, x_C, nb4, x_bolW, ff_and]
  rw [x_seq, x_if, x_bol, x_e2, x_e2, v2, x_C, x_ixT0, x_C, nb5, x_bolW, ff_and]
  rw [x_seq, x_if, x_bol, x_e2, x_e2, v2, x_C, x_ixT0, x_C, eq_ss, x_bolW, tt_and]
  rw [x_seq, y_asg, x_eIf, x_bol, x_e2, x_mt, x_e1, v1, wk_is D.ga]
  refine ⟨isLst_at gi, ?_⟩
  rw [x_cons, x_C, x_nil, x_pop0 gi, x_C, x_neI, show (!decide ((1 : Int) = 0)) = true from rfl, x_bolW, tt_and, x_e2, v2, x_C, x_ixT1]
  have g3' : (h.set ai (.lst (List.replicate is (.int 1)))).get a1 = some (frC (nmF f) (.int p) (.loc s1)) := (gs_ne D.gi (tne D.ri r3 nofun)).trans g3
  rw [x_gf, v3, fr_sPlace g3']
  repeat rw [x_next]
  exact ⟨rfl, rfl⟩
theorem ph33_in (q : Nat) (D : WkD (Cur t) h k a ⟨f, .run p, is + 1, fd⟩ af ai ao fl os) (ef : fl = [w0, .loc a1]) (F0 : Frm (Cur t) h (.f0 k) (.s0 k) (nm0 k) 0 w0) (gw : h.get w = some (woC PRw st nu re wl mv)) (tw : t w = .wo)
    (r3 : t a1 = .f1 k) (g3 : h.get a1 = some (frC (nmF f) (.int p) (.loc s1))) (r4 : t s1 = .s1 k) (g4 : h.get s1 = some (.lst [x, y, z])) :
    (Phi gk tab (q + 2) 33 [.loc w, .loc a, .tup [.str "input", .int 0]] h).Wp fun u h' => u = .non ∧ h' = ((h.set ai (.lst (List.replicate is (.int 1)))).set s1 (.lst [.int 1, y, z])).set a1 (frC (nmF f) (.int ((p : Int) + 1)) (.loc s1)) := by
  rw [phi33, x_callB (by rfl)]
  show (m33 _ [some (.loc w), some (.loc a), some (.tup [.str "input", .int 0]), none] h).Wp _
  unfold m33
  have gl : h.get af = some (.lst ([w0] ++ [.loc a1])) := by rw [D.gf, ef]; rfl
  rw [x_seq, y_asg, x_e2, x_e1, v1, wk_fr D.ga, x_e1, x_C, x_neg, y_last gl, n3]
  rw [x_seq, x_if, x_bol, x_e2, x_e2, v2, x_C, x_ixT0, x_C, ns4, x_bolW, ff_and]
  rw [x_seq, x_if, x_bol, x_e2, x_e2, v2, x_C, x_ixT0, x_C, ns5, x_bolW, ff_and]
  rw [x_seq, x_if, x_bol, x_e2, x_e2, v2, x_C, x_ixT0, x_C, ns6, x_bolW, ff_and]
  rw [x_seq, x_expr, x_meth, v0, m_wo gw rfl rfl, x_cons, v1, x_cons, v2, x_nil]
  refine (ph34_in q D ef F0 r3 g3 r4 g4).mono fun u h1 ⟨_, eh⟩ => ?_
  subst eh
  rw [x_seq]
  have g3' : ((h.set ai (.lst (List.replicate is (.int 1)))).set s1 (.lst [.int 1, y, z])).get a1 = some (frC (nmF f) (.int p) (.loc s1)) := by
    rw [gs_ne (c0 := .lst [x, y, z]) ((gs_ne D.gi (tne D.ri r4 nofun)).trans g4) (tne r4 r3 nofun), gs_ne D.gi (tne D.ri r3 nofun)]; exact g3
  refine y_aug ?_
  rw [v3]
  refine ⟨a1, 7, _, p, rfl, g3', rfl, rfl, ?_⟩
  repeat rw [x_next]
  exact ⟨rfl, rfl⟩
theorem ph33_sh (q : Nat) (D : WkD (Cur t) h k a ⟨f, .run p, is, fd⟩ af ai ao fl os) (ef : fl = [w0, .loc a1]) (lo : os.length < 1000) (gw : h.get w = some (woC PRw st nu re wl mv)) (tw : t w = .wo)
    (r3 : t a1 = .f1 k) (g3 : h.get a1 = some (frC (nmF f) (.int p) (.loc s1))) (r4 : t s1 = .s1 k) (g4 : h.get s1 = some (.lst [x, y, z])) :
    (Phi gk tab (q + 2) 33 [.loc w, .loc a, .tup [.str "show", .int 0]] h).Wp fun u h' => u = .non ∧ h' = (h.set ao (.lst (os ++ [x]))).set a1 (frC (nmF f) (.int ((p : Int) + 1)) (.loc s1)) := by
  rw [phi33, x_callB (by rfl)]
  show (m33 _ [some (.loc w), some (.loc a), some (.tup [.str "show", .int 0]), none] h).Wp _
  unfold m33
  have gl : h.get af = some (.lst ([w0] ++ [.loc a1])) := by rw [D.gf, ef]; rfl
  rw [x_seq, y_asg, x_e2, x_e1, v1, wk_fr D.ga, x_e1, x_C, x_neg, y_last gl, n3]
  rw [x_seq, x_if, x_bol, x_e2, x_e2, v2, x_C, x_ixT0, x_C, nh4, x_bolW, ff_and]
  rw [x_seq, x_if, x_bol, x_e2, x_e2, v2, x_C, x_ixT0, x_C, nh5, x_bolW, ff_and]
  rw [x_seq, x_if, x_bol, x_e2, x_e2, v2, x_C, x_ixT0, x_C, nh6, x_bolW, ff_and]
  rw [x_seq, x_expr, x_meth, v0, m_wo gw rfl rfl, x_cons, v1, x_cons, v2, x_nil]
  refine (ph34_sh q D ef lo g3 g4).mono fun u h1 ⟨_, eh⟩ => ?_
  subst eh
  rw [x_seq]
  have g3' : (h.set ao (.lst (os ++ [x]))).get a1 = some (frC (nmF f) (.int p) (.loc s1)) := (gs_ne D.go (tne D.ro r3 nofun)).trans g3
  refine y_aug ?_
  rw [v3]
  refine ⟨a1, 7, _, p, rfl, g3', rfl, rfl, ?_⟩
  repeat rw [x_next]
  exact ⟨rfl, rfl⟩
theorem ph32 (q : Nat) (D : WkD (Cur t) h k a ⟨f, .run p, is, fd⟩ af ai ao fl os) (ef : fl = [w0, .loc a1]) (F0 : Frm (Cur t) h (.f0 k) (.s0 k) (nm0 k) 0 w0)
    (r3 : t a1 = .f1 k) (g3 : h.get a1 = some (frC (nmF f) (.int p) (.loc s1))) :
    (Phi gk tab (q + 1) 32 [.loc w, .loc a] h).Wp fun u h' => u = .non ∧ h' = ((h.set af (.lst [w0])).set af (.lst [])).set a (wkC (.int k) (.int f) (.int 0) (.loc af) (.loc ai) (.int fd) (.loc ao) (.str "done")) := by
  rw [phi32, x_callB (by rfl)]
  show (m32 _ [some (.loc w), some (.loc a), none] h).Wp _
  unfold m32
  have gl : h.get af = some (.lst ([w0] ++ [.loc a1])) := by rw [D.gf, ef]; rfl
  obtain ⟨a0, s0, x0, y0, z0, e0, q1, q2, q3, q4⟩ := F0
  rw [x_seq, y_asg, x_mt, x_e1, v1, wk_fr D.ga]
  refine ⟨isLst_at gl, ?_⟩
  have h1a : (h.set af (.lst [w0])).get a = _ := (gs_ne D.gf (tne D.rf D.ra nofun)).trans D.ga
  have h1f : (h.set af (.lst [w0])).get a1 = _ := (gs_ne D.gf (tne D.rf r3 nofun)).trans g3
  have h10 : (h.set af (.lst [w0])).get a0 = _ := (gs_ne D.gf (tne D.rf q1 nofun)).trans q2
  have h1l : (h.set af (.lst [w0])).get af = some (.lst ([] ++ [.loc a0])) := by rw [gs_same D.gf, e0]; rfl
  rw [x_nil, y_pop0 gl, n2, x_seq, x_if, x_bol, x_e2, x_e2, x_e1, v2, fr_name h1f, x_C, ix_f0, x_C, ff_un, x_bolW, ff_and]
  rw [x_seq, x_if, x_bol, x_e2, x_e2, x_e1, x_e2, x_e1, v1, wk_fr h1a, x_e1, x_C, x_neg, y_last h1l, fr_name h10, x_C, ix_s0, x_C, eq_ss, x_bolW, tt_and]
  rw [x_seq, x_expr, x_mt, x_e1, v1, wk_fr h1a]
  refine ⟨isLst_at h1l, ?_⟩
  have h2a : ((h.set af (.lst [w0])).set af (.lst [])).get a = _ := (gs_ne h1l (tne D.rf D.ra nofun)).trans h1a
  rw [x_nil, y_pop0 h1l, x_seq, y_asg, x_C, x_gf, v1, wk_sEn h2a]
  repeat rw [x_next]
  exact ⟨rfl, rfl⟩
end
end K85

set_option linter.all false
set_option linter.unusedSimpArgs false
set_option maxRecDepth 100000
set_option maxHeartbeats 1000000
namespace K85
open PySem Fw
/-! ### move -/
theorem mv_up {i : Nat} {t : Nat → Tg} {h h' : IH} {a0 b0 : Nat} (hn : h'.n = h.n + 2) (r : Nat → Tg) : ∃ t' : Nat → Tg, (∀ a, a < h.n → t' a = t a) ∧ t' h.n = r 0 ∧ t' (h.n + 1) = r 1 :=
  ⟨fun a => if a = h.n then r 0 else if a = h.n + 1 then r 1 else t a, fun a ha => by dsimp only; rw [if_neg (by omega), if_neg (by omega)], if_pos rfl, by dsimp only; rw [if_neg (by omega), if_pos rfl]⟩
/-- other tags below -/
theorem cur_up {t t' : Nat → Tg} {h : IH} (e : ∀ a, a < h.n → t' a = t a) : Rx (Cur t) h (Cur t') h := fun r a c x g => ⟨(e a (IH.get_lt g)).trans x, g⟩
theorem ph31 (k : Nat) {t : Nat → Tg} {h : IH} {w : Nat} {G : Wo} {st nu re r0 wl mv : Nat} {ws : List Nat} (D : WoD (Cur t) h w G st nu re r0 wl mv ws) {i a af ai ao : Nat} {g : Wk} {fl os : List W} (E : WkD (Cur t) h i a g af ai ao fl os) (lo : os.length ≤ pN g.ph) (V : Val g) (m : stW g = .str "moves") :
    (Phi gk tab (k + 5) 31 [.loc w, .loc a] h).Wp fun x h' => x = .non ∧ ∃ t', Mv i t h t' h' ∧ WkAt (Cur t') h' i a (mvG g) := by
  rw [phi31, x_callB (by rfl)]
  show (m31 _ [some (.loc w), some (.loc a), none, none] h).Wp _
  unfold m31
  obtain ⟨f, ph, is, fd⟩ := g
  cases ph with
  | dn => cases m
  | st =>
    obtain ⟨u, e, a0, s, x, y, z, e2, r1, g1, r2, g2⟩ := E.fr
    have gl : h.get af = some (.lst ([] ++ [.loc a0])) := by rw [E.gf, e, e2]; rfl
    rw [x_seq, x_par2, x_meth, v0, m_wo D.gw rfl rfl, x_cons, v1, x_nil, ph26 (k + 1) E D.gw nofun V.1, Rs.Wp_ok, x_e2, x_e1, v1, wk_fr E.ga, x_e1, x_C, x_neg, y_last gl, n2, n3]
    rw [show unW ⟨f, .st, is, fd⟩ = .int 0 from rfl]
    rw [x_seq, x_if, x_and, x_bol, x_e2, v2, x_C, no_in, x_bolW, tt_and, x_bol, x_e2, x_e2, x_e1, v0, wo_st D.gw, v2, x_ix D.gs (by decide) rfl, x_C, ff_aa, x_bolW, ff_and]
    rw [x_seq, x_if, x_and, x_bol, x_e2, v2, x_C, no_in, x_bolW, tt_and, x_bol, x_e2, x_e2, x_e1, v0, wo_st D.gw, v2, x_ix D.gs (by decide) rfl, x_C, ff_ab, x_bolW, ff_and]
    rw [x_seq, x_if, x_bol, x_e2, x_e2, x_e1, v3, fr_name g1, x_C, ix_s0, x_C, eq_ss, x_bolW, tt_and]
    rw [x_seq, x_expr, x_mt, x_e1, v1, wk_fr E.ga]
    refine ⟨isLst_at gl, ?_⟩
    rw [x_cons]
    refine mk_fr (k + 2) ?_
    rw [x_cons, x_tup, x_cons, x_C, x_cons, x_e1, v1, wk_f E.ga, x_nil]
    refine ⟨rfl, ?_⟩
    rw [x_cons, x_C, x_nil]
    refine ⟨_, _, rfl, fun h2 q1 q2 q3 q4 => ?_⟩
    have gl2 := q2.at gl
    rw [x_nil, x_app gl2 (by simp)]
    repeat rw [x_next]
    refine ⟨rfl, ?_⟩
    obtain ⟨t', ht, t0, t1⟩ := mv_up (i := i) (t := t) (h := h) (h' := h2) (a0 := 0) (b0 := 0) q1 (fun j => if j = 0 then .f1 i else .s1 i)
    have rx : Rx (Cur t) h (Cur t') h2 := fun r b c x g => ⟨(ht b (IH.get_lt g)).trans x, q2.at g⟩
    have E2 := E.rx rx
    refine ⟨t', ⟨by show h.n ≤ h2.n; omega, ht, fun b hb nb => ?_⟩, af, ai, ao, [.loc a0, .loc h.n], os, ?_, Nat.le_trans lo (Nat.zero_le _)⟩
    · rw [gs_ne gl2 (fun eb => nb (by rw [eb]; show ofW i (t af); rw [E.rf]; exact rfl))]
      exact q2.2 b hb
    · have lt0 := IH.get_lt q3
      refine ⟨E2.ra, (gs_ne gl2 (tne E2.rf E2.ra nofun)).trans E2.ga, E2.rf, gs_same gl2, E2.ri, (gs_ne gl2 (tne E2.rf E2.ri nofun)).trans E2.gi, E2.ro, (gs_ne gl2 (tne E2.rf E2.ro nofun)).trans E2.go, ?_⟩
      refine ⟨.loc a0, .loc h.n, rfl, ?_, h.n, h.n + 1, .int 0, .int 0, .int 0, rfl, by show t' h.n = _; rw [t0]; rfl, ?_, by show t' (h.n + 1) = _; rw [t1]; rfl, ?_⟩
      · have F0 : Frm (Cur t') h2 (.f0 i) (.s0 i) (nm0 i) 0 (.loc a0) := by
          have z := E2.fr
          obtain ⟨u', e', zz⟩ := z
          rw [e] at e'; cases e'
          rw [e2] at zz; exact zz
        exact F0.set gl2 E2.rf nofun nofun
      · rw [gs_ne gl2 (fun eb => ?_)]
        · exact q3
        · have := IH.get_lt gl
          omega
      · rw [gs_ne gl2 (fun eb => ?_)]
        · exact q4
        · have := IH.get_lt gl
          omega
  | run p =>
    obtain ⟨w0, u2, e, F0, a1, s1, x1, y1, z1, e3, r3, g3, r4, g4⟩ := E.fr
    subst e3
    have gl : h.get af = some (.lst ([w0] ++ [.loc a1])) := by rw [E.gf, e]; rfl
    have o3 : ofW i (t a1) := by rw [r3]; exact rfl
    have o4 : ofW i (t s1) := by rw [r4]; exact rfl
    have oi : ofW i (t ai) := by rw [E.ri]; exact rfl
    have oo : ofW i (t ao) := by rw [E.ro]; exact rfl
    have of_ : ofW i (t af) := by rw [E.rf]; exact rfl
    have oa : ofW i (t a) := by rw [E.ra]; exact rfl
    rw [x_seq, x_par2, x_meth, v0, m_wo D.gw rfl rfl, x_cons, v1, x_nil, ph26 (k + 1) E D.gw nofun V.1, Rs.Wp_ok, x_e2, x_e1, v1, wk_fr E.ga, x_e1, x_C, x_neg, y_last gl, n2, n3]
    rw [show unW ⟨f, .run p, is, fd⟩ = .non from rfl]
    rw [x_seq, x_if, x_and, x_bol, x_e2, v2, x_C, no_nn, x_bolW, ff_and, ff_and]
    rw [x_seq, x_if, x_and, x_bol, x_e2, v2, x_C, no_nn, x_bolW, ff_and, ff_and]
    rw [x_seq, x_if, x_bol, x_e2, x_e2, x_e1, v3, fr_name g3, x_C, ix_f0, x_C, ff_st, x_bolW, ff_and]
    rw [x_seq, x_if, x_bol, x_e2, x_e1, v3, fr_place g3, x_e1, x_C, x_neg, eq_p1, x_bolW, ff_and]
    rw [x_seq, x_if, x_bol, x_e2, x_meth, v0, m_wo D.gw rfl rfl, x_cons, v1, x_nil, ph25 (k + 2) E D.gw nofun V.1, Rs.Wp_ok]
    have lv : (Phi gk tab (k + 4) 32 [.loc w, .loc a] h).Wp fun x h' => x = .non ∧ ∃ t', Mv i t h t' h' ∧ WkAt (Cur t') h' i a ⟨f, .dn, is, fd⟩ := by
      refine (ph32 (k + 3) E e F0 r3 g3).mono fun u h1 ⟨eu, eh⟩ => ?_
      refine ⟨eu, t, ?_, af, ai, ao, [], os, ?_, ?_⟩
      · subst eh
        have c1 : (h.set af (.lst [w0])).get af = some (.lst [w0]) := gs_same gl
        have c2 : ((h.set af (.lst [w0])).set af (.lst [])).get a = _ := (gs_ne c1 (tne E.rf E.ra nofun)).trans ((gs_ne gl (tne E.rf E.ra nofun)).trans E.ga)
        exact ((Mv.set gl of_).trans (Mv.set c1 of_)).trans (Mv.set c2 oa)
      · subst eh
        have c1 : (h.set af (.lst [w0])).get af = some (.lst [w0]) := gs_same gl
        have c2 : ((h.set af (.lst [w0])).set af (.lst [])).get a = _ := (gs_ne c1 (tne E.rf E.ra nofun)).trans ((gs_ne gl (tne E.rf E.ra nofun)).trans E.ga)
        have nn : ∀ {b : Nat} {c : Cell} {r : Tg}, t b = r → r ≠ .frs i → r ≠ .wk i → h.get b = some c → (((h.set af (.lst [w0])).set af (.lst [])).set a (wkC (.int i) (.int f) (.int 0) (.loc af) (.loc ai) (.int fd) (.loc ao) (.str "done"))).get b = some c := fun rb n1 n2 gb => by
          rw [gs_ne c2 (tne E.ra rb (Ne.symm n2)), gs_ne c1 (tne E.rf rb (Ne.symm n1)), gs_ne gl (tne E.rf rb (Ne.symm n1))]; exact gb
        refine ⟨E.ra, gs_same c2, E.rf, ?_, E.ri, nn E.ri nofun nofun E.gi, E.ro, nn E.ro nofun nofun E.go, rfl⟩
        rw [gs_ne c2 (tne E.ra E.rf nofun)]
        exact gs_same c1
      · rcases V.at_ (p := p) rfl with ⟨_, ep⟩ | ⟨_, ep⟩ | ⟨_, ep⟩ | ⟨_, ep⟩ | ⟨_, ep⟩ | ⟨_, ep⟩ <;> subst ep <;> exact Nat.le_trans lo (by simp [pN])
    rcases V.at_ (p := p) rfl with ⟨ef, ep⟩ | ⟨ef, ep⟩ | ⟨ef, ep⟩ | ⟨ef, ep⟩ | ⟨ef, ep⟩ | ⟨ef, ep⟩ <;> (subst ep; have ef : f = _ := ef; subst ef)
    · rw [show oneW ⟨0, .run 0, is, fd⟩ = .tup [.str "branch", .int 0] from rfl, x_C, is_tn, x_bolW, ff_and]
      cases is with
      | zero => cases m
      | succ n =>
      rw [x_seq, x_expr, x_meth, v0, m_wo D.gw rfl rfl, x_cons, v1, x_cons, x_meth, v0, m_wo D.gw rfl rfl, x_cons, v1, x_nil, ph25 (k + 2) E D.gw nofun V.1, Rs.Wp_ok, x_nil]
      refine (ph33_br (k + 3) E e r3 g3).mono fun u h1 ⟨eu, eh⟩ => ?_
      repeat rw [x_next]
      refine ⟨rfl, t, ?_, af, ai, ao, fl, os, ?_, lo⟩
      · subst eh
        exact (Mv.set E.gi oi).trans (Mv.set (gs_ne E.gi (tne E.ri r3 nofun) |>.trans g3) o3)
      · subst eh
        have E1 := set_ins E n
        exact set_pl E1 e (F0.set E.gi E.ri nofun nofun) r3 ((gs_ne E.gi (tne E.ri r3 nofun)).trans g3) r4 ((gs_ne E.gi (tne E.ri r4 nofun)).trans g4) 0
    · rw [show oneW ⟨1, .run 0, is, fd⟩ = .tup [.str "input", .int 0] from rfl, x_C, is_tn, x_bolW, ff_and]
      cases is with
      | zero => cases m
      | succ n =>
      rw [x_seq, x_expr, x_meth, v0, m_wo D.gw rfl rfl, x_cons, v1, x_cons, x_meth, v0, m_wo D.gw rfl rfl, x_cons, v1, x_nil, ph25 (k + 2) E D.gw nofun V.1, Rs.Wp_ok, x_nil]
      refine (ph33_in (k + 2) E e F0 D.gw D.rw_ r3 g3 r4 g4).mono fun u h1 ⟨eu, eh⟩ => ?_
      repeat rw [x_next]
      have E1 := set_ins E n
      have G3 := (gs_ne (c1 := .lst (List.replicate n (.int 1))) E.gi (tne E.ri r3 nofun)).trans g3
      have G4 := (gs_ne (c1 := .lst (List.replicate n (.int 1))) E.gi (tne E.ri r4 nofun)).trans g4
      have F1 := F0.set (c := .lst (List.replicate n (.int 1))) E.gi E.ri nofun nofun
      have E2 := set_sl E1 e F1 r3 G3 r4 G4 (.int 1) y1 z1
      have G3' := (gs_ne (c1 := .lst [.int 1, y1, z1]) G4 (tne r4 r3 nofun)).trans G3
      have G4' := gs_same (c1 := .lst [.int 1, y1, z1]) G4
      refine ⟨rfl, t, ?_, af, ai, ao, fl, os, ?_, Nat.le_trans lo (by simp [pN, mvG])⟩
      · subst eh
        exact ((Mv.set E.gi oi).trans (Mv.set G4 o4)).trans (Mv.set G3' o3)
      · subst eh
        exact set_pl E2 e (F1.set G4 r4 nofun nofun) r3 G3' r4 G4' 1
    · rw [show oneW ⟨1, .run 1, is, fd⟩ = .tup [.str "show", .int 0] from rfl, x_C, is_tn, x_bolW, ff_and]
      rw [x_seq, x_expr, x_meth, v0, m_wo D.gw rfl rfl, x_cons, v1, x_cons, x_meth, v0, m_wo D.gw rfl rfl, x_cons, v1, x_nil, ph25 (k + 2) E D.gw nofun V.1, Rs.Wp_ok, x_nil]
      refine (ph33_sh (k + 2) E e (Nat.lt_of_le_of_lt lo (by simp [pN])) D.gw D.rw_ r3 g3 r4 g4).mono fun u h1 ⟨eu, eh⟩ => ?_
      repeat rw [x_next]
      have E1 := set_out E (os ++ [x1])
      have G3 := (gs_ne (c1 := .lst (os ++ [x1])) E.go (tne E.ro r3 nofun)).trans g3
      have G4 := (gs_ne (c1 := .lst (os ++ [x1])) E.go (tne E.ro r4 nofun)).trans g4
      have F1 := F0.set (c := .lst (os ++ [x1])) E.go E.ro nofun nofun
      refine ⟨rfl, t, ?_, af, ai, ao, fl, os ++ [x1], ?_, by rw [List.length_append]; exact Nat.succ_le_succ lo⟩
      · subst eh
        exact (Mv.set E.go oo).trans (Mv.set G3 o3)
      · subst eh
        exact set_pl E1 e F1 r3 G3 r4 G4 2
    · rw [show oneW ⟨1, .run 2, is, fd⟩ = .non from rfl, x_C, is_nn, x_bolW, tt_and]
      rw [x_seq, x_expr, x_meth, v0, m_wo D.gw rfl rfl, x_cons, v1, x_nil]
      refine lv.mono fun u h1 ⟨eu, z⟩ => ?_
      repeat rw [x_next]
      exact ⟨rfl, z⟩
    · rw [show oneW ⟨2, .run 0, is, fd⟩ = .tup [.str "show", .int 0] from rfl, x_C, is_tn, x_bolW, ff_and]
      rw [x_seq, x_expr, x_meth, v0, m_wo D.gw rfl rfl, x_cons, v1, x_cons, x_meth, v0, m_wo D.gw rfl rfl, x_cons, v1, x_nil, ph25 (k + 2) E D.gw nofun V.1, Rs.Wp_ok, x_nil]
      refine (ph33_sh (k + 2) E e (Nat.lt_of_le_of_lt lo (by simp [pN])) D.gw D.rw_ r3 g3 r4 g4).mono fun u h1 ⟨eu, eh⟩ => ?_
      repeat rw [x_next]
      have E1 := set_out E (os ++ [x1])
      have G3 := (gs_ne (c1 := .lst (os ++ [x1])) E.go (tne E.ro r3 nofun)).trans g3
      have G4 := (gs_ne (c1 := .lst (os ++ [x1])) E.go (tne E.ro r4 nofun)).trans g4
      have F1 := F0.set (c := .lst (os ++ [x1])) E.go E.ro nofun nofun
      refine ⟨rfl, t, ?_, af, ai, ao, fl, os ++ [x1], ?_, by rw [List.length_append]; exact Nat.succ_le_succ lo⟩
      · subst eh
        exact (Mv.set E.go oo).trans (Mv.set G3 o3)
      · subst eh
        exact set_pl E1 e F1 r3 G3 r4 G4 1
    · rw [show oneW ⟨2, .run 1, is, fd⟩ = .non from rfl, x_C, is_nn, x_bolW, tt_and]
      rw [x_seq, x_expr, x_meth, v0, m_wo D.gw rfl rfl, x_cons, v1, x_nil]
      refine lv.mono fun u h1 ⟨eu, z⟩ => ?_
      repeat rw [x_next]
      exact ⟨rfl, z⟩
end K85

set_option linter.all false
set_option linter.unusedSimpArgs false
set_option maxRecDepth 100000
set_option maxHeartbeats 1000000
namespace K85
open PySem Fw
/-! ### makes and copies -/
theorem _root_.Fw.Fr.at {p b : Nat} {h h' : IH} {c : Cell} (x : Fr p h h') (g : h.get b = some c) (n : b ≠ p) : h'.get b = some c := (x.2 b (IH.get_lt g) n).trans g
theorem _root_.Fw.Keep.setN {h h1 : IH} {b : Nat} {c0 c : Cell} (k : Keep h h1) (hb : h.n ≤ b) (g : h1.get b = some c0) : Keep h (h1.set b c) := ⟨k.1, fun a ha => by rw [gs_ne g (by omega)]; exact k.2 a ha⟩
theorem Fr.set1 {h0 h : IH} {a : Nat} {c0 c : Cell} (x : Fr a h0 h) (g : h.get a = some c0) : Fr a h0 (h.set a c) := x.trans (Fr.set (IH.get_lt g))
theorem Fr.new1 {h0 h : IH} {a : Nat} {c : Cell} (x : Fr a h0 h) : Fr a h0 (h.new c) := x.trans Fr.new
/-- a worker is made -/
theorem ph19 (k : Nat) {h : IH} {a : Nat} {n : Int} {f u : W} (g : h.get a = some (.ins 8 [])) {P : W → IH → Prop} (z : ∀ h', h'.n = h.n + 5 → Fr a h h' → h'.get a = some (wkC (.int n) f u (.loc (h.n + 2)) (.loc (h.n + 3)) (.int 0) (.loc (h.n + 4)) .non) →
      h'.get h.n = some (frC (nm0 n) (.int 0) (.loc (h.n + 1))) → h'.get (h.n + 1) = some (.lst [.int 0, .int 0, .int 0]) → h'.get (h.n + 2) = some (.lst [.loc h.n]) → h'.get (h.n + 3) = some (.lst []) → h'.get (h.n + 4) = some (.lst []) → P .non h') :
    (Phi gk tab (k + 3) 19 [.loc a, .int n, f, u] h).Wp P := by
  rw [phi19, x_callB (by rfl)]
  show (m19 _ [some (.loc a), some (.int n), some f, some u] h).Wp _
  unfold m19
  have al := IH.get_lt g
  -- three plain fields
  rw [x_seq, y_asg, v1, x_gf, v0, x_fset g rfl]
  have g1 : (h.set a (.ins 8 (putW "number" (.int n) []))).get a = some (.ins 8 [("number", .int n)]) := gs_same g
  have r1 : Fr a h (h.set a (.ins 8 (putW "number" (.int n) []))) := Fr.set al
  have n1' : (h.set a (.ins 8 (putW "number" (.int n) []))).n = h.n := rfl
  generalize h.set a (.ins 8 (putW "number" (.int n) [])) = h1 at g1 r1 n1' ⊢
  rw [x_seq, y_asg, v2, x_gf, v0, x_fset g1 rfl]
  have g2 : (h1.set a (.ins 8 (putW "function" f [("number", .int n)]))).get a = some (.ins 8 [("number", .int n), ("function", f)]) := gs_same g1
  have r2 := Fr.set1 (c := .ins 8 (putW "function" f [("number", .int n)])) r1 g1
  have n2' : (h1.set a (.ins 8 (putW "function" f [("number", .int n)]))).n = h.n := n1'
  generalize h1.set a (.ins 8 (putW "function" f [("number", .int n)])) = h2 at g2 r2 n2' ⊢
  rw [x_seq, y_asg, v3, x_gf, v0, x_fset g2 rfl]
  have g3 : (h2.set a (.ins 8 (putW "unit" u [("number", .int n), ("function", f)]))).get a = some (.ins 8 [("number", .int n), ("function", f), ("unit", u)]) := gs_same g2
  have r3 := Fr.set1 (c := .ins 8 (putW "unit" u [("number", .int n), ("function", f)])) r2 g2
  have n3' : (h2.set a (.ins 8 (putW "unit" u [("number", .int n), ("function", f)]))).n = h.n := n2'
  generalize h2.set a (.ins 8 (putW "unit" u [("number", .int n), ("function", f)])) = h3 at g3 r3 n3' ⊢
  -- frames
  rw [x_seq, y_asg, x_lst, x_cons]
  refine mk_fr k ?_
  rw [x_cons, x_tup, x_cons, x_C, x_cons, v1, x_nil]
  refine ⟨rfl, ?_⟩
  rw [x_cons, x_C, x_nil]
  refine ⟨_, _, rfl, fun h4 q1 q2 q3 q4 => ?_⟩
  rw [n3'] at q1 q3 q4
  rw [x_nil]
  refine ⟨rfl, ?_⟩
  have r4 : Fr a h h4 := r3.trans q2.fr
  have g4 := q2.at g3
  have kn : Keep h4 (h4.new (.lst [.loc h3.n])) := Keep.new
  have g5 := kn.at g4
  have q5 : (h4.new (.lst [.loc h3.n])).get (h.n + 2) = some (.lst [.loc h.n]) := by rw [IH.get_new, if_pos q1.symm, n3']
  have q3 := kn.at q3
  have q4 := kn.at q4
  have r5 : Fr a h (h4.new (.lst [.loc h3.n])) := r4.trans kn.fr
  have n5' : (h4.new (.lst [.loc h3.n])).n = h.n + 3 := by show h4.n + 1 = _; omega
  rw [q1]
  generalize h4.new (.lst [.loc h3.n]) = h5 at g5 q5 q3 q4 r5 n5' ⊢
  rw [x_gf, v0, x_fset g5 rfl]
  have g6 : (h5.set a (.ins 8 (putW "frames" (.loc (h.n + 2)) [("number", .int n), ("function", f), ("unit", u)]))).get a = some (.ins 8 [("number", .int n), ("function", f), ("unit", u), ("frames", .loc (h.n + 2))]) := gs_same g5
  have r6 := Fr.set1 (c := .ins 8 (putW "frames" (.loc (h.n + 2)) [("number", .int n), ("function", f), ("unit", u)])) r5 g5
  have q3 := (gs_ne (c1 := .ins 8 (putW "frames" (.loc (h.n + 2)) [("number", .int n), ("function", f), ("unit", u)])) g5 (show h.n ≠ a by omega)).trans q3
  have q4 := (gs_ne (c1 := .ins 8 (putW "frames" (.loc (h.n + 2)) [("number", .int n), ("function", f), ("unit", u)])) g5 (show h.n + 1 ≠ a by omega)).trans q4
  have q5 := (gs_ne (c1 := .ins 8 (putW "frames" (.loc (h.n + 2)) [("number", .int n), ("function", f), ("unit", u)])) g5 (show h.n + 2 ≠ a by omega)).trans q5
  have n6' : (h5.set a (.ins 8 (putW "frames" (.loc (h.n + 2)) [("number", .int n), ("function", f), ("unit", u)]))).n = h.n + 3 := n5'
  generalize h5.set a (.ins 8 (putW "frames" (.loc (h.n + 2)) [("number", .int n), ("function", f), ("unit", u)])) = h6 at g6 r6 q3 q4 q5 n6' ⊢
  -- inputs
  rw [x_seq, y_asg, x_lst, x_nil]
  refine ⟨rfl, ?_⟩
  have kn : Keep h6 (h6.new (.lst [])) := Keep.new
  have g7 := kn.at g6
  have q6 : (h6.new (.lst [])).get (h.n + 3) = some (.lst []) := by rw [IH.get_new, if_pos n6'.symm]
  have q3 := kn.at q3
  have q4 := kn.at q4
  have q5 := kn.at q5
  have r7 := r6.trans kn.fr
  have n7' : (h6.new (.lst [])).n = h.n + 4 := by show h6.n + 1 = _; omega
  rw [n6']
  generalize h6.new (.lst []) = h7 at g7 q3 q4 q5 q6 r7 n7' ⊢
  rw [x_gf, v0, x_fset g7 rfl]
  have ne3 : h.n ≠ a := by omega
  have ne4 : h.n + 1 ≠ a := by omega
  have ne5 : h.n + 2 ≠ a := by omega
  have ne6 : h.n + 3 ≠ a := by omega
  have ne7 : h.n + 4 ≠ a := by omega
  have st : ∀ {hh : IH} {c0 : Cell} (c : Cell), hh.get a = some c0 → Fr a hh (hh.set a c) := fun c q => Fr.set (IH.get_lt q)
  have s7 := st (.ins 8 (putW "inputs" (.loc (h.n + 3)) [("number", .int n), ("function", f), ("unit", u), ("frames", .loc (h.n + 2))])) g7
  have g8 : (h7.set a (.ins 8 (putW "inputs" (.loc (h.n + 3)) [("number", .int n), ("function", f), ("unit", u), ("frames", .loc (h.n + 2))]))).get a = some (.ins 8 [("number", .int n), ("function", f), ("unit", u), ("frames", .loc (h.n + 2)), ("inputs", .loc (h.n + 3))]) := gs_same g7
  have q3 := s7.at q3 ne3
  have q4 := s7.at q4 ne4
  have q5 := s7.at q5 ne5
  have q6 := s7.at q6 ne6
  have r8 := r7.trans s7
  have n8' : (h7.set a (.ins 8 (putW "inputs" (.loc (h.n + 3)) [("number", .int n), ("function", f), ("unit", u), ("frames", .loc (h.n + 2))]))).n = h.n + 4 := n7'
  generalize h7.set a (.ins 8 (putW "inputs" (.loc (h.n + 3)) [("number", .int n), ("function", f), ("unit", u), ("frames", .loc (h.n + 2))])) = h8 at g8 q3 q4 q5 q6 r8 n8' ⊢
  clear s7
  -- fed
  rw [x_seq, y_asg, x_C, x_gf, v0, x_fset g8 rfl]
  have s8 := st (.ins 8 (putW "fed" (.int 0) [("number", .int n), ("function", f), ("unit", u), ("frames", .loc (h.n + 2)), ("inputs", .loc (h.n + 3))])) g8
  have g9 : (h8.set a (.ins 8 (putW "fed" (.int 0) [("number", .int n), ("function", f), ("unit", u), ("frames", .loc (h.n + 2)), ("inputs", .loc (h.n + 3))]))).get a = some (.ins 8 [("number", .int n), ("function", f), ("unit", u), ("frames", .loc (h.n + 2)), ("inputs", .loc (h.n + 3)), ("fed", .int 0)]) := gs_same g8
  have q3 := s8.at q3 ne3
  have q4 := s8.at q4 ne4
  have q5 := s8.at q5 ne5
  have q6 := s8.at q6 ne6
  have r9 := r8.trans s8
  have n9' : (h8.set a (.ins 8 (putW "fed" (.int 0) [("number", .int n), ("function", f), ("unit", u), ("frames", .loc (h.n + 2)), ("inputs", .loc (h.n + 3))]))).n = h.n + 4 := n8'
  generalize h8.set a (.ins 8 (putW "fed" (.int 0) [("number", .int n), ("function", f), ("unit", u), ("frames", .loc (h.n + 2)), ("inputs", .loc (h.n + 3))])) = h9 at g9 q3 q4 q5 q6 r9 n9' ⊢
  clear s8
  -- outputs
  rw [x_seq, y_asg, x_lst, x_nil]
  refine ⟨rfl, ?_⟩
  have kn : Keep h9 (h9.new (.lst [])) := Keep.new
  have g10 := kn.at g9
  have q7 : (h9.new (.lst [])).get (h.n + 4) = some (.lst []) := by rw [IH.get_new, if_pos n9'.symm]
  have q3 := kn.at q3
  have q4 := kn.at q4
  have q5 := kn.at q5
  have q6 := kn.at q6
  have r10 := r9.trans kn.fr
  have n10' : (h9.new (.lst [])).n = h.n + 5 := by show h9.n + 1 = _; omega
  rw [n9']
  generalize h9.new (.lst []) = hA at g10 q3 q4 q5 q6 q7 r10 n10' ⊢
  rw [x_gf, v0, x_fset g10 rfl]
  have sA := st (.ins 8 (putW "outputs" (.loc (h.n + 4)) [("number", .int n), ("function", f), ("unit", u), ("frames", .loc (h.n + 2)), ("inputs", .loc (h.n + 3)), ("fed", .int 0)])) g10
  have g11 : (hA.set a (.ins 8 (putW "outputs" (.loc (h.n + 4)) [("number", .int n), ("function", f), ("unit", u), ("frames", .loc (h.n + 2)), ("inputs", .loc (h.n + 3)), ("fed", .int 0)]))).get a = some (.ins 8 [("number", .int n), ("function", f), ("unit", u), ("frames", .loc (h.n + 2)), ("inputs", .loc (h.n + 3)), ("fed", .int 0), ("outputs", .loc (h.n + 4))]) := gs_same g10
  have q3 := sA.at q3 ne3
  have q4 := sA.at q4 ne4
  have q5 := sA.at q5 ne5
  have q6 := sA.at q6 ne6
  have q7 := sA.at q7 ne7
  have r11 := r10.trans sA
  have n11' : (hA.set a (.ins 8 (putW "outputs" (.loc (h.n + 4)) [("number", .int n), ("function", f), ("unit", u), ("frames", .loc (h.n + 2)), ("inputs", .loc (h.n + 3)), ("fed", .int 0)]))).n = h.n + 5 := n10'
  generalize hA.set a (.ins 8 (putW "outputs" (.loc (h.n + 4)) [("number", .int n), ("function", f), ("unit", u), ("frames", .loc (h.n + 2)), ("inputs", .loc (h.n + 3)), ("fed", .int 0)])) = hB at g11 q3 q4 q5 q6 q7 r11 n11' ⊢
  clear sA
  rw [x_seq, y_asg, x_C, x_gf, v0, x_fset g11 rfl, x_next]
  have sB := st (.ins 8 (putW "end" .non [("number", .int n), ("function", f), ("unit", u), ("frames", .loc (h.n + 2)), ("inputs", .loc (h.n + 3)), ("fed", .int 0), ("outputs", .loc (h.n + 4))])) g11
  exact z _ n11' (r11.trans sB) (gs_same g11) (sB.at q3 ne3) (sB.at q4 ne4) (sB.at q5 ne5) (sB.at q6 ne6) (sB.at q7 ne7)
/-- what a make of a worker leaves -/
theorem mk_wk (k : Nat) {r : EA} {e : Fw.Env} {h : IH} {P : W → IH → Prop} (w : (r e h).Wp fun ws h1 => ∃ (n : Int) (f u : W), ws = [.int n, f, u] ∧ ∀ h2, h2.n = h1.n + 6 → Keep h1 h2 → h2.get h1.n = some (wkC (.int n) f u (.loc (h1.n + 3)) (.loc (h1.n + 4)) (.int 0) (.loc (h1.n + 5)) .non) →
      h2.get (h1.n + 1) = some (frC (nm0 n) (.int 0) (.loc (h1.n + 2))) → h2.get (h1.n + 2) = some (.lst [.int 0, .int 0, .int 0]) → h2.get (h1.n + 3) = some (.lst [.loc (h1.n + 1)]) → h2.get (h1.n + 4) = some (.lst []) → h2.get (h1.n + 5) = some (.lst []) → P (.loc h1.n) h2) : (eMake (Phi gk tab (k + 4)) 8 19 r e h).Wp P := by
  rw [x_make few_]
  refine w.mono fun ws h1 ⟨n, f, u, ew, z⟩ => ?_
  subst ew
  refine ph19 k (IH.get_new_self h1 _) fun h' q1 q2 q3 q4 q5 q6 q7 q8 => ?_
  refine ⟨rfl, z h' (by rw [q1]; show h1.n + 1 + 5 = _; omega) ⟨by rw [q1]; show h1.n ≤ h1.n + 1 + 5; omega, fun b hb => ?_⟩ q3 q4 q5 q6 q7 q8⟩
  rw [q2.2 b (Nat.lt_succ_of_lt hb) (Nat.ne_of_lt hb), IH.get_new, if_neg (Nat.ne_of_lt hb)]
end K85

set_option linter.all false
set_option linter.unusedSimpArgs false
set_option maxRecDepth 100000
set_option maxHeartbeats 1000000
namespace K85
open PySem Fw
/-! ### copies -/
theorem set_f {b : Nat} {h h' : IH} {c0 c : Cell} (g : h.get b = some c0) (e : h.set b c = h') : h'.n = h.n ∧ Fr b h h' ∧ h'.get b = some c := by
  subst e; exact ⟨rfl, Fr.set (IH.get_lt g), gs_same g⟩
theorem new_f {h h' : IH} {c : Cell} (e : h.new c = h') : h'.n = h.n + 1 ∧ Keep h h' ∧ h'.get h.n = some c := by
  subst e; exact ⟨rfl, Keep.new, IH.get_new_self _ _⟩
theorem ph18 (k : Nat) {h : IH} {a s : Nat} {nm pl x y z : W} (g : h.get a = some (frC nm pl (.loc s))) (gs : h.get s = some (.lst [x, y, z])) {P : W → IH → Prop}
    (q : ∀ h', h'.n = h.n + 3 → Keep h h' → h'.get h.n = some (frC nm pl (.loc (h.n + 2))) → h'.get (h.n + 2) = some (.lst [x, y, z]) → P (.loc h.n) h') : (Phi gk tab (k + 3) 18 [.loc a] h).Wp P := by
  rw [phi18, x_callB (by rfl)]
  show (m18 _ [some (.loc a), none] h).Wp _
  unfold m18
  rw [x_seq, y_asg]
  refine mk_fr k ?_
  rw [x_cons, x_e1, v0, fr_name g, x_cons, x_e1, v0, fr_place g, x_nil]
  refine ⟨_, _, rfl, fun h2 q1 k1 q2 q3 => ?_⟩
  rw [n1, x_seq, y_asg, x_eA, x_cons, x_e1, v0, fr_slots (k1.at g), x_nil, x_listL (k1.at gs)]
  generalize e3 : IH.new _ _ = h3
  obtain ⟨n3', k3, g3⟩ := new_f e3
  have q2 := k3.at q2
  rw [x_gf, v1, fr_sSlots q2, x_seq, y_ret, v1]
  generalize e4 : IH.set _ _ _ = h4
  obtain ⟨n4', r4, g4⟩ := set_f q2 e4
  rw [q1] at g4 g3
  refine q _ (by omega) ?_ g4 (r4.at g3 (by omega))
  subst e4
  exact (k1.trans k3).setN (Nat.le_refl _) q2
structure Up (t : Nat → Tg) (h : IH) (t' : Nat → Tg) (h' : IH) : Prop where
  k : Keep h h'
  tg : ∀ a, a < h.n → t' a = t a
theorem Up.rx {t t' : Nat → Tg} {h h' : IH} (u : Up t h t' h') : Rx (Cur t) h (Cur t') h' := fun r a c x g => ⟨(u.tg a (IH.get_lt g)).trans x, u.k.at g⟩
theorem Up.trans {t t' t2 : Nat → Tg} {h h' h2 : IH} (u : Up t h t' h') (v : Up t' h' t2 h2) : Up t h t2 h2 := ⟨u.k.trans v.k, fun a ha => (v.tg a (Nat.lt_of_lt_of_le ha u.k.1)).trans (u.tg a ha)⟩
/-- tags: old ones below n, new ones from there -/
def tgs (n : Nat) (t f : Nat → Tg) : Nat → Tg := fun a => if a < n then t a else f (a - n)
theorem tgs_lo {n a : Nat} {t f : Nat → Tg} (h : a < n) : tgs n t f a = t a := if_pos h
theorem tgs_hi {n i : Nat} {t f : Nat → Tg} : tgs n t f (n + i) = f i := by
  unfold tgs
  rw [if_neg (by omega), Nat.add_sub_cancel_left]
def IsFr (h : IH) (w : W) : Prop := ∃ (a s : Nat) (nm pl x y z : W), w = .loc a ∧ h.get a = some (frC nm pl (.loc s)) ∧ h.get s = some (.lst [x, y, z])
def CpAt (h h2 : IH) (w : W) (b : Nat) : Prop := ∃ (a s : Nat) (nm pl x y z : W), w = .loc a ∧ h.get a = some (frC nm pl (.loc s)) ∧ h.get s = some (.lst [x, y, z]) ∧ h2.get b = some (frC nm pl (.loc (b + 2))) ∧ h2.get (b + 2) = some (.lst [x, y, z])
theorem CpAt.keep {h h2 h3 : IH} {w : W} {b : Nat} (c : CpAt h h2 w b) (k : Keep h2 h3) : CpAt h h3 w b :=
  let ⟨a, s, nm, pl, x, y, z, e, g1, g2, g3, g4⟩ := c
  ⟨a, s, nm, pl, x, y, z, e, g1, g2, k.at g3, k.at g4⟩
theorem CpAt.fr {h h2 h3 : IH} {w : W} {b p : Nat} (c : CpAt h h2 w b) (k : Fr p h2 h3) (l : p < b) : CpAt h h3 w b :=
  let ⟨a, s, nm, pl, x, y, z, e, g1, g2, g3, g4⟩ := c
  ⟨a, s, nm, pl, x, y, z, e, g1, g2, k.at g3 (by omega), k.at g4 (by omega)⟩
theorem Frm.is {R : Tg → Nat → Prop} {h : IH} {tf ts : Tg} {nm : W} {p : Nat} {w : W} (q : Frm R h tf ts nm p w) : IsFr h w :=
  let ⟨a, s, x, y, z, e, _, g1, _, g2⟩ := q
  ⟨a, s, nm, _, x, y, z, e, g1, g2⟩
theorem Frm.cp {R : Tg → Nat → Prop} {t : Nat → Tg} {h h2 : IH} {tf ts : Tg} {nm : W} {p b : Nat} {w : W} (q : Frm R h tf ts nm p w) (c : CpAt h h2 w b) (e1 : t b = tf) (e2 : t (b + 2) = ts) : Frm (Cur t) h2 tf ts nm p (.loc b) := by
  obtain ⟨a, s, x, y, z, e, _, g1, _, g2⟩ := q
  obtain ⟨a', s', nm', pl', x', y', z', e', g1', g2', g3, g4⟩ := c
  rw [e] at e'; cases e'
  rw [g1] at g1'; cases g1'
  rw [g2] at g2'; cases g2'
  exact ⟨b, b + 2, x, y, z, rfl, e1, g3, e2, g4⟩
theorem Frs.is {R : Tg → Nat → Prop} {h : IH} {k f : Nat} {ph : Ph} {fl : List W} (q : Frs R h k f ph fl) : ∀ (j : Nat) (w : W), fl[j]? = some w → IsFr h w := by
  intro j w hw
  have hw := List.mem_of_getElem? hw
  cases ph with
  | st => obtain ⟨u, e, z⟩ := q; subst e; rw [List.mem_singleton] at hw; subst hw; exact z.is
  | run p =>
    obtain ⟨u, v, e, z1, z2⟩ := q; subst e
    rcases List.mem_cons.mp hw with hw | hw
    · subst hw; exact z1.is
    · rw [List.mem_singleton] at hw; subst hw; exact z2.is
  | dn => rw [show fl = [] from q] at hw; exact nomatch hw
theorem Frs.len {R : Tg → Nat → Prop} {h : IH} {k f : Nat} {ph : Ph} {fl : List W} (q : Frs R h k f ph fl) : fl.length ≤ 2 := by
  cases ph with
  | st => obtain ⟨u, e, z⟩ := q; subst e; simp
  | run p => obtain ⟨u, v, e, z1, z2⟩ := q; subst e; simp
  | dn => rw [show fl = [] from q]; decide
def cps (b n : Nat) : List W := (List.range n).map fun j => W.loc (b + 3 * j)
theorem Frs.cp {R : Tg → Nat → Prop} {t : Nat → Tg} {h h2 : IH} {k f : Nat} {ph : Ph} {fl : List W} {b : Nat} (q : Frs R h k f ph fl) (c : ∀ (j : Nat) (w : W), fl[j]? = some w → CpAt h h2 w (b + 3 * j)) (e0 : 1 ≤ fl.length → t b = .f0 k ∧ t (b + 2) = .s0 k) (e2 : 2 ≤ fl.length → t (b + 3) = .f1 k ∧ t (b + 5) = .s1 k) :
    Frs (Cur t) h2 k f ph (cps b fl.length) := by
  cases ph with
  | st => obtain ⟨u, e, z⟩ := q; subst e; exact ⟨.loc b, rfl, z.cp (c 0 u rfl) (e0 (by simp)).1 (e0 (by simp)).2⟩
  | run p => obtain ⟨u, v, e, z1, z2⟩ := q; subst e; exact ⟨.loc b, .loc (b + 3), rfl, z1.cp (c 0 u rfl) (e0 (by simp)).1 (e0 (by simp)).2, z2.cp (c 1 v rfl) (e2 (by simp)).1 (e2 (by simp)).2⟩
  | dn => rw [show fl = [] from q]; rfl
/-- the tags of a thread's copy -/
def wkT (i m : Nat) : Nat → Tg := fun j => if j = 0 then .wk i else if j = 6 + 3 * m then .frs i else if j = 7 + 3 * m then .ins i else if j = 8 + 3 * m then .outs i else if j = 6 then .f0 i else if j = 8 then .s0 i else if j = 9 then .f1 i else if j = 11 then .s1 i else .old
theorem ph20 (k : Nat) {R : Tg → Nat → Prop} {h : IH} {i a : Nat} {g : Wk} (W0 : WkAt R h i a g) : (Phi gk tab (k + 5) 20 [.loc a] h).Wp fun x h' => x = .loc h.n ∧ Keep h h' ∧ ∃ f, ∀ t, WkAt (Cur (tgs h.n t f)) h' i h.n g := by
  obtain ⟨af, ai, ao, fl, os, D, lo⟩ := W0
  rw [phi20, x_callB (by rfl)]
  show (m20 _ [some (.loc a), none, none] h).Wp _
  unfold m20
  rw [x_seq, y_asg]
  refine mk_wk k ?_
  rw [x_cons, x_e1, v0, wk_nu D.ga, x_cons, x_e1, v0, wk_f D.ga, x_cons, x_e1, v0, wk_u D.ga, x_nil]
  refine ⟨_, _, _, rfl, fun h1 q1 k1 G1 _ _ _ _ _ => ?_⟩
  rw [n1, x_seq, y_asg]
  refine lc_lst ?_
  rw [x_e1, v0, wk_fr (k1.at D.ga)]
  refine ⟨af, fl, rfl, k1.at D.gf, fun j xs h2 => xs = cps h1.n j ∧ h2.n = h1.n + 3 * j ∧ Keep h1 h2 ∧ ∀ j' w, j' < j → fl[j']? = some w → CpAt h h2 w (h1.n + 3 * j'), ⟨rfl, rfl, Keep.refl, fun _ _ z => absurd z (Nat.not_lt_zero _)⟩, fun j xs h2 w ⟨e1, e2, k2, c⟩ hw => ?_, fun xs h2 ⟨e1, e2, k2, c⟩ => ?_⟩
  · refine ⟨k2.at (k1.at D.gf), ?_⟩
    show (gNm 2 w [some (.loc a), some (.loc h.n), none] h2).Wp _
    rw [n2, x_yes, if_pos rfl, x_meth, v2]
    obtain ⟨b, s, nm, pl, x, y, z, ew, g1, g2⟩ := Frs.is D.fr j w hw
    subst ew
    rw [m_fr (k2.at (k1.at g1)) rfl rfl, x_nil]
    refine ph18 (k + 1) (k2.at (k1.at g1)) (k2.at (k1.at g2)) fun h3 p1 k3 p2 p3 => ⟨?_, ?_, k2.trans k3, fun j' w' hj hw' => ?_⟩
    · rw [e1, e2]; unfold cps; rw [List.range_succ, List.map_append]; rfl
    · omega
    · by_cases ej : j' = j
      · subst ej; rw [hw] at hw'; cases hw'
        exact ⟨b, s, nm, pl, x, y, z, rfl, g1, g2, by rw [← e2]; exact p2, by rw [← e2]; exact p3⟩
      · exact (c j' w' (by omega) hw').keep k3
  · have ln : fl.length ≤ 2 := Frs.len D.fr
    refine ⟨k2.at (k1.at D.gf), by rw [e1]; unfold cps; rw [List.length_map, List.length_range]; omega, ?_⟩
    generalize e3 : IH.new _ _ = h3
    obtain ⟨n3', k3, F3⟩ := new_f e3
    have C3 : ∀ (j : Nat) (w : W), fl[j]? = some w → CpAt h h3 w (h1.n + 3 * j) := fun j w hw => (c j w (List.getElem?_eq_some_iff.mp hw).1 hw).keep k3
    have G3 := k3.at (k2.at G1)
    have K3 : Keep h h3 := k1.trans (k2.trans k3)
    rw [x_gf, v1, wk_sFr G3, x_seq, y_asg]
    generalize e4 : IH.set _ _ _ = h4
    obtain ⟨n4', r4, G4⟩ := set_f G3 e4
    have old : ∀ {hh : IH} {b : Nat} {cc : Cell}, Fr h.n h3 hh → h.get b = some cc → hh.get b = some cc := fun {hh} {b} {cc} r gb => r.at (K3.at gb) (Nat.ne_of_lt (IH.get_lt gb))
    rw [x_eA, x_cons, x_e1, v0, wk_is (old r4 D.ga), x_nil, x_listL (old r4 D.gi)]
    generalize e5 : IH.new _ _ = h5
    obtain ⟨n5', k5, I5⟩ := new_f e5
    have r5 := r4.trans (k5.fr (p := h.n))
    rw [x_gf, v1, wk_sIs (k5.at G4), x_seq, y_asg]
    generalize e6 : IH.set _ _ _ = h6
    obtain ⟨n6', s6, G6⟩ := set_f (k5.at G4) e6
    have r6 := r5.trans s6
    rw [x_e1, v0, wk_fd (old r6 D.ga), x_gf, v1, wk_sFd G6, x_seq, y_asg]
    generalize e7 : IH.set _ _ _ = h7
    obtain ⟨n7', s7, G7⟩ := set_f G6 e7
    have r7 := r6.trans s7
    rw [x_eA, x_cons, x_e1, v0, wk_os (old r7 D.ga), x_nil, x_listL (old r7 D.go)]
    generalize e8 : IH.new _ _ = h8
    obtain ⟨n8', k8, O8⟩ := new_f e8
    have r8 := r7.trans (k8.fr (p := h.n))
    rw [x_gf, v1, wk_sOs (k8.at G7), x_seq, y_asg]
    generalize e9 : IH.set _ _ _ = h9
    obtain ⟨n9', s9, G9⟩ := set_f (k8.at G7) e9
    have r9 := r8.trans s9
    rw [x_e1, v0, wk_en (old r9 D.ga), x_gf, v1, wk_sEn G9, x_seq, y_ret, v1]
    generalize eA : IH.set _ _ _ = hA
    obtain ⟨nA', sA, GA⟩ := set_f G9 eA
    have rA := r9.trans sA
    have a2 : h2.n = h.n + (6 + 3 * fl.length) := by omega
    have a4 : h4.n = h.n + (7 + 3 * fl.length) := by omega
    have a7 : h7.n = h.n + (8 + 3 * fl.length) := by omega
    have s69 : Fr h.n h5 hA := (s6.trans s7).trans ((k8.fr (p := h.n)).trans (s9.trans sA))
    rw [a2, a4, a7] at GA
    rw [a2] at F3
    rw [a4] at I5
    rw [a7] at O8
    refine ⟨rfl, ⟨by omega, fun b hb => ?_⟩, wkT i fl.length, fun t => ⟨_, _, _, cps h1.n fl.length, os, ⟨?_, GA, ?_, ?_, ?_, s69.at I5 (by omega), ?_, (s9.trans sA).at O8 (by omega), ?_⟩, lo⟩⟩
    · rw [rA.2 b (by omega) (by omega)]; exact K3.2 b hb
    · show tgs _ _ _ (h.n + 0) = _; rw [tgs_hi]; rfl
    · show tgs _ _ _ _ = _; rw [tgs_hi]; unfold wkT; rw [if_neg (by omega), if_pos rfl]
    · rw [← e1]; exact rA.at F3 (by omega)
    · show tgs _ _ _ _ = _; rw [tgs_hi]; unfold wkT; rw [if_neg (by omega), if_neg (by omega), if_pos rfl]
    · show tgs _ _ _ _ = _; rw [tgs_hi]; unfold wkT; rw [if_neg (by omega), if_neg (by omega), if_neg (by omega), if_pos rfl]
    · refine Frs.cp D.fr (fun j w hw => (C3 j w hw).fr rA (by omega)) (fun l => ⟨?_, ?_⟩) fun l => ⟨?_, ?_⟩
      · rw [q1, tgs_hi]; unfold wkT; rw [if_neg (by omega), if_neg (by omega), if_neg (by omega), if_neg (by omega), if_pos rfl]
      · rw [q1, Nat.add_assoc, tgs_hi]; unfold wkT; rw [if_neg (by omega), if_neg (by omega), if_neg (by omega), if_neg (by omega), if_neg (by omega), if_pos rfl]
      · rw [q1, Nat.add_assoc, tgs_hi]; unfold wkT; rw [if_neg (by omega), if_neg (by omega), if_neg (by omega), if_neg (by omega), if_neg (by omega), if_neg (by omega), if_pos rfl]
      · rw [q1, Nat.add_assoc, tgs_hi]; unfold wkT; rw [if_neg (by omega), if_neg (by omega), if_neg (by omega), if_neg (by omega), if_neg (by omega), if_neg (by omega), if_neg (by omega), if_pos rfl]
end K85

set_option linter.all false
set_option linter.unusedSimpArgs false
set_option maxRecDepth 100000
set_option maxHeartbeats 1000000
namespace K85
open PySem Fw
/-! ### worlds: made, copied -/
theorem x_mulL {a : Nat} {k : Int} {xs : List W} {h : IH} {P : W → IH → Prop} (g : h.get a = some (.lst xs)) : (oMul (.loc a) (.int k) h).Wp P = ((decide (0 ≤ k) && decide (k < 1000000) && lenOk (xs.length * k.toNat)) = true ∧ P (.loc h.n) (h.new (.lst (List.replicate k.toNat xs).flatten))) := by
  unfold oMul; dsimp only; rw [g]; exact need_wp
theorem x_dic0 {e : Fw.Env} {h : IH} {P : W → IH → Prop} : (eDic [] e h).Wp P = P (.loc h.n) (h.new (.dk [])) := rfl
theorem ix_p0 {h : IH} {P : W → IH → Prop} : (oIx PRw (.int 0) h).Wp P = P (.tup [.tup [.non, .int 0, .tup []]]) h := x_ixT0
theorem ph22 (k : Nat) {h : IH} {a : Nat} (g : h.get a = some (.ins 9 [])) {P : W → IH → Prop} (z : ∀ h', h'.n = h.n + 7 → Fr a h h' → h'.get a = some (woC PRw (.loc (h.n + 1)) (.loc (h.n + 2)) (.loc (h.n + 4)) (.loc (h.n + 5)) (.loc (h.n + 6))) →
      h'.get (h.n + 1) = some (.lst [.str "asleep"]) → h'.get (h.n + 2) = some (.dk []) → h'.get (h.n + 3) = some (.lst []) → h'.get (h.n + 4) = some (.lst [.loc (h.n + 3)]) → h'.get (h.n + 5) = some (.lst []) → h'.get (h.n + 6) = some (.lst []) → P .non h') :
    (Phi gk tab (k + 1) 22 [.loc a, PRw] h).Wp P := by
  rw [phi22, x_callB (by rfl)]
  show (m22 _ [some (.loc a), some PRw, none] h).Wp _
  unfold m22
  have al := IH.get_lt g
  rw [x_seq, y_asg, v1, x_gf, v0, x_fset g rfl]
  generalize e1 : IH.set _ _ _ = h1
  obtain ⟨n1', r1, G1⟩ := set_f g e1
  have G1 : h1.get a = some (.ins 9 [("program", PRw)]) := G1
  rw [x_seq, y_asg, x_e2, x_lst, x_cons, x_C, x_nil]
  refine ⟨rfl, ?_⟩
  generalize e2 : IH.new _ _ = h2
  obtain ⟨n2', k2, A2⟩ := new_f e2
  rw [x_eA, x_cons, x_e2, v1, x_C, ix_p0, x_nil, x_lenT, x_mulL A2]
  refine ⟨rfl, ?_⟩
  generalize e3 : IH.new _ _ = h3
  obtain ⟨n3', k3, A3⟩ := new_f e3
  have A3 : h3.get h2.n = some (.lst [.str "asleep"]) := A3
  have r3 := (r1.trans (k2.fr (p := a))).trans (k3.fr (p := a))
  have G3 := k3.at (k2.at G1)
  rw [x_gf, v0, x_fset G3 rfl, x_seq, y_asg, x_dic0]
  generalize e4 : IH.set _ _ _ = h4
  obtain ⟨n4', s4, G4⟩ := set_f G3 e4
  have G4 : h4.get a = some (.ins 9 [("program", PRw), ("statuses", .loc h2.n)]) := G4
  generalize e5 : IH.new _ _ = h5
  obtain ⟨n5', k5, A5⟩ := new_f e5
  have G5 := k5.at G4
  rw [x_gf, v0, x_fset G5 rfl, x_seq, y_asg]
  generalize e6 : IH.set _ _ _ = h6
  obtain ⟨n6', s6, G6⟩ := set_f G5 e6
  have G6 : h6.get a = some (.ins 9 [("program", PRw), ("statuses", .loc h2.n), ("numbers", .loc h4.n)]) := G6
  refine lc_tup ?_
  rw [x_e2, v1, x_C, ix_p0]
  refine ⟨_, rfl, fun i xs h' => (i = 0 ∧ xs = [] ∧ h' = h6) ∨ (i = 1 ∧ xs = [.loc h6.n] ∧ h' = h6.new (.lst [])), .inl ⟨rfl, rfl, rfl⟩, fun i xs h' y hI hy => ?_, fun xs h' hI => ?_⟩
  · rcases hI with ⟨ei, ex, eh⟩ | ⟨ei, ex, eh⟩
    · subst ei; subst ex; subst eh
      show (gNm 2 y [some (.loc a), some PRw, none] h').Wp _
      rw [n2, x_yes, if_pos rfl, x_lst, x_nil]
      exact ⟨rfl, .inr ⟨rfl, rfl, rfl⟩⟩
    · subst ei; exact nomatch hy
  · rcases hI with ⟨ei, _⟩ | ⟨_, ex, eh⟩
    · exact nomatch ei
    subst ex; subst eh
    refine ⟨by simp, ?_⟩
    generalize e7 : h6.new _ = h7
    obtain ⟨n7', k7, A7⟩ := new_f e7
    generalize e8 : IH.new _ _ = h8
    obtain ⟨n8', k8, A8⟩ := new_f e8
    have G8 := k8.at (k7.at G6)
    rw [x_gf, v0, x_fset G8 rfl, x_seq, y_asg, x_lst, x_nil]
    generalize e9 : IH.set _ _ _ = h9
    obtain ⟨n9', s9, G9⟩ := set_f G8 e9
    have G9 : h9.get a = some (.ins 9 [("program", PRw), ("statuses", .loc h2.n), ("numbers", .loc h4.n), ("reasons", .loc h7.n)]) := G9
    refine ⟨rfl, ?_⟩
    generalize eA : IH.new _ _ = hA
    obtain ⟨nA', kA, AA⟩ := new_f eA
    have GA := kA.at G9
    rw [x_gf, v0, x_fset GA rfl, x_seq, y_asg, x_lst, x_nil]
    generalize eB : IH.set _ _ _ = hB
    obtain ⟨nB', sB, GB⟩ := set_f GA eB
    have GB : hB.get a = some (.ins 9 [("program", PRw), ("statuses", .loc h2.n), ("numbers", .loc h4.n), ("reasons", .loc h7.n), ("workers", .loc h9.n)]) := GB
    refine ⟨rfl, ?_⟩
    generalize eC_ : IH.new _ _ = hC
    obtain ⟨nC', kC, AC⟩ := new_f eC_
    have GC := kC.at GB
    rw [x_gf, v0, x_fset GC rfl, x_next]
    generalize eD : IH.set _ _ _ = hD
    obtain ⟨nD', sD, GD⟩ := set_f GC eD
    have GD : hD.get a = some (woC PRw (.loc h2.n) (.loc h4.n) (.loc h7.n) (.loc h9.n) (.loc hB.n)) := GD
    have tC : Fr a hC hD := sD
    have tA : Fr a hA hD := (sB.trans (kC.fr (p := a))).trans sD
    have t8 : Fr a h8 hD := (s9.trans (kA.fr (p := a))).trans tA
    have t7 : Fr a h7 hD := (k8.fr (p := a)).trans t8
    have t5 : Fr a h5 hD := (s6.trans (k7.fr (p := a))).trans t7
    have t3 : Fr a h3 hD := (s4.trans (k5.fr (p := a))).trans t5
    rw [show h2.n = h.n + 1 by omega, show h4.n = h.n + 2 by omega, show h7.n = h.n + 4 by omega, show h9.n = h.n + 5 by omega, show hB.n = h.n + 6 by omega] at GD
    rw [show h2.n = h.n + 1 by omega] at A3
    rw [show h4.n = h.n + 2 by omega] at A5
    rw [show h6.n = h.n + 3 by omega] at A7 A8
    rw [show h7.n = h.n + 4 by omega] at A8
    rw [show h9.n = h.n + 5 by omega] at AA
    rw [show hB.n = h.n + 6 by omega] at AC
    exact z hD (by omega) (r3.trans t3) GD (t3.at A3 (by omega)) (t5.at A5 (by omega)) (t7.at A7 (by omega)) (t8.at A8 (by omega)) (tA.at AA (by omega)) (tC.at AC (by omega))
theorem mk_wo (k : Nat) {r : EA} {e : Fw.Env} {h : IH} {P : W → IH → Prop} (w : (r e h).Wp fun ws h1 => ws = [PRw] ∧ ∀ h2, h2.n = h1.n + 8 → Keep h1 h2 → h2.get h1.n = some (woC PRw (.loc (h1.n + 2)) (.loc (h1.n + 3)) (.loc (h1.n + 5)) (.loc (h1.n + 6)) (.loc (h1.n + 7))) →
      h2.get (h1.n + 2) = some (.lst [.str "asleep"]) → h2.get (h1.n + 3) = some (.dk []) → h2.get (h1.n + 4) = some (.lst []) → h2.get (h1.n + 5) = some (.lst [.loc (h1.n + 4)]) → h2.get (h1.n + 6) = some (.lst []) → h2.get (h1.n + 7) = some (.lst []) → P (.loc h1.n) h2) : (eMake (Phi gk tab (k + 2)) 9 22 r e h).Wp P := by
  rw [x_make few_]
  refine w.mono fun ws h1 ⟨ew, z⟩ => ?_
  subst ew
  refine ph22 k (IH.get_new_self h1 _) fun h' q1 q2 q3 q4 q5 q6 q7 q8 q9 => ?_
  refine ⟨rfl, z h' (by rw [q1]; show h1.n + 1 + 7 = _; omega) ⟨by rw [q1]; show h1.n ≤ h1.n + 1 + 7; omega, fun b hb => ?_⟩ q3 q4 q5 q6 q7 q8 q9⟩
  rw [q2.2 b (Nat.lt_succ_of_lt hb) (Nat.ne_of_lt hb), IH.get_new, if_neg (Nat.ne_of_lt hb)]
theorem Frm.nw {R : Tg → Nat → Prop} {h : IH} {tf ts : Tg} {nm : W} {p : Nat} {w : W} (q : Frm R h tf ts nm p w) (n1 : tf ≠ .wo) (n2 : ts ≠ .wo) : Frm (fun r a => r ≠ .wo ∧ R r a) h tf ts nm p w :=
  let ⟨a, s, x, y, z, e, r1, g1, r2, g2⟩ := q
  ⟨a, s, x, y, z, e, ⟨n1, r1⟩, g1, ⟨n2, r2⟩, g2⟩
theorem WkAt.nw {R : Tg → Nat → Prop} {h : IH} {k a : Nat} {g : Wk} (q : WkAt R h k a g) : WkAt (fun r a => r ≠ .wo ∧ R r a) h k a g := by
  obtain ⟨af, ai, ao, fl, os, D, l⟩ := q
  refine ⟨af, ai, ao, fl, os, ⟨⟨nofun, D.ra⟩, D.ga, ⟨nofun, D.rf⟩, D.gf, ⟨nofun, D.ri⟩, D.gi, ⟨nofun, D.ro⟩, D.go, ?_⟩, l⟩
  have F := D.fr
  revert F
  cases g.ph with
  | st => intro F; obtain ⟨w, e, z⟩ := F; exact ⟨w, e, z.nw nofun nofun⟩
  | run p => intro F; obtain ⟨w, u, e, z1, z2⟩ := F; exact ⟨w, u, e, z1.nw nofun nofun, z2.nw nofun nofun⟩
  | dn => intro F; exact F
/-- a world is copied -/
theorem ph23 (k : Nat) (t : Nat → Tg) {R : Tg → Nat → Prop} {h : IH} {w : Nat} {G : Wo} (W0 : WoAt R h w G) (hl : G.wks.length ≤ 3) (hm : G.mv.length ≤ 16777216) : (Phi gk tab (k + 6) 23 [.loc w] h).Wp fun x h' => x = .loc h.n ∧ ∃ t', Up t h t' h' ∧ WoAt (Cur t') h' h.n G := by
  obtain ⟨st, nu, re, r0, wl, mv, ws, D⟩ := W0
  rw [phi23, x_callB (by rfl)]
  show (m23 _ [some (.loc w), none, none, none] h).Wp _
  unfold m23
  rw [x_seq, y_asg]
  refine mk_wo (k + 3) ?_
  rw [x_cons, x_e1, v0, wo_pr D.gw, x_nil]
  refine ⟨rfl, fun h1 q1 k1 G1 _ _ _ _ _ _ => ?_⟩
  have old : ∀ {hh : IH} {b : Nat} {cc : Cell}, Fr h.n h1 hh → h.get b = some cc → hh.get b = some cc := fun {hh} {b} {cc} r gb => r.at (k1.at gb) (Nat.ne_of_lt (IH.get_lt gb))
  rw [n1, x_seq, y_asg, x_eA, x_cons, x_e1, v0, wo_st (k1.at D.gw), x_nil, x_listL (k1.at D.gs)]
  generalize e2 : IH.new _ _ = h2
  obtain ⟨n2', k2, S2⟩ := new_f e2
  have r2 : Fr h.n h1 h2 := k2.fr
  rw [x_gf, v1, wo_sSt (k2.at G1), x_seq, y_asg]
  generalize e3 : IH.set _ _ _ = h3
  obtain ⟨n3', s3, G3⟩ := set_f (k2.at G1) e3
  have r3 := r2.trans s3
  rw [x_eA, x_cons, x_e1, v0, wo_nu (old r3 D.gw), x_nil, x_dictC (old r3 D.gn)]
  generalize e4 : IH.new _ _ = h4
  obtain ⟨n4', k4, S4⟩ := new_f e4
  have r4 := r3.trans (k4.fr (p := h.n))
  rw [x_gf, v1, wo_sNu (k4.at G3), x_seq, y_asg]
  generalize e5 : IH.set _ _ _ = h5
  obtain ⟨n5', s5, G5⟩ := set_f (k4.at G3) e5
  have r5 := r4.trans s5
  refine lc_lst ?_
  rw [x_e1, v0, wo_re (old r5 D.gw)]
  refine ⟨re, _, rfl, old r5 D.gr, fun i xs h' => (i = 0 ∧ xs = [] ∧ h' = h5) ∨ (i = 1 ∧ xs = [.loc h5.n] ∧ h' = h5.new (.lst [])), .inl ⟨rfl, rfl, rfl⟩, fun i xs h' y hI hy => ?_, fun xs h' hI => ?_⟩
  · rcases hI with ⟨ei, ex, eh⟩ | ⟨ei, ex, eh⟩
    · subst ei; subst ex; subst eh; cases hy
      refine ⟨old r5 D.gr, ?_⟩
      show (gNm 2 _ [some (.loc w), some (.loc h.n), none, none] h').Wp _
      rw [n2, x_yes, if_pos rfl, x_eA, x_cons, v2, x_nil, x_listL (old r5 D.g0)]
      exact .inr ⟨rfl, rfl, rfl⟩
    · subst ei; exact nomatch hy
  rcases hI with ⟨ei, _⟩ | ⟨_, ex, eh⟩
  · exact nomatch ei
  subst ex
  have kk : Keep h5 h' := by rw [eh]; exact Keep.new
  refine ⟨kk.at (old r5 D.gr), by simp, ?_⟩
  generalize e6 : h5.new _ = h6 at eh
  subst eh
  obtain ⟨n6', k6, S6⟩ := new_f e6
  generalize e7 : IH.new _ _ = h7
  obtain ⟨n7', k7, S7⟩ := new_f e7
  have r7 := (r5.trans (k6.fr (p := h.n))).trans (k7.fr (p := h.n))
  rw [x_gf, v1, wo_sRe (k7.at (k6.at G5)), x_seq, y_asg]
  generalize e8 : IH.set _ _ _ = h8
  obtain ⟨n8', s8, G8⟩ := set_f (k7.at (k6.at G5)) e8
  have r8 := r7.trans s8
  -- the threads
  refine lc_lst ?_
  rw [x_e1, v0, wo_wl (old r8 D.gw)]
  have t0 : ∃ T : Nat → Tg, (∀ a, a < h.n → T a = t a) ∧ T h.n = .wo ∧ T h1.n = .st ∧ T h3.n = .nu ∧ T h5.n = .re0 ∧ T h'.n = .re := by
    refine ⟨tgs h.n t fun j => if j = 0 then .wo else if j = 8 then .st else if j = 9 then .nu else if j = 10 then .re0 else .re, fun a ha => tgs_lo ha, ?_, ?_, ?_, ?_, ?_⟩
    · exact tgs_hi (i := 0)
    · rw [show h1.n = h.n + 8 by omega, tgs_hi]; rfl
    · rw [show h3.n = h.n + 9 by omega, tgs_hi]; rfl
    · rw [show h5.n = h.n + 10 by omega, tgs_hi]; rfl
    · rw [show h'.n = h.n + 11 by omega, tgs_hi]; rfl
  obtain ⟨T0, T1⟩ := t0
  refine ⟨wl, _, rfl, old r8 D.gl, fun j xs hh => Keep h8 hh ∧ ∃ (T : Nat → Tg) (bs : List Nat), (∀ a, a < h8.n → T a = T0 a) ∧ xs = bs.map .loc ∧ bs.length = j ∧ ∀ (j' : Nat) (g : Wk), j' < j → G.wks[j']? = some g → ∃ b, bs[j']? = some b ∧ WkAt (Cur T) hh j' b g,
    ⟨Keep.refl, T0, [], fun _ _ => rfl, rfl, rfl, fun _ _ z => absurd z (Nat.not_lt_zero _)⟩, fun j xs hh y ⟨kh, T, bs, a1, a2, a3, a4⟩ hy => ?_, fun xs hh ⟨kh, T, bs, a1, a2, a3, a4⟩ => ?_⟩
  · have r9 := r8.trans (kh.fr (p := h.n))
    obtain ⟨a, ha, ey⟩ := loc_at hy
    subst ey
    obtain ⟨g, hg, WA⟩ := D.one ha
    refine ⟨old r9 D.gl, ?_⟩
    show (gNm 3 _ [some (.loc w), some (.loc h.n), none, none] hh).Wp _
    have WA' : WkAt R hh j a g := WA.rx fun r b c x z => ⟨x, old r9 z⟩
    have WA2 := WA'
    obtain ⟨_, _, _, _, _, E, _⟩ := WA2
    rw [n3, x_yes, if_pos rfl, x_meth, v3, m_wk E.ga rfl rfl, x_nil]
    refine (ph20 k WA').mono fun x hA ⟨ex, kA, f, z⟩ => ?_
    subst ex
    have up : Up T hh (tgs hh.n T f) hA := ⟨kA, fun a ha => tgs_lo ha⟩
    refine ⟨kh.trans kA, tgs hh.n T f, bs ++ [hh.n], fun a ha => (up.tg a (Nat.lt_of_lt_of_le ha kh.1)).trans (a1 a ha), by rw [a2, List.map_append]; rfl, by rw [List.length_append, a3]; rfl, fun j' g' hj hg' => ?_⟩
    by_cases ej : j' = j
    · subst ej; rw [hg] at hg'; cases hg'
      exact ⟨hh.n, by rw [← a3]; simp, z T⟩
    · obtain ⟨b, hb, wb⟩ := a4 j' g' (by omega) hg'
      exact ⟨b, by rw [List.getElem?_append_left (List.getElem?_eq_some_iff.mp hb).1]; exact hb, wb.rx up.rx⟩
  · have r9 := r8.trans (kh.fr (p := h.n))
    have lw : bs.length = G.wks.length := by rw [a3, List.length_map, D.len]
    refine ⟨old r9 D.gl, by rw [a2, List.length_map, lw]; omega, ?_⟩
    have K9 : Keep h hh := ⟨Nat.le_trans k1.1 r9.1, fun b hb => by rw [r9.2 b (by omega) (by omega)]; exact k1.2 b hb⟩
    generalize eA : IH.new _ _ = hA
    obtain ⟨nA', kA, SA⟩ := new_f eA
    have rA := r9.trans (kA.fr (p := h.n))
    rw [x_gf, v1, wo_sWl (kA.at (kh.at G8)), x_seq, y_asg]
    generalize eB : IH.set _ _ _ = hB
    obtain ⟨nB', sB, GB⟩ := set_f (kA.at (kh.at G8)) eB
    have rB := rA.trans sB
    rw [x_eA, x_cons, x_e1, v0, wo_mv (old rB D.gw), x_nil, x_listL (old rB D.gm)]
    generalize eC_ : IH.new _ _ = hC
    obtain ⟨nC', kC, SC⟩ := new_f eC_
    have rC := rB.trans (kC.fr (p := h.n))
    rw [x_gf, v1, wo_sMv (kC.at GB), x_seq, y_ret, v1]
    generalize eD : IH.set _ _ _ = hD
    obtain ⟨nD', sD, GD⟩ := set_f (kC.at GB) eD
    have rD := rC.trans sD
    have d9 : Fr h.n hh hD := (kA.fr (p := h.n)).trans ((sB.trans (kC.fr (p := h.n))).trans sD)
    have dA : Fr h.n hA hD := (sB.trans (kC.fr (p := h.n))).trans sD
    have d8 : Fr h.n h8 hD := (kh.fr (p := h.n)).trans d9
    have d7 : Fr h.n h7 hD := s8.trans d8
    have d6 : Fr h.n h' hD := (k7.fr (p := h.n)).trans d7
    have d4 : Fr h.n h4 hD := s5.trans ((k6.fr (p := h.n)).trans d6)
    have d2 : Fr h.n h2 hD := s3.trans ((k4.fr (p := h.n)).trans d4)
    have hn8 : hh.n ≥ h8.n := kh.1
    refine ⟨rfl, tgs hh.n T (fun j => if j = 0 then .wl else .mv), ⟨⟨by omega, fun b hb => ?_⟩, fun a ha => ?_⟩, h1.n, h3.n, h'.n, h5.n, hh.n, hB.n, bs, ?_⟩
    · rw [rD.2 b (by omega) (by omega)]; exact k1.2 b hb
    · rw [tgs_lo (by omega), a1 a (by omega)]; exact T1.1 a ha
    have lo : ∀ a, a < h8.n → tgs hh.n T (fun j => if j = 0 then .wl else .mv) a = T0 a := fun a ha => by rw [tgs_lo (by omega), a1 a ha]
    refine ⟨(lo _ (by omega)).trans T1.2.1, GD, (lo _ (by omega)).trans T1.2.2.1, d2.at S2 (by omega), (lo _ (by omega)).trans T1.2.2.2.1, d4.at S4 (by omega), (lo _ (by omega)).trans T1.2.2.2.2.2, d7.at S7 (by omega), (lo _ (by omega)).trans T1.2.2.2.2.1, d6.at S6 (by omega), tgs_hi (i := 0), ?_, lw, fun j g hg => ?_, ?_, sD.at SC (by omega)⟩
    · rw [← a2]; exact dA.at SA (by omega)
    · obtain ⟨b, hb, wb⟩ := a4 j g (by rw [List.length_map, D.len]; exact (List.getElem?_eq_some_iff.mp hg).1) hg
      exact ⟨b, hb, wb.nw.rx fun r b c x z => ⟨by show tgs _ _ _ _ = _; rw [tgs_lo (IH.get_lt z)]; exact x.2, d9.at z fun e => x.1 (by rw [← x.2, e, a1 _ (by omega)]; exact T1.2.1)⟩⟩
    · show tgs _ _ _ _ = _; rw [show hB.n = hh.n + 1 by omega, tgs_hi]; rfl
end K85

set_option linter.all false
set_option linter.unusedSimpArgs false
set_option maxRecDepth 100000
set_option maxHeartbeats 1000000
namespace K85
open PySem Fw
/-! ### the access ahead -/
theorem ff_uu : decide ((Str.ofString "unit") = "start") = false := by kernel_rfl
theorem ph36 (k : Nat) {h : IH} {a af a0 : Nat} {f u is fd os en sl : W} {i : Int} (ga : h.get a = some (wkC (.int i) f u (.loc af) is fd os en)) (gf : h.get af = some (.lst [.loc a0])) (g0 : h.get a0 = some (frC (nm0 i) (.int 0) sl)) {P : W → IH → Prop}
    (z : ∀ h' r, Keep h h' → h.n ≤ r → h'.get r = some (.lst [.tup [nm0 i, .int 0]]) → P (.loc r) h') : (Phi gk tab (k + 1) 36 [.loc a] h).Wp P := by
  rw [phi36, x_callB (by rfl)]
  show (m36 _ [some (.loc a), none, none] h).Wp _
  unfold m36
  rw [x_seq, y_asg, x_lst, x_nil]
  refine ⟨rfl, ?_⟩
  generalize e1 : IH.new _ _ = h1
  obtain ⟨n1', k1, A1⟩ := new_f e1
  rw [n1, x_seq]
  refine for_lst ?_
  rw [x_e1, x_e1, v0, wk_fr (k1.at ga)]
  have rv : (oRev (.loc af) h1) = .ok (.loc h1.n) (h1.new (.lst [.loc a0])) := by unfold oRev; dsimp only; rw [list_at (k1.at gf)]; rfl
  rw [rv, Rs.Wp_ok]
  generalize e2 : IH.new _ _ = h2
  obtain ⟨n2', k2, A2⟩ := new_f e2
  refine ⟨h1.n, _, rfl, A2, fun j e h' => (j = 0 ∧ e = [some (.loc a), some (.loc h.n), none] ∧ h' = h2), ⟨rfl, rfl, rfl⟩, fun j e h' y ⟨ej, ee, eh⟩ hy => ?_, fun e h' ⟨ej, _⟩ => nomatch ej⟩
  subst ej; subst ee; subst eh; cases hy
  refine ⟨A2, ?_⟩
  have g0' := k2.at (k1.at g0)
  rw [n2, x_seq, x_expr, x_mt, v1]
  refine ⟨isLst_at (k2.at A1), ?_⟩
  rw [x_cons, x_C, x_cons, x_tup, x_cons, x_e1, v2, fr_name g0', x_cons, x_e1, v2, fr_place g0', x_nil]
  refine ⟨rfl, ?_⟩
  rw [x_nil, x_ins0 (k2.at A1) (by decide)]
  generalize e3 : IH.set _ _ _ = h3
  obtain ⟨n3', r3, A3⟩ := set_f (k2.at A1) e3
  have lt0 := IH.get_lt g0
  rw [x_seq, x_if, x_bol, x_e2, x_e2, x_e1, v2, fr_name (r3.at g0' (by omega)), x_C, ix_s0, x_C, ne_sd (by kernel_rfl), x_bolW, tt_and, x_seq, y_ret, v1]
  refine z h3 _ ?_ (Nat.le_refl _) A3
  subst e3
  exact (k1.trans k2).setN (Nat.le_refl _) (k2.at A1)
theorem wh_go {t : ET} {b : SS} {n : Nat} {e : Fw.Env} {h : IH} {N : Fw.Env → IH → Prop} {R : W → IH → Prop} {B C : Fw.Env → IH → Prop} (w : (t e h).Wp fun c h => (c = true → (b e h).Wp ⟨fun e h => (whileN t b n e h).Wp ⟨N, R, B, C⟩, R, N, fun e h => (whileN t b n e h).Wp ⟨N, R, B, C⟩⟩) ∧ (c = false → N e h)) : (whileN t b (n + 1) e h).Wp ⟨N, R, B, C⟩ := by
  unfold whileN
  refine W_st (w.mono fun c h z => ?_)
  cases c with
  | false => exact z.2 rfl
  | true =>
    have z := z.1 rfl
    dsimp only
    cases q : b e h with
    | nx e h => rw [q] at z; exact z
    | ct e h => rw [q] at z; exact z
    | bk e h => rw [q] at z; exact z
    | rt x h => rw [q] at z; exact z
    | ex c e h => rw [q] at z; exact z
    | stuck => rw [q] at z; exact z
def nmU : W := .tup [.str "unit", .int 0]
theorem ix_u0 {h : IH} {P : W → IH → Prop} : (oIx nmU (.int 0) h).Wp P = P (.str "unit") h := x_ixT0
theorem ix_u1 {h : IH} {P : W → IH → Prop} : (oIx nmU (.int 1) h).Wp P = P (.int 0) h := x_ixT1
theorem ph11u (k : Nat) (h : IH) : Phi gk tab (k + 1) 11 [PRw, nmU] h = .ok (.tup []) h := by
  rw [phi11]; kernel_rfl
theorem ph26s (k : Nat) {h : IH} {w a af a0 : Nat} {n : Int} {f u is fd os en sl : W} (ga : h.get a = some (wkC (.int n) f u (.loc af) is fd os en)) (gf : h.get af = some (.lst [.loc a0])) (g0 : h.get a0 = some (frC (nm0 n) (.int 0) sl)) : Phi gk tab (k + 1) 26 [.loc w, .loc a] h = .ok u h := by
  refine ok_of ?_
  rw [phi26, x_callB (by rfl)]
  show (m26 _ [some (.loc w), some (.loc a), none, none] h).Wp _
  unfold m26
  have gl : h.get af = some (.lst ([] ++ [.loc a0])) := gf
  rw [x_seq, y_asg, x_e2, x_e1, v1, wk_fr ga, x_e1, x_C, x_neg, y_last gl, n2, x_seq, x_if, x_bol, x_e2, x_e2, x_e1, v2, fr_name g0, x_C, ix_s0, x_C, eq_ss, x_bolW, tt_and, x_seq, y_ret, x_e1, v1, wk_u ga]
  exact ⟨rfl, rfl⟩
theorem ix_u00 {h : IH} {P : W → IH → Prop} : (oIx (.tup [.tup [.non, .int 0, .tup []]]) (.int 0) h).Wp P = P (.tup [.non, .int 0, .tup []]) h := x_ixT0
theorem ph29w (k : Nat) {h : IH} {w a st re r0 af a0 sl : Nat} {nu wl mv f is fd os : W} (gw : h.get w = some (woC PRw (.loc st) nu (.loc re) wl mv)) (gs : h.get st = some (.lst [.str "asleep"])) (gr : h.get re = some (.lst [.loc r0])) (gr0 : h.get r0 = some (.lst []))
    (ga : h.get a = some (wkC (.int (-1)) f (.int 0) (.loc af) is fd os .non)) (gf : h.get af = some (.lst [.loc a0])) (g0 : h.get a0 = some (frC (nm0 (-1)) (.int 0) (.loc sl))) {P : W → IH → Prop}
    (z : ∀ (h' : IH) (b s1 : Nat), h.n ≤ h'.n → (∀ c, c < h.n → c ≠ st → c ≠ re → c ≠ af → h'.get c = h.get c) → h'.get st = some (.lst [.str (hW (-1))]) → h'.get af = some (.lst [.loc a0, .loc b]) → h.n ≤ b → h'.get b = some (frC nmU (.int 0) (.loc s1)) → (∃ xs, h'.get re = some (.lst xs)) → P .non h') :
    (Phi gk tab (k + 3) 29 [.loc w, .loc a, .int 0] h).Wp P := by
  have n1 : st ≠ re := fun e => by subst e; rw [gs] at gr; cases gr
  have n2' : st ≠ af := fun e => by subst e; rw [gs] at gf; cases gf
  have n3' : re ≠ af := fun e => by subst e; rw [gr] at gf; cases gf; rw [g0] at gr0; cases gr0
  have n4 : a ≠ st := fun e => by subst e; rw [gs] at ga; cases ga
  have n5 : a0 ≠ st := fun e => by subst e; rw [gs] at g0; cases g0
  have n6 : w ≠ st := fun e => by subst e; rw [gs] at gw; cases gw
  have n7 : w ≠ re := fun e => by subst e; rw [gr] at gw; cases gw
  have n8 : a ≠ re := fun e => by subst e; rw [gr] at ga; cases ga
  rw [phi29, x_callB (by rfl)]
  show (m29 _ [some (.loc w), some (.loc a), some (.int 0)] h).Wp _
  unfold m29
  rw [x_seq, y_asg, x_call, x_cons, x_e1, v1, wk_nu ga, x_nil, ph35 _ _ (by decide) (by decide), Rs.Wp_ok, x_sb, x_e1, v0, wo_st gw, v2, x_set gs (by decide) (by decide)]
  generalize e1 : IH.set _ _ _ = h1
  obtain ⟨m1, r1, A1⟩ := set_f gs e1
  have A1 : h1.get st = some (.lst [.str (hW (-1))]) := A1
  rw [x_seq, y_asg, x_call, x_cons, v1, x_nil]
  refine ph36 (k + 1) (r1.at ga n4) (r1.at gf (Ne.symm n2')) (r1.at g0 n5) fun h2 r k2 hr A2 => ?_
  have gr2 := k2.at (r1.at gr (Ne.symm n1))
  rw [x_sb, x_e1, v0, wo_re (k2.at (r1.at gw n6)), v2, x_set gr2 (by decide) (by simp)]
  generalize e3 : IH.set _ _ _ = h3
  obtain ⟨m3, r3, A3⟩ := set_f gr2 e3
  have a3 := r3.at (k2.at (r1.at ga n4)) n8
  have f3 := r3.at (k2.at (r1.at gf (Ne.symm n2'))) (Ne.symm n3')
  rw [x_seq, x_expr, x_mt, x_e1, v1, wk_fr a3]
  refine ⟨isLst_at f3, ?_⟩
  rw [x_cons]
  refine mk_fr (k + 0) ?_
  rw [x_cons, x_tup, x_cons, x_C, x_cons, v2, x_nil]
  refine ⟨rfl, ?_⟩
  rw [x_cons, x_eIf, x_bol, x_e2, x_e2, x_e2, x_e2, x_e1, v0, wo_pr (r3.at (k2.at (r1.at gw n6)) n7), x_C, ix_p0, v2, ix_u00, x_C, x_ixT0, x_C, is_nn, x_bolW, tt_and, x_C, x_nil]
  refine ⟨_, _, rfl, fun h4 p1 k4 p2 p3 => ?_⟩
  have f4 := k4.at f3
  rw [x_nil, x_app f4 (by simp)]
  repeat rw [x_next]
  generalize e5 : IH.set _ _ _ = h5
  obtain ⟨m5, r5, A5⟩ := set_f f4 e5
  have lf := IH.get_lt gf
  have ls := IH.get_lt gs
  have lr := IH.get_lt gr
  have kn := k2.1
  refine z h5 h3.n (h3.n + 1) (by have := k4.1; omega) (fun c hc c1 c2 c3 => ?_) ?_ A5 (by omega) (r5.at p2 (by omega)) ⟨_, r5.at (k4.at A3) n3'⟩
  · rw [r5.2 c (by have := k4.1; omega) c3, k4.2 c (by omega), r3.2 c (by omega) c2, k2.2 c (by omega), r1.2 c hc c1]
  · exact r5.at (k4.at (r3.at (k2.at A1) n1)) n2'
/-- the first move: the unit is woken -/
theorem ph31w (k : Nat) {h : IH} {w a st re r0 af a0 sl : Nat} {nu wl mv f is fd os : W} (gw : h.get w = some (woC PRw (.loc st) nu (.loc re) wl mv)) (gs : h.get st = some (.lst [.str "asleep"])) (gr : h.get re = some (.lst [.loc r0])) (gr0 : h.get r0 = some (.lst []))
    (ga : h.get a = some (wkC (.int (-1)) f (.int 0) (.loc af) is fd os .non)) (gf : h.get af = some (.lst [.loc a0])) (g0 : h.get a0 = some (frC (nm0 (-1)) (.int 0) (.loc sl))) {P : W → IH → Prop}
    (z : ∀ (h' : IH) (b s1 : Nat), h.n ≤ h'.n → (∀ c, c < h.n → c ≠ st → c ≠ re → c ≠ af → h'.get c = h.get c) → h'.get st = some (.lst [.str (hW (-1))]) → h'.get af = some (.lst [.loc a0, .loc b]) → h.n ≤ b → h'.get b = some (frC nmU (.int 0) (.loc s1)) → (∃ xs, h'.get re = some (.lst xs)) → P .non h') :
    (Phi gk tab (k + 4) 31 [.loc w, .loc a] h).Wp P := by
  rw [phi31, x_callB (by rfl)]
  show (m31 _ [some (.loc w), some (.loc a), none, none] h).Wp _
  unfold m31
  have gl : h.get af = some (.lst ([] ++ [.loc a0])) := gf
  rw [x_seq, x_par2, x_meth, v0, m_wo gw rfl rfl, x_cons, v1, x_nil, ph26s (k + 2) ga gf g0, Rs.Wp_ok, x_e2, x_e1, v1, wk_fr ga, x_e1, x_C, x_neg, y_last gl, n2, n3]
  rw [x_seq, x_if, x_and, x_bol, x_e2, v2, x_C, no_in, x_bolW, tt_and, x_bol, x_e2, x_e2, x_e1, v0, wo_st gw, v2, x_ix gs (by decide) rfl, x_C, eq_ss, x_bolW, tt_and, x_seq, x_expr, x_meth, v0, m_wo gw rfl rfl, x_cons, v1, x_cons, v2, x_nil]
  refine ph29w k gw gs gr gr0 ga gf g0 fun h' b s1 q1 q2 q3 q4 q5 q6 q7 => ?_
  repeat rw [x_next]
  exact z h' b s1 q1 q2 q3 q4 q5 q6 q7
theorem ph25u (k : Nat) {h : IH} {w a af b : Nat} {n : Int} {f u is fd os en sl y st nu re wl mv : W} (gw : h.get w = some (woC PRw st nu re wl mv)) (ga : h.get a = some (wkC (.int n) f u (.loc af) is fd os en)) (gf : h.get af = some (.lst [y, .loc b])) (g0 : h.get b = some (frC nmU (.int 0) sl)) : Phi gk tab (k + 2) 25 [.loc w, .loc a] h = .ok .non h := by
  refine ok_of ?_
  rw [phi25, x_callB (by rfl)]
  show (m25 _ [some (.loc w), some (.loc a), none, none] h).Wp _
  unfold m25
  have gl : h.get af = some (.lst ([y] ++ [.loc b])) := gf
  rw [x_seq, y_asg, x_e2, x_e1, v1, wk_fr ga, x_e1, x_C, x_neg, y_last gl, n2, x_seq, x_if, x_or, x_bol, x_e2, x_e2, x_e1, v2, fr_name g0, x_C, ix_u0, x_C, eq_sd (by kernel_rfl), x_bolW, ff_and, x_bol, x_e2, x_e1, v2, fr_place g0, x_e1, x_C, x_neg, x_eqI, show decide ((0 : Int) = -1) = false from rfl, x_bolW, ff_and, x_next]
  rw [x_seq, y_asg, x_call, x_cons, x_e1, v0, wo_pr gw, x_cons, x_e1, v2, fr_name g0, x_nil, ph11u k, Rs.Wp_ok, n3, x_seq, y_ret, x_eIf, x_bol, x_e2, x_e1, v2, fr_place g0, x_eA, x_cons, v3, x_nil, x_lenT, x_lt, show decide ((0 : Int) < ((([] : List W).length : Nat) : Int)) = false from rfl, x_bolW, ff_and, x_C]
  exact ⟨rfl, rfl⟩
theorem ph26u (k : Nat) {h : IH} {w a af b : Nat} {n : Int} {f u is fd os en sl y st nu re wl mv : W} (gw : h.get w = some (woC PRw st nu re wl mv)) (ga : h.get a = some (wkC (.int n) f u (.loc af) is fd os en)) (gf : h.get af = some (.lst [y, .loc b])) (g0 : h.get b = some (frC nmU (.int 0) sl)) : Phi gk tab (k + 3) 26 [.loc w, .loc a] h = .ok .non h := by
  refine ok_of ?_
  rw [phi26, x_callB (by rfl)]
  show (m26 _ [some (.loc w), some (.loc a), none, none] h).Wp _
  unfold m26
  have gl : h.get af = some (.lst ([y] ++ [.loc b])) := gf
  rw [x_seq, y_asg, x_e2, x_e1, v1, wk_fr ga, x_e1, x_C, x_neg, y_last gl, n2, x_seq, x_if, x_bol, x_e2, x_e2, x_e1, v2, fr_name g0, x_C, ix_u0, x_C, eq_sd (by kernel_rfl), x_bolW, ff_and, x_next, x_seq, x_if, x_bol, x_e2, x_e1, v2, fr_place g0, x_e1, x_C, x_neg, x_eqI, show decide ((0 : Int) = -1) = false from rfl, x_bolW, ff_and, x_next]
  rw [x_seq, y_asg, x_meth, v0, m_wo gw rfl rfl, x_cons, v1, x_nil, ph25u k gw ga gf g0, Rs.Wp_ok, n3, x_seq, y_ret, x_eIf, x_bol, x_e2, v3, x_C, is_nn, x_bolW, tt_and, x_C]
  exact ⟨rfl, rfl⟩
/-- the second move: the unit is awake -/
theorem ph31u (k : Nat) {h : IH} {w a st af b : Nat} {nu re wl mv f u is fd os en sl y s : W} (gw : h.get w = some (woC PRw (.loc st) nu re wl mv)) (gs : h.get st = some (.lst [s]))
    (ga : h.get a = some (wkC (.int (-1)) f u (.loc af) is fd os en)) (gf : h.get af = some (.lst [y, .loc b])) (g0 : h.get b = some (frC nmU (.int 0) sl)) (n1 : st ≠ af) : (Phi gk tab (k + 4) 31 [.loc w, .loc a] h).Wp fun x h' => h' = (h.set af (.lst [y])).set st (.lst [.str "awake"]) := by
  rw [phi31, x_callB (by rfl)]
  show (m31 _ [some (.loc w), some (.loc a), none, none] h).Wp _
  unfold m31
  have gl : h.get af = some (.lst ([y] ++ [.loc b])) := gf
  rw [x_seq, x_par2, x_meth, v0, m_wo gw rfl rfl, x_cons, v1, x_nil, ph26u k gw ga gf g0, Rs.Wp_ok, x_e2, x_e1, v1, wk_fr ga, x_e1, x_C, x_neg, y_last gl, n2, n3]
  rw [x_seq, x_if, x_and, x_bol, x_e2, v2, x_C, no_nn, x_bolW, ff_and, ff_and]
  rw [x_seq, x_if, x_and, x_bol, x_e2, v2, x_C, no_nn, x_bolW, ff_and, ff_and]
  rw [x_seq, x_if, x_bol, x_e2, x_e2, x_e1, v3, fr_name g0, x_C, ix_u0, x_C, eq_sd (by kernel_rfl), x_bolW, ff_and]
  rw [x_seq, x_if, x_bol, x_e2, x_e1, v3, fr_place g0, x_e1, x_C, x_neg, x_eqI, show decide ((0 : Int) = -1) = false from rfl, x_bolW, ff_and]
  rw [x_seq, x_if, x_bol, x_e2, x_meth, v0, m_wo gw rfl rfl, x_cons, v1, x_nil, ph25u (k + 1) gw ga gf g0, Rs.Wp_ok, x_C, is_nn, x_bolW, tt_and]
  rw [x_seq, x_expr, x_meth, v0, m_wo gw rfl rfl, x_cons, v1, x_nil]
  rw [phi32, x_callB (by rfl)]
  show (m32 _ [some (.loc w), some (.loc a), none] h).Wp _
  unfold m32
  rw [x_seq, y_asg, x_mt, x_e1, v1, wk_fr ga]
  refine ⟨isLst_at gf, ?_⟩
  rw [x_nil, y_pop0 gl]
  generalize e1 : IH.set _ _ _ = h1
  obtain ⟨m1, r1, A1⟩ := set_f gf e1
  have nb : b ≠ af := fun e => by subst e; rw [gf] at g0; cases g0
  have nw : w ≠ af := fun e => by subst e; rw [gf] at gw; cases gw
  rw [n2, x_seq, x_if, x_bol, x_e2, x_e2, x_e1, v2, fr_name (r1.at g0 nb), x_C, ix_u0, x_C, eq_ss, x_bolW, tt_and, x_seq, y_asg, x_C, x_sb, x_e1, v0, wo_st (r1.at gw nw), x_e2, x_e1, v2, fr_name (r1.at g0 nb), x_C, ix_u1, x_set (r1.at gs n1) (by decide) (by simp)]
  repeat rw [x_next]
  rfl
end K85

set_option linter.all false
set_option linter.unusedSimpArgs false
set_option maxRecDepth 100000
set_option maxHeartbeats 1000000
namespace K85
open PySem Fw
theorem aw_ne (P : W → IH → Prop) (h : IH) : (oNe (.str (hW (-1))) (.str "awake") h).Wp P = P (.bl true) h := ne_sd (by kernel_rfl)
theorem as_ne (P : W → IH → Prop) (h : IH) : (oNe (.str "asleep") (.str "awake") h).Wp P = P (.bl true) h := ne_sd (by kernel_rfl)
theorem ph24 (k : Nat) {h : IH} {w st re r0 : Nat} {nu wl mv : W} (gw : h.get w = some (woC PRw (.loc st) nu (.loc re) wl mv)) (gs : h.get st = some (.lst [.str "asleep"])) (gr : h.get re = some (.lst [.loc r0])) (gr0 : h.get r0 = some (.lst [])) {P : W → IH → Prop}
    (z : ∀ (h' : IH) (re' r0' : Nat), h.n ≤ h'.n → (∀ c, c < h.n → c ≠ w → c ≠ st → c ≠ re → h'.get c = h.get c) → h'.get w = some (woC PRw (.loc st) nu (.loc re') wl mv) → h'.get st = some (.lst [.str "awake"]) → h'.get re' = some (.lst [.loc r0']) → h'.get r0' = some (.lst []) → h.n ≤ r0' → h.n ≤ re' → P (.bl true) h') :
    (Phi gk tab (k + 5) 24 [.loc w, .int 0] h).Wp P := by
  rw [phi24, x_callB (by rfl)]
  show (m24 _ [some (.loc w), some (.int 0), none, none] h).Wp _
  unfold m24
  rw [x_seq, y_asg]
  refine mk_wk k ?_
  rw [x_cons, x_e1, x_C, x_neg, x_cons, x_C, x_cons, v1, x_nil]
  refine ⟨_, _, _, rfl, fun h1 q1 k1 G1 F1 _ L1 _ _ => ?_⟩
  rw [n2, x_seq]
  unfold sWhile
  show (whileN _ _ (999999 + 1) _ _).Wp _
  refine wh_go ?_
  have gs1 := k1.at gs
  rw [x_and, x_bol, x_e2, x_e1, v2, wk_en G1, x_C, is_nn, x_bolW, tt_and, x_or, x_bol, x_e2, x_eA, x_cons, x_e1, v2, wk_fr G1, x_nil, x_lenL L1, x_C, x_gt, show decide ((1 : Int) < (([W.loc (h.n + 1)].length : Nat) : Int)) = false from rfl, x_bolW, ff_and, x_bol, x_e2, x_e2, x_e1, v0, wo_st (k1.at gw), v1, x_ix gs1 (by decide) rfl, x_C, as_ne, x_bolW, tt_and]
  rw [x_seq, x_expr, x_meth, v0, m_wo (k1.at gw) rfl rfl, x_cons, v2, x_nil]
  have ls := IH.get_lt gs
  have lr := IH.get_lt gr
  have lw := IH.get_lt gw
  have nwr : w ≠ re := fun e => by subst e; rw [gr] at gw; cases gw
  have nws : w ≠ st := fun e => by subst e; rw [gs] at gw; cases gw
  have nsr : st ≠ re := fun e => by subst e; rw [gs] at gr; cases gr
  refine ph31w k (k1.at gw) gs1 (k1.at gr) (k1.at gr0) G1 L1 F1 fun h2 b s1 p1 p2 p3 p4 p5 p6 p7 => ?_
  rw [x_next]
  show (whileN _ _ (999998 + 1) _ _).Wp _
  refine wh_go ?_
  have w2 : h2.get w = _ := (p2 w (by omega) nws nwr (by omega)).trans (k1.at gw)
  have G2 : h2.get h.n = _ := (p2 h.n (by omega) (by omega) (by omega) (by omega)).trans G1
  rw [x_and, x_bol, x_e2, x_e1, v2, wk_en G2, x_C, is_nn, x_bolW, tt_and, x_or, x_bol, x_e2, x_eA, x_cons, x_e1, v2, wk_fr G2, x_nil, x_lenL p4, x_C, x_gt, show decide ((1 : Int) < (([W.loc (h.n + 1), W.loc b].length : Nat) : Int)) = true from rfl, x_bolW, tt_and, tt_and]
  rw [x_seq, x_expr, x_meth, v0, m_wo w2 rfl rfl, x_cons, v2, x_nil]
  refine (ph31u k w2 p3 G2 p4 p6 (by omega)).mono fun _ h4 e4 => ?_
  rw [x_next]
  show (whileN _ _ (999997 + 1) _ _).Wp _
  refine wh_go ?_
  have a1 : (h2.set (h.n + 3) (.lst [.loc (h.n + 1)])).get st = _ := (gs_ne p4 (by omega)).trans p3
  have e5 := fun (c : Nat) (n1 : c ≠ st) (n2 : c ≠ h.n + 3) => show h4.get c = h2.get c by rw [e4, gs_ne a1 n1, gs_ne p4 n2]
  have w4 : h4.get w = _ := (e5 w nws (by omega)).trans w2
  have G4 : h4.get h.n = _ := (e5 h.n (by omega) (by omega)).trans G2
  have L4 : h4.get (h.n + 3) = some (.lst [.loc (h.n + 1)]) := by rw [e4, gs_ne a1 (by omega)]; exact gs_same p4
  have S4 : h4.get st = some (.lst [.str "awake"]) := by rw [e4]; exact gs_same a1
  have n4 : h4.n = h2.n := by rw [e4]; rfl
  clear e4
  rw [x_and, x_bol, x_e2, x_e1, v2, wk_en G4, x_C, is_nn, x_bolW, tt_and, x_or, x_bol, x_e2, x_eA, x_cons, x_e1, v2, wk_fr G4, x_nil, x_lenL L4, x_C, x_gt, show decide ((1 : Int) < (([W.loc (h.n + 1)].length : Nat) : Int)) = false from rfl, x_bolW, ff_and, x_bol, x_e2, x_e2, x_e1, v0, wo_st w4, v1, x_ix S4 (by decide) rfl, x_C, ne_ss, x_bolW, ff_and]
  rw [x_seq, y_asg]
  refine lc_tup ?_
  rw [x_e2, x_e1, v0, wo_pr w4, x_C, ix_p0]
  refine ⟨_, rfl, fun i xs h' => (i = 0 ∧ xs = [] ∧ h' = h4) ∨ (i = 1 ∧ xs = [.loc h4.n] ∧ h' = h4.new (.lst [])), .inl ⟨rfl, rfl, rfl⟩, fun i xs h' y hI hy => ?_, fun xs h' hI => ?_⟩
  · rcases hI with ⟨ei, ex, eh⟩ | ⟨ei, ex, eh⟩
    · subst ei; subst ex; subst eh
      show (gNm 3 y [some (.loc w), some (.int 0), some (.loc h.n), none] h').Wp _
      rw [n3, x_yes, if_pos rfl, x_lst, x_nil]
      exact ⟨rfl, .inr ⟨rfl, rfl, rfl⟩⟩
    · subst ei; exact nomatch hy
  rcases hI with ⟨ei, _⟩ | ⟨_, ex, eh⟩
  · exact nomatch ei
  subst ex; subst eh
  refine ⟨by simp, ?_⟩
  generalize e6 : h4.new _ = h6
  obtain ⟨n6', k6, S6⟩ := new_f e6
  generalize e7 : IH.new _ _ = h7
  obtain ⟨n7', k7, S7⟩ := new_f e7
  have w7 := k7.at (k6.at w4)
  rw [x_gf, v0, wo_sRe w7, x_seq, y_ret]
  generalize e8 : IH.set _ _ _ = h8
  obtain ⟨n8', r8, W8⟩ := set_f w7 e8
  rw [x_e2, x_e1, v2, wk_en (r8.at (k7.at (k6.at G4)) (by omega)), x_C, is_nn]
  refine z h8 h6.n h4.n (by omega) (fun c hc c1 c2 c3 => ?_) W8 (r8.at (k7.at (k6.at S4)) (Ne.symm nws)) (r8.at S7 (by omega)) (r8.at (k7.at S6) (by omega)) (by omega) (by omega)
  rw [r8.2 c (by omega) c1, k7.2 c (by omega), k6.2 c (by omega), e5 c c2 (by omega), p2 c (by omega) c2 c3 (by omega), k1.2 c hc]
end K85

set_option linter.all false
set_option linter.unusedSimpArgs false
set_option maxRecDepth 100000
set_option maxHeartbeats 1000000
namespace K85
open PySem Fw
/-! ### what a machine asks of its arguments -/
def usW : W := .tup [.tup [.non, .int 0, .tup []]]
def fnsW : W := .tup [.tup [.int 0, .tup (bod 0)], .tup [.int 0, .tup (bod 1)], .tup [.int 0, .tup (bod 2)]]
theorem pr_eq : PRw = .tup [usW, fnsW] := rfl
theorem ph6p (k : Nat) (h : IH) : Phi gk tab (k + 2) 6 [.tup [.non, .int 0, .tup []], .int 0] h = .ok (.bl true) h := by kernel_rfl
theorem ph7p (k : Nat) (h : IH) (f : Nat) (hf : f < 3) : Phi gk tab (k + 2) 7 [usW, .tup [.int 0, .tup (bod f)]] h = .ok (.bl true) h := by
  match f, hf with
  | 0, _ => kernel_rfl
  | 1, _ => kernel_rfl
  | 2, _ => kernel_rfl
theorem ph9p (k : Nat) (h : IH) : Phi gk tab (k + 5) 9 [usW, fnsW] h = .ok (.bl true) h := by kernel_rfl
/-- all over a comprehension that makes truths and keeps the heap -/
theorem all_tup {x f : EE} {g : EG} {vs : List Nat} {e : Fw.Env} {h : IH} {P : W → IH → Prop} {ws : List W} (qx : x e h = .ok (.tup ws) h) (hl : ws.length ≤ 1000) (st : ∀ (i : Nat) (y : W) (h2 : IH), ws[i]? = some y → ∃ e2, g y (wipeW e vs) h2 = .ok e2 h2 ∧ f e2 h2 = .ok (.bl true) h2) (z : ∀ h', Keep h h' → P (.bl true) h') :
    (eA (k1 oAll) (aCons (eLc (iAny x) g tYes f vs) aNil) e h).Wp P := by
  rw [x_eA, x_cons]
  refine lc_tup ?_
  rw [qx, Rs.Wp_ok]
  refine ⟨ws, rfl, fun i xs h' => xs = List.replicate i (.bl true) ∧ h' = h, ⟨rfl, rfl⟩, fun i xs h2 y ⟨e1, e2⟩ hy => ?_, fun xs h2 ⟨e1, e2⟩ => ?_⟩
  · obtain ⟨e3, q1, q2⟩ := st i y h2 hy
    rw [q1, Rs.Wp_ok, x_yes, if_pos rfl, q2, Rs.Wp_ok]
    exact ⟨by rw [e1, List.replicate_succ'], e2⟩
  · subst e2
    refine ⟨by rw [e1, List.length_replicate]; omega, ?_⟩
    rw [x_nil, x_allT (by rw [IH.get_new_self, e1])]
    exact z _ Keep.new
theorem all_enu {x f : EE} {g : EG} {vs : List Nat} {e : Fw.Env} {h : IH} {P : W → IH → Prop} {ws : List W} (qx : x e h = .ok (.tup ws) h) (hl : ws.length ≤ 1000) (st : ∀ (i : Nat) (y : W) (h2 : IH), ws[i]? = some y → ∃ e2, g (.tup [.int i, y]) (wipeW e vs) h2 = .ok e2 h2 ∧ f e2 h2 = .ok (.bl true) h2) (z : ∀ h', Keep h h' → P (.bl true) h') :
    (eA (k1 oAll) (aCons (eLc (iA kEnu (aCons x aNil)) g tYes f vs) aNil) e h).Wp P := by
  rw [x_eA, x_cons]
  refine lc_enuT ?_
  rw [qx, Rs.Wp_ok]
  refine ⟨ws, rfl, fun i xs h' => xs = List.replicate i (.bl true) ∧ h' = h, ⟨rfl, rfl⟩, fun i xs h2 y ⟨e1, e2⟩ hy => ?_, fun xs h2 ⟨e1, e2⟩ => ?_⟩
  · obtain ⟨e3, q1, q2⟩ := st i y h2 hy
    rw [q1, Rs.Wp_ok, x_yes, if_pos rfl, q2, Rs.Wp_ok]
    exact ⟨by rw [e1, List.replicate_succ'], e2⟩
  · subst e2
    refine ⟨by rw [e1, List.length_replicate]; omega, ?_⟩
    rw [x_nil, x_allT (by rw [IH.get_new_self, e1])]
    exact z _ Keep.new
theorem all_lst {x f : EE} {g : EG} {vs : List Nat} {e : Fw.Env} {h : IH} {P : W → IH → Prop} {ws : List W} {a : Nat} (qx : x e h = .ok (.loc a) h) (ga : h.get a = some (.lst ws)) (hl : ws.length ≤ 1000) (st : ∀ (i : Nat) (y : W) (h2 : IH), ws[i]? = some y → ∃ e2, g y (wipeW e vs) h2 = .ok e2 h2 ∧ f e2 h2 = .ok (.bl true) h2) (z : ∀ h', Keep h h' → P (.bl true) h') :
    (eA (k1 oAll) (aCons (eLc (iAny x) g tYes f vs) aNil) e h).Wp P := by
  rw [x_eA, x_cons]
  refine lc_lst ?_
  rw [qx, Rs.Wp_ok]
  refine ⟨a, ws, rfl, ga, fun i xs h' => xs = List.replicate i (.bl true) ∧ h' = h, ⟨rfl, rfl⟩, fun i xs h2 y ⟨e1, e2⟩ hy => ?_, fun xs h2 ⟨e1, e2⟩ => ?_⟩
  · obtain ⟨e3, q1, q2⟩ := st i y h2 hy
    refine ⟨by rw [e2]; exact ga, ?_⟩
    rw [q1, Rs.Wp_ok, x_yes, if_pos rfl, q2, Rs.Wp_ok]
    exact ⟨by rw [e1, List.replicate_succ'], e2⟩
  · subst e2
    refine ⟨ga, by rw [e1, List.length_replicate]; omega, ?_⟩
    rw [x_nil, x_allT (by rw [IH.get_new_self, e1])]
    exact z _ Keep.new
theorem ph8p (k : Nat) (h : IH) {P : W → IH → Prop} (z : ∀ h', Keep h h' → P (.bl true) h') : (Phi gk tab (k + 6) 8 [PRw] h).Wp P := by
  rw [phi8, x_callB (by rfl)]
  show (m8 _ [some PRw, none, none, none, none, none, none] h).Wp _
  unfold m8
  rw [x_seq, x_if, x_or, x_not, x_tru, x_e1, v0, pr_eq, x_isiT, show (([.tuple] : List Ty).any fun u => isTy .tuple u) = true from rfl, x_truB, nt_and, x_or, x_bol, x_e2, x_eA, x_cons, v0, x_nil, x_lenT, x_C, x_neI, show (!decide ((([usW, fnsW].length : Nat) : Int) = 2)) = false from rfl, x_bolW, ff_and, x_not, x_tru]
  refine all_tup (ws := [usW, fnsW]) rfl (by simp) (fun i y h2 hy => ?_) fun h1 k1 => ?_
  · match i, hy with
    | 0, hy => cases hy; exact ⟨_, rfl, rfl⟩
    | 1, hy => cases hy; exact ⟨_, rfl, rfl⟩
  rw [x_truB, nt_and, x_next, x_seq, y_asg, v0, x_tp]
  refine ⟨rfl, ?_⟩
  rw [x_gs1, n2, x_gs1, n3, x_gs0, x_seq, x_if, x_or, x_not, x_bol, x_chain, x_C, x_eA, x_cons, v2, x_nil]
  show (Fw.k1 oLen [.tup [.tup [.non, .int 0, .tup []]]] h1).Wp _
  rw [x_lenT, x_le, show decide ((1 : Int) ≤ (([W.tup [.non, .int 0, .tup []]].length : Nat) : Int)) = true from rfl, x_chK, tt_and, x_C, x_le, show decide ((([W.tup [.non, .int 0, .tup []]].length : Nat) : Int) ≤ 6) = true from rfl, x_bolW, nt_and, x_not, x_bol, x_chain, x_C, x_eA, x_cons, v3, x_nil]
  show (Fw.k1 oLen [.tup [.tup [.int 0, .tup (bod 0)], .tup [.int 0, .tup (bod 1)], .tup [.int 0, .tup (bod 2)]]] h1).Wp _
  rw [x_lenT, x_le, show decide ((1 : Int) ≤ (([W.tup [.int 0, .tup (bod 0)], .tup [.int 0, .tup (bod 1)], .tup [.int 0, .tup (bod 2)]].length : Nat) : Int)) = true from rfl, x_chK, tt_and, x_C, x_le, show decide ((([W.tup [.int 0, .tup (bod 0)], .tup [.int 0, .tup (bod 1)], .tup [.int 0, .tup (bod 2)]].length : Nat) : Int) ≤ 4) = true from rfl, x_bolW, nt_and, x_next]
  rw [x_seq, x_if, x_not, x_tru]
  refine all_enu (ws := [.tup [.non, .int 0, .tup []]]) rfl (by simp) (fun i y h2 hy => ?_) fun h3 k3 => ?_
  · match i, hy with
    | 0, hy => cases hy; exact ⟨_, rfl, ph6p (k + 3) h2⟩
  rw [x_truB, nt_and, x_next, x_seq, x_if, x_not, x_tru]
  refine all_tup (ws := [.tup [.int 0, .tup (bod 0)], .tup [.int 0, .tup (bod 1)], .tup [.int 0, .tup (bod 2)]]) rfl (by simp) (fun i y h2 hy => ?_) fun h4 k4 => ?_
  · match i, hy with
    | 0, hy => cases hy; exact ⟨_, rfl, ph7p (k + 3) h2 0 (by decide)⟩
    | 1, hy => cases hy; exact ⟨_, rfl, ph7p (k + 3) h2 1 (by decide)⟩
    | 2, hy => cases hy; exact ⟨_, rfl, ph7p (k + 3) h2 2 (by decide)⟩
  rw [x_truB, nt_and, x_next, x_seq, y_ret, x_call, x_cons, v2, x_cons, v3, x_nil]
  have q := ph9p k h4
  show (Phi gk tab (k + 5) 9 [usW, fnsW] h4).Wp P
  rw [q, Rs.Wp_ok]
  exact z h4 (k1.trans (k3.trans k4))
theorem ph10p (k : Nat) (h : IH) {P : W → IH → Prop} (z : ∀ h', Keep h h' → P .non h') : (Phi gk tab (k + 7) 10 [PRw] h).Wp P := by
  rw [phi10, x_callB (by rfl)]
  show (m10 _ [some PRw] h).Wp _
  unfold m10
  rw [x_seq, x_if, x_not, x_tru, x_call, x_cons, v0, x_nil]
  refine ph8p k h fun h1 k1 => ?_
  rw [x_truB, nt_and, x_next, x_next]
  exact z h1 k1
theorem ph1p (k : Nat) (i lo hi : Int) (h : IH) : Phi gk tab (k + 1) 1 [.int i, .int lo, .int hi] h = .ok (.bl (decide (lo ≤ i ∧ i ≤ hi))) h := by
  rw [phi1]
  refine ok_of ?_
  rw [x_callB (by rfl)]
  show (m1 _ [some (.int i), some (.int lo), some (.int hi)] h).Wp _
  unfold m1
  rw [x_seq, y_ret, x_eAnd, x_e1, v0, x_isiI, show (([.int] : List Ty).any fun u => isTy .int u) = true from rfl, x_andK]
  refine ⟨fun _ => ?_, nofun⟩
  rw [x_eAnd, x_eNot, x_e1, v0, x_isiI, show (([.bool] : List Ty).any fun u => isTy .int u) = false from rfl, x_notK, x_andK]
  refine ⟨fun _ => ?_, nofun⟩
  rw [x_chain, v1, v0, x_le, x_chK]
  refine ⟨fun q => ?_, fun q => ?_⟩
  · rw [v2, x_le]
    have q := of_decide_eq_true q
    exact ⟨by rw [Bool.decide_and, decide_eq_true q, Bool.true_and], rfl⟩
  · have q := of_decide_eq_false q
    exact ⟨by rw [Bool.decide_and, decide_eq_false q, Bool.false_and], rfl⟩
theorem ph16p (k : Nat) (fs : List Nat) (h0 : fs ≠ []) (h3 : fs.length ≤ 3) (hf : ∀ f ∈ fs, f ≤ 2) (h : IH) {P : W → IH → Prop} (z : ∀ h', Keep h h' → P .non h') : (Phi gk tab (k + 3) 16 [PRw, .tup (fs.map fun f => .int (f : Nat))] h).Wp P := by
  rw [phi16, x_callB (by rfl)]
  show (m16 _ [some PRw, some (.tup (fs.map fun f => .int (f : Nat))), none] h).Wp _
  unfold m16
  have l0 : 0 < fs.length := List.length_pos_iff.mpr h0
  rw [x_seq, x_if, x_or, x_not, x_tru, x_e1, v1, x_isiT, show (([.tuple] : List Ty).any fun u => isTy .tuple u) = true from rfl, x_truB, nt_and, x_not, x_bol, x_chain, x_C, x_eA, x_cons, v1, x_nil, x_lenT, List.length_map, x_le, decide_eq_true (show (1 : Int) ≤ ((fs.length : Nat) : Int) by omega), x_chK, tt_and, x_C, x_le, decide_eq_true (show ((fs.length : Nat) : Int) ≤ 3 by omega), x_bolW, nt_and, x_next]
  rw [x_seq, x_if, x_not, x_tru]
  refine all_tup (ws := fs.map fun f => .int (f : Nat)) rfl (by rw [List.length_map]; omega) (fun i y h2 hy => ?_) fun h1 k1 => ?_
  · rw [List.getElem?_map] at hy
    cases q : fs[i]? with
    | none => rw [q] at hy; cases hy
    | some f =>
      rw [q] at hy; cases hy
      have := hf f (List.mem_of_getElem? q)
      refine ⟨_, rfl, ok_of ?_⟩
      show (eCall _ 1 _ [some PRw, some (.tup (fs.map fun f => .int (f : Nat))), some (.int (f : Nat))] h2).Wp _
      rw [x_call, x_cons, v2, x_cons, x_C, x_cons, x_e2, x_eA, x_cons, x_e2, v0, x_C, pr_eq, x_ixT1, x_nil]
      show (Fw.k1 oLen [.tup [.tup [.int 0, .tup (bod 0)], .tup [.int 0, .tup (bod 1)], .tup [.int 0, .tup (bod 2)]]] h2).Wp _
      rw [x_lenT, x_C, x_sub, x_nil, ph1p (k + 1), Rs.Wp_ok]
      refine ⟨?_, rfl⟩
      rw [decide_eq_true]
      refine ⟨by omega, ?_⟩
      show ((f : Nat) : Int) ≤ 2
      omega
  rw [x_truB, nt_and, x_next, x_next]
  exact z h1 k1
theorem x_lset1 {a : Nat} {h : IH} {P : W → IH → Prop} (g : h.get a = some (.lst [.int 0])) : (setK "len" (.loc a) h).Wp P = P (.int 1) h := by
  have e : setK "len" = oLenSet := by unfold setK; rw [if_neg (by decide)]
  rw [e]; unfold oLenSet; dsimp only; rw [list_at g]; rfl
theorem ph15p (k : Nat) {h : IH} {a : Nat} (ga : h.get a = some (.lst [.int 0])) {P : W → IH → Prop} (z : ∀ h', Keep h h' → P .non h') : (Phi gk tab (k + 3) 15 [PRw, .loc a] h).Wp P := by
  rw [phi15, x_callB (by rfl)]
  show (m15 _ [some PRw, some (.loc a)] h).Wp _
  unfold m15
  rw [x_seq, x_if, x_not, x_tru, x_call, x_cons, v0, x_cons, v1, x_nil]
  rw [phi14, x_callB (by rfl)]
  show (m14 _ [some PRw, some (.loc a), none] h).Wp _
  unfold m14
  rw [x_seq, x_if, x_or, x_not, x_tru, x_e1, v1, x_isiL ga, show (([.list] : List Ty).any fun u => isTy .list u) = true from rfl, x_truB, nt_and, x_not, x_tru]
  refine all_lst (ws := [.int 0]) rfl ga (by simp) (fun i y h2 hy => ?_) fun h1 k1 => ?_
  · match i, hy with
    | 0, hy =>
      cases hy
      exact ⟨_, rfl, ok_of (by
        show (eCall _ 1 _ [some PRw, some (.loc a), some (.int 0)] h2).Wp _
        rw [x_call, x_cons, v2, x_cons, x_C, x_cons, x_e2, x_eA, x_cons, x_e2, v0, x_C, ix_p0, x_nil, x_lenT, x_C, x_sub, x_nil, ph1p k, Rs.Wp_ok]
        exact ⟨rfl, rfl⟩)⟩
  rw [x_truB, nt_and, x_next, x_seq, y_ret, x_e2, x_e1, v1, x_lset1 (k1.at ga), x_eA, x_cons, v1, x_nil, x_lenL (k1.at ga), x_eqI, show decide ((1 : Int) = (([W.int 0].length : Nat) : Int)) = true from rfl, x_truB, nt_and, x_next, x_next]
  exact z h1 k1
end K85

set_option linter.all false
set_option linter.unusedSimpArgs false
set_option maxRecDepth 100000
set_option maxHeartbeats 1000000
namespace K85
open PySem Fw
/-! ### a machine is made -/
theorem Frm.of {R : Tg → Nat → Prop} {h : IH} {tf ts : Tg} {nm : W} {p : Nat} {w : W} {S : Tg → Prop} (q : Frm R h tf ts nm p w) (n1 : S tf) (n2 : S ts) : Frm (fun r a => S r ∧ R r a) h tf ts nm p w :=
  let ⟨a, s, x, y, z, e, r1, g1, r2, g2⟩ := q
  ⟨a, s, x, y, z, e, ⟨n1, r1⟩, g1, ⟨n2, r2⟩, g2⟩
theorem WkAt.of {R : Tg → Nat → Prop} {h : IH} {k a : Nat} {g : Wk} (q : WkAt R h k a g) : WkAt (fun r a => ofW k r ∧ R r a) h k a g := by
  obtain ⟨af, ai, ao, fl, os, D, l⟩ := q
  refine ⟨af, ai, ao, fl, os, ⟨⟨rfl, D.ra⟩, D.ga, ⟨rfl, D.rf⟩, D.gf, ⟨rfl, D.ri⟩, D.gi, ⟨rfl, D.ro⟩, D.go, ?_⟩, l⟩
  have F := D.fr
  revert F
  cases g.ph with
  | st => intro F; obtain ⟨w, e, z⟩ := F; exact ⟨w, e, z.of rfl rfl⟩
  | run p => intro F; obtain ⟨w, u, e, z1, z2⟩ := F; exact ⟨w, u, e, z1.of rfl rfl, z2.of rfl rfl⟩
  | dn => intro F; exact F
/-- the tags of a world -/
def ofO : Tg → Prop
  | .wo => True
  | .st => True
  | .nu => True
  | .re => True
  | .re0 => True
  | .wl => True
  | .mv => True
  | .wk _ => True
  | .frs _ => True
  | .f0 _ => True
  | .f1 _ => True
  | .s0 _ => True
  | .s1 _ => True
  | .ins _ => True
  | .outs _ => True
  | _ => False
theorem ofO_of {k : Nat} {r : Tg} (h : ofW k r) : ofO r := by cases r <;> first | exact trivial | exact h.elim
theorem WoAt.of {R : Tg → Nat → Prop} {h : IH} {w : Nat} {G : Wo} (q : WoAt R h w G) : WoAt (fun r a => ofO r ∧ R r a) h w G := by
  obtain ⟨st, nu, re, r0, wl, mv, ws, D⟩ := q
  exact ⟨st, nu, re, r0, wl, mv, ws, ⟨trivial, D.rw_⟩, D.gw, ⟨trivial, D.rs⟩, D.gs, ⟨trivial, D.rn⟩, D.gn, ⟨trivial, D.rr⟩, D.gr, ⟨trivial, D.r0_⟩, D.g0, ⟨trivial, D.rl⟩, D.gl, D.len,
    fun k g e => let ⟨a, e2, z⟩ := D.wk k g e; ⟨a, e2, z.of.rx fun r b c x gb => ⟨⟨ofO_of x.1, x.2⟩, gb⟩⟩, ⟨trivial, D.rm⟩, D.gm⟩
structure MaD (t : Nat → Tg) (h : IH) (m : Nat) (G : Wo) (Ms : List Wo) (w mk : Nat) (mws : List Nat) : Prop where
  tm : t m = .mach
  gm : h.get m = some (maC (.loc w) (.loc mk))
  tk : t mk = .mks
  gk_ : h.get mk = some (.lst (mws.map .loc))
  wo : WoAt (Cur t) h w G
  len : mws.length = Ms.length
  old : ∀ (j : Nat) (g : Wo), Ms[j]? = some g → ∃ b, mws[j]? = some b ∧ WoAt (fun _ a => t a = .old) h b g
def MaAt (t : Nat → Tg) (h : IH) (m : Nat) (G : Wo) (Ms : List Wo) : Prop := ∃ w mk mws, MaD t h m G Ms w mk mws
/-- what a machine's work leaves alone -/
def ofM : Tg → Prop
  | .mach => True
  | .mks => True
  | r => ofO r
structure Mz (t : Nat → Tg) (h : IH) (t' : Nat → Tg) (h' : IH) : Prop where
  n : h.n ≤ h'.n
  tg : ∀ a, a < h.n → t' a = t a
  k : ∀ a, a < h.n → ¬ ofM (t a) → h'.get a = h.get a
theorem Mz.refl {t : Nat → Tg} {h : IH} : Mz t h t h := ⟨Nat.le_refl _, fun _ _ => rfl, fun _ _ _ => rfl⟩
theorem Mz.trans {t t1 t2 : Nat → Tg} {h h1 h2 : IH} (x : Mz t h t1 h1) (y : Mz t1 h1 t2 h2) : Mz t h t2 h2 :=
  ⟨Nat.le_trans x.n y.n, fun a ha => (y.tg a (Nat.lt_of_lt_of_le ha x.n)).trans (x.tg a ha), fun a ha hn => (y.k a (Nat.lt_of_lt_of_le ha x.n) (by rw [x.tg a ha]; exact hn)).trans (x.k a ha hn)⟩
theorem Mz.keep {t : Nat → Tg} {h h' : IH} (k : Keep h h') : Mz t h t h' := ⟨k.1, fun _ _ => rfl, fun a ha _ => k.2 a ha⟩
theorem Mz.up {t t' : Nat → Tg} {h h' : IH} (u : Up t h t' h') : Mz t h t' h' := ⟨u.k.1, u.tg, fun a ha _ => u.k.2 a ha⟩
theorem Mz.mv {i : Nat} {t t' : Nat → Tg} {h h' : IH} (u : Mv i t h t' h') : Mz t h t' h' := ⟨u.n, u.tg, fun a ha n => u.k a ha fun z => n (by
  have z := ofO_of z
  revert z
  cases t a <;> first | exact fun z => z | exact fun z => z.elim)⟩
theorem Mz.set {t : Nat → Tg} {h : IH} {a : Nat} {c0 c : Cell} (g : h.get a = some c0) (o : ofM (t a)) : Mz t h t (h.set a c) := ⟨Nat.le_refl _, fun _ _ => rfl, fun b _ hn => gs_ne g fun e => hn (e ▸ o)⟩
theorem fns_at {f : Nat} (hf : f ≤ 2) : ([.tup [.int 0, .tup (bod 0)], .tup [.int 0, .tup (bod 1)], .tup [.int 0, .tup (bod 2)]] : List W)[f]? = some (.tup [.int 0, .tup (bod f)]) := by
  match f, hf with
  | 0, _ => rfl
  | 1, _ => rfl
  | 2, _ => rfl
def stG (fs : List Nat) : Wo := ⟨fs.map fun f => ⟨f, .st, 0, 0⟩, []⟩
def wkN (i : Nat) : Nat → Tg := fun j => if j = 0 then .wk i else if j = 1 then .f0 i else if j = 2 then .s0 i else if j = 3 then .frs i else if j = 4 then .ins i else .outs i
theorem ph37 (k : Nat) (fs : List Nat) (f0 : fs ≠ []) (f3 : fs.length ≤ 3) (hf : ∀ f ∈ fs, f ≤ 2) {h : IH} {a q : Nat} {t : Nat → Tg} (ga : h.get a = some (.ins 10 [])) (ta : t a = .mach) (gq : h.get q = some (.lst [.int 0])) :
    (Phi gk tab (k + 8) 37 [.loc a, PRw, .tup (fs.map fun f => .int (f : Nat)), .loc q] h).Wp fun x h' => x = .non ∧ Fr a h h' ∧ ∃ t', (∀ b, b < h.n → t' b = t b) ∧ MaAt t' h' a (stG fs) [] := by
  rw [phi37, x_callB (by rfl)]
  show (m37 _ [some (.loc a), some PRw, some (.tup (fs.map fun f => .int (f : Nat))), some (.loc q), none, none, none] h).Wp _
  unfold m37
  have la := IH.get_lt ga
  have lq := IH.get_lt gq
  have nqa : q ≠ a := fun e => by subst e; rw [gq] at ga; cases ga
  rw [x_seq, x_expr, x_call, x_cons, v1, x_nil]
  refine ph10p k h fun h1 k1 => ?_
  rw [x_seq, x_expr, x_call, x_cons, v1, x_cons, v2, x_nil]
  refine ph16p (k + 4) fs f0 f3 hf h1 fun h2 k2 => ?_
  rw [x_seq, x_expr, x_call, x_cons, v1, x_cons, v3, x_nil]
  refine ph15p (k + 4) (k2.at (k1.at gq)) fun h3 k3 => ?_
  have k3 := k1.trans (k2.trans k3)
  rw [x_seq, y_asg]
  refine mk_wo (k + 5) ?_
  rw [x_cons, v1, x_nil]
  refine ⟨rfl, fun h4 p1 k4 W4 S4 N4 R04 RE4 L4 M4 => ?_⟩
  have k4' := k3.trans k4
  have l3 : h.n ≤ h3.n := k3.1
  rw [x_gf, v0, x_fset (k4'.at ga) rfl]
  generalize e5 : IH.set _ _ _ = h5
  obtain ⟨n5', r5, A5⟩ := set_f (k4'.at ga) e5
  have A5 : h5.get a = some (.ins 10 [("world", .loc h3.n)]) := A5
  have fw : ∀ {hh : IH} {b : Nat} {P : W → IH → Prop}, hh.get a = some (.ins 10 [("world", .loc b)]) → (oFld [10] "world" (.loc a) hh).Wp P = P (.loc b) hh := fun g => x_fld g rfl rfl
  rw [x_seq]
  refine for_lst ?_
  rw [v3]
  have q5 := r5.at (k4'.at gq) nqa
  refine ⟨q, _, rfl, q5, fun i e h' => (i = 0 ∧ e = [some (.loc a), some PRw, some (.tup (fs.map fun f => .int (f : Nat))), some (.loc q), none, none, none] ∧ h' = h5) ∨
    (i = 1 ∧ e = [some (.loc a), some PRw, some (.tup (fs.map fun f => .int (f : Nat))), some (.loc q), some (.int 0), none, none] ∧ h5.n ≤ h'.n ∧ (∀ c, c < h5.n → c ≠ h3.n → c ≠ h3.n + 2 → c ≠ h3.n + 5 → h'.get c = h5.get c) ∧
      h'.get (h3.n + 2) = some (.lst [.str "awake"]) ∧ ∃ re' r0', h'.get h3.n = some (woC PRw (.loc (h3.n + 2)) (.loc (h3.n + 3)) (.loc re') (.loc (h3.n + 6)) (.loc (h3.n + 7))) ∧ h'.get re' = some (.lst [.loc r0']) ∧ h'.get r0' = some (.lst []) ∧ h5.n ≤ r0' ∧ h5.n ≤ re'),
    .inl ⟨rfl, rfl, rfl⟩, fun i e h' y hI hy => ?_, fun e h' hI => ?_⟩
  · rcases hI with ⟨ei, ee, eh⟩ | ⟨ei, _⟩
    · subst ei; subst ee; subst eh; cases hy
      refine ⟨q5, ?_⟩
      rw [n4, x_seq, x_if, x_not, x_tru, x_meth, x_e1, v0, fw A5, m_wo (r5.at W4 (by omega)) rfl rfl, x_cons, v4, x_nil]
      refine ph24 (k + 2) (r5.at W4 (by omega)) (r5.at S4 (by omega)) (r5.at RE4 (by omega)) (r5.at R04 (by omega)) fun h6 re' r0' z1 z2 z3 z4 z5 z6 z7 z8 => ?_
      rw [x_truB, nt_and, x_next, x_next]
      exact .inr ⟨rfl, rfl, z1, z2, z4, re', r0', z3, z5, z6, z7, z8⟩
    · subst ei; exact nomatch hy
  rcases hI with ⟨ei, _⟩ | ⟨_, ee, z1, z2, S6, re', r0', W6, E6, O6, z7, z8⟩
  · exact nomatch ei
  subst ee
  have lw4 : h4.n = h3.n + 8 := p1
  refine ⟨(z2 q (by omega) (by omega) (by omega) (by omega)).trans q5, ?_⟩
  have A6 : h'.get a = some (.ins 10 [("world", .loc h3.n)]) := (z2 a (by omega) (by omega) (by omega) (by omega)).trans A5
  have N6 : h'.get (h3.n + 3) = some (.dk []) := (z2 _ (by omega) (by omega) (by omega) (by omega)).trans (r5.at N4 (by omega))
  have L6 : h'.get (h3.n + 6) = some (.lst []) := (z2 _ (by omega) (by omega) (by omega) (by omega)).trans (r5.at L4 (by omega))
  have M6 : h'.get (h3.n + 7) = some (.lst []) := (z2 _ (by omega) (by omega) (by omega) (by omega)).trans (r5.at M4 (by omega))
  have K6 : Fr a h h' := ⟨by omega, fun b hb nb => by rw [z2 b (by omega) (by omega) (by omega) (by omega), r5.2 b (by omega) nb, k4'.2 b hb]⟩
  clear z2
  have ner : re' ≠ r0' := fun e => by subst e; rw [E6] at O6; cases O6
  obtain ⟨T0, hT⟩ : ∃ T0 : Nat → Tg, (∀ b, b < h.n → T0 b = t b) ∧ T0 h3.n = .wo ∧ T0 (h3.n + 2) = .st ∧ T0 (h3.n + 3) = .nu ∧ T0 (h3.n + 6) = .wl ∧ T0 (h3.n + 7) = .mv ∧ T0 re' = .re ∧ T0 r0' = .re0 := by
    refine ⟨fun b => if b < h.n then t b else if b = h3.n then .wo else if b = h3.n + 2 then .st else if b = h3.n + 3 then .nu else if b = h3.n + 6 then .wl else if b = h3.n + 7 then .mv else if b = re' then .re else .re0, fun b hb => if_pos hb, ?_, ?_, ?_, ?_, ?_, ?_, ?_⟩ <;> dsimp only
    · rw [if_neg (by omega), if_pos rfl]
    · rw [if_neg (by omega), if_neg (by omega), if_pos rfl]
    · rw [if_neg (by omega), if_neg (by omega), if_neg (by omega), if_pos rfl]
    · rw [if_neg (by omega), if_neg (by omega), if_neg (by omega), if_neg (by omega), if_pos rfl]
    · rw [if_neg (by omega), if_neg (by omega), if_neg (by omega), if_neg (by omega), if_neg (by omega), if_pos rfl]
    · rw [if_neg (by omega), if_neg (by omega), if_neg (by omega), if_neg (by omega), if_neg (by omega), if_neg (by omega), if_pos rfl]
    · rw [if_neg (by omega), if_neg (by omega), if_neg (by omega), if_neg (by omega), if_neg (by omega), if_neg (by omega), if_neg (by omega)]
  obtain ⟨T1, T2, T3, T4, T5, T6, T7, T8⟩ := hT
  rw [x_seq]
  refine for_enuT ?_
  rw [v2]
  refine ⟨_, rfl, fun j e hh => Fr (h3.n + 6) h' hh ∧ ∃ (T : Nat → Tg) (bs : List Nat) (e5 e6 : Option W), e = [some (.loc a), some PRw, some (.tup (fs.map fun f => .int (f : Nat))), some (.loc q), some (.int 0), e5, e6] ∧ (∀ b, b < h'.n → T b = T0 b) ∧ hh.get (h3.n + 6) = some (.lst (bs.map .loc)) ∧ bs.length = j ∧ ∀ (j' f : Nat), j' < j → fs[j']? = some f → ∃ b, bs[j']? = some b ∧ WkAt (Cur T) hh j' b ⟨f, .st, 0, 0⟩,
    ⟨Fr.refl, T0, [], none, none, rfl, fun _ _ => rfl, L6, rfl, fun _ _ z => absurd z (Nat.not_lt_zero _)⟩, fun j e hh y ⟨fr, T, bs, e5, e6, ee, a1, a2, a3, a4⟩ hy => ?_, fun e hh ⟨fr, T, bs, e5, e6, ee, a1, a2, a3, a4⟩ => ?_⟩
  · subst ee
    rw [List.getElem?_map] at hy
    cases ef : fs[j]? with
    | none => rw [ef] at hy; cases hy
    | some f =>
    rw [ef] at hy
    have hy : W.int (f : Nat) = y := Option.some.inj hy
    subst hy
    have hf2 := hf f (List.mem_of_getElem? ef)
    have hj : j < fs.length := (List.getElem?_eq_some_iff.mp ef).1
    have la6 := IH.get_lt A6
    have lw6 := IH.get_lt W6
    rw [x_tp]
    refine ⟨rfl, ?_⟩
    rw [x_gs1, n5, x_gs1, n6, x_gs0]
    have A7 := fr.at A6 (by omega)
    have W7 := fr.at W6 (by omega)
    rw [x_seq, x_expr, x_mt, x_e1, x_e1, v0, fw A7, wo_wl W7]
    refine ⟨isLst_at a2, ?_⟩
    rw [x_cons]
    refine mk_wk (k + 3) ?_
    rw [x_cons, v5, x_cons, v6, x_cons, x_e2, x_e2, x_e2, v1, x_C, pr_eq, x_ixT1, v6]
    show ((oIx (.tup [.tup [.int 0, .tup (bod 0)], .tup [.int 0, .tup (bod 1)], .tup [.int 0, .tup (bod 2)]]) (.int (f : Nat)) hh).Wp _)
    rw [x_ixT (Int.natCast_nonneg _) (by rw [Int.toNat_natCast]; exact fns_at hf2), x_C, x_ixT0, x_nil]
    refine ⟨_, _, _, rfl, fun h8 p1 k8 G8 F8 S8 L8 I8 O8 => ?_⟩
    have ll := IH.get_lt a2
    rw [x_nil, x_app (k8.at a2) (by rw [List.length_map]; omega), x_next]
    generalize e9 : IH.set _ _ _ = h9
    obtain ⟨n9', r9, B9⟩ := set_f (k8.at a2) e9
    refine ⟨fr.trans ((k8.fr (p := h3.n + 6)).trans r9), tgs hh.n T (wkN j), bs ++ [hh.n], _, _, rfl, fun b hb => ?_, ?_, by rw [List.length_append, a3]; rfl, fun j' f' hj' ef' => ?_⟩
    · have := fr.1
      rw [tgs_lo (by omega)]; exact a1 b hb
    · rw [B9, List.map_append]; rfl
    · by_cases ej : j' = j
      · subst ej; rw [ef] at ef'; cases ef'
        refine ⟨hh.n, by rw [← a3]; simp, hh.n + 3, hh.n + 4, hh.n + 5, [.loc (hh.n + 1)], [], ⟨?_, r9.at G8 (by omega), ?_, r9.at L8 (by omega), ?_, r9.at I8 (by omega), ?_, r9.at O8 (by omega), .loc (hh.n + 1), rfl, hh.n + 1, hh.n + 2, .int 0, .int 0, .int 0, rfl, ?_, r9.at F8 (by omega), ?_, r9.at S8 (by omega)⟩, Nat.le_refl _⟩
        · exact tgs_hi (i := 0)
        · show tgs _ _ _ _ = _; rw [tgs_hi]; rfl
        · show tgs _ _ _ _ = _; rw [tgs_hi]; rfl
        · show tgs _ _ _ _ = _; rw [tgs_hi]; rfl
        · show tgs _ _ _ _ = _; rw [tgs_hi]; rfl
        · show tgs _ _ _ _ = _; rw [tgs_hi]; rfl
      · obtain ⟨b, hb, wb⟩ := a4 j' f' (by omega) ef'
        refine ⟨b, by rw [List.getElem?_append_left (List.getElem?_eq_some_iff.mp hb).1]; exact hb, wb.of.rx fun r c cc x z => ⟨by show tgs _ _ _ _ = _; rw [tgs_lo (IH.get_lt z)]; exact x.2, r9.at (k8.at z) fun e => ?_⟩⟩
        have x1 := x.1
        rw [← x.2, e, a1 _ (by omega), T5] at x1
        exact x1
  · subst ee
    have la6 := IH.get_lt A6
    have lw6 := IH.get_lt W6
    have lE := IH.get_lt E6
    have lO := IH.get_lt O6
    have lf := fr.1
    rw [x_seq, y_asg, x_lst, x_nil]
    refine ⟨rfl, ?_⟩
    generalize eA : IH.new _ _ = hA
    obtain ⟨nA', kA, SA⟩ := new_f eA
    have A8 := kA.at (fr.at A6 (by omega))
    rw [x_gf, v0, x_fset A8 rfl, x_next]
    generalize eB : IH.set _ _ _ = hB
    obtain ⟨nB', rB, AB⟩ := set_f A8 eB
    have fB : Fr a hh hB := (kA.fr (p := a)).trans rB
    have u : ∀ {b : Nat} {c : Cell}, b ≠ h3.n + 6 → b ≠ a → h'.get b = some c → hB.get b = some c := fun n1 n2 g => fB.at (fr.at g n1) n2
    have lo : ∀ b, b < h'.n → tgs hh.n T (fun _ => .mks) b = T0 b := fun b hb => by rw [tgs_lo (by omega)]; exact a1 b hb
    refine ⟨rfl, ⟨by omega, fun b hb nb => ?_⟩, tgs hh.n T fun _ => .mks, fun b hb => ?_, h3.n, hh.n, [], ⟨?_, AB, tgs_hi (i := 0), rB.at SA (by omega), ⟨h3.n + 2, h3.n + 3, re', r0', h3.n + 6, h3.n + 7, bs, ⟨?_, u (by omega) (by omega) W6, ?_, u (by omega) (by omega) S6, ?_, u (by omega) (by omega) N6, ?_, u (by omega) (by omega) E6, ?_, u (by omega) (by omega) O6, ?_, fB.at a2 (by omega), ?_, fun j g hg => ?_, ?_, u (by omega) (by omega) M6⟩⟩, rfl, fun j g hg => nomatch hg⟩⟩
    · rw [fB.2 b (by omega) nb, fr.2 b (by omega) (by omega)]; exact K6.2 b hb nb
    · rw [lo b (by omega)]; exact T1 b hb
    · rw [lo a (by omega), T1 a la]; exact ta
    · exact (lo _ (by omega)).trans T2
    · exact (lo _ (by omega)).trans T3
    · exact (lo _ (by omega)).trans T4
    · exact (lo _ (by omega)).trans T7
    · exact (lo _ (by omega)).trans T8
    · exact (lo _ (by omega)).trans T5
    · rw [a3]; unfold stG; rw [List.length_map, List.length_map]
    · unfold stG at hg
      dsimp only at hg
      rw [List.getElem?_map] at hg
      cases ef : fs[j]? with
      | none => rw [ef] at hg; cases hg
      | some f =>
      rw [ef] at hg; cases hg
      obtain ⟨b, hb, wb⟩ := a4 j f (by rw [List.length_map]; exact (List.getElem?_eq_some_iff.mp ef).1) ef
      refine ⟨b, hb, wb.of.rx fun r c cc x z => ⟨by show tgs _ _ _ _ = _; rw [tgs_lo (IH.get_lt z)]; exact x.2, fB.at z fun e => ?_⟩⟩
      have x1 := x.1
      rw [← x.2, e, a1 _ (by omega), T1 _ la, ta] at x1
      exact x1
    · exact (lo _ (by omega)).trans T6
end K85

set_option linter.all false
set_option linter.unusedSimpArgs false
set_option maxRecDepth 100000
set_option maxHeartbeats 1000000
namespace K85
open PySem Fw
/-! ### a machine's methods -/
structure Mo (t : Nat → Tg) (h : IH) (t' : Nat → Tg) (h' : IH) : Prop where
  n : h.n ≤ h'.n
  tg : ∀ a, a < h.n → t' a = t a
  k : ∀ a, a < h.n → ¬ ofO (t a) → h'.get a = h.get a
theorem Mo.refl {t : Nat → Tg} {h : IH} : Mo t h t h := ⟨Nat.le_refl _, fun _ _ => rfl, fun _ _ _ => rfl⟩
theorem Mo.trans {t t1 t2 : Nat → Tg} {h h1 h2 : IH} (x : Mo t h t1 h1) (y : Mo t1 h1 t2 h2) : Mo t h t2 h2 :=
  ⟨Nat.le_trans x.n y.n, fun a ha => (y.tg a (Nat.lt_of_lt_of_le ha x.n)).trans (x.tg a ha), fun a ha hn => (y.k a (Nat.lt_of_lt_of_le ha x.n) (by rw [x.tg a ha]; exact hn)).trans (x.k a ha hn)⟩
theorem Mo.keep {t : Nat → Tg} {h h' : IH} (k : Keep h h') : Mo t h t h' := ⟨k.1, fun _ _ => rfl, fun a ha _ => k.2 a ha⟩
theorem Mo.mv {i : Nat} {t t' : Nat → Tg} {h h' : IH} (u : Mv i t h t' h') : Mo t h t' h' := ⟨u.n, u.tg, fun a ha n => u.k a ha fun z => n (ofO_of z)⟩
theorem Mo.set {t : Nat → Tg} {h : IH} {a : Nat} {c0 c : Cell} (g : h.get a = some c0) (o : ofO (t a)) : Mo t h t (h.set a c) := ⟨Nat.le_refl _, fun _ _ => rfl, fun b _ hn => gs_ne g fun e => hn (e ▸ o)⟩
theorem Mo.z {t t' : Nat → Tg} {h h' : IH} (m : Mo t h t' h') : Mz t h t' h' := ⟨m.n, m.tg, fun a ha n => m.k a ha fun z => n (by
  revert z
  cases t a <;> first | exact fun z => z | exact fun z => z.elim)⟩
theorem Mo.at {t t' : Nat → Tg} {h h' : IH} (m : Mo t h t' h') {a : Nat} {c : Cell} (g : h.get a = some c) (n : ¬ ofO (t a)) : t' a = t a ∧ h'.get a = some c := ⟨m.tg a (IH.get_lt g), (m.k a (IH.get_lt g) n).trans g⟩
theorem MaD.mo {t t' : Nat → Tg} {h h' : IH} {m : Nat} {G G' : Wo} {Ms : List Wo} {w mk : Nat} {mws : List Nat} (D : MaD t h m G Ms w mk mws) (x : Mo t h t' h') (W' : WoAt (Cur t') h' w G') : MaD t' h' m G' Ms w mk mws := by
  have h1 := x.at D.gm (by rw [D.tm]; exact id)
  have h2 := x.at D.gk_ (by rw [D.tk]; exact id)
  refine ⟨h1.1.trans D.tm, h1.2, h2.1.trans D.tk, h2.2, W', D.len, fun j g hg => ?_⟩
  obtain ⟨b, hb, z⟩ := D.old j g hg
  exact ⟨b, hb, z.rx fun r a c e ga => ⟨((x.at ga (by rw [e]; exact id)).1).trans e, (x.at ga (by rw [e]; exact id)).2⟩⟩
/-- a thread changed, the others not -/
theorem WoD.mv {t t' : Nat → Tg} {h h' : IH} {w : Nat} {G : Wo} {st nu re r0 wl mv : Nat} {ws : List Nat} (D : WoD (Cur t) h w G st nu re r0 wl mv ws) {i a : Nat} {g' : Wk} (ha : ws[i]? = some a) (M : Mv i t h t' h') (W' : WkAt (Cur t') h' i a g') : WoD (Cur t') h' w ⟨G.wks.set i g', G.mv⟩ st nu re r0 wl mv ws := by
  have x : ∀ {r : Tg} {b : Nat} {c : Cell}, ¬ ofW i r → t b = r → h.get b = some c → t' b = r ∧ h'.get b = some c := fun n e gb => ⟨(M.tg _ (IH.get_lt gb)).trans e, (M.k _ (IH.get_lt gb) (by rw [e]; exact n)).trans gb⟩
  refine ⟨(x id D.rw_ D.gw).1, (x id D.rw_ D.gw).2, (x id D.rs D.gs).1, (x id D.rs D.gs).2, (x id D.rn D.gn).1, (x id D.rn D.gn).2, (x id D.rr D.gr).1, (x id D.rr D.gr).2, (x id D.r0_ D.g0).1, (x id D.r0_ D.g0).2, (x id D.rl D.gl).1, (x id D.rl D.gl).2,
    by rw [List.length_set]; exact D.len, fun k g e => ?_, (x id D.rm D.gm).1, (x id D.rm D.gm).2⟩
  dsimp only at e
  rw [List.getElem?_set] at e
  by_cases ik : i = k
  · subst ik
    rw [if_pos rfl] at e
    split at e
    · cases e; exact ⟨a, ha, W'⟩
    · cases e
  · rw [if_neg ik] at e
    obtain ⟨b, hb, z⟩ := D.wk k g e
    refine ⟨b, hb, z.of.rx fun r b c q gb => x (fun o => ik ?_) q.2 gb⟩
    have o2 := q.1
    cases r <;> first | exact o.elim | exact o.symm.trans o2
theorem WoD.at_ {t : Nat → Tg} {h : IH} {w : Nat} {G : Wo} {st nu re r0 wl mv : Nat} {ws : List Nat} (D : WoD (Cur t) h w G st nu re r0 wl mv ws) {i : Nat} {g : Wk} (e : G.wks[i]? = some g) : ∃ a af ai ao fl os, ws[i]? = some a ∧ WkD (Cur t) h i a g af ai ao fl os ∧ os.length ≤ pN g.ph := by
  obtain ⟨a, ha, af, ai, ao, fl, os, E, l⟩ := D.wk i g e
  exact ⟨a, af, ai, ao, fl, os, ha, E, l⟩
/-- a thread by its number -/
theorem ph38 (k : Nat) {h : IH} {m w mk wl i a : Nat} {pr st nu re mv : W} {ws : List Nat} (gm : h.get m = some (maC (.loc w) (.loc mk))) (gw : h.get w = some (woC pr st nu re (.loc wl) mv)) (gl : h.get wl = some (.lst (ws.map .loc))) (ha : ws[i]? = some a) : Phi gk tab (k + 2) 38 [.loc m, .int i] h = .ok (.loc a) h := by
  refine ok_of ?_
  rw [phi38, x_callB (by rfl)]
  show (m38 _ [some (.loc m), some (.int i)] h).Wp _
  unfold m38
  have li : i < ws.length := (List.getElem?_eq_some_iff.mp ha).1
  rw [x_seq, x_if, x_not, x_tru, x_call, x_cons, v1, x_cons, x_C, x_cons, x_e2, x_eA, x_cons, x_e1, x_e1, v0, ma_wo gm, wo_wl gw, x_nil, x_lenL gl, x_C, x_sub, x_nil, ph1p k, Rs.Wp_ok, List.length_map, decide_eq_true (show (0 : Int) ≤ (i : Int) ∧ (i : Int) ≤ (ws.length : Int) - 1 by omega), x_truB, nt_and, x_next]
  rw [x_seq, y_ret, x_e2, x_e1, x_e1, v0, ma_wo gm, wo_wl gw, v1, x_ix gl (Int.natCast_nonneg _) (by rw [Int.toNat_natCast, List.getElem?_map, ha]; rfl)]
  exact ⟨rfl, rfl⟩
def isOdd (o : W) : Prop := o = .int (-1) ∨ o = .int 65536 ∨ o = .bl true ∨ o = .non
theorem ph1o (k : Nat) {o : W} (ho : isOdd o) (h : IH) : Phi gk tab (k + 1) 1 [o, .int 0, .int 65535] h = .ok (.bl false) h := by
  rw [phi1]
  rcases ho with e | e | e | e <;> subst e <;> kernel_rfl
theorem s_not {t : ET} {b : Bool} {e : Fw.Env} {h h1 : IH} (q : t e h = .ok b h1) : tNot t e h = .ok (!b) h1 := by unfold tNot; rw [q]; rfl
theorem s_tru {x : EE} {b : Bool} {e : Fw.Env} {h h1 : IH} (q : x e h = .ok (.bl b) h1) : tTru x e h = .ok b h1 := by unfold tTru; rw [q]; rfl
theorem callB_ex {b : SS} {n m c : Nat} {ws : List W} {h h1 : IH} {e : Fw.Env} (hl : ws.length = n) (q : b (ws.map some ++ List.replicate (m - ws.length) none) h = .ex c e h1) : callB b n m ws h = .exc c h1 := by
  unfold callB
  have z : Nat.beq ws.length n = true := by rw [hl]; exact Nat.beq_refl n
  rw [z]
  show runBody m b ws h = _
  unfold runBody
  rw [q]
theorem ph39o (k : Nat) {h : IH} {m w mk wl i a : Nat} {pr st nu re mv o : W} {ws : List Nat} (gm : h.get m = some (maC (.loc w) (.loc mk))) (gw : h.get w = some (woC pr st nu re (.loc wl) mv)) (gl : h.get wl = some (.lst (ws.map .loc))) (ha : ws[i]? = some a) (ho : isOdd o) : Phi gk tab (k + 3) 39 [.loc m, .int i, o] h = .exc 3 h := by
  rw [phi39]
  have q1 : (eMeth (Phi gk tab (k + 2)) [(10, 38)] "worker" (eVar 0) (aCons (eVar 1) aNil)) [some (.loc m), some (.int i), some o, none] h = .ok (.loc a) h := by
    rw [meth_eq (h1 := h) (h2 := h) (ws := [.int i]) rfl gm rfl rfl rfl]; exact ph38 k gm gw gl ha
  have q2 : (tNot (tTru (eCall (Phi gk tab (k + 2)) 1 (aCons (eVar 2) (aCons (eC (.int 0)) (aCons (eC (.int 65535)) aNil)))))) [some (.loc m), some (.int i), some o, some (.loc a)] h = .ok true h := by
    refine s_not (b := false) (s_tru ?_)
    show Phi gk tab (k + 2) 1 [o, .int 0, .int 65535] h = _
    exact ph1o (k + 1) ho h
  refine callB_ex rfl (?_ : m39 (Phi gk tab (k + 2)) [some (.loc m), some (.int i), some o, none] h = .ex 3 [some (.loc m), some (.int i), some o, some (.loc a)] h)
  unfold m39
  rw [seq_nx (asg_ok q1)]
  show sSeq _ _ [some (.loc m), some (.int i), some o, some (.loc a)] h = _
  refine seq_ex ?_
  rw [if_ok q2]
  rfl
theorem ph39r (k : Nat) {h : IH} {m w mk wl i a : Nat} {pr st nu re mv nn f u fr is os en : W} {ws : List Nat} (gm : h.get m = some (maC (.loc w) (.loc mk))) (gw : h.get w = some (woC pr st nu re (.loc wl) mv)) (gl : h.get wl = some (.lst (ws.map .loc))) (ha : ws[i]? = some a) (ga : h.get a = some (wkC nn f u fr is (.int 100) os en)) : Phi gk tab (k + 3) 39 [.loc m, .int i, .int 1] h = .exc 6 h := by
  rw [phi39]
  have q1 : (eMeth (Phi gk tab (k + 2)) [(10, 38)] "worker" (eVar 0) (aCons (eVar 1) aNil)) [some (.loc m), some (.int i), some (.int 1), none] h = .ok (.loc a) h := by
    rw [meth_eq (h1 := h) (h2 := h) (ws := [.int i]) rfl gm rfl rfl rfl]; exact ph38 k gm gw gl ha
  have q2 : (tNot (tTru (eCall (Phi gk tab (k + 2)) 1 (aCons (eVar 2) (aCons (eC (.int 0)) (aCons (eC (.int 65535)) aNil)))))) [some (.loc m), some (.int i), some (.int 1), some (.loc a)] h = .ok false h := by
    refine s_not (b := true) (s_tru ?_)
    show Phi gk tab (k + 2) 1 [.int 1, .int 0, .int 65535] h = _
    rw [ph1p (k + 1)]; rfl
  have q3 : (tBol (e2 oEq (e1 (oFld [8] "fed") (eVar 3)) (eC (.int 100)))) [some (.loc m), some (.int i), some (.int 1), some (.loc a)] h = .ok true h := ok_of (by
    rw [x_bol, x_e2, x_e1, v3, wk_fd ga, x_C, x_eqI, x_bolW]; exact ⟨rfl, rfl⟩)
  refine callB_ex rfl (?_ : m39 (Phi gk tab (k + 2)) [some (.loc m), some (.int i), some (.int 1), none] h = .ex 6 [some (.loc m), some (.int i), some (.int 1), some (.loc a)] h)
  unfold m39
  rw [seq_nx (asg_ok q1)]
  have q2' : sIf (tNot (tTru (eCall (Phi gk tab (k + 2)) 1 (aCons (eVar 2) (aCons (eC (.int 0)) (aCons (eC (.int 65535)) aNil)))))) (sSeq (sRaise 3) sNext) sNext [some (.loc m), some (.int i), some (.int 1), some (.loc a)] h = .nx [some (.loc m), some (.int i), some (.int 1), some (.loc a)] h := by rw [if_ok q2]; rfl
  show sSeq _ _ [some (.loc m), some (.int i), some (.int 1), some (.loc a)] h = _
  rw [seq_nx q2']
  refine seq_ex ?_
  rw [if_ok q3]
  rfl
def fdG (g : Wk) : Wk := { g with ins := g.ins + 1, fed := g.fed + 1 }
theorem ph39 (k : Nat) {t : Nat → Tg} {h : IH} {m : Nat} {G : Wo} {Ms : List Wo} {i : Nat} {g : Wk} (M : MaAt t h m G Ms) (hg : G.wks[i]? = some g) (V : Val g) (lt : g.fed < 100) :
    (Phi gk tab (k + 3) 39 [.loc m, .int i, .int 1] h).Wp fun x h' => x = .non ∧ ∃ t', Mo t h t' h' ∧ MaAt t' h' m ⟨G.wks.set i (fdG g), G.mv⟩ Ms := by
  obtain ⟨w, mk, mws, MD⟩ := M
  obtain ⟨st, nu, re, r0, wl, mv, ws, D⟩ := MD.wo
  obtain ⟨a, af, ai, ao, fl, os, ha, E, lo⟩ := D.at_ hg
  rw [phi39, x_callB (by rfl)]
  show (m39 _ [some (.loc m), some (.int i), some (.int 1), none] h).Wp _
  unfold m39
  rw [x_seq, y_asg, x_meth, v0, m_ma MD.gm rfl rfl, x_cons, v1, x_nil, ph38 k MD.gm D.gw D.gl ha, Rs.Wp_ok, n3]
  rw [x_seq, x_if, x_not, x_tru, x_call, x_cons, v2, x_cons, x_C, x_cons, x_C, x_nil, ph1p (k + 1), Rs.Wp_ok, decide_eq_true (show (0 : Int) ≤ 1 ∧ (1 : Int) ≤ 65535 by decide), x_truB, nt_and, x_next]
  rw [x_seq, x_if, x_bol, x_e2, x_e1, v3, wk_fd E.ga, x_C, x_eqI, decide_eq_false (show ¬ ((g.fed : Int) = 100) by omega), x_bolW, ff_and, x_next]
  rw [x_seq, x_expr, x_mt, x_e1, v3, wk_is E.ga]
  refine ⟨isLst_at E.gi, ?_⟩
  rw [x_cons, v2, x_nil, x_app E.gi (by rw [List.length_replicate]; have := V.2.1; omega)]
  have E1 := set_ins E (g.ins + 1)
  have es : List.replicate g.ins (W.int 1) ++ [.int 1] = List.replicate (g.ins + 1) (.int 1) := by rw [List.replicate_succ']
  rw [es]
  have M1 : Mv i t h t (h.set ai (.lst (List.replicate (g.ins + 1) (.int 1)))) := Mv.set E.gi (by rw [E.ri]; exact rfl)
  generalize h.set ai (.lst (List.replicate (g.ins + 1) (.int 1))) = h1 at E1 M1 ⊢
  rw [x_seq]
  refine y_aug ?_
  rw [v3]
  refine ⟨a, 8, _, g.fed, rfl, E1.ga, rfl, rfl, ?_⟩
  rw [x_next]
  have ga1 := E1.ga
  have M2 : Mv i t h1 t (h1.set a (wkC (.int i) (.int g.f) (.int 0) (.loc af) (.loc ai) (.int ((g.fed : Int) + 1)) (.loc ao) (enW g.ph))) := Mv.set ga1 (by rw [E1.ra]; exact rfl)
  have E2 : WkD (Cur t) (h1.set a (wkC (.int i) (.int g.f) (.int 0) (.loc af) (.loc ai) (.int ((g.fed : Int) + 1)) (.loc ao) (enW g.ph))) i a (fdG g) af ai ao fl os :=
    ⟨E1.ra, gs_same ga1, E1.rf, (gs_ne ga1 (tne E1.ra E1.rf nofun)).trans E1.gf, E1.ri, (gs_ne ga1 (tne E1.ra E1.ri nofun)).trans E1.gi, E1.ro, (gs_ne ga1 (tne E1.ra E1.ro nofun)).trans E1.go, Frs.set E1.fr ga1 E1.ra nofun nofun nofun nofun⟩
  have MM := M1.trans M2
  exact ⟨rfl, t, Mo.mv MM, w, mk, mws, MD.mo (Mo.mv MM) ⟨st, nu, re, r0, wl, mv, ws, D.mv ha MM ⟨af, ai, ao, fl, os, E2, lo⟩⟩⟩
end K85

set_option linter.all false
set_option linter.unusedSimpArgs false
set_option maxRecDepth 100000
set_option maxHeartbeats 1000000
namespace K85
open PySem Fw
def isC (g : Wk) : Bool := match g.ph with
  | .run 0 => decide (g.f ≤ 1)
  | _ => false
theorem choice_ok {g : Wk} (V : Val g) (n : g.ph ≠ .dn) {x0 x1 x2 x4 : Option W} {h : IH} {P : W → IH → Prop} (z : P (.bl (isC g)) h) :
    (eAnd (e2 oIsNot (eVar 3) (eC (.non))) (e2 oIn (e2 oIx (eVar 3) (eC (.int 0))) (eTup (aCons (eC (.str "input")) (aCons (eC (.str "branch")) aNil)))) [x0, x1, x2, some (oneW g), x4] h).Wp P := by
  rw [x_eAnd, x_e2, v3, x_C]
  cases q : g.ph with
  | dn => exact absurd q n
  | st =>
    rw [show oneW g = .non by unfold oneW; rw [q], no_nn, x_andK, ff_and]
    rw [show isC g = false by unfold isC; rw [q]] at z
    exact z
  | run p =>
    rcases V.at_ q with ⟨ef, ep⟩ | ⟨ef, ep⟩ | ⟨ef, ep⟩ | ⟨ef, ep⟩ | ⟨ef, ep⟩ | ⟨ef, ep⟩ <;> subst ep
    · rw [show oneW g = .tup [.str "branch", .int 0] by unfold oneW; rw [q, ef]; rfl, no_tn, x_andK, tt_and, x_e2, x_e2, v3, x_C, x_ixT0, x_tup, x_cons, x_C, x_cons, x_C, x_nil]
      refine ⟨rfl, ?_⟩
      rw [in_br]
      rw [show isC g = true by unfold isC; rw [q, ef]; rfl] at z
      exact z
    · rw [show oneW g = .tup [.str "input", .int 0] by unfold oneW; rw [q, ef]; rfl, no_tn, x_andK, tt_and, x_e2, x_e2, v3, x_C, x_ixT0, x_tup, x_cons, x_C, x_cons, x_C, x_nil]
      refine ⟨rfl, ?_⟩
      rw [in_in]
      rw [show isC g = true by unfold isC; rw [q, ef]; rfl] at z
      exact z
    · rw [show oneW g = .tup [.str "show", .int 0] by unfold oneW; rw [q, ef]; rfl, no_tn, x_andK, tt_and, x_e2, x_e2, v3, x_C, x_ixT0, x_tup, x_cons, x_C, x_cons, x_C, x_nil]
      refine ⟨rfl, ?_⟩
      rw [in_sh]
      rw [show isC g = false by unfold isC; rw [q]; rfl] at z
      exact z
    · rw [show oneW g = .non by unfold oneW; rw [q, ef]; rfl, no_nn, x_andK, ff_and]
      rw [show isC g = false by unfold isC; rw [q]; rfl] at z
      exact z
    · rw [show oneW g = .tup [.str "show", .int 0] by unfold oneW; rw [q, ef]; rfl, no_tn, x_andK, tt_and, x_e2, x_e2, v3, x_C, x_ixT0, x_tup, x_cons, x_C, x_cons, x_C, x_nil]
      refine ⟨rfl, ?_⟩
      rw [in_sh]
      rw [show isC g = false by unfold isC; rw [q, ef]; rfl] at z
      exact z
    · rw [show oneW g = .non by unfold oneW; rw [q, ef]; rfl, no_nn, x_andK, ff_and]
      rw [show isC g = false by unfold isC; rw [q]; rfl] at z
      exact z
/-- with a choice and no wait there is an input -/
theorem isC_ins {g : Wk} (c : isC g = true) (m : stW g = .str "moves") : 0 < g.ins := by
  unfold isC at c
  split at c
  · rename_i q
    have c := of_decide_eq_true c
    unfold stW isWt at m
    rw [q] at m
    dsimp only at m
    by_cases e : g.ins = 0
    · rw [decide_eq_true c, decide_eq_true e] at m
      have m : W.str "waits" = W.str "moves" := m
      exact absurd (W.str.inj m) (by decide)
    · omega
  · cases c
def chI (g : Wk) : Int := if isC g then 1 else 0
theorem WoD.mvs {t : Nat → Tg} {h : IH} {w : Nat} {G : Wo} {st nu re r0 wl mv : Nat} {ws : List Nat} (D : WoD (Cur t) h w G st nu re r0 wl mv ws) (p : Int × Int) : WoD (Cur t) (h.set mv (.lst (G.mv.map pairW ++ [pairW p]))) w ⟨G.wks, G.mv ++ [p]⟩ st nu re r0 wl mv ws := by
  have x : ∀ (r : Tg) {b : Nat} {c : Cell}, r ≠ .mv → t b = r → h.get b = some c → (h.set mv (.lst (G.mv.map pairW ++ [pairW p]))).get b = some c := fun r {b} {c} n e gb => (gs_ne D.gm (tne D.rm e (Ne.symm n))).trans gb
  refine ⟨D.rw_, x .wo nofun D.rw_ D.gw, D.rs, x .st nofun D.rs D.gs, D.rn, x .nu nofun D.rn D.gn, D.rr, x .re nofun D.rr D.gr, D.r0_, x .re0 nofun D.r0_ D.g0, D.rl, x .wl nofun D.rl D.gl, D.len, fun k g e => ?_, D.rm, ?_⟩
  · obtain ⟨b, hb, z⟩ := D.wk k g e
    exact ⟨b, hb, z.of.rx fun r b c q gb => ⟨q.2, x r (fun e => by have q1 := q.1; rw [e] at q1; exact q1) q.2 gb⟩⟩
  · rw [gs_same D.gm, List.map_append]; rfl
theorem ph42 (k : Nat) {t : Nat → Tg} {h : IH} {m : Nat} {G : Wo} {Ms : List Wo} {i : Nat} {g : Wk} (M : MaAt t h m G Ms) (hg : G.wks[i]? = some g) (V : Val g) (l3 : G.wks.length ≤ 3) : (Phi gk tab (k + 5) 42 [.loc m, .int i] h).Wp fun x h' => x = stW g ∧ Keep h h' := by
  obtain ⟨w, mk, mws, MD⟩ := M
  obtain ⟨st, nu, re, r0, wl, mv, ws, D⟩ := MD.wo
  obtain ⟨a, af, ai, ao, fl, os, ha, E, lo⟩ := D.at_ hg
  rw [phi42, x_callB (by rfl)]
  show (m42 _ [some (.loc m), some (.int i)] h).Wp _
  unfold m42
  rw [x_seq, y_ret, x_meth, x_e1, v0, ma_wo MD.gm, m_wo D.gw rfl rfl, x_cons, x_meth, v0, m_ma MD.gm rfl rfl, x_cons, v1, x_nil, ph38 (k + 2) MD.gm D.gw D.gl ha, Rs.Wp_ok, x_nil]
  exact ph28 k D (by rw [D.len]; exact l3) E V
def stepG (G : Wo) (i : Nat) (g : Wk) : Wo := ⟨G.wks.set i (mvG g), G.mv ++ [((i : Int), chI g)]⟩
theorem ph40 (k : Nat) {t : Nat → Tg} {h : IH} {m : Nat} {G : Wo} {Ms : List Wo} {i : Nat} {g : Wk} (M : MaAt t h m G Ms) (hg : G.wks[i]? = some g) (V : Val g) (l3 : G.wks.length ≤ 3) (mo : stW g = .str "moves") (lm : G.mv.length < 1000000) :
    (Phi gk tab (k + 6) 40 [.loc m, .int i] h).Wp fun x h' => x = .non ∧ ∃ t', Mo t h t' h' ∧ MaAt t' h' m (stepG G i g) Ms := by
  obtain ⟨w, mk, mws, MD⟩ := M
  obtain ⟨st, nu, re, r0, wl, mv, ws, D⟩ := MD.wo
  obtain ⟨a, af, ai, ao, fl, os, ha, E, lo⟩ := D.at_ hg
  have n : g.ph ≠ .dn := fun e => by unfold stW at mo; rw [e] at mo; exact absurd (W.str.inj mo) (by decide)
  rw [phi40, x_callB (by rfl)]
  show (m40 _ [some (.loc m), some (.int i), none, none, none] h).Wp _
  unfold m40
  rw [x_seq, y_asg, x_meth, v0, m_ma MD.gm rfl rfl, x_cons, v1, x_nil, ph38 (k + 3) MD.gm D.gw D.gl ha, Rs.Wp_ok, n2]
  rw [x_seq, x_if, x_bol, x_e2, x_meth, x_e1, v0, ma_wo MD.gm, m_wo D.gw rfl rfl, x_cons, v2, x_nil]
  refine (ph28 (k + 1) D (by rw [D.len]; exact l3) E V).mono fun x h1 ⟨ex, k1⟩ => ?_
  rw [ex, mo, x_C, ne_ss, x_bolW, ff_and, x_next]
  have D1 := D.rx k1.rx
  have E1 := E.rx k1.rx
  have MD1 := MD.mo (Mo.keep k1) ⟨st, nu, re, r0, wl, mv, ws, D1⟩
  rw [x_seq, y_asg, x_meth, x_e1, v0, ma_wo MD1.gm, m_wo D1.gw rfl rfl, x_cons, v2, x_nil, ph25 (k + 3) E1 D1.gw n V.1, Rs.Wp_ok, n3]
  rw [x_seq, y_asg]
  refine choice_ok V n ?_
  rw [n4, x_seq, x_expr, x_mt, x_e1, x_e1, v0, ma_wo MD1.gm, wo_mv D1.gw]
  refine ⟨isLst_at D1.gm, ?_⟩
  have tu : ∀ {Q : List W → IH → Prop}, Q [pairW ((i : Int), chI g)] h1 → (aCons (eTup (aCons (eVar 1) (aCons (eIf (tAnd (tTru (eVar 4)) (tBol (e2 oNe (e2 oIx (e1 (oFld [8] "inputs") (eVar 2)) (eC (.int 0))) (eC (.int 0))))) (eC (.int 1)) (eC (.int 0))) aNil))) aNil [some (.loc m), some (.int i), some (.loc a), some (oneW g), some (.bl (isC g))] h1).Wp Q := fun {Q} z => by
    rw [x_cons, x_tup, x_cons, v1, x_cons, x_eIf, x_and, x_tru, v4, x_truB]
    unfold chI at z
    cases c : isC g with
    | true =>
      rw [c, if_pos rfl] at z
      have pi := isC_ins c mo
      rw [tt_and, x_bol, x_e2, x_e2, x_e1, v2, wk_is E1.ga, x_C, x_ix E1.gi (by decide) (show (List.replicate g.ins (W.int 1))[(0 : Int).toNat]? = some (.int 1) by rw [List.getElem?_replicate]; exact if_pos pi), x_C, x_neI, show (!decide ((1 : Int) = 0)) = true from rfl, x_bolW, tt_and, x_C, x_nil]
      refine ⟨rfl, ?_⟩
      rw [x_nil]; exact z
    | false =>
      rw [c, if_neg (by decide)] at z
      rw [ff_and, ff_and, x_C, x_nil]
      refine ⟨rfl, ?_⟩
      rw [x_nil]; exact z
  refine tu ?_
  rw [x_app D1.gm (by rw [List.length_map]; omega)]
  have D2 := D1.mvs ((i : Int), chI g)
  have M2 : Mo t h1 t (h1.set mv (.lst (G.mv.map pairW ++ [pairW ((i : Int), chI g)]))) := Mo.set D1.gm (by rw [D1.rm]; exact trivial)
  have MD2 := MD1.mo M2 ⟨st, nu, re, r0, wl, mv, ws, D2⟩
  obtain ⟨a', af', ai', ao', fl', os', ha', E2, lo2⟩ := D2.at_ (i := i) (g := g) hg
  rw [ha] at ha'; cases ha'
  generalize h1.set mv (.lst (G.mv.map pairW ++ [pairW ((i : Int), chI g)])) = h2 at D2 M2 MD2 E2 ⊢
  rw [x_seq, x_expr, x_meth, x_e1, v0, ma_wo MD2.gm, m_wo D2.gw rfl rfl, x_cons, v2, x_nil]
  refine (ph31 k D2 E2 lo2 V mo).mono fun u h3 ⟨eu, t', M3, W3⟩ => ?_
  rw [x_next]
  exact ⟨rfl, t', (Mo.keep k1).trans (M2.trans (Mo.mv M3)), w, mk, mws, MD2.mo (Mo.mv M3) ⟨st, nu, re, r0, wl, mv, ws, D2.mv ha M3 W3⟩⟩
theorem ph44 (k : Nat) {t : Nat → Tg} {h : IH} {m : Nat} {G : Wo} {Ms : List Wo} (M : MaAt t h m G Ms) : (Phi gk tab (k + 1) 44 [.loc m] h).Wp fun x h' => x = .loc h.n ∧ Keep h h' ∧ h'.get h.n = some (.lst (G.mv.map pairW)) := by
  obtain ⟨w, mk, mws, MD⟩ := M
  obtain ⟨st, nu, re, r0, wl, mv, ws, D⟩ := MD.wo
  rw [phi44, x_callB (by rfl)]
  show (m44 _ [some (.loc m)] h).Wp _
  unfold m44
  rw [x_seq, y_ret, x_eA, x_cons, x_e1, x_e1, v0, ma_wo MD.gm, wo_mv D.gw, x_nil, x_listL D.gm]
  exact ⟨rfl, Keep.new, IH.get_new_self _ _⟩
theorem law_ne {R : Tg → Nat → Prop} {t' : Nat → Tg} {h : IH} {w : Nat} {G : Wo} (q : WoAt (Cur t') h w G) : WoAt (fun r a => r ≠ .law ∧ t' a = r) h w G := q.of.rx fun r a c x g => ⟨⟨fun e => by have x1 := x.1; rw [e] at x1; exact x1, x.2⟩, g⟩
theorem ph48 (k : Nat) {t : Nat → Tg} {h : IH} {m : Nat} {G : Wo} {Ms : List Wo} (M : MaAt t h m G Ms) (l3 : G.wks.length ≤ 3) (lm : G.mv.length < 1000000) (lM : Ms.length < 1000) :
    (Phi gk tab (k + 7) 48 [.loc m] h).Wp fun x h' => ∃ t', Mz t h t' h' ∧ MaAt t' h' m G (Ms ++ [G]) := by
  obtain ⟨w, mk, mws, MD⟩ := M
  rw [phi48, x_callB (by rfl)]
  show (m48 _ [some (.loc m)] h).Wp _
  unfold m48
  have MW := MD.wo
  obtain ⟨st, nu, re, r0, wl, mv, ws, D⟩ := MW
  rw [x_seq, x_expr, x_mt, x_e1, v0, ma_mk MD.gm]
  refine ⟨isLst_at MD.gk_, ?_⟩
  rw [x_cons, x_meth, x_e1, v0, ma_wo MD.gm, m_wo D.gw rfl rfl, x_nil]
  refine (ph23 k (fun _ => .law) MD.wo l3 (by omega)).mono fun x h1 ⟨ex, t1, up, W1⟩ => ?_
  subst ex
  have k1 := up.k
  rw [x_nil, x_app (k1.at MD.gk_) (by rw [List.length_map, MD.len]; omega)]
  generalize e2 : IH.set _ _ _ = h2
  obtain ⟨n2', r2, A2⟩ := set_f (k1.at MD.gk_) e2
  have gm2 := r2.at (k1.at MD.gm) (fun e => by have := MD.tm; rw [e, MD.tk] at this; cases this)
  rw [x_seq, y_ret, x_e2, x_eA, x_cons, x_e1, v0, ma_mk gm2, x_nil, x_lenL A2, x_C, x_sub]
  have lt := IH.get_lt MD.gk_
  have cv : ∀ a, a < h.n → tgs h.n t (fun _ => .old) a = t a := fun a ha => tgs_lo ha
  have lmm := IH.get_lt MD.gm
  refine ⟨tgs h.n t fun _ => .old, ⟨by have := k1.1; omega, cv, fun a ha hn => ?_⟩, w, mk, mws ++ [h.n], (cv m lmm).trans MD.tm, gm2, (cv mk lt).trans MD.tk, by rw [A2, List.map_append]; rfl, ?_, by rw [List.length_append, List.length_append, MD.len]; rfl, fun j g hg => ?_⟩
  · rw [r2.2 a (Nat.lt_of_lt_of_le ha k1.1) (fun e => hn (by rw [e, MD.tk]; trivial)), k1.2 a ha]
  · exact MD.wo.of.rx fun r a c x g => ⟨(cv a (IH.get_lt g)).trans x.2, r2.at (k1.at g) fun e => by
      have x1 := x.1
      rw [← x.2, e, MD.tk] at x1
      exact x1⟩
  · by_cases ej : j < Ms.length
    · rw [List.getElem?_append_left ej] at hg
      obtain ⟨b, hb, z⟩ := MD.old j g hg
      refine ⟨b, by rw [List.getElem?_append_left (List.getElem?_eq_some_iff.mp hb).1]; exact hb, z.rx fun r a c x gg => ⟨(cv a (IH.get_lt gg)).trans x, r2.at (k1.at gg) fun e => by rw [e, MD.tk] at x; cases x⟩⟩
    · have ll := (List.getElem?_eq_some_iff.mp hg).1
      rw [List.length_append] at ll
      have ej : j = Ms.length := by have : ([G] : List Wo).length = 1 := rfl; omega
      subst ej
      rw [List.getElem?_append_right (Nat.le_refl _), Nat.sub_self] at hg
      cases hg
      refine ⟨h.n, by rw [← MD.len, List.getElem?_append_right (Nat.le_refl _), Nat.sub_self]; rfl, W1.of.rx fun r a c x gg => ?_⟩
      have na : ¬ a < h.n := fun l => by
        have x1 := x.1
        rw [← x.2, up.tg a l] at x1
        exact x1
      exact ⟨by show tgs _ _ _ _ = _; unfold tgs; rw [if_neg na], r2.at gg (by omega)⟩
theorem ph49 (k : Nat) {t : Nat → Tg} {h : IH} {m : Nat} {G G0 : Wo} {Ms : List Wo} {j : Nat} (M : MaAt t h m G Ms) (hj : Ms[j]? = some G0) (l3 : G0.wks.length ≤ 3) (lm : G0.mv.length < 1000000) :
    (Phi gk tab (k + 7) 49 [.loc m, .int j] h).Wp fun x h' => ∃ t', Mz t h t' h' ∧ MaAt t' h' m G0 (Ms.take (j + 1)) := by
  obtain ⟨w, mk, mws, MD⟩ := M
  rw [phi49, x_callB (by rfl)]
  show (m49 _ [some (.loc m), some (.int j)] h).Wp _
  unfold m49
  have lj := (List.getElem?_eq_some_iff.mp hj).1
  rw [x_seq, x_if, x_not, x_tru, x_call, x_cons, v1, x_cons, x_C, x_cons, x_e2, x_eA, x_cons, x_e1, v0, ma_mk MD.gm, x_nil, x_lenL MD.gk_, x_C, x_sub, x_nil, ph1p (k + 5), Rs.Wp_ok, List.length_map, MD.len, decide_eq_true (show (0 : Int) ≤ (j : Int) ∧ (j : Int) ≤ (Ms.length : Int) - 1 by omega), x_truB, nt_and, x_next]
  obtain ⟨b, hb, WB⟩ := MD.old j G0 hj
  have WB2 := WB
  obtain ⟨st, nu, re, r0, wl, mv, ws, D⟩ := WB2
  rw [x_seq, y_asg, x_meth, x_e2, x_e1, v0, ma_mk MD.gm, v1, x_ix MD.gk_ (Int.natCast_nonneg _) (by rw [Int.toNat_natCast, List.getElem?_map, hb]; rfl), m_wo D.gw rfl rfl, x_nil]
  refine (ph23 k t WB l3 (by omega)).mono fun x h1 ⟨ex, t1, up, W1⟩ => ?_
  subst ex
  have k1 := up.k
  rw [x_gf, v0, ma_sWo (k1.at MD.gm)]
  generalize e2 : IH.set _ _ _ = h2
  obtain ⟨n2', r2, A2⟩ := set_f (k1.at MD.gm) e2
  have lt := IH.get_lt MD.gk_
  have lmm := IH.get_lt MD.gm
  have nmk : mk ≠ m := fun e => by have := MD.tm; rw [← e, MD.tk] at this; cases this
  have gk2 := r2.at (k1.at MD.gk_) nmk
  rw [x_seq, y_asg, x_sl, x_e1, v0, ma_mk A2, x_none]
  have ps : (pSome (Fw.e2 oAdd (eVar 1) (eC (.int 1))) [some (.loc m), some (.int j)] h2) = .ok (some ((j : Int) + 1)) h2 := rfl
  rw [ps, Rs.Wp_ok]
  have sl : oSl none (some ((j : Int) + 1)) (.loc mk) h2 = .ok (.loc h2.n) (h2.new (.lst ((mws.take (j + 1)).map .loc))) := by
    unfold oSl
    dsimp only
    rw [list_at gk2]
    dsimp only
    have c : cutW (mws.map W.loc) none (some ((j : Int) + 1)) = (mws.take (j + 1)).map W.loc := by
      unfold cutW
      have e0 : HT.sIx (mws.map W.loc).length 0 none = 0 := rfl
      rw [e0, List.drop_zero, Nat.sub_zero, List.map_take]
      have e1 : HT.sIx (mws.map W.loc).length (mws.map W.loc).length (some ((j : Int) + 1)) = j + 1 := by
        have ll : (mws.map W.loc).length = Ms.length := by rw [List.length_map, MD.len]
        rw [ll]
        unfold HT.sIx
        dsimp only
        rw [if_neg (by omega)]
        omega
      rw [e1]
    rw [c]
  rw [sl, Rs.Wp_ok]
  generalize e3 : IH.new _ _ = h3
  obtain ⟨n3', k3, A3⟩ := new_f e3
  rw [x_gf, v0, ma_sMk (k3.at A2), x_next]
  generalize e4 : IH.set _ _ _ = h4
  obtain ⟨n4', r4, A4⟩ := set_f (k3.at A2) e4
  have f14 : Fr m h1 h4 := r2.trans ((k3.fr (p := m)).trans r4)
  have l1 := k1.1
  have cv : ∀ a, a < h1.n → tgs h1.n t1 (fun _ => .mks) a = t1 a := fun a ha => tgs_lo ha
  have ne : ∀ {a : Nat} {r : Tg}, ofO r → t1 a = r → a ≠ m := fun o e z => by
    rw [z, up.tg m lmm, MD.tm] at e; rw [← e] at o; exact o
  refine ⟨tgs h1.n t1 fun _ => .mks, ⟨by omega, fun a ha => ?_, fun a ha hn => ?_⟩, h.n, h2.n, mws.take (j + 1), ?_, A4, ?_, r4.at A3 (by omega), ?_, ?_, fun i g hg => ?_⟩
  · rw [cv a (by omega)]; exact up.tg a ha
  · rw [f14.2 a (by omega) (fun e => hn (by rw [e, MD.tm]; trivial)), k1.2 a ha]
  · rw [cv m (by omega), up.tg m lmm]; exact MD.tm
  · rw [n2']; exact tgs_hi (i := 0)
  · exact W1.of.rx fun r a c x g => ⟨(cv a (IH.get_lt g)).trans x.2, f14.at g (ne x.1 x.2)⟩
  · rw [List.length_take, List.length_take, MD.len]
  · have li := (List.getElem?_eq_some_iff.mp hg).1
    rw [List.length_take] at li
    rw [List.getElem?_take_of_lt (by omega)] at hg
    obtain ⟨c, hc, z⟩ := MD.old i g hg
    refine ⟨c, by rw [List.getElem?_take_of_lt (by omega)]; exact hc, z.rx fun r a cc x gg => ⟨?_, f14.at (k1.at gg) fun e => by rw [e, MD.tm] at x; cases x⟩⟩
    have := IH.get_lt gg
    rw [cv a (by omega), up.tg a this]; exact x
end K85

set_option linter.all false
set_option linter.unusedSimpArgs false
set_option maxRecDepth 100000
set_option maxHeartbeats 1000000
namespace K85
open PySem Fw
/-! ### what the law knows of worlds -/
def cnt (mv : List (Int × Int)) (k : Nat) : Nat := mv.countP fun p => decide (p = ((k : Int), (1 : Int)))
def GOk (fs : List Nat) (B : Nat) (G : Wo) : Prop := G.wks.length = fs.length ∧ G.mv.length ≤ B ∧ ∀ (k : Nat) (g : Wk), G.wks[k]? = some g → Val g ∧ fs[k]? = some g.f ∧ (g.f = 0 → cnt G.mv k + g.ins = g.fed)
theorem GOk.mono {fs : List Nat} {B B' : Nat} {G : Wo} (x : GOk fs B G) (h : B ≤ B') : GOk fs B' G := ⟨x.1, Nat.le_trans x.2.1 h, x.2.2⟩
theorem set_at {α : Type} {l : List α} {i k : Nat} {x y : α} (e : (l.set i x)[k]? = some y) : (k = i ∧ y = x) ∨ (k ≠ i ∧ l[k]? = some y) := by
  rw [List.getElem?_set] at e
  by_cases ik : i = k
  · rw [if_pos ik] at e
    split at e
    · cases e; exact .inl ⟨ik.symm, rfl⟩
    · cases e
  · rw [if_neg ik] at e; exact .inr ⟨fun z => ik z.symm, e⟩
theorem fd_val {g : Wk} (V : Val g) (l : g.fed < 100) : Val (fdG g) := ⟨V.1, Nat.succ_le_succ V.2.1, l, V.2.2.2.1, V.2.2.2.2⟩
theorem GOk.fd {fs : List Nat} {B : Nat} {G : Wo} {i : Nat} {g : Wk} (x : GOk fs B G) (hg : G.wks[i]? = some g) (l : g.fed < 100) : GOk fs B ⟨G.wks.set i (fdG g), G.mv⟩ := by
  refine ⟨by rw [List.length_set]; exact x.1, x.2.1, fun k g' e => ?_⟩
  rcases set_at e with ⟨ek, eg⟩ | ⟨_, e⟩
  · subst ek; subst eg
    obtain ⟨V, hf, hc⟩ := x.2.2 k g hg
    exact ⟨fd_val V l, hf, fun z => by have := hc z; show cnt G.mv k + (g.ins + 1) = g.fed + 1; omega⟩
  · exact x.2.2 k g' e
theorem mv_val {g : Wk} (V : Val g) (m : stW g = .str "moves") : Val (mvG g) ∧ (mvG g).f = g.f := by
  obtain ⟨f, ph, is, fd⟩ := g
  cases ph with
  | dn => exact absurd (W.str.inj (show W.str "done" = W.str "moves" from m)) (by decide)
  | st => exact ⟨⟨V.1, V.2.1, V.2.2.1, fun _ => .inr rfl, fun p e => by cases e; exact Nat.zero_le _⟩, rfl⟩
  | run p =>
    have l1 := V.2.1
    have l1 : is ≤ fd := l1
    rcases V.at_ (p := p) rfl with ⟨ef, ep⟩ | ⟨ef, ep⟩ | ⟨ef, ep⟩ | ⟨ef, ep⟩ | ⟨ef, ep⟩ | ⟨ef, ep⟩ <;> (have ef : f = _ := ef; subst ef; subst ep)
    · show Val ⟨0, .run 0, is - 1, fd⟩ ∧ _
      exact ⟨⟨V.1, by show is - 1 ≤ fd; omega, V.2.2.1, fun _ => .inr rfl, V.2.2.2.2⟩, rfl⟩
    · show Val ⟨1, .run 1, is - 1, fd⟩ ∧ _
      exact ⟨⟨V.1, by show is - 1 ≤ fd; omega, V.2.2.1, nofun, fun p e => (by cases e; exact (by decide : 1 ≤ 2))⟩, rfl⟩
    · show Val ⟨1, .run 2, is, fd⟩ ∧ _
      exact ⟨⟨V.1, l1, V.2.2.1, nofun, fun p e => (by cases e; exact (by decide : 2 ≤ 2))⟩, rfl⟩
    · show Val ⟨1, .dn, is, fd⟩ ∧ _
      exact ⟨⟨V.1, l1, V.2.2.1, nofun, nofun⟩, rfl⟩
    · show Val ⟨2, .run 1, is, fd⟩ ∧ _
      exact ⟨⟨V.1, l1, V.2.2.1, nofun, fun p e => (by cases e; exact (by decide : 1 ≤ 1))⟩, rfl⟩
    · show Val ⟨2, .dn, is, fd⟩ ∧ _
      exact ⟨⟨V.1, l1, V.2.2.1, nofun, nofun⟩, rfl⟩
theorem cnt_snoc {mv : List (Int × Int)} {k : Nat} {p : Int × Int} : cnt (mv ++ [p]) k = cnt mv k + if p = ((k : Int), (1 : Int)) then 1 else 0 := by
  unfold cnt
  rw [List.countP_append, List.countP_singleton]
  by_cases e : p = ((k : Int), (1 : Int))
  · rw [if_pos e, if_pos (decide_eq_true e)]
  · rw [if_neg e, if_neg (by rw [decide_eq_false e]; decide)]
theorem GOk.step {fs : List Nat} {B : Nat} {G : Wo} {i : Nat} {g : Wk} (x : GOk fs B G) (hg : G.wks[i]? = some g) (m : stW g = .str "moves") : GOk fs (B + 1) (stepG G i g) := by
  unfold stepG
  refine ⟨by rw [List.length_set]; exact x.1, by rw [List.length_append]; exact Nat.succ_le_succ x.2.1, fun k g' e => ?_⟩
  rcases set_at e with ⟨ek, eg⟩ | ⟨ne, e⟩
  · subst ek; subst eg
    obtain ⟨V, hf, hc⟩ := x.2.2 k g hg
    obtain ⟨V', ef⟩ := mv_val V m
    refine ⟨V', by rw [ef]; exact hf, fun z => ?_⟩
    rw [ef] at z
    have hc := hc z
    dsimp only
    rw [cnt_snoc]
    have pi := fun c => isC_ins (g := g) c m
    obtain ⟨f, ph, is, fd⟩ := g
    have z : f = 0 := z
    subst z
    have hc : cnt G.mv k + is = fd := hc
    rcases V.2.2.2.1 rfl with q | q
    · have q : ph = .st := q
      subst q
      have e0 : chI ⟨0, .st, is, fd⟩ = 0 := rfl
      rw [e0, if_neg (fun e => by cases e)]
      show cnt G.mv k + 0 + is = fd
      omega
    · have q : ph = .run 0 := q
      subst q
      have e0 : chI ⟨0, .run 0, is, fd⟩ = 1 := rfl
      have p := pi rfl
      have p : 0 < is := p
      rw [e0, if_pos rfl]
      show cnt G.mv k + 1 + (is - 1) = fd
      omega
  · obtain ⟨V, hf, hc⟩ := x.2.2 k g' e
    refine ⟨V, hf, fun z => ?_⟩
    dsimp only
    rw [cnt_snoc, if_neg (fun e => ne (by have := congrArg Prod.fst e; dsimp only at this; omega))]
    exact hc z
/-- moves left of a thread in a loop -/
def rem (g : Wk) : Nat := match g.ph with
  | .st => g.ins + 1
  | .run _ => g.ins
  | .dn => 0
theorem rem_mv {g : Wk} (V : Val g) (m : stW g = .str "moves") (f0 : g.f = 0) : rem (mvG g) + 1 = rem g := by
  have pi := fun c => isC_ins (g := g) c m
  obtain ⟨f, ph, is, fd⟩ := g
  have f0 : f = 0 := f0
  subst f0
  rcases V.2.2.2.1 rfl with q | q
  · have q : ph = .st := q
    subst q; rfl
  · have q : ph = .run 0 := q
    subst q
    have p : 0 < is := pi rfl
    show is - 1 + 1 = is
    omega
theorem rem_not {g : Wk} (V : Val g) (m : stW g ≠ .str "moves") (f0 : g.f = 0) : rem g = 0 ∧ stW g = .str "waits" ∧ g.ins = 0 := by
  obtain ⟨f, ph, is, fd⟩ := g
  have f0 : f = 0 := f0
  subst f0
  rcases V.2.2.2.1 rfl with q | q
  · have q : ph = .st := q
    subst q; exact absurd rfl m
  · have q : ph = .run 0 := q
    subst q
    by_cases z : is = 0
    · subst z; exact ⟨rfl, rfl, rfl⟩
    · refine absurd ?_ m
      show (if isWt ⟨0, .run 0, is, fd⟩ then W.str "waits" else W.str "moves") = _
      have e : isWt ⟨0, .run 0, is, fd⟩ = false := by
        show (decide (0 ≤ 1) && decide (is = 0)) = false
        rw [decide_eq_false z, Bool.and_false]
      rw [e]; rfl
theorem st_three (g : Wk) : stW g = .str "done" ∨ stW g = .str "waits" ∨ stW g = .str "moves" := by
  unfold stW
  split
  · exact .inl rfl
  · split
    · exact .inr (.inl rfl)
    · exact .inr (.inr rfl)
/-- stands == "moves" -/
theorem eq_mv {g : Wk} {h : IH} {P : W → IH → Prop} (z : ∀ c : Bool, (c = true ↔ stW g = .str "moves") → P (.bl c) h) : (oEq (stW g) (.str "moves") h).Wp P := by
  rcases st_three g with e | e | e <;> rw [e]
  · rw [eq_sd (by kernel_rfl)]; exact z false ⟨nofun, fun q => by rw [e] at q; exact absurd (W.str.inj q) (by decide)⟩
  · rw [eq_sd (by kernel_rfl)]; exact z false ⟨nofun, fun q => by rw [e] at q; exact absurd (W.str.inj q) (by decide)⟩
  · rw [eq_ss]; exact z true ⟨fun _ => e, fun _ => rfl⟩
/-- the moves counted -/
theorem purs_pairs : ∀ mv : List (Int × Int), purs (mv.map pairW) = true
  | [] => rfl
  | p :: mv => by rw [List.map_cons]; exact purs_pairs mv
theorem dep_pairs : ∀ mv : List (Int × Int), PyData.depthAll (pds (mv.map pairW)) ≤ 1
  | [] => Nat.zero_le _
  | p :: mv => by
    rw [List.map_cons]
    show max 1 (PyData.depthAll (pds (mv.map pairW))) ≤ 1
    have := dep_pairs mv
    omega
theorem count_pairs (k : Nat) : ∀ mv : List (Int × Int), (pds (mv.map pairW)).countP (fun z => PyData.eqv z (pd (pairW ((k : Int), (1 : Int))))) = cnt mv k
  | [] => rfl
  | p :: mv => by
    rw [List.map_cons]
    show (pd (pairW p) :: pds (mv.map pairW)).countP _ = _
    unfold cnt
    rw [List.countP_cons, List.countP_cons, count_pairs k mv]
    have e := eqv_pur (pairW p) (pairW ((k : Int), (1 : Int))) rfl rfl
    have e2 : pairW p = pairW ((k : Int), (1 : Int)) ↔ p = ((k : Int), (1 : Int)) := by
      constructor
      · intro q
        unfold pairW at q
        injection q with q
        injection q with q1 q2
        injection q2 with q2 _
        injection q1 with q1
        injection q2 with q2
        exact Prod.ext q1 q2
      · intro q; rw [q]
    by_cases c : p = ((k : Int), (1 : Int))
    · rw [if_pos (e.mpr (e2.mpr c)), if_pos (decide_eq_true c)]; rfl
    · rw [if_neg (fun z => c (e2.mp (e.mp z))), if_neg (by rw [decide_eq_false c]; decide)]; rfl
theorem x_cnt {h : IH} {a k : Nat} {mv : List (Int × Int)} {P : W → IH → Prop} (g : h.get a = some (.lst (mv.map pairW))) : (mCount [.loc a, .tup [.int k, .int 1]] h).Wp P = P (.int (cnt mv k)) h := by
  have d1 := dat_lst g (purs_pairs mv) (Nat.le_trans (dep_pairs mv) (by decide))
  have d2 : dat h (.tup [.int k, .int 1]) = some (pd (pairW ((k : Int), (1 : Int)))) := dat_pur (w := pairW ((k : Int), (1 : Int))) rfl (by show 1 ≤ 60; decide)
  unfold mCount
  dsimp only
  rw [d1]
  dsimp only
  rw [d2]
  dsimp only
  rw [shaped_lst (purs_pairs mv) (Nat.le_trans (dep_pairs mv) (by decide)), shaped_pur (w := pairW ((k : Int), (1 : Int))) rfl (by show 1 ≤ 60; decide), count_pairs]
  rfl
end K85

set_option linter.all false
set_option linter.unusedSimpArgs false
set_option maxRecDepth 100000
set_option maxHeartbeats 1000000
namespace K85
open PySem Fw
/-! ### the law's heap -/
def fedL (G : Wo) : List W := G.wks.map fun g => .int (g.fed : Nat)
structure LI (fs : List Nat) (B p c q l m : Nat) (t : Nat → Tg) (h : IH) (b : Int) (G : Wo) (Ms : List Wo) : Prop where
  pen : Pen c h p b
  tp : t p = .pen
  tc : t c = .law
  gq : h.get q = some (.lst (fedL G))
  tq : t q = .cnt
  gl : ∃ ls : List Nat, h.get l = some (.lst (ls.map .loc)) ∧ ls.length = Ms.length ∧ ∀ (j : Nat) (g : Wo), Ms[j]? = some g → ∃ a, ls[j]? = some a ∧ t a = .law ∧ h.get a = some (.lst (fedL g))
  tl : t l = .lmk
  ma : MaAt t h m G Ms
  ok : GOk fs B G
  oks : ∀ g ∈ Ms, GOk fs B g
theorem LI.mono {fs : List Nat} {B B' p c q l m : Nat} {t : Nat → Tg} {h : IH} {b b' : Int} {G : Wo} {Ms : List Wo} (x : LI fs B p c q l m t h b G Ms) (hb : b ≤ b') (hB : B ≤ B') : LI fs B' p c q l m t h b' G Ms :=
  ⟨x.pen.mono hb, x.tp, x.tc, x.gq, x.tq, x.gl, x.tl, x.ma, x.ok.mono hB, fun g hg => (x.oks g hg).mono hB⟩
/-- cells that are not of the pen, the counts, the marks are kept -/
theorem MaD.kp {t t' : Nat → Tg} {h h' : IH} {m : Nat} {G : Wo} {Ms : List Wo} {w mk : Nat} {mws : List Nat} (D : MaD t h m G Ms w mk mws) (x : ∀ a c, t a ≠ .pen → t a ≠ .cnt → t a ≠ .lmk → h.get a = some c → t' a = t a ∧ h'.get a = some c) : MaD t' h' m G Ms w mk mws := by
  have h1 := x _ _ (by rw [D.tm]; nofun) (by rw [D.tm]; nofun) (by rw [D.tm]; nofun) D.gm
  have h2 := x _ _ (by rw [D.tk]; nofun) (by rw [D.tk]; nofun) (by rw [D.tk]; nofun) D.gk_
  refine ⟨h1.1.trans D.tm, h1.2, h2.1.trans D.tk, h2.2, D.wo.of.rx fun r a c z g => ?_, D.len, fun j g hg => ?_⟩
  · have o := z.1
    have e := z.2
    have w := x a c (by rw [e]; intro z; rw [z] at o; exact o) (by rw [e]; intro z; rw [z] at o; exact o) (by rw [e]; intro z; rw [z] at o; exact o) g
    exact ⟨w.1.trans e, w.2⟩
  · obtain ⟨b, hb, z⟩ := D.old j g hg
    refine ⟨b, hb, z.rx fun r a c e ga => ?_⟩
    have w := x a c (by rw [e]; nofun) (by rw [e]; nofun) (by rw [e]; nofun) ga
    exact ⟨w.1.trans e, w.2⟩
theorem MaAt.kp {t t' : Nat → Tg} {h h' : IH} {m : Nat} {G : Wo} {Ms : List Wo} (M : MaAt t h m G Ms) (x : ∀ a c, t a ≠ .pen → t a ≠ .cnt → t a ≠ .lmk → h.get a = some c → t' a = t a ∧ h'.get a = some c) : MaAt t' h' m G Ms :=
  let ⟨w, mk, mws, D⟩ := M
  ⟨w, mk, mws, D.kp x⟩
theorem LI.take {fs : List Nat} {B p c q l m : Nat} {t : Nat → Tg} {h h' : IH} {b b' : Int} {G : Wo} {Ms : List Wo} (x : LI fs B p c q l m t h b G Ms) (f : Fr p h h') (pn : Pen c h' p b') : LI fs B p c q l m t h' b' G Ms := by
  have u : ∀ {a : Nat} {cc : Cell} {r : Tg}, t a = r → r ≠ .pen → h.get a = some cc → h'.get a = some cc := fun e n g => f.at g fun z => n (by rw [← e, z]; exact x.tp)
  obtain ⟨ls, g1, g2, g3⟩ := x.gl
  exact ⟨pn, x.tp, x.tc, u x.tq nofun x.gq, x.tq, ⟨ls, u x.tl nofun g1, g2, fun j g hg => let ⟨a, e1, e2, e3⟩ := g3 j g hg; ⟨a, e1, e2, u e2 nofun e3⟩⟩, x.tl, x.ma.kp fun a cc n1 _ _ g => ⟨rfl, u rfl n1 g⟩, x.ok, x.oks⟩
theorem LI.keep {fs : List Nat} {B p c q l m : Nat} {t : Nat → Tg} {h h' : IH} {b : Int} {G : Wo} {Ms : List Wo} (x : LI fs B p c q l m t h b G Ms) (k : Keep h h') : LI fs B p c q l m t h' b G Ms := x.take k.fr (x.pen.keep k)
theorem Pen.mz {c p : Nat} {h h' : IH} {b : Int} {t t' : Nat → Tg} (x : Pen c h p b) (z : Mz t h t' h') (tp : t p = .pen) (tc : t c = .law) : Pen c h' p b := by
  obtain ⟨a, l, cs, y, r⟩ := x
  exact ⟨a, l, cs, ⟨(z.k p (IH.get_lt y.pen) (by rw [tp]; exact id)).trans y.pen, (z.k c (IH.get_lt y.cells) (by rw [tc]; exact id)).trans y.cells, y.ne⟩, r⟩
/-- the machine has worked: its world is another, its marks -/
theorem LI.mz {fs : List Nat} {B p c q l m : Nat} {t t' : Nat → Tg} {h h' : IH} {b : Int} {G : Wo} {Ms : List Wo} (x : LI fs B p c q l m t h b G Ms) (z : Mz t h t' h') :
    Pen c h' p b ∧ t' p = .pen ∧ t' c = .law ∧ h'.get q = some (.lst (fedL G)) ∧ t' q = .cnt ∧ (∃ ls : List Nat, h'.get l = some (.lst (ls.map .loc)) ∧ ls.length = Ms.length ∧ ∀ (j : Nat) (g : Wo), Ms[j]? = some g → ∃ a, ls[j]? = some a ∧ t' a = .law ∧ h'.get a = some (.lst (fedL g))) ∧ t' l = .lmk := by
  have u : ∀ {a : Nat} {cc : Cell} {r : Tg}, t a = r → ¬ ofM r → h.get a = some cc → t' a = r ∧ h'.get a = some cc := fun e n g => ⟨(z.tg _ (IH.get_lt g)).trans e, (z.k _ (IH.get_lt g) (by rw [e]; exact n)).trans g⟩
  obtain ⟨ls, g1, g2, g3⟩ := x.gl
  have pl := x.pen.lt
  have cl : c < h.n := by obtain ⟨_, _, _, y, _⟩ := x.pen; exact IH.get_lt y.cells
  exact ⟨Pen.mz x.pen z x.tp x.tc, (z.tg p pl).trans x.tp, (z.tg c cl).trans x.tc, (u x.tq id x.gq).2, (u x.tq id x.gq).1, ⟨ls, (u x.tl id g1).2, g2, fun j g hg => let ⟨a, e1, e2, e3⟩ := g3 j g hg; ⟨a, e1, (u e2 id e3).1, (u e2 id e3).2⟩⟩, (u x.tl id g1).1⟩
/-- a step of a thread -/
theorem LI.step {fs : List Nat} {B p c q l m : Nat} {t t' : Nat → Tg} {h h' : IH} {b : Int} {G : Wo} {Ms : List Wo} {i : Nat} {g : Wk} (x : LI fs B p c q l m t h b G Ms) (z : Mo t h t' h') (M : MaAt t' h' m (stepG G i g) Ms) (hg : G.wks[i]? = some g) (mo : stW g = .str "moves") : LI fs (B + 1) p c q l m t' h' b (stepG G i g) Ms := by
  obtain ⟨y1, y2, y3, y4, y5, y6, y7⟩ := x.mz z.z
  have e : fedL (stepG G i g) = fedL G := by
    unfold fedL stepG
    dsimp only
    rw [List.map_set]
    have ef : (mvG g).fed = g.fed := by
      unfold mvG
      split
      · rfl
      · rfl
      · split <;> rfl
    rw [ef]
    refine List.ext_getElem? fun k => ?_
    rw [List.getElem?_set]
    by_cases ik : i = k
    · subst ik
      rw [if_pos rfl, List.getElem?_map, hg]
      rw [if_pos (by rw [List.length_map]; exact (List.getElem?_eq_some_iff.mp hg).1)]; rfl
    · rw [if_neg ik]
  exact ⟨y1, y2, y3, by rw [e]; exact y4, y5, y6, y7, M, x.ok.step hg mo, fun g hg => (x.oks g hg).mono (Nat.le_succ _)⟩
theorem phPk (k : Nat) {c : Nat} (p q : Nat) (b : Int) (ws : List W) (h : IH) (hp : Pen c h p b) (hq : h.get q = some (.lst ws)) (ne : q ≠ p) (hb : b < 999999) (m0 : ws ≠ []) (m1 : ws.length < 1000) : (Phi gk tab (k + 3) 53 [.loc p, .loc q] h).Wp fun w h' => w ∈ ws ∧ Fr p h h' ∧ Pen c h' p (b + 1) := by
  rw [phi53, x_callB (by rfl)]
  show (m53 _ [some (.loc p), some (.loc q)] h).Wp _
  unfold m53
  have hl : 0 < ws.length := List.length_pos_iff.mpr m0
  rw [x_seq, y_ret, x_e2, v1, x_call, x_cons, v0, x_cons, x_eA, x_cons, v1, x_nil, x_lenL hq, x_nil]
  refine (phTk k p b ws.length h hp hb (by omega) (by omega)).mono fun w h' ⟨v, e, v0, v1, fr, pn⟩ => ?_
  subst e
  have hw : ws[v.toNat]? = some ws[v.toNat] := List.getElem?_eq_getElem (by omega)
  rw [x_ix ((fr.2 q (IH.get_lt hq) ne).trans hq) v0 hw]
  exact ⟨List.mem_of_getElem? hw, fr, pn⟩
/-! ### how an input is answered -/
theorem ex_exc {Φ : FT} {ms : List (Nat × Nat)} {m : Str} {o : EE} {r : EA} {e : Fw.Env} {h : IH} {c : Nat} (q : eMeth Φ ms m o r e h = .exc c h) : sSeq (sExpr (eMeth Φ ms m o r)) sNext e h = .ex c e h := seq_ex (expr_exc q)
theorem try_rt {hs : List (List (Nat × Bool) × Su)} {b : SS} {e e1 : Fw.Env} {h h1 : IH} {c : Nat} {w : W} (q : b e h = .ex c e1 h1) (r : handM hs c e1 h1 = .rt w h1) : sTryM hs b e h = .rt w h1 := by unfold sTryM; rw [q]; exact r
theorem seq_rt {s u : SS} {e : Fw.Env} {h h1 : IH} {w : W} (q : s e h = .rt w h1) : sSeq s u e h = .rt w h1 := by unfold sSeq; rw [q]
theorem try_wp {hs : List (List (Nat × Bool) × Su)} {b : SS} {e : Fw.Env} {h : IH} {D : Dn} (w : (b e h).Wp D) : (sTryM hs b e h).Wp D := by
  unfold sTryM
  cases q : b e h with
  | ex c e1 h1 => rw [q] at w; exact w.elim
  | nx e h => rw [q] at w; exact w
  | rt x h => rw [q] at w; exact w
  | bk e h => rw [q] at w; exact w
  | ct e h => rw [q] at w; exact w
  | stuck => rw [q] at w; exact w
theorem callB_rt {b : SS} {n m : Nat} {ws : List W} {h h1 : IH} {w : W} (hl : ws.length = n) (q : b (ws.map some ++ List.replicate (m - ws.length) none) h = .rt w h1) : callB b n m ws h = .ok w h1 := by
  unfold callB
  have z : Nat.beq ws.length n = true := by rw [hl]; exact Nat.beq_refl n
  rw [z]
  show runBody m b ws h = _
  unfold runBody
  rw [q]
theorem ph54o (k : Nat) {t : Nat → Tg} {h : IH} {m : Nat} {G : Wo} {Ms : List Wo} {i : Nat} {g : Wk} {o : W} (M : MaAt t h m G Ms) (hg : G.wks[i]? = some g) (ho : isOdd o) : Phi gk tab (k + 4) 54 [.loc m, .int i, o] h = .ok (.str "number") h := by
  obtain ⟨w, mk, mws, MD⟩ := M
  obtain ⟨st, nu, re, r0, wl, mv, ws, D⟩ := MD.wo
  obtain ⟨a, af, ai, ao, fl, os, ha, E, lo⟩ := D.at_ hg
  rw [phi54]
  refine callB_rt rfl ?_
  show m54 _ [some (.loc m), some (.int i), some o] h = _
  unfold m54
  have q : eMeth (Phi gk tab (k + 3)) [(10, 39)] "feed" (eVar 0) (aCons (eVar 1) (aCons (eVar 2) aNil)) [some (.loc m), some (.int i), some o] h = .exc 3 h := by
    rw [meth_eq (h1 := h) (h2 := h) (ws := [.int i, o]) rfl MD.gm rfl rfl rfl]; exact ph39o k MD.gm D.gw D.gl ha ho
  exact seq_rt (try_rt (ex_exc q) rfl)
theorem ph54r (k : Nat) {t : Nat → Tg} {h : IH} {m : Nat} {G : Wo} {Ms : List Wo} {i : Nat} {g : Wk} (M : MaAt t h m G Ms) (hg : G.wks[i]? = some g) (hf : g.fed = 100) : Phi gk tab (k + 4) 54 [.loc m, .int i, .int 1] h = .ok (.str "room") h := by
  obtain ⟨w, mk, mws, MD⟩ := M
  obtain ⟨st, nu, re, r0, wl, mv, ws, D⟩ := MD.wo
  obtain ⟨a, af, ai, ao, fl, os, ha, E, lo⟩ := D.at_ hg
  have ga := E.ga
  rw [hf] at ga
  rw [phi54]
  refine callB_rt rfl ?_
  show m54 _ [some (.loc m), some (.int i), some (.int 1)] h = _
  unfold m54
  have q : eMeth (Phi gk tab (k + 3)) [(10, 39)] "feed" (eVar 0) (aCons (eVar 1) (aCons (eVar 2) aNil)) [some (.loc m), some (.int i), some (.int 1)] h = .exc 6 h := by
    rw [meth_eq (h1 := h) (h2 := h) (ws := [.int i, .int 1]) rfl MD.gm rfl rfl rfl]; exact ph39r k MD.gm D.gw D.gl ha ga
  exact seq_rt (try_rt (ex_exc q) rfl)
theorem ph54 (k : Nat) {t : Nat → Tg} {h : IH} {m : Nat} {G : Wo} {Ms : List Wo} {i : Nat} {g : Wk} (M : MaAt t h m G Ms) (hg : G.wks[i]? = some g) (V : Val g) (lt : g.fed < 100) :
    (Phi gk tab (k + 4) 54 [.loc m, .int i, .int 1] h).Wp fun x h' => x = .str "told" ∧ ∃ t', Mo t h t' h' ∧ MaAt t' h' m ⟨G.wks.set i (fdG g), G.mv⟩ Ms := by
  have M0 := M
  obtain ⟨w, mk, mws, MD⟩ := M0
  rw [phi54, x_callB (by rfl)]
  show (m54 _ [some (.loc m), some (.int i), some (.int 1)] h).Wp _
  unfold m54
  rw [x_seq]
  refine try_wp ?_
  rw [x_seq, x_expr, x_meth, v0, m_ma MD.gm rfl rfl, x_cons, v1, x_cons, v2, x_nil]
  refine (ph39 k M hg V lt).mono fun x h1 ⟨ex, z⟩ => ?_
  rw [x_next, x_seq, y_ret, x_C]
  exact ⟨rfl, z⟩
/-- an input more -/
theorem LI.fd {fs : List Nat} {B p c q l m : Nat} {t t' : Nat → Tg} {h h' : IH} {b : Int} {G : Wo} {Ms : List Wo} {i : Nat} {g : Wk} (x : LI fs B p c q l m t h b G Ms) (z : Mo t h t' h') (M : MaAt t' h' m ⟨G.wks.set i (fdG g), G.mv⟩ Ms) (hg : G.wks[i]? = some g) (lt : g.fed < 100) :
    h'.get q = some (.lst (fedL G)) ∧ LI fs B p c q l m t' (h'.set q (.lst (fedL ⟨G.wks.set i (fdG g), G.mv⟩))) b ⟨G.wks.set i (fdG g), G.mv⟩ Ms := by
  obtain ⟨y1, y2, y3, y4, y5, ⟨ls, g1, g2, g3⟩, y7⟩ := x.mz z.z
  refine ⟨y4, ?_⟩
  have u : ∀ {a : Nat} {cc : Cell} {r : Tg}, t' a = r → r ≠ .cnt → h'.get a = some cc → (h'.set q (.lst (fedL ⟨G.wks.set i (fdG g), G.mv⟩))).get a = some cc := fun e n gb => (gs_ne y4 (tne y5 e (Ne.symm n))).trans gb
  refine ⟨?_, y2, y3, gs_same y4, y5, ⟨ls, u y7 nofun g1, g2, fun j g hg => let ⟨a, e1, e2, e3⟩ := g3 j g hg; ⟨a, e1, e2, u e2 nofun e3⟩⟩, y7, M.kp fun a cc _ n _ gg => ⟨rfl, u rfl n gg⟩, x.ok.fd hg lt, x.oks⟩
  obtain ⟨a, ll, cs, y, r⟩ := y1
  exact ⟨a, ll, cs, ⟨u y2 nofun y.pen, u y3 nofun y.cells, y.ne⟩, r⟩
theorem fed_at {G : Wo} {i : Nat} {g : Wk} (hg : G.wks[i]? = some g) : (fedL G)[i]? = some (.int (g.fed : Nat)) := by unfold fedL; rw [List.getElem?_map, hg]; rfl
theorem fed_len {G : Wo} : (fedL G).length = G.wks.length := by unfold fedL; rw [List.length_map]
theorem fed_set {G : Wo} {i : Nat} {g : Wk} {mv : List (Int × Int)} : fedL ⟨G.wks.set i g, mv⟩ = (fedL G).set i (.int (g.fed : Nat)) := by unfold fedL; dsimp only; rw [List.map_set]
theorem x_intT {h : IH} {P : W → IH → Prop} : (Fw.k1 oInt [.bl true] h).Wp P = P (.int 1) h := rfl
theorem x_intF {h : IH} {P : W → IH → Prop} : (Fw.k1 oInt [.bl false] h).Wp P = P (.int 0) h := rfl
theorem ph55 (k : Nat) {fs : List Nat} {B p c q l m : Nat} {t : Nat → Tg} {h : IH} {b : Int} {G : Wo} {Ms : List Wo} {i : Nat} (x : LI fs B p c q l m t h b G Ms) (hi : i < fs.length) (hb : b < 900000) :
    (Phi gk tab (k + 5) 55 [.loc p, .loc m, .int i, .loc q] h).Wp fun w h' => w = .bl true ∧ ∃ t' G', LI fs B p c q l m t' h' (b + 200) G' Ms := by
  rw [phi55, x_callB (by rfl)]
  show (m55 _ [some (.loc p), some (.loc m), some (.int i), some (.loc q), none, none, none] h).Wp _
  unfold m55
  rw [x_seq]
  refine for_rng ?_
  rw [x_e2, x_C, x_call, x_cons, v0, x_cons, x_C, x_nil]
  refine (phTk (k + 2) p b 60 h x.pen (by omega) (by decide) (by decide)).mono fun w h1 ⟨v, e1, v0_, v1_, f1, p1⟩ => ?_
  subst e1
  rw [x_add]
  refine ⟨(1 + v).toNat, by rw [Int.toNat_of_nonneg (by omega)], by omega, fun j e h' => ∃ t' G' e4 e5 e6, e = [some (.loc p), some (.loc m), some (.int i), some (.loc q), e4, e5, e6] ∧ LI fs B p c q l m t' h' (b + 1 + 2 * j) G' Ms, ⟨t, G, none, none, none, rfl, (x.take f1 p1).mono (by omega) (Nat.le_refl _)⟩, fun j e h2 hj ⟨t2, G2, e4, e5, e6, ee, x2⟩ => ?_, fun e h2 ⟨t2, G2, e4, e5, e6, ee, x2⟩ => ?_⟩
  · subst ee
    have hi2 : i < G2.wks.length := by rw [x2.ok.1]; exact hi
    obtain ⟨g, hg⟩ : ∃ g, G2.wks[i]? = some g := ⟨_, List.getElem?_eq_getElem hi2⟩
    have V := (x2.ok.2.2 i g hg).1
    rw [n4, x_seq, y_asg, x_call, x_cons, v0, x_cons, x_lst, x_cons, x_e1, x_C, x_neg, x_cons, x_C, x_cons, x_C, x_cons, x_C, x_nil]
    refine ⟨rfl, ?_⟩
    generalize e7 : IH.new _ _ = h3
    obtain ⟨n7', k3, A3⟩ := new_f e7
    have x3 := x2.keep k3
    rw [x_nil]
    have pl := x2.pen.lt
    refine (phPk (k + 1) p h2.n _ _ h3 x3.pen A3 (by omega) (by omega) (by simp) (by simp)).mono fun o h4 ⟨om, f4, p4⟩ => ?_
    have x4 := x3.take f4 p4
    have oo : isOdd o := by
      simp only [List.mem_cons, List.not_mem_nil, or_false] at om
      exact om
    rw [n5]
    refine seq_cut (fun e h5 => e = [some (.loc p), some (.loc m), some (.int i), some (.loc q), some (.int j), some o, e6] ∧ LI fs B p c q l m t2 h5 (b + 1 + 2 * ((j + 1 : Nat) : Int)) G2 Ms) ?_ fun e7 h5 ⟨ee7, x5⟩ => ?_
    · rw [x_if, x_and, x_bol, x_e2, x_call, x_cons, v0, x_cons, x_C, x_nil]
      refine (phTk (k + 2) p _ 12 h4 x4.pen (by omega) (by decide) (by decide)).mono fun w5 h5 ⟨u, e8, _, _, f5, p5⟩ => ?_
      subst e8
      have x5 : LI fs B p c q l m t2 h5 (b + 1 + 2 * ((j + 1 : Nat) : Int)) G2 Ms := (x4.take f5 p5).mono (by omega) (Nat.le_refl _)
      rw [x_C, x_eqI, x_bolW]
      refine ⟨fun _ => ?_, fun _ => ⟨nofun, fun _ => ?_⟩⟩
      · rw [x_bol, x_e2, x_call, x_cons, v1, x_cons, v2, x_cons, v5, x_nil, ph54o k x5.ma hg oo, Rs.Wp_ok, x_C, ne_ss, x_bolW, ff_and, x_next]
        exact ⟨rfl, x5⟩
      · rw [x_next]
        exact ⟨rfl, x5⟩
    · subst ee7
      by_cases lt : g.fed < 100
      · rw [x_seq, y_asg, x_call, x_cons, v1, x_cons, v2, x_cons, x_C, x_nil]
        refine (ph54 k x5.ma hg V lt).mono fun w6 h6 ⟨e9, t6, mo, M6⟩ => ?_
        subst e9
        obtain ⟨gq, x7⟩ := x5.fd mo M6 hg lt
        rw [n6, x_seq, x_if, x_bol, x_e2, v6, x_eIf, x_bol, x_e2, x_e2, v3, v2, x_ix gq (Int.natCast_nonneg _) (by rw [Int.toNat_natCast]; exact fed_at hg), x_C, x_lt, decide_eq_true (show ((g.fed : Nat) : Int) < 100 by omega), x_bolW, tt_and, x_C, ne_ss, x_bolW, ff_and, x_next]
        rw [x_seq, y_asg, x_e2, x_e2, v3, v2, x_ix gq (Int.natCast_nonneg _) (by rw [Int.toNat_natCast]; exact fed_at hg), x_eA, x_cons, x_e2, v6, x_C, eq_ss, x_nil]
        rw [x_intT, x_add, x_sb, v3, v2, x_set gq (Int.natCast_nonneg _) (by rw [fed_len]; omega), x_next, Int.toNat_natCast]
        rw [fed_set] at x7
        exact ⟨t6, _, _, _, _, rfl, x7⟩
      · have e100 : g.fed = 100 := by have := V.2.2.1; omega
        rw [x_seq, y_asg, x_call, x_cons, v1, x_cons, v2, x_cons, x_C, x_nil, ph54r k x5.ma hg e100, Rs.Wp_ok]
        rw [n6, x_seq, x_if, x_bol, x_e2, v6, x_eIf, x_bol, x_e2, x_e2, v3, v2, x_ix x5.gq (Int.natCast_nonneg _) (by rw [Int.toNat_natCast]; exact fed_at hg), x_C, x_lt, decide_eq_false (show ¬ ((g.fed : Nat) : Int) < 100 by omega), x_bolW, ff_and, x_C, ne_ss, x_bolW, ff_and, x_next]
        rw [x_seq, y_asg, x_e2, x_e2, v3, v2, x_ix x5.gq (Int.natCast_nonneg _) (by rw [Int.toNat_natCast]; exact fed_at hg), x_eA, x_cons, x_e2, v6, x_C, eq_sd (by kernel_rfl), x_nil]
        rw [x_intF, x_add, x_sb, v3, v2, x_set x5.gq (Int.natCast_nonneg _) (by rw [fed_len]; omega), x_next, Int.toNat_natCast, Int.add_zero]
        have es : (fedL G2).set i (.int (g.fed : Nat)) = fedL G2 := by
          refine List.ext_getElem? fun k => ?_
          rw [List.getElem?_set]
          by_cases ik : i = k
          · subst ik; rw [if_pos rfl, fed_at hg, if_pos (by rw [fed_len]; exact hi2)]
          · rw [if_neg ik]
        rw [es]
        have u : ∀ {a : Nat} {cc : Cell}, h5.get a = some cc → (h5.set q (.lst (fedL G2))).get a = some cc := fun {a} {cc} gb => by
          by_cases e : a = q
          · subst e; rw [gs_same x5.gq]; rw [x5.gq] at gb; exact gb
          · exact (gs_ne x5.gq e).trans gb
        have kq : Fr p h5 (h5.set q (.lst (fedL G2))) := ⟨Nat.le_refl _, fun a ha _ => by
          by_cases e : a = q
          · subst e; rw [gs_same x5.gq]; exact x5.gq.symm
          · exact gs_ne x5.gq e⟩
        refine ⟨t2, G2, _, _, _, rfl, x5.take kq ?_⟩
        obtain ⟨a, ll, cs, y, r⟩ := x5.pen
        exact ⟨a, ll, cs, ⟨u y.pen, u y.cells, y.ne⟩, r⟩
  · subst ee
    rw [x_seq, y_ret, x_C]
    exact ⟨rfl, t2, G2, x2.mono (by omega) (Nat.le_refl _)⟩
end K85

set_option linter.all false
set_option linter.unusedSimpArgs false
set_option maxRecDepth 100000
set_option maxHeartbeats 1000000
namespace K85
open PySem Fw
/-! ### turns of a thread -/
theorem turn_ok (k : Nat) {fs : List Nat} {B p c q l m : Nat} {t : Nat → Tg} {h : IH} {b : Int} {G : Wo} {Ms : List Wo} {i : Nat} {g : Wk} {o th : EE} {e : Fw.Env} {N : Fw.Env → IH → Prop} {R : W → IH → Prop} {B1 C1 : Fw.Env → IH → Prop}
    (ho : ∀ h, o e h = .ok (.loc m) h) (ht : ∀ h, th e h = .ok (.int i) h) (x : LI fs B p c q l m t h b G Ms) (f3 : fs.length ≤ 3) (hB : B < 900000) (hg : G.wks[i]? = some g)
    (z1 : stW g ≠ .str "moves" → ∀ h', LI fs B p c q l m t h' b G Ms → N e h') (z2 : stW g = .str "moves" → ∀ t' h', LI fs (B + 1) p c q l m t' h' b (stepG G i g) Ms → N e h') :
    (sIf (tBol (e2 oEq (eMeth (Phi gk tab (k + 6)) [(10, 42)] "stands" o (aCons th aNil)) (eC (.str "moves")))) (sSeq (sExpr (eMeth (Phi gk tab (k + 6)) [(10, 40)] "step" o (aCons th aNil))) sNext) sNext e h).Wp ⟨N, R, B1, C1⟩ := by
  have V := (x.ok.2.2 i g hg).1
  have l3 : G.wks.length ≤ 3 := by rw [x.ok.1]; exact f3
  have lm : G.mv.length < 1000000 := by have := x.ok.2.1; omega
  obtain ⟨w, mk, mws, MD⟩ := x.ma
  rw [x_if, x_bol, x_e2, x_meth, ho, Rs.Wp_ok, m_ma MD.gm rfl rfl, x_cons, ht, Rs.Wp_ok, x_nil]
  refine (ph42 (k + 1) x.ma hg V l3).mono fun u h1 ⟨eu, k1⟩ => ?_
  rw [eu, x_C]
  refine eq_mv fun cc hc => ?_
  rw [x_bolW]
  refine ⟨fun ct => ?_, fun cf => ?_⟩
  · have mo := hc.mp ct
    have x1 := x.keep k1
    rw [x_seq, x_expr, x_meth, ho, Rs.Wp_ok, m_ma (k1.at MD.gm) rfl rfl, x_cons, ht, Rs.Wp_ok, x_nil]
    refine (ph40 k x1.ma hg V l3 mo lm).mono fun u h2 ⟨_, t', z, M2⟩ => ?_
    rw [x_next]
    exact z2 mo t' h2 (x1.step z M2 hg mo)
  · rw [x_next]
    exact z1 (fun z => by rw [hc.mpr z] at cf; cases cf) h1 (x.keep k1)
theorem ph56 (k : Nat) {fs : List Nat} {B p c q l m : Nat} {t : Nat → Tg} {h : IH} {b : Int} {G : Wo} {Ms : List Wo} {i : Nat} {g : Wk} (x : LI fs B p c q l m t h b G Ms) (f3 : fs.length ≤ 3) (hB : B < 100000) (hg : G.wks[i]? = some g) (f0 : g.f = 0) :
    (Phi gk tab (k + 7) 56 [.loc m, .int i, .int (g.fed : Nat)] h).Wp fun w h' => w = .bl true ∧ ∃ t' G', LI fs (B + 300) p c q l m t' h' b G' Ms ∧ fedL G' = fedL G := by
  rw [phi56, x_callB (by rfl)]
  show (m56 _ [some (.loc m), some (.int i), some (.int (g.fed : Nat)), none] h).Wp _
  unfold m56
  rw [x_seq]
  refine for_rng ?_
  rw [x_C]
  have V0 := (x.ok.2.2 i g hg).1
  have r0 : rem g ≤ 101 := by
    unfold rem
    have := V0.2.1
    have := V0.2.2.1
    split <;> omega
  refine ⟨300, rfl, by decide, fun j e h' => ∃ t' G' g' e3, e = [some (.loc m), some (.int i), some (.int (g.fed : Nat)), e3] ∧ LI fs (B + j) p c q l m t' h' b G' Ms ∧ G'.wks[i]? = some g' ∧ g'.f = 0 ∧ g'.fed = g.fed ∧ rem g' ≤ 101 - j ∧ fedL G' = fedL G,
    ⟨t, G, g, none, rfl, x, hg, f0, rfl, r0, rfl⟩, fun j e h2 hj ⟨t2, G2, g2, e3, ee, x2, hg2, f2, fd2, r2, fl2⟩ => ?_, fun e h2 ⟨t2, G2, g2, e3, ee, x2, hg2, f2, fd2, r2, fl2⟩ => ?_⟩
  · subst ee
    rw [n3, x_seq]
    have V2 := (x2.ok.2.2 i g2 hg2).1
    refine turn_ok k (m := m) (i := i) (fun _ => rfl) (fun _ => rfl) x2 f3 (by omega) hg2 (fun nm h3 x3 => ?_) fun mo t3 h3 x3 => ?_
    · rw [x_next]
      exact ⟨t2, G2, g2, _, rfl, x3.mono (Int.le_refl _) (by omega), hg2, f2, fd2, by have := (rem_not V2 nm f2).1; omega, fl2⟩
    · rw [x_next]
      have il := (List.getElem?_eq_some_iff.mp hg2).1
      have r3 := rem_mv V2 mo f2
      have vf := (mv_val V2 mo).2
      have ef : (mvG g2).fed = g2.fed := by
        unfold mvG
        split
        · rfl
        · rfl
        · split <;> rfl
      refine ⟨t3, stepG G2 i g2, mvG g2, _, rfl, x3.mono (Int.le_refl _) (by omega), ?_, by rw [vf]; exact f2, by rw [ef]; exact fd2, by omega, ?_⟩
      · unfold stepG; dsimp only; rw [List.getElem?_set, if_pos rfl, if_pos il]
      · rw [← fl2]
        unfold stepG
        rw [fed_set, ef]
        refine List.ext_getElem? fun k => ?_
        rw [List.getElem?_set]
        by_cases ik : i = k
        · subst ik; rw [if_pos rfl, fed_at hg2, if_pos (by rw [fed_len]; exact il)]
        · rw [if_neg ik]
  · subst ee
    have ok2 := x2.ok.2.2 i g2 hg2
    have V2 := ok2.1
    have l3 : G2.wks.length ≤ 3 := by rw [x2.ok.1]; exact f3
    have rz : rem g2 = 0 := by omega
    have nm : stW g2 ≠ .str "moves" := fun z => by have := rem_mv V2 z f2; omega
    obtain ⟨_, sw, iz⟩ := rem_not V2 nm f2
    obtain ⟨w, mk, mws, MD⟩ := x2.ma
    rw [x_seq, y_ret, x_eAnd, x_e2, x_meth, v0, m_ma MD.gm rfl rfl, x_cons, v1, x_nil]
    refine (ph42 (k + 1) x2.ma hg2 V2 l3).mono fun u h3 ⟨eu, k3⟩ => ?_
    rw [eu, sw, x_C, eq_ss, x_andK, tt_and]
    have x3 := x2.keep k3
    rw [x_e2, x_mt, x_meth, v0, m_ma (k3.at MD.gm) rfl rfl, x_nil]
    refine (ph44 (k + 5) x3.ma).mono fun u h4 ⟨eu, k4, g4⟩ => ?_
    subst eu
    refine ⟨isLst_at g4, ?_⟩
    rw [x_cons, x_tup, x_cons, v1, x_cons, x_C, x_nil]
    refine ⟨rfl, ?_⟩
    rw [x_nil, x_cnt g4, v2, x_eqI]
    have cn := ok2.2.2 f2
    rw [iz, fd2] at cn
    rw [decide_eq_true (show ((cnt G2.mv i : Nat) : Int) = (g.fed : Nat) by omega)]
    exact ⟨rfl, t2, G2, x3.keep k4, fl2⟩
end K85

set_option linter.all false
set_option linter.unusedSimpArgs false
set_option maxRecDepth 100000
set_option maxHeartbeats 1000000
namespace K85
open PySem Fw
/-! ### marks and ways back, as the law has them -/
theorem mapO_ex {f : W → Option PyData} {Q : PyData → Prop} : ∀ ws : List W, (∀ w ∈ ws, ∃ d, f w = some d ∧ Q d) → ∃ ds, mapO f ws = some ds ∧ ds.length = ws.length ∧ ∀ d ∈ ds, Q d
  | [], _ => ⟨[], rfl, rfl, fun _ h => nomatch h⟩
  | w :: ws, h => by
    obtain ⟨d, e, q⟩ := h w List.mem_cons_self
    obtain ⟨ds, e2, l, q2⟩ := mapO_ex ws fun u hu => h u (List.mem_cons_of_mem _ hu)
    refine ⟨d :: ds, by rw [mapO_cons, e, e2], by rw [List.length_cons, List.length_cons, l], fun x hx => ?_⟩
    rcases List.mem_cons.mp hx with e | hx
    · subst e; exact q
    · exact q2 x hx
theorem lays_ex : ∀ ds : List PyData, (∀ d ∈ ds, d.canLay0 = true ∧ d.depth ≤ 1) → PyData.canLayAll0 ds = true ∧ PyData.depthAll ds ≤ 1
  | [], _ => ⟨rfl, Nat.zero_le _⟩
  | d :: ds, h => by
    obtain ⟨a, b⟩ := h d List.mem_cons_self
    obtain ⟨c, e⟩ := lays_ex ds fun u hu => h u (List.mem_cons_of_mem _ hu)
    refine ⟨?_, ?_⟩
    · show (d.canLay0 && PyData.canLayAll0 ds) = true
      rw [a, c]; rfl
    · show max d.depth (PyData.depthAll ds) ≤ 1
      omega
theorem fedL_ints (G : Wo) : fedL G = (G.wks.map fun g => (g.fed : Int)).map .int := by unfold fedL; rw [List.map_map]; rfl
theorem x_neM {h : IH} {l r : Nat} {ls : List Nat} {P : W → IH → Prop} (g : h.get l = some (.lst (ls.map .loc))) (gi : ∀ (j a : Nat), ls[j]? = some a → ∃ g : Wo, h.get a = some (.lst (fedL g))) (gr : h.get r = some (.lst [])) (z : P (.bl (!ls.isEmpty)) h) : (oNe (.loc l) (.loc r) h).Wp P := by
  obtain ⟨ds, e, ln, q⟩ := mapO_ex (f := toD 64 h) (Q := fun d => d.canLay0 = true ∧ d.depth ≤ 1) (ls.map .loc) fun w hw => by
    obtain ⟨a, ha, ew⟩ := List.mem_map.mp hw
    subst ew
    obtain ⟨j, hj, ej⟩ := List.getElem_of_mem ha
    obtain ⟨G, gg⟩ := gi j a (by rw [← ej]; exact List.getElem?_eq_getElem hj)
    have p1 : purs (fedL G) = true := by rw [fedL_ints]; exact purs_ints _
    have d1 : PyData.depthAll (pds (fedL G)) = 0 := by rw [fedL_ints]; exact depth_ints _
    refine ⟨.list (pds (fedL G)), ?_, lays_pur _ p1, by show PyData.depthAll (pds (fedL G)) + 1 ≤ 1; omega⟩
    show (match listAt h a with
      | some ws => (match mapO (toD 63 h) ws with
        | some ds => some (PyData.list ds)
        | none => none)
      | none => none) = _
    rw [list_at gg]
    dsimp only
    rw [toDs_pur 63 _ p1 (by omega)]
  obtain ⟨c1, c2⟩ := lays_ex ds q
  have d1 : dat h (.loc l) = some (.list ds) := by
    show (match listAt h l with
      | some ws => (match mapO (toD 64 h) ws with
        | some ds => some (PyData.list ds)
        | none => none)
      | none => none) = _
    rw [list_at g]
    dsimp only
    rw [e]
  have d2 : dat h (.loc r) = some (.list []) := dat_lst gr rfl (by decide)
  have s1 : SeqAt.shaped (.list ds) = true := by
    unfold SeqAt.shaped
    have e1 : (PyData.list ds).canLay0 = PyData.canLayAll0 ds := rfl
    have e2 : (PyData.list ds).depth = PyData.depthAll ds + 1 := rfl
    rw [e1, e2, c1, Bool.true_and]
    exact decide_eq_true (by omega)
  have q := eqW_dat (h := h) (a := .loc l) (b := .loc r) rfl d1 d2 s1 rfl
  unfold oNe
  rw [q]
  have ev : PyData.eqv (.list ds) (.list []) = ls.isEmpty := by
    cases ds with
    | nil =>
      cases ls with
      | nil => rfl
      | cons a ls => simp at ln
    | cons d ds =>
      cases ls with
      | nil => simp at ln
      | cons a ls => rfl
  rw [ev]
  exact z
theorem LI.mark {fs : List Nat} {B p c q l m : Nat} {t t' : Nat → Tg} {h h1 : IH} {b : Int} {G : Wo} {Ms : List Wo} (x : LI fs B p c q l m t h b G Ms) (z : Mz t h t' h1) (M : MaAt t' h1 m G (Ms ++ [G])) :
    ∃ ls : List Nat, ls.length = Ms.length ∧ h1.get q = some (.lst (fedL G)) ∧ h1.get l = some (.lst (ls.map .loc)) ∧ ∃ t2, LI fs B p c q l m t2 ((h1.new (.lst (fedL G))).set l (.lst ((ls ++ [h1.n]).map .loc))) b G (Ms ++ [G]) := by
  obtain ⟨y1, y2, y3, y4, y5, ⟨ls, g1, g2, g3⟩, y7⟩ := x.mz z
  refine ⟨ls, g2, y4, g1, fun a => if a = h1.n then .law else t' a, ?_⟩
  have kn : Keep h1 (h1.new (.lst (fedL G))) := Keep.new
  have nw : (h1.new (.lst (fedL G))).get h1.n = some (.lst (fedL G)) := IH.get_new_self _ _
  generalize h1.new (.lst (fedL G)) = h2 at kn nw
  have gl2 := kn.at g1
  have ll := IH.get_lt g1
  have tl : ∀ {a : Nat} {cc : Cell}, h1.get a = some cc → (if a = h1.n then Tg.law else t' a) = t' a := fun gb => if_neg (Nat.ne_of_lt (IH.get_lt gb))
  have u : ∀ {a : Nat} {cc : Cell} {r : Tg}, t' a = r → r ≠ .lmk → h1.get a = some cc → (if a = h1.n then Tg.law else t' a) = r ∧ (h2.set l (.lst ((ls ++ [h1.n]).map .loc))).get a = some cc := fun e n gb => ⟨(tl gb).trans e, (gs_ne gl2 (tne y7 e (Ne.symm n))).trans (kn.at gb)⟩
  obtain ⟨a0, l0, cs, y, r⟩ := y1
  refine ⟨⟨a0, l0, cs, ⟨(u y2 nofun y.pen).2, (u y3 nofun y.cells).2, y.ne⟩, r⟩, (u y2 nofun y.pen).1, (u y3 nofun y.cells).1, (u y5 nofun y4).2, (u y5 nofun y4).1, ⟨ls ++ [h1.n], gs_same gl2, by rw [List.length_append, List.length_append, g2]; rfl, fun j g hg => ?_⟩, (tl g1).trans y7, M.kp fun a cc _ _ n gg => ⟨tl gg, (u rfl n gg).2⟩, x.ok, fun g hg => ?_⟩
  · by_cases ej : j < Ms.length
    · rw [List.getElem?_append_left ej] at hg
      obtain ⟨a, e1, e2, e3⟩ := g3 j g hg
      exact ⟨a, by rw [List.getElem?_append_left (by omega)]; exact e1, (u e2 nofun e3).1, (u e2 nofun e3).2⟩
    · have lj := (List.getElem?_eq_some_iff.mp hg).1
      rw [List.length_append] at lj
      have ej : j = Ms.length := by have : ([G] : List Wo).length = 1 := rfl; omega
      subst ej
      rw [List.getElem?_append_right (Nat.le_refl _), Nat.sub_self] at hg
      cases hg
      refine ⟨h1.n, by rw [← g2, List.getElem?_append_right (Nat.le_refl _), Nat.sub_self]; rfl, if_pos rfl, (gs_ne gl2 (by omega)).trans nw⟩
  · rcases List.mem_append.mp hg with hg | hg
    · exact x.oks g hg
    · rw [List.mem_singleton] at hg; subst hg; exact x.ok
theorem LI.back {fs : List Nat} {B p c q l m : Nat} {t t' : Nat → Tg} {h h1 : IH} {b : Int} {G G0 : Wo} {Ms : List Wo} {j : Nat} (x : LI fs B p c q l m t h b G Ms) (z : Mz t h t' h1) (hj : Ms[j]? = some G0) (M : MaAt t' h1 m G0 (Ms.take (j + 1))) :
    ∃ (ls : List Nat) (a : Nat), h1.get l = some (.lst (ls.map .loc)) ∧ ls[j]? = some a ∧ h1.get a = some (.lst (fedL G0)) ∧ ∃ t2, LI fs B p c h1.n (h1.n + 1) m t2 ((h1.new (.lst (fedL G0))).new (.lst ((ls.take (j + 1)).map .loc))) b G0 (Ms.take (j + 1)) := by
  obtain ⟨y1, y2, y3, y4, y5, ⟨ls, g1, g2, g3⟩, y7⟩ := x.mz z
  obtain ⟨a, ha, ta, ga⟩ := g3 j G0 hj
  refine ⟨ls, a, g1, ha, ga, fun a => if a = h1.n then .cnt else if a = h1.n + 1 then .lmk else t' a, ?_⟩
  have kn : Keep h1 (h1.new (.lst (fedL G0))) := Keep.new
  have nw : (h1.new (.lst (fedL G0))).get h1.n = some (.lst (fedL G0)) := IH.get_new_self _ _
  have nn : (h1.new (.lst (fedL G0))).n = h1.n + 1 := rfl
  generalize h1.new (.lst (fedL G0)) = h2 at kn nw nn
  have k2 : Keep h2 (h2.new (.lst ((ls.take (j + 1)).map .loc))) := Keep.new
  have nw2 : (h2.new (.lst ((ls.take (j + 1)).map .loc))).get (h1.n + 1) = some (.lst ((ls.take (j + 1)).map .loc)) := by rw [← nn]; exact IH.get_new_self _ _
  generalize h2.new (.lst ((ls.take (j + 1)).map .loc)) = h3 at k2 nw2
  have kk := kn.trans k2
  have u : ∀ {a : Nat} {cc : Cell}, h1.get a = some cc → (if a = h1.n then Tg.cnt else if a = h1.n + 1 then Tg.lmk else t' a) = t' a ∧ h3.get a = some cc := fun gb => by
    have := IH.get_lt gb
    exact ⟨by rw [if_neg (by omega), if_neg (by omega)], kk.at gb⟩
  obtain ⟨a0, l0, cs, y, r⟩ := y1
  refine ⟨⟨a0, l0, cs, ⟨(u y.pen).2, (u y.cells).2, y.ne⟩, r⟩, (u y.pen).1.trans y2, (u y.cells).1.trans y3, k2.at nw, if_pos rfl, ⟨ls.take (j + 1), nw2, by rw [List.length_take, List.length_take, g2], fun i g hg => ?_⟩, by rw [if_neg (by omega), if_pos rfl], M.kp fun a cc _ _ _ gg => u gg, x.oks G0 (List.mem_of_getElem? hj), fun g hg => x.oks g (List.mem_of_mem_take hg)⟩
  have li := (List.getElem?_eq_some_iff.mp hg).1
  rw [List.length_take] at li
  rw [List.getElem?_take_of_lt (by omega)] at hg
  obtain ⟨a, e1, e2, e3⟩ := g3 i g hg
  exact ⟨a, by rw [List.getElem?_take_of_lt (by omega)]; exact e1, (u e3).1.trans e2, (u e3).2⟩
end K85

set_option linter.all false
set_option linter.unusedSimpArgs false
set_option maxRecDepth 100000
set_option maxHeartbeats 1000000
namespace K85
open PySem Fw
/-! ### the law -/
abbrev QQ : FT := Phi gk tab 29
abbrev prE : EE := eTup (aCons (eTup (aCons (eTup (aCons (eC (.non)) (aCons (eC (.int 0)) (aCons (eTup aNil) aNil)))) aNil)) (aCons (eTup (aCons (eTup (aCons (eC (.int 0)) (aCons (eTup (aCons (eTup (aCons (eC (.str "branch")) (aCons (eC (.int 0)) aNil))) aNil)) aNil))) (aCons (eTup (aCons (eC (.int 0)) (aCons (eTup (aCons (eTup (aCons (eC (.str "input")) (aCons (eC (.int 0)) aNil))) (aCons (eTup (aCons (eC (.str "show")) (aCons (eC (.int 0)) aNil))) aNil))) aNil))) (aCons (eTup (aCons (eC (.int 0)) (aCons (eTup (aCons (eTup (aCons (eC (.str "show")) (aCons (eC (.int 0)) aNil))) aNil)) aNil))) aNil)))) aNil))
theorem prE_ok (e : Fw.Env) (h : IH) : prE e h = .ok PRw h := by kernel_rfl
def stW' (fs : List Nat) : W := .tup (fs.map fun f => .int (f : Nat))
theorem rep_fed : ∀ fs : List Nat, (List.replicate fs.length ([W.int 0] : List W)).flatten = fedL (stG fs)
  | [] => rfl
  | f :: fs => by rw [List.length_cons, List.replicate_succ, List.flatten_cons, rep_fed fs]; rfl
/-- the machine, the counts, the marks -/
theorem par_ok {fs : List Nat} {p c : Nat} {b : Int} {h : IH} {s0 s3 s5 s6 s7 s8 s9 s10 s11 s12 : Option W} (f0 : fs ≠ []) (f3 : fs.length ≤ 3) (hf : ∀ f ∈ fs, f ≤ 2) (pn : Pen c h p b)
    {N : Fw.Env → IH → Prop} {R : W → IH → Prop} {B C : Fw.Env → IH → Prop} (z : ∀ t q l m h', LI fs 0 p c q l m t h' b (stG fs) [] → N [s0, some (.loc p), some PRw, s3, some (stW' fs), some (.loc m), some (.loc q), some (.loc l), s8, s9, s10, s11, s12] h') :
    (sPar3 5 6 7 (aCons (eMake QQ 10 37 (aCons (eVar 2) (aCons (eVar 4) (aCons (eLst (aCons (eC (.int 0)) aNil)) aNil)))) (aCons (e2 oMul (eLst (aCons (eC (.int 0)) aNil)) (eA (Fw.k1 oLen) (aCons (eVar 4) aNil))) (aCons (eLst aNil) aNil)))
      [s0, some (.loc p), some PRw, s3, some (stW' fs), s5, s6, s7, s8, s9, s10, s11, s12] h).Wp ⟨N, R, B, C⟩ := by
  rw [x_par3]
  show (eMake (Phi gk tab (28 + 1)) 10 37 _ _ h).Wp _
  rw [x_make few_, x_cons, v2, x_cons, v4, x_cons, x_lst, x_cons, x_C, x_nil]
  refine ⟨rfl, ?_⟩
  generalize e1 : IH.new _ _ = h1
  obtain ⟨n1', k1, A1⟩ := new_f e1
  rw [x_nil]
  generalize e2 : IH.new _ _ = h2
  obtain ⟨n2', k2, A2⟩ := new_f e2
  have pl := pn.lt
  have cl : c < h.n := by obtain ⟨_, _, _, y, _⟩ := pn; exact IH.get_lt y.cells
  have ncp : c ≠ p := by obtain ⟨_, _, _, y, _⟩ := pn; exact y.ne
  refine (ph37 20 fs f0 f3 hf (t := fun a => if a = p then .pen else if a = h1.n then .mach else .law) A2 (by rw [if_neg (by omega), if_pos rfl]) (k2.at A1)).mono fun r h3 ⟨er, fr, t', tl, M⟩ => ⟨er, ?_⟩
  have p3 : Pen c h3 p b := by
    obtain ⟨a, l, cs, y, rr⟩ := pn
    exact ⟨a, l, cs, ⟨fr.at (k2.at (k1.at y.pen)) (by omega), fr.at (k2.at (k1.at y.cells)) (by omega), y.ne⟩, rr⟩
  rw [Fw.x_e2, x_lst, x_cons, x_C, x_nil]
  refine ⟨rfl, ?_⟩
  generalize e4 : IH.new _ _ = h4
  obtain ⟨n4', k4, A4⟩ := new_f e4
  rw [x_eA, x_cons, v4, x_nil]
  unfold stW'
  rw [x_lenT, List.length_map, x_mulL A4]
  refine ⟨by
    have l1 : (decide (0 ≤ (fs.length : Int)) && decide ((fs.length : Int) < 1000000) && lenOk (([W.int 0] : List W).length * ((fs.length : Nat) : Int).toNat)) = true := by
      rw [decide_eq_true (by omega), decide_eq_true (by omega), Int.toNat_natCast, lenOk_iff.mpr (by show 1 * fs.length ≤ _; omega)]; rfl
    exact l1, ?_⟩
  have ef : (List.replicate ((fs.length : Nat) : Int).toNat ([W.int 0] : List W)).flatten = fedL (stG fs) := by
    rw [Int.toNat_natCast, rep_fed]
  rw [ef]
  generalize e5 : IH.new _ _ = h5
  obtain ⟨n5', k5, A5⟩ := new_f e5
  rw [x_lst, x_nil]
  refine ⟨rfl, ?_⟩
  generalize e6 : IH.new _ _ = h6
  obtain ⟨n6', k6, A6⟩ := new_f e6
  rw [n5, n6, n7]
  have kk := k4.trans (k5.trans k6)
  have l3 := fr.1
  have u : ∀ {a : Nat} {cc : Cell}, h3.get a = some cc → (if a = h4.n then Tg.cnt else if a = h5.n then Tg.lmk else t' a) = t' a ∧ h6.get a = some cc := fun gb => by
    have := IH.get_lt gb
    exact ⟨by rw [if_neg (by omega), if_neg (by omega)], kk.at gb⟩
  refine z (fun a => if a = h4.n then .cnt else if a = h5.n then .lmk else t' a) h4.n h5.n h1.n h6 ⟨p3.keep kk, ?_, ?_, k6.at A5, if_pos rfl, ⟨[], A6, rfl, fun j g hg => nomatch hg⟩, ?_, M.kp fun a cc _ _ _ gg => u gg, ?_, fun g hg => nomatch hg⟩
  · rw [if_neg (by omega), if_neg (by omega), tl p (by omega), if_pos rfl]
  · rw [if_neg (by omega), if_neg (by omega), tl c (by omega), if_neg ncp, if_neg (by omega)]
  · rw [if_neg (by omega), if_pos rfl]
  · refine ⟨by unfold stG; rw [List.length_map], Nat.le_refl _, fun k g e => ?_⟩
    unfold stG at e
    dsimp only at e
    rw [List.getElem?_map] at e
    cases q : fs[k]? with
    | none => rw [q] at e; cases e
    | some f =>
      rw [q] at e; cases e
      exact ⟨⟨hf f (List.mem_of_getElem? q), Nat.le_refl _, Nat.zero_le _, fun _ => .inl rfl, fun p e => nomatch e⟩, rfl, fun _ => rfl⟩
/-- the starts -/
theorem starts_ok {p c : Nat} {b : Int} {h : IH} {s0 s2 s3 s4 s5 s6 s7 s8 s9 s10 s11 s12 : Option W} (pn : Pen c h p b) (hb : b < 900000) {P : W → IH → Prop} (z : ∀ fs h', fs ≠ [] → fs.length ≤ 3 → (∀ f ∈ fs, f ≤ 2) → Pen c h' p (b + 5) → P (stW' fs) h') :
    (eA (Fw.k1 oTuple) (aCons (eLc (iA kRng1 (aCons (e2 oAdd (eC (.int 1)) (eCall QQ 52 (aCons (eVar 1) (aCons (eC (.int 3)) aNil)))) aNil)) (gNm 3) tYes (eCall QQ 53 (aCons (eVar 1) (aCons (eLst (aCons (eC (.int 0)) (aCons (eC (.int 0)) (aCons (eC (.int 1)) (aCons (eC (.int 2)) aNil))))) aNil))) [3]) aNil)
      [s0, some (.loc p), s2, s3, s4, s5, s6, s7, s8, s9, s10, s11, s12] h).Wp P := by
  rw [x_eA, x_cons]
  refine lc_rng ?_
  rw [x_e2, x_C, x_call, x_cons, v1, x_cons, x_C, x_nil]
  refine (phTk 27 p b 3 h pn (by omega) (by decide) (by decide)).mono fun w h1 ⟨v, e1, v0_, v1_, f1, p1⟩ => ?_
  subst e1
  rw [x_add]
  refine ⟨(1 + v).toNat, by rw [Int.toNat_of_nonneg (by omega)], by omega, fun j xs h' => ∃ fs : List Nat, xs = (fs.map fun f => .int (f : Nat)) ∧ fs.length = j ∧ (∀ f ∈ fs, f ≤ 2) ∧ Pen c h' p (b + 1 + j), ⟨[], rfl, rfl, nofun, p1.mono (by omega)⟩, fun j xs h2 hj ⟨fs, ex, lf, hf, p2⟩ => ?_, fun xs h2 ⟨fs, ex, lf, hf, p2⟩ => ?_⟩
  · show (gNm 3 (.int j) [s0, some (.loc p), s2, none, s4, s5, s6, s7, s8, s9, s10, s11, s12] h2).Wp _
    rw [n3, x_call, x_cons, v1, x_cons, x_lst, x_cons, x_C, x_cons, x_C, x_cons, x_C, x_cons, x_C, x_nil]
    refine ⟨rfl, ?_⟩
    generalize e3 : IH.new _ _ = h3
    obtain ⟨n3', k3, A3⟩ := new_f e3
    have pl := p2.lt
    rw [x_nil]
    refine (phPk 26 p h2.n _ _ h3 (p2.keep k3) A3 (by omega) (by omega) (by simp) (by simp)).mono fun y h4 ⟨ym, f4, p4⟩ => ?_
    have yy : ∃ f : Nat, y = .int (f : Nat) ∧ f ≤ 2 := by
      simp only [List.mem_cons, List.not_mem_nil, or_false] at ym
      rcases ym with e | e | e | e
      · exact ⟨0, e, by decide⟩
      · exact ⟨0, e, by decide⟩
      · exact ⟨1, e, by decide⟩
      · exact ⟨2, e, by decide⟩
    obtain ⟨f, ey, f2⟩ := yy
    refine ⟨fs ++ [f], by rw [ex, ey, List.map_append]; rfl, by rw [List.length_append, lf]; rfl, fun g hg => ?_, p4.mono (by omega)⟩
    rcases List.mem_append.mp hg with hg | hg
    · exact hf g hg
    · rw [List.mem_singleton] at hg; subst hg; exact f2
  · refine ⟨by rw [ex, List.length_map]; omega, ?_⟩
    generalize e4 : IH.new _ _ = h4
    obtain ⟨n4', k4, A4⟩ := new_f e4
    rw [x_nil, x_tupL A4, ex]
    exact z fs h4 (fun e => by rw [e] at lf; have : (0 : Nat) = (1 + v).toNat := lf; omega) (by omega) hf ((p2.keep k4).mono (by omega))
theorem if_bool {t : ET} {a b : SS} {e : Fw.Env} {h : IH} {Q : Prop} {N : Fw.Env → IH → Prop} {R : W → IH → Prop} {B C : Fw.Env → IH → Prop} (w : (t e h).Wp fun c h' => Keep h h' ∧ (c = true → Q)) (ha : ∀ h', Keep h h' → Q → (a e h').Wp ⟨N, R, B, C⟩) (hb : ∀ h', Keep h h' → (b e h').Wp ⟨N, R, B, C⟩) : (sIf t a b e h).Wp ⟨N, R, B, C⟩ := by
  rw [x_if]
  exact w.mono fun c h' ⟨k, q⟩ => ⟨fun z => ha h' k (q z), fun _ => hb h' k⟩
theorem law_ok (ns : List Int) (h : IH) : (Phi gk tab 30 57 [.ro (ns.map .int)] h).Wp fun w _ => w = .bl true := by
  have e57 : Phi gk tab 30 57 [.ro (ns.map .int)] h = callB (m57 QQ) 1 13 [.ro (ns.map .int)] h := phi57 29 _ _
  rw [e57, x_callB (by rfl)]
  show (m57 QQ [some (.ro (ns.map .int)), none, none, none, none, none, none, none, none, none, none, none, none] h).Wp _
  unfold m57
  have e51 : ∀ ws h, QQ 51 ws h = callB (m51 (Phi gk tab 28)) 1 4 ws h := fun ws h => phi51 28 ws h
  rw [x_seq, y_asg, x_call, x_cons, v0, x_nil, e51]
  refine (open_ok _ ns h).mono fun w1 h1 ⟨p, c, e1, p1⟩ => ?_
  subst e1
  rw [n1, x_seq, y_asg]
  show (prE _ h1).Wp _
  rw [prE_ok, Rs.Wp_ok, n2, x_seq, y_asg]
  refine starts_ok p1 (by decide) fun fs h2 f0 f3 hf p2 => ?_
  rw [n4, x_seq]
  refine par_ok f0 f3 hf p2 fun t q l m h3 L3 => ?_
  have fl : 0 < fs.length := List.length_pos_iff.mpr f0
  rw [x_seq]
  refine for_rng ?_
  rw [x_e2, x_C, x_call, x_cons, v1, x_cons, x_C, x_nil]
  refine (phTk 27 p _ 12 h3 L3.pen (by decide) (by decide) (by decide)).mono fun w4 h4 ⟨v, e4, v0_, v1_, f4, p4⟩ => ?_
  subst e4
  rw [x_add]
  have L4 := L3.take f4 p4
  refine ⟨(4 + v).toNat, by rw [Int.toNat_of_nonneg (by omega)], by omega, fun j e h' => ∃ t q l G Ms s3 s8 s9 s10 s11 s12, e = [some (.ro (ns.map .int)), some (.loc p), some PRw, s3, some (stW' fs), some (.loc m), some (.loc q), some (.loc l), s8, s9, s10, s11, s12] ∧ LI fs (30 * j) p c q l m t h' (10 + 300 * j) G Ms ∧ Ms.length ≤ j,
    ⟨t, q, l, stG fs, [], _, _, _, _, _, _, rfl, L4.mono (by omega) (by omega), Nat.le_refl _⟩, fun j e h5 hj ⟨t, q, l, G, Ms, s3, s8, s9, s10, s11, s12, ee, L5, lM⟩ => ?_, fun e h5 ⟨t, q, l, G, Ms, s3, s8, s9, s10, s11, s12, ee, L5, lM⟩ => ?_⟩
  · subst ee
    have jl : j < 16 := by omega
    rw [n3, x_seq, x_par2, x_call, x_cons, v1, x_cons, x_C, x_nil]
    refine (phTk 27 p _ 8 h5 L5.pen (by omega) (by decide) (by decide)).mono fun w6 h6 ⟨way, e6, w0_, w1_, f6, p6⟩ => ?_
    subst e6
    have L6 := L5.take f6 p6
    rw [x_call, x_cons, v1, x_cons, x_eA, x_cons, v4, x_nil]
    unfold stW'
    rw [x_lenT, List.length_map, x_nil]
    refine (phTk 27 p _ (fs.length : Int) h6 L6.pen (by omega) (by omega) (by omega)).mono fun w7 h7 ⟨th, e7, t0_, t1_, f7, p7⟩ => ?_
    subst e7
    have L7 := L6.take f7 p7
    obtain ⟨i, ei⟩ : ∃ i : Nat, th = (i : Int) := ⟨th.toNat, (Int.toNat_of_nonneg t0_).symm⟩
    subst ei
    have il : i < fs.length := by omega
    have l3 : ∀ G', GOk fs (30 * j) G' → G'.wks.length ≤ 3 ∧ G'.mv.length < 1000000 := fun G' ok => ⟨by rw [ok.1]; exact f3, by have := ok.2.1; omega⟩
    rw [n8, n9, x_seq, x_if, x_bol, x_e2, v8, x_C, x_eqI, x_bolW]
    refine ⟨fun wy => ?_, fun wy => ?_⟩
    · -- a mark
      obtain ⟨w, mk, mws, MD⟩ := L7.ma
      rw [x_seq, x_expr, x_meth, v5, m_ma MD.gm rfl rfl, x_nil]
      refine (ph48 22 L7.ma (l3 G L7.ok).1 (l3 G L7.ok).2 (by omega)).mono fun _ h8 ⟨t8, z8, M8⟩ => ?_
      obtain ⟨ls, ll, gq, gl, t9, L9⟩ := L7.mark z8 M8
      rw [x_seq, x_expr, x_mt, v7]
      refine ⟨isLst_at gl, ?_⟩
      rw [x_cons, x_eA, x_cons, v6, x_nil, x_listL gq, x_nil, x_app (Keep.new.at gl) (by rw [List.length_map]; omega), x_next, x_next]
      have ea : ls.map W.loc ++ [.loc h8.n] = (ls ++ [h8.n]).map .loc := by rw [List.map_append]; rfl
      rw [ea]
      exact ⟨t9, q, l, G, Ms ++ [G], _, _, _, _, _, _, rfl, L9.mono (by omega) (by omega), by rw [List.length_append]; exact Nat.succ_le_succ lM⟩
    · rw [x_seq]
      refine if_bool (Q := Ms ≠ []) ?_ (fun h8 k8 nz => ?_) fun h8 k8 => ?_
      · rw [x_and, x_bol, x_e2, v8, x_C, x_eqI, x_bolW]
        refine ⟨fun _ => ?_, fun _ => ⟨Keep.refl, nofun⟩⟩
        rw [x_bol, x_e2, v7, x_lst, x_nil]
        refine ⟨rfl, ?_⟩
        generalize e8 : IH.new _ _ = h8
        obtain ⟨n8', k8, A8⟩ := new_f e8
        obtain ⟨ls, g1, g2, g3⟩ := L7.gl
        refine x_neM (k8.at g1) (fun j' a hj' => ?_) A8 ?_
        · have lj := (List.getElem?_eq_some_iff.mp hj').1
          obtain ⟨a', e1, _, e3⟩ := g3 j' _ (List.getElem?_eq_getElem (by omega))
          rw [hj'] at e1; cases e1
          exact ⟨_, k8.at e3⟩
        · rw [x_bolW]
          refine ⟨k8, fun e z => ?_⟩
          rw [z] at g2
          have : ls = [] := List.eq_nil_of_length_eq_zero g2
          rw [this] at e
          cases e
      · -- a way back
        have L8 := L7.keep k8
        have lM0 : 0 < Ms.length := List.length_pos_iff.mpr nz
        obtain ⟨ls, g1, g2, g3⟩ := L8.gl
        rw [x_seq, y_asg, x_call, x_cons, v1, x_cons, x_eA, x_cons, v7, x_nil, x_lenL g1, List.length_map, g2, x_nil]
        refine (phTk 27 p _ (Ms.length : Int) h8 L8.pen (by omega) (by omega) (by omega)).mono fun w9 h9 ⟨nn, e9, b0_, b1_, f9, p9⟩ => ?_
        subst e9
        have L9 := L8.take f9 p9
        obtain ⟨j', ej⟩ : ∃ j' : Nat, nn = (j' : Int) := ⟨nn.toNat, (Int.toNat_of_nonneg b0_).symm⟩
        subst ej
        have hj' : Ms[j']? = some Ms[j'] := List.getElem?_eq_getElem (by omega)
        have okj := L9.oks _ (List.mem_of_getElem? hj')
        obtain ⟨w, mk, mws, MD⟩ := L9.ma
        rw [n10, x_seq, x_expr, x_meth, v5, m_ma MD.gm rfl rfl, x_cons, v10, x_nil]
        refine (ph49 22 L9.ma hj' (l3 _ okj).1 (l3 _ okj).2).mono fun _ h10 ⟨t10, z10, M10⟩ => ?_
        obtain ⟨ls', a, gl, ga, gfa, t11, L11⟩ := L9.back z10 hj' M10
        rw [x_seq, x_par2, x_eA, x_cons, x_e2, v7, v10, x_ix gl (Int.natCast_nonneg _) (by rw [Int.toNat_natCast, List.getElem?_map, ga]; rfl), x_nil, x_listL gfa]
        have g2' : (h10.new (.lst (fedL Ms[j']))).get l = some (.lst (ls'.map .loc)) := Keep.new.at gl
        have ps : (pSome (e2 oAdd (eVar 10) (eC (.int 1))) [some (.ro (ns.map .int)), some (.loc p), some PRw, some (.int (j : Nat)), some (stW' fs), some (.loc m), some (.loc q), some (.loc l), some (.int way), some (.int i), some (.int j'), s11, s12] (h10.new (.lst (fedL Ms[j'])))) = .ok (some ((j' : Int) + 1)) (h10.new (.lst (fedL Ms[j']))) := rfl
        rw [x_sl, v7, x_none]
        show (Rs.Wp (pSome (e2 oAdd (eVar 10) (eC (.int 1))) [some (.ro (ns.map .int)), some (.loc p), some PRw, some (.int (j : Nat)), some (stW' fs), some (.loc m), some (.loc q), some (.loc l), some (.int way), some (.int i), some (.int j'), s11, s12] (h10.new (.lst (fedL Ms[j'])))) _)
        rw [ps, Rs.Wp_ok]
        have ll' : j' < ls'.length := (List.getElem?_eq_some_iff.mp ga).1
        have sl : oSl none (some ((j' : Int) + 1)) (.loc l) (h10.new (.lst (fedL Ms[j']))) = .ok (.loc (h10.n + 1)) ((h10.new (.lst (fedL Ms[j']))).new (.lst ((ls'.take (j' + 1)).map .loc))) := by
          unfold oSl
          dsimp only
          rw [list_at g2']
          dsimp only
          have cc : cutW (ls'.map W.loc) none (some ((j' : Int) + 1)) = (ls'.take (j' + 1)).map W.loc := by
            unfold cutW
            have e0 : HT.sIx (ls'.map W.loc).length 0 none = 0 := rfl
            rw [e0, List.drop_zero, Nat.sub_zero, List.map_take]
            have e1 : HT.sIx (ls'.map W.loc).length (ls'.map W.loc).length (some ((j' : Int) + 1)) = j' + 1 := by
              rw [List.length_map]
              unfold HT.sIx
              dsimp only
              rw [if_neg (by omega)]
              omega
            rw [e1]
          rw [cc]
          rfl
        rw [sl, Rs.Wp_ok, n6, n7, x_next, x_next]
        exact ⟨t11, _, _, _, _, _, _, _, _, _, _, rfl, L11.mono (by omega) (by omega), by rw [List.length_take]; omega⟩
      · have L8 := L7.keep k8
        rw [x_seq, x_if, x_bol, x_e2, v8, x_C, x_lt, x_bolW]
        refine ⟨fun _ => ?_, fun _ => ?_⟩
        · -- inputs
          rw [x_seq, x_if, x_not, x_tru, x_call, x_cons, v1, x_cons, v5, x_cons, v9, x_cons, v6, x_nil]
          refine (ph55 24 L8 il (by omega)).mono fun w9 h9 ⟨e9, t9, G9, L9⟩ => ?_
          subst e9
          rw [x_truB, nt_and]
          repeat rw [x_next]
          exact ⟨t9, q, l, G9, Ms, _, _, _, _, _, _, rfl, L9.mono (by omega) (by omega), by omega⟩
        · -- moves
          rw [x_seq]
          refine for_rng ?_
          rw [x_call, x_cons, v1, x_cons, x_C, x_nil]
          refine (phTk 27 p _ 30 h8 L8.pen (by omega) (by decide) (by decide)).mono fun w9 h9 ⟨u, e9, u0_, u1_, f9, p9⟩ => ?_
          subst e9
          have L9 := L8.take f9 p9
          refine ⟨u.toNat, by rw [Int.toNat_of_nonneg u0_], by omega, fun j2 e h' => ∃ t G s11, e = [some (.ro (ns.map .int)), some (.loc p), some PRw, some (.int (j : Nat)), some (stW' fs), some (.loc m), some (.loc q), some (.loc l), some (.int way), some (.int i), s10, s11, s12] ∧ LI fs (30 * j + j2) p c q l m t h' (10 + 300 * j + 3) G Ms,
            ⟨t, G, _, rfl, L9.mono (by omega) (by omega)⟩, fun j2 e h10 hj2 ⟨t, G, s11, ee, L10⟩ => ?_, fun e h10 ⟨t, G, s11, ee, L10⟩ => ?_⟩
          · subst ee
            obtain ⟨g, hg⟩ : ∃ g, G.wks[i]? = some g := ⟨_, List.getElem?_eq_getElem (by rw [L10.ok.1]; exact il)⟩
            rw [n11, x_seq]
            refine turn_ok 23 (m := m) (i := i) (fun _ => rfl) (fun _ => rfl) L10 f3 (by omega) hg (fun _ h11 L11 => ?_) fun _ t11 h11 L11 => ?_
            · rw [x_next]
              exact ⟨t, G, _, rfl, L11.mono (by omega) (by omega)⟩
            · rw [x_next]
              exact ⟨t11, _, _, rfl, L11.mono (by omega) (by omega)⟩
          · subst ee
            repeat rw [x_next]
            exact ⟨t, q, l, G, Ms, _, _, _, _, _, _, rfl, L10.mono (by omega) (by omega), by omega⟩
  · subst ee
    have vj : (4 + v).toNat ≤ 16 := by omega
    have L5 : LI fs 480 p c q l m t h5 6000 G Ms := L5.mono (by omega) (by omega)
    rw [x_seq]
    refine for_enuT ?_
    rw [v4]
    unfold stW'
    refine ⟨_, rfl, fun j e h' => ∃ t G s3 s8 s9 s10 s11 s12, e = [some (.ro (ns.map .int)), some (.loc p), some PRw, s3, some (.tup (fs.map fun f => .int (f : Nat))), some (.loc m), some (.loc q), some (.loc l), s8, s9, s10, s11, s12] ∧ LI fs (480 + 300 * j) p c q l m t h' 6000 G Ms,
      ⟨t, G, _, _, _, _, _, _, rfl, L5⟩, fun j e h6 y ⟨t, G, s3, s8, s9, s10, s11, s12, ee, L6⟩ hy => ?_, fun e h6 ⟨t, G, s3, s8, s9, s10, s11, s12, ee, L6⟩ => ?_⟩
    · subst ee
      rw [List.getElem?_map] at hy
      cases ef : fs[j]? with
      | none => rw [ef] at hy; cases hy
      | some f =>
      rw [ef] at hy
      have hy : W.int (f : Nat) = y := Option.some.inj hy
      subst hy
      have jl := (List.getElem?_eq_some_iff.mp ef).1
      obtain ⟨g, hg⟩ : ∃ g, G.wks[j]? = some g := ⟨_, List.getElem?_eq_getElem (by rw [L6.ok.1]; exact jl)⟩
      have okg := L6.ok.2.2 j g hg
      have fg : g.f = f := by rw [ef] at okg; exact (Option.some.inj okg.2.1).symm
      rw [x_tp]
      refine ⟨rfl, ?_⟩
      rw [x_gs1, n9, x_gs1, n12, x_gs0, x_seq, x_if, x_and, x_bol, x_e2, v12, x_C, x_eqI, x_bolW]
      refine ⟨fun z => ?_, fun _ => ⟨nofun, fun _ => ?_⟩⟩
      · have z := of_decide_eq_true z
        have f0' : g.f = 0 := by omega
        rw [x_not, x_tru, x_call, x_cons, v5, x_cons, v9, x_cons, x_e2, v6, v9, x_ix L6.gq (Int.natCast_nonneg _) (by rw [Int.toNat_natCast]; exact fed_at hg), x_nil]
        refine (ph56 22 L6 f3 (by omega) hg f0').mono fun w7 h7 ⟨e7, t7, G7, L7, _⟩ => ?_
        subst e7
        rw [x_truB, nt_and]
        repeat rw [x_next]
        exact ⟨t7, G7, _, _, _, _, _, _, rfl, L7.mono (by omega) (by omega)⟩
      · repeat rw [x_next]
        exact ⟨t, G, _, _, _, _, _, _, rfl, L6.mono (by omega) (by omega)⟩
    · rw [x_seq, y_ret, x_C]
theorem eval_ (ns : List Int) (hn : ns.length ≤ 63) : ∃ h', Phi gk tab 30 lawId [.ro (ns.map W.int)] ih0 = .ok (.bl true) h' := by
  obtain ⟨w, h', e, q⟩ := (law_ok ns ih0).ex
  exact ⟨h', by rw [← q]; exact e⟩
end K85

set_option maxRecDepth 100000
set_option maxHeartbeats 0
open PySem PySem.W PySem.Calls PyProof.Rows
theorem PySem.Challenge.cw_firstwake_k85_rooms_of_inputs_holds : PySem.Challenge.rw_firstwake_k85_rooms_of_inputs.Holds := by
  w_on; o_law
  refine HandSHeadRun.head_any (r := OpenLaw.row PySem.Challenge.rw_firstwake_k85_rooms_of_inputs) (q := view (OpenLaw.row PySem.Challenge.rw_firstwake_k85_rooms_of_inputs).prog [54]) (H := K85.hk) (ob := K85.ob) (M := 6000) (loose := K85.loose) (d := HandSHeadRun.topDef (OpenLaw.row PySem.Challenge.rw_firstwake_k85_rooms_of_inputs).prog 54) (kwd := []) K85.ob_eq
    (by kernel_rfl) (fun s => by kernel_rfl) K85.run (by kernel_rfl) (by kernel_rfl) (by kernel_rfl) (by rfl) (by first | assumption | decide +kernel) (by decide +kernel) ⟨rfl, rfl, rfl, rfl, rfl, by decide +kernel⟩ ?hw ?hc
  case hw => w_witness2
  case hc =>
    exact Fw.walkF (l := PySem.Challenge.rw_firstwake_k85_rooms_of_inputs) (n := 63) (k := 30) (x := "script") (tab := K85.tab) (xs := K85.xs) (id := K85.lawId) (dl := K85.d57) rfl (by decide) (by kernel_rfl) ⟨rfl, by decide, by decide⟩ (by kernel_rfl) (by kernel_rfl) (by kernel_rfl) K85.gsok K85.all_ K85.eval_

