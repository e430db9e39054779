import PyProof.Rows.All
import Wide.All
import OpenK.AllK
import Wide.FinOn
import HandS.ForMost
import HandS.Exc
import HandS.ExcOwn
import HandS.ExcValue
import HandS.ExcIs
import HandS.TryOnly
import HandS.Lambda
import HandS.IsInst
import HandS.Walk
import HandS.WordsExc
import HandS.StrMore
import PySem.Challenge.RW_sureleaves_k93_sums_notice_each_change
import HandS.Words
import HandS.Defaults
import HandS.EndTab
import HandS.Head0
import HandS.Head1
import HandS.Head2
import HandS.HeadEnd
import HandS.HeadHook1
import HandS.HeadHook2
import HandS.HeadHook3
import HandS.HeadHook4
import HandS.HeadWalk
import HandS.Evl
import HandS.Flow
import KE.IntTextLaws
set_option Elab.async false
set_option linter.all false
set_option maxRecDepth 100000
set_option maxHeartbeats 4000000
namespace Rx
open PySem PySem.Spec PyProof.Rows L2
/-! ### enumerate of a text -/
def IteS (x : Str) : It :=
  ⟨fun i _ => i < x.cps.size, fun i H v H' => ∃ T c, v = .ref T ∧ H T = none ∧ H' = upd H T (.tup [.int (i : Nat), .str ⟨#[c]⟩]) ∧ x.cps[i]? = some c, fun i _ => x.cps.size ≤ i⟩
theorem draws_str {prog : Program} {w : World} {A : Around} (hh : A.handled = none) (it : Addr) (x : Str) (t : Tok) (ty : String) (hty : ty = "str_ascii_iterator" ∨ ty = "str_iterator") :
    Draws prog w A it [it] x.cps.size (fun i v => ∃ c u, x.cps[i]? = some c ∧ v = .str ⟨#[c]⟩ u) (fun i h => h.IsStrIter it ty x t i) := by
  rcases hty with e | e
  · rw [e]; exact Draws.strAscii hh it x t
  · rw [e]; exact Draws.strWide hh it x t
theorem turn_enumS {P : Program} {w : World} {K : PySem.W.Frag} {elts : List Expr} {kk : Nat} {tpos : Pos} (e it : Addr) (x : Str) (t : Tok) (ty : String) (hty : ty = "str_ascii_iterator" ∨ ty = "str_iterator") :
    Turn P w K (.Tuple elts kk tpos) (IteS x) [e, it] e (fun i h => (∃ old, IsEnum h e it ((i : Nat) : Int) old) ∧ h.IsStrIter it ty x t i ∧ e ≠ it) where
  mem := by simp
  obj := fun i h st b hb => by
    obtain ⟨⟨old, he⟩, ⟨o, ho, hc, hd⟩, _⟩ := st
    have e' : b = e ∨ b = it := by simpa using hb
    rcases e' with z | z
    · rw [z]; exact ⟨_, he, fun v q => nomatch q⟩
    · rw [z]; exact ⟨o, ho, fun v q => by rw [hd] at q; cases q⟩
  keep := fun i h h' st k => let ⟨⟨old, he⟩, ⟨o, ho, r⟩, hne⟩ := st; ⟨⟨old, k e (by simp) _ he⟩, ⟨o, k it (by simp) o ho, r⟩, hne⟩
  item := by
    intro X hP hw hK hc i pins s σ H E I hf st hg
    subst hP hw hK
    obtain ⟨⟨old, he⟩, hit, hne⟩ := st
    have hel : e < s.heap.objs.size := Heap.lt_size he
    have hil : it < s.heap.objs.size := by obtain ⟨_, q, _⟩ := hit; exact Heap.lt_size q
    have hg' : i < x.cps.size := hg
    refine wpAny_pyNext_enum_itemD (draws_str (A := X.A.in1) (I.ok.hd hc) it x t ty hty) he hit hg' hne (by simpa using hne) fun v h' tk hv ho hit' hT hsz hk => ?_
    obtain ⟨c, u, hcx, rfl⟩ := hv
    refine ⟨_, rfl, wpAny_letOwnedTupleGo_enum (s := { s with heap := h', toks := tk + 1 }) ho fun h'' he' sb => ?_⟩
    have hT2 : h''.get? s.heap.objs.size = some { cls := .type "tuple", data := .seq #[.int i tk, .str ⟨#[c]⟩ u] } := (sb.2 _ (Nat.ne_of_gt hel)).trans hT
    have new : ObjOk X.prog X.w (upd H s.heap.objs.size (.tup [.int (i : Nat), .str ⟨#[c]⟩])) h'' s.heap.objs.size (.tup [.int (i : Nat), .str ⟨#[c]⟩]) :=
      ⟨by show 2 ≤ sizeLine; decide, [.int i tk, .str ⟨#[c]⟩ u], .cons ⟨_, rfl⟩ (.cons ⟨_, rfl⟩ .nil), ⟨_, hT2, rfl, _, rfl⟩⟩
    have I1 : Inv X pins σ (upd H s.heap.objs.size (.tup [.int (i : Nat), .str ⟨#[c]⟩])) { s with heap := h'', toks := tk + 1 } :=
      I.turnedNew (ch := [e, it]) (fun b ob hb q => (sb.2 b (fun z => hb (by simp [z]))).trans (hk b ob (fun z => hb (by simp [z])) (fun z => hb (by simp [z])) q)) hf (Nat.le_refl _) new
    refine ⟨.ref s.heap.objs.size, _, I1, rfl, ⟨_, c, rfl, I.hok.fresh (Nat.le_refl _), rfl, hcx⟩, ⟨⟨.str ⟨#[c]⟩ u, ?_⟩, ?_, hne⟩, fun b hb => ?_⟩
    · have e1 : ((i + 1 : Nat) : Int) = (i : Int) + 1 := by omega
      rw [e1]; exact he'
    · obtain ⟨o, q, r⟩ := hit'
      exact ⟨o, (sb.2 it (Ne.symm hne)).trans q, r⟩
    · have hb' : b < s.heap.objs.size := by
        have e' : b = e ∨ b = it := by simpa using hb
        rcases e' with z | z
        · rw [z]; exact hel
        · rw [z]; exact hil
      rw [upd_ne (Nat.ne_of_lt hb')]
      exact (hf b hb).1
  done := by
    intro X hP hw hK hc i pins s σ H E I hf st hg
    subst hP hw hK
    obtain ⟨⟨old, he⟩, hit, hne⟩ := st
    obtain ⟨f0, f1, f2, f3, f4, f5⟩ := hf it (by simp)
    have hg' : x.cps.size ≤ i := hg
    have hend : ∀ (Q : Option Value → Shared → Prop), (∀ h', Heap.ExtBut it s.heap h' → Q none { s with heap := h' }) → wpAny (model X.prog X.w) X.A (pyNext (.ref e)) Q E s := fun Q hq => by
      have hT : s.TypeIs (.ref e) "enumerate" := ⟨_, he, rfl⟩
      unfold pyNext
      refine wpAny_bind (wpAny_attempt (wpAny_callSpecial?_slot (name := Str.ofString "__next__") hT F.slot_enumerate_next
        (wpAny_call_entry F.slot_enumerate_next hT F.entry_enumerate_next ?_ (F.args_enumerate_next_1 _))))
      show wpAny _ _ (field (.ref e) 2 >>= _) _ _ _
      refine wpAny_bind (wpAny_field he rfl (x := .ref it) rfl ?_)
      have hx : x.cps[i]? = none := Array.getElem?_eq_none hg'
      have fin : ∀ (h' : Heap) (v : Value), Heap.ExtBut it s.heap h' → (∃ o, h'.get? (match v with | .ref a => a | _ => 0) = some o ∧ True) → True := fun _ _ _ _ => True.intro
      rcases hty with z | z
      · rw [z] at hit
        refine wpAny_bind (wpAny_nextOf_ascii_end (I.ok.hd hc) hit hx fun h' v he' hx' => ?_)
        obtain ⟨o, ho, hc⟩ := hx'
        refine wpAny_bind (wpAny_isInstance (T := "StopIteration") (b := true) ⟨o, ho, hc⟩ isSubtype_stop ?_)
        exact wpAny_pure (hq _ he')
      · rw [z] at hit
        refine wpAny_bind (wpAny_nextOf_wide_end (I.ok.hd hc) hit hx fun h' v he' hx' => ?_)
        obtain ⟨o, ho, hc⟩ := hx'
        refine wpAny_bind (wpAny_isInstance (T := "StopIteration") (b := true) ⟨o, ho, hc⟩ isSubtype_stop ?_)
        exact wpAny_pure (hq _ he')
    exact hend _ fun h' eb => ⟨rfl, I.turned (t' := s.toks) (fun b o hb q => eb b o hb q) f0 f1 f3 f4 f5⟩
  self := fun A i s Q E st h => let ⟨⟨_, he⟩, _⟩ := st; wpAny_pyIter_enum he h
def iEnumS (ta : TA) : TI := fun σ H R => ta σ H fun vs H1 => ∃ x, vs = [.str x] ∧ R (IteS x) H1
theorem strIter_ty (x : Str) : strIterType x = "str_ascii_iterator" ∨ strIterType x = "str_iterator" := by
  unfold strIterType
  split <;> first | exact .inl rfl | exact .inr rfl
theorem pi_enumS {X : Cx} {e : Expr} {ta : TA} {p pos tpos : Pos} {elts : List Expr} {kk : Nat} (hg : Gl X "enumerate") (hm : X.mg "enumerate" = none) (ha : PA X [e] ta) (hs : starEach [e] X.env = [(false, eval e X.env)] := by rfl) :
    PI X (.Tuple elts kk tpos) (.Call (.Name "enumerate" p) [e] [] pos) (iEnumS ta) := by
  refine ⟨fun pins s σ H R I h => ?_⟩
  refine Call_ (ld_blt I hg hm boot_enumerate (PyProof.Rows.callWith_type1 (thn (ha.run pos pins s σ H _ I h) fun us s1 ⟨vs, H1, I1, r1, q1⟩ => ?_) hs rfl))
  obtain ⟨x, ex, q⟩ := q1
  subst ex
  cases r1 with
  | cons r rr =>
    cases rr
    obtain ⟨t, rfl⟩ := r
    refine call_enumerate_str fun h' he hit hsz hk => wpAny_pyIter_enum he ?_
    have I2 : Inv X pins σ H1 { s1 with heap := h' } := I1.kept (t' := s1.toks) hk
    refine ⟨s1.heap.objs.size + 1, [s1.heap.objs.size + 1, s1.heap.objs.size], _, _, H1, rfl, I2, turn_enumS (s1.heap.objs.size + 1) s1.heap.objs.size x t (strIterType x) (strIter_ty x), ⟨⟨.none, he⟩, hit, Nat.succ_ne_self _⟩, fun b hb => ?_, q⟩
    have e' : b = s1.heap.objs.size + 1 ∨ b = s1.heap.objs.size := by simpa using hb
    have hle : s1.heap.objs.size ≤ b := by
      rcases e' with z | z
      · rw [z]; exact Nat.le_add_right _ _
      · rw [z]; exact Nat.le_refl _
    exact I1.fpOk hle (I1.hok.fresh hle)
theorem walk_enumS {x : Str} : Walk (IteS x) x.cps.size (fun _ => True) (fun i H v H' => ∃ T c, v = .ref T ∧ H T = none ∧ H' = upd H T (.tup [.int (i : Nat), .str ⟨#[c]⟩]) ∧ x.cps[i]? = some c) :=
  ⟨fun _ _ hi _ => hi, fun _ _ => Nat.le_refl _, fun _ _ _ _ _ _ y => y⟩
end Rx

set_option Elab.async false
set_option linter.all false
set_option maxRecDepth 100000
set_option maxHeartbeats 4000000
namespace Rx
open PySem PySem.Spec PyProof.Rows L2
/-! ### raise X(), X an own class without own __init__ -/
theorem pmk_own0 {X : Cx} {C : Addr} {bmB : List Value} {B newId initId : String} {x : Str} {p pos : Pos} (F : ExcBaseFacts B newId initId bmB) (q : PySem.W.excIn X.K C bmB newId = true) (gC : X.mg x = some (.ref C))
    (kC : PySem.W.keepIn X.K (.ref C) = true) (r : Raises X (.ref C)) (hg : Gl X x) (hdb : (x == ("__debug__" : Str)) = false := by decide) :
    PMk X (.Call (.Name x p) [] [] pos) (fun _ H Q => Q (.ref C) none H) := by
  intro pins s σ H Q I h
  refine wpAny_Call_Name_kw (ld_glob I hg gC ?_ hdb)
  refine PySem.W.callWith_K0 I.kIn kC ?_
  obtain ⟨bm, N, nm, qn, bs, hdct, sn, sub, ab, col, dd, k0, k1, k2, k3, k5, mN, hC, hN, hni, T⟩ := exc_obj I.kIn q
  exact wpAny_call_exc_subT F T hC hN hni (fun h' e hm => mk_of I hm r h (I.hok.gone hm.new)) (Nat.zero_le _)
/-! ### a caught exception, kept as a value -/
/-- the exception object at a: its class, its own dict -/
def ExV (cls : Value) (d : Option Addr) (a : Addr) : HO := .ext fun h => ∃ (oe : Obj) (vs : Array Value), h.get? a = some oe ∧ Zc cls d oe ∧ oe.data = .fields vs
theorem exV_ok {P : Program} {w : World} {H : Hp} {h : Heap} {a : Addr} {cls : Value} {d : Option Addr} {oe : Obj} {vs : Array Value} (e : h.get? a = some oe) (z : Zc cls d oe) (hd : oe.data = .fields vs) : ObjOk P w H h a (ExV cls d a) :=
  ⟨⟨oe, vs, e, z, hd⟩, ⟨oe, e⟩, fun _ _ ⟨o, v, q, r⟩ k => ⟨o, v, k o q, r⟩⟩
section
variable {X : Cx} {pins : List (Addr × Obj)} {σ : L2.St} {H : Hp} {s : Shared}
/-- an object that is there, made behind the entry and tracked by none, is tracked from now on -/
theorem Inv.track {a : Addr} {o : HO} (I : L2.Inv X pins σ H s) (n0 : X.s_0.heap.get? a = none) (na : H a = none) (nL : a ≠ X.env.locals) (nC : ∀ x c, X.env.cells.lookup x = some c → c ≠ a) (nP : ∀ p ∈ X.pn ++ pins, p.1 ≠ a) (new : ObjOk X.prog X.w (upd H a o) s.heap a o) :
    L2.Inv X pins σ (upd H a o) s := by
  have ne0 : ∀ b u, X.s_0.heap.get? b = some u → b ≠ a := fun b u e z => by rw [z, n0] at e; cases e
  have neS : ∀ b u, H b = some u → b ≠ a := fun b u e z => by rw [z, na] at e; cases e
  refine ⟨I.ok, I.os, I.bare, ⟨I.base.keep, I.base.slot, fun b u e n hx => ?_, I.base.there, fun b xs e => ?_, fun b u v e => ?_, fun b ps e => ?_⟩, I.loc, I.cell, ?_, fun x c e => ?_, fun p hp => ?_, fun b u e => ?_, I.len⟩
  · rw [upd_ne (ne0 b u e)]; exact I.base.free b u e n hx
  · have q := I.base.tups b xs e
    rw [upd_ne (neS b _ q)]; exact q
  · have q := I.base.frzs b u v e
    rw [upd_ne (neS b _ q)]; exact q
  · obtain ⟨more, q⟩ := I.base.tbls b ps e
    exact ⟨more, by rw [upd_ne (neS b _ q)]; exact q⟩
  · rw [upd_ne (Ne.symm nL)]; exact I.free
  · rw [upd_ne (nC x c e)]; exact I.freeC x c e
  · obtain ⟨e, n, r⟩ := I.pin p hp
    exact ⟨e, by rw [upd_ne (nP p hp)]; exact n, r⟩
  · by_cases hb : b = a
    · subst hb; rw [upd_same] at e; cases e; exact new
    · rw [upd_ne hb] at e
      exact (I.hok b u e).stay (fun c v _ q => q) (fun c q => by rw [upd_ne (neS c _ q)]; exact q) fun c xs q => by rw [upd_ne (neS c _ q)]; exact q
end
/-- what «except x as n: suite» wishes, where the suite may keep the exception: behind it the exception is tracked -/
def wKeep (K : PySem.W.Frag) (c : Value) (i : Nat) (ts : Addr → Value → Option Addr → TS) (D : Ends) : WX := fun cls d σ H =>
  PySem.W.exmOne K cls c = some true ∧ ∀ a, H a = none → ts a cls d { nx := fun σ' H' => H' a = none → D.nx (σ'.set i none) (upd H' a (ExV cls d a)), rt := fun _ _ => False } (σ.set i (some (.ref a))) H
section
variable {X : Cx} {x n : Str} {c : Value} {i : Nat} {body suite : List Stmt} {b₀ : Stmt} {np pos pos' : Pos} {tb : WX → TS} {ts : Addr → Value → Option Addr → TS}
theorem ps_try_keep (hs : X.stack = X.env :: X.outer) (hf : X.env.frame = some X.env.locals) (hex : X.ex = []) (hN : X.N.Nodup) (hi : X.N[i]? = some n) (hln : X.env.kindOf n = some .local) (hc : Names X x c)
    (hb : ∀ (W : WX) (pn : List (Addr × Obj)) (xe : Value → Shared → Prop), Takes (X.tr pn xe) W → PassesOwn (model X.prog X.w) X.A X.env xe → PSs (X.tr pn xe) body (tb W))
    (hsu : ∀ (a : Addr) (oe : Obj) (cls : Value) (d : Option Addr) (pn : List (Addr × Obj)), Zc cls d oe → (∃ vs, oe.data = .fields vs) → PSs (X.suite a ((a, oe) :: pn)) (b₀ :: suite) (ts a cls d)) :
    PS X (.Try body [.ExceptHandler (some (.Name x np)) (some n) (b₀ :: suite) pos'] [] [] pos) (fun D σ H => tb (wKeep X.K c i ts D) D σ H) := by
  refine ⟨fun pins s σ H D I h => wpAny_Try_except ?_⟩
  have ok := I.ok
  have hfr : X.A.frames = some (X.env :: X.outer) := by rw [ok.frames, hs]
  refine wpAny_mono ((hb (wKeep X.K c i ts D) (X.pn ++ pins) (fun e s₁ => wpAny (model X.prog X.w) X.A (noteFrame e X.env) (fun _ s₂ => wpAny (model X.prog X.w) X.A (setFlight e none) (fun _ s₃ =>
    wpAny (model X.prog X.w) X.A (handleBy e X.env [.ExceptHandler (some (.Name x np)) (some n) (b₀ :: suite) pos']) (SP X pins D) X.xe s₃) X.xe s₂) X.xe s₁) (fun u s' xx => ?_) PassesOwn.looking).run [] s σ H D (I.toTry _) h) (fun f s1 hsp => ?_) (fun e s1 he => he)
  · obtain ⟨a, B, sI, pins', σ', H', cls, d, rfl, J', nb, up, sky, na, os, ag, hb1, hyes⟩ := xx
    have J : L2.Inv X pins σ' H' sI := J'.ofTry ok
    rw [show (X.tr (X.pn ++ pins) _).stack = X.env :: X.outer from hs] at sky
    refine Sky.land Zc.steady hfr hf sky fun h3 fl3 up3 => ?_
    have J3 : L2.Inv X pins σ' H' { s' with heap := h3 } := J.landed nb fl3.1 (up.trans up3) os ag
    obtain ⟨oe3, vs3, he3, hz3, hd3⟩ := fl3.there
    -- where the exception does not lie
    have nfr : a ∉ frs (X.env :: X.outer) := fun hm => by
      obtain ⟨_, o', e', hnf⟩ := fl3.2.2.1.mem hm
      rw [he3] at e'; cases e'
      exact hnf _ hd3
    have nL : a ≠ X.env.locals := fun z => nfr (List.mem_filterMap.mpr ⟨X.env, List.mem_cons_self, by rw [hf, z]⟩)
    have nF : a ∉ X.fs := fun hm => by
      obtain ⟨e, he, q⟩ := List.mem_filterMap.mp hm
      exact nfr (List.mem_filterMap.mpr ⟨e, List.mem_cons_of_mem _ he, q⟩)
    have nB : B.get? a = none := fl3.2.1
    have nI : sI.heap.get? a = none := by
      cases q : sI.heap.get? a with
      | none => rfl
      | some o =>
        have z := nb a o q (by rw [hs]; exact nfr)
        rw [nB] at z; cases z
    have n0 : X.s_0.heap.get? a = none := by
      cases q : X.s_0.heap.get? a with
      | none => rfl
      | some o =>
        obtain ⟨o', z⟩ := J.base.there a o q (by rw [hex]; exact fun z => nomatch z)
        rw [nI] at z; cases z
    have nC : ∀ y b, X.env.cells.lookup y = some b → b ≠ a := fun y b e z => by
      obtain ⟨v, o, ho, _⟩ := J.cell y b e
      rw [z, nI] at ho; cases ho
    have nP : ∀ p ∈ X.pn ++ pins, p.1 ≠ a := fun p hp z => by
      have ho := (J.pin p hp).1
      rw [z, nI] at ho; cases ho
    have S3 := J3.suite he3 hd3 na nL nF
    refine wpAny_handleBy_cons (codeAny_handlers_test ?_) (by intro q; cases q)
    have LT : PySem.W.Looks (model X.prog X.w) h3 (typeOf (.ref a)) cls := fun A Q E s k q => wpAny_typeOf_ref (k _ _ he3) (by rw [hz3.1]; exact q)
    have named : ∀ {Q : Value → Shared → Prop} {E : Value → Shared → Prop}, Q c { s' with heap := h3 } → wpAny (model X.prog X.w) (X.A.mark (some (.ref a))) (eval (.Name x np) X.env) Q E { s' with heap := h3 } := fun {Q E} q => by
      obtain ⟨hg, hdbg, hm | ⟨hm, hv, hnn⟩⟩ := hc
      · exact ld_glob (X := X.suite a ((a, oe3) :: (X.pn ++ pins))) S3 hg hm q hdbg
      · exact ld_blt (X := X.suite a ((a, oe3) :: (X.pn ++ pins))) S3 hg hm hv q hnn hdbg
    refine named ((PySem.W.exm_one (M := model X.prog X.w) (J3.kIn) LT hb1).here (codeAny_handlers_suite_as ?_))
    refine HandSPX.lands_againZ fl3 fun h4 fl4 up4 => ?_
    have J4 : L2.Inv X pins σ' H' { s' with heap := h4 } := J.landed nb fl4.1 ((up.trans up3).trans up4) os ag
    obtain ⟨oe4, vs4, he4, hz4, hd4⟩ := fl4.there
    have S4 := J4.suite he4 hd4 na nL nF
    refine store_ok (X := X.suite a ((a, oe4) :: (X.pn ++ pins))) (v := .ref a) S4 hN hi (.inl hln) rfl (fun s5 S5 => ?_) (.inr hln)
    refine wpAny_mono ((hsu a oe4 cls d (X.pn ++ pins) hz4 ⟨_, hd4⟩).run [] s5 _ H' _ S5 (hyes a na)) (fun f s6 hsp => ?_) (fun _ _ z => False.elim z)
    cases f with
    | next =>
      obtain ⟨σ6, H6, S6, q6⟩ := hsp
      have pa := S6.pin (a, oe4) (List.mem_append_left _ List.mem_cons_self)
      have J6 : L2.Inv X ((a, oe4) :: pins) σ6 H6 s6 := (S6.unsuite ok).pins_of fun p hp => by
        rcases List.mem_cons.mp hp with e | hp
        · rw [e]; exact pa
        · exact S6.pin p (List.mem_append_left _ (List.mem_cons_of_mem _ (List.mem_append_right _ hp)))
      refine gone_ok J6 hN hi hln fun s7 J7 => ?_
      have pa7 := J7.pin (a, oe4) (List.mem_append_right _ List.mem_cons_self)
      have K7 : L2.Inv X pins (σ6.set i none) H6 s7 := J7.pins_of fun p hp => J7.pin p (List.mem_append_right _ (List.mem_cons_of_mem _ hp))
      exact ⟨_, _, Inv.track K7 n0 pa7.2.1 nL nC nP (exV_ok pa7.1 hz4 hd4), q6 pa7.2.1⟩
    | brk =>
      obtain ⟨_, _, _, q6⟩ := hsp
      exact q6.elim
    | cont =>
      obtain ⟨_, _, _, q6⟩ := hsp
      exact q6.elim
    | ret u =>
      obtain ⟨_, _, _, _, _, q6⟩ := hsp
      exact q6.elim
  · cases f with
    | next =>
      obtain ⟨σ', H', J', q⟩ := hsp
      exact wpAny_execs_nil ⟨σ', H', J'.ofTry ok, q⟩
    | brk =>
      obtain ⟨σ', H', J', q⟩ := hsp
      exact ⟨σ', H', J'.ofTry ok, q⟩
    | cont =>
      obtain ⟨σ', H', J', q⟩ := hsp
      exact ⟨σ', H', J'.ofTry ok, q⟩
    | ret u =>
      obtain ⟨v, σ', H', J', r, q⟩ := hsp
      exact ⟨v, σ', H', J'.ofTry ok, r, q⟩
end
/-! ### isinstance of such a value -/
/-- isinstance(e, c): e a caught exception without a dict of its own, whose class is D, or a plain value -/
def rIsX (K : PySem.W.Frag) : List V → Hp → VK → Prop := fun xs H Q => (∃ (a D : Addr) (c : V) (cv : Value) (b : Bool), xs = [.ref a, c] ∧ H a = some (ExV (.ref D) none a) ∧ ExcC K D ∧ ClsV c cv ∧ PySem.W.kitOne K (.ref D) cv = some b ∧ Q (.bl b) H) ∨ rIsi K xs H Q
theorem call_isX {X : Cx} : CallR X (.builtin "isinstance") (rIsX X.K) := by
  intro pins s σ H xs us Q I r h
  rcases h with ⟨a, D, c, cv, b, rfl, ha, C, hcv, e, q⟩ | h
  · obtain ⟨u1, u2, rfl, r1, r2⟩ := vals2 r
    cases (show u1 = Value.ref a from r1)
    have ec := hcv.eq r2
    subst ec
    obtain ⟨⟨oe, vs, hget, hz, hv⟩, _, _⟩ := I.hok a _ ha
    have J : PySem.W.InstAt s.heap a oe D none := by
      obtain ⟨oc, od, oda, osl⟩ := oe
      obtain ⟨h1, h2⟩ := hz
      dsimp only at h1 h2 hv
      subst h1 h2 hv
      exact ⟨hget, rfl, rfl, trivial⟩
    exact PySem.W.kia_one (PySem.W.handS_kitx_exc C.hg C.hk C.hs C.hd C.ha C.hn C.ht C.hm) I.kIn J e (fun z => nomatch z) fun tk => ⟨.bl b, H, I.kept (t' := tk) fun _ _ z => z, rfl, q⟩
  · exact call_isi pins s σ H xs us Q I r h
end Rx

set_option Elab.async false
set_option linter.all false
set_option maxRecDepth 100000
set_option maxHeartbeats 4000000
namespace Rx
open PySem PySem.Spec PyProof.Rows L2
/-- told: what the work raises is caught, and handed back as a value; None where it raises nothing -/
def TCaught (K : PySem.W.Frag) (LE : Addr) : (XK → Hp → VK → Prop) → Hp → VK → Prop := fun tl H Q =>
  tl (fun cls d H' => PySem.W.exmOne K cls (.ref LE) = some true ∧ ∀ a, H' a = none → Q (.ref a) (upd H' a (ExV cls d a))) H (fun _ H' => ∃ v : V, (some (some V.non) : Option (Option V)) = some (some v) ∧ Q v H')
/-- _law_caught's body, wherever it stands -/
def caughtB (p1 p2 p3 p4 p5 p6 p7 p8 p9 p10 p11 p12 p13 p14 : Pos) (j : Nat) : List Stmt :=
  [.Assign [.Name "caught" p1] (.Constant .none j p2) p3, .Try [.Expr (.Call (.Name "work" p4) [] [] p5) p6] [.ExceptHandler (some (.Name "LeafError" p7)) (some "error") [.Assign [.Name "caught" p8] (.Name "error" p9) p10] p11] [] [] p12,
    .Return (some (.Name "caught" p13)) p14]
def caughtSc : Scope := { kind := .function, names := [(PySem.Str.ofString "work", .local), (PySem.Str.ofString "caught", .local), (PySem.Str.ofString "error", .local), (PySem.Str.ofString "LeafError", .globalImplicit)], isGenerator := false, isCoroutine := false, more := [] }
abbrev caughtN : List Str := ["work", "caught", "error"]
theorem scCaught : FnScope caughtN ["work"] caughtSc := ⟨rfl, rfl, rfl, by decide +kernel, rfl, by decide +kernel, by decide +kernel⟩
theorem takes_len {X : Cx} {W : WX} (tk : Takes X W) : Takes X (fun cls d σ H => σ.length = X.N.length → W cls d σ H) := fun u s' ⟨a, B, sI, pins, σ, H, cls, d, e, I, nb, up, sky, na, os, ag, w⟩ =>
  tk u s' ⟨a, B, sI, pins, σ, H, cls, d, e, I, nb, up, sky, na, os, ag, w I.len⟩
theorem caught_gives {X : Cx} {q : Str} {g LE : Addr} {cdg : Value} {p1 p2 p3 p4 p5 p6 p7 p8 p9 p10 p11 p12 p13 p14 : Pos} {j : Nat} (hme : X.mg "LeafError" = some (.ref LE)) :
    LamX.GivesTo X caughtN "_law_caught" caughtSc g cdg (caughtB p1 p2 p3 p4 p5 p6 p7 p8 p9 p10 p11 p12 p13 p14 j) "work" q (TCaught X.K LE) := by
  intro f c' s H Q tl act hc h
  have hgl : Gl (cxOf C8.CX0 X.prog X.w X.K X.mg X.base caughtN "_law_caught" caughtSc g cdg X.A X.stack s H C8.E0).nox "LeafError" := rfl
  have nd : caughtN.Nodup := scCaught.nd
  refine ⟨_, pss_cons (ps_set (i := 1) nd rfl (Or.inl rfl) pe_non) (pss_cons (ps_try_keep (X := (cxOf C8.CX0 X.prog X.w X.K X.mg X.base caughtN "_law_caught" caughtSc g cdg X.A X.stack s H C8.E0).nox) (i := 2) (c := .ref LE)
      (tb := fun W D σ H => ∃ Ech : XK, (∀ cls d σ' H', σ'.length = 3 → Ech cls d H' → W cls d σ' H') ∧ σ[0]? = some (some (.ref f)) ∧ H c' = some (LamX.CodeO c' q) ∧ tl Ech H (fun _ H' => D.nx σ H'))
      rfl rfl rfl nd rfl rfl ⟨hgl, by decide, .inl hme⟩ (fun W pn xe tk _ => ?_) (fun a oe cls d pn _ _ => pss_one (ps_set (i := 1) nd rfl (Or.inl rfl) (pv 2)))) (pss_one (ps_ret (pv 1)))), ?_⟩
  · refine ⟨fun pins s' σ H' D I h' => ?_⟩
    obtain ⟨Ech, hW, h1, h2, h3⟩ := h'
    have hp := act _ pn xe Ech p4 p5 (takes_len tk) (fun cls d σ' H' e z => hW cls d σ' H' z e)
    exact (pss_one (ps_expr (pos := p6) hp)).run pins s' σ H' D I ⟨h1, h2, h3⟩
  · refine ⟨fun cls d H' => PySem.W.exmOne X.K cls (.ref LE) = some true ∧ ∀ a, H' a = none → Q (.ref a) (upd H' a (ExV cls d a)), fun cls d σ' H' hl ⟨e1, e2⟩ => ⟨e1, fun a ha => ?_⟩, rfl, hc, ?_⟩
    · match σ', hl with
      | [x0, x1, x2], _ => exact ⟨.ref a, rfl, fun hn => ⟨.ref a, rfl, e2 a ha⟩⟩
    · exact h
end Rx

set_option Elab.async false
set_option linter.all false
set_option maxRecDepth 100000
set_option maxHeartbeats 4000000
namespace Rx
open PySem PySem.Spec PyProof.Rows L2 TL
/-! ### text[::-1] -/
theorem rev_range (l : List Nat) : (List.range l.length).map (fun k => l.getD (l.length - 1 - k) 0) = l.reverse := by
  apply List.ext_getElem
  · simp
  · intro i h1 h2
    simp at h1
    simp [List.getElem_reverse, List.getD, show l.length - 1 - i < l.length by omega]
theorem tl_revBy (x : Str) (u : Tok) : tl (Txt.sliceBy x none none (-1, u)) = (tl x).reverse := by
  show (Txt.sliceBy x none none (-1, u)).cps.toList = _
  rw [step_rev_list, ← rev_range]
  show (List.range x.length).map _ = (List.range (tl x).length).map _
  rw [← len_tl]
  apply List.map_congr_left
  intro k hk
  show x.cps.getD _ 0 = (x.cps.toList).getD _ 0
  simp [List.getD, Array.getD_eq_getD_getElem?, ← len_tl, Str.length]
def tRevS (te : TE) : TE := fun σ H Q => te σ H fun x H1 => ∃ z, x = .str z ∧ z.length ≤ sizeLine ∧ ∀ y, tl y = (tl z).reverse → Q (.str y) H1
theorem pe_revS {X : Cx} {e : Expr} {te : TE} {k : Nat} {p1 p2 p3 pos : Pos} (he : PE X e te) : PE X (.Subscript e (.Slice none none (some (.UnaryOp .USub (.Constant (.int 1) k p1) p2)) p3) pos) (tRevS te) := by
  refine ⟨fun pins s σ H Q I h => ?_⟩
  refine Subscript_ (thn (he.run pins s σ H _ I h) fun v s1 ⟨x, H1, I1, r1, q1⟩ => ?_)
  obtain ⟨z, ex, hz, q⟩ := q1
  subst ex
  obtain ⟨t, rfl⟩ := r1
  have hst : PO X (some (.UnaryOp .USub (.Constant (.int 1) k p1) p2)) (tPart (tUn (rU fun i => .int (-i)) (tC (.int 1)))) := po_some (pe_un un_neg pe_int)
  refine wpAny_Slice (thn (po_none.run pins s1 σ H1 (fun o H2 => o = none ∧ H2 = H1) I1 ⟨rfl, rfl⟩) fun vl s2 ⟨l, H2, I2, pl, el, e2⟩ => ?_)
  subst el e2
  refine thn (po_none.run pins s2 σ H2 (fun o H3 => o = none ∧ H3 = H2) I2 ⟨rfl, rfl⟩) fun vu s3 ⟨u, H3, I3, pu, eu, e3⟩ => ?_
  subst eu e3
  refine thn (hst.run pins s3 σ H3 (fun o H4 => o = some (-1) ∧ H4 = H3) I3 ⟨1, rfl, -1, rfl, rfl, rfl⟩) fun vs s4 ⟨o, H4, I4, ps, eo, e4⟩ => ?_
  subst eo e4
  have I5 : L2.Inv X pins σ H4 { s4 with heap := s4.heap.push { cls := .type "slice", data := .fields #[vl, vu, vs] } } := I4.kept (t' := s4.toks) fun b ob q => Heap.get?_push_of_some _ q
  obtain ⟨l0, rfl, e0⟩ := IsPart.raw pl
  obtain ⟨u0, rfl, f0⟩ := IsPart.raw pu
  obtain ⟨st, rfl, g0⟩ := IsPart.raw ps
  have l1 : l0 = none := by cases l0 with | none => rfl | some _ => cases e0
  have u1 : u0 = none := by cases u0 with | none => rfl | some _ => cases f0
  subst l1 u1
  obtain ⟨⟨i, ti⟩, rfl⟩ : ∃ p, st = some p := by cases st with | none => cases g0 | some p => exact ⟨p, rfl⟩
  have ei : i = -1 := Option.some.inj g0
  subst ei
  refine tail_any (ops := [.str z t, .ref s4.heap.objs.size]) (T := "str") (typeIs_str _ _ _) (F.slot_str_getitem.lookup) ?_ (by with_unfolding_all rfl)
  refine wpAny_getItem_str_slice (l := none) (u := none) (st := some (-1, ti)) ⟨_, Heap.get?_push_size _ rfl, rfl, rfl⟩ rfl ?_
  have key : tl ⟨((PySem.slicePicked z none none (some (-1, ti))).filterMap (z.cps[·]?)).toArray⟩ = (tl z).reverse := by
    have h := tl_revBy z ti
    unfold Txt.sliceBy at h
    rw [if_neg (by simp)] at h
    exact h
  unfold PySem.sliceMade
  rw [if_neg (by simp)]
  refine ⟨?_, .str _, H4, I5.tok _, ⟨_, rfl⟩, q _ key⟩
  rw [len_tl, key, List.length_reverse, ← len_tl]
  exact hz
/-! ### text * n -/
theorem tl_rep (z : Array Nat) : ∀ n (a : Array Nat), ((List.replicate n z).foldl (· ++ ·) a).toList = a.toList ++ (List.replicate n z.toList).flatten
  | 0, a => by simp
  | n + 1, a => by
    rw [List.replicate_succ, List.foldl_cons, tl_rep z n, List.replicate_succ, List.flatten_cons, Array.toList_append, List.append_assoc]
def rMulS : R2 := fun x y H Q => ∃ (z : Str) (n : Nat), x = .str z ∧ y = .int n ∧ 2 ≤ n ∧ 1 ≤ z.length ∧ z.length * n ≤ 16777216 ∧ ∀ w, tl w = (List.replicate n (tl z)).flatten → Q (.str w) H
theorem op_mulS {X : Cx} : OpR X (binaryOp .Mult) rMulS := by
  intro pins s σ H x y v u Q I rx ry h
  obtain ⟨z, n, rfl, rfl, hn, hz, hl, q⟩ := h
  obtain ⟨t, rfl⟩ := rx
  obtain ⟨t', rfl⟩ := ry
  have hnl : n ≤ 16777216 := Nat.le_trans (Nat.le_mul_of_pos_left n hz) hl
  have c1 : ((n : Int) == 1 || z.length == 0) = false := by
    have h1 : ((n : Int) == 1) = false := by simp; omega
    have h2 : (z.length == 0) = false := by simp; omega
    rw [h1, h2]; rfl
  have hzl : z.length ≤ 16777216 := Nat.le_trans (Nat.le_mul_of_pos_right z.length (by omega)) hl
  refine PySem.P.mul_str ?_ (fun _ _ => ?_) (fun _ _ => ?_) ?_
  · have h1 : ¬ ((n : Int) < -(2 ^ 63 : Int)) := by omega
    have h2 : ¬ ((n : Int) ≥ 2 ^ 63) := by omega
    rw [decide_eq_false h1, decide_eq_false h2]; rfl
  · have h4 : (z.length : Int) ≤ ((2 : Int) ^ 63 - 1) / (n : Int) := by
      refine (Int.le_ediv_iff_mul_le (by omega)).mpr ?_
      have h3 : ((z.length * n : Nat) : Int) ≤ ((16777216 : Nat) : Int) := Int.ofNat_le.mpr hl
      rw [Int.natCast_mul] at h3
      have h5 : ((16777216 : Nat) : Int) ≤ (2 : Int) ^ 63 - 1 := by decide
      exact Int.le_trans h3 h5
    exact Int.not_lt.mpr h4
  · unfold Builtin.Str.tooLong
    have e : ((n : Int)).toNat = n := by omega
    rw [e]
    have h1 : ¬ (z.length * n > sizeLine) := by rw [sizeLine_eq]; omega
    exact decide_eq_false h1
  · rw [if_neg (by omega), if_neg (by rw [c1]; simp)]
    have key : tl ⟨(List.replicate ((n : Int)).toNat z.cps).foldl (· ++ ·) #[]⟩ = (List.replicate n (tl z)).flatten := by
      show ((List.replicate ((n : Int)).toNat z.cps).foldl (· ++ ·) #[]).toList = _
      rw [tl_rep]
      simp
    refine ⟨?_, .str _, H, I.tok _, ⟨_, rfl⟩, q _ key⟩
    rw [len_tl, key, List.length_flatten, List.map_replicate, List.sum_replicate_nat, ← len_tl, sizeLine_eq, Nat.mul_comm]
    exact hl
/-! ### text.index(one sign), found -/
theorem index_one (x : Str) (c k : Nat) (h : (tl x)[k]? = some c) (hf : ∀ j, j < k → (tl x)[j]? ≠ some c) : Txt.index0 x ⟨#[c]⟩ = some k := by
  unfold Txt.index0
  rcases PySem.StrLaws.occ_head x ⟨#[c]⟩ 1 (Nat.le_refl _) with ⟨_, hn⟩ | ⟨i, r, e, ha, hn⟩
  · exact absurd ((PySem.StrLaws.subAt_one x c k).mpr h) (hn k)
  · rw [e]
    have hi := (PySem.StrLaws.subAt_one x c i).mp ha
    have h1 : ¬ i < k := fun z => hf i z hi
    have h2 : ¬ k < i := fun z => hn k z ((PySem.StrLaws.subAt_one x c k).mpr h)
    show some i = some k
    rw [show i = k by omega]
end Rx

set_option Elab.async false
set_option linter.all false
set_option maxRecDepth 10000
set_option maxHeartbeats 4000000
/-! the mathematics of the sums -/
namespace Mx
open PySem TL
/-- the sum of the places' weights, the first place being p -/
def wsum : Nat → List Nat → Nat
  | _, [] => 0
  | p, c :: r => p * c + wsum (p + 1) r
def sumN (l : List Nat) : Nat := wsum 1 l
def prime : Nat := 1000000007
def sumP (l : List Nat) : Nat := sumN l % prime
def signOk (c : Nat) : Bool := decide (32 ≤ c) && decide (c ≤ 126)
def lineOk (c : Nat) : Bool := c == 10 || signOk c
def Sealable (l : List Nat) : Prop := l.length ≤ 1000000 ∧ l.all lineOk = true
def sm : List Nat := [115, 117, 109, 32]
def sealL (l : List Nat) : List Nat := l ++ 10 :: (sm ++ numL (sumP l))
theorem wsum_app : ∀ (l m : List Nat) (p : Nat), wsum p (l ++ m) = wsum p l + wsum (p + l.length) m
  | [], m, p => by simp [wsum]
  | c :: r, m, p => by
    have e : p + 1 + r.length = p + (r.length + 1) := by omega
    rw [List.cons_append, wsum, wsum, wsum_app r m (p + 1), List.length_cons, e, Nat.add_assoc]
theorem wsum_up : ∀ (l : List Nat) (p : Nat), wsum (p + 1) l = wsum p l + l.sum
  | [], p => by simp [wsum]
  | c :: r, p => by
    rw [wsum, wsum, wsum_up r (p + 1), List.sum_cons, Nat.add_mul]
    omega
theorem wsum_le : ∀ (l : List Nat) (p k : Nat), (∀ c ∈ l, c ≤ 126) → p + l.length ≤ k → wsum p l ≤ l.length * (k * 126)
  | [], p, k, _, _ => by simp [wsum]
  | c :: r, p, k, h, hk => by
    rw [wsum, List.length_cons, Nat.add_mul, Nat.one_mul]
    rw [List.length_cons] at hk
    have h1 := wsum_le r (p + 1) k (fun d hd => h d (List.mem_cons_of_mem _ hd)) (by omega)
    have h2 : p * c ≤ k * 126 := Nat.mul_le_mul (by omega) (h c List.mem_cons_self)
    omega
theorem sumN_lt {l : List Nat} (h : ∀ c ∈ l, c ≤ 126) (hl : l.length ≤ 100) : sumN l < prime := by
  have h1 := wsum_le l 1 101 h (by omega)
  have h2 : l.length * (101 * 126) ≤ 100 * (101 * 126) := Nat.mul_le_mul_right _ hl
  show wsum 1 l < 1000000007
  omega
theorem lineOk_le {l : List Nat} (h : l.all lineOk = true) : ∀ c ∈ l, c ≤ 126 := fun c hc => by
  have z := List.all_eq_true.mp h c hc
  unfold lineOk signOk at z
  simp at z
  omega
theorem lineOk_pos {l : List Nat} (h : l.all lineOk = true) : ∀ c ∈ l, 10 ≤ c := fun c hc => by
  have z := List.all_eq_true.mp h c hc
  unfold lineOk signOk at z
  simp at z
  omega
theorem sumP_eq {l : List Nat} (h : l.all lineOk = true) (hl : l.length ≤ 100) : sumP l = sumN l := Nat.mod_eq_of_lt (sumN_lt (lineOk_le h) hl)
theorem sumP_lt (l : List Nat) : sumP l < 1000000007 := Nat.mod_lt _ (by decide)
/-! ### the last line end -/
theorem split_last {P T P' T' : List Nat} (h : P ++ 10 :: T = P' ++ 10 :: T') (hT : 10 ∉ T) (hT' : 10 ∉ T') : P = P' ∧ T = T' := by
  rcases List.append_eq_append_iff.mp h with ⟨a, e1, e2⟩ | ⟨c, e1, e2⟩
  · cases a with
    | nil =>
      simp at e1 e2
      exact ⟨e1.symm, e2⟩
    | cons x r =>
      rw [List.cons_append] at e2
      injection e2 with _ e3
      exact absurd (by rw [e3]; simp) hT
  · cases c with
    | nil =>
      simp at e1 e2
      exact ⟨e1, e2.symm⟩
    | cons x r =>
      rw [List.cons_append] at e2
      injection e2 with _ e3
      exact absurd (by rw [e3]; simp) hT'
/-- behind the last line end -/
theorem tail_split {P W B T : List Nat} (h : P ++ W = B ++ 10 :: T) (hW : 10 ∉ W) : ∃ W0, P = B ++ 10 :: W0 ∧ T = W0 ++ W := by
  rcases List.append_eq_append_iff.mp h with ⟨a, e1, e2⟩ | ⟨c, e1, e2⟩
  · exact absurd (by rw [e2]; simp) hW
  · cases c with
    | nil =>
      rw [List.nil_append] at e2
      exact absurd (by rw [← e2]; simp) hW
    | cons x r =>
      rw [List.cons_append] at e2
      injection e2 with e3 e4
      subst e3
      exact ⟨r, e1, e4⟩
theorem last_end : ∀ {W : List Nat}, 10 ∈ W → ∃ W1 W2, W = W1 ++ 10 :: W2 ∧ 10 ∉ W2
  | c :: r, h => by
    by_cases hr : 10 ∈ r
    · obtain ⟨W1, W2, e, n⟩ := last_end hr
      exact ⟨c :: W1, W2, by rw [e]; rfl, n⟩
    · rcases List.mem_cons.mp h with e | h
      · exact ⟨[], r, by rw [← e]; rfl, hr⟩
      · exact absurd h hr
theorem dig_ne {n s : Nat} (h : s < 48 ∨ 57 < s) : s ∉ numL n := numL_free h
theorem tl_no115 (n : Nat) : 115 ∉ (sm ++ numL n).tail := by
  show 115 ∉ 117 :: 109 :: 32 :: numL n
  have h := dig_ne (n := n) (s := 115) (by omega)
  simp [h]
theorem no10 (n : Nat) : 10 ∉ sm ++ numL n := by
  have h := dig_ne (n := n) (s := 10) (by omega)
  simp [sm, h]
/-- the first sign of a sum's line stands nowhere else in it -/
theorem no_shift {V : List Nat} {n k : Nat} (h : sm ++ numL n = V ++ (sm ++ numL k)) : V = [] := by
  cases V with
  | nil => rfl
  | cons c r =>
    have e := congrArg List.tail h
    have z := tl_no115 n
    rw [e] at z
    exact absurd (by simp [sm]) z
/-! ### one edit -/
/-- one sign exchanged, left out, put in, or two neighbours exchanged -/
def Edit (M N : List Nat) : Prop := (∃ a c, M = [a] ∧ N = [c]) ∨ (∃ a, M = [a] ∧ N = []) ∨ (∃ c, M = [] ∧ N = [c]) ∨ ∃ a b, M = [a, b] ∧ N = [b, a]
theorem edit_body {U M N W : List Nat} (ed : Edit M N) (hB : (U ++ M ++ W).all lineOk = true) (hC : (U ++ N ++ W).all lineOk = true) (h : sumN (U ++ M ++ W) = sumN (U ++ N ++ W)) : M = N := by
  have pB := lineOk_pos hB
  have pC := lineOk_pos hC
  unfold sumN at h
  rw [List.append_assoc, List.append_assoc, wsum_app, wsum_app U (N ++ W), wsum_app M, wsum_app N] at h
  rcases ed with ⟨a, c, rfl, rfl⟩ | ⟨a, rfl, rfl⟩ | ⟨c, rfl, rfl⟩ | ⟨a, b, rfl, rfl⟩
  · simp only [wsum, List.length_cons, List.length_nil] at h
    have e : (1 + U.length) * a = (1 + U.length) * c := by omega
    rw [Nat.eq_of_mul_eq_mul_left (by omega) e]
  · simp only [wsum, List.length_cons, List.length_nil] at h
    have u := wsum_up W (1 + U.length)
    have pa := pB a (by simp)
    have e : 1 * 10 ≤ (1 + U.length) * a := Nat.mul_le_mul (by omega) pa
    simp only [Nat.zero_add, Nat.add_zero] at h
    omega
  · simp only [wsum, List.length_cons, List.length_nil] at h
    have u := wsum_up W (1 + U.length)
    have pa := pC c (by simp)
    have e : 1 * 10 ≤ (1 + U.length) * c := Nat.mul_le_mul (by omega) pa
    simp only [Nat.zero_add, Nat.add_zero] at h
    omega
  · simp only [wsum, List.length_cons, List.length_nil, Nat.add_mul, Nat.one_mul] at h
    have e : b = a := by omega
    rw [e]
/-- EACH CHANGE IS NOTICED -/
theorem noticed {U M N W B C : List Nat} (ed : Edit M N) (hB : B.all lineOk = true) (hC : C.all lineOk = true) (lB : B.length ≤ 60) (lC : C.length ≤ 100) (hx : U ++ M ++ W = sealL B) (hy : U ++ N ++ W = sealL C) : U ++ N ++ W = U ++ M ++ W := by
  have sB := sumP_eq hB (by omega)
  have sC := sumP_eq hC lC
  have same : B = C → U ++ N ++ W = U ++ M ++ W := fun e => by rw [hx, hy, e]
  by_cases hW : 10 ∈ W
  · obtain ⟨W1, W2, rfl, n2⟩ := last_end hW
    have e1 : (U ++ M ++ W1) ++ 10 :: W2 = B ++ 10 :: (sm ++ numL (sumP B)) := by
      show _ = sealL B
      rw [← hx]; simp
    have e2 : (U ++ N ++ W1) ++ 10 :: W2 = C ++ 10 :: (sm ++ numL (sumP C)) := by
      show _ = sealL C
      rw [← hy]; simp
    obtain ⟨b1, b2⟩ := split_last e1 n2 (no10 _)
    obtain ⟨c1, c2⟩ := split_last e2 n2 (no10 _)
    have e3 : numL (sumP B) = numL (sumP C) := List.append_cancel_left (b2.symm.trans c2)
    have e4 := numL_inj e3
    rw [sB, sC, ← b1, ← c1] at e4
    rw [edit_body ed (by rw [b1]; exact hB) (by rw [c1]; exact hC) e4]
  · obtain ⟨W0, w1, w2⟩ := tail_split (show (U ++ M) ++ W = B ++ 10 :: (sm ++ numL (sumP B)) from hx) hW
    obtain ⟨V0, v1, v2⟩ := tail_split (show (U ++ N) ++ W = C ++ 10 :: (sm ++ numL (sumP C)) from hy) hW
    have nW0 : 10 ∉ W0 := fun z => no10 (sumP B) (by rw [w2]; exact List.mem_append_left _ z)
    have nV0 : 10 ∉ V0 := fun z => no10 (sumP C) (by rw [v2]; exact List.mem_append_left _ z)
    have more : ∀ {D : List Nat}, D.all lineOk = true → sumN D = sumN (D ++ [10]) → False := fun {D} _ e => by
      unfold sumN at e
      rw [wsum_app] at e
      simp only [wsum] at e
      omega
    rcases ed with ⟨a, c, rfl, rfl⟩ | ⟨a, rfl, rfl⟩ | ⟨c, rfl, rfl⟩ | ⟨a, b, rfl, rfl⟩
    · rcases List.eq_nil_or_concat W0 with rfl | ⟨W0', a', rfl⟩
      · -- the line end itself is exchanged
        obtain ⟨u1, u2⟩ := List.append_inj' w1 rfl
        injection u2 with u3 _
        subst u1 u3
        rw [List.nil_append] at w2
        subst w2
        rcases List.eq_nil_or_concat V0 with rfl | ⟨V0', c', rfl⟩
        · obtain ⟨_, q2⟩ := List.append_inj' v1 rfl
          injection q2 with q3 _
          rw [q3]
        · exact absurd (no_shift v2) (by simp)
      · rw [List.concat_eq_append] at w1 w2 nW0
        rw [show B ++ 10 :: (W0' ++ [a']) = (B ++ 10 :: W0') ++ [a'] by simp] at w1
        obtain ⟨u1, u2⟩ := List.append_inj' w1 rfl
        injection u2 with u3 _
        subst u1 u3
        by_cases hc : c = 10
        · subst hc
          rcases List.eq_nil_or_concat V0 with rfl | ⟨V0', c', rfl⟩
          · rw [List.nil_append] at v2
            rw [← v2] at w2
            exact absurd (no_shift w2) (by simp)
          · rw [List.concat_eq_append] at v1 nV0
            rw [show C ++ 10 :: (V0' ++ [c']) = (C ++ 10 :: V0') ++ [c'] by simp] at v1
            obtain ⟨_, q2⟩ := List.append_inj' v1 rfl
            injection q2 with q3 _
            exact absurd (by rw [← q3]; simp) nV0
        · have n1 : 10 ∉ W0' ++ [c] := fun z => by
            rcases List.mem_append.mp z with z | z
            · exact nW0 (List.mem_append_left _ z)
            · exact hc (List.mem_singleton.mp z).symm
          rw [show B ++ 10 :: W0' ++ [c] = B ++ 10 :: (W0' ++ [c]) by simp] at v1
          exact same (split_last v1 n1 nV0).1
    · rcases List.eq_nil_or_concat W0 with rfl | ⟨W0', a', rfl⟩
      · obtain ⟨u1, u2⟩ := List.append_inj' w1 rfl
        injection u2 with u3 _
        subst u1 u3
        rw [List.nil_append] at w2
        subst w2
        have q := no_shift v2
        subst q
        rw [List.nil_append] at v2
        have e4 := numL_inj (List.append_cancel_left v2)
        rw [List.append_nil] at v1
        rw [sC, sB, v1] at e4
        exact (more hC e4).elim
      · rw [List.concat_eq_append] at w1 w2 nW0
        rw [show B ++ 10 :: (W0' ++ [a']) = (B ++ 10 :: W0') ++ [a'] by simp] at w1
        obtain ⟨u1, _⟩ := List.append_inj' w1 rfl
        subst u1
        rw [List.append_nil] at v1
        exact same (split_last v1 (fun z => nW0 (List.mem_append_left _ z)) nV0).1
    · rw [List.append_nil] at w1
      subst w1
      by_cases hc : c = 10
      · subst hc
        rcases List.eq_nil_or_concat V0 with rfl | ⟨V0', c', rfl⟩
        · rw [List.nil_append] at v2
          rw [← v2] at w2
          have q := no_shift w2
          subst q
          obtain ⟨u1, _⟩ := List.append_inj' v1 rfl
          rw [List.nil_append] at w2
          have e4 := numL_inj (List.append_cancel_left w2)
          rw [sC, sB, ← u1] at e4
          exact (more hB e4).elim
        · rw [List.concat_eq_append] at v1 nV0
          rw [show C ++ 10 :: (V0' ++ [c']) = (C ++ 10 :: V0') ++ [c'] by simp] at v1
          obtain ⟨_, q2⟩ := List.append_inj' v1 rfl
          injection q2 with q3 _
          exact absurd (by rw [← q3]; simp) nV0
      · have n1 : 10 ∉ W0 ++ [c] := fun z => by
          rcases List.mem_append.mp z with z | z
          · exact nW0 z
          · exact hc (List.mem_singleton.mp z).symm
        rw [show B ++ 10 :: W0 ++ [c] = B ++ 10 :: (W0 ++ [c]) by simp] at v1
        exact same (split_last v1 n1 nV0).1
    · rw [show U ++ [a, b] = (U ++ [a]) ++ [b] by simp] at w1
      rw [show U ++ [b, a] = (U ++ [b]) ++ [a] by simp] at v1
      rcases List.eq_nil_or_concat W0 with rfl | ⟨W0', b', rfl⟩
      · obtain ⟨u1, u2⟩ := List.append_inj' w1 rfl
        injection u2 with u3 _
        subst u3
        rw [List.nil_append] at w2
        subst w2
        by_cases ha : a = 10
        · rw [ha]
        · rw [show U ++ [10] ++ [a] = U ++ 10 :: [a] by simp] at v1
          obtain ⟨_, q⟩ := split_last v1 (by simpa using fun z => ha z.symm) nV0
          subst q
          exact absurd (no_shift v2) (by simp)
      · rw [List.concat_eq_append] at w1 w2 nW0
        rw [show B ++ 10 :: (W0' ++ [b']) = (B ++ 10 :: W0') ++ [b'] by simp] at w1
        obtain ⟨u1, u2⟩ := List.append_inj' w1 rfl
        injection u2 with u3 _
        subst u3
        have hb : b ≠ 10 := fun z => nW0 (by rw [z]; simp)
        rcases List.eq_nil_or_concat W0' with rfl | ⟨W1', a', rfl⟩
        · obtain ⟨q1, q2⟩ := List.append_inj' u1 rfl
          injection q2 with q3 _
          subst q3
          rcases List.eq_nil_or_concat V0 with rfl | ⟨V0', c', rfl⟩
          · rw [List.nil_append] at v2
            rw [← v2] at w2
            exact absurd (no_shift w2) (by simp)
          · rw [List.concat_eq_append] at v1 nV0
            rw [show C ++ 10 :: (V0' ++ [c']) = (C ++ 10 :: V0') ++ [c'] by simp] at v1
            obtain ⟨_, q2⟩ := List.append_inj' v1 rfl
            injection q2 with q3 _
            exact absurd (by rw [← q3]; simp) nV0
        · rw [List.concat_eq_append] at u1 w2 nW0
          rw [show B ++ 10 :: (W1' ++ [a']) = (B ++ 10 :: W1') ++ [a'] by simp] at u1
          obtain ⟨q1, q2⟩ := List.append_inj' u1 rfl
          injection q2 with q3 _
          subst q1 q3
          have ha : a ≠ 10 := fun z => nW0 (by rw [z]; simp)
          rw [show B ++ 10 :: W1' ++ [b] ++ [a] = B ++ 10 :: (W1' ++ [b] ++ [a]) by simp] at v1
          have n1 : 10 ∉ W1' ++ [b] ++ [a] := fun z => by
            rcases List.mem_append.mp z with z | z
            · rcases List.mem_append.mp z with z | z
              · exact nW0 (List.mem_append_left _ (List.mem_append_left _ z))
              · exact hb (List.mem_singleton.mp z).symm
            · exact ha (List.mem_singleton.mp z).symm
          exact same (split_last v1 n1 nV0).1
end Mx

set_option Elab.async false
set_option linter.all false
set_option maxRecDepth 100000
set_option maxHeartbeats 0
namespace K93
open PySem PySem.Spec PyProof.Rows L2
def topS (i : Nat) : Stmt := PySem.Challenge.pw_sureleaves_k93_sums_notice_each_change.main.body.getD i (.Pass ⟨0, 0, 0, 0⟩)
def dd (i : Nat) (x : Str) : He.DefD := ⟨(x, none), x, x, defArgs (topS i), defBody (topS i), defScope (topS i), [], []⟩
def fnL : List He.DefD := [dd 5 "is_signs", dd 11 "sum_of", dd 12 "is_sealable", dd 13 "sealed", dd 14 "told_number", dd 15 "unsealed", dd 17 "_law_begun", dd 18 "_law_blended", dd 19 "_law_draw", dd 20 "_law_pick", dd 21 "_law_caught", dd 22 "_law_k93_sum",
  dd 23 "_law_k93_signs", dd 24 "_law_k93_text", dd 25 "_law_k93_near", dd 26 "_law_k93_long", dd 27 "law"]
def faL : List He.Fa := [.glo "is_signs", .glo "sum_of", .glo "is_sealable", .glo "sealed", .glo "told_number", .glo "unsealed", .glo "_law_begun", .glo "_law_blended", .glo "_law_draw", .glo "_law_pick", .glo "_law_caught", .glo "_law_k93_sum",
  .glo "_law_k93_signs", .glo "_law_k93_text", .glo "_law_k93_near", .glo "_law_k93_long", .glo "law",
  .glo "LeafError", .glo "BadSum", .glo "BadThing", .exc "BadSum", .exc "BadThing", .exm "BadSum" "LeafError" true, .exm "BadThing" "LeafError" true,
  .int "PRIME" 1000000007, .int "MOST_SEALED" 1000000, .int "MOST_SUM" 10, .str "FIGURES" "0123456789",
  .free "isinstance", .free "str", .free "all", .free "len", .free "ord", .free "enumerate", .free "int", .free "abs", .free "sum", .free "range", .free "min"]
def excB (K : PySem.W.Frag) (x : Str) : Bool :=
  He.eqO (PySem.W.findIn K (.ref (He.ga K x)) "__getattribute__") (some (some (.builtin "BaseException.__getattribute__"))) && He.eqO (PySem.W.findIn K (.ref (He.ga K x)) "__getattr__") (some none) && PySem.W.hasDictIn K (He.ga K x) &&
  He.eqO (PySem.W.findIn K (.ref (He.ga K x)) "__class__") (some (some (.builtin "object.__class__"))) && He.eqO (PySem.W.specialIn K (.builtin "object.__class__") "__get__") (some (some (.builtin "getset_descriptor.__get__"))) &&
  decide (PySem.W.takesIn K (.builtin "object.__class__") = some true) && decide (PySem.W.mroIn K (He.ga K x) (.type "object") = some true)
def kitB (K : PySem.W.Frag) (x y : Str) (b : Bool) : Bool := decide (PySem.W.kitOne K (.ref (He.ga K x)) (.ref (He.ga K y)) = some b)
def exL (K : PySem.W.Frag) : Bool := excB K "BadSum" && excB K "BadThing" && kitB K "BadSum" "BadSum" true && kitB K "BadThing" "BadThing" true && decide (He.tabOf K (He.codeOf K ("_law_k93_long", none)) ≠ He.tabOf K (He.codeOf K ("law", none)))
def tfL : List He.Defn := [("_law_k93_long", none), ("law", none)]
abbrev R : PySem.W.OpenRow := PySem.W.OpenLaw.row PySem.Challenge.rw_sureleaves_k93_sums_notice_each_change
abbrev hk : PySem.W.Hook := He.hookX 4 faL fnL [] tfL exL
def ob (s : PySem.W.SharedT) : He.AlX := He.obsX 4 faL fnL [] tfL exL (HandSHeadRun.getT s)
theorem ob_eq (s : PySem.W.SharedT) : ob s = hk.obs s.abs := He.obsX_eq (HandSHeadRun.getT_eq s)
def looseL : List PySem.Str := ["LeafError", "BadSum", "BadThing", "is_signs", "PRIME", "MOST_SEALED", "MOST_SUM", "FIGURES", "sum_of", "is_sealable", "sealed", "told_number", "unsealed", "_law_begun", "_law_blended", "_law_draw", "_law_pick", "_law_caught", "_law_k93_sum", "_law_k93_signs", "_law_k93_text", "_law_k93_near", "_law_k93_long"]
theorem run (w : World) : HandSHeadRun.RunEq R (PySem.W.view R.prog [27]) hk ob 3000 looseL w := by
  intro os
  kernel_rfl
end K93

set_option Elab.async false
set_option linter.all false
set_option maxRecDepth 100000
set_option maxHeartbeats 4000000
namespace K93
open PySem PySem.Spec PyProof.Rows L2 TL Rx Mx
/-- a def that may be called by its name, all its parameters given -/
structure Cl (P : Program) (w : World) (K : PySem.W.Frag) (mg : Str → Option Value) (base : Heap) (CX : CXT) (k : Nat) (x : Str) (sp : Sp) : Prop where
  ex : ∃ (f : Addr) (fd : FuncData) (ps : List Str), FnOk P w K mg base CX k f fd ps sp ∧ mg x = some (.ref f) ∧ PySem.W.keepIn K (.ref f) = true ∧ Binds K fd ps []
/-- the text's i-th statement, a def x, stands behind the top -/
structure At (K : PySem.W.Frag) (mg : Str → Option Value) (i : Nat) (x : Str) : Prop where
  ex : ∃ (f : Addr) (fd : FuncData), FunD K x x (defArgs (topS i)) (defBody (topS i)) (defScope (topS i)) [] [] f fd ∧ mg x = some (.ref f)
section
variable {P : Program} {w : World} {K : PySem.W.Frag} {mg : Str → Option Value} {base : Heap} {CX : CXT}
/-- the text's i-th statement keeps a promise -/
structure OkD (P : Program) (w : World) (K : PySem.W.Frag) (mg : Str → Option Value) (base : Heap) (CX : CXT) (k : Nat) (i : Nat) (x : Str) (ps : List Str) (sp : Sp) : Prop where
  ex : ∃ (f : Addr) (fd : FuncData), FunD K x x (defArgs (topS i)) (defBody (topS i)) (defScope (topS i)) [] [] f fd ∧ mg x = some (.ref f) ∧ FnOk P w K mg base CX k f fd ps sp
theorem ok_mk {i : Nat} {x : Str} {N ps : List Str} {k : Nat} {sp : Sp} (a : At K mg i x) (S : FnScope N ps (defScope (topS i))) (len : ∀ vs H Q E, sp vs H Q E → vs.length = ps.length)
    (hbody : ∀ (f : Addr) (cdv : Value) (A : Around) (outer : List Env) (s : Shared) (H : Hp) (vs : List V) (Q : VK) (E : XK), Room k (A.deeper (envOfC x (defScope (topS i)) s.heap.objs.size f cdv)) → sp vs H Q E →
      ∃ t, PSs (cxOf CX P w K mg base N x (defScope (topS i)) f cdv A outer s H E) (defBody (topS i)) t ∧ t { nx := fun _ H' => Q .non H', rt := Q } (start N vs) H) : OkD P w K mg base CX (k + 1) i x ps sp := by
  obtain ⟨f, fd, F, g⟩ := a.ex
  exact ⟨f, fd, F, g, F.ok S len (fun cdv A outer s H vs Q E hr h => hbody f cdv A outer s H vs Q E hr h)⟩
theorem cl_ok {i : Nat} {x : Str} {ps : List Str} {k : Nat} {sp : Sp} (o : OkD P w K mg base CX k i x ps sp)
    (hb : ∀ (kV doc pm : Value) (an : Option Addr) (cdv ct : Value) (us : List Value), us.length = ps.length → bindArgs (PySem.W.fnOf x x (defArgs (topS i)) (defBody (topS i)) (defScope (topS i)) .none kV doc pm an cdv ct) ⟨us, []⟩ = pure (ps.zip us)) : Cl P w K mg base CX k x sp := by
  obtain ⟨f, fd, F, g, h⟩ := o.ex
  exact ⟨f, fd, ps, h, g, F.kp, F.bindsN hb⟩
theorem cl_mk {i : Nat} {x : Str} {N ps : List Str} {k : Nat} {sp : Sp} (a : At K mg i x) (S : FnScope N ps (defScope (topS i))) (len : ∀ vs H Q E, sp vs H Q E → vs.length = ps.length)
    (hb : ∀ (kV doc pm : Value) (an : Option Addr) (cdv ct : Value) (us : List Value), us.length = ps.length → bindArgs (PySem.W.fnOf x x (defArgs (topS i)) (defBody (topS i)) (defScope (topS i)) .none kV doc pm an cdv ct) ⟨us, []⟩ = pure (ps.zip us))
    (hbody : ∀ (f : Addr) (cdv : Value) (A : Around) (outer : List Env) (s : Shared) (H : Hp) (vs : List V) (Q : VK) (E : XK), Room k (A.deeper (envOfC x (defScope (topS i)) s.heap.objs.size f cdv)) → sp vs H Q E →
      ∃ t, PSs (cxOf CX P w K mg base N x (defScope (topS i)) f cdv A outer s H E) (defBody (topS i)) t ∧ t { nx := fun _ H' => Q .non H', rt := Q } (start N vs) H) : Cl P w K mg base CX (k + 1) x sp := cl_ok (ok_mk a S len hbody) hb
end
section
variable {X : Cx} {k j : Nat} {x : Str} {sp : Sp} {p pos : Pos} {e : Expr} {es : List Expr} {t : TA}
theorem pe_cl (c : Cl X.prog X.w X.K X.mg X.base CX0 k x sp) (hr : Room j X.A) (hk : k ≤ j) (hg : Gl X x) (ha : PA X (e :: es) t)
    (hdb : (x == ("__debug__" : Str)) = false := by decide) (he : starEach (e :: es) X.env = (false, eval e X.env) :: starEach es X.env := by rfl) (hpl : (backTo pos (starEach es X.env)).any (·.1) = false := by rfl) :
    PE X (.Call (.Name x p) (e :: es) [] pos) (tCallS sp (fun _ => E0) t) := by
  obtain ⟨f, fd, ps, F, hm, kp, b⟩ := c.ex
  exact pe_callS F (hr.mono hk) hg hm kp b (fun σ _ _ _ _ _ _ z => z.elim) ha hdb he hpl
/-- of a def that may raise, W what is wished of that -/
theorem pe_clX {W : WX} (c : Cl X.prog X.w X.K X.mg X.base (L2.CX X.prog X.w) k x sp) (hr : Room j X.A) (hk : k ≤ j) (hg : Gl X x) (tk : Takes X W) (ha : PA X (e :: es) t)
    (hdb : (x == ("__debug__" : Str)) = false := by decide) (he : starEach (e :: es) X.env = (false, eval e X.env) :: starEach es X.env := by rfl) (hpl : (backTo pos (starEach es X.env)).any (·.1) = false := by rfl) :
    PE X (.Call (.Name x p) (e :: es) [] pos) (tCallS sp (WE W) t) := by
  obtain ⟨f, fd, ps, F, hm, kp, b⟩ := c.ex
  exact pe_callS F (hr.mono hk) hg hm kp b (fun σ => passAt tk σ) ha hdb he hpl
theorem pe_cl0 (c : Cl X.prog X.w X.K X.mg X.base CX0 k x sp) (hr : Room j X.A) (hk : k ≤ j) (hg : Gl X x) (hdb : (x == ("__debug__" : Str)) = false := by decide) : PE X (.Call (.Name x p) [] [] pos) (tCall sp [] E0 tNil) := by
  obtain ⟨f, fd, ps, F, hm, kp, b⟩ := c.ex
  exact pe_call0 F (hr.mono hk) hg hm kp b .nil pass0 hdb
end
section
variable {X : Cx} {CX : CXT} {k j i : Nat} {x n : Str} {sp : Sp} {p pos : Pos} {kws : List Keyword} {tk : TA} {E : XK}
/-- x(n = e), its one parameter named -/
theorem pe_kw1 (c : OkD X.prog X.w X.K X.mg X.base CX k i x [n] sp) (hr : Room j X.A) (hkj : k ≤ j) (hg : Gl X x) (hx : Passes CX X E) (hkw : PK X kws tk)
    (hb : ∀ (kV doc pm : Value) (an : Option Addr) (cdv ct : Value) (u : Value), bindArgs (PySem.W.fnOf x x (defArgs (topS i)) (defBody (topS i)) (defScope (topS i)) .none kV doc pm an cdv ct) ⟨[], [(n, u)]⟩ = pure [(n, u)])
    (hall : (backToKw pos (keywordEach kws X.env)).all (·.1.isSome) = true := by rfl) (hks : (backToKw pos (keywordEach kws X.env)).filterMap (·.1) = [n] := by rfl)
    (hdb : (x == ("__debug__" : Str)) = false := by decide) (hpl : ((backTo pos (starEach [] X.env)).any (·.1) || (backToKw pos (keywordEach kws X.env)).any (·.1.isNone)) = false := by rfl) :
    PE X (.Call (.Name x p) [] kws pos) (fun σ H Q => tk σ H fun zs H1 => ∃ z, zs = [z] ∧ sp [z] H1 Q E) := by
  obtain ⟨f, fd, F, hm, h⟩ := c.ex
  obtain ⟨oc, od, dV, kV, doc, pm, an, cdv, ct, osl, efd, lk, hcd, hD, hK⟩ := F.ex
  have hbt : ∀ (s : Shared) (u : Value), BindsTo s fd ⟨[], [(n, u)]⟩ [(n, u)] := fun s u => by
    rcases hD with ⟨_, e⟩ | ⟨e, _⟩
    · subst e
      rw [efd]
      exact .of_eq (hb kV doc pm an cdv ct u)
    · exact absurd rfl e
  refine ⟨fun pins s σ H Q I hq => ?_⟩
  refine wpAny_Call_Name_kw (ld_glob I hg hm ?_ hdb)
  refine PySem.W.callWith_KW0 (h₀ := X.base) I.ok.mod.kin F.kp hall (thn (hkw.run pos pins s σ H _ I hq) fun ws s2 ⟨zs, H2, I2, rz, q2⟩ => ⟨I2.kIn, ?_⟩) hpl
  rw [hks]
  obtain ⟨z, rfl, q3⟩ := q2
  obtain ⟨u, rfl, ru⟩ := rz.one
  refine wpAny_call (codeAny_mono (h.run X.A X.stack s2 H2 ⟨[], [n].zip [u]⟩ [u] [z] Q E (hr.mono hkj) I2.env0 (hbt s2 u) rz q3) fun r s' hq => ?_)
  cases r with
  | error e => exact hx pins σ H2 s2 e s' I2 hq
  | ok fl =>
    cases fl with
    | ret u => exact I2.after hq
    | next => exact False.elim hq
    | brk => exact False.elim hq
    | cont => exact False.elim hq
end
/-- an exception's class, as the head tells it -/
structure Xc (K : PySem.W.Frag) (mg : Str → Option Value) (x : Str) (C LE : Addr) : Prop where
  g : mg x = some (.ref C)
  x : PySem.W.excIn K C [.type "ValueError", .type "Exception", .type "BaseException", .type "object"] "ValueError.__new__" = true
  k : PySem.W.keepIn K (.ref C) = true
  s : PySem.W.subIn K (.ref C) (.type "BaseException") = some true
  t : PySem.W.typeIn K (.ref C) = some (.type "type")
  e : PySem.W.exmOne K (.ref C) (.ref LE) = some true
  c : ExcC K C
  o : PySem.W.kitOne K (.ref C) (.ref C) = some true
/-- what the walks know of the top -/
structure Tx (K : PySem.W.Frag) (mg : Str → Option Value) (LE BS BT : Addr) : Prop where
  isinstance : mg "isinstance" = none
  str : mg "str" = none
  all : mg "all" = none
  len : mg "len" = none
  ord : mg "ord" = none
  enumerate : mg "enumerate" = none
  int : mg "int" = none
  abs : mg "abs" = none
  sum : mg "sum" = none
  range : mg "range" = none
  min : mg "min" = none
  prime : ∃ t, mg "PRIME" = some (.int 1000000007 t)
  most : ∃ t, mg "MOST_SEALED" = some (.int 1000000 t)
  mostS : ∃ t, mg "MOST_SUM" = some (.int 10 t)
  figs : ∃ t, mg "FIGURES" = some (.str "0123456789" t)
  le : mg "LeafError" = some (.ref LE)
  bs : Xc K mg "BadSum" BS LE
  bt : Xc K mg "BadThing" BT LE
theorem pe_const {X : Cx} {x : Str} {v : V} {pos : Pos} (hg : Gl X x) (h : ∃ u, X.mg x = some u ∧ RelV v u) (hd : (x == ("__debug__" : Str)) = false := by decide) : PE X (.Name x pos) (tC v) := by
  obtain ⟨u, hm, r⟩ := h
  exact pe_glob hg hm r hd
end K93

set_option Elab.async false
set_option linter.all false
set_option maxRecDepth 100000
set_option maxHeartbeats 4000000
/-! more of what evaluates to what -/
namespace Ey
open PySem PySem.Spec PyProof.Rows L2 TL Rx Evl
/-- what a for walks -/
def EvI (wi : TI) (σ : L2.St) (H : Hp) (J : It) : Prop := ∀ H1, Ex H H1 → ∀ R : It → Hp → Prop, (∀ H2, Ex H1 H2 → R J H2) → wi σ H1 R
theorem ex_free {H H' : Hp} {p : Addr} (e : Ex H H') (h : H' p = none) : H p = none := fresh_back e h
theorem tyO_ext {K : PySem.W.Frag} {H H' : Hp} {v : V} {t : Value} (e : Ex H H') (h : TyOf K H v t) : TyOf K H' v t := by
  cases h with
  | non => exact .non
  | bl b => exact .bl b
  | int i => exact .int i
  | str x => exact .str x
  | flt x => exact .flt x
  | lst h => exact .lst (e _ _ h)
  | frz h => exact .frz (e _ _ h)
  | tup h => exact .tup (e _ _ h)
  | dK h => exact .dK (e _ _ h)
  | dT h => exact .dT (e _ _ h)
  | ins h c h1 h2 h3 h4 => exact .ins (e _ _ h) c h1 h2 h3 h4
theorem tyX_ext {K : PySem.W.Frag} {H H' : Hp} {v : V} {t : Value} (e : Ex H H') (h : TyX K H v t) : TyX K H' v t := by
  cases h with
  | base h => exact .base (tyO_ext e h)
  | byt b => exact .byt b
  | set h => exact .set (e _ _ h)
  | kList h c => exact .kList h c
  | kTuple h c => exact .kTuple h c
  | kDict h c => exact .kDict h c
  | fTuple h => exact .fTuple (e _ _ h)
  | fDict h => exact .fDict (e _ _ h)
section
variable {K : PySem.W.Frag} {σ : L2.St} {H : Hp} {te tl_ : TE} {ta : TA} {t : TT} {wi : TI} {g : TG} {vs : List Nat} {J : It} {n : Nat} {G : Hp → Prop} {Y : Nat → Hp → V → Hp → Prop}
theorem ei_str {z : Str} (h : Ev te σ H (.str z)) : EvI (iStr te) σ H (Its z) := fun H1 e R q => h H1 e _ fun H2 e2 => ⟨z, rfl, q H2 e2⟩
theorem ei_enumS {z : Str} (h : EvA ta σ H [.str z]) : EvI (iEnumS ta) σ H (IteS z) := fun H1 e R q => h H1 e _ fun H2 e2 => ⟨z, rfl, q H2 e2⟩
theorem ei_list {a : Addr} {xs : List V} (h : Ev te σ H (.ref a)) (hx : SqL K H a xs) : EvI (iList K te) σ H (Itl K a) := fun H1 e R q => h H1 e _ fun H2 e2 => ⟨a, rfl, ⟨xs, ex_l (e.trans e2) hx⟩, q H2 e2⟩
theorem turn_lc {H H2 : Hp} {f : Nat → Bool} {v : Nat → V} {Dl : Addr} {i : Nat} {σ2 : L2.St} (p : Cw H f v Dl i H2) (hi : i < 16777216) (ht : EvT t σ2 H2 (f i)) (he : f i = true → Ev te σ2 H2 (v i)) :
    t σ2 H2 fun b H3 => if b = true then te σ2 H3 fun y H4 => ∃ acc, H4 Dl = some (.lst acc) ∧ acc.length < sizeLine ∧ Cw H f v Dl (i + 1) (upd H4 Dl (.lst (acc ++ [y]))) else Cw H f v Dl (i + 1) H3 := by
  obtain ⟨p1, p2, p3⟩ := p
  refine ht H2 (Ex.refl _) _ fun H3 e3 => ?_
  cases hf : f i with
  | true =>
    rw [if_pos rfl]
    refine he hf H3 e3 _ fun H4 e4 => ⟨given i f v, e4 Dl _ (e3 Dl _ p3), Nat.lt_of_le_of_lt (given_len i f v) (by rw [sizeLine_eq]; exact hi), p1, Ex.mut ((p2.trans e3).trans e4) p1, ?_⟩
    rw [given_yes hf]
    exact upd_same
  | false =>
    rw [if_neg Bool.false_ne_true]
    refine ⟨p1, p2.trans e3, ?_⟩
    rw [given_no hf]
    exact e3 Dl _ p3
/-- a comprehension over any walk -/
theorem el_lcW (f : Nat → Bool) (v : Nat → V) (hi : EvI wi σ H J) (w : Walk J n G Y) (hG : ∀ H1, Ex H H1 → G H1) (hn : n ≤ 16777216)
    (hs : ∀ i x H1 H1', i < n → Ex H H1 → Y i H1 x H1' → ∀ R : L2.St → Hp → Prop, (∀ σ2 H2, Ex H1 H2 → wipe σ2 vs = wipe σ vs → EvT t σ2 H2 (f i) → (f i = true → Ev te σ2 H2 (v i)) → R σ2 H2) → g x (wipe σ vs) H1' R) :
    EvL (tLc wi g t te vs) σ H (given n f v) := fun H0 e Q q => hi H0 e _ fun H1 e1 => fun Dl hD =>
  lc_it w (Cw H1 f v Dl) ⟨hD, Ex.new hD, upd_same⟩ (fun i H' _ p => hG H' ((e.trans e1).trans p.2.1)) (fun i x H' H'' hi p y =>
    hs i x H' H'' hi ((e.trans e1).trans p.2.1) y _ fun σ2 H2 e2 hw ht he => ⟨hw, turn_lc ⟨p.1, p.2.1.trans e2, e2 _ _ p.2.2⟩ (by omega) ht he⟩)
    (fun H' p => q Dl H' (fresh_back e1 p.1) (e1.trans p.2.1) p.2.2)
/-- over a text, sign by sign -/
theorem el_lcS {j : Nat} {z : Str} (f : Nat → Bool) (v : Nat → V) (h : Ev te σ H (.str z)) {te' : TE} (hz : z.length ≤ 16777216) (hw : ∀ x, wipe ((wipe σ vs).set j (some x)) vs = wipe σ vs)
    (ht : ∀ (i c : Nat) H1, Ex H H1 → (tl z)[i]? = some c → EvT t ((wipe σ vs).set j (some (.str ⟨#[c]⟩))) H1 (f i)) (he : ∀ (i c : Nat) H1, Ex H H1 → (tl z)[i]? = some c → f i = true → Ev te' ((wipe σ vs).set j (some (.str ⟨#[c]⟩))) H1 (v i)) :
    EvL (tLc (iStr te) (gName j) t te' vs) σ H (given z.length f v) :=
  el_lcW f v (ei_str h) walk_str (fun _ _ => True.intro) hz fun i x H1 H1' hi e y R k => by
    obtain ⟨rfl, c, hc, rfl⟩ := y
    have hc' : (tl z)[i]? = some c := by simpa using hc
    exact k _ _ (Ex.refl _) (hw _) (ht i c H1' e hc') fun hf => he i c H1' e hc' hf
/-- over a new list -/
theorem el_lcN {xs : List V} {j : Nat} (f : Nat → Bool) (v : Nat → V) (h : EvL tl_ σ H xs) (hz : xs.length ≤ 16777216) (hw : ∀ x, wipe ((wipe σ vs).set j (some x)) vs = wipe σ vs)
    (ht : ∀ (i : Nat) (x : V) H1, Ex H H1 → xs[i]? = some x → EvT t ((wipe σ vs).set j (some x)) H1 (f i)) (he : ∀ (i : Nat) (x : V) H1, Ex H H1 → xs[i]? = some x → f i = true → Ev te ((wipe σ vs).set j (some x)) H1 (v i)) :
    EvL (tLc (iList K tl_) (gName j) t te vs) σ H (given xs.length f v) := fun H0 e Q q => h H0 e _ fun a H1 ha e1 hx => ⟨a, rfl, ⟨xs, sq_of hx⟩, fun Dl hD =>
  lc_it walk_list (Cw H1 f v Dl) ⟨hD, Ex.new hD, upd_same⟩ (fun i H' _ p => sq_of (p.2.1 a _ hx)) (fun i x H' H'' hi p y => by
    obtain ⟨rfl, hx'⟩ := y
    exact ⟨hw x, turn_lc p (by omega) (ht i x _ ((e.trans e1).trans p.2.1) hx') (fun hf => he i x _ ((e.trans e1).trans p.2.1) hx' hf)⟩)
    (fun H' p => q Dl H' (fresh_back e1 p.1) (e1.trans p.2.1) p.2.2)⟩
/-- over a list that stands -/
theorem el_lcLs {a : Addr} {xs : List V} {j : Nat} (f : Nat → Bool) (v : Nat → V) (h : Ev tl_ σ H (.ref a)) (hx : SqL K H a xs) (hz : xs.length ≤ 16777216) (hw : ∀ x, wipe ((wipe σ vs).set j (some x)) vs = wipe σ vs)
    (ht : ∀ (i : Nat) (x : V) H1, Ex H H1 → xs[i]? = some x → EvT t ((wipe σ vs).set j (some x)) H1 (f i)) (he : ∀ (i : Nat) (x : V) H1, Ex H H1 → xs[i]? = some x → f i = true → Ev te ((wipe σ vs).set j (some x)) H1 (v i)) :
    EvL (tLc (iList K tl_) (gName j) t te vs) σ H (given xs.length f v) :=
  el_lcW f v (ei_list h hx) walk_list (fun H1 e => ex_l e hx) hz fun i x H1 H1' hi e y R k => by
    obtain ⟨rfl, hx'⟩ := y
    exact k _ _ (Ex.refl _) (hw x) (ht i x H1' e hx') fun hf => he i x H1' e hx' hf
/-- a for over any walk -/
theorem s_forW {D : Ends} {tb : TS} (hi : EvI wi σ H J) (w : Walk J n G Y) (Pv : Nat → L2.St → Hp → Prop) (h0 : ∀ H1, Ex H H1 → Pv 0 σ H1) (hG : ∀ i σ H, i ≤ n → Pv i σ H → G H)
    (hs : ∀ i x σ H H', i < n → Pv i σ H → Y i H x H' → g x σ H' fun σ2 H2 => tb { D with nx := Pv (i + 1), ct := Pv (i + 1), bk := D.nx } σ2 H2) (hd : ∀ σ H, Pv n σ H → D.nx σ H) : tFor wi g tb D σ H :=
  hi H (Ex.refl H) _ fun H1 e => for_it w Pv (h0 H1 e) hG hs hd
theorem given_all {n : Nat} {α : Type} {f : Nat → α} : given n (fun _ => true) (fun i => (V.bl true)) = (List.range n).map fun _ => V.bl true := by
  unfold given
  rw [List.filter_eq_self.mpr (fun _ _ => rfl)]
theorem given_map {n : Nat} (v : Nat → V) : given n (fun _ => true) v = (List.range n).map v := by
  unfold given
  rw [List.filter_eq_self.mpr (fun _ _ => rfl)]
/-- the items of a list, one turn for each -/
theorem given_list {α : Type} (l : List α) (d : α) (v : α → V) : given l.length (fun _ => true) (fun i => v (l.getD i d)) = l.map v := by
  rw [given_map]
  apply List.ext_getElem
  · simp
  · intro i h1 h2
    simp at h1 h2 ⊢
    rw [List.getElem?_eq_getElem h1] <;> rfl
/-- a call of a built-in whose one argument is a new list -/
theorem ev_cbL {r : List V → Hp → VK → Prop} {xs : List V} {z : V} (h : EvL te σ H xs) (hr : ∀ p H1, H1 p = some (.lst xs) → Ex H H1 → RC r [.ref p] H1 z) : Ev (tCB r (tCons te tNil)) σ H z := fun H1 e Q q =>
  h H1 e _ fun p H2 hp e2 h2 => hr p H2 h2 (e.trans e2) H2 (Ex.refl H2) Q fun H3 e3 => q H3 (e2.trans e3)
theorem rc_of {r : List V → Hp → VK → Prop} {us : List V} {z : V} (h : ∀ H1, Ex H H1 → ∀ Q : VK, Q z H1 → r us H1 Q) : RC r us H z := fun H1 e Q q => h H1 e Q (q H1 (Ex.refl H1))
theorem rv_of {r : R2} {x y z : V} (h : ∀ H1, Ex H H1 → ∀ Q : VK, Q z H1 → r x y H1 Q) : RV r x y H z := fun H1 e Q q => h H1 e Q (q H1 (Ex.refl H1))
theorem ev_callS {sp : Sp} {E : L2.St → XK} {us : List V} {z : V} (h : EvA ta σ H us) (hs : SpV sp us H z) : Ev (tCallS sp E ta) σ H z := fun H1 e Q q =>
  h H1 e _ fun H2 e2 => hs H2 (e.trans e2) Q (fun H3 e3 => q H3 (e2.trans e3)) (E σ)
theorem ev_slS {z : Str} {lo hi : Option Int} {a b : TO} (h : Ev te σ H (.str z)) (h1 : EvO a σ H lo) (h2 : EvO b σ H hi) (hz : z.length ≤ 16777216) : Ev (tSl rSlS te a b) σ H (.str (cutS z lo hi)) := fun H1 e Q q =>
  h H1 e _ fun H2 e2 => h1 H2 (e.trans e2) _ fun H3 e3 => h2 H3 ((e.trans e2).trans e3) _ fun H4 e4 => ⟨z, rfl, by rw [sizeLine_eq]; exact hz, q H4 ((e2.trans e3).trans e4)⟩
/-- a, b = x, y -/
theorem q_par {i j : Nat} {x y : V} {D : Ends} {tz : TS} (h : EvA ta σ H [x, y]) (k : ∀ H1, Ex H H1 → tz D ((σ.set i (some x)).set j (some y)) H1) : tSeq (tPar i j ta) tz D σ H :=
  h H (Ex.refl H) _ fun H1 e => ⟨x, y, rfl, k H1 e⟩
/-- the slices of a text -/
theorem tl_cut (z : Str) (a b : Nat) : tl (cutS z (some (a : Int)) (some (b : Int))) = ((tl z).drop a).take (b - a) := by
  show ((tl z).drop (HT.sIx z.length 0 (some (a : Int)))).take (HT.sIx z.length z.length (some (b : Int)) - HT.sIx z.length 0 (some (a : Int))) = _
  rw [HT.sIx_nat, HT.sIx_nat, len_tl]
  generalize tl z = l
  by_cases h : a ≤ l.length
  · rw [Nat.min_eq_left h]
    by_cases h2 : b ≤ l.length
    · rw [Nat.min_eq_left h2]
    · rw [Nat.min_eq_right (by omega)]
      rw [List.take_of_length_le (by rw [List.length_drop]; exact Nat.le_refl _), List.take_of_length_le (by rw [List.length_drop]; omega)]
  · rw [Nat.min_eq_right (show l.length ≤ a by omega), List.drop_of_length_le (Nat.le_refl l.length), List.drop_of_length_le (show l.length ≤ a by omega), List.take_nil, List.take_nil]
theorem tl_cutTo (z : Str) (b : Nat) : tl (cutS z none (some (b : Int))) = (tl z).take b := by
  show ((tl z).drop (HT.sIx z.length 0 none)).take (HT.sIx z.length z.length (some (b : Int)) - HT.sIx z.length 0 none) = _
  rw [HT.sIx_nat, HT.sIx_none, List.drop_zero, Nat.sub_zero, len_tl]
  by_cases h : b ≤ (tl z).length
  · rw [Nat.min_eq_left h]
  · rw [Nat.min_eq_right (by omega), List.take_length, List.take_of_length_le (by omega)]
theorem tl_cutFrom (z : Str) (a : Nat) : tl (cutS z (some (a : Int)) none) = (tl z).drop a := by
  show ((tl z).drop (HT.sIx z.length 0 (some (a : Int)))).take (HT.sIx z.length z.length none - HT.sIx z.length 0 (some (a : Int))) = _
  rw [HT.sIx_nat, HT.sIx_none, len_tl]
  by_cases h : a ≤ (tl z).length
  · rw [Nat.min_eq_left h, List.take_of_length_le (by rw [List.length_drop]; omega)]
  · rw [Nat.min_eq_right (by omega), List.drop_of_length_le (Nat.le_refl _), List.drop_of_length_le (by omega), List.take_nil]
theorem et_yes : EvT tYes σ H true := fun H1 _ _ q => q H1 (Ex.refl H1)
end
end Ey

set_option Elab.async false
set_option linter.all false
set_option maxRecDepth 100000
set_option maxHeartbeats 4000000
namespace K93
open PySem PySem.Spec PyProof.Rows L2 TL Rx Mx Evl Ey
section
variable {P : Program} {w : World} {K : PySem.W.Frag} {mg : Str → Option Value} {base : Heap} {LE BS BT : Addr}
/-! ### is_signs -/
def spIsSigns : Sp := fun vs H Q _ => ∃ z : Str, vs = [.str z] ∧ z.length ≤ 16777216 ∧ RetV (.bl ((tl z).all signOk)) H Q
theorem sc_is_signs : FnScope ["value", "sign"] ["value"] (defScope (topS 5)) := ⟨rfl, rfl, rfl, by decide +kernel, rfl, by decide +kernel, by decide +kernel⟩
theorem sign_cmp (c : Nat) : (!decide ([c] < [32]) && !decide ([126] < [c])) = signOk c := by
  have h1 : ([c] < [32]) ↔ c < 32 := by rw [List.cons_lt_cons_iff]; simp
  have h2 : ([126] < [c]) ↔ 126 < c := by rw [List.cons_lt_cons_iff]; simp
  unfold signOk
  by_cases a : c < 32 <;> by_cases b : 126 < c <;> simp [h1, h2, a, b] <;> omega
theorem cl_is_signs (T : Tx K mg LE BS BT) (a : At K mg 5 "is_signs") : Cl P w K mg base CX0 1 "is_signs" spIsSigns := by
  refine cl_mk a sc_is_signs (fun vs H Q E h => ?_) (fun _ _ _ _ _ _ us hl => match us, hl with | [_], _ => rfl) (fun f cdv A outer s H vs Q E hr h => ?_)
  · obtain ⟨z, rfl, _⟩ := h
    rfl
  · obtain ⟨z, rfl, hz, q⟩ := h
    refine ⟨_, PSs.nox (pss_one (ps_ret (pe_and (pe_callB call_isX (by rfl) T.isinstance boot_isinstance (pa_cons (pv 0) (pa_cons (pe_bltn (v := .ty "str") (by rfl) T.str boot_str rfl) pa_nil)))
      (pe_one (pe_callB (cr_all rfl) (by rfl) T.all boot_all (pa_cons (pe_lc (own := [("sign", 1)]) (g := gName 1) (tt := tYes) rfl sc_is_signs.nd (pi_str (pv 0)) (blkOk_by (N := ["value", "sign"]) (sc := defScope (topS 5)) (by decide +kernel))
        (fun _ _ _ _ _ => pg_name (i := 1) sc_is_signs.nd rfl (Or.inl rfl)) (fun _ _ _ _ _ => pts_nil) (fun _ _ _ _ _ => pe_chain op_le_str op_le_str pe_str (pv 1) pe_str)) pa_nil)))))), ?_⟩
    have e0 : Ev (tVar 0) (start ["value", "sign"] [.str z]) H (.str z) := ev_var rfl
    refine s_ret (v := .bl ((tl z).all signOk)) (ev_is (ev_andV (a := true) (b := (tl z).all signOk) ?_ fun _ => ?_) (by rw [Bool.true_and])) q
    · exact ev_cb (ea_cons e0 (ea_cons ev_c ea_nil)) fun H1 _ Q q => .inr ⟨.str z, .ty "str", _, _, true, rfl, .ty "str",   .base (.str z), kit_ty (by decide +kernel), q H1 (Ex.refl H1)⟩
    · refine ev_cbL (el_lcS (vs := [1]) (j := 1) (fun _ => true) (fun i => .bl (signOk ((tl z).getD i 0))) e0 hz (fun _ => rfl) (fun _ _ _ _ _ => et_yes) (fun i c H2 e2 hc _ => ?_)) fun p H2 h2 e2 => rc_of fun H3 e3 Q q => ?_
      · refine ev_is (v := .bl (!decide ([c] < [32]) && !decide ([126] < [c]))) ?_ ?_
        · intro H3 e3 Q q
          refine ⟨_, rfl, _, _, rfl, rfl, _, rfl, ?_⟩
          refine ite2 (fun z => ⟨_, _, rfl, rfl, ?_⟩) (fun z => ?_)
          · have z' : (!decide ([c] < [32])) = true := z
            rw [z', Bool.true_and] at q
            exact q H3 (Ex.refl _)
          · have z' : (!decide ([c] < [32])) = false := Bool.eq_false_iff.mpr z
            rw [z', Bool.false_and] at q
            exact q H3 (Ex.refl _)
        · rw [sign_cmp, List.getD, hc]
          rfl
      · rw [len_tl, given_list (tl z) 0 fun c => .bl (signOk c)] at h2
        refine ⟨p, (tl z).map signOk, rfl, .inl (.inl (by rw [List.map_map]; exact e3 _ _ h2)), ?_⟩
        rw [List.all_map]
        exact q
/-! ### sum_of -/
def spSumOf : Sp := fun vs H Q _ => ∃ z : Str, vs = [.str z] ∧ z.length ≤ 16777216 ∧ RetV (.int (sumP (tl z) : Nat)) H Q
abbrev N_sum_of : List Str := ["text", "found", "place", "sign"]
theorem sc_sum_of : FnScope N_sum_of ["text"] (defScope (topS 11)) := ⟨rfl, rfl, rfl, by decide +kernel, rfl, by decide +kernel, by decide +kernel⟩
theorem wsum_turn {l : List Nat} {i c : Nat} (h : l[i]? = some c) : wsum 1 (l.take (i + 1)) = wsum 1 (l.take i) + (i + 1) * c := by
  have hi : i < l.length := (List.getElem?_eq_some_iff.mp h).1
  rw [List.take_add_one, h, Option.toList_some, wsum_app, List.length_take, Nat.min_eq_left (by omega)]
  simp only [wsum, Nat.add_zero]
  rw [Nat.add_comm 1 i]
theorem sum_step (a b : Nat) : ((((a % prime : Nat) : Int) + (b : Int)) % 1000000007) = ((((a + b) % prime : Nat)) : Int) := by
  have e : (1000000007 : Int) = ((prime : Nat) : Int) := rfl
  rw [e, ← Int.natCast_add, ← Int.natCast_emod, Nat.mod_add_mod]
theorem cl_sum_of (T : Tx K mg LE BS BT) (a : At K mg 11 "sum_of") : Cl P w K mg base CX0 1 "sum_of" spSumOf := by
  refine cl_mk a sc_sum_of (fun vs H Q E h => ?_) (fun _ _ _ _ _ _ us hl => match us, hl with | [_], _ => rfl) (fun f cdv A outer s H vs Q E hr h => ?_)
  · obtain ⟨z, rfl, _⟩ := h
    rfl
  · obtain ⟨z, rfl, hz, q⟩ := h
    obtain ⟨tp, hp⟩ := T.prime
    refine ⟨_, PSs.nox (pss_cons (ps_set (i := 1) sc_sum_of.nd rfl (.inl rfl) pe_int)
      (pss_cons (ps_for PassesOwn.never rfl (pi_enumS (by rfl) T.enumerate (pa_cons (pv 0) pa_nil)) (pg_tup rfl (pgs_cons (pg_name (i := 2) sc_sum_of.nd rfl (.inl rfl)) (pgs_cons (pg_name (i := 3) sc_sum_of.nd rfl (.inl rfl)) pgs_nil)))
        (pss_one (ps_set (i := 1) sc_sum_of.nd rfl (.inl rfl) (pe_op op_mod (pe_op op_add (pv 1) (pe_op op_mul (pe_op op_add (pv 2) pe_int) (pe_callB call_ord (by rfl) T.ord boot_ord (pa_cons (pv 3) pa_nil)))) (pe_const (v := .int 1000000007) (by rfl) ⟨_, hp, _, rfl⟩)))))
      (pss_one (ps_ret (pv 1))))), ?_⟩
    refine q_asg ev_c fun H1 e1 => ?_
    refine s_forW (D := { nx := _, rt := _ }) (ei_enumS (z := z) (ea_cons (ev_var rfl) ea_nil)) walk_enumS (fun i σ H' => ∃ y2 y3, σ = [some (.str z), some (.int (wsum 1 ((tl z).take i) % prime : Nat)), y2, y3] ∧ Ex H H')
      (fun H2 e2 => ⟨none, none, rfl, e1.trans e2⟩) (fun _ _ _ _ _ => True.intro) (fun i x σ H2 H3 hi hP hy => ?_) (fun σ H2 hP => ?_)
    · obtain ⟨y2, y3, rfl, e2⟩ := hP
      obtain ⟨T', c, rfl, hn, rfl, hc⟩ := hy
      have hc' : (tl z)[i]? = some c := by simpa using hc
      have hi' : i < z.length := hi
      refine ⟨T', _, rfl, .inl (.inl upd_same), rfl, _, _, rfl, _, _, rfl, rfl, ?_⟩
      refine s_asg (v := .int (wsum 1 ((tl z).take (i + 1)) % prime : Nat)) (ev_is (ev_op (ev_op (ev_var rfl) (ev_op (ev_op (ev_var rfl) ev_c rv_I0) (ev_cb (ea_cons (ev_var rfl) ea_nil) (rc_of fun _ _ _ q => ⟨⟨#[c]⟩, rfl, rfl, q⟩)) (rv_I (.inl ⟨?_, ?_⟩))) rv_I0) ev_c (rv_I ?_)) ?_) fun H4 e4 => ?_
      · omega
      · have : (2 : Int) ^ 64 = 18446744073709551616 := by decide
        omega
      · decide
      · refine congrArg V.int ?_
        show (((wsum 1 ((tl z).take i) % prime : Nat) : Int) + ((i : Int) + 1) * ((c : Nat) : Int)) % 1000000007 = _
        rw [wsum_turn hc', ← sum_step]
        push_cast
        rfl
      · exact ⟨_, _, rfl, (e2.trans (Ex.new hn)).trans e4⟩
    · obtain ⟨y2, y3, rfl, e2⟩ := hP
      refine s_ret (v := .int (sumP (tl z) : Nat)) (ev_is (ev_var rfl) ?_) fun H3 e3 => q H3 (e2.trans e3)
      have e : (tl z).take z.cps.size = tl z := List.take_of_length_le (by rw [← len_tl]; exact Nat.le_refl _)
      rw [e]
      rfl
end
end K93

set_option Elab.async false
set_option linter.all false
set_option maxRecDepth 100000
set_option maxHeartbeats 4000000
namespace K93
open PySem PySem.Spec PyProof.Rows L2 TL Rx Mx Evl Ey
theorem spl_miss10 {acc r : List Nat} {c : Nat} (h : c ≠ 10) : spl [10] 0 acc (c :: r) = spl [10] 0 (acc ++ [c]) r := spl_miss (by
  show ([c] == [10]) = false
  simpa using h)
theorem spl_hit10 {acc r : List Nat} : spl [10] 0 acc (10 :: r) = acc :: spl [10] 0 [] r := spl_hit (by rfl)
theorem spl_all : ∀ (l acc : List Nat), ((spl [10] 0 acc l).all fun p => p.all signOk) = (acc.all signOk && l.all lineOk)
  | [], acc => by rw [spl_nil]; simp
  | c :: r, acc => by
    by_cases h : c = 10
    · subst h
      rw [spl_hit10, List.all_cons, spl_all r []]
      simp [lineOk]
    · rw [spl_miss10 h, spl_all r, List.all_append, List.all_cons]
      have e : lineOk c = signOk c := by
        unfold lineOk
        rw [show (c == 10) = false by simpa using h, Bool.false_or]
      rw [List.all_cons (a := c) (l := r), e]
      simp [Bool.and_assoc]
theorem spl_len : ∀ (l acc : List Nat), (spl [10] 0 acc l).length ≤ l.length + 1 ∧ ∀ p ∈ spl [10] 0 acc l, p.length ≤ acc.length + l.length
  | [], acc => by rw [spl_nil]; simp
  | c :: r, acc => by
    by_cases h : c = 10
    · subst h
      rw [spl_hit10]
      obtain ⟨h1, h2⟩ := spl_len r []
      refine ⟨by simp; omega, fun p hp => ?_⟩
      rcases List.mem_cons.mp hp with e | hp
      · rw [e]; omega
      · have z := h2 p hp
        simp at z ⊢
        omega
    · rw [spl_miss10 h]
      obtain ⟨h1, h2⟩ := spl_len r (acc ++ [c])
      refine ⟨by simp; omega, fun p hp => ?_⟩
      have z := h2 p hp
      simp at z ⊢
      omega
theorem split_nl (z : Str) : (Txt.split z "\n").map tl = spl [10] 0 [] (tl z) := split_spl z "\n" (by decide) (kind_ok (by decide +kernel))
section
variable {P : Program} {w : World} {K : PySem.W.Frag} {mg : Str → Option Value} {base : Heap} {LE BS BT : Addr}
/-- whether a text may be sealed -/
def sealB (l : List Nat) : Bool := decide (l.length ≤ 1000000) && l.all lineOk
theorem sealB_iff {l : List Nat} : sealB l = true ↔ Sealable l := by
  unfold sealB Sealable
  simp
def spIsSealable (K : PySem.W.Frag) : Sp := fun vs H Q _ => (∃ z : Str, vs = [.str z] ∧ z.length ≤ 16777000 ∧ RetV (.bl (sealB (tl z))) H Q) ∨ ∃ (v : V) (t : Value), vs = [v] ∧ TyX K H v t ∧ PySem.W.kitOne K t (.type "str") = some false ∧ RetV (.bl false) H Q
abbrev N_is_sealable : List Str := ["value", "row"]
theorem sc_is_sealable : FnScope N_is_sealable ["value"] (defScope (topS 12)) := ⟨rfl, rfl, rfl, by decide +kernel, rfl, by decide +kernel, by decide +kernel⟩
theorem cl_is_sealable (T : Tx K mg LE BS BT) (a : At K mg 12 "is_sealable") (c1 : Cl P w K mg base CX0 1 "is_signs" spIsSigns) : Cl P w K mg base CX0 2 "is_sealable" (spIsSealable K) := by
  obtain ⟨tm, hm⟩ := T.most
  refine cl_mk a sc_is_sealable (fun vs H Q E h => ?_) (fun _ _ _ _ _ _ us hl => match us, hl with | [_], _ => rfl) (fun f cdv A outer s H vs Q E hr h => ?_)
  · rcases h with ⟨z, rfl, _⟩ | ⟨v, t, rfl, _⟩ <;> rfl
  · refine ⟨_, PSs.nox (pss_cons (ps_if (PW.pt (pw_or (pt_not (pt_val (pe_callB call_isX (by rfl) T.isinstance boot_isinstance (pa_cons (pv 0) (pa_cons (pe_bltn (v := .ty "str") (by rfl) T.str boot_str rfl) pa_nil)))))
        (pw_or1 (pt_cmpR op_gt (pe_callB call_len_str (by rfl) T.len PySem.boot_len (pa_cons (pv 0) pa_nil)) (pe_const (v := .int 1000000) (by rfl) ⟨_, hm, _, rfl⟩) (nomark _))))) (pss_one (ps_ret pe_bl)) pss_nil)
      (pss_one (ps_ret (pe_callB (cr_all rfl) (by rfl) T.all boot_all (pa_cons (pe_lc (own := [("row", 1)]) (g := gName 1) (tt := tYes) rfl sc_is_sealable.nd (pi_list (pe_split (pv 0) pe_str)) (blkOk_by (N := N_is_sealable) (sc := defScope (topS 12)) (by decide +kernel))
        (fun _ _ _ _ _ => pg_name (i := 1) sc_is_sealable.nd rfl (Or.inl rfl)) (fun _ _ _ _ _ => pts_nil) (fun _ _ _ _ _ => pe_cl c1 hr (by decide) (by rfl) (pa_cons (pv 1) pa_nil))) pa_nil))))), ?_⟩
    rcases h with ⟨z, rfl, hz, q⟩ | ⟨v, t, rfl, ty, hk, q⟩
    · have e0 : Ev (tVar 0) (start N_is_sealable [.str z]) H (.str z) := ev_var rfl
      refine q_when (b := decide (1000000 < (z.length : Int))) (et_is (et_or (a := !true) (et_not (et_B (ev_cb (ea_cons e0 (ea_cons ev_c ea_nil)) (rc_of fun H1 _ Q q => .inr ⟨.str z, .ty "str", _, _, true, rfl, .ty "str", .base (.str z), kit_ty (by decide +kernel), q⟩)))) fun _ =>
        et_test (ev_op (ev_cb (ea_cons e0 ea_nil) (rc_of fun H1 _ Q q => ⟨z, rfl, by rw [sizeLine_eq]; omega, q⟩)) ev_c rv_I0)) (by rw [Bool.not_true, Bool.false_or])) (fun hb H1 e1 => ?_) (fun hb H1 e1 => ?_)
      · refine s_ret (v := .bl false) ev_c fun H2 e2 => ?_
        have e : sealB (tl z) = false := by
          have z1 := of_decide_eq_true hb
          unfold sealB
          rw [decide_eq_false (by rw [← len_tl]; omega), Bool.false_and]
        rw [e] at q
        exact q H2 (e1.trans e2)
      · have hl : z.length ≤ 1000000 := by
          have z1 := of_decide_eq_false hb
          omega
        have hn : (Txt.split z "\n").length ≤ z.length + 1 := by
          rw [← List.length_map (f := tl), split_nl, len_tl]
          exact (spl_len (tl z) []).1
        have hp : ∀ y ∈ Txt.split z "\n", y.length ≤ z.length := fun y hy => by
          have z1 := (spl_len (tl z) []).2 (tl y) (by rw [← split_nl]; exact List.mem_map_of_mem hy)
          rw [len_tl, len_tl]
          simpa using z1
        refine s_ret (v := .bl (sealB (tl z))) ?_ fun H2 e2 => q H2 (e1.trans e2)
        have key : sealB (tl z) = ((Txt.split z "\n").map fun y => (tl y).all signOk).all id := by
          unfold sealB
          rw [decide_eq_true (show (tl z).length ≤ 1000000 by rw [← len_tl]; exact hl), Bool.true_and]
          have z1 := spl_all (tl z) []
          rw [← split_nl, List.all_map, List.all_nil, Bool.true_and] at z1
          rw [← z1, List.all_map]
          rfl
        rw [key]
        refine ev_cbL (el_lcN (vs := [1]) (j := 1) (xs := (Txt.split z "\n").map V.str) (fun _ => true) (fun i => .bl ((tl ((Txt.split z "\n").getD i default)).all signOk)) ?_ (by rw [List.length_map]; omega) (fun _ => rfl) (fun _ _ _ _ _ => et_yes) (fun i x H2 e2 hx _ => ?_)) fun p H2 h2 e2 => rc_of fun H3 e3 Q q => ?_
        · intro H2 e2 Q q
          exact ⟨_, rfl, ⟨_, rfl⟩, z, _, rfl, rfl, rfl, by rw [sizeLine_eq]; omega, fun p np => q p _ np (Ex.new np) upd_same⟩
        · rw [List.getElem?_map] at hx
          obtain ⟨y, hy, rfl⟩ := Option.map_eq_some_iff.mp hx
          intro H3 e3 Q q
          refine ⟨_, rfl, y, rfl, ?_, fun H4 e4 => ?_⟩
          · have := hp y (List.mem_of_getElem? hy)
            omega
          · rw [List.getD, hy] at q
            exact q H4 e4
        · rw [List.length_map, given_list (Txt.split z "\n") default fun y => .bl ((tl y).all signOk)] at h2
          exact ⟨p, _, rfl, .inl (.inl (by rw [List.map_map]; exact e3 _ _ h2)), q⟩
    · refine q_when (b := true) (et_is (et_or (a := !false) (b := true) (et_not (et_B (ev_cb (ea_cons (ev_var rfl) (ea_cons ev_c ea_nil)) fun H1 e1 Q q => .inr ⟨v, .ty "str", t, _, false, rfl, .ty "str", ?_, hk, q H1 (Ex.refl H1)⟩))) fun z => ?_) rfl) (fun hb H1 e1 => ?_) (fun hb => by cases hb)
      · exact tyX_ext e1 ty
      · cases z
      · exact s_ret (v := .bl false) ev_c fun H2 e2 => q H2 (e1.trans e2)
end
end K93

set_option Elab.async false
set_option linter.all false
set_option maxRecDepth 100000
set_option maxHeartbeats 4000000
namespace K93
open PySem PySem.Spec PyProof.Rows L2 TL Rx Mx Evl Ey
section
variable {P : Program} {w : World} {K : PySem.W.Frag} {mg : Str → Option Value} {base : Heap} {LE BS BT : Addr}
/-! ### sealed -/
/-- a value that is no text -/
def NoText (K : PySem.W.Frag) (H : Hp) (v : V) : Prop := ∃ t, TyX K H v t ∧ PySem.W.kitOne K t (.type "str") = some false
theorem NoText.ext {H H' : Hp} {v : V} (e : Ex H H') (h : NoText K H v) : NoText K H' v := let ⟨t, a, b⟩ := h; ⟨t, tyX_ext e a, b⟩
def spSealed (K : PySem.W.Frag) (BT : Addr) : Sp := fun vs H Q E => (∃ z : Str, vs = [.str z] ∧ z.length ≤ 16777000 ∧ (sealB (tl z) = true → ∀ (y : Str) (H' : Hp), tl y = sealL (tl z) → Ex H H' → Q (.str y) H') ∧ (sealB (tl z) = false → ∀ H', Ex H H' → E (.ref BT) none H')) ∨
  ∃ v, vs = [v] ∧ NoText K H v ∧ ∀ H', Ex H H' → E (.ref BT) none H'
theorem sc_sealed : FnScope ["text"] ["text"] (defScope (topS 13)) := ⟨rfl, rfl, rfl, by decide +kernel, rfl, by decide +kernel, by decide +kernel⟩
theorem log_small {n : Nat} (h : n < 1000000007) : ((n : Nat) : Int).natAbs.log2 < 1920 := by
  rw [Int.natAbs_natCast]
  by_cases h0 : n = 0
  · subst h0
    decide
  · have := (Nat.log2_lt h0 (k := 30)).mpr (by omega)
    omega
theorem ok_sealed (T : Tx K mg LE BS BT) (a : At K mg 13 "sealed") (c1 : Cl P w K mg base CX0 2 "is_sealable" (spIsSealable K)) (c2 : Cl P w K mg base CX0 1 "sum_of" spSumOf) : OkD P w K mg base (L2.CX P w) 3 13 "sealed" ["text"] (spSealed K BT) := by
  refine ok_mk a sc_sealed (fun vs H Q E h => ?_) (fun f cdv A outer s H vs Q E hr h => ?_)
  · rcases h with ⟨z, rfl, _⟩ | ⟨v, rfl, _⟩ <;> rfl
  · refine ⟨_, pss_cons (ps_if (pt_not (pt_val (pe_cl c1 hr (by decide) (by rfl) (pa_cons (pv 0) pa_nil)))) (pss_one (ps_raise rfl (takes_of rfl rfl rfl rfl) (pmk_own0 PySem.F.excBase_ValueError T.bt.x T.bt.g T.bt.k (raises_own T.bt.s T.bt.t) rfl))) pss_nil)
      (pss_one (ps_ret (pe_op op_add_str (pe_op op_add_str (pv 0) pe_str) (pe_callTy call_str_int (by rfl) T.str boot_str (pa_cons (pe_cl c2 hr (by decide) (by rfl) (pa_cons (pv 0) pa_nil)) pa_nil))))), ?_⟩
    rcases h with ⟨z, rfl, hz, q1, q2⟩ | ⟨v, rfl, nt, q⟩
    · have e0 : Ev (tVar 0) (start ["text"] [.str z]) H (.str z) := ev_var rfl
      refine q_when (b := !sealB (tl z)) (et_not (et_B (ev_callS (ea_cons e0 ea_nil) fun H1 e1 Q q E => .inl ⟨z, rfl, hz, q⟩))) (fun hb H1 e1 => ?_) (fun hb H1 e1 => ?_)
      · exact q2 (by simpa using hb) H1 e1
      · have hb' : sealB (tl z) = true := by simpa using hb
        have hl : z.length ≤ 1000000 := by
          unfold sealB at hb'
          simp at hb'
          rw [len_tl]
          exact hb'.1
        have hn : (numL (sumP (tl z))).length ≤ 10 := numL_len (by decide) (Nat.lt_trans (sumP_lt _) (by decide))
        have l5 : Str.length "\nsum " = 5 := by decide
        have el : tl (z ++ "\nsum " ++ Str.ofString (toString ((sumP (tl z) : Nat) : Int))) = sealL (tl z) := by
          rw [tl_append, tl_append, tl_num, show tl ("\nsum " : Str) = 10 :: sm from by decide]
          unfold sealL
          simp
        have l2 : (Str.ofString (toString ((sumP (tl z) : Nat) : Int))).length ≤ 10 := by rw [len_tl, tl_num]; exact hn
        refine s_ret (v := .str (z ++ "\nsum " ++ Str.ofString (toString ((sumP (tl z) : Nat) : Int)))) (ev_op (ev_op (e0.mono e1) ev_c (rv_of fun _ _ Q q => ⟨_, _, rfl, rfl, by rw [l5, sizeLine_eq]; omega, q⟩)) (ev_cb (ea_cons (ev_callS (z := .int (sumP (tl z) : Nat)) (ea_cons (e0.mono e1) ea_nil) fun H2 e2 Q q E => ⟨z, rfl, by omega, q⟩) ea_nil) (rc_of fun _ _ Q q => ⟨_, rfl, log_small (sumP_lt _), q⟩))
          (rv_of fun _ _ Q q => ⟨_, _, rfl, rfl, ?_, q⟩)) fun H2 e2 => q1 hb' _ _ el (e1.trans e2)
        have l3 : (z ++ "\nsum ").length = z.length + 5 := by rw [len_tl, tl_append, List.length_append, ← len_tl, ← len_tl, l5]
        rw [l3, sizeLine_eq]
        omega
    · obtain ⟨t, ty, hk⟩ := nt
      refine q_when (b := true) (et_is (et_not (et_B (b := false) (ev_callS (ea_cons (ev_var rfl) ea_nil) fun H1 e1 Q q E => .inr ⟨v, t, rfl, tyX_ext e1 ty, hk, q⟩))) rfl) (fun hb H1 e1 => q H1 e1) (fun hb => by cases hb)
theorem cl_sealed (o : OkD P w K mg base (L2.CX P w) 3 13 "sealed" ["text"] (spSealed K BT)) : Cl P w K mg base (L2.CX P w) 3 "sealed" (spSealed K BT) := cl_ok o (fun _ _ _ _ _ _ us hl => match us, hl with | [_], _ => rfl)
end
end K93

set_option Elab.async false
set_option linter.all false
set_option maxRecDepth 100000
set_option maxHeartbeats 4000000
namespace K93
open PySem PySem.Spec PyProof.Rows L2 TL Rx Mx Evl Ey
section
variable {P : Program} {w : World} {K : PySem.W.Frag} {mg : Str → Option Value} {base : Heap} {LE BS BT : Addr}
/-! ### told_number -/
def digOk (c : Nat) : Bool := decide (48 ≤ c) && decide (c ≤ 57)
theorem fold_lt : ∀ (l : List Nat) (a : Nat), NumText.AllDigits l → l.foldl (fun acc c => acc * 10 + (c - 48)) a < (a + 1) * 10 ^ l.length
  | [], a, _ => by simp
  | c :: r, a, h => by
    have h1 := fold_lt r (a * 10 + (c - 48)) h.tail
    have h2 := h.head
    have h3 : (a * 10 + (c - 48) + 1) * 10 ^ r.length ≤ ((a + 1) * 10) * 10 ^ r.length := Nat.mul_le_mul_right _ (by omega)
    rw [List.foldl_cons, List.length_cons, Nat.pow_succ, Nat.mul_comm (10 ^ r.length) 10, ← Nat.mul_assoc]
    omega
theorem digits_lt {l : List Nat} (h : NumText.AllDigits l) : NumText.digitsVal l < 10 ^ l.length := by
  have := fold_lt l 0 h
  rw [Nat.zero_add, Nat.one_mul] at this
  exact this
/-- the number that figures tell -/
def toldN (l : List Nat) : Option Nat := if l = [] ∨ 10 < l.length ∨ l.all digOk = false then none else if l = numL (NumText.digitsVal l) then some (NumText.digitsVal l) else none
def toldV (l : List Nat) : V := match toldN l with
  | some n => .int (n : Nat)
  | none => .non
theorem digOk_all {l : List Nat} : l.all digOk = true ↔ NumText.AllDigits l := by
  unfold digOk NumText.AllDigits
  simp
theorem toldN_num {n : Nat} (h : n < 1000000007) : toldN (numL n) = some n := by
  unfold toldN
  have h1 : (numL n).length ≤ 10 := numL_len (by decide) (Nat.lt_trans h (by decide))
  rw [if_neg, numL_val, if_pos rfl]
  intro z
  rcases z with z | z | z
  · exact numL_ne n z
  · omega
  · rw [digOk_all.mpr (numL_digits n)] at z
    cases z
theorem toldN_inv {l : List Nat} {n : Nat} (h : toldN l = some n) : l = numL n := by
  unfold toldN at h
  split at h
  · cases h
  · split at h
    · rename_i e
      cases h
      exact e
    · cases h
theorem toldV_iff {l : List Nat} {n : Nat} (h : n < 1000000007) : toldV l = .int (n : Nat) ↔ l = numL n := by
  refine ⟨fun e => ?_, fun e => ?_⟩
  · unfold toldV at e
    cases q : toldN l with
    | none => rw [q] at e; cases e
    | some m =>
      rw [q] at e
      injection e with e1
      have e2 : m = n := by omega
      rw [← e2]
      exact toldN_inv q
  · unfold toldV
    rw [e, toldN_num h]
def spTold : Sp := fun vs H Q _ => ∃ z : Str, vs = [.str z] ∧ z.length ≤ 16777000 ∧ RetV (toldV (tl z)) H Q
abbrev N_told : List Str := ["text", "sign"]
theorem sc_told : FnScope N_told ["text"] (defScope (topS 14)) := ⟨rfl, rfl, rfl, by decide +kernel, rfl, by decide +kernel, by decide +kernel⟩
theorem figs_in (c : Nat) : decide (c ∈ ("0123456789" : Str).cps.toList) = digOk c := by
  rw [show ("0123456789" : Str).cps.toList = [48, 49, 50, 51, 52, 53, 54, 55, 56, 57] from by decide +kernel]
  unfold digOk
  rw [Bool.eq_iff_iff]
  simp
  omega
theorem str_eq_tl {x y : Str} : decide (V.str x = V.str y) = decide (tl x = tl y) := by
  by_cases h : x = y
  · rw [h, decide_eq_true rfl, decide_eq_true rfl]
  · rw [decide_eq_false (fun z => h (V.str.inj z)), decide_eq_false (fun z => h (ext_tl z))]
theorem cl_told (T : Tx K mg LE BS BT) (a : At K mg 14 "told_number") : Cl P w K mg base CX0 1 "told_number" spTold := by
  obtain ⟨tm, hm⟩ := T.mostS
  obtain ⟨tf, hf⟩ := T.figs
  refine cl_mk a sc_told (fun vs H Q E h => ?_) (fun _ _ _ _ _ _ us hl => match us, hl with | [_], _ => rfl) (fun f cdv A outer s H vs Q E hr h => ?_)
  · obtain ⟨z, rfl, _⟩ := h
    rfl
  · obtain ⟨z, rfl, hz, q⟩ := h
    refine ⟨_, PSs.nox (pss_cons (ps_if (PW.pt (pw_or (pt_cmpR op_eq (pv 0) pe_str (nomark _)) (pw_or (pt_cmpR op_gt (pe_callB call_len_str (by rfl) T.len PySem.boot_len (pa_cons (pv 0) pa_nil)) (pe_const (v := .int 10) (by rfl) ⟨_, hm, _, rfl⟩) (nomark _))
        (pw_or1 (pt_not (pt_val (pe_callB (cr_all rfl) (by rfl) T.all boot_all (pa_cons (pe_lc (own := [("sign", 1)]) (g := gName 1) (tt := tYes) rfl sc_told.nd (pi_str (pv 0)) (blkOk_by (N := N_told) (sc := defScope (topS 14)) (by decide +kernel))
          (fun _ _ _ _ _ => pg_name (i := 1) sc_told.nd rfl (Or.inl rfl)) (fun _ _ _ _ _ => pts_nil) (fun _ _ _ _ _ => pe_cmpR op_in_sign (pv 1) (pe_const (v := .str "0123456789") (by rfl) ⟨_, hf, _, rfl⟩) (by rfl))) pa_nil))))))))
        (pss_one (ps_ret pe_non)) pss_nil)
      (pss_one (ps_ret (pe_ifExp (pt_cmpR op_eq (pv 0) (pe_callTy call_str_int (by rfl) T.str boot_str (pa_cons (pe_callTy call_int_str (by rfl) T.int boot_int (pa_cons (pv 0) pa_nil)) pa_nil)) (nomark _)) (pe_callTy call_int_str (by rfl) T.int boot_int (pa_cons (pv 0) pa_nil)) pe_non)))), ?_⟩
    have e0 : Ev (tVar 0) (start N_told [.str z]) H (.str z) := ev_var rfl
    refine q_when (b := decide (tl z = []) || (decide (10 < (z.length : Int)) || !(tl z).all digOk)) (et_or (et_is (et_test (ev_op e0 ev_c (rv_eq rfl))) ?_) fun _ => et_or (et_test (ev_op (ev_cb (ea_cons e0 ea_nil) (rc_of fun _ _ Q q => ⟨z, rfl, by rw [sizeLine_eq]; omega, q⟩)) ev_c rv_I0)) fun _ =>
      et_not (et_B (ev_cbL (el_lcS (vs := [1]) (j := 1) (fun _ => true) (fun i => .bl (digOk ((tl z).getD i 0))) e0 (by omega) (fun _ => rfl) (fun _ _ _ _ _ => et_yes) (fun i c H2 e2 hc _ => ?_)) fun p H2 h2 e2 => rc_of fun H3 e3 Q q => ?_))) (fun hb H1 e1 => ?_) (fun hb H1 e1 => ?_)
    · exact str_eq_tl
    · refine ev_is (ev_op (z := .bl (decide (c ∈ ("0123456789" : Str).cps.toList))) (ev_var rfl) ev_c (rv_of fun _ _ Q q => ⟨c, _, rfl, rfl, q⟩)) ?_
      rw [figs_in, List.getD, hc]
      rfl
    · rw [len_tl, given_list (tl z) 0 fun c => .bl (digOk c)] at h2
      refine ⟨p, (tl z).map digOk, rfl, .inl (.inl (by rw [List.map_map]; exact e3 _ _ h2)), ?_⟩
      rw [List.all_map]
      exact q
    · refine s_ret (v := .non) ev_c fun H2 e2 => ?_
      have e : toldV (tl z) = .non := by
        unfold toldV toldN
        rw [if_pos]
        rw [len_tl] at hb
        simp only [Bool.or_eq_true, decide_eq_true_eq, Bool.not_eq_true'] at hb
        rcases hb with h | h | h
        · exact .inl h
        · exact .inr (.inl (by omega))
        · exact .inr (.inr h)
      rw [e] at q
      exact q H2 (e1.trans e2)
    · simp only [Bool.or_eq_false_iff, decide_eq_false_iff_not, Bool.not_eq_false'] at hb
      obtain ⟨h1, h2, h3⟩ := hb
      have hd := digOk_all.mp h3
      have hi : intText? z = some ((NumText.digitsVal (tl z) : Nat) : Int) := PySem.intText_digits hd h1 (by omega)
      have hv : NumText.digitsVal (tl z) < 10 ^ 10 := Nat.lt_of_lt_of_le (digits_lt hd) (Nat.pow_le_pow_right (by decide) (by rw [← len_tl]; omega))
      have eI : Ev (tCB (fun xs H Q => ∃ a n, xs = [V.str a] ∧ intText? a = some n ∧ a.length ≤ 640 ∧ Q (V.int n) H) (tCons (tVar 0) tNil)) (start N_told [.str z]) H1 (.int (NumText.digitsVal (tl z) : Nat)) := ev_cb (ea_cons (e0.mono e1) ea_nil) (rc_of fun _ _ Q q => ⟨z, _, rfl, hi, by omega, q⟩)
      refine s_ret (v := toldV (tl z)) (ev_if (b := decide (tl z = numL (NumText.digitsVal (tl z)))) (et_is (et_test (ev_op (e0.mono e1) (ev_cb (ea_cons eI ea_nil) (rc_of fun _ _ Q q => ⟨_, rfl, ?_, q⟩)) (rv_eq rfl))) ?_) (fun hq => ?_) (fun hq => ?_)) fun H2 e2 => q H2 (e1.trans e2)
      · rw [Int.natAbs_natCast]
        by_cases h0 : NumText.digitsVal (tl z) = 0
        · rw [h0]; decide
        · have := (Nat.log2_lt h0 (k := 40)).mpr (Nat.lt_trans hv (by decide))
          omega
      · rw [str_eq_tl, tl_num]
      · refine ev_is eI ?_
        have hq' := of_decide_eq_true hq
        unfold toldV toldN
        rw [if_neg (by rw [h3, ← len_tl]; simp [h1]; omega), if_pos hq']
      · refine ev_is ev_c ?_
        have hq' := of_decide_eq_false hq
        unfold toldV toldN
        rw [if_neg (by rw [h3, ← len_tl]; simp [h1]; omega), if_neg hq']
end
end K93

set_option Elab.async false
set_option linter.all false
set_option maxRecDepth 100000
set_option maxHeartbeats 4000000
namespace K93
open PySem PySem.Spec PyProof.Rows L2 TL Rx Mx Evl Ey
/-- the text that was sealed, if one was -/
theorem seal_parts {l B T : List Nat} (e : l = B ++ 10 :: T) (n : 10 ∉ T) : (∃ C, Sealable C ∧ l = sealL C) ↔ (sealB B = true ∧ T.take 4 = sm ∧ toldV (T.drop 4) = .int (sumP B : Nat)) := by
  refine ⟨fun ⟨C, h1, h2⟩ => ?_, fun ⟨h1, h2, h3⟩ => ⟨B, sealB_iff.mp h1, ?_⟩⟩
  · rw [e] at h2
    obtain ⟨e1, e2⟩ := split_last h2 n (no10 _)
    subst e1
    refine ⟨sealB_iff.mpr h1, by rw [e2]; rfl, (toldV_iff (sumP_lt _)).mpr ?_⟩
    rw [e2]
    rfl
  · have h4 := (toldV_iff (sumP_lt _)).mp h3
    rw [e]
    unfold sealL
    rw [← h4, ← h2, List.take_append_drop]
theorem seal_inj {B C : List Nat} (h : sealL B = sealL C) : B = C := (split_last h (no10 _) (no10 _)).1
section
variable {P : Program} {w : World} {K : PySem.W.Frag} {mg : Str → Option Value} {base : Heap} {LE BS BT : Addr}
/-! ### unsealed -/
def spUnsealed (K : PySem.W.Frag) (BS : Addr) : Sp := fun vs H Q E => (∃ z : Str, vs = [.str z] ∧ z.length ≤ 16777000 ∧ (∀ (y : Str) (H' : Hp), Sealable (tl y) → tl z = sealL (tl y) → Ex H H' → Q (.str y) H') ∧ ((¬ ∃ C, Sealable C ∧ tl z = sealL C) → ∀ H', Ex H H' → E (.ref BS) none H')) ∨
  ∃ v, vs = [v] ∧ NoText K H v ∧ ∀ H', Ex H H' → E (.ref BS) none H'
abbrev N_uns : List Str := ["text", "cut", "body", "last"]
theorem sc_uns : FnScope N_uns ["text"] (defScope (topS 15)) := ⟨rfl, rfl, rfl, by decide +kernel, rfl, by decide +kernel, by decide +kernel⟩
theorem ok_unsealed (T : Tx K mg LE BS BT) (a : At K mg 15 "unsealed") (c1 : Cl P w K mg base CX0 2 "is_sealable" (spIsSealable K)) (c2 : Cl P w K mg base CX0 1 "sum_of" spSumOf) (c3 : Cl P w K mg base CX0 1 "told_number" spTold) :
    OkD P w K mg base (L2.CX P w) 3 15 "unsealed" ["text"] (spUnsealed K BS) := by
  refine ok_mk a sc_uns (fun vs H Q E h => ?_) (fun f cdv A outer s H vs Q E hr h => ?_)
  · rcases h with ⟨z, rfl, _⟩ | ⟨v, rfl, _⟩ <;> rfl
  · refine ⟨_, pss_cons (ps_if (PW.pt (pw_or (pt_not (pt_val (pe_callB call_isX (by rfl) T.isinstance boot_isinstance (pa_cons (pv 0) (pa_cons (pe_bltn (v := .ty "str") (by rfl) T.str boot_str rfl) pa_nil)))))
        (pw_or1 (pt_cmpR op_notIn_sign pe_str (pv 0) (by rfl))))) (pss_one (ps_raise rfl (takes_of rfl rfl rfl rfl) (pmk_own0 PySem.F.excBase_ValueError T.bs.x T.bs.g T.bs.k (raises_own T.bs.s T.bs.t) rfl))) pss_nil)
      (pss_cons (ps_set (i := 1) sc_uns.nd rfl (.inl rfl) (pe_op op_sub (pe_op op_sub (pe_callB call_len_str (by rfl) T.len PySem.boot_len (pa_cons (pv 0) pa_nil)) pe_int)
          (pe_bmS PySem.F.plainAttrs_str PySem.F.slot_str_index PySem.F.type_str_index (mt_indexX rfl (takes_of rfl rfl rfl rfl)) (pe_revS (pv 0)) (pa_cons pe_str pa_nil))))
      (pss_cons (ps_par (i := 2) (j := 3) (by rfl) sc_uns.nd rfl rfl (by decide) rfl rfl (pa_cons (pe_slice sl_str (pv 0) po_none (po_some (pv 1))) (pa_cons (pe_slice sl_str (pv 0) (po_some (pe_op op_add (pv 1) pe_int)) po_none) pa_nil)) (by rfl))
      (pss_cons (ps_if (PW.pt (pw_or (pt_not (pt_val (pe_cl c1 hr (by decide) (by rfl) (pa_cons (pv 2) pa_nil)))) (pw_or (pt_cmpR op_ne (pe_slice sl_str (pv 3) po_none (po_some pe_int)) pe_str (nomark _))
        (pw_or1 (pt_cmpR op_ne (pe_cl c3 hr (by decide) (by rfl) (pa_cons (pe_slice sl_str (pv 3) (po_some pe_int) po_none) pa_nil)) (pe_cl c2 hr (by decide) (by rfl) (pa_cons (pv 2) pa_nil)) (nomark _)))))) (pss_one (ps_raise rfl (takes_of rfl rfl rfl rfl) (pmk_own0 PySem.F.excBase_ValueError T.bs.x T.bs.g T.bs.k (raises_own T.bs.s T.bs.t) rfl))) pss_nil)
      (pss_one (ps_ret (pv 2)))))), ?_⟩
    rcases h with ⟨z, rfl, hz, q1, q2⟩ | ⟨v, rfl, nt, q⟩
    · have e0 : Ev (tVar 0) (start N_uns [.str z]) H (.str z) := ev_var rfl
      refine q_when (b := !decide (10 ∈ tl z)) (et_is (et_or (a := !true) (et_not (et_B (ev_cb (ea_cons e0 (ea_cons ev_c ea_nil)) (rc_of fun H1 _ Q q => .inr ⟨.str z, .ty "str", _, _, true, rfl, .ty "str", .base (.str z), kit_ty (by decide +kernel), q⟩)))) fun _ =>
        et_test (ev_op (z := .bl (!decide (10 ∈ tl z))) ev_c e0 (rv_of fun _ _ Q q => ⟨10, z, by decide +kernel, rfl, q⟩))) (by rw [Bool.not_true, Bool.false_or])) (fun hb H1 e1 => ?_) (fun hb H1 e1 => ?_)
      · refine q2 (fun ⟨C, _, e⟩ => ?_) H1 e1
        have hb' : 10 ∉ tl z := by simpa using hb
        exact hb' (by rw [e]; unfold sealL; simp)
      · have hb' : 10 ∈ tl z := by simpa using hb
        obtain ⟨B, R, e, n⟩ := last_end hb'
        have hlen : z.length = B.length + (R.length + 1) := by rw [len_tl, e, List.length_append, List.length_cons]
        -- cut
        refine q_asg (v := .int (B.length : Nat)) (ev_is (ev_op (x := .int ((z.length : Int) - 1)) (y := .int (R.length : Nat)) (ev_op (ev_cb (ea_cons (e0.mono e1) ea_nil) (rc_of fun _ _ Q q => ⟨z, rfl, by rw [sizeLine_eq]; omega, q⟩)) ev_c rv_I0) (fun H2 e2 Q q => ?_) rv_I0) ?_) fun H2 e2 => ?_
        · refine ⟨_, rfl, z, rfl, by rw [sizeLine_eq]; omega, fun y hy => ⟨rfl, y, "\n", rfl, rfl, ?_⟩⟩
          have ey : tl y = R.reverse ++ 10 :: B.reverse := by rw [hy, e]; simp
          have hi : Txt.index0 y "\n" = some R.length := by
            rw [show ("\n" : Str) = ⟨#[10]⟩ from by decide +kernel]
            refine index_one y 10 R.length ?_ fun j hj hz => ?_
            · rw [ey, List.getElem?_append_right (by rw [List.length_reverse]; exact Nat.le_refl _), List.length_reverse, Nat.sub_self]
              rfl
            · rw [ey, List.getElem?_append_left (by rw [List.length_reverse]; exact hj)] at hz
              exact n (List.mem_reverse.mp (List.mem_of_getElem? hz))
          refine ⟨fun k hk => ?_, fun hk => ?_⟩
          · rw [hi] at hk
            cases hk
            exact q H2 (Ex.refl _)
          · rw [hi] at hk
            cases hk
        · refine congrArg V.int ?_
          omega
        · have e02 : Ev (tVar 0) [some (.str z), some (.int (B.length : Nat)), none, none] H2 (.str z) := ev_var rfl
          have eb : tl (cutS z none (some ((B.length : Nat) : Int))) = B := by rw [tl_cutTo, e, List.take_append_of_le_length (Nat.le_refl _), List.take_length]
          have er : tl (cutS z (some (((B.length + 1 : Nat)) : Int)) none) = R := by rw [tl_cutFrom, e, List.drop_append]; simp
          refine q_par (x := .str (cutS z none (some ((B.length : Nat) : Int)))) (y := .str (cutS z (some (((B.length + 1 : Nat)) : Int)) none)) (ea_cons (ev_slS e02 eo_none (eo_some (ev_var rfl)) (by omega)) (ea_cons (ev_slS e02 (eo_some (ev_is (ev_op (ev_var rfl) ev_c rv_I0) ?_)) eo_none (by omega)) ea_nil)) fun H3 e3 => ?_
          · rfl
          · generalize cutS z none (some ((B.length : Nat) : Int)) = yb at eb ⊢
            generalize cutS z (some (((B.length + 1 : Nat)) : Int)) none = yr at er ⊢
            have lb : yb.length ≤ 16777000 := by rw [len_tl, eb]; omega
            have lr : yr.length ≤ 16777000 := by rw [len_tl, er]; omega
            have h2 : Ev (tVar 2) [some (.str z), some (.int (B.length : Nat)), some (.str yb), some (.str yr)] H3 (.str yb) := ev_var rfl
            have h3 : Ev (tVar 3) [some (.str z), some (.int (B.length : Nat)), some (.str yb), some (.str yr)] H3 (.str yr) := ev_var rfl
            refine q_when (b := !sealB B || (!decide (R.take 4 = sm) || !decide (toldV (R.drop 4) = .int (sumP B : Nat)))) (et_or (et_not (et_B (ev_callS (ea_cons h2 ea_nil) fun H4 e4 Q q E => .inl ⟨yb, rfl, lb, by rw [eb]; exact q⟩))) fun _ =>
              et_or (et_is (et_test (ev_op (ev_slS h3 eo_none (eo_some ev_c) (by omega)) ev_c (rv_ne rfl))) ?_) fun _ => et_is (et_test (ev_op (x := toldV (R.drop 4)) (y := .int (sumP B : Nat)) (ev_callS (ea_cons (ev_slS h3 (eo_some ev_c) eo_none (by omega)) ea_nil) fun H4 e4 Q q E => ⟨_, rfl, ?_, ?_⟩) (ev_callS (ea_cons h2 ea_nil) fun H4 e4 Q q E => ⟨yb, rfl, by omega, by rw [eb]; exact q⟩) (rv_ne ?_))) rfl) (fun hb H4 e4 => ?_) (fun hb H4 e4 => ?_)
            · rw [str_eq_tl, show (4 : Int) = ((4 : Nat) : Int) from rfl, tl_cutTo, er, show tl ("sum " : Str) = sm from by decide +kernel]
            · exact Nat.le_trans (cutS_length yr _ _) lr
            · rw [show (4 : Int) = ((4 : Nat) : Int) from rfl, tl_cutFrom, er]
              exact q
            · unfold toldV
              cases toldN (R.drop 4) <;> rfl
            · refine q2 (fun hC => ?_) H4 (((e1.trans e2).trans e3).trans e4)
              obtain ⟨c1, c2, c3⟩ := (seal_parts e n).mp hC
              rw [c1, decide_eq_true c2, decide_eq_true c3] at hb
              cases hb
            · have hb2 : sealB B = true ∧ R.take 4 = sm ∧ toldV (R.drop 4) = .int (sumP B : Nat) := by simpa using hb
              obtain ⟨C, hC, e5⟩ := (seal_parts e n).mpr hb2
              have e6 : C = B := by
                rw [e] at e5
                exact ((split_last e5 n (no10 _)).1).symm
              subst e6
              refine s_ret (v := .str yb) (ev_var rfl) fun H5 e7 => q1 yb H5 (by rw [eb]; exact hC) (by rw [eb]; exact e5) ((((e1.trans e2).trans e3).trans e4).trans e7)
    · obtain ⟨t, ty, hk⟩ := nt
      refine q_when (b := true) (et_is (et_or (a := !false) (b := true) (et_not (et_B (ev_cb (ea_cons (ev_var rfl) (ea_cons ev_c ea_nil)) fun H1 e1 Q q => .inr ⟨v, .ty "str", t, _, false, rfl, .ty "str", tyX_ext e1 ty, hk, q H1 (Ex.refl H1)⟩))) fun z => by cases z) rfl) (fun hb H1 e1 => q H1 e1) (fun hb => by cases hb)
theorem cl_unsealed (o : OkD P w K mg base (L2.CX P w) 3 15 "unsealed" ["text"] (spUnsealed K BS)) : Cl P w K mg base (L2.CX P w) 3 "unsealed" (spUnsealed K BS) := cl_ok o (fun _ _ _ _ _ _ us hl => match us, hl with | [_], _ => rfl)
end
end K93

set_option Elab.async false
set_option linter.all false
set_option maxRecDepth 100000
set_option maxHeartbeats 4000000
namespace K93
open PySem PySem.Spec PyProof.Rows L2 TL Rx Mx Evl Ey
/-! ### the source of draws -/
def stK (g c : Addr) (left turn : Int) : List (Key × V) := [(Sum.inr "great", .ref g), (Sum.inr "cells", .ref c), (Sum.inr "left", .int left), (Sum.inr "turn", .int turn)]
theorem nk_gc : ¬ (Sum.inr "great" : Key) = (Sum.inr "cells" : Key) := by decide +kernel
theorem nk_gl : ¬ (Sum.inr "great" : Key) = (Sum.inr "left" : Key) := by decide +kernel
theorem nk_gt : ¬ (Sum.inr "great" : Key) = (Sum.inr "turn" : Key) := by decide +kernel
theorem nk_cl : ¬ (Sum.inr "cells" : Key) = (Sum.inr "left" : Key) := by decide +kernel
theorem nk_ct : ¬ (Sum.inr "cells" : Key) = (Sum.inr "turn" : Key) := by decide +kernel
theorem nk_lt : ¬ (Sum.inr "left" : Key) = (Sum.inr "turn" : Key) := by decide +kernel
theorem val_great (g c : Addr) (l t : Int) : valV (stK g c l t) (Sum.inr "great") = some (.ref g) := valV_pos rfl
theorem val_cells (g c : Addr) (l t : Int) : valV (stK g c l t) (Sum.inr "cells") = some (.ref c) := (valV_neg nk_gc).trans (valV_pos rfl)
theorem val_left (g c : Addr) (l t : Int) : valV (stK g c l t) (Sum.inr "left") = some (.int l) := (valV_neg nk_gl).trans ((valV_neg nk_cl).trans (valV_pos rfl))
theorem val_turn (g c : Addr) (l t : Int) : valV (stK g c l t) (Sum.inr "turn") = some (.int t) := (valV_neg nk_gt).trans ((valV_neg nk_ct).trans ((valV_neg nk_lt).trans (valV_pos rfl)))
theorem ne_gl : (("great" : Str) = "left") = False := by decide +kernel
theorem ne_cl : (("cells" : Str) = "left") = False := by decide +kernel
theorem ne_tl : (("turn" : Str) = "left") = False := by decide +kernel
theorem ne_gt : (("great" : Str) = "turn") = False := by decide +kernel
theorem ne_ct : (("cells" : Str) = "turn") = False := by decide +kernel
theorem ne_lt : (("left" : Str) = "turn") = False := by decide +kernel
theorem put_left (g c : Addr) (l t l' : Int) : putK (stK g c l t) (Sum.inr "left") (.int l') = stK g c l' t := by
  simp [putK, stK, ne_gl, ne_cl, ne_tl]
theorem put_turn (g c : Addr) (l t t' : Int) : putK (stK g c l t) (Sum.inr "turn") (.int t') = stK g c l t' := by
  simp [putK, stK, ne_gt, ne_ct, ne_lt]
/-- the source stands at d, its great numbers at g, its cells at c; at most t turns were taken -/
def StAt (H : Hp) (d g c : Addr) (t : Nat) : Prop := ∃ (gs cs : List Int) (left turn : Int), H d = some (.dK (stK g c left turn)) ∧ H g = some (.lst (gs.map V.int)) ∧ H c = some (.lst (cs.map V.int)) ∧ g ≠ c ∧ 0 ≤ turn ∧ turn ≤ t ∧ gs.length ≤ 63 ∧ cs.length ≤ 63
/-- all but the source stays -/
def Kp (d g : Addr) (H H' : Hp) : Prop := ∀ b o, b ≠ d → b ≠ g → H b = some o → H' b = some o
theorem Kp.refl (d g : Addr) (H : Hp) : Kp d g H H := fun _ _ _ _ h => h
theorem Kp.trans {d g : Addr} {H H1 H2 : Hp} (a : Kp d g H H1) (b : Kp d g H1 H2) : Kp d g H H2 := fun x o h1 h2 h => b x o h1 h2 (a x o h1 h2 h)
theorem Kp.of {d g : Addr} {H H' : Hp} (e : Ex H H') : Kp d g H H' := fun x o _ _ h => e x o h
theorem StAt.ext {H H' : Hp} {d g c : Addr} {t t' : Nat} (e : Ex H H') (ht : t ≤ t') (h : StAt H d g c t) : StAt H' d g c t' := by
  obtain ⟨gs, cs, l, u, h1, h2, h3, h4, h5, h6, h7, h8⟩ := h
  exact ⟨gs, cs, l, u, e _ _ h1, e _ _ h2, e _ _ h3, h4, h5, by omega, h7, h8⟩
section
variable {σ : L2.St} {H : Hp} {to ty tv : TE} {D : Ends} {tz : TS}
theorem ev_get {d : Addr} {kvs : List (Key × V)} {k : Key} {v : V} (hd : H d = some (.dK kvs)) (ho : Ev to σ H (.ref d)) (hk : Ev ty σ H (kV k)) (hv : valV kvs k = some v) : Ev (tDGet to ty) σ H v := fun H1 e Q q =>
  ho H1 e _ fun H2 e2 => hk H2 (e.trans e2) _ fun H3 e3 => ⟨d, v, rfl, by rw [← hv]; exact .k (((e.trans e2).trans e3) _ _ hd), q H3 (e2.trans e3)⟩
theorem q_dput {d : Addr} {kvs : List (Key × V)} {k : Key} {v : V} (hd : H d = some (.dK kvs)) (hl : kvs.length < 1000) (hv : Ev tv σ H v) (ho : Ev to σ H (.ref d)) (hk : Ev ty σ H (kV k)) (q : ∀ H1, Ex H H1 → tz D σ (upd H1 d (.dK (putK kvs k v)))) : tSeq (sDPut to ty tv) tz D σ H :=
  hv H (Ex.refl H) _ fun H1 e1 => ho H1 e1 _ fun H2 e2 => hk H2 (e1.trans e2) _ fun H3 e3 => ⟨d, _, rfl, .k (((e1.trans e2).trans e3) _ _ hd) (by rw [sizeLine_eq]; omega), q H3 ((e1.trans e2).trans e3)⟩
end
section
variable {P : Program} {w : World} {K : PySem.W.Frag} {mg : Str → Option Value} {base : Heap} {LE BS BT : Addr}
/-! ### _law_blended -/
def spBlended : Sp := fun vs H Q _ => ∃ (d g c : Addr) (t : Nat), vs = [.ref d] ∧ StAt H d g c t ∧ t < 1099511627776 ∧ ∀ (r : Int) (H' : Hp), (∀ b o, b ≠ d → H b = some o → H' b = some o) → StAt H' d g c (t + 1) → Q (.int r) H'
abbrev N_bl : List Str := ["state", "turn", "found", "prime", "blend", "cell"]
theorem sc_bl : FnScope N_bl ["state"] (defScope (topS 18)) := ⟨rfl, rfl, rfl, by decide +kernel, rfl, by decide +kernel, by decide +kernel⟩
theorem cl_blended (T : Tx K mg LE BS BT) (a : At K mg 18 "_law_blended") : Cl P w K mg base CX0 1 "_law_blended" spBlended := by
  refine cl_mk a sc_bl (fun vs H Q E h => ?_) (fun _ _ _ _ _ _ us hl => match us, hl with | [_], _ => rfl) (fun f cdv A outer s H vs Q E hr h => ?_)
  · obtain ⟨d, g, c, t, rfl, _⟩ := h
    rfl
  · obtain ⟨d, g, c, t, rfl, ⟨gs, cs, left, turn, h1, h2, h3, h4, h5, h6, h7, h8⟩, ht, q⟩ := h
    have hu := hu_of hr
    refine ⟨_, PSs.nox (pss_cons (ps_par (i := 1) (j := 2) (by rfl) sc_bl.nd rfl rfl (by decide) rfl rfl (pa_cons (pe_op op_add (pe_dget hu (pv 0) pe_str (fun _ _ => rfl)) pe_int) (pa_cons pe_int pa_nil)) (by rfl))
      (pss_cons (ps_dput hu (pv 0) pe_str (pv 1) rfl)
      (pss_cons (ps_for PassesOwn.never rfl (pi_list (pe_lst (pa_cons pe_int (pa_cons pe_int (pa_cons pe_int pa_nil))))) (pg_name (i := 3) sc_bl.nd rfl (.inl rfl))
        (pss_cons (ps_set (i := 4) sc_bl.nd rfl (.inl rfl) (pe_op op_add (pe_op op_mul pe_int (pv 1)) (pe_op op_fdivN (pv 3) pe_int)))
        (pss_cons (ps_for PassesOwn.never rfl (pi_list (pe_dget hu (pv 0) pe_str (fun _ _ => rfl))) (pg_name (i := 5) sc_bl.nd rfl (.inl rfl))
          (pss_one (ps_set (i := 4) sc_bl.nd rfl (.inl rfl) (pe_op op_mod (pe_callTy call_int1 (by rfl) T.int boot_int (pa_cons (pe_op op_add (pe_op op_add (pe_op op_mul (pv 4) pe_int) (pv 5)) (pv 1)) pa_nil)) (pv 3)))))
        (pss_one (ps_set (i := 2) sc_bl.nd rfl (.inl rfl) (pe_op op_add (pe_op op_mul (pv 2) pe_int) (pe_op op_mod (pe_callTy call_int1 (by rfl) T.int boot_int (pa_cons (pe_op op_pow (pv 4) pe_int) pa_nil)) (pv 3))))))))
      (pss_one (ps_ret (pv 2)))))), ?_⟩
    have e0 : Ev (tVar 0) (start N_bl [.ref d]) H (.ref d) := ev_var rfl
    refine q_par (ea_cons (ev_op (ev_get (k := Sum.inr "turn") h1 e0 ev_c (val_turn _ _ _ _)) ev_c rv_I0) (ea_cons ev_c ea_nil)) fun H1 e1 => ?_
    refine q_dput (k := Sum.inr "turn") (e1 _ _ h1) (show 4 < 1000 by decide) (ev_var rfl) (ev_var rfl) ev_c fun H2 e2 => ?_
    rw [put_turn]
    have dc : c ≠ d := fun z => by rw [z, h1] at h3; cases h3
    have dg : g ≠ d := fun z => by rw [z, h1] at h2; cases h2
    -- what stands behind the store
    have kb : ∀ b o, b ≠ d → H b = some o → (upd H2 d (.dK (stK g c left (turn + 1)))) b = some o := fun b o hb z => by rw [upd_ne hb]; exact e2 _ _ (e1 _ _ z)
    generalize hH : upd H2 d (.dK (stK g c left (turn + 1))) = H3 at kb ⊢
    have h1' : H3 d = some (.dK (stK g c left (turn + 1))) := by rw [← hH]; exact upd_same
    have h3' : H3 c = some (.lst (cs.map V.int)) := kb _ _ dc h3
    have st3 : StAt H3 d g c (t + 1) := ⟨gs, cs, left, turn + 1, h1', kb _ _ dg h2, h3', h4, by omega, by omega, h7, h8⟩
    refine q_forNLn (j := 3) (xs := [.int 2147481529, .int 2147481509, .int 2147481499]) (el_lst (ea_cons ev_c (ea_cons ev_c (ea_cons ev_c ea_nil))) (by decide)) (fun p i σ H' => ∃ (r : Int) (y3 y4 y5 : Option V), σ = [some (.ref d), some (.int (turn + 1)), some (.int r), y3, y4, y5] ∧ Ex H3 H' ∧ H' p = some (.lst [.int 2147481529, .int 2147481509, .int 2147481499]))
      (fun p H4 hp e4 h => ⟨0, none, none, none, rfl, e4, h⟩) (fun p i σ H' _ h => by obtain ⟨_, _, _, _, _, _, h⟩ := h; exact sq_of h) (fun p i x σ H4 hx hP => ?_) (fun p σ H4 hP => ?_)
    · obtain ⟨r, y3, y4, y5, rfl, e4, hp⟩ := hP
      -- the prime
      obtain ⟨m, rfl, hm1, hm2⟩ : ∃ m : Int, x = .int m ∧ 1000000000 ≤ m ∧ m < 2147483648 := by
        have hm := List.mem_of_getElem? hx
        simp only [List.mem_cons, List.not_mem_nil, or_false] at hm
        rcases hm with rfl | rfl | rfl
        · exact ⟨_, rfl, by decide, by decide⟩
        · exact ⟨_, rfl, by decide, by decide⟩
        · exact ⟨_, rfl, by decide, by decide⟩
      have p40 : (1099511627776 : Int) = 2 ^ 40 := by decide
      have p64 : (2 : Int) ^ 64 = 18446744073709551616 := by decide
      have hb0 : (46819 * (turn + 1) + m.fdiv 89).natAbs < 2 ^ 64 ∧ 0 ≤ 46819 * (turn + 1) + m.fdiv 89 := by
        have e : m.fdiv 89 = m / 89 := Int.fdiv_eq_ediv_of_nonneg _ (by decide)
        rw [e]
        have : (2 : Nat) ^ 64 = 18446744073709551616 := by decide
        omega
      refine q_asg (v := .int (46819 * (turn + 1) + m.fdiv 89)) (ev_op (ev_op ev_c (ev_var rfl) (rv_I (.inl ⟨by decide, by decide⟩))) (ev_op (ev_var rfl) ev_c (rv_I ⟨by decide, by decide⟩)) rv_I0) fun H5 e5 => ?_
      refine q_forLn (j := 5) (a := c) (xs := cs.map V.int) (ev_get (k := Sum.inr "cells") (e5 _ _ (e4 _ _ h1')) (ev_var rfl) ev_c (val_cells _ _ _ _)) (sq_of (e5 _ _ (e4 _ _ h3'))) (fun i σ H' => ∃ (b : Int) (y5 : Option V), σ = [some (.ref d), some (.int (turn + 1)), some (.int r), some (.int m), some (.int b), y5] ∧ b.natAbs < 2 ^ 64 ∧ Ex H5 H')
        (fun H6 e6 => ⟨_, y5, rfl, hb0.1, e6⟩) (fun i σ H' _ h => by obtain ⟨_, _, _, _, e⟩ := h; exact sq_of (e _ _ (e5 _ _ (e4 _ _ h3')))) (fun i x σ H6 hx hP => ?_) (fun σ H6 hP => ?_)
      · obtain ⟨b, y5, rfl, hb, e6⟩ := hP
        rw [List.getElem?_map] at hx
        obtain ⟨cl, hcl, rfl⟩ := Option.map_eq_some_iff.mp hx
        refine s_asg (v := .int ((b * 66889 + cl + (turn + 1)) % m)) (ev_op (ev_cb (ea_cons (ev_op (ev_op (ev_op (ev_var rfl) ev_c (rv_I (.inr ⟨by decide, by decide⟩))) (ev_var rfl) rv_I0) (ev_var rfl) rv_I0) ea_nil) (rc_of fun _ _ Q q => .inl ⟨_, rfl, q⟩)) (ev_var rfl) (rv_I (by omega))) fun H7 e7 => ?_
        refine ⟨_, _, rfl, ?_, e6.trans e7⟩
        have z1 := Int.emod_nonneg (b * 66889 + cl + (turn + 1)) (show m ≠ 0 by omega)
        have z2 := Int.emod_lt_of_pos (b * 66889 + cl + (turn + 1)) (show 0 < m by omega)
        have : (2 : Nat) ^ 64 = 18446744073709551616 := by decide
        omega
      · obtain ⟨b, y5, rfl, hb, e6⟩ := hP
        refine s_asg (v := .int (r * 2147483647 + (b ^ (5 : Int).toNat) % m)) (ev_op (ev_op (ev_var rfl) ev_c (rv_I (.inr ⟨by decide, by decide⟩))) (ev_op (ev_cb (ea_cons (ev_op (ev_var rfl) ev_c (rv_I ⟨by decide, by decide, hb⟩)) ea_nil) (rc_of fun _ _ Q q => .inl ⟨_, rfl, q⟩)) (ev_var rfl) (rv_I (by omega))) rv_I0) fun H7 e7 => ?_
        exact ⟨_, _, _, _, rfl, e4.trans (e5.trans (e6.trans e7)), e7 _ _ (e6 _ _ (e5 _ _ hp))⟩
    · obtain ⟨r, y3, y4, y5, rfl, e4, hp⟩ := hP
      refine s_ret (v := .int r) (ev_var rfl) fun H5 e5 => q r H5 (fun b o hb z => e5 _ _ (e4 _ _ (kb b o hb z))) (st3.ext (e4.trans e5) (Nat.le_refl _))
end
end K93

set_option Elab.async false
set_option linter.all false
set_option maxRecDepth 100000
set_option maxHeartbeats 4000000
namespace K93
open PySem PySem.Spec PyProof.Rows L2 TL Rx Mx Evl Ey
theorem dp_ints {K : PySem.W.Frag} {H : Hp} : ∀ ns : List Int, DpAll K H (ns.map V.int) (ns.map PyData.int)
  | [] => .nil
  | n :: ns => .cons (.int n) (dp_ints ns)
theorem lay_ints : ∀ ns : List Int, PyData.canLayAll0 (ns.map PyData.int) = true
  | [] => rfl
  | n :: ns => by
    rw [List.map_cons, PyData.canLayAll0, lay_ints ns]
    rfl
theorem deep_ints : ∀ ns : List Int, PyData.depthAll (ns.map PyData.int) = 0
  | [] => rfl
  | n :: ns => by
    rw [List.map_cons, PyData.depthAll, deep_ints ns]
    rfl
theorem shaped_ints (ns : List Int) : SeqAt.shaped (.list (ns.map PyData.int)) = true := by
  unfold SeqAt.shaped
  rw [PyData.canLay0, PyData.depth, lay_ints, deep_ints]
  rfl
theorem eqv_ints_nil : ∀ ns : List Int, PyData.eqv (.list (ns.map PyData.int)) (.list []) = ns.isEmpty
  | [] => rfl
  | n :: ns => rfl
/-- not equal to a new empty list -/
theorem et_ne_nil {K : PySem.W.Frag} {σ : L2.St} {H : Hp} {te : TE} {g : Addr} {gs : List Int} (h : Ev te σ H (.ref g)) (hg : H g = some (.lst (gs.map V.int))) : EvT (tTest (tOp (rNeD K) te (tLst tNil))) σ H (!gs.isEmpty) :=
  et_test (ev_opL h (el_lst ea_nil (by decide)) fun p H1 hp e1 => rv_of fun H2 e2 Q q => ⟨_, _, .lst (sq_of (e2 _ _ (e1 _ _ hg))) (dp_ints gs), .lst (sq_of (e2 _ _ hp)) .nil, shaped_ints gs, rfl, by rw [eqv_ints_nil]; exact q⟩)
section
variable {P : Program} {w : World} {K : PySem.W.Frag} {mg : Str → Option Value} {base : Heap} {LE BS BT : Addr}
/-! ### _law_draw -/
def spDraw : Sp := fun vs H Q _ => ∃ (d g c : Addr) (t : Nat) (n : Int), vs = [.ref d, .int n] ∧ StAt H d g c t ∧ t < 1099511627776 ∧ 0 < n ∧ n < 1073741824 ∧ ∀ (r : Nat) (H' : Hp), (r : Int) < n → Kp d g H H' → StAt H' d g c (t + 1) → Q (.int (r : Nat)) H'
abbrev N_dr : List Str := ["state", "size_here", "found"]
theorem sc_dr : FnScope N_dr ["state", "size_here"] (defScope (topS 19)) := ⟨rfl, rfl, rfl, by decide +kernel, rfl, by decide +kernel, by decide +kernel⟩
theorem cl_draw (T : Tx K mg LE BS BT) (a : At K mg 19 "_law_draw") (c1 : Cl P w K mg base CX0 1 "_law_blended" spBlended) : Cl P w K mg base CX0 2 "_law_draw" spDraw := by
  refine cl_mk a sc_dr (fun vs H Q E h => ?_) (fun _ _ _ _ _ _ us hl => match us, hl with | [_, _], _ => rfl) (fun f cdv A outer s H vs Q E hr h => ?_)
  · obtain ⟨d, g, c, t, n, rfl, _⟩ := h
    rfl
  · obtain ⟨d, g, c, t, n, rfl, ⟨gs, cs, left, turn, h1, h2, h3, h4, h5, h6, h7, h8⟩, ht, hn0, hn, q⟩ := h
    have hu := hu_of hr
    refine ⟨_, PSs.nox (pss_cut (ps_if (pt_cmpR op_eq (pe_dget hu (pv 0) pe_str (fun _ _ => rfl)) pe_int (nomark _)) (pss_one (ps_dput hu (pv 0) pe_str (pe_ifExp (pt_cmpR (op_neD hr.units) (pe_dget hu (pv 0) pe_str (fun _ _ => rfl)) (pe_lst pa_nil) (nomark _))
          (pe_bm PySem.F.plainAttrs_list PySem.F.slot_list_pop PySem.F.type_list_pop mt_popAt (pe_dget hu (pv 0) pe_str (fun _ _ => rfl)) (pa_cons pe_int pa_nil)) (pe_cl c1 hr (by decide) (by rfl) (pa_cons (pv 0) pa_nil))) rfl)) pss_nil)
      (pss_cons (ps_set (i := 2) sc_dr.nd rfl (.inl rfl) (pe_op op_mod (pe_callTy call_int1 (by rfl) T.int boot_int (pa_cons (pe_dget hu (pv 0) pe_str (fun _ _ => rfl)) pa_nil)) (pv 1)))
      (pss_cons (ps_dput hu (pv 0) pe_str (pe_op op_fdivN (pe_dget hu (pv 0) pe_str (fun _ _ => rfl)) (pv 1)) rfl)
      (pss_one (ps_ret (pv 2)))))), ?_⟩
    have dc : c ≠ d := fun z => by rw [z, h1] at h3; cases h3
    have dg : g ≠ d := fun z => by rw [z, h1] at h2; cases h2
    have e0 : Ev (tVar 0) (start N_dr [.ref d, .int n]) H (.ref d) := ev_var rfl
    have el : Ev (tDGet (tVar 0) (tC (.str "left"))) (start N_dr [.ref d, .int n]) H (.int left) := ev_get (k := Sum.inr "left") h1 e0 ev_c (val_left _ _ _ _)
    have eg : Ev (tDGet (tVar 0) (tC (.str "great"))) (start N_dr [.ref d, .int n]) H (.ref g) := ev_get (k := Sum.inr "great") h1 e0 ev_c (val_great _ _ _ _)
    refine q_cut (M := fun σ' H' => σ' = start N_dr [.ref d, .int n] ∧ Kp d g H H' ∧ StAt H' d g c (t + 1)) ?_ fun σ' H' hM => ?_
    · refine s_when (b := decide (V.int left = V.int 0)) (et_test (ev_op el ev_c (rv_eq rfl))) (fun _ H1 e1 => ?_) fun _ H1 e1 => ⟨rfl, .of e1, StAt.ext (t := t) e1 (by omega) ⟨gs, cs, left, turn, h1, h2, h3, h4, h5, h6, h7, h8⟩⟩
      refine et_ne_nil (eg.mono e1) (e1 _ _ h2) H1 (Ex.refl _) _ fun H2 e2 => ?_
      cases gs with
      | nil =>
        -- a number is mixed
        refine iteF ⟨_, rfl, d, g, c, t, rfl, StAt.ext (e1.trans e2) (Nat.le_refl t) ⟨[], cs, left, turn, h1, h2, h3, h4, h5, h6, h7, h8⟩, ht, fun r H3 k3 st3 => ?_⟩
        obtain ⟨gs', cs', left', turn', a1, a2, a3, a4, a5, a6, a7, a8⟩ := st3
        refine ⟨_, rfl, d, _, rfl, .k (k := Sum.inr "left") a1 (show 4 < sizeLine by decide), rfl, fun b o hb hg hH => ?_, gs', cs', r, turn', ?_, ?_, ?_, a4, a5, a6, a7, a8⟩
        · rw [upd_ne hb]
          exact k3 _ _ hb (e2 _ _ (e1 _ _ hH))
        · rw [upd_same, put_left]
        · rw [upd_ne dg]; exact a2
        · rw [upd_ne dc]; exact a3
      | cons x gs =>
        -- the first great number
        refine iteT (eg.mono (e1.trans e2) H2 (Ex.refl _) _ fun H3 e3 => ⟨.inl ⟨rfl, _, sq_of (e3 _ _ (e2 _ _ (e1 _ _ h2)))⟩, g, _, 0, 0, .int x, rfl, rfl, e3 _ _ (e2 _ _ (e1 _ _ h2)), by decide, by decide, by simp [seqIndex?], rfl, ?_⟩)
        have k3 : ∀ b o, b ≠ g → H b = some o → (upd H3 g (.lst (((x :: gs).map V.int).eraseIdx 0))) b = some o := fun b o hb hH => by rw [upd_ne hb]; exact e3 _ _ (e2 _ _ (e1 _ _ hH))
        refine ⟨_, rfl, d, _, rfl, .k (k := Sum.inr "left") (k3 _ _ (Ne.symm dg) h1) (show 4 < sizeLine by decide), rfl, fun b o hb hg hH => ?_, gs, cs, x, turn, ?_, ?_, ?_, h4, h5, by omega, by simp at h7; omega, h8⟩
        · rw [upd_ne hb]
          exact k3 _ _ hg hH
        · rw [upd_same, put_left]
        · rw [upd_ne dg, upd_same]; rfl
        · rw [upd_ne dc]; exact k3 _ _ (Ne.symm h4) h3
    · obtain ⟨rfl, kp, gs', cs', left', turn', a1, a2, a3, a4, a5, a6, a7, a8⟩ := hM
      have el' : Ev (tDGet (tVar 0) (tC (.str "left"))) (start N_dr [.ref d, .int n]) H' (.int left') := ev_get (k := Sum.inr "left") a1 (ev_var rfl) ev_c (val_left _ _ _ _)
      have z1 := Int.emod_nonneg left' (show n ≠ 0 by omega)
      have z2 := Int.emod_lt_of_pos left' hn0
      refine q_asg (v := .int (left' % n)) (ev_op (ev_cb (ea_cons el' ea_nil) (rc_of fun _ _ Q q => .inl ⟨_, rfl, q⟩)) (ev_var rfl) (rv_I hn0)) fun H1 e1 => ?_
      refine q_dput (v := .int (left'.fdiv n)) (k := Sum.inr "left") (e1 _ _ a1) (show 4 < 1000 by decide) (ev_op (ev_get (k := Sum.inr "left") (e1 _ _ a1) (ev_var rfl) ev_c (val_left _ _ _ _)) (ev_var rfl) (rv_I ⟨by omega, by omega⟩)) (ev_var rfl) ev_c fun H2 e2 => ?_
      rw [put_left]
      refine s_ret (v := .int (left' % n).toNat) (ev_is (ev_var rfl) (congrArg V.int (Int.toNat_of_nonneg z1).symm)) fun H3 e3 => ?_
      refine q _ H3 (by omega) (fun b o hb hg hH => e3 _ _ (by rw [upd_ne hb]; exact e2 _ _ (e1 _ _ (kp _ _ hb hg hH)))) ?_
      exact StAt.ext (t := t + 1) e3 (Nat.le_refl _) ⟨gs', cs', left'.fdiv n, turn', upd_same, by rw [upd_ne dg]; exact e2 _ _ (e1 _ _ a2), by rw [upd_ne dc]; exact e2 _ _ (e1 _ _ a3), a4, a5, a6, a7, a8⟩
end
end K93

set_option Elab.async false
set_option linter.all false
set_option maxRecDepth 100000
set_option maxHeartbeats 4000000
namespace K93
open PySem PySem.Spec PyProof.Rows L2 TL Rx Mx Evl Ey
section
variable {P : Program} {w : World} {K : PySem.W.Frag} {mg : Str → Option Value} {base : Heap} {LE BS BT : Addr}
/-! ### _law_pick -/
def spPick : Sp := fun vs H Q _ => ∃ (d g c : Addr) (t : Nat), StAt H d g c t ∧ t < 1099511627776 ∧
  ((∃ z : Str, vs = [.ref d, .str z] ∧ 0 < z.length ∧ z.length < 1000000 ∧ ∀ (ch : Nat) (H' : Hp), ch ∈ tl z → Kp d g H H' → StAt H' d g c (t + 1) → Q (.str ⟨#[ch]⟩) H') ∨
   ∃ (a : Addr) (xs : List V), vs = [.ref d, .ref a] ∧ H a = some (.lst xs) ∧ a ≠ g ∧ 0 < xs.length ∧ xs.length < 1000000 ∧ ∀ (v : V) (H' : Hp), v ∈ xs → Kp d g H H' → StAt H' d g c (t + 1) → Q v H')
abbrev N_pk : List Str := ["state", "several"]
theorem sc_pk : FnScope N_pk N_pk (defScope (topS 20)) := ⟨rfl, rfl, rfl, by decide +kernel, rfl, by decide +kernel, by decide +kernel⟩
theorem cl_pick (T : Tx K mg LE BS BT) (a : At K mg 20 "_law_pick") (c1 : Cl P w K mg base CX0 2 "_law_draw" spDraw) : Cl P w K mg base CX0 3 "_law_pick" spPick := by
  refine cl_mk a sc_pk (fun vs H Q E h => ?_) (fun _ _ _ _ _ _ us hl => match us, hl with | [_, _], _ => rfl) (fun f cdv A outer s H vs Q E hr h => ?_)
  · obtain ⟨d, g, c, t, _, _, ⟨z, rfl, _⟩ | ⟨a, xs, rfl, _⟩⟩ := h <;> rfl
  · obtain ⟨d, g, c, t, st, ht, h⟩ := h
    refine ⟨_, PSs.nox (pss_one (ps_ret (pe_ix ix_seq (pv 1) (pe_cl c1 hr (by decide) (by rfl) (pa_cons (pv 0) (pa_cons (pe_callB call_len (by rfl) T.len PySem.boot_len (pa_cons (pv 1) pa_nil)) pa_nil))) (fun _ _ => rfl)))), ?_⟩
    rcases h with ⟨z, rfl, h0, h1, q⟩ | ⟨a, xs, rfl, ha, hg, h0, h1, q⟩
    · refine ⟨_, rfl, _, rfl, _, rfl, .str z, z.length, rfl, ⟨by rw [sizeLine_eq]; omega, rfl⟩, d, g, c, t, _, rfl, st, ht, by omega, by omega, fun r H' hr' kp st' => .inr (.inr ?_)⟩
      have hr2 : r < (tl z).length := by rw [← len_tl]; omega
      refine ⟨z, r, (tl z)[r], rfl, rfl, by rw [sizeLine_eq]; omega, atI_nat (List.getElem?_eq_getElem hr2), q _ H' (List.getElem_mem _) kp st'⟩
    · refine ⟨_, rfl, _, rfl, _, rfl, .ref a, xs.length, rfl, .inl ⟨xs, sq_of ha, rfl⟩, d, g, c, t, _, rfl, st, ht, by omega, by omega, fun r H' hr' kp st' => .inl ?_⟩
      have hr2 : r < xs.length := by omega
      have hd : a ≠ d := fun z => by
        obtain ⟨_, _, _, _, h1, _⟩ := st
        rw [z, h1] at ha; cases ha
      exact ⟨a, xs, r, xs[r], rfl, rfl, sq_of (kp a _ hd hg ha), atI_nat (List.getElem?_eq_getElem hr2), q _ H' (List.getElem_mem _) kp st'⟩
theorem tp_cons {σ : L2.St} {H : Hp} {x y : V} {tk tv : TE} {trs : List (TE × TE)} {Q : List (V × V) → Hp → Prop} (hk : Ev tk σ H x) (hv : Ev tv σ H y) (k : ∀ H1, Ex H H1 → tPairs trs σ H1 fun ps H2 => Q ((x, y) :: ps) H2) : tPairs ((tk, tv) :: trs) σ H Q :=
  hk H (Ex.refl H) _ fun H1 e1 => hv H1 e1 _ fun H2 e2 => k H2 (e1.trans e2)
theorem tp_consL {σ : L2.St} {H : Hp} {x : V} {xs : List V} {tk tv : TE} {trs : List (TE × TE)} {Q : List (V × V) → Hp → Prop} (hk : Ev tk σ H x) (hv : EvL tv σ H xs) (k : ∀ p H1, H p = none → Ex H H1 → H1 p = some (.lst xs) → tPairs trs σ H1 fun ps H2 => Q ((x, .ref p) :: ps) H2) : tPairs ((tk, tv) :: trs) σ H Q :=
  hk H (Ex.refl H) _ fun H1 e1 => hv H1 e1 _ fun p H2 hp e2 h2 => k p H2 (fresh_back e1 hp) (e1.trans e2) h2
/-! ### _law_begun -/
def spBegun (K : PySem.W.Frag) : Sp := fun vs H Q _ => ∃ (a : Addr) (ns : List Int), vs = [.ref a] ∧ SqL K H a (ns.map V.int) ∧ ns.length ≤ 63 ∧ ∀ (d g c : Addr) (H' : Hp), H d = none → H g = none → Ex H H' → StAt H' d g c 0 → Q (.ref d) H'
abbrev N_bg : List Str := ["script", "great", "cell"]
theorem sc_bg : FnScope N_bg ["script"] (defScope (topS 17)) := ⟨rfl, rfl, rfl, by decide +kernel, rfl, by decide +kernel, by decide +kernel⟩
theorem ne_gc : (("great" : Str) = "cells") = False := by decide +kernel
theorem merge_st (g c : Addr) (l t : Int) : mergeK [] (stK g c l t) = stK g c l t := by
  simp [mergeK, putK, stK, ne_gc, ne_gl, ne_gt, ne_cl, ne_ct, ne_lt]
theorem given_ints {n : Nat} {f : Nat → Bool} {v : Nat → Int} : ∃ ns : List Int, given n f (fun i => .int (v i)) = ns.map V.int ∧ ns.length ≤ n := by
  refine ⟨((List.range n).filter f).map v, ?_, ?_⟩
  · unfold given
    rw [List.map_map]
    rfl
  · rw [List.length_map]
    have := List.length_filter_le f (List.range n)
    rw [List.length_range] at this
    exact this
theorem cl_begun (T : Tx K mg LE BS BT) (a : At K mg 17 "_law_begun") : Cl P w K mg base CX0 1 "_law_begun" (spBegun K) := by
  refine cl_mk a sc_bg (fun vs H Q E h => ?_) (fun _ _ _ _ _ _ us hl => match us, hl with | [_], _ => rfl) (fun f cdv A outer s H vs Q E hr h => ?_)
  · obtain ⟨a, ns, rfl, _⟩ := h
    rfl
  · obtain ⟨a, ns, rfl, ha, hn, q⟩ := h
    refine ⟨_, PSs.nox (pss_cons (ps_setLc (i := 1) (own := [("cell", 2)]) (g := gName 2) rfl sc_bg.nd rfl rfl (sw_true rfl rfl rfl (by decide +kernel)) (pi_list (pv 0)) (blkOk_by (N := N_bg) (sc := defScope (topS 17)) (by decide +kernel))
        (fun _ _ _ _ _ => pg_name (i := 2) sc_bg.nd rfl (Or.inl rfl)) (fun _ _ _ _ _ => pts_one (pt_cmpR op_ge (pe_callB call_abs (by rfl) T.abs boot_abs (pa_cons (pv 2) pa_nil)) (pe_op op_pow pe_int pe_int) (nomark _)))
        (fun _ _ _ _ _ => pe_op op_sub (pe_callB call_abs (by rfl) T.abs boot_abs (pa_cons (pv 2) pa_nil)) (pe_op op_pow pe_int pe_int)))
      (pss_one (ps_ret (pe_disp (pps_cons pe_str (pv 1) (pps_cons pe_str (pe_lc (own := [("cell", 2)]) (g := gName 2) (tt := tYes) rfl sc_bg.nd (pi_list (pv 0)) (blkOk_by (N := N_bg) (sc := defScope (topS 17)) (by decide +kernel))
        (fun _ _ _ _ _ => pg_name (i := 2) sc_bg.nd rfl (Or.inl rfl)) (fun _ _ _ _ _ => pts_nil) (fun _ _ _ _ _ => pe_callB call_abs (by rfl) T.abs boot_abs (pa_cons (pv 2) pa_nil)))
        (pps_cons pe_str pe_int (pps_cons pe_str pe_int pps_nil)))) (by rfl) (by rfl) (fun z => by cases z) (by decide))))), ?_⟩
    have hl : (ns.map V.int).length ≤ 63 := by rw [List.length_map]; exact hn
    have ab : ∀ {σ : L2.St} {H : Hp} {z : Int}, Ev (tVar 2) σ H (.int z) → Ev (tCB (fun xs H Q => ∃ i, xs = [V.int i] ∧ Q (V.int (if i < 0 then -i else i)) H) (tCons (tVar 2) tNil)) σ H (.int (if z < 0 then -z else z)) := fun h => ev_cb (ea_cons h ea_nil) (rc_of fun _ _ Q q => ⟨_, rfl, q⟩)
    have item : ∀ {i : Nat} {x : V}, (ns.map V.int)[i]? = some x → x = .int (ns.getD i 0) := fun {i x} hx => by
      rw [List.getElem?_map] at hx
      obtain ⟨y, hy, rfl⟩ := Option.map_eq_some_iff.mp hx
      rw [List.getD, hy]
      rfl
    refine q_asgL (i := 1) (el_lcLs (vs := [2]) (j := 2) (fun i => decide ((10 : Int) ^ (18 : Int).toNat ≤ (if ns.getD i 0 < 0 then -ns.getD i 0 else ns.getD i 0))) (fun i => .int ((if ns.getD i 0 < 0 then -ns.getD i 0 else ns.getD i 0) - (10 : Int) ^ (18 : Int).toNat)) (ev_var rfl) ha (by omega) (fun _ => rfl)
      (fun i x H1 e1 hx => ?_) (fun i x H1 e1 hx _ => ?_)) fun g H1 hg e1 h1 => ?_
    · cases item hx
      exact et_test (ev_op (ab (ev_var rfl)) (ev_op ev_c ev_c (rv_I ⟨by decide, by decide, by decide⟩)) rv_I0)
    · cases item hx
      exact ev_op (ab (ev_var rfl)) (ev_op ev_c ev_c (rv_I ⟨by decide, by decide, by decide⟩)) rv_I0
    · obtain ⟨gs, eg, lg⟩ := given_ints (n := (ns.map V.int).length) (f := fun i => decide ((10 : Int) ^ (18 : Int).toNat ≤ (if ns.getD i 0 < 0 then -ns.getD i 0 else ns.getD i 0))) (v := fun i => (if ns.getD i 0 < 0 then -ns.getD i 0 else ns.getD i 0) - (10 : Int) ^ (18 : Int).toNat)
      rw [eg] at h1
      intro d hd
      have e2 : Ex H1 (upd H1 d (.dK [])) := Ex.new hd
      refine tp_cons (x := .str "great") (y := .ref g) ev_c (ev_var rfl) fun H2 e3 => ?_
      refine tp_consL (x := .str "cells") ev_c (el_lcLs (vs := [2]) (j := 2) (fun _ => true) (fun i => .int (if ns.getD i 0 < 0 then -ns.getD i 0 else ns.getD i 0)) (ev_var rfl) (ex_l ((e1.trans e2).trans e3) ha) (by omega) (fun _ => rfl) (fun _ _ _ _ _ => et_yes) (fun i x H2 _ hx _ => ?_)) fun c H3 hc e4 h3 => ?_
      · cases item hx
        exact ab (ev_var rfl)
      · obtain ⟨cs, ec, lc⟩ := given_ints (n := (ns.map V.int).length) (f := fun _ => true) (v := fun i => (if ns.getD i 0 < 0 then -ns.getD i 0 else ns.getD i 0))
        rw [ec] at h3
        refine tp_cons (x := .str "left") (y := .int 0) ev_c ev_c fun H4 e5 => tp_cons (x := .str "turn") (y := .int 0) ev_c ev_c fun H5 e6 => ?_
        have e7 : Ex H2 H5 := e4.trans (e5.trans e6)
        have e8 : Ex (upd H1 d (.dK [])) H5 := e3.trans e7
        have dg : g ≠ d := fun z => by rw [z, hd] at h1; cases h1
        have dc : c ≠ d := fun z => by rw [z, e3 _ _ upd_same] at hc; cases hc
        have gc : g ≠ c := fun z => by
          have z1 := e3 _ _ (e2 _ _ h1)
          rw [z, hc] at z1; cases z1
        have hd0 : H d = none := fresh_back e1 hd
        have e9 : Ex H (upd H5 d (.dK (mergeK [] (stK g c 0 0)))) := fun b o h => by
          rw [upd_ne (ne_of_none h hd0)]
          exact e8 _ _ (e2 _ _ (e1 _ _ h))
        refine ⟨e8 _ _ upd_same, stK g c 0 0, rfl, by show 4 ≤ 15; decide, q d g c _ hd0 hg e9 ⟨gs, cs, 0, 0, ?_, ?_, ?_, gc, by decide, by decide, by omega, by omega⟩⟩
        · rw [upd_same, merge_st]
        · rw [upd_ne dg]; exact e8 _ _ (e2 _ _ h1)
        · rw [upd_ne dc]; exact (e5.trans e6) _ _ h3
end
end K93

set_option Elab.async false
set_option linter.all false
set_option maxRecDepth 100000
set_option maxHeartbeats 4000000
namespace K93
open PySem PySem.Spec PyProof.Rows L2 TL Rx Mx Evl Ey
section
variable {P : Program} {w : World} {K : PySem.W.Frag} {mg : Str → Option Value} {base : Heap} {LE BS BT : Addr}
/-! ### _law_k93_sum -/
theorem wsum_range : ∀ (l : List Nat) (p : Nat), ((List.range l.length).map fun i => (((i + p : Nat) : Int)) * ((l.getD i 0 : Nat) : Int)).sum = ((wsum p l : Nat) : Int)
  | [], p => rfl
  | c :: r, p => by
    have ih := wsum_range r (p + 1)
    rw [List.length_cons, List.range_succ_eq_map, List.map_cons, List.sum_cons, List.map_map, wsum, Int.natCast_add (p * c), ← ih]
    congr 1
    · simp
    · congr 1
      apply List.map_congr_left
      intro i _
      show (((i + 1 + p : Nat) : Int)) * (((c :: r).getD (i + 1) 0 : Nat) : Int) = (((i + (p + 1) : Nat) : Int)) * ((r.getD i 0 : Nat) : Int)
      rw [show i + 1 + p = i + (p + 1) by omega]
      rfl
abbrev N_ks : List Str := ["text", "at", "sign"]
theorem sc_ks : FnScope N_ks ["text"] (defScope (topS 22)) := ⟨rfl, rfl, rfl, by decide +kernel, rfl, by decide +kernel, by decide +kernel⟩
theorem cl_ksum (T : Tx K mg LE BS BT) (a : At K mg 22 "_law_k93_sum") : Cl P w K mg base CX0 1 "_law_k93_sum" spSumOf := by
  refine cl_mk a sc_ks (fun vs H Q E h => ?_) (fun _ _ _ _ _ _ us hl => match us, hl with | [_], _ => rfl) (fun f cdv A outer s H vs Q E hr h => ?_)
  · obtain ⟨z, rfl, _⟩ := h
    rfl
  · obtain ⟨z, rfl, hz, q⟩ := h
    refine ⟨_, PSs.nox (pss_one (ps_ret (pe_op op_mod (pe_callTy call_int1 (by rfl) T.int boot_int (pa_cons (pe_callB (cr_sum rfl) (by rfl) T.sum boot_sum (pa_cons (pe_lc (own := [("at", 1), ("sign", 2)]) (g := gTup K 2 (gCons (gName 1) (gCons (gName 2) gNil))) (tt := tYes) rfl sc_ks.nd (pi_enumS (by rfl) T.enumerate (pa_cons (pv 0) pa_nil)) (blkOk_by (N := N_ks) (sc := defScope (topS 22)) (by decide +kernel))
        (fun _ _ _ _ _ => pg_tup rfl (pgs_cons (pg_name (i := 1) sc_ks.nd rfl (Or.inl rfl)) (pgs_cons (pg_name (i := 2) sc_ks.nd rfl (Or.inl rfl)) pgs_nil))) (fun _ _ _ _ _ => pts_nil)
        (fun _ _ _ _ _ => pe_op op_mul (pe_op op_add (pv 1) pe_int) (pe_callB call_ord (by rfl) T.ord boot_ord (pa_cons (pv 2) pa_nil)))) pa_nil)) pa_nil)) pe_int))), ?_⟩
    refine s_ret (v := .int (sumP (tl z) : Nat)) (ev_is (ev_op (x := .int (sumN (tl z) : Nat)) (ev_cb (ea_cons (ev_cbL (el_lcW (vs := [1, 2]) (fun _ => true) (fun i => .int ((((i + 1 : Nat) : Int)) * (((tl z).getD i 0 : Nat) : Int))) (ei_enumS (z := z) (ea_cons (ev_var rfl) ea_nil)) walk_enumS (fun _ _ => True.intro) hz (fun i x H1 H1' hi e y R k => ?_)) fun p H1 h1 e1 => rc_of fun H2 e2 Q q => ?_) ea_nil) (rc_of fun _ _ Q q => .inl ⟨_, rfl, q⟩)) ev_c (rv_I (by decide))) ?_) q
    · obtain ⟨T', c, rfl, hn, rfl, hc⟩ := y
      have hc' : (tl z)[i]? = some c := by simpa using hc
      have hi' : i < z.length := hi
      refine ⟨T', _, rfl, .inl (.inl upd_same), rfl, _, _, rfl, _, _, rfl, rfl, k _ _ (Ex.new hn) rfl et_yes fun _ => ?_⟩
      refine ev_is (ev_op (ev_op (ev_var rfl) ev_c rv_I0) (ev_cb (ea_cons (ev_var rfl) ea_nil) (rc_of fun _ _ Q q => ⟨⟨#[c]⟩, rfl, rfl, q⟩)) (rv_I (.inl ⟨?_, ?_⟩))) ?_
      · omega
      · have : (2 : Int) ^ 64 = 18446744073709551616 := by decide
        omega
      · refine congrArg V.int ?_
        rw [List.getD, hc']
        push_cast
        rfl
    · rw [given_map] at h1
      refine ⟨p, (List.range z.cps.size).map fun i => (((i + 1 : Nat) : Int)) * (((tl z).getD i 0 : Nat) : Int), rfl, .inl (.inl (by rw [List.map_map]; exact e2 _ _ h1)), ?_⟩
      have e : z.cps.size = (tl z).length := by rw [← len_tl]; rfl
      rw [e, wsum_range]
      exact q
    · refine congrArg V.int ?_
      show ((sumN (tl z) : Nat) : Int) % 1000000007 = _
      unfold sumP
      rw [Int.natCast_emod]
      rfl
/-! ### _law_k93_signs -/
def signsS : Str := " !#$&'()*+,-./0123456789:;<=>?@ABCDEFGHIJKLMNOPQRSTUVWXYZ[]^_abcdefghijklmnopqrstuvwxyz{|}~"
theorem signs_ok : (tl signsS).all signOk = true := by decide +kernel
theorem signs_len : signsS.length = 91 := by decide +kernel
def spSigns : Sp := fun vs H Q _ => vs = [] ∧ RetV (.str signsS) H Q
theorem sc_sg : FnScope [] [] (defScope (topS 23)) := ⟨rfl, rfl, rfl, by decide +kernel, rfl, by decide +kernel, by decide +kernel⟩
theorem cl_signs (a : At K mg 23 "_law_k93_signs") : Cl P w K mg base CX0 1 "_law_k93_signs" spSigns := by
  refine cl_mk a sc_sg (fun vs H Q E h => ?_) (fun _ _ _ _ _ _ us hl => match us, hl with | [], _ => rfl) (fun f cdv A outer s H vs Q E hr h => ?_)
  · exact congrArg List.length h.1
  · obtain ⟨rfl, q⟩ := h
    exact ⟨_, PSs.nox (pss_one (ps_ret pe_str)), s_ret ev_c q⟩
end
end K93

set_option Elab.async false
set_option linter.all false
set_option maxRecDepth 100000
set_option maxHeartbeats 4000000
namespace K93
open PySem PySem.Spec PyProof.Rows L2 TL Rx Mx Evl Ey
theorem join_ok : ∀ rs : List (List Nat), (∀ p ∈ rs, p.all signOk = true ∧ p.length ≤ 13) → (joinL [10] rs).all lineOk = true ∧ (joinL [10] rs).length ≤ 14 * rs.length
  | [], _ => ⟨rfl, Nat.zero_le _⟩
  | [p], h => by
    obtain ⟨h1, h2⟩ := h p List.mem_cons_self
    refine ⟨?_, by show p.length ≤ _; simp; omega⟩
    show p.all lineOk = true
    rw [List.all_eq_true] at h1 ⊢
    intro c hc
    unfold lineOk
    rw [h1 c hc, Bool.or_true]
  | p :: q :: r, h => by
    obtain ⟨h1, h2⟩ := h p List.mem_cons_self
    obtain ⟨h3, h4⟩ := join_ok (q :: r) fun x hx => h x (List.mem_cons_of_mem _ hx)
    show (p ++ ([10] ++ joinL [10] (q :: r))).all lineOk = true ∧ (p ++ ([10] ++ joinL [10] (q :: r))).length ≤ _
    refine ⟨?_, ?_⟩
    · rw [List.all_append, List.all_append, h3, Bool.and_true, Bool.and_eq_true, List.all_eq_true]
      rw [List.all_eq_true] at h1
      refine ⟨fun c hc => ?_, by decide⟩
      unfold lineOk
      rw [h1 c hc, Bool.or_true]
    · simp only [List.length_append, List.length_cons, List.length_nil] at h4 ⊢
      omega
theorem join_one : ∀ cs : List Nat, joinL [] (cs.map fun c => [c]) = cs
  | [] => rfl
  | [c] => rfl
  | c :: e :: r => by
    have ih := join_one (e :: r)
    show [c] ++ ([] ++ joinL [] ((e :: r).map fun c => [c])) = _
    rw [ih]
    rfl
theorem sum_len {k : Nat} : ∀ l : List Str, (∀ y ∈ l, y.length ≤ k) → (l.map (·.length)).sum ≤ l.length * k
  | [], _ => Nat.zero_le _
  | y :: r, h => by
    have h1 := h y List.mem_cons_self
    have h2 := sum_len r fun x hx => h x (List.mem_cons_of_mem _ hx)
    rw [List.map_cons, List.sum_cons, List.length_cons, Nat.add_mul]
    omega
theorem StAt.put {H : Hp} {d g c p : Addr} {t : Nat} {o : HO} (n : p ≠ d ∧ p ≠ g ∧ p ≠ c) (h : StAt H d g c t) : StAt (upd H p o) d g c t := by
  obtain ⟨gs, cs, l, u, a1, a2, a3, a4⟩ := h
  exact ⟨gs, cs, l, u, by rw [upd_ne (Ne.symm n.1)]; exact a1, by rw [upd_ne (Ne.symm n.2.1)]; exact a2, by rw [upd_ne (Ne.symm n.2.2)]; exact a3, a4⟩
theorem StAt.away {H : Hp} {d g c p : Addr} {t : Nat} (h : StAt H d g c t) (hp : H p = none) : p ≠ d ∧ p ≠ g ∧ p ≠ c := by
  obtain ⟨gs, cs, l, u, a1, a2, a3, a4⟩ := h
  exact ⟨fun z => (by rw [z, a1] at hp; cases hp), fun z => (by rw [z, a2] at hp; cases hp), fun z => (by rw [z, a3] at hp; cases hp)⟩
theorem Kp.put {d g p : Addr} {H H1 H' : Hp} {o : HO} (hp : H p = none) (k : Kp d g H H') : Kp d g H (upd H' p o) := fun b x hb hg hH => by
  rw [upd_ne (ne_of_none hH hp)]; exact k b x hb hg hH
theorem StAt.le {H : Hp} {d g c : Addr} {t t' : Nat} (ht : t ≤ t') (h : StAt H d g c t) : StAt H d g c t' := h.ext (Ex.refl H) ht
section
variable {P : Program} {w : World} {K : PySem.W.Frag} {mg : Str → Option Value} {base : Heap} {LE BS BT : Addr}
/-! ### _law_k93_text -/
def spText : Sp := fun vs H Q _ => ∃ (d g c : Addr) (t : Nat), vs = [.ref d] ∧ StAt H d g c t ∧ t < 1099511627000 ∧ ∀ (z : Str) (H' : Hp), z.length ≤ 56 → (tl z).all lineOk = true → Kp d g H H' → StAt H' d g c (t + 80) → Q (.str z) H'
abbrev N_tx : List Str := ["state", "rows", "turn", "spelled", "spell"]
theorem sc_tx : FnScope N_tx ["state"] (defScope (topS 24)) := ⟨rfl, rfl, rfl, by decide +kernel, rfl, by decide +kernel, by decide +kernel⟩
theorem cl_text (T : Tx K mg LE BS BT) (a : At K mg 24 "_law_k93_text") (c1 : Cl P w K mg base CX0 2 "_law_draw" spDraw) (c2 : Cl P w K mg base CX0 3 "_law_pick" spPick) (c3 : Cl P w K mg base CX0 1 "_law_k93_signs" spSigns) : Cl P w K mg base CX0 4 "_law_k93_text" spText := by
  refine cl_mk a sc_tx (fun vs H Q E h => ?_) (fun _ _ _ _ _ _ us hl => match us, hl with | [_], _ => rfl) (fun f cdv A outer s H vs Q E hr h => ?_)
  · obtain ⟨d, g, c, t, rfl, _⟩ := h
    rfl
  · obtain ⟨d, g, c, t, rfl, st, ht, q⟩ := h
    refine ⟨_, PSs.nox (pss_cons (ps_set (i := 1) sc_tx.nd rfl (.inl rfl) (pe_lst pa_nil))
      (pss_cons (ps_for PassesOwn.never rfl (pi_range1 (by rfl) T.range (pa_cons (pe_cl c1 hr (by decide) (by rfl) (pa_cons (pv 0) (pa_cons pe_int pa_nil))) pa_nil)) (pg_name (i := 2) sc_tx.nd rfl (.inl rfl))
        (pss_cons (ps_set (i := 3) sc_tx.nd rfl (.inl rfl) (pe_join pe_str (pe_lc (own := [("spell", 4)]) (g := gName 4) (tt := tYes) rfl sc_tx.nd (pi_range1 (by rfl) T.range (pa_cons (pe_cl c1 hr (by decide) (by rfl) (pa_cons (pv 0) (pa_cons pe_int pa_nil))) pa_nil)) (blkOk_by (N := N_tx) (sc := defScope (topS 24)) (by decide +kernel))
          (fun _ _ _ _ _ => pg_name (i := 4) sc_tx.nd rfl (Or.inl rfl)) (fun _ _ _ _ _ => pts_nil) (fun _ _ _ _ _ => pe_cl c2 hr (by decide) (by rfl) (pa_cons (pv 0) (pa_cons (pe_cl0 c3 hr (by decide) (by rfl)) pa_nil))))))
        (pss_one (ps_expr (pe_bm PySem.F.plainAttrs_list PySem.F.slot_list_append PySem.F.type_list_append mt_append (pv 1) (pa_cons (pe_cl c2 hr (by decide) (by rfl) (pa_cons (pv 0) (pa_cons (pe_lst (pa_cons pe_str (pa_cons pe_str (pa_cons pe_str (pa_cons pe_str (pa_cons pe_str (pa_cons (pv 3) (pa_cons (pv 3) pa_nil)))))))) pa_nil))) pa_nil))))))
      (pss_one (ps_ret (pe_join pe_str (pv 1)))))), ?_⟩
    refine q_asgL (i := 1) (el_lst ea_nil (by decide)) fun p H1 hp e1 h1 => ?_
    have np := st.away hp
    refine ⟨_, rfl, d, g, c, t, 5, rfl, st.ext e1 (Nat.le_refl _), by omega, by decide, by decide, fun r H2 hr2 kp2 st2 => ⟨r, rfl, by omega, by omega, ?_⟩⟩
    refine for_range (lo := 0) (n := ((r : Nat) : Int).toNat) (fun i σ' H' => ∃ y2 y3, σ' = [some (.ref d), some (.ref p), y2, y3, none] ∧ ∃ rs : List Str, rs.length = i ∧ (∀ y ∈ rs, (tl y).all signOk = true ∧ (tl y).length ≤ 13) ∧ H' p = some (.lst (rs.map V.str)) ∧ Kp d g H H' ∧ StAt H' d g c (t + 1 + i * 15))
      ⟨none, none, rfl, [], rfl, fun _ h => absurd h (by simp), kp2 _ _ np.1 np.2.1 h1, (Kp.of e1).trans kp2, st2⟩ (fun i σ' H3 hi hP => ?_) (fun σ' H3 hP => ?_)
    · obtain ⟨y2, y3, rfl, rs, hl, hrs, hrow, kp3, st3⟩ := hP
      have hi' : i < 5 := by omega
      refine ⟨⟨_, rfl⟩, _, rfl, d, g, c, _, 14, rfl, st3, by omega, by decide, by decide, fun r2 H4 hr4 kp4 st4 => ⟨r2, rfl, by omega, by omega, fun Dl hD => ?_⟩⟩
      have nD := st4.away hD
      refine lc_range (lo := 0) (n := ((r2 : Nat) : Int).toNat) (fun j H5 => ∃ cs : List Nat, cs.length = j ∧ cs.all signOk = true ∧ H5 Dl = some (.lst (cs.map fun ch => V.str ⟨#[ch]⟩)) ∧ Kp d g H4 H5 ∧ StAt H5 d g c (t + 1 + i * 15 + 1 + j))
        ⟨[], rfl, rfl, upd_same, .of (Ex.new hD), st4.ext (Ex.new hD) (Nat.le_refl _)⟩ (fun j H5 hj hC => ?_) (fun H5 hC => ?_)
      · obtain ⟨cs, hcl, hcs, hDl, kp5, st5⟩ := hC
        have hj' : j < 13 := by omega
        refine ⟨rfl, ?_⟩
        unfold tYes
        simp only [if_true]
        refine ⟨_, rfl, rfl, fun H6 e6 => ?_⟩
        refine ⟨d, g, c, _, st5.ext e6 (Nat.le_refl _), by omega, .inl ⟨signsS, rfl, by rw [signs_len]; decide, by rw [signs_len]; decide, fun ch H7 hch kp7 st7 => ?_⟩⟩
        have hD7 : H7 Dl = some (.lst (cs.map fun ch => V.str ⟨#[ch]⟩)) := kp7 _ _ nD.1 nD.2.1 (e6 _ _ hDl)
        refine ⟨_, hD7, by rw [List.length_map, hcl, sizeLine_eq]; omega, cs ++ [ch], by simp [hcl], ?_, ?_, ?_, ?_⟩
        · rw [List.all_append, hcs]
          simp [List.all_eq_true.mp signs_ok ch hch]
        · rw [upd_same, List.map_append]
          rfl
        · exact Kp.put (H1 := H) hD ((kp5.trans (Kp.of e6)).trans kp7)
        · exact (st7.put nD).le (by omega)
      · obtain ⟨cs, hcl, hcs, hDl, kp5, st5⟩ := hC
        have hsp : (tl (Txt.join "" (cs.map fun ch => (⟨#[ch]⟩ : Str)))) = cs := by
          refine ((congrArg tl (TL.join_eq _ _)).trans (tl_join _ _)).trans ?_
          rw [List.map_map]
          exact join_one cs
        have hm := sum_len (k := 1) (cs.map fun ch => (⟨#[ch]⟩ : Str)) (fun y hy => by
          obtain ⟨ch, _, rfl⟩ := List.mem_map.mp hy
          exact Nat.le_refl _)
        have hj' : cs.length ≤ 13 := by omega
        rw [List.length_map] at hm
        have hp5 : H5 p = some (.lst (rs.map V.str)) := kp5 _ _ np.1 np.2.1 (kp4 _ _ np.1 np.2.1 hrow)
        refine ⟨_, Dl, cs.map fun ch => (⟨#[ch]⟩ : Str), rfl, rfl, .inl (sq_of (by rw [List.map_map]; exact hDl)), ?_, ?_⟩
        · rw [List.length_map, show (Str.ofString "").length = 0 from rfl]
          omega
        · generalize Txt.join (Str.ofString "") (cs.map fun ch => (⟨#[ch]⟩ : Str)) = sp at hsp ⊢
          refine ⟨_, rfl, .inl ⟨rfl, _, sq_of hp5⟩, _, rfl, _, rfl, _, rfl, (by show 7 ≤ sizeLine; rw [sizeLine_eq]; decide), fun q6 hq6 => ?_⟩
          have nq := st5.away hq6
          refine ⟨d, g, c, _, st5.ext (Ex.new hq6) (Nat.le_refl _), by omega, .inr ⟨q6, _, rfl, upd_same, nq.2.1, (by show 0 < 7; decide), (by show 7 < 1000000; decide), fun v H7 hv kp7 st7 => ?_⟩⟩
          have hv2 : ∃ y : Str, v = .str y ∧ (tl y).all signOk = true ∧ (tl y).length ≤ 13 := by
            simp only [List.mem_cons, List.not_mem_nil, or_false] at hv
            rcases hv with rfl | rfl | rfl | rfl | rfl | rfl | rfl
            · exact ⟨_, rfl, by decide +kernel, by decide +kernel⟩
            · exact ⟨_, rfl, by decide +kernel, by decide +kernel⟩
            · exact ⟨_, rfl, by decide +kernel, by decide +kernel⟩
            · exact ⟨_, rfl, by decide +kernel, by decide +kernel⟩
            · exact ⟨_, rfl, by decide +kernel, by decide +kernel⟩
            · exact ⟨_, rfl, by rw [hsp]; exact hcs, by rw [hsp]; exact hj'⟩
            · exact ⟨_, rfl, by rw [hsp]; exact hcs, by rw [hsp]; exact hj'⟩
          obtain ⟨y, rfl, hy1, hy2⟩ := hv2
          refine ⟨p, rs.map V.str, .str y, rfl, rfl, kp7 _ _ np.1 np.2.1 (Ex.new hq6 _ _ hp5), by rw [List.length_map, hl, sizeLine_eq]; omega, _, _, rfl, rs ++ [y], by simp [hl], ?_, ?_, ?_, ?_⟩
          · intro z hz
            rcases List.mem_append.mp hz with h | h
            · exact hrs z h
            · rw [List.mem_singleton.mp h]; exact ⟨hy1, hy2⟩
          · rw [upd_same, List.map_append]
            rfl
          · exact Kp.put (H1 := H) hp (((kp3.trans kp4).trans kp5).trans ((Kp.of (Ex.new hq6)).trans kp7))
          · exact (st7.put np).le (by omega)
    · obtain ⟨y2, y3, rfl, rs, hl, hrs, hrow, kp3, st3⟩ := hP
      have hi' : rs.length ≤ 4 := by omega
      have hm := sum_len (k := 13) rs (fun y hy => by rw [len_tl]; exact (hrs y hy).2)
      have hn1 : (Str.ofString "\n").length = 1 := rfl
      refine ⟨⟨_, rfl⟩, _, rfl, _, p, rs, rfl, rfl, .inl (sq_of hrow), by rw [hn1]; omega, ?_⟩
      have hj := join_ok (rs.map tl) fun x hx => by
        obtain ⟨y, hy, rfl⟩ := List.mem_map.mp hx
        exact hrs y hy
      have e : tl (Txt.join (Str.ofString "\n") rs) = joinL [10] (rs.map tl) := (congrArg tl (TL.join_eq _ _)).trans (tl_join _ _)
      rw [← e, List.length_map] at hj
      refine q _ H3 (by rw [len_tl]; omega) hj.1 kp3 (st3.le (by omega))
end
end K93

set_option Elab.async false
set_option linter.all false
set_option maxRecDepth 100000
set_option maxHeartbeats 4000000
namespace K93
open PySem PySem.Spec PyProof.Rows L2 TL Rx Mx Evl Ey
/-- one edit of a text -/
def Near (L R : List Nat) : Prop := ∃ U M N W, L = U ++ M ++ W ∧ R = U ++ N ++ W ∧ Edit M N
theorem at_split {L : List Nat} {a : Nat} (h : a < L.length) : ∃ x, L = L.take a ++ [x] ++ L.drop (a + 1) := by
  refine ⟨L[a], ?_⟩
  rw [List.append_assoc, List.singleton_append, List.getElem_cons_drop, List.take_append_drop]
theorem near_put {L : List Nat} {a x : Nat} (h : a < L.length) : Near L (L.take a ++ [x] ++ L.drop (a + 1)) := by
  obtain ⟨y, e⟩ := at_split h
  exact ⟨_, [y], [x], _, e, rfl, .inl ⟨y, x, rfl, rfl⟩⟩
theorem near_cut {L : List Nat} {a : Nat} (h : a < L.length) : Near L (L.take a ++ L.drop (a + 1)) := by
  obtain ⟨y, e⟩ := at_split h
  exact ⟨_, [y], [], _, e, by rw [List.append_nil], .inr (.inl ⟨y, rfl, rfl⟩)⟩
theorem near_ins {L : List Nat} {a x : Nat} : Near L (L.take a ++ [x] ++ L.drop a) :=
  ⟨L.take a, [], [x], L.drop a, by rw [List.append_nil, List.take_append_drop], rfl, .inr (.inr (.inl ⟨x, rfl, rfl⟩))⟩
theorem near_swap {L : List Nat} {a : Nat} (h : a < L.length) : Near L (L.take a ++ (L.drop (a + 1)).take 1 ++ (L.drop a).take 1 ++ L.drop (a + 2)) := by
  obtain ⟨y, e⟩ := at_split h
  have e1 : (L.drop a).take 1 = [L[a]] := by rw [List.drop_eq_getElem_cons h]; rfl
  rw [e1]
  by_cases h2 : a + 1 < L.length
  · rw [show (L.drop (a + 1)).take 1 = [L[a + 1]] by rw [List.drop_eq_getElem_cons h2]; rfl]
    refine ⟨L.take a, [L[a], L[a + 1]], [L[a + 1], L[a]], L.drop (a + 2), ?_, by simp, .inr (.inr (.inr ⟨_, _, rfl, rfl⟩))⟩
    have e2 : [L[a], L[a + 1]] ++ L.drop (a + 2) = L.drop a := by
      rw [List.drop_eq_getElem_cons h, List.drop_eq_getElem_cons h2]
      rfl
    rw [List.append_assoc, e2, List.take_append_drop]
  · rw [List.drop_of_length_le (show L.length ≤ a + 1 by omega), List.drop_of_length_le (show L.length ≤ a + 2 by omega)]
    refine ⟨L.take a, [L[a]], [L[a]], [], ?_, by simp, .inl ⟨_, _, rfl, rfl⟩⟩
    have e2 : [L[a]] ++ ([] : List Nat) = L.drop a := by
      rw [List.drop_eq_getElem_cons h, List.drop_of_length_le (show L.length ≤ a + 1 by omega)]
      rfl
    rw [List.append_assoc, e2, List.take_append_drop]
theorem slen (a b : Str) : (a ++ b).length = a.length + b.length := by rw [len_tl, tl_append, List.length_append, ← len_tl, ← len_tl]
section
variable {P : Program} {w : World} {K : PySem.W.Frag} {mg : Str → Option Value} {base : Heap} {LE BS BT : Addr}
theorem ev_cat {σ : L2.St} {H : Hp} {ta tb : TE} {a b : Str} (h1 : Ev ta σ H (.str a)) (h2 : Ev tb σ H (.str b)) (h : a.length + b.length ≤ 16000000) : Ev (tOp (fun x y H Q => ∃ i j, x = .str i ∧ y = .str j ∧ i.length + j.length ≤ sizeLine ∧ Q (.str (i ++ j)) H) ta tb) σ H (.str (a ++ b)) :=
  ev_op h1 h2 (rv_of fun _ _ Q q => ⟨_, _, rfl, rfl, by rw [sizeLine_eq]; omega, q⟩)
/-! ### _law_k93_near -/
def spNear : Sp := fun vs H Q _ => ∃ (d g c : Addr) (t : Nat) (z : Str), vs = [.ref d, .str z] ∧ StAt H d g c t ∧ t < 1099511627000 ∧ 0 < z.length ∧ z.length ≤ 1000 ∧ ∀ (y : Str) (H' : Hp), Near (tl z) (tl y) → Kp d g H H' → StAt H' d g c (t + 4) → Q (.str y) H'
abbrev N_nr : List Str := ["state", "text", "at", "way", "sign"]
theorem sc_nr : FnScope N_nr ["state", "text"] (defScope (topS 25)) := ⟨rfl, rfl, rfl, by decide +kernel, rfl, by decide +kernel, by decide +kernel⟩
theorem cl_near (T : Tx K mg LE BS BT) (a : At K mg 25 "_law_k93_near") (c1 : Cl P w K mg base CX0 2 "_law_draw" spDraw) (c2 : Cl P w K mg base CX0 3 "_law_pick" spPick) (c3 : Cl P w K mg base CX0 1 "_law_k93_signs" spSigns) : Cl P w K mg base CX0 4 "_law_k93_near" spNear := by
  refine cl_mk a sc_nr (fun vs H Q E h => ?_) (fun _ _ _ _ _ _ us hl => match us, hl with | [_, _], _ => rfl) (fun f cdv A outer s H vs Q E hr h => ?_)
  · obtain ⟨d, g, c, t, z, rfl, _⟩ := h
    rfl
  · obtain ⟨d, g, c, t, z, rfl, st, ht, z0, z1, q⟩ := h
    refine ⟨_, PSs.nox (pss_cons (ps_par (i := 2) (j := 3) (by rfl) sc_nr.nd rfl rfl (by decide) rfl rfl (pa_cons (pe_cl c1 hr (by decide) (by rfl) (pa_cons (pv 0) (pa_cons (pe_callB call_len (by rfl) T.len PySem.boot_len (pa_cons (pv 1) pa_nil)) pa_nil))) (pa_cons (pe_cl c1 hr (by decide) (by rfl) (pa_cons (pv 0) (pa_cons pe_int pa_nil))) pa_nil)) (by rfl))
      (pss_cons (ps_set (i := 4) sc_nr.nd rfl (.inl rfl) (pe_cl c2 hr (by decide) (by rfl) (pa_cons (pv 0) (pa_cons (pe_lst (pa_cons pe_str (pa_cons pe_str (pa_cons pe_str (pa_cons pe_str (pa_cons pe_str (pa_cons pe_str (pa_cons (pe_cl c2 hr (by decide) (by rfl) (pa_cons (pv 0) (pa_cons (pe_cl0 c3 hr (by decide) (by rfl)) pa_nil))) pa_nil)))))))) pa_nil))))
      (pss_cons (ps_if (pt_cmpR op_eq (pv 3) pe_int (nomark _)) (pss_one (ps_ret (pe_op op_add_str (pe_op op_add_str (pe_slice sl_str (pv 1) po_none (po_some (pv 2))) (pv 4)) (pe_slice sl_str (pv 1) (po_some (pe_op op_add (pv 2) pe_int)) po_none)))) pss_nil)
      (pss_cons (ps_if (pt_cmpR op_eq (pv 3) pe_int (nomark _)) (pss_one (ps_ret (pe_op op_add_str (pe_slice sl_str (pv 1) po_none (po_some (pv 2))) (pe_slice sl_str (pv 1) (po_some (pe_op op_add (pv 2) pe_int)) po_none)))) pss_nil)
      (pss_one (ps_ret (pe_ifExp (pt_cmpR op_eq (pv 3) pe_int (nomark _)) (pe_op op_add_str (pe_op op_add_str (pe_slice sl_str (pv 1) po_none (po_some (pv 2))) (pv 4)) (pe_slice sl_str (pv 1) (po_some (pv 2)) po_none))
        (pe_op op_add_str (pe_op op_add_str (pe_op op_add_str (pe_slice sl_str (pv 1) po_none (po_some (pv 2))) (pe_slice sl_str (pv 1) (po_some (pe_op op_add (pv 2) pe_int)) (po_some (pe_op op_add (pv 2) pe_int)))) (pe_slice sl_str (pv 1) (po_some (pv 2)) (po_some (pe_op op_add (pv 2) pe_int)))) (pe_slice sl_str (pv 1) (po_some (pe_op op_add (pv 2) pe_int)) po_none))))))))), ?_⟩
    refine ⟨_, rfl, _, rfl, .str z, z.length, rfl, ⟨by rw [sizeLine_eq]; omega, rfl⟩, d, g, c, t, _, rfl, st, by omega, by omega, by omega, fun at_ H1 ha kp1 st1 => ?_⟩
    refine ⟨_, rfl, d, g, c, _, _, rfl, st1, by omega, by decide, by decide, fun way H2 hw kp2 st2 => ?_⟩
    refine ⟨_, _, rfl, ?_⟩
    refine ⟨_, rfl, ⟨_, rfl, rfl, fun H2' e2 => ⟨d, g, c, _, st2.ext e2 (Nat.le_refl _), by omega, .inl ⟨signsS, rfl, by rw [signs_len]; decide, by rw [signs_len]; decide, fun ch H3 hch kp3 st3 => ⟨?_, fun p hp => ?_⟩⟩⟩⟩⟩
    · show 7 ≤ sizeLine
      rw [sizeLine_eq]; decide
    have np := st3.away hp
    refine ⟨d, g, c, _, st3.ext (Ex.new hp) (Nat.le_refl _), by omega, .inr ⟨p, _, rfl, upd_same, np.2.1, (by show 0 < 7; decide), (by show 7 < 1000000; decide), fun v H4 hv kp4 st4 => ?_⟩⟩
    have hv2 : ∃ (x : Str) (n : Nat), v = .str x ∧ tl x = [n] := by
      simp only [List.mem_cons, List.not_mem_nil, or_false] at hv
      rcases hv with rfl | rfl | rfl | rfl | rfl | rfl | rfl
      · exact ⟨_, _, rfl, rfl⟩
      · exact ⟨_, _, rfl, rfl⟩
      · exact ⟨_, _, rfl, rfl⟩
      · exact ⟨_, _, rfl, rfl⟩
      · exact ⟨_, _, rfl, rfl⟩
      · exact ⟨_, _, rfl, rfl⟩
      · exact ⟨_, _, rfl, rfl⟩
    obtain ⟨x, n, rfl, hx⟩ := hv2
    have kp : Kp d g H H4 := ((kp1.trans kp2).trans ((Kp.of e2).trans kp3)).trans ((Kp.of (Ex.new hp)).trans kp4)
    have ha' : at_ < (tl z).length := by rw [← len_tl]; omega
    have lx : x.length = 1 := by rw [len_tl, hx]; rfl
    have fin : ∀ (y : Str) H5, Ex H4 H5 → Near (tl z) (tl y) → Q (.str y) H5 := fun y H5 e hn => q y H5 hn (kp.trans (Kp.of e)) (st4.ext e (by omega))
    have v1 : ∀ H5, Ev (tVar 1) [some (.ref d), some (.str z), some (.int (at_ : Nat)), some (.int (way : Nat)), some (.str x)] H5 (.str z) := fun _ => ev_var rfl
    have v2 : ∀ H5, Ev (tVar 2) [some (.ref d), some (.str z), some (.int (at_ : Nat)), some (.int (way : Nat)), some (.str x)] H5 (.int (at_ : Nat)) := fun _ => ev_var rfl
    have v3 : ∀ H5, Ev (tVar 3) [some (.ref d), some (.str z), some (.int (at_ : Nat)), some (.int (way : Nat)), some (.str x)] H5 (.int (way : Nat)) := fun _ => ev_var rfl
    have v4 : ∀ H5, Ev (tVar 4) [some (.ref d), some (.str z), some (.int (at_ : Nat)), some (.int (way : Nat)), some (.str x)] H5 (.str x) := fun _ => ev_var rfl
    have pl : ∀ (m : Nat) H5, Ev (tOp (rI0 fun a b => .int (a + b)) (tVar 2) (tC (.int (m : Nat)))) [some (.ref d), some (.str z), some (.int (at_ : Nat)), some (.int (way : Nat)), some (.str x)] H5 (.int ((at_ + m : Nat) : Int)) := fun m H5 => ev_is (ev_op (v2 H5) ev_c rv_I0) (by simp)
    have lz : z.length ≤ 16777216 := by omega
    have cl : ∀ a b, (cutS z a b).length ≤ 1000 := fun a b => Nat.le_trans (cutS_length z a b) z1
    refine q_when (et_test (ev_op (v3 H4) ev_c (rv_eq rfl))) (fun hb H5 e5 => ?_) (fun hb H5 e5 => ?_)
    · refine s_ret (ev_cat (ev_cat (ev_slS (v1 H5) eo_none (eo_some (v2 H5)) lz) (v4 H5) ?_) (ev_slS (v1 H5) (eo_some (pl 1 H5)) eo_none lz) ?_) fun H6 e6 => fin _ H6 (e5.trans e6) ?_
      · have := cl none (some (at_ : Nat)); omega
      · have := cl none (some (at_ : Nat)); have := cl (some ((at_ + 1 : Nat) : Int)) none; rw [slen]; omega
      · rw [tl_append, tl_append, tl_cutTo, tl_cutFrom, hx]
        exact near_put ha'
    · refine q_when (et_test (ev_op (v3 H5) ev_c (rv_eq rfl))) (fun hb2 H6 e6 => ?_) (fun hb2 H6 e6 => ?_)
      · refine s_ret (ev_cat (ev_slS (v1 H6) eo_none (eo_some (v2 H6)) lz) (ev_slS (v1 H6) (eo_some (pl 1 H6)) eo_none lz) ?_) fun H7 e7 => fin _ H7 ((e5.trans e6).trans e7) ?_
        · have := cl none (some (at_ : Nat)); have := cl (some ((at_ + 1 : Nat) : Int)) none; omega
        · rw [tl_append, tl_cutTo, tl_cutFrom]
          exact near_cut ha'
      · by_cases h2 : way = 2
        · subst h2
          refine s_ret (ev_if (et_test (ev_op (v3 H6) ev_c (rv_eq rfl))) (fun _ => ev_cat (ev_cat (ev_slS (v1 H6) eo_none (eo_some (v2 H6)) lz) (v4 H6) ?_) (ev_slS (v1 H6) (eo_some (v2 H6)) eo_none lz) ?_) (fun hb => absurd hb (by simp))) fun H7 e7 => fin _ H7 ((e5.trans e6).trans e7) ?_
          · have := cl none (some (at_ : Nat)); omega
          · have := cl none (some (at_ : Nat)); have := cl (some ((at_ : Nat) : Int)) none; rw [slen]; omega
          · rw [tl_append, tl_append, tl_cutTo, tl_cutFrom, hx]
            exact near_ins
        · refine s_ret (ev_if (et_test (ev_op (v3 H6) ev_c (rv_eq rfl))) (fun hb => absurd hb ?_) (fun _ => ev_cat (ev_cat (ev_cat (ev_slS (v1 H6) eo_none (eo_some (v2 H6)) lz) (ev_slS (v1 H6) (eo_some (pl 1 H6)) (eo_some (pl 2 H6)) lz) ?_) (ev_slS (v1 H6) (eo_some (v2 H6)) (eo_some (pl 1 H6)) lz) ?_) (ev_slS (v1 H6) (eo_some (pl 2 H6)) eo_none lz) ?_)) fun H7 e7 => fin _ H7 ((e5.trans e6).trans e7) ?_
          · intro hb
            have := of_decide_eq_true hb
            injection this with h
            omega
          · have := cl none (some (at_ : Nat)); have := cl (some ((at_ + 1 : Nat) : Int)) (some ((at_ + 2 : Nat) : Int)); omega
          · have := cl none (some (at_ : Nat)); have := cl (some ((at_ + 1 : Nat) : Int)) (some ((at_ + 2 : Nat) : Int)); have := cl (some ((at_ : Nat) : Int)) (some ((at_ + 1 : Nat) : Int)); rw [slen]; omega
          · have := cl none (some (at_ : Nat)); have := cl (some ((at_ + 1 : Nat) : Int)) (some ((at_ + 2 : Nat) : Int)); have := cl (some ((at_ : Nat) : Int)) (some ((at_ + 1 : Nat) : Int)); have := cl (some ((at_ + 2 : Nat) : Int)) none; rw [slen, slen]; omega
          · rw [tl_append, tl_append, tl_append, tl_cutTo, tl_cutFrom, tl_cut, tl_cut, show at_ + 2 - (at_ + 1) = 1 by omega, show at_ + 1 - at_ = 1 by omega]
            exact near_swap ha'
end
end K93

set_option Elab.async false
set_option linter.all false
set_option maxRecDepth 100000
set_option maxHeartbeats 4000000
namespace K93
open PySem PySem.Spec PyProof.Rows L2 TL Rx Mx Evl Ey
theorem pe_caught {X : Cx} {K0 : PySem.W.Frag} {LE c Pt : Addr} {T : List (Addr × Str)} {k : Nat} {params : Arguments} {body : Expr} {scope : Scope} {t : XK → TE} {p lpos pos : Pos} (a : At X.K X.mg 21 "_law_caught") (hle : X.mg "LeafError" = some (.ref LE)) (hg : Gl X "_law_caught")
    (TB : LamX.TabB X.base X.mg c Pt) (hcode : X.env.code = .ref c) (hmT : (Pt, X.env.qual ++ "<lambda>") ∈ T) (hu : ∀ p ∈ T, p.1 = Pt → p.2 = X.env.qual ++ "<lambda>") (hr : Room (k + 2) X.A) (L : LamX.LamS X.env.scope scope) (hdef : defaultsOf params X.env = ([], []))
    (hbind : ∀ (q : Str) (cl : List (Str × Addr)) (pm cv ctv : Value), bindArgs (PySem.W.kla_fn "<lambda>" q params body scope cl pm cv ctv) ⟨[], []⟩ = pure [])
    (hbody : ∀ (A : Around) (outer : List Env) (s : Shared) (H : Hp) (E : XK) (f c' : Addr), Room k (A.deeper (LamX.lamEnv X scope s.heap.objs.size f c')) → PE (LamX.lamCx X A outer s H E scope f c') body (t E)) (hK : X.K = K0 := by rfl) :
    PE X (.Call (.Name "_law_caught" p) [.Lambda params body scope lpos] [] pos) (LamX.tLam T (TCaught K0 LE) t) := by
  subst hK
  obtain ⟨f, fd, F, hm⟩ := a.ex
  have b : L2.Binds X.K fd ["work"] [] := F.bindsN (fun _ _ _ _ _ _ us hl => match us, hl with | [_], _ => rfl)
  have kp := F.kp
  obtain ⟨oc, od, dV, kV, doc, pm, an, cdv, ct, osl, rfl, lk, hcd, hD, hK⟩ := F.ex
  exact LamX.pe_lamcall (g := f) (a := "work") (Ng := caughtN) (sg := defScope (topS 21)) hg hm kp lk hcd b scCaught rfl (.inl rfl) (caught_gives hle) TB hcode hmT hu hr L hdef hbind hbody
/-- the code object of the text's i-th statement -/
structure AtC (K : PySem.W.Frag) (mg : Str → Option Value) (i : Nat) (x : Str) (c : Addr) : Prop where
  ex : ∃ (f : Addr) (oc : Value) (od : Option Addr) (kV doc pm : Value) (an : Option Addr) (ct : Value) (osl : Array (Option Value)), K.lookup f = some ⟨oc, od, .func (PySem.W.fnOf x x (defArgs (topS i)) (defBody (topS i)) (defScope (topS i)) .none kV doc pm an (.ref c) ct), osl⟩ ∧
    PySem.W.codeIn K (.ref c) x = true ∧ mg x = some (.ref f) ∧ PySem.W.keepIn K (.ref f) = true
section
variable {P : Program} {w : World} {K : PySem.W.Frag} {mg : Str → Option Value} {base : Heap} {LE BS BT : Addr} {CX : CXT}
theorem cl_mkC {i : Nat} {x : Str} {c : Addr} {N ps : List Str} {k : Nat} {sp : Sp} (a : AtC K mg i x c) (S : FnScope N ps (defScope (topS i))) (len : ∀ vs H Q E, sp vs H Q E → vs.length = ps.length)
    (hb : ∀ (kV doc pm : Value) (an : Option Addr) (cdv ct : Value) (us : List Value), us.length = ps.length → bindArgs (PySem.W.fnOf x x (defArgs (topS i)) (defBody (topS i)) (defScope (topS i)) .none kV doc pm an cdv ct) ⟨us, []⟩ = pure (ps.zip us))
    (hbody : ∀ (f : Addr) (A : Around) (outer : List Env) (s : Shared) (H : Hp) (vs : List V) (Q : VK) (E : XK), Room k (A.deeper (envOfC x (defScope (topS i)) s.heap.objs.size f (.ref c))) → sp vs H Q E →
      ∃ t, PSs (cxOf CX P w K mg base N x (defScope (topS i)) f (.ref c) A outer s H E) (defBody (topS i)) t ∧ t { nx := fun _ H' => Q .non H', rt := Q } (start N vs) H) :
    ∃ (f : Addr) (fd : FuncData), FnOk P w K mg base CX (k + 1) f fd ps sp ∧ mg x = some (.ref f) ∧ PySem.W.keepIn K (.ref f) = true ∧ ∀ (s : Shared) (us : List Value), us.length = ps.length → BindsTo s fd ⟨us, []⟩ (ps.zip us) := by
  obtain ⟨f, oc, od, kV, doc, pm, an, ct, osl, lk, hcd, g, kp⟩ := a.ex
  exact ⟨f, _, fn_of lk hcd S len fun A outer s H vs Q E hr h => hbody f A outer s H vs Q E hr h, g, kp, fun s us hl => .of_eq (hb kV doc pm an (.ref c) ct us hl)⟩
/-! ### _law_k93_long -/
theorem rep_all {p : Nat → Bool} {l : List Nat} (h : l.all p = true) : ∀ n, (List.replicate n l).flatten.all p = true
  | 0 => rfl
  | n + 1 => by rw [List.replicate_succ, List.flatten_cons, List.all_append, h, rep_all h n]; rfl
theorem rep_len (l : List Nat) : ∀ n, (List.replicate n l).flatten.length = n * l.length
  | 0 => by simp
  | n + 1 => by rw [List.replicate_succ, List.flatten_cons, List.length_append, rep_len l n, Nat.add_mul]; omega
abbrev qL : Str := "_law_k93_long.<locals>.<lambda>"
def spLong (T : List (Addr × Str)) : Sp := fun vs H Q _ => vs = [] ∧ LamX.Tabs T H ∧ ∀ H', LamX.ExtN H H' → LamX.Tabs T H' → Q (.bl true) H'
theorem sc_lg : FnScope ["text"] [] (defScope (topS 26)) := ⟨rfl, rfl, rfl, by decide +kernel, rfl, by decide +kernel, by decide +kernel⟩
theorem cl_long {T0 : List (Addr × Str)} {c Pt : Addr} (T : Tx K mg LE BS BT) (a : AtC K mg 26 "_law_k93_long" c) (a2 : At K mg 21 "_law_caught") (TB : LamX.TabB base mg c Pt) (hT : (Pt, qL) ∈ T0) (hu : ∀ p ∈ T0, p.1 = Pt → p.2 = qL)
    (c1 : Cl P w K mg base (L2.CX P w) 3 "sealed" (spSealed K BT)) (c2 : Cl P w K mg base (L2.CX P w) 3 "unsealed" (spUnsealed K BS)) : Cl P w K mg base CX0 6 "_law_k93_long" (spLong T0) := by
  suffices key : ∃ (f : Addr) (fd : FuncData), FnOk P w K mg base CX0 6 f fd [] (spLong T0) ∧ mg "_law_k93_long" = some (.ref f) ∧ PySem.W.keepIn K (.ref f) = true ∧ ∀ (s : Shared) (us : List Value), us.length = 0 → BindsTo s fd ⟨us, []⟩ ([].zip us) by
    obtain ⟨f, fd, h, g, kp, b⟩ := key
    exact ⟨f, fd, [], h, g, kp, fun s us _ hl => by
      cases us with
      | nil => exact b s [] rfl
      | cons u r => simp at hl⟩
  refine cl_mkC (sp := spLong T0) (k := 5) a sc_lg (fun vs H Q E h => congrArg List.length h.1) (fun _ _ _ _ _ _ us hl => match us, hl with | [], _ => rfl) (fun f A outer s H vs Q E hr h => ?_)
  obtain ⟨rfl, ht, q⟩ := h
  refine ⟨_, PSs.nox (pss_cons (ps_set (i := 0) sc_lg.nd rfl (.inr rfl) (pe_op op_add_str (pe_op op_mulS pe_str pe_int) pe_str))
    (pss_one (ps_ret (pe_and (pe_cmpR op_eq (pe_clX c2 hr (by decide) (by rfl) LamX.takes0 (pa_cons (pe_clX c1 hr (by decide) (by rfl) LamX.takes0 (pa_cons (pe_var (i := 0) rfl (.inr (.inl rfl))) pa_nil)) pa_nil)) (pe_var (i := 0) rfl (.inr (.inl rfl))) (nomark _))
      (pe_one (pe_callB call_isX (by rfl) T.isinstance boot_isinstance (pa_cons (pe_caught (K0 := K) (T := T0) (k := 3) a2 T.le (by rfl) TB rfl hT hu hr (LamX.lamS_by (sc := defScope (topS 26)) (by decide +kernel)) rfl (fun _ _ _ _ _ => rfl)
        (fun A outer s H E f c' hr => pe_clX c1 hr (by decide) (by rfl) (takes_of rfl rfl rfl rfl) (pa_cons (pe_op op_add_str (pe_var (i := 0) rfl (.inr (.inr rfl))) pe_str) pa_nil))) (pa_cons (pe_const (v := .ref BT) (by rfl) ⟨_, T.bt.g, rfl⟩) pa_nil)))))))), ?_⟩
  refine ⟨_, 333333, rfl, rfl, by decide, by decide, by decide, fun z hz => ⟨_, _, rfl, rfl, ?_, ?_⟩⟩
  · rw [len_tl, hz, rep_len, sizeLine_eq]
    decide
  have lz : (z ++ (Str.ofString "c")).length = 1000000 := by
    rw [slen, len_tl, hz, rep_len]
    decide
  have az : (tl (z ++ (Str.ofString "c"))).all lineOk = true := by
    rw [tl_append, List.all_append, hz, rep_all (by decide)]
    decide
  generalize z ++ (Str.ofString "c") = x at lz az
  have sx : Sealable (tl x) := ⟨by rw [← len_tl]; omega, az⟩
  have tz : ∀ H1, Ex H H1 → LamX.Tabs T0 H1 := fun H1 e => ht.ext e
  refine ⟨_, rfl, .inl ⟨x, rfl, by omega, fun _ y H1 hy e1 => ?_, fun hs => absurd (sealB_iff.mpr sx) (by rw [hs]; decide)⟩⟩
  refine .inl ⟨y, rfl, ?_, fun u H2 su hu2 e2 => ?_, fun hn => absurd ⟨tl x, sx, hy⟩ hn⟩
  · rw [len_tl, hy]
    unfold sealL
    have := numL_len (n := sumP (tl x)) (k := 10) (by decide) (Nat.lt_trans (sumP_lt _) (by decide))
    have : sm.length = 4 := rfl
    rw [List.length_append, List.length_cons, List.length_append, ← len_tl]
    omega
  · have eu : u = x := ext_tl (seal_inj (hu2.symm.trans hy))
    subst eu
    refine ⟨_, rfl, rfl, true, ?_, ?_⟩
    · exact congrArg V.bl (decide_eq_true rfl)
    · rw [if_pos rfl]
      refine ⟨(tz H1 e1).ext e2, fun H3 e3 t3 => ⟨_, rfl, _, _, rfl, rfl, ?_, ?_⟩⟩
      · have : (Str.ofString "d").length = 1 := rfl
        rw [sizeLine_eq]
        omega
      · have ld : (u ++ (Str.ofString "d")).length = 1000001 := by
          rw [slen, lz]
          rfl
        refine .inl ⟨_, rfl, by omega, fun hs => absurd (sealB_iff.mp hs).1 (by rw [← len_tl]; omega), fun _ H4 e4 => ⟨T.bt.e, fun a ha => ?_⟩⟩
        refine .inl ⟨a, BT, .ref BT, _, true, rfl, upd_same, T.bt.c, .own BT, T.bt.o, ?_⟩
        have e5 : Ex H3 (upd H4 a (ExV (.ref BT) none a)) := e4.trans (Ex.new ha)
        exact q _ (((LamX.ExtN.of (e1.trans e2)).trans e3).trans (LamX.ExtN.of e5)) (t3.ext e5)
end
end K93

set_option Elab.async false
set_option linter.all false
set_option maxRecDepth 100000
set_option maxHeartbeats 4000000
namespace K93
open PySem PySem.Spec PyProof.Rows L2 TL Rx Mx Evl Ey
theorem seal_len (l : List Nat) : l.length ≤ (sealL l).length ∧ (sealL l).length ≤ l.length + 15 := by
  unfold sealL
  have := numL_len (n := sumP l) (k := 10) (by decide) (Nat.lt_trans (sumP_lt _) (by decide))
  have : sm.length = 4 := rfl
  rw [List.length_append, List.length_cons, List.length_append]
  omega
theorem near_len {L R : List Nat} (h : Near L R) : R.length ≤ L.length + 1 := by
  obtain ⟨U, M, N, W, rfl, rfl, ⟨a, b, rfl, rfl⟩ | ⟨a, rfl, rfl⟩ | ⟨b, rfl, rfl⟩ | ⟨a, b, rfl, rfl⟩⟩ := h <;> simp <;> omega
/-- a changed text is no sealed text -/
theorem near_bad {B R : List Nat} (h : Near (sealL B) R) (hB : B.all lineOk = true) (lB : B.length ≤ 60) (hne : R ≠ sealL B) : ¬ ∃ C, Sealable C ∧ R = sealL C := by
  rintro ⟨C, sC, e⟩
  have l1 := near_len h
  have l2 := seal_len B
  have l3 := seal_len C
  rw [e] at l1
  obtain ⟨U, M, N, W, e1, e2, ed⟩ := h
  have := noticed ed hB sC.2 lB (by omega) e1.symm (e2.symm.trans e)
  exact hne (e2.trans (this.trans e1.symm))
section
variable {P : Program} {w : World} {K : PySem.W.Frag} {mg : Str → Option Value} {base : Heap} {LE BS BT : Addr} {T0 : List (Addr × Str)}
theorem tabs_kp {d g c : Addr} {t : Nat} {H H' : Hp} (st : StAt H d g c t) (k : Kp d g H H') (h : LamX.Tabs T0 H) : LamX.Tabs T0 H' := fun p hp => by
  obtain ⟨gs, cs, l, u, a1, a2, a3, _⟩ := st
  obtain ⟨ps, b1, b2, b3⟩ := h p hp
  refine ⟨ps, k _ _ (fun z => ?_) (fun z => ?_) b1, b2, fun pos cv hc => ?_⟩
  · rw [z, a1] at b1; cases b1
  · rw [z, a2] at b1; cases b1
  · obtain ⟨c', e1, e2⟩ := b3 pos cv hc
    refine ⟨c', e1, k _ _ (fun z => ?_) (fun z => ?_) e2⟩
    · rw [z, a1] at e2
      unfold LamX.CodeO at e2
      cases e2
    · rw [z, a2] at e2
      unfold LamX.CodeO at e2
      cases e2
theorem StAt.extN {H H' : Hp} {d g c : Addr} {t : Nat} (e : LamX.ExtN H H') (h : StAt H d g c t) : StAt H' d g c t := by
  obtain ⟨gs, cs, l, u, h1, h2, h3, h4⟩ := h
  exact ⟨gs, cs, l, u, e _ _ h1 (fun _ z => by cases z), e _ _ h2 (fun _ z => by cases z), e _ _ h3 (fun _ z => by cases z), h4⟩
theorem q_asgR {te : TE} {i : Nat} {tz : TS} {D : Ends} {σ : L2.St} {H : Hp} (h : te σ H fun x H1 => tz D (σ.set i (some x)) H1) : tSeq (tAsg te (gName i)) tz D σ H := h
theorem s_asgR {te : TE} {i : Nat} {D : Ends} {σ : L2.St} {H : Hp} (h : te σ H fun x H1 => D.nx (σ.set i (some x)) H1) : tAsg te (gName i) D σ H := h
theorem g_name {i : Nat} {x : V} {σ : L2.St} {H : Hp} {Q : L2.St → Hp → Prop} (h : Q (σ.set i (some x)) H) : gName i x σ H Q := h
/-- a test that is False in the end, whatever it does on its way -/
theorem q_whenF {t : TT} {tu tz : TS} {D : Ends} {σ : L2.St} {H : Hp} (R : Hp → Prop) (h : ∀ Q : Bool → Hp → Prop, (∀ H1, R H1 → Q false H1) → t σ H Q) (k : ∀ H1, R H1 → tz D σ H1) : tSeq (tIfS t tu tNext) tz D σ H :=
  h _ fun H1 r => k H1 r
theorem s_whenF {t : TT} {tu : TS} {D : Ends} {σ : L2.St} {H : Hp} (R : Hp → Prop) (h : ∀ Q : Bool → Hp → Prop, (∀ H1, R H1 → Q false H1) → t σ H Q) (k : ∀ H1, R H1 → D.nx σ H1) : tIfS t tu tNext D σ H :=
  h _ fun H1 r => k H1 r
/-- isinstance(_law_caught(lambda: ..), C), where the lambda raises just C -/
theorem caught_is {x : Str} {BX : Addr} {σ : L2.St} {H : Hp} {t : XK → TE} {Q : VK} (xc : Xc K mg x BX LE) (ht : LamX.Tabs T0 H) (hraise : ∀ H1, LamX.ExtN H H1 → LamX.Tabs T0 H1 → ∀ (E : XK) (Q' : VK), (∀ H2, Ex H1 H2 → E (.ref BX) none H2) → t E σ H1 Q')
    (k : ∀ H2, LamX.ExtN H H2 → LamX.Tabs T0 H2 → Q (.bl true) H2) : tCB (rIsX K) (tCons (LamX.tLam T0 (TCaught K LE) t) (tCons (tC (.ref BX)) tNil)) σ H Q := by
  refine ⟨ht, fun H1 e1 t1 => hraise H1 e1 t1 _ _ fun H2 e2 => ⟨xc.e, fun a ha => ?_⟩⟩
  refine .inl ⟨a, BX, .ref BX, _, true, rfl, upd_same, xc.c, .own BX, xc.o, ?_⟩
  have e3 : Ex H1 (upd H2 a (ExV (.ref BX) none a)) := e2.trans (Ex.new ha)
  exact k _ (e1.trans (LamX.ExtN.of e3)) (t1.ext e3)
/-- not that, as a test -/
theorem caught_not {x : Str} {BX : Addr} {σ : L2.St} {H : Hp} {t : XK → TE} {Q : Bool → Hp → Prop} (xc : Xc K mg x BX LE) (ht : LamX.Tabs T0 H) (hraise : ∀ H1, LamX.ExtN H H1 → LamX.Tabs T0 H1 → ∀ (E : XK) (Q' : VK), (∀ H2, Ex H1 H2 → E (.ref BX) none H2) → t E σ H1 Q')
    (k : ∀ H2, LamX.ExtN H H2 ∧ LamX.Tabs T0 H2 → Q false H2) : tNot (tB (tCB (rIsX K) (tCons (LamX.tLam T0 (TCaught K LE) t) (tCons (tC (.ref BX)) tNil)))) σ H Q :=
  caught_is xc ht hraise fun H2 e t => ⟨true, rfl, k H2 ⟨e, t⟩⟩
/-- a value that neither sealed nor unsealed takes -/
def WrongV (K : PySem.W.Frag) (H : Hp) (v : V) : Prop := NoText K H v ∨ ∃ z : Str, v = .str z ∧ z.length ≤ 1000 ∧ sealB (tl z) = false ∧ ¬ ∃ C, Sealable C ∧ tl z = sealL C
theorem ev_kw {sp : Sp} {E : XK} {ta : TA} {σ : L2.St} {H : Hp} {u v : V} (h : EvA ta σ H [u]) (hs : SpV sp [u] H v) : Ev (fun σ H Q => ta σ H fun zs H1 => ∃ z, zs = [z] ∧ sp [z] H1 Q E) σ H v := fun H1 e Q q =>
  h H1 e _ fun H2 e2 => ⟨u, rfl, hs H2 (e.trans e2) Q (fun H3 e3 => q H3 (e2.trans e3)) E⟩
theorem sealed_raise {σ : L2.St} {H1 : Hp} {E : XK} {Q : VK} {j : Nat} {v : V} (hv : σ[j]? = some (some v)) (hw : WrongV K H1 v) (hE : ∀ H2, Ex H1 H2 → E (.ref BT) none H2) : tCallS (spSealed K BT) (WE fun cls d _ H => E cls d H) (tCons (tVar j) tNil) σ H1 Q := by
  refine ⟨v, hv, ?_⟩
  rcases hw with n | ⟨z, rfl, hz, hs, hn⟩
  · exact .inr ⟨v, rfl, n, hE⟩
  · exact .inl ⟨z, rfl, by omega, fun h => (by rw [hs] at h; cases h), fun _ H2 e2 => hE H2 e2⟩
theorem unsealed_raise {σ : L2.St} {H1 : Hp} {E : XK} {Q : VK} {j : Nat} {v : V} (hv : σ[j]? = some (some v)) (hw : NoText K H1 v ∨ ∃ z : Str, v = .str z ∧ z.length ≤ 1000 ∧ ¬ ∃ C, Sealable C ∧ tl z = sealL C) (hE : ∀ H2, Ex H1 H2 → E (.ref BS) none H2) : tCallS (spUnsealed K BS) (WE fun cls d _ H => E cls d H) (tCons (tVar j) tNil) σ H1 Q := by
  refine ⟨v, hv, ?_⟩
  rcases hw with n | ⟨z, rfl, hz, hn⟩
  · exact .inr ⟨v, rfl, n, hE⟩
  · exact .inl ⟨z, rfl, by omega, fun y H2 sy hy => absurd ⟨tl y, sy, hy⟩ hn, fun _ H2 e2 => hE H2 e2⟩
end
/-- a text without an end of a line is no sealed text -/
theorem not_seal_no10 {l : List Nat} (h : 10 ∉ l) : ¬ ∃ C, Sealable C ∧ l = sealL C := by
  rintro ⟨C, _, rfl⟩
  exact h (by unfold sealL; simp)
end K93

set_option Elab.async false
set_option linter.all false
set_option maxRecDepth 100000
set_option maxHeartbeats 4000000
namespace K93
open PySem PySem.Spec PyProof.Rows L2 TL Rx Mx Evl Ey
theorem boot_min' : bootBuiltins ("min" : Str) = some (.builtin "min") := by decide +kernel
abbrev qW : Str := "law.<locals>.<lambda>"
theorem sqL_of {K : PySem.W.Frag} {H H' : Hp} {a : Addr} {xs : List V} (k : ∀ o, H a = some o → (∀ ps, o ≠ .tbl ps) → H' a = some o) (h : SqL K H a xs) : SqL K H' a xs := by
  rcases h with (h | ⟨o, h⟩) | h
  · exact .inl (.inl (k _ h fun _ z => by cases z))
  · exact .inl (.inr ⟨o, k _ h fun _ z => by cases z⟩)
  · exact .inr h
theorem seal_no {l B T : List Nat} (e : l = B ++ 10 :: T) (n : 10 ∉ T) (h : ¬ (sealB B = true ∧ T.take 4 = sm ∧ toldV (T.drop 4) = .int (sumP B : Nat))) : ¬ ∃ C, Sealable C ∧ l = sealL C := fun z => h ((seal_parts e n).mp z)
def oddL : List Str := ["", "sum 0", "\nsum 00", "a\nsum", "\nsum 0 ", "\nSum 0", "\nsum -0"]
theorem odd_bad : ∀ z ∈ oddL, z.length ≤ 1000 ∧ ¬ ∃ C, Sealable C ∧ tl z = sealL C := by
  intro z hz
  unfold oddL at hz
  simp only [List.mem_cons, List.not_mem_nil, or_false] at hz
  rcases hz with rfl | rfl | rfl | rfl | rfl | rfl | rfl
  · exact ⟨by decide, not_seal_no10 (by decide +kernel)⟩
  · exact ⟨by decide, not_seal_no10 (by decide +kernel)⟩
  · exact ⟨by decide, seal_no (B := []) (T := [115, 117, 109, 32, 48, 48]) (by decide +kernel) (by decide) (by decide +kernel)⟩
  · exact ⟨by decide, seal_no (B := [97]) (T := [115, 117, 109]) (by decide +kernel) (by decide) (by decide +kernel)⟩
  · exact ⟨by decide, seal_no (B := []) (T := [115, 117, 109, 32, 48, 32]) (by decide +kernel) (by decide) (by decide +kernel)⟩
  · exact ⟨by decide, seal_no (B := []) (T := [83, 117, 109, 32, 48]) (by decide +kernel) (by decide) (by decide +kernel)⟩
  · exact ⟨by decide, seal_no (B := []) (T := [115, 117, 109, 32, 45, 48]) (by decide +kernel) (by decide) (by decide +kernel)⟩
def wrongL (p : Addr) : List V := [.non, .int 5, .ref p, .str "a\tb", .str "\t"]
theorem wrong_all {K : PySem.W.Frag} {H : Hp} {p : Addr} {xs : List V} (hp : H p = some (.lst xs)) : ∀ v ∈ wrongL p, WrongV K H v := by
  intro v hv
  unfold wrongL at hv
  simp only [List.mem_cons, List.not_mem_nil, or_false] at hv
  rcases hv with rfl | rfl | rfl | rfl | rfl
  · exact .inl ⟨_, .base .non, kit_ty (by decide +kernel)⟩
  · exact .inl ⟨_, .base (.int 5), kit_ty (by decide +kernel)⟩
  · exact .inl ⟨_, .base (.lst hp), kit_ty (by decide +kernel)⟩
  · exact .inr ⟨_, rfl, by decide, by decide +kernel, not_seal_no10 (by decide +kernel)⟩
  · exact .inr ⟨_, rfl, by decide, by decide +kernel, not_seal_no10 (by decide +kernel)⟩
theorem WrongV.un {K : PySem.W.Frag} {H : Hp} {v : V} (h : WrongV K H v) : NoText K H v ∨ ∃ z : Str, v = .str z ∧ z.length ≤ 1000 ∧ ¬ ∃ C, Sealable C ∧ tl z = sealL C := by
  rcases h with h | ⟨z, a, b, _, d⟩
  · exact .inl h
  · exact .inr ⟨z, a, b, d⟩
def lcSc : Scope := { kind := .function, names := [(PySem.Str.ofString ".0", .local), (PySem.Str.ofString "one", .cell), (PySem.Str.ofString "isinstance", .globalImplicit), (PySem.Str.ofString "_law_caught", .globalImplicit), (PySem.Str.ofString "BadSum", .globalImplicit)], isGenerator := false, isCoroutine := false, more := [] }
def lamSc : Scope := { kind := .function, names := [(PySem.Str.ofString "one", .free), (PySem.Str.ofString "unsealed", .globalImplicit)], isGenerator := false, isCoroutine := false, more := [] }
abbrev N_lw : List Str := ["script", "state", "lap", "text", "told", "turn", "error", "odd", "other", "wrong", "one"]
theorem sc_lw : FnScope N_lw ["script"] (defScope (topS 27)) := ⟨rfl, rfl, rfl, by decide +kernel, rfl, by decide +kernel, by decide +kernel⟩
section
variable {P : Program} {w : World} {K : PySem.W.Frag} {mg : Str → Option Value} {base : Heap} {LE BS BT : Addr}
def spLaw (K : PySem.W.Frag) (T : List (Addr × Str)) : Sp := fun vs H Q _ => ∃ (a : Addr) (ns : List Int), vs = [.ref a] ∧ SqL K H a (ns.map V.int) ∧ ns.length ≤ 63 ∧ LamX.Tabs T H ∧ ∀ H', Q (.bl true) H'
theorem passes0 {X : Cx} : Passes (L2.CX X.prog X.w) X E0 := passes_call LamX.takes0 (fun _ _ _ _ h => h)
set_option maxHeartbeats 40000000 in
theorem ok_law {T0 : List (Addr × Str)} {f c Pt : Addr} {oc kV doc pm ct : Value} {od an : Option Addr} {osl : Array (Option Value)} (T : Tx K mg LE BS BT)
    (lk : K.lookup f = some ⟨oc, od, .func (PySem.W.fnOf "law" "law" (defArgs (topS 27)) (defBody (topS 27)) (defScope (topS 27)) .none kV doc pm an (.ref c) ct), osl⟩) (hcd : PySem.W.codeIn K (.ref c) "law" = true)
    (a2 : At K mg 21 "_law_caught") (TB : LamX.TabB base mg c Pt) (hT : (Pt, qW) ∈ T0) (hu : ∀ p ∈ T0, p.1 = Pt → p.2 = qW)
    (o1 : OkD P w K mg base (L2.CX P w) 3 13 "sealed" ["text"] (spSealed K BT)) (o2 : OkD P w K mg base (L2.CX P w) 3 15 "unsealed" ["text"] (spUnsealed K BS))
    (c1 : Cl P w K mg base (L2.CX P w) 3 "sealed" (spSealed K BT)) (c2 : Cl P w K mg base (L2.CX P w) 3 "unsealed" (spUnsealed K BS)) (cB : Cl P w K mg base CX0 1 "_law_begun" (spBegun K)) (cD : Cl P w K mg base CX0 2 "_law_draw" spDraw)
    (cL : Cl P w K mg base CX0 6 "_law_k93_long" (spLong T0)) (cT : Cl P w K mg base CX0 4 "_law_k93_text" spText) (cS : Cl P w K mg base CX0 1 "_law_k93_sum" spSumOf) (cN : Cl P w K mg base CX0 4 "_law_k93_near" spNear) :
    FnOk P w K mg base CX0 7 f (PySem.W.fnOf "law" "law" (defArgs (topS 27)) (defBody (topS 27)) (defScope (topS 27)) .none kV doc pm an (.ref c) ct) ["script"] (spLaw K T0) := by
  refine fn_of lk hcd sc_lw (fun vs H Q E h => ?_) (fun A outer s H vs Q E hr h => ?_)
  · obtain ⟨a, ns, rfl, _⟩ := h
    rfl
  obtain ⟨a, ns, rfl, ha, hn, ht, q⟩ := h
  have nd := sc_lw.nd
  refine ⟨_, PSs.nox (pss_cons (ps_set (i := 1) nd rfl (.inl rfl) (pe_cl cB hr (by decide) (by rfl) (pa_cons (pv 0) pa_nil)))
    (pss_cons (ps_if (PW.pt (pw_and (pt_cmpR op_eq (pe_cl cD hr (by decide) (by rfl) (pa_cons (pv 1) (pa_cons pe_int pa_nil))) pe_int (nomark _)) (pw_and1 (pt_not (pt_val (pe_cl0 cL hr (by decide) (by rfl))))))) (pss_one (ps_ret pe_bl)) pss_nil)
    (pss_cons (ps_for PassesOwn.never rfl (pi_range1 (by rfl) T.range (pa_cons (pe_op op_add pe_int (pe_callB (call_min2 rfl) (by rfl) T.min boot_min' (pa_cons pe_int (pa_cons (pe_op op_mul pe_int (pe_callB call_len (by rfl) T.len PySem.boot_len (pa_cons (pv 0) pa_nil))) pa_nil)))) pa_nil)) (pg_name (i := 2) nd rfl (.inl rfl))
      (pss_cons (ps_set (i := 3) nd rfl (.inl rfl) (pe_cl cT hr (by decide) (by rfl) (pa_cons (pv 1) pa_nil)))
      (pss_cons (ps_set (i := 4) nd rfl (.inl rfl) (pe_clX c1 hr (by decide) (by rfl) LamX.takes0 (pa_cons (pv 3) pa_nil)))
      (pss_cons (ps_if (PW.pt (pw_or (pt_cmpR op_ne (pv 4) (pe_op op_add_str (pe_op op_add_str (pv 3) pe_str) (pe_callTy call_str_int (by rfl) T.str boot_str (pa_cons (pe_cl cS hr (by decide) (by rfl) (pa_cons (pv 3) pa_nil)) pa_nil))) (nomark _))
          (pw_or (pt_cmpR op_ne (pe_kw1 o2 hr (by decide) (by rfl) passes0 (pk_cons (pv 4) pk_nil) (fun _ _ _ _ _ _ _ => rfl)) (pv 3) (nomark _)) (pw_or1 (pt_cmpR op_ne (pe_kw1 o1 hr (by decide) (by rfl) passes0 (pk_cons (pv 3) pk_nil) (fun _ _ _ _ _ _ _ => rfl)) (pv 4) (nomark _)))))) (pss_one (ps_ret pe_bl)) pss_nil)
      (pss_cons (ps_for PassesOwn.never rfl (pi_range1 (by rfl) T.range (pa_cons pe_int pa_nil)) (pg_name (i := 5) nd rfl (.inl rfl))
        (pss_cons (ps_set (i := 8) nd rfl (.inr rfl) (pe_cl cN hr (by decide) (by rfl) (pa_cons (pv 1) (pa_cons (pv 4) pa_nil))))
        (pss_cons (ps_set (i := 6) nd rfl (.inl rfl) (pe_caught (K0 := K) (T := T0) (k := 4) a2 T.le (by rfl) TB rfl hT hu hr (LamX.lamS_by (sc := defScope (topS 27)) (by decide +kernel)) rfl (fun _ _ _ _ _ => rfl)
          (fun A outer s H E f c' hr => pe_clX c2 hr (by decide) (by rfl) (takes_of rfl rfl rfl rfl) (pa_cons (pe_var (i := 8) rfl (.inr (.inr rfl))) pa_nil))))
        (pss_one (ps_if (PW.pt (pw_or (PW.pt (pw_and (pt_cmpR op_ne (pe_var (i := 8) rfl (.inr (.inl rfl))) (pv 4) (nomark _)) (pw_and1 (pt_not (pt_val (pe_callB call_isX (by rfl) T.isinstance boot_isinstance (pa_cons (pv 6) (pa_cons (pe_const (v := .ref BS) (by rfl) ⟨_, T.bs.g, rfl⟩) pa_nil))))))))
          (pw_or1 (PW.pt (pw_and (pt_cmpR op_eq (pe_var (i := 8) rfl (.inr (.inl rfl))) (pv 4) (nomark _)) (pw_and1 (pt_cmpR op_notN (pv 6) pe_non (nomark _)))))))) (pss_one (ps_ret pe_bl)) pss_nil)))))
      (pss_one (ps_for PassesOwn.never rfl (pi_list (pe_lst (pa_cons pe_non (pa_cons pe_int (pa_cons (pe_lst (pa_cons (pv 3) pa_nil)) (pa_cons pe_str (pa_cons pe_str pa_nil))))))) (pg_name (i := 9) nd rfl (.inr rfl))
        (pss_cons (ps_if (pt_not (pt_val (pe_callB call_isX (by rfl) T.isinstance boot_isinstance (pa_cons (pe_caught (K0 := K) (T := T0) (k := 4) a2 T.le (by rfl) TB rfl hT hu hr (LamX.lamS_by (sc := defScope (topS 27)) (by decide +kernel)) rfl (fun _ _ _ _ _ => rfl)
          (fun A outer s H E f c' hr => pe_clX c1 hr (by decide) (by rfl) (takes_of rfl rfl rfl rfl) (pa_cons (pe_var (i := 9) rfl (.inr (.inr rfl))) pa_nil))) (pa_cons (pe_const (v := .ref BT) (by rfl) ⟨_, T.bt.g, rfl⟩) pa_nil))))) (pss_one (ps_ret pe_bl)) pss_nil)
        (pss_one (ps_if (pt_not (pt_val (pe_callB call_isX (by rfl) T.isinstance boot_isinstance (pa_cons (pe_caught (K0 := K) (T := T0) (k := 4) a2 T.le (by rfl) TB rfl hT hu hr (LamX.lamS_by (sc := defScope (topS 27)) (by decide +kernel)) rfl (fun _ _ _ _ _ => rfl)
          (fun A outer s H E f c' hr => pe_clX c2 hr (by decide) (by rfl) (takes_of rfl rfl rfl rfl) (pa_cons (pe_var (i := 9) rfl (.inr (.inr rfl))) pa_nil))) (pa_cons (pe_const (v := .ref BS) (by rfl) ⟨_, T.bs.g, rfl⟩) pa_nil))))) (pss_one (ps_ret pe_bl)) pss_nil))))))))))
    (pss_cons (ps_set (i := 7) nd rfl (.inl rfl) (pe_lst (pa_cons pe_str (pa_cons pe_str (pa_cons pe_str (pa_cons pe_str (pa_cons pe_str (pa_cons pe_str (pa_cons pe_str pa_nil)))))))))
    (pss_one (ps_ret (pe_and (pe_cmpR (op_eqD hr.units) (pe_lc (X := (cxOf CX0 P w K mg base N_lw "law" (defScope (topS 27)) f (.ref c) A outer s H E).nox) (scope := lcSc) (own := [("one", 10)]) (g := gName 10) rfl nd (pi_list (pv 7)) (blkOk_by (N := N_lw) (sc := defScope (topS 27)) (by decide +kernel))
        (fun _ _ _ _ _ => pg_name (i := 10) nd rfl (.inr rfl)) (fun s1 H1 C1 cl1 fp1 => pts_one (pt_not (pt_val (pe_callB (r := rIsX K) call_isX (by rfl) T.isinstance boot_isinstance (pa_cons (pe_caught (K0 := K) (X := ((cxOf CX0 P w K mg base N_lw "law" (defScope (topS 27)) f (.ref c) A outer s H E).nox).blk s1 H1 lcSc (compEnvC lcSc cl1 C1 ((cxOf CX0 P w K mg base N_lw "law" (defScope (topS 27)) f (.ref c) A outer s H E).nox).env) fp1) (scope := lamSc) (T := T0) (k := 4) a2 T.le (by rfl) TB rfl hT hu hr (LamX.lamS_by (by rfl)) rfl (fun _ _ _ _ _ => rfl)
          (fun A outer s H E f c' hr => pe_clX c2 hr (by decide) (by rfl) (takes_of rfl rfl rfl rfl) (pa_cons (pe_var (i := 10) rfl (.inr (.inr rfl))) pa_nil))) (pa_cons (pe_const (v := .ref BS) (by rfl) ⟨_, T.bs.g, rfl⟩) pa_nil))))))
        (fun _ _ _ _ _ => pe_var (i := 10) rfl (.inr (.inl rfl)))) (pe_lst pa_nil) (nomark _)) (pe_one (pe_cmpR op_eq (pe_clX c2 hr (by decide) (by rfl) LamX.takes0 (pa_cons pe_str pa_nil)) pe_str (nomark _)))))))))), ?_⟩
  refine q_asgR ?_
  refine ⟨_, rfl, a, ns, rfl, ha, hn, fun d g c0 H1 hd hg e1 st => ?_⟩
  have ha1 := ex_l e1 ha
  refine q_whenF (fun H3 => LamX.Tabs T0 H3 ∧ StAt H3 d g c0 1 ∧ SqL K H3 a (ns.map V.int)) (fun Q k => ?_) (fun H3 r => ?_)
  · refine ⟨_, rfl, d, g, c0, 0, 6, rfl, st, by omega, by decide, by decide, fun r H2 hr2 kp2 st2 => ⟨rfl, _, rfl, ?_⟩⟩
    have hk : ∀ o, H a = some o → H2 a = some o := fun o h => kp2 a o (ne_of_none h hd) (ne_of_none h hg) (e1 _ _ h)
    have ht2 : LamX.Tabs T0 H2 := tabs_kp st kp2 (ht.ext e1)
    refine ite2 (fun _ => ?_) (fun _ => k H2 ⟨ht2, st2, sqL_of (fun o h _ => hk o h) ha⟩)
    refine ⟨rfl, ht2, fun H3 e3 t3 => ⟨true, rfl, k H3 ⟨t3, st2.extN e3, sqL_of (fun o h n => e3 _ _ (hk o h) n) ha⟩⟩⟩
  · obtain ⟨ht3, st3, ha3⟩ := r
    have hcm : CMul 2 ((ns.map V.int).length : Int) := .inl ⟨by decide, by decide⟩
    refine q_forR1 (n := 10 + (if 2 * ((ns.map V.int).length : Int) < 50 then 2 * ((ns.map V.int).length : Int) else 50)) (ea_cons (ev_op ev_c (ev_cb (ea_cons ev_c (ea_cons (ev_op ev_c (ev_cb (ea_cons (ev_var rfl) ea_nil) (rc_of fun H4 e4 Q q => ⟨_, _, rfl, .inl ⟨_, ex_l e4 ha3, rfl⟩, q⟩)) (rv_I hcm)) ea_nil)) (rc_of fun _ _ Q q => ⟨_, _, rfl, q⟩)) rv_I0) ea_nil) ?_
      (fun i σ' H' => ∃ y2 y3 y4 y5 y6 y7 y8 y9 y10, σ' = [some (.ref a), some (.ref d), y2, y3, y4, y5, y6, y7, y8, y9, y10] ∧ LamX.Tabs T0 H' ∧ StAt H' d g c0 (1 + i * 104)) (fun H4 e4 => ⟨_, _, _, _, _, _, _, _, _, rfl, ht3.ext e4, st3.ext e4 (by omega)⟩) (fun i σ' H4 hi hP => ?_) (fun σ' H4 hP => ?_)
    · split <;> omega
    · obtain ⟨y2, y3, y4, y5, y6, y7, y8, y9, y10, rfl, ht4, st4⟩ := hP
      have hi' : i < 60 := by
        have := hi
        split at this <;> omega
      refine q_asgR ?_
      refine ⟨_, rfl, d, g, c0, _, rfl, st4, by omega, fun z H5 lz az kp5 st5 => ?_⟩
      have ht5 := tabs_kp st4 kp5 ht4
      have sz : Sealable (tl z) := ⟨by rw [← len_tl]; omega, az⟩
      refine q_asgR ?_
      refine ⟨_, rfl, .inl ⟨z, rfl, by omega, fun _ y H6 hy e6 => ?_, fun hs => absurd (sealB_iff.mpr sz) (by rw [hs]; decide)⟩⟩
      have ly : y.length ≤ 71 := by
        have := (seal_len (tl z)).2
        rw [len_tl, hy]
        rw [← len_tl] at this
        omega
      have ly0 : 0 < y.length := by
        rw [len_tl, hy]
        unfold sealL
        simp
        omega
      have hn1 : (numL (sumP (tl z))).length ≤ 10 := numL_len (by decide) (Nat.lt_trans (sumP_lt _) (by decide))
      have l5 : Str.length "\nsum " = 5 := by decide
      have el : y = z ++ "\nsum " ++ Str.ofString (toString ((sumP (tl z) : Nat) : Int)) := by
        apply ext_tl
        rw [hy, tl_append, tl_append, tl_num, show tl ("\nsum " : Str) = 10 :: sm from by decide]
        unfold sealL
        simp
      have l2 : (Str.ofString (toString ((sumP (tl z) : Nat) : Int))).length ≤ 10 := by rw [len_tl, tl_num]; exact hn1
      have v3 : ∀ H7, Ev (tVar 3) [some (.ref a), some (.ref d), some (.int i), some (.str z), some (.str y), y5, y6, y7, y8, y9, y10] H7 (.str z) := fun _ => ev_var rfl
      have v4 : ∀ H7, Ev (tVar 4) [some (.ref a), some (.ref d), some (.int i), some (.str z), some (.str y), y5, y6, y7, y8, y9, y10] H7 (.str y) := fun _ => ev_var rfl
      refine q_when (b := false) (et_is (et_or (et_test (ev_op (v4 _) (ev_op (ev_op (v3 _) ev_c (rv_of fun _ _ Q q => ⟨_, _, rfl, rfl, by rw [l5, sizeLine_eq]; omega, q⟩)) (ev_cb (ea_cons (ev_callS (z := .int (sumP (tl z) : Nat)) (ea_cons (v3 _) ea_nil) fun H2 e2 Q q E => ⟨z, rfl, by omega, q⟩) ea_nil) (rc_of fun _ _ Q q => ⟨_, rfl, log_small (sumP_lt _), q⟩)) (rv_of fun _ _ Q q => ⟨_, _, rfl, rfl, ?_, q⟩)) (rv_ne rfl)))
        fun _ => et_or (et_test (ev_op (x := .str z) (ev_kw (ea_cons (v4 _) ea_nil) fun H7 e7 Q q E => .inl ⟨y, rfl, by omega, fun u H8 su hu e8 => ?_, fun hn => absurd ⟨tl z, sz, hy⟩ hn⟩) (v3 _) (rv_ne rfl)))
        fun _ => et_test (ev_op (x := .str y) (ev_kw (ea_cons (v3 _) ea_nil) fun H7 e7 Q q E => .inl ⟨z, rfl, by omega, fun _ u H8 hu e8 => ?_, fun hs => absurd (sealB_iff.mpr sz) (by rw [hs]; decide)⟩) (v4 _) (rv_ne rfl))) ?_) (fun hb => by cases hb) (fun _ H7 e7 => ?_)
      · have l3 : (z ++ "\nsum ").length = z.length + 5 := by rw [slen, l5]
        rw [l3, sizeLine_eq]
        omega
      · rw [show u = z from ext_tl (seal_inj (hu.symm.trans hy))]
        exact q H8 e8
      · rw [show u = y from ext_tl (hu.trans hy.symm)]
        exact q H8 e8
      · rw [← el]
        simp
      · have ht7 := (ht5.ext e6).ext e7
        have st7 : StAt H7 d g c0 (1 + i * 104 + 80) := (st5.ext e6 (Nat.le_refl _)).ext e7 (Nat.le_refl _)
        refine q_forR1 (n := 6) (ea_cons ev_c ea_nil) ⟨by decide, by decide⟩ (fun j σ'' H' => ∃ y5 y6 y8, σ'' = [some (.ref a), some (.ref d), some (.int i), some (.str z), some (.str y), y5, y6, y7, y8, y9, y10] ∧ LamX.Tabs T0 H' ∧ StAt H' d g c0 (1 + i * 104 + 80 + j * 4))
          (fun H8 e8 => ⟨_, _, _, rfl, ht7.ext e8, st7.ext e8 (by omega)⟩) (fun j σ'' H8 hj hP => ?_) (fun σ'' H8 hP => ?_)
        · obtain ⟨y5, y6, y8, rfl, ht8, st8⟩ := hP
          have hj' : j < 6 := by omega
          refine q_asgR ?_
          refine ⟨_, rfl, _, rfl, d, g, c0, _, y, rfl, st8, by omega, by omega, by omega, fun x H9 nr kp9 st9 => ?_⟩
          have ht9 := tabs_kp st8 kp9 ht8
          refine q_asgR ?_
          refine ⟨ht9, fun H10 e10 t10 => ?_⟩
          rw [hy] at nr
          have lx : x.length ≤ 72 := by
            have := near_len nr
            rw [← hy, ← len_tl, ← len_tl] at this
            omega
          by_cases hx : x = y
          · subst hx
            refine ⟨_, rfl, .inl ⟨x, rfl, by omega, fun u H11 su hu e11 => ⟨.non, rfl, ?_⟩, fun hn => absurd ⟨tl z, sz, hy⟩ hn⟩⟩
            refine s_when (b := false) (et_is (et_or (et_and (b := false) (et_test (ev_op (ev_var rfl) (ev_var rfl) (rv_ne rfl))) fun hb => absurd hb (by simp)) fun _ => et_and (et_test (ev_op (ev_var rfl) (ev_var rfl) (rv_eq rfl))) fun _ => et_test (ev_op (ev_var rfl) ev_c (rv_of fun _ _ Q q => ⟨rfl, q⟩))) ?_) (fun hb => by cases hb) (fun _ H12 e12 => ?_)
            · simp
            · exact ⟨_, _, _, rfl, (t10.ext e11).ext e12, (((st9.extN e10).ext e11 (Nat.le_refl _)).ext e12 (by omega))⟩
          · have bad := near_bad nr az (by rw [← len_tl]; omega) (fun h => hx (ext_tl (h.trans hy.symm)))
            refine ⟨_, rfl, .inl ⟨x, rfl, by omega, fun u H11 su hu e11 => absurd ⟨tl u, su, hu⟩ bad, fun _ H11 e11 => ⟨T.bs.e, fun ae hae => ?_⟩⟩⟩
            have e11' : Ex H10 (upd H11 ae (ExV (.ref BS) none ae)) := e11.trans (Ex.new hae)
            refine s_when (b := false) (et_is (et_or (et_and (et_test (ev_op (ev_var rfl) (ev_var rfl) (rv_ne rfl))) fun _ => et_not (et_B (ev_cb (ea_cons (ev_var rfl) (ea_cons ev_c ea_nil)) (rc_of fun H12 e12 Q q => .inl ⟨ae, BS, .ref BS, _, true, rfl, e12 _ _ upd_same, T.bs.c, .own BS, T.bs.o, q⟩))))
              fun _ => et_and (b := false) (et_test (ev_op (ev_var rfl) (ev_var rfl) (rv_eq rfl))) fun hb => absurd hb (by simpa using hx)) ?_) (fun hb => by cases hb) (fun _ H12 e12 => ?_)
            · simp
            · exact ⟨_, _, _, rfl, (t10.ext e11').ext e12, (((st9.extN e10).ext e11' (Nat.le_refl _)).ext e12 (by omega))⟩
        · obtain ⟨y5, y6, y8, rfl, ht8, st8⟩ := hP
          refine ⟨_, rfl, by show 1 ≤ sizeLine; rw [sizeLine_eq]; decide, fun p1 hp1 => ⟨by show 5 ≤ sizeLine; rw [sizeLine_eq]; decide, fun p2 hp2 => ⟨p2, rfl, ⟨wrongL p1, sq_of upd_same⟩, ?_⟩⟩⟩
          have e8 : Ex H8 (upd (upd H8 p1 (.lst [.str z])) p2 (.lst (wrongL p1))) := (Ex.new hp1).trans (Ex.new hp2)
          refine for_list (xs := wrongL p1) (fun j σ'' H' => ∃ y9, σ'' = [some (.ref a), some (.ref d), some (.int i), some (.str z), some (.str y), y5, y6, y7, y8, y9, y10] ∧ LamX.Tabs T0 H' ∧ StAt H' d g c0 (1 + (i + 1) * 104) ∧ H' p1 = some (.lst [.str z]) ∧ H' p2 = some (.lst (wrongL p1)))
            ⟨_, rfl, ht8.ext e8, st8.ext e8 (by omega), Ex.new hp2 _ _ upd_same, upd_same⟩ (fun j σ'' H9 _ hP => ?_) (fun j x σ'' H9 hj hP => ?_) (fun σ'' H9 hP => ?_)
          · obtain ⟨_, _, _, _, _, h⟩ := hP
            exact sq_of h
          · obtain ⟨y9, rfl, ht9, st9, h1, h2⟩ := hP
            have hx := List.mem_of_getElem? hj
            refine g_name ?_
            refine q_whenF (fun H10 => LamX.ExtN H9 H10 ∧ LamX.Tabs T0 H10) (fun Q k => caught_not T.bt ht9 (fun H10 e10 t10 E Q' hE => sealed_raise (v := x) rfl (wrong_all (e10 _ _ h1 fun _ z => by cases z) x hx) hE) k) (fun H10 r => ?_)
            obtain ⟨e10, t10⟩ := r
            refine s_whenF (fun H11 => LamX.ExtN H10 H11 ∧ LamX.Tabs T0 H11) (fun Q k => caught_not T.bs t10 (fun H11 e11 t11 E Q' hE => unsealed_raise (v := x) rfl (wrong_all ((e10.trans e11) _ _ h1 fun _ z => by cases z) x hx).un hE) k) (fun H11 r => ?_)
            obtain ⟨e11, t11⟩ := r
            exact ⟨_, rfl, t11, st9.extN (e10.trans e11), (e10.trans e11) _ _ h1 fun _ z => (by cases z), (e10.trans e11) _ _ h2 fun _ z => (by cases z)⟩
          · obtain ⟨y9, rfl, ht9, st9, h1, h2⟩ := hP
            exact ⟨_, _, _, _, _, _, _, _, _, rfl, ht9, st9⟩
    · obtain ⟨y2, y3, y4, y5, y6, y7, y8, y9, y10, rfl, ht4, st4⟩ := hP
      refine q_asgL (i := 7) (xs := oddL.map V.str) (el_lst (ea_cons ev_c (ea_cons ev_c (ea_cons ev_c (ea_cons ev_c (ea_cons ev_c (ea_cons ev_c (ea_cons ev_c ea_nil))))))) (by decide)) fun p H5 hp e5 h5 => ?_
      have ht5 := ht4.ext e5
      refine ⟨_, rfl, p, rfl, ⟨_, sq_of h5⟩, fun Dl hD => ?_⟩
      refine lc_list (K := K) (a := p) (xs := oddL.map V.str) (fun j H' => LamX.Tabs T0 H' ∧ H' Dl = some (.lst []) ∧ H' p = some (.lst (oddL.map V.str))) ⟨ht5.ext (Ex.new hD), upd_same, Ex.new hD _ _ h5⟩ (fun _ _ _ hP => sq_of hP.2.2) (fun j x H6 hj hP => ?_) (fun H6 hP => ?_)
      · obtain ⟨ht6, hD6, h6⟩ := hP
        obtain ⟨u, hu, rfl⟩ := List.mem_map.mp (List.mem_of_getElem? hj)
        refine g_name ⟨rfl, caught_not T.bs ht6 (fun H7 e7 t7 E Q' hE => unsealed_raise (v := .str u) rfl (.inr ⟨u, rfl, odd_bad u hu⟩) hE) (fun H7 r => ?_)⟩
        exact ite2 (fun h => by cases h) (fun _ => ⟨r.2, r.1 _ _ hD6 fun _ z => (by cases z), r.1 _ _ h6 fun _ z => (by cases z)⟩)
      · obtain ⟨ht6, hD6, h6⟩ := hP
        refine ⟨by show 0 ≤ sizeLine; exact Nat.zero_le _, fun p' hp' => ⟨.list [], .list [], .lst (sq_of (Ex.new hp' _ _ hD6)) .nil, .lst (sq_of upd_same) .nil, rfl, rfl, true, rfl, ?_⟩⟩
        refine iteT ?_
        refine .inl ⟨"\nsum 0", rfl, by decide, fun u H7 su hu e7 => ?_, fun hn => absurd ⟨[], ⟨by decide, by decide⟩, by decide +kernel⟩ hn⟩
        have eu : u = "" := ext_tl (seal_inj (hu.symm.trans (by decide +kernel)))
        subst eu
        exact ⟨rfl, q H7⟩
end
end K93

set_option Elab.async false
set_option linter.all false
set_option maxRecDepth 100000
set_option maxHeartbeats 4000000
namespace K93
open PySem PySem.Spec PyProof.Rows L2 TL Rx Mx Evl Ey
section
variable {K : PySem.W.Frag} {h : Heap} {mg : Str → Option Value} {w : World}
theorem at_of (X : K.In h) (G : h.Ns mainGlobals mg) (c : He.SaysD faL fnL K) {i : Nat} {x : Str} (h1 : dd i x ∈ fnL) (h2 : He.Fa.glo x ∈ faL) : At K mg i x := by
  obtain ⟨fd, F⟩ := He.SaysD.defs c h1
  exact ⟨_, fd, F, He.glo_ok X G (He.SaysD.facts c h2)⟩
theorem atC_of (X : K.In h) (G : h.Ns mainGlobals mg) (c : He.SaysD faL fnL K) {i : Nat} {x : Str} (h1 : dd i x ∈ fnL) (h2 : He.Fa.glo x ∈ faL) : AtC K mg i x (He.codeOf K (x, none)) ∧
    ∃ (oc : Value) (od : Option Addr) (kV doc pm : Value) (an : Option Addr) (ct : Value) (osl : Array (Option Value)), K.lookup (He.ga K x) = some ⟨oc, od, .func (PySem.W.fnOf x x (defArgs (topS i)) (defBody (topS i)) (defScope (topS i)) .none kV doc pm an (.ref (He.codeOf K (x, none))) ct), osl⟩ ∧ PySem.W.codeIn K (.ref (He.codeOf K (x, none))) x = true := by
  obtain ⟨fd, F⟩ := He.SaysD.defs c h1
  have kp := F.kp
  obtain ⟨oc, od, dV, kV, doc, pm, an, cdv, ct, osl, rfl, lk, hcd, hD, hK⟩ := F.ex
  obtain ⟨cc, rfl⟩ := He.codeIn_ref hcd
  have e : He.codeOf K (x, none) = cc := He.codeOf_eq lk rfl
  rcases hD with ⟨_, e2⟩ | ⟨e2, _⟩
  · subst e2
    rw [e]
    exact ⟨⟨_, oc, od, kV, doc, pm, an, ct, osl, lk, hcd, He.glo_ok X G (He.SaysD.facts c h2), kp⟩, oc, od, kV, doc, pm, an, ct, osl, lk, hcd⟩
  · exact absurd rfl e2
theorem exc_of {x : Str} (h : excB K x = true) (hs : PySem.W.subIn K (.ref (He.ga K x)) (.type "BaseException") = some true) : ExcC K (He.ga K x) := by
  unfold excB at h
  simp only [Bool.and_eq_true, decide_eq_true_eq] at h
  obtain ⟨⟨⟨⟨⟨⟨h1, h2⟩, h3⟩, h4⟩, h5⟩, h6⟩, h7⟩ := h
  exact ⟨He.eqO_ok h1, He.eqO_ok h2, hs, h3, He.eqO_ok h4, He.eqO_ok h5, h6, h7⟩
theorem xc_of (X : K.In h) (G : h.Ns mainGlobals mg) (c : He.SaysD faL fnL K) {x : Str} (h1 : He.Fa.glo x ∈ faL) (h2 : He.Fa.exc x ∈ faL) (h3 : He.Fa.exm x "LeafError" true ∈ faL) (h4 : excB K x = true) (h5 : kitB K x x true = true) : Xc K mg x (He.ga K x) (He.ga K "LeafError") := by
  obtain ⟨a1, a2, a3, a4⟩ := He.exc_ok (He.SaysD.facts c h2)
  exact ⟨He.glo_ok X G (He.SaysD.facts c h1), a1, a2, a3, a4, He.exm_ok (He.SaysD.facts c h3), exc_of h4 a3, of_decide_eq_true h5⟩
theorem more_of (hx : exL K = true) : excB K "BadSum" = true ∧ excB K "BadThing" = true ∧ kitB K "BadSum" "BadSum" true = true ∧ kitB K "BadThing" "BadThing" true = true ∧ He.tabOf K (He.codeOf K ("_law_k93_long", none)) ≠ He.tabOf K (He.codeOf K ("law", none)) := by
  unfold exL at hx
  simp only [Bool.and_eq_true, decide_eq_true_eq] at hx
  obtain ⟨⟨⟨⟨h1, h2⟩, h3⟩, h4⟩, h5⟩ := hx
  exact ⟨h1, h2, h3, h4, h5⟩
theorem tx_of (X : K.In h) (G : h.Ns mainGlobals mg) (c : He.SaysD faL fnL K) (hx : exL K = true) : Tx K mg (He.ga K "LeafError") (He.ga K "BadSum") (He.ga K "BadThing") := by
  obtain ⟨h1, h2, h3, h4, _⟩ := more_of hx
  have fr : ∀ {x : Str}, He.Fa.free x ∈ faL → mg x = none := fun hm => He.free_ok X G (He.SaysD.facts c hm)
  exact { isinstance := fr (List.mem_of_getElem? (i := 28) rfl), str := fr (List.mem_of_getElem? (i := 29) rfl), all := fr (List.mem_of_getElem? (i := 30) rfl), len := fr (List.mem_of_getElem? (i := 31) rfl), ord := fr (List.mem_of_getElem? (i := 32) rfl), enumerate := fr (List.mem_of_getElem? (i := 33) rfl), int := fr (List.mem_of_getElem? (i := 34) rfl), abs := fr (List.mem_of_getElem? (i := 35) rfl), sum := fr (List.mem_of_getElem? (i := 36) rfl), range := fr (List.mem_of_getElem? (i := 37) rfl), min := fr (List.mem_of_getElem? (i := 38) rfl),
          prime := He.int_ok X G (He.SaysD.facts c (f := .int "PRIME" 1000000007) (List.mem_of_getElem? (i := 24) rfl)), most := He.int_ok X G (He.SaysD.facts c (f := .int "MOST_SEALED" 1000000) (List.mem_of_getElem? (i := 25) rfl)), mostS := He.int_ok X G (He.SaysD.facts c (f := .int "MOST_SUM" 10) (List.mem_of_getElem? (i := 26) rfl)), figs := He.str_ok X G (He.SaysD.facts c (f := .str "FIGURES" "0123456789") (List.mem_of_getElem? (i := 27) rfl)),
          le := He.glo_ok X G (He.SaysD.facts c (f := .glo "LeafError") (List.mem_of_getElem? (i := 17) rfl)),
          bs := xc_of X G c (List.mem_of_getElem? (i := 18) rfl) (List.mem_of_getElem? (i := 20) rfl) (List.mem_of_getElem? (i := 22) rfl) h1 h3, bt := xc_of X G c (List.mem_of_getElem? (i := 19) rfl) (List.mem_of_getElem? (i := 21) rfl) (List.mem_of_getElem? (i := 23) rfl) h2 h4 }
abbrev rowL : PySem.W.OpenLaw := PySem.Challenge.rw_sureleaves_k93_sums_notice_each_change
theorem facts {fa : Addr} (X : K.In h) (G : h.Ns mainGlobals mg) (hfa : mg ("law" : Str) = some (.ref fa)) (c : He.SaysX faL fnL [] tfL exL w h K) : LamX.LawAtS rowL w K CX0 7 63 "script" mg fa h := by
  have cd := c.t.d
  have T := tx_of X G cd c.more
  obtain ⟨_, _, _, _, nT⟩ := more_of c.more
  obtain ⟨aL, _⟩ := atC_of X G cd (i := 26) (x := "_law_k93_long") (List.mem_of_getElem? (i := 15) rfl) (List.mem_of_getElem? (i := 15) rfl)
  obtain ⟨_, oc, od, kV, doc, pm, an, ct, osl, lk, hcd⟩ := atC_of X G cd (i := 27) (x := "law") (List.mem_of_getElem? (i := 16) rfl) (List.mem_of_getElem? (i := 16) rfl)
  have e := hfa.symm.trans (He.glo_ok X G (He.SaysD.facts cd (f := .glo "law") (List.mem_of_getElem? (i := 16) rfl)))
  cases e
  have m1 : (("_law_k93_long", none) : He.Defn) ∈ tfL := List.mem_of_getElem? (i := 0) rfl
  have m2 : (("law", none) : He.Defn) ∈ tfL := List.mem_of_getElem? (i := 1) rfl
  have bind : ∀ (s : Shared) (u : Value), BindsTo s (PySem.W.fnOf "law" "law" (defArgs (topS 27)) (defBody (topS 27)) (defScope (topS 27)) .none kV doc pm an (.ref (He.codeOf K ("law", none))) ct) ⟨[u], []⟩ [("script", u)] := fun s u => .of_eq rfl
  refine ⟨_, tfL.map (He.cT K), spLaw K [((He.cT K ("_law_k93_long", none)).2, qL), ((He.cT K ("law", none)).2, qW)], fun p hp => ?_, fun p hp => ?_, fun p hp => ?_, bind, fun H a ns hl _ hH hS => ?_, fun base Xb Gb TB => ?_⟩
  · obtain ⟨q, hq, rfl⟩ := List.mem_map.mp hp
    exact c.empty q hq
  · obtain ⟨q, hq, rfl⟩ := List.mem_map.mp hp
    exact c.out q hq
  · obtain ⟨q, hq, rfl⟩ := List.mem_map.mp hp
    exact PySem.W.codeHd_of_K X (c.hd q hq)
  · refine ⟨a, ns, rfl, hS, hl, fun p hp => ?_, fun _ => rfl⟩
    simp only [List.mem_cons, List.not_mem_nil, or_false] at hp
    rcases hp with rfl | rfl
    · exact LamX.TabS.nil (hH _ (List.mem_map.mpr ⟨_, m1, rfl⟩))
    · exact LamX.TabS.nil (hH _ (List.mem_map.mpr ⟨_, m2, rfl⟩))
  · have t1 := TB _ (List.mem_map.mpr ⟨_, m1, rfl⟩)
    have t2 := TB _ (List.mem_map.mpr ⟨_, m2, rfl⟩)
    have cSg := cl_is_signs (P := rowL.prog) (w := w) (base := base) T (at_of X G cd (List.mem_of_getElem? (i := 0) rfl) (List.mem_of_getElem? (i := 0) rfl))
    have cSm := cl_sum_of (P := rowL.prog) (w := w) (base := base) T (at_of X G cd (List.mem_of_getElem? (i := 1) rfl) (List.mem_of_getElem? (i := 1) rfl))
    have cIs := cl_is_sealable T (at_of X G cd (List.mem_of_getElem? (i := 2) rfl) (List.mem_of_getElem? (i := 2) rfl)) cSg
    have oS := ok_sealed T (at_of X G cd (List.mem_of_getElem? (i := 3) rfl) (List.mem_of_getElem? (i := 3) rfl)) cIs cSm
    have cTo := cl_told (P := rowL.prog) (w := w) (base := base) T (at_of X G cd (List.mem_of_getElem? (i := 4) rfl) (List.mem_of_getElem? (i := 4) rfl))
    have oU := ok_unsealed T (at_of X G cd (List.mem_of_getElem? (i := 5) rfl) (List.mem_of_getElem? (i := 5) rfl)) cIs cSm cTo
    have cS := cl_sealed oS
    have cU := cl_unsealed oU
    have cB := cl_begun (P := rowL.prog) (w := w) (base := base) T (at_of X G cd (List.mem_of_getElem? (i := 6) rfl) (List.mem_of_getElem? (i := 6) rfl))
    have cBl := cl_blended (P := rowL.prog) (w := w) (base := base) T (at_of X G cd (List.mem_of_getElem? (i := 7) rfl) (List.mem_of_getElem? (i := 7) rfl))
    have cD := cl_draw T (at_of X G cd (List.mem_of_getElem? (i := 8) rfl) (List.mem_of_getElem? (i := 8) rfl)) cBl
    have cP := cl_pick T (at_of X G cd (List.mem_of_getElem? (i := 9) rfl) (List.mem_of_getElem? (i := 9) rfl)) cD
    have cK := cl_ksum (P := rowL.prog) (w := w) (base := base) T (at_of X G cd (List.mem_of_getElem? (i := 11) rfl) (List.mem_of_getElem? (i := 11) rfl))
    have cSi := cl_signs (P := rowL.prog) (w := w) (base := base) (at_of X G cd (List.mem_of_getElem? (i := 12) rfl) (List.mem_of_getElem? (i := 12) rfl))
    have cT := cl_text T (at_of X G cd (List.mem_of_getElem? (i := 13) rfl) (List.mem_of_getElem? (i := 13) rfl)) cD cP cSi
    have cN := cl_near T (at_of X G cd (List.mem_of_getElem? (i := 14) rfl) (List.mem_of_getElem? (i := 14) rfl)) cD cP cSi
    have aC : At K mg 21 "_law_caught" := (at_of X G cd (List.mem_of_getElem? (i := 10) rfl) (List.mem_of_getElem? (i := 10) rfl))
    have cL := cl_long (T0 := [((He.cT K ("_law_k93_long", none)).2, qL), ((He.cT K ("law", none)).2, qW)]) T aL aC t1 List.mem_cons_self (fun p hp e => by
      simp only [List.mem_cons, List.not_mem_nil, or_false] at hp
      rcases hp with rfl | rfl
      · rfl
      · exact absurd e.symm nT) cS cU
    exact ok_law T lk hcd aC t2 (List.mem_cons_of_mem _ List.mem_cons_self) (fun p hp e => by
      simp only [List.mem_cons, List.not_mem_nil, or_false] at hp
      rcases hp with rfl | rfl
      · exact absurd e nT
      · rfl) oS oU cS cU cB cD cL cT cK cN
end
end K93
open PySem PySem.W PySem.Calls PyProof.Rows
theorem PySem.Challenge.cw_sureleaves_k93_sums_notice_each_change_holds : PySem.Challenge.rw_sureleaves_k93_sums_notice_each_change.Holds := by
  w_on; o_law
  refine HandSHeadRun.head_any (r := OpenLaw.row PySem.Challenge.rw_sureleaves_k93_sums_notice_each_change) (q := view (OpenLaw.row PySem.Challenge.rw_sureleaves_k93_sums_notice_each_change).prog [27]) (H := K93.hk) (ob := K93.ob) (M := 3000) (loose := K93.looseL) (d := HandSHeadRun.topDef (OpenLaw.row PySem.Challenge.rw_sureleaves_k93_sums_notice_each_change).prog 27) (kwd := []) K93.ob_eq
    (by kernel_rfl) (fun s => by kernel_rfl) K93.run (by kernel_rfl) (by kernel_rfl) (by kernel_rfl) (by rfl) (by first | assumption | decide +kernel) (by decide +kernel) ⟨rfl, rfl, rfl, rfl, rfl, by decide +kernel⟩ ?hw ?hc
  case hw => w_witness2
  case hc =>
    refine LamX.walk_ofTsE (l := PySem.Challenge.rw_sureleaves_k93_sums_notice_each_change) (n := 63) (k := 7) (x := "script") (CX := fun _ => L2.CX0) rfl (by decide) (by kernel_rfl) ⟨rfl, by decide, by decide⟩ ?F (fun _ _ _ _ _ z => z)
    intro w mg fa h Y G hmg0
    obtain ⟨K, KX, c⟩ := Y
    have hmg : mg ("law" : PySem.Str) = some (.ref fa) := by
      have e : (HandSHeadRun.topDef (OpenLaw.row PySem.Challenge.rw_sureleaves_k93_sums_notice_each_change).prog 27).name = ("law" : PySem.Str) := by kernel_rfl
      rw [← e]
      exact hmg0
    exact ⟨K, KX, K93.facts KX G hmg c⟩
