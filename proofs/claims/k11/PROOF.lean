import PyProof.Rows.All
import Wide.All
import OpenK.AllK
import Wide.FinOn
import HandS.ForMost
import HandS.Wide
import HandS.Zip
import KE.SortData
import KE.KDictKeyed
import HandS.Exc
import HandS.ExcInit
import HandS.ExcOwn
import HandS.ExcField
import HandS.ExcIs
import HandS.WordsExc
import KE.KExcIs
import HandS.Deep
import HandS.TupAny
import HandS.TupMul
import HandS.Style
import HandS.IsInst
import KE.GoesMore
import KE.GoesEnum
import PyProof.LongRange
import HandS.Conv
import KE.Datum
import KE.KDictSum
import HandS.Keys
import PyProof.Transfer
import HandS.TupLe
import KE.KTupSum
import KE.DataFind
import PySem.Challenge.RW_apartbook_k11_no_books
set_option Elab.async false
set_option linter.all false
set_option maxRecDepth 100000
set_option maxHeartbeats 4000000
namespace L2
open PySem PySem.Spec PyProof.Rows
section
variable {X : Cx} {o e : Expr} {es : List Expr} {ta : TA} {p1 p2 pos : Pos}
theorem pe_binit {pl : Sem Bool} {B : Str} {CB : Addr} (hg : Gl X B) (hm : X.mg B = some (.ref CB)) (rd : PySem.W.readsIn X.K CB (.type "type") = true) (sp : PySem.W.specialIn X.K (.ref CB) "__getattribute__" = some (some (.builtin "type.__getattribute__")))
    (fc : PySem.W.findCls X.K (.ref CB) (.type "type") "__init__" = some (.val (.builtin "ValueError.__init__"))) (ha : PA X (e :: es) ta)
    (hc : eval (.Call (.Attribute (.Name B p1) "__init__" p2) (e :: es) [] pos) X.env = (do
      let cl ← eval (.Name B p1) X.env
      standAt p2.atName
      let (fu, first) ← holding [cl] (getMethod cl "__init__" pl)
      callWith pos fu first (backTo pos (starEach (e :: es) X.env)) (backToKw pos (keywordEach [] X.env))) := by rfl)
    (he : starEach (e :: es) X.env = (false, eval e X.env) :: starEach es X.env := by rfl) (hpl : (backTo pos (starEach es X.env)).any (·.1) = false := by rfl) (hdb : (B == ("__debug__" : Str)) = false := by decide) :
    PE X (.Call (.Attribute (.Name B p1) "__init__" p2) (e :: es) [] pos) (tVeI X.K ta) := by
  refine ⟨fun pins s σ H Q I h => ?_⟩
  refine PySem.W.methodCall_KW (ld_glob I hg hm ?_ hdb) hc
  refine PySem.W.method_cls I.kIn sp (PySem.W.cls_value I.kIn rd fc (by decide +kernel) ?_)
  show wpAny _ _ (callWith pos (Value.builtin "ValueError.__init__") [] (backTo pos (starEach (e :: es) X.env)) []) _ _ _
  refine PyProof.Rows.callWith_method1 (thn (ha.run pos pins _ σ H _ (I.tok _) h) fun us s1 hh => ?_) he hpl
  obtain ⟨vs, H1, I1, r1, a, C, ws, rfl, hl, T, ea, q⟩ := hh
  cases r1 with
  | @cons _ u0 _ ur ra rw' =>
    have eu : u0 = Value.ref a := ra
    subst eu
    exact oinit_ok T I1 ea (by rw [← Paired.length rw', sizeLine_eq]; omega) fun s' J => ⟨.non, H1, J, rfl, q⟩
end
def exV (a : Addr) (cls : Value) (d : Option Addr) : HO := .ext fun h => ∃ oe vs, h.get? a = some oe ∧ Zc cls d oe ∧ oe.data = .fields vs
theorem exV_ok {P : Program} {w : World} {H : Hp} {h : Heap} {a : Addr} {cls : Value} {d : Option Addr} {oe : Obj} (h1 : h.get? a = some oe) (h2 : Zc cls d oe) (h3 : ∃ vs, oe.data = .fields vs) : ObjOk P w H h a (exV a cls d) :=
  ⟨⟨oe, h3.choose, h1, h2, h3.choose_spec⟩, ⟨oe, h1⟩, fun _ _ ⟨o, v, q, r⟩ k => ⟨o, v, k o q, r⟩⟩
theorem exV_at {P : Program} {w : World} {H : Hp} {h : Heap} {a : Addr} {cls : Value} {d : Option Addr} (hok : HOk P w H h) (e : H a = some (exV a cls d)) : ∃ oe vs, h.get? a = some oe ∧ Zc cls d oe ∧ oe.data = .fields vs := by
  have x : ObjOk P w H h a (.ext fun h => ∃ oe vs, h.get? a = some oe ∧ Zc cls d oe ∧ oe.data = .fields vs) := hok a _ e
  exact x.1
section
variable {X : Cx} {pins : List (Addr × Obj)} {σ : St} {H : Hp} {s : Shared}
theorem Inv.track {a : Addr} {cls : Value} {d : Option Addr} {oe : Obj} (I : Inv X ((a, oe) :: pins) σ H s) (hz : Zc cls d oe) (hf : ∃ vs, oe.data = .fields vs) (h0 : X.s_0.heap.get? a = none) (hp : ∀ p ∈ X.pn ++ pins, p.1 ≠ a) : Inv X pins σ (upd H a (exV a cls d)) s := by
  obtain ⟨ha, na, nL, nF, nC⟩ := I.pin (a, oe) (List.mem_append_right _ List.mem_cons_self)
  have ha : s.heap.get? a = some oe := ha
  have na : H a = none := na
  refine ⟨I.ok, I.os, I.bare, ?_, I.loc, I.cell, ?_, fun x c hx => ?_, fun p hp' => ?_, fun b ob q => ?_, I.len⟩
  · exact {
      keep := I.base.keep
      slot := I.base.slot
      free := fun b o q n hx => by
        rw [upd_ne (fun z => by rw [z, h0] at q; cases q)]
        exact I.base.free b o q n hx
      there := I.base.there
      tups := fun b xs q => by
        have q2 := I.base.tups b xs q
        rw [upd_ne (ne_of_none q2 na)]; exact q2
      frzs := fun b o u q => by
        have q2 := I.base.frzs b o u q
        rw [upd_ne (ne_of_none q2 na)]; exact q2
      tbls := fun b ps q => by
        obtain ⟨more, q2⟩ := I.base.tbls b ps q
        exact ⟨more, by rw [upd_ne (ne_of_none q2 na)]; exact q2⟩ }
  · rw [upd_ne (Ne.symm nL)]; exact I.free
  · obtain ⟨v, hv⟩ := I.cell x c hx
    rw [upd_ne (fun z => ?_)]
    · exact I.freeC x c hx
    · subst z
      obtain ⟨ob, e1, e2⟩ := hv
      rw [ha] at e1; cases e1
      exact nC _ e2
  · have hm : p ∈ X.pn ++ (a, oe) :: pins := by
      rcases List.mem_append.mp hp' with z | z
      · exact List.mem_append_left _ z
      · exact List.mem_append_right _ (List.mem_cons_of_mem _ z)
    obtain ⟨g1, g2, g3, g4, g5⟩ := I.pin p hm
    exact ⟨g1, by rw [upd_ne (hp p hp')]; exact g2, g3, g4, g5⟩
  · by_cases hb : b = a
    · subst hb
      rw [upd_same] at q
      cases q
      exact exV_ok ha hz hf
    · rw [upd_ne hb] at q
      exact (I.hok b ob q).stay (fun c u _ z => z) (fun c hc => by rw [upd_ne (ne_of_none hc na)]; exact hc) fun c xs hc => by rw [upd_ne (ne_of_none hc na)]; exact hc
theorem Inv.unsuiteK {a : Addr} {oe : Obj} {pn' : List (Addr × Obj)} (I : Inv (X.suite a ((a, oe) :: (X.pn ++ pins))) pn' σ H s) (ok : X.Ok) : Inv X ((a, oe) :: pins) σ H s :=
  ⟨ok, I.os, I.bare, I.base, I.loc, I.cell, I.free, I.freeC, fun p hp => I.pin p (List.mem_append_left _ (by
    rcases List.mem_append.mp hp with z | z
    · exact List.mem_cons_of_mem _ (List.mem_append_left _ z)
    · rcases List.mem_cons.mp z with z | z
      · exact z ▸ List.mem_cons_self
      · exact List.mem_cons_of_mem _ (List.mem_append_right _ z))), I.hok, I.len⟩
end
def wKp (K : PySem.W.Frag) (c : Value) (i : Nat) (ts : TS) (Wout : WX) (D : Ends) : WX := fun cls d σ H =>
  ∃ b, PySem.W.exmOne K cls c = some b ∧ (b = true → ∀ a, H a = none → ts { nx := fun σ' H' => D.nx (σ'.set i none) (upd H' a (exV a cls d)), rt := fun _ _ => False, bk := fun _ _ => False, ct := fun _ _ => False } (σ.set i (some (.ref a))) H) ∧
    (b = false → Wout cls d σ H)
section
variable {X : Cx} {x n : Str} {c : Value} {i : Nat} {body suite : List Stmt} {b0 : Stmt} {np pos hpos : Pos} {tb : WX → TS} {ts : TS} {Wout : WX}
theorem ps_try_keep (hs : X.stack = X.env :: X.outer) (hf : X.env.frame = some X.env.locals) (hex : X.ex = []) (hN : X.N.Nodup) (hi : X.N[i]? = some n) (hln : X.env.kindOf n = some .local) (hc : Names X x c) (tk : Takes X Wout)
    (hb : ∀ (W : WX) (pn : List (Addr × Obj)) (xe : Value → Shared → Prop), Takes (X.tr pn xe) W → PassesOwn (model X.prog X.w) X.A X.env xe → PSs (X.tr pn xe) body (tb W))
    (hsu : ∀ (a : Addr) (oe : Obj) (pn : List (Addr × Obj)), PSs (X.suite a ((a, oe) :: pn)) (b0 :: suite) ts) :
    PS X (.Try body [.ExceptHandler (some (.Name x np)) (some n) (b0 :: suite) hpos] [] [] pos) (fun D σ H => tb (wKp X.K c i ts Wout D) D σ H) := by
  refine ⟨fun pins s σ H D I h => ?_⟩
  have ok := I.ok
  have hfr : X.A.frames = some (X.env :: X.outer) := ok.frames.trans (congrArg some hs)
  refine wpAny_Try_except ?_
  have catch_ : ∀ (u : Value) (s1 : Shared), XE (X.tr (X.pn ++ pins) (fun e s2 => wpAny (model X.prog X.w) X.A (noteFrame e X.env) (fun _ s3 => wpAny (model X.prog X.w) X.A (setFlight e none) (fun _ s4 =>
      wpAny (model X.prog X.w) X.A (handleBy e X.env [.ExceptHandler (some (.Name x np)) (some n) (b0 :: suite) hpos]) (SP X pins D) X.xe s4) X.xe s3) X.xe s2)) (wKp X.K c i ts Wout D) u s1 →
      wpAny (model X.prog X.w) X.A (noteFrame u X.env) (fun _ s3 => wpAny (model X.prog X.w) X.A (setFlight u none) (fun _ s4 =>
        wpAny (model X.prog X.w) X.A (handleBy u X.env [.ExceptHandler (some (.Name x np)) (some n) (b0 :: suite) hpos]) (SP X pins D) X.xe s4) X.xe s3) X.xe s1 := fun u s1 air => by
    obtain ⟨a, B, sI, pins', σ', H', cls, d, eu, JJ, nb, up, sky, na, os, ag, b, hbe, hyes, hno⟩ := air
    subst eu
    have J : Inv X pins σ' H' sI := JJ.ofTry ok
    refine Sky.land Zc.steady hfr hf (by rw [← hs]; exact sky) fun h3 fl3 up3 => ?_
    have J3 : Inv X pins σ' H' { s1 with heap := h3 } := J.landed nb fl3.1 (up.trans up3) os ag
    obtain ⟨oe3, vs3, he3, hz3, hd3⟩ := fl3.there
    have out : a ∉ frs (X.env :: X.outer) := fun hm => by
      obtain ⟨_, o', e', bad⟩ := fl3.2.2.1.mem hm
      rw [he3] at e'; cases e'
      exact bad _ hd3
    have nL : a ≠ X.env.locals := fun z => out (List.mem_filterMap.mpr ⟨X.env, List.mem_cons_self, by rw [hf, z]⟩)
    have nF : a ∉ X.fs := fun hm => by
      obtain ⟨e, he, q⟩ := List.mem_filterMap.mp hm
      exact out (List.mem_filterMap.mpr ⟨e, List.mem_cons_of_mem _ he, q⟩)
    have notB : ∀ b o, sI.heap.get? b = some o → b ∉ frs X.stack → b ≠ a := fun b o e hm z => by
      have := nb b o e hm
      rw [z, fl3.2.1] at this; cases this
    have h0 : X.s_0.heap.get? a = none := by
      cases q : X.s_0.heap.get? a with
      | none => rfl
      | some o =>
        obtain ⟨o', e'⟩ := J.base.there a o q (by rw [hex]; exact fun m => nomatch m)
        exact absurd rfl (notB a o' e' (by rw [hs]; exact out))
    have np' : ∀ p ∈ X.pn ++ pins, p.1 ≠ a := fun p hp => by
      obtain ⟨g1, g2, g3, g4, _⟩ := J.pin p hp
      refine notB p.1 p.2 g1 fun hm => ?_
      rw [hs] at hm
      obtain ⟨e, he, q⟩ := List.mem_filterMap.mp hm
      rcases List.mem_cons.mp he with z | z
      · rw [z, hf] at q; injection q with q; exact g3 q.symm
      · exact g4 (List.mem_filterMap.mpr ⟨e, z, q⟩)
    have S3 := J3.suite he3 hd3 na nL nF
    refine wpAny_handleBy_cons (codeAny_handlers_test ?_) (by intro q; cases q)
    have ty : PySem.W.Looks (model X.prog X.w) h3 (typeOf (.ref a)) cls := fun A Q E s k q => wpAny_typeOf_ref (k _ _ he3) (by rw [hz3.1]; exact q)
    have lk := PySem.W.exm_one (M := model X.prog X.w) (J3.kIn) ty hbe
    have named : ∀ {Q : Value → Shared → Prop} {E : Value → Shared → Prop}, Q c { s1 with heap := h3 } → wpAny (model X.prog X.w) (X.A.mark (some (.ref a))) (eval (.Name x np) X.env) Q E { s1 with heap := h3 } := fun {Q E} q => by
      obtain ⟨hg, hdbg, hcase⟩ := hc
      rcases hcase with hm | ⟨hm, hv, hnn⟩
      · exact ld_glob (X := X.suite a ((a, oe3) :: (X.pn ++ pins))) S3 hg hm q hdbg
      · exact ld_blt (X := X.suite a ((a, oe3) :: (X.pn ++ pins))) S3 hg hm hv q hnn hdbg
    refine named (lk.here ?_)
    cases b with
    | true =>
      refine codeAny_handlers_suite_as (HandSPX.lands_againZ fl3 fun h4 fl4 up4 => ?_)
      have J4 : Inv X pins σ' H' { s1 with heap := h4 } := J.landed nb fl4.1 ((up.trans up3).trans up4) os ag
      obtain ⟨oe4, vs4, he4, hz4, hd4⟩ := fl4.there
      refine store_ok (X := X.suite a ((a, oe4) :: (X.pn ++ pins))) (v := .ref a) (J4.suite he4 hd4 na nL nF) hN hi (.inl hln) rfl (fun s5 S5 => ?_) (.inr hln)
      refine wpAny_mono ((hsu a oe4 (X.pn ++ pins)).run [] s5 _ H' _ S5 (hyes rfl a na)) (fun f s6 sp => ?_) (fun _ _ z => False.elim z)
      cases f with
      | next =>
        obtain ⟨σ6, H6, S6, q6⟩ := sp
        exact gone_ok (S6.unsuiteK ok) hN hi hln fun s7 J7 => ⟨_, _, J7.track hz4 ⟨_, hd4⟩ h0 np', q6⟩
      | brk => obtain ⟨_, _, _, z⟩ := sp; exact z.elim
      | cont => obtain ⟨_, _, _, z⟩ := sp; exact z.elim
      | ret u => obtain ⟨_, _, _, _, _, z⟩ := sp; exact z.elim
    | false =>
      show wpAny _ X.A (handleBy (.ref a) X.env []) _ _ _
      refine wpAny_handleBy_nil ?_
      obtain ⟨k1, k2, k3, oe, vs, T, oT, us, he, hz, hd, h1, hr⟩ := id fl3
      unfold PySem.passOn
      refine wpAny_bind (wpAny_field he hd h1 ?_)
      rw [if_neg (show ¬ ((Value.ref T == Value.none) = true) from by simp)]
      have on : wpAny (model X.prog X.w) X.A (setFlight (.ref a) X.env.frame) (fun _ s4 => wpAny (model X.prog X.w) X.A (throw (.ref a) : Sem Flow) (SP X pins D) X.xe s4) X.xe { s1 with heap := h3 } := by
        rw [hf]
        exact HandSPX.setFlight_upZ fl3 fun h4 hh4 up4 => wpAny_throw (tk _ _ ⟨a, B, sI, pins, σ', H', cls, d, rfl, J, nb, (up.trans up3).trans up4, .inr (.inr (by rw [hs]; exact hh4)), na, os, ag, hno rfl⟩)
      first
        | exact wpAny_bind (wpAny_pure (wpAny_bind on))
        | exact wpAny_bind on
  refine wpAny_mono ((hb (wKp X.K c i ts Wout D) (X.pn ++ pins) _ (fun u s1 xx => catch_ u s1 xx) PassesOwn.looking).run [] s σ H D (I.toTry _) h) (fun f s1 sp => ?_) (fun e s1 he => he)
  cases f with
  | next => obtain ⟨σ', H', J', q⟩ := sp; exact wpAny_execs_nil ⟨σ', H', J'.ofTry ok, q⟩
  | brk => obtain ⟨σ', H', J', q⟩ := sp; exact ⟨σ', H', J'.ofTry ok, q⟩
  | cont => obtain ⟨σ', H', J', q⟩ := sp; exact ⟨σ', H', J'.ofTry ok, q⟩
  | ret u => obtain ⟨v, σ', H', J', r, q⟩ := sp; exact ⟨v, σ', H', J'.ofTry ok, r, q⟩
end
end L2
set_option Elab.async false
set_option linter.all false
set_option maxRecDepth 100000
set_option maxHeartbeats 4000000
namespace L2
open PySem PySem.Spec PyProof.Rows
section
variable {X : Cx}
theorem exV_inst {pins : List (Addr × Obj)} {σ : St} {H : Hp} {s : Shared} {a C : Addr} {d : Option Addr} {od : Option Obj} (I : Inv X pins σ H s) (e : H a = some (exV a (.ref C) d)) (hd : (d = none ∧ od = none) ∨ ∃ dx o, d = some dx ∧ od = some o ∧ s.heap.get? dx = some o) :
    ∃ oe, PySem.W.InstAt s.heap a oe C od := by
  obtain ⟨oe, vs, h1, h2, h3⟩ := exV_at I.hok e
  obtain ⟨oc, odd, oda, osl⟩ := oe
  obtain ⟨z1, z2⟩ := h2
  dsimp only at z1 z2 h3
  subst z1 z2 h3
  rcases hd with ⟨rfl, rfl⟩ | ⟨dx, o, rfl, rfl, ho⟩
  · exact ⟨_, h1, rfl, rfl, trivial⟩
  · exact ⟨_, h1, rfl, rfl, ho⟩
def rIsX (K : PySem.W.Frag) : List V → Hp → VK → Prop := fun xs H Q => ∃ (a C : Addr) (d : Option Addr) (c : V) (cv : Value) (b : Bool), xs = [.ref a, c] ∧ ExcC K C ∧ H a = some (exV a (.ref C) d) ∧ (d = none ∨ ∃ dx fs, d = some dx ∧ H dx = some (.xd fs)) ∧ (∀ u, RelV c u → u = cv) ∧ PySem.W.kitOne K (.ref C) cv = some b ∧ Q (.bl b) H
theorem call_isX : CallR X (.builtin "isinstance") (rIsX X.K) := by
  intro pins s σ H xs us Q I r h
  obtain ⟨a, C, d, c, cv, b, rfl, ec, ea, hd, hcv, hk, q⟩ := h
  obtain ⟨u, w, rfl, ru, rw'⟩ := vals2 r
  have eu : u = Value.ref a := ru
  subst eu
  have ew := hcv _ rw'
  subst ew
  obtain ⟨od, J⟩ : ∃ od : Option Obj, ∃ oe, PySem.W.InstAt s.heap a oe C od := by
    rcases hd with rfl | ⟨dx, fs, rfl, hx⟩
    · exact ⟨none, exV_inst I ea (.inl ⟨rfl, rfl⟩)⟩
    · have ho : ObjOk X.prog X.w H s.heap dx (.xd fs) := I.hok dx _ hx
      obtain ⟨mA, hns, hr⟩ := ho
      obtain ⟨o, ho, hl⟩ := lookIn_ns hns
      exact ⟨some o, exV_inst I ea (.inr ⟨dx, o, rfl, rfl, ho⟩)⟩
  obtain ⟨oe, J⟩ := J
  obtain ⟨cd, hc, _⟩ := PySem.W.any_some ec.hd
  exact PySem.W.kia_one (PySem.W.kitx_exc (by rw [hc]; rfl) ec.hg ec.hk ec.hs ec.ha ec.hn ec.ht ec.hm) I.kIn J hk (fun z => nomatch z) fun tk => ⟨.bl b, H, I.tok _, rfl, q⟩
def tXk (K : PySem.W.Frag) (n : Str) (te : TE) : TE := fun σ H Q => te σ H fun x H1 => ∃ (a C dx : Addr) (fs : List (Str × V)) (v : V), x = .ref a ∧ XfC K C ∧ PySem.W.findIn K (.ref C) n = some none ∧ H1 a = some (exV a (.ref C) (some dx)) ∧ H1 dx = some (.xd fs) ∧ fs.lookup n = some v ∧ Q v H1
end
def spI1 (K : PySem.W.Frag) (f : Str) : Sp := fun vs H Q _ => ∃ (a C : Addr) (y : V), vs = [.ref a, y] ∧ OexC K C ∧ PySem.W.findIn K (.ref C) f = some none ∧ H a = some (exo a C none) ∧ ∀ dx, H dx = none → dx ≠ a → Q .non (upd (upd H dx (exd dx [(f, y)])) a (exo a C (some dx)))
def spI2 (K : PySem.W.Frag) (f g : Str) : Sp := fun vs H Q _ => ∃ (a C : Addr) (y z : V), vs = [.ref a, y, z] ∧ OexC K C ∧ PySem.W.findIn K (.ref C) f = some none ∧ PySem.W.findIn K (.ref C) g = some none ∧ H a = some (exo a C none) ∧
  ∀ dx, H dx = none → dx ≠ a → Q .non (upd (upd (upd H dx (exd dx [(f, y)])) a (exo a C (some dx))) dx (exd dx [(g, z), (f, y)]))
section
variable {P : Program} {w : World} {K : PySem.W.Frag} {mg : Str → Option Value} {base : Heap} {qual : Str} {st : Stmt} {fI CB : Addr} {fd : FuncData} {B m f g : Str} {j : Option Str} {p1 p2 p3 p4 p5 p6 p7 p8 p9 p10 q7 q8 q9 q10 : Pos} {kk : ConstKind}
structure BaseC (K : PySem.W.Frag) (mg : Str → Option Value) (B : Str) (CB : Addr) : Prop where
  at_ : mg B = some (.ref CB)
  rd : PySem.W.readsIn K CB (.type "type") = true
  sp : PySem.W.specialIn K (.ref CB) "__getattribute__" = some (some (.builtin "type.__getattribute__"))
  fc : PySem.W.findCls K (.ref CB) (.type "type") "__init__" = some (.val (.builtin "ValueError.__init__"))
end
end L2
set_option Elab.async false
set_option linter.all false
set_option maxRecDepth 100000
set_option maxHeartbeats 4000000
namespace DL
open PySem PySem.Spec L2

abbrev D := PyData
inductive RK where
  | vw | vl | sv | fz | ow
inductive Shp where
  | l | t | k (ks : List Key) | q (ks : List D) | o (c : Str) (fs : List Str) | x (c : Str) (fs : List Str) | e (fs : List Str) | lf | kf (ks : List Key) | v
def Shp.cell : Shp → Bool
  | .t => false
  | .lf => false
  | .kf _ => false
  | .v => false
  | _ => true
inductive T where
  | d (d : D) | n (s : Shp) (ts : List T)
inductive C where
  | und | val (d : D) | brw (d : D) | lst (ds : List D) | dK (kvs : List (Key × D)) | dT (kvs : List (List Key × D)) | dN (ks : List D) | own (m : Option Nat) (t : T) | ro (b : Bool) (t : T) | pin (j : Nat) | al (j i : Nat)
def C.mu : C → Bool
  | .own (some _) _ => true
  | _ => false

structure GC where
  H0 : Hp
  F0 : Hp
  Ws : List (Addr × List Addr)
  w : Option World
def GC.W (G : GC) : List Addr := G.Ws.flatMap (·.2)
def GC.kp (G : GC) : Hp := fun a => if a ∈ G.W then none else G.H0 a

mutual
inductive DF (K : PySem.W.Frag) (H : Hp) : V → PyData → Prop
  | non : DF K H .non .none
  | bl (b : Bool) : DF K H (.bl b) (.bool b)
  | int (i : Int) : DF K H (.int i) (.int i)
  | str (x : Str) : DF K H (.str x) (.str x)
  | lst {a : Addr} {xs : List V} {ds : List PyData} : H a = some (.lst xs) → DFAll K H xs ds → DF K H (.ref a) (.list ds)
  | tup {a : Addr} {xs : List V} {ds : List PyData} : SqT K H a xs → DFAll K H xs ds → DF K H (.ref a) (.tuple ds)
inductive DFAll (K : PySem.W.Frag) (H : Hp) : List V → List PyData → Prop
  | nil : DFAll K H [] []
  | cons {v : V} {vs : List V} {d : PyData} {ds : List PyData} : DF K H v d → DFAll K H vs ds → DFAll K H (v :: vs) (d :: ds)
end
section
variable {K : PySem.W.Frag} {H H' F F' : Hp}
theorem Same.seqT (e : Same H H') {a : Addr} {xs : List V} (h : SqT K H a xs) : SqT K H' a xs := by
  rcases h with (h | ⟨o, h⟩) | h
  · exact .inl (.inl (e _ _ h))
  · exact .inl (.inr ⟨o, e _ _ h⟩)
  · exact .inr h
mutual
theorem Dp_mono (e : Same H H') : ∀ (d : D) (v : V), Dp K H v d → Dp K H' v d
  | .none, _, h => by cases h; exact .non
  | .bool b, _, h => by cases h; exact .bl b
  | .int i, _, h => by cases h; exact .int i
  | .str x, _, h => by cases h; exact .str x
  | .list ds, _, h => by
    cases h with
    | lst hs ha => exact .lst (e.seq hs) (DpAll_mono e ds _ ha)
  | .tuple ds, _, h => by
    cases h with
    | tup hs ha => exact .tup (Same.seqT e hs) (DpAll_mono e ds _ ha)
  | .dict _, _, h => by cases h
theorem DpAll_mono (e : Same H H') : ∀ (ds : List D) (vs : List V), DpAll K H vs ds → DpAll K H' vs ds
  | [], _, h => by cases h; exact .nil
  | d :: ds, _, h => by
    cases h with
    | cons h1 h2 => exact .cons (Dp_mono e d _ h1) (DpAll_mono e ds _ h2)
end
theorem DpAll_len : ∀ {vs : List V} {ds : List D}, DpAll K H vs ds → vs.length = ds.length
  | [], ds, h => by cases h; rfl
  | v :: vs, ds, h => by
    cases h with
    | cons h1 h2 => rw [List.length_cons, List.length_cons, DpAll_len h2]
theorem DpAll_get : ∀ {vs : List V} {ds : List D} {i : Nat} {d : D}, DpAll K H vs ds → ds[i]? = some d → ∃ v, vs[i]? = some v ∧ Dp K H v d
  | [], ds, i, d, h, e => by cases h; simp at e
  | v :: vs, ds, i, d, h, e => by
    cases h with
    | cons h1 h2 =>
      cases i with
      | zero => simp at e; subst e; exact ⟨v, rfl, h1⟩
      | succ i => simpa using DpAll_get h2 (by simpa using e)
theorem DpAll_ints_of : ∀ {vs : List V} {ns : List Int}, DpAll K H vs (ns.map PyData.int) → vs = ns.map V.int
  | [], ns, h => by
    cases ns with
    | nil => rfl
    | cons n ns => cases h
  | v :: vs, ns, h => by
    cases ns with
    | nil => cases h
    | cons n ns =>
      cases h with
      | cons h1 h2 =>
        cases h1
        rw [List.map_cons, DpAll_ints_of h2]
mutual
theorem DF_mono (e : Same H H') : ∀ (d : D) (v : V), DF K H v d → DF K H' v d
  | .none, _, h => by cases h; exact .non
  | .bool b, _, h => by cases h; exact .bl b
  | .int i, _, h => by cases h; exact .int i
  | .str x, _, h => by cases h; exact .str x
  | .list ds, _, h => by
    cases h with
    | lst hs ha => exact .lst (e _ _ hs) (DFAll_mono e ds _ ha)
  | .tuple ds, _, h => by
    cases h with
    | tup hs ha => exact .tup (Same.seqT e hs) (DFAll_mono e ds _ ha)
  | .dict _, _, h => by cases h
theorem DFAll_mono (e : Same H H') : ∀ (ds : List D) (vs : List V), DFAll K H vs ds → DFAll K H' vs ds
  | [], _, h => by cases h; exact .nil
  | d :: ds, _, h => by
    cases h with
    | cons h1 h2 => exact .cons (DF_mono e d _ h1) (DFAll_mono e ds _ h2)
end
theorem DFAll_len : ∀ {vs : List V} {ds : List D}, DFAll K H vs ds → vs.length = ds.length
  | [], ds, h => by cases h; rfl
  | v :: vs, ds, h => by
    cases h with
    | cons h1 h2 => rw [List.length_cons, List.length_cons, DFAll_len h2]
theorem DFAll_get : ∀ {vs : List V} {ds : List D} {i : Nat} {d : D}, DFAll K H vs ds → ds[i]? = some d → ∃ v, vs[i]? = some v ∧ DF K H v d
  | [], ds, i, d, h, e => by cases h; simp at e
  | v :: vs, ds, i, d, h, e => by
    cases h with
    | cons h1 h2 =>
      cases i with
      | zero => simp at e; subst e; exact ⟨v, rfl, h1⟩
      | succ i => simpa using DFAll_get h2 (by simpa using e)
theorem DFAll_app : ∀ {vs ws : List V} {ds es : List D}, DFAll K H vs ds → DFAll K H ws es → DFAll K H (vs ++ ws) (ds ++ es)
  | [], ws, ds, es, h, h' => by cases h; exact h'
  | v :: vs, ws, ds, es, h, h' => by
    cases h with
    | cons h1 h2 => exact .cons h1 (DFAll_app h2 h')
theorem DFAll_take : ∀ {vs : List V} {ds : List D} (n : Nat), DFAll K H vs ds → DFAll K H (vs.take n) (ds.take n)
  | _, _, 0, _ => .nil
  | [], _, n + 1, h => by cases h; exact .nil
  | v :: vs, _, n + 1, h => by
    cases h with
    | cons h1 h2 => exact .cons h1 (DFAll_take n h2)
theorem DFAll_drop : ∀ {vs : List V} {ds : List D} (n : Nat), DFAll K H vs ds → DFAll K H (vs.drop n) (ds.drop n)
  | _, _, 0, h => h
  | [], _, n + 1, h => by cases h; exact .nil
  | v :: vs, _, n + 1, h => by
    cases h with
    | cons h1 h2 => exact DFAll_drop n h2
theorem DFAll_set : ∀ {vs : List V} {ds : List D} {v : V} {d : D} (i : Nat), DFAll K H vs ds → DF K H v d → DFAll K H (vs.set i v) (ds.set i d)
  | [], _, v, d, i, h, _ => by cases h; exact .nil
  | w :: vs, _, v, d, i, h, hd => by
    cases h with
    | cons h1 h2 =>
      cases i with
      | zero => exact .cons hd h2
      | succ i => exact .cons h1 (DFAll_set i h2 hd)
theorem DFAll_rep {vs : List V} {ds : List D} (h : DFAll K H vs ds) : ∀ n : Nat, DFAll K H (List.replicate n vs).flatten (List.replicate n ds).flatten
  | 0 => .nil
  | n + 1 => by
    rw [List.replicate_succ, List.replicate_succ, List.flatten_cons, List.flatten_cons]
    exact DFAll_app h (DFAll_rep h n)
mutual
theorem DF.dp : ∀ (d : D) (v : V), DF K H v d → Dp K H v d
  | .none, _, h => by cases h; exact .non
  | .bool b, _, h => by cases h; exact .bl b
  | .int i, _, h => by cases h; exact .int i
  | .str x, _, h => by cases h; exact .str x
  | .list ds, _, h => by
    cases h with
    | lst hs ha => exact .lst (.inl (.inl hs)) (DFAll.dp ds _ ha)
  | .tuple ds, _, h => by
    cases h with
    | tup hs ha => exact .tup hs (DFAll.dp ds _ ha)
  | .dict _, _, h => by cases h
theorem DFAll.dp : ∀ (ds : List D) (vs : List V), DFAll K H vs ds → DpAll K H vs ds
  | [], _, h => by cases h; exact .nil
  | d :: ds, _, h => by
    cases h with
    | cons h1 h2 => exact .cons (DF.dp d _ h1) (DFAll.dp ds _ h2)
end
end

inductive KDp {κ : Type} (K : PySem.W.Frag) (H : Hp) : List (κ × V) → List (κ × D) → Prop
  | nil : KDp K H [] []
  | cons {k : κ} {v : V} {d : D} {vs ds} : DF K H v d → KDp K H vs ds → KDp K H ((k, v) :: vs) ((k, d) :: ds)
theorem KDp.mono {κ : Type} {K : PySem.W.Frag} {H H' : Hp} (e : Same H H') : ∀ {vs : List (κ × V)} {ds : List (κ × D)}, KDp K H vs ds → KDp K H' vs ds
  | _, _, .nil => .nil
  | _, _, .cons h t => .cons (DF_mono e _ _ h) (KDp.mono e t)

mutual
def keyN : D → Option NestedKey
  | .none => some .none
  | .bool b => some (.num (if b = true then 1 else 0))
  | .int i => some (.num i)
  | .str x => some (.text x)
  | .tuple ds => (keyNs ds).map .tup
  | _ => none
def keyNs : List D → Option (List NestedKey)
  | [] => some []
  | d :: ds => (keyN d).bind fun k => (keyNs ds).map (k :: ·)
end
def dnO (w : World) (a : Addr) (xs : List (NestedKey × Addr × Value)) : HO := .ext fun h => xs.length ≤ sizeLine ∧ (a == sysModules) = false ∧
  ∃ o es ep, h.get? a = some o ∧ o.ExactDict ∧ o.data = .dict es ep ∧ es.toList = xs.map (fun x => (⟨x.1.hash w, .ref x.2.1, x.2.2⟩ : DictEntry)) ∧ (xs.map (·.1)).Nodup
inductive KeyAll (K : PySem.W.Frag) (H : Hp) : List (NestedKey × Addr × Value) → List D → Prop
  | nil : KeyAll K H [] []
  | cons {k : NestedKey} {p : Addr} {v : Value} {d : D} {xs : List (NestedKey × Addr × Value)} {ds : List D} : keyN d = some k → k.depth ≤ 8 → DF K H (.ref p) d → KeyAll K H xs ds → KeyAll K H ((k, p, v) :: xs) (d :: ds)
theorem KeyAll.mono {K : PySem.W.Frag} {H H' : Hp} (e : Same H H') : ∀ {xs : List (NestedKey × Addr × Value)} {ds : List D}, KeyAll K H xs ds → KeyAll K H' xs ds
  | _, _, .nil => .nil
  | _, _, .cons a b c t => .cons a b (DF_mono e _ _ c) (KeyAll.mono e t)
inductive KeysQ (K : PySem.W.Frag) (F : Hp) : List (NestedKey × Addr × Value) → List D → List V → Prop
  | nil : KeysQ K F [] [] []
  | cons {k : NestedKey} {p : Addr} {u : Value} {v : V} {d : D} {xs : List (NestedKey × Addr × Value)} {ds : List D} {vs : List V} : keyN d = some k → k.depth ≤ 8 → DF K F (.ref p) d → RelV v u → KeysQ K F xs ds vs → KeysQ K F ((k, p, u) :: xs) (d :: ds) (v :: vs)
theorem KeysQ.mono {K : PySem.W.Frag} {F F' : Hp} (e : Same F F') : ∀ {xs : List (NestedKey × Addr × Value)} {ds : List D} {vs : List V}, KeysQ K F xs ds vs → KeysQ K F' xs ds vs
  | _, _, _, .nil => .nil
  | _, _, _, .cons a b c r t => .cons a b (DF_mono e _ _ c) r (KeysQ.mono e t)
def NR (K : PySem.W.Frag) (ow : Option World) (H F : Hp) (s : Shp) (a : Addr) (vs : List V) (own : List Addr) : Prop :=
  match s with
  | .l => own = [a] ∧ H a = some (.lst vs)
  | .t => (own = [a] ∧ H a = some (.tup vs)) ∨ (own = [] ∧ SqT K F a vs)
  | .k ks => own = [a] ∧ ks.length = vs.length ∧ H a = some (.dK (ks.zip vs))
  | .q ks => own = [a] ∧ ∃ w xs, ow = some w ∧ H a = some (dnO w a xs) ∧ KeysQ K F xs ks vs
  | .o c fs => fs.length = vs.length ∧ ∃ C dx, own = [a, dx] ∧ PySem.W.nsIn K mainGlobals c = some (some (.ref C)) ∧ H a = some (.ins C dx (fs.zip vs)) ∧ H dx = some (.own a)
  | .e fs => own = [a] ∧ fs.length = vs.length ∧ H a = some (.xd (fs.zip vs))
  | .lf => own = [] ∧ F a = some (.lst vs)
  | .v => own = [] ∧ SqL K F a vs
  | .kf ks => own = [] ∧ ks.length = vs.length ∧ ∃ o, F a = some (.frz o (.dK (ks.zip vs)))
  | .x c fs => fs.length = vs.length ∧ ∃ C, PySem.W.nsIn K mainGlobals c = some (some (.ref C)) ∧ ((own = [a] ∧ fs = [] ∧ H a = some (exV a (.ref C) none)) ∨ ∃ dx, own = [a, dx] ∧ H a = some (exV a (.ref C) (some dx)) ∧ H dx = some (.xd (fs.zip vs)))
theorem NR.mono {K : PySem.W.Frag} {ow : Option World} {H H' F F' : Hp} {s : Shp} {a : Addr} {vs : List V} {own : List Addr} (r : NR K ow H F s a vs own) (h : ∀ b o, b ∈ own → H b = some o → H' b = some o) (f : Same F F') : NR K ow H' F' s a vs own := by
  cases s with
  | l => obtain ⟨rfl, r⟩ := r; exact ⟨rfl, h _ _ (List.mem_singleton.mpr rfl) r⟩
  | t =>
    rcases r with ⟨rfl, r⟩ | ⟨rfl, r⟩
    · exact .inl ⟨rfl, h _ _ (List.mem_singleton.mpr rfl) r⟩
    · exact .inr ⟨rfl, Same.seqT f r⟩
  | k ks => obtain ⟨rfl, l, r⟩ := r; exact ⟨rfl, l, h _ _ (List.mem_singleton.mpr rfl) r⟩
  | q ks => obtain ⟨rfl, w, xs, e, r, kq⟩ := r; exact ⟨rfl, w, xs, e, h _ _ (List.mem_singleton.mpr rfl) r, kq.mono f⟩
  | o c fs => obtain ⟨l, C, dx, rfl, n, r, r2⟩ := r; exact ⟨l, C, dx, rfl, n, h _ _ (List.mem_cons_self ..) r, h _ _ (by simp) r2⟩
  | e fs => obtain ⟨rfl, l, r⟩ := r; exact ⟨rfl, l, h _ _ (List.mem_singleton.mpr rfl) r⟩
  | lf => obtain ⟨rfl, r⟩ := r; exact ⟨rfl, f _ _ r⟩
  | v => obtain ⟨rfl, r⟩ := r; exact ⟨rfl, f.seq r⟩
  | kf ks => obtain ⟨rfl, l, o, r⟩ := r; exact ⟨rfl, l, o, f _ _ r⟩
  | x c fs =>
    obtain ⟨l, C, n, r⟩ := r
    refine ⟨l, C, n, ?_⟩
    rcases r with ⟨rfl, e, r⟩ | ⟨dx, rfl, r, r2⟩
    · exact .inl ⟨rfl, e, h _ _ (List.mem_cons_self ..) r⟩
    · exact .inr ⟨dx, rfl, h _ _ (List.mem_cons_self ..) r, h _ _ (by simp) r2⟩
mutual
inductive OR (K : PySem.W.Frag) (ow : Option World) (H F : Hp) : V → T → List Addr → Prop
  | d {v : V} {d : D} : DF K F v d → OR K ow H F v (.d d) []
  | n {s : Shp} {a : Addr} {vs : List V} {ts : List T} {own l : List Addr} : NR K ow H F s a vs own → ORs K ow H F vs ts l → (own ++ l).Nodup → OR K ow H F (.ref a) (.n s ts) (own ++ l)
inductive ORs (K : PySem.W.Frag) (ow : Option World) (H F : Hp) : List V → List T → List Addr → Prop
  | nil : ORs K ow H F [] [] []
  | cons {v : V} {t : T} {l m : List Addr} {vs : List V} {ts : List T} : OR K ow H F v t l → ORs K ow H F vs ts m → ORs K ow H F (v :: vs) (t :: ts) (l ++ m)
end
section
variable {K : PySem.W.Frag} {ow : Option World} {H H' F F' : Hp}
mutual
theorem OR_mono (f : Same F F') : ∀ (t : T) (v : V) (l : List Addr), (∀ b o, b ∈ l → H b = some o → H' b = some o) → OR K ow H F v t l → OR K ow H' F' v t l
  | .d d, _, _, _, h => by
    cases h with
    | d h => exact .d (DF_mono f _ _ h)
  | .n s ts, _, _, e, h => by
    cases h with
    | n h1 h2 h3 => exact .n (h1.mono (fun b o hb => e b o (List.mem_append_left _ hb)) f) (ORs_mono f ts _ _ (fun b o hb => e b o (List.mem_append_right _ hb)) h2) h3
theorem ORs_mono (f : Same F F') : ∀ (ts : List T) (vs : List V) (l : List Addr), (∀ b o, b ∈ l → H b = some o → H' b = some o) → ORs K ow H F vs ts l → ORs K ow H' F' vs ts l
  | [], _, _, _, h => by cases h; exact .nil
  | t :: ts, _, _, e, h => by
    cases h with
    | cons h1 h2 => exact .cons (OR_mono f t _ _ (fun b o hb => e b o (List.mem_append_left _ hb)) h1) (ORs_mono f ts _ _ (fun b o hb => e b o (List.mem_append_right _ hb)) h2)
end
theorem OR.nodup {v : V} {t : T} {l : List Addr} (h : OR K ow H F v t l) : l.Nodup := by
  cases h with
  | d _ => exact List.nodup_nil
  | n _ _ h => exact h
end
def SlotRep (K : PySem.W.Frag) (G : GC) (H F : Hp) (x : Option V) (c : C) (fp : List Addr) : Prop :=
  match c with
  | .und => fp = []
  | .val d => fp = [] ∧ ∃ v, x = some v ∧ DF K F v d
  | .brw d => fp = [] ∧ ∃ v, x = some v ∧ Dp K G.kp v d
  | .lst ds => ∃ a vs, fp = [a] ∧ x = some (.ref a) ∧ H a = some (.lst vs) ∧ DFAll K F vs ds
  | .dK ds => ∃ a vs, fp = [a] ∧ x = some (.ref a) ∧ H a = some (.dK vs) ∧ KDp K F vs ds
  | .dT ds => ∃ a vs, fp = [a] ∧ x = some (.ref a) ∧ H a = some (.dT vs) ∧ KDp K F vs ds
  | .dN ks => ∃ a w xs, fp = [a] ∧ x = some (.ref a) ∧ G.w = some w ∧ H a = some (dnO w a xs) ∧ KeyAll K F xs ks
  | .ro b t => fp = [] ∧ ∃ v l, x = some v ∧ OR K G.w G.kp F v t l ∧ (b = true → ∀ a vs, a ∈ l → G.kp a = some (.lst vs) → F a = some (.lst vs))
  | .pin j => fp = [] ∧ ∃ a l, G.Ws[j]? = some (a, l) ∧ x = some (.ref a)
  | .al j i => fp = [] ∧ ∃ a l vs v, G.Ws[j]? = some (a, l) ∧ F a = some (.lst vs) ∧ vs[i]? = some v ∧ x = some v
  | .own m t => ∃ v, x = some v ∧ OR K G.w H F v t fp ∧ ∀ j, m = some j → ∃ a l, G.Ws[j]? = some (a, l) ∧ v = .ref a ∧ ∀ b, b ∈ fp → b ∈ l ∨ G.H0 b = none

structure Rel (K : PySem.W.Frag) (G : GC) (env : List C) (σ : St) (H F : Hp) (fp : Nat → List Addr) : Prop where
  len : env.length = σ.length
  slot : ∀ i c, env[i]? = some c → SlotRep K G H F (σ[i]?.join) c (fp i)
  dj : ∀ i j a, a ∈ fp i → a ∈ fp j → i = j
  own : ∀ i a, a ∈ fp i → F a = none ∧ H a ≠ none ∧ (G.H0 a = none ∨ (a ∈ G.W ∧ ∃ c, env[i]? = some c ∧ c.mu = true))
  sub : Same F H
  new : ∀ a o, F a = some o → G.F0 a = some o ∨ G.H0 a = none
  old : Same G.F0 F
  keep : ∀ a o, G.H0 a = some o → a ∉ G.W → H a = some o
  alive : ∀ a, G.H0 a ≠ none → H a ≠ none

structure Ext (H F H' F' : Hp) : Prop where
  h : Same H H'
  f : Same F F'
  sub : Same F' H'
  new : ∀ a o, F' a = some o → F a = some o ∨ H a = none
section
variable {K : PySem.W.Frag} {G : GC} {env : List C} {σ : St} {H F H' F' H1 F1 : Hp} {fp : Nat → List Addr}
theorem Ext.refl (h : Same F H) : Ext H F H F := ⟨Same.refl _, Same.refl _, h, fun _ _ e => .inl e⟩
theorem Ext.trans (a : Ext H F H1 F1) (b : Ext H1 F1 H' F') : Ext H F H' F' :=
  ⟨a.h.trans b.h, a.f.trans b.f, b.sub, fun x o e => by
    rcases b.new x o e with q | q
    · exact a.new x o q
    · exact .inr (a.h.free q)⟩
theorem Ext.frozen {p : Addr} {o : HO} (h : Same F H) (np : H p = none) : Ext H F (upd H p o) (upd F p o) := by
  have nf : F p = none := h.free np
  refine ⟨fun b x e => ?_, fun b x e => ?_, fun b x e => ?_, fun b x e => ?_⟩
  · rw [upd_ne (ne_of_none e np)]; exact e
  · rw [upd_ne (ne_of_none e nf)]; exact e
  · by_cases hb : b = p
    · subst hb; rw [upd_same] at e ⊢; exact e
    · rw [upd_ne hb] at e ⊢; exact h _ _ e
  · by_cases hb : b = p
    · subst hb; exact .inr np
    · rw [upd_ne hb] at e; exact .inl e
theorem Ext.laid {p : Addr} {o : HO} (h : Same F H) (np : H p = none) : Ext H F (upd H p o) F := by
  refine ⟨fun b x e => ?_, Same.refl _, fun b x e => ?_, fun b x e => .inl e⟩
  · rw [upd_ne (ne_of_none e np)]; exact e
  · rw [upd_ne (ne_of_none (h _ _ e) np)]; exact h _ _ e
theorem Rel.ext (R : Rel K G env σ H F fp) (E : Ext H F H' F') : Rel K G env σ H' F' fp where
  len := R.len
  slot := fun i c e => by
    have q := R.slot i c e
    cases c with
    | und => exact q
    | val d => obtain ⟨q1, v, q2, q3⟩ := q; exact ⟨q1, v, q2, DF_mono E.f _ _ q3⟩
    | brw d => exact q
    | lst ds => obtain ⟨a, vs, q1, q2, q3, q4⟩ := q; exact ⟨a, vs, q1, q2, E.h _ _ q3, DFAll_mono E.f _ _ q4⟩
    | dK ds => obtain ⟨a, vs, q1, q2, q3, q4⟩ := q; exact ⟨a, vs, q1, q2, E.h _ _ q3, q4.mono E.f⟩
    | dT ds => obtain ⟨a, vs, q1, q2, q3, q4⟩ := q; exact ⟨a, vs, q1, q2, E.h _ _ q3, q4.mono E.f⟩
    | dN ds => obtain ⟨a, w, xs, q1, q2, q5, q3, q4⟩ := q; exact ⟨a, w, xs, q1, q2, q5, E.h _ _ q3, q4.mono E.f⟩
    | pin _ => exact q
    | al j i => obtain ⟨q0, a, l, vs, v, q1, q2, q3⟩ := q; exact ⟨q0, a, l, vs, v, q1, E.f _ _ q2, q3⟩
    | ro b t => obtain ⟨q0, v, l, q1, q2, q3⟩ := q; exact ⟨q0, v, l, q1, OR_mono E.f _ _ _ (fun _ _ _ h => h) q2, fun hb a vs ha hk => E.f _ _ (q3 hb a vs ha hk)⟩
    | own m t => obtain ⟨v, q1, q2, q3⟩ := q; exact ⟨v, q1, OR_mono E.f _ _ _ (fun b o _ => E.h b o) q2, q3⟩
  dj := R.dj
  own := fun i a ha => by
    obtain ⟨h1, h2, h3⟩ := R.own i a ha
    refine ⟨?_, ?_, h3⟩
    · cases q : F' a with
      | none => rfl
      | some o =>
        rcases E.new a o q with z | z
        · rw [h1] at z; cases z
        · exact absurd z h2
    · cases q : H a with
      | none => exact absurd q h2
      | some o => rw [E.h _ _ q]; intro z; cases z
  sub := E.sub
  new := fun a o e => by
    rcases E.new a o e with z | z
    · exact R.new a o z
    · right
      cases q : G.H0 a with
      | none => rfl
      | some u => exact absurd z (R.alive a (by rw [q]; intro z; cases z))
  old := R.old.trans E.f
  keep := fun a o e hw => E.h _ _ (R.keep a o e hw)
  alive := fun a e => by
    have q := R.alive a e
    cases z : H a with
    | none => exact absurd z q
    | some o => rw [E.h _ _ z]; intro y; cases y
theorem Rel.kpSame (R : Rel K G env σ H F fp) : Same G.kp H := fun a o e => by
  unfold GC.kp at e
  by_cases hw : a ∈ G.W
  · rw [if_pos hw] at e; cases e
  · rw [if_neg hw] at e; exact R.keep a o e hw
end

def LenOk (K : PySem.W.Frag) (H : Hp) : Prop := ∀ a xs, (SqL K H a xs ∨ SqT K H a xs) → xs.length ≤ sizeLine
def stb (G : GC) (F : Hp) : Hp := fun a => (F a).or (G.kp a)
def RepK (K : PySem.W.Frag) (G : GC) (k : RK) (H : Hp) (H' F' : Hp) (v : V) (d : D) : Prop :=
  match k with
  | .vw => Dp K H' v d
  | .vl => DF K F' v d ∨ ∃ a vs ds, v = .ref a ∧ d = .list ds ∧ H' a = some (.lst vs) ∧ DFAll K F' vs ds
  | .sv => Dp K (stb G F') v d
  | .fz => DF K F' v d
  | .ow => ∃ a vs ds, v = .ref a ∧ d = .list ds ∧ H a = none ∧ H' a = some (.lst vs) ∧ F' a = none ∧ DFAll K F' vs ds

structure DE (X : Cx) (G : GC) (k : RK) (e : Expr) (f : List C → Option D) : Prop where
  ex : ∃ t, PE X e t ∧ ∀ (σ : St) (H F : Hp) (fp : Nat → List Addr) (env : List C) (d : D) (Q : VK), Rel X.K G env σ H F fp → f env = some d →
    (∀ v H' F', Ext H F H' F' → RepK X.K G k H H' F' v d → Q v H') → t σ H Q
def RepA (K : PySem.W.Frag) (G : GC) (k : RK) (H' F' : Hp) (v : V) (d : D) : Prop :=
  match k with
  | .vw => Dp K H' v d
  | .vl => DF K F' v d ∨ ∃ a vs ds, v = .ref a ∧ d = .list ds ∧ H' a = some (.lst vs) ∧ DFAll K F' vs ds
  | .sv => Dp K (stb G F') v d
  | _ => DF K F' v d
def RepKs (K : PySem.W.Frag) (G : GC) (H' F' : Hp) : List RK → List V → List D → Prop
  | [], [], [] => True
  | k :: ks, v :: vs, d :: ds => RepA K G k H' F' v d ∧ RepKs K G H' F' ks vs ds
  | _, _, _ => False
structure DA (X : Cx) (G : GC) (ks : List RK) (es : List Expr) (f : List C → Option (List D)) : Prop where
  ex : ∃ t, PA X es t ∧ ∀ (σ : St) (H F : Hp) (fp : Nat → List Addr) (env : List C) (ds : List D) (Q : List V → Hp → Prop), Rel X.K G env σ H F fp → f env = some ds →
    (∀ vs H' F', Ext H F H' F' → RepKs X.K G H' F' ks vs ds → Q vs H') → t σ H Q
structure DTs (X : Cx) (G : GC) (e : Expr) (f : List C → Option Bool) : Prop where
  ex : ∃ t, PT X e t ∧ ∀ (σ : St) (H F : Hp) (fp : Nat → List Addr) (env : List C) (b : Bool) (Q : Bool → Hp → Prop), Rel X.K G env σ H F fp → f env = some b →
    (∀ H' F', Ext H F H' F' → Q b H') → t σ H Q
end DL
set_option Elab.async false
set_option linter.all false
set_option maxRecDepth 100000
set_option maxHeartbeats 4000000
namespace DL
open PySem PySem.Spec L2

def RK.le : RK → RK → Bool
  | .ow, _ => true
  | .fz, .fz => true | .fz, .sv => true | .fz, .vl => true | .fz, .vw => true
  | .vl, .vl => true | .vl, .vw => true
  | .sv, .sv => true | .sv, .vw => true
  | .vw, .vw => true
  | _, _ => false
def RK.arg : RK → Bool
  | .ow => false
  | _ => true

section
variable {K : PySem.W.Frag} {G : GC} {H H1 F1 H' F F' : Hp} {v : V} {d : D}
theorem stb_f : Same F (stb G F) := fun a o e => by unfold stb; rw [e]; rfl
theorem stb_kp (sub : Same F H) (kp : Same G.kp H) : Same G.kp (stb G F) := fun a o e => by
  unfold stb
  cases q : F a with
  | none => exact e
  | some u =>
    have h1 := sub _ _ q
    rw [kp _ _ e] at h1
    cases h1; rfl
theorem stb_sub (sub : Same F H) (kp : Same G.kp H) : Same (stb G F) H := fun a o e => by
  unfold stb at e
  cases q : F a with
  | none => rw [q] at e; exact kp _ _ e
  | some u => rw [q] at e; cases e; exact sub _ _ q
theorem stb_mono (sub : Same F' H') (kp : Same G.kp H') (f : Same F F') : Same (stb G F) (stb G F') := fun a o e => by
  unfold stb at e
  cases q : F a with
  | none => rw [q] at e; exact stb_kp sub kp _ _ e
  | some u => rw [q] at e; cases e; exact stb_f _ _ (f _ _ q)
theorem RepA.ext {k : RK} (E : Ext H F H' F') (kp : Same G.kp H') (r : RepA K G k H F v d) : RepA K G k H' F' v d := by
  cases k with
  | vw => exact Dp_mono E.h _ _ r
  | vl =>
    rcases r with r | ⟨a, vs, ds, e1, e2, e3, e4⟩
    · exact .inl (DF_mono E.f _ _ r)
    · exact .inr ⟨a, vs, ds, e1, e2, E.h _ _ e3, DFAll_mono E.f _ _ e4⟩
  | sv => exact Dp_mono (stb_mono E.sub kp E.f) _ _ r
  | fz => exact DF_mono E.f _ _ r
  | ow => exact DF_mono E.f _ _ r
theorem RepA.now {k : RK} (sub : Same F H) (kp : Same G.kp H) (r : RepA K G k H F v d) : Dp K H v d := by
  cases k with
  | vw => exact r
  | vl =>
    rcases r with r | ⟨a, vs, ds, rfl, rfl, e3, e4⟩
    · exact Dp_mono sub _ _ (DF.dp _ _ r)
    · exact .lst (.inl (.inl e3)) (DpAll_mono sub _ _ (DFAll.dp _ _ e4))
  | sv => exact Dp_mono (stb_sub sub kp) _ _ r
  | fz => exact Dp_mono sub _ _ (DF.dp _ _ r)
  | ow => exact Dp_mono sub _ _ (DF.dp _ _ r)
theorem vl_list {ds : List D} (sub : Same F H) (r : RepA K G .vl H F v (.list ds)) : ∃ a vs, v = .ref a ∧ H a = some (.lst vs) ∧ DFAll K F vs ds := by
  rcases r with r | ⟨a, vs, ds', e1, e2, e3, e4⟩
  · cases r with
    | lst h1 h2 => exact ⟨_, _, rfl, sub _ _ h1, h2⟩
  · cases e2
    exact ⟨a, vs, e1, e3, e4⟩
theorem vl_tup {ds : List D} (sub : Same F H) (r : RepA K G .vl H F v (.tuple ds)) : ∃ a vs, v = .ref a ∧ SqT K H a vs ∧ DFAll K F vs ds := by
  rcases r with r | ⟨a, vs, ds', e1, e2, e3, e4⟩
  · cases r with
    | tup h1 h2 => exact ⟨_, _, rfl, Same.seqT sub h1, h2⟩
  · cases e2
theorem vl_int {i : Int} (r : RepA K G .vl H F v (.int i)) : v = .int i := by
  rcases r with r | ⟨a, vs, ds', e1, e2, e3, e4⟩
  · cases r; rfl
  · cases e2
theorem vl_str {i : Str} (r : RepA K G .vl H F v (.str i)) : v = .str i := by
  rcases r with r | ⟨a, vs, ds', e1, e2, e3, e4⟩
  · cases r; rfl
  · cases e2
theorem vl_bl {i : Bool} (r : RepA K G .vl H F v (.bool i)) : v = .bl i := by
  rcases r with r | ⟨a, vs, ds', e1, e2, e3, e4⟩
  · cases r; rfl
  · cases e2
end

section
variable {X : Cx} {G : GC} {k k' : RK} {e : Expr} {f : List C → Option D}
theorem DE.conv (h : DE X G k e f) (hk : k.le k' = true) : DE X G k' e f := by
  obtain ⟨t, pt, ok⟩ := h.ex
  refine ⟨t, pt, fun σ H F fp env d Q R hf q => ok σ H F fp env d Q R hf fun v H' F' E r => ?_⟩
  have kp := (R.ext E).kpSame
  cases k with
  | ow =>
    obtain ⟨a, vs, ds, rfl, rfl, h1, h2, h3, h4⟩ := r
    have E2 : Ext H F H' (upd F' a (.lst vs)) := by
      refine ⟨E.h, fun b x e => ?_, fun b x e => ?_, fun b x e => ?_⟩
      · rw [upd_ne (ne_of_none (E.f _ _ e) h3)]; exact E.f _ _ e
      · by_cases hb : b = a
        · subst hb; rw [upd_same] at e; rw [← e]; exact h2
        · rw [upd_ne hb] at e; exact E.sub _ _ e
      · by_cases hb : b = a
        · subst hb; exact .inr h1
        · rw [upd_ne hb] at e; exact E.new _ _ e
    have m : Same F' (upd F' a (.lst vs)) := fun b x e => by
      rw [upd_ne (ne_of_none e h3)]; exact e
    have z : DF X.K (upd F' a (.lst vs)) (.ref a) (.list ds) := .lst upd_same (DFAll_mono m _ _ h4)
    cases k' with
    | vw => exact q _ H' _ E2 (Dp_mono E2.sub _ _ (DF.dp _ _ z))
    | vl => exact q _ H' _ E2 (.inl z)
    | sv => exact q _ H' _ E2 (Dp_mono stb_f _ _ (DF.dp _ _ z))
    | fz => exact q _ H' _ E2 z
    | ow => exact q _ H' F' E ⟨a, vs, ds, rfl, rfl, h1, h2, h3, h4⟩
  | fz =>
    have z : DF X.K F' v d := r
    cases k' with
    | vw => exact q _ H' _ E (Dp_mono E.sub _ _ (DF.dp _ _ z))
    | vl => exact q _ H' _ E (.inl z)
    | sv => exact q _ H' _ E (Dp_mono stb_f _ _ (DF.dp _ _ z))
    | fz => exact q _ H' _ E z
    | ow => cases hk
  | vl =>
    cases k' with
    | vw => exact q _ H' _ E (RepA.now (k := .vl) E.sub kp r)
    | vl => exact q _ H' _ E r
    | sv => cases hk
    | fz => cases hk
    | ow => cases hk
  | sv =>
    cases k' with
    | vw => exact q _ H' _ E (Dp_mono (stb_sub E.sub kp) _ _ r)
    | sv => exact q _ H' _ E r
    | vl => cases hk
    | fz => cases hk
    | ow => cases hk
  | vw =>
    cases k' with
    | vw => exact q _ H' _ E r
    | sv => cases hk
    | vl => cases hk
    | fz => cases hk
    | ow => cases hk
theorem repK_A {K : PySem.W.Frag} {H H' F' : Hp} {v : V} {d : D} (ha : k.arg = true) (r : RepK K G k H H' F' v d) : RepA K G k H' F' v d := by
  cases k with
  | ow => cases ha
  | _ => exact r
def eV (i : Nat) : List C → Option D := fun env => match env[i]? with | some (.val d) => some d | _ => none
def eL (i : Nat) : List C → Option D := fun env => match env[i]? with | some (.val d) => some d | some (.lst ds) => some (.list ds) | _ => none
def eB (i : Nat) : List C → Option D := fun env => match env[i]? with | some (.val d) => some d | some (.brw d) => some d | _ => none
def eC (d : D) : List C → Option D := fun _ => some d
theorem d_var {x : Str} {pos : Pos} (i : Nat) (h : PE X (.Name x pos) (tVar i)) : DE X G .fz (.Name x pos) (eV i) := by
  refine ⟨_, h, fun σ H F fp env d Q R hf q => ?_⟩
  unfold eV at hf
  split at hf
  · rename_i d' e
    cases hf
    obtain ⟨_, v, e1, r⟩ := R.slot i _ e
    cases z : σ[i]? with
    | none => rw [z] at e1; cases e1
    | some o =>
      rw [z] at e1
      have e2 : o = some v := e1
      subst e2
      exact ⟨v, z, q v H F (Ext.refl R.sub) r⟩
  · cases hf
theorem d_varL {x : Str} {pos : Pos} (i : Nat) (h : PE X (.Name x pos) (tVar i)) : DE X G .vl (.Name x pos) (eL i) := by
  refine ⟨_, h, fun σ H F fp env d Q R hf q => ?_⟩
  unfold eL at hf
  split at hf
  · rename_i d' e
    cases hf
    obtain ⟨_, v, e1, r⟩ := R.slot i _ e
    cases z : σ[i]? with
    | none => rw [z] at e1; cases e1
    | some o =>
      rw [z] at e1
      have e2 : o = some v := e1
      subst e2
      exact ⟨v, z, q v H F (Ext.refl R.sub) (.inl r)⟩
  · rename_i ds e
    cases hf
    obtain ⟨a, vs, _, e1, e3, r⟩ := R.slot i _ e
    cases z : σ[i]? with
    | none => rw [z] at e1; cases e1
    | some o =>
      rw [z] at e1
      have e2 : o = some (.ref a) := e1
      subst e2
      exact ⟨_, z, q _ H F (Ext.refl R.sub) (.inr ⟨a, vs, ds, rfl, rfl, e3, r⟩)⟩
  · cases hf
theorem d_varB {x : Str} {pos : Pos} (i : Nat) (h : PE X (.Name x pos) (tVar i)) : DE X G .sv (.Name x pos) (eB i) := by
  refine ⟨_, h, fun σ H F fp env d Q R hf q => ?_⟩
  unfold eB at hf
  split at hf
  · rename_i d' e
    cases hf
    obtain ⟨_, v, e1, r⟩ := R.slot i _ e
    cases z : σ[i]? with
    | none => rw [z] at e1; cases e1
    | some o =>
      rw [z] at e1
      have e2 : o = some v := e1
      subst e2
      exact ⟨v, z, q v H F (Ext.refl R.sub) (Dp_mono stb_f _ _ (DF.dp _ _ r))⟩
  · rename_i ds e
    cases hf
    obtain ⟨_, v, e1, r⟩ := R.slot i _ e
    cases z : σ[i]? with
    | none => rw [z] at e1; cases e1
    | some o =>
      rw [z] at e1
      have e2 : o = some v := e1
      subst e2
      exact ⟨v, z, q v H F (Ext.refl R.sub) (Dp_mono (stb_kp R.sub R.kpSame) _ _ r)⟩
  · cases hf
theorem d_int {i j pos} : DE X G .fz (.Constant (.int i) j pos) (eC (.int i)) := ⟨_, pe_int, fun σ H F fp env d Q R hf q => by cases hf; exact q _ H F (Ext.refl R.sub) (.int i)⟩
theorem d_bl {b j pos} : DE X G .fz (.Constant (.bool b) j pos) (eC (.bool b)) := ⟨_, pe_bl, fun σ H F fp env d Q R hf q => by cases hf; exact q _ H F (Ext.refl R.sub) (.bl b)⟩
theorem d_non {j pos} : DE X G .fz (.Constant .none j pos) (eC .none) := ⟨_, pe_non, fun σ H F fp env d Q R hf q => by cases hf; exact q _ H F (Ext.refl R.sub) .non⟩
theorem d_str {x j pos} : DE X G .fz (.Constant (.str x) j pos) (eC (.str x)) := ⟨_, pe_str, fun σ H F fp env d Q R hf q => by cases hf; exact q _ H F (Ext.refl R.sub) (.str x)⟩
theorem d_glob {x : Str} {v : V} {d : D} {u : Value} {pos : Pos} (hg : Gl X x) (hm : X.mg x = some u) (r : RelV v u) (hd : DF X.K (fun _ => none) v d) (hdb : (x == ("__debug__" : Str)) = false := by decide) : DE X G .fz (.Name x pos) (eC d) :=
  ⟨_, pe_glob hg hm r hdb, fun σ H F fp env d' Q R hf q => by cases hf; exact q _ H F (Ext.refl R.sub) (DF_mono (fun _ _ z => by simp at z) _ _ hd)⟩

theorem opr_len {f : Value → Value → Sem Value} {r : R2} (h : OpR X f r) : OpR X f (fun x y H Q => LenOk X.K H → r x y H Q) := fun pins s σ H x y v u Q I rx ry q => h pins s σ H x y v u Q I rx ry (q fun a xs hx => by
  rcases hx with hx | hx
  · obtain ⟨_, _, _, z⟩ := I.list hx
    exact z
  · obtain ⟨_, _, _, z⟩ := I.tuple hx
    exact z)
structure DOp (X : Cx) (G : GC) (f : Value → Value → Sem Value) (ka kb kr : RK) (g : D → D → Option D) : Prop where
  ex : ∃ r, OpR X f r ∧ ∀ (H F : Hp) (vx vy : V) (dx dy d : D) (Q : VK), Same F H → Same G.kp H → LenOk X.K H → RepA X.K G ka H F vx dx → RepA X.K G kb H F vy dy → g dx dy = some d →
    (∀ v H' F', Ext H F H' F' → RepK X.K G kr H H' F' v d → Q v H') → r vx vy H Q
def e2 (g : D → D → Option D) (fa fb : List C → Option D) : List C → Option D := fun env => (fa env).bind fun x => (fb env).bind fun y => g x y
variable {op : Operator} {a b : Expr} {fa fb : List C → Option D} {pos : Pos} {ka kb kr k1 k2 : RK} {g : D → D → Option D}
theorem RepK.back {K : PySem.W.Frag} {H H1 H' F' : Hp} {v : V} {d : D} (s : Same H H1) (r : RepK K G k H1 H' F' v d) : RepK K G k H H' F' v d := by
  cases k with
  | ow =>
    obtain ⟨a, vs, ds, e1, e2, h1, r⟩ := r
    exact ⟨a, vs, ds, e1, e2, s.free h1, r⟩
  | _ => exact r
theorem two_ok {r : R2} {ta tb : TE} (o2 : ∀ (H F : Hp) (vx vy : V) (dx dy d : D) (Q : VK), Same F H → Same G.kp H → LenOk X.K H → RepA X.K G ka H F vx dx → RepA X.K G kb H F vy dy → g dx dy = some d →
    (∀ v H' F', Ext H F H' F' → RepK X.K G kr H H' F' v d → Q v H') → r vx vy H Q) (haa : ka.arg = true) (hba : kb.arg = true)
    (oa : ∀ (σ : L2.St) (H F : Hp) (fp : Nat → List Addr) (env : List C) (d : D) (Q : VK), Rel X.K G env σ H F fp → fa env = some d → (∀ v H' F', Ext H F H' F' → RepK X.K G ka H H' F' v d → Q v H') → ta σ H Q)
    (ob : ∀ (σ : L2.St) (H F : Hp) (fp : Nat → List Addr) (env : List C) (d : D) (Q : VK), Rel X.K G env σ H F fp → fb env = some d → (∀ v H' F', Ext H F H' F' → RepK X.K G kb H H' F' v d → Q v H') → tb σ H Q)
    {σ : L2.St} {H F : Hp} {fp : Nat → List Addr} {env : List C} {d : D} {Q : VK} (R : Rel X.K G env σ H F fp) (hf : e2 g fa fb env = some d) (q : ∀ v H' F', Ext H F H' F' → RepK X.K G kr H H' F' v d → Q v H') :
    tOp (fun x y H Q => LenOk X.K H → r x y H Q) ta tb σ H Q := by
  unfold e2 at hf
  cases h1 : fa env with
  | none => rw [h1] at hf; cases hf
  | some x =>
    cases h2 : fb env with
    | none => rw [h1, h2] at hf; cases hf
    | some y =>
      rw [h1, h2] at hf
      refine oa σ H F fp env x _ R h1 fun vx H1 F1 E1 r1 => ?_
      refine ob σ H1 F1 fp env y _ (R.ext E1) h2 fun vy H2 F2 E2 r2 => ?_
      intro hl
      have kp2 := ((R.ext E1).ext E2).kpSame
      exact o2 H2 F2 vx vy x y d Q E2.sub kp2 hl ((repK_A haa r1).ext E2 kp2) (repK_A hba r2) hf fun v H' F' E3 r3 => q v H' F' ((E1.trans E2).trans E3) (r3.back (E1.h.trans E2.h))
theorem d_bin (o : DOp X G (binaryOp op) ka kb kr g) (ha : DE X G k1 a fa) (hb : DE X G k2 b fb) (h1 : k1.le ka = true := by rfl) (h2 : k2.le kb = true := by rfl) (haa : ka.arg = true := by rfl) (hba : kb.arg = true := by rfl) :
    DE X G kr (.BinOp a op b pos) (e2 g fa fb) := by
  obtain ⟨r, or, o2⟩ := o.ex
  obtain ⟨ta, pa, oa⟩ := (ha.conv h1).ex
  obtain ⟨tb, pb, ob⟩ := (hb.conv h2).ex
  exact ⟨_, pe_op (opr_len or) pa pb, fun σ H F fp env d Q R hf q => two_ok o2 haa hba oa ob R hf q⟩
theorem d_cmp {op : CmpOp} (o : DOp X G (compareOp op) ka kb kr g) (ha : DE X G k1 a fa) (hb : DE X G k2 b fb) (hm : behindInMarks op b = false) (h1 : k1.le ka = true := by rfl) (h2 : k2.le kb = true := by rfl) (haa : ka.arg = true := by rfl) (hba : kb.arg = true := by rfl) :
    DE X G kr (.Compare a [op] [b] pos) (e2 g fa fb) := by
  obtain ⟨r, or, o2⟩ := o.ex
  obtain ⟨ta, pa, oa⟩ := (ha.conv h1).ex
  obtain ⟨tb, pb, ob⟩ := (hb.conv h2).ex
  exact ⟨_, pe_cmpR (opr_len or) pa pb hm, fun σ H F fp env d Q R hf q => two_ok o2 haa hba oa ob R hf q⟩
def asB : Option D → Option Bool
  | some (.bool b) => some b
  | _ => none
def tB (f : List C → Option D) : List C → Option Bool := fun env => asB (f env)
theorem asB_some {o : Option D} {b : Bool} (h : asB o = some b) : o = some (.bool b) := by
  cases o with
  | none => cases h
  | some d => cases d <;> first | (cases h; rfl) | cases h
theorem repK_bl {K : PySem.W.Frag} {H H' F' : Hp} {v : V} {c : Bool} (ha : k.arg = true) (r : RepK K G k H H' F' v (.bool c)) : v = .bl c := by
  cases k with
  | ow => cases ha
  | vw => cases r; rfl
  | vl => exact vl_bl (G := G) (H := H') (F := F') r
  | sv => cases r; rfl
  | fz => cases r; rfl
theorem dt_cmp {op : CmpOp} (o : DOp X G (compareOp op) ka kb .fz g) (ha : DE X G k1 a fa) (hb : DE X G k2 b fb) (hm : behindInMarks op b = false) (h1 : k1.le ka = true := by rfl) (h2 : k2.le kb = true := by rfl) (haa : ka.arg = true := by rfl) (hba : kb.arg = true := by rfl) :
    DTs X G (.Compare a [op] [b] pos) (tB (e2 g fa fb)) := by
  obtain ⟨r, or, o2⟩ := o.ex
  obtain ⟨ta, pa, oa⟩ := (ha.conv h1).ex
  obtain ⟨tb, pb, ob⟩ := (hb.conv h2).ex
  refine ⟨_, pt_cmpR (opr_len or) pa pb hm, fun σ H F fp env d Q R hf q => ?_⟩
  exact two_ok (r := r) (Q := fun x H' => ∃ k, x = .bl k ∧ Q k H') o2 haa hba oa ob R (asB_some hf) fun v H' F' E r => ⟨d, repK_bl (k := .fz) (G := G) (H := H) rfl r, q H' F' E⟩
theorem dt_val (h : DE X G k e f) (h1 : k.le .vw = true := by rfl) (he : ∀ whole, isTrue e X.env whole = (do let v ← whole; standAt e.pos; holding [v] (truthy v)) := by intro _; rfl) : DTs X G e (tB f) := by
  obtain ⟨t, pt, ok⟩ := (h.conv h1).ex
  refine ⟨_, pt_val pt he, fun σ H F fp env d Q R hf q => ?_⟩
  exact ok σ H F fp env _ _ R (asB_some hf) fun v H' F' E r => ⟨d, repK_bl (k := .vw) (G := G) (H := H) rfl r, q H' F' E⟩
def tNotF (f : List C → Option Bool) : List C → Option Bool := fun env => (f env).map (!·)
theorem dt_not {f : List C → Option Bool} (h : DTs X G a f) : DTs X G (.UnaryOp .Not a pos) (tNotF f) := by
  obtain ⟨t, pt, ok⟩ := h.ex
  refine ⟨_, pt_not pt, fun σ H F fp env d Q R hf q => ?_⟩
  unfold tNotF at hf
  cases z : f env with
  | none => rw [z] at hf; cases hf
  | some c =>
    rw [z] at hf; cases hf
    exact ok σ H F fp env c _ R z fun H' F' E => q H' F' E
structure DW (X : Cx) (G : GC) (e : Expr) (f : List C → Option Bool) : Prop where
  ex : ∃ t, PW X e t ∧ ∀ (σ : L2.St) (H F : Hp) (fp : Nat → List Addr) (env : List C) (b : Bool) (Q : Bool → Hp → Prop), Rel X.K G env σ H F fp → f env = some b →
    (∀ H' F', Ext H F H' F' → Q b H') → t σ H Q
theorem DW.t {f : List C → Option Bool} (h : DW X G e f) : DTs X G e f := let ⟨t, p, o⟩ := h.ex; ⟨t, p.pt, o⟩
def tAndF (f g : List C → Option Bool) : List C → Option Bool := fun env => (f env).bind fun c => if c = true then g env else some false
def tOrF (f g : List C → Option Bool) : List C → Option Bool := fun env => (f env).bind fun c => if c = true then some true else g env
variable {f1 f2 : List C → Option Bool} {rest : List Expr}
theorem dw_and1 (h : DTs X G a f1) : DW X G (.BoolOp .And [a] pos) f1 := let ⟨t, p, o⟩ := h.ex; ⟨t, pw_and1 p, o⟩
theorem dw_or1 (h : DTs X G a f1) : DW X G (.BoolOp .Or [a] pos) f1 := let ⟨t, p, o⟩ := h.ex; ⟨t, pw_or1 p, o⟩
theorem dw_and (h : DTs X G a f1) (h2 : DW X G (.BoolOp .And (b :: rest) pos) f2) : DW X G (.BoolOp .And (a :: b :: rest) pos) (tAndF f1 f2) := by
  obtain ⟨t, p, o⟩ := h.ex
  obtain ⟨t2, p2, o2⟩ := h2.ex
  refine ⟨_, pw_and p p2, fun σ H F fp env d Q R hf q => ?_⟩
  unfold tAndF at hf
  cases z : f1 env with
  | none => rw [z] at hf; cases hf
  | some c =>
    rw [z] at hf
    refine o σ H F fp env c _ R z fun H1 F1 E1 => ?_
    cases c with
    | true =>
      refine iteT ?_
      exact o2 σ H1 F1 fp env d _ (R.ext E1) hf fun H' F' E => q H' F' (E1.trans E)
    | false =>
      cases hf
      exact iteF (q H1 F1 E1)
theorem dw_or (h : DTs X G a f1) (h2 : DW X G (.BoolOp .Or (b :: rest) pos) f2) : DW X G (.BoolOp .Or (a :: b :: rest) pos) (tOrF f1 f2) := by
  obtain ⟨t, p, o⟩ := h.ex
  obtain ⟨t2, p2, o2⟩ := h2.ex
  refine ⟨_, pw_or p p2, fun σ H F fp env d Q R hf q => ?_⟩
  unfold tOrF at hf
  cases z : f1 env with
  | none => rw [z] at hf; cases hf
  | some c =>
    rw [z] at hf
    refine o σ H F fp env c _ R z fun H1 F1 E1 => ?_
    cases c with
    | true =>
      cases hf
      exact iteT (q H1 F1 E1)
    | false =>
      refine iteF ?_
      exact o2 σ H1 F1 fp env d _ (R.ext E1) hf fun H' F' E => q H' F' (E1.trans E)
def eAnd (f g : List C → Option D) : List C → Option D := fun env => (asB (f env)).bind fun c => if c = true then g env else some (.bool false)
def eOr (f g : List C → Option D) : List C → Option D := fun env => (asB (f env)).bind fun c => if c = true then some (.bool true) else g env
def eNot (f : List C → Option D) : List C → Option D := fun env => (asB (f env)).map fun c => .bool (!c)
theorem d_one {op} (h : DE X G k a fa) : DE X G k (.BoolOp op [a] pos) fa := let ⟨t, p, o⟩ := h.ex; ⟨t, pe_one p, o⟩
theorem d_and (h : DE X G k1 a fa) (h2 : DE X G k2 (.BoolOp .And (b :: rest) pos) fb) (hk : k1.le .vw = true := by rfl) (hk2 : k2.le .fz = true := by rfl) : DE X G .fz (.BoolOp .And (a :: b :: rest) pos) (eAnd fa fb) := by
  obtain ⟨t, p, o⟩ := (h.conv hk).ex
  obtain ⟨t2, p2, o2⟩ := (h2.conv hk2).ex
  refine ⟨_, pe_and p p2, fun σ H F fp env d Q R hf q => ?_⟩
  unfold eAnd at hf
  cases z : asB (fa env) with
  | none => rw [z] at hf; cases hf
  | some c =>
    rw [z] at hf
    refine o σ H F fp env _ _ R (asB_some z) fun v H1 F1 E1 r => ⟨c, repK_bl (k := .vw) (G := G) (H := H) rfl r, ?_⟩
    cases c with
    | true =>
      refine iteT ?_
      exact o2 σ H1 F1 fp env d _ (R.ext E1) hf fun v H' F' E r => q v H' F' (E1.trans E) r
    | false =>
      cases hf
      exact iteF (q _ H1 F1 E1 (.bl false))
theorem d_not (h : DE X G k1 a fa) (hk : k1.le .vw = true := by rfl) : DE X G .fz (.UnaryOp .Not a pos) (eNot fa) := by
  obtain ⟨t, p, o⟩ := (h.conv hk).ex
  refine ⟨_, pe_not p, fun σ H F fp env d Q R hf q => ?_⟩
  unfold eNot at hf
  cases z : asB (fa env) with
  | none => rw [z] at hf; cases hf
  | some c =>
    rw [z] at hf; cases hf
    exact o σ H F fp env _ _ R (asB_some z) fun v H1 F1 E1 r => ⟨c, repK_bl (k := .vw) (G := G) (H := H) rfl r, q _ H1 F1 E1 (.bl _)⟩
end
end DL
set_option Elab.async false
set_option linter.all false
set_option maxRecDepth 100000
set_option maxHeartbeats 4000000
namespace DL
open PySem PySem.Spec L2

section
variable {X : Cx} {G : GC}
def gAddI : D → D → Option D | .int i, .int j => some (.int (i + j)) | _, _ => none
def gSub : D → D → Option D | .int i, .int j => some (.int (i - j)) | _, _ => none
def gMulI : D → D → Option D | .int i, .int j => if i.natAbs.log2 + j.natAbs.log2 < 1000000 then some (.int (i * j)) else none | _, _ => none
def gDiv : D → D → Option D | .int i, .int j => if 0 < j ∧ j.natAbs.log2 < 9000 then some (.int (i / j)) else none | _, _ => none
def gMod : D → D → Option D | .int i, .int j => if 0 < j then some (.int (i % j)) else none | _, _ => none
def gPow : D → D → Option D | .int i, .int j => if 0 ≤ j ∧ j ≤ 1000000 ∧ i.natAbs < 2 ^ 64 then some (.int (i ^ j.toNat)) else none | _, _ => none
def gLt : D → D → Option D | .int i, .int j => some (.bool (decide (i < j))) | _, _ => none
def gLe : D → D → Option D | .int i, .int j => some (.bool (decide (i ≤ j))) | _, _ => none
def gGt : D → D → Option D | .int i, .int j => some (.bool (decide (j < i))) | _, _ => none
def gGe : D → D → Option D | .int i, .int j => some (.bool (decide (j ≤ i))) | _, _ => none

theorem dop_int {f : Value → Value → Sem Value} {C : Int → Int → Prop} [∀ i j, Decidable (C i j)] {r : Int → Int → V} {r' : Int → Int → D} (h : OpR X f (rI C r)) {g : D → D → Option D}
    (hg : ∀ x y d, g x y = some d → ∃ i j, x = .int i ∧ y = .int j ∧ C i j ∧ d = r' i j) (hr : ∀ K F i j, DF K F (r i j) (r' i j)) : DOp X G f .vl .vl .fz g :=
  ⟨_, h, fun H F vx vy dx dy d Q sub kp hl rx ry hd q => by
    obtain ⟨i, j, rfl, rfl, hC, rfl⟩ := hg _ _ _ hd
    have e1 := vl_int rx
    have e2 := vl_int ry
    subst e1 e2
    exact ⟨i, j, rfl, rfl, hC, q _ H F (Ext.refl sub) (hr _ _ _ _)⟩⟩
theorem rI_of0 {f : Value → Value → Sem Value} {r : Int → Int → V} (h : OpR X f (rI0 r)) : OpR X f (rI (fun _ _ => True) r) := fun pins s σ H x y v u Q I rx ry q => h pins s σ H x y v u Q I rx ry (by
  obtain ⟨i, j, e1, e2, _, q⟩ := q
  exact ⟨i, j, e1, e2, q⟩)
theorem o_addI : DOp X G (binaryOp .Add) .vl .vl .fz gAddI := dop_int (r' := fun i j => .int (i + j)) (rI_of0 op_add) (fun x y d h => by
  unfold gAddI at h; split at h <;> cases h; exact ⟨_, _, rfl, rfl, True.intro, rfl⟩) fun _ _ _ _ => .int _
theorem o_sub : DOp X G (binaryOp .Sub) .vl .vl .fz gSub := dop_int (r' := fun i j => .int (i - j)) (rI_of0 op_sub) (fun x y d h => by
  unfold gSub at h; split at h <;> cases h; exact ⟨_, _, rfl, rfl, True.intro, rfl⟩) fun _ _ _ _ => .int _
theorem o_mulI : DOp X G (binaryOp .Mult) .vl .vl .fz gMulI := dop_int (C := fun i j => i.natAbs.log2 + j.natAbs.log2 < 1000000) (r' := fun i j => .int (i * j)) op_mulW (fun x y d h => by
  unfold gMulI at h
  split at h
  · split at h <;> cases h
    exact ⟨_, _, rfl, rfl, by assumption, rfl⟩
  · cases h) fun _ _ _ _ => .int _
theorem o_pow : DOp X G (binaryOp .Pow) .vl .vl .fz gPow := dop_int (C := fun i j => 0 ≤ j ∧ j ≤ 1000000 ∧ i.natAbs < 2 ^ 64) (r' := fun i j => .int (i ^ j.toNat)) op_pow (fun x y d h => by
  unfold gPow at h
  split at h
  · split at h <;> cases h
    exact ⟨_, _, rfl, rfl, by assumption, rfl⟩
  · cases h) fun _ _ _ _ => .int _
theorem o_lt : DOp X G (compareOp .Lt) .vl .vl .fz gLt := dop_int (r' := fun i j => .bool (decide (i < j))) (rI_of0 op_lt) (fun x y d h => by
  unfold gLt at h; split at h <;> cases h; exact ⟨_, _, rfl, rfl, True.intro, rfl⟩) fun _ _ _ _ => .bl _
theorem o_gt : DOp X G (compareOp .Gt) .vl .vl .fz gGt := dop_int (r' := fun i j => .bool (decide (j < i))) (rI_of0 op_gt) (fun x y d h => by
  unfold gGt at h; split at h <;> cases h; exact ⟨_, _, rfl, rfl, True.intro, rfl⟩) fun _ _ _ _ => .bl _
def eNeg (f : List C → Option D) : List C → Option D := fun env => match f env with | some (.int i) => some (.int (-i)) | _ => none
theorem d_neg {a : Expr} {k1 : RK} {fa : List C → Option D} {pos : Pos} (h : DE X G k1 a fa) (hk : k1.le .vl = true := by rfl) : DE X G .fz (.UnaryOp .USub a pos) (eNeg fa) := by
  obtain ⟨t, p, o⟩ := (h.conv hk).ex
  refine ⟨_, pe_un un_neg p, fun σ H F fp env d Q R hf q => ?_⟩
  unfold eNeg at hf
  cases z : fa env with
  | none => rw [z] at hf; cases hf
  | some c =>
    rw [z] at hf
    cases c <;> cases hf
    refine o σ H F fp env _ _ R z fun v H1 F1 E1 r => ?_
    have e := vl_int (G := G) (H := H1) (F := F1) r
    subst e
    exact ⟨_, rfl, q _ H1 F1 E1 (.int _)⟩

def gAddS : D → D → Option D | .str x, .str y => if x.length + y.length ≤ sizeLine then some (.str (x ++ y)) else none | _, _ => none
theorem o_addS : DOp X G (binaryOp .Add) .vl .vl .fz gAddS := ⟨_, op_add_str, fun H F vx vy dx dy d Q sub kp hl rx ry hd q => by
  unfold gAddS at hd
  split at hd
  · split at hd <;> cases hd
    have e1 := vl_str rx
    have e2 := vl_str ry
    subst e1 e2
    exact ⟨_, _, rfl, rfl, by assumption, q _ H F (Ext.refl sub) (.str _)⟩
  · cases hd⟩
def gAddL : D → D → Option D | .list xs, .list ys => if xs.length + ys.length ≤ sizeLine then some (.list (xs ++ ys)) else none | _, _ => none
theorem new_ow {H F : Hp} {p : Addr} {vs : List V} {ds : List D} (sub : Same F H) (np : H p = none) (r : DFAll X.K F vs ds) : Ext H F (upd H p (.lst vs)) F ∧ RepK X.K G .ow H (upd H p (.lst vs)) F (.ref p) (.list ds) :=
  ⟨Ext.laid sub np, p, vs, ds, rfl, rfl, np, upd_same, sub.free np, r⟩
theorem new_tup {H F : Hp} {p : Addr} {vs : List V} {ds : List D} (sub : Same F H) (np : H p = none) (r : DFAll X.K F vs ds) : Ext H F (upd H p (.tup vs)) (upd F p (.tup vs)) ∧ DF X.K (upd F p (.tup vs)) (.ref p) (.tuple ds) :=
  ⟨Ext.frozen sub np, .tup (.inl (.inl upd_same)) (DFAll_mono (fun b x e => by rw [upd_ne (ne_of_none e (sub.free np))]; exact e) _ _ r)⟩
theorem o_addL : DOp X G (binaryOp .Add) .vl .vl .ow gAddL := ⟨_, op_cat, fun H F vx vy dx dy d Q sub kp hl rx ry hd q => by
  unfold gAddL at hd
  split at hd
  · split at hd <;> cases hd
    obtain ⟨a, vs, rfl, h1, h2⟩ := vl_list sub rx
    obtain ⟨b, ws, rfl, h3, h4⟩ := vl_list sub ry
    refine ⟨a, b, vs, ws, rfl, rfl, h1, h3, by rw [DFAll_len h2, DFAll_len h4]; assumption, fun p np => ?_⟩
    obtain ⟨E, r⟩ := new_ow (G := G) sub np (DFAll_app h2 h4)
    exact q _ _ _ E r
  · cases hd⟩
def gAddT : D → D → Option D | .tuple xs, .tuple ys => if xs.length + ys.length ≤ sizeLine then some (.tuple (xs ++ ys)) else none | _, _ => none
theorem o_addT : DOp X G (binaryOp .Add) .vl .vl .fz gAddT := ⟨_, op_catA, fun H F vx vy dx dy d Q sub kp hl rx ry hd q => by
  unfold gAddT at hd
  split at hd
  · split at hd <;> cases hd
    rename_i xs ys _
    have fx : ∃ a vs, vx = .ref a ∧ SqT X.K F a vs ∧ DFAll X.K F vs xs := by
      rcases rx with rx | ⟨_, _, _, _, z, _⟩
      · cases rx with | tup h1 h2 => exact ⟨_, _, rfl, h1, h2⟩
      · cases z
    have fy : ∃ a vs, vy = .ref a ∧ SqT X.K F a vs ∧ DFAll X.K F vs ys := by
      rcases ry with rx | ⟨_, _, _, _, z, _⟩
      · cases rx with | tup h1 h2 => exact ⟨_, _, rfl, h1, h2⟩
      · cases z
    obtain ⟨a, vs, rfl, h1, h2⟩ := fx
    obtain ⟨b, ws, rfl, h3, h4⟩ := fy
    refine ⟨a, b, vs, ws, rfl, rfl, Same.seqT sub h1, Same.seqT sub h3, by rw [DFAll_len h2, DFAll_len h4]; assumption, fun e => ?_, fun e0 e => ?_, fun e0 e1 p np => ?_⟩
    · subst e; cases h2; exact q _ H F (Ext.refl sub) (.tup h3 h4)
    · subst e; cases h4; rw [List.append_nil] at q; exact q _ H F (Ext.refl sub) (.tup h1 h2)
    · obtain ⟨E, r⟩ := new_tup sub np (DFAll_app h2 h4)
      exact q _ _ _ E r
  · cases hd⟩
def gMulL : D → D → Option D | .list xs, .int k => if k < 2 ^ 63 ∧ -(2 ^ 63) ≤ k ∧ xs.length * k.toNat ≤ sizeLine then some (.list (List.replicate k.toNat xs).flatten) else none | _, _ => none
theorem o_mulL : DOp X G (binaryOp .Mult) .vl .vl .ow gMulL := ⟨_, op_rep, fun H F vx vy dx dy d Q sub kp hl rx ry hd q => by
  unfold gMulL at hd
  split at hd
  · split at hd <;> cases hd
    rename_i hc
    obtain ⟨a, vs, rfl, h1, h2⟩ := vl_list sub rx
    have e2 := vl_int ry
    subst e2
    refine ⟨a, _, vs, rfl, rfl, h1, hc.2.1, hc.1, by rw [DFAll_len h2]; exact hc.2.2, fun p np => ?_⟩
    obtain ⟨E, r⟩ := new_ow (G := G) sub np (DFAll_rep h2 _)
    exact q _ _ _ E r
  · cases hd⟩
def gMulT : D → D → Option D | .tuple xs, .int k => if xs ≠ [] ∧ 2 ≤ k ∧ k ≤ 1000 ∧ xs.length ≤ 1000 then some (.tuple (List.replicate k.toNat xs).flatten) else none | _, _ => none
theorem o_mulT : DOp X G (binaryOp .Mult) .vl .vl .fz gMulT := ⟨_, op_repT, fun H F vx vy dx dy d Q sub kp hl rx ry hd q => by
  unfold gMulT at hd
  split at hd
  · split at hd <;> cases hd
    rename_i hc
    obtain ⟨a, vs, rfl, h1, h2⟩ := vl_tup sub rx
    have e2 := vl_int ry
    subst e2
    refine ⟨a, _, vs, rfl, rfl, h1, fun e => ?_, hc.2.1, hc.2.2.1, by rw [DFAll_len h2]; exact hc.2.2.2, fun p np => ?_⟩
    · subst e; cases h2; exact hc.1 rfl
    obtain ⟨E, r⟩ := new_tup sub np (DFAll_rep h2 _)
    exact q _ _ _ E r
  · cases hd⟩

def gEqS : D → D → Option D
  | .int i, .int j => some (.bool (decide (i = j)))
  | .str i, .str j => some (.bool (decide (i = j)))
  | .bool i, .bool j => some (.bool (decide (i = j)))
  | _, _ => none
def gNeS : D → D → Option D
  | .int i, .int j => some (.bool (!decide (i = j)))
  | .str i, .str j => some (.bool (!decide (i = j)))
  | .bool i, .bool j => some (.bool (!decide (i = j)))
  | _, _ => none
theorem o_eqS : DOp X G (compareOp .Eq) .vl .vl .fz gEqS := ⟨_, op_eq, fun H F vx vy dx dy d Q sub kp hl rx ry hd q => by
  unfold gEqS at hd
  split at hd <;> cases hd
  · have e1 := vl_int rx; have e2 := vl_int ry; subst e1 e2
    refine ⟨rfl, ?_⟩
    rw [dec_int, Bool.beq_eq_decide_eq]
    exact q _ H F (Ext.refl sub) (.bl _)
  · have e1 := vl_str rx; have e2 := vl_str ry; subst e1 e2
    refine ⟨rfl, ?_⟩
    rw [dec_str, Bool.beq_eq_decide_eq]
    exact q _ H F (Ext.refl sub) (.bl _)
  · have e1 := vl_bl rx; have e2 := vl_bl ry; subst e1 e2
    refine ⟨rfl, ?_⟩
    rw [dec_bl, Bool.beq_eq_decide_eq]
    exact q _ H F (Ext.refl sub) (.bl _)⟩
theorem o_neS : DOp X G (compareOp .NotEq) .vl .vl .fz gNeS := ⟨_, op_ne, fun H F vx vy dx dy d Q sub kp hl rx ry hd q => by
  unfold gNeS at hd
  split at hd <;> cases hd
  · have e1 := vl_int rx; have e2 := vl_int ry; subst e1 e2
    refine ⟨rfl, ?_⟩
    rw [dec_int, Bool.beq_eq_decide_eq]
    exact q _ H F (Ext.refl sub) (.bl _)
  · have e1 := vl_str rx; have e2 := vl_str ry; subst e1 e2
    refine ⟨rfl, ?_⟩
    rw [dec_str, Bool.beq_eq_decide_eq]
    exact q _ H F (Ext.refl sub) (.bl _)
  · have e1 := vl_bl rx; have e2 := vl_bl ry; subst e1 e2
    refine ⟨rfl, ?_⟩
    rw [dec_bl, Bool.beq_eq_decide_eq]
    exact q _ H F (Ext.refl sub) (.bl _)⟩
def gEqD : D → D → Option D := fun x y => if SeqAt.shaped x = true ∧ SeqAt.shaped y = true then some (.bool (PyData.eqv x y)) else none
def gNeD : D → D → Option D := fun x y => if SeqAt.shaped x = true ∧ SeqAt.shaped y = true then some (.bool (!PyData.eqv x y)) else none
theorem o_eqD (hu : X.A.units + 64 < cLine) : DOp X G (compareOp .Eq) .vw .vw .fz gEqD := ⟨_, op_eqD hu, fun H F vx vy dx dy d Q sub kp hl rx ry hd q => by
  unfold gEqD at hd
  split at hd <;> cases hd
  rename_i hc
  exact ⟨_, _, rx, ry, hc.1, hc.2, q _ H F (Ext.refl sub) (.bl _)⟩⟩
theorem o_neD (hu : X.A.units + 64 < cLine) : DOp X G (compareOp .NotEq) .vw .vw .fz gNeD := ⟨_, op_neD hu, fun H F vx vy dx dy d Q sub kp hl rx ry hd q => by
  unfold gNeD at hd
  split at hd <;> cases hd
  rename_i hc
  exact ⟨_, _, rx, ry, hc.1, hc.2, q _ H F (Ext.refl sub) (.bl _)⟩⟩
def gInL : D → D → Option D | x, .list ys => if SeqAt.shaped x = true ∧ SeqAt.shaped (.list ys) = true then some (.bool (ys.any fun z => PyData.eqv z x)) else none | _, _ => none
def gNotInL : D → D → Option D | x, .list ys => if SeqAt.shaped x = true ∧ SeqAt.shaped (.list ys) = true then some (.bool (!ys.any fun z => PyData.eqv z x)) else none | _, _ => none
def gIx : D → D → Option D
  | .list xs, .int i => atI xs i
  | .tuple xs, .int i => atI xs i
  | .str z, .int i => (atI z.cps.toList i).map fun c => .str ⟨#[c]⟩
  | _, _ => none
theorem atI_rep {K : PySem.W.Frag} {F : Hp} {vs : List V} {ds : List D} {i : Int} {d : D} (h : DFAll K F vs ds) (e : atI ds i = some d) : ∃ v, atI vs i = some v ∧ DF K F v d := by
  unfold atI at e ⊢
  rw [DFAll_len h]
  cases z : ixN ds.length i with
  | none => rw [z] at e; cases e
  | some j =>
    rw [z] at e
    exact DFAll_get h e
theorem atI_repD {K : PySem.W.Frag} {F : Hp} {vs : List V} {ds : List D} {i : Int} {d : D} (h : DpAll K F vs ds) (e : atI ds i = some d) : ∃ v, atI vs i = some v ∧ Dp K F v d := by
  unfold atI at e ⊢
  rw [DpAll_len h]
  cases z : ixN ds.length i with
  | none => rw [z] at e; cases e
  | some j =>
    rw [z] at e
    exact DpAll_get h e
theorem ixr_len {r : R2} (h : IxR X r) : IxR X (fun x y H Q => LenOk X.K H → r x y H Q) := fun a b pins s σ H x y v u Q I rx ry q hs => h a b pins s σ H x y v u Q I rx ry (q fun a xs hx => by
  rcases hx with hx | hx
  · obtain ⟨_, _, _, z⟩ := I.list hx
    exact z
  · obtain ⟨_, _, _, z⟩ := I.tuple hx
    exact z) hs
def gIxS : D → D → Option D
  | .str z, .int i => if z.length ≤ sizeLine then (atI z.cps.toList i).map fun c => .str ⟨#[c]⟩ else none
  | x, y => gIx x y
theorem ix_ok {H F : Hp} {vx vy : V} {dx dy d : D} {Q : VK} (sub : Same F H) (rx : RepA X.K G .vl H F vx dx) (ry : RepA X.K G .vl H F vy dy) (hd : gIxS dx dy = some d)
    (q : ∀ v H' F', Ext H F H' F' → RepK X.K G .fz H H' F' v d → Q v H') : rIx X.K vx vy H Q := by
  unfold gIxS at hd
  split at hd
  · split at hd
    · rename_i z i hz
      have e1 := vl_str rx; have e2 := vl_int ry; subst e1 e2
      cases e : atI z.cps.toList i with
      | none => rw [e] at hd; cases hd
      | some c =>
        rw [e] at hd; cases hd
        exact .inr (.inr ⟨z, i, c, rfl, rfl, hz, e, q _ H F (Ext.refl sub) (.str _)⟩)
    · cases hd
  · rename_i hne
    unfold gIx at hd
    split at hd
    · obtain ⟨a, vs, rfl, h1, h2⟩ := vl_list sub rx
      have e2 := vl_int ry; subst e2
      obtain ⟨v, e, r⟩ := atI_rep h2 hd
      exact .inl ⟨a, vs, _, v, rfl, rfl, .inl (.inl h1), e, q _ H F (Ext.refl sub) r⟩
    · obtain ⟨a, vs, rfl, h1, h2⟩ := vl_tup sub rx
      have e2 := vl_int ry; subst e2
      obtain ⟨v, e, r⟩ := atI_rep h2 hd
      exact .inr (.inl ⟨a, vs, _, v, rfl, rfl, h1, e, q _ H F (Ext.refl sub) r⟩)
    · exact (hne _ _ rfl rfl).elim
    · cases hd
theorem ixB_ok {H F : Hp} {vx vy : V} {dx dy d : D} {Q : VK} (sub : Same F H) (kp : Same G.kp H) (rx : Dp X.K (stb G F) vx dx) (ry : RepA X.K G .vl H F vy dy) (hd : gIx dx dy = some d) (hz : ∀ z, dx ≠ .str z)
    (q : ∀ v H' F', Ext H F H' F' → RepK X.K G .sv H H' F' v d → Q v H') : rIx X.K vx vy H Q := by
  unfold gIx at hd
  split at hd
  · cases rx with
    | lst h1 h2 =>
      have e2 := vl_int ry; subst e2
      obtain ⟨v, e, r⟩ := atI_repD h2 hd
      exact .inl ⟨_, _, _, v, rfl, rfl, (stb_sub sub kp).seq h1, e, q _ H F (Ext.refl sub) r⟩
  · cases rx with
    | tup h1 h2 =>
      have e2 := vl_int ry; subst e2
      obtain ⟨v, e, r⟩ := atI_repD h2 hd
      exact .inr (.inl ⟨_, _, _, v, rfl, rfl, Same.seqT (stb_sub sub kp) h1, e, q _ H F (Ext.refl sub) r⟩)
  · exact absurd rfl (hz _)
  · cases hd
variable {a b : Expr} {fa fb : List C → Option D} {pos : Pos} {k1 k2 : RK}
theorem d_ix (ha : DE X G k1 a fa) (hb : DE X G k2 b fb) (hs : PlainIx b) (h1 : k1.le .vl = true := by rfl) (h2 : k2.le .vl = true := by rfl) : DE X G .fz (.Subscript a b pos) (e2 gIxS fa fb) := by
  obtain ⟨ta, pa, oa⟩ := (ha.conv h1).ex
  obtain ⟨tb, pb, ob⟩ := (hb.conv h2).ex
  exact ⟨_, pe_ix (ixr_len ix_seq) pa pb hs, fun σ H F fp env d Q R hf q => two_ok (kr := .fz) (fun H F vx vy dx dy d Q sub kp hl rx ry hd q => ix_ok sub rx ry hd q) rfl rfl oa ob R hf q⟩
def gIxB : D → D → Option D | .str _, _ => none | x, y => gIx x y
theorem d_ixB (ha : DE X G k1 a fa) (hb : DE X G k2 b fb) (hs : PlainIx b) (h1 : k1.le .sv = true := by rfl) (h2 : k2.le .vl = true := by rfl) : DE X G .sv (.Subscript a b pos) (e2 gIxB fa fb) := by
  obtain ⟨ta, pa, oa⟩ := (ha.conv h1).ex
  obtain ⟨tb, pb, ob⟩ := (hb.conv h2).ex
  refine ⟨_, pe_ix (ixr_len ix_seq) pa pb hs, fun σ H F fp env d Q R hf q => two_ok (kr := .sv) (fun H F vx vy dx dy d Q sub kp hl rx ry hd q => ?_) rfl rfl oa ob R hf q⟩
  unfold gIxB at hd
  split at hd
  · cases hd
  · rename_i hn
    exact ixB_ok sub kp rx ry hd (fun z e => hn z e) q
def scalD : D → Bool | .int _ => true | .str _ => true | .bool _ => true | .none => true | _ => false
def eScal (f : List C → Option D) : List C → Option D := fun env => match f env with | some d => if scalD d then some d else none | none => none
theorem d_scal {e : Expr} {f : List C → Option D} (h : DE X G k1 e f) (h1 : k1.le .vw = true := by rfl) : DE X G .fz e (eScal f) := by
  obtain ⟨t, p, o⟩ := (h.conv h1).ex
  refine ⟨t, p, fun σ H F fp env d Q R hf q => ?_⟩
  unfold eScal at hf
  split at hf
  · rename_i d' e
    split at hf
    · cases hf
      rename_i hs
      refine o σ H F fp env _ _ R e fun v H' F' E r => q v H' F' E ?_
      have r' : Dp X.K H' v d := r
      cases r' with
      | non => exact .non
      | bl b => exact .bl b
      | int i => exact .int i
      | str x => exact .str x
      | lst _ _ => cases hs
      | tup _ _ => cases hs
    · cases hf
  · cases hf

structure DP (X : Cx) (G : GC) (e : Option Expr) (f : List C → Option (Option Int)) : Prop where
  ex : ∃ t, PO X e t ∧ ∀ (σ : L2.St) (H F : Hp) (fp : Nat → List Addr) (env : List C) (o : Option Int) (Q : Option Int → Hp → Prop), Rel X.K G env σ H F fp → f env = some o →
    (∀ H' F', Ext H F H' F' → Q o H') → t σ H Q
def pN : List C → Option (Option Int) := fun _ => some none
def pS (f : List C → Option D) : List C → Option (Option Int) := fun env => match f env with | some (.int i) => some (some i) | _ => none
theorem dp_none : DP X G none pN := ⟨_, po_none, fun σ H F fp env d Q R hf q => by cases hf; exact q H F (Ext.refl R.sub)⟩
theorem dp_some {e : Expr} {f : List C → Option D} (h : DE X G k1 e f) (h1 : k1.le .vl = true := by rfl) : DP X G (some e) (pS f) := by
  obtain ⟨t, p, o⟩ := (h.conv h1).ex
  refine ⟨_, po_some p, fun σ H F fp env d Q R hf q => ?_⟩
  unfold pS at hf
  split at hf
  · rename_i i e
    cases hf
    refine o σ H F fp env _ _ R e fun v H' F' E r => ?_
    have e1 := vl_int (G := G) (H := H') (F := F') r
    exact ⟨i, e1, q H' F' E⟩
  · cases hf
def cutD {α : Type} (xs : List α) (lo hi : Option Int) : List α := (xs.drop (HT.sIx xs.length 0 lo)).take (HT.sIx xs.length xs.length hi - HT.sIx xs.length 0 lo)
theorem cut_rep {K : PySem.W.Frag} {F : Hp} {vs : List V} {ds : List D} (h : DFAll K F vs ds) (lo hi : Option Int) : DFAll K F (cutV vs lo hi) (cutD ds lo hi) := by
  unfold cutV cutD
  rw [DFAll_len h]
  exact DFAll_take _ (DFAll_drop _ h)
theorem slr_len {r : V → Option Int → Option Int → Hp → VK → Prop} (h : SlR X r) : SlR X (fun x l u H Q => LenOk X.K H → r x l u H Q) := fun pins s σ H x v vl vu lo hi sl Q I rx hs pl pu q => h pins s σ H x v vl vu lo hi sl Q I rx hs pl pu (q fun a xs hx => by
  rcases hx with hx | hx
  · obtain ⟨_, _, _, z⟩ := I.list hx
    exact z
  · obtain ⟨_, _, _, z⟩ := I.tuple hx
    exact z)
def e3 (g : D → Option Int → Option Int → Option D) (fa : List C → Option D) (fl fu : List C → Option (Option Int)) : List C → Option D := fun env => (fa env).bind fun x => (fl env).bind fun l => (fu env).bind fun u => g x l u
theorem d_slice {r : V → Option Int → Option Int → Hp → VK → Prop} {ka kr : RK} {g : D → Option Int → Option Int → Option D} {lo hi : Option Expr} {fl fu : List C → Option (Option Int)} {p2 : Pos} (hr : SlR X r)
    (hg : ∀ (H F : Hp) (vx : V) (dx d : D) (l u : Option Int) (Q : VK), Same F H → Same G.kp H → LenOk X.K H → RepA X.K G ka H F vx dx → g dx l u = some d → (∀ v H' F', Ext H F H' F' → RepK X.K G kr H H' F' v d → Q v H') → r vx l u H Q)
    (ha : DE X G k1 a fa) (hl : DP X G lo fl) (hu : DP X G hi fu) (h1 : k1.le ka = true := by rfl) (haa : ka.arg = true := by rfl) : DE X G kr (.Subscript a (.Slice lo hi none p2) pos) (e3 g fa fl fu) := by
  obtain ⟨ta, pa, oa⟩ := (ha.conv h1).ex
  obtain ⟨tl, pl, ol⟩ := hl.ex
  obtain ⟨tu, pu, ou⟩ := hu.ex
  refine ⟨_, pe_slice (slr_len hr) pa pl pu, fun σ H F fp env d Q R hf q => ?_⟩
  unfold e3 at hf
  cases z1 : fa env with
  | none => rw [z1] at hf; cases hf
  | some x =>
    cases z2 : fl env with
    | none => rw [z1, z2] at hf; cases hf
    | some l =>
      cases z3 : fu env with
      | none => rw [z1, z2, z3] at hf; cases hf
      | some u =>
        rw [z1, z2, z3] at hf
        refine oa σ H F fp env x _ R z1 fun vx H1 F1 E1 r1 => ?_
        refine ol σ H1 F1 fp env l _ (R.ext E1) z2 fun H2 F2 E2 => ?_
        have R2 := (R.ext E1).ext E2
        refine ou σ H2 F2 fp env u _ R2 z3 fun H3 F3 E3 hlen => ?_
        have R3 := R2.ext E3
        have kp3 := R3.kpSame
        have kp2 := R2.kpSame
        exact hg H3 F3 vx x d l u Q E3.sub kp3 hlen (((repK_A haa r1).ext E2 kp2).ext E3 kp3) hf fun v H' F' E r => q v H' F' (((E1.trans E2).trans E3).trans E) (r.back ((E1.h.trans E2.h).trans E3.h))
def gSlL : D → Option Int → Option Int → Option D | .list xs, l, u => some (.list (cutD xs l u)) | _, _, _ => none
theorem d_slL {lo hi : Option Expr} {fl fu : List C → Option (Option Int)} {p2 : Pos} (ha : DE X G k1 a fa) (hl : DP X G lo fl) (hu : DP X G hi fu) (h1 : k1.le .vl = true := by rfl) : DE X G .ow (.Subscript a (.Slice lo hi none p2) pos) (e3 gSlL fa fl fu) :=
  d_slice (ka := .vl) sl_list (fun H F vx dx d l u Q sub kp hlen rx hd q => by
    unfold gSlL at hd
    split at hd <;> cases hd
    obtain ⟨p, vs, rfl, h1, h2⟩ := vl_list sub rx
    refine ⟨p, vs, rfl, .inl (.inl h1), fun n nn => ?_⟩
    obtain ⟨E, r⟩ := new_ow (G := G) sub nn (cut_rep h2 l u)
    exact q _ _ _ E r) ha hl hu h1
def allInt : List D → Option (List Int)
  | [] => some []
  | .int i :: r => (allInt r).map (i :: ·)
  | _ => none
theorem allInt_eq : ∀ {ds : List D} {ns : List Int}, allInt ds = some ns → ds = ns.map PyData.int
  | [], ns, h => by cases h; rfl
  | d :: ds, ns, h => by
    cases d <;> simp only [allInt] at h <;> try cases h
    rename_i i
    cases z : allInt ds with
    | none => rw [z] at h; cases h
    | some ms => rw [z] at h; cases h; rw [allInt_eq z]; rfl
theorem allInt_map : ∀ ns : List Int, allInt (ns.map PyData.int) = some ns
  | [] => rfl
  | n :: ns => by rw [List.map_cons, allInt, allInt_map ns]; rfl
def gSlB : D → Option Int → Option Int → Option D | .list xs, l, u => (allInt xs).map fun ns => .list ((cutD ns l u).map .int) | _, _, _ => none
def gSlT : D → Option Int → Option Int → Option D | .tuple xs, l, u => some (.tuple (cutD xs l u)) | _, _, _ => none
end
end DL
set_option Elab.async false
set_option linter.all false
set_option maxRecDepth 100000
set_option maxHeartbeats 4000000
namespace DL
open PySem PySem.Spec L2

section
variable {X : Cx} {G : GC} {e : Expr} {es : List Expr} {k k' kr : RK} {ks : List RK} {f : List C → Option D} {fs : List C → Option (List D)} {pos p : Pos}
theorem RepKs_len {K : PySem.W.Frag} {H F : Hp} : ∀ {ks : List RK} {vs : List V} {ds : List D}, RepKs K G H F ks vs ds → vs.length = ds.length ∧ ks.length = ds.length
  | [], [], [], _ => ⟨rfl, rfl⟩
  | k :: ks, v :: vs, d :: ds, h => by
    obtain ⟨h1, h2⟩ := RepKs_len h.2
    exact ⟨by rw [List.length_cons, List.length_cons, h1], by rw [List.length_cons, List.length_cons, h2]⟩
  | [], _ :: _, _, h => by cases h
  | [], [], _ :: _, h => by cases h
  | _ :: _, [], _, h => by cases h
  | _ :: _, _ :: _, [], h => by cases h
def aNil : List C → Option (List D) := fun _ => some []
def aCons (f : List C → Option D) (g : List C → Option (List D)) : List C → Option (List D) := fun env => (f env).bind fun d => (g env).bind fun ds => some (d :: ds)
theorem da_nil : DA X G [] [] aNil := ⟨_, pa_nil, fun σ H F fp env ds Q R hf q => by cases hf; exact q [] H F (Ext.refl R.sub) trivial⟩
theorem da_cons (h : DE X G k e f) (k' : RK) (ht : DA X G ks es fs) (hk : k.le k' = true := by rfl) (ha : k'.arg = true := by rfl) (hs : starEach (e :: es) X.env = (false, eval e X.env) :: starEach es X.env := by rfl) : DA X G (k' :: ks) (e :: es) (aCons f fs) := by
  obtain ⟨t, pt, o⟩ := (h.conv hk).ex
  obtain ⟨t2, pt2, o2⟩ := ht.ex
  refine ⟨_, pa_cons pt pt2 hs, fun σ H F fp env ds Q R hf q => ?_⟩
  unfold aCons at hf
  cases z : f env with
  | none => rw [z] at hf; cases hf
  | some d =>
    cases z2 : fs env with
    | none => rw [z, z2] at hf; cases hf
    | some es =>
      rw [z, z2] at hf; cases hf
      refine o σ H F fp env d _ R z fun v H1 F1 E1 r1 => ?_
      refine o2 σ H1 F1 fp env es _ (R.ext E1) z2 fun vs H2 F2 E2 r2 => ?_
      exact q (v :: vs) H2 F2 (E1.trans E2) ⟨(repK_A ha r1).ext E2 ((R.ext E1).ext E2).kpSame, r2⟩
def allFz : List RK → Bool
  | [] => true
  | .fz :: r => allFz r
  | _ => false
theorem RepKs_fz {K : PySem.W.Frag} {H F : Hp} : ∀ {ks : List RK} {vs : List V} {ds : List D}, allFz ks = true → RepKs K G H F ks vs ds → DFAll K F vs ds
  | [], [], [], _, _ => .nil
  | k :: ks, v :: vs, d :: ds, hk, h => by
    cases k with
    | fz => exact .cons h.1 (RepKs_fz (show allFz ks = true from hk) h.2)
    | _ => cases hk
  | [], _ :: _, _, _, h => by cases h
  | [], [], _ :: _, _, h => by cases h
  | _ :: _, [], _, _, h => by cases h
  | _ :: _, _ :: _, [], _, h => by cases h
def eTup (f : List C → Option (List D)) : List C → Option D := fun env => (f env).map .tuple
def eLst (f : List C → Option (List D)) : List C → Option D := fun env => (f env).map .list
theorem line1000 {n : Nat} (h : n ≤ 1000) : n ≤ sizeLine := by rw [sizeLine_eq]; omega
theorem d_tup {x1} (h : DA X G ks es fs) (hk : allFz ks = true := by rfl) (hn : ks.length ≤ 1000 := by decide) : DE X G .fz (.Tuple es x1 pos) (eTup fs) := by
  obtain ⟨t, pt, o⟩ := h.ex
  refine ⟨_, pe_tup pt, fun σ H F fp env d Q R hf q => ?_⟩
  unfold eTup at hf
  cases z : fs env with
  | none => rw [z] at hf; cases hf
  | some ds =>
    rw [z] at hf; cases hf
    refine o σ H F fp env ds _ R z fun vs H1 F1 E1 r => ?_
    obtain ⟨l1, l2⟩ := RepKs_len r
    refine ⟨line1000 (by omega), fun n nn => ?_⟩
    obtain ⟨E, r'⟩ := new_tup E1.sub nn (RepKs_fz hk r)
    exact q _ _ _ (E1.trans E) r'
theorem d_lst (h : DA X G ks es fs) (hk : allFz ks = true := by rfl) (hn : ks.length ≤ 1000 := by decide) : DE X G .ow (.List es pos) (eLst fs) := by
  obtain ⟨t, pt, o⟩ := h.ex
  refine ⟨_, pe_lst pt, fun σ H F fp env d Q R hf q => ?_⟩
  unfold eLst at hf
  cases z : fs env with
  | none => rw [z] at hf; cases hf
  | some ds =>
    rw [z] at hf; cases hf
    refine o σ H F fp env ds _ R z fun vs H1 F1 E1 r => ?_
    obtain ⟨l1, l2⟩ := RepKs_len r
    refine ⟨line1000 (by omega), fun n nn => ?_⟩
    obtain ⟨E, r'⟩ := new_ow (G := G) E1.sub nn (RepKs_fz hk r)
    exact q _ _ _ (E1.trans E) (r'.back E1.h)

theorem callr_len {f : Value} {r : List V → Hp → VK → Prop} (h : CallR X f r) : CallR X f (fun xs H Q => LenOk X.K H → r xs H Q) := fun pins s σ H xs us Q I rx q => h pins s σ H xs us Q I rx (q fun a xs hx => by
  rcases hx with hx | hx
  · obtain ⟨_, _, _, z⟩ := I.list hx
    exact z
  · obtain ⟨_, _, _, z⟩ := I.tuple hx
    exact z)
structure DCall (X : Cx) (G : GC) (f : Value) (ks : List RK) (kr : RK) (g : List D → Option D) : Prop where
  ex : ∃ r, CallR X f r ∧ ∀ (H F : Hp) (vs : List V) (ds : List D) (d : D) (Q : VK), Same F H → Same G.kp H → LenOk X.K H → RepKs X.K G H F ks vs ds → g ds = some d →
    (∀ v H' F', Ext H F H' F' → RepK X.K G kr H H' F' v d → Q v H') → r vs H Q
def e1 (g : List D → Option D) (f : List C → Option (List D)) : List C → Option D := fun env => (f env).bind g
theorem call_ok {r : List V → Hp → VK → Prop} {t : TA} {g : List D → Option D} (o : ∀ (H F : Hp) (vs : List V) (ds : List D) (d : D) (Q : VK), Same F H → Same G.kp H → LenOk X.K H → RepKs X.K G H F ks vs ds → g ds = some d →
    (∀ v H' F', Ext H F H' F' → RepK X.K G kr H H' F' v d → Q v H') → r vs H Q)
    (oa : ∀ (σ : L2.St) (H F : Hp) (fp : Nat → List Addr) (env : List C) (ds : List D) (Q : List V → Hp → Prop), Rel X.K G env σ H F fp → fs env = some ds → (∀ vs H' F', Ext H F H' F' → RepKs X.K G H' F' ks vs ds → Q vs H') → t σ H Q)
    {σ : L2.St} {H F : Hp} {fp : Nat → List Addr} {env : List C} {d : D} {Q : VK} (R : Rel X.K G env σ H F fp) (hf : e1 g fs env = some d) (q : ∀ v H' F', Ext H F H' F' → RepK X.K G kr H H' F' v d → Q v H') :
    tCB (fun xs H Q => LenOk X.K H → r xs H Q) t σ H Q := by
  unfold e1 at hf
  cases z : fs env with
  | none => rw [z] at hf; cases hf
  | some ds =>
    rw [z] at hf
    refine oa σ H F fp env ds _ R z fun vs H1 F1 E1 r1 hl => ?_
    exact o H1 F1 vs ds d Q E1.sub (R.ext E1).kpSame hl r1 hf fun v H' F' E r => q v H' F' (E1.trans E) (r.back E1.h)
variable {x : Str} {id T : String} {g : List D → Option D}
theorem d_callB (o : DCall X G (.builtin id) ks kr g) (hg : Gl X x) (hm : X.mg x = none) (hv : bootBuiltins x = some (.builtin id)) (ha : DA X G ks (e :: es) fs) (hn : x ≠ "__name__" := by decide) (hdb : (x == ("__debug__" : Str)) = false := by decide)
    (he : starEach (e :: es) X.env = (false, eval e X.env) :: starEach es X.env := by rfl) (hpl : (backTo pos (starEach es X.env)).any (·.1) = false := by rfl) : DE X G kr (.Call (.Name x p) (e :: es) [] pos) (e1 g fs) := by
  obtain ⟨r, hr, o⟩ := o.ex
  obtain ⟨t, pt, oa⟩ := ha.ex
  exact ⟨_, pe_callB (callr_len hr) hg hm hv pt hn hdb he hpl, fun σ H F fp env d Q R hf q => call_ok o oa R hf q⟩
theorem d_callT (o : DCall X G (.type T) ks kr g) (hg : Gl X x) (hm : X.mg x = none) (hv : bootBuiltins x = some (.type T)) (ha : DA X G ks (e :: es) fs) (hn : x ≠ "__name__" := by decide) (hdb : (x == ("__debug__" : Str)) = false := by decide)
    (he : starEach (e :: es) X.env = (false, eval e X.env) :: starEach es X.env := by rfl) (hpl : (backTo pos (starEach es X.env)).any (·.1) = false := by rfl) : DE X G kr (.Call (.Name x p) (e :: es) [] pos) (e1 g fs) := by
  obtain ⟨r, hr, o⟩ := o.ex
  obtain ⟨t, pt, oa⟩ := ha.ex
  exact ⟨_, pe_callTy (callr_len hr) hg hm hv pt hn hdb he hpl, fun σ H F fp env d Q R hf q => call_ok o oa R hf q⟩

theorem rep1 {K : PySem.W.Frag} {H F : Hp} {k : RK} {vs : List V} {ds : List D} (h : RepKs K G H F [k] vs ds) : ∃ v d, vs = [v] ∧ ds = [d] ∧ RepA K G k H F v d := by
  obtain ⟨l1, l2⟩ := RepKs_len h
  have l3 : ds.length = 1 := l2.symm
  obtain ⟨d, rfl⟩ := List.length_eq_one_iff.mp l3
  obtain ⟨v, rfl⟩ := List.length_eq_one_iff.mp (l1.trans l3)
  exact ⟨v, d, rfl, rfl, h.1⟩
def gLen : List D → Option D
  | [.list xs] => some (.int xs.length)
  | [.tuple xs] => some (.int xs.length)
  | [.str z] => if z.length ≤ sizeLine then some (.int z.length) else none
  | _ => none
theorem o_len : DCall X G (.builtin "len") [.vw] .fz gLen := ⟨_, call_len_seq.or call_len_str, fun H F vs ds d Q sub kp hl rs hd q => by
  obtain ⟨v, d1, rfl, rfl, r⟩ := rep1 rs
  have r' : Dp X.K H v d1 := r
  unfold gLen at hd
  split at hd
  · rename_i e; cases e; cases hd
    cases r' with
    | lst h1 h2 =>
      left
      refine ⟨_, _, rfl, .inl h1, ?_⟩
      rw [DpAll_len h2]
      exact q _ H F (Ext.refl sub) (.int _)
  · rename_i e; cases e; cases hd
    cases r' with
    | tup h1 h2 =>
      left
      refine ⟨_, _, rfl, .inr h1, ?_⟩
      rw [DpAll_len h2]
      exact q _ H F (Ext.refl sub) (.int _)
  · rename_i e; cases e
    split at hd <;> cases hd
    cases r'
    right
    exact ⟨_, rfl, by assumption, q _ H F (Ext.refl sub) (.int _)⟩
  · cases hd⟩
def gAbs : List D → Option D | [.int i] => some (.int (if i < 0 then -i else i)) | _ => none
def gMax2 : List D → Option D | [.int i, .int j] => some (.int (if j > i then j else i)) | _ => none
def gMin2 : List D → Option D | [.int i, .int j] => some (.int (if j < i then j else i)) | _ => none
def gSum : List D → Option D | [.list xs] => (allInt xs).map fun ns => .int ns.sum | _ => none
theorem o_sum (hc : X.calm = true) : DCall X G (.builtin "sum") [.vw] .fz gSum := ⟨_, cr_sum hc, fun H F vs ds d Q sub kp hl rs hd q => by
  obtain ⟨v, d1, rfl, rfl, r⟩ := rep1 rs
  have r' : Dp X.K H v d1 := r
  unfold gSum at hd
  split at hd
  · rename_i xs e; cases e
    cases z : allInt xs with
    | none => rw [z] at hd; cases hd
    | some ns =>
      rw [z] at hd; cases hd
      have e := allInt_eq z
      subst e
      cases r' with
      | lst h1 h2 =>
        have e2 := DpAll_ints_of h2
        subst e2
        exact ⟨_, ns, rfl, h1, q _ H F (Ext.refl sub) (.int _)⟩
  · cases hd⟩
def gInt : List D → Option D
  | [.int i] => some (.int i)
  | [.bool b] => some (.int (if b then 1 else 0))
  | [.str a] => if a.length ≤ 640 then (PySem.intText? a).map .int else none
  | _ => none
theorem o_int : DCall X G (.type "int") [.vw] .fz gInt := ⟨_, call_int1.or call_int_str, fun H F vs ds d Q sub kp hl rs hd q => by
  obtain ⟨v, d1, rfl, rfl, r⟩ := rep1 rs
  have r' : Dp X.K H v d1 := r
  unfold gInt at hd
  split at hd
  · rename_i e; cases e; cases hd; cases r'
    exact .inl (.inl ⟨_, rfl, q _ H F (Ext.refl sub) (.int _)⟩)
  · rename_i e; cases e; cases hd; cases r'
    exact .inl (.inr ⟨_, rfl, q _ H F (Ext.refl sub) (.int _)⟩)
  · rename_i a e; cases e; cases r'
    split at hd
    · cases z : PySem.intText? a with
      | none => rw [z] at hd; cases hd
      | some n =>
        rw [z] at hd; cases hd
        exact .inr ⟨a, n, rfl, z, by assumption, q _ H F (Ext.refl sub) (.int _)⟩
    · cases hd
  · cases hd⟩
def gStr : List D → Option D | [.int i] => if i.natAbs.log2 < 1920 then some (.str (toString i)) else none | _ => none
def gList : List D → Option D | [.list xs] => some (.list xs) | [.tuple xs] => some (.list xs) | _ => none
theorem o_list : DCall X G (.type "list") [.vl] .ow gList := ⟨_, call_list_of, fun H F vs ds d Q sub kp hl rs hd q => by
  obtain ⟨v, d1, rfl, rfl, r⟩ := rep1 rs
  unfold gList at hd
  split at hd
  · rename_i e; cases e; cases hd
    obtain ⟨a, vs, rfl, h1, h2⟩ := vl_list sub r
    refine ⟨a, vs, rfl, .inl (.inl (.inl h1)), fun n nn => ?_⟩
    obtain ⟨E, r'⟩ := new_ow (G := G) sub nn h2
    exact q _ _ _ E r'
  · rename_i e; cases e; cases hd
    obtain ⟨a, vs, rfl, h1, h2⟩ := vl_tup sub r
    refine ⟨a, vs, rfl, .inr h1, fun n nn => ?_⟩
    obtain ⟨E, r'⟩ := new_ow (G := G) sub nn h2
    exact q _ _ _ E r'
  · cases hd⟩
def gTuple : List D → Option D | [.list xs] => some (.tuple xs) | [.tuple xs] => some (.tuple xs) | _ => none
theorem o_tuple : DCall X G (.type "tuple") [.vl] .fz gTuple := ⟨_, call_tuple_of, fun H F vs ds d Q sub kp hl rs hd q => by
  obtain ⟨v, d1, rfl, rfl, r⟩ := rep1 rs
  unfold gTuple at hd
  split at hd
  · rename_i e; cases e; cases hd
    obtain ⟨a, vs, rfl, h1, h2⟩ := vl_list sub r
    refine ⟨a, vs, rfl, .inl ⟨.inl (.inl h1), fun n nn => ?_⟩⟩
    obtain ⟨E, r'⟩ := new_tup sub nn h2
    exact q _ _ _ E r'
  · rename_i xs e; cases e; cases hd
    have fx : ∃ a vs, v = .ref a ∧ SqT X.K F a vs ∧ DFAll X.K F vs xs := by
      rcases r with rx | ⟨_, _, _, _, z, _⟩
      · cases rx with | tup h1 h2 => exact ⟨_, _, rfl, h1, h2⟩
      · cases z
    obtain ⟨a, vs, rfl, h1, h2⟩ := fx
    exact ⟨a, vs, rfl, .inr ⟨Same.seqT sub h1, q _ H F (Ext.refl sub) (.tup h1 h2)⟩⟩
  · cases hd⟩

def tyD : D → String
  | .none => "NoneType" | .bool _ => "bool" | .int _ => "int" | .str _ => "str" | .list _ => "list" | .tuple _ => "tuple" | .dict _ => "dict"
def eIsi (T : String) (f : List C → Option D) : List C → Option D := fun env => (f env).bind fun d => (kitB (tyD d) T).map .bool
end

def spP (K : PySem.W.Frag) (ks : List RK) (kr : RK) (g : List D → Option D) : Sp := fun vs H Q _ => ∃ (F0 : Hp) (ds : List D) (d : D), Same F0 H ∧ g ds = some d ∧ RepKs K ⟨H, F0, [], none⟩ H F0 ks vs ds ∧
  ∀ v H' F', Ext H F0 H' F' → RepK K ⟨H, F0, [], none⟩ kr H H' F' v d → Q v H'
structure Callee (P : Program) (w : World) (K : PySem.W.Frag) (mg : Str → Option Value) (base : Heap) (k : Nat) (x : Str) (ks : List RK) (kr : RK) (g : List D → Option D) : Prop where
  ex : ∃ (f : Addr) (fd : FuncData) (ps : List Str), FnOk P w K mg base CX0 k f fd ps (spP K ks kr g) ∧ mg x = some (.ref f) ∧ PySem.W.keepIn K (.ref f) = true ∧ Binds K fd ps []
def okPs : List RK → Bool
  | [] => true
  | .fz :: r => okPs r
  | .vw :: r => okPs r
  | _ => false
def okR : RK → Bool | .fz => true | .ow => true | _ => false
section
variable {X : Cx} {G G' : GC} {es : List Expr} {kr : RK} {ks : List RK} {fs : List C → Option (List D)} {pos p : Pos} {x : Str} {g : List D → Option D} {n : Nat}
theorem RepKs_any {K : PySem.W.Frag} {H F : Hp} : ∀ {ks : List RK} {vs : List V} {ds : List D}, okPs ks = true → RepKs K G H F ks vs ds → RepKs K G' H F ks vs ds
  | [], [], [], _, _ => trivial
  | k :: ks, v :: vs, d :: ds, hk, h => by
    cases k with
    | fz => exact ⟨h.1, RepKs_any hk h.2⟩
    | vw => exact ⟨h.1, RepKs_any hk h.2⟩
    | _ => cases hk
  | [], _ :: _, _, _, h => by cases h
  | [], [], _ :: _, _, h => by cases h
  | _ :: _, [], _, _, h => by cases h
  | _ :: _, _ :: _, [], _, h => by cases h
theorem RepK_any {K : PySem.W.Frag} {H H' F' : Hp} {v : V} {d : D} (hk : okR kr = true) (h : RepK K G kr H H' F' v d) : RepK K G' kr H H' F' v d := by
  cases kr with
  | fz => exact h
  | ow => exact h
  | _ => cases hk
theorem d_call {e : Expr} (c : Callee X.prog X.w X.K X.mg X.base n x ks kr g) (hr : Room n X.A) (hg : Gl X x) (ha : DA X G ks (e :: es) fs) (hp : okPs ks = true := by rfl) (hk : okR kr = true := by rfl) (hdb : (x == ("__debug__" : Str)) = false := by decide)
    (he : starEach (e :: es) X.env = (false, eval e X.env) :: starEach es X.env := by rfl) (hpl : (backTo pos (starEach es X.env)).any (·.1) = false := by rfl) : DE X G kr (.Call (.Name x p) (e :: es) [] pos) (e1 g fs) := by
  obtain ⟨f, fd, ps, F, hm, kp, b⟩ := c.ex
  obtain ⟨t, pt, oa⟩ := ha.ex
  refine ⟨_, pe_call F hr hg hm kp b .nil pass0 pt hdb he hpl, fun σ H F fp env d Q R hf q => ?_⟩
  unfold e1 at hf
  cases z : fs env with
  | none => rw [z] at hf; cases hf
  | some ds =>
    rw [z] at hf
    refine oa σ H F fp env ds _ R z fun vs H1 F1 E1 r1 => ?_
    rw [List.append_nil]
    exact ⟨F1, ds, d, E1.sub, hf, RepKs_any hp r1, fun v H' F' E r => q v H' F' (E1.trans E) ((RepK_any hk r).back E1.h)⟩
end
end DL
set_option Elab.async false
set_option linter.all false
set_option maxRecDepth 100000
set_option maxHeartbeats 4000000
namespace DL
open PySem PySem.Spec L2

structure XD where
  c : Str
  fs : List Str
  ds : List D
def XT (x : XD) : T := match x.fs with | [] => .d .none | f :: r => .n (.e (f :: r)) (x.ds.map T.d)
def vX : Option Addr → V
  | none => .non
  | some a => .ref a
def XC (K : PySem.W.Frag) (c : Str) (cls : Value) : Prop := ∃ C, PySem.W.nsIn K mainGlobals c = some (some (.ref C)) ∧ cls = .ref C
inductive Out where
  | nx (env : List C) | rt (d : D) | bk (env : List C) | ct (env : List C) | err | rx (env : List C) (t : T) | xc (env : List C) (x : XD)
structure Fin (G : GC) (H' F' : Hp) : Prop where
  h : ∀ a o, G.H0 a = some o → a ∉ G.W → H' a = some o
  f : Same G.F0 F'
  sub : Same F' H'
  new : ∀ a o, F' a = some o → G.F0 a = some o ∨ G.H0 a = none
structure New (K : PySem.W.Frag) (G : GC) (H F : Hp) (fp : Nat → List Addr) (v : V) (t : T) (l : List Addr) : Prop where
  rep : OR K G.w H F v t l
  own : ∀ a, a ∈ l → F a = none ∧ H a ≠ none ∧ G.H0 a = none
  dj : ∀ a, a ∈ l → ∀ j, a ∉ fp j
def Post (X : Cx) (G : GC) (kr : RK) (F : Hp) (E : Ends) : Out → Prop
  | .nx env' => ∀ σ' H' F' fp', Rel X.K G env' σ' H' F' fp' → Same F F' → E.nx σ' H'
  | .rt d => ∀ v H' F', Fin G H' F' → RepK X.K G kr G.H0 H' F' v d → E.rt v H'
  | .bk env' => ∀ σ' H' F' fp', Rel X.K G env' σ' H' F' fp' → Same F F' → E.bk σ' H'
  | .ct env' => ∀ σ' H' F' fp', Rel X.K G env' σ' H' F' fp' → Same F F' → E.ct σ' H'
  | .err => False
  | .rx env' t => ∀ v σ' H' F' fp' l, Rel X.K G env' σ' H' F' fp' → New X.K G H' F' fp' v t l → E.rt v H'
  | .xc env' x => ∀ cls d σ' H' F' fp' l, Rel X.K G env' σ' H' F' fp' → Same F F' → XC X.K x.c cls → New X.K G H' F' fp' (vX d) (XT x) l → ∃ W : WX, Takes X W ∧ W cls d σ' H'
structure DS (X : Cx) (G : GC) (kr : RK) (st : Stmt) (f : List C → Out) : Prop where
  ex : ∃ t, PS X st t ∧ ∀ (σ : L2.St) (H F : Hp) (fp : Nat → List Addr) (env : List C) (E : Ends), Rel X.K G env σ H F fp → Post X G kr F E (f env) → t E σ H
structure DSs (X : Cx) (G : GC) (kr : RK) (st : List Stmt) (f : List C → Out) : Prop where
  ex : ∃ t, PSs X st t ∧ ∀ (σ : L2.St) (H F : Hp) (fp : Nat → List Addr) (env : List C) (E : Ends), Rel X.K G env σ H F fp → Post X G kr F E (f env) → t E σ H

section
variable {K : PySem.W.Frag} {G : GC} {env : List C} {σ : L2.St} {H F H' F' : Hp} {fp : Nat → List Addr} {kr : RK}
theorem Post.mono {X : Cx} {F F1 : Hp} {E : Ends} (s : Same F F1) : ∀ {o : Out}, Post X G kr F E o → Post X G kr F1 E o
  | .nx _, h => fun σ' H' F' fp' R z => h σ' H' F' fp' R (s.trans z)
  | .rt _, h => h
  | .bk _, h => fun σ' H' F' fp' R z => h σ' H' F' fp' R (s.trans z)
  | .ct _, h => fun σ' H' F' fp' R z => h σ' H' F' fp' R (s.trans z)
  | .err, h => h
  | .rx _ _, h => h
  | .xc _ _, h => fun cls d σ' H' F' fp' l R z => h cls d σ' H' F' fp' l R (s.trans z)
theorem Rel.fin (R : Rel K G env σ H F fp) : Fin G H F := ⟨R.keep, R.old, R.sub, R.new⟩
theorem Rel.h0 (R : Rel K G env σ H F fp) {a : Addr} (e : H a = none) : G.H0 a = none := by
  cases q : G.H0 a with
  | none => rfl
  | some o => exact absurd e (R.alive a (by rw [q]; intro z; cases z))
def fset (fp : Nat → List Addr) (i : Nat) (l : List Addr) : Nat → List Addr := fun j => if j = i then l else fp j
theorem fset_at {fp : Nat → List Addr} {i : Nat} {l : List Addr} : fset fp i l i = l := if_pos rfl
theorem fset_ne {fp : Nat → List Addr} {i j : Nat} {l : List Addr} (h : j ≠ i) : fset fp i l j = fp j := if_neg h
theorem join_set_at {σ : L2.St} {i : Nat} {v : V} (h : i < σ.length) : ((σ.set i (some v))[i]?).join = some v := by
  rw [List.getElem?_set_self h]; rfl
theorem Rel.put (R : Rel K G env σ H F fp) {i : Nat} {v : V} {c : C} {l : List Addr} (hs : SlotRep K G H F (some v) c l) (ho : ∀ a, a ∈ l → F a = none ∧ H a ≠ none ∧ G.H0 a = none) (hd : ∀ a, a ∈ l → ∀ j, j ≠ i → a ∉ fp j) :
    Rel K G (env.set i c) (σ.set i (some v)) H F (fset fp i l) where
  len := by rw [List.length_set, List.length_set, R.len]
  slot := fun j c' e => by
    by_cases hj : j = i
    · subst hj
      rw [fset_at]
      by_cases hl : j < env.length
      · rw [List.getElem?_set_self hl] at e; cases e
        rw [join_set_at (by rw [← R.len]; exact hl)]
        exact hs
      · rw [List.getElem?_eq_none (by rw [List.length_set]; omega)] at e; cases e
    · rw [List.getElem?_set_ne (Ne.symm hj)] at e
      rw [List.getElem?_set_ne (Ne.symm hj), fset_ne hj]
      exact R.slot j c' e
  dj := fun j k a h1 h2 => by
    by_cases hj : j = i
    · by_cases hk : k = i
      · exact hj.trans hk.symm
      · subst hj
        rw [fset_at] at h1; rw [fset_ne hk] at h2
        exact absurd h2 (hd a h1 k hk)
    · by_cases hk : k = i
      · subst hk
        rw [fset_at] at h2; rw [fset_ne hj] at h1
        exact absurd h1 (hd a h2 j hj)
      · rw [fset_ne hj] at h1; rw [fset_ne hk] at h2
        exact R.dj j k a h1 h2
  own := fun j a h1 => by
    by_cases hj : j = i
    · subst hj; rw [fset_at] at h1
      obtain ⟨g1, g2, g3⟩ := ho a h1
      exact ⟨g1, g2, .inl g3⟩
    · rw [fset_ne hj] at h1
      rw [List.getElem?_set_ne (Ne.symm hj)]
      exact R.own j a h1
  sub := R.sub
  new := R.new
  old := R.old
  keep := R.keep
  alive := R.alive
theorem Rel.drop (R : Rel K G env σ H F fp) (i : Nat) : Rel K G (env.set i .und) σ H F (fset fp i []) where
  len := by rw [List.length_set]; exact R.len
  slot := fun j c' e => by
    by_cases hj : j = i
    · subst hj
      rw [fset_at]
      by_cases hl : j < env.length
      · rw [List.getElem?_set_self hl] at e; cases e; rfl
      · rw [List.getElem?_eq_none (by rw [List.length_set]; omega)] at e; cases e
    · rw [List.getElem?_set_ne (Ne.symm hj)] at e
      rw [fset_ne hj]
      exact R.slot j c' e
  dj := fun j k a h1 h2 => by
    by_cases hj : j = i
    · subst hj; rw [fset_at] at h1; cases h1
    · by_cases hk : k = i
      · subst hk; rw [fset_at] at h2; cases h2
      · rw [fset_ne hj] at h1; rw [fset_ne hk] at h2
        exact R.dj j k a h1 h2
  own := fun j a h1 => by
    by_cases hj : j = i
    · subst hj; rw [fset_at] at h1; cases h1
    · rw [fset_ne hj] at h1
      rw [List.getElem?_set_ne (Ne.symm hj)]
      exact R.own j a h1
  sub := R.sub
  new := R.new
  old := R.old
  keep := R.keep
  alive := R.alive
theorem Rel.h00 (R : Rel K G env σ H F fp) {i : Nat} {c : C} (e : env[i]? = some c) (hc : c.mu = false) {a : Addr} (ha : a ∈ fp i) : G.H0 a = none := by
  rcases (R.own i a ha).2.2 with h | ⟨_, c', e', h⟩
  · exact h
  · rw [e] at e'; cases e'; rw [hc] at h; cases h
theorem Rel.write (R : Rel K G env σ H F fp) {i : Nat} {a : Addr} {o : HO} {c0 c : C} (hi : fp i = [a]) (e0 : env[i]? = some c0) (hs : SlotRep K G (upd H a o) F (σ[i]?.join) c [a]) (hc0 : c0.mu = false := by rfl) : Rel K G (env.set i c) σ (upd H a o) F fp := by
  obtain ⟨h1, h2, _⟩ := R.own i a (by rw [hi]; exact List.mem_singleton.mpr rfl)
  have h3 := R.h00 e0 hc0 (a := a) (by rw [hi]; exact List.mem_singleton.mpr rfl)
  have ne : ∀ b u, F b = some u → b ≠ a := fun b u e z => by rw [z, h1] at e; cases e
  exact {
    len := by rw [List.length_set]; exact R.len
    slot := fun j c' e => by
      by_cases hj : j = i
      · subst hj
        by_cases hl : j < env.length
        · rw [List.getElem?_set_self hl] at e; cases e; rw [hi]; exact hs
        · rw [List.getElem?_eq_none (by rw [List.length_set]; omega)] at e; cases e
      · rw [List.getElem?_set_ne (Ne.symm hj)] at e
        have q := R.slot j c' e
        have nm : a ∉ fp j := fun z => hj (R.dj j i a z (by rw [hi]; exact List.mem_singleton.mpr rfl))
        have na : ∀ b, fp j = [b] → b ≠ a := fun b z y => nm (by rw [z, y]; exact List.mem_singleton.mpr rfl)
        cases c' with
        | und => exact q
        | val d => exact q
        | brw d => exact q
        | lst ds => obtain ⟨b, vs, q1, q2, q3, q4⟩ := q; exact ⟨b, vs, q1, q2, by rw [upd_ne (na b q1)]; exact q3, q4⟩
        | dK ds => obtain ⟨b, vs, q1, q2, q3, q4⟩ := q; exact ⟨b, vs, q1, q2, by rw [upd_ne (na b q1)]; exact q3, q4⟩
        | dT ds => obtain ⟨b, vs, q1, q2, q3, q4⟩ := q; exact ⟨b, vs, q1, q2, by rw [upd_ne (na b q1)]; exact q3, q4⟩
        | dN ds => obtain ⟨b, w, xs, q1, q2, q5, q3, q4⟩ := q; exact ⟨b, w, xs, q1, q2, q5, by rw [upd_ne (na b q1)]; exact q3, q4⟩
        | ro b t => exact q
        | pin _ => exact q
        | al _ _ => exact q
        | own m t => obtain ⟨v, q1, q2, q3⟩ := q; exact ⟨v, q1, OR_mono (Same.refl _) _ _ _ (fun b o hb e => by rw [upd_ne (fun z => nm (by rw [← z]; exact hb))]; exact e) q2, q3⟩
    dj := R.dj
    own := fun j b hb => by
      obtain ⟨g1, g2, g3⟩ := R.own j b hb
      refine ⟨g1, ?_, ?_⟩
      · by_cases hb' : b = a
        · rw [hb', upd_same]; intro z; cases z
        · rw [upd_ne hb']; exact g2
      · by_cases hj : j = i
        · subst hj; exact .inl (R.h00 e0 hc0 hb)
        · rw [List.getElem?_set_ne (Ne.symm hj)]; exact g3
    sub := fun b u e => by rw [upd_ne (ne b u e)]; exact R.sub b u e
    new := R.new
    old := R.old
    keep := fun b u e hw => by
      have nb : b ≠ a := fun z => by rw [z, h3] at e; cases e
      rw [upd_ne nb]; exact R.keep b u e hw
    alive := fun b e => by
      by_cases hb' : b = a
      · rw [hb', upd_same]; intro z; cases z
      · rw [upd_ne hb']; exact R.alive b e }
theorem Rel.freeze (R : Rel K G env σ H F fp) {i : Nat} {ds : List D} (e : env[i]? = some (.lst ds)) : ∃ F', Rel K G (env.set i (.val (.list ds))) σ H F' (fset fp i []) ∧ Same F F' ∧ ∃ a, (σ[i]?).join = some (.ref a) ∧ DF K F' (.ref a) (.list ds) := by
  obtain ⟨a, vs, q1, q2, q3, q4⟩ := R.slot i _ e
  obtain ⟨h1, h2, h3⟩ := R.own i a (by rw [q1]; exact List.mem_singleton.mpr rfl)
  have sm : Same F (upd F a (.lst vs)) := fun b x z => by rw [upd_ne (ne_of_none z h1)]; exact z
  have z : DF K (upd F a (.lst vs)) (.ref a) (.list ds) := .lst upd_same (DFAll_mono sm _ _ q4)
  have h0 : G.H0 a = none := R.h00 e rfl (by rw [q1]; exact List.mem_singleton.mpr rfl)
  refine ⟨upd F a (.lst vs), ?_, sm, a, q2, z⟩
  exact {
    len := by rw [List.length_set]; exact R.len
    slot := fun j c' ej => by
      by_cases hj : j = i
      · subst hj
        rw [fset_at]
        have hl := (List.getElem?_eq_some_iff.mp e).1
        rw [List.getElem?_set_self hl] at ej; cases ej
        exact ⟨rfl, _, q2, z⟩
      · rw [List.getElem?_set_ne (Ne.symm hj)] at ej
        rw [fset_ne hj]
        have q := R.slot j c' ej
        cases c' with
        | und => exact q
        | val d => obtain ⟨y1, v, y2, y3⟩ := q; exact ⟨y1, v, y2, DF_mono sm _ _ y3⟩
        | brw d => exact q
        | lst ds => obtain ⟨b, vs, y1, y2, y3, y4⟩ := q; exact ⟨b, vs, y1, y2, y3, DFAll_mono sm _ _ y4⟩
        | dK ds => obtain ⟨b, vs, y1, y2, y3, y4⟩ := q; exact ⟨b, vs, y1, y2, y3, y4.mono sm⟩
        | dT ds => obtain ⟨b, vs, y1, y2, y3, y4⟩ := q; exact ⟨b, vs, y1, y2, y3, y4.mono sm⟩
        | dN ds => obtain ⟨b, w, xs, y1, y2, y5, y3, y4⟩ := q; exact ⟨b, w, xs, y1, y2, y5, y3, y4.mono sm⟩
        | pin _ => exact q
        | al j i => obtain ⟨q0, a, l, vs, v, q1, q2, q3⟩ := q; exact ⟨q0, a, l, vs, v, q1, sm _ _ q2, q3⟩
        | ro b t => obtain ⟨y0, v, l, y1, y2, y3⟩ := q; exact ⟨y0, v, l, y1, OR_mono sm _ _ _ (fun _ _ _ z => z) y2, fun hb a vs ha hk => sm _ _ (y3 hb a vs ha hk)⟩
        | own m t => obtain ⟨v, y1, y2, y3⟩ := q; exact ⟨v, y1, OR_mono sm _ _ _ (fun _ _ _ z => z) y2, y3⟩
    dj := fun j k b h1 h2 => by
      by_cases hj : j = i
      · subst hj; rw [fset_at] at h1; cases h1
      · by_cases hk : k = i
        · subst hk; rw [fset_at] at h2; cases h2
        · rw [fset_ne hj] at h1; rw [fset_ne hk] at h2
          exact R.dj j k b h1 h2
    own := fun j b hb => by
      by_cases hj : j = i
      · subst hj; rw [fset_at] at hb; cases hb
      · rw [fset_ne hj] at hb
        obtain ⟨g1, g2, g3⟩ := R.own j b hb
        have nb : b ≠ a := fun z => hj (R.dj j i b hb (by rw [q1, z]; exact List.mem_singleton.mpr rfl))
        exact ⟨by rw [upd_ne nb]; exact g1, g2, by rw [List.getElem?_set_ne (Ne.symm hj)]; exact g3⟩
    sub := fun b u eb => by
      by_cases hb : b = a
      · rw [hb] at eb ⊢; rw [upd_same] at eb; rw [← eb]; exact q3
      · rw [upd_ne hb] at eb; exact R.sub b u eb
    new := fun b u eb => by
      by_cases hb : b = a
      · rw [hb]; exact .inr h0
      · rw [upd_ne hb] at eb; exact R.new b u eb
    old := R.old.trans sm
    keep := R.keep
    alive := R.alive }
end

section
variable {X : Cx} {G : GC} {kr k k1 : RK} {st : Stmt} {rest sts sts2 : List Stmt} {e a : Expr} {f g : List C → Out} {fe fa : List C → Option D} {ft : List C → Option Bool} {pos pos' : Pos}
def sNil : List C → Out := fun env => .nx env
def sSeq (f g : List C → Out) : List C → Out := fun env => match f env with | .nx e => g e | o => o
theorem dss_nil : DSs X G kr [] sNil := ⟨_, pss_nil, fun σ H F fp env E R q => q σ H F fp R (Same.refl _)⟩
theorem dss_cons (h : DS X G kr st f) (h2 : DSs X G kr rest g) : DSs X G kr (st :: rest) (sSeq f g) := by
  obtain ⟨t, p, o⟩ := h.ex
  obtain ⟨t2, p2, o2⟩ := h2.ex
  refine ⟨_, pss_cons p p2, fun σ H F fp env E R q => o σ H F fp env _ R ?_⟩
  unfold sSeq at q
  cases z : f env with
  | nx e' =>
    rw [z] at q
    intro σ' H' F' fp' R' s
    exact o2 σ' H' F' fp' e' E R' (Post.mono s q)
  | rt d => rw [z] at q; exact q
  | bk e' => rw [z] at q; exact q
  | ct e' => rw [z] at q; exact q
  | err => rw [z] at q; exact q
  | rx _ _ => rw [z] at q; exact q
  | xc _ _ => rw [z] at q; exact q
theorem dss_one (h : DS X G kr st f) : DSs X G kr [st] f := let ⟨t, p, o⟩ := h.ex; ⟨t, pss_one p, o⟩
def sFz (i : Nat) (g : List C → Out) : List C → Out := fun env => match env[i]? with | some (.lst ds) => g (env.set i (.val (.list ds))) | some (.val _) => g env | _ => .err
theorem dss_fz (i : Nat) (h : DSs X G kr sts g) : DSs X G kr sts (sFz i g) := by
  obtain ⟨t, p, o⟩ := h.ex
  refine ⟨t, p, fun σ H F fp env E R q => ?_⟩
  unfold sFz at q
  split at q
  · rename_i ds e
    obtain ⟨F', R', s, _⟩ := R.freeze e
    exact o σ H F' _ _ E R' (Post.mono s q)
  · exact o σ H F fp env E R q
  · exact q.elim
def sBrk : List C → Out := fun env => .bk env
def sCnt : List C → Out := fun env => .ct env
def sDrop (fe : List C → Option D) : List C → Out := fun env => match fe env with | some _ => .nx env | none => .err
def sRet (fe : List C → Option D) : List C → Out := fun env => match fe env with | some d => .rt d | none => .err
theorem RepK_h0 {K : PySem.W.Frag} {env : List C} {σ : L2.St} {H F H' F' : Hp} {fp : Nat → List Addr} {v : V} {d : D} (R : Rel K G env σ H F fp) (r : RepK K G k H H' F' v d) : RepK K G k G.H0 H' F' v d := by
  cases k with
  | ow =>
    obtain ⟨a, vs, ds, e1, e2, h1, r⟩ := r
    exact ⟨a, vs, ds, e1, e2, R.h0 h1, r⟩
  | _ => exact r
theorem ds_ret (h : DE X G k e fe) (hk : k.le kr = true := by rfl) : DS X G kr (.Return (some e) pos) (sRet fe) := by
  obtain ⟨t, p, o⟩ := (h.conv hk).ex
  refine ⟨_, ps_ret p, fun σ H F fp env E R q => ?_⟩
  unfold sRet at q
  cases z : fe env with
  | none => rw [z] at q; exact q.elim
  | some d =>
    rw [z] at q
    exact o σ H F fp env d _ R z fun v H' F' E' r => q v H' F' (R.ext E').fin (RepK_h0 R r)
def sRetL (i : Nat) : List C → Out := fun env => match env[i]? with | some (.lst ds) => .rt (.list ds) | _ => .err
theorem ds_retL {x : Str} (i : Nat) (h : PE X (.Name x pos') (tVar i)) : DS X G .ow (.Return (some (.Name x pos')) pos) (sRetL i) := by
  refine ⟨_, ps_ret h, fun σ H F fp env E R q => ?_⟩
  unfold sRetL at q
  split at q
  · rename_i ds e
    obtain ⟨a, vs, q1, q2, q3, q4⟩ := R.slot i _ e
    obtain ⟨h1, h2, h3⟩ := R.own i a (by rw [q1]; exact List.mem_singleton.mpr rfl)
    cases z : σ[i]? with
    | none => rw [z] at q2; cases q2
    | some o =>
      rw [z] at q2
      have e2 : o = some (.ref a) := q2
      subst e2
      exact ⟨_, z, q (.ref a) H F R.fin ⟨a, vs, ds, rfl, rfl, R.h00 e rfl (by rw [q1]; exact List.mem_singleton.mpr rfl), q3, h1, q4⟩⟩
  · exact q.elim
def sRetN : List C → Out := fun _ => .rt .none
def sIf (ft : List C → Option Bool) (f g : List C → Out) : List C → Out := fun env => match ft env with | some true => f env | some false => g env | none => .err
theorem ds_if (hc : DTs X G e ft) (ha : DSs X G kr sts f) (hb : DSs X G kr sts2 g) : DS X G kr (.If e sts sts2 pos) (sIf ft f g) := by
  obtain ⟨tc, pc, oc⟩ := hc.ex
  obtain ⟨ta, pa, oa⟩ := ha.ex
  obtain ⟨tb, pb, ob⟩ := hb.ex
  refine ⟨_, ps_if pc pa pb, fun σ H F fp env E R q => ?_⟩
  unfold sIf at q
  cases z : ft env with
  | none => rw [z] at q; exact q.elim
  | some b =>
    rw [z] at q
    refine oc σ H F fp env b _ R z fun H' F' E' => ?_
    cases b with
    | true => exact iteT (oa σ H' F' fp env E (R.ext E') (Post.mono E'.f q))
    | false => exact iteF (ob σ H' F' fp env E (R.ext E') (Post.mono E'.f q))
def sSet (i : Nat) (fe : List C → Option D) : List C → Out := fun env => match fe env with | some d => .nx (env.set i (.val d)) | none => .err
theorem ds_set {x : Str} (i : Nat) (hN : X.N.Nodup) (hi : X.N[i]? = some x) (h : DE X G k e fe) (hx : Loc X.env.scope x := by first | exact .inl rfl | exact .inr rfl) (hk : k.le .fz = true := by rfl) (hs : swapsWith e (some (.Name x pos')) pos.line X.env = pure false := by rfl)
    (hf : X.fn x = true ∨ X.env.scope.names.lookup x = some .local := by first | exact .inl rfl | exact .inr rfl | assumption) : DS X G kr (.Assign [.Name x pos'] e pos) (sSet i fe) := by
  obtain ⟨t, p, o⟩ := (h.conv hk).ex
  refine ⟨_, ps_set hN hi hx p hs hf, fun σ H F fp env E R q => ?_⟩
  unfold sSet at q
  cases z : fe env with
  | none => rw [z] at q; exact q.elim
  | some d =>
    rw [z] at q
    refine o σ H F fp env d _ R z fun v H' F' E' r => ?_
    exact q _ H' F' _ ((R.ext E').put (i := i) (v := v) (c := .val d) (l := []) ⟨rfl, v, rfl, r⟩ (fun _ m => nomatch m) (fun _ m => nomatch m)) E'.f
def sSetL (i : Nat) (fe : List C → Option D) : List C → Out := fun env => match fe env with | some (.list ds) => .nx (env.set i (.lst ds)) | _ => .err
theorem Rel.putL {K : PySem.W.Frag} {env : List C} {σ : L2.St} {H F H' F' : Hp} {fp : Nat → List Addr} {v : V} {d : D} (R : Rel K G env σ H F fp) (E : Ext H F H' F') (i : Nat) (r : RepK K G .ow H H' F' v d) :
    ∃ ds a, d = .list ds ∧ Rel K G (env.set i (.lst ds)) (σ.set i (some v)) H' F' (fset fp i [a]) := by
  obtain ⟨a, vs, ds, rfl, rfl, h1, h2, h3, h4⟩ := r
  have R' := R.ext E
  refine ⟨ds, a, rfl, R'.put (c := .lst ds) ⟨a, vs, rfl, rfl, h2, h4⟩ (fun b hb => ?_) (fun b hb j hj hm => ?_)⟩
  · have e : b = a := List.mem_singleton.mp hb
    subst e
    exact ⟨h3, (by rw [h2]; intro z; cases z), R.h0 h1⟩
  · have e : b = a := List.mem_singleton.mp hb
    subst e
    exact (R.own j b hm).2.1 h1
theorem ds_setL {x : Str} (i : Nat) (hN : X.N.Nodup) (hi : X.N[i]? = some x) (h : DE X G .ow e fe) (hx : Loc X.env.scope x := by first | exact .inl rfl | exact .inr rfl) (hs : swapsWith e (some (.Name x pos')) pos.line X.env = pure false := by rfl)
    (hf : X.fn x = true ∨ X.env.scope.names.lookup x = some .local := by first | exact .inl rfl | exact .inr rfl | assumption) : DS X G kr (.Assign [.Name x pos'] e pos) (sSetL i fe) := by
  obtain ⟨t, p, o⟩ := h.ex
  refine ⟨_, ps_set hN hi hx p hs hf, fun σ H F fp env E R q => ?_⟩
  unfold sSetL at q
  cases z : fe env with
  | none => rw [z] at q; exact q.elim
  | some d =>
    rw [z] at q
    refine o σ H F fp env d _ R z fun v H' F' E' r => ?_
    obtain ⟨ds, a, rfl, R'⟩ := R.putL E' i r
    exact q _ H' F' _ R' E'.f
def sAug (i : Nat) (g : D → D → Option D) (fe : List C → Option D) : List C → Out := fun env => match env[i]? with
  | some (.val x) => (match fe env with | some y => (match g x y with | some z => .nx (env.set i (.val z)) | none => .err) | none => .err)
  | _ => .err
def sApp (i : Nat) (fe : List C → Option D) : List C → Out := fun env => match env[i]? with
  | some (.lst ds) => (match fe env with | some d => if ds.length < 16000000 then .nx (env.set i (.lst (ds ++ [d]))) else .err | none => .err)
  | _ => .err
theorem slot_at {K : PySem.W.Frag} {env : List C} {σ : L2.St} {H F : Hp} {fp : Nat → List Addr} {i : Nat} {ds : List D} (R : Rel K G env σ H F fp) (e : env[i]? = some (.lst ds)) : ∃ a vs, fp i = [a] ∧ σ[i]? = some (some (.ref a)) ∧ H a = some (.lst vs) ∧ DFAll K F vs ds := by
  obtain ⟨a, vs, q1, q2, q3, q4⟩ := R.slot i _ e
  cases z : σ[i]? with
  | none => rw [z] at q2; cases q2
  | some o =>
    rw [z] at q2
    have e2 : o = some (.ref a) := q2
    subst e2
    exact ⟨a, vs, q1, rfl, q3, q4⟩
theorem ds_app {x : Str} {p1 p2 p3 : Pos} (i : Nat) (hv : PE X (.Name x p1) (tVar i)) (h : DE X G k e fe) (hk : k.le .fz = true := by rfl) (hs : starEach [e] X.env = [(false, eval e X.env)] := by rfl)
    (hbm : ∀ (r : V → List V → Hp → VK → Prop) (t : TA), MtM X "list.append" r → PA X [e] t → PE X (.Call (.Attribute (.Name x p1) "append" p2) [e] [] p3) (tBM X.K "list" r (tVar i) t) := by exact fun r t hm ha => pe_bm PySem.F.plainAttrs_list PySem.F.slot_list_append PySem.F.type_list_append hm (pv _) ha)
    (hsw : swapsWith (.Call (.Attribute (.Name x p1) "append" p2) [e] [] p3) none pos.line X.env = pure false := by rfl) : DS X G kr (.Expr (.Call (.Attribute (.Name x p1) "append" p2) [e] [] p3) pos) (sApp i fe) := by
  obtain ⟨t, p, o⟩ := (h.conv hk).ex
  refine ⟨_, ps_expr (hbm _ _ mt_append (pa_cons p pa_nil hs)) hsw, fun σ H F fp env E R q => ?_⟩
  unfold sApp at q
  split at q
  · rename_i ds e1
    cases z : fe env with
    | none => simp only [z] at q; exact q.elim
    | some d =>
      simp only [z] at q
      split at q
      · rename_i hlen
        obtain ⟨a, vs, q1, q2, q3, q4⟩ := slot_at R e1
        refine ⟨.ref a, q2, .inl ⟨rfl, _, .inl (.inl q3)⟩, ?_⟩
        refine o σ H F fp env d _ R z fun v H1 F1 E1 r => ?_
        have R1 := R.ext E1
        have q3' := E1.h _ _ q3
        refine ⟨a, vs, v, rfl, rfl, q3', ?_, ?_⟩
        · rw [DFAll_len q4, sizeLine_eq]; omega
        · exact q σ _ F1 fp (R1.write q1 e1 (c := .lst (ds ++ [d])) ⟨a, vs ++ [v], rfl, by rw [q2]; rfl, upd_same, DFAll_app (DFAll_mono E1.f _ _ q4) (.cons r .nil)⟩) E1.f
      · exact q.elim
  · exact q.elim
def setAt (ds : List D) (i : Int) (d : D) : Option (List D) := (ixN ds.length i).map fun j => ds.set j d
def sSetIx (i : Nat) (fi fe : List C → Option D) : List C → Out := fun env => match env[i]? with
  | some (.lst ds) => (match fe env with
    | some d => (match fi env with
      | some (.int j) => (match setAt ds j d with | some ds' => .nx (env.set i (.lst ds')) | none => .err)
      | _ => .err)
    | none => .err)
  | _ => .err
theorem ds_setIx {x : Str} {ei : Expr} {fi : List C → Option D} {k2 : RK} {p1 p2 : Pos} (i : Nat) (hv : PE X (.Name x p1) (tVar i)) (hi : DE X G k2 ei fi) (h : DE X G k e fe) (hk : k.le .fz = true := by rfl) (hk2 : k2.le .vl = true := by rfl)
    (ha : ∀ v, assign (.Subscript (.Name x p1) ei p2) X.env v = (do
      let ov ← holding [v] (eval (.Name x p1) X.env)
      let iv ← holding [v, ov] (eval ei X.env)
      standAt p2
      holding [v, ov, iv] (setItem ov iv v)
      release [v, ov, iv] []) := by intro _; rfl)
    (hs : swapsWithSole [.Subscript (.Name x p1) ei p2] e pos.line X.env = pure false := by rfl) (hw : swappedStores [.Subscript (.Name x p1) ei p2] e X.env = pure none := by rfl)
    (h1 : (assignEach [.Subscript (.Name x p1) ei p2] X.env).map (·.2) = [assign (.Subscript (.Name x p1) ei p2) X.env] := by rfl) : DS X G kr (.Assign [.Subscript (.Name x p1) ei p2] e pos) (sSetIx i fi fe) := by
  obtain ⟨t, p, o⟩ := (h.conv hk).ex
  obtain ⟨ti, pi, oi⟩ := (hi.conv hk2).ex
  refine ⟨_, ps_asg p (pg_sub hv pi set_list ha) hs hw h1, fun σ H F fp env E R q => ?_⟩
  unfold sSetIx at q
  split at q
  · rename_i ds e1
    cases z : fe env with
    | none => simp only [z] at q; exact q.elim
    | some d =>
      simp only [z] at q
      split at q
      · rename_i j ej
        split at q
        · rename_i ds' es
          obtain ⟨a, vs, q1, q2, q3, q4⟩ := slot_at R e1
          refine o σ H F fp env d _ R z fun v H1 F1 E1 r => ?_
          refine ⟨.ref a, q2, ?_⟩
          have R1 := R.ext E1
          refine oi σ H1 F1 fp env _ _ R1 ej fun vi H2 F2 E2 ri => ?_
          have ei := vl_int (G := G) (H := H2) (F := F2) ri
          subst ei
          have R2 := R1.ext E2
          unfold setAt at es
          cases y : ixN ds.length j with
          | none => rw [y] at es; cases es
          | some m =>
            rw [y] at es; cases es
            refine ⟨a, vs, j, m, rfl, rfl, E2.h _ _ (E1.h _ _ q3), by rw [DFAll_len q4]; exact y, ?_⟩
            exact q σ _ F2 fp (R2.write q1 e1 (c := .lst (ds.set m d)) ⟨a, vs.set m v, rfl, by rw [q2]; rfl, upd_same, DFAll_set m (DFAll_mono (E1.f.trans E2.f) _ _ q4) (DF_mono E2.f _ _ r)⟩) (E1.f.trans E2.f)
        · exact q.elim
      · exact q.elim
  · exact q.elim
end
end DL
set_option Elab.async false
set_option linter.all false
set_option maxRecDepth 100000
set_option maxHeartbeats 4000000
namespace DL
open PySem PySem.Spec L2

def tD (K : PySem.W.Frag) (G : GC) (k : RK) (f : List C → Option D) : TE := fun σ H Q => ∃ (F : Hp) (fp : Nat → List Addr) (env : List C) (d : D), Rel K G env σ H F fp ∧ f env = some d ∧ ∀ v H' F', Ext H F H' F' → RepK K G k H H' F' v d → Q v H'
def tDT (K : PySem.W.Frag) (G : GC) (f : List C → Option Bool) : TT := fun σ H Q => ∃ (F : Hp) (fp : Nat → List Addr) (env : List C) (b : Bool), Rel K G env σ H F fp ∧ f env = some b ∧ ∀ H' F', Ext H F H' F' → Q b H'
section
variable {X : Cx} {G : GC} {k : RK} {e : Expr} {f : List C → Option D} {ft : List C → Option Bool}
theorem DE.canon (h : DE X G k e f) : PE X e (tD X.K G k f) := by
  obtain ⟨t, p, o⟩ := h.ex
  exact ⟨fun pins s σ H Q I ⟨F, fp, env, d, R, hf, q⟩ => p.run pins s σ H Q I (o σ H F fp env d Q R hf q)⟩
theorem DE.of (h : PE X e (tD X.K G k f)) : DE X G k e f := ⟨_, h, fun σ H F fp env d Q R hf q => ⟨F, fp, env, d, R, hf, q⟩⟩
theorem DTs.canon (h : DTs X G e ft) : PT X e (tDT X.K G ft) := by
  obtain ⟨t, p, o⟩ := h.ex
  exact ⟨fun pins s σ H Q I ⟨F, fp, env, d, R, hf, q⟩ => p.run pins s σ H Q I (o σ H F fp env d Q R hf q)⟩
end

structure DG (X : Cx) (G : GC) (is : List Nat) (tg : Expr) (f : D → List C → Option (List C)) : Prop where
  ex : ∃ t, PG X tg t ∧ ∀ (σ : L2.St) (H F : Hp) (fp : Nat → List Addr) (env env' : List C) (v : V) (d : D) (Q : L2.St → Hp → Prop), Rel X.K G env σ H F fp → DF X.K F v d → f d env = some env' →
    (∀ σ' fp', Rel X.K G env' σ' H F fp' → (∀ vs, (∀ i, i ∈ is → i ∈ vs) → wipe σ' vs = wipe σ vs) → (∀ j a, a ∈ fp' j → a ∈ fp j) → Q σ' H) → t v σ H Q
structure DGs (X : Cx) (G : GC) (is : List Nat) (tgs : List Expr) (f : List D → List C → Option (List C)) : Prop where
  ex : ∃ t, PGs X tgs t ∧ ∀ (σ : L2.St) (H F : Hp) (fp : Nat → List Addr) (env env' : List C) (vs : List V) (ds : List D) (Q : L2.St → Hp → Prop), Rel X.K G env σ H F fp → DFAll X.K F vs ds → f ds env = some env' →
    (∀ σ' fp', Rel X.K G env' σ' H F fp' → (∀ vs, (∀ i, i ∈ is → i ∈ vs) → wipe σ' vs = wipe σ vs) → (∀ j a, a ∈ fp' j → a ∈ fp j) → Q σ' H) → t vs σ H Q
theorem wipe_set0 (σ : L2.St) (i : Nat) (x : Option V) : ∀ vs : List Nat, (wipe (σ.set i x) vs).set i none = (wipe σ vs).set i none
  | [] => by unfold wipe; rw [List.set_set]
  | v :: vs => by
    unfold wipe
    by_cases h : v = i
    · subst h; rw [List.set_set, List.set_set]; exact wipe_set0 σ v x vs
    · rw [List.set_comm _ _ h, wipe_set0 σ i x vs, List.set_comm _ _ (Ne.symm h)]
theorem wipe_set (σ : L2.St) (i : Nat) (x : Option V) : ∀ vs : List Nat, i ∈ vs → wipe (σ.set i x) vs = wipe σ vs
  | v :: vs, h => by
    unfold wipe
    by_cases e : v = i
    · subst e; exact wipe_set0 σ v x vs
    · rw [wipe_set σ i x vs (by
        rcases List.mem_cons.mp h with z | z
        · exact absurd z.symm e
        · exact z)]
section
variable {X : Cx} {G : GC} {tg : Expr} {tgs : List Expr} {pos : Pos}
def tgN (i : Nat) : D → List C → Option (List C) := fun d env => some (env.set i (.val d))
theorem dg_name {x : Str} (i : Nat) (hN : X.N.Nodup) (hi : X.N[i]? = some x) (hx : Loc X.env.scope x := by first | exact .inl rfl | exact .inr rfl) (hf : X.fn x = true ∨ X.env.scope.names.lookup x = some .local := by first | exact .inl rfl | exact .inr rfl | assumption) :
    DG X G [i] (.Name x pos) (tgN i) := by
  refine ⟨_, pg_name hN hi hx hf, fun σ H F fp env env' v d Q R r hf q => ?_⟩
  cases hf
  refine q _ _ (R.put (i := i) (v := v) (c := .val d) (l := []) ⟨rfl, v, rfl, r⟩ (fun _ m => nomatch m) (fun _ m => nomatch m)) (fun vs h => wipe_set σ i _ vs (h i (List.mem_singleton.mpr rfl))) (fun j a h => ?_)
  by_cases hj : j = i
  · subst hj; rw [fset_at] at h; cases h
  · rw [fset_ne hj] at h; exact h
def tgNil : List D → List C → Option (List C) := fun ds env => match ds with | [] => some env | _ => none
def tgCons (f : D → List C → Option (List C)) (g : List D → List C → Option (List C)) : List D → List C → Option (List C) := fun ds env => match ds with | d :: r => (f d env).bind (g r) | [] => none
theorem dgs_nil : DGs X G [] [] tgNil := by
  refine ⟨_, pgs_nil, fun σ H F fp env env' vs ds Q R r hf q => ?_⟩
  unfold tgNil at hf
  split at hf
  · cases hf; cases r
    exact ⟨rfl, q σ fp R (fun _ _ => rfl) fun _ _ h => h⟩
  · cases hf
theorem dgs_cons {is js : List Nat} {f : D → List C → Option (List C)} {g : List D → List C → Option (List C)} (h : DG X G is tg f) (h2 : DGs X G js tgs g)
    (hs : (assignEach (tg :: tgs) X.env).map (·.2) = assign tg X.env :: (assignEach tgs X.env).map (·.2) := by rfl) : DGs X G (is ++ js) (tg :: tgs) (tgCons f g) := by
  obtain ⟨t, p, o⟩ := h.ex
  obtain ⟨t2, p2, o2⟩ := h2.ex
  refine ⟨_, pgs_cons p p2 hs, fun σ H F fp env env' vs ds Q R r hf q => ?_⟩
  unfold tgCons at hf
  split at hf
  · rename_i d ds
    cases r with
    | cons r1 r2 =>
      cases z : f d env with
      | none => rw [z] at hf; cases hf
      | some env1 =>
        rw [z] at hf
        refine ⟨_, _, rfl, o σ H F fp env env1 _ d _ R r1 z fun σ1 fp1 R1 w1 s1 => ?_⟩
        exact o2 σ1 H F fp1 env1 env' _ ds _ R1 r2 hf fun σ2 fp2 R2 w2 s2 => q σ2 fp2 R2 (fun vs h => (w2 vs fun i hi => h i (List.mem_append_right _ hi)).trans (w1 vs fun i hi => h i (List.mem_append_left _ hi))) fun j a h => s1 j a (s2 j a h)
  · cases hf
def tgT (g : List D → List C → Option (List C)) : D → List C → Option (List C) := fun d env => match d with | .tuple ds => g ds env | _ => none
theorem dg_tup {is : List Nat} {g : List D → List C → Option (List C)} {kk : Nat} (hc : X.calm = true) (h : DGs X G is tgs g) {n : Nat} (hn : (assignEach tgs X.env).length = n := by rfl) (hl : ∀ ds env env', g ds env = some env' → ds.length = n)
    (hst : (assignEach tgs X.env).findIdx? (·.1) = none := by rfl) : DG X G is (.Tuple tgs kk pos) (tgT g) := by
  obtain ⟨t, p, o⟩ := h.ex
  refine ⟨_, pg_tup hc p hn hst, fun σ H F fp env env' v d Q R r hf q => ?_⟩
  unfold tgT at hf
  split at hf
  · cases r with
    | tup h1 h2 =>
      exact ⟨_, _, rfl, Same.seqT R.sub h1, (DFAll_len h2).trans (hl _ _ _ hf), o σ H F fp env env' _ _ Q R h2 hf q⟩
  · cases hf
theorem tgNil_len {ds : List D} {env env' : List C} (h : tgNil ds env = some env') : ds.length = 0 := by
  unfold tgNil at h; split at h
  · rfl
  · cases h
theorem tgCons_len {f : D → List C → Option (List C)} {g : List D → List C → Option (List C)} {n : Nat} (hg : ∀ ds env env', g ds env = some env' → ds.length = n) {ds : List D} {env env' : List C} (h : tgCons f g ds env = some env') : ds.length = n + 1 := by
  unfold tgCons at h; split at h
  · rename_i d r
    cases z : f d env with
    | none => rw [z] at h; cases h
    | some e => rw [z] at h; rw [List.length_cons, hg _ _ _ h]
  · cases h
def sAsg (f : D → List C → Option (List C)) (fe : List C → Option D) : List C → Out := fun env => match fe env with | some d => (match f d env with | some e => .nx e | none => .err) | none => .err
theorem ds_asg {is : List Nat} {kr k : RK} {e : Expr} {f : D → List C → Option (List C)} {fe : List C → Option D} (h : DE X G k e fe) (hg : DG X G is tg f) (hk : k.le .fz = true := by rfl) (hs : swapsWithSole [tg] e pos.line X.env = pure false := by rfl) (hw : swappedStores [tg] e X.env = pure none := by rfl)
    (h1 : (assignEach [tg] X.env).map (·.2) = [assign tg X.env] := by rfl) : DS X G kr (.Assign [tg] e pos) (sAsg f fe) := by
  obtain ⟨t, p, o⟩ := (h.conv hk).ex
  obtain ⟨t2, p2, o2⟩ := hg.ex
  refine ⟨_, ps_asg p p2 hs hw h1, fun σ H F fp env E R q => ?_⟩
  unfold sAsg at q
  cases z : fe env with
  | none => simp only [z] at q; exact q.elim
  | some d =>
    simp only [z] at q
    cases z2 : f d env with
    | none => simp only [z2] at q; exact q.elim
    | some e' =>
      simp only [z2] at q
      refine o σ H F fp env d _ R z fun v H1 F1 E1 r => ?_
      exact o2 σ H1 F1 fp env e' v d _ (R.ext E1) r z2 fun σ' fp' R' _ _ => q σ' H1 F1 fp' R' E1.f
def sPar (i j : Nat) (fs : List C → Option (List D)) : List C → Out := fun env => match fs env with | some [x, y] => .nx ((env.set i (.val x)).set j (.val y)) | _ => .err
end

theorem pi_len {X : Cx} {tg iter : Expr} {wi : TI} (h : PI X tg iter wi) : PI X tg iter (fun σ H R => wi σ H fun J H' => LenOk X.K H' → R J H') := ⟨fun pins s σ H R I q => thn (h.run pins s σ H _ I q) fun v s1 h1 => thn h1 fun itv s2 ⟨it, fp, tn, J, H', e, I', T, t0, f0, r⟩ => ⟨it, fp, tn, J, H', e, I', T, t0, f0, r fun a xs hx => by
  rcases hx with hx | hx
  · obtain ⟨_, _, _, z⟩ := I'.list hx
    exact z
  · obtain ⟨_, _, _, z⟩ := I'.tuple hx
    exact z⟩⟩
def Walk (K : PySem.W.Frag) (J : It) (items : List D) (F' : Hp) : Prop := ∀ (i : Nat) (H2 F2 : Hp), Same F' F2 → Same F2 H2 →
  (∀ d, items[i]? = some d → J.go i H2 ∧ ∀ x H3, J.yld i H2 x H3 → ∃ F3, Ext H2 F2 H3 F3 ∧ DF K F3 x d) ∧ (items.length ≤ i → J.stop i H2)
structure DI (X : Cx) (G : GC) (tg iter : Expr) (f : List C → Option (List D)) : Prop where
  ex : ∃ wi, PI X tg iter wi ∧ ∀ (σ : L2.St) (H F : Hp) (fp : Nat → List Addr) (env : List C) (items : List D) (R : It → Hp → Prop), Rel X.K G env σ H F fp → f env = some items →
    (∀ J H' F', Ext H F H' F' → Walk X.K J items F' → (LenOk X.K H' → items.length ≤ sizeLine) → R J H') → wi σ H R
section
variable {X : Cx} {G : GC} {tg iter e : Expr} {k : RK} {f : List C → Option D} {fs : List C → Option (List D)} {p pos : Pos} {ks : List RK}
theorem pi_or {wi wi' : TI} (h : PI X tg iter wi) (h' : PI X tg iter wi') : PI X tg iter (fun σ H R => wi σ H R ∨ wi' σ H R) := ⟨fun pins s σ H R I q => by
  rcases q with q | q
  · exact h.run pins s σ H R I q
  · exact h'.run pins s σ H R I q⟩
theorem list_inj {K : PySem.W.Frag} {H : Hp} {a : Addr} {vs ws : List V} (e : H a = some (.lst vs)) (h : Rd H a (.lst ws)) : ws = vs := by
  rcases h with h | ⟨o, h⟩
  · rw [e] at h; cases h; rfl
  · rw [e] at h; cases h
def iSeq (f : List C → Option D) : List C → Option (List D) := fun env => match f env with | some (.list ds) => some ds | some (.tuple ds) => some ds | _ => none
theorem di_seq (h : DE X G k e f) (hk : k.le .fz = true := by rfl) : DI X G tg e (iSeq f) := by
  obtain ⟨t, p, o⟩ := (h.conv hk).ex
  refine ⟨_, pi_or (pi_list p) (pi_tup p), fun σ H F fp env items R Rl hf q => ?_⟩
  unfold iSeq at hf
  split at hf
  · rename_i ds z
    cases hf
    left
    refine o σ H F fp env _ _ Rl z fun v H1 F1 E1 r => ?_
    cases r with
    | @lst a vs _ h1 h2 =>
      refine ⟨a, rfl, ⟨vs, .inl (.inl (E1.sub _ _ h1))⟩, q _ H1 F1 E1 (fun i H2 F2 s1 s2 => ⟨fun d hd => ?_, fun hl => ?_⟩) (fun ln => by rw [← DFAll_len h2]; exact ln a vs (.inl (.inl (.inl (E1.sub _ _ h1)))))⟩
      · have e2 : H2 a = some (.lst vs) := s2 _ _ (s1 _ _ h1)
        obtain ⟨v, hv, rv⟩ := DFAll_get h2 hd
        refine ⟨⟨vs, v, .inl (.inl e2), hv⟩, fun x H3 ⟨eH, y⟩ => ⟨F2, ?_, ?_⟩⟩
        · subst eH; exact Ext.refl s2
        · have e3 := y vs (.inl (.inl e2))
          rw [hv] at e3; cases e3
          exact DF_mono s1 _ _ rv
      · exact ⟨vs, .inl (.inl (s2 _ _ (s1 _ _ h1))), by rw [DFAll_len h2]; exact hl⟩
  · rename_i ds z
    cases hf
    right
    refine o σ H F fp env _ _ Rl z fun v H1 F1 E1 r => ?_
    cases r with
    | @tup a vs _ h1 h2 =>
      refine ⟨a, rfl, ⟨vs, Same.seqT E1.sub h1⟩, q _ H1 F1 E1 (fun i H2 F2 s1 s2 => ⟨fun d hd => ?_, fun hl => ?_⟩) (fun ln => by rw [← DFAll_len h2]; exact ln a vs (.inr (Same.seqT E1.sub h1)))⟩
      · have e2 : SqT X.K H2 a vs := Same.seqT (s1.trans s2) h1
        obtain ⟨v, hv, rv⟩ := DFAll_get h2 hd
        refine ⟨⟨vs, v, e2, hv⟩, fun x H3 ⟨eH, y⟩ => ⟨F2, ?_, ?_⟩⟩
        · subst eH; exact Ext.refl s2
        · have e3 := y vs e2
          rw [hv] at e3; cases e3
          exact DF_mono s1 _ _ rv
      · exact ⟨vs, Same.seqT (s1.trans s2) h1, by rw [DFAll_len h2]; exact hl⟩
  · cases hf
def rng (lo : Int) (n : Nat) : List D := (List.range n).map fun i => .int (lo + (i : Nat))
theorem rng_len (lo : Int) (n : Nat) : (rng lo n).length = n := by unfold rng; rw [List.length_map, List.length_range]
theorem walk_rng {K : PySem.W.Frag} {F' : Hp} (lo : Int) (n : Nat) : Walk K (Itr lo n) (rng lo n) F' := fun i H2 F2 s1 s2 => by
  refine ⟨fun d hd => ?_, fun hl => by rw [rng_len] at hl; exact hl⟩
  have hi : i < n := by
    have := (List.getElem?_eq_some_iff.mp hd).1
    rw [rng_len] at this; exact this
  refine ⟨hi, fun x H3 ⟨e, ex⟩ => ⟨F2, by subst e; exact Ext.refl s2, ?_⟩⟩
  unfold rng at hd
  rw [List.getElem?_map, List.getElem?_range hi] at hd
  cases hd
  subst ex
  exact .int _
def iRng1F (f : List C → Option D) : List C → Option (List D) := fun env => match f env with | some (.int j) => if -(2 ^ 62) ≤ j ∧ j ≤ 16777216 then some (rng 0 j.toNat) else none | _ => none
theorem di_range1 (hg : Gl X "range") (hm : X.mg "range" = none) (h : DE X G k e f) (hk : k.le .vl = true := by rfl) (hs : starEach [e] X.env = [(false, eval e X.env)] := by rfl) : DI X G tg (.Call (.Name "range" p) [e] [] pos) (iRng1F f) := by
  obtain ⟨t, pt, o⟩ := (h.conv hk).ex
  refine ⟨_, pi_range1 hg hm (pa_cons pt pa_nil hs) hs, fun σ H F fp env items R Rl hf q => ?_⟩
  unfold iRng1F at hf
  split at hf
  · rename_i j z
    split at hf
    · cases hf
      rename_i hb
      refine o σ H F fp env _ _ Rl z fun v H1 F1 E1 r => ?_
      have ev := vl_int (G := G) (H := H1) (F := F1) r
      subst ev
      exact ⟨j, rfl, hb.1, by omega, q _ H1 F1 E1 (walk_rng 0 _) fun _ => by rw [rng_len, sizeLine_eq]; omega⟩
    · cases hf
  · cases hf
def iRng2F (f g : List C → Option D) : List C → Option (List D) := fun env => match f env with
  | some (.int i) => (match g env with | some (.int j) => if (-(2 ^ 62) ≤ i ∧ i < 2 ^ 62 ∧ -(2 ^ 62) ≤ j ∧ j < 2 ^ 62 ∧ j - i ≤ 16777216) then some (rng i (j - i).toNat) else none | _ => none)
  | _ => none
def rngD (lo : Int) (n : Nat) : List D := (List.range n).map fun i => .int (lo - (i : Nat))
def iRngD (f g h : List C → Option D) : List C → Option (List D) := fun env => match f env with
  | some (.int i) => (match g env with | some (.int j) => (match h env with | some (.int (-1)) => if (-(2 ^ 62) ≤ i ∧ i < 2 ^ 62 ∧ -(2 ^ 62) ≤ j ∧ j < 2 ^ 62 ∧ i - j ≤ 16777216) then some (rngD i (i - j).toNat) else none | _ => none) | _ => none)
  | _ => none
def iStrF (f : List C → Option D) : List C → Option (List D) := fun env => match f env with | some (.str z) => if z.length ≤ sizeLine then some (z.cps.toList.map fun c => .str ⟨#[c]⟩) else none | _ => none
theorem di_str (h : DE X G k e f) (hk : k.le .vl = true := by rfl) : DI X G tg e (iStrF f) := by
  obtain ⟨t, p, o⟩ := (h.conv hk).ex
  refine ⟨_, pi_str p, fun σ H F fp env items R Rl hf q => ?_⟩
  unfold iStrF at hf
  split at hf
  · rename_i z ez
    split at hf
    rotate_left
    · cases hf
    rename_i hz
    cases hf
    refine o σ H F fp env _ _ Rl ez fun v H1 F1 E1 r => ?_
    have ev := vl_str (G := G) (H := H1) (F := F1) r
    refine ⟨z, ev, q _ H1 F1 E1 (fun i H2 F2 s1 s2 => ⟨fun d hd => ?_, fun hl => ?_⟩) (fun _ => by rw [List.length_map, Array.length_toList]; exact hz)⟩
    · rw [List.getElem?_map] at hd
      cases y : z.cps.toList[i]? with
      | none => rw [y] at hd; cases hd
      | some c =>
        rw [y] at hd; cases hd
        have hi : i < z.cps.size := by
          have := (List.getElem?_eq_some_iff.mp y).1
          rw [Array.length_toList] at this; exact this
        refine ⟨hi, fun x H3 ⟨e, c', ec, ex⟩ => ⟨F2, by subst e; exact Ext.refl s2, ?_⟩⟩
        subst ex
        rw [← Array.getElem?_toList, y] at ec
        cases ec
        exact .str _
    · rw [List.length_map, Array.length_toList] at hl; exact hl
  · cases hf
def enumD (ds : List D) : List D := (List.range ds.length).zipWith (fun i d => .tuple [.int (i : Nat), d]) ds
def iEnumF (f : List C → Option D) : List C → Option (List D) := fun env => match f env with | some (.list ds) => some (enumD ds) | _ => none
theorem enumD_get {ds : List D} {i : Nat} {x : D} (h : (enumD ds)[i]? = some x) : ∃ d, ds[i]? = some d ∧ x = .tuple [.int (i : Nat), d] := by
  unfold enumD at h
  rw [List.getElem?_zipWith] at h
  cases z : ds[i]? with
  | none =>
    rw [z] at h
    cases y : (List.range ds.length)[i]? <;> rw [y] at h <;> cases h
  | some d =>
    have hi := (List.getElem?_eq_some_iff.mp z).1
    rw [z, List.getElem?_range hi] at h
    cases h
    exact ⟨d, rfl, rfl⟩
theorem enumD_len (ds : List D) : (enumD ds).length = ds.length := by
  unfold enumD; rw [List.length_zipWith, List.length_range, Nat.min_self]
theorem pair_new {K : PySem.W.Frag} {H F : Hp} {T : Addr} {v w : V} {d1 d2 : D} (sub : Same F H) (nT : H T = none) (r1 : DF K F v d1) (r2 : DF K F w d2) : Ext H F (upd H T (.tup [v, w])) (upd F T (.tup [v, w])) ∧ DF K (upd F T (.tup [v, w])) (.ref T) (.tuple [d1, d2]) := by
  have m : Same F (upd F T (.tup [v, w])) := fun b x e => by rw [upd_ne (ne_of_none e (sub.free nT))]; exact e
  exact ⟨Ext.frozen sub nT, .tup (.inl (.inl upd_same)) (.cons (DF_mono m _ _ r1) (.cons (DF_mono m _ _ r2) .nil))⟩
def zipD : List D → List D → List D := List.zipWith fun x y => .tuple [x, y]
def iZipF (f g : List C → Option D) : List C → Option (List D) := fun env => match f env with
  | some (.list xs) => (match g env with | some (.list ys) => some (zipD xs ys) | _ => none)
  | some (.tuple xs) => (match g env with | some (.tuple ys) => some (zipD xs ys) | _ => none)
  | _ => none
theorem zipD_get {xs ys : List D} {i : Nat} {x : D} (h : (zipD xs ys)[i]? = some x) : ∃ a b, xs[i]? = some a ∧ ys[i]? = some b ∧ x = .tuple [a, b] := by
  unfold zipD at h
  rw [List.getElem?_zipWith] at h
  cases z : xs[i]? with
  | none => rw [z] at h; cases h
  | some a =>
    cases y : ys[i]? with
    | none => rw [z, y] at h; cases h
    | some b => rw [z, y] at h; cases h; exact ⟨a, b, rfl, rfl, rfl⟩
theorem zipD_len (xs ys : List D) : (zipD xs ys).length = min xs.length ys.length := List.length_zipWith
end
end DL
set_option Elab.async false
set_option linter.all false
set_option maxRecDepth 100000
set_option maxHeartbeats 4000000
namespace DL
open PySem PySem.Spec L2

section
variable {X : Cx} {G : GC} {tg iter e e2 elt : Expr} {k k2 kr : RK} {f f2 fe : List C → Option D} {fs : List C → Option (List D)} {p pos : Pos} {body : List Stmt} {fb : List C → Out} {ft : List C → Option Bool}
def forF (g : D → List C → Option (List C)) (b : List C → Out) : List D → List C → Out
  | [], env => .nx env
  | d :: ds, env => match g d env with
    | none => .err
    | some e => match b e with
      | .nx e' => forF g b ds e'
      | .ct e' => forF g b ds e'
      | .bk e' => .nx e'
      | .rt d => .rt d
      | .err => .err
      | .rx e t => .rx e t
      | .xc e x => .xc e x
def sFor (fi : List C → Option (List D)) (g : D → List C → Option (List C)) (b : List C → Out) : List C → Out := fun env => match fi env with | some items => forF g b items env | none => .err
theorem ds_for {is : List Nat} {fi : List C → Option (List D)} {g : D → List C → Option (List C)} (hp : PassesOwn (model X.prog X.w) X.A X.env X.xe) (hc : X.calm = true) (hi : DI X G tg iter fi) (hg : DG X G is tg g) (hb : DSs X G kr body fb)
    (hs : ∀ x, foldedSetIterable iter X.env x = pure x := by intro _; rfl) : DS X G kr (.For tg iter body [] pos) (sFor fi g fb) := by
  obtain ⟨wi, pw, ow⟩ := hi.ex
  obtain ⟨tg', pg, og⟩ := hg.ex
  obtain ⟨tb, pb, ob⟩ := hb.ex
  refine ⟨_, ps_for hp hc pw pg pb hs, fun σ H F fp env E R q => ?_⟩
  unfold sFor at q
  cases z : fi env with
  | none => rw [z] at q; exact q.elim
  | some items =>
    rw [z] at q
    refine ow σ H F fp env items _ R z fun J H1 F1 E1 wk _ => ?_
    refine ⟨fun i m σ H => m = items.length - i ∧ i ≤ items.length ∧ ∃ env fp F, Rel X.K G env σ H F fp ∧ Same F1 F ∧ Post X G kr F E (forF g fb (items.drop i) env), ⟨items.length, by simp, Nat.zero_le _, env, fp, F1, R.ext E1, Same.refl _, Post.mono E1.f (by rw [List.drop_zero]; exact q)⟩, ?_⟩
    rintro i m σ2 H2 ⟨rfl, hi, env2, fp2, F2, R2, s2, q2⟩
    obtain ⟨w1, w2⟩ := wk i H2 F2 s2 R2.sub
    by_cases hlt : i < items.length
    · right
      obtain ⟨d, hd⟩ : ∃ d, items[i]? = some d := ⟨items[i], List.getElem?_eq_getElem hlt⟩
      obtain ⟨go, y⟩ := w1 d hd
      have ed : items.drop i = d :: items.drop (i + 1) := by
        rw [List.drop_eq_getElem_cons hlt]
        rw [List.getElem?_eq_getElem hlt] at hd; cases hd; rfl
      rw [ed] at q2
      unfold forF at q2
      refine ⟨go, fun σ' H' => ∃ env' fp' F', Rel X.K G env' σ' H' F' fp' ∧ Same F1 F' ∧ Post X G kr F' E (forF g fb (items.drop (i + 1)) env'), fun σ' H' n => ⟨items.length - (i + 1), by omega, rfl, hlt, n⟩, fun x H3 yl => ?_⟩
      obtain ⟨F3, E3, r3⟩ := y x H3 yl
      have R3 := R2.ext E3
      cases z2 : g d env2 with
      | none => simp only [z2] at q2; exact q2.elim
      | some e' =>
        simp only [z2] at q2
        refine og σ2 H3 F3 fp2 env2 e' x d _ R3 r3 z2 fun σ4 fp4 R4 _ _ => ?_
        refine ob σ4 H3 F3 fp4 e' _ R4 ?_
        cases z3 : fb e' with
        | nx e'' =>
          simp only [z3] at q2
          exact fun σ5 H5 F5 fp5 R5 s5 => ⟨e'', fp5, F5, R5, (s2.trans E3.f).trans s5, Post.mono (E3.f.trans s5) q2⟩
        | ct e'' =>
          simp only [z3] at q2
          exact fun σ5 H5 F5 fp5 R5 s5 => ⟨e'', fp5, F5, R5, (s2.trans E3.f).trans s5, Post.mono (E3.f.trans s5) q2⟩
        | bk e'' =>
          simp only [z3] at q2
          exact fun σ5 H5 F5 fp5 R5 s5 => q2 σ5 H5 F5 fp5 R5 (E3.f.trans s5)
        | rt d' => simp only [z3] at q2; exact q2
        | err => simp only [z3] at q2; exact q2
        | rx _ _ => simp only [z3] at q2; exact q2
        | xc _ _ => simp only [z3] at q2; exact fun cls d σ' H' F' fp' l R s => q2 cls d σ' H' F' fp' l R (E3.f.trans s)
    · left
      have ei : i = items.length := by omega
      subst ei
      rw [List.drop_length] at q2
      exact ⟨w2 (Nat.le_refl _), q2 σ2 H2 F2 fp2 R2 (Same.refl _)⟩
def whileF (c : List C → Option Bool) (b : List C → Out) : Nat → List C → Out
  | 0, _ => .err
  | n + 1, env => match c env with
    | none => .err
    | some false => .nx env
    | some true => match b env with
      | .nx e' => whileF c b n e'
      | .ct e' => whileF c b n e'
      | .bk e' => .nx e'
      | .rt d => .rt d
      | .err => .err
      | .rx e t => .rx e t
      | .xc e x => .xc e x
def sWhile (fuel : List C → Nat) (c : List C → Option Bool) (b : List C → Out) : List C → Out := fun env => whileF c b (fuel env) env
def wipeE (env : List C) : List Nat → List C
  | [] => env
  | v :: vs => (wipeE env vs).set v .und
theorem Rel.drop2 {K : PySem.W.Frag} {env : List C} {σ : L2.St} {H F : Hp} {fp : Nat → List Addr} (R : Rel K G env σ H F fp) (i : Nat) : Rel K G (env.set i .und) (σ.set i none) H F (fset fp i []) where
  len := by rw [List.length_set, List.length_set]; exact R.len
  slot := fun j c' e => by
    by_cases hj : j = i
    · subst hj
      rw [fset_at]
      by_cases hl : j < env.length
      · rw [List.getElem?_set_self hl] at e; cases e; rfl
      · rw [List.getElem?_eq_none (by rw [List.length_set]; omega)] at e; cases e
    · rw [List.getElem?_set_ne (Ne.symm hj)] at e
      rw [fset_ne hj, List.getElem?_set_ne (Ne.symm hj)]
      exact R.slot j c' e
  dj := (R.drop i).dj
  own := (R.drop i).own
  sub := R.sub
  new := R.new
  old := R.old
  keep := R.keep
  alive := R.alive
theorem Rel.wiped {K : PySem.W.Frag} {env : List C} {σ : L2.St} {H F : Hp} {fp : Nat → List Addr} (R : Rel K G env σ H F fp) : ∀ vs : List Nat, ∃ fp', Rel K G (wipeE env vs) (wipe σ vs) H F fp' ∧ ∀ j a, a ∈ fp' j → a ∈ fp j
  | [] => ⟨fp, R, fun _ _ h => h⟩
  | v :: vs => by
    obtain ⟨fp', R', s⟩ := R.wiped vs
    refine ⟨_, R'.drop2 v, fun j a h => ?_⟩
    by_cases hj : j = v
    · subst hj; rw [fset_at] at h; cases h
    · rw [fset_ne hj] at h; exact s j a h
theorem Rel.updD {K : PySem.W.Frag} {env : List C} {σ : L2.St} {H F : Hp} {fp : Nat → List Addr} {p : Addr} {o : HO} (R : Rel K G env σ H F fp) (hp : ∀ j, p ∉ fp j) (hF : F p = none) (h0 : G.H0 p = none) : Rel K G env σ (upd H p o) F fp where
  len := R.len
  slot := fun j c' e => by
    have q := R.slot j c' e
    have na : ∀ b, fp j = [b] → b ≠ p := fun b z y => hp j (by rw [z, y]; exact List.mem_singleton.mpr rfl)
    cases c' with
    | ro b t => exact q
    | pin _ => exact q
    | al _ _ => exact q
    | own m t => obtain ⟨v, q1, q2, q3⟩ := q; exact ⟨v, q1, OR_mono (Same.refl _) _ _ _ (fun b o hb e => by rw [upd_ne (fun z => hp j (by rw [← z]; exact hb))]; exact e) q2, q3⟩
    | und => exact q
    | val d => exact q
    | brw d => exact q
    | lst ds => obtain ⟨b, vs, q1, q2, q3, q4⟩ := q; exact ⟨b, vs, q1, q2, by rw [upd_ne (na b q1)]; exact q3, q4⟩
    | dK ds => obtain ⟨b, vs, q1, q2, q3, q4⟩ := q; exact ⟨b, vs, q1, q2, by rw [upd_ne (na b q1)]; exact q3, q4⟩
    | dT ds => obtain ⟨b, vs, q1, q2, q3, q4⟩ := q; exact ⟨b, vs, q1, q2, by rw [upd_ne (na b q1)]; exact q3, q4⟩
    | dN ds => obtain ⟨b, w, xs, q1, q2, q5, q3, q4⟩ := q; exact ⟨b, w, xs, q1, q2, q5, by rw [upd_ne (na b q1)]; exact q3, q4⟩
  dj := R.dj
  own := fun j b hb => by
    obtain ⟨g1, g2, g3⟩ := R.own j b hb
    refine ⟨g1, ?_, g3⟩
    by_cases hb' : b = p
    · rw [hb', upd_same]; intro z; cases z
    · rw [upd_ne hb']; exact g2
  sub := fun b u e => by rw [upd_ne (fun z => by rw [z, hF] at e; cases e)]; exact R.sub b u e
  new := R.new
  old := R.old
  keep := fun b u e hw => by
    rw [upd_ne (fun z => by rw [z, h0] at e; cases e)]; exact R.keep b u e hw
  alive := fun b e => by
    by_cases hb' : b = p
    · rw [hb', upd_same]; intro z; cases z
    · rw [upd_ne hb']; exact R.alive b e
theorem wipe_wipe (σ : L2.St) : ∀ vs : List Nat, wipe (wipe σ vs) vs = wipe σ vs
  | [] => rfl
  | v :: vs => by
    show (wipe ((wipe σ vs).set v none) vs).set v none = (wipe σ vs).set v none
    rw [wipe_set0, wipe_wipe σ vs]
def lcF (g : D → List C → Option (List C)) (tt : List C → Option Bool) (fe : List C → Option D) (env : List C) : List D → Option (List D)
  | [] => some []
  | d :: ds => (g d env).bind fun e => (tt e).bind fun b => if b = true then (fe e).bind fun y => (lcF g tt fe env ds).map (y :: ·) else lcF g tt fe env ds
def eLc (vs : List Nat) (fi : List C → Option (List D)) (g : D → List C → Option (List C)) (tt : List C → Option Bool) (fe : List C → Option D) : List C → Option D := fun env => (fi env).bind fun items => (lcF g tt fe (wipeE env vs) items).map .list
def tgD (K : PySem.W.Frag) (G : GC) (is : List Nat) (f : D → List C → Option (List C)) : TG := fun v σ H Q => ∃ (F : Hp) (fp : Nat → List Addr) (env env' : List C) (d : D), Rel K G env σ H F fp ∧ DF K F v d ∧ f d env = some env' ∧
  ∀ σ' fp', Rel K G env' σ' H F fp' → (∀ vs, (∀ i, i ∈ is → i ∈ vs) → wipe σ' vs = wipe σ vs) → (∀ j a, a ∈ fp' j → a ∈ fp j) → Q σ' H
theorem DG.canon {is : List Nat} {f : D → List C → Option (List C)} (h : DG X G is tg f) : PG X tg (tgD X.K G is f) := by
  obtain ⟨t, p, o⟩ := h.ex
  exact ⟨fun pins s σ H v u Q I r ⟨F, fp, env, env', d, R, rd, hf, q⟩ => p.run pins s σ H v u Q I r (o σ H F fp env env' v d Q R rd hf q)⟩
structure DIf (X : Cx) (G : GC) (ifs : List Expr) (f : List C → Option Bool) : Prop where
  run : PTs X ifs (tDT X.K G f)
theorem dif_nil : DIf X G [] (fun _ => some true) := ⟨⟨fun pins s σ H Q I ⟨F, fp, env, b, R, hf, q⟩ => pts_nil.run pins s σ H Q I (by cases hf; exact q H F (Ext.refl R.sub))⟩⟩
theorem dif_one {c : Expr} (h : DTs X G c ft) : DIf X G [c] ft := ⟨pts_one h.canon⟩
theorem lc_ok {wi : TI} {is vs : List Nat} {fi : List C → Option (List D)} {g : D → List C → Option (List C)} (ow : ∀ (σ : L2.St) (H F : Hp) (fp : Nat → List Addr) (env : List C) (items : List D) (R : It → Hp → Prop), Rel X.K G env σ H F fp → fi env = some items →
    (∀ J H' F', Ext H F H' F' → Walk X.K J items F' → (LenOk X.K H' → items.length ≤ sizeLine) → R J H') → wi σ H R) (hi : ∀ i, i ∈ is → i ∈ vs) {σ : L2.St} {H F : Hp} {fp : Nat → List Addr} {env : List C} {d : D} {Q : VK} (R : Rel X.K G env σ H F fp) (hf : eLc vs fi g ft fe env = some d)
    (q : ∀ v H' F', Ext H F H' F' → RepK X.K G .ow H H' F' v d → Q v H') : tLc (fun σ H R => wi σ H fun J H' => LenOk X.K H' → R J H') (tgD X.K G is g) (tDT X.K G ft) (tD X.K G .fz fe) vs σ H Q := by
  unfold eLc at hf
  cases z : fi env with
  | none => rw [z] at hf; cases hf
  | some items =>
    rw [z] at hf
    cases z2 : lcF g ft fe (wipeE env vs) items with
    | none =>
      rw [show (some items : Option (List D)).bind (fun items => (lcF g ft fe (wipeE env vs) items).map PyData.list) = (lcF g ft fe (wipeE env vs) items).map PyData.list from rfl, z2] at hf
      cases hf
    | some res =>
      rw [show (some items : Option (List D)).bind (fun items => (lcF g ft fe (wipeE env vs) items).map PyData.list) = (lcF g ft fe (wipeE env vs) items).map PyData.list from rfl, z2] at hf
      cases hf
      refine ow σ H F fp env items _ R z fun J H1 F1 E1 wk lnw ln p np => ?_
      have hline := lnw ln
      have R1 := R.ext E1
      obtain ⟨fpw, Rw, sw⟩ := R1.wiped vs
      have pfp : ∀ j, p ∉ fpw j := fun j hm => (Rw.own j p hm).2.1 np
      have h0p : G.H0 p = none := R1.h0 np
      have f1p : F1 p = none := R1.sub.free np
      refine ⟨fun i m Hc => m = items.length - i ∧ i ≤ items.length ∧ ∃ Fc acc vs' rest, Rel X.K G (wipeE env vs) (wipe σ vs) Hc Fc fpw ∧ Same H1 Hc ∧ Same F1 Fc ∧ (∀ a o, Fc a = some o → F1 a = some o ∨ H1 a = none) ∧ Hc p = some (.lst vs') ∧ Fc p = none ∧ DFAll X.K Fc vs' acc ∧ lcF g ft fe (wipeE env vs) (items.drop i) = some rest ∧ acc ++ rest = res ∧ acc.length + rest.length ≤ i + rest.length ∧ vs'.length ≤ i,
        ⟨items.length, by simp, Nat.zero_le _, F1, [], [], res, Rw.updD pfp f1p h0p, fun b x e => by rw [upd_ne (ne_of_none e np)]; exact e, Same.refl _, fun _ _ e => .inl e, upd_same, f1p, .nil, by rw [List.drop_zero]; exact z2, rfl, by simp, Nat.le_refl _⟩, ?_⟩
      rintro i m Hc ⟨rfl, hile, Fc, acc, vs', rest, Rc, sH, sF, nF, hp, fpn, dacc, hrest, hres, hle, hvl⟩
      obtain ⟨w1, w2⟩ := wk i Hc Fc sF Rc.sub
      by_cases hlt : i < items.length
      · right
        obtain ⟨dd, hd⟩ : ∃ d, items[i]? = some d := ⟨items[i], List.getElem?_eq_getElem hlt⟩
        obtain ⟨go, y⟩ := w1 dd hd
        have ed : items.drop i = dd :: items.drop (i + 1) := by
          rw [List.drop_eq_getElem_cons hlt]
          rw [List.getElem?_eq_getElem hlt] at hd; cases hd; rfl
        rw [ed] at hrest
        unfold lcF at hrest
        cases z3 : g dd (wipeE env vs) with
        | none => rw [z3] at hrest; cases hrest
        | some e' =>
          rw [z3] at hrest
          have hrest : ((ft e').bind fun b => if b = true then (fe e').bind fun y => (lcF g ft fe (wipeE env vs) (items.drop (i + 1))).map (y :: ·) else lcF g ft fe (wipeE env vs) (items.drop (i + 1))) = some rest := hrest
          cases z4 : ft e' with
          | none => rw [z4] at hrest; cases hrest
          | some b =>
            rw [z4] at hrest
            have hrest : (if b = true then (fe e').bind fun y => (lcF g ft fe (wipeE env vs) (items.drop (i + 1))).map (y :: ·) else lcF g ft fe (wipeE env vs) (items.drop (i + 1))) = some rest := hrest
            refine ⟨go, fun H' => i + 1 ≤ items.length ∧ ∃ Fc acc vs' rest, Rel X.K G (wipeE env vs) (wipe σ vs) H' Fc fpw ∧ Same H1 H' ∧ Same F1 Fc ∧ (∀ a o, Fc a = some o → F1 a = some o ∨ H1 a = none) ∧ H' p = some (.lst vs') ∧ Fc p = none ∧ DFAll X.K Fc vs' acc ∧ lcF g ft fe (wipeE env vs) (items.drop (i + 1)) = some rest ∧ acc ++ rest = res ∧ acc.length + rest.length ≤ i + 1 + rest.length ∧ vs'.length ≤ i + 1,
              fun H' n => ⟨items.length - (i + 1), by omega, rfl, n⟩, fun x H3 yl => ?_⟩
            obtain ⟨F3, E3, r3⟩ := y x H3 yl
            have R3 := Rc.ext E3
            refine ⟨F3, fpw, _, e', dd, R3, r3, z3, fun σ4 fp4 R4 w4 s4 => ⟨w4 vs hi |>.trans ?_, ?_⟩⟩
            · exact wipe_wipe σ vs
            refine ⟨F3, fp4, e', b, R4, z4, fun H5 F5 E5 => ?_⟩
            have back : ∀ {H F}, Ext H3 F3 H F → Rel X.K G (wipeE env vs) (wipe σ vs) H F fpw := fun E => R3.ext E
            have fz : ∀ {H F}, Ext Hc Fc H F → F p = none := fun {H F} E => by
              cases q9 : F p with
              | none => rfl
              | some o =>
                rcases E.new p o q9 with z9 | z9
                · rw [fpn] at z9; cases z9
                · rw [hp] at z9; cases z9
            have nf : ∀ {H F}, Ext Hc Fc H F → ∀ a o, F a = some o → F1 a = some o ∨ H1 a = none := fun {H F} E a o e => by
              rcases E.new a o e with z9 | z9
              · exact nF a o z9
              · exact .inr (sH.free z9)
            cases b with
            | false =>
              simp only [Bool.false_eq_true, if_false] at hrest
              refine iteF ⟨hlt, F5, acc, vs', rest, back E5, sH.trans (E3.h.trans E5.h), sF.trans (E3.f.trans E5.f), nf (E3.trans E5), E5.h _ _ (E3.h _ _ hp), fz (E3.trans E5), DFAll_mono (E3.f.trans E5.f) _ _ dacc, hrest, hres, by omega, by omega⟩
            | true =>
              simp only [if_true] at hrest
              refine iteT ?_
              cases z5 : fe e' with
              | none => rw [z5] at hrest; cases hrest
              | some yv =>
                rw [z5] at hrest
                have hrest : ((lcF g ft fe (wipeE env vs) (items.drop (i + 1))).map (yv :: ·)) = some rest := hrest
                cases z6 : lcF g ft fe (wipeE env vs) (items.drop (i + 1)) with
                | none => rw [z6] at hrest; cases hrest
                | some rest' =>
                  rw [z6] at hrest; cases hrest
                  refine ⟨F5, fp4, e', yv, R4.ext E5, z5, fun v H6 F6 E6 r6 => ?_⟩
                  have E36 := E5.trans E6
                  refine ⟨vs', E6.h _ _ (E5.h _ _ (E3.h _ _ hp)), ?_, hlt, F6, acc ++ [yv], vs' ++ [v], rest', (back E36).updD pfp (fz (E3.trans E36)) h0p, ?_, sF.trans (E3.f.trans E36.f), nf (E3.trans E36), upd_same, fz (E3.trans E36), DFAll_app (DFAll_mono (E3.f.trans E36.f) _ _ dacc) (.cons r6 .nil), rfl, by rw [← hres]; simp, by simp only [List.length_append, List.length_cons, List.length_nil] at hle ⊢; omega, by rw [List.length_append]; simp; omega⟩
                  · omega
                  · intro b x e
                    rw [upd_ne (ne_of_none e np)]
                    exact E36.h _ _ (E3.h _ _ (sH _ _ e))
      · left
        have ei : i = items.length := by omega
        subst ei
        rw [List.drop_length] at hrest
        cases hrest
        rw [List.append_nil] at hres
        subst hres
        refine ⟨w2 (Nat.le_refl _), q _ Hc Fc ⟨E1.h.trans sH, E1.f.trans sF, Rc.sub, fun a o e => ?_⟩ ⟨p, vs', acc, rfl, rfl, E1.h.free np, hp, fpn, dacc⟩⟩
        rcases nF a o e with z9 | z9
        · exact E1.new a o z9
        · exact .inr (E1.h.free z9)
theorem d_lc {is : List Nat} {fi : List C → Option (List D)} {g : D → List C → Option (List C)} {ifs : List Expr} {scope : Scope} (own : List (Str × Nat)) (hc : X.calm = true) (hN : X.N.Nodup) (hi : DI X G tg iter fi) (N : List Str) (sc : Scope) (ok : blkC N sc scope own = true)
    (hg : ∀ (s : Shared) (H : Hp) (C : Addr) (cl : List (Str × Addr)) (fp : List Addr), DG (X.blk s H scope (compEnvC scope cl C X.env) fp) G is tg g) (ht : ∀ (s : Shared) (H : Hp) (C : Addr) (cl : List (Str × Addr)) (fp : List Addr), DIf (X.blk s H scope (compEnvC scope cl C X.env) fp) G ifs ft)
    (he : ∀ (s : Shared) (H : Hp) (C : Addr) (cl : List (Str × Addr)) (fp : List Addr), DE (X.blk s H scope (compEnvC scope cl C X.env) fp) G k elt fe) (hk : k.le .fz = true := by rfl) (his : ∀ i, i ∈ is → i ∈ own.map (·.2) := by decide) (hs : ∀ x, foldedSetIterable iter X.env x = pure x := by intro _; rfl) (hN2 : X.N = N := by rfl) (hs2 : X.env.scope = sc := by rfl) :
    DE X G .ow (.ListComp elt [⟨tg, iter, ifs, 0⟩] scope pos) (eLc (own.map (·.2)) fi g ft fe) := by
  obtain ⟨wi, pw, ow⟩ := hi.ex
  exact ⟨_, pe_lc hc hN (pi_len pw) (blkOk_by (by rw [hN2, hs2]; exact ok)) (fun s H C cl fp => (hg s H C cl fp).canon) (fun s H C cl fp => (ht s H C cl fp).run) (fun s H C cl fp => ((he s H C cl fp).conv hk).canon) hs,
    fun σ H F fp env d Q R hf q => lc_ok ow his R hf q⟩
end

def cells : List RK → List D → List C
  | .vw :: ks, d :: ds => .brw d :: cells ks ds
  | _ :: ks, d :: ds => .val d :: cells ks ds
  | _, _ => []
def runP (ks : List RK) (n : Nat) (body : List C → Out) : List D → Option D := fun ds => match body (cells ks ds ++ List.replicate (n - ds.length) .und) with
  | .rt d => some d
  | _ => none
def runN (ks : List RK) (n : Nat) (body : List C → Out) : List D → Option D := fun ds => match body (cells ks ds ++ List.replicate (n - ds.length) .und) with
  | .rt d => some d
  | .nx _ => some .none
  | _ => none
theorem cells_ok {K : PySem.W.Frag} {G : GC} {H F : Hp} (hk : ∀ v d, Dp K H v d → Dp K G.kp v d) : ∀ {ks : List RK} {vs : List V} {ds : List D}, okPs ks = true → RepKs K G H F ks vs ds → (cells ks ds).length = vs.length ∧ ∀ (i : Nat) (c : C), (cells ks ds)[i]? = some c → SlotRep K G H F ((vs.map some)[i]?.join) c []
  | [], [], [], _, _ => ⟨rfl, fun i c e => by simp [cells] at e⟩
  | k :: ks, v :: vs, d :: ds, hp, h => by
    cases k with
    | fz =>
      obtain ⟨h1, h2⟩ := cells_ok hk (show okPs ks = true from hp) h.2
      refine ⟨by simp [cells, h1], fun i c e => ?_⟩
      cases i with
      | zero => simp [cells] at e; subst e; exact ⟨rfl, v, rfl, h.1⟩
      | succ i => simp only [cells, List.getElem?_cons_succ] at e; simpa using h2 i c e
    | vw =>
      obtain ⟨h1, h2⟩ := cells_ok hk (show okPs ks = true from hp) h.2
      refine ⟨by simp [cells, h1], fun i c e => ?_⟩
      cases i with
      | zero => simp [cells] at e; subst e; exact ⟨rfl, v, rfl, hk _ _ h.1⟩
      | succ i => simp only [cells, List.getElem?_cons_succ] at e; simpa using h2 i c e
    | _ => cases hp
  | [], _ :: _, _, _, h => by cases h
  | [], [], _ :: _, _, h => by cases h
  | _ :: _, [], _, _, h => by cases h
  | _ :: _, _ :: _, [], _, h => by cases h
section
variable {P : Program} {w : World} {K : PySem.W.Frag} {mg : Str → Option Value} {base : Heap}
theorem rel_start {ks : List RK} {N : List Str} {vs : List V} {ds : List D} {H F0 : Hp} (hp : okPs ks = true) (sub : Same F0 H) (r : RepKs K ⟨H, F0, [], none⟩ H F0 ks vs ds) (ow : Option World) :
    Rel K ⟨H, F0, [], ow⟩ (cells ks ds ++ List.replicate (N.length - ds.length) .und) (L2.start N vs) H F0 (fun _ => []) := by
  have hk : ∀ v d, Dp K H v d → Dp K (GC.kp ⟨H, F0, [], ow⟩) v d := fun v d h => by
    have e : GC.kp ⟨H, F0, [], ow⟩ = H := by
      funext a
      unfold GC.kp
      exact if_neg List.not_mem_nil
    rw [e]; exact h
  obtain ⟨l1, l2⟩ := cells_ok (G := ⟨H, F0, [], ow⟩) hk hp (RepKs_any hp r)
  obtain ⟨m1, m2⟩ := RepKs_len r
  exact {
    len := by
      unfold L2.start
      rw [List.length_append, List.length_append, List.length_replicate, List.length_replicate, List.length_map, l1, m1]
    slot := fun i c e => by
      by_cases hi : i < (cells ks ds).length
      · rw [List.getElem?_append_left hi] at e
        have q := l2 i c e
        unfold L2.start
        rw [List.getElem?_append_left (by rw [List.length_map, ← l1]; exact hi)]
        exact q
      · rw [List.getElem?_append_right (by omega), List.getElem?_replicate] at e
        split at e
        · cases e; rfl
        · cases e
    dj := fun _ _ _ h => nomatch h
    own := fun _ _ h => nomatch h
    sub := sub
    new := fun _ _ e => .inl e
    old := Same.refl _
    keep := fun _ _ e _ => e
    alive := fun _ e => e }
theorem fn_gen {x qual : Str} {st : Stmt} {f : Addr} {fd : FuncData} {N ps : List Str} {k : Nat} {ks : List RK} {kr : RK} {body : List C → Out} {g : List D → Option D} (F : Fun K x qual st f fd) (S : FnScope N ps (defScope st)) (hl : ks.length = ps.length) (hp : okPs ks = true)
    (hgo : ∀ ds d, g ds = some d → body (cells ks ds ++ List.replicate (N.length - ds.length) .und) = .rt d ∨ (kr = .fz ∧ d = .none ∧ ∃ e, body (cells ks ds ++ List.replicate (N.length - ds.length) .und) = .nx e))
    (hbody : ∀ (cdv : Value) (A : Around) (outer : List Env) (s : Shared) (H : Hp) (E : XK) (G : GC), Room k (A.deeper (PyProof.Rows.envOfC qual (defScope st) s.heap.objs.size f cdv)) → G.W = [] → G.w = some w →
      DSs (cxOf CX0 P w K mg base N qual (defScope st) f cdv A outer s H E).nox G kr (defBody st) body) : FnOk P w K mg base CX0 (k + 1) f fd ps (spP K ks kr g) := by
  refine F.ok S (fun vs H Q E h => ?_) (fun cdv A outer s H vs Q E hr h => ?_)
  · obtain ⟨F0, ds, d, sub, hg, r, q⟩ := h
    obtain ⟨m1, m2⟩ := RepKs_len r
    omega
  · obtain ⟨F0, ds, d, sub, hg, r, q⟩ := h
    obtain ⟨t, pt, o⟩ := (hbody cdv A outer s H E ⟨H, F0, [], some w⟩ hr rfl rfl).ex
    refine ⟨t, pt, o _ H F0 _ _ _ (rel_start (N := N) hp sub r (some w)) ?_⟩
    rcases hgo ds d hg with e | ⟨rfl, rfl, e', e⟩
    · rw [e]
      exact fun v H' F' fin rk => q v H' F' ⟨fun a o e => fin.h a o e List.not_mem_nil, fin.f, fin.sub, fin.new⟩ rk
    · rw [e]
      exact fun σ' H' F' fp' R' s' => q .non H' F' ⟨fun a o e => R'.keep a o e List.not_mem_nil, R'.old, R'.sub, R'.new⟩ .non
theorem fn_pure {x qual : Str} {st : Stmt} {f : Addr} {fd : FuncData} {N ps : List Str} {k : Nat} {ks : List RK} {kr : RK} {body : List C → Out} (F : Fun K x qual st f fd) (S : FnScope N ps (defScope st)) (hl : ks.length = ps.length) (hp : okPs ks = true)
    (hbody : ∀ (cdv : Value) (A : Around) (outer : List Env) (s : Shared) (H : Hp) (E : XK) (G : GC), Room k (A.deeper (PyProof.Rows.envOfC qual (defScope st) s.heap.objs.size f cdv)) → G.W = [] → G.w = some w →
      DSs (cxOf CX0 P w K mg base N qual (defScope st) f cdv A outer s H E).nox G kr (defBody st) body) : FnOk P w K mg base CX0 (k + 1) f fd ps (spP K ks kr (runP ks N.length body)) :=
  fn_gen F S hl hp (fun ds d h => by
    unfold runP at h
    split at h
    · cases h; exact .inl (by assumption)
    · cases h) hbody
end
end DL
set_option Elab.async false
set_option linter.all false
set_option maxRecDepth 100000
set_option maxHeartbeats 4000000
namespace DL
open PySem PySem.Spec L2

section
variable {X : Cx} {G : GC} {k k2 kr : RK} {e ei a : Expr} {f fe fi fa : List C → Option D} {pos p1 p2 : Pos} {x : Str}
def alikeB (ds : List D) : Bool := ds.all fun d => ds.all fun d' => W.alike d d'
def isTup1 : D → Bool | .tuple (_ :: _) => true | _ => false
def notNT : D → Bool | .none => false | .tuple _ => false | _ => true
def sortableB (ds : List D) : Bool := ds.all isTup1 || ds.all notNT
def gSorted : List D → Option D | [.list ds] => if alikeB ds = true ∧ sortableB ds = true ∧ (ds.all fun d => decide (d.depth ≤ 60)) = true then some (.list (ds.mergeSort (W.dataLe false fun d => d))) else none | _ => none
def rSortD (K : PySem.W.Frag) : List V → Hp → VK → Prop := fun xs H Q => ∃ (F : Hp) (a : Addr) (vs : List V) (ds : List D), xs = [.ref a] ∧ Same F H ∧ H a = some (.lst vs) ∧ DFAll K F vs ds ∧ alikeB ds = true ∧ sortableB ds = true ∧ (ds.all fun d => decide (d.depth ≤ 60)) = true ∧
  ∀ p ws, H p = none → DFAll K F ws (ds.mergeSort (W.dataLe false fun d => d)) → Q (.ref p) (upd H p (.lst ws))
def flatD : D → Bool | .none => true | .bool _ => true | .int _ => true | .str _ => true | _ => false
def flV : D → V | .none => .non | .bool b => .bl b | .int i => .int i | .str x => .str x | _ => .non
def inF (x : D) (ys : List D) : Bool := inV (flV x) (ys.map flV)
def gInF : D → D → Option D
  | x, .tuple ys => if flatD x = true ∧ ys.all flatD = true then some (.bool (inF x ys)) else none
  | x, .list ys => if flatD x = true ∧ ys.all flatD = true then some (.bool (inF x ys)) else none
  | _, _ => none
def gNotInF : D → D → Option D
  | x, .tuple ys => if flatD x = true ∧ ys.all flatD = true then some (.bool (!inF x ys)) else none
  | x, .list ys => if flatD x = true ∧ ys.all flatD = true then some (.bool (!inF x ys)) else none
  | _, _ => none
def gRev : D → Option D | .list xs => some (.list xs.reverse) | _ => none
def eRev (f : List C → Option D) : List C → Option D := fun env => (f env).bind gRev
def sAugIx (i : Nat) (g : D → D → Option D) (fi fe : List C → Option D) : List C → Out := fun env => match env[i]? with
  | some (.lst ds) => (match fi env with
    | some (.int j) => (match atI ds j with
      | some x => (match fe env with
        | some y => (match g x y with
          | some z => (match setAt ds j z with | some ds' => .nx (env.set i (.lst ds')) | none => .err)
          | none => .err)
        | none => .err)
      | none => .err)
    | _ => .err)
  | _ => .err
def sClear (i : Nat) : List C → Out := fun env => match env[i]? with | some (.lst _) => .nx (env.set i (.lst [])) | _ => .err
end
end DL
namespace DL
open PySem PySem.Spec L2
section
variable {X : Cx} {G : GC} {ka kb kr k1 : RK} {g1 g2 : D → D → Option D} {f : Value → Value → Sem Value} {tg iter e a : Expr} {pos : Pos}
def gOr (g1 g2 : D → D → Option D) : D → D → Option D := fun x y => match g1 x y with | some d => some d | none => g2 x y
theorem DOp.or (o1 : DOp X G f ka kb kr g1) (o2 : DOp X G f ka kb kr g2) : DOp X G f ka kb kr (gOr g1 g2) := by
  obtain ⟨r1, p1, q1⟩ := o1.ex
  obtain ⟨r2, p2, q2⟩ := o2.ex
  refine ⟨_, p1.or p2, fun H F vx vy dx dy d Q sub kp hl rx ry hd q => ?_⟩
  unfold gOr at hd
  split at hd
  · rename_i d' e
    cases hd
    exact .inl (q1 H F vx vy dx dy _ Q sub kp hl rx ry e q)
  · exact .inr (q2 H F vx vy dx dy d Q sub kp hl rx ry hd q)
theorem DOp.fz (o : DOp X G f ka kb .ow g1) : DOp X G f ka kb .fz g1 := by
  obtain ⟨r, p, q⟩ := o.ex
  refine ⟨r, p, fun H F vx vy dx dy d Q sub kp hl rx ry hd k => q H F vx vy dx dy d Q sub kp hl rx ry hd fun v H' F' E r => ?_⟩
  obtain ⟨a, vs, ds, rfl, rfl, h1, h2, h3, h4⟩ := r
  have m : Same F' (upd F' a (.lst vs)) := fun b x e => by rw [upd_ne (ne_of_none e h3)]; exact e
  refine k _ H' (upd F' a (.lst vs)) ⟨E.h, E.f.trans m, fun b x e => ?_, fun b x e => ?_⟩ (.lst upd_same (DFAll_mono m _ _ h4))
  · by_cases hb : b = a
    · subst hb; rw [upd_same] at e; rw [← e]; exact h2
    · rw [upd_ne hb] at e; exact E.sub _ _ e
  · by_cases hb : b = a
    · subst hb; exact .inr h1
    · rw [upd_ne hb] at e; exact E.new _ _ e
theorem repA_vw {K : PySem.W.Frag} {H F : Hp} {v : V} {d : D} (sub : Same F H) (r : RepA K G .vl H F v d) : RepA K G .vw H F v d := by
  rcases r with r | ⟨a, vs, ds, rfl, rfl, e3, e4⟩
  · exact Dp_mono sub _ _ (DF.dp _ _ r)
  · exact .lst (.inl (.inl e3)) (DpAll_mono sub _ _ (DFAll.dp _ _ e4))
theorem DOp.vl (o : DOp X G f .vw .vw kr g1) : DOp X G f .vl .vl kr g1 := by
  obtain ⟨r, p, q⟩ := o.ex
  exact ⟨r, p, fun H F vx vy dx dy d Q sub kp hl rx ry hd k => q H F vx vy dx dy d Q sub kp hl (repA_vw sub rx) (repA_vw sub ry) hd k⟩
def gAdd : D → D → Option D := gOr gAddI (gOr gAddS (gOr gAddL gAddT))
theorem o_add : DOp X G (binaryOp .Add) .vl .vl .fz gAdd := o_addI.or (o_addS.or (o_addL.fz.or o_addT))
def strRep (x : Str) (k : Nat) : Str := ⟨(List.replicate k x.cps.toList).flatten.toArray⟩
theorem foldl_arr (c : Array Nat) : ∀ (k : Nat) (acc : List Nat), (List.replicate k c).foldl (· ++ ·) acc.toArray = (acc ++ (List.replicate k c.toList).flatten).toArray
  | 0, acc => by simp
  | k + 1, acc => by
    rw [List.replicate_succ, List.foldl_cons, List.replicate_succ, List.flatten_cons, ← List.append_assoc]
    have e : acc.toArray ++ c = (acc ++ c.toList).toArray := by
      apply Array.ext'
      simp
    rw [e]
    exact foldl_arr c k _
theorem op_mulS : OpR X (binaryOp .Mult) (fun x y H Q => ∃ z k, x = .str z ∧ y = .int k ∧ 0 ≤ k ∧ k ≤ 1000 ∧ z.length ≤ 1000 ∧ Q (.str (strRep z k.toNat)) H) := by
  intro pins s σ H x y v u Q I rx ry h
  obtain ⟨z, k, rfl, rfl, h0, h1, h2, q⟩ := h
  obtain ⟨t, rfl⟩ := rx
  obtain ⟨t', rfl⟩ := ry
  have hn : z.length * k.toNat ≤ 1000000 := Nat.le_trans (Nat.mul_le_mul h2 (by omega : k.toNat ≤ 1000)) (by decide)
  have fin : ∀ tk, EP X pins σ Q (.str (strRep z k.toNat) tk) { s with toks := s.toks + 1 } := fun tk => ⟨.str (strRep z k.toNat), H, I.tok _, ⟨tk, rfl⟩, q⟩
  refine P.mul_str ?_ (fun hk _ => ?_) (fun hk _ => ?_) ?_
  · rw [decide_eq_false (by omega), decide_eq_false (by omega)]; rfl
  · intro hc
    have hk' : 0 < k := by omega
    have a1 : (2 ^ 63 - 1) / k ≥ (2 ^ 63 - 1) / 1000 := by
      refine Int.le_ediv_of_mul_le hk' ?_
      have : (2 ^ 63 - 1) / 1000 * k ≤ (2 ^ 63 - 1) / 1000 * 1000 := Int.mul_le_mul_of_nonneg_left h1 (by decide)
      omega
    have a2 : ((2 : Int) ^ 63 - 1) / 1000 ≥ 1000 := by decide
    omega
  · show decide (z.length * k.toNat > sizeLine) = false
    exact decide_eq_false (by rw [sizeLine_eq]; omega)
  · split
    · rename_i hk
      have e : strRep z k.toNat = Str.empty := by
        have : k.toNat = 0 := by omega
        unfold strRep
        rw [this]; rfl
      refine ⟨by decide, ?_⟩
      have := fin s.toks
      rw [e] at this
      exact this
    · split
      · rename_i hk hc
        have e : strRep z k.toNat = z := by
          rcases Bool.or_eq_true_iff.mp hc with y | y
          · have : k.toNat = 1 := by
              have := beq_iff_eq.mp y
              omega
            unfold strRep
            rw [this]
            simp
          · have y' := beq_iff_eq.mp y
            unfold strRep
            have : z.cps.toList = [] := List.eq_nil_of_length_eq_zero (by rw [Array.length_toList]; exact y')
            rw [this]
            apply Str.ext'
            apply Array.ext'
            simp [this]
        show EP X pins σ Q (.str z t) s
        exact ⟨.str z, H, I, ⟨t, rfl⟩, by rw [e] at q; exact q⟩
      · have e : (⟨(List.replicate k.toNat z.cps).foldl (· ++ ·) #[]⟩ : Str) = strRep z k.toNat := by
          unfold strRep
          have := foldl_arr z.cps k.toNat []
          rw [List.nil_append] at this
          rw [← this]
        rw [e]
        refine ⟨?_, fin s.toks⟩
        unfold strRep Str.length
        rw [List.size_toArray, PyProof.Rows.lm_len_rep_flat, Array.length_toList, sizeLine_eq]
        have : k.toNat * z.cps.size ≤ 1000000 := by rw [Nat.mul_comm]; exact hn
        omega
def gMulS : D → D → Option D | .str x, .int k => if 0 ≤ k ∧ k ≤ 1000 ∧ x.length ≤ 1000 then some (.str (strRep x k.toNat)) else none | _, _ => none
theorem o_mulS : DOp X G (binaryOp .Mult) .vl .vl .fz gMulS := ⟨_, op_mulS, fun H F vx vy dx dy d Q sub kp hl rx ry hd q => by
  unfold gMulS at hd
  split at hd
  · split at hd <;> cases hd
    rename_i hc
    have e1 := vl_str rx
    have e2 := vl_int ry
    subst e1 e2
    exact ⟨_, _, rfl, rfl, hc.1, hc.2.1, hc.2.2, q _ H F (Ext.refl sub) (.str _)⟩
  · cases hd⟩
def gEq : D → D → Option D := gOr gEqS gEqD
def gNe : D → D → Option D := gOr gNeS gNeD
theorem scal_vl {K : PySem.W.Frag} {H F : Hp} {v : V} {d : D} (hs : scalD d = true) (r : Dp K H v d) : RepA K G .vl H F v d := by
  cases r with
  | lst _ _ => cases hs
  | tup _ _ => cases hs
  | non => exact .inl .non
  | bl b => exact .inl (.bl b)
  | int i => exact .inl (.int i)
  | str x => exact .inl (.str x)
theorem o_eqSw : DOp X G (compareOp .Eq) .vw .vw .fz gEqS := by
  obtain ⟨r, p, q⟩ := (o_eqS (X := X) (G := G)).ex
  refine ⟨r, p, fun H F vx vy dx dy d Q sub kp hl rx ry hd k => q H F vx vy dx dy d Q sub kp hl (scal_vl ?_ rx) (scal_vl ?_ ry) hd k⟩
  · unfold gEqS at hd; split at hd <;> first | rfl | cases hd
  · unfold gEqS at hd; split at hd <;> first | rfl | cases hd
theorem o_neSw : DOp X G (compareOp .NotEq) .vw .vw .fz gNeS := by
  obtain ⟨r, p, q⟩ := (o_neS (X := X) (G := G)).ex
  refine ⟨r, p, fun H F vx vy dx dy d Q sub kp hl rx ry hd k => q H F vx vy dx dy d Q sub kp hl (scal_vl ?_ rx) (scal_vl ?_ ry) hd k⟩
  · unfold gNeS at hd; split at hd <;> first | rfl | cases hd
  · unfold gNeS at hd; split at hd <;> first | rfl | cases hd
theorem o_eq (hu : X.A.units + 64 < cLine) : DOp X G (compareOp .Eq) .vw .vw .fz gEq := o_eqSw.or (o_eqD hu)
theorem o_ne (hu : X.A.units + 64 < cLine) : DOp X G (compareOp .NotEq) .vw .vw .fz gNe := o_neSw.or (o_neD hu)
def gIn : D → D → Option D := gOr gInF gInL
def gNotIn : D → D → Option D := gOr gNotInF gNotInL
def gMul : D → D → Option D := gOr gMulI (gOr gMulS (gOr gMulL gMulT))
theorem o_mul : DOp X G (binaryOp .Mult) .vl .vl .fz gMul := o_mulI.or (o_mulS.or (o_mulL.fz.or o_mulT))
def gSlS : D → Option Int → Option Int → Option D | .str z, l, u => if z.length ≤ sizeLine then some (.str (cutS z l u)) else none | _, _, _ => none
def gSl : D → Option Int → Option Int → Option D
  | .list xs, l, u => some (.list (cutD xs l u))
  | .tuple xs, l, u => some (.tuple (cutD xs l u))
  | .str z, l, u => if z.length ≤ sizeLine then some (.str (cutS z l u)) else none
  | _, _, _ => none
theorem d_sl {lo hi : Option Expr} {fa : List C → Option D} {fl fu : List C → Option (Option Int)} {p2 : Pos} (ha : DE X G k1 a fa) (hl : DP X G lo fl) (hu : DP X G hi fu) (h1 : k1.le .vl = true := by rfl) : DE X G .fz (.Subscript a (.Slice lo hi none p2) pos) (e3 gSl fa fl fu) :=
  d_slice (ka := .vl) (sl_list.or (sl_tupA.or sl_str)) (fun H F vx dx d l u Q sub kp hlen rx hd q => by
    unfold gSl at hd
    split at hd
    · cases hd
      obtain ⟨p, vs, rfl, h1, h2⟩ := vl_list sub rx
      refine .inl ⟨p, vs, rfl, .inl (.inl h1), fun n nn => ?_⟩
      have m : Same F (upd F n (.lst (cutV vs l u))) := fun b x e => by rw [upd_ne (ne_of_none e (sub.free nn))]; exact e
      exact q _ _ _ (Ext.frozen sub nn) (.lst upd_same (DFAll_mono m _ _ (cut_rep h2 l u)))
    · rename_i xs
      cases hd
      have fx : ∃ a vs, vx = .ref a ∧ SqT X.K F a vs ∧ DFAll X.K F vs xs := by
        rcases rx with rx | ⟨_, _, _, _, z, _⟩
        · cases rx with | tup h1 h2 => exact ⟨_, _, rfl, h1, h2⟩
        · cases z
      obtain ⟨p, vs, rfl, h1, h2⟩ := fx
      refine .inr (.inl ⟨p, vs, rfl, Same.seqT sub h1, fun hw => ?_, fun hw n nn => ?_⟩)
      · have e : cutV vs l u = vs := by
          unfold cutV
          rw [hw.1, hw.2]
          exact List.take_length
        have r := cut_rep h2 l u
        rw [e] at r
        exact q _ H F (Ext.refl sub) (.tup h1 r)
      · obtain ⟨E, r⟩ := new_tup sub nn (cut_rep h2 l u)
        exact q _ _ _ E r
    · split at hd <;> cases hd
      have e1 := vl_str rx
      subst e1
      exact .inr (.inr ⟨_, rfl, by assumption, q _ H F (Ext.refl sub) (.str _)⟩)
    · cases hd) ha hl hu h1
def iAny (f : List C → Option D) : List C → Option (List D) := fun env => match f env with
  | some (.list ds) => some ds
  | some (.tuple ds) => some ds
  | some (.str z) => if z.length ≤ sizeLine then some (z.cps.toList.map fun c => .str ⟨#[c]⟩) else none
  | _ => none
theorem di_any {k : RK} {f : List C → Option D} (h : DE X G k e f) (hk : k.le .fz = true := by rfl) : DI X G tg e (iAny f) := by
  obtain ⟨w1, p1, o1⟩ := (di_seq (tg := tg) h hk).ex
  obtain ⟨w2, p2, o2⟩ := (di_str (tg := tg) (h.conv hk)).ex
  refine ⟨_, pi_or p1 p2, fun σ H F fp env items R Rl hf q => ?_⟩
  unfold iAny at hf
  split at hf
  · rename_i ds z
    cases hf
    exact .inl (o1 σ H F fp env _ R Rl (by unfold iSeq; rw [z]) q)
  · rename_i ds z
    cases hf
    exact .inl (o1 σ H F fp env _ R Rl (by unfold iSeq; rw [z]) q)
  · rename_i s z
    exact .inr (o2 σ H F fp env _ R Rl (by unfold iStrF; rw [z]; exact hf) q)
  · cases hf
end
def Free (mg : Str → Option Value) (x : Str) : Prop := mg x = none
end DL
set_option Elab.async false
set_option linter.all false
set_option maxRecDepth 100000
set_option maxHeartbeats 4000000
namespace DL
open PySem PySem.Spec L2
theorem hu64 {A : Around} {k : Nat} (hr : Room k A) : A.units + 64 < cLine := hr.units
section
variable {X : Cx} {G : GC} {k kr : RK} {e a : Expr} {f fa : List C → Option D} {pos p pos' : Pos} {tg : Expr}
def gAddIS : D → D → Option D := gOr gAddI gAddS
def isNoD : D → Bool | .none => true | _ => false
def eIsN (f : List C → Option D) : List C → Option D := fun env => (f env).map fun d => .bool (isNoD d)
def eNotN (f : List C → Option D) : List C → Option D := fun env => (f env).map fun d => .bool (!isNoD d)
def iSeqB (f : List C → Option D) : List C → Option (List D) := fun env => match f env with | some (.list ds) => if ds.all scalD = true then some ds else none | _ => none
end
end DL
set_option Elab.async false
set_option linter.all false
set_option maxRecDepth 100000
set_option maxHeartbeats 4000000
namespace DL
open PySem PySem.Spec L2
def SqB (kd : Bool) (K : PySem.W.Frag) (H : Hp) (a : Addr) (xs : List V) : Prop := if kd = true then SqT K H a xs else SqL K H a xs
def IsB (kd : Bool) (h : Heap) (a : Addr) (its : Array Value) : Prop := if kd = true then h.IsTuple a its else h.IsList a its
def ItB (kd : Bool) (h : Heap) (i a : Addr) (n : Nat) : Prop := if kd = true then h.IsTupleIter i a n else h.IsListIter i a n
def itO (kd : Bool) (a : Addr) : Obj := if kd = true then ⟨.type "tuple_iterator", none, .fields #[.ref a, .int 0 0], #[]⟩ else ⟨.type "list_iterator", none, .fields #[.ref a, .int 0 0], #[]⟩
theorem begins_B (kd : Bool) (a : Addr) (its : Array Value) : Begins (.ref a) (itO kd a) fun h => IsB kd h a its := by
  cases kd
  · exact begins_list a its
  · exact begins_tuple a its
theorem itO_at {kd : Bool} {h : Heap} {i a : Addr} (e : h.get? i = some (itO kd a)) : ItB kd h i a 0 := by
  cases kd
  · exact ⟨_, e, rfl, rfl⟩
  · exact ⟨_, e, rfl, rfl⟩
theorem draws_B (kd : Bool) {P : Program} {w : World} {A : Around} (hh : A.handled = none) (i a : Addr) (hne : a ≠ i) (its : Array Value) :
    Draws P w A i [i, a] its.size (fun n v => its[n]? = some v) (fun n h => ItB kd h i a n ∧ IsB kd h a its) := by
  cases kd
  · exact Draws.list hh i a hne its
  · exact Draws.tuple hh i a hne its
theorem itB_keep {kd : Bool} {h h' : Heap} {i a : Addr} {n : Nat} (x : ItB kd h i a n) (k : ∀ o, h.get? i = some o → h'.get? i = some o) : ItB kd h' i a n := by
  cases kd
  · obtain ⟨o, e, p⟩ := (show h.IsListIter i a n from x); exact ⟨o, k o e, p⟩
  · obtain ⟨o, e, p⟩ := (show h.IsTupleIter i a n from x); exact ⟨o, k o e, p⟩
theorem itB_obj {kd : Bool} {h : Heap} {i a : Addr} {n : Nat} (x : ItB kd h i a n) : ∃ o, h.get? i = some o ∧ ∀ v, o.data ≠ .cell v := by
  cases kd
  · obtain ⟨o, e, _, d⟩ := (show h.IsListIter i a n from x); exact ⟨o, e, fun v q => by rw [d] at q; cases q⟩
  · obtain ⟨o, e, _, d⟩ := (show h.IsTupleIter i a n from x); exact ⟨o, e, fun v q => by rw [d] at q; cases q⟩
section
variable {X : Cx} {pins : List (Addr × Obj)} {σ : L2.St} {H : Hp} {s : Shared} {a : Addr} {xs ys : List V} {kd : Bool}
theorem seq_B (I : Inv X pins σ H s) (h : SqB kd X.K H a xs) : ∃ its : List Value, Vals xs its ∧ IsB kd s.heap a its.toArray := by
  cases kd
  · obtain ⟨its, r, p, _⟩ := I.list h
    exact ⟨its, r, p.isList⟩
  · obtain ⟨its, r, p, _⟩ := I.tuple h
    exact ⟨its, r, p⟩
theorem inj_B (I : Inv X pins σ H s) (h : SqB kd X.K H a xs) (h' : SqB kd X.K H a ys) : xs = ys := by
  cases kd
  · exact I.list_inj h h'
  · exact I.tuple_inj h h'
theorem isB_lt {h : Heap} {its : Array Value} (x : IsB kd h a its) : a < h.objs.size := by
  cases kd
  · obtain ⟨o, e, _⟩ := (show h.IsList a its from x); exact Heap.lt_size e
  · obtain ⟨o, e, _⟩ := (show h.IsTuple a its from x); exact Heap.lt_size e
end
def ItzM (K : PySem.W.Frag) (k1 k2 : Bool) (a b : Addr) (n1 n2 : Nat) : It where
  go := fun i H => ∃ (xs ys : List V) (x y : V), SqB k1 K H a xs ∧ SqB k2 K H b ys ∧ xs.length = n1 ∧ ys.length = n2 ∧ xs[i]? = some x ∧ ys[i]? = some y
  yld := fun i H v H' => ∃ T x y, v = .ref T ∧ H T = none ∧ H' = upd H T (.tup [x, y]) ∧ (∀ xs, SqB k1 K H a xs → xs[i]? = some x) ∧ ∀ ys, SqB k2 K H b ys → ys[i]? = some y
  stop := fun i H => ∃ xs ys : List V, SqB k1 K H a xs ∧ SqB k2 K H b ys ∧ xs.length = n1 ∧ ys.length = n2 ∧ (n1 ≤ i ∨ n2 ≤ i)
def tnM (k1 k2 : Bool) (a b z TI TO i1 i2 : Addr) (n1 n2 : Nat) (i : Nat) (h : Heap) : Prop :=
  IsZip h z TI TO .none ∧ IsTupOf2 h TI (.ref i1) (.ref i2) ∧ (∃ x y, IsTupOf2 h TO x y) ∧ ItB k1 h i1 a i ∧ ItB k2 h i2 b i ∧ i ≤ n1 ∧ i ≤ n2
theorem five {z TI TO i1 i2 c : Addr} (h : c ∈ [z, TI, TO, i1, i2]) : c = z ∨ c = TI ∨ c = TO ∨ c = i1 ∨ c = i2 := by simpa using h
theorem turn_M {P : Program} {w : World} {K : PySem.W.Frag} {elts : List Expr} {kk : Nat} {tpos : Pos} {k1 k2 : Bool} {a b z TI TO i1 i2 : Addr} {n1 n2 : Nat} (S : ZipSep2 z TI TO i1 i2 [i1, a] [i2, b]) (ha : a ≠ i1) (hb : b ≠ i2) :
    Turn P w K (.Tuple elts kk tpos) (ItzM K k1 k2 a b n1 n2) [z, TI, TO, i1, i2] z (tnM k1 k2 a b z TI TO i1 i2 n1 n2) where
  mem := List.mem_cons_self
  obj := fun i h st c hc => by
    obtain ⟨hz, hTI, ⟨x, y, hTO⟩, h1, h2, _, _⟩ := st
    rcases five hc with rfl | rfl | rfl | rfl | rfl
    · exact ⟨_, hz, fun v q => nomatch q⟩
    · exact ⟨_, hTI, fun v q => nomatch q⟩
    · exact ⟨_, hTO, fun v q => nomatch q⟩
    · exact itB_obj h1
    · exact itB_obj h2
  keep := fun i h h' st k => by
    obtain ⟨hz, hTI, ⟨x, y, hTO⟩, h1, h2, l1, l2⟩ := st
    exact ⟨k _ (by simp) _ hz, k _ (by simp) _ hTI, ⟨x, y, k _ (by simp) _ hTO⟩, itB_keep h1 (k _ (by simp)), itB_keep h2 (k _ (by simp)), l1, l2⟩
  item := by
    intro X eP ew eK hc i pins s σ H E I hf st hg
    subst eP ew eK
    obtain ⟨hz, hTI, ⟨x0, y0, hTO⟩, h1, h2, l1, l2⟩ := st
    obtain ⟨xs, ys, x, y, qx, qy, ex, ey, gx, gy⟩ := hg
    obtain ⟨us, r1, p1⟩ := seq_B I qx
    obtain ⟨ws, r2, p2⟩ := seq_B I qy
    obtain ⟨u, gu, ru⟩ := r1.get gx
    obtain ⟨v, gv, rv⟩ := r2.get gy
    have m1 : i < us.toArray.size := by
      rw [List.size_toArray]; exact (List.getElem?_eq_some_iff.mp gu).1
    have m2 : i < ws.toArray.size := by
      rw [List.size_toArray]; exact (List.getElem?_eq_some_iff.mp gv).1
    have hh : X.A.in1.handled = none := I.ok.hd hc
    have zl : z < s.heap.objs.size := Heap.lt_size hz
    refine wpAny_pyNext_zipD2_item S (draws_B k1 hh i1 a ha us.toArray) (draws_B k2 hh i2 b hb ws.toArray) hz hTI hTO ⟨h1, p1⟩ ⟨h2, p2⟩ m1 m2 fun x1 x2 h' tk y1 y2 z' o' t1 t2 hT _ hk => ?_
    have e1 : x1 = u := by
      have y1 : us.toArray[i]? = some x1 := y1
      rw [List.getElem?_toArray, gu] at y1; exact (Option.some.inj y1).symm
    have e2 : x2 = v := by
      have y2 : ws.toArray[i]? = some x2 := y2
      rw [List.getElem?_toArray, gv] at y2; exact (Option.some.inj y2).symm
    subst e1 e2
    refine ⟨_, rfl, wpAny_letOwnedTupleGo_zip (s := ⟨h', s.gens, s.drawn, tk, s.os⟩) z' fun h2' z2 sb => ?_⟩
    have hT2 : h2'.get? s.heap.objs.size = some ⟨.type "tuple", none, .seq #[x1, x2], #[]⟩ := (sb.2 _ (Nat.ne_of_gt zl)).trans hT
    have new : ObjOk X.prog X.w (upd H s.heap.objs.size (.tup [x, y])) h2' s.heap.objs.size (.tup [x, y]) :=
      ⟨by show 2 ≤ sizeLine; rw [sizeLine_eq]; decide, [x1, x2], .cons ru (.cons rv .nil), ⟨_, hT2, rfl, _, rfl⟩⟩
    have away : ∀ c o, c ∉ [z, TI, TO, i1, i2] → s.heap.get? c = some o → h2'.get? c = some o := fun c o hn q => by
      refine (sb.2 c fun e => hn (by simp [e])).trans (hk c o (fun e => hn (by simp [e])) (fun e => hn (by simp [e])) (fun e => hn (by simp [e])) (fun e => hn (by simp [e])) q)
    have J : Inv X pins σ (upd H s.heap.objs.size (.tup [x, y])) ⟨h2', s.gens, s.drawn, tk, s.os⟩ := I.turnedNew (t' := tk) away hf (Nat.le_refl _) new
    refine ⟨.ref s.heap.objs.size, _, J, rfl, ⟨_, x, y, rfl, I.hok.fresh (Nat.le_refl _), rfl, fun l hl => by rw [inj_B I hl qx]; exact gx, fun l hl => by rw [inj_B I hl qy]; exact gy⟩, ⟨z2, ?_, ⟨_, _, (sb.2 _ S.TOz).trans o'⟩, ?_, ?_, ?_, ?_⟩, fun c hcm => ?_⟩
    · exact (sb.2 _ S.TIz).trans (hk _ _ S.TIz S.TITO S.TIi1 S.TIi2 hTI)
    · exact itB_keep t1.1 fun o q => (sb.2 _ (Ne.symm S.zi1)).trans q
    · exact itB_keep t2.1 fun o q => (sb.2 _ (Ne.symm S.zi2)).trans q
    · rw [← ex]; exact (List.getElem?_eq_some_iff.mp gx).1
    · rw [← ey]; exact (List.getElem?_eq_some_iff.mp gy).1
    · have hlt : c < s.heap.objs.size := by
        rcases five hcm with rfl | rfl | rfl | rfl | rfl
        · exact zl
        · exact Heap.lt_size hTI
        · exact Heap.lt_size hTO
        · obtain ⟨o, e, _⟩ := itB_obj h1; exact Heap.lt_size e
        · obtain ⟨o, e, _⟩ := itB_obj h2; exact Heap.lt_size e
      rw [upd_ne (Nat.ne_of_lt hlt)]
      exact (hf c hcm).1
  done := by
    intro X eP ew eK hc i pins s σ H E I hf st hg
    subst eP ew eK
    obtain ⟨hz, hTI, ⟨x0, y0, hTO⟩, h1, h2, l1, l2⟩ := st
    obtain ⟨xs, ys, qx, qy, ex, ey, hend⟩ := hg
    obtain ⟨us, r1, p1⟩ := seq_B I qx
    obtain ⟨ws, r2, p2⟩ := seq_B I qy
    have m1 : us.toArray.size = n1 := by rw [List.size_toArray, ← r1.length, ex]
    have m2 : ws.toArray.size = n2 := by rw [List.size_toArray, ← r2.length, ey]
    have hh : X.A.in1.handled = none := I.ok.hd hc
    refine wpAny_pyNext_zipD2_end S (draws_B k1 hh i1 a ha us.toArray) (draws_B k2 hh i2 b hb ws.toArray) hz hTI hTO ⟨h1, p1⟩ ⟨h2, p2⟩ (by omega) (by omega) (by omega) fun h' tk hk => ⟨rfl, ?_⟩
    exact I.turnedL (t' := tk) (ch := [z, TI, TO, i1, i2]) (fun c o hn q => hk c o (fun e => hn (by simp [e])) (fun e => hn (by simp [e])) (fun e => hn (by simp [e])) (fun e => hn (by simp [e])) q) hf
  self := fun A i s Q E st h => wpAny_pyIter_zip st.1 h
def iZipX (K : PySem.W.Frag) (ta : TA) : TI := fun σ H R => ta σ H fun vs H1 => ∃ k1 k2 a b xs ys, vs = [.ref a, .ref b] ∧ SqB k1 K H1 a xs ∧ SqB k2 K H1 b ys ∧ R (ItzM K k1 k2 a b xs.length ys.length) H1
theorem pi_zipX {X : Cx} {e e2 : Expr} {ta : TA} {p pos tpos : Pos} {elts : List Expr} {kk : Nat} (hg : Gl X "zip") (hm : X.mg "zip" = none) (ha : PA X [e, e2] ta)
    (hs : starEach [e, e2] X.env = (false, eval e X.env) :: starEach [e2] X.env) (hpl : (backTo pos (starEach [e2] X.env)).any (·.1) = false) : PI X (.Tuple elts kk tpos) (.Call (.Name "zip" p) [e, e2] [] pos) (iZipX X.K ta) := by
  refine ⟨fun pins s σ H R I h => ?_⟩
  refine PyProof.Rows.Call_ (ld_blt I hg hm PyProof.Rows.boot_zip (PyProof.Rows.callWith_type1 (thn (ha.run pos pins s σ H _ I h) fun us s1 ⟨vs, H1, I1, r1, q1⟩ => ?_) hs hpl))
  obtain ⟨k1, k2, a, b, xs, ys, rfl, qx, qy, q⟩ := q1
  obtain ⟨us1, m1, p1⟩ := seq_B I1 qx
  obtain ⟨us2, m2, p2⟩ := seq_B I1 qy
  rcases r1 with _ | ⟨⟨⟩, _ | ⟨⟨⟩, _ | _⟩⟩
  have la := isB_lt p1
  have lb := isB_lt p2
  have new : ∀ c, c ∈ [s1.heap.objs.size + 4, s1.heap.objs.size + 2, s1.heap.objs.size + 3, s1.heap.objs.size, s1.heap.objs.size + 1] → FpOk X pins H1 c := fun c hcm => by
    have le : s1.heap.objs.size ≤ c := by
      rcases five hcm with rfl | rfl | rfl | rfl | rfl
      · exact Nat.le_add_right _ _
      · exact Nat.le_add_right _ _
      · exact Nat.le_add_right _ _
      · exact Nat.le_refl _
      · exact Nat.le_add_right _ _
    exact I1.fpOk le (I1.hok.fresh le)
  refine zip_begins2 (begins_B k1 a us1.toArray) (begins_B k2 b us2.toArray) p1 p2 fun h' hz hTI hTO g1 g2 _ hk => wpAny_pyIter_zip hz ?_
  have I2 : Inv X pins σ H1 { s1 with heap := h' } := I1.kept (t' := s1.toks) hk
  have S := zip_sep2 (N := s1.heap.objs.size) (fp1 := [a]) (fp2 := [b]) (fun c hc => by rw [List.mem_singleton.mp hc]; exact la) (fun c hc => by rw [List.mem_singleton.mp hc]; exact lb)
  exact ⟨_, _, _, _, H1, rfl, I2, turn_M S (Nat.ne_of_lt la) (Nat.ne_of_lt (Nat.lt_succ_of_lt lb)), ⟨hz, hTI, ⟨_, _, hTO⟩, itO_at g1, itO_at g2, Nat.zero_le _, Nat.zero_le _⟩, new, q⟩
def sqD : D → Option (Bool × List D) | .list xs => some (false, xs) | .tuple xs => some (true, xs) | _ => none
def iZipG (f g : List C → Option D) : List C → Option (List D) := fun env => ((f env).bind sqD).bind fun x => ((g env).bind sqD).bind fun y => some (zipD x.2 y.2)
theorem sqD_df {K : PySem.W.Frag} {F : Hp} {v : V} {d : D} {k : Bool} {ds : List D} (e : sqD d = some (k, ds)) (r : DF K F v d) : ∃ a vs, v = .ref a ∧ SqB k K F a vs ∧ DFAll K F vs ds := by
  unfold sqD at e
  split at e <;> cases e
  · cases r with | lst h1 h2 => exact ⟨_, _, rfl, .inl (.inl h1), h2⟩
  · cases r with | tup h1 h2 => exact ⟨_, _, rfl, h1, h2⟩
theorem sqB_mono {K : PySem.W.Frag} {H H' : Hp} {k : Bool} {a : Addr} {vs : List V} (s : Same H H') (h : SqB k K H a vs) : SqB k K H' a vs := by
  cases k
  · exact s.seq h
  · exact Same.seqT s h
theorem lenB {K : PySem.W.Frag} {H : Hp} {k : Bool} {a : Addr} {vs : List V} (l : LenOk K H) (h : SqB k K H a vs) : vs.length ≤ sizeLine := by
  cases k
  · exact l a vs (.inl h)
  · exact l a vs (.inr h)
theorem di_zipG {X : Cx} {G : GC} {e e2 : Expr} {k k2 : RK} {f f2 : List C → Option D} {p pos : Pos} {elts : List Expr} {kk : Nat} {tpos : Pos} (hg : Gl X "zip") (hm : X.mg "zip" = none) (h : DE X G k e f) (h2 : DE X G k2 e2 f2) (hk : k.le .fz = true := by rfl) (hk2 : k2.le .fz = true := by rfl)
    (hs : starEach [e, e2] X.env = (false, eval e X.env) :: starEach [e2] X.env := by rfl) (hs2 : starEach [e2] X.env = [(false, eval e2 X.env)] := by rfl) (hpl : (backTo pos (starEach [e2] X.env)).any (·.1) = false := by rfl) :
    DI X G (.Tuple elts kk tpos) (.Call (.Name "zip" p) [e, e2] [] pos) (iZipG f f2) := by
  obtain ⟨t, pt, o⟩ := (h.conv hk).ex
  obtain ⟨t2, pt2, o2⟩ := (h2.conv hk2).ex
  refine ⟨_, pi_zipX hg hm (pa_cons pt (pa_cons pt2 pa_nil hs2) hs) hs hpl, fun σ H F fp env items R Rl hf q => ?_⟩
  unfold iZipG at hf
  cases z1 : f env with
  | none => rw [z1] at hf; cases hf
  | some d1 =>
    rw [z1, Option.bind_some] at hf
    cases y1 : sqD d1 with
    | none => rw [y1] at hf; cases hf
    | some x1 =>
      rw [y1, Option.bind_some] at hf
      cases z2 : f2 env with
      | none => rw [z2] at hf; cases hf
      | some d2 =>
        rw [z2, Option.bind_some] at hf
        cases y2 : sqD d2 with
        | none => rw [y2] at hf; cases hf
        | some x2 =>
          rw [y2, Option.bind_some] at hf
          cases hf
          obtain ⟨ka, xs⟩ := x1
          obtain ⟨kb, ys⟩ := x2
          refine o σ H F fp env _ _ Rl z1 fun v H1 F1 E1 r => ?_
          refine o2 σ H1 F1 fp env _ _ (Rl.ext E1) z2 fun v2 H2 F2 E2 r2 => ?_
          obtain ⟨a, vs, rfl, s1, m1⟩ := sqD_df y1 (DF_mono E2.f _ _ r)
          obtain ⟨b, ws, rfl, s2, m2⟩ := sqD_df y2 r2
          have n1 := DFAll_len m1
          have n2 := DFAll_len m2
          refine ⟨ka, kb, a, b, vs, ws, rfl, sqB_mono E2.sub s1, sqB_mono E2.sub s2, q _ H2 F2 (E1.trans E2) (fun i H3 F3 t1 t2 => ⟨fun d hd => ?_, fun hl => ?_⟩) fun ln => ?_⟩
          · obtain ⟨c1, c2, g1, g2, rfl⟩ := zipD_get hd
            obtain ⟨v, hv, rv⟩ := DFAll_get m1 g1
            obtain ⟨w, hw, rw'⟩ := DFAll_get m2 g2
            have ea := sqB_mono (t1.trans t2) s1
            have eb := sqB_mono (t1.trans t2) s2
            refine ⟨⟨vs, ws, v, w, ea, eb, rfl, rfl, hv, hw⟩, fun x H4 ⟨T, x1, x2, ex, nT, eH, j1, j2⟩ => ?_⟩
            have i1 := j1 vs ea; rw [hv] at i1; cases i1
            have i2 := j2 ws eb; rw [hw] at i2; cases i2
            subst ex eH
            obtain ⟨E, r'⟩ := pair_new t2 nT (DF_mono t1 _ _ rv) (DF_mono t1 _ _ rw')
            exact ⟨_, E, r'⟩
          · rw [zipD_len] at hl
            dsimp only at hl
            exact ⟨vs, ws, sqB_mono (t1.trans t2) s1, sqB_mono (t1.trans t2) s2, rfl, rfl, by omega⟩
          · have z9 := lenB ln (sqB_mono E2.sub s1)
            rw [zipD_len]; dsimp only; omega
end DL
set_option Elab.async false
set_option linter.all false
set_option maxRecDepth 100000
set_option maxHeartbeats 4000000
namespace DL
open PySem PySem.Spec L2
section
variable {X : Cx} {tg : Expr}
def iRngA (ta : TA) : TI := fun σ H R => ta σ H fun vs H1 => ∃ i j : Int, vs = [.int i, .int j] ∧ R (Itr i (j - i).toNat) H1
end
def iRng2A (f g : List C → Option D) : List C → Option (List D) := fun env => match f env with
  | some (.int i) => (match g env with | some (.int j) => if j - i ≤ 16777216 then some (rng i (j - i).toNat) else none | _ => none)
  | _ => none
end DL
set_option Elab.async false
set_option linter.all false
set_option maxRecDepth 100000
set_option maxHeartbeats 4000000
namespace DL
open PySem PySem.Spec L2
section
variable {X : Cx} {pins : List (Addr × Obj)} {σ : L2.St} {H : Hp} {s : Shared}
mutual
theorem nested_is (I : Inv X pins σ H s) : ∀ (d : D) (v : V) (u : Value) (k : NestedKey), Dp X.K H v d → RelV v u → keyN d = some k → NestedIs s.heap k u
  | .none, _, u, k, h, r, e => by
    cases h; cases e; cases r; exact .none
  | .bool b, _, u, k, h, r, e => by
    cases h; cases e; cases r; exact .bool rfl
  | .int i, _, u, k, h, r, e => by
    cases h; cases e
    obtain ⟨t, rfl⟩ := r
    exact .int i t
  | .str x, _, u, k, h, r, e => by
    cases h; cases e
    obtain ⟨t, rfl⟩ := r
    exact .text x t
  | .tuple ds, _, u, k, h, r, e => by
    cases h with
    | tup hs ha =>
      unfold keyN at e
      cases z : keyNs ds with
      | none => rw [z] at e; cases e
      | some ks =>
        rw [z] at e; cases e
        cases r
        obtain ⟨its, rv, p, _⟩ := I.tuple hs
        obtain ⟨o, eo, ec, n, ed⟩ := p
        exact .tup eo ec ed (by
          rw [List.toList_toArray]
          exact nested_all I ds _ _ _ ha rv z)
  | .list _, _, _, _, _, _, e => by unfold keyN at e; cases e
  | .dict _, _, _, _, _, _, e => by unfold keyN at e; cases e
theorem nested_all (I : Inv X pins σ H s) : ∀ (ds : List D) (vs : List V) (us : List Value) (ks : List NestedKey), DpAll X.K H vs ds → Vals vs us → keyNs ds = some ks → NestedAll s.heap ks us
  | [], _, us, ks, h, r, e => by
    cases h; cases e; cases r; exact .nil
  | d :: ds, _, us, ks, h, r, e => by
    cases h with
    | cons h1 h2 =>
      unfold keyNs at e
      cases z1 : keyN d with
      | none => rw [z1] at e; cases e
      | some k =>
        cases z2 : keyNs ds with
        | none => rw [z1, z2] at e; cases e
        | some ks2 =>
          rw [z1, z2] at e; cases e
          cases r with
          | cons r1 r2 => exact .cons (nested_is I d _ _ _ h1 r1 z1) (nested_all I ds _ _ _ h2 r2 z2)
end
end
section
variable {X : Cx} {G : GC} {kr k k1 : RK} {e : Expr} {fe : List C → Option D} {pos p1 p2 pos' : Pos} {x y : Str}
def sDictN (i : Nat) : List C → Out := fun env => .nx (env.set i (.dN []))
def okK (d : D) : Bool := match d, keyN d with | .tuple _, some k => decide (k.depth ≤ 8) | _, _ => false
def hasK (ks : List D) (d : D) : Bool := ks.any fun k => decide (keyN k = keyN d)
def tNotInN (f : List C → Option D) (i : Nat) : List C → Option Bool := fun env => match env[i]? with
  | some (.dN ks) => (match f env with | some d => if okK d = true then some (!hasK ks d) else none | none => none)
  | _ => none
def sPutN (i : Nat) (f : List C → Option D) : List C → Out := fun env => match env[i]? with
  | some (.dN ks) => (match f env with | some d => if okK d = true ∧ hasK ks d = false ∧ ks.length < 16000000 then .nx (env.set i (.dN (ks ++ [d]))) else .err | none => .err)
  | _ => .err
end
section
variable {X : Cx} {G : GC}
def gDivA : D → D → Option D | .int i, .int j => if j ≠ 0 ∧ j.natAbs.log2 < 9000 then some (.int (i.fdiv j)) else none | _, _ => none
def gModA : D → D → Option D | .int i, .int j => if j ≠ 0 then some (.int (i.fmod j)) else none | _, _ => none
theorem op_fdivA : OpR X (binaryOp .FloorDiv) (rI (fun _ j => j ≠ 0 ∧ j.natAbs.log2 < 9000) fun i j => .int (i.fdiv j)) := opI fun _ _ _ _ _ _ _ hc q => PyProof.Rows.floordiv_int hc.1 q (.inl (PyProof.noPylong_of_log2 hc.2))
theorem o_divA : DOp X G (binaryOp .FloorDiv) .vl .vl .fz gDivA := dop_int (C := fun _ j => j ≠ 0 ∧ j.natAbs.log2 < 9000) (r' := fun i j => .int (i.fdiv j)) op_fdivA (fun x y d h => by
  unfold gDivA at h
  split at h
  · split at h <;> cases h
    exact ⟨_, _, rfl, rfl, by assumption, rfl⟩
  · cases h) fun _ _ _ _ => .int _
theorem o_modA : DOp X G (binaryOp .Mod) .vl .vl .fz gModA := dop_int (C := fun _ j => j ≠ 0) (r' := fun i j => .int (i.fmod j)) op_modN (fun x y d h => by
  unfold gModA at h
  split at h
  · split at h <;> cases h
    exact ⟨_, _, rfl, rfl, by assumption, rfl⟩
  · cases h) fun _ _ _ _ => .int _
end
end DL
set_option Elab.async false
set_option linter.all false
set_option maxRecDepth 100000
set_option maxHeartbeats 4000000
namespace DL
open PySem PySem.Spec L2
section
variable {X : Cx} {G : GC} {k : RK} {e : Expr} {f : List C → Option D} {p p2 pos pos2 : Pos}
def eListRg (f : List C → Option D) : List C → Option D := fun env => match f env with
  | some (.int j) => if -(2 ^ 62) ≤ j ∧ j ≤ 16777216 then some (.list (rng 0 j.toNat)) else none
  | _ => none
end
end DL
set_option Elab.async false
set_option linter.all false
set_option maxRecDepth 100000
set_option maxHeartbeats 4000000
namespace DL
open PySem PySem.Spec L2
section
variable {X : Cx} {G : GC} {kr k : RK} {e iter tg elt : Expr} {fe : List C → Option D} {ft : List C → Option Bool} {pos : Pos}
def flatO : Option D → Option D
  | some (.list es) => if es.all flatD = true then some (.list es) else none
  | _ => none
def eThaw (t : Nat) (fl : List C → Option D) : List C → Option D := fun env => match env[t]? with
  | some (.lst ds) => flatO (fl (env.set t (.val (.list ds))))
  | _ => none
def tThaw (t : Nat) (ft : List C → Option Bool) : List C → Option Bool := fun env => match env[t]? with
  | some (.lst ds) => ft (env.set t (.val (.list ds)))
  | _ => none
def sMove (i j : Nat) : List C → Out := fun env => match env[j]? with
  | some (.lst ds) => .nx ((env.set j .und).set i (.lst ds))
  | _ => .err
end
end DL
set_option Elab.async false
set_option linter.all false
set_option maxRecDepth 100000
set_option maxHeartbeats 4000000
namespace DL
open PySem PySem.Spec L2
open Sem (wp)
theorem meets_enum1 {v : Value} {ob : Obj} {J : Heap → Prop} (B : Begins v ob J) :
    Meets (Builtin.«enumerate.__new__» ⟨[.type "enumerate", v], []⟩) (fun _ R u => J u.heap ∧
      R (.ok (.ret (.ref (u.heap.push ob).objs.size))) { u with heap := (u.heap.push ob).push ⟨.type "enumerate", none, .fields #[.none, .bool false, .ref u.heap.objs.size, rawInt 0, .none, .none], #[]⟩ }) :=
  .of_wp fun pr ww A R u z => by
    obtain ⟨hp, gn, dr, tk, os⟩ := u
    obtain ⟨j1, z⟩ := z
    have hsb := sub_enumerate
    have go1 : ∀ {A' : Around} {E Q : Value → Shared → Prop}, Q (.ref hp.objs.size) ⟨hp.push ob, gn, dr, tk, os⟩ → wpAny (model pr ww) A' (pyIter v) Q E ⟨hp, gn, dr, tk, os⟩ := fun q => B.iter pr ww _ _ ⟨hp, gn, dr, tk, os⟩ _ j1 q
    wp_walk using go1
    refine wpAny_stack_any fun _ => wpAny_pure ?_
    split
    · rename_i cc _ _ _ _ _
      cases (cc == Value.type "enumerate") <;> (wp_walk using go1; exact ⟨_, rfl, z⟩)
    · wp_walk using go1
      exact ⟨_, rfl, z⟩
theorem call_enumB {P : Program} {w : World} {A : Around} {E : Value → Shared → Prop} {u : Shared} {v : Value} {ob : Obj} {J : Heap → Prop} {Q : Value → Shared → Prop} (B : Begins v ob J) (j : J u.heap)
    (h : ∀ h', IsEnum h' (u.heap.objs.size + 1) u.heap.objs.size 0 .none → h'.get? u.heap.objs.size = some ob → h'.objs.size = u.heap.objs.size + 2 → (∀ b o, u.heap.get? b = some o → h'.get? b = some o) → Q (.ref (u.heap.objs.size + 1)) { u with heap := h' }) :
    wpAny (model P w) A (call (.type "enumerate") [v]) Q E u := by
  have hz : (u.heap.push ob).objs.size = u.heap.objs.size + 1 := Heap.size_push ..
  refine callType_new F.called_enumerate (by decide) (F.typeCall_enumerate_1 _) (F.newCall_enumerate_1 _) (fun obj => F.args_object_init_2 obj _) F.entry_enumerate_new (meets_enum1 B) ⟨j, ?_⟩
  show _ ∧ _
  rw [hz]
  have en : IsEnum ((u.heap.push ob).push ⟨.type "enumerate", none, .fields #[.none, .bool false, .ref u.heap.objs.size, rawInt 0, .none, .none], #[]⟩) (u.heap.objs.size + 1) u.heap.objs.size 0 .none := by
    have y := Heap.get?_push_size (u.heap.push ob) (o := ⟨.type "enumerate", none, .fields #[.none, .bool false, .ref u.heap.objs.size, rawInt 0, .none, .none], #[]⟩) rfl
    rw [hz] at y
    exact y
  exact ⟨⟨_, en, rfl⟩, h _ en (Heap.get?_push_of_some _ (Heap.get?_push_size _ B.free)) (by rw [Heap.size_push, hz]) fun b o x => Heap.get?_push_of_some _ (Heap.get?_push_of_some _ x)⟩
def IteB (K : PySem.W.Frag) (kd : Bool) (a : Addr) (m : Nat) : It where
  go := fun i H => ∃ (xs : List V) (x : V), SqB kd K H a xs ∧ xs.length = m ∧ xs[i]? = some x
  yld := fun i H v H' => ∃ T x, v = .ref T ∧ H T = none ∧ H' = upd H T (.tup [.int (i : Nat), x]) ∧ ∀ xs, SqB kd K H a xs → xs[i]? = some x
  stop := fun i H => ∃ xs : List V, SqB kd K H a xs ∧ xs.length = m ∧ m ≤ i
theorem turn_enumB {P : Program} {w : World} {K : PySem.W.Frag} {elts : List Expr} {kk m : Nat} {tp : Pos} {kd : Bool} {a e it : Addr} (hne : e ≠ it) (hea : e ≠ a) (hia : a ≠ it) :
    Turn P w K (.Tuple elts kk tp) (IteB K kd a m) [e, it] e (fun i h => (∃ old, IsEnum h e it ((i : Nat) : Int) old) ∧ ItB kd h it a i ∧ i ≤ m) where
  mem := List.mem_cons_self
  obj := fun i h st b hb => by
    obtain ⟨⟨old, he⟩, hi, _⟩ := st
    rcases List.mem_cons.mp hb with rfl | hb
    · exact ⟨_, he, fun v q => nomatch q⟩
    · rw [List.mem_singleton.mp hb]; exact itB_obj hi
  keep := fun i h h' st k => by
    obtain ⟨⟨old, he⟩, hi, l⟩ := st
    exact ⟨⟨old, k e (by simp) _ he⟩, itB_keep hi (k it (by simp)), l⟩
  item := by
    intro X eP ew eK hc i pins s σ H E J hf st hg
    subst eP ew eK
    obtain ⟨⟨old, he⟩, hi, lm⟩ := st
    obtain ⟨xs, x, hq, hm, hx⟩ := hg
    obtain ⟨us, ru, pu⟩ := seq_B J hq
    obtain ⟨u, gu, rx⟩ := ru.get hx
    have lt : i < us.toArray.size := by
      rw [List.size_toArray]; exact (List.getElem?_eq_some_iff.mp gu).1
    have hh : X.A.in1.handled = none := J.ok.hd hc
    have el : e < s.heap.objs.size := Heap.lt_size he
    have il : it < s.heap.objs.size := by obtain ⟨o, z, _⟩ := itB_obj hi; exact Heap.lt_size z
    refine wpAny_pyNext_enum_itemC (draws_B kd hh it a hia us.toArray) he ⟨hi, pu⟩ lt hne (fun z => ?_) fun y h' tk hy ho hs' hT hz hk => ?_
    · rcases List.mem_cons.mp z with z | z
      · exact hne z
      · exact hea (List.mem_singleton.mp z)
    · have ey : y = u := by
        have hy : us.toArray[i]? = some y := hy
        rw [List.getElem?_toArray, gu] at hy; exact (Option.some.inj hy).symm
      subst ey
      refine ⟨_, rfl, wpAny_letOwnedTupleGo_enum (s := ⟨h', s.gens, s.drawn, tk + 1, s.os⟩) ho fun h2 he2 sb => ?_⟩
      have hT2 : h2.get? s.heap.objs.size = some ⟨.type "tuple", none, .seq #[.int i tk, y], #[]⟩ := (sb.2 _ (Nat.ne_of_gt el)).trans hT
      have nw : ObjOk X.prog X.w (upd H s.heap.objs.size (.tup [.int (i : Nat), x])) h2 s.heap.objs.size (.tup [.int (i : Nat), x]) := ⟨by show 2 ≤ sizeLine; decide, [.int i tk, y], .cons ⟨_, rfl⟩ (.cons rx .nil), ⟨_, hT2, rfl, _, rfl⟩⟩
      have J1 : Inv X pins σ (upd H s.heap.objs.size (.tup [.int (i : Nat), x])) ⟨h2, s.gens, s.drawn, tk + 1, s.os⟩ :=
        J.turnedNew (t' := tk + 1) (ch := [e, it]) (fun b ob hb q => (sb.2 b (fun z => hb (by simp [z]))).trans (hk b ob (fun z => hb (by simp [z])) (fun z => hb (by simp [z])) q)) hf (Nat.le_refl _) nw
      refine ⟨.ref s.heap.objs.size, _, J1, rfl, ⟨_, x, rfl, J.hok.fresh (Nat.le_refl _), rfl, fun l hl => by rw [inj_B J hl hq]; exact hx⟩, ⟨⟨y, ?_⟩, itB_keep hs'.1 fun o q => (sb.2 it (Ne.symm hne)).trans q, ?_⟩, fun b hb => ?_⟩
      · have z : ((i + 1 : Nat) : Int) = (i : Int) + 1 := by omega
        rw [z]; exact he2
      · have := (List.getElem?_eq_some_iff.mp hx).1
        omega
      · have hb' : b < s.heap.objs.size := by
          rcases List.mem_cons.mp hb with rfl | hb
          · exact el
          · rw [List.mem_singleton.mp hb]; exact il
        rw [upd_ne (Nat.ne_of_lt hb')]
        exact (hf b hb).1
  done := by
    intro X eP ew eK hc i pins s σ H E J hf st hg
    subst eP ew eK
    obtain ⟨⟨old, he⟩, hi, lm⟩ := st
    obtain ⟨xs, hq, hm, hend⟩ := hg
    obtain ⟨us, ru, pu⟩ := seq_B J hq
    have ms : us.toArray.size = m := by rw [List.size_toArray, ← ru.length, hm]
    have im : i = us.toArray.size := by omega
    subst im
    have hh : X.A.in1.handled = none := J.ok.hd hc
    obtain ⟨f0, f1, f2, f3, f4, f5⟩ := hf it (by simp)
    exact wpAny_pyNext_enum_endD (draws_B kd hh it a hia us.toArray) he ⟨hi, pu⟩ fun h' eb => ⟨rfl, J.turned (t' := s.toks) (fun b o hb q => eb b o hb q) f0 f1 f3 f4 f5⟩
  self := fun A i s Q E st h => wpAny_pyIter_enum st.1.choose_spec h
def iEnumX (K : PySem.W.Frag) (ta : TA) : TI := fun σ H R => ta σ H fun vs H1 => ∃ kd a xs, vs = [.ref a] ∧ SqB kd K H1 a xs ∧ R (IteB K kd a xs.length) H1
theorem pi_enumX {X : Cx} {e : Expr} {ta : TA} {p pos tpos : Pos} {elts : List Expr} {kk : Nat} (hg : Gl X "enumerate") (hm : X.mg "enumerate" = none) (ha : PA X [e] ta) (hs : starEach [e] X.env = [(false, eval e X.env)]) :
    PI X (.Tuple elts kk tpos) (.Call (.Name "enumerate" p) [e] [] pos) (iEnumX X.K ta) := by
  refine ⟨fun pins s σ H R J h => ?_⟩
  refine PyProof.Rows.Call_ (ld_blt J hg hm PyProof.Rows.boot_enumerate (PyProof.Rows.callWith_type1 (thn (ha.run pos pins s σ H _ J h) fun us s1 ⟨vs, H1, J1, r1, q1⟩ => ?_) hs rfl))
  obtain ⟨kd, a, xs, rfl, qx, q⟩ := q1
  obtain ⟨us1, m1, p1⟩ := seq_B J1 qx
  rcases r1 with _ | ⟨⟨⟩, _ | _⟩
  have la := isB_lt p1
  refine call_enumB (begins_B kd a us1.toArray) p1 fun h' he g1 _ hk => wpAny_pyIter_enum he ?_
  have J2 : Inv X pins σ H1 { s1 with heap := h' } := J1.kept (t' := s1.toks) hk
  refine ⟨s1.heap.objs.size + 1, [s1.heap.objs.size + 1, s1.heap.objs.size], _, _, H1, rfl, J2, turn_enumB (it := s1.heap.objs.size) (Nat.succ_ne_self _) (Nat.ne_of_gt (Nat.lt_succ_of_lt la)) (Nat.ne_of_lt la), ⟨⟨.none, he⟩, itO_at g1, Nat.zero_le _⟩, fun b hb => ?_, q⟩
  have hle : s1.heap.objs.size ≤ b := by
    rcases List.mem_cons.mp hb with rfl | hb
    · exact Nat.le_add_right _ _
    · rw [List.mem_singleton.mp hb]; exact Nat.le_refl _
  exact J1.fpOk hle (J1.hok.fresh hle)
def iEnumG (f : List C → Option D) : List C → Option (List D) := fun env => ((f env).bind sqD).bind fun x => some (enumD x.2)
theorem di_enumG {X : Cx} {G : GC} {e : Expr} {k : RK} {f : List C → Option D} {p pos tpos : Pos} {elts : List Expr} {kk : Nat} (hg : Gl X "enumerate") (hm : X.mg "enumerate" = none) (h : DE X G k e f) (hk : k.le .fz = true := by rfl) (hs : starEach [e] X.env = [(false, eval e X.env)] := by rfl) :
    DI X G (.Tuple elts kk tpos) (.Call (.Name "enumerate" p) [e] [] pos) (iEnumG f) := by
  obtain ⟨t, pt, o⟩ := (h.conv hk).ex
  refine ⟨_, pi_enumX hg hm (pa_cons pt pa_nil hs) hs, fun σ H F fp env items R Rl hf q => ?_⟩
  unfold iEnumG at hf
  cases z1 : f env with
  | none => rw [z1] at hf; cases hf
  | some d1 =>
    rw [z1, Option.bind_some] at hf
    cases y1 : sqD d1 with
    | none => rw [y1] at hf; cases hf
    | some x1 =>
      rw [y1, Option.bind_some] at hf
      cases hf
      obtain ⟨ka, xs⟩ := x1
      refine o σ H F fp env _ _ Rl z1 fun v H1 F1 E1 r => ?_
      obtain ⟨a, vs, rfl, s1, m1⟩ := sqD_df y1 r
      have n1 := DFAll_len m1
      refine ⟨ka, a, vs, rfl, sqB_mono E1.sub s1, q _ H1 F1 E1 (fun i H3 F3 t1 t2 => ⟨fun d hd => ?_, fun hl => ?_⟩) fun ln => ?_⟩
      · obtain ⟨c1, g1, rfl⟩ := enumD_get hd
        obtain ⟨v, hv, rv⟩ := DFAll_get m1 g1
        have ea := sqB_mono (t1.trans t2) s1
        refine ⟨⟨vs, v, ea, rfl, hv⟩, fun x H4 ⟨T, x1, ex, nT, eH, j1⟩ => ?_⟩
        have i1 := j1 vs ea; rw [hv] at i1; cases i1
        subst ex eH
        obtain ⟨E, r'⟩ := pair_new t2 nT (.int (i : Nat)) (DF_mono t1 _ _ rv)
        exact ⟨_, E, r'⟩
      · rw [enumD_len] at hl
        dsimp only at hl
        exact ⟨vs, sqB_mono (t1.trans t2) s1, rfl, by omega⟩
      · have z9 := lenB ln (sqB_mono E1.sub s1)
        rw [enumD_len]; dsimp only; omega
end DL
set_option Elab.async false
set_option linter.all false
set_option maxRecDepth 100000
set_option maxHeartbeats 4000000
set_option exponentiation.threshold 500
namespace DL
open PySem PySem.Spec L2

section
variable {env : List C} {f g : List C → Out} {fe fa fb : List C → Option D} {ft f1 f2 : List C → Option Bool} {fs : List C → Option (List D)} {fi : List C → Option (List D)} {i j n : Nat} {d x y : D} {ds xs ys : List D} {e : List C}
theorem ev_bs {α β : Type} {x : α} {f : α → Option β} : (some x).bind f = f x := (rfl)
theorem ev_bn {α β : Type} {f : α → Option β} : (none : Option α).bind f = none := (rfl)
theorem ev_ms {α β : Type} {x : α} {f : α → β} : (some x).map f = some (f x) := (rfl)
theorem ev_mn {α β : Type} {f : α → β} : (none : Option α).map f = none := (rfl)
theorem ev_g0 {α : Type} {a : α} {l : List α} : (a :: l)[0]? = some a := (rfl)
theorem ev_gs {α : Type} {a : α} {l : List α} {n : Nat} : (a :: l)[n + 1]? = l[n]? := (rfl)
theorem ev_s0 {α : Type} {a b : α} {l : List α} : (a :: l).set 0 b = b :: l := (rfl)
theorem ev_ss {α : Type} {a b : α} {l : List α} {n : Nat} : (a :: l).set (n + 1) b = a :: l.set n b := (rfl)
theorem ev_bn1 : (!true) = false := (rfl)
theorem ev_bn2 : (!false) = true := (rfl)
def oSeq (o : Out) (g : List C → Out) : Out := match o with | .nx e => g e | o => o
theorem ev_seq : sSeq f g env = oSeq (f env) g := by unfold sSeq oSeq; cases f env <;> rfl
theorem ev_seq_nx : oSeq (.nx e) g = g e := (rfl)
theorem ev_seq_rt : oSeq (.rt d) g = .rt d := (rfl)
theorem ev_seq_bk : oSeq (.bk e) g = .bk e := (rfl)
theorem ev_seq_ct : oSeq (.ct e) g = .ct e := (rfl)
theorem ev_nil : sNil env = .nx env := (rfl)
theorem ev_brk : sBrk env = .bk env := (rfl)
theorem ev_cnt : sCnt env = .ct env := (rfl)
def oIf (c : Option Bool) (f g : List C → Out) (env : List C) : Out := match c with | some true => f env | some false => g env | none => .err
theorem ev_if : sIf ft f g env = oIf (ft env) f g env := (rfl)
theorem ev_if_t : oIf (some true) f g env = f env := (rfl)
theorem ev_if_f : oIf (some false) f g env = g env := (rfl)
def oSet (o : Option D) (i : Nat) (env : List C) : Out := match o with | some d => .nx (env.set i (.val d)) | none => .err
theorem ev_set : sSet i fe env = oSet (fe env) i env := (rfl)
theorem ev_oset : oSet (some d) i env = .nx (env.set i (.val d)) := (rfl)
def oSetL (o : Option D) (i : Nat) (env : List C) : Out := match o with | some (.list ds) => .nx (env.set i (.lst ds)) | _ => .err
theorem ev_setL : sSetL i fe env = oSetL (fe env) i env := (rfl)
theorem ev_osetL : oSetL (some (.list ds)) i env = .nx (env.set i (.lst ds)) := (rfl)
def oDrop (o : Option D) (env : List C) : Out := match o with | some _ => .nx env | none => .err
theorem ev_drop : sDrop fe env = oDrop (fe env) env := (rfl)
theorem ev_odrop : oDrop (some d) env = .nx env := (rfl)
def oRet (o : Option D) : Out := match o with | some d => .rt d | none => .err
theorem ev_ret : sRet fe env = oRet (fe env) := (rfl)
theorem ev_oret : oRet (some d) = .rt d := (rfl)
theorem ev_retN : sRetN env = .rt .none := (rfl)
def oRetL (o : Option C) : Out := match o with | some (.lst ds) => .rt (.list ds) | _ => .err
theorem ev_retL : sRetL i env = oRetL env[i]? := (rfl)
theorem ev_oretL : oRetL (some (.lst ds)) = .rt (.list ds) := (rfl)
def oRun (o : Out) : Option D := match o with | .rt d => some d | _ => none
def oRunN (o : Out) : Option D := match o with | .rt d => some d | .nx _ => some .none | _ => none
theorem ev_run {ks : List RK} {b : List C → Out} : runP ks n b ds = oRun (b (cells ks ds ++ List.replicate (n - ds.length) .und)) := (rfl)
theorem ev_orun : oRun (.rt d) = some d := (rfl)
theorem ev_orunN : oRunN (.rt d) = some d := (rfl)
theorem ev_orunN_nx : oRunN (.nx e) = some .none := (rfl)
def oFz (c : Option C) (i : Nat) (g : List C → Out) (env : List C) : Out := match c with | some (.lst ds) => g (env.set i (.val (.list ds))) | some (.val _) => g env | _ => .err
theorem ev_fz : sFz i g env = oFz env[i]? i g env := (rfl)
theorem ev_fz_l : oFz (some (.lst ds)) i g env = g (env.set i (.val (.list ds))) := (rfl)
theorem ev_fz_v : oFz (some (.val d)) i g env = g env := (rfl)
def oApp (c : Option C) (o : Option D) (i : Nat) (env : List C) : Out := match c with
  | some (.lst ds) => (match o with | some d => if ds.length < 16000000 then .nx (env.set i (.lst (ds ++ [d]))) else .err | none => .err)
  | _ => .err
theorem ev_app : sApp i fe env = oApp env[i]? (fe env) i env := (rfl)
theorem ev_app_s (h : (ds.length : Int) < 16000000) : oApp (some (.lst ds)) (some d) i env = .nx (env.set i (.lst (ds ++ [d]))) := if_pos (by omega)
def oClear (c : Option C) (i : Nat) (env : List C) : Out := match c with | some (.lst _) => .nx (env.set i (.lst [])) | _ => .err
theorem ev_clear : sClear i env = oClear env[i]? i env := (rfl)
theorem ev_clear_s : oClear (some (.lst ds)) i env = .nx (env.set i (.lst [])) := (rfl)
def oNx (o : Option (List C)) : Out := match o with | some e => .nx e | none => .err
theorem ev_oNx : oNx (some e) = .nx e := (rfl)
def oAsg (o : Option D) (h : D → List C → Option (List C)) (env : List C) : Out := match o with | some d => oNx (h d env) | none => .err
theorem ev_asg {h : D → List C → Option (List C)} : sAsg h fe env = oAsg (fe env) h env := by unfold sAsg oAsg oNx; cases fe env <;> rfl
theorem ev_asg_s {h : D → List C → Option (List C)} : oAsg (some d) h env = oNx (h d env) := (rfl)
def oPar (o : Option (List D)) (i j : Nat) (env : List C) : Out := match o with | some [x, y] => .nx ((env.set i (.val x)).set j (.val y)) | _ => .err
theorem ev_par : sPar i j fs env = oPar (fs env) i j env := (rfl)
theorem ev_par_s : oPar (some [x, y]) i j env = .nx ((env.set i (.val x)).set j (.val y)) := (rfl)
def oAug (c : Option C) (o : Option D) (h : D → D → Option D) (i : Nat) (env : List C) : Out := match c with
  | some (.val x) => oSet (o.bind fun y => h x y) i env
  | _ => .err
theorem ev_aug {h : D → D → Option D} : sAug i h fe env = oAug env[i]? (fe env) h i env := by
  unfold sAug oAug
  cases env[i]? with
  | none => rfl
  | some c =>
    cases c <;> try rfl
    rename_i x
    cases fe env with
    | none => rfl
    | some y =>
      show (match h x y with | some z => Out.nx _ | none => Out.err) = oSet (h x y) i env
      cases h x y <;> rfl
theorem ev_aug_s {h : D → D → Option D} : oAug (some (.val x)) (some y) h i env = oSet (h x y) i env := (rfl)
def oSetIx (c : Option C) (oi o : Option D) (i : Nat) (env : List C) : Out := match c with
  | some (.lst ds) => (match o with
    | some d => (match oi with
      | some (.int j) => oSetL ((setAt ds j d).map .list) i env
      | _ => .err)
    | none => .err)
  | _ => .err
theorem ev_setIx {fj : List C → Option D} : sSetIx i fj fe env = oSetIx env[i]? (fj env) (fe env) i env := by
  unfold sSetIx oSetIx
  cases env[i]? with
  | none => rfl
  | some c =>
    cases c <;> try rfl
    rename_i ds
    cases fe env with
    | none => rfl
    | some d =>
      cases fj env with
      | none => rfl
      | some k =>
        cases k <;> try rfl
        rename_i k
        dsimp only
        cases setAt ds k d <;> rfl
theorem ev_setIx_s {k : Int} : oSetIx (some (.lst ds)) (some (.int k)) (some d) i env = oSetL ((setAt ds k d).map .list) i env := (rfl)
def oAugIx (c : Option C) (oi o : Option D) (h : D → D → Option D) (i : Nat) (env : List C) : Out := match c with
  | some (.lst ds) => (match oi with
    | some (.int j) => (match atI ds j with
      | some x => (match o with
        | some y => (match h x y with
          | some z => (match setAt ds j z with | some ds' => .nx (env.set i (.lst ds')) | none => .err)
          | none => .err)
        | none => .err)
      | none => .err)
    | _ => .err)
  | _ => .err
theorem ev_augIx {h : D → D → Option D} {fj : List C → Option D} : sAugIx i h fj fe env = oAugIx env[i]? (fj env) (fe env) h i env := by
  unfold sAugIx oAugIx
  rfl
theorem ev_dictN : sDictN i env = .nx (env.set i (.dN [])) := (rfl)
def oNotInN (c : Option C) (o : Option D) : Option Bool := match c with
  | some (.dN ks) => (match o with | some d => if okK d = true then some (!hasK ks d) else none | none => none)
  | _ => none
theorem ev_notInN : tNotInN fe i env = oNotInN env[i]? (fe env) := (rfl)
theorem ev_oNotInN (h : okK d = true) : oNotInN (some (.dN ds)) (some d) = some (!hasK ds d) := if_pos h
def oPutN (c : Option C) (o : Option D) (i : Nat) (env : List C) : Out := match c with
  | some (.dN ks) => (match o with | some d => if okK d = true ∧ hasK ks d = false ∧ ks.length < 16000000 then .nx (env.set i (.dN (ks ++ [d]))) else .err | none => .err)
  | _ => .err
theorem ev_putN : sPutN i fe env = oPutN env[i]? (fe env) i env := (rfl)
theorem ev_oPutN (h1 : okK d = true) (h2 : hasK ds d = false) (h3 : (ds.length : Int) < 16000000) : oPutN (some (.dN ds)) (some d) i env = .nx (env.set i (.dN (ds ++ [d]))) := if_pos ⟨h1, h2, by omega⟩
def oFor (o : Option (List D)) (h : D → List C → Option (List C)) (b : List C → Out) (env : List C) : Out := match o with | some items => forF h b items env | none => .err
theorem ev_for {h : D → List C → Option (List C)} {b : List C → Out} : sFor fi h b env = oFor (fi env) h b env := (rfl)
theorem ev_ofor {h : D → List C → Option (List C)} {b : List C → Out} : oFor (some ds) h b env = forF h b ds env := (rfl)
def rdV (c : Option C) : Option D := match c with | some (.val d) => some d | _ => none
def rdL (c : Option C) : Option D := match c with | some (.val d) => some d | some (.lst ds) => some (.list ds) | _ => none
def rdB (c : Option C) : Option D := match c with | some (.val d) => some d | some (.brw d) => some d | _ => none
theorem ev_V : eV i env = rdV env[i]? := (rfl)
theorem ev_L : eL i env = rdL env[i]? := (rfl)
theorem ev_B : eB i env = rdB env[i]? := (rfl)
theorem ev_rdV : rdV (some (.val d)) = some d := (rfl)
theorem ev_rdLv : rdL (some (.val d)) = some d := (rfl)
theorem ev_rdLl : rdL (some (.lst ds)) = some (.list ds) := (rfl)
theorem ev_rdBv : rdB (some (.val d)) = some d := (rfl)
theorem ev_rdBb : rdB (some (.brw d)) = some d := (rfl)
theorem ev_C : eC d env = some d := (rfl)
def o2 (g : D → D → Option D) (a b : Option D) : Option D := match a, b with | some x, some y => g x y | _, _ => none
theorem ev_e2 {g : D → D → Option D} : e2 g fa fb env = o2 g (fa env) (fb env) := by unfold e2 o2; cases fa env <;> cases fb env <;> rfl
theorem ev_o2 {g : D → D → Option D} : o2 g (some x) (some y) = g x y := (rfl)
theorem ev_e1 {g : List D → Option D} : e1 g fs env = (fs env).bind g := (rfl)
def o3 (g : D → Option Int → Option Int → Option D) (a : Option D) (l u : Option (Option Int)) : Option D := match a, l, u with | some x, some l, some u => g x l u | _, _, _ => none
theorem ev_e3 {g : D → Option Int → Option Int → Option D} {fl fu : List C → Option (Option Int)} : e3 g fa fl fu env = o3 g (fa env) (fl env) (fu env) := by
  unfold e3 o3; cases fa env <;> cases fl env <;> cases fu env <;> rfl
theorem ev_o3 {g : D → Option Int → Option Int → Option D} {l u : Option Int} : o3 g (some x) (some l) (some u) = g x l u := (rfl)
theorem ev_pN : pN env = some none := (rfl)
def oPS (o : Option D) : Option (Option Int) := match o with | some (.int i) => some (some i) | _ => none
theorem ev_pS : pS fe env = oPS (fe env) := (rfl)
theorem ev_oPS {k : Int} : oPS (some (.int k)) = some (some k) := (rfl)
def oCons (o : Option D) (os : Option (List D)) : Option (List D) := match o, os with | some d, some ds => some (d :: ds) | _, _ => none
theorem ev_aNil : aNil env = some [] := (rfl)
theorem ev_aCons : aCons fe fs env = oCons (fe env) (fs env) := by unfold aCons oCons; cases fe env <;> cases fs env <;> rfl
theorem ev_oCons : oCons (some d) (some ds) = some (d :: ds) := (rfl)
theorem ev_tup : eTup fs env = (fs env).map .tuple := (rfl)
def oLst (o : Option (List D)) : Option D := o.map .list
theorem ev_lst : eLst fs env = oLst (fs env) := (rfl)
theorem ev_oLst : oLst (some ds) = some (.list ds) := (rfl)
def oScal (o : Option D) : Option D := match o with | some d => if scalD d then some d else none | none => none
theorem ev_scal : eScal fe env = oScal (fe env) := (rfl)
theorem ev_scal_i {k : Int} : oScal (some (.int k)) = some (.int k) := (rfl)
theorem ev_scal_s {k : Str} : oScal (some (.str k)) = some (.str k) := (rfl)
theorem ev_scal_b {k : Bool} : oScal (some (.bool k)) = some (.bool k) := (rfl)
def oNeg (o : Option D) : Option D := match o with | some (.int i) => some (.int (-i)) | _ => none
theorem ev_neg : eNeg fe env = oNeg (fe env) := (rfl)
theorem ev_oNeg {k : Int} : oNeg (some (.int k)) = some (.int (-k)) := (rfl)
theorem ev_tB : tB fe env = asB (fe env) := (rfl)
theorem ev_asB {b : Bool} : asB (some (.bool b)) = some b := (rfl)
theorem ev_tNot : tNotF ft env = (ft env).map (!·) := (rfl)
def oAnd (c : Option Bool) (g : List C → Option Bool) (env : List C) : Option Bool := match c with | some true => g env | some false => some false | none => none
def oOr (c : Option Bool) (g : List C → Option Bool) (env : List C) : Option Bool := match c with | some true => some true | some false => g env | none => none
theorem ev_tAnd : tAndF f1 f2 env = oAnd (f1 env) f2 env := by
  unfold tAndF oAnd
  cases f1 env with
  | none => rfl
  | some b => cases b <;> rfl
theorem ev_tOr : tOrF f1 f2 env = oOr (f1 env) f2 env := by
  unfold tOrF oOr
  cases f1 env with
  | none => rfl
  | some b => cases b <;> rfl
theorem ev_oAnd_t : oAnd (some true) f1 env = f1 env := (rfl)
theorem ev_oAnd_f : oAnd (some false) f1 env = some false := (rfl)
theorem ev_oOr_t : oOr (some true) f1 env = some true := (rfl)
theorem ev_oOr_f : oOr (some false) f1 env = f1 env := (rfl)
def oAndD (c : Option Bool) (g : List C → Option D) (env : List C) : Option D := match c with | some true => g env | some false => some (.bool false) | none => none
def oOrD (c : Option Bool) (g : List C → Option D) (env : List C) : Option D := match c with | some true => some (.bool true) | some false => g env | none => none
theorem ev_eAnd : eAnd fa fb env = oAndD (asB (fa env)) fb env := by
  unfold eAnd oAndD
  cases asB (fa env) with
  | none => rfl
  | some b => cases b <;> rfl
theorem ev_eOr : eOr fa fb env = oOrD (asB (fa env)) fb env := by
  unfold eOr oOrD
  cases asB (fa env) with
  | none => rfl
  | some b => cases b <;> rfl
theorem ev_oAndD_t : oAndD (some true) fb env = fb env := (rfl)
theorem ev_oAndD_f : oAndD (some false) fb env = some (.bool false) := (rfl)
theorem ev_oOrD_t : oOrD (some true) fb env = some (.bool true) := (rfl)
theorem ev_oOrD_f : oOrD (some false) fb env = fb env := (rfl)
def oNot (o : Option Bool) : Option D := o.map fun c => .bool (!c)
theorem ev_eNot : eNot fe env = oNot (asB (fe env)) := (rfl)
theorem ev_oNot {b : Bool} : oNot (some b) = some (.bool (!b)) := (rfl)
def oIsi (T : String) (o : Option D) : Option D := o.bind fun d => (kitB (tyD d) T).map .bool
theorem ev_isi {T : String} : eIsi T fe env = oIsi T (fe env) := (rfl)
theorem ev_isi_ii {k : Int} : oIsi "int" (some (.int k)) = some (.bool true) := by
  show (kitB "int" "int").map PyData.bool = _
  rw [show kitB "int" "int" = some true by decide +kernel]; rfl
theorem ev_isi_ib {k : Int} : oIsi "bool" (some (.int k)) = some (.bool false) := by
  show (kitB "int" "bool").map PyData.bool = _
  rw [show kitB "int" "bool" = some false by decide +kernel]; rfl
theorem ev_isi_il {k : Int} : oIsi "list" (some (.int k)) = some (.bool false) := by
  show (kitB "int" "list").map PyData.bool = _
  rw [show kitB "int" "list" = some false by decide +kernel]; rfl
theorem ev_isi_it {k : Int} : oIsi "tuple" (some (.int k)) = some (.bool false) := by
  show (kitB "int" "tuple").map PyData.bool = _
  rw [show kitB "int" "tuple" = some false by decide +kernel]; rfl
theorem ev_isi_is {k : Int} : oIsi "str" (some (.int k)) = some (.bool false) := by
  show (kitB "int" "str").map PyData.bool = _
  rw [show kitB "int" "str" = some false by decide +kernel]; rfl
theorem ev_isi_ll : oIsi "list" (some (.list ds)) = some (.bool true) := by
  show (kitB "list" "list").map PyData.bool = _
  rw [show kitB "list" "list" = some true by decide +kernel]; rfl
theorem ev_isi_lt : oIsi "tuple" (some (.list ds)) = some (.bool false) := by
  show (kitB "list" "tuple").map PyData.bool = _
  rw [show kitB "list" "tuple" = some false by decide +kernel]; rfl
theorem ev_isi_li : oIsi "int" (some (.list ds)) = some (.bool false) := by
  show (kitB "list" "int").map PyData.bool = _
  rw [show kitB "list" "int" = some false by decide +kernel]; rfl
theorem ev_isi_lb : oIsi "bool" (some (.list ds)) = some (.bool false) := by
  show (kitB "list" "bool").map PyData.bool = _
  rw [show kitB "list" "bool" = some false by decide +kernel]; rfl
theorem ev_isi_tt : oIsi "tuple" (some (.tuple ds)) = some (.bool true) := by
  show (kitB "tuple" "tuple").map PyData.bool = _
  rw [show kitB "tuple" "tuple" = some true by decide +kernel]; rfl
theorem ev_isi_tl : oIsi "list" (some (.tuple ds)) = some (.bool false) := by
  show (kitB "tuple" "list").map PyData.bool = _
  rw [show kitB "tuple" "list" = some false by decide +kernel]; rfl
theorem ev_isi_ss {k : Str} : oIsi "str" (some (.str k)) = some (.bool true) := by
  show (kitB "str" "str").map PyData.bool = _
  rw [show kitB "str" "str" = some true by decide +kernel]; rfl
theorem ev_isi_bb {k : Bool} : oIsi "bool" (some (.bool k)) = some (.bool true) := by
  show (kitB "bool" "bool").map PyData.bool = _
  rw [show kitB "bool" "bool" = some true by decide +kernel]; rfl
theorem ev_isi_bi {k : Bool} : oIsi "int" (some (.bool k)) = some (.bool true) := by
  show (kitB "bool" "int").map PyData.bool = _
  rw [show kitB "bool" "int" = some true by decide +kernel]; rfl
def oIsN (o : Option D) : Option D := o.map fun d => .bool (isNoD d)
def oNotN (o : Option D) : Option D := o.map fun d => .bool (!isNoD d)
theorem ev_isN : eIsN fe env = oIsN (fe env) := (rfl)
theorem ev_notN : eNotN fe env = oNotN (fe env) := (rfl)
theorem ev_oIsN_n : oIsN (some .none) = some (.bool true) := (rfl)
theorem ev_oIsN_i {k : Int} : oIsN (some (.int k)) = some (.bool false) := (rfl)
theorem ev_oIsN_l : oIsN (some (.list ds)) = some (.bool false) := (rfl)
theorem ev_oIsN_t : oIsN (some (.tuple ds)) = some (.bool false) := (rfl)
theorem ev_oNotN_n : oNotN (some .none) = some (.bool false) := (rfl)
theorem ev_oNotN_i {k : Int} : oNotN (some (.int k)) = some (.bool true) := (rfl)
theorem ev_oNotN_l : oNotN (some (.list ds)) = some (.bool true) := (rfl)
theorem ev_oNotN_t : oNotN (some (.tuple ds)) = some (.bool true) := (rfl)
theorem ev_rev : eRev fe env = (fe env).bind gRev := (rfl)
theorem ev_gRev : gRev (.list xs) = some (.list xs.reverse) := (rfl)
def oAny (o : Option D) : Option (List D) := match o with
  | some (.list ds) => some ds
  | some (.tuple ds) => some ds
  | some (.str z) => if z.length ≤ sizeLine then some (z.cps.toList.map fun c => .str ⟨#[c]⟩) else none
  | _ => none
theorem ev_iAny : iAny fe env = oAny (fe env) := (rfl)
theorem ev_oAny_l : oAny (some (.list ds)) = some ds := (rfl)
theorem ev_oAny_t : oAny (some (.tuple ds)) = some ds := (rfl)
def oSeqB (o : Option D) : Option (List D) := match o with | some (.list ds) => if ds.all scalD = true then some ds else none | _ => none
theorem ev_iSeqB : iSeqB fe env = oSeqB (fe env) := (rfl)
theorem scal_ints : ∀ ns : List Int, (ns.map PyData.int).all scalD = true
  | [] => rfl
  | _ :: ns => scal_ints ns
theorem ev_oSeqB {ns : List Int} : oSeqB (some (.list (ns.map .int))) = some (ns.map .int) := if_pos (scal_ints ns)
def oEnum (o : Option D) : Option (List D) := match o with | some (.list ds) => some (enumD ds) | _ => none
theorem ev_iEnum : iEnumF fe env = oEnum (fe env) := (rfl)
theorem ev_oEnum : oEnum (some (.list ds)) = some (enumD ds) := (rfl)
def oZip (a b : Option D) : Option (List D) := (a.bind sqD).bind fun x => (b.bind sqD).bind fun y => some (zipD x.2 y.2)
theorem ev_iZip : iZipG fa fb env = oZip (fa env) (fb env) := (rfl)
theorem ev_oZip_ll : oZip (some (.list xs)) (some (.list ys)) = some (zipD xs ys) := (rfl)
theorem ev_oZip_tt : oZip (some (.tuple xs)) (some (.tuple ys)) = some (zipD xs ys) := (rfl)
theorem ev_oZip_lt : oZip (some (.list xs)) (some (.tuple ys)) = some (zipD xs ys) := (rfl)
theorem ev_oZip_tl : oZip (some (.tuple xs)) (some (.list ys)) = some (zipD xs ys) := (rfl)
def oRng1 (o : Option D) : Option (List D) := match o with | some (.int j) => if -(2 ^ 62) ≤ j ∧ j ≤ 16777216 then some (rng 0 j.toNat) else none | _ => none
theorem ev_iRng1 : iRng1F fe env = oRng1 (fe env) := (rfl)
theorem ev_rng1_s {k : Int} (h1 : -(2 ^ 62) ≤ k) (h2 : k ≤ 16777216) : oRng1 (some (.int k)) = some (rng 0 k.toNat) := if_pos ⟨h1, h2⟩
def oRng2 (a b : Option D) : Option (List D) := match a, b with
  | some (.int i), some (.int j) => if j - i ≤ 16777216 then some (rng i (j - i).toNat) else none
  | _, _ => none
theorem ev_iRng2 : iRng2A fa fb env = oRng2 (fa env) (fb env) := by
  unfold iRng2A oRng2
  cases fa env with
  | none => rfl
  | some a => cases a <;> (cases fb env with
    | none => rfl
    | some b => cases b <;> rfl)
theorem ev_rng2_s {k l : Int} (h5 : l - k ≤ 16777216) : oRng2 (some (.int k)) (some (.int l)) = some (rng k (l - k).toNat) := if_pos h5
theorem ev_tgN : tgN i d env = some (env.set i (.val d)) := (rfl)
theorem ev_tgNil : tgNil [] env = some env := (rfl)
theorem ev_tgCons {h : D → List C → Option (List C)} {k : List D → List C → Option (List C)} : tgCons h k (d :: ds) env = (h d env).bind (k ds) := (rfl)
theorem ev_tgT {k : List D → List C → Option (List C)} : tgT k (.tuple ds) env = k ds env := (rfl)
theorem ev_wipe_nil : wipeE env [] = env := (rfl)
theorem ev_wipe_cons {vs : List Nat} : wipeE env (i :: vs) = (wipeE env vs).set i .und := (rfl)
def oLc (o : Option (List D)) (h : D → List C → Option (List C)) (tt : List C → Option Bool) (fe : List C → Option D) (env : List C) : Option D := match o with | some items => (lcF h tt fe env items).map .list | none => none
theorem ev_lc {vs : List Nat} {h : D → List C → Option (List C)} : eLc vs fi h ft fe env = oLc (fi env) h ft fe (wipeE env vs) := by
  unfold eLc oLc; cases fi env <;> rfl
theorem ev_oLc {h : D → List C → Option (List C)} : oLc (some ds) h ft fe env = (lcF h ft fe env ds).map .list := (rfl)
end

section
variable {i j k : Int} {s t : Str} {xs ys : List D} {b c : Bool}
def Md (i : Int) : Prop := i.natAbs < 2 ^ 400000
theorem Md.of_lt (h1 : -(2 ^ 200) < i) (h2 : i < 2 ^ 200) : Md i := by
  have h3 : i.natAbs < 2 ^ 200 := by omega
  exact Nat.lt_of_lt_of_le h3 (Nat.pow_le_pow_right (by decide) (by decide))
theorem log2_lt {n k : Nat} (hk : 0 < k) (h : n < 2 ^ k) : n.log2 < k := by
  by_cases h0 : n = 0
  · subst h0; exact hk
  · exact (Nat.log2_lt h0).mpr h
theorem ev_add : gAdd (.int i) (.int j) = some (.int (i + j)) := (rfl)
theorem ev_addIS : gAddIS (.int i) (.int j) = some (.int (i + j)) := (rfl)
theorem ev_add_ll (h : (xs.length : Int) + ys.length ≤ 16777216) : gAdd (.list xs) (.list ys) = some (.list (xs ++ ys)) := by
  have : gAddL (.list xs) (.list ys) = some (.list (xs ++ ys)) := if_pos (by rw [sizeLine_eq]; omega)
  unfold gAdd gOr
  rw [this]; rfl
theorem ev_add_tt (h : (xs.length : Int) + ys.length ≤ 16777216) : gAdd (.tuple xs) (.tuple ys) = some (.tuple (xs ++ ys)) := by
  have : gAddT (.tuple xs) (.tuple ys) = some (.tuple (xs ++ ys)) := if_pos (by rw [sizeLine_eq]; omega)
  unfold gAdd gOr
  rw [this]; rfl
theorem ev_addL (h : (xs.length : Int) + ys.length ≤ 16777216) : gAddL (.list xs) (.list ys) = some (.list (xs ++ ys)) := if_pos (by rw [sizeLine_eq]; omega)
theorem flat_rep {α : Type} (x : α) : ∀ n : Nat, (List.replicate n [x]).flatten = List.replicate n x
  | 0 => rfl
  | n + 1 => by rw [List.replicate_succ, List.replicate_succ, List.flatten_cons, flat_rep x n]; rfl
theorem mulL_if {k : Int} : gMulL (.list xs) (.int k) = if k < 2 ^ 63 ∧ -(2 ^ 63) ≤ k ∧ xs.length * k.toNat ≤ sizeLine then some (.list (List.replicate k.toNat xs).flatten) else none := rfl
theorem gOr_s {g1 g2 : D → D → Option D} {x y d : D} (h : g1 x y = some d) : gOr g1 g2 x y = some d := by unfold gOr; rw [h]
theorem gOr_n {g1 g2 : D → D → Option D} {x y d : D} (h : g1 x y = none) (h2 : g2 x y = some d) : gOr g1 g2 x y = some d := by unfold gOr; rw [h]; exact h2
theorem mulI_l {y : D} : gMulI (.list xs) y = none := by cases y <;> rfl
theorem mulS_l {y : D} : gMulS (.list xs) y = none := by cases y <;> rfl
theorem ev_repL {x : D} {n : Nat} (h : ((n : Nat) : Int) ≤ 1000000) : gMulL (.list [x]) (.int (n : Nat)) = some (.list (List.replicate n x)) := by
  have c : ((n : Nat) : Int) < 2 ^ 63 ∧ -(2 ^ 63) ≤ ((n : Nat) : Int) ∧ [x].length * ((n : Nat) : Int).toNat ≤ sizeLine := ⟨by omega, by omega, by rw [sizeLine_eq, Int.toNat_natCast]; show 1 * n ≤ _; omega⟩
  rw [mulL_if, if_pos c, Int.toNat_natCast, flat_rep]
theorem ev_rep {x : D} {n : Nat} (h : ((n : Nat) : Int) ≤ 1000000) : gMul (.list [x]) (.int (n : Nat)) = some (.list (List.replicate n x)) := by
  have e := ev_repL (x := x) h
  show gOr gMulI (gOr gMulS (gOr gMulL gMulT)) (.list [x]) (.int (n : Nat)) = _
  exact gOr_n mulI_l (gOr_n mulS_l (gOr_s e))
theorem ev_sub : gSub (.int i) (.int j) = some (.int (i - j)) := (rfl)
theorem ev_mul (h1 : Md i) (h2 : Md j) : gMul (.int i) (.int j) = some (.int (i * j)) := by
  have a1 := log2_lt (by decide) h1
  have a2 := log2_lt (by decide) h2
  have : gMulI (.int i) (.int j) = some (.int (i * j)) := if_pos (by omega)
  unfold gMul gOr
  rw [this]
theorem ev_mod (h : 0 < j) : gMod (.int i) (.int j) = some (.int (i % j)) := if_pos h
theorem ev_div (h : 0 < j) (h2 : j < 2 ^ 250) : gDiv (.int i) (.int j) = some (.int (i / j)) := if_pos ⟨h, by
  have : j.natAbs < 2 ^ 250 := by omega
  have := log2_lt (by decide) this
  omega⟩
theorem ev_modA (h : 0 < j) : gModA (.int i) (.int j) = some (.int (i % j)) := by
  show (if j ≠ 0 then some (PyData.int (i.fmod j)) else none) = _
  rw [if_pos (by omega), Int.fmod_eq_emod_of_nonneg _ (by omega)]
theorem ev_divA (h : 0 < j) (h2 : j < 2 ^ 250) : gDivA (.int i) (.int j) = some (.int (i / j)) := by
  have a : j.natAbs < 2 ^ 250 := by omega
  have b := log2_lt (by decide) a
  show (if j ≠ 0 ∧ j.natAbs.log2 < 9000 then some (PyData.int (i.fdiv j)) else none) = _
  rw [if_pos ⟨by omega, by omega⟩, Int.fdiv_eq_ediv_of_nonneg _ (by omega)]
theorem ev_pow (h0 : 0 ≤ j) (h1 : j ≤ 1000000) (h2 : i.natAbs < 2 ^ 64) : gPow (.int i) (.int j) = some (.int (i ^ j.toNat)) := if_pos ⟨h0, h1, h2⟩
theorem ev_lt : gLt (.int i) (.int j) = some (.bool (decide (i < j))) := (rfl)
theorem ev_le : gLe (.int i) (.int j) = some (.bool (decide (i ≤ j))) := (rfl)
theorem ev_gt : gGt (.int i) (.int j) = some (.bool (decide (j < i))) := (rfl)
theorem ev_ge : gGe (.int i) (.int j) = some (.bool (decide (j ≤ i))) := (rfl)
theorem ev_eq : gEq (.int i) (.int j) = some (.bool (decide (i = j))) := (rfl)
theorem ev_ne : gNe (.int i) (.int j) = some (.bool (!decide (i = j))) := (rfl)
theorem ev_eqs : gEq (.str s) (.str t) = some (.bool (decide (s = t))) := (rfl)
theorem ev_nes : gNe (.str s) (.str t) = some (.bool (!decide (s = t))) := (rfl)
theorem ev_eqb : gEq (.bool b) (.bool c) = some (.bool (decide (b = c))) := (rfl)
theorem ev_neb : gNe (.bool b) (.bool c) = some (.bool (!decide (b = c))) := (rfl)
theorem ev_len : gLen [.list xs] = some (.int xs.length) := (rfl)
theorem ev_lenT : gLen [.tuple xs] = some (.int xs.length) := (rfl)
theorem ev_list : gList [.list xs] = some (.list xs) := (rfl)
theorem ev_listT : gList [.tuple xs] = some (.list xs) := (rfl)
theorem ev_tuple : gTuple [.list xs] = some (.tuple xs) := (rfl)
theorem ev_tupleT : gTuple [.tuple xs] = some (.tuple xs) := (rfl)
theorem ev_int : gInt [.int i] = some (.int i) := (rfl)
theorem ev_intb : gInt [.bool b] = some (.int (if b then 1 else 0)) := (rfl)
theorem ev_sum {ns : List Int} : gSum [.list (ns.map .int)] = some (.int ns.sum) := by
  unfold gSum; simp only [allInt_map, Option.map_some]
theorem ev_sum0 : gSum [.list []] = some (.int 0) := (rfl)
theorem ev_max2 : gMax2 [.int i, .int j] = some (.int (if j > i then j else i)) := (rfl)
theorem ev_min2 : gMin2 [.int i, .int j] = some (.int (if j < i then j else i)) := (rfl)
theorem ev_sl {l u : Option Int} : gSl (.list xs) l u = some (.list (cutD xs l u)) := (rfl)
theorem ev_slT {l u : Option Int} : gSl (.tuple xs) l u = some (.tuple (cutD xs l u)) := (rfl)
theorem ev_slL {l u : Option Int} : gSlL (.list xs) l u = some (.list (cutD xs l u)) := (rfl)
theorem ev_slB {ns : List Int} {l u : Option Int} : gSlB (.list (ns.map .int)) l u = some (.list ((cutD ns l u).map .int)) := by
  unfold gSlB; simp only [allInt_map, Option.map_some]
theorem ev_ix : gIxS (.list xs) (.int i) = atI xs i := (rfl)
theorem ev_ixT : gIxS (.tuple xs) (.int i) = atI xs i := (rfl)
theorem ev_ixB : gIxB (.list xs) (.int i) = atI xs i := (rfl)
theorem ev_ixBT : gIxB (.tuple xs) (.int i) = atI xs i := (rfl)
theorem ixN_pos {n : Nat} (h0 : 0 ≤ i) (h1 : i < n) : ixN n i = some i.toNat := by
  unfold ixN
  rw [if_pos h0, if_pos (by omega)]
theorem ev_at (h0 : 0 ≤ i) (h1 : i < xs.length) : atI xs i = xs[i.toNat]? := by
  unfold atI
  rw [ixN_pos h0 h1]; rfl
theorem ev_atm {α : Type} {f : α → D} {l : List α} (h0 : 0 ≤ i) (h1 : i < l.length) : atI (l.map f) i = (l[i.toNat]?).map f := by
  rw [ev_at h0 (by rw [List.length_map]; exact h1), List.getElem?_map]
theorem ev_setAt {d : D} (h0 : 0 ≤ i) (h1 : i < xs.length) : setAt xs i d = some (xs.set i.toNat d) := by
  unfold setAt
  rw [ixN_pos h0 h1]; rfl
theorem cut_take {α : Type} {l : List α} (h : 0 ≤ i) : cutD l none (some i) = l.take i.toNat := by
  unfold cutD
  have e0 : HT.sIx l.length 0 none = 0 := rfl
  rw [e0, List.drop_zero, Nat.sub_zero]
  unfold HT.sIx
  have : ¬ i < 0 := by omega
  simp only [this, if_false]
  by_cases hl : i.toNat ≤ l.length
  · first
      | rw [Nat.min_eq_left hl]
      | (congr 1; omega)
  · rw [List.take_of_length_le (by omega), List.take_of_length_le (by omega)]
end

def Sz (k : Nat) (i : Int) : Prop := i.natAbs < 2 ^ k
section
variable {a b k : Nat} {i j : Int}
theorem Sz.mono (h : Sz a i) (hab : a ≤ b) : Sz b i := Nat.lt_of_lt_of_le h (Nat.pow_le_pow_right (by decide) hab)
theorem Sz.mul (h1 : Sz a i) (h2 : Sz b j) : Sz (a + b) (i * j) := by
  unfold Sz at *
  rw [Int.natAbs_mul, Nat.pow_add]
  exact Nat.mul_lt_mul_of_lt_of_le h1 (Nat.le_of_lt h2) (Nat.pow_pos (by decide))
theorem Sz.add (h1 : Sz a i) (h2 : Sz a j) : Sz (a + 1) (i + j) := by
  unfold Sz at *
  rw [Nat.pow_succ]
  omega
theorem Sz.sub (h1 : Sz a i) (h2 : Sz a j) : Sz (a + 1) (i - j) := by
  unfold Sz at *
  rw [Nat.pow_succ]
  omega
theorem Sz.md (h : Sz k i) (hk : k ≤ 400000 := by decide) : Md i := Nat.lt_of_lt_of_le h (Nat.pow_le_pow_right (by decide) hk)
theorem Sz.le (h : Sz k i) (hj : j.natAbs ≤ i.natAbs) : Sz k j := Nat.lt_of_le_of_lt hj h
theorem Sz.of (h1 : -(2 ^ k) < i) (h2 : i < 2 ^ k) : Sz k i := by
  unfold Sz
  have e : ((2 ^ k : Nat) : Int) = (2 : Int) ^ k := by norm_cast
  omega
theorem divF (h : j ≠ 0) (h2 : Sz 8000 j) : gDivA (.int i) (.int j) = some (.int (i.fdiv j)) := by
  have b := log2_lt (by decide) h2
  show (if j ≠ 0 ∧ j.natAbs.log2 < 9000 then some (PyData.int (i.fdiv j)) else none) = _
  rw [if_pos ⟨h, by omega⟩]
theorem ev_divAZ (h : 0 < j) (h2 : Sz 8000 j) : gDivA (.int i) (.int j) = some (.int (i / j)) := by
  rw [divF (by omega) h2, Int.fdiv_eq_ediv_of_nonneg _ (by omega)]
theorem ev_divZ (h : 0 < j) (h2 : Sz 8000 j) : gDiv (.int i) (.int j) = some (.int (i / j)) := if_pos ⟨h, by
  have := log2_lt (by decide) h2
  omega⟩
end
theorem forF_run {g : D → List C → Option (List C)} {b : List C → Out} (J : Out → Prop) : ∀ (items : List D) (env : List C) (I : Nat → List C → Prop), I 0 env →
    (∀ i d env, items[i]? = some d → I i env → ∃ e, g d env = some e ∧ (match b e with | .nx e' => I (i + 1) e' | .ct e' => I (i + 1) e' | .bk e' => J (.nx e') | .rt d => J (.rt d) | .err => False | .rx e t => J (.rx e t) | .xc e x => J (.xc e x))) →
    (∀ e, I items.length e → J (.nx e)) → J (forF g b items env)
  | [], env, I, h0, hs, he => he env h0
  | d :: ds, env, I, h0, hs, he => by
    obtain ⟨e, h1, h2⟩ := hs 0 d env rfl h0
    unfold forF
    rw [h1]
    dsimp only
    have next : ∀ e', I 1 e' → J (forF g b ds e') := fun e' h => forF_run J ds e' (fun i => I (i + 1)) h (fun i d env hd hI => hs (i + 1) d env (by simpa using hd) hI) (fun e h => he e (by simpa using h))
    cases z : b e with
    | nx e' => rw [z] at h2; exact next e' h2
    | ct e' => rw [z] at h2; exact next e' h2
    | bk e' => rw [z] at h2; exact h2
    | rt d => rw [z] at h2; exact h2
    | err => rw [z] at h2; exact h2.elim
    | rx _ _ => rw [z] at h2; exact h2
    | xc _ _ => rw [z] at h2; exact h2
def onNx (o : Out) (P : List C → Prop) : Prop := match o with | .nx e => P e | _ => False
theorem ev_onNx {e : List C} {P : List C → Prop} : onNx (.nx e) P = P e := (rfl)
theorem onNx_ok {o : Out} {P : List C → Prop} (h : onNx o P) : ∃ e, o = .nx e ∧ P e := by
  cases o <;> first | exact ⟨_, rfl, h⟩ | exact h.elim
theorem forF_inv {g : D → List C → Option (List C)} {b : List C → Out} {items : List D} {env : List C} (I : Nat → List C → Prop) (h0 : I 0 env)
    (hs : ∀ i d env, items[i]? = some d → I i env → ∃ e, g d env = some e ∧ onNx (b e) (I (i + 1))) : ∃ e, forF g b items env = .nx e ∧ I items.length e :=
  forF_run (fun o => ∃ e, o = .nx e ∧ I items.length e) items env I h0 (fun i d env hd hI => by
    obtain ⟨e, h1, h2⟩ := hs i d env hd hI
    obtain ⟨e', h3, h4⟩ := onNx_ok h2
    exact ⟨e, h1, by rw [h3]; exact h4⟩) fun e h => ⟨e, rfl, h⟩
def natAt (i : Nat) (env : List C) : Nat := match env[i]? with | some (.val (.int k)) => k.toNat | _ => 0
def absAt (i : Nat) (env : List C) : Nat := match env[i]? with | some (.val (.int k)) => k.natAbs | _ => 0
theorem ev_while {env : List C} {fu : List C → Nat} {c : List C → Option Bool} {b : List C → Out} : sWhile fu c b env = whileF c b (fu env) env := (rfl)
theorem rng_get {lo : Int} {n i : Nat} {d : D} (h : (rng lo n)[i]? = some d) : i < n ∧ d = .int (lo + i) := by
  have hi : i < n := by
    have := (List.getElem?_eq_some_iff.mp h).1
    rw [rng_len] at this; exact this
  unfold rng at h
  rw [List.getElem?_map, List.getElem?_range hi] at h
  cases h
  exact ⟨hi, rfl⟩
theorem forF_rng {lo : Int} {n : Nat} {v : Nat} {b : List C → Out} {env : List C} (I : Nat → List C → Prop) (h0 : I 0 env)
    (hs : ∀ i env, i < n → I i env → onNx (b (env.set v (.val (.int (lo + i))))) (I (i + 1))) : ∃ e, forF (tgN v) b (rng lo n) env = .nx e ∧ I n e := by
  have := forF_inv (g := tgN v) (b := b) (items := rng lo n) (env := env) I h0 fun i d env hd hI => by
    obtain ⟨hi, rfl⟩ := rng_get hd
    exact ⟨_, rfl, hs i env hi hI⟩
  rwa [rng_len] at this
theorem lcF_map {α : Type} {g : D → List C → Option (List C)} {tt : List C → Option Bool} {fe : List C → Option D} {env : List C} (t : α → D) (h : α → D) : ∀ (l : List α), (∀ a ∈ l, ∃ e, g (t a) env = some e ∧ tt e = some true ∧ fe e = some (h a)) → lcF g tt fe env (l.map t) = some (l.map h)
  | [], _ => rfl
  | a :: l, hl => by
    obtain ⟨e, h1, h2, h3⟩ := hl a List.mem_cons_self
    rw [List.map_cons]
    unfold lcF
    rw [h1, Option.bind_some, h2, Option.bind_some, if_pos rfl, h3, Option.bind_some, lcF_map t h l fun b hb => hl b (List.mem_cons_of_mem _ hb)]
    rfl
theorem lcF_filt {α : Type} {g : D → List C → Option (List C)} {tt : List C → Option Bool} {fe : List C → Option D} {env : List C} (t : α → D) (p : α → Bool) (h : α → D) : ∀ (l : List α), (∀ a ∈ l, ∃ e, g (t a) env = some e ∧ tt e = some (p a) ∧ (p a = true → fe e = some (h a))) → lcF g tt fe env (l.map t) = some ((l.filter p).map h)
  | [], _ => rfl
  | a :: l, hl => by
    obtain ⟨e, h1, h2, h3⟩ := hl a List.mem_cons_self
    rw [List.map_cons]
    unfold lcF
    rw [h1, Option.bind_some, h2, Option.bind_some, lcF_filt t p h l fun b hb => hl b (List.mem_cons_of_mem _ hb), List.filter_cons]
    cases z : p a with
    | true => rw [if_pos rfl, h3 z]; rfl
    | false => rfl
theorem rng_map (lo : Int) (n : Nat) : rng lo n = (List.range n).map fun i => .int (lo + (i : Nat)) := rfl
theorem enum_map {α : Type} (t : α → D) (l : List α) : enumD (l.map t) = l.zipIdx.map fun p => .tuple [.int (p.2 : Nat), t p.1] := by
  apply List.ext_getElem?
  intro i
  unfold enumD
  rw [List.getElem?_zipWith, List.getElem?_map, List.getElem?_map, List.getElem?_zipIdx, List.length_map]
  by_cases h : i < l.length
  · rw [List.getElem?_range h, List.getElem?_eq_getElem h]
    simp
  · rw [List.getElem?_eq_none (by rw [List.length_range]; omega), List.getElem?_eq_none (by omega : l.length ≤ i)]
    rfl
theorem zip_map {α β : Type} (t : α → D) (u : β → D) (l : List α) (m : List β) : zipD (l.map t) (m.map u) = (l.zip m).map fun p => .tuple [t p.1, u p.2] := by
  unfold zipD
  rw [List.zipWith_map]
  rw [List.zip, List.map_zipWith]
section
variable {α : Type}
theorem layAll_map (t : α → D) (h : ∀ a, (t a).canLay0 = true) : ∀ l : List α, PyData.canLayAll0 (l.map t) = true
  | [] => by simp only [List.map_nil, PyData.canLayAll0]
  | a :: l => by simp only [List.map_cons, PyData.canLayAll0, h a, layAll_map t h l, Bool.and_self]
theorem depthAll_mapD (t : α → D) {k : Nat} (h : ∀ a, (t a).depth ≤ k) : ∀ l : List α, PyData.depthAll (l.map t) ≤ k
  | [] => Nat.zero_le _
  | a :: l => by
    rw [List.map_cons, PyData.depthAll]
    exact Nat.max_le.mpr ⟨h a, depthAll_mapD t h l⟩
theorem shaped_list (t : α → D) (h : ∀ a, (t a).canLay0 = true) {k : Nat} (hk : k < 64) (hd : ∀ a, (t a).depth ≤ k) (l : List α) : SeqAt.shaped (.list (l.map t)) = true := by
  unfold SeqAt.shaped
  have := depthAll_mapD t hd l
  simp only [PyData.canLay0, PyData.depth, layAll_map t h l, Bool.true_and, decide_eq_true_eq]
  exact decide_eq_true (Nat.succ_le_of_lt (Nat.lt_of_le_of_lt this hk))
theorem shaped_ints (ns : List Int) : SeqAt.shaped (.list (ns.map .int)) = true := shaped_list (k := 0) PyData.int (fun _ => rfl) (by decide) (fun _ => Nat.le_refl _) ns
theorem ev_eq_li {ns ms : List Int} : gEq (.list (ns.map .int)) (.list (ms.map .int)) = some (.bool (decide (ns = ms))) := by
  have e : gEqD (.list (ns.map .int)) (.list (ms.map .int)) = some (.bool (decide (ns = ms))) := by
    unfold gEqD
    rw [if_pos ⟨shaped_ints ns, shaped_ints ms⟩]
    have := PySem.W.Datum.eqv ns ms
    rw [show PyData.eqv (.list (ns.map .int)) (.list (ms.map .int)) = decide (ns = ms) from this]
  show (match gEqS (.list (ns.map .int)) (.list (ms.map .int)) with | some d => some d | none => gEqD (.list (ns.map .int)) (.list (ms.map .int))) = _
  exact e
theorem ev_ne_li {ns ms : List Int} : gNe (.list (ns.map .int)) (.list (ms.map .int)) = some (.bool (!decide (ns = ms))) := by
  have e : gNeD (.list (ns.map .int)) (.list (ms.map .int)) = some (.bool (!decide (ns = ms))) := by
    unfold gNeD
    rw [if_pos ⟨shaped_ints ns, shaped_ints ms⟩]
    have := PySem.W.Datum.eqv ns ms
    rw [show PyData.eqv (.list (ns.map .int)) (.list (ms.map .int)) = decide (ns = ms) from this]
  show (match gNeS (.list (ns.map .int)) (.list (ms.map .int)) with | some d => some d | none => gNeD (.list (ns.map .int)) (.list (ms.map .int))) = _
  exact e
theorem eqD_self {x : D} (h : SeqAt.shaped x = true) : gEqD x x = some (.bool true) := by
  unfold gEqD
  rw [if_pos ⟨h, h⟩]
  unfold SeqAt.shaped at h
  rw [Bool.and_eq_true] at h
  rw [PySem.SeqAt.eqv_refl_plain x (PySem.PyData.plain_of_canLay0 x h.1)]
theorem neD_self {x : D} (h : SeqAt.shaped x = true) : gNeD x x = some (.bool false) := by
  unfold gNeD
  rw [if_pos ⟨h, h⟩]
  unfold SeqAt.shaped at h
  rw [Bool.and_eq_true] at h
  rw [PySem.SeqAt.eqv_refl_plain x (PySem.PyData.plain_of_canLay0 x h.1)]; rfl
theorem eqS_l {xs : List D} {y : D} : gEqS (.list xs) y = none := by cases y <;> rfl
theorem neS_l {xs : List D} {y : D} : gNeS (.list xs) y = none := by cases y <;> rfl
theorem eqS_t {xs : List D} {y : D} : gEqS (.tuple xs) y = none := by cases y <;> rfl
theorem neS_t {xs : List D} {y : D} : gNeS (.tuple xs) y = none := by cases y <;> rfl
theorem ev_eq_self {xs : List D} (h : SeqAt.shaped (.list xs) = true) : gEq (.list xs) (.list xs) = some (.bool true) := gOr_n eqS_l (eqD_self h)
theorem ev_ne_self {xs : List D} (h : SeqAt.shaped (.list xs) = true) : gNe (.list xs) (.list xs) = some (.bool false) := gOr_n neS_l (neD_self h)
theorem ev_eq_selfT {xs : List D} (h : SeqAt.shaped (.tuple xs) = true) : gEq (.tuple xs) (.tuple xs) = some (.bool true) := gOr_n eqS_t (eqD_self h)
theorem ev_ne_selfT {xs : List D} (h : SeqAt.shaped (.tuple xs) = true) : gNe (.tuple xs) (.tuple xs) = some (.bool false) := gOr_n neS_t (neD_self h)
theorem ev_ne_nil {ns : List Int} : gNe (.list (ns.map .int)) (.list []) = some (.bool (!decide (ns = []))) := ev_ne_li (ms := [])
theorem ev_eq_nil {ns : List Int} : gEq (.list (ns.map .int)) (.list []) = some (.bool (decide (ns = []))) := ev_eq_li (ms := [])
theorem sorted_gen {t : α → D} {le : α → α → Bool} {l : List α} (h1 : ∀ a b, W.alike (t a) (t b) = true) (h2 : (∀ a, isTup1 (t a) = true) ∨ (∀ a, notNT (t a) = true)) (h3 : ∀ a, (t a).depth ≤ 60) (hle : ∀ a b, W.dataLe false (fun d : D => d) (t a) (t b) = le a b) :
    gSorted [.list (l.map t)] = some (.list ((l.mergeSort le).map t)) := by
  have a1 : alikeB (l.map t) = true := by
    unfold alikeB
    simp only [List.all_map, List.all_eq_true, Function.comp]
    exact fun a _ b _ => h1 a b
  have a2 : sortableB (l.map t) = true := by
    unfold sortableB
    rw [Bool.or_eq_true]
    rcases h2 with h2 | h2
    · left; simp only [List.all_map, List.all_eq_true, Function.comp]; exact fun a _ => h2 a
    · right; simp only [List.all_map, List.all_eq_true, Function.comp]; exact fun a _ => h2 a
  have a3 : ((l.map t).all fun d => decide (d.depth ≤ 60)) = true := by
    simp only [List.all_map, List.all_eq_true, Function.comp, decide_eq_true_eq]; exact fun a _ => h3 a
  have e : gSorted [.list (l.map t)] = some (.list ((l.map t).mergeSort (W.dataLe false fun d => d))) := if_pos ⟨a1, a2, a3⟩
  rw [e, ← W.sort_maps t (fun a _ b _ => (hle a b).symm)]
theorem ev_sorted_i {ns : List Int} : gSorted [.list (ns.map .int)] = some (.list ((ns.mergeSort fun a b => decide (a ≤ b)).map .int)) :=
  sorted_gen (fun _ _ => by simp [W.alike]) (.inr fun _ => rfl) (fun _ => Nat.zero_le _) fun a b => congrFun (congrFun (W.dataLe_int (fun x : Int => x)) a) b
end
def oListRg (o : Option D) : Option D := match o with
  | some (.int j) => if -(2 ^ 62) ≤ j ∧ j ≤ 16777216 then some (.list (rng 0 j.toNat)) else none
  | _ => none
theorem ev_listRg {f : List C → Option D} {env : List C} : eListRg f env = oListRg (f env) := (rfl)
theorem ev_oListRg {k : Int} (h1 : -(2 ^ 62) ≤ k) (h2 : k ≤ 16777216) : oListRg (some (.int k)) = some (.list (rng 0 k.toNat)) := if_pos ⟨h1, h2⟩
theorem flat_ints (ns : List Int) : (ns.map PyData.int).all flatD = true := by
  rw [List.all_eq_true]
  intro d hd
  obtain ⟨n, _, rfl⟩ := List.mem_map.mp hd
  rfl
theorem ev_in_ii {i : Int} {ns : List Int} : gIn (.int i) (.list (ns.map .int)) = some (.bool (decide (i ∈ ns))) := by
  refine gOr_s ?_
  refine (show gInF (.int i) (.list (ns.map .int)) = if flatD (.int i) = true ∧ (ns.map PyData.int).all flatD = true then some (.bool (inF (.int i) (ns.map .int))) else none from rfl).trans ?_
  rw [if_pos ⟨rfl, flat_ints ns⟩]
  unfold inF inV
  rw [List.map_map, List.any_map]
  congr 2
  rw [Bool.eq_iff_iff, List.any_eq_true, decide_eq_true_eq]
  constructor
  · rintro ⟨y, hy, e⟩
    have : y = i := by simpa [flV, eqV] using e
    rw [← this]; exact hy
  · intro h
    exact ⟨i, h, by simp [flV, eqV]⟩
def oThaw (c : Option C) (fl : List C → Option D) (t : Nat) (env : List C) : Option D := match c with | some (.lst ds) => flatO (fl (env.set t (.val (.list ds)))) | _ => none
theorem ev_thaw {t : Nat} {fl : List C → Option D} {env : List C} : eThaw t fl env = oThaw env[t]? fl t env := (rfl)
theorem ev_oThaw {t : Nat} {fl : List C → Option D} {env : List C} {ds : List D} : oThaw (some (.lst ds)) fl t env = flatO (fl (env.set t (.val (.list ds)))) := (rfl)
theorem ev_flatO {ns : List Int} : flatO (some (.list (ns.map .int))) = some (.list (ns.map .int)) := if_pos (flat_ints ns)
def otThaw (c : Option C) (fl : List C → Option Bool) (t : Nat) (env : List C) : Option Bool := match c with | some (.lst ds) => fl (env.set t (.val (.list ds))) | _ => none
theorem ev_tThaw {t : Nat} {fl : List C → Option Bool} {env : List C} : tThaw t fl env = otThaw env[t]? fl t env := (rfl)
theorem ev_otThaw {t : Nat} {fl : List C → Option Bool} {env : List C} {ds : List D} : otThaw (some (.lst ds)) fl t env = fl (env.set t (.val (.list ds))) := (rfl)
def oMove (c : Option C) (i j : Nat) (env : List C) : Out := match c with | some (.lst ds) => .nx ((env.set j .und).set i (.lst ds)) | _ => .err
theorem ev_move {i j : Nat} {env : List C} : sMove i j env = oMove env[j]? i j env := (rfl)
theorem ev_oMove {i j : Nat} {env : List C} {ds : List D} : oMove (some (.lst ds)) i j env = .nx ((env.set j .und).set i (.lst ds)) := (rfl)
def oEnumG (o : Option D) : Option (List D) := (o.bind sqD).bind fun x => some (enumD x.2)
theorem ev_iEnumG {fe : List C → Option D} {env : List C} : iEnumG fe env = oEnumG (fe env) := (rfl)
theorem ev_oEnumG_l {ds : List D} : oEnumG (some (.list ds)) = some (enumD ds) := (rfl)
theorem ev_oEnumG_t {ds : List D} : oEnumG (some (.tuple ds)) = some (enumD ds) := (rfl)
end DL
set_option Elab.async false
set_option linter.all false
set_option maxRecDepth 100000
set_option maxHeartbeats 4000000
namespace DL
open PySem PySem.Spec L2

def T.sub : List Nat → T → Option T
  | [], t => some t
  | j :: p, .n _ ts => (ts[j]?).bind (T.sub p)
  | _ :: _, .d _ => none
def T.put : List Nat → T → T → T
  | [], _, u => u
  | j :: p, .n s ts, u => .n s (match ts[j]? with | some t => ts.set j (T.put p t u) | none => ts)
  | _ :: _, .d x, _ => .d x
section
variable {K : PySem.W.Frag} {ow : Option World} {H F : Hp} {G : GC} {env : List C} {σ : L2.St} {fp : Nat → List Addr}
theorem ORs_len : ∀ {ts : List T} {vs : List V} {l : List Addr}, ORs K ow H F vs ts l → vs.length = ts.length
  | [], _, _, h => by cases h; rfl
  | t :: ts, _, _, h => by
    cases h with
    | cons h1 h2 => rw [List.length_cons, List.length_cons, ORs_len h2]
theorem ORs_at : ∀ {ts : List T} {vs : List V} {l : List Addr} {j : Nat} {t : T}, ORs K ow H F vs ts l → ts[j]? = some t → ∃ v lt l1 l2, l = l1 ++ (lt ++ l2) ∧ vs[j]? = some v ∧ OR K ow H F v t lt ∧
    ∀ (H' F' : Hp) (v' : V) (t' : T) (lt' : List Addr), Same F F' → (∀ b o, b ∈ l1 ++ l2 → H b = some o → H' b = some o) → OR K ow H' F' v' t' lt' → ORs K ow H' F' (vs.set j v') (ts.set j t') (l1 ++ (lt' ++ l2))
  | [], _, _, j, t, h, e => by simp at e
  | t0 :: ts, _, _, 0, t, h, e => by
    cases h with
    | @cons v _ lt m vs _ h1 h2 =>
      simp at e; subst e
      refine ⟨v, lt, [], m, rfl, rfl, h1, fun H' F' v' t' lt' f k r => ?_⟩
      show ORs K ow H' F' (v' :: vs) (t' :: ts) (lt' ++ m)
      exact .cons r (ORs_mono f _ _ _ k h2)
  | t0 :: ts, _, _, j + 1, t, h, e => by
    cases h with
    | @cons v _ l0 m vs _ h1 h2 =>
      obtain ⟨v', lt, l1, l2, rfl, g1, g2, g3⟩ := ORs_at h2 (by simpa using e)
      refine ⟨v', lt, l0 ++ l1, l2, by simp, by simpa using g1, g2, fun H' F' v' t' lt' f k r => ?_⟩
      have := ORs.cons (OR_mono f _ _ _ (fun b o hb => k b o (by simp [hb])) h1) (g3 H' F' v' t' lt' f (fun b o hb => k b o (by simp at hb ⊢; rcases hb with hb | hb <;> simp [hb])) r)
      simpa using this
theorem set_same {α : Type} {l : List α} {j : Nat} {x : α} (h : l[j]? = some x) : l.set j x = l := by
  obtain ⟨hj, rfl⟩ := List.getElem?_eq_some_iff.mp h
  exact List.set_getElem_self hj
theorem slot_own (R : Rel K G env σ H F fp) {i : Nat} {m : Option Nat} {t : T} (e : env[i]? = some (.own m t)) : ∃ v, σ[i]? = some (some v) ∧ OR K G.w H F v t (fp i) ∧ ∀ j, m = some j → ∃ a l, G.Ws[j]? = some (a, l) ∧ v = .ref a ∧ ∀ b, b ∈ fp i → b ∈ l ∨ G.H0 b = none := by
  obtain ⟨v, q1, q2, q3⟩ := R.slot i _ e
  cases z : σ[i]? with
  | none => rw [z] at q1; cases q1
  | some o =>
    rw [z] at q1
    have e2 : o = some v := q1
    subst e2
    exact ⟨v, rfl, q2, q3⟩
end
end DL
set_option Elab.async false
set_option linter.all false
set_option maxRecDepth 100000
set_option maxHeartbeats 4000000
namespace DL
open PySem PySem.Spec L2

abbrev IP := Nat × List Nat
def nodeAt (env : List C) (ip : IP) : Option T := match env[ip.1]? with
  | some (.own _ t) => T.sub ip.2 t
  | _ => none
def putAt (env : List C) (ip : IP) (u : T) : List C := match env[ip.1]? with
  | some (.own m t) => env.set ip.1 (.own m (T.put ip.2 t u))
  | _ => env
theorem T.sub_snoc : ∀ {p : List Nat} {t : T} {s : Shp} {ts : List T} {j : Nat} {u : T}, T.sub p t = some (.n s ts) → ts[j]? = some u → T.sub (p ++ [j]) t = some u
  | [], t, s, ts, j, u, h, e => by cases h; show (ts[j]?).bind (T.sub []) = some u; rw [e]; rfl
  | k :: p, .d _, s, ts, j, u, h, e => by cases h
  | k :: p, .n s' ts', s, ts, j, u, h, e => by
    unfold T.sub at h
    show (ts'[k]?).bind (T.sub (p ++ [j])) = some u
    cases z : ts'[k]? with
    | none => rw [z] at h; cases h
    | some t' =>
      rw [z] at h
      exact T.sub_snoc (p := p) h e
theorem T.put_snoc : ∀ {p : List Nat} {t : T} {s : Shp} {ts : List T} {j : Nat} {u u' : T}, T.sub p t = some (.n s ts) → ts[j]? = some u → T.put (p ++ [j]) t u' = T.put p t (.n s (ts.set j u'))
  | [], t, s, ts, j, u, u', h, e => by
    cases h
    show T.n s (match ts[j]? with | some t => ts.set j (T.put [] t u') | none => ts) = .n s (ts.set j u')
    rw [e]; rfl
  | k :: p, .d _, s, ts, j, u, u', h, e => by cases h
  | k :: p, .n s' ts', s, ts, j, u, u', h, e => by
    unfold T.sub at h
    cases z : ts'[k]? with
    | none => rw [z] at h; cases h
    | some t' =>
      rw [z] at h
      show T.n s' (match ts'[k]? with | some t => ts'.set k (T.put (p ++ [j]) t u') | none => ts') = T.n s' (match ts'[k]? with | some t => ts'.set k (T.put p t (.n s (ts.set j u'))) | none => ts')
      rw [z]
      dsimp only
      rw [T.put_snoc (p := p) h e]
theorem nodeAt_of {env : List C} {ip : IP} {u : T} (h : nodeAt env ip = some u) : ∃ m t, env[ip.1]? = some (.own m t) ∧ T.sub ip.2 t = some u := by
  unfold nodeAt at h
  split at h
  · rename_i m t e; exact ⟨m, t, e, h⟩
  · cases h
structure Lens (K : PySem.W.Frag) (ow : Option World) (H F : Hp) (v0 : V) (t : T) (l : List Addr) (p : List Nat) (u : T) (v : V) (lu : List Addr) : Prop where
  rep : OR K ow H F v u lu
  mem : ∀ b, b ∈ lu → b ∈ l
  upd : ∀ (H' F' : Hp) (u' : T) (lu' : List Addr), Same F F' → (∀ b o, b ∈ l → b ∉ lu → H b = some o → H' b = some o) → OR K ow H' F' v u' lu' → (∀ b, b ∈ lu' → b ∈ lu ∨ b ∉ l) →
    ∃ l', OR K ow H' F' v0 (T.put p t u') l' ∧ ∀ b, b ∈ l' → (b ∈ l ∧ b ∉ lu) ∨ b ∈ lu'
section
variable {K : PySem.W.Frag} {ow : Option World} {H F H1 F1 : Hp} {v0 v : V} {t u : T} {l lu : List Addr} {p : List Nat}
theorem Lens.root (h : OR K ow H F v0 t l) : Lens K ow H F v0 t l [] t v0 l := ⟨h, fun _ h => h, fun H' F' u' lu' f k r n => ⟨lu', r, fun b hb => .inr hb⟩⟩
theorem Lens.mono (L : Lens K ow H F v0 t l p u v lu) (f : Same F F1) (k : ∀ b o, b ∈ l → H b = some o → H1 b = some o) : Lens K ow H1 F1 v0 t l p u v lu :=
  ⟨OR_mono f _ _ _ (fun b o hb => k b o (L.mem b hb)) L.rep, L.mem, fun H' F' u' lu' f' k' r n => L.upd H' F' u' lu' (f.trans f') (fun b o hl hn e => k' b o hl hn (k b o hl e)) r n⟩
theorem Lens.child {s : Shp} {ts : List T} {j : Nat} {tj : T} (L : Lens K ow H F v0 t l p (.n s ts) v lu) (hs : T.sub p t = some (.n s ts)) (e : ts[j]? = some tj) :
    ∃ a vs own w lt, v = .ref a ∧ NR K ow H F s a vs own ∧ ORs K ow H F vs ts (lu.drop own.length) ∧ vs[j]? = some w ∧ Lens K ow H F v0 t l (p ++ [j]) tj w lt := by
  obtain ⟨rep, mem, upd⟩ := L
  cases rep with
  | @n _ a vs _ own l0 h1 h2 h3 =>
    have hd : (own ++ l0).drop own.length = l0 := by simp
    obtain ⟨w, lt, l1, l2, rfl, g1, g2, g3⟩ := ORs_at h2 e
    refine ⟨a, vs, own, w, lt, rfl, h1, by rw [hd]; exact h2, g1, g2, fun b hb => mem b (by simp [hb]), fun H' F' u' lu' f k r n => ?_⟩
    have nd : ∀ b, b ∈ lt → b ∉ own ∧ b ∉ l1 ∧ b ∉ l2 := fun b hb => by
      simp only [List.nodup_append, List.mem_append] at h3
      grind
    have o1 := g3 H' F' w u' lu' f (fun b o hb => k b o (mem b (by simp at hb ⊢; grind)) (fun hl => by have := nd b hl; simp at hb; grind)) r
    rw [set_same g1] at o1
    have nl : ∀ b, b ∈ lu' → b ∉ own ∧ b ∉ l1 ∧ b ∉ l2 := fun b hb => by
      rcases n b hb with y | y
      · exact nd b y
      · have h := fun (z : b ∈ own ++ (l1 ++ (lt ++ l2))) => y (mem b z)
        simp at h; grind
    have nd2 : (own ++ (l1 ++ (lu' ++ l2))).Nodup := by
      have nl' := r.nodup
      simp only [List.nodup_append, List.mem_append] at h3 ⊢
      grind
    obtain ⟨l', r', q⟩ := upd H' F' (.n s (ts.set j u')) (own ++ (l1 ++ (lu' ++ l2))) f (fun b o hl hn => k b o hl (fun hl => hn (by simp [hl])))
      (.n (h1.mono (fun b o hb => k b o (mem b (by simp [hb])) (fun hl => (nd b hl).1 hb)) f) o1 nd2) (fun b hb => by
        by_cases hb' : b ∈ lu'
        · exact (n b hb').imp_left fun z => by simp [z]
        · exact .inl (by simp at hb ⊢; grind))
    refine ⟨l', ?_, fun b hb => ?_⟩
    · rw [T.put_snoc hs e]; exact r'
    · rcases q b hb with z | z
      · exact .inl ⟨z.1, fun y => z.2 (by simp [y])⟩
      · by_cases hb' : b ∈ lu'
        · exact .inr hb'
        · refine .inl ⟨mem b (by simp at z ⊢; grind), fun y => ?_⟩
          have := nd b y
          simp at z; grind
end
structure Place (K : PySem.W.Frag) (G : GC) (env : List C) (σ : L2.St) (H F : Hp) (fp : Nat → List Addr) (ip : IP) (u : T) (v : V) (lu : List Addr) : Prop where
  ex : ∃ m t v0, env[ip.1]? = some (.own m t) ∧ T.sub ip.2 t = some u ∧ σ[ip.1]? = some (some v0) ∧ Lens K G.w H F v0 t (fp ip.1) ip.2 u v lu
section
variable {K : PySem.W.Frag} {G : GC} {env : List C} {σ : L2.St} {H F H1 F1 : Hp} {fp : Nat → List Addr} {ip : IP} {u : T} {v : V} {lu : List Addr}
theorem Place.rep (P : Place K G env σ H F fp ip u v lu) : OR K G.w H F v u lu := let ⟨_, _, _, _, _, _, L⟩ := P.ex; L.rep
theorem Place.mem (P : Place K G env σ H F fp ip u v lu) {b : Addr} (hb : b ∈ lu) : b ∈ fp ip.1 := let ⟨_, _, _, _, _, _, L⟩ := P.ex; L.mem b hb
theorem Place.node (P : Place K G env σ H F fp ip u v lu) : nodeAt env ip = some u := by
  obtain ⟨m, t, v0, e, hs, _⟩ := P.ex
  unfold nodeAt; rw [e]; exact hs
theorem Rel.place (R : Rel K G env σ H F fp) {i : Nat} {m : Option Nat} {t : T} (e : env[i]? = some (.own m t)) : ∃ v, σ[i]? = some (some v) ∧ Place K G env σ H F fp (i, []) t v (fp i) := by
  obtain ⟨v0, s1, s2, s3⟩ := slot_own R e
  exact ⟨v0, s1, ⟨m, t, v0, e, rfl, s1, Lens.root s2⟩⟩
theorem Place.ext (P : Place K G env σ H F fp ip u v lu) (E : Ext H F H1 F1) : Place K G env σ H1 F1 fp ip u v lu := by
  obtain ⟨m, t, v0, e, hs, s, L⟩ := P.ex
  exact ⟨m, t, v0, e, hs, s, L.mono E.f fun b o _ => E.h b o⟩
theorem Place.child {s : Shp} {ts : List T} {j : Nat} {t : T} (P : Place K G env σ H F fp ip (.n s ts) v lu) (e : ts[j]? = some t) :
    ∃ a vs own w lt, v = .ref a ∧ NR K G.w H F s a vs own ∧ ORs K G.w H F vs ts (lu.drop own.length) ∧ vs[j]? = some w ∧ Place K G env σ H F fp (ip.1, ip.2 ++ [j]) t w lt := by
  obtain ⟨m, t0, v0, e0, hs, s, L⟩ := P.ex
  obtain ⟨a, vs, own, w, lt, h1, h2, h3, h4, L'⟩ := L.child hs e
  exact ⟨a, vs, own, w, lt, h1, h2, h3, h4, ⟨m, t0, v0, e0, T.sub_snoc hs e, s, L'⟩⟩
theorem Rel.write3 (R : Rel K G env σ H F fp) (P : Place K G env σ H F fp ip u v lu) {H' F' : Hp} {u' : T} {lu' : List Addr} (f : Same F F') (sub : Same F' H') (nw : ∀ a o, F' a = some o → F a = some o ∨ H a = none ∨ (a ∈ lu ∧ G.H0 a = none)) (k : ∀ b o, b ∉ lu → H b = some o → H' b = some o) (al : ∀ b, b ∈ lu → H' b ≠ none)
    (r : OR K G.w H' F' v u' lu') (n : ∀ b, b ∈ lu' → (b ∈ lu ∨ ((∀ j, b ∉ fp j) ∧ G.H0 b = none)) ∧ F' b = none ∧ H' b ≠ none) : ∃ fp', Rel K G (putAt env ip u') σ H' F' fp' ∧ (∀ j, j ≠ ip.1 → fp' j = fp j) ∧ ∀ b, b ∈ fp' ip.1 → b ∈ fp ip.1 ∨ b ∈ lu' := by
  obtain ⟨i, p⟩ := ip
  obtain ⟨m, t, v0, e, hs, s1, L⟩ := P.ex
  dsimp only at *
  have a3 := L.mem
  obtain ⟨v0', s1', _, s3⟩ := slot_own R e
  rw [s1] at s1'; cases s1'
  obtain ⟨l', r', hl2⟩ := L.upd H' F' u' lu' f (fun b o _ => k b o) r (fun b hb => (n b hb).1.imp_right fun z => z.1 i)
  have hl' : ∀ b, b ∈ l' → b ∈ fp i ∨ b ∈ lu' := fun b hb => (hl2 b hb).imp_left And.left
  unfold putAt
  rw [e]
  dsimp only
  have al2 : ∀ b, H b ≠ none → H' b ≠ none := fun b hb => by
    by_cases hl : b ∈ lu
    · exact al b hl
    · cases q : H b with
      | none => exact absurd q hb
      | some o => rw [k b o hl q]; intro z; cases z
  have fn : ∀ j b, b ∈ fp j → b ∉ lu → F' b = none := fun j b hb hl => by
    cases q : F' b with
    | none => rfl
    | some o =>
      rcases nw b o q with z | z | z
      · rw [(R.own j b hb).1] at z; cases z
      · exact absurd z (R.own j b hb).2.1
      · exact absurd z.1 hl
  have hi := (List.getElem?_eq_some_iff.mp e).1
  refine ⟨fset fp i l', ?_, fun j hj => fset_ne hj, fun b hb => by rw [fset_at] at hb; exact hl' b hb⟩
  exact {
    len := by rw [List.length_set]; exact R.len
    slot := fun j c ej => by
      by_cases hj : j = i
      · subst hj
        rw [fset_at]
        rw [List.getElem?_set_self hi] at ej; cases ej
        refine ⟨v0, by rw [s1]; rfl, r', fun jj hj => ?_⟩
        obtain ⟨ra, rl, h1, h2, h3⟩ := s3 jj hj
        refine ⟨ra, rl, h1, h2, fun b hb => ?_⟩
        rcases hl' b hb with z | z
        · exact h3 b z
        · rcases (n b z).1 with y | y
          · exact h3 b (a3 b y)
          · exact .inr y.2
      · rw [List.getElem?_set_ne (Ne.symm hj)] at ej
        rw [fset_ne hj]
        have q := R.slot j c ej
        have kk : ∀ b o, b ∈ fp j → H b = some o → H' b = some o := fun b o hb => k b o fun hl => hj (R.dj j i b hb (a3 b hl))
        cases c with
        | und => exact q
        | val d => obtain ⟨y1, w, y2, y3⟩ := q; exact ⟨y1, w, y2, DF_mono f _ _ y3⟩
        | brw d => exact q
        | lst ds => obtain ⟨b, vs, y1, y2, y3, y4⟩ := q; exact ⟨b, vs, y1, y2, kk _ _ (by rw [y1]; exact List.mem_singleton.mpr rfl) y3, DFAll_mono f _ _ y4⟩
        | dK ds => obtain ⟨b, vs, y1, y2, y3, y4⟩ := q; exact ⟨b, vs, y1, y2, kk _ _ (by rw [y1]; exact List.mem_singleton.mpr rfl) y3, y4.mono f⟩
        | dT ds => obtain ⟨b, vs, y1, y2, y3, y4⟩ := q; exact ⟨b, vs, y1, y2, kk _ _ (by rw [y1]; exact List.mem_singleton.mpr rfl) y3, y4.mono f⟩
        | dN ds => obtain ⟨b, w, xs, y1, y2, y5, y3, y4⟩ := q; exact ⟨b, w, xs, y1, y2, y5, kk _ _ (by rw [y1]; exact List.mem_singleton.mpr rfl) y3, y4.mono f⟩
        | pin _ => exact q
        | al j i => obtain ⟨q0, a, l, vs, v, q1, q2, q3⟩ := q; exact ⟨q0, a, l, vs, v, q1, f _ _ q2, q3⟩
        | ro b t2 => obtain ⟨y0, w, l, y1, y2, y3⟩ := q; exact ⟨y0, w, l, y1, OR_mono f _ _ _ (fun _ _ _ z => z) y2, fun hb a vs ha hk => f _ _ (y3 hb a vs ha hk)⟩
        | own m2 t2 => obtain ⟨w, y1, y2, y3⟩ := q; exact ⟨w, y1, OR_mono f _ _ _ kk y2, y3⟩
    dj := fun j k2 b h1 h2 => by
      have hh : ∀ j, j ≠ i → b ∈ l' → b ∈ fp j → False := fun j hj h1 h2 => by
        rcases hl' b h1 with z | z
        · exact hj (R.dj j i b h2 z)
        · rcases (n b z).1 with y | y
          · exact hj (R.dj j i b h2 (a3 b y))
          · exact y.1 j h2
      by_cases hj : j = i
      · by_cases hk : k2 = i
        · exact hj.trans hk.symm
        · subst hj; rw [fset_at] at h1; rw [fset_ne hk] at h2
          exact (hh k2 hk h1 h2).elim
      · by_cases hk : k2 = i
        · subst hk; rw [fset_at] at h2; rw [fset_ne hj] at h1
          exact (hh j hj h2 h1).elim
        · rw [fset_ne hj] at h1; rw [fset_ne hk] at h2
          exact R.dj j k2 b h1 h2
    own := fun j b hb => by
      by_cases hj : j = i
      · subst hj
        rw [fset_at] at hb
        have old : b ∈ fp j → F' b = none → F' b = none ∧ H' b ≠ none ∧ (G.H0 b = none ∨ (b ∈ G.W ∧ ∃ c, (env.set j (.own m (T.put p t u')))[j]? = some c ∧ c.mu = true)) := fun z nf => by
          obtain ⟨g1, g2, g3⟩ := R.own j b z
          refine ⟨nf, al2 b g2, g3.imp_right fun ⟨w1, c, w2, w3⟩ => ⟨w1, _, List.getElem?_set_self hi, ?_⟩⟩
          rw [e] at w2; cases w2
          cases m with
          | none => cases w3
          | some _ => rfl
        rcases hl2 b hb with z | z
        · exact old z.1 (fn j b z.1 z.2)
        · obtain ⟨n1, n2, n3⟩ := n b z
          rcases n1 with y | y
          · exact old (a3 b y) n2
          · exact ⟨n2, n3, .inl y.2⟩
      · rw [fset_ne hj] at hb
        obtain ⟨g1, g2, g3⟩ := R.own j b hb
        exact ⟨fn j b hb (fun hl => hj (R.dj j i b hb (a3 b hl))), al2 b g2, by rw [List.getElem?_set_ne (Ne.symm hj)]; exact g3⟩
    sub := sub
    new := fun a o q => by
      rcases nw a o q with z | z | z
      · exact R.new a o z
      · exact .inr (R.h0 z)
      · exact .inr z.2
    old := R.old.trans f
    keep := fun a o q hw => by
      refine k a o (fun hl => ?_) (R.keep a o q hw)
      rcases (R.own i a (a3 a hl)).2.2 with z | z
      · rw [z] at q; cases q
      · exact hw z.1
    alive := fun a q => al2 a (R.alive a q) }
theorem Rel.write2 (R : Rel K G env σ H F fp) (P : Place K G env σ H F fp ip u v lu) {H' F' : Hp} {u' : T} {lu' : List Addr} (f : Same F F') (sub : Same F' H') (nw : ∀ a o, F' a = some o → F a = some o ∨ H a = none) (k : ∀ b o, b ∉ lu → H b = some o → H' b = some o) (al : ∀ b, b ∈ lu → H' b ≠ none)
    (r : OR K G.w H' F' v u' lu') (n : ∀ b, b ∈ lu' → (b ∈ lu ∨ ((∀ j, b ∉ fp j) ∧ G.H0 b = none)) ∧ F' b = none ∧ H' b ≠ none) : ∃ fp', Rel K G (putAt env ip u') σ H' F' fp' ∧ (∀ j, j ≠ ip.1 → fp' j = fp j) ∧ ∀ b, b ∈ fp' ip.1 → b ∈ fp ip.1 ∨ b ∈ lu' :=
  R.write3 P f sub (fun a o h => (nw a o h).imp_right .inl) k al r n
theorem nodeAt_child {s : Shp} {ts : List T} {j : Nat} {t : T} (hn : nodeAt env ip = some (.n s ts)) (e : ts[j]? = some t) : nodeAt env (ip.1, ip.2 ++ [j]) = some t := by
  obtain ⟨m, t0, e0, hs⟩ := nodeAt_of hn
  unfold nodeAt
  rw [e0]
  exact T.sub_snoc hs e
end
structure DPl (X : Cx) (G : GC) (e : Expr) (g : List C → Option IP) : Prop where
  ex : ∃ t, PE X e t ∧ ∀ (σ : L2.St) (H F : Hp) (fp : Nat → List Addr) (env : List C) (ip : IP) (u : T) (Q : VK), Rel X.K G env σ H F fp → g env = some ip → nodeAt env ip = some u →
    (∀ v lu H' F', Ext H F H' F' → Place X.K G env σ H' F' fp ip u v lu → Q v H') → t σ H Q
section
variable {X : Cx} {G : GC} {e : Expr} {g : List C → Option IP} {pos : Pos} {k : RK} {f fi : List C → Option D}
def pNm (i : Nat) : List C → Option IP := fun _ => some (i, [])
theorem dp_name {x : Str} (i : Nat) (h : PE X (.Name x pos) (tVar i)) : DPl X G (.Name x pos) (pNm i) := by
  refine ⟨_, h, fun σ H F fp env ip u Q R hg hn q => ?_⟩
  cases hg
  obtain ⟨m, t, e, hs⟩ := nodeAt_of hn
  cases hs
  obtain ⟨v, s1, P⟩ := R.place e
  exact ⟨v, s1, q v _ H F (Ext.refl R.sub) P⟩
def pChild (g : List C → Option IP) (sel : List C → Shp → Nat → Option Nat) : List C → Option IP := fun env => match g env with
  | some ip => (match nodeAt env ip with | some (.n s ts) => (match sel env s ts.length with | some j => if j < ts.length then some (ip.1, ip.2 ++ [j]) else none | none => none) | _ => none)
  | none => none
theorem pChild_of {sel : List C → Shp → Nat → Option Nat} {env : List C} {ip : IP} {u : T} (hg : pChild g sel env = some ip) (hn : nodeAt env ip = some u) : ∃ ip0 s ts j, g env = some ip0 ∧ nodeAt env ip0 = some (.n s ts) ∧ sel env s ts.length = some j ∧ ts[j]? = some u ∧ ip = (ip0.1, ip0.2 ++ [j]) := by
  unfold pChild at hg
  split at hg
  · rename_i ip0 h0
    split at hg
    · rename_i s ts h1
      split at hg
      · rename_i j h2
        split at hg <;> cases hg
        rename_i hj
        have := nodeAt_child h1 (List.getElem?_eq_getElem hj)
        rw [this] at hn; cases hn
        exact ⟨ip0, s, ts, j, h0, h1, h2, List.getElem?_eq_getElem hj, rfl⟩
      · cases hg
    · cases hg
  · cases hg
structure ClOk (K : PySem.W.Frag) (c : Str) : Prop where
  ex : ∃ C, PySem.W.nsIn K mainGlobals c = some (some (.ref C)) ∧ Cls K C
def NoAt (K : PySem.W.Frag) (c f : Str) : Prop := ∀ C, PySem.W.nsIn K mainGlobals c = some (some (.ref C)) → NoAttr K C f
def fIx (f : Str) : List Str → Option Nat
  | [] => none
  | g :: r => if g = f then some 0 else (fIx f r).map (· + 1)
def selF (c f : Str) : List C → Shp → Nat → Option Nat := fun _ s _ => match s with | .o c' fs => if c' = c then fIx f fs else none | _ => none
def pF (c f : Str) (g : List C → Option IP) : List C → Option IP := pChild g (selF c f)
def selI (fi : List C → Option D) : List C → Shp → Nat → Option Nat := fun env s n => match s with
  | .l => (match fi env with | some (.int i) => ixN n i | _ => none)
  | .lf => (match fi env with | some (.int i) => ixN n i | _ => none)
  | .t => (match fi env with | some (.int i) => ixN n i | _ => none)
  | _ => none
def pI (fi : List C → Option D) (g : List C → Option IP) : List C → Option IP := pChild g (selI fi)
theorem dp_ix {i : Expr} (h : DPl X G e g) (hi : DE X G k i fi) (hs : PlainIx i) (hk : k.le .vl = true := by rfl) : DPl X G (.Subscript e i pos) (pI fi g) := by
  obtain ⟨t, pt, o⟩ := h.ex
  obtain ⟨ti, pi, oi⟩ := (hi.conv hk).ex
  refine ⟨_, pe_ix ix_seq pt pi hs, fun σ H F fp env ip u Q R hg hn q => ?_⟩
  obtain ⟨ip0, s, ts, j, h0, h1, h2, h3, rfl⟩ := pChild_of hg hn
  have go : ∀ i, fi env = some (.int i) → ixN ts.length i = some j → (s = .l ∨ s = .t ∨ s = .lf) → tOp (rIx X.K) t ti σ H Q := fun i h4 h5 hs => by
    refine o σ H F fp env ip0 _ _ R h0 h1 fun v lu H1 F1 E1 P => ?_
    refine oi σ H1 F1 fp env _ _ (R.ext E1) h4 fun vi H2 F2 E2 ri => ?_
    have ei := vl_int (G := G) (H := H2) (F := F2) ri
    subst ei
    have P2 := P.ext E2
    obtain ⟨a, vs, own, w, lt, rfl, nr, os, hw, P'⟩ := P2.child h3
    have hl := ORs_len os
    have ha : atI vs i = some w := by unfold atI; rw [hl, h5]; exact hw
    rcases hs with rfl | rfl | rfl
    · exact .inl ⟨a, vs, i, w, rfl, rfl, .inl (.inl nr.2), ha, q w lt H2 F2 (E1.trans E2) P'⟩
    · have st : SqT X.K H2 a vs := by
        rcases nr with ⟨_, h⟩ | ⟨_, h⟩
        · exact .inl (.inl h)
        · exact Same.seqT E2.sub h
      exact .inr (.inl ⟨a, vs, i, w, rfl, rfl, st, ha, q w lt H2 F2 (E1.trans E2) P'⟩)
    · exact .inl ⟨a, vs, i, w, rfl, rfl, .inl (.inl (E2.sub _ _ nr.2)), ha, q w lt H2 F2 (E1.trans E2) P'⟩
  unfold selI at h2
  split at h2
  · split at h2
    · rename_i i h4; exact go i h4 h2 (.inl rfl)
    · cases h2
  · split at h2
    · rename_i i h4; exact go i h4 h2 (.inr (.inr rfl))
    · cases h2
  · split at h2
    · rename_i i h4; exact go i h4 h2 (.inr (.inl rfl))
    · cases h2
  · cases h2
def eLeaf (g : List C → Option IP) : List C → Option D := fun env => match g env with
  | some ip => (match nodeAt env ip with | some (.d x) => some x | _ => none)
  | none => none
def flatT : List T → Option (List D)
  | [] => some []
  | .d x :: r => (flatT r).map (x :: ·)
  | .n _ _ :: _ => none
theorem flatT_rep {K : PySem.W.Frag} {ow : Option World} {H F : Hp} : ∀ {ts : List T} {ds : List D} {vs : List V} {l : List Addr}, flatT ts = some ds → ORs K ow H F vs ts l → DFAll K F vs ds ∧ l = []
  | [], ds, vs, l, h, r => by cases h; cases r; exact ⟨.nil, rfl⟩
  | .d x :: ts, ds, vs, l, h, r => by
    unfold flatT at h
    cases z : flatT ts with
    | none => rw [z] at h; cases h
    | some ds' =>
      rw [z] at h; cases h
      cases r with
      | cons r1 r2 =>
        cases r1 with
        | d r1 =>
          obtain ⟨a, b⟩ := flatT_rep z r2
          exact ⟨.cons r1 a, by rw [b]; rfl⟩
  | .n _ _ :: ts, ds, vs, l, h, r => by cases h
theorem rep_flatT {K : PySem.W.Frag} {ow : Option World} {H F : Hp} : ∀ {ds : List D} {vs : List V}, DFAll K F vs ds → ORs K ow H F vs (ds.map T.d) []
  | [], _, h => by cases h; exact .nil
  | d :: ds, _, h => by
    cases h with
    | cons h1 h2 =>
      have := ORs.cons (.d h1) (rep_flatT (ow := ow) (H := H) h2)
      simpa using this
def eFlat (g : List C → Option IP) : List C → Option D := fun env => match g env with
  | some ip => (match nodeAt env ip with | some (.n .l ts) => (flatT ts).map .list | some (.d x) => some x | _ => none)
  | none => none
mutual
def viewT : T → Option D
  | .d x => some x
  | .n .l ts => (viewTs ts).map .list
  | .n .t ts => (viewTs ts).map .tuple
  | .n _ _ => none
def viewTs : List T → Option (List D)
  | [] => some []
  | t :: r => (viewT t).bind fun x => (viewTs r).map (x :: ·)
end
mutual
theorem view_rep {K : PySem.W.Frag} {ow : Option World} {H F : Hp} (sub : Same F H) : ∀ (t : T) (v : V) (d : D) (l : List Addr), viewT t = some d → OR K ow H F v t l → Dp K H v d
  | .d x, v, d, l, h, r => by
    unfold viewT at h; cases h
    cases r with
    | d r => exact Dp_mono sub _ _ (DF.dp _ _ r)
  | .n s ts, v, d, l, h, r => by
    cases r with
    | n r1 r2 r3 =>
      cases s with
      | l =>
        unfold viewT at h
        cases z : viewTs ts with
        | none => rw [z] at h; cases h
        | some ds => rw [z] at h; cases h; exact .lst (.inl (.inl r1.2)) (view_reps sub ts _ _ _ z r2)
      | t =>
        unfold viewT at h
        cases z : viewTs ts with
        | none => rw [z] at h; cases h
        | some ds => rw [z] at h; cases h; exact .tup (by
          rcases r1 with ⟨_, h⟩ | ⟨_, h⟩
          · exact .inl (.inl h)
          · exact Same.seqT sub h) (view_reps sub ts _ _ _ z r2)
      | k ks => unfold viewT at h; cases h
      | q ks => unfold viewT at h; cases h
      | o c fs => unfold viewT at h; cases h
      | x c fs => unfold viewT at h; cases h
      | e fs => unfold viewT at h; cases h
      | lf => unfold viewT at h; cases h
      | kf ks => unfold viewT at h; cases h
      | v => unfold viewT at h; cases h
theorem view_reps {K : PySem.W.Frag} {ow : Option World} {H F : Hp} (sub : Same F H) : ∀ (ts : List T) (vs : List V) (ds : List D) (l : List Addr), viewTs ts = some ds → ORs K ow H F vs ts l → DpAll K H vs ds
  | [], vs, ds, l, h, r => by unfold viewTs at h; cases h; cases r; exact .nil
  | t :: ts, vs, ds, l, h, r => by
    cases r with
    | cons r1 r2 =>
      unfold viewTs at h
      cases z : viewT t with
      | none => rw [z] at h; cases h
      | some x =>
        cases z2 : viewTs ts with
        | none => rw [z, z2] at h; cases h
        | some xs =>
          rw [z, z2] at h; cases h
          exact .cons (view_rep sub t _ _ _ z r1) (view_reps sub ts _ _ _ z2 r2)
end
def eView (g : List C → Option IP) : List C → Option D := fun env => match g env with
  | some ip => (match nodeAt env ip with | some t => viewT t | _ => none)
  | none => none
end
end DL
set_option Elab.async false
set_option linter.all false
set_option maxRecDepth 100000
set_option maxHeartbeats 4000000
namespace DL
open PySem PySem.Spec L2

def Fresh (H H' F' : Hp) (l : List Addr) : Prop := ∀ b, b ∈ l → H b = none ∧ F' b = none ∧ H' b ≠ none
structure DN (X : Cx) (G : GC) (e : Expr) (f : List C → Option T) : Prop where
  ex : ∃ t, PE X e t ∧ ∀ (σ : L2.St) (H F : Hp) (fp : Nat → List Addr) (env : List C) (u : T) (Q : VK), Rel X.K G env σ H F fp → f env = some u →
    (∀ v H' F' l, Ext H F H' F' → OR X.K G.w H' F' v u l → Fresh H H' F' l → Q v H') → t σ H Q
structure DNs (X : Cx) (G : GC) (es : List Expr) (f : List C → Option (List T)) : Prop where
  ex : ∃ t, PA X es t ∧ ∀ (σ : L2.St) (H F : Hp) (fp : Nat → List Addr) (env : List C) (us : List T) (Q : List V → Hp → Prop), Rel X.K G env σ H F fp → f env = some us →
    (∀ vs H' F' l, Ext H F H' F' → ORs X.K G.w H' F' vs us l → Fresh H H' F' l → l.Nodup → Q vs H') → t σ H Q
section
variable {X : Cx} {G : GC} {e : Expr} {es : List Expr} {k : RK} {f : List C → Option D} {fn : List C → Option T} {fs : List C → Option (List T)} {pos : Pos}
theorem Fresh.ext {H H1 F1 H' F' : Hp} {l : List Addr} (h : Fresh H H1 F1 l) (E : Ext H1 F1 H' F') : Fresh H H' F' l := fun b hb => by
  obtain ⟨h1, h2, h3⟩ := h b hb
  refine ⟨h1, ?_, ?_⟩
  · cases q : F' b with
    | none => rfl
    | some o =>
      rcases E.new b o q with z | z
      · rw [h2] at z; cases z
      · exact absurd z h3
  · cases q : H1 b with
    | none => exact absurd q h3
    | some o => rw [E.h _ _ q]; intro z; cases z
theorem Fresh.back {H H1 H' F' : Hp} {l : List Addr} (h : Fresh H1 H' F' l) (s : Same H H1) : Fresh H H' F' l := fun b hb => ⟨s.free (h b hb).1, (h b hb).2⟩
def nD (f : List C → Option D) : List C → Option T := fun env => (f env).map T.d
def nL (f : List C → Option D) : List C → Option T := fun env => match f env with | some (.list ds) => some (.n .l (ds.map T.d)) | _ => none
theorem dn_fz (h : DE X G k e f) (hk : k.le .fz = true := by rfl) : DN X G e (nD f) := by
  obtain ⟨t, pt, o⟩ := (h.conv hk).ex
  refine ⟨t, pt, fun σ H F fp env u Q R hf q => ?_⟩
  unfold nD at hf
  cases z : f env with
  | none => rw [z] at hf; cases hf
  | some d =>
    rw [z] at hf; cases hf
    exact o σ H F fp env d Q R z fun v H' F' E r => q v H' F' [] E (.d r) (fun _ m => nomatch m)
theorem dn_ow (h : DE X G .ow e f) : DN X G e (nL f) := by
  obtain ⟨t, pt, o⟩ := h.ex
  refine ⟨t, pt, fun σ H F fp env u Q R hf q => ?_⟩
  unfold nL at hf
  split at hf
  · rename_i ds z
    cases hf
    refine o σ H F fp env _ Q R z fun v H' F' E r => ?_
    obtain ⟨a, vs, ds', rfl, ed, h1, h2, h3, h4⟩ := r
    cases ed
    refine q _ H' F' ([a] ++ []) E (.n ⟨rfl, h2⟩ (rep_flatT h4) (by simp)) fun b hb => ?_
    have e : b = a := by simpa using hb
    subst e
    exact ⟨h1, h3, by rw [h2]; intro z; cases z⟩
  · cases hf
def nsNil : List C → Option (List T) := fun _ => some []
def nsCons (f : List C → Option T) (g : List C → Option (List T)) : List C → Option (List T) := fun env => match f env with
  | some u => (match g env with | some us => some (u :: us) | none => none)
  | none => none
theorem dns_nil : DNs X G [] nsNil := ⟨_, pa_nil, fun σ H F fp env ds Q R hf q => by cases hf; exact q [] H F [] (Ext.refl R.sub) .nil (fun _ m => nomatch m) List.nodup_nil⟩
theorem fresh_apart {H H1 F1 H2 F2 : Hp} {l m : List Addr} (h1 : Fresh H H1 F1 l) (h2 : Fresh H1 H2 F2 m) (n1 : l.Nodup) (n2 : m.Nodup) : (l ++ m).Nodup := by
  rw [List.nodup_append]
  refine ⟨n1, n2, fun a ha b hb e => ?_⟩
  subst e
  exact (h1 a ha).2.2 (h2 a hb).1
theorem dns_cons (h : DN X G e fn) (ht : DNs X G es fs) (hs : starEach (e :: es) X.env = (false, eval e X.env) :: starEach es X.env := by rfl) : DNs X G (e :: es) (nsCons fn fs) := by
  obtain ⟨t, pt, o⟩ := h.ex
  obtain ⟨t2, pt2, o2⟩ := ht.ex
  refine ⟨_, pa_cons pt pt2 hs, fun σ H F fp env ds Q R hf q => ?_⟩
  unfold nsCons at hf
  split at hf
  · rename_i u z
    split at hf
    · rename_i us z2
      cases hf
      refine o σ H F fp env u _ R z fun v H1 F1 l E1 r1 f1 => ?_
      refine o2 σ H1 F1 fp env us _ (R.ext E1) z2 fun vs H2 F2 m E2 r2 f2 n2 => ?_
      refine q (v :: vs) H2 F2 (l ++ m) (E1.trans E2) (.cons (OR_mono E2.f _ _ _ (fun b o _ => E2.h b o) r1) r2) (fun b hb => ?_) (fresh_apart f1 f2 r1.nodup n2)
      rcases List.mem_append.mp hb with z | z
      · exact f1.ext E2 b z
      · exact f2.back E1.h b z
    · cases hf
  · cases hf
def nLst (fs : List C → Option (List T)) : List C → Option T := fun env => (fs env).map (.n .l)
def nTup (fs : List C → Option (List T)) : List C → Option T := fun env => (fs env).map (.n .t)
theorem laid_node {K : PySem.W.Frag} {ow : Option World} {H0 H F : Hp} {s : Shp} {p : Addr} {o : HO} {vs : List V} {us : List T} {l : List Addr} (np : H p = none) (sub : Same F H) (r : ORs K ow H F vs us l) (fr : Fresh H0 H F l) (nd : l.Nodup) (s0 : Same H0 H) (nr : NR K ow (upd H p o) F s p vs [p]) :
    OR K ow (upd H p o) F (.ref p) (.n s us) (p :: l) ∧ Fresh H0 (upd H p o) F (p :: l) := by
  have ne : ∀ b, b ∈ l → b ≠ p := fun b hb z => (fr b hb).2.2 (by rw [z]; exact np)
  refine ⟨.n (own := [p]) nr (ORs_mono (Same.refl _) _ _ _ (fun b o hb e => by rw [upd_ne (ne b hb)]; exact e) r) (by simpa using ⟨fun h => ne p h rfl, nd⟩), fun b hb => ?_⟩
  rcases List.mem_cons.mp hb with rfl | hb
  · exact ⟨s0.free np, sub.free np, by rw [upd_same]; intro z; cases z⟩
  · obtain ⟨h1, h2, h3⟩ := fr b hb
    exact ⟨h1, h2, by rw [upd_ne (ne b hb)]; exact h3⟩
theorem dn_lst (h : DNs X G es fs) (hn : es.length ≤ 1000 := by decide) (hl : ∀ env us, fs env = some us → us.length ≤ 1000) : DN X G (.List es pos) (nLst fs) := by
  obtain ⟨t, pt, o⟩ := h.ex
  refine ⟨_, pe_lst pt, fun σ H F fp env u Q R hf q => ?_⟩
  unfold nLst at hf
  cases z : fs env with
  | none => rw [z] at hf; cases hf
  | some us =>
    rw [z] at hf; cases hf
    refine o σ H F fp env us _ R z fun vs H1 F1 l E1 r fr nd => ?_
    refine ⟨line1000 (by rw [ORs_len r]; exact hl _ _ z), fun p np => ?_⟩
    obtain ⟨r', fr'⟩ := laid_node (s := .l) (o := .lst vs) np E1.sub r fr nd E1.h ⟨rfl, upd_same⟩
    exact q _ _ F1 _ (E1.trans (Ext.laid E1.sub np)) r' fr'
theorem nsNil_len {env : List C} {us : List T} (h : nsNil env = some us) : us.length = 0 := by cases h; rfl
theorem nsCons_len {n : Nat} (hl : ∀ env us, fs env = some us → us.length = n) (env : List C) (us : List T) (h : nsCons fn fs env = some us) : us.length = n + 1 := by
  unfold nsCons at h
  split at h
  · split at h
    · rename_i us' z
      cases h
      rw [List.length_cons, hl _ _ z]
    · cases h
  · cases h
def nDictK : List C → Option T := fun _ => some (.n (.k []) [])
def nDictQ : List C → Option T := fun _ => some (.n (.q []) [])
theorem dn_dictK : DN X G (.Dict [] [] pos) nDictK := by
  refine ⟨_, pe_dnewK, fun σ H F fp env u Q R hf q => ?_⟩
  cases hf
  intro p np
  obtain ⟨r', fr'⟩ := laid_node (K := X.K) (ow := G.w) (H0 := H) (s := .k []) (o := .dK []) (vs := []) (us := []) (l := []) np R.sub .nil (fun _ m => nomatch m) List.nodup_nil (Same.refl _) ⟨rfl, rfl, upd_same⟩
  exact q _ _ F _ (Ext.laid R.sub np) r' fr'
end

structure DX (X : Cx) (G : GC) (e : Expr) (g : List C → Option (List C × T)) : Prop where
  ex : ∃ t, PE X e t ∧ ∀ (σ : L2.St) (H F : Hp) (fp : Nat → List Addr) (env env' : List C) (u : T) (Q : VK), Rel X.K G env σ H F fp → g env = some (env', u) →
    (∀ v H' F' fp' l, Rel X.K G env' σ H' F' fp' → Same F F' → New X.K G H' F' fp' v u l → Q v H') → t σ H Q
structure DTX (X : Cx) (G : GC) (e : Expr) (g : List C → Option (List C × Bool)) : Prop where
  ex : ∃ t, PT X e t ∧ ∀ (σ : L2.St) (H F : Hp) (fp : Nat → List Addr) (env env' : List C) (b : Bool) (Q : Bool → Hp → Prop), Rel X.K G env σ H F fp → g env = some (env', b) →
    (∀ H' F' fp', Rel X.K G env' σ H' F' fp' → Same F F' → Q b H') → t σ H Q
section
variable {X : Cx} {G : GC} {kr k : RK} {e a b : Expr} {sts sts2 : List Stmt} {f : List C → Option D} {fn : List C → Option T} {g : List C → Option (List C × T)} {gt : List C → Option (List C × Bool)} {pos pos' : Pos} {x : Str}
theorem Rel.fresh {K : PySem.W.Frag} {env : List C} {σ : L2.St} {H F H' F' : Hp} {fp : Nat → List Addr} {l : List Addr} {v : V} {u : T} (R : Rel K G env σ H F fp) (E : Ext H F H' F') (r : OR K G.w H' F' v u l) (fr : Fresh H H' F' l) : New K G H' F' fp v u l where
  rep := r
  own := fun a ha => ⟨(fr a ha).2.1, (fr a ha).2.2, R.h0 (fr a ha).1⟩
  dj := fun a ha j hj => (R.own j a hj).2.1 (fr a ha).1
def xN (f : List C → Option T) : List C → Option (List C × T) := fun env => (f env).map fun u => (env, u)
theorem dx_of (h : DN X G e fn) : DX X G e (xN fn) := by
  obtain ⟨t, pt, o⟩ := h.ex
  refine ⟨t, pt, fun σ H F fp env env' u Q R hf q => ?_⟩
  unfold xN at hf
  cases z : fn env with
  | none => rw [z] at hf; cases hf
  | some u' =>
    rw [z] at hf; cases hf
    exact o σ H F fp env _ Q R z fun v H' F' l E r fr => q v H' F' fp l (R.ext E) E.f (R.fresh E r fr)
def toC : T → C
  | .d x => .val x
  | u => .own none u
theorem Rel.putX {K : PySem.W.Frag} {env : List C} {σ : L2.St} {H F : Hp} {fp : Nat → List Addr} {l : List Addr} {v : V} {u : T} (R : Rel K G env σ H F fp) (n : New K G H F fp v u l) (i : Nat) : ∃ fp', Rel K G (env.set i (toC u)) (σ.set i (some v)) H F fp' := by
  cases u with
  | d x =>
    cases n.rep with
    | d r => exact ⟨_, R.put (i := i) (v := v) (c := .val x) (l := []) ⟨rfl, v, rfl, r⟩ (fun _ m => nomatch m) (fun _ m => nomatch m)⟩
  | n s ts =>
    exact ⟨_, R.put (i := i) (v := v) (c := .own none (.n s ts)) (l := l) ⟨v, rfl, n.rep, fun _ h => nomatch h⟩ (fun a ha => n.own a ha) (fun a ha j _ => n.dj a ha j)⟩
def sSetX (i : Nat) (g : List C → Option (List C × T)) : List C → Out := fun env => match g env with | some (env', u) => .nx (env'.set i (toC u)) | none => .err
theorem ds_setX {x : Str} (i : Nat) (hN : X.N.Nodup) (hi : X.N[i]? = some x) (h : DX X G e g) (hx : Loc X.env.scope x := by first | exact .inl rfl | exact .inr rfl) (hs : swapsWith e (some (.Name x pos')) pos.line X.env = pure false := by rfl)
    (hf : X.fn x = true ∨ X.env.scope.names.lookup x = some .local := by first | exact .inl rfl | exact .inr rfl | assumption) : DS X G kr (.Assign [.Name x pos'] e pos) (sSetX i g) := by
  obtain ⟨t, p, o⟩ := h.ex
  refine ⟨_, ps_set hN hi hx p hs hf, fun σ H F fp env E R q => ?_⟩
  unfold sSetX at q
  cases z : g env with
  | none => rw [z] at q; exact q.elim
  | some eu =>
    obtain ⟨env', u⟩ := eu
    rw [z] at q
    refine o σ H F fp env env' u _ R z fun v H' F' fp' l R' s n => ?_
    obtain ⟨fp2, R2⟩ := R'.putX n i
    exact q _ H' F' _ R2 s
def toL : T → Option C
  | .n .l ts => (flatT ts).map .lst
  | _ => none
def sSetXL (i : Nat) (g : List C → Option (List C × T)) : List C → Out := fun env => match g env with | some (env', u) => (match toL u with | some c => .nx (env'.set i c) | none => .err) | none => .err
def sDropX (g : List C → Option (List C × T)) : List C → Out := fun env => match g env with | some (env', _) => .nx env' | none => .err
theorem ds_exprX (h : DX X G e g) (hs : swapsWith e none pos.line X.env = pure false := by rfl) : DS X G kr (.Expr e pos) (sDropX g) := by
  obtain ⟨t, p, o⟩ := h.ex
  refine ⟨_, ps_expr p hs, fun σ H F fp env E R q => ?_⟩
  unfold sDropX at q
  cases z : g env with
  | none => rw [z] at q; exact q.elim
  | some eu =>
    obtain ⟨env', u⟩ := eu
    rw [z] at q
    exact o σ H F fp env env' u _ R z fun v H' F' fp' l R' s n => q σ H' F' fp' R' s
def sRetX (g : List C → Option (List C × T)) : List C → Out := fun env => match g env with | some (env', u) => .rx env' u | none => .err
theorem ds_retX (h : DX X G e g) : DS X G kr (.Return (some e) pos) (sRetX g) := by
  obtain ⟨t, p, o⟩ := h.ex
  refine ⟨_, ps_ret p, fun σ H F fp env E R q => ?_⟩
  unfold sRetX at q
  cases z : g env with
  | none => rw [z] at q; exact q.elim
  | some eu =>
    obtain ⟨env', u⟩ := eu
    rw [z] at q
    exact o σ H F fp env env' u _ R z fun v H' F' fp' l R' s n => q v σ H' F' fp' l R' n
def sRetXN : List C → Out := fun env => .rx env (.d .none)
def sRetO (i : Nat) : List C → Out := fun env => match env[i]? with
  | some (.own none u) => .rx (env.set i .und) u
  | some (.lst ds) => .rx (env.set i .und) (.n .l (ds.map T.d))
  | some (.val d) => .rx env (.d d)
  | _ => .err
def txP (ft : List C → Option Bool) : List C → Option (List C × Bool) := fun env => (ft env).map fun b => (env, b)
theorem dtx_of {ft : List C → Option Bool} (h : DTs X G e ft) : DTX X G e (txP ft) := by
  obtain ⟨t, p, o⟩ := h.ex
  refine ⟨t, p, fun σ H F fp env env' b Q R hf q => ?_⟩
  unfold txP at hf
  cases z : ft env with
  | none => rw [z] at hf; cases hf
  | some c =>
    rw [z] at hf; cases hf
    exact o σ H F fp env _ Q R z fun H' F' E => q H' F' fp (R.ext E) E.f
def txB (g : List C → Option (List C × T)) : List C → Option (List C × Bool) := fun env => match g env with | some (env', .d (.bool b)) => some (env', b) | _ => none
def txNot (gt : List C → Option (List C × Bool)) : List C → Option (List C × Bool) := fun env => match gt env with | some (env', b) => some (env', !b) | none => none
def txCmp (g2 : D → D → Option D) (g : List C → Option (List C × T)) (f : List C → Option D) : List C → Option (List C × Bool) := fun env => match g env with
  | some (env', .d x) => (match f env' with | some y => (match g2 x y with | some (.bool b) => some (env', b) | _ => none) | none => none)
  | _ => none
structure DWX (X : Cx) (G : GC) (e : Expr) (g : List C → Option (List C × Bool)) : Prop where
  ex : ∃ t, PW X e t ∧ ∀ (σ : L2.St) (H F : Hp) (fp : Nat → List Addr) (env env' : List C) (b : Bool) (Q : Bool → Hp → Prop), Rel X.K G env σ H F fp → g env = some (env', b) →
    (∀ H' F' fp', Rel X.K G env' σ H' F' fp' → Same F F' → Q b H') → t σ H Q
theorem DWX.t (h : DWX X G e gt) : DTX X G e gt := let ⟨t, p, o⟩ := h.ex; ⟨t, p.pt, o⟩
def txAnd (f g : List C → Option (List C × Bool)) : List C → Option (List C × Bool) := fun env => match f env with | some (env', true) => g env' | some (env', false) => some (env', false) | none => none
def txOr (f g : List C → Option (List C × Bool)) : List C → Option (List C × Bool) := fun env => match f env with | some (env', true) => some (env', true) | some (env', false) => g env' | none => none
variable {g1 g2 : List C → Option (List C × Bool)} {rest : List Expr}
theorem dwx_or1 (h : DTX X G a g1) : DWX X G (.BoolOp .Or [a] pos) g1 := let ⟨t, p, o⟩ := h.ex; ⟨t, pw_or1 p, o⟩
theorem dwx_or (h : DTX X G a g1) (h2 : DWX X G (.BoolOp .Or (b :: rest) pos) g2) : DWX X G (.BoolOp .Or (a :: b :: rest) pos) (txOr g1 g2) := by
  obtain ⟨t, p, o⟩ := h.ex
  obtain ⟨t2, p2, o2⟩ := h2.ex
  refine ⟨_, pw_or p p2, fun σ H F fp env env' d Q R hf q => ?_⟩
  unfold txOr at hf
  split at hf
  · rename_i e1 z
    cases hf
    exact o σ H F fp env _ _ _ R z fun H1 F1 fp1 R1 s1 => iteT (q H1 F1 fp1 R1 s1)
  · rename_i e1 z
    exact o σ H F fp env _ _ _ R z fun H1 F1 fp1 R1 s1 => iteF (o2 σ H1 F1 fp1 _ _ _ _ R1 hf fun H' F' fp' R' s => q H' F' fp' R' (s1.trans s))
  · cases hf
def sIfX (gt : List C → Option (List C × Bool)) (f g : List C → Out) : List C → Out := fun env => match gt env with | some (env', true) => f env' | some (env', false) => g env' | none => .err
theorem ds_ifX {f g : List C → Out} (hc : DTX X G e gt) (ha : DSs X G kr sts f) (hb : DSs X G kr sts2 g) : DS X G kr (.If e sts sts2 pos) (sIfX gt f g) := by
  obtain ⟨tc, pc, oc⟩ := hc.ex
  obtain ⟨ta, pa, oa⟩ := ha.ex
  obtain ⟨tb, pb, ob⟩ := hb.ex
  refine ⟨_, ps_if pc pa pb, fun σ H F fp env E R q => ?_⟩
  unfold sIfX at q
  split at q
  · rename_i e' z
    exact oc σ H F fp env _ _ _ R z fun H' F' fp' R' s => iteT (oa σ H' F' fp' _ E R' (Post.mono s q))
  · rename_i e' z
    exact oc σ H F fp env _ _ _ R z fun H' F' fp' R' s => iteF (ob σ H' F' fp' _ E R' (Post.mono s q))
  · exact q.elim
end
end DL
set_option Elab.async false
set_option linter.all false
set_option maxRecDepth 100000
set_option maxHeartbeats 4000000
namespace DL
open PySem PySem.Spec L2
section
variable {K : PySem.W.Frag} {ow : Option World} {G : GC} {env : List C} {σ : L2.St} {H F H1 F1 : Hp} {fp : Nat → List Addr} {ip : IP} {v : V} {lu : List Addr} {s : Shp} {ts : List T}
theorem NR.root {H F : Hp} {a : Addr} {vs : List V} {own : List Addr} (h : NR K ow H F s a vs own) : a ∈ own ∧ own.Nodup → a ∈ own := fun h => h.1
theorem NR.mem {H F : Hp} {a : Addr} {vs : List V} {own : List Addr} (h : NR K ow H F s a vs own) (hs : s.cell = true) : a ∈ own := by
  cases s with
  | l => obtain ⟨rfl, _⟩ := h; simp
  | t => cases hs
  | lf => cases hs
  | kf _ => cases hs
  | v => cases hs
  | k ks => obtain ⟨rfl, _⟩ := h; simp
  | q ks => obtain ⟨rfl, _⟩ := h; simp
  | o c fs => obtain ⟨_, _, _, rfl, _⟩ := h; simp
  | e fs => obtain ⟨rfl, _⟩ := h; simp
  | x c fs =>
    obtain ⟨_, _, _, h⟩ := h
    rcases h with ⟨rfl, _⟩ | ⟨_, rfl, _⟩ <;> simp
theorem Rel.store (R : Rel K G env σ H F fp) (P : Place K G env σ H F fp ip (.n s ts) v lu) (hs : s.cell = true := by rfl) : ∃ a vs own l0, v = .ref a ∧ NR K G.w H F s a vs own ∧ ORs K G.w H F vs ts l0 ∧ (own ++ l0).Nodup ∧ (∀ b, b ∈ own ++ l0 → b ∈ fp ip.1) ∧
    ∀ (o' : HO) (s' : Shp) (vs' : List V) (ts' : List T) (l0' : List Addr), NR K G.w (upd H a o') F s' a vs' own → ORs K G.w H F vs' ts' l0' → (own ++ l0').Nodup → (∀ b, b ∈ l0' → b ∈ l0 ∨ ((∀ j, b ∉ fp j) ∧ G.H0 b = none ∧ F b = none ∧ H b ≠ none)) →
      ∃ fp', Rel K G (putAt env ip (.n s' ts')) σ (upd H a o') F fp' := by
  have hrep := P.rep
  have hmem := fun b => @Place.mem _ _ _ _ _ _ _ _ _ _ _ P b
  cases hrep with
  | @n _ a vs _ own l0 h1 h2 h3 =>
    refine ⟨a, vs, own, l0, rfl, h1, h2, h3, fun b hb => hmem b hb, fun o' s' vs' ts' l0' n1 n2 n3 n4 => ?_⟩
    have ao := h1.mem hs
    have na : a ∉ l0' := fun h => by
      rw [List.nodup_append] at n3
      exact n3.2.2 a ao a h rfl
    have fa : F a = none := (R.own ip.1 a (hmem a (by simp [ao]))).1
    obtain ⟨fp', R', _⟩ := R.write2 P (F' := F) (H' := upd H a o') (u' := .n s' ts') (lu' := own ++ l0') (Same.refl _) (fun b x e => by rw [upd_ne (fun z => by rw [z, fa] at e; cases e)]; exact R.sub b x e) (fun _ _ e => .inl e)
      (fun b o hb e => by rw [upd_ne (fun z => hb (by rw [z]; simp [ao]))]; exact e) (fun b hb => by
        by_cases z : b = a
        · rw [z, upd_same]; intro y; cases y
        · rw [upd_ne z]; exact (R.own ip.1 b (hmem b hb)).2.1)
      (.n n1 (ORs_mono (Same.refl _) _ _ _ (fun b o hb e => by rw [upd_ne (fun z => na (by rw [← z]; exact hb))]; exact e) n2) n3) (fun b hb => by
        have al : H b ≠ none → upd H a o' b ≠ none := fun h => by
          by_cases z : b = a
          · rw [z, upd_same]; intro y; cases y
          · rw [upd_ne z]; exact h
        have old : b ∈ own ++ l0 → (b ∈ own ++ l0 ∨ ((∀ j, b ∉ fp j) ∧ G.H0 b = none)) ∧ F b = none ∧ upd H a o' b ≠ none := fun z => by
          obtain ⟨g1, g2, _⟩ := R.own ip.1 b (hmem b z)
          exact ⟨.inl z, g1, al g2⟩
        rcases List.mem_append.mp hb with z | z
        · exact old (by simp [z])
        · rcases n4 b z with y | ⟨y1, y2, y3, y4⟩
          · exact old (by simp [y])
          · exact ⟨.inr ⟨y1, y2⟩, y3, al y4⟩)
    exact ⟨fp', R'⟩
theorem New.ext {v : V} {t : T} {l : List Addr} (n : New K G H F fp v t l) (E : Ext H F H1 F1) : New K G H1 F1 fp v t l where
  rep := OR_mono E.f _ _ _ (fun b o _ => E.h b o) n.rep
  own := fun b hb => by
    obtain ⟨h1, h2, h3⟩ := n.own b hb
    refine ⟨?_, ?_, h3⟩
    · cases q : F1 b with
      | none => rfl
      | some o =>
        rcases E.new b o q with z | z
        · rw [h1] at z; cases z
        · exact absurd z h2
    · cases q : H b with
      | none => exact absurd q h2
      | some o => rw [E.h _ _ q]; intro z; cases z
  dj := n.dj
theorem ORs_snoc {v : V} {u : T} {ln : List Addr} : ∀ {ts : List T} {vs : List V} {l : List Addr}, ORs K ow H F vs ts l → OR K ow H F v u ln → ORs K ow H F (vs ++ [v]) (ts ++ [u]) (l ++ ln)
  | [], _, _, h, r => by cases h; have := ORs.cons r (.nil (K := K) (ow := ow) (H := H) (F := F)); simpa using this
  | t :: ts, _, _, h, r => by
    cases h with
    | cons h1 h2 => have := ORs.cons h1 (ORs_snoc h2 r); simpa using this
theorem set_child {vs : List V} {own l0 ln : List Addr} {j : Nat} {t u : T} {v' : V} (os : ORs K ow H F vs ts l0) (e : ts[j]? = some t) (nd : (own ++ l0).Nodup) (r : OR K ow H F v' u ln) (ap : ∀ b, b ∈ ln → b ∉ own ++ l0) :
    ∃ l0', ORs K ow H F (vs.set j v') (ts.set j u) l0' ∧ (own ++ l0').Nodup ∧ ∀ b, b ∈ l0' → b ∈ l0 ∨ b ∈ ln := by
  obtain ⟨w, lt, l1, l2, rfl, g1, g2, g3⟩ := ORs_at os e
  refine ⟨_, g3 H F v' u ln (Same.refl _) (fun _ _ _ h => h) r, ?_, fun b hb => by simp at hb ⊢; grind⟩
  have := r.nodup
  simp only [List.nodup_append, List.mem_append] at nd ap ⊢
  grind
theorem snoc_nodup {own l0 ln : List Addr} (nd : (own ++ l0).Nodup) (n2 : ln.Nodup) (ap : ∀ b, b ∈ ln → b ∉ own ++ l0) : (own ++ (l0 ++ ln)).Nodup := by
  simp only [List.nodup_append, List.mem_append] at nd ap ⊢
  grind
end
def putO (f : Str) (u : T) (c : Str) (fs : List Str) (ts : List T) : T := match fIx f fs with
  | some j => .n (.o c fs) (ts.set j u)
  | none => .n (.o c (fs ++ [f])) (ts ++ [u])
section
variable {X : Cx} {G : GC} {kr k k2 : RK} {e ei o : Expr} {f fi fe : List C → Option D} {g : List C → Option (List C × T)} {gp : List C → Option IP} {pos p1 p2 p3 pos' : Pos}
def sFldP (c fn : Str) (gp : List C → Option IP) (g : List C → Option (List C × T)) : List C → Out := fun env => match g env with
  | some (env1, u) => (match gp env1 with
    | some ip => (match nodeAt env1 ip with
      | some (.n (.o c' fs) ts) => if c' = c ∧ fs.length < 1000 then .nx (putAt env1 ip (putO fn u c fs ts)) else .err
      | _ => .err)
    | none => .err)
  | none => .err
def sFldAugP (c fn : Str) (g2 : D → D → Option D) (gp : List C → Option IP) (fe : List C → Option D) : List C → Out := fun env => match gp env with
  | some ip => (match nodeAt env ip with
    | some (.n (.o c' fs) ts) => (match fIx fn fs with
      | some j => (match ts[j]? with
        | some (.d x) => (match fe env with
          | some y => (match g2 x y with | some z => if c' = c ∧ fs.length < 1000 then .nx (putAt env ip (putO fn (.d z) c fs ts)) else .err | none => .err)
          | none => .err)
        | _ => .err)
      | none => .err)
    | _ => .err)
  | none => .err
theorem item_store {K : PySem.W.Frag} {env : List C} {σ : L2.St} {H F : Hp} {fp : Nat → List Addr} {ip : IP} {ts : List T} {v y : V} {lu ln : List Addr} {u : T} (R : Rel K G env σ H F fp) (P : Place K G env σ H F fp ip (.n .l ts) v lu) (n : New K G H F fp y u ln) :
    ∃ a vs, v = .ref a ∧ vs.length = ts.length ∧ H a = some (.lst vs) ∧ (∀ m, m < ts.length → ∃ fp', Rel K G (putAt env ip (.n .l (ts.set m u))) σ (upd H a (.lst (vs.set m y))) F fp') ∧ ∃ fp', Rel K G (putAt env ip (.n .l (ts ++ [u]))) σ (upd H a (.lst (vs ++ [y]))) F fp' := by
  obtain ⟨a, vs, own, l0, rfl, nr, os, nd, mem, st⟩ := R.store P
  obtain ⟨rfl, hH⟩ := nr
  have ap : ∀ b, b ∈ ln → b ∉ [a] ++ l0 := fun b hb hm => n.dj b hb ip.1 (mem b hm)
  have nw : ∀ b, b ∈ ln → ((∀ j, b ∉ fp j) ∧ G.H0 b = none ∧ F b = none ∧ H b ≠ none) := fun b hb => ⟨fun j => n.dj b hb j, (n.own b hb).2.2, (n.own b hb).1, (n.own b hb).2.1⟩
  refine ⟨a, vs, rfl, ORs_len os, hH, fun m hm => ?_, ?_⟩
  · obtain ⟨l0', o1, o2, o3⟩ := set_child os (List.getElem?_eq_getElem hm) nd n.rep ap
    exact st _ .l _ _ l0' ⟨rfl, upd_same⟩ o1 o2 fun b hb => (o3 b hb).imp_right (nw b)
  · exact st _ .l _ _ (l0 ++ ln) ⟨rfl, upd_same⟩ (ORs_snoc os n.rep) (snoc_nodup nd n.rep.nodup ap) fun b hb => (List.mem_append.mp hb).imp_right (nw b)
def sIxP (gp : List C → Option IP) (fi : List C → Option D) (g : List C → Option (List C × T)) : List C → Out := fun env => match g env with
  | some (env1, u) => (match gp env1 with
    | some ip => (match nodeAt env1 ip with
      | some (.n .l ts) => (match fi env1 with
        | some (.int j) => (match ixN ts.length j with | some m => .nx (putAt env1 ip (.n .l (ts.set m u))) | none => .err)
        | _ => .err)
      | _ => .err)
    | none => .err)
  | none => .err
theorem ixN_lt {n : Nat} {i : Int} {m : Nat} (h : ixN n i = some m) : m < n := by
  unfold ixN at h
  grind
theorem ds_ixP (ho : DPl X G o gp) (hi : DE X G k2 ei fi) (h : DX X G e g) (hk2 : k2.le .vl = true := by rfl)
    (ha : ∀ v, assign (.Subscript o ei p2) X.env v = (do
      let ov ← holding [v] (eval o X.env)
      let iv ← holding [v, ov] (eval ei X.env)
      standAt p2
      holding [v, ov, iv] (setItem ov iv v)
      release [v, ov, iv] []) := by intro _; rfl)
    (hs : swapsWithSole [.Subscript o ei p2] e pos.line X.env = pure false := by rfl) (hw : swappedStores [.Subscript o ei p2] e X.env = pure none := by rfl)
    (h1 : (assignEach [.Subscript o ei p2] X.env).map (·.2) = [assign (.Subscript o ei p2) X.env] := by rfl) : DS X G kr (.Assign [.Subscript o ei p2] e pos) (sIxP gp fi g) := by
  obtain ⟨tv, pv, ov⟩ := h.ex
  obtain ⟨ta, pa, oa⟩ := ho.ex
  obtain ⟨ti, pi, oi⟩ := (hi.conv hk2).ex
  refine ⟨_, ps_asg pv (pg_sub pa pi set_list ha) hs hw h1, fun σ H F fp env E R q => ?_⟩
  unfold sIxP at q
  split at q
  · rename_i env1 u z
    split at q
    · rename_i ip z1
      split at q
      · rename_i ts z2
        split at q
        · rename_i j zj
          split at q
          · rename_i m zm
            refine ov σ H F fp env env1 u _ R z fun y H1 F1 fp1 ln R1 s1 n1 => ?_
            refine oa σ H1 F1 fp1 env1 ip _ _ R1 z1 z2 fun v lu H2 F2 E2 P => ?_
            have R2 := R1.ext E2
            refine oi σ H2 F2 fp1 env1 _ _ R2 zj fun vi H3 F3 E3 ri => ?_
            have ei := vl_int (G := G) (H := H3) (F := F3) ri
            subst ei
            obtain ⟨a, vs, rfl, hl, hH, st, _⟩ := item_store (R2.ext E3) (P.ext E3) ((n1.ext E2).ext E3)
            obtain ⟨fp', R'⟩ := st m (ixN_lt zm)
            exact ⟨a, vs, j, m, rfl, rfl, hH, by rw [hl]; exact zm, q σ _ F3 fp' R' ((s1.trans E2.f).trans E3.f)⟩
          · exact q.elim
        · exact q.elim
      · exact q.elim
    · exact q.elim
  · exact q.elim
def sAugP (g2 : D → D → Option D) (gp : List C → Option IP) (fi fe : List C → Option D) : List C → Out := fun env => match gp env with
  | some ip => (match nodeAt env ip with
    | some (.n .l ts) => (match fi env with
      | some (.int j) => (match ixN ts.length j with
        | some m => (match ts[m]? with
          | some (.d x) => (match fe env with
            | some y => (match g2 x y with | some z => .nx (putAt env ip (.n .l (ts.set m (.d z)))) | none => .err)
            | none => .err)
          | _ => .err)
        | none => .err)
      | _ => .err)
    | _ => .err)
  | none => .err
def xAppP (gp : List C → Option IP) (fn : List C → Option T) : List C → Option (List C × T) := fun env => match gp env with
  | some ip => (match nodeAt env ip with
    | some (.n .l ts) => (match fn env with | some u => if ts.length < 16000000 then some (putAt env ip (.n .l (ts ++ [u])), .d .none) else none | none => none)
    | _ => none)
  | none => none
theorem dx_appP {fn : List C → Option T} (ho : DPl X G o gp) (h : DN X G e fn) (hs : starEach [e] X.env = [(false, eval e X.env)] := by rfl)
    (hbm : ∀ (r : V → List V → Hp → VK → Prop) (to : TE) (t : TA), MtM X "list.append" r → PE X o to → PA X [e] t → PE X (.Call (.Attribute o "append" p2) [e] [] p3) (tBM X.K "list" r to t) := by exact fun r to t hm ho ha => pe_bm PySem.F.plainAttrs_list PySem.F.slot_list_append PySem.F.type_list_append hm ho ha) : DX X G (.Call (.Attribute o "append" p2) [e] [] p3) (xAppP gp fn) := by
  obtain ⟨tv, pv, ov⟩ := h.ex
  obtain ⟨ta, pa, oa⟩ := ho.ex
  refine ⟨_, hbm _ _ _ mt_append pa (pa_cons pv pa_nil hs), fun σ H F fp env env' u Q R hg q => ?_⟩
  unfold xAppP at hg
  split at hg
  · rename_i ip z1
    split at hg
    · rename_i ts z2
      split at hg
      · rename_i u' zu
        split at hg <;> cases hg
        rename_i hlen
        refine oa σ H F fp env ip _ _ R z1 z2 fun v lu H1 F1 E1 P => ?_
        have R1 := R.ext E1
        have hrep := P.rep
        refine ⟨?_, ?_⟩
        · cases hrep with
          | n r1 r2 r3 => exact .inl ⟨rfl, _, .inl (.inl r1.2)⟩
        refine ov σ H1 F1 fp env u' _ R1 zu fun y H2 F2 ln E2 ry fr => ?_
        have R2 := R1.ext E2
        obtain ⟨a, vs, rfl, hl, hH, _, fp', R'⟩ := item_store R2 (P.ext E2) (R1.fresh E2 ry fr)
        refine ⟨a, vs, y, rfl, rfl, hH, by rw [hl, sizeLine_eq]; omega, ?_⟩
        exact q .non _ F2 fp' [] R' (E1.f.trans E2.f) ⟨.d .non, (fun _ m => nomatch m), (fun _ m => nomatch m)⟩
      · cases hg
    · cases hg
  · cases hg
def xAppX (i : Nat) (g : List C → Option (List C × T)) : List C → Option (List C × T) := fun env => match nodeAt env (i, []), g env with
  | some (.n .l _), some (env1, u) => (match nodeAt env1 (i, []) with
    | some (.n .l ts) => if ts.length < 16000000 then some (putAt env1 (i, []) (.n .l (ts ++ [u])), .d .none) else none
    | _ => none)
  | _, _ => none
def xClearP (gp : List C → Option IP) : List C → Option (List C × T) := fun env => match gp env with
  | some ip => (match nodeAt env ip with
    | some (.n .l ts) => some (putAt env ip (.n .l []), .d .none)
    | some (.d (.list [])) => some (env, .d .none)
    | _ => none)
  | none => none
end
end DL
set_option Elab.async false
set_option linter.all false
set_option maxRecDepth 100000
set_option maxHeartbeats 4000000
namespace DL
open PySem PySem.Spec L2
def kIx : List D → D → Option Nat
  | [], _ => none
  | x :: r, y => if keyN x = keyN y then some 0 else (kIx r y).map (· + 1)
section
variable {K : PySem.W.Frag} {F H : Hp}
end
structure IsKeyD (K : PySem.W.Frag) (H : Hp) (p : Addr) (d : D) (k : NestedKey) : Prop where
  dp : Dp K H (.ref p) d
  key : keyN d = some k
  deep : k.depth ≤ 8
def KeysOk (K : PySem.W.Frag) (H : Hp) (xs : List (NestedKey × Addr × Value)) : Prop := ∀ e, e ∈ xs → e.1.depth ≤ 8 ∧ ∃ d, keyN d = some e.1 ∧ Dp K H (.ref e.2.1) d
section
variable {X : Cx} {o e ek : Expr} {td ty : TE} {pos apos cpos : Pos} {pins : List (Addr × Obj)} {σ : L2.St} {H : Hp} {s : Shared}
def rGetQ (X : Cx) : R2 := fun x y H Q => ∃ a p d k xs q v, x = .ref a ∧ y = .ref p ∧ IsKeyD X.K H p d k ∧ H a = some (dnO X.w a xs) ∧ KeysOk X.K H xs ∧ atKey xs k = some q ∧ RelV v q.2 ∧ Q v H
def tBMQ (X : Cx) (r : V → List V → Hp → VK → Prop) (to : TE) (t : TA) : TE := fun σ H Q => to σ H fun x H1 => (∃ a xs, x = .ref a ∧ H1 a = some (dnO X.w a xs)) ∧ t σ H1 fun vs H2 => r x vs H2 Q
def rPopQ (X : Cx) : V → List V → Hp → VK → Prop := fun x vs H Q => ∃ a p d k xs q v, x = .ref a ∧ vs = [.ref p] ∧ IsKeyD X.K H p d k ∧ H a = some (dnO X.w a xs) ∧ KeysOk X.K H xs ∧ atKey xs k = some q ∧ RelV v q.2 ∧ ((xs.map (·.1)).Nodup → Q v (upd H a (dnO X.w a (withoutH xs k))))
def rPopQ2 (X : Cx) : V → List V → Hp → VK → Prop := fun x vs H Q => ∃ a p d k xs w, x = .ref a ∧ vs = [.ref p, w] ∧ IsKeyD X.K H p d k ∧ H a = some (dnO X.w a xs) ∧ KeysOk X.K H xs ∧
  ((∃ q v, atKey xs k = some q ∧ RelV v q.2 ∧ ((xs.map (·.1)).Nodup → Q v (upd H a (dnO X.w a (withoutH xs k))))) ∨ (atKey xs k = none ∧ Q w H))
def rSetdQ (X : Cx) : V → List V → Hp → VK → Prop := fun x vs H Q => ∃ a p d k xs w, x = .ref a ∧ vs = [.ref p, w] ∧ IsKeyD X.K H p d k ∧ H a = some (dnO X.w a xs) ∧ KeysOk X.K H xs ∧
  ((∃ q v, atKey xs k = some q ∧ RelV v q.2 ∧ Q v H) ∨ (atKey xs k = none ∧ xs.length < 16000000 ∧ ∀ u, RelV w u → Q w (upd H a (dnO X.w a (xs ++ [(k, p, u)])))))
def rSortQ (X : Cx) : List V → Hp → VK → Prop := fun vs H Q => ∃ (F : Hp) (a : Addr) (xs : List (NestedKey × Addr × Value)) (ds : List D), vs = [.ref a] ∧ Same F H ∧ H a = some (dnO X.w a xs) ∧ KeysOk X.K H xs ∧ DFAll X.K F (xs.map fun e => V.ref e.2.1) ds ∧ alikeB ds = true ∧ sortableB ds = true ∧ (ds.all fun d => decide (d.depth ≤ 60)) = true ∧
  ∀ p ws, H p = none → DFAll X.K F ws (ds.mergeSort (W.dataLe false fun d => d)) → Q (.ref p) (upd H p (.lst ws))
end
end DL
set_option Elab.async false
set_option linter.all false
set_option maxRecDepth 100000
set_option maxHeartbeats 4000000
namespace DL
open PySem PySem.Spec L2
section
variable {X : Cx} {G : GC} {kr k k2 : RK} {e ei ek o : Expr} {es : List Expr} {f fi fk fe : List C → Option D} {fs : List C → Option (List D)} {g : List C → Option (List C × T)} {gp : List C → Option IP} {pos p1 p2 p3 pos' : Pos}
def selK (fk : List C → Option D) : List C → Shp → Nat → Option Nat := fun env s _ => match s with
  | .q ks => (match fk env with | some d => if okK d = true then kIx ks d else none | none => none)
  | _ => none
def pK (fk : List C → Option D) (g : List C → Option IP) : List C → Option IP := pChild g (selK fk)
def tInQ (fk : List C → Option D) (gp : List C → Option IP) : List C → Option Bool := fun env => match gp env with
  | some ip => (match nodeAt env ip with
    | some (.n (.q ks) _) => (match fk env with | some d => if okK d = true then some (kIx ks d).isSome else none | none => none)
    | _ => none)
  | none => none
def tNotInQ (fk : List C → Option D) (gp : List C → Option IP) : List C → Option Bool := fun env => (tInQ fk gp env).map (!·)
def xPopQ (gp : List C → Option IP) (fs : List C → Option (List D)) : List C → Option (List C × T) := fun env => match gp env with
  | some ip => (match nodeAt env ip with
    | some (.n (.q ks) ts) => (match fs env with
      | some [d] => if okK d = true then (match kIx ks d with
        | some j => (match ts[j]? with | some (.d x) => some (putAt env ip (.n (.q (ks.eraseIdx j)) (ts.eraseIdx j)), .d x) | _ => none)
        | none => none) else none
      | _ => none)
    | _ => none)
  | none => none
theorem new_d {K : PySem.W.Frag} {H F : Hp} {fp : Nat → List Addr} {v : V} {x : D} (r : DF K F v x) : New K G H F fp v (.d x) [] := ⟨.d r, (fun _ m => nomatch m), (fun _ m => nomatch m)⟩
def xPopQ2 (gp : List C → Option IP) (fs : List C → Option (List D)) : List C → Option (List C × T) := fun env => match gp env with
  | some ip => (match nodeAt env ip with
    | some (.n (.q ks) ts) => (match fs env with
      | some [d, y] => if okK d = true then (match kIx ks d with
        | some j => (match ts[j]? with | some (.d x) => some (putAt env ip (.n (.q (ks.eraseIdx j)) (ts.eraseIdx j)), .d x) | _ => none)
        | none => some (env, .d y)) else none
      | _ => none)
    | _ => none)
  | none => none
def xSetdQ (gp : List C → Option IP) (fs : List C → Option (List D)) : List C → Option (List C × T) := fun env => match gp env with
  | some ip => (match nodeAt env ip with
    | some (.n (.q ks) ts) => (match fs env with
      | some [d, y] => if okK d = true then (match kIx ks d with
        | some j => (match ts[j]? with | some (.d x) => some (env, .d x) | _ => none)
        | none => if ts.length < 16000000 then some (putAt env ip (.n (.q (ks ++ [d])) (ts ++ [.d y])), .d y) else none) else none
      | _ => none)
    | _ => none)
  | none => none
def sPutQ (gp : List C → Option IP) (fk : List C → Option D) (g : List C → Option (List C × T)) : List C → Out := fun env => match g env with
  | some (env1, u) => (match gp env1 with
    | some ip => (match nodeAt env1 ip with
      | some (.n (.q ks) ts) => (match fk env1 with
        | some d => if okK d = true ∧ ts.length < 16000000 then (match kIx ks d with | none => .nx (putAt env1 ip (.n (.q (ks ++ [d])) (ts ++ [u]))) | some _ => .err) else .err
        | none => .err)
      | _ => .err)
    | none => .err)
  | none => .err
def eSortQ (gp : List C → Option IP) : List C → Option D := fun env => match gp env with
  | some ip => (match nodeAt env ip with
    | some (.n (.q ks) _) => gSorted [.list ks]
    | _ => none)
  | none => none
end
end DL
set_option Elab.async false
set_option linter.all false
set_option maxRecDepth 100000
set_option maxHeartbeats 4000000
namespace DL
open PySem PySem.Spec L2
structure DRd (X : Cx) (G : GC) (e : Expr) (r : List C → Option T) : Prop where
  ex : ∃ t, PE X e t ∧ ∀ (σ : L2.St) (H F : Hp) (fp : Nat → List Addr) (env : List C) (u : T) (Q : VK), Rel X.K G env σ H F fp → r env = some u →
    (∀ v l H' F', Ext H F H' F' → OR X.K G.w H' F' v u l → Q v H') → t σ H Q
section
variable {X : Cx} {G : GC} {kr k k2 : RK} {e ei ek o : Expr} {es : List Expr} {f fi fk fe : List C → Option D} {r : List C → Option T} {rs : List C → Option (List T)} {gp : List C → Option IP} {pos p1 p2 p3 pos' : Pos}
def cellT : C → Option T
  | .val d => some (.d d)
  | .lst ds => some (.n .l (ds.map T.d))
  | .own _ t => some t
  | .ro _ t => some t
  | _ => none
def rN (i : Nat) : List C → Option T := fun env => (env[i]?).bind cellT
theorem cell_or {K : PySem.W.Frag} {env : List C} {σ : L2.St} {H F : Hp} {fp : Nat → List Addr} {i : Nat} {u : T} (R : Rel K G env σ H F fp) (h : rN i env = some u) : ∃ v l, σ[i]? = some (some v) ∧ OR K G.w H F v u l := by
  unfold rN at h
  cases e : env[i]? with
  | none => rw [e] at h; cases h
  | some c =>
    rw [e] at h
    have h : cellT c = some u := h
    have q := R.slot i c e
    have join : ∀ v, (σ[i]?).join = some v → σ[i]? = some (some v) := fun v z => by
      cases y : σ[i]? with
      | none => rw [y] at z; cases z
      | some o => rw [y] at z; exact congrArg some z
    cases c with
    | val d => cases h; obtain ⟨_, v, e1, r⟩ := q; exact ⟨v, [], join v e1, .d r⟩
    | lst ds => cases h; obtain ⟨a, vs, q1, q2, q3, q4⟩ := q; exact ⟨.ref a, [a] ++ [], join _ q2, .n ⟨rfl, q3⟩ (rep_flatT q4) (by simp)⟩
    | own m t => cases h; obtain ⟨v, q1, q2, _⟩ := q; exact ⟨v, _, join v q1, q2⟩
    | ro b t => cases h; obtain ⟨_, v, l, q1, q2, _⟩ := q; exact ⟨v, l, join v q1, OR_mono (Same.refl _) _ _ _ (fun b o _ z => R.kpSame b o z) q2⟩
    | und => cases h
    | pin _ => cases h
    | al _ _ => cases h
    | brw d => cases h
    | dK d => cases h
    | dT d => cases h
    | dN d => cases h
theorem dr_name {x : Str} (i : Nat) (h : PE X (.Name x pos) (tVar i)) : DRd X G (.Name x pos) (rN i) := by
  refine ⟨_, h, fun σ H F fp env u Q R hg q => ?_⟩
  obtain ⟨v, l, s1, r⟩ := cell_or R hg
  exact ⟨v, s1, q v l H F (Ext.refl R.sub) r⟩
theorem dr_fz (h : DE X G k e f) (hk : k.le .fz = true := by rfl) : DRd X G e (nD f) := by
  obtain ⟨t, pt, o⟩ := (h.conv hk).ex
  refine ⟨t, pt, fun σ H F fp env u Q R hf q => ?_⟩
  unfold nD at hf
  cases z : f env with
  | none => rw [z] at hf; cases hf
  | some d =>
    rw [z] at hf; cases hf
    exact o σ H F fp env d Q R z fun v H' F' E r => q v [] H' F' E (.d r)
theorem dr_dn {fn : List C → Option T} (h : DN X G e fn) : DRd X G e fn := by
  obtain ⟨t, pt, o⟩ := h.ex
  exact ⟨t, pt, fun σ H F fp env u Q R hf q => o σ H F fp env u Q R hf fun v H' F' l E r _ => q v l H' F' E r⟩
def rChild (r : List C → Option T) (sel : List C → Shp → Nat → Option Nat) : List C → Option T := fun env => match r env with
  | some (.n s ts) => (match sel env s ts.length with | some j => ts[j]? | none => none)
  | _ => none
theorem rChild_of {sel : List C → Shp → Nat → Option Nat} {env : List C} {u : T} (h : rChild r sel env = some u) : ∃ s ts j, r env = some (.n s ts) ∧ sel env s ts.length = some j ∧ ts[j]? = some u := by
  unfold rChild at h
  split at h
  · rename_i s ts z
    split at h
    · rename_i j z2; exact ⟨s, ts, j, z, z2, h⟩
    · cases h
  · cases h
theorem or_child {K : PySem.W.Frag} {ow : Option World} {H F : Hp} {v : V} {s : Shp} {ts : List T} {l : List Addr} {j : Nat} {u : T} (h : OR K ow H F v (.n s ts) l) (e : ts[j]? = some u) :
    ∃ a vs own l0 w lt, v = .ref a ∧ NR K ow H F s a vs own ∧ ORs K ow H F vs ts l0 ∧ vs[j]? = some w ∧ OR K ow H F w u lt := by
  cases h with
  | n r1 r2 r3 =>
    obtain ⟨w, lt, l1, l2, rfl, g1, g2, _⟩ := ORs_at r2 e
    exact ⟨_, _, _, _, w, lt, rfl, r1, r2, g1, g2⟩
def rF (c f : Str) (r : List C → Option T) : List C → Option T := rChild r (selF c f)
def rI (fi : List C → Option D) (r : List C → Option T) : List C → Option T := rChild r (selI fi)
def rK (fk : List C → Option D) (r : List C → Option T) : List C → Option T := rChild r (selK fk)
theorem dr_ix (h : DRd X G e r) (hi : DE X G k ei fi) (hs : PlainIx ei := by exact fun _ _ => rfl) (hk : k.le .vl = true := by rfl) : DRd X G (.Subscript e ei pos) (rI fi r) := by
  obtain ⟨t, pt, o⟩ := h.ex
  obtain ⟨ti, pi, oi⟩ := (hi.conv hk).ex
  refine ⟨_, pe_ix ix_seq pt pi hs, fun σ H F fp env u Q R hg q => ?_⟩
  obtain ⟨s, ts, j, h1, h2, h3⟩ := rChild_of hg
  have go : ∀ i, fi env = some (.int i) → ixN ts.length i = some j → (s = .l ∨ s = .t ∨ s = .lf) → tOp (rIx X.K) t ti σ H Q := fun i h4 h5 hs => by
    refine o σ H F fp env _ _ R h1 fun v l H1 F1 E1 rep => ?_
    refine oi σ H1 F1 fp env _ _ (R.ext E1) h4 fun vi H2 F2 E2 ri => ?_
    have ei := vl_int (G := G) (H := H2) (F := F2) ri
    subst ei
    obtain ⟨a, vs, own, l0, w, lt, rfl, nr, os, hw, r'⟩ := or_child (OR_mono E2.f _ _ _ (fun b o _ => E2.h b o) rep) h3
    have ha : atI vs i = some w := by unfold atI; rw [ORs_len os, h5]; exact hw
    rcases hs with rfl | rfl | rfl
    · exact .inl ⟨a, vs, i, w, rfl, rfl, .inl (.inl nr.2), ha, q w lt H2 F2 (E1.trans E2) r'⟩
    · have st : SqT X.K H2 a vs := by
        rcases nr with ⟨_, h⟩ | ⟨_, h⟩
        · exact .inl (.inl h)
        · exact Same.seqT E2.sub h
      exact .inr (.inl ⟨a, vs, i, w, rfl, rfl, st, ha, q w lt H2 F2 (E1.trans E2) r'⟩)
    · exact .inl ⟨a, vs, i, w, rfl, rfl, .inl (.inl (E2.sub _ _ nr.2)), ha, q w lt H2 F2 (E1.trans E2) r'⟩
  unfold selI at h2
  split at h2
  · split at h2
    · rename_i i h4; exact go i h4 h2 (.inl rfl)
    · cases h2
  · split at h2
    · rename_i i h4; exact go i h4 h2 (.inr (.inr rfl))
    · cases h2
  · split at h2
    · rename_i i h4; exact go i h4 h2 (.inr (.inl rfl))
    · cases h2
  · cases h2
def rLeaf (r : List C → Option T) : List C → Option D := fun env => match r env with | some (.d x) => some x | _ => none
theorem d_rleaf (h : DRd X G e r) : DE X G .fz e (rLeaf r) := by
  obtain ⟨t, pt, o⟩ := h.ex
  refine ⟨t, pt, fun σ H F fp env d Q R hf q => ?_⟩
  unfold rLeaf at hf
  split at hf
  · rename_i x z
    cases hf
    refine o σ H F fp env _ _ R z fun v l H1 F1 E1 rep => ?_
    cases rep with
    | d r => exact q v H1 F1 E1 r
  · cases hf
def flatV1 : T → Option D
  | .d x => some x
  | .n .l ts => (flatT ts).map .list
  | _ => none
def rFlat (r : List C → Option T) : List C → Option D := fun env => (r env).bind flatV1
def rView (r : List C → Option T) : List C → Option D := fun env => (r env).bind viewT
def trIn (fk : List C → Option D) (r : List C → Option T) : List C → Option Bool := fun env => match r env with
  | some (.n (.q ks) _) => (match fk env with | some d => if okK d = true then some (kIx ks d).isSome else none | none => none)
  | _ => none
def trNin (fk : List C → Option D) (r : List C → Option T) : List C → Option Bool := fun env => (trIn fk r env).map (!·)
def rSort (r : List C → Option T) : List C → Option D := fun env => match r env with
  | some (.n (.q ks) _) => gSorted [.list ks]
  | _ => none
structure DRs (X : Cx) (G : GC) (es : List Expr) (rs : List C → Option (List T)) : Prop where
  ex : ∃ t, PA X es t ∧ ∀ (σ : L2.St) (H F : Hp) (fp : Nat → List Addr) (env : List C) (us : List T) (Q : List V → Hp → Prop), Rel X.K G env σ H F fp → rs env = some us →
    (∀ vs H' F', Ext H F H' F' → W.EachIs (fun v u => ∃ l, OR X.K G.w H' F' v u l) vs us → Q vs H') → t σ H Q
theorem drs_nil : DRs X G [] nsNil := ⟨_, pa_nil, fun σ H F fp env us Q R hf q => by cases hf; exact q [] H F (Ext.refl R.sub) .nil⟩
theorem drs_cons (h : DRd X G e r) (ht : DRs X G es rs) (hs : starEach (e :: es) X.env = (false, eval e X.env) :: starEach es X.env := by rfl) : DRs X G (e :: es) (nsCons r rs) := by
  obtain ⟨t, pt, o⟩ := h.ex
  obtain ⟨t2, pt2, o2⟩ := ht.ex
  refine ⟨_, pa_cons pt pt2 hs, fun σ H F fp env ds Q R hf q => ?_⟩
  unfold nsCons at hf
  split at hf
  · rename_i u z
    split at hf
    · rename_i us z2
      cases hf
      refine o σ H F fp env u _ R z fun v l H1 F1 E1 r1 => ?_
      refine o2 σ H1 F1 fp env us _ (R.ext E1) z2 fun vs H2 F2 E2 r2 => ?_
      exact q (v :: vs) H2 F2 (E1.trans E2) (.cons ⟨l, OR_mono E2.f _ _ _ (fun b o _ => E2.h b o) r1⟩ r2)
    · cases hf
  · cases hf
end
end DL
set_option Elab.async false
set_option linter.all false
set_option maxRecDepth 100000
set_option maxHeartbeats 4000000
namespace DL
open PySem PySem.Spec L2
inductive MA (K : PySem.W.Frag) (ow : Option World) (Kp H F : Hp) : List Bool → List V → List T → List (Addr × List Addr) → Prop
  | nil : MA K ow Kp H F [] [] [] []
  | ro {v : V} {u : T} {l : List Addr} {ks : List Bool} {vs : List V} {us : List T} {ws : List (Addr × List Addr)} : OR K ow Kp F v u l → MA K ow Kp H F ks vs us ws → MA K ow Kp H F (false :: ks) (v :: vs) (u :: us) ws
  | mu {a : Addr} {u : T} {l : List Addr} {ks : List Bool} {vs : List V} {us : List T} {ws : List (Addr × List Addr)} : OR K ow H F (.ref a) u l → MA K ow Kp H F ks vs us ws → MA K ow Kp H F (true :: ks) (.ref a :: vs) (u :: us) ((a, l) :: ws)
inductive MU (K : PySem.W.Frag) (ow : Option World) (H F : Hp) : List Bool → List V → List T → List (List Addr) → Prop
  | nil : MU K ow H F [] [] [] []
  | ro {v : V} {ks : List Bool} {vs : List V} {us : List T} {ls : List (List Addr)} : MU K ow H F ks vs us ls → MU K ow H F (false :: ks) (v :: vs) us ls
  | mu {a : Addr} {u : T} {l : List Addr} {ks : List Bool} {vs : List V} {us : List T} {ls : List (List Addr)} : OR K ow H F (.ref a) u l → MU K ow H F ks vs us ls → MU K ow H F (true :: ks) (.ref a :: vs) (u :: us) (l :: ls)
def wAll (ws : List (Addr × List Addr)) : List Addr := ws.flatMap (·.2)
def cut (H : Hp) (W : List Addr) : Hp := fun a => if a ∈ W then none else H a
structure PostM (K : PySem.W.Frag) (w : World) (ks : List Bool) (vs : List V) (H F0 : Hp) (ws : List (Addr × List Addr)) (H' F' : Hp) (us' : List T) (ls' : List (List Addr)) (v : V) (r : T) (lr : List Addr) : Prop where
  f : Same F0 F'
  sub : Same F' H'
  nw : ∀ a o, F' a = some o → F0 a = some o ∨ H a = none
  keep : ∀ b o, b ∉ wAll ws → H b = some o → H' b = some o
  al : ∀ b, b ∈ wAll ws → H' b ≠ none
  mu : MU K (some w) H' F' ks vs us' ls'
  sep : W.EachIs (fun (x : Addr × List Addr) (l : List Addr) => ∀ b, b ∈ l → b ∈ x.2 ∨ H b = none) ws ls'
  own : ∀ b, b ∈ ls'.flatten → F' b = none ∧ H' b ≠ none
  nd : (ls'.flatten ++ lr).Nodup
  res : OR K (some w) H' F' v r lr
  new : ∀ b, b ∈ lr → H b = none ∧ F' b = none ∧ H' b ≠ none
def spM (K : PySem.W.Frag) (w : World) (ks : List Bool) (g : List T → Option (List T × T)) : Sp := fun vs H Q _ => ∃ (F0 : Hp) (us : List T) (ws : List (Addr × List Addr)) (us' : List T) (r : T), Same F0 H ∧ MA K (some w) (cut H (wAll ws)) H F0 ks vs us ws ∧ (wAll ws).Nodup ∧ (∀ b, b ∈ wAll ws → F0 b = none ∧ H b ≠ none) ∧
  g us = some (us', r) ∧ ∀ v H' F' ls' lr, PostM K w ks vs H F0 ws H' F' us' ls' v r lr → Q v H'
def spT (K : PySem.W.Frag) (w : World) (n : Nat) (g : List T → Option T) : Sp := fun vs H Q _ => ∃ (F0 : Hp) (us : List T) (r : T), Same F0 H ∧ vs.length = n ∧ W.EachIs (fun v u => ∃ l, OR K (some w) H F0 v u l) vs us ∧ g us = some r ∧
  ∀ v H' F' l, Ext H F0 H' F' → OR K (some w) H' F' v r l → Fresh H H' F' l → Q v H'
def roC (b : Bool) : T → C
  | .d d => .val d
  | u => .ro b u
def cellsM : List Bool → Nat → List T → List C
  | false :: ks, j, u :: us => roC false u :: cellsM ks j us
  | true :: ks, j, u :: us => .own (some j) u :: cellsM ks (j + 1) us
  | _, _, _ => []
def fpM : List Bool → List (Addr × List Addr) → Nat → List Addr
  | true :: _, w :: _, 0 => w.2
  | true :: ks, _ :: ws, i + 1 => fpM ks ws i
  | false :: ks, ws, i + 1 => fpM ks ws i
  | _, _, _ => []
def muSlots : List Bool → Nat → List Nat
  | [], _ => []
  | true :: ks, i => i :: muSlots ks (i + 1)
  | false :: ks, i => muSlots ks (i + 1)
def collectM : List Bool → Nat → Nat → List C → Option (List T)
  | [], _, _, _ => some []
  | false :: ks, i, j, env => collectM ks (i + 1) j env
  | true :: ks, i, j, env => match env[i]? with
    | some (.own (some j') t) => if j' = j then (collectM ks (i + 1) (j + 1) env).map (t :: ·) else none
    | _ => none
def outM (ks : List Bool) : Out → Option (List T × T)
  | .rx env r => (collectM ks 0 0 env).map fun us => (us, r)
  | .nx env => (collectM ks 0 0 env).map fun us => (us, .d .none)
  | _ => none
def runM (ks : List Bool) (N : Nat) (body : List C → Out) : List T → Option (List T × T) := fun us => outM ks (body (cellsM ks 0 us ++ List.replicate (N - us.length) .und))
mutual
def noL : D → Bool
  | .list _ => false
  | .tuple ds => noLs ds
  | _ => true
def noLs : List D → Bool
  | [] => true
  | d :: ds => noL d && noLs ds
end
mutual
def noT : T → Bool
  | .d x => noL x
  | .n (.q _) _ => false
  | .n .lf _ => false
  | .n .v _ => false
  | .n _ ts => noTs ts
def noTs : List T → Bool
  | [] => true
  | t :: ts => noT t && noTs ts
end
def outT : Out → Option T
  | .rx _ r => if noT r = true then some r else none
  | .nx _ => some (.d .none)
  | _ => none
def runT (N : Nat) (body : List C → Out) : List T → Option T := fun us => outT (body (us.map (roC true) ++ List.replicate (N - us.length) .und))
section
variable {K : PySem.W.Frag} {ow : Option World} {Kp H F H' F' : Hp} {ks : List Bool} {vs : List V} {us us' : List T} {ws : List (Addr × List Addr)}
theorem MA.len (h : MA K ow Kp H F ks vs us ws) : vs.length = ks.length ∧ us.length = ks.length := by
  induction h with
  | nil => exact ⟨rfl, rfl⟩
  | ro _ _ ih => simp [ih.1, ih.2]
  | mu _ _ ih => simp [ih.1, ih.2]
theorem cellsM_len (h : MA K ow Kp H F ks vs us ws) : ∀ j, (cellsM ks j us).length = vs.length := by
  induction h with
  | nil => intro j; rfl
  | ro _ _ ih => intro j; simp [cellsM, ih]
  | mu _ _ ih => intro j; simp [cellsM, ih]
theorem MA.slots {G : GC} (h : MA K G.w G.kp H F ks vs us ws) (sub : Same F H) (kp : Same G.kp H) : ∀ j, (∀ (k : Nat) (x : Addr × List Addr), ws[k]? = some x → G.Ws[j + k]? = some x) → ∀ (i : Nat) (c : C), (cellsM ks j us)[i]? = some c → SlotRep K G H F ((vs.map some)[i]?.join) c (fpM ks ws i) := by
  induction h with
  | nil => intro j _ i c e; simp [cellsM] at e
  | @ro v u l ks vs us ws r _ ih =>
    intro j hw i c e
    cases i with
    | zero =>
      simp [cellsM] at e; subst e
      cases u with
      | d x =>
        cases r with
        | d r => exact ⟨rfl, v, rfl, r⟩
      | n s ts => exact ⟨rfl, v, l, rfl, r, fun h => nomatch h⟩
    | succ i => simpa [fpM] using ih j hw i c (by simpa [cellsM] using e)
  | @mu a u l ks vs us ws r _ ih =>
    intro j hw i c e
    cases i with
    | zero =>
      simp [cellsM] at e; subst e
      exact ⟨.ref a, rfl, r, fun j' hj => by cases hj; exact ⟨a, l, hw 0 _ rfl, rfl, fun b hb => .inl hb⟩⟩
    | succ i => simpa [fpM] using ih (j + 1) (fun k x e => by have := hw (k + 1) x (by simpa using e); rwa [Nat.add_assoc, Nat.add_comm 1 k]) i c (by simpa [cellsM] using e)
theorem MA.fp_own (h : MA K ow Kp H F ks vs us ws) : ∀ (j i : Nat) (b : Addr), b ∈ fpM ks ws i → b ∈ wAll ws ∧ ∃ c, (cellsM ks j us)[i]? = some c ∧ c.mu = true := by
  induction h with
  | nil => intro j i b hb; simp [fpM] at hb
  | ro _ _ ih =>
    intro j i b hb
    cases i with
    | zero => simp [fpM] at hb
    | succ i => obtain ⟨h1, c, h2, h3⟩ := ih j i b (by simpa [fpM] using hb); exact ⟨h1, c, by simpa [cellsM] using h2, h3⟩
  | @mu a u l ks vs us ws r _ ih =>
    intro j i b hb
    cases i with
    | zero => exact ⟨by simp [wAll]; exact .inl (by simpa [fpM] using hb), _, by simp [cellsM]; rfl, rfl⟩
    | succ i => obtain ⟨h1, c, h2, h3⟩ := ih (j + 1) i b (by simpa [fpM] using hb); exact ⟨by simp [wAll] at h1 ⊢; exact .inr h1, c, by simpa [cellsM] using h2, h3⟩
theorem MA.fp_dj (h : MA K ow Kp H F ks vs us ws) : (wAll ws).Nodup → ∀ (i j : Nat) (b : Addr), b ∈ fpM ks ws i → b ∈ fpM ks ws j → i = j := by
  induction h with
  | nil => intro _ i j b hb; simp [fpM] at hb
  | ro _ _ ih =>
    intro nd i j b h1 h2
    cases i with
    | zero => simp [fpM] at h1
    | succ i =>
      cases j with
      | zero => simp [fpM] at h2
      | succ j => rw [ih nd i j b (by simpa [fpM] using h1) (by simpa [fpM] using h2)]
  | @mu a u l ks vs us ws r m ih =>
    intro nd i j b h1 h2
    have nd' : (l ++ wAll ws).Nodup := by simpa [wAll] using nd
    rw [List.nodup_append] at nd'
    cases i with
    | zero =>
      cases j with
      | zero => rfl
      | succ j => exact absurd rfl (nd'.2.2 b (by simpa [fpM] using h1) b (m.fp_own 0 j b (by simpa [fpM] using h2)).1)
    | succ i =>
      cases j with
      | zero => exact absurd rfl (nd'.2.2 b (by simpa [fpM] using h2) b (m.fp_own 0 i b (by simpa [fpM] using h1)).1)
      | succ j => rw [ih nd'.2.1 i j b (by simpa [fpM] using h1) (by simpa [fpM] using h2)]
theorem muSlots_ge : ∀ (ks : List Bool) (i j : Nat), j ∈ muSlots ks i → i ≤ j
  | [], i, j, h => by simp [muSlots] at h
  | true :: ks, i, j, h => by
    rcases List.mem_cons.mp h with rfl | h
    · exact Nat.le_refl _
    · have := muSlots_ge ks (i + 1) j h; omega
  | false :: ks, i, j, h => by have := muSlots_ge ks (i + 1) j h; omega
theorem muSlots_nd : ∀ (ks : List Bool) (i : Nat), (muSlots ks i).Nodup
  | [], i => List.nodup_nil
  | true :: ks, i => by
    unfold muSlots
    rw [List.nodup_cons]
    exact ⟨fun h => by have := muSlots_ge ks (i + 1) i h; omega, muSlots_nd ks (i + 1)⟩
  | false :: ks, i => muSlots_nd ks (i + 1)
theorem MA.exit {G : GC} {env : List C} {σ : L2.St} {H2 F2 : Hp} {fp : Nat → List Addr} (h : MA K ow Kp H F ks vs us ws) (R : Rel K G env σ H2 F2 fp) : ∀ (i j : Nat) (us' : List T), (∀ (k : Nat) (x : Addr × List Addr), ws[k]? = some x → G.Ws[j + k]? = some x) → collectM ks i j env = some us' →
    MU K G.w H2 F2 ks vs us' ((muSlots ks i).map fp) ∧ W.EachIs (fun (x : Addr × List Addr) (l : List Addr) => ∀ b, b ∈ l → b ∈ x.2 ∨ G.H0 b = none) ws ((muSlots ks i).map fp) := by
  induction h with
  | nil => intro i j us' _ e; cases e; exact ⟨.nil, .nil⟩
  | ro _ _ ih =>
    intro i j us' hw e
    obtain ⟨h1, h2⟩ := ih (i + 1) j us' hw (by simpa [collectM] using e)
    exact ⟨.ro h1, h2⟩
  | @mu a u l ks vs us ws r m ih =>
    intro i j us' hw e
    unfold collectM at e
    split at e
    · rename_i j' t e1
      split at e
      · rename_i hj
        subst hj
        cases z : collectM ks (i + 1) (j' + 1) env with
        | none => rw [z] at e; cases e
        | some us2 =>
          rw [z] at e; cases e
          obtain ⟨h1, h2⟩ := ih (i + 1) (j' + 1) us2 (fun k x e => by have := hw (k + 1) x (by simpa using e); rwa [Nat.add_assoc, Nat.add_comm 1 k]) z
          obtain ⟨v, s1, s2, s3⟩ := slot_own R e1
          obtain ⟨ra, rl, w1, w2, w3⟩ := s3 j' rfl
          have := hw 0 _ rfl
          rw [Nat.add_zero, w1] at this
          cases this
          subst w2
          exact ⟨.mu s2 h1, .cons w3 h2⟩
      · cases e
    · cases e
theorem rel_startM {w : World} {N : List Str} {F0 : Hp} (sub : Same F0 H) (m : MA K (some w) (cut H (wAll ws)) H F0 ks vs us ws) (nd : (wAll ws).Nodup) (al : ∀ b, b ∈ wAll ws → F0 b = none ∧ H b ≠ none) :
    Rel K ⟨H, F0, ws, some w⟩ (cellsM ks 0 us ++ List.replicate (N.length - us.length) .und) (L2.start N vs) H F0 (fpM ks ws) := by
  have l1 := cellsM_len m 0
  obtain ⟨m1, m2⟩ := m.len
  have kp : Same (GC.kp ⟨H, F0, ws, some w⟩) H := fun a o e => by
    unfold GC.kp at e
    split at e
    · cases e
    · exact e
  have hk : cut H (wAll ws) = GC.kp ⟨H, F0, ws, some w⟩ := rfl
  have sl := MA.slots (G := ⟨H, F0, ws, some w⟩) m sub kp 0 (fun k x e => by rw [Nat.zero_add]; exact e)
  exact {
    len := by
      unfold L2.start
      rw [List.length_append, List.length_append, List.length_replicate, List.length_replicate, List.length_map, l1, m1, m2]
    slot := fun i c e => by
      by_cases hi : i < (cellsM ks 0 us).length
      · rw [List.getElem?_append_left hi] at e
        unfold L2.start
        rw [List.getElem?_append_left (by rw [List.length_map, ← l1]; exact hi)]
        exact sl i c e
      · rw [List.getElem?_append_right (by omega), List.getElem?_replicate] at e
        split at e
        · cases e
          show fpM ks ws i = []
          cases q : fpM ks ws i with
          | nil => rfl
          | cons b l =>
            obtain ⟨_, c, h2, _⟩ := m.fp_own 0 i b (by rw [q]; simp)
            exact absurd (List.getElem?_eq_some_iff.mp h2).1 hi
        · cases e
    dj := fun i j b h1 h2 => m.fp_dj nd i j b h1 h2
    own := fun i b hb => by
      obtain ⟨h1, c, h2, h3⟩ := m.fp_own 0 i b hb
      obtain ⟨g1, g2⟩ := al b h1
      refine ⟨g1, g2, .inr ⟨h1, c, ?_, h3⟩⟩
      rw [List.getElem?_append_left (List.getElem?_eq_some_iff.mp h2).1]
      exact h2
    sub := sub
    new := fun _ _ e => .inl e
    old := Same.refl _
    keep := fun _ _ e _ => e
    alive := fun _ e => e }
theorem slots_nd {G : GC} {env : List C} {σ : L2.St} {fp : Nat → List Addr} (R : Rel K G env σ H F fp) {ls : List (List Addr)} (hm : MU K ow H' F' ks vs us' ls) : ∀ (L : List Nat), L.Nodup → (∀ i, i ∈ L → (fp i).Nodup) → (L.map fp).flatten.Nodup
  | [], _, _ => List.nodup_nil
  | i :: L, nd, h => by
    rw [List.nodup_cons] at nd
    rw [List.map_cons, List.flatten_cons, List.nodup_append]
    refine ⟨h i (List.mem_cons_self ..), slots_nd R hm L nd.2 (fun j hj => h j (List.mem_cons_of_mem _ hj)), fun a ha b hb e => ?_⟩
    subst e
    obtain ⟨l, hl, hal⟩ := List.mem_flatten.mp hb
    obtain ⟨j, hj, rfl⟩ := List.mem_map.mp hl
    have := R.dj i j a ha hal
    subst this
    exact nd.1 hj
theorem MU.nodup : ∀ {ks : List Bool} {vs : List V} {us : List T} {ls : List (List Addr)}, MU K ow H F ks vs us ls → ∀ l, l ∈ ls → l.Nodup
  | _, _, _, _, .nil, _, h => nomatch h
  | _, _, _, _, .ro m, l, h => MU.nodup m l h
  | _, _, _, _, .mu r m, l, h => by
    rcases List.mem_cons.mp h with rfl | h
    · exact r.nodup
    · exact MU.nodup m l h
end
section
variable {P : Program} {w : World} {K : PySem.W.Frag} {mg : Str → Option Value} {base : Heap}
theorem fn_mu {x qual : Str} {st : Stmt} {f : Addr} {fd : FuncData} {N ps : List Str} {k : Nat} {ks : List Bool} {body : List C → Out} (F : Fun K x qual st f fd) (S : FnScope N ps (defScope st)) (hl : ks.length = ps.length)
    (hbody : ∀ (cdv : Value) (A : Around) (outer : List Env) (s : Shared) (H : Hp) (E : XK) (G : GC), Room k (A.deeper (PyProof.Rows.envOfC qual (defScope st) s.heap.objs.size f cdv)) → G.w = some w →
      DSs (cxOf CX0 P w K mg base N qual (defScope st) f cdv A outer s H E).nox G .fz (defBody st) body) : FnOk P w K mg base CX0 (k + 1) f fd ps (spM K w ks (runM ks N.length body)) := by
  refine F.ok S (fun vs H Q E h => ?_) (fun cdv A outer s H vs Q E hr h => ?_)
  · obtain ⟨F0, us, ws, us', r, sub, m, _⟩ := h
    rw [m.len.1, hl]
  · obtain ⟨F0, us, ws, us', r, sub, m, nd, al, hg, q⟩ := h
    obtain ⟨t, pt, o⟩ := (hbody cdv A outer s H E ⟨H, F0, ws, some w⟩ hr rfl).ex
    refine ⟨t, pt, o _ H F0 _ _ _ (rel_startM (N := N) sub m nd al) ?_⟩
    unfold runM at hg
    have fin : ∀ (env' : List C) (σ' : L2.St) (H' F' : Hp) (fp' : Nat → List Addr) (v : V) (lr : List Addr), Rel K ⟨H, F0, ws, some w⟩ env' σ' H' F' fp' → New K ⟨H, F0, ws, some w⟩ H' F' fp' v r lr → collectM ks 0 0 env' = some us' → Q v H' := fun env' σ' H' F' fp' v lr R n hc => by
      obtain ⟨e1, e2⟩ := m.exit R 0 0 us' (fun k x e => by rw [Nat.zero_add]; exact e) hc
      have inF : ∀ b, b ∈ ((muSlots ks 0).map fp').flatten → ∃ i, b ∈ fp' i := fun b hb => by
        obtain ⟨l, hl, hb⟩ := List.mem_flatten.mp hb
        obtain ⟨i, _, rfl⟩ := List.mem_map.mp hl
        exact ⟨i, hb⟩
      refine q v H' F' _ lr { f := R.old, sub := R.sub, nw := R.new, keep := fun b o hb e => R.keep b o e hb, al := fun b hb => R.alive b (al b hb).2, mu := e1, sep := e2, own := fun b hb => ?_, nd := ?_, res := n.rep, new := fun b hb => ⟨(n.own b hb).2.2, (n.own b hb).1, (n.own b hb).2.1⟩ }
      · obtain ⟨i, hi⟩ := inF b hb
        exact ⟨(R.own i b hi).1, (R.own i b hi).2.1⟩
      · rw [List.nodup_append]
        refine ⟨slots_nd R e1 _ (muSlots_nd ks 0) (fun i hi => e1.nodup _ (List.mem_map.mpr ⟨i, hi, rfl⟩)), n.rep.nodup, fun a ha b hb e => ?_⟩
        subst e
        obtain ⟨i, hi⟩ := inF a ha
        exact n.dj a hb i hi
    unfold outM at hg
    split at hg
    · rename_i env' r' e
      rw [e]
      cases z : collectM ks 0 0 env' with
      | none => rw [z] at hg; cases hg
      | some us2 =>
        rw [z] at hg; cases hg
        exact fun v σ' H' F' fp' l R n => fin env' σ' H' F' fp' v l R n z
    · rename_i env' e
      rw [e]
      cases z : collectM ks 0 0 env' with
      | none => rw [z] at hg; cases hg
      | some us2 =>
        rw [z] at hg; cases hg
        exact fun σ' H' F' fp' R s => fin env' σ' H' F' fp' .non [] R (new_d .non) z
    · cases hg
theorem mu_ro {H F : Hp} : ∀ {n : Nat} {vs : List V} {us : List T} {ls : List (List Addr)}, MU K (some w) H F (List.replicate n false) vs us ls → us = [] ∧ ls = []
  | 0, _, _, _, h => by
    have h : MU K (some w) H F [] _ _ _ := h
    cases h; exact ⟨rfl, rfl⟩
  | n + 1, _, _, _, h => by
    rw [List.replicate_succ] at h
    cases h with
    | ro h => exact mu_ro h
mutual
theorem DF_off {F F' : Hp} (h : ∀ a o, F a = some o → F' a = some o ∨ ∃ vs, o = .lst vs) : ∀ (d : D) (v : V), noL d = true → DF K F v d → DF K F' v d
  | .none, _, _, r => by cases r; exact .non
  | .bool b, _, _, r => by cases r; exact .bl b
  | .int i, _, _, r => by cases r; exact .int i
  | .str x, _, _, r => by cases r; exact .str x
  | .list ds, _, n, _ => by cases n
  | .tuple ds, _, n, r => by
    cases r with
    | @tup a xs _ hs ha =>
      refine .tup ?_ (DFAll_off h ds _ n ha)
      rcases hs with (hs | ⟨o, hs⟩) | hs
      · rcases h _ _ hs with z | ⟨vs, z⟩
        · exact .inl (.inl z)
        · cases z
      · rcases h _ _ hs with z | ⟨vs, z⟩
        · exact .inl (.inr ⟨o, z⟩)
        · cases z
      · exact .inr hs
  | .dict _, _, _, r => by cases r
theorem DFAll_off {F F' : Hp} (h : ∀ a o, F a = some o → F' a = some o ∨ ∃ vs, o = .lst vs) : ∀ (ds : List D) (vs : List V), noLs ds = true → DFAll K F vs ds → DFAll K F' vs ds
  | [], _, _, r => by cases r; exact .nil
  | d :: ds, _, n, r => by
    unfold noLs at n
    rw [Bool.and_eq_true] at n
    cases r with
    | cons r1 r2 => exact .cons (DF_off h d _ n.1 r1) (DFAll_off h ds _ n.2 r2)
end
mutual
theorem OR_off {ow : Option World} {H F F' : Hp} (h : ∀ a o, F a = some o → F' a = some o ∨ ∃ vs, o = .lst vs) : ∀ (t : T) (v : V) (l : List Addr), noT t = true → OR K ow H F v t l → OR K ow H F' v t l
  | .d d, _, _, n, r => by
    cases r with
    | d r => exact .d (DF_off h _ _ n r)
  | .n s ts, _, _, n, r => by
    cases r with
    | n r1 r2 r3 =>
      cases s with
      | l => exact .n r1 (ORs_off h ts _ _ (by simpa [noT] using n) r2) r3
      | t =>
        refine .n ?_ (ORs_off h ts _ _ (by simpa [noT] using n) r2) r3
        rcases r1 with r1 | ⟨r0, r1⟩
        · exact .inl r1
        · refine .inr ⟨r0, ?_⟩
          rcases r1 with (hs | ⟨o, hs⟩) | hs
          · rcases h _ _ hs with z | ⟨vs, z⟩
            · exact .inl (.inl z)
            · cases z
          · rcases h _ _ hs with z | ⟨vs, z⟩
            · exact .inl (.inr ⟨o, z⟩)
            · cases z
          · exact .inr hs
      | k ks => exact .n r1 (ORs_off h ts _ _ (by simpa [noT] using n) r2) r3
      | q ks => simp [noT] at n
      | o c fs => exact .n r1 (ORs_off h ts _ _ (by simpa [noT] using n) r2) r3
      | x c fs => exact .n r1 (ORs_off h ts _ _ (by simpa [noT] using n) r2) r3
      | e fs => exact .n r1 (ORs_off h ts _ _ (by simpa [noT] using n) r2) r3
      | lf => simp [noT] at n
      | v => simp [noT] at n
      | kf ks =>
        refine .n ?_ (ORs_off h ts _ _ (by simpa [noT] using n) r2) r3
        obtain ⟨r0, rl, o, r1⟩ := r1
        refine ⟨r0, rl, o, ?_⟩
        rcases h _ _ r1 with z | ⟨vs, z⟩
        · exact z
        · cases z
theorem ORs_off {ow : Option World} {H F F' : Hp} (h : ∀ a o, F a = some o → F' a = some o ∨ ∃ vs, o = .lst vs) : ∀ (ts : List T) (vs : List V) (l : List Addr), noTs ts = true → ORs K ow H F vs ts l → ORs K ow H F' vs ts l
  | [], _, _, _, r => by cases r; exact .nil
  | t :: ts, _, _, n, r => by
    unfold noTs at n
    rw [Bool.and_eq_true] at n
    cases r with
    | cons r1 r2 => exact .cons (OR_off h t _ _ n.1 r1) (ORs_off h ts _ _ n.2 r2)
end
def frzL (H F : Hp) : Hp := fun a => match F a with
  | some o => some o
  | none => match H a with | some (.lst vs) => some (.lst vs) | _ => none
theorem frzL_sub {H F : Hp} (sub : Same F H) : Same F (frzL H F) ∧ Same (frzL H F) H ∧ ∀ a vs, H a = some (.lst vs) → frzL H F a = some (.lst vs) := by
  refine ⟨fun a o e => ?_, fun a o e => ?_, fun a vs e => ?_⟩
  · unfold frzL; rw [e]
  · unfold frzL at e
    cases q : F a with
    | some o' => rw [q] at e; cases e; exact sub _ _ q
    | none =>
      rw [q] at e
      cases z : H a with
      | none => rw [z] at e; cases e
      | some u => rw [z] at e; cases u <;> first | (cases e; rfl) | cases e
  · unfold frzL
    cases q : F a with
    | some o' => have := sub _ _ q; rw [e] at this; cases this; rfl
    | none => simp only [e]
theorem ro_slots {G : GC} {F1 H : Hp} (hk : G.kp = H) (sub : Same F1 H) : ∀ {vs : List V} {us : List T}, W.EachIs (fun v u => ∃ l, OR K G.w H F1 v u l) vs us → ∀ (i : Nat) (c : C), (us.map (roC true))[i]? = some c → SlotRep K G H (frzL H F1) ((vs.map some)[i]?.join) c []
  | _, _, .nil, i, c, e => by simp at e
  | v :: vs, u :: us, .cons ⟨l, r⟩ t, 0, c, e => by
    simp at e; subst e
    obtain ⟨f, _, fl⟩ := frzL_sub sub
    cases u with
    | d x =>
      cases r with
      | d r => exact ⟨rfl, v, rfl, DF_mono f _ _ r⟩
    | n s ts => exact ⟨rfl, v, l, rfl, by rw [hk]; exact OR_mono f _ _ _ (fun _ _ _ h => h) r, fun _ a ws ha hw => fl a ws (by rw [hk] at hw; exact hw)⟩
  | v :: vs, u :: us, .cons _ t, i + 1, c, e => by simpa using ro_slots hk sub t i c (by simpa using e)
theorem each_len {R : V → T → Prop} : ∀ {vs : List V} {us : List T}, W.EachIs R vs us → vs.length = us.length
  | _, _, .nil => rfl
  | _, _, .cons _ t => by rw [List.length_cons, List.length_cons, each_len t]
theorem rel_startT {N : List Str} {vs : List V} {us : List T} {H F0 : Hp} (sub : Same F0 H) (ro : W.EachIs (fun v u => ∃ l, OR K (some w) H F0 v u l) vs us) :
    Rel K ⟨H, frzL H F0, [], some w⟩ (us.map (roC true) ++ List.replicate (N.length - us.length) .und) (L2.start N vs) H (frzL H F0) (fun _ => []) := by
  have hk : GC.kp ⟨H, frzL H F0, [], some w⟩ = H := by
    funext a
    unfold GC.kp
    exact if_neg List.not_mem_nil
  have sl := ro_slots (G := ⟨H, frzL H F0, [], some w⟩) hk sub ro
  obtain ⟨_, s2, _⟩ := frzL_sub sub
  have hl := each_len ro
  exact {
    len := by
      unfold L2.start
      rw [List.length_append, List.length_append, List.length_replicate, List.length_replicate, List.length_map, List.length_map, hl]
    slot := fun i c e => by
      by_cases hi : i < (us.map (roC true)).length
      · rw [List.getElem?_append_left hi] at e
        unfold L2.start
        rw [List.getElem?_append_left (by rw [List.length_map] at hi ⊢; omega)]
        exact sl i c e
      · rw [List.getElem?_append_right (by omega), List.getElem?_replicate] at e
        split at e
        · cases e; rfl
        · cases e
    dj := fun _ _ _ h => nomatch h
    own := fun _ _ h => nomatch h
    sub := s2
    new := fun _ _ e => .inl e
    old := Same.refl _
    keep := fun _ _ e _ => e
    alive := fun _ e => e }
def unF (H F0 F' : Hp) : Hp := fun a => match F0 a with
  | some o => some o
  | none => match H a with | some (.lst _) => none | _ => F' a
theorem fn_ro {x qual : Str} {st : Stmt} {f : Addr} {fd : FuncData} {N ps : List Str} {k : Nat} {body : List C → Out} (F : Fun K x qual st f fd) (S : FnScope N ps (defScope st))
    (hbody : ∀ (cdv : Value) (A : Around) (outer : List Env) (s : Shared) (H : Hp) (E : XK) (G : GC), Room k (A.deeper (PyProof.Rows.envOfC qual (defScope st) s.heap.objs.size f cdv)) → G.w = some w →
      DSs (cxOf CX0 P w K mg base N qual (defScope st) f cdv A outer s H E).nox G .fz (defBody st) body) : FnOk P w K mg base CX0 (k + 1) f fd ps (spT K w ps.length (runT N.length body)) := by
  refine F.ok S (fun vs H Q E h => ?_) (fun cdv A outer s H vs Q E hr h => ?_)
  · obtain ⟨F0, us, r, sub, hl, _⟩ := h
    exact hl
  · obtain ⟨F0, us, r, sub, hl, ro, hg, q⟩ := h
    obtain ⟨t, pt, o⟩ := (hbody cdv A outer s H E ⟨H, frzL H F0, [], some w⟩ hr rfl).ex
    refine ⟨t, pt, o _ H _ _ _ _ (rel_startT (N := N) sub ro) ?_⟩
    obtain ⟨s1, s2, s3⟩ := frzL_sub sub
    have fin : ∀ (env' : List C) (σ' : L2.St) (H' F' : Hp) (fp' : Nat → List Addr) (v : V) (l : List Addr), Rel K ⟨H, frzL H F0, [], some w⟩ env' σ' H' F' fp' → New K ⟨H, frzL H F0, [], some w⟩ H' F' fp' v r l → noT r = true → Q v H' := fun env' σ' H' F' fp' v l R n hn => by
      have k1 : ∀ a o, F0 a = some o → F' a = some o := fun a o e => R.old _ _ (s1 _ _ e)
      have off : ∀ a o, F' a = some o → unF H F0 F' a = some o ∨ ∃ vs, o = .lst vs := fun a o e => by
        unfold unF
        cases q : F0 a with
        | some o' => left; rw [k1 a o' q] at e; exact e
        | none =>
          cases z : H a with
          | none => left; exact e
          | some u =>
            cases u with
            | lst ws =>
              right
              have := R.old _ _ (s3 a ws z)
              rw [e] at this; cases this
              exact ⟨ws, rfl⟩
            | _ => left; exact e
      refine q v H' (unF H F0 F') l ⟨fun b o e => R.keep b o e List.not_mem_nil, fun a o e => ?_, fun a o e => ?_, fun a o e => ?_⟩ (OR_off off _ _ _ hn n.rep) (fun b hb => ?_)
      · unfold unF; rw [e]
      · unfold unF at e
        cases q : F0 a with
        | some o' => rw [q] at e; cases e; exact R.sub _ _ (k1 _ _ q)
        | none =>
          rw [q] at e
          cases z : H a with
          | none => rw [z] at e; exact R.sub _ _ e
          | some u => rw [z] at e; cases u <;> first | exact R.sub _ _ e | cases e
      · unfold unF at e
        cases q : F0 a with
        | some o' => rw [q] at e; exact .inl e
        | none =>
          rw [q] at e
          right
          cases z : H a with
          | none => rfl
          | some u =>
            rw [z] at e
            have z2 : ∀ (e : F' a = some o), False ∨ ∃ ws, u = .lst ws := fun e => by
              rcases R.new a o e with y | y
              · have y : frzL H F0 a = some o := y
                unfold frzL at y
                rw [q, z] at y
                cases u <;> first | exact .inr ⟨_, rfl⟩ | cases y
              · have y : H a = none := y
                rw [z] at y; cases y
            cases u with
            | lst ws => cases e
            | _ =>
              rcases z2 e with y | ⟨ws, y⟩
              · exact y.elim
              · cases y
      · obtain ⟨n1, n2, n3⟩ := n.own b hb
        refine ⟨n3, ?_, n2⟩
        unfold unF
        cases q : F0 b with
        | some o' => rw [k1 b o' q] at n1; cases n1
        | none =>
          have n3 : H b = none := n3
          rw [n3]; exact n1
    unfold runT at hg
    unfold outT at hg
    split at hg
    · rename_i env' r' e
      rw [e]
      split at hg <;> cases hg
      rename_i hn
      exact fun v σ' H' F' fp' l R n => fin env' σ' H' F' fp' v l R n hn
    · rename_i env' e
      rw [e]
      cases hg
      exact fun σ' H' F' fp' R s => fin env' σ' H' F' fp' .non [] R (new_d .non) rfl
    · cases hg
end
end DL
set_option Elab.async false
set_option linter.all false
set_option maxRecDepth 100000
set_option maxHeartbeats 4000000
namespace DL
open PySem PySem.Spec L2
structure CalT (P : Program) (w : World) (K : PySem.W.Frag) (mg : Str → Option Value) (base : Heap) (k : Nat) (x : Str) (n : Nat) (g : List T → Option T) : Prop where
  ex : ∃ (f : Addr) (fd : FuncData) (ps : List Str), FnOk P w K mg base CX0 k f fd ps (spT K w n g) ∧ mg x = some (.ref f) ∧ PySem.W.keepIn K (.ref f) = true ∧ Binds K fd ps []
structure MetT (P : Program) (w : World) (K : PySem.W.Frag) (mg : Str → Option Value) (base : Heap) (k : Nat) (c m : Str) (n : Nat) (g : List T → Option T) : Prop where
  ex : ∃ (C f : Addr) (fd : FuncData) (ps : List Str), PySem.W.nsIn K mainGlobals c = some (some (.ref C)) ∧ Cls K C ∧ Meth K C m f ∧ FnOk P w K mg base CX0 k f fd ps (spT K w n g) ∧ Binds K fd ps []
structure MetM (P : Program) (w : World) (K : PySem.W.Frag) (mg : Str → Option Value) (base : Heap) (k : Nat) (c m : Str) (n : Nat) (g : List T → Option (List T × T)) : Prop where
  ex : ∃ (C f : Addr) (fd : FuncData) (ps : List Str), PySem.W.nsIn K mainGlobals c = some (some (.ref C)) ∧ Cls K C ∧ Meth K C m f ∧ FnOk P w K mg base CX0 k f fd ps (spM K w (true :: List.replicate n false) g) ∧ Binds K fd ps []
structure MakM (P : Program) (w : World) (K : PySem.W.Frag) (mg : Str → Option Value) (base : Heap) (k : Nat) (c : Str) (n : Nat) (g : List T → Option (List T × T)) : Prop where
  ex : ∃ (C f : Addr) (fd : FuncData) (ps : List Str), PySem.W.nsIn K mainGlobals c = some (some (.ref C)) ∧ mg c = some (.ref C) ∧ Mk K C f ∧ FnOk P w K mg base CX0 k f fd ps (spM K w (true :: List.replicate n false) g) ∧ Binds K fd ps []
section
variable {K : PySem.W.Frag} {w : World} {G : GC} {env : List C} {σ : L2.St} {H F H' F' : Hp} {fp : Nat → List Addr}
theorem mu_one {n : Nat} {a : Addr} {vs : List V} {us : List T} {ls : List (List Addr)} (h : MU K (some w) H F (true :: List.replicate n false) (.ref a :: vs) us ls) : ∃ u l, us = [u] ∧ ls = [l] ∧ OR K (some w) H F (.ref a) u l := by
  cases h with
  | mu r h =>
    obtain ⟨rfl, rfl⟩ := mu_ro h
    exact ⟨_, _, rfl, rfl, r⟩
theorem Rel.called {ip : IP} {u r : T} {a : Addr} {lu lr : List Addr} {n : Nat} {vs : List V} {us' : List T} {ls' : List (List Addr)} {v : V} (hw : G.w = some w) (R : Rel K G env σ H F fp) (P : Place K G env σ H F fp ip u (.ref a) lu)
    (p : PostM K w (true :: List.replicate n false) (.ref a :: vs) H F [(a, lu)] H' F' us' ls' v r lr) : ∃ u' fp', us' = [u'] ∧ Rel K G (putAt env ip u') σ H' F' fp' ∧ New K G H' F' fp' v r lr := by
  obtain ⟨u', l', rfl, rfl, rep⟩ := mu_one p.mu
  have hwa : wAll [(a, lu)] = lu := by simp [wAll]
  have sep : ∀ b, b ∈ l' → b ∈ lu ∨ H b = none := by
    cases p.sep with
    | cons h _ => exact h
  have own : ∀ b, b ∈ l' → F' b = none ∧ H' b ≠ none := fun b hb => p.own b (by simpa using hb)
  have nd : (l' ++ lr).Nodup := by simpa using p.nd
  have fr : ∀ b, H b = none → (∀ j, b ∉ fp j) := fun b hb j hj => (R.own j b hj).2.1 hb
  obtain ⟨fp', R', q1, q2⟩ := R.write2 P (H' := H') (F' := F') (u' := u') (lu' := l') p.f p.sub p.nw (fun b o hb e => p.keep b o (by rw [hwa]; exact hb) e) (fun b hb => p.al b (by rw [hwa]; exact hb)) (by rw [hw]; exact rep)
    (fun b hb => ⟨(sep b hb).imp_right fun z => ⟨fr b z, R.h0 z⟩, own b hb⟩)
  refine ⟨u', fp', rfl, R', ⟨by rw [hw]; exact p.res, fun b hb => ⟨(p.new b hb).2.1, (p.new b hb).2.2, R.h0 (p.new b hb).1⟩, fun b hb j hj => ?_⟩⟩
  have hbn := (p.new b hb).1
  by_cases hji : j = ip.1
  · subst hji
    rcases q2 b hj with z | z
    · exact fr b hbn _ z
    · rw [List.nodup_append] at nd
      exact nd.2.2 b z b hb rfl
  · rw [q1 j hji] at hj
    exact fr b hbn j hj
end
section
variable {X : Cx} {G : GC} {kr k k2 : RK} {e ei ek o : Expr} {es : List Expr} {f fi fk fe : List C → Option D} {r : List C → Option T} {rs : List C → Option (List T)} {gp : List C → Option IP} {pos p1 p2 p3 pos' p apos : Pos} {n lv : Nat} {c m x : Str}
def nCall (g : List T → Option T) (rs : List C → Option (List T)) : List C → Option T := fun env => (rs env).bind g
theorem dn_callT {g : List T → Option T} (cal : CalT X.prog X.w X.K X.mg X.base lv x n g) (hw : G.w = some X.w) (hr : Room lv X.A) (hg : Gl X x) (h : DRs X G (e :: es) rs) (hn : (e :: es).length = n := by rfl) (hdb : (x == ("__debug__" : Str)) = false := by decide)
    (hl : ∀ env us, rs env = some us → us.length = n) (he : starEach (e :: es) X.env = (false, eval e X.env) :: starEach es X.env := by rfl) (hpl : (backTo pos (starEach es X.env)).any (·.1) = false := by rfl) : DN X G (.Call (.Name x p) (e :: es) [] pos) (nCall g rs) := by
  obtain ⟨fa, fd, ps, F, hm, kp, b⟩ := cal.ex
  obtain ⟨t, pt, oa⟩ := h.ex
  refine ⟨_, pe_call F hr hg hm kp b .nil pass0 pt hdb he hpl, fun σ H F fp env u Q R hf q => ?_⟩
  unfold nCall at hf
  cases z : rs env with
  | none => rw [z] at hf; cases hf
  | some us =>
    rw [z] at hf
    refine oa σ H F fp env us _ R z fun vs H1 F1 E1 r1 => ?_
    rw [List.append_nil]
    rw [hw] at r1
    exact ⟨F1, us, u, E1.sub, by rw [each_len r1]; exact hl _ _ z, r1, hf, fun v H' F' l E ro fr => q v H' F' l (E1.trans E) (by rw [hw]; exact ro) (fr.back E1.h)⟩
def nMeth (c m : Str) (g : List T → Option T) (r : List C → Option T) (rs : List C → Option (List T)) : List C → Option T := fun env => match r env with
  | some (.n (.o c' fs) ts) => if c' = c ∧ fIx m fs = none then (match rs env with | some us => g (.n (.o c fs) ts :: us) | none => none) else none
  | _ => none
def xMeth (c m : Str) (g : List T → Option (List T × T)) (gp : List C → Option IP) (rs : List C → Option (List T)) : List C → Option (List C × T) := fun env => match gp env with
  | some ip => (match nodeAt env ip with
    | some (.n (.o c' fs) ts) => if c' = c ∧ fIx m fs = none then (match rs env with
      | some us => (match flatT us, g (.n (.o c fs) ts :: us) with
        | some _, some ([u'], y) => some (putAt env ip u', y)
        | _, _ => none)
      | none => none) else none
    | _ => none)
  | none => none
def xMethX (c m : Str) (g : List T → Option (List T × T)) (i : Nat) (gx : List C → Option (List C × T)) : List C → Option (List C × T) := fun env => match nodeAt env (i, []), gx env with
  | some (.n (.o c0 fs0) _), some (env1, .d y) => if c0 = c ∧ fIx m fs0 = none then (match nodeAt env1 (i, []) with
    | some (.n (.o c' fs) ts) => (match g (.n (.o c' fs) ts :: [.d y]) with
        | some ([u'], z) => some (putAt env1 (i, []) u', z)
        | _ => none)
    | _ => none) else none
  | _, _ => none
def nMake (c : Str) (g : List T → Option (List T × T)) (rs : List C → Option (List T)) : List C → Option T := fun env => match rs env with
  | some us => (match g (.n (.o c []) [] :: us) with | some ([u'], .d .none) => some u' | _ => none)
  | none => none
end
end DL
set_option Elab.async false
set_option linter.all false
set_option maxRecDepth 100000
set_option maxHeartbeats 4000000
namespace DL
open PySem PySem.Spec L2
section
variable {X : Cx} {G : GC} {tg iter e e2 elt : Expr} {k k2 kr : RK} {f f2 : List C → Option D} {fn : List C → Option T} {p pos : Pos} {ft : List C → Option Bool}
def tNn (K : PySem.W.Frag) (G : GC) (f : List C → Option T) : TE := fun σ H Q => ∃ (F : Hp) (fp : Nat → List Addr) (env : List C) (u : T), Rel K G env σ H F fp ∧ f env = some u ∧ ∀ v H' F' l, Ext H F H' F' → OR K G.w H' F' v u l → Fresh H H' F' l → Q v H'
theorem DN.canon (h : DN X G e fn) : PE X e (tNn X.K G fn) := by
  obtain ⟨t, p, o⟩ := h.ex
  exact ⟨fun pins s σ H Q I ⟨F, fp, env, d, R, hf, q⟩ => p.run pins s σ H Q I (o σ H F fp env d Q R hf q)⟩
def lcT (g : D → List C → Option (List C)) (tt : List C → Option Bool) (fe : List C → Option T) (env : List C) : List D → Option (List T)
  | [] => some []
  | d :: ds => (g d env).bind fun e => (tt e).bind fun b => if b = true then (fe e).bind fun y => (lcT g tt fe env ds).map (y :: ·) else lcT g tt fe env ds
def nLc (vs : List Nat) (fi : List C → Option (List D)) (g : D → List C → Option (List C)) (tt : List C → Option Bool) (fe : List C → Option T) : List C → Option T := fun env => (fi env).bind fun items => (lcT g tt fe (wipeE env vs) items).map (.n .l)
def sSetN (i : Nat) (f : List C → Option T) : List C → Out := fun env => match f env with | some u => .nx (env.set i (toC u)) | none => .err
theorem OR.alive {K : PySem.W.Frag} {ow : Option World} {H F : Hp} : ∀ (t : T) {v : V} {l : List Addr}, OR K ow H F v t l → ∀ b, b ∈ l → H b ≠ none := by
  intro t
  exact OR.rec (motive_1 := fun v t l _ => ∀ b, b ∈ l → H b ≠ none) (motive_2 := fun vs ts l _ => ∀ b, b ∈ l → H b ≠ none) (fun _ b hb => nomatch hb) (fun {s a vs ts own l} nr _ _ ih b hb => by
    rcases List.mem_append.mp hb with z | z
    · cases s with
      | l => obtain ⟨rfl, h⟩ := nr; rw [List.mem_singleton.mp z, h]; intro y; cases y
      | t =>
        rcases nr with ⟨rfl, h⟩ | ⟨rfl, _⟩
        · rw [List.mem_singleton.mp z, h]; intro y; cases y
        · cases z
      | k ks => obtain ⟨rfl, _, h⟩ := nr; rw [List.mem_singleton.mp z, h]; intro y; cases y
      | q ks => obtain ⟨rfl, _, _, _, h, _⟩ := nr; rw [List.mem_singleton.mp z, h]; intro y; cases y
      | o c fs =>
        obtain ⟨_, C, dx, rfl, _, h, h2⟩ := nr
        rcases List.mem_cons.mp z with rfl | z
        · rw [h]; intro y; cases y
        · rw [List.mem_singleton.mp z, h2]; intro y; cases y
      | e fs => obtain ⟨rfl, _, h⟩ := nr; rw [List.mem_singleton.mp z, h]; intro y; cases y
      | lf => obtain ⟨rfl, _⟩ := nr; cases z
      | v => obtain ⟨rfl, _⟩ := nr; cases z
      | kf _ => obtain ⟨rfl, _⟩ := nr; cases z
      | x c fs =>
        obtain ⟨_, C, _, h⟩ := nr
        rcases h with ⟨rfl, _, h⟩ | ⟨dx, rfl, h, h2⟩
        · rw [List.mem_singleton.mp z, h]; intro y; cases y
        · rcases List.mem_cons.mp z with rfl | z
          · rw [h]; intro y; cases y
          · rw [List.mem_singleton.mp z, h2]; intro y; cases y
    · exact ih b z) (fun b hb => nomatch hb) (fun _ _ ih1 ih2 b hb => by
    rcases List.mem_append.mp hb with z | z
    · exact ih1 b z
    · exact ih2 b z)
mutual
theorem view_fz {K : PySem.W.Frag} {ow : Option World} {H F F1 : Hp} (f : Same F F1) : ∀ (t : T) (v : V) (d : D) (l : List Addr), (∀ b o, b ∈ l → H b = some o → F1 b = some o) → viewT t = some d → OR K ow H F v t l → DF K F1 v d
  | .d x, v, d, l, _, h, r => by
    unfold viewT at h; cases h
    cases r with
    | d r => exact DF_mono f _ _ r
  | .n s ts, v, d, l, k, h, r => by
    cases r with
    | n r1 r2 r3 =>
      cases s with
      | l =>
        unfold viewT at h
        cases z : viewTs ts with
        | none => rw [z] at h; cases h
        | some ds =>
          rw [z] at h; cases h
          obtain ⟨rfl, r1⟩ := r1
          exact .lst (k _ _ (by simp) r1) (view_fzs f ts _ _ _ (fun b o hb => k b o (by simp [hb])) z r2)
      | t =>
        unfold viewT at h
        cases z : viewTs ts with
        | none => rw [z] at h; cases h
        | some ds =>
          rw [z] at h; cases h
          refine .tup ?_ (view_fzs f ts _ _ _ (fun b o hb => k b o (by simp [hb])) z r2)
          rcases r1 with ⟨rfl, r1⟩ | ⟨rfl, r1⟩
          · exact .inl (.inl (k _ _ (by simp) r1))
          · exact Same.seqT f r1
      | k ks => unfold viewT at h; cases h
      | q ks => unfold viewT at h; cases h
      | o c fs => unfold viewT at h; cases h
      | x c fs => unfold viewT at h; cases h
      | e fs => unfold viewT at h; cases h
      | lf => unfold viewT at h; cases h
      | kf ks => unfold viewT at h; cases h
      | v => unfold viewT at h; cases h
theorem view_fzs {K : PySem.W.Frag} {ow : Option World} {H F F1 : Hp} (f : Same F F1) : ∀ (ts : List T) (vs : List V) (ds : List D) (l : List Addr), (∀ b o, b ∈ l → H b = some o → F1 b = some o) → viewTs ts = some ds → ORs K ow H F vs ts l → DFAll K F1 vs ds
  | [], vs, ds, l, _, h, r => by unfold viewTs at h; cases h; cases r; exact .nil
  | t :: ts, vs, ds, l, k, h, r => by
    cases r with
    | cons r1 r2 =>
      unfold viewTs at h
      cases z : viewT t with
      | none => rw [z] at h; cases h
      | some x =>
        cases z2 : viewTs ts with
        | none => rw [z, z2] at h; cases h
        | some xs =>
          rw [z, z2] at h; cases h
          exact .cons (view_fz f t _ _ _ (fun b o hb => k b o (by simp [hb])) z r1) (view_fzs f ts _ _ _ (fun b o hb => k b o (by simp [hb])) z2 r2)
end
def GC.frz (G : GC) (F1 : Hp) : GC := ⟨G.H0, F1, G.Ws, G.w⟩
def putFz (i : Nat) (env : List C) : Option (List C) := match env[i]? with
  | some (.own _ t) => (viewT t).map fun d => env.set i (.val d)
  | some (.lst ds) => some (env.set i (.val (.list ds)))
  | some (.val _) => some env
  | _ => none
def eFv (i : Nat) (f : List C → Option D) : List C → Option D := fun env => match putFz i env with | some env' => flatO (f env') | none => none
def tFv (i : Nat) (ft : List C → Option Bool) : List C → Option Bool := fun env => (putFz i env).bind ft
structure DRo (X : Cx) (G : GC) (e : Expr) (r : List C → Option T) : Prop where
  ex : ∃ t, PE X e t ∧ ∀ (σ : L2.St) (H F : Hp) (fp : Nat → List Addr) (env : List C) (u : T) (Q : VK), Rel X.K G env σ H F fp → r env = some u →
    (∀ v l H' F', Ext H F H' F' → OR X.K G.w G.kp F' v u l → (∀ a vs, a ∈ l → G.kp a = some (.lst vs) → F' a = some (.lst vs)) → Q v H') → t σ H Q
def roN (i : Nat) : List C → Option T := fun env => match env[i]? with | some (.ro true t) => some t | _ => none
def eOw (fn : List C → Option T) : List C → Option D := fun env => match fn env with | some (.n .l ts) => (flatT ts).map .list | _ => none
end
end DL
set_option Elab.async false
set_option linter.all false
set_option maxRecDepth 100000
set_option maxHeartbeats 4000000
namespace DL
open PySem PySem.Spec L2
section
variable {K : PySem.W.Frag} {w : World} {G : GC} {env : List C} {σ : L2.St} {H F H' F' : Hp} {fp : Nat → List Addr} {X : Cx}
def OneOk (K : PySem.W.Frag) (H : Hp) : Prop := (∀ a xs ys, SqT K H a xs → SqT K H a ys → xs = ys) ∧ ∀ a xs ys, H a = some (.lst xs) → SqT K H a ys → False
theorem pe_one {e : Expr} {t : TE} (h : PE X e t) : PE X e (fun σ H Q => t σ H (fun v H' => OneOk X.K H' → Q v H')) := ⟨fun pins s σ H Q I hq => thn (h.run pins s σ H _ I hq) fun u s' ⟨v, H', I', rv, q⟩ => ⟨v, H', I', rv, q ⟨fun a xs ys h1 h2 => I'.tuple_inj h1 h2, fun a xs ys h1 h2 => by
  obtain ⟨its, r, ⟨o, n, e, hc, _, d⟩, _⟩ := I'.list (SqL.of h1)
  obtain ⟨its', r', ⟨o', e', hc', n', d'⟩, _⟩ := I'.tuple h2
  rw [e] at e'; cases e'
  rw [hc] at hc'
  injection hc' with z
  exact absurd z (by decide)⟩⟩⟩
theorem lst_tup {a : Addr} {xs ys : List V} (ok : OneOk K H) (sub : Same F H) (h1 : F a = some (.lst xs)) (h2 : SqT K F a ys) : False := ok.2 a xs ys (sub _ _ h1) (Same.seqT sub h2)
mutual
theorem DF_one (ok : OneOk K H) (sub : Same F H) : ∀ (d e : D) (v : V), DF K F v d → DF K F v e → d = e
  | .none, e, v, h, h' => by cases h; cases h'; rfl
  | .bool b, e, v, h, h' => by cases h; cases h'; rfl
  | .int i, e, v, h, h' => by cases h; cases h'; rfl
  | .str x, e, v, h, h' => by cases h; cases h'; rfl
  | .list ds, e, v, h, h' => by
    cases h with
    | @lst a xs _ h1 h2 =>
      cases h' with
      | @lst _ ys es g1 g2 =>
        rw [h1] at g1; cases g1
        rw [DFAll_one ok sub ds es xs h2 g2]
      | @tup _ ys es g1 g2 => exact (lst_tup ok sub h1 g1).elim
  | .tuple ds, e, v, h, h' => by
    cases h with
    | @tup a xs _ h1 h2 =>
      cases h' with
      | @lst _ ys es g1 g2 => exact (lst_tup ok sub g1 h1).elim
      | @tup _ ys es g1 g2 =>
        have := ok.1 a xs ys (Same.seqT sub h1) (Same.seqT sub g1)
        subst this
        rw [DFAll_one ok sub ds es xs h2 g2]
  | .dict _, _, _, h, _ => by cases h
theorem DFAll_one (ok : OneOk K H) (sub : Same F H) : ∀ (ds es : List D) (vs : List V), DFAll K F vs ds → DFAll K F vs es → ds = es
  | [], es, vs, h, h' => by cases h; cases h'; rfl
  | d :: ds, es, vs, h, h' => by
    cases h with
    | cons h1 h2 =>
      cases h' with
      | cons g1 g2 => rw [DF_one ok sub d _ _ h1 g1, DFAll_one ok sub ds _ _ h2 g2]
end
open Classical in
noncomputable def oneL (F : Hp) (b : Addr) : Hp := fun a => match F a with
  | some (HO.lst vs) => if a = b then some (HO.lst vs) else none
  | o => o
open Classical in
noncomputable def nCallF (g : List D → Option D) (fs : List C → Option (List D)) : List C → Option T := fun env => match fs env with
  | some [.list as, .int n] => (match g [.list as, .int n] with
    | some (.tuple [.str s, .list es]) => if noLs as = true ∧ noLs es = true then (if as = es then (if es = [] then some (.n .t [.d (.str s), .d (.list [])]) else none) else some (.n .t [.d (.str s), .n .l (es.map .d)])) else none
    | _ => none)
  | _ => none
def gNotB : D → D → Option D | .bool a, .bool b => some (.bool (!decide (a = b))) | _, _ => none
end
end DL
set_option Elab.async false
set_option linter.all false
set_option maxRecDepth 100000
set_option maxHeartbeats 4000000
namespace DL
open PySem PySem.Spec L2
inductive MAs (K : PySem.W.Frag) (env : List C) (σ : L2.St) (F : Hp) : List Bool → List Nat → List V → List T → Prop
  | nil : MAs K env σ F [] [] [] []
  | ro {v : V} {d : D} {ks : List Bool} {sl : List Nat} {vs : List V} {us : List T} : DF K F v d → MAs K env σ F ks sl vs us → MAs K env σ F (false :: ks) sl (v :: vs) (.d d :: us)
  | mu {i : Nat} {m : Option Nat} {s : Shp} {ts : List T} {v : V} {ks : List Bool} {sl : List Nat} {vs : List V} {us : List T} : env[i]? = some (.own m (.n s ts)) → σ[i]? = some (some v) → MAs K env σ F ks sl vs us → MAs K env σ F (true :: ks) (i :: sl) (v :: vs) (.n s ts :: us)
def putsN : List Nat → List T → List C → List C
  | i :: sl, u :: us, env => putsN sl us (putAt env (i, []) u)
  | _, _, env => env
def fpN : List Nat → List (List Addr) → (Nat → List Addr) → Nat → List Addr
  | i :: sl, l :: ls, fp => fpN sl ls (fset fp i l)
  | _, _, fp => fp
section
variable {K : PySem.W.Frag} {w : World} {G : GC} {env : List C} {σ : L2.St} {H F H' F' : Hp} {fp : Nat → List Addr} {ks : List Bool} {sl : List Nat} {vs : List V} {us us' : List T} {ls' : List (List Addr)} {ws : List (Addr × List Addr)}
theorem MAs.mono (f : Same F F') (h : MAs K env σ F ks sl vs us) : MAs K env σ F' ks sl vs us := by
  induction h with
  | nil => exact .nil
  | ro h _ ih => exact .ro (DF_mono f _ _ h) ih
  | mu h1 h2 _ ih => exact .mu h1 h2 ih
theorem MAs.ma (hw : G.w = some w) (R : Rel K G env σ H F fp) (Kp : Hp) (h : MAs K env σ F ks sl vs us) : ∃ ws, MA K (some w) Kp H F ks vs us ws ∧ ws.map (·.2) = sl.map fp := by
  induction h with
  | nil => exact ⟨[], .nil, rfl⟩
  | ro h _ ih =>
    obtain ⟨ws, h1, h2⟩ := ih
    exact ⟨ws, .ro (.d h) h1, h2⟩
  | @mu i m s ts v ks sl vs us e1 e2 _ ih =>
    obtain ⟨ws, h1, h2⟩ := ih
    obtain ⟨v', s1, r, _⟩ := slot_own R e1
    rw [e2] at s1; cases s1
    rw [hw] at r
    generalize hl : fp i = l at r
    cases r with
    | @n _ a vs' _ own l0 r1 r2 r3 =>
      refine ⟨(a, own ++ l0) :: ws, .mu (.n r1 r2 r3) h1, ?_⟩
      rw [List.map_cons, List.map_cons, h2, hl]
theorem MAs.slots (R : Rel K G env σ H F fp) (h : MAs K env σ F ks sl vs us) (nd : sl.Nodup) : ((sl.map fp).flatten).Nodup := by
  induction h with
  | nil => exact List.nodup_nil
  | ro _ _ ih => exact ih nd
  | @mu i m s ts v ks sl vs us e1 e2 _ ih =>
    rw [List.nodup_cons] at nd
    obtain ⟨v', s1, r, _⟩ := slot_own R e1
    rw [List.map_cons, List.flatten_cons, List.nodup_append]
    refine ⟨r.nodup, ih nd.2, fun b hb c hc z => ?_⟩
    subst z
    obtain ⟨l, hl, hc⟩ := List.mem_flatten.mp hc
    obtain ⟨j, hj, rfl⟩ := List.mem_map.mp hl
    exact nd.1 (R.dj i j b hb hc ▸ hj)
theorem wAll_map (ws : List (Addr × List Addr)) : wAll ws = (ws.map (·.2)).flatten := by unfold wAll; rw [List.flatMap_def]
theorem putAt_ne {i j : Nat} {u : T} (h : j ≠ i) : (putAt env (i, []) u)[j]? = env[j]? := by
  unfold putAt
  split
  · rw [List.getElem?_set_ne (Ne.symm h)]
  · rfl
theorem putAt_len {ip : IP} {u : T} : (putAt env ip u).length = env.length := by
  unfold putAt
  split
  · rw [List.length_set]
  · rfl
theorem putsN_ne : ∀ {sl : List Nat} {us : List T} {env : List C} {j : Nat}, j ∉ sl → (putsN sl us env)[j]? = env[j]?
  | [], us, env, j, _ => by unfold putsN; rfl
  | i :: sl, [], env, j, _ => by unfold putsN; rfl
  | i :: sl, u :: us, env, j, h => by
    unfold putsN
    exact (putsN_ne fun z => h (List.mem_cons_of_mem _ z)).trans (putAt_ne fun z : j = i => h (z ▸ List.mem_cons_self))
theorem putsN_len : ∀ {sl : List Nat} {us : List T} {env : List C}, (putsN sl us env).length = env.length
  | [], us, env => by unfold putsN; rfl
  | i :: sl, [], env => by unfold putsN; rfl
  | i :: sl, u :: us, env => by
    unfold putsN
    rw [putsN_len, putAt_len]
theorem fpN_ne : ∀ {sl : List Nat} {ls : List (List Addr)} {fp : Nat → List Addr} {j : Nat}, j ∉ sl → fpN sl ls fp j = fp j
  | [], ls, fp, j, _ => by unfold fpN; rfl
  | i :: sl, [], fp, j, _ => by unfold fpN; rfl
  | i :: sl, l :: ls, fp, j, h => by
    unfold fpN
    exact (fpN_ne fun z => h (List.mem_cons_of_mem _ z)).trans (fset_ne fun z : j = i => h (z ▸ List.mem_cons_self))
theorem fpN_mem : ∀ {sl : List Nat} {ls : List (List Addr)} {fp : Nat → List Addr} {j : Nat}, sl.Nodup → sl.length = ls.length → j ∈ sl → fpN sl ls fp j ∈ ls
  | [], ls, fp, j, _, _, h => nomatch h
  | i :: sl, [], fp, j, _, e, _ => nomatch e
  | i :: sl, l :: ls, fp, j, nd, e, h => by
    unfold fpN
    rw [List.nodup_cons] at nd
    by_cases hj : j ∈ sl
    · exact List.mem_cons_of_mem _ (fpN_mem nd.2 (by simpa using e) hj)
    · have : j = i := (List.mem_cons.mp h).resolve_right hj
      subst this
      rw [fpN_ne hj, fset_at]; exact List.mem_cons_self
theorem fpN_dj : ∀ {sl : List Nat} {ls : List (List Addr)} {fp : Nat → List Addr} {j k : Nat} {b : Addr}, sl.Nodup → sl.length = ls.length → ls.flatten.Nodup → j ∈ sl → k ∈ sl → b ∈ fpN sl ls fp j → b ∈ fpN sl ls fp k → j = k
  | [], ls, fp, j, k, b, _, _, _, h, _, _, _ => nomatch h
  | i :: sl, [], fp, j, k, b, _, e, _, _, _, _, _ => nomatch e
  | i :: sl, l :: ls, fp, j, k, b, nd, e, nf, hj, hk, h1, h2 => by
    unfold fpN at h1 h2
    have nd' := nd
    rw [List.nodup_cons] at nd
    rw [List.flatten_cons, List.nodup_append] at nf
    have e' : sl.length = ls.length := by simpa using e
    by_cases gj : j ∈ sl
    · by_cases gk : k ∈ sl
      · exact fpN_dj nd.2 e' nf.2.1 gj gk h1 h2
      · have : k = i := (List.mem_cons.mp hk).resolve_right gk
        subst this
        rw [fpN_ne gk, fset_at] at h2
        exact (nf.2.2 b h2 b (List.mem_flatten.mpr ⟨_, fpN_mem nd.2 e' gj, h1⟩) rfl).elim
    · have : j = i := (List.mem_cons.mp hj).resolve_right gj
      subst this
      rw [fpN_ne gj, fset_at] at h1
      by_cases gk : k ∈ sl
      · exact (nf.2.2 b h1 b (List.mem_flatten.mpr ⟨_, fpN_mem nd.2 e' gk, h2⟩) rfl).elim
      · exact ((List.mem_cons.mp hk).resolve_right gk).symm
theorem MAs.post {ow : Option World} (h : MAs K env σ F ks sl vs us) : ∀ {us' : List T} {ls' : List (List Addr)} {ws : List (Addr × List Addr)} {fp0 : Nat → List Addr}, MU K ow H' F' ks vs us' ls' → W.EachIs (fun (x : Addr × List Addr) (l : List Addr) => ∀ b, b ∈ l → b ∈ x.2 ∨ H b = none) ws ls' → ws.map (·.2) = sl.map fp0 → sl.Nodup →
    sl.length = ls'.length ∧ ∀ (env1 : List C) (fp1 : Nat → List Addr), (∀ j, j ∈ sl → env1[j]? = env[j]?) → ∀ j, j ∈ sl → ∃ m s ts v u' l', env[j]? = some (.own m (.n s ts)) ∧ σ[j]? = some (some v) ∧ (putsN sl us' env1)[j]? = some (.own m u') ∧ fpN sl ls' fp1 j = l' ∧ OR K ow H' F' v u' l' ∧ ∀ b, b ∈ l' → b ∈ fp0 j ∨ H b = none := by
  induction h with
  | nil =>
    intro us' ls' ws fp0 mu sep e nd
    cases mu
    exact ⟨rfl, fun _ _ _ j hj => nomatch hj⟩
  | ro _ _ ih =>
    intro us' ls' ws fp0 mu sep e nd
    cases mu with
    | ro mu => exact ih mu sep e nd
  | @mu i m s ts v ks sl vs us e1 e2 _ ih =>
    intro us' ls' ws fp0 mu sep e nd
    rw [List.nodup_cons] at nd
    cases mu with
    | @mu a u l _ _ us2 ls2 r mu =>
      cases sep with
      | @cons x _ ws2 _ sp sep =>
        rw [List.map_cons, List.map_cons] at e
        injection e with ea eb
        obtain ⟨hl, go⟩ := ih mu sep eb nd.2
        refine ⟨by rw [List.length_cons, List.length_cons, hl], fun env1 fp1 he j hj => ?_⟩
        unfold putsN fpN
        have hi : env1[i]? = some (.own m (.n s ts)) := (he i List.mem_cons_self).trans e1
        by_cases gj : j ∈ sl
        · exact go _ _ (fun k hk => by
            have hne : k ≠ i := fun z => nd.1 (z ▸ hk)
            exact (putAt_ne hne).trans (he k (List.mem_cons_of_mem _ hk))) j gj
        · have : j = i := (List.mem_cons.mp hj).resolve_right gj
          subst this
          refine ⟨m, s, ts, _, u, l, e1, e2, ?_, ?_, r, fun b hb => ?_⟩
          · rw [putsN_ne gj]
            unfold putAt
            dsimp only
            rw [hi]
            exact List.getElem?_set_self (List.getElem?_eq_some_iff.mp hi).1
          · rw [fpN_ne gj, fset_at]
          · rw [← ea]; exact sp b hb
theorem Rel.calledN {r : T} {lr : List Addr} {v : V} (hw : G.w = some w) (R : Rel K G env σ H F fp) (ma : MAs K env σ F ks sl vs us) (nd : sl.Nodup) (hws : ws.map (·.2) = sl.map fp) (p : PostM K w ks vs H F ws H' F' us' ls' v r lr) :
    Rel K G (putsN sl us' env) σ H' F' (fpN sl ls' fp) ∧ New K G H' F' (fpN sl ls' fp) v r lr := by
  obtain ⟨hl, at1⟩ := ma.post p.mu p.sep hws nd
  have at1 := at1 env fp (fun _ _ => rfl)
  have hwa : ∀ b, b ∈ wAll ws ↔ ∃ i, i ∈ sl ∧ b ∈ fp i := fun b => by
    rw [wAll_map, hws, List.mem_flatten]
    constructor
    · intro ⟨l, h1, h2⟩
      obtain ⟨i, hi, rfl⟩ := List.mem_map.mp h1
      exact ⟨i, hi, h2⟩
    · intro ⟨i, h1, h2⟩
      exact ⟨_, List.mem_map.mpr ⟨i, h1, rfl⟩, h2⟩
  have ndl := p.nd
  rw [List.nodup_append] at ndl
  have al2 : ∀ b, H b ≠ none → H' b ≠ none := fun b hb => by
    by_cases hl : b ∈ wAll ws
    · exact p.al b hl
    · cases q : H b with
      | none => exact absurd q hb
      | some o => rw [p.keep b o hl q]; intro z; cases z
  have fn : ∀ j b, b ∈ fp j → F' b = none := fun j b hb => by
    cases q : F' b with
    | none => rfl
    | some o =>
      rcases p.nw b o q with z | z
      · rw [(R.own j b hb).1] at z; cases z
      · exact absurd z (R.own j b hb).2.1
  have fr : ∀ b, H b = none → (∀ j, b ∉ fp j) := fun b hb j hj => (R.own j b hj).2.1 hb
  have inl : ∀ j, j ∈ sl → ∀ b, b ∈ fpN sl ls' fp j → b ∈ ls'.flatten := fun j hj b hb => List.mem_flatten.mpr ⟨_, fpN_mem nd hl hj, hb⟩
  have sep : ∀ j, j ∈ sl → ∀ b, b ∈ fpN sl ls' fp j → b ∈ fp j ∨ H b = none := fun j hj b hb => by
    obtain ⟨m, s, ts, v', u', l', _, _, _, e4, _, e6⟩ := at1 j hj
    exact e6 b (e4 ▸ hb)
  refine ⟨?_, ⟨by rw [hw]; exact p.res, fun b hb => ⟨(p.new b hb).2.1, (p.new b hb).2.2, R.h0 (p.new b hb).1⟩, fun b hb j hj => ?_⟩⟩
  · exact {
      len := by rw [putsN_len]; exact R.len
      slot := fun j c ej => by
        by_cases hj : j ∈ sl
        · obtain ⟨m, s, ts, v', u', l', e1, e2, e3, e4, e5, e6⟩ := at1 j hj
          rw [e3] at ej; cases ej
          obtain ⟨v0, s1, _, s3⟩ := slot_own R e1
          rw [e2] at s1; cases s1
          refine ⟨v', by rw [e2]; rfl, by rw [hw, e4]; exact e5, fun jj hjj => ?_⟩
          obtain ⟨ra, rl, h1, h2, h3⟩ := s3 jj hjj
          refine ⟨ra, rl, h1, h2, fun b hb => ?_⟩
          rcases sep j hj b hb with z | z
          · exact h3 b z
          · exact .inr (R.h0 z)
        · rw [putsN_ne hj] at ej
          rw [fpN_ne hj]
          have q := R.slot j c ej
          have kk : ∀ b o, b ∈ fp j → H b = some o → H' b = some o := fun b o hb => p.keep b o fun hl => by
            obtain ⟨i, hi, hb'⟩ := (hwa b).mp hl
            exact hj (R.dj j i b hb hb' ▸ hi)
          have f := p.f
          cases c with
          | und => exact q
          | val d => obtain ⟨y1, w, y2, y3⟩ := q; exact ⟨y1, w, y2, DF_mono f _ _ y3⟩
          | brw d => exact q
          | lst ds => obtain ⟨b, vs, y1, y2, y3, y4⟩ := q; exact ⟨b, vs, y1, y2, kk _ _ (by rw [y1]; exact List.mem_singleton.mpr rfl) y3, DFAll_mono f _ _ y4⟩
          | dK ds => obtain ⟨b, vs, y1, y2, y3, y4⟩ := q; exact ⟨b, vs, y1, y2, kk _ _ (by rw [y1]; exact List.mem_singleton.mpr rfl) y3, y4.mono f⟩
          | dT ds => obtain ⟨b, vs, y1, y2, y3, y4⟩ := q; exact ⟨b, vs, y1, y2, kk _ _ (by rw [y1]; exact List.mem_singleton.mpr rfl) y3, y4.mono f⟩
          | dN ds => obtain ⟨b, w, xs, y1, y2, y5, y3, y4⟩ := q; exact ⟨b, w, xs, y1, y2, y5, kk _ _ (by rw [y1]; exact List.mem_singleton.mpr rfl) y3, y4.mono f⟩
          | pin _ => exact q
          | al j i => obtain ⟨q0, a, l, vs, v, q1, q2, q3⟩ := q; exact ⟨q0, a, l, vs, v, q1, f _ _ q2, q3⟩
          | ro b t2 => obtain ⟨y0, w, l, y1, y2, y3⟩ := q; exact ⟨y0, w, l, y1, OR_mono f _ _ _ (fun _ _ _ z => z) y2, fun hb a vs ha hk => f _ _ (y3 hb a vs ha hk)⟩
          | own m2 t2 => obtain ⟨w, y1, y2, y3⟩ := q; exact ⟨w, y1, OR_mono f _ _ _ kk y2, y3⟩
      dj := fun j k b h1 h2 => by
        by_cases hj : j ∈ sl
        · by_cases hk : k ∈ sl
          · exact fpN_dj nd hl ndl.1 hj hk h1 h2
          · rw [fpN_ne hk] at h2
            rcases sep j hj b h1 with z | z
            · exact R.dj j k b z h2
            · exact (fr b z k h2).elim
        · rw [fpN_ne hj] at h1
          by_cases hk : k ∈ sl
          · rcases sep k hk b h2 with z | z
            · exact R.dj j k b h1 z
            · exact (fr b z j h1).elim
          · rw [fpN_ne hk] at h2
            exact R.dj j k b h1 h2
      own := fun j b hb => by
        by_cases hj : j ∈ sl
        · obtain ⟨m, s, ts, v', u', l', e1, e2, e3, e4, e5, e6⟩ := at1 j hj
          obtain ⟨o1, o2⟩ := p.own b (inl j hj b hb)
          refine ⟨o1, o2, ?_⟩
          rcases sep j hj b hb with z | z
          · refine (R.own j b z).2.2.imp_right fun ⟨w1, c, w2, w3⟩ => ⟨w1, _, e3, ?_⟩
            rw [e1] at w2; cases w2
            cases m with
            | none => cases w3
            | some _ => rfl
          · exact .inl (R.h0 z)
        · rw [fpN_ne hj] at hb
          obtain ⟨g1, g2, g3⟩ := R.own j b hb
          exact ⟨fn j b hb, al2 b g2, by rw [putsN_ne hj]; exact g3⟩
      sub := p.sub
      new := fun a o q => by
        rcases p.nw a o q with z | z
        · exact R.new a o z
        · exact .inr (R.h0 z)
      old := R.old.trans p.f
      keep := fun a o q hW => p.keep a o (fun hl => by
        obtain ⟨i, hi, hb⟩ := (hwa a).mp hl
        rcases (R.own i a hb).2.2 with z | ⟨z, _⟩
        · rw [q] at z; cases z
        · exact hW z) (R.keep a o q hW)
      alive := fun a q => al2 a (R.alive a q) }
  · by_cases hjl : j ∈ sl
    · exact ndl.2.2 b (inl j hjl b hj) b hb rfl
    · rw [fpN_ne hjl] at hj
      exact fr b (p.new b hb).1 j hj
end
section
variable {X : Cx} {G : GC} {kr k k2 : RK} {e a b : Expr} {es : List Expr} {f : List C → Option D} {rs : List C → Option (List T)} {pos p : Pos} {n lv : Nat} {x : Str} {ks : List Bool} {sl : List Nat}
structure DMs (X : Cx) (G : GC) (es : List Expr) (ks : List Bool) (sl : List Nat) (rs : List C → Option (List T)) : Prop where
  ex : ∃ t, PA X es t ∧ ∀ (σ : L2.St) (H F : Hp) (fp : Nat → List Addr) (env : List C) (us : List T) (Q : List V → Hp → Prop), Rel X.K G env σ H F fp → rs env = some us →
    (∀ vs H' F', Ext H F H' F' → MAs X.K env σ F' ks sl vs us → Q vs H') → t σ H Q
def msMu (i : Nat) (rs : List C → Option (List T)) : List C → Option (List T) := fun env => match env[i]? with
  | some (.own _ (.n s ts)) => (rs env).map (.n s ts :: ·)
  | _ => none
def msRo (f : List C → Option D) (rs : List C → Option (List T)) : List C → Option (List T) := fun env => match f env with
  | some d => (rs env).map (.d d :: ·)
  | none => none
structure CalM (P : Program) (w : World) (K : PySem.W.Frag) (mg : Str → Option Value) (base : Heap) (k : Nat) (x : Str) (ks : List Bool) (g : List T → Option (List T × T)) : Prop where
  ex : ∃ (f : Addr) (fd : FuncData) (ps : List Str), FnOk P w K mg base CX0 k f fd ps (spM K w ks g) ∧ mg x = some (.ref f) ∧ PySem.W.keepIn K (.ref f) = true ∧ Binds K fd ps []
def xCallM (g : List T → Option (List T × T)) (sl : List Nat) (rs : List C → Option (List T)) : List C → Option (List C × T) := fun env => match rs env with
  | some us => (match g us with
    | some (us', y) => some (putsN sl us' env, y)
    | none => none)
  | none => none
def txCmp2 (g2 : D → D → Option D) (g gb : List C → Option (List C × T)) : List C → Option (List C × Bool) := fun env => match g env with
  | some (env1, .d x) => (match gb env1 with
    | some (env2, .d y) => (match g2 x y with | some (.bool b) => some (env2, b) | _ => none)
    | _ => none)
  | _ => none
end
end DL
set_option Elab.async false
set_option linter.all false
set_option maxRecDepth 100000
set_option maxHeartbeats 4000000
namespace DL
open PySem PySem.Spec L2
def kOfD : D → Option Key
  | .int i => some (.inl i)
  | .str x => some (.inr x)
  | _ => none
def keyT : Key → D
  | .inl i => .int i
  | .inr x => .str x
theorem df_key {K : PySem.W.Frag} {F : Hp} {v : V} {d : D} {k : Key} (h : DF K F v d) (e : kOfD d = some k) : v = kV k := by
  cases d with
  | int i => cases e; cases h; rfl
  | str x => cases e; cases h; rfl
  | _ => cases e
def kkIx (k : Key) : List Key → Option Nat
  | [] => none
  | x :: r => if x = k then some 0 else (kkIx k r).map (· + 1)
theorem kk_at {k : Key} : ∀ {ks : List Key} {vs : List V} {j : Nat} {w : V}, kkIx k ks = some j → vs[j]? = some w → valV (ks.zip vs) k = some w
  | [], vs, j, w, h, _ => by cases h
  | x :: r, [], j, w, _, e => by simp at e
  | x :: r, v :: vs, j, w, h, e => by
    unfold kkIx at h
    show valV ((x, v) :: r.zip vs) k = some w
    by_cases hx : x = k
    · rw [if_pos hx] at h; cases h
      rw [valV_pos hx]
      simpa using e
    · rw [if_neg hx] at h
      rw [valV_neg hx]
      cases z : kkIx k r with
      | none => rw [z] at h; cases h
      | some i =>
        rw [z] at h; cases h
        exact kk_at z (by simpa using e)
theorem kk_none {k : Key} : ∀ {ks : List Key} {vs : List V}, kkIx k ks = none → valV (ks.zip vs) k = none
  | [], vs, _ => rfl
  | x :: r, [], _ => rfl
  | x :: r, v :: vs, h => by
    unfold kkIx at h
    show valV ((x, v) :: r.zip vs) k = none
    by_cases hx : x = k
    · rw [if_pos hx] at h; cases h
    · rw [if_neg hx] at h
      rw [valV_neg hx]
      cases z : kkIx k r with
      | none => exact kk_none z
      | some i => rw [z] at h; cases h
theorem kk_lt {k : Key} : ∀ {ks : List Key} {j : Nat}, kkIx k ks = some j → j < ks.length
  | [], j, h => by cases h
  | x :: r, j, h => by
    unfold kkIx at h
    by_cases hx : x = k
    · rw [if_pos hx] at h; cases h; simp
    · rw [if_neg hx] at h
      cases z : kkIx k r with
      | none => rw [z] at h; cases h
      | some i =>
        rw [z] at h; cases h
        have := kk_lt z
        simp; omega
theorem kk_some {k : Key} {ks : List Key} {vs : List V} (hl : ks.length = vs.length) : (valV (ks.zip vs) k).isSome = (kkIx k ks).isSome := by
  cases z : kkIx k ks with
  | none => rw [kk_none z]; rfl
  | some j =>
    have := kk_lt z
    rw [kk_at z (List.getElem?_eq_getElem (by omega))]; rfl
def ksOf : Shp → Option (List Key)
  | .k ks => some ks
  | .kf ks => some ks
  | _ => none
theorem nr_dk {K : PySem.W.Frag} {ow : Option World} {H F : Hp} {s : Shp} {a : Addr} {vs : List V} {own : List Addr} {ks : List Key} (n : NR K ow H F s a vs own) (sub : Same F H) (h : ksOf s = some ks) : ks.length = vs.length ∧ Rd H a (.dK (ks.zip vs)) := by
  cases s with
  | k k0 => cases h; exact ⟨n.2.1, .inl n.2.2⟩
  | kf k0 => cases h; obtain ⟨_, l, o, e⟩ := n; exact ⟨l, .inr ⟨o, sub _ _ e⟩⟩
  | _ => cases h
def selKK (fk : List C → Option D) : List C → Shp → Nat → Option Nat := fun env s _ => match ksOf s, (fk env).bind kOfD with
  | some ks, some k => kkIx k ks
  | _, _ => none
def pKK (fk : List C → Option D) (g : List C → Option IP) : List C → Option IP := pChild g (selKK fk)
def rKK (fk : List C → Option D) (r : List C → Option T) : List C → Option T := rChild r (selKK fk)
section
variable {X : Cx} {G : GC} {kr k k2 : RK} {e ei ek o : Expr} {es : List Expr} {f fi fk fe : List C → Option D} {r : List C → Option T} {rs : List C → Option (List T)} {gp : List C → Option IP} {g : List C → Option (List C × T)} {fn : List C → Option T} {pos p1 p2 p3 pos' : Pos}
theorem op_in_dk (hu : X.A.units + 1 < cLine) : OpR X (compareOp .In) (fun x y H Q => ∃ a o, y = .ref a ∧ DGet H a x o ∧ Q (.bl o.isSome) H) := by
  intro pins s σ H x y v u Q I rx ry h
  obtain ⟨a, o, rfl, g, q⟩ := h
  cases ry
  exact d_in hu I g rx fun s' I' => ⟨.bl _, H, I', rfl, q⟩
def trInK (fk : List C → Option D) (r : List C → Option T) : List C → Option Bool := fun env => match r env with
  | some (.n s _) => (match ksOf s, (fk env).bind kOfD with | some ks, some k => some (kkIx k ks).isSome | _, _ => none)
  | _ => none
theorem trInK_of {env : List C} {b : Bool} (h : trInK fk r env = some b) : ∃ s ts ks d k, r env = some (.n s ts) ∧ ksOf s = some ks ∧ fk env = some d ∧ kOfD d = some k ∧ b = (kkIx k ks).isSome := by
  unfold trInK at h
  split at h
  · rename_i s ts h1
    split at h
    · rename_i ks k h2 h3
      cases h
      cases z : fk env with
      | none => rw [z] at h3; cases h3
      | some d => rw [z] at h3; exact ⟨s, ts, ks, d, k, h1, h2, rfl, h3, rfl⟩
    · cases h
  · cases h
theorem or_dk {K : PySem.W.Frag} {ow : Option World} {H F : Hp} {v : V} {s : Shp} {ts : List T} {l : List Addr} {ks : List Key} (h : OR K ow H F v (.n s ts) l) (sub : Same F H) (e : ksOf s = some ks) : ∃ a vs, v = .ref a ∧ ks.length = vs.length ∧ Rd H a (.dK (ks.zip vs)) := by
  cases h with
  | @n _ a vs _ own l0 h1 h2 h3 =>
    obtain ⟨l, rd⟩ := nr_dk h1 sub e
    exact ⟨a, vs, rfl, l, rd⟩
theorem dt_rinK (hu : X.A.units + 1 < cLine) (h : DE X G k ek fk) (ho : DRd X G o r) (hm : behindInMarks .In o = false := by rfl) (hk : k.le .fz = true := by rfl) : DTs X G (.Compare ek [.In] [o] pos) (trInK fk r) := by
  obtain ⟨tk, pk, ok⟩ := (h.conv hk).ex
  obtain ⟨t, pt, oa⟩ := ho.ex
  refine ⟨_, pt_cmpR (op_in_dk hu) pk pt hm, fun σ H F fp env c Q R hf q => ?_⟩
  obtain ⟨s, ts, ks, d, kk, e1, e2, e3, e4, rfl⟩ := trInK_of hf
  refine ok σ H F fp env d _ R e3 fun vk H1 F1 E1 rk => ?_
  refine oa σ H1 F1 fp env _ _ (R.ext E1) e1 fun v l H2 F2 E2 rep => ?_
  obtain ⟨a, vs, rfl, hl, rd⟩ := or_dk rep E2.sub e2
  refine ⟨a, _, rfl, .inl ⟨_, kk, rd, df_key rk e4, rfl⟩, _, rfl, ?_⟩
  rw [kk_some hl]
  exact q H2 F2 (E1.trans E2)
def trNinK (fk : List C → Option D) (r : List C → Option T) : List C → Option Bool := fun env => (trInK fk r env).map (!·)
def DkOk (H : Hp) : Prop := ∀ a kvs, Rd H a (.dK kvs) → kvs.length ≤ sizeLine
def iKK (r : List C → Option T) : List C → Option (List D) := fun env => match r env with
  | some (.n (.kf ks) _) => some (ks.map keyT)
  | _ => none
def eListK (r : List C → Option T) : List C → Option D := fun env => match r env with
  | some (.n s _) => (ksOf s).map fun ks => .list (ks.map keyT)
  | _ => none
def eLenO (r : List C → Option T) : List C → Option D := fun env => match r env with
  | some (.n .l ts) => some (.int ts.length)
  | some (.n .lf ts) => some (.int ts.length)
  | _ => none
theorem set_dk (hu : X.A.units + 1 < cLine) : PSet X (fun o i v H Q => ∃ a H', o = .ref a ∧ DPut H a i v H' ∧ Q H') := by
  intro pins s σ H o i v ov iv u Q I ro ri rv h
  obtain ⟨a, H', rfl, g, q⟩ := h
  cases ro
  exact d_setItem hu I g ri rv fun s' I' => ⟨H', I', q⟩
theorem kk_store {K : PySem.W.Frag} {env : List C} {σ : L2.St} {H F : Hp} {fp : Nat → List Addr} {ip : IP} {ks : List Key} {ts : List T} {v : V} {lu : List Addr} (R : Rel K G env σ H F fp) (P : Place K G env σ H F fp ip (.n (.k ks) ts) v lu) :
    ∃ a vs, v = .ref a ∧ vs.length = ts.length ∧ ks.length = vs.length ∧ H a = some (.dK (ks.zip vs)) ∧
      ∀ (k : Key) (y : V) (tu : T) (ln : List Addr), New K G H F fp y tu ln → ∃ fp', Rel K G (putAt env ip (.n (.k (ks ++ [k])) (ts ++ [tu]))) σ (upd H a (.dK (ks.zip vs ++ [(k, y)]))) F fp' := by
  obtain ⟨a, vs, own, l0, rfl, nr, os, nd, mem, st⟩ := R.store P
  obtain ⟨rfl, hl, hH⟩ := nr
  refine ⟨a, vs, rfl, ORs_len os, hl, hH, fun k y tu ln n => ?_⟩
  have ap : ∀ b, b ∈ ln → b ∉ [a] ++ l0 := fun b hb hm => n.dj b hb ip.1 (mem b hm)
  have ez : (ks ++ [k]).zip (vs ++ [y]) = ks.zip vs ++ [(k, y)] := List.zip_append hl
  rw [← ez]
  exact st _ (.k (ks ++ [k])) _ _ (l0 ++ ln) ⟨rfl, by simp [hl], upd_same⟩ (ORs_snoc os n.rep) (snoc_nodup nd n.rep.nodup ap) fun b hb => (List.mem_append.mp hb).imp_right fun hb => ⟨fun j => n.dj b hb j, (n.own b hb).2.2, (n.own b hb).1, (n.own b hb).2.1⟩
def sPutK (gp : List C → Option IP) (fk : List C → Option D) (g : List C → Option (List C × T)) : List C → Out := fun env => match g env with
  | some (env1, u) => (match gp env1 with
    | some ip => (match nodeAt env1 ip with
      | some (.n (.k ks) ts) => (match (fk env1).bind kOfD with
        | some k => if ts.length < 16000000 then (match kkIx k ks with | none => .nx (putAt env1 ip (.n (.k (ks ++ [k])) (ts ++ [u]))) | some _ => .err) else .err
        | none => .err)
      | _ => .err)
    | none => .err)
  | none => .err
theorem ds_putK (hu : X.A.units + 1 < cLine) (ho : DPl X G o gp) (hi : DE X G k2 ei fk) (h : DX X G e g) (hk2 : k2.le .fz = true := by rfl)
    (ha : ∀ v, assign (.Subscript o ei p2) X.env v = (do
      let ov ← holding [v] (eval o X.env)
      let iv ← holding [v, ov] (eval ei X.env)
      standAt p2
      holding [v, ov, iv] (setItem ov iv v)
      release [v, ov, iv] []) := by intro _; rfl)
    (hs : swapsWithSole [.Subscript o ei p2] e pos.line X.env = pure false := by rfl) (hw : swappedStores [.Subscript o ei p2] e X.env = pure none := by rfl)
    (h1 : (assignEach [.Subscript o ei p2] X.env).map (·.2) = [assign (.Subscript o ei p2) X.env] := by rfl) : DS X G kr (.Assign [.Subscript o ei p2] e pos) (sPutK gp fk g) := by
  obtain ⟨tv, pv, ov⟩ := h.ex
  obtain ⟨ta, pa, oa⟩ := ho.ex
  obtain ⟨ti, pi, oi⟩ := (hi.conv hk2).ex
  refine ⟨_, ps_asg pv (pg_sub pa pi (set_dk hu) ha) hs hw h1, fun σ H F fp env E R q => ?_⟩
  unfold sPutK at q
  split at q
  · rename_i env1 u z
    split at q
    · rename_i ip z1
      split at q
      · rename_i ks ts z2
        split at q
        · rename_i kk zk
          split at q
          · rename_i okl
            split at q
            · rename_i zj
              cases zd : fk env1 with
              | none => rw [zd] at zk; cases zk
              | some d =>
              rw [zd] at zk
              have zk : kOfD d = some kk := zk
              refine ov σ H F fp env env1 u _ R z fun y H1 F1 fp1 ln R1 s1 n1 => ?_
              refine oa σ H1 F1 fp1 env1 ip _ _ R1 z1 z2 fun v lu H2 F2 E2 P => ?_
              have R2 := R1.ext E2
              refine oi σ H2 F2 fp1 env1 _ _ R2 zd fun vi H3 F3 E3 ri => ?_
              obtain ⟨a, vs, rfl, hl, hl2, hH, ad⟩ := kk_store (R2.ext E3) (P.ext E3)
              obtain ⟨fp', R'⟩ := ad kk y u ln ((n1.ext E2).ext E3)
              rw [df_key ri zk]
              refine ⟨a, _, rfl, .inl ⟨_, kk, hH, rfl, ?_, rfl⟩, ?_⟩
              · rw [List.length_zip, hl2, Nat.min_self, hl, sizeLine_eq]; omega
              · rw [putK_new y (kk_none zj)]
                exact q σ _ F3 fp' R' ((s1.trans E2.f).trans E3.f)
            · exact q.elim
          · exact q.elim
        · exact q.elim
      · exact q.elim
    · exact q.elim
  · exact q.elim
end
end DL
set_option Elab.async false
set_option linter.all false
set_option maxRecDepth 100000
set_option maxHeartbeats 4000000
namespace DL
open PySem PySem.Spec L2
def frzAt (p : List Nat) (u : T) : Option T := match T.sub p u with
  | some (.n .l ts) => some (T.put p u (.n .lf ts))
  | some (.n (.k ks) ts) => some (T.put p u (.n (.kf ks) ts))
  | _ => none
section
variable {K : PySem.W.Frag} {ow : Option World} {H F : Hp} {v0 : V} {t : T} {l : List Addr}
end
def Lk (H : Hp) (Q : Hp → Prop) : Prop := Q H ∨ ∃ a kvs, H a = some (.dK kvs) ∧ ∀ od, Q (upd H a (.frz od (.dK kvs)))
section
variable {X : Cx} {G : GC} {kr : RK} {e : Expr} {fn : List C → Option T} {sts : List Stmt} {g : List C → Out} {gx : List C → Option (List C × T)}
def nFrz (p : List Nat) (f : List C → Option T) : List C → Option T := fun env => (f env).bind (frzAt p)
def sFrz (i : Nat) (p : List Nat) (g : List C → Out) : List C → Out := fun env => match env[i]? with
  | some (.own none t) => (match frzAt p t with | some t' => g (env.set i (.own none t')) | none => .err)
  | _ => .err
end
end DL
set_option Elab.async false
set_option linter.all false
set_option maxRecDepth 100000
set_option maxHeartbeats 4000000
namespace DL
open PySem PySem.Spec L2
inductive MAp (K : PySem.W.Frag) (G : GC) (env : List C) (σ : L2.St) (H F : Hp) (fp : Nat → List Addr) (rd : List Nat) : List Bool → List IP → List V → List T → List (List Addr) → Prop
  | nil : MAp K G env σ H F fp rd [] [] [] [] []
  | ro {v : V} {u : T} {l : List Addr} {ks : List Bool} {ips : List IP} {vs : List V} {us : List T} {lus : List (List Addr)} : OR K G.w H F v u l → (∀ b, b ∈ l → ∃ j, j ∈ rd ∧ b ∈ fp j) → MAp K G env σ H F fp rd ks ips vs us lus → MAp K G env σ H F fp rd (false :: ks) ips (v :: vs) (u :: us) lus
  | mu {ip : IP} {s : Shp} {ts : List T} {a : Addr} {lu : List Addr} {ks : List Bool} {ips : List IP} {vs : List V} {us : List T} {lus : List (List Addr)} : Place K G env σ H F fp ip (.n s ts) (.ref a) lu → MAp K G env σ H F fp rd ks ips vs us lus → MAp K G env σ H F fp rd (true :: ks) (ip :: ips) (.ref a :: vs) (.n s ts :: us) (lu :: lus)
def putsP : List IP → List T → List C → List C
  | ip :: ips, u :: us, env => putsP ips us (putAt env ip u)
  | _, _, env => env
section
variable {K : PySem.W.Frag} {w : World} {G : GC} {env : List C} {σ : L2.St} {H F H' F' : Hp} {fp : Nat → List Addr} {rd : List Nat} {ks : List Bool} {ips : List IP} {vs : List V} {us us' : List T} {lus ls' : List (List Addr)}
theorem MAp.ext (E : Ext H F H' F') (h : MAp K G env σ H F fp rd ks ips vs us lus) : MAp K G env σ H' F' fp rd ks ips vs us lus := by
  induction h with
  | nil => exact .nil
  | ro h1 h2 _ ih => exact .ro (OR_mono E.f _ _ _ (fun b o _ => E.h b o) h1) h2 ih
  | mu P _ ih => exact .mu (P.ext E) ih
theorem MAp.mem (h : MAp K G env σ H F fp rd ks ips vs us lus) : ∀ b, b ∈ lus.flatten → ∃ ip, ip ∈ ips ∧ b ∈ fp ip.1 := by
  induction h with
  | nil => intro b hb; cases hb
  | ro _ _ _ ih => exact ih
  | mu P _ ih =>
    intro b hb
    rw [List.flatten_cons] at hb
    rcases List.mem_append.mp hb with z | z
    · exact ⟨_, List.mem_cons_self, P.mem z⟩
    · obtain ⟨ip, h1, h2⟩ := ih b z
      exact ⟨ip, List.mem_cons_of_mem _ h1, h2⟩
theorem MAp.ma (Kp : Hp) (h : MAp K G env σ H F fp rd ks ips vs us lus) (hk : ∀ b o, (∃ j, j ∈ rd ∧ b ∈ fp j) → H b = some o → Kp b = some o) : ∃ ws, MA K G.w Kp H F ks vs us ws ∧ ws.map (·.2) = lus := by
  induction h with
  | nil => exact ⟨[], .nil, rfl⟩
  | ro h1 h2 _ ih =>
    obtain ⟨ws, m, e⟩ := ih
    exact ⟨ws, .ro (OR_mono (Same.refl _) _ _ _ (fun b o hb => hk b o (h2 b hb)) h1) m, e⟩
  | @mu ip su tu a lu ks ips vs us lus P _ ih =>
    obtain ⟨ws, m, e⟩ := ih
    exact ⟨(a, lu) :: ws, .mu P.rep m, by rw [List.map_cons, e]⟩
theorem MAp.nd (R : Rel K G env σ H F fp) (h : MAp K G env σ H F fp rd ks ips vs us lus) (nd : (ips.map (·.1)).Nodup) : lus.flatten.Nodup := by
  induction h with
  | nil => exact List.nodup_nil
  | ro _ _ _ ih => exact ih nd
  | @mu ip su tu a lu ks ips vs us lus P h ih =>
    rw [List.map_cons, List.nodup_cons] at nd
    rw [List.flatten_cons, List.nodup_append]
    refine ⟨P.rep.nodup, ih nd.2, fun b hb c hc z => ?_⟩
    subst z
    obtain ⟨ip', h1, h2⟩ := h.mem b hc
    exact nd.1 (R.dj _ _ b (P.mem hb) h2 ▸ List.mem_map.mpr ⟨ip', h1, rfl⟩)
theorem MAp.mem2 (h : MAp K G env σ H F fp rd ks ips vs us lus) : ∀ b, b ∈ lus.flatten → ∃ ip lu, (ip, lu) ∈ ips.zip lus ∧ b ∈ lu ∧ b ∈ fp ip.1 := by
  induction h with
  | nil => intro b hb; cases hb
  | ro _ _ _ ih => exact ih
  | @mu ip su tu a lu ks ips vs us lus P _ ih =>
    intro b hb
    rw [List.flatten_cons] at hb
    rcases List.mem_append.mp hb with z | z
    · exact ⟨ip, lu, by simp, z, P.mem z⟩
    · obtain ⟨ip', lu', h1, h2⟩ := ih b z
      exact ⟨ip', lu', by simp [h1], h2⟩
theorem zip_one : ∀ {ips : List IP} {lus : List (List Addr)} {ip ip' : IP} {lu lu' : List Addr}, (ips.map (·.1)).Nodup → (ip, lu) ∈ ips.zip lus → (ip', lu') ∈ ips.zip lus → ip.1 = ip'.1 → lu = lu'
  | [], _, _, _, _, _, _, h, _, _ => by simp at h
  | _ :: _, [], _, _, _, _, _, h, _, _ => by simp at h
  | i0 :: ips, l0 :: lus, ip, ip', lu, lu', nd, h1, h2, e => by
    rw [List.map_cons, List.nodup_cons] at nd
    have mem : ∀ {ip : IP} {lu : List Addr}, (ip, lu) ∈ ips.zip lus → ip.1 ∈ ips.map (·.1) := fun h => List.mem_map.mpr ⟨_, (List.of_mem_zip h).1, rfl⟩
    rw [List.zip_cons_cons, List.mem_cons] at h1 h2
    rcases h1 with h1 | h1
    · cases h1
      rcases h2 with h2 | h2
      · cases h2; rfl
      · exact absurd (e ▸ mem h2) nd.1
    · rcases h2 with h2 | h2
      · cases h2; exact absurd (e ▸ mem h1) nd.1
      · exact zip_one nd.2 h1 h2 e
theorem putAt_other {ip : IP} {u : T} {j : Nat} (h : j ≠ ip.1) : (putAt env ip u)[j]? = env[j]? := by
  unfold putAt
  split
  · rw [List.getElem?_set_ne (Ne.symm h)]
  · rfl
inductive RootsP (K : PySem.W.Frag) (ow : Option World) (env : List C) (σ : L2.St) (H H' F F' : Hp) (fp : Nat → List Addr) : List IP → List (List Addr) → List T → List (List Addr) → List Bool → List V → List T → List T → List (List Addr) → List (Addr × List Addr) → Prop
  | nil : RootsP K ow env σ H H' F F' fp [] [] [] [] [] [] [] [] [] []
  | cons {ip : IP} {m : Option Nat} {s : Shp} {ts : List T} {a : Addr} {u' : T} {lu l' l2 : List Addr} {ips : List IP} {lus ls' ls2 : List (List Addr)} {us' us0 us2 : List T} {ks0 : List Bool} {vs0 : List V} {ws : List (Addr × List Addr)} :
    env[ip.1]? = some (.own m (.n s ts)) → σ[ip.1]? = some (some (.ref a)) → OR K ow H' F' (.ref a) (T.put ip.2 (.n s ts) u') l2 → (∀ b, b ∈ l2 → (b ∈ fp ip.1 ∧ b ∉ lu) ∨ b ∈ l') → (∀ b, b ∈ l' → b ∈ lu ∨ H b = none) → (∀ b, b ∈ lu → b ∈ fp ip.1) →
    RootsP K ow env σ H H' F F' fp ips lus us' ls' ks0 vs0 us0 us2 ls2 ws → RootsP K ow env σ H H' F F' fp (ip :: ips) (lu :: lus) (u' :: us') (l' :: ls') (true :: ks0) (.ref a :: vs0) (.n s ts :: us0) (T.put ip.2 (.n s ts) u' :: us2) (l2 :: ls2) ((a, fp ip.1) :: ws)
variable {us0 us2 : List T} {ls2 : List (List Addr)} {ks0 : List Bool} {vs0 : List V} {ws ws0 : List (Addr × List Addr)} {ow : Option World}
theorem MAp.roots (R : Rel K G env σ H F fp) (sF : Same F F') (Wl : List Addr) (hk : ∀ b o, b ∉ Wl → H b = some o → H' b = some o) (hW : ∀ b, b ∈ Wl → b ∈ lus.flatten) (h : MAp K G env σ H F fp rd ks ips vs us lus) (nd : (ips.map (·.1)).Nodup) :
    ∀ {us' : List T} {ls' : List (List Addr)} {ws : List (Addr × List Addr)}, MU K G.w H' F' ks vs us' ls' → W.EachIs (fun (x : Addr × List Addr) (l : List Addr) => ∀ b, b ∈ l → b ∈ x.2 ∨ H b = none) ws ls' → ws.map (·.2) = lus →
      ∃ ks0 vs0 us0 us2 ls2 ws0, RootsP K G.w env σ H H' F F' fp ips lus us' ls' ks0 vs0 us0 us2 ls2 ws0 := by
  have go : ∀ {ks : List Bool} {ips : List IP} {vs : List V} {us : List T} {lus' : List (List Addr)}, MAp K G env σ H F fp rd ks ips vs us lus' → (∀ ip lu, (ip, lu) ∈ ips.zip lus' → ∀ b, b ∈ fp ip.1 → b ∉ lu → b ∉ Wl) → ∀ {us' : List T} {ls' : List (List Addr)} {ws : List (Addr × List Addr)}, MU K G.w H' F' ks vs us' ls' → W.EachIs (fun (x : Addr × List Addr) (l : List Addr) => ∀ b, b ∈ l → b ∈ x.2 ∨ H b = none) ws ls' → ws.map (·.2) = lus' →
      ∃ ks0 vs0 us0 us2 ls2 ws0, RootsP K G.w env σ H H' F F' fp ips lus' us' ls' ks0 vs0 us0 us2 ls2 ws0 := by
    intro ks ips vs us lus' h
    induction h with
    | nil =>
      intro _ us' ls' ws mu _ _
      cases mu
      exact ⟨[], [], [], [], [], [], .nil⟩
    | ro _ _ _ ih =>
      intro hd us' ls' ws mu sp e
      cases mu with
      | ro mu => exact ih hd mu sp e
    | @mu ip su tu a lu ks ips vs us lus P _ ih =>
      intro hd us' ls' ws mu sp e
      cases mu with
      | @mu _ u' l' _ _ us1 ls1 r' mu =>
        cases sp with
        | @cons x _ ws1 _ s1 sp =>
          rw [List.map_cons] at e
          injection e with e1 e2
          obtain ⟨ks0, vs0, us0, us2, ls2, ws0, ih⟩ := ih (fun ip lu hm => hd ip lu (by simp [hm])) mu sp e2
          obtain ⟨m, t, v0, h1, h2, h3, L⟩ := P.ex
          have s1' : ∀ b, b ∈ l' → b ∈ lu ∨ H b = none := fun b hb => by rw [← e1]; exact s1 b hb
          obtain ⟨l2, r2, m2⟩ := L.upd H' F' u' l' sF (fun b o hb hn => hk b o (hd ip lu (by simp) b hb hn)) r' (fun b hb => (s1' b hb).imp_right fun z hm => (R.own ip.1 b hm).2.1 z)
          have tn : ∃ s ts b, t = .n s ts ∧ v0 = .ref b := by
            obtain ⟨vr, q1, q2, _⟩ := slot_own R h1
            rw [h3] at q1; cases q1
            cases t with
            | d x =>
              cases hp : ip.2 with
              | nil => rw [hp] at h2; cases h2
              | cons j p => rw [hp] at h2; cases h2
            | n s ts =>
              generalize fp ip.1 = l0 at q2
              cases q2 with
              | n _ _ _ => exact ⟨_, _, _, rfl, rfl⟩
          obtain ⟨s, ts, b0, rfl, rfl⟩ := tn
          exact ⟨_, _, _, _, _, _, .cons h1 h3 r2 m2 s1' L.mem ih⟩
  intro us' ls' ws mu sp e
  refine go h (fun ip lu hm b hb hn hW' => ?_) mu sp e
  obtain ⟨ip', lu', h1, h2, h3⟩ := h.mem2 b (hW b hW')
  exact hn (zip_one nd h1 hm (R.dj _ _ b h3 hb) ▸ h2)
theorem RootsP.mas (h : RootsP K ow env σ H H' F F' fp ips lus us' ls' ks0 vs0 us0 us2 ls2 ws0) : MAs K env σ F ks0 (ips.map (·.1)) vs0 us0 ∧ ws0.map (·.2) = (ips.map (·.1)).map fp ∧ MU K ow H' F' ks0 vs0 us2 ls2 := by
  induction h with
  | nil => exact ⟨.nil, rfl, .nil⟩
  | cons e1 e2 r _ _ _ _ ih =>
    obtain ⟨h1, h2, h3⟩ := ih
    exact ⟨.mu e1 e2 h1, by rw [List.map_cons, List.map_cons, List.map_cons, h2], .mu r h3⟩
theorem RootsP.sep (h : RootsP K ow env σ H H' F F' fp ips lus us' ls' ks0 vs0 us0 us2 ls2 ws0) : W.EachIs (fun (x : Addr × List Addr) (l : List Addr) => ∀ b, b ∈ l → b ∈ x.2 ∨ H b = none) ws0 ls2 := by
  induction h with
  | nil => exact .nil
  | cons _ _ _ m s k _ ih =>
    refine .cons (fun b hb => ?_) ih
    rcases m b hb with z | z
    · exact .inl z.1
    · exact (s b z).imp_left (k b)
theorem RootsP.puts (h : RootsP K ow env σ H H' F F' fp ips lus us' ls' ks0 vs0 us0 us2 ls2 ws0) (nd : (ips.map (·.1)).Nodup) : ∀ env2 : List C, (∀ j, j ∈ ips.map (·.1) → env2[j]? = env[j]?) → putsN (ips.map (·.1)) us2 env2 = putsP ips us' env2 := by
  induction h with
  | nil => intro _ _; rfl
  | @cons ip m s ts a u' lu l' l2 ips lus ls' ls2 us' us0 us2 ks0 vs0 ws e1 e2 r m2 s2 k _ ih =>
    intro env2 h2
    rw [List.map_cons, List.nodup_cons] at nd
    have e3 := (h2 ip.1 (by simp)).trans e1
    have e4 : putAt env2 (ip.1, []) (T.put ip.2 (.n s ts) u') = putAt env2 ip u' := by
      unfold putAt
      dsimp only
      rw [e3]
      rfl
    show putsN _ us2 (putAt env2 (ip.1, []) (T.put ip.2 (.n s ts) u')) = putsP ips us' (putAt env2 ip u')
    rw [e4]
    refine ih nd.2 _ fun j hj => ?_
    rw [putAt_other (fun z => nd.1 (z ▸ hj))]
    exact h2 j (by simp [hj])
theorem RootsP.from (h : RootsP K ow env σ H H' F F' fp ips lus us' ls' ks0 vs0 us0 us2 ls2 ws0) : ∀ b, b ∈ ls2.flatten → (∃ ip lu, (ip, lu) ∈ ips.zip lus ∧ b ∈ fp ip.1 ∧ b ∉ lu) ∨ b ∈ ls'.flatten := by
  induction h with
  | nil => intro b hb; cases hb
  | @cons ip m s ts a u' lu l' l2 ips lus ls' ls2 us' us0 us2 ks0 vs0 ws e1 e2 r m2 s2 k _ ih =>
    intro b hb
    rw [List.flatten_cons] at hb
    rcases List.mem_append.mp hb with z | z
    · rcases m2 b z with y | y
      · exact .inl ⟨ip, lu, by simp, y⟩
      · exact .inr (by simp [y])
    · rcases ih b z with ⟨ip', lu', y1, y2⟩ | y
      · exact .inl ⟨ip', lu', by simp [y1], y2⟩
      · exact .inr (by simp only [List.flatten_cons, List.mem_append]; exact .inr y)
theorem RootsP.nd (R : Rel K G env σ H F fp) (h : RootsP K ow env σ H H' F F' fp ips lus us' ls' ks0 vs0 us0 us2 ls2 ws0) (hn : (ips.map (·.1)).Nodup) (hl : ls'.flatten.Nodup) : ls2.flatten.Nodup := by
  induction h with
  | nil => exact List.nodup_nil
  | @cons ip m s ts a u' lu l' l2 ips lus ls' ls2 us' us0 us2 ks0 vs0 ws e1 e2 r m2 s2 k hr ih =>
    rw [List.map_cons, List.nodup_cons] at hn
    rw [List.flatten_cons, List.nodup_append] at hl
    rw [List.flatten_cons, List.nodup_append]
    refine ⟨r.nodup, ih hn.2 hl.2.1, fun b hb c hc z => ?_⟩
    subst z
    have i1 : b ∈ l' → b ∈ fp ip.1 ∨ H b = none := fun y => (s2 b y).imp_left (k b)
    have rest : (∃ ip', ip' ∈ ips ∧ b ∈ fp ip'.1) ∨ (H b = none ∧ b ∈ ls'.flatten) ∨ (b ∈ ls'.flatten) := by
      rcases hr.from b hc with ⟨ip', lu', y1, y2, _⟩ | y
      · exact .inl ⟨ip', (List.of_mem_zip y1).1, y2⟩
      · exact .inr (.inr y)
    have far : ∀ ip', ip' ∈ ips → b ∈ fp ip'.1 → b ∈ fp ip.1 → False := fun ip' h1 h2 h3 => hn.1 (List.mem_map.mpr ⟨ip', h1, R.dj _ _ b h2 h3⟩)
    have inls : ∀ {ips : List IP} {lus ls' : List (List Addr)} {us' us0 us2 : List T} {ls2 : List (List Addr)} {ks0 : List Bool} {vs0 : List V} {ws : List (Addr × List Addr)}, RootsP K ow env σ H H' F F' fp ips lus us' ls' ks0 vs0 us0 us2 ls2 ws → b ∈ ls'.flatten → (∃ ip', ip' ∈ ips ∧ b ∈ fp ip'.1) ∨ H b = none := by
      intro ips lus ls' us' us0 us2 ls2 ks0 vs0 ws h
      induction h with
      | nil => intro hb; cases hb
      | @cons ip1 _ _ _ _ _ lu1 l1 _ _ _ _ _ _ _ _ _ _ _ _ _ _ _ s3 k3 _ ih2 =>
        intro hb
        rw [List.flatten_cons] at hb
        rcases List.mem_append.mp hb with z | z
        · rcases s3 b z with y | y
          · exact .inl ⟨ip1, by simp, k3 b y⟩
          · exact .inr y
        · rcases ih2 z with ⟨ip', y1, y2⟩ | y
          · exact .inl ⟨ip', by simp [y1], y2⟩
          · exact .inr y
    rcases m2 b hb with y | y
    · have hne := (R.own ip.1 b y.1).2.1
      rcases hr.from b hc with ⟨ip', lu', y1, y2, _⟩ | y3
      · exact far ip' (List.of_mem_zip y1).1 y2 y.1
      · rcases inls hr y3 with ⟨ip', z1, z2⟩ | z
        · exact far ip' z1 z2 y.1
        · exact hne z
    · rcases hr.from b hc with ⟨ip', lu', y1, y2, _⟩ | y3
      · rcases i1 y with z | z
        · exact far ip' (List.of_mem_zip y1).1 y2 z
        · exact (R.own ip'.1 b y2).2.1 z
      · exact hl.2.2 b y b y3 rfl
theorem Rel.calledP {r : T} {lr : List Addr} {v : V} (hw : G.w = some w) (R : Rel K G env σ H F fp) (ma : MAp K G env σ H F fp rd ks ips vs us lus) (nd : (ips.map (·.1)).Nodup) (hws : ws.map (·.2) = lus) (p : PostM K w ks vs H F ws H' F' us' ls' v r lr) :
    ∃ fp', Rel K G (putsP ips us' env) σ H' F' fp' ∧ New K G H' F' fp' v r lr := by
  have hW : ∀ b, b ∈ wAll ws → b ∈ lus.flatten := fun b hb => by rw [wAll_map, hws] at hb; exact hb
  have pmu := p.mu
  rw [← hw] at pmu
  obtain ⟨ks0, vs0, us0, us2, ls2, ws0, rt⟩ := ma.roots R p.f (wAll ws) p.keep hW nd pmu p.sep hws
  obtain ⟨m1, m2, m3⟩ := rt.mas
  rw [hw] at m3
  have w0 : ∀ b, b ∈ wAll ws → b ∈ wAll ws0 := fun b hb => by
    obtain ⟨ip, h1, h2⟩ := ma.mem b (hW b hb)
    rw [wAll_map, m2]
    exact List.mem_flatten.mpr ⟨_, List.mem_map.mpr ⟨_, List.mem_map.mpr ⟨ip, h1, rfl⟩, rfl⟩, h2⟩
  have w1 : ∀ b, b ∈ wAll ws0 → ∃ i, b ∈ fp i := fun b hb => by
    rw [wAll_map, m2] at hb
    obtain ⟨l, h1, h2⟩ := List.mem_flatten.mp hb
    obtain ⟨i, _, rfl⟩ := List.mem_map.mp h1
    exact ⟨i, h2⟩
  have al : ∀ b, H b ≠ none → H' b ≠ none := fun b hb => by
    by_cases z : b ∈ wAll ws
    · exact p.al b z
    · cases q : H b with
      | none => exact absurd q hb
      | some o => rw [p.keep b o z q]; intro y; cases y
  have fpF : ∀ i b, b ∈ fp i → F' b = none := fun i b hb => by
    cases q : F' b with
    | none => rfl
    | some o =>
      rcases p.nw b o q with z | z
      · rw [(R.own i b hb).1] at z; cases z
      · exact absurd z (R.own i b hb).2.1
  have ndl := p.nd
  rw [List.nodup_append] at ndl
  have p0 : PostM K w ks0 vs0 H F ws0 H' F' us2 ls2 v r lr := {
    f := p.f
    sub := p.sub
    nw := p.nw
    keep := fun b o hb => p.keep b o fun z => hb (w0 b z)
    al := fun b hb => let ⟨i, hi⟩ := w1 b hb; al b (R.own i b hi).2.1
    mu := m3
    sep := rt.sep
    own := fun b hb => by
      rcases rt.from b hb with ⟨ip, lu, _, h2, _⟩ | z
      · exact ⟨fpF _ b h2, al b (R.own _ b h2).2.1⟩
      · exact p.own b z
    nd := by
      rw [List.nodup_append]
      refine ⟨rt.nd R nd ndl.1, ndl.2.1, fun b hb c hc z => ?_⟩
      subst z
      rcases rt.from b hb with ⟨ip, lu, _, h2, _⟩ | z
      · exact (R.own _ b h2).2.1 (p.new b hc).1
      · exact ndl.2.2 b z b hc rfl
    res := p.res
    new := p.new }
  obtain ⟨R', n'⟩ := R.calledN hw m1 nd m2 p0
  rw [rt.puts nd env fun _ _ => rfl] at R'
  exact ⟨_, R', n'⟩
end
end DL
set_option Elab.async false
set_option linter.all false
set_option maxRecDepth 100000
set_option maxHeartbeats 4000000
namespace DL
open PySem PySem.Spec L2
section
variable {X : Cx} {G : GC} {kr k : RK} {e : Expr} {es : List Expr} {fe : List C → Option D} {gp : List C → Option IP} {pos p p1 p2 : Pos} {x y : Str} {sts body : List Stmt} {fb g : List C → Out}
def pAl (s v : Nat) : List C → Option IP := fun env => match env[v]?, env[s]? with
  | some (.al j i), some (.own (some j') (.n .lf ts)) => if j = j' ∧ i < ts.length then some (s, [i]) else none
  | _, _ => none
def rPl (gp : List C → Option IP) : List C → Option T := fun env => (gp env).bind (nodeAt env)
def sAl (s v : Nat) (fi : List C → Option D) : List C → Out := fun env => match env[s]? with
  | some (.own (some j) (.n .lf ts)) => (match fi env with | some (.int i) => (match ixN ts.length i with | some n => .nx (env.set v (.al j n)) | none => .err) | _ => .err)
  | _ => .err
def forL (v j : Nat) (b : List C → Out) : List Nat → List C → Out
  | [], env => .nx env
  | i :: r, env => match b (env.set v (.al j i)) with
    | .nx e => forL v j b r e
    | .ct e => forL v j b r e
    | .bk e => .nx e
    | .rt d => .rt d
    | .err => .err
    | .rx e t => .rx e t
    | .xc e x => .xc e x
def sForL (s v : Nat) (fb : List C → Out) : List C → Out := fun env => match env[s]? with
  | some (.own (some j) (.n .lf ts)) => forL v j fb (List.range ts.length) env
  | _ => .err
def noPinC : C → Bool
  | .own (some _) _ => false
  | .pin _ => false
  | .al _ _ => false
  | _ => true
def onlyRt : Out → Out
  | .rt d => .rt d
  | _ => .err
def sPin (s : Nat) (g : List C → Out) : List C → Out := fun env => match env[s]? with
  | some (.own none (.n .lf ts)) => if env.all noPinC = true then onlyRt (g (env.set s (.own (some 0) (.n .lf ts)))) else .err
  | _ => .err
structure DMp (X : Cx) (G : GC) (es : List Expr) (ks : List Bool) (rd : List Nat) (rs : List C → Option (List IP × List T)) : Prop where
  ex : ∃ t, PA X es t ∧ ∀ (σ : L2.St) (H F : Hp) (fp : Nat → List Addr) (env : List C) (ips : List IP) (us : List T) (Q : List V → Hp → Prop), Rel X.K G env σ H F fp → rs env = some (ips, us) →
    (∀ vs lus H' F', Ext H F H' F' → MAp X.K G env σ H' F' fp rd ks ips vs us lus → Q vs H') → t σ H Q
def mpNil : List C → Option (List IP × List T) := fun _ => some ([], [])
def mpRo (f : List C → Option D) (rs : List C → Option (List IP × List T)) : List C → Option (List IP × List T) := fun env => match f env with
  | some d => (rs env).map fun r => (r.1, .d d :: r.2)
  | none => none
def mpRd (i : Nat) (rs : List C → Option (List IP × List T)) : List C → Option (List IP × List T) := fun env => match env[i]? with
  | some (.own _ t) => (rs env).map fun r => (r.1, t :: r.2)
  | _ => none
def mpMu (gp : List C → Option IP) (rs : List C → Option (List IP × List T)) : List C → Option (List IP × List T) := fun env => match gp env with
  | some ip => (match nodeAt env ip with | some (.n s ts) => (rs env).map fun r => (ip :: r.1, .n s ts :: r.2) | _ => none)
  | none => none
variable {ks : List Bool} {rd : List Nat} {rs : List C → Option (List IP × List T)} {f : List C → Option D}
theorem dmp_nil : DMp X G [] [] [] mpNil := ⟨_, pa_nil, fun σ H F fp env ips us Q R hf q => by cases hf; exact q [] [] H F (Ext.refl R.sub) .nil⟩
theorem dmp_ro (h : DE X G k e f) (ht : DMp X G es ks rd rs) (hk : k.le .fz = true := by rfl) (hs : starEach (e :: es) X.env = (false, eval e X.env) :: starEach es X.env := by rfl) : DMp X G (e :: es) (false :: ks) rd (mpRo f rs) := by
  obtain ⟨t, pt, o⟩ := (h.conv hk).ex
  obtain ⟨t2, pt2, o2⟩ := ht.ex
  refine ⟨_, pa_cons pt pt2 hs, fun σ H F fp env ips us Q R hf q => ?_⟩
  unfold mpRo at hf
  split at hf
  · rename_i d z
    cases z2 : rs env with
    | none => rw [z2] at hf; cases hf
    | some r2 =>
      rw [z2] at hf; cases hf
      refine o σ H F fp env d _ R z fun v H1 F1 E1 r => ?_
      refine o2 σ H1 F1 fp env r2.1 r2.2 _ (R.ext E1) z2 fun vs lus H2 F2 E2 m => ?_
      exact q (v :: vs) lus H2 F2 (E1.trans E2) (.ro (l := []) (.d (DF_mono E2.f _ _ r)) (fun _ m => nomatch m) m)
  · cases hf
def okP (ips : List IP) (rd : List Nat) : Bool := decide ((ips.map (·.1)).Nodup ∧ ∀ r, r ∈ rd → r ∉ ips.map (·.1))
def xCallP (g : List T → Option (List T × T)) (rd : List Nat) (rs : List C → Option (List IP × List T)) : List C → Option (List C × T) := fun env => match rs env with
  | some (ips, us) => if okP ips rd = true then (match g us with | some (us', y) => some (putsP ips us' env, y) | none => none) else none
  | none => none
theorem MAp.spM {K : PySem.W.Frag} {w : World} {env : List C} {σ : L2.St} {H F : Hp} {fp : Nat → List Addr} {ips : List IP} {vs : List V} {us : List T} {lus : List (List Addr)} (hw : G.w = some w) (R : Rel K G env σ H F fp) (ma : MAp K G env σ H F fp rd ks ips vs us lus) (ok : okP ips rd = true) :
    ∃ ws, MA K (some w) (cut H (wAll ws)) H F ks vs us ws ∧ (wAll ws).Nodup ∧ (∀ b, b ∈ wAll ws → F b = none ∧ H b ≠ none) ∧ ws.map (·.2) = lus := by
  have ok := of_decide_eq_true ok
  obtain ⟨nd, hr⟩ := ok
  have eW : ∀ ws : List (Addr × List Addr), ws.map (·.2) = lus → wAll ws = lus.flatten := fun ws e => by rw [wAll_map, e]
  obtain ⟨ws, m, e⟩ := ma.ma (cut H lus.flatten) (fun b o ⟨j, hj, hb⟩ h => by
    unfold cut
    rw [if_neg (fun z => ?_)]
    · exact h
    · obtain ⟨ip, h1, h2⟩ := ma.mem b z
      exact hr j hj (R.dj _ _ b h2 hb ▸ List.mem_map.mpr ⟨ip, h1, rfl⟩))
  rw [hw] at m
  refine ⟨ws, by rw [eW ws e]; exact m, by rw [eW ws e]; exact ma.nd R nd, fun b hb => ?_, e⟩
  rw [eW ws e] at hb
  obtain ⟨ip, h1, h2⟩ := ma.mem b hb
  exact ⟨(R.own _ b h2).1, (R.own _ b h2).2.1⟩
end
end DL
set_option Elab.async false
set_option linter.all false
set_option maxRecDepth 100000
set_option maxHeartbeats 4000000
namespace DL
open PySem PySem.Spec L2
inductive Rz where
  | ok (us : List T) (r : T) | ex (us : List T) (x : XD)
def spMX (K : PySem.W.Frag) (w : World) (ks : List Bool) (g : List T → Option Rz) : Sp := fun vs H Q E => ∃ (F0 : Hp) (us : List T) (ws : List (Addr × List Addr)), Same F0 H ∧ MA K (some w) (cut H (wAll ws)) H F0 ks vs us ws ∧ (wAll ws).Nodup ∧ (∀ b, b ∈ wAll ws → F0 b = none ∧ H b ≠ none) ∧
  match g us with
  | some (.ok us' r) => ∀ v H' F' ls' lr, PostM K w ks vs H F0 ws H' F' us' ls' v r lr → Q v H'
  | some (.ex us' x) => ∀ cls d H' F' ls' lr, XC K x.c cls → PostM K w ks vs H F0 ws H' F' us' ls' (vX d) (XT x) lr → E cls d H'
  | none => False
def outMX (ks : List Bool) : Out → Option Rz
  | .rx env r => (collectM ks 0 0 env).map fun us => .ok us r
  | .nx env => (collectM ks 0 0 env).map fun us => .ok us (.d .none)
  | .xc env x => (collectM ks 0 0 env).map fun us => .ex us x
  | _ => none
def runMX (ks : List Bool) (N : Nat) (body : List C → Out) : List T → Option Rz := fun us => outMX ks (body (cellsM ks 0 us ++ List.replicate (N - us.length) .und))
def WS (X : Cx) : WX := fun cls d σ H => ∃ W : WX, Takes X W ∧ W cls d σ H
theorem takes_all {X : Cx} : Takes X (WS X) := fun u s' ⟨a, B, sI, pins, σ, H, cls, d, e, I, nb, up, sky, na, os, ag, W, tk, w⟩ => tk u s' ⟨a, B, sI, pins, σ, H, cls, d, e, I, nb, up, sky, na, os, ag, w⟩
section
variable {P : Program} {w : World} {K : PySem.W.Frag} {mg : Str → Option Value} {base : Heap}
theorem fn_muX {x qual : Str} {st : Stmt} {f : Addr} {fd : FuncData} {N ps : List Str} {k : Nat} {ks : List Bool} {body : List C → Out} (F : Fun K x qual st f fd) (S : FnScope N ps (defScope st)) (hl : ks.length = ps.length)
    (hbody : ∀ (cdv : Value) (A : Around) (outer : List Env) (s : Shared) (H : Hp) (E : XK) (G : GC), Room k (A.deeper (PyProof.Rows.envOfC qual (defScope st) s.heap.objs.size f cdv)) → G.w = some w →
      DSs (cxOf (L2.CX P w) P w K mg base N qual (defScope st) f cdv A outer s H E) G .fz (defBody st) body) : FnOk P w K mg base (L2.CX P w) (k + 1) f fd ps (spMX K w ks (runMX ks N.length body)) := by
  refine F.okX S (fun vs H Q E h => ?_) (fun cdv A outer s H vs Q E hr h => ?_)
  · obtain ⟨F0, us, ws, sub, m, _⟩ := h
    rw [m.len.1, hl]
  · obtain ⟨F0, us, ws, sub, m, nd, al, hg⟩ := h
    obtain ⟨t, pt, o⟩ := (hbody cdv A outer s H E ⟨H, F0, ws, some w⟩ hr rfl).ex
    refine ⟨t, pt, o _ H F0 _ _ _ (rel_startM (N := N) sub m nd al) ?_⟩
    have fin : ∀ (env' : List C) (σ' : L2.St) (H' F' : Hp) (fp' : Nat → List Addr) (v : V) (r : T) (lr : List Addr) (us' : List T), Rel K ⟨H, F0, ws, some w⟩ env' σ' H' F' fp' → New K ⟨H, F0, ws, some w⟩ H' F' fp' v r lr → collectM ks 0 0 env' = some us' →
        ∃ ls', PostM K w ks vs H F0 ws H' F' us' ls' v r lr := fun env' σ' H' F' fp' v r lr us' R n hc => by
      obtain ⟨e1, e2⟩ := m.exit R 0 0 us' (fun k x e => by rw [Nat.zero_add]; exact e) hc
      have inF : ∀ b, b ∈ ((muSlots ks 0).map fp').flatten → ∃ i, b ∈ fp' i := fun b hb => by
        obtain ⟨l, hl, hb⟩ := List.mem_flatten.mp hb
        obtain ⟨i, _, rfl⟩ := List.mem_map.mp hl
        exact ⟨i, hb⟩
      refine ⟨_, { f := R.old, sub := R.sub, nw := R.new, keep := fun b o hb e => R.keep b o e hb, al := fun b hb => R.alive b (al b hb).2, mu := e1, sep := e2, own := fun b hb => ?_, nd := ?_, res := n.rep, new := fun b hb => ⟨(n.own b hb).2.2, (n.own b hb).1, (n.own b hb).2.1⟩ }⟩
      · obtain ⟨i, hi⟩ := inF b hb
        exact ⟨(R.own i b hi).1, (R.own i b hi).2.1⟩
      · rw [List.nodup_append]
        refine ⟨slots_nd R e1 _ (muSlots_nd ks 0) (fun i hi => e1.nodup _ (List.mem_map.mpr ⟨i, hi, rfl⟩)), n.rep.nodup, fun a ha b hb e => ?_⟩
        subst e
        obtain ⟨i, hi⟩ := inF a ha
        exact n.dj a hb i hi
    unfold runMX outMX at hg
    revert hg
    cases body (cellsM ks 0 us ++ List.replicate (N.length - us.length) .und) with
    | rx env' r =>
      intro hg
      dsimp only at hg
      cases z : collectM ks 0 0 env' with
      | none => rw [z] at hg; exact hg.elim
      | some us2 =>
        rw [z] at hg
        exact fun v σ' H' F' fp' l R n => let ⟨ls', p⟩ := fin env' σ' H' F' fp' v r l us2 R n z; hg v H' F' ls' l p
    | nx env' =>
      intro hg
      dsimp only at hg
      cases z : collectM ks 0 0 env' with
      | none => rw [z] at hg; exact hg.elim
      | some us2 =>
        rw [z] at hg
        exact fun σ' H' F' fp' R s => let ⟨ls', p⟩ := fin env' σ' H' F' fp' .non (.d .none) [] us2 R (new_d .non) z; hg .non H' F' ls' [] p
    | xc env' x =>
      intro hg
      dsimp only at hg
      cases z : collectM ks 0 0 env' with
      | none => rw [z] at hg; exact hg.elim
      | some us2 =>
        rw [z] at hg
        exact fun cls d σ' H' F' fp' l R _ hc n => let ⟨ls', p⟩ := fin env' σ' H' F' fp' (vX d) (XT x) l us2 R n z; ⟨fun cls d _ H => E cls d H, takes_of rfl rfl rfl rfl, hg cls d H' F' ls' l hc p⟩
    | rt d => intro hg; exact hg.elim
    | bk e => intro hg; exact hg.elim
    | ct e => intro hg; exact hg.elim
    | err => intro hg; exact hg.elim
end
structure MetMX (P : Program) (w : World) (K : PySem.W.Frag) (mg : Str → Option Value) (base : Heap) (k : Nat) (c m : Str) (n : Nat) (g : List T → Option Rz) : Prop where
  ex : ∃ (C f : Addr) (fd : FuncData) (ps : List Str), PySem.W.nsIn K mainGlobals c = some (some (.ref C)) ∧ Cls K C ∧ Meth K C m f ∧ FnOk P w K mg base (L2.CX P w) k f fd ps (spMX K w (true :: List.replicate n false) g) ∧ Binds K fd ps []
section
variable {X : Cx} {CX : CXT} {k : Nat} {f C : Addr} {fd : FuncData} {ps : List Str} {sp : Sp} {E : St → XK} {m : Str} {p pos apos : Pos} {e o : Expr} {es : List Expr} {ta : TE} {t : TA}
def tMethS (C : Addr) (m : Str) (sp : Sp) (E : St → XK) (ta : TE) (t : TA) : TE := fun σ H Q => ta σ H fun x H1 => ∃ a dx fs, x = .ref a ∧ H1 a = some (.ins C dx fs) ∧ fs.lookup m = none ∧ t σ H1 fun vs H2 => sp (x :: vs) H2 Q (E σ)
end
inductive OY where
  | ok (env : List C) (u : T) | xc (env : List C) (x : XD)
structure DY (X : Cx) (G : GC) (e : Expr) (g : List C → Option OY) : Prop where
  ex : ∃ t, PE X e t ∧ ∀ (σ : L2.St) (H F : Hp) (fp : Nat → List Addr) (env : List C) (o : OY) (Q : VK), Rel X.K G env σ H F fp → g env = some o →
    (match o with
      | .ok env' u => ∀ v H' F' fp' l, Rel X.K G env' σ H' F' fp' → Same F F' → New X.K G H' F' fp' v u l → Q v H'
      | .xc env' x => ∀ cls d H' F' fp' l, Rel X.K G env' σ H' F' fp' → Same F F' → XC X.K x.c cls → New X.K G H' F' fp' (vX d) (XT x) l → WS X cls d σ H') → t σ H Q
section
variable {X : Cx} {G : GC} {kr k : RK} {e o : Expr} {es : List Expr} {gp : List C → Option IP} {rs : List C → Option (List T)} {lv n : Nat} {c m : Str} {pos apos p p1 p2 : Pos} {gy : List C → Option OY} {x : Str}
def yMeth (c m : Str) (g : List T → Option Rz) (gp : List C → Option IP) (rs : List C → Option (List T)) : List C → Option OY := fun env => match gp env with
  | some ip => (match nodeAt env ip with
    | some (.n (.o c' fs) ts) => if c' = c ∧ fIx m fs = none then (match rs env with
      | some us => (match flatT us, g (.n (.o c fs) ts :: us) with
        | some _, some (.ok [u'] y) => some (.ok (putAt env ip u') y)
        | some _, some (.ex [u'] x) => some (.xc (putAt env ip u') x)
        | _, _ => none)
      | none => none) else none
    | _ => none)
  | none => none
end
end DL
set_option Elab.async false
set_option linter.all false
set_option maxRecDepth 100000
set_option maxHeartbeats 4000000
namespace DL
open PySem PySem.Spec L2
section
variable {X : Cx} {G : GC} {kr : RK} {e : Expr} {gy : List C → Option OY} {pos pos' : Pos} {x : Str}
def sSetY (i : Nat) (g : List C → Option OY) : List C → Out := fun env => match g env with
  | some (.ok e u) => .nx (e.set i (toC u))
  | some (.xc e x) => .xc e x
  | none => .err
def sDropY (g : List C → Option OY) : List C → Out := fun env => match g env with
  | some (.ok e _) => .nx e
  | some (.xc e x) => .xc e x
  | none => .err
theorem ds_exprY (h : DY X G e gy) (hs : swapsWith e none pos.line X.env = pure false := by rfl) : DS X G kr (.Expr e pos) (sDropY gy) := by
  obtain ⟨t, p, o⟩ := h.ex
  refine ⟨_, ps_expr p hs, fun σ H F fp env E R q => ?_⟩
  unfold sDropY at q
  cases z : gy env with
  | none => rw [z] at q; exact q.elim
  | some oy =>
    rw [z] at q
    cases oy with
    | ok env' u => exact o σ H F fp env _ _ R z fun v H' F' fp' l R' s n => q σ H' F' fp' R' s
    | xc env' x => exact o σ H F fp env _ _ R z fun cls d H' F' fp' l R' s hc n => q cls d σ H' F' fp' l R' s hc n
def sRetY (g : List C → Option OY) : List C → Out := fun env => match g env with
  | some (.ok e u) => .rx e u
  | some (.xc e x) => .xc e x
  | none => .err
end
structure DMk (X : Cx) (G : GC) (e : Expr) (g : List C → Option XD) : Prop where
  ex : ∃ t, PMk X e t ∧ ∀ (σ : L2.St) (H F : Hp) (fp : Nat → List Addr) (env : List C) (x : XD) (Q : XK), Rel X.K G env σ H F fp → g env = some x →
    (∀ cls d H' F' l, Ext H F H' F' → XC X.K x.c cls → OR X.K G.w H' F' (vX d) (XT x) l → Fresh H H' F' l → Q cls d H') → t σ H Q
structure MkE (P : Program) (w : World) (K : PySem.W.Frag) (mg : Str → Option Value) (base : Heap) (k : Nat) (c : Str) (fs : List Str) (sp : Sp) : Prop where
  ex : ∃ (C fI : Addr) (fd : FuncData) (ps : List Str), PySem.W.nsIn K mainGlobals c = some (some (.ref C)) ∧ mg c = some (.ref C) ∧ OexC K C ∧ PySem.W.findIn K (.ref C) "__init__" = some (some (.ref fI)) ∧ PySem.W.typeIn K (.ref fI) = some (.type "function") ∧ (∀ f, f ∈ fs → PySem.W.findIn K (.ref C) f = some none) ∧
    FnOk P w K mg base CX0 k fI fd ps sp ∧ Binds K fd ps []
section
variable {X : Cx} {G : GC} {kr k k2 : RK} {e a b : Expr} {g : List C → Option XD} {fe fa fb : List C → Option D} {p pos : Pos} {c f f2 : Str} {lv : Nat}
def sRaise (g : List C → Option XD) : List C → Out := fun env => match g env with | some x => .xc env x | none => .err
theorem ds_raise (hc : X.calm = true) (h : DMk X G e g) : DS X G kr (.Raise (some e) none pos) (sRaise g) := by
  obtain ⟨t, p, o⟩ := h.ex
  refine ⟨_, ps_raise hc takes_all p, fun σ H F fp env E R q => ?_⟩
  unfold sRaise at q
  cases z : g env with
  | none => rw [z] at q; exact q.elim
  | some x =>
    rw [z] at q
    exact o σ H F fp env x _ R z fun cls d H' F' l E' hc r fr => q cls d σ H' F' fp l (R.ext E') E'.f hc (R.fresh E' r fr)
def mkE1 (c f : Str) (fa : List C → Option D) : List C → Option XD := fun env => (fa env).map fun d => ⟨c, [f], [d]⟩
theorem heap_mk {H1 : Hp} {a dx : Addr} {o1 o2 o3 o : HO} (ha : H1 a = none) (hne : dx ≠ a) : upd (L2.del (upd (upd (upd H1 a o1) dx o2) a o3) a) dx o = upd H1 dx o := by
  funext b
  by_cases h1 : b = dx
  · subst h1; rw [upd_same, upd_same]
  · rw [upd_ne h1, upd_ne h1]
    by_cases h2 : b = a
    · subst h2; rw [L2.del_same, ha]
    · rw [L2.del_ne h2, upd_ne h2, upd_ne h1, upd_ne h2]
theorem dmk_1 (mk : MkE X.prog X.w X.K X.mg X.base lv c [f] (spI1 X.K f)) (hr : Room (lv + 1) X.A) (hg : Gl X c) (h : DE X G k a fa) (hk : k.le .fz = true := by rfl) (hdb : (c == ("__debug__" : Str)) = false := by decide)
    (hs : starEach [a] X.env = [(false, eval a X.env)] := by rfl) (hpl : (backTo pos (starEach [] X.env)).any (·.1) = false := by rfl) : DMk X G (.Call (.Name c p) [a] [] pos) (mkE1 c f fa) := by
  obtain ⟨C, fI, fd, ps, nC, gC, T, iC, tI, no, F1, b⟩ := mk.ex
  obtain ⟨t, pt, o⟩ := (h.conv hk).ex
  refine ⟨_, pmk_oex T iC tI F1 hr b .nil pass0 hg gC (pa_cons pt pa_nil hs) hdb hs hpl, fun σ H F fp env x Q R hf q => ?_⟩
  unfold mkE1 at hf
  cases z : fa env with
  | none => rw [z] at hf; cases hf
  | some d0 =>
    rw [z] at hf; cases hf
    refine o σ H F fp env d0 _ R z fun v H1 F1 E1 r => ⟨(by simp : [v].length ≤ 1000), fun x hx => ?_⟩
    refine ⟨x, C, v, rfl, T, no f (List.mem_singleton.mpr rfl), upd_same, fun dx hdx hne => ⟨rfl, dx, [(f, v)], upd_same, ?_, ?_, ?_⟩⟩
    · rw [upd_ne hne, upd_same]
    · rw [upd_ne hne] at hdx; exact hdx
    · rw [upd_ne hne] at hdx
      rw [heap_mk hx hne]
      refine q (.ref C) (some dx) _ F1 [dx] (E1.trans (Ext.laid E1.sub hdx)) ⟨C, nC, rfl⟩ (.n (own := [dx]) (l := []) ⟨rfl, rfl, upd_same⟩ (.cons (.d r) .nil) (by simp)) fun b hb => ?_
      rw [List.mem_singleton.mp hb]
      refine ⟨E1.h.free hdx, E1.sub.free hdx, ?_⟩
      rw [upd_same]; intro y; cases y
def mkE2 (c f f2 : Str) (fa fb : List C → Option D) : List C → Option XD := fun env => match fa env with
  | some d => (fb env).map fun d2 => ⟨c, [f2, f], [d2, d]⟩
  | none => none
end
end DL
set_option Elab.async false
set_option linter.all false
set_option maxRecDepth 100000
set_option maxHeartbeats 4000000
namespace DL
open PySem PySem.Spec L2
def XK (x : XD) : T := .n (.x x.c x.fs) (match x.fs with | [] => [] | _ => x.ds.map T.d)
def sTry (xs : List Str) (i j : Nat) (fb : List C → Out) : List C → Out := fun env => match fb env with
  | .xc e x => if xs.contains x.c = true ∧ i < e.length then .nx ((e.set i .und).set j (.own none (XK x))) else .err
  | o => o
theorem rel_gone {K : PySem.W.Frag} {G : GC} {env : List C} {σ : L2.St} {H F : Hp} {fp : Nat → List Addr} (R : Rel K G env σ H F fp) (i : Nat) : Rel K G (env.set i .und) (σ.set i none) H F (fset fp i []) where
  len := by rw [List.length_set, List.length_set, R.len]
  slot := fun j c e => by
    by_cases hj : j = i
    · subst hj
      rw [fset_at]
      have hl := (List.getElem?_eq_some_iff.mp e).1
      rw [List.length_set] at hl
      rw [List.getElem?_set_self hl] at e; cases e
      rfl
    · rw [List.getElem?_set_ne (Ne.symm hj)] at e ⊢
      rw [fset_ne hj]
      exact R.slot j c e
  dj := fun j k a h1 h2 => by
    by_cases hj : j = i
    · subst hj; rw [fset_at] at h1; cases h1
    · by_cases hk : k = i
      · subst hk; rw [fset_at] at h2; cases h2
      · rw [fset_ne hj] at h1; rw [fset_ne hk] at h2
        exact R.dj j k a h1 h2
  own := fun j a ha => by
    by_cases hj : j = i
    · subst hj; rw [fset_at] at ha; cases ha
    · rw [fset_ne hj] at ha
      obtain ⟨g1, g2, g3⟩ := R.own j a ha
      exact ⟨g1, g2, by rw [List.getElem?_set_ne (Ne.symm hj)]; exact g3⟩
  sub := R.sub
  new := R.new
  old := R.old
  keep := R.keep
  alive := R.alive
def PostW (X : Cx) (G : GC) (kr : RK) (F : Hp) (E : Ends) (W : WX) : Out → Prop
  | .xc env' x => ∀ cls d σ' H' F' fp' l, Rel X.K G env' σ' H' F' fp' → Same F F' → XC X.K x.c cls → New X.K G H' F' fp' (vX d) (XT x) l → W cls d σ' H'
  | o => Post X G kr F E o
def Under (K : PySem.W.Frag) (B : Value) (c : Str) : Prop := ∀ C, PySem.W.nsIn K mainGlobals c = some (some (.ref C)) → PySem.W.exmOne K (.ref C) B = some true
section
variable {X : Cx} {G : GC} {kr : RK} {body : List Stmt} {fb : List C → Out} {n m b : Str} {B : Value} {p1 p2 p3 np hpos pos : Pos}
theorem ds_tryKeep (xs : List Str) (i j : Nat) (hij : i ≠ j) (hs : X.stack = X.env :: X.outer) (hf : X.env.frame = some X.env.locals) (hex : X.ex = []) (hN : X.N.Nodup) (hi : X.N[i]? = some n) (hj : X.N[j]? = some m) (hln : X.env.kindOf n = some .local) (hlm : X.env.kindOf m = some .local)
    (hc : Names X b B) (hxs : ∀ c, c ∈ xs → Under X.K B c) (hv : ∀ (a : Addr) (oe : Obj) (pn : List (Addr × Obj)), PE (X.suite a ((a, oe) :: pn)) (.Name n p2) (tVar i))
    (hsw : ∀ (a : Addr) (oe : Obj) (pn : List (Addr × Obj)), swapsWith (.Name n p2) (some (.Name m p1)) p3.line (X.suite a ((a, oe) :: pn)).env = pure false)
    (hb : ∀ (pn : List (Addr × Obj)) (xe : Value → Shared → Prop), PassesOwn (model X.prog X.w) X.A X.env xe → DSs (X.tr pn xe) G kr body fb) :
    DS X G kr (.Try body [.ExceptHandler (some (.Name b np)) (some n) [.Assign [.Name m p1] (.Name n p2) p3] hpos] [] [] pos) (sTry xs i j fb) := by
  have su : ∀ (a : Addr) (oe : Obj) (pn : List (Addr × Obj)), PSs (X.suite a ((a, oe) :: pn)) [.Assign [.Name m p1] (.Name n p2) p3] (tAsg (tVar i) (gName j)) := fun a oe pn =>
    pss_one (ps_set (X := X.suite a ((a, oe) :: pn)) hN hj (.inl hlm) (hv a oe pn) (hsw a oe pn) (.inr hlm))
  refine ⟨_, ps_try_keep (Wout := fun _ _ _ _ => False) (tb := fun W D σ H => ∃ F fp env, Rel X.K G env σ H F fp ∧ PostW X G kr F D W (fb env)) hs hf hex hN hi hln hc takes0 (fun W pn xe tk po => ?_) su, fun σ H F fp env E R q => ⟨F, fp, env, R, ?_⟩⟩
  · refine ⟨fun pins s σ H D I ⟨F, fp, env, R, q⟩ => ?_⟩
    obtain ⟨t, pt, o⟩ := (hb pn xe po).ex
    refine pt.run pins s σ H D I (o σ H F fp env D R ?_)
    revert q
    cases fb env with
    | xc e x => exact fun q cls d σ' H' F' fp' l R' s hc' n => ⟨W, tk, q cls d σ' H' F' fp' l R' s hc' n⟩
    | nx _ => exact fun q => q
    | rt _ => exact fun q => q
    | bk _ => exact fun q => q
    | ct _ => exact fun q => q
    | err => exact fun q => q
    | rx _ _ => exact fun q => q
  · unfold sTry at q
    revert q
    cases fb env with
    | nx _ => exact fun q => q
    | rt _ => exact fun q => q
    | bk _ => exact fun q => q
    | ct _ => exact fun q => q
    | err => exact fun q => q
    | rx _ _ => exact fun q => q
    | xc e x =>
      intro q
      dsimp only at q
      split at q
      rotate_left
      · exact q.elim
      rename_i hcond
      obtain ⟨hm, hil⟩ := hcond
      have hm : x.c ∈ xs := by simpa using hm
      intro cls d σ' H' F' fp' l R' sF hcl nn
      obtain ⟨CC, nC, rfl⟩ := hcl
      refine ⟨true, hxs x.c hm CC nC, fun _ a na => ?_, fun z => nomatch z⟩
      have il : i < σ'.length := by rw [← R'.len]; exact hil
      refine ⟨.ref a, List.getElem?_set_self il, ?_⟩
      show E.nx (((σ'.set i (some (.ref a))).set j (some (.ref a))).set i none) (upd H' a (exV a (.ref CC) d))
      have es : ((σ'.set i (some (.ref a))).set j (some (.ref a))).set i none = (σ'.set i none).set j (some (.ref a)) := by
        rw [List.set_comm _ _ (Ne.symm hij), List.set_set]
      rw [es]
      have E1 : Ext H' F' (upd H' a (exV a (.ref CC) d)) F' := Ext.laid R'.sub na
      have R1 := rel_gone (R'.ext E1) i
      have Fa : F' a = none := R'.sub.free na
      have nw : ∀ b o, H' b = some o → upd H' a (exV a (.ref CC) d) b = some o := fun b o e => E1.h b o e
      have keyK : ∃ lk, OR X.K G.w (upd H' a (exV a (.ref CC) d)) F' (.ref a) (XK x) lk ∧ ∀ b, b ∈ lk → b = a ∨ b ∈ l := by
        have rep := nn.rep
        unfold XT at rep
        unfold XK
        cases hfs : x.fs with
        | nil =>
          rw [hfs] at rep
          have rep : OR X.K G.w H' F' (vX d) (.d .none) l := rep
          generalize hvx : vX d = v at rep
          cases rep with
          | d r =>
            have hd : d = none := by
              cases d with
              | none => rfl
              | some dx =>
                have hvx : V.ref dx = v := hvx
                subst hvx
                cases r
            subst hd
            have hvx : V.non = v := hvx
            exact ⟨[a], .n (own := [a]) (l := []) ⟨rfl, CC, nC, .inl ⟨rfl, rfl, upd_same⟩⟩ .nil (by simp), fun b hb => .inl (List.mem_singleton.mp hb)⟩
        | cons f r =>
          rw [hfs] at rep
          have rep : OR X.K G.w H' F' (vX d) (.n (.e (f :: r)) (x.ds.map T.d)) l := rep
          cases d with
          | none =>
            have rep : OR X.K G.w H' F' .non (.n (.e (f :: r)) (x.ds.map T.d)) l := rep
            cases rep
          | some dy =>
          have rep : OR X.K G.w H' F' (.ref dy) (.n (.e (f :: r)) (x.ds.map T.d)) l := rep
          cases rep with
          | @n _ dx vs _ own l0 h1 h2 h3 =>
            obtain ⟨rfl, h1, h1'⟩ := h1
            have mo : ∀ b, b ∈ [dy] ++ l0 → b ≠ a := fun b hb e => by
              have := (nn.own b hb).2.1
              rw [e] at this
              exact this na
            refine ⟨[a, dy] ++ l0, .n (own := [a, dy]) (l := l0) ⟨h1, CC, nC, .inr ⟨dy, rfl, upd_same, nw _ _ h1'⟩⟩ (ORs_mono (Same.refl _) _ _ _ (fun b o _ e => nw b o e) h2) ?_, fun b hb => ?_⟩
            · show (a :: ([dy] ++ l0)).Nodup
              exact List.nodup_cons.mpr ⟨fun hm => mo a hm rfl, h3⟩
            · have hb : b ∈ a :: ([dy] ++ l0) := hb
              rcases List.mem_cons.mp hb with z | z
              · exact .inl z
              · exact .inr z
      obtain ⟨lk, rk, hlk⟩ := keyK
      have R2 := R1.put (i := j) (v := .ref a) (c := .own none (XK x)) (l := lk) ⟨.ref a, rfl, rk, fun k z => nomatch z⟩ (fun b hb => by
        rcases hlk b hb with rfl | z
        · exact ⟨Fa, (by rw [upd_same]; intro y; cases y), R'.h0 na⟩
        · obtain ⟨g1, g2, g3⟩ := nn.own b z
          refine ⟨g1, ?_, g3⟩
          cases w : H' b with
          | none => exact absurd w g2
          | some o => rw [nw b o w]; intro y; cases y) (fun b hb k hk hbk => by
        have hbk : b ∈ fp' k := by
          by_cases hki : k = i
          · subst hki; rw [fset_at] at hbk; cases hbk
          · rw [fset_ne hki] at hbk; exact hbk
        rcases hlk b hb with rfl | z
        · exact (R'.own k b hbk).2.1 na
        · exact nn.dj b z k hbk)
      exact q _ _ F' _ R2 sF
end
end DL
set_option Elab.async false
set_option linter.all false
set_option maxRecDepth 100000
set_option maxHeartbeats 4000000
namespace L2
open PySem PySem.Spec PyProof.Rows
section
variable {X : Cx} {C : Addr} {bmB : List Value} {B newId initId : String}
theorem pmk_own0 {x : Str} {p pos : Pos} (F : ExcBaseFacts B newId initId bmB) (q : PySem.W.excIn X.K C bmB newId = true) (gC : X.mg x = some (.ref C)) (kC : PySem.W.keepIn X.K (.ref C) = true) (r : Raises X (.ref C)) (hg : Gl X x)
    (hdb : (x == ("__debug__" : Str)) = false := by decide) : PMk X (.Call (.Name x p) [] [] pos) (fun _ H Q => Q (.ref C) none H) := by
  intro pins s σ H Q I h
  refine wpAny_Call_Name_kw (ld_glob I hg gC ?_ hdb)
  refine PySem.W.callWith_K0 (first := []) I.kIn kC ?_
  show wpAny _ _ (call (.ref C) []) _ _ _
  obtain ⟨bm, N, nm, qn, bs, hdct, sn, sub, ab, col, dd, k0, k1, k2, k3, k5, mN, hC, hN, hni, T⟩ := exc_obj I.kIn q
  exact wpAny_call_exc_subT F T hC hN hni (fun h' e hm => mk_of I hm r h (I.hok.gone hm.new)) (by show 0 ≤ sizeLine; omega)
end
end L2
namespace DL
open PySem PySem.Spec L2
structure ExOk (K : PySem.W.Frag) (c : Str) : Prop where
  ex : ∃ C, PySem.W.nsIn K mainGlobals c = some (some (.ref C)) ∧ ExcC K C ∧ XfC K C
def NoAtX (K : PySem.W.Frag) (c f : Str) : Prop := ∀ C, PySem.W.nsIn K mainGlobals c = some (some (.ref C)) → PySem.W.findIn K (.ref C) f = some none
def IsOk (K : PySem.W.Frag) (c : Str) (cv : Value) (b : Bool) : Prop := ∀ C, PySem.W.nsIn K mainGlobals c = some (some (.ref C)) → PySem.W.kitOne K (.ref C) cv = some b
theorem kit_ref {K : PySem.W.Frag} {c : Str} {C D : Addr} {b : Bool} {cd : ClassData} (n : PySem.W.nsIn K mainGlobals c = some (some (.ref C))) (h : PySem.W.subIn K (.ref C) (.ref D) = some b) (hs : PySem.W.subIn K (.ref C) (.ref C) = some true) (hc : PySem.W.clsIn K D = some cd) (ht : PySem.W.typeIn K (.ref D) = some (.type "type")) : IsOk K c (.ref D) b := by
  intro C' n'
  rw [n] at n'; cases n'
  unfold PySem.W.kitOne
  split
  · rename_i e
    have e : Value.ref C = Value.ref D := beq_iff_eq.mp e
    rw [← e, hs] at h; cases h; rfl
  · unfold PySem.W.kitCls
    dsimp only
    rw [if_pos (by rw [hc, ht]; rfl)]
    exact h
theorem kit_type {K : PySem.W.Frag} {c : Str} {C : Addr} {T : String} {b : Bool} (n : PySem.W.nsIn K mainGlobals c = some (some (.ref C))) (h : PySem.W.subIn K (.ref C) (.type T) = some b) (hm : PySem.W.kitMeta T = true) : IsOk K c (.type T) b := by
  intro C' n'
  rw [n] at n'; cases n'
  unfold PySem.W.kitOne
  rw [if_neg (by intro z; have := beq_iff_eq.mp z; cases this)]
  unfold PySem.W.kitCls
  dsimp only
  rw [if_pos hm]
  exact h
theorem under_ref {K : PySem.W.Frag} {c : Str} {C D : Addr} {cd : ClassData} (n : PySem.W.nsIn K mainGlobals c = some (some (.ref C))) (h : PySem.W.subIn K (.ref C) (.ref D) = some true) (hb : PySem.W.subIn K (.ref D) (.type "BaseException") = some true) (hc : PySem.W.clsIn K D = some cd) (ht : PySem.W.typeIn K (.ref D) = some (.type "type")) : Under K (.ref D) c := by
  intro C' n'
  rw [n] at n'; cases n'
  unfold PySem.W.exmOne
  rw [if_pos (by rw [hb]; rfl)]
  unfold PySem.W.kitCls
  dsimp only
  rw [if_pos (by rw [hc, ht]; rfl)]
  exact h
section
variable {X : Cx} {G : GC} {kr k : RK} {e : Expr} {r : List C → Option T} {pos p p1 p2 pos' : Pos} {f x : Str}
def selX (cs : List Str) (f : Str) : List C → Shp → Nat → Option Nat := fun _ s _ => match s with
  | .x c fs => if cs.contains c = true then fIx f fs else none
  | _ => none
def rX (cs : List Str) (f : Str) (r : List C → Option T) : List C → Option T := rChild r (selX cs f)
def eIsX (ys ns : List Str) (r : List C → Option T) : List C → Option D := fun env => match r env with
  | some (.n (.x c _) _) => if ys.contains c = true then some (.bool true) else if ns.contains c = true then some (.bool false) else none
  | _ => none
theorem isx_go {H F : Hp} {v : V} {c : Str} {fs : List Str} {ts : List T} {l : List Addr} {cx : V} {cv : Value} {b : Bool} {Q : VK} (ok : ExOk X.K c) (is : IsOk X.K c cv b) (hcv : ∀ u, RelV cx u → u = cv) (rep : OR X.K G.w H F v (.n (.x c fs) ts) l) (q : Q (.bl b) H) : rIsX X.K [v, cx] H Q := by
  cases rep with
  | @n _ a vs _ own l0 nr n2 n3 =>
    obtain ⟨hl, C, nC, hx⟩ := nr
    obtain ⟨C', nC', eC, xC⟩ := ok.ex
    rw [nC] at nC'; cases nC'
    rcases hx with ⟨_, _, e0⟩ | ⟨dx, _, e1, e2⟩
    · exact ⟨a, C, none, cx, cv, b, rfl, eC, e0, .inl rfl, hcv, is C nC, q⟩
    · exact ⟨a, C, some dx, cx, cv, b, rfl, eC, e1, .inr ⟨dx, _, rfl, e2⟩, hcv, is C nC, q⟩
theorem d_isX {y : Str} {tc : TE} (ys ns : List Str) (cx : V) (cv : Value) (h : DRd X G e r) (hg : Gl X "isinstance") (hm : X.mg "isinstance" = none) (hy : PE X (.Name y p2) tc) (htc : ∀ σ H Q, Q cx H → tc σ H Q) (hcv : ∀ u, RelV cx u → u = cv)
    (h1 : ∀ c, c ∈ ys → ExOk X.K c ∧ IsOk X.K c cv true) (h2 : ∀ c, c ∈ ns → ExOk X.K c ∧ IsOk X.K c cv false) (hv : bootBuiltins "isinstance" = some (.builtin "isinstance") := by decide +kernel)
    (he : starEach [e, .Name y p2] X.env = (false, eval e X.env) :: starEach [.Name y p2] X.env := by rfl) (he2 : starEach [.Name y p2] X.env = (false, eval (.Name y p2) X.env) :: starEach [] X.env := by rfl)
    (hpl : (backTo pos (starEach [.Name y p2] X.env)).any (·.1) = false := by rfl) : DE X G .fz (.Call (.Name "isinstance" p) [e, .Name y p2] [] pos) (eIsX ys ns r) := by
  obtain ⟨t, pt, o⟩ := h.ex
  refine ⟨_, pe_callB call_isX hg hm hv (pa_cons pt (pa_cons hy pa_nil he2) he) (by decide) (by decide) he hpl, fun σ H F fp env d Q R hf q => ?_⟩
  unfold eIsX at hf
  split at hf
  rotate_left
  · cases hf
  rename_i c fs ts z
  refine o σ H F fp env _ _ R z fun v l H1 F1 E1 rep => htc _ _ _ ?_
  split at hf
  · rename_i hm
    cases hf
    obtain ⟨a1, a2⟩ := h1 c (by simpa using hm)
    exact isx_go a1 a2 hcv rep (q _ H1 F1 E1 (.bl true))
  · split at hf
    · rename_i hm
      cases hf
      obtain ⟨a1, a2⟩ := h2 c (by simpa using hm)
      exact isx_go a1 a2 hcv rep (q _ H1 F1 E1 (.bl false))
    · cases hf
def isNT : T → Bool
  | .d d => isNoD d
  | .n _ _ => false
theorem isNT_ok {K : PySem.W.Frag} {ow : Option World} {H F : Hp} {v : V} {u : T} {l : List Addr} (h : OR K ow H F v u l) : decide (v = .non) = isNT u := by
  cases h with
  | d r => cases r <;> rfl
  | n _ _ _ => rfl
def rIsN (r : List C → Option T) : List C → Option Bool := fun env => (r env).map isNT
def rNotN (r : List C → Option T) : List C → Option Bool := fun env => (r env).map fun u => !isNT u
def eIsNR (r : List C → Option T) : List C → Option D := fun env => (rIsN r env).map .bool
def giveC : C → Option T
  | .val d => some (.d d)
  | .own none u => some u
  | _ => none
def sRetPair (i j : Nat) : List C → Out := fun env => match env[i]?.bind giveC, env[j]?.bind giveC with
  | some u, some w => .rx ((env.set i .und).set j .und) (.n .t [u, w])
  | _, _ => .err
def sSetPair (i j : Nat) (g : List C → Option (List C × T)) : List C → Out := fun env => match g env with
  | some (env', .n .t [u, w]) => .nx ((env'.set i (toC u)).set j (toC w))
  | _ => .err
def xIx2 (n : Nat) (g : List C → Option (List C × T)) : List C → Option (List C × T) := fun env => match g env with
  | some (env', .n .t us) => (match us[n]? with | some (.d d) => some (env', .d d) | _ => none)
  | _ => none
structure MkE0 (K : PySem.W.Frag) (mg : Str → Option Value) (c : Str) : Prop where
  ex : ∃ C bm newId initId, PySem.W.nsIn K mainGlobals c = some (some (.ref C)) ∧ mg c = some (.ref C) ∧ ExcBaseFacts "ValueError" newId initId bm ∧ PySem.W.excIn K C bm newId = true ∧ PySem.W.keepIn K (.ref C) = true ∧ PySem.W.subIn K (.ref C) (.type "BaseException") = some true ∧ PySem.W.typeIn K (.ref C) = some (.type "type")
theorem dmk_0 {c : Str} (mk : MkE0 X.K X.mg c) (hg : Gl X c) (hdb : (c == ("__debug__" : Str)) = false := by decide) : DMk X G (.Call (.Name c p) [] [] pos) (fun _ => some ⟨c, [], []⟩) := by
  obtain ⟨C, bm, newId, initId, nC, gC, FB, ei, kC, sC, tC⟩ := mk.ex
  refine ⟨_, pmk_own0 FB ei gC kC (raises_own sC tC) hg hdb, fun σ H F fp env x Q R hf q => ?_⟩
  cases hf
  exact q (.ref C) none H F [] (Ext.refl R.sub) ⟨C, nC, rfl⟩ (.d .non) (fun _ m => nomatch m)
end
end DL
set_option Elab.async false
set_option linter.all false
set_option maxRecDepth 100000
set_option maxHeartbeats 4000000
namespace DL
open PySem PySem.Spec L2
section
variable {X : Cx} {G : GC} {kr k k2 : RK} {e o a : Expr} {fn : List C → Option T} {f fo fa : List C → Option D} {pos p p1 p2 p3 : Pos}
def eDn (fn : List C → Option T) : List C → Option D := fun env => match fn env with
  | some (.n .l ts) => (flatT ts).map .list
  | some (.d x) => some x
  | _ => none
def idxD (d : D) : List D → Option Nat
  | [] => none
  | z :: r => if PyData.eqv z d = true then some 0 else (idxD d r).map (· + 1)
def gIndex : D → D → Option D
  | .list ds, d => if SeqAt.shaped (.list ds) = true ∧ SeqAt.shaped d = true then (idxD d ds).map fun j => .int j else none
  | _, _ => none
end
def tI0 (K : PySem.W.Frag) (m : Str) : TS := tDrop (tVeI K (tCons (tVar 0) (tCons (tC (.str m)) tNil)))
theorem init1_ok {P : Program} {w : World} {K : PySem.W.Frag} {mg : Str → Option Value} {base : Heap} {q : Str} {st : Stmt} {f : Addr} {fd : FuncData} {n m : Str} (F : Fun K "__init__" q st f fd) (S : FnScope ["self", n] ["self", n] (defScope st))
    (hbody : ∀ (cdv : Value) (A : Around) (outer : List Env) (s : Shared) (H : Hp) (E : L2.XK), PSs (cxOf CX0 P w K mg base ["self", n] q (defScope st) f cdv A outer s H E).nox (defBody st) (tSeq (tI0 K m) (tOst K n (tVar 0) (tVar 1)))) :
    FnOk P w K mg base CX0 1 f fd ["self", n] (spI1 K n) := by
  refine F.ok S (fun vs H Q E h => ?_) fun cdv A outer s H vs Q E hr h => ?_
  · obtain ⟨a, C, y, rfl, _⟩ := h; rfl
  · obtain ⟨a, C, y, rfl, T, no, ea, q⟩ := h
    refine ⟨_, hbody cdv A outer s H E, ?_⟩
    exact ⟨.ref a, rfl, a, C, [.str m], rfl, by simp, T, ea, y, rfl, .ref a, rfl, a, C, rfl, T, no, .inl ⟨ea, fun dx h1 h2 => q dx h1 h2⟩⟩
theorem mkE_of {P : Program} {w : World} {K : PySem.W.Frag} {mg : Str → Option Value} {base : Heap} {c : Str} {fs : List Str} {sp : Sp} {C fI : Addr} {fd : FuncData} {ps : List Str} {lv : Nat} (nC : PySem.W.nsIn K mainGlobals c = some (some (.ref C))) (gC : mg c = some (.ref C)) (T : OexC K C) (iC : PySem.W.findIn K (.ref C) "__init__" = some (some (.ref fI)))
    (tI : PySem.W.typeIn K (.ref fI) = some (.type "function")) (no : ∀ f, f ∈ fs → PySem.W.findIn K (.ref C) f = some none) (F : FnOk P w K mg base CX0 lv fI fd ps sp) (b : Binds K fd ps []) : MkE P w K mg base lv c fs sp := ⟨⟨C, fI, fd, ps, nC, gC, T, iC, tI, no, F, b⟩⟩
end DL
set_option Elab.async false
set_option linter.all false
set_option maxRecDepth 100000
set_option maxHeartbeats 4000000
namespace DL
open PySem PySem.Spec L2
abbrev veT : List Value := [.type "ValueError", .type "Exception", .type "BaseException", .type "object"]
section
variable {K : PySem.W.Frag} {mg : Str → Option Value} {c : Str} {C D B N NB : Addr} {nm q nmB qB : Str} {bs bsB : List Value} {sn snB : List Str} {sub subB : List Value} {ab abB : Bool} {col colB : Option Bool} {dd ddB : Option Addr} {k0 k1 k2 k3 k5 j0 j1 j2 j3 j5 : Option Value}
theorem cls_lk {bm : List Value} (l : K.lookup C = some (excClassObj nm q C N bs bm true sn sub ab col dd k0 k1 k2 k3 k5 "ValueError.__new__")) : ∃ cd, PySem.W.clsIn K C = some cd := by
  unfold PySem.W.clsIn
  rw [l]
  exact ⟨_, rfl⟩
theorem oex_mk {bm : List Value} (l : K.lookup C = some (excClassObj nm q C N bs bm true sn sub ab col dd k0 k1 k2 k3 k5 "ValueError.__new__")) (v : PySem.HandSPX.refsVE bm = true) (sa : PySem.W.findIn K (.ref C) "__setattr__" = some (some (.builtin "object.__setattr__")))
    (ex : PySem.W.subIn K (.ref C) (.type "BaseException") = some true) (ty : PySem.W.typeIn K (.ref C) = some (.type "type")) (kc : PySem.W.keepIn K (.ref C) = true) : OexC K C := ⟨⟨_, _, _, _, _, _, _, _, _, _, _, _, _, _, _, l, v⟩, sa, ex, ty, kc⟩
theorem exok_mk (n : PySem.W.nsIn K mainGlobals c = some (some (.ref C))) (ga : PySem.W.findIn K (.ref C) "__getattribute__" = some (some (.builtin "BaseException.__getattribute__"))) (gg : PySem.W.findIn K (.ref C) "__getattr__" = some none) (ex : PySem.W.subIn K (.ref C) (.type "BaseException") = some true)
    (hd : PySem.W.hasDictIn K C = true) (cl : PySem.W.findIn K (.ref C) "__class__" = some (some (.builtin "object.__class__"))) (hn : PySem.W.specialIn K (.builtin "object.__class__") "__get__" = some (some (.builtin "getset_descriptor.__get__"))) (ht : PySem.W.takesIn K (.builtin "object.__class__") = some true)
    (hm : PySem.W.mroIn K C (.type "object") = some true) : ExOk K c := ⟨⟨C, n, ⟨ga, gg, ex, hd, cl, hn, ht, hm⟩, ⟨ga, gg, ex, hd⟩⟩⟩
theorem nsok_mk {es : Array DictEntry} {n : Nat} {cn : Value} {dn : Option Addr} {sl : Array (Option Value)} (l : K.lookup N = some ⟨cn, dn, .dict es n, sl⟩) (h : (es.toList.all fun e => match e.key with | .str _ _ => true | _ => false) = true) : PySem.W.nsOkIn K N = true := by
  unfold PySem.W.nsOkIn
  rw [l]
  rw [Array.all_toList] at h
  exact h
theorem mk0_mk (n : PySem.W.nsIn K mainGlobals c = some (some (.ref C))) (g : mg c = some (.ref C)) (l : K.lookup C = some (excClassObj nm q C N bs (.ref B :: veT) true sn sub ab col dd k0 k1 k2 k3 k5 "ValueError.__new__")) (nN : PySem.W.nsOkIn K N = true) (iN : PySem.W.nsIn K N "__init__" = some none)
    (lB : K.lookup B = some (excClassObj nmB qB B NB bsB veT true snB subB abB colB ddB j0 j1 j2 j3 j5 "ValueError.__new__")) (nB : PySem.W.nsOkIn K NB = true) (iB : PySem.W.nsIn K NB "__init__" = some none) (kc : PySem.W.keepIn K (.ref C) = true) (ex : PySem.W.subIn K (.ref C) (.type "BaseException") = some true)
    (ty : PySem.W.typeIn K (.ref C) = some (.type "type")) : MkE0 K mg c := by
  refine ⟨⟨C, veT, "ValueError.__new__", "ValueError.__init__", n, g, PySem.F.excBase_ValueError, ?_, kc, ex, ty⟩⟩
  have t2 : PySem.W.tailIn K veT veT = true := by
    unfold PySem.W.tailIn
    simp
  have t1 : PySem.W.tailIn K veT (.ref B :: veT) = true := by
    unfold PySem.W.tailIn
    dsimp only
    rw [lB]
    dsimp only [excClassObj]
    rw [nB, iB, t2]
    simp
  unfold PySem.W.excIn
  rw [l]
  simp [nN, iN, t1]
end
end DL
set_option Elab.async false
set_option linter.all false
set_option maxRecDepth 100000
set_option maxHeartbeats 4000000
namespace L2
open PySem PySem.Spec PyProof.Rows
section
variable {X : Cx}
def rCountD (K : PySem.W.Frag) : V → List V → Hp → VK → Prop := fun x xs H Q => ∃ (a : Addr) (y : V) (d : PyData) (ds : List PyData), x = V.ref a ∧ xs = [y] ∧ Dp K H (V.ref a) (.list ds) ∧ Dp K H y d ∧
  SeqAt.shaped (.list ds) = true ∧ SeqAt.shaped d = true ∧ Q (.int (ds.countP fun z => PyData.eqv z d : Nat)) H
end
end L2
namespace DL
open PySem PySem.Spec L2
section
variable {X : Cx} {G : GC} {k k2 : RK} {o a : Expr} {fo fa : List C → Option D} {p2 p3 : Pos}
def gCount : D → D → Option D
  | .list ds, d => if SeqAt.shaped (.list ds) = true ∧ SeqAt.shaped d = true then some (.int (ds.countP fun z => PyData.eqv z d : Nat)) else none
  | _, _ => none
end
end DL
set_option Elab.async false
set_option linter.all false
set_option maxRecDepth 100000
set_option maxHeartbeats 4000000
namespace DL
open PySem PySem.Spec L2
section
variable {X : Cx} {G : GC} {e : Expr} {es : List Expr} {ks : List Bool} {rd : List Nat} {rs : List C → Option (List IP × List T)} {y : Str} {p : Pos}
def eVw (i : Nat) : List C → Option D := fun env => match env[i]? with | some (.ro _ (.n .v ts)) => (flatT ts).map .list | _ => none
theorem slot_v {K : PySem.W.Frag} {env : List C} {σ : L2.St} {H F : Hp} {fp : Nat → List Addr} {i : Nat} {b : Bool} {ts : List T} {ds : List D} (R : Rel K G env σ H F fp) (e : env[i]? = some (.ro b (.n .v ts))) (z : flatT ts = some ds) :
    ∃ a vs, σ[i]? = some (some (.ref a)) ∧ SqL K F a vs ∧ DFAll K F vs ds ∧ ∀ H1 F1, Same F F1 → OR K G.w H1 F1 (.ref a) (.n .v ts) [] := by
  obtain ⟨_, v, l, e1, r, _⟩ := R.slot i _ e
  cases z1 : σ[i]? with
  | none => rw [z1] at e1; cases e1
  | some o =>
    rw [z1] at e1
    have e2 : o = some v := e1
    subst e2
    cases r with
    | @n _ a vs _ own l0 h1 h2 h3 =>
      obtain ⟨rfl, h1⟩ := h1
      obtain ⟨d1, rfl⟩ := flatT_rep z h2
      exact ⟨a, vs, rfl, h1, d1, fun H1 F1 f => OR_mono f _ _ _ (fun b o m => nomatch m) (.n (s := .v) ⟨rfl, h1⟩ h2 h3)⟩
theorem d_vw (i : Nat) (h : PE X (.Name y p) (tVar i)) : DE X G .sv (.Name y p) (eVw i) := by
  refine ⟨_, h, fun σ H F fp env d Q R hf q => ?_⟩
  unfold eVw at hf
  split at hf
  · rename_i b ts e
    cases z : flatT ts with
    | none => rw [z] at hf; cases hf
    | some ds =>
      rw [z] at hf; cases hf
      obtain ⟨a, vs, s1, s2, s3, _⟩ := slot_v R e z
      exact ⟨.ref a, s1, q _ H F (Ext.refl R.sub) (.lst (Same.seq stb_f s2) (DpAll_mono stb_f _ _ (DFAll.dp _ _ s3)))⟩
  · cases hf
def mpVw (i : Nat) (rs : List C → Option (List IP × List T)) : List C → Option (List IP × List T) := fun env => match env[i]? with
  | some (.ro _ (.n .v ts)) => (match flatT ts with | some _ => (rs env).map fun r => (r.1, .n .v ts :: r.2) | none => none)
  | _ => none
theorem dmp_vw (i : Nat) (h : PE X (.Name y p) (tVar i)) (ht : DMp X G es ks rd rs) (hs : starEach (.Name y p :: es) X.env = (false, eval (.Name y p) X.env) :: starEach es X.env := by rfl) : DMp X G (.Name y p :: es) (false :: ks) rd (mpVw i rs) := by
  obtain ⟨t2, pt2, o2⟩ := ht.ex
  refine ⟨_, pa_cons h pt2 hs, fun σ H F fp env ips us Q R hf q => ?_⟩
  unfold mpVw at hf
  split at hf
  · rename_i b ts z
    cases z1 : flatT ts with
    | none => rw [z1] at hf; cases hf
    | some ds =>
      rw [z1] at hf
      cases z2 : rs env with
      | none => rw [z2] at hf; cases hf
      | some r2 =>
        rw [z2] at hf; cases hf
        obtain ⟨a, vs, s1, s2, s3, s4⟩ := slot_v R z z1
        refine ⟨.ref a, s1, ?_⟩
        exact o2 σ H F fp env r2.1 r2.2 _ R z2 fun vs lus H2 F2 E2 m => q (.ref a :: vs) lus H2 F2 E2 (.ro (s4 H2 F2 E2.f) (fun b hb => nomatch hb) m)
  · cases hf
end
def runV (N : Nat) (body : List C → Out) : List Int → Option D := fun ns => match body (.ro true (.n .v ((ns.map PyData.int).map .d)) :: List.replicate (N - 1) .und) with
  | .rt d => some d
  | _ => none
def spV (K : PySem.W.Frag) (g : List Int → Option D) : Sp := fun vs H Q _ => ∃ (a : Addr) (ns : List Int), vs = [.ref a] ∧ SqL K H a (ns.map V.int) ∧ g ns = some (.bool true) ∧ ∀ H', Q (.bl true) H'
section
variable {P : Program} {w : World} {K : PySem.W.Frag} {mg : Str → Option Value} {base : Heap}
theorem ors_ints {ow : Option World} {H F : Hp} : ∀ ns : List Int, ORs K ow H F (ns.map V.int) ((ns.map PyData.int).map T.d) []
  | [] => .nil
  | n :: ns => .cons (l := []) (m := []) (.d (.int n)) (ors_ints ns)
theorem fn_lawV {x qual p : Str} {st : Stmt} {f : Addr} {fd : FuncData} {N : List Str} {k : Nat} {body : List C → Out} (F : Fun K x qual st f fd) (S : FnScope N [p] (defScope st)) (hN : 1 ≤ N.length)
    (hbody : ∀ (cdv : Value) (A : Around) (outer : List Env) (s : Shared) (H : Hp) (E : L2.XK) (G : GC), Room k (A.deeper (PyProof.Rows.envOfC qual (defScope st) s.heap.objs.size f cdv)) → G.W = [] → G.w = some w →
      DSs (cxOf CX0 P w K mg base N qual (defScope st) f cdv A outer s H E).nox G .fz (defBody st) body) : FnOk P w K mg base CX0 (k + 1) f fd [p] (spV K (runV N.length body)) := by
  refine F.ok S (fun vs H Q E h => ?_) (fun cdv A outer s H vs Q E hr h => ?_)
  · obtain ⟨a, ns, rfl, _⟩ := h
    rfl
  · obtain ⟨a, ns, rfl, hS, hg, q⟩ := h
    let F0 : Hp := fun b => if b = a then H a else none
    have fa : F0 a = H a := if_pos rfl
    have sub : Same F0 H := fun b o e => by
      by_cases hb : b = a
      · subst hb; rw [fa] at e; exact e
      · have : F0 b = none := if_neg hb
        rw [this] at e; cases e
    have hF : SqL K F0 a (ns.map V.int) := by
      rcases hS with (h | ⟨o, h⟩) | h
      · exact .inl (.inl (fa.trans h))
      · exact .inl (.inr ⟨o, fa.trans h⟩)
      · exact .inr h
    obtain ⟨t, pt, o⟩ := (hbody cdv A outer s H E ⟨H, F0, [], some w⟩ hr rfl rfl).ex
    have R : Rel K ⟨H, F0, [], some w⟩ (.ro true (.n .v ((ns.map PyData.int).map .d)) :: List.replicate (N.length - 1) .und) (L2.start N [.ref a]) H F0 (fun _ => []) := {
      len := by
        unfold L2.start
        simp
      slot := fun i c e => by
        cases i with
        | zero =>
          rw [List.getElem?_cons_zero] at e; cases e
          exact ⟨rfl, .ref a, [] ++ [], rfl, .n ⟨rfl, hF⟩ (ors_ints ns) (by simp), fun _ _ _ m => nomatch m⟩
        | succ i =>
          rw [List.getElem?_cons_succ, List.getElem?_replicate] at e
          split at e
          · cases e; rfl
          · cases e
      dj := fun _ _ _ h => nomatch h
      own := fun _ _ h => nomatch h
      sub := sub
      new := fun _ _ e => .inl e
      old := Same.refl _
      keep := fun _ _ e _ => e
      alive := fun _ e => e }
    refine ⟨t, pt, o _ H F0 _ _ _ R ?_⟩
    unfold runV at hg
    split at hg
    · rename_i d e
      cases hg
      rw [e]
      exact fun v H' F' fin rk => by
        cases rk with
        | bl b => exact q H'
    · cases hg
end
end DL
set_option Elab.async false
set_option linter.all false
set_option maxRecDepth 100000
set_option maxHeartbeats 4000000
namespace DL
open PySem PySem.Spec L2
abbrev AI := List (Nat × C)
def asgA : AI → List C → List C
  | [], e => e
  | p :: r, e => asgA r (e.set p.1 p.2)
structure DIA (X : Cx) (G : GC) (tg iter : Expr) (f : List C → Option (List AI)) : Prop where
  ex : ∃ wi tt, PI X tg iter wi ∧ PG X tg tt ∧ ∀ (σ : L2.St) (H F : Hp) (fp : Nat → List Addr) (env : List C) (items : List AI) (R : It → Hp → Prop), Rel X.K G env σ H F fp → f env = some items →
    (∀ J H' F', Ext H F H' F' → (∀ (i : Nat) (H2 F2 : Hp), Same F' F2 → Same F2 H2 →
      (∀ u, items[i]? = some u → J.go i H2 ∧ ∀ x H3, J.yld i H2 x H3 → ∃ F3, Ext H2 F2 H3 F3 ∧ ∀ (σ2 : L2.St) (fp2 : Nat → List Addr) (env2 : List C) (Q : L2.St → Hp → Prop), Rel X.K G env2 σ2 H3 F3 fp2 → (∀ σ' fp', Rel X.K G (asgA u env2) σ' H3 F3 fp' → Q σ' H3) → tt x σ2 H3 Q) ∧
      (items.length ≤ i → J.stop i H2)) → R J H') → wi σ H R
def forA (b : List C → Out) : List AI → List C → Out
  | [], env => .nx env
  | u :: r, env => match b (asgA u env) with
    | .nx e => forA b r e
    | .ct e => forA b r e
    | .bk e => .nx e
    | .rt d => .rt d
    | .err => .err
    | .rx e t => .rx e t
    | .xc e x => .xc e x
def sForA (f : List C → Option (List AI)) (fb : List C → Out) : List C → Out := fun env => match f env with
  | some items => forA fb items env
  | none => .err
section
variable {X : Cx} {G : GC} {kr k : RK} {e tg iter : Expr} {pos p p1 p2 p3 : Pos} {x y z : Str} {body : List Stmt} {fb : List C → Out}
def fSl (s v : Nat) (fl fu : List C → Option (Option Int)) : List C → Option (List AI) := fun env => match env[s]? with
  | some (.own (some j) (.n .lf ts)) => (match fl env, fu env with | some l, some u => some ((cutD (List.range ts.length) l u).map fun i => [(v, .al j i)]) | _, _ => none)
  | _ => none
def fRev (s v : Nat) : List C → Option (List AI) := fun env => match env[s]? with
  | some (.own (some j) (.n .lf ts)) => some ((List.range ts.length).reverse.map fun i => [(v, .al j i)])
  | _ => none
def fEnum (s w v : Nat) : List C → Option (List AI) := fun env => match env[s]? with
  | some (.own (some j) (.n .lf ts)) => some ((List.range ts.length).map fun i => [(w, .val (.int (i : Nat))), (v, .al j i)])
  | _ => none
end
end DL
set_option Elab.async false
set_option linter.all false
set_option maxRecDepth 100000
set_option maxHeartbeats 4000000
namespace DL
open PySem PySem.Spec L2
section
variable {X : Cx} {G : GC} {k1 k2 k3 : RK} {a b c : Expr} {pos : Pos} {fa fb fc : List C → Option D} {g g' : D → D → Option D}
def eChain (g g' : D → D → Option D) (fa fb fc : List C → Option D) : List C → Option D := fun env => (fa env).bind fun x => (fb env).bind fun y => match g x y with
  | some (.bool true) => (fc env).bind fun z => g' y z
  | some (.bool false) => some (.bool false)
  | _ => none
def eFvS (i : Nat) (f : List C → Option D) : List C → Option D := fun env => match putFz i env with | some env' => (match f env' with | some d => if scalD d = true then some d else none | none => none) | none => none
def rSumT (K : PySem.W.Frag) : List V → Hp → VK → Prop := fun vs H Q => ∃ (a : Addr) (ns : List Int), vs = [V.ref a] ∧ SqT K H a (ns.map V.int) ∧ Q (.int ns.sum) H
def gSumA : List D → Option D
  | [.list xs] => (allInt xs).map fun ns => .int ns.sum
  | [.tuple xs] => (allInt xs).map fun ns => .int ns.sum
  | _ => none
end
end DL
set_option Elab.async false
set_option linter.all false
set_option maxRecDepth 100000
set_option maxHeartbeats 4000000
namespace DL
open PySem PySem.Spec L2
section
variable {X : Cx} {G : GC} {kr : RK} {e : Expr} {st : Stmt} {r : List C → Option T}
def sErr : List C → Out := fun _ => .err
def eErr : List C → Option D := fun _ => none
def eRlf (r : List C → Option T) : List C → Option D := fun env => match r env with | some (.n .lf ts) => (flatT ts).map .list | _ => none
end
end DL
set_option Elab.async false
set_option linter.all false
set_option maxRecDepth 100000
set_option maxHeartbeats 4000000
namespace DL
open PySem PySem.Spec L2
def forM (s v j : Nat) (b : List C → Out) : Nat → Nat → List C → Out
  | 0, _, _ => .err
  | f + 1, i, env => match env[s]? with
    | some (.own (some j') (.n .l ts)) => if j' = j then (match ts[i]? with
      | none => .nx env
      | some (.d d) => (match b (env.set v (.val d)) with
        | .nx e => forM s v j b f (i + 1) e
        | .ct e => forM s v j b f (i + 1) e
        | .bk e => .nx e
        | .rt d => .rt d
        | .err => .err
        | .rx e t => .rx e t
        | .xc e x => .xc e x)
      | some _ => .err) else .err
    | _ => .err
def sForM (s v : Nat) (b : List C → Out) : List C → Out := fun env => match env[s]? with
  | some (.own (some j) (.n .l ts)) => forM s v j b (ts.length + 1) 0 env
  | _ => .err
section
variable {X : Cx} {G : GC} {kr k : RK} {pos p p1 p2 : Pos} {x y : Str} {body : List Stmt} {fb : List C → Out}
end
end DL
set_option Elab.async false
set_option linter.all false
set_option maxRecDepth 100000
set_option maxHeartbeats 4000000
namespace DL
open PySem PySem.Spec L2
def fzAt (i : Nat) (p : List Nat) (env : List C) : Option (List C) := match env[i]? with
  | some (.own m t) => (match T.sub p t with
    | some (.n .l ts) => (flatT ts).map fun ds => env.set i (.own m (T.put p t (.d (.list ds))))
    | _ => none)
  | _ => none
section
variable {X : Cx} {G : GC} {e a b : Expr} {f : List C → Option D} {g : List C → Option (List C × T)} {k : RK} {pos : Pos}
def flatN : Option D → Option D
  | some (.list es) => if noLs es = true then some (.list es) else none
  | _ => none
mutual
theorem DF_back {K : PySem.W.Frag} {F F' : Hp} (h : ∀ b o, F' b = some o → (∀ vs, o ≠ .lst vs) → F b = some o) : ∀ (d : D) (v : V), noL d = true → DF K F' v d → DF K F v d
  | .none, _, _, r => by cases r; exact .non
  | .bool b, _, _, r => by cases r; exact .bl b
  | .int i, _, _, r => by cases r; exact .int i
  | .str x, _, _, r => by cases r; exact .str x
  | .list ds, _, n, _ => by cases n
  | .tuple ds, _, n, r => by
    cases r with
    | tup r1 r2 =>
      refine .tup ?_ (DF_backs h ds _ n r2)
      rcases r1 with (r1 | ⟨o, r1⟩) | r1
      · exact .inl (.inl (h _ _ r1 fun vs e => nomatch e))
      · exact .inl (.inr ⟨o, h _ _ r1 fun vs e => nomatch e⟩)
      · exact .inr r1
theorem DF_backs {K : PySem.W.Frag} {F F' : Hp} (h : ∀ b o, F' b = some o → (∀ vs, o ≠ .lst vs) → F b = some o) : ∀ (ds : List D) (vs : List V), noLs ds = true → DFAll K F' vs ds → DFAll K F vs ds
  | [], _, _, r => by cases r; exact .nil
  | d :: ds, _, n, r => by
    cases r with
    | cons r1 r2 =>
      unfold noLs at n
      rw [Bool.and_eq_true] at n
      exact .cons (DF_back h d _ n.1 r1) (DF_backs h ds _ n.2 r2)
end
def eFzA (i : Nat) (p : List Nat) (f : List C → Option D) : List C → Option D := fun env => match fzAt i p env with | some env' => flatN (f env') | none => none
def xCmp (g2 : D → D → Option D) (g : List C → Option (List C × T)) (f : List C → Option D) : List C → Option (List C × T) := fun env => (txCmp g2 g f env).map fun p => (p.1, .d (.bool p.2))
end
end DL
set_option Elab.async false
set_option linter.all false
set_option maxRecDepth 100000
set_option maxHeartbeats 4000000
namespace L2
open PySem PySem.Spec PyProof.Rows
section
variable {X : Cx}
def rRemD (K : PySem.W.Frag) : V → List V → Hp → VK → Prop := fun x xs H Q => ∃ (a : Addr) (y : V) (d : PyData) (ds : List PyData) (vs : List V) (j : Nat) (z : PyData), x = V.ref a ∧ xs = [y] ∧ H a = some (.lst vs) ∧ DpAll K H vs ds ∧ Dp K H y d ∧
  SeqAt.shaped (.list ds) = true ∧ SeqAt.shaped d = true ∧ ds[j]? = some z ∧ PyData.eqv z d = true ∧ (∀ (m : Nat) (z' : PyData), m < j → ds[m]? = some z' → PyData.eqv z' d = false) ∧ Q .non (upd H a (.lst (vs.eraseIdx j)))
end
end L2
namespace DL
open PySem PySem.Spec L2
section
variable {X : Cx} {G : GC} {kr k : RK} {e : Expr} {fe : List C → Option D} {pos : Pos}
def sRem (i : Nat) (fe : List C → Option D) : List C → Out := fun env => match env[i]? with
  | some (.lst ds) => (match fe env with
    | some d => if SeqAt.shaped (.list ds) = true ∧ SeqAt.shaped d = true then (match idxD d ds with | some j => .nx (env.set i (.lst (ds.eraseIdx j))) | none => .err) else .err
    | none => .err)
  | _ => .err
def tLst (i : Nat) : List C → Option Bool := fun env => match env[i]? with | some (.lst ds) => some (!ds.isEmpty) | _ => none
end
end DL
set_option Elab.async false
set_option linter.all false
set_option maxRecDepth 100000
set_option maxHeartbeats 4000000
namespace DL
open PySem PySem.Spec L2
section
variable {X : Cx} {G : GC} {e : Expr} {f : List C → Option D}
def eFvN (i : Nat) (f : List C → Option D) : List C → Option D := fun env => match env[i]? with | some (.lst ds) => flatN (f (env.set i (.val (.list ds)))) | _ => none
end
end DL
set_option Elab.async false
set_option linter.all false
set_option maxRecDepth 100000
set_option maxHeartbeats 4000000
namespace DL
open PySem PySem.Spec L2
section
variable {X : Cx} {G : GC} {kr : RK} {sts : List Stmt} {f g : List C → Out}
def sAlt (f g : List C → Out) : List C → Out := fun env => match f env with | .err => g env | o => o
end
def fzRo (i : Nat) (p : List Nat) (env : List C) : Option (List C) := match env[i]? with
  | some (.ro b t) => (match T.sub p t with
    | some (.n .l ts) => (flatT ts).map fun ds => env.set i (.ro b (T.put p t (.d (.list ds))))
    | _ => none)
  | _ => none
section
variable {X : Cx} {G : GC} {e : Expr} {f : List C → Option D}
def eFzR (i : Nat) (p : List Nat) (f : List C → Option D) : List C → Option D := fun env => match fzRo i p env with | some env' => flatN (f env') | none => none
end
end DL
set_option Elab.async false
set_option linter.all false
set_option maxRecDepth 100000
set_option maxHeartbeats 4000000
namespace DL
open PySem PySem.Spec L2
structure CalX (P : Program) (w : World) (K : PySem.W.Frag) (mg : Str → Option Value) (base : Heap) (k : Nat) (x : Str) (ks : List Bool) (g : List T → Option Rz) : Prop where
  ex : ∃ (f : Addr) (fd : FuncData) (ps : List Str), FnOk P w K mg base (L2.CX P w) k f fd ps (spMX K w ks g) ∧ mg x = some (.ref f) ∧ PySem.W.keepIn K (.ref f) = true ∧ Binds K fd ps []
section
variable {X : Cx} {G : GC} {e : Expr} {es : List Expr} {rs : List C → Option (List IP × List T)} {lv : Nat} {ks : List Bool} {rd : List Nat} {x : Str} {p pos : Pos}
def yCallP (g : List T → Option Rz) (rd : List Nat) (rs : List C → Option (List IP × List T)) : List C → Option OY := fun env => match rs env with
  | some (ips, us) => if okP ips rd = true then (match g us with
    | some (.ok us' y) => some (.ok (putsP ips us' env) y)
    | some (.ex us' xd) => some (.xc (putsP ips us' env) xd)
    | none => none) else none
  | none => none
theorem dy_callP {g : List T → Option Rz} (cal : CalX X.prog X.w X.K X.mg X.base lv x ks g) (hw : G.w = some X.w) (hr : Room lv X.A) (hg : Gl X x) (h : DMp X G (e :: es) ks rd rs) (hdb : (x == ("__debug__" : Str)) = false := by decide)
    (he : starEach (e :: es) X.env = (false, eval e X.env) :: starEach es X.env := by rfl) (hpl : (backTo pos (starEach es X.env)).any (·.1) = false := by rfl) : DY X G (.Call (.Name x p) (e :: es) [] pos) (yCallP g rd rs) := by
  obtain ⟨fa, fd, ps, F, hm, kp, b⟩ := cal.ex
  obtain ⟨t, pt, oa⟩ := h.ex
  refine ⟨_, pe_callS F hr hg hm kp b (fun σ => passAt takes_all σ) pt hdb he hpl, fun σ H F fp env oy Q R hf q => ?_⟩
  unfold yCallP at hf
  split at hf
  · rename_i ips us z
    split at hf
    · rename_i ok
      refine oa σ H F fp env ips us _ R z fun vs lus H1 F1 E1 ma => ?_
      have R1 := R.ext E1
      obtain ⟨ws, m1, m2, m3, e⟩ := ma.spM hw R1 ok
      refine ⟨F1, us, ws, E1.sub, m1, m2, m3, ?_⟩
      split at hf
      · rename_i us' y z2
        cases hf
        try rw [z2]
        intro v H' F' ls' lr pm
        obtain ⟨fp', R', n'⟩ := R1.calledP hw ma (of_decide_eq_true ok).1 e pm
        exact q v H' F' fp' lr R' (E1.f.trans pm.f) n'
      · rename_i us' xd z2
        cases hf
        try rw [z2]
        intro cls d H' F' ls' lr hc pm
        obtain ⟨fp', R', n'⟩ := R1.calledP hw ma (of_decide_eq_true ok).1 e pm
        exact q cls d H' F' fp' lr R' (E1.f.trans pm.f) hc n'
      · cases hf
    · cases hf
  · cases hf
end
end DL
set_option Elab.async false
set_option linter.all false
set_option maxRecDepth 100000
set_option maxHeartbeats 4000000
namespace L2
open PySem PySem.Spec PyProof.Rows
section
variable {X : Cx}
def rIsXT (K : PySem.W.Frag) : List V → Hp → VK → Prop := fun xs H Q => ∃ (a C tp : Addr) (d : Option Addr) (cs : List V) (us : List Value) (b : Bool), xs = [.ref a, .ref tp] ∧ ExcC K C ∧ H a = some (exV a (.ref C) d) ∧ (d = none ∨ ∃ dx fs, d = some dx ∧ H dx = some (.xd fs)) ∧ H tp = some (.tup cs) ∧ Paired ClsV cs us ∧ PySem.W.kitAny K (.ref C) us = some b ∧ Q (.bl b) H
theorem call_isXT : CallR X (.builtin "isinstance") (rIsXT X.K) := by
  intro pins s σ H xs us Q I r h
  obtain ⟨a, C, tp, d, cs, ws, b, rfl, ec, ea, hd, hT, k, hk, q⟩ := h
  obtain ⟨u, w, rfl, ru, rw'⟩ := vals2 r
  have eu : u = Value.ref a := ru
  subst eu
  cases (show w = Value.ref tp from rw')
  obtain ⟨od, J⟩ : ∃ od : Option Obj, ∃ oe, PySem.W.InstAt s.heap a oe C od := by
    rcases hd with rfl | ⟨dx, fs, rfl, hx⟩
    · exact ⟨none, exV_inst I ea (.inl ⟨rfl, rfl⟩)⟩
    · have ho : ObjOk X.prog X.w H s.heap dx (.xd fs) := I.hok dx _ hx
      obtain ⟨mA, hns, hr⟩ := ho
      obtain ⟨o, ho, hl⟩ := lookIn_ns hns
      exact ⟨some o, exV_inst I ea (.inr ⟨dx, o, rfl, rfl, ho⟩)⟩
  obtain ⟨oe, J⟩ := J
  obtain ⟨cd, hc, _⟩ := PySem.W.any_some ec.hd
  obtain ⟨_, its, rv, o, h1, h2, n, h3⟩ := (show ObjOk X.prog X.w H s.heap tp (.tup cs) from I.hok tp _ hT)
  have e3 := ClsV.all k rv
  subst e3
  obtain ⟨oc, od2, dt, sl⟩ := o
  simp only at h2 h3
  subst h2 h3
  exact PySem.W.kia_tup (PySem.W.kitx_exc (by rw [hc]; rfl) ec.hg ec.hk ec.hs ec.ha ec.hn ec.ht ec.hm) I.kIn J h1 hk (fun z => nomatch z) fun tk => ⟨.bl b, H, I.tok tk, rfl, q⟩
end
end L2
namespace DL
open PySem PySem.Spec L2
def IsOkT (K : PySem.W.Frag) (c : Str) (us : List Value) (b : Bool) : Prop := ∀ C, PySem.W.nsIn K mainGlobals c = some (some (.ref C)) → PySem.W.kitAny K (.ref C) us = some b
theorem isT_nil {K : PySem.W.Frag} {c : Str} : IsOkT K c [] false := fun _ _ => rfl
theorem isT_t {K : PySem.W.Frag} {c : Str} {v : Value} {us : List Value} (h : IsOk K c v true) : IsOkT K c (v :: us) true := fun C n => kitAny_cons (h C n) (fun z => nomatch z) fun _ => rfl
theorem isT_f {K : PySem.W.Frag} {c : Str} {v : Value} {us : List Value} {b : Bool} (h : IsOk K c v false) (ht : IsOkT K c us b) : IsOkT K c (v :: us) b := fun C n => kitAny_cons (h C n) (fun _ => ht C n) fun z => nomatch z
section
variable {X : Cx} {G : GC} {e : Expr} {es : List Expr} {r : List C → Option T} {p p2 pos : Pos} {k : Nat}
structure PCs (X : Cx) (es : List Expr) (cs : List V) (us : List Value) : Prop where
  ex : ∃ t, PA X es t ∧ ∀ σ H Q, Q cs H → t σ H Q
  ok : Paired ClsV cs us
theorem d_isXT {cs : List V} {us : List Value} (ys ns : List Str) (h : DRd X G e r) (hg : Gl X "isinstance") (hm : X.mg "isinstance" = none) (hy : PCs X es cs us) (hz : cs.length ≤ 1000)
    (h1 : ∀ c, c ∈ ys → ExOk X.K c ∧ IsOkT X.K c us true) (h2 : ∀ c, c ∈ ns → ExOk X.K c ∧ IsOkT X.K c us false) (hv : bootBuiltins "isinstance" = some (.builtin "isinstance") := by decide +kernel)
    (he : starEach [e, .Tuple es k p2] X.env = (false, eval e X.env) :: starEach [.Tuple es k p2] X.env := by rfl) (he2 : starEach [.Tuple es k p2] X.env = (false, eval (.Tuple es k p2) X.env) :: starEach [] X.env := by rfl)
    (hpl : (backTo pos (starEach [.Tuple es k p2] X.env)).any (·.1) = false := by rfl) : DE X G .fz (.Call (.Name "isinstance" p) [e, .Tuple es k p2] [] pos) (eIsX ys ns r) := by
  obtain ⟨t, pt, o⟩ := h.ex
  obtain ⟨tc, pc, oc⟩ := hy.ex
  refine ⟨_, pe_callB call_isXT hg hm hv (pa_cons pt (pa_cons (pe_tup pc) pa_nil he2) he) (by decide) (by decide) he hpl, fun σ H F fp env d Q R hf q => ?_⟩
  unfold eIsX at hf
  split at hf
  rotate_left
  · cases hf
  rename_i c fs ts z
  have go : ∀ (b : Bool) (v : V) (l : List Addr) (H1 F1 : Hp) (E1 : Ext H F H1 F1) (rep : OR X.K G.w H1 F1 v (.n (.x c fs) ts) l), ExOk X.K c → IsOkT X.K c us b → (∀ H' F', Ext H F H' F' → Q (.bl b) H') → ∀ tp, H1 tp = none → rIsXT X.K [v, .ref tp] (upd H1 tp (.tup cs)) Q := fun b v l H1 F1 E1 rep ok is q tp ht => by
    cases rep with
    | @n _ a vs _ own l0 nr n2 n3 =>
      obtain ⟨hl, C, nC, hx⟩ := nr
      obtain ⟨C', nC', eC, xC⟩ := ok.ex
      rw [nC] at nC'; cases nC'
      have up : ∀ b o, H1 b = some o → upd H1 tp (.tup cs) b = some o := fun b o e => by rw [upd_ne (ne_of_none e ht)]; exact e
      have E2 : Ext H F (upd H1 tp (.tup cs)) F1 := ⟨fun b o e => up b o (E1.h b o e), E1.f, fun b o e => up b o (E1.sub b o e), E1.new⟩
      rcases hx with ⟨_, _, e0⟩ | ⟨dx, _, e1, e2⟩
      · exact ⟨a, C, tp, none, cs, us, b, rfl, eC, up _ _ e0, .inl rfl, upd_same, hy.ok, is C nC, q _ _ E2⟩
      · exact ⟨a, C, tp, some dx, cs, us, b, rfl, eC, up _ _ e1, .inr ⟨dx, _, rfl, up _ _ e2⟩, upd_same, hy.ok, is C nC, q _ _ E2⟩
  refine o σ H F fp env _ _ R z fun v l H1 F1 E1 rep => oc _ _ _ ⟨by rw [sizeLine_eq]; omega, fun tp ht => ?_⟩
  split at hf
  · rename_i hm
    cases hf
    obtain ⟨a1, a2⟩ := h1 c (by simpa using hm)
    exact go true v l H1 F1 E1 rep a1 a2 (fun H' F' E' => q _ H' F' E' (.bl true)) tp ht
  · split at hf
    · rename_i hm
      cases hf
      obtain ⟨a1, a2⟩ := h2 c (by simpa using hm)
      exact go false v l H1 F1 E1 rep a1 a2 (fun H' F' E' => q _ H' F' E' (.bl false)) tp ht
    · cases hf
end
end DL
set_option Elab.async false
set_option linter.all false
set_option maxRecDepth 100000
set_option maxHeartbeats 4000000
namespace DL
open PySem PySem.Spec L2
def gInT : D → D → Option D | .str i, .str j => some (.bool (!(Builtin.Str.occurrences j i 0 j.length 1).isEmpty)) | _, _ => none
def gNotInT : D → D → Option D | .str i, .str j => some (.bool (!(!(Builtin.Str.occurrences j i 0 j.length 1).isEmpty))) | _, _ => none
section
variable {X : Cx} {G : GC}
theorem o_notInT : DOp X G (compareOp .NotIn) .vl .vl .fz gNotInT := ⟨_, op_notin_str, fun H F vx vy dx dy d Q sub kp hl rx ry hd q => by
  unfold gNotInT at hd
  split at hd
  · cases hd
    have e1 := vl_str rx
    have e2 := vl_str ry
    subst e1 e2
    exact ⟨_, _, rfl, rfl, q _ H F (Ext.refl sub) (.bl _)⟩
  · cases hd⟩
theorem notInT_one (c : Nat) (z : Str) : gNotInT (.str ⟨#[c]⟩) (.str z) = some (.bool (!decide (c ∈ z.cps.toList))) := by
  unfold gNotInT; dsimp only; rw [PySem.StrLaws.found_one]
theorem glob_tup {K : PySem.W.Frag} {a : Addr} {dd : Option Addr} {n : Nat} {sl : Array (Option Value)} {its : Array Value} {vs : List V} {ds : List D} (h : K.lookup a = some ⟨.type "tuple", dd, .seq its n, sl⟩) (hz : its.size ≤ 1000) (hv : Vals vs its.toList) (hd : DFAll K (fun _ => none) vs ds) : DF K (fun _ => none) (.ref a) (.tuple ds) :=
  .tup (.inr ⟨_, its, n, h, rfl, rfl, by rw [sizeLine_eq]; omega, hv⟩) hd
theorem PCs.nil : PCs X [] [] [] := ⟨⟨_, pa_nil, fun _ _ _ q => q⟩, .nil⟩
theorem PCs.cons {y : Str} {p : Pos} {tc : TE} {C : Addr} {es : List Expr} {cs : List V} {us : List Value} (hy : PE X (.Name y p) tc) (htc : ∀ σ H Q, Q (.ref C) H → tc σ H Q) (t : PCs X es cs us) (he : starEach (.Name y p :: es) X.env = (false, eval (.Name y p) X.env) :: starEach es X.env := by rfl) : PCs X (.Name y p :: es) (.ref C :: cs) (.ref C :: us) := by
  obtain ⟨t0, p0, o0⟩ := t.ex
  exact ⟨⟨_, pa_cons hy p0 he, fun σ H Q q => htc _ _ _ (o0 _ _ _ q)⟩, .cons (.own C) t.ok⟩
end
end DL
set_option Elab.async false
set_option linter.all false
set_option maxRecDepth 100000
set_option maxHeartbeats 4000000
namespace DL
open PySem PySem.Spec L2
theorem rel_fzT {K : PySem.W.Frag} {G : GC} {env : List C} {σ : L2.St} {H F : Hp} {fp : Nat → List Addr} {i : Nat} {t : T} {d : D} (R : Rel K G env σ H F fp) (e : env[i]? = some (.own none t)) (hv : viewT t = some d) : ∃ F1 fp', Rel K G (env.set i (.val d)) σ H F1 fp' ∧ Same F F1 := by
  classical
  obtain ⟨v, s1', r, _⟩ := slot_own R e
  have s1 : (σ[i]?).join = some v := by rw [s1']; rfl
  let F1 : Hp := fun a => if a ∈ fp i then H a else F a
  have f : Same F F1 := fun a o e => by
    by_cases hm : a ∈ fp i
    · exact (if_pos hm).trans (R.sub a o e)
    · exact (if_neg hm).trans e
  have sub : Same F1 H := fun a o e => by
    by_cases hm : a ∈ fp i
    · rwa [show F1 a = H a from if_pos hm] at e
    · exact R.sub a o (by rwa [show F1 a = F a from if_neg hm] at e)
  have z : DF K F1 v d := view_fz f t v d _ (fun b o hb e => (if_pos hb).trans e) hv r
  have hi := (List.getElem?_eq_some_iff.mp e).1
  refine ⟨F1, fset fp i [], ?_, f⟩
  exact {
    len := by rw [List.length_set]; exact R.len
    slot := fun j c' ej => by
      by_cases hj : j = i
      · subst hj
        rw [fset_at]
        rw [List.getElem?_set_self hi] at ej; cases ej
        exact ⟨rfl, v, s1, z⟩
      · rw [List.getElem?_set_ne (Ne.symm hj)] at ej
        rw [fset_ne hj]
        have q := R.slot j c' ej
        cases c' with
        | und => exact q
        | val d => obtain ⟨y1, v, y2, y3⟩ := q; exact ⟨y1, v, y2, DF_mono f _ _ y3⟩
        | brw d => exact q
        | lst ds => obtain ⟨b, vs, y1, y2, y3, y4⟩ := q; exact ⟨b, vs, y1, y2, y3, DFAll_mono f _ _ y4⟩
        | dK ds => obtain ⟨b, vs, y1, y2, y3, y4⟩ := q; exact ⟨b, vs, y1, y2, y3, y4.mono f⟩
        | dT ds => obtain ⟨b, vs, y1, y2, y3, y4⟩ := q; exact ⟨b, vs, y1, y2, y3, y4.mono f⟩
        | dN ds => obtain ⟨b, w, xs, y1, y2, y5, y3, y4⟩ := q; exact ⟨b, w, xs, y1, y2, y5, y3, y4.mono f⟩
        | pin _ => exact q
        | al j i => obtain ⟨q0, a, l, vs, v, q1, q2, q3⟩ := q; exact ⟨q0, a, l, vs, v, q1, f _ _ q2, q3⟩
        | ro b t => obtain ⟨y0, v, l, y1, y2, y3⟩ := q; exact ⟨y0, v, l, y1, OR_mono f _ _ _ (fun _ _ _ z => z) y2, fun hb a vs ha hk => f _ _ (y3 hb a vs ha hk)⟩
        | own m t => obtain ⟨v, y1, y2, y3⟩ := q; exact ⟨v, y1, OR_mono f _ _ _ (fun _ _ _ z => z) y2, y3⟩
    dj := fun j k b h1 h2 => by
      by_cases hj : j = i
      · subst hj; rw [fset_at] at h1; cases h1
      · by_cases hk : k = i
        · subst hk; rw [fset_at] at h2; cases h2
        · rw [fset_ne hj] at h1; rw [fset_ne hk] at h2
          exact R.dj j k b h1 h2
    own := fun j b hb => by
      by_cases hj : j = i
      · subst hj; rw [fset_at] at hb; cases hb
      · rw [fset_ne hj] at hb
        obtain ⟨g1, g2, g3⟩ := R.own j b hb
        exact ⟨(if_neg fun hm => hj (R.dj j i b hb hm)).trans g1, g2, by rw [List.getElem?_set_ne (Ne.symm hj)]; exact g3⟩
    sub := sub
    new := fun a o ea => by
      by_cases hm : a ∈ fp i
      · right
        obtain ⟨_, _, g3⟩ := R.own i a hm
        rcases g3 with g | ⟨_, c, ec, em⟩
        · exact g
        · rw [e] at ec; cases ec; cases em
      · rw [show F1 a = F a from if_neg hm] at ea
        exact R.new a o ea
    old := R.old.trans f
    keep := R.keep
    alive := R.alive }
def sFzT (i : Nat) (g : List C → Out) : List C → Out := fun env => match env[i]? with
  | some (.own none t) => (match viewT t with | some d => g (env.set i (.val d)) | none => .err)
  | _ => .err
theorem dss_fzT {X : Cx} {G : GC} {kr : RK} {sts : List Stmt} {g : List C → Out} (i : Nat) (h : DSs X G kr sts g) : DSs X G kr sts (sFzT i g) := by
  obtain ⟨t, p, o⟩ := h.ex
  refine ⟨t, p, fun σ H F fp env E R q => ?_⟩
  unfold sFzT at q
  split at q
  · rename_i t0 e
    split at q
    · rename_i d ed
      obtain ⟨F', fp', R', s⟩ := rel_fzT R e ed
      exact o σ H F' fp' _ E R' (Post.mono s q)
    · exact q.elim
  · exact q.elim
theorem rel_fvT {K : PySem.W.Frag} {G : GC} {env : List C} {σ : L2.St} {H F : Hp} {fp : Nat → List Addr} {i : Nat} {m : Option Nat} {t : T} {d : D} (R : Rel K G env σ H F fp) (e : env[i]? = some (.own m t)) (hv : viewT t = some d) : ∃ F1 fp', Rel K (G.frz F1) (env.set i (.val d)) σ H F1 fp' ∧ Same F F1 ∧ (∀ b, b ∈ fp i → F1 b = H b) ∧ (∀ b, b ∉ fp i → F1 b = F b) := by
  classical
  obtain ⟨v, s1', r, _⟩ := slot_own R e
  have s1 : (σ[i]?).join = some v := by rw [s1']; rfl
  let F1 : Hp := fun a => if a ∈ fp i then H a else F a
  have f : Same F F1 := fun a o e => by
    by_cases hm : a ∈ fp i
    · exact (if_pos hm).trans (R.sub a o e)
    · exact (if_neg hm).trans e
  have sub : Same F1 H := fun a o e => by
    by_cases hm : a ∈ fp i
    · rwa [show F1 a = H a from if_pos hm] at e
    · exact R.sub a o (by rwa [show F1 a = F a from if_neg hm] at e)
  have z : DF K F1 v d := view_fz f t v d _ (fun b o hb e => (if_pos hb).trans e) hv r
  have hi := (List.getElem?_eq_some_iff.mp e).1
  refine ⟨F1, fset fp i [], ?_, f, fun b hb => if_pos hb, fun b hb => if_neg hb⟩
  exact {
    len := by rw [List.length_set]; exact R.len
    slot := fun j c' ej => by
      by_cases hj : j = i
      · subst hj
        rw [fset_at]
        rw [List.getElem?_set_self hi] at ej; cases ej
        exact ⟨rfl, v, s1, z⟩
      · rw [List.getElem?_set_ne (Ne.symm hj)] at ej
        rw [fset_ne hj]
        have q := R.slot j c' ej
        cases c' with
        | und => exact q
        | val d => obtain ⟨y1, v, y2, y3⟩ := q; exact ⟨y1, v, y2, DF_mono f _ _ y3⟩
        | brw d => exact q
        | lst ds => obtain ⟨b, vs, y1, y2, y3, y4⟩ := q; exact ⟨b, vs, y1, y2, y3, DFAll_mono f _ _ y4⟩
        | dK ds => obtain ⟨b, vs, y1, y2, y3, y4⟩ := q; exact ⟨b, vs, y1, y2, y3, y4.mono f⟩
        | dT ds => obtain ⟨b, vs, y1, y2, y3, y4⟩ := q; exact ⟨b, vs, y1, y2, y3, y4.mono f⟩
        | dN ds => obtain ⟨b, w, xs, y1, y2, y5, y3, y4⟩ := q; exact ⟨b, w, xs, y1, y2, y5, y3, y4.mono f⟩
        | pin _ => exact q
        | al j i => obtain ⟨q0, a, l, vs, v, q1, q2, q3⟩ := q; exact ⟨q0, a, l, vs, v, q1, f _ _ q2, q3⟩
        | ro b t => obtain ⟨y0, v, l, y1, y2, y3⟩ := q; exact ⟨y0, v, l, y1, OR_mono f _ _ _ (fun _ _ _ z => z) y2, fun hb a vs ha hk => f _ _ (y3 hb a vs ha hk)⟩
        | own m t => obtain ⟨v, y1, y2, y3⟩ := q; exact ⟨v, y1, OR_mono f _ _ _ (fun _ _ _ z => z) y2, y3⟩
    dj := fun j k b h1 h2 => by
      by_cases hj : j = i
      · subst hj; rw [fset_at] at h1; cases h1
      · by_cases hk : k = i
        · subst hk; rw [fset_at] at h2; cases h2
        · rw [fset_ne hj] at h1; rw [fset_ne hk] at h2
          exact R.dj j k b h1 h2
    own := fun j b hb => by
      by_cases hj : j = i
      · subst hj; rw [fset_at] at hb; cases hb
      · rw [fset_ne hj] at hb
        obtain ⟨g1, g2, g3⟩ := R.own j b hb
        exact ⟨(if_neg fun hm => hj (R.dj j i b hb hm)).trans g1, g2, by rw [List.getElem?_set_ne (Ne.symm hj)]; exact g3⟩
    sub := sub
    new := fun a o e => .inl e
    old := Same.refl _
    keep := R.keep
    alive := R.alive }
mutual
def allL : T → Bool
  | .d _ => true
  | .n .l ts => allLs ts
  | .n _ _ => false
def allLs : List T → Bool
  | [] => true
  | t :: ts => allL t && allLs ts
end
mutual
theorem allL_lst {K : PySem.W.Frag} {ow : Option World} {H F : Hp} : ∀ (t : T) (v : V) (l : List Addr), allL t = true → OR K ow H F v t l → ∀ b, b ∈ l → ∃ vs, H b = some (.lst vs)
  | .d x, v, l, _, r, b, hb => by cases r; cases hb
  | .n s ts, v, l, h, r, b, hb => by
    cases r with
    | n r1 r2 r3 =>
      cases s with
      | l =>
        unfold allL at h
        obtain ⟨rfl, r1⟩ := r1
        rcases List.mem_append.mp hb with z | z
        · rw [List.mem_singleton.mp z]; exact ⟨_, r1⟩
        · exact allLs_lst ts _ _ h r2 b z
      | _ => unfold allL at h; cases h
theorem allLs_lst {K : PySem.W.Frag} {ow : Option World} {H F : Hp} : ∀ (ts : List T) (vs : List V) (l : List Addr), allLs ts = true → ORs K ow H F vs ts l → ∀ b, b ∈ l → ∃ vs, H b = some (.lst vs)
  | [], vs, l, _, r, b, hb => by cases r; cases hb
  | t :: ts, vs, l, h, r, b, hb => by
    cases r with
    | cons r1 r2 =>
      unfold allLs at h
      rw [Bool.and_eq_true] at h
      rcases List.mem_append.mp hb with z | z
      · exact allL_lst t _ _ h.1 r1 b z
      · exact allLs_lst ts _ _ h.2 r2 b z
end
def eFvT (i : Nat) (f : List C → Option D) : List C → Option D := fun env => match env[i]? with
  | some (.own m t) => if allL t = true then (match viewT t with | some d => flatN (f (env.set i (.val d))) | none => none) else none
  | _ => none
theorem d_fvT {X : Cx} {G : GC} {e : Expr} {f : List C → Option D} (i : Nat) (h : ∀ F1, DE X (G.frz F1) .ow e f) : DE X G .ow e (eFvT i f) := by
  classical
  obtain ⟨t0, p0, _⟩ := (h (fun _ => none)).ex
  refine ⟨fun σ H Q => ∃ F1, tD X.K (G.frz F1) .ow f σ H Q, ⟨fun pins s σ H Q I ⟨F1, hq⟩ => (h F1).canon.run pins s σ H Q I hq⟩, fun σ H F fp env d Q R hf q => ?_⟩
  unfold eFvT at hf
  split at hf
  rotate_left
  · cases hf
  rename_i m t ei
  split at hf
  rotate_left
  · cases hf
  rename_i hal
  split at hf
  rotate_left
  · cases hf
  rename_i dt hv
  obtain ⟨F1, fp', R1, s1, n1, n2⟩ := rel_fvT R ei hv
  unfold flatN at hf
  split at hf
  rotate_left
  · cases hf
  rename_i es z2
  split at hf <;> cases hf
  rename_i hfl
  obtain ⟨v0, s1', r0, _⟩ := slot_own R ei
  have hlst := allL_lst t v0 _ hal r0
  refine ⟨F1, F1, fp', _, _, R1, z2, fun v H' F' E' r => ?_⟩
  obtain ⟨a, vs, ds', rfl, ed, h1, h2, h3, h4⟩ := r
  cases ed
  let F2 : Hp := fun b => if b ∈ fp i then none else F' b
  have n0 : ∀ b, b ∈ fp i → F b = none := fun b hb => (R.own i b hb).1
  have e1 : ∀ b, b ∈ fp i → ∃ vs, F' b = some (.lst vs) := fun b hb => by
    obtain ⟨vs, hvs⟩ := hlst b hb
    exact ⟨vs, E'.f _ _ ((n1 b hb).trans hvs)⟩
  have e2 : ∀ b, b ∉ fp i → F2 b = F' b := fun b hb => if_neg hb
  have e3 : ∀ b, b ∈ fp i → F2 b = none := fun b hb => if_pos hb
  have sf : Same F F2 := fun b o eb => by
    have hb : b ∉ fp i := fun z => by rw [n0 b z] at eb; cases eb
    rw [e2 b hb]
    exact E'.f _ _ ((n2 b hb).trans eb)
  refine q _ H' F2 ⟨E'.h, sf, fun b x eb => ?_, fun b x eb => ?_⟩ ⟨a, vs, _, rfl, rfl, h1, h2, ?_, DF_backs (fun b o eb ho => ?_) _ _ hfl h4⟩
  · by_cases hb : b ∈ fp i
    · rw [e3 b hb] at eb; cases eb
    · rw [e2 b hb] at eb; exact E'.sub _ _ eb
  · by_cases hb : b ∈ fp i
    · rw [e3 b hb] at eb; cases eb
    · rw [e2 b hb] at eb
      rcases E'.new _ _ eb with y | y
      · rw [n2 b hb] at y; exact .inl y
      · exact .inr y
  · by_cases hb : a ∈ fp i
    · exact e3 a hb
    · rw [e2 a hb]; exact h3
  · by_cases hb : b ∈ fp i
    · obtain ⟨vs1, e⟩ := e1 b hb
      rw [e] at eb; cases eb; exact absurd rfl (ho vs1)
    · rw [e2 b hb]; exact eb
section
variable {X : Cx} {G : GC} {e a : Expr} {gy : List C → Option OY} {g : List C → Option (List C × T)} {pos pos' : Pos}
def xOfY (gy : List C → Option OY) : List C → Option (List C × T) := fun env => match gy env with | some (.ok e u) => some (e, u) | _ => none
theorem dx_ofY (h : DY X G e gy) : DX X G e (xOfY gy) := by
  obtain ⟨t, p, o⟩ := h.ex
  refine ⟨t, p, fun σ H F fp env env' u Q R hf q => ?_⟩
  unfold xOfY at hf
  split at hf
  · rename_i e1 u1 z
    cases hf
    exact o σ H F fp env _ Q R z q
  · cases hf
def txNotN (g : List C → Option (List C × T)) : List C → Option (List C × Bool) := fun env => match g env with | some (e, .d c) => some (e, !isNT (.d c)) | _ => none
theorem dtx_notN {j} (h : DX X G e g) : DTX X G (.Compare e [.IsNot] [.Constant .none j pos'] pos) (txNotN g) := by
  obtain ⟨t, p, o⟩ := h.ex
  refine ⟨_, pt_cmp (pc_notN p) rfl, fun σ H F fp env env' b Q R hf q => ?_⟩
  unfold txNotN at hf
  split at hf
  · rename_i e1 u1 z
    cases hf
    refine o σ H F fp env _ _ _ R z fun v H' F' fp' l R' s n => ?_
    rw [isNT_ok n.rep]
    exact ⟨_, rfl, q H' F' fp' R' s⟩
  · cases hf
end
section
variable {X : Cx} {G : GC} {e : Expr} {es : List Expr} {rs : List C → Option (List IP × List T)} {lv : Nat} {ks : List Bool} {x : Str} {p pos : Pos}
def nCallM (g : List T → Option (List T × T)) (rs : List C → Option (List IP × List T)) : List C → Option T := fun env => match rs env with
  | some ([], us) => (match g us with | some (_, u) => some u | none => none)
  | _ => none
theorem dn_callM {g : List T → Option (List T × T)} (cal : CalM X.prog X.w X.K X.mg X.base lv x ks g) (hw : G.w = some X.w) (hr : Room lv X.A) (hg : Gl X x) (h : DMp X G (e :: es) ks [] rs) (hdb : (x == ("__debug__" : Str)) = false := by decide)
    (he : starEach (e :: es) X.env = (false, eval e X.env) :: starEach es X.env := by rfl) (hpl : (backTo pos (starEach es X.env)).any (·.1) = false := by rfl) : DN X G (.Call (.Name x p) (e :: es) [] pos) (nCallM g rs) := by
  obtain ⟨fa, fd, ps, F, hm, kp, b⟩ := cal.ex
  obtain ⟨t, pt, oa⟩ := h.ex
  refine ⟨_, pe_call F hr hg hm kp b .nil pass0 pt hdb he hpl, fun σ H F fp env u Q R hf q => ?_⟩
  unfold nCallM at hf
  split at hf
  · rename_i us z
    split at hf
    · rename_i us' y z2
      cases hf
      refine oa σ H F fp env [] us _ R z fun vs lus H1 F1 E1 ma => ?_
      rw [List.append_nil]
      have R1 := R.ext E1
      obtain ⟨ws, m1, m2, m3, e⟩ := ma.spM hw R1 (by rfl)
      have em : ∀ b, b ∉ wAll ws := fun b hb => by
        rw [wAll_map, e] at hb
        obtain ⟨ip, hi, _⟩ := ma.mem b hb
        cases hi
      refine ⟨F1, us, ws, us', u, E1.sub, m1, m2, m3, z2, fun v H' F' ls' lr pm => ?_⟩
      refine q v H' F' lr (E1.trans ⟨fun b o eb => pm.keep b o (em b) eb, pm.f, pm.sub, pm.nw⟩) (by rw [hw]; exact pm.res) fun b hb => ?_
      obtain ⟨n1, n2, n3⟩ := pm.new b hb
      refine ⟨?_, n2, n3⟩
      cases hH : H b with
      | none => rfl
      | some o => rw [E1.h b o hH] at n1; cases n1
    · cases hf
  · cases hf
end
end DL
set_option Elab.async false
set_option linter.all false
set_option maxRecDepth 100000
set_option maxHeartbeats 4000000
namespace DL
open PySem PySem.Spec L2
section
variable {env e : List C} {f g : List C → Out} {fe fa fb fk : List C → Option D} {ft f1 f2 : List C → Option Bool} {fs : List C → Option (List D)} {fi : List C → Option (List D)} {i j n : Nat} {d x y : D} {ds xs ys : List D}
variable {fn : List C → Option T} {rs : List C → Option (List T)} {gx : List C → Option (List C × T)} {gt : List C → Option (List C × Bool)} {gp : List C → Option IP} {r : List C → Option T} {u v : T} {us ts : List T} {ip : IP} {s : Shp} {c m q : Str} {fl : List Str} {b : Bool} {mm : Option Nat} {p : List Nat}
theorem ev_gNotB {a b : Bool} : gNotB (.bool a) (.bool b) = some (.bool (!decide (a = b))) := (rfl)
theorem ev_nD : nD fe env = (fe env).map T.d := (rfl)
def oNL (o : Option D) : Option T := match o with | some (.list ds) => some (.n .l (ds.map T.d)) | _ => none
theorem ev_nL : nL fe env = oNL (fe env) := (rfl)
theorem ev_oNL : oNL (some (.list ds)) = some (.n .l (ds.map T.d)) := (rfl)
theorem ev_xN : xN fn env = (fn env).map fun u => (env, u) := (rfl)
theorem ev_nsNil : nsNil env = some [] := (rfl)
def oNs (o : Option T) (os : Option (List T)) : Option (List T) := match o with | some u => (match os with | some us => some (u :: us) | none => none) | none => none
theorem ev_nsCons : nsCons fn rs env = oNs (fn env) (rs env) := (rfl)
theorem ev_oNs : oNs (some u) (some us) = some (u :: us) := (rfl)
theorem ev_nDictQ : nDictQ env = some (.n (.q []) []) := (rfl)
theorem ev_nDictK : nDictK env = some (.n (.k []) []) := (rfl)
theorem ev_nLst : nLst rs env = (rs env).map (.n .l) := (rfl)
theorem ev_nTup : nTup rs env = (rs env).map (.n .t) := (rfl)
theorem ev_toC_d : toC (.d x) = .val x := (rfl)
theorem ev_toC_n : toC (.n s ts) = .own none (.n s ts) := (rfl)
def oSetX (o : Option (List C × T)) (i : Nat) : Out := match o with | some (env', u) => .nx (env'.set i (toC u)) | none => .err
theorem ev_setX : sSetX i gx env = oSetX (gx env) i := (rfl)
theorem ev_oSetX : oSetX (some (e, u)) i = .nx (e.set i (toC u)) := (rfl)
def oSetN (o : Option T) (i : Nat) (env : List C) : Out := match o with | some u => .nx (env.set i (toC u)) | none => .err
theorem ev_setN : sSetN i fn env = oSetN (fn env) i env := (rfl)
theorem ev_oSetN : oSetN (some u) i env = .nx (env.set i (toC u)) := (rfl)
def oDropX (o : Option (List C × T)) : Out := match o with | some (env', _) => .nx env' | none => .err
theorem ev_dropX : sDropX gx env = oDropX (gx env) := (rfl)
theorem ev_oDropX : oDropX (some (e, u)) = .nx e := (rfl)
def oRetX (o : Option (List C × T)) : Out := match o with | some (env', u) => .rx env' u | none => .err
theorem ev_retX : sRetX gx env = oRetX (gx env) := (rfl)
theorem ev_oRetX : oRetX (some (e, u)) = .rx e u := (rfl)
theorem ev_retXN : sRetXN env = .rx env (.d .none) := (rfl)
theorem ev_seq_rx : oSeq (.rx e u) g = .rx e u := (rfl)
def oIfX (o : Option (List C × Bool)) (f g : List C → Out) : Out := match o with | some (env', true) => f env' | some (env', false) => g env' | none => .err
theorem ev_ifX : sIfX gt f g env = oIfX (gt env) f g := (rfl)
theorem ev_oIfX_t : oIfX (some (e, true)) f g = f e := (rfl)
theorem ev_oIfX_f : oIfX (some (e, false)) f g = g e := (rfl)
def oTxB (o : Option D) (e : List C) : Option (List C × Bool) := match o with | some (.bool b) => some (e, b) | _ => none
theorem ev_oTxB : oTxB (some (.bool b)) e = some (e, b) := (rfl)
def oTxC (o : Option (List C × T)) (h : D → D → Option D) (f : List C → Option D) : Option (List C × Bool) := match o with
  | some (e, .d x) => oTxB (o2 h (some x) (f e)) e
  | _ => none
theorem ev_txCmp {h : D → D → Option D} : txCmp h gx fe env = oTxC (gx env) h fe := by
  unfold txCmp oTxC
  cases gx env with
  | none => rfl
  | some eu =>
    obtain ⟨e, u⟩ := eu
    cases u with
    | n _ _ => rfl
    | d x =>
      dsimp only
      unfold o2
      cases fe e with
      | none => rfl
      | some y =>
        dsimp only
        cases h x y with
        | none => rfl
        | some z => cases z <;> rfl
theorem ev_oTxC {h : D → D → Option D} : oTxC (some (e, .d x)) h fe = oTxB (o2 h (some x) (fe e)) e := (rfl)
theorem ev_txP : txP ft env = (ft env).map fun b => (env, b) := (rfl)
def oTxN (o : Option (List C × Bool)) : Option (List C × Bool) := match o with | some (e, b) => some (e, !b) | none => none
theorem ev_txNot : txNot gt env = oTxN (gt env) := (rfl)
theorem ev_oTxN : oTxN (some (e, b)) = some (e, !b) := (rfl)
theorem ev_pNm : pNm i env = some (i, []) := (rfl)
def oNode (o : Option C) (p : List Nat) : Option T := match o with | some (.own _ t) => T.sub p t | _ => none
theorem ev_nodeAt : nodeAt env (i, p) = oNode env[i]? p := (rfl)
theorem ev_oNode : oNode (some (.own mm u)) p = T.sub p u := (rfl)
theorem ev_sub0 : T.sub [] u = some u := (rfl)
theorem ev_subS : T.sub (j :: p) (.n s ts) = (ts[j]?).bind (T.sub p) := (rfl)
def oPutA (o : Option C) (env : List C) (i : Nat) (p : List Nat) (v : T) : List C := match o with | some (.own m t) => env.set i (.own m (T.put p t v)) | _ => env
theorem ev_putAt : putAt env (i, p) v = oPutA env[i]? env i p v := (rfl)
theorem ev_oPutA : oPutA (some (.own mm u)) env i p v = env.set i (.own mm (T.put p u v)) := (rfl)
theorem ev_put0 : T.put [] u v = v := (rfl)
def oTp (o : Option T) (p : List Nat) (s : Shp) (ts : List T) (j : Nat) (v : T) : T := .n s (match o with | some t => ts.set j (T.put p t v) | none => ts)
theorem ev_putS : T.put (j :: p) (.n s ts) v = oTp ts[j]? p s ts j v := (rfl)
theorem ev_oTp : oTp (some u) p s ts j v = .n s (ts.set j (T.put p u v)) := (rfl)
def oPC (o : Option IP) (sel : List C → Shp → Nat → Option Nat) (env : List C) : Option IP := match o with
  | some ip => (match nodeAt env ip with | some (.n s ts) => (match sel env s ts.length with | some j => if j < ts.length then some (ip.1, ip.2 ++ [j]) else none | none => none) | _ => none)
  | none => none
theorem pC_at {sel : List C → Shp → Nat → Option Nat} (h1 : gp env = some (i, p)) (h2 : nodeAt env (i, p) = some (.n s ts)) (h3 : sel env s ts.length = some j) (h4 : j < ts.length) : pChild gp sel env = some (i, p ++ [j]) := by
  unfold pChild
  rw [h1]; dsimp only; rw [h2]; dsimp only; rw [h3]; dsimp only; rw [if_pos h4]
theorem pI_at {k : Int} (h1 : gp env = some (i, p)) (h2 : nodeAt env (i, p) = some (.n .l ts)) (h5 : fe env = some (.int k)) (h3 : ixN ts.length k = some j) : pI fe gp env = some (i, p ++ [j]) := pC_at h1 h2 (by unfold selI; dsimp only; rw [h5]; exact h3) (ixN_lt h3)
def oCell (o : Option C) : Option T := o.bind cellT
theorem ev_rN : rN i env = oCell env[i]? := (rfl)
theorem ev_cell_own : oCell (some (.own mm u)) = some u := (rfl)
theorem ev_cell_ro : oCell (some (.ro b u)) = some u := (rfl)
theorem ev_cell_val : oCell (some (.val x)) = some (.d x) := (rfl)
theorem ev_cell_lst : oCell (some (.lst ds)) = some (.n .l (ds.map T.d)) := (rfl)
def oRo (o : Option C) : Option T := match o with | some (.ro true t) => some t | _ => none
theorem ev_roN : roN i env = oRo env[i]? := (rfl)
theorem ev_oRo : oRo (some (.ro true u)) = some u := (rfl)
def oRC (o : Option T) (sel : List C → Shp → Nat → Option Nat) (env : List C) : Option T := match o with
  | some (.n s ts) => (match sel env s ts.length with | some j => ts[j]? | none => none)
  | _ => none
def oRF (o : Option T) (c q : Str) : Option T := match o with
  | some (.n (.o c' fl) ts) => if c' = c then (fIx q fl).bind fun j => ts[j]? else none
  | _ => none
theorem ev_rF : rF c q r env = oRF (r env) c q := by
  unfold rF rChild oRF
  cases r env with
  | none => rfl
  | some u =>
    cases u with
    | d _ => rfl
    | n s ts =>
      cases s <;> try rfl
      rename_i c' fl
      dsimp only [selF]
      by_cases h : c' = c
      · rw [if_pos h, if_pos h]; cases fIx q fl <;> rfl
      · rw [if_neg h, if_neg h]
theorem ev_oRF : oRF (some (.n (.o c fl) ts)) c q = (fIx q fl).bind fun j => ts[j]? := if_pos rfl
def oRI (o : Option T) (k : Option D) : Option T := match o with
  | some (.n .l ts) => (match k with | some (.int i) => (ixN ts.length i).bind fun j => ts[j]? | _ => none)
  | some (.n .t ts) => (match k with | some (.int i) => (ixN ts.length i).bind fun j => ts[j]? | _ => none)
  | some (.n .lf ts) => (match k with | some (.int i) => (ixN ts.length i).bind fun j => ts[j]? | _ => none)
  | _ => none
theorem ev_rI : rI fe r env = oRI (r env) (fe env) := by
  unfold rI rChild oRI
  cases r env with
  | none => rfl
  | some u =>
    cases u with
    | d _ => rfl
    | n s ts =>
      cases s <;> try rfl
      all_goals
        dsimp only [selI]
        cases fe env with
        | none => rfl
        | some k =>
          cases k <;> try rfl
          rename_i k
          dsimp only
          cases ixN ts.length k <;> rfl
theorem ev_oRI {k : Int} : oRI (some (.n .l ts)) (some (.int k)) = (ixN ts.length k).bind fun j => ts[j]? := (rfl)
def oLeaf (o : Option T) : Option D := match o with | some (.d x) => some x | _ => none
theorem ev_rLeaf : rLeaf r env = oLeaf (r env) := (rfl)
theorem ev_oLeaf : oLeaf (some (.d x)) = some x := (rfl)
theorem ev_rFlat : rFlat r env = (r env).bind flatV1 := (rfl)
theorem ev_rView : rView r env = (r env).bind viewT := (rfl)
theorem flatT_d : ∀ ds : List D, flatT (ds.map T.d) = some ds
  | [] => rfl
  | d :: ds => by rw [List.map_cons]; unfold flatT; rw [flatT_d ds]; rfl
theorem ev_flatV1 : flatV1 (.n .l (ds.map T.d)) = some (.list ds) := by
  show (flatT (ds.map T.d)).map PyData.list = _
  rw [flatT_d]; rfl
theorem ev_flatV1d : flatV1 (.d x) = some x := (rfl)
def oEow (o : Option T) : Option D := match o with | some (.n .l ts) => (flatT ts).map .list | _ => none
theorem ev_eOw : eOw fn env = oEow (fn env) := (rfl)
theorem ev_oEow : oEow (some (.n .l (ds.map T.d))) = some (.list ds) := by
  show (flatT (ds.map T.d)).map PyData.list = _
  rw [flatT_d]; rfl
def oFldP (o : Option (List C × T)) (c q : Str) (gp : List C → Option IP) : Out := match o with
  | some (env1, u) => (match gp env1 with
    | some ip => (match nodeAt env1 ip with
      | some (.n (.o c' fs) ts) => if c' = c ∧ fs.length < 1000 then .nx (putAt env1 ip (putO q u c fs ts)) else .err
      | _ => .err)
    | none => .err)
  | none => .err
theorem ev_fldP : sFldP c q gp gx env = oFldP (gx env) c q gp := (rfl)
def oIxP (o : Option (List C × T)) (gp : List C → Option IP) (fi : List C → Option D) : Out := match o with
  | some (env1, u) => (match gp env1 with
    | some ip => (match nodeAt env1 ip with
      | some (.n .l ts) => (match fi env1 with
        | some (.int j) => (match ixN ts.length j with | some m => .nx (putAt env1 ip (.n .l (ts.set m u))) | none => .err)
        | _ => .err)
      | _ => .err)
    | none => .err)
  | none => .err
theorem ev_ixP : sIxP gp fe gx env = oIxP (gx env) gp fe := (rfl)
theorem ixP_at {k : Int} (h1 : gp e = some (i, p)) (h2 : nodeAt e (i, p) = some (.n .l ts)) (h3 : fe e = some (.int k)) (h4 : ixN ts.length k = some j) : oIxP (some (e, u)) gp fe = .nx (putAt e (i, p) (.n .l (ts.set j u))) := by
  unfold oIxP
  dsimp only
  rw [h1]; dsimp only; rw [h2]; dsimp only; rw [h3]; dsimp only; rw [h4]
theorem appP_at (h1 : gp env = some (i, p)) (h2 : nodeAt env (i, p) = some (.n .l ts)) (h3 : fn env = some u) (h4 : ts.length < 16000000) : xAppP gp fn env = some (putAt env (i, p) (.n .l (ts ++ [u])), .d .none) := by
  unfold xAppP
  rw [h1]; dsimp only; rw [h2]; dsimp only; rw [h3]; dsimp only; rw [if_pos h4]
end
def onND (o : Out) (P : List C → Prop) : Prop := match o with | .nx e => P e | .ct e => P e | _ => False
theorem ev_nd1 {e : List C} {P : List C → Prop} : onND (.nx e) P = P e := (rfl)
theorem ev_nd2 {e : List C} {P : List C → Prop} : onND (.ct e) P = P e := (rfl)
end DL
set_option Elab.async false
set_option linter.all false
set_option maxRecDepth 100000
set_option maxHeartbeats 4000000
namespace DL
open PySem PySem.Spec L2
section
variable {fe fk fi f1 f2 : List C → Option D} {r : List C → Option T} {fn : List C → Option T} {gp : List C → Option IP} {gx : List C → Option (List C × T)} {gy : List C → Option OY} {rs : List C → Option (List IP × List T)} {env e : List C} {i j s v n m : Nat} {p : List Nat} {u w : T} {d x : D} {ds : List D} {ts : List T} {c q : Str} {b g : List C → Out} {ks : List Key} {xd : XD} {ip : IP}
theorem ev_seq_xc : oSeq (.xc e xd) g = .xc e xd := (rfl)
def oRKK (o : Option T) (k : Option D) : Option T := match o with
  | some (.n s ts) => (match ksOf s, k.bind kOfD with | some ks, some kk => (match kkIx kk ks with | some j => ts[j]? | none => none) | _, _ => none)
  | _ => none
theorem ev_rKK : rKK fe r env = oRKK (r env) (fe env) := by
  unfold rKK rChild oRKK selKK
  cases r env with
  | none => rfl
  | some u =>
    cases u with
    | d _ => rfl
    | n s ts =>
      cases h1 : ksOf s <;> cases h2 : (fe env).bind kOfD <;> simp only [h1, h2]
      all_goals first | rfl | (rename_i a c; cases kkIx c a <;> rfl)
def oKK (o : Option T) : Option (List D) := match o with | some (.n (.kf ks) _) => some (ks.map keyT) | _ => none
theorem ev_iKK : iKK r env = oKK (r env) := (rfl)
theorem ev_oKK : oKK (some (.n (.kf ks) ts)) = some (ks.map keyT) := (rfl)
def oLenO (o : Option T) : Option D := match o with | some (.n .l ts) => some (.int ts.length) | some (.n .lf ts) => some (.int ts.length) | _ => none
theorem ev_eLenO : eLenO r env = oLenO (r env) := (rfl)
theorem ev_oLenO_l : oLenO (some (.n .l ts)) = some (.int ts.length) := (rfl)
theorem ev_oLenO : oLenO (some (.n .lf ts)) = some (.int ts.length) := (rfl)
def oListK (o : Option T) : Option D := match o with | some (.n s _) => (ksOf s).map fun ks => .list (ks.map keyT) | _ => none
theorem ev_eListK : eListK r env = oListK (r env) := (rfl)
theorem ev_oListK : oListK (some (.n (.kf ks) ts)) = some (.list (ks.map keyT)) := (rfl)
def oInK (o : Option T) (k : Option D) : Option Bool := match o with
  | some (.n s _) => (match ksOf s, k.bind kOfD with | some ks, some k => some (kkIx k ks).isSome | _, _ => none)
  | _ => none
theorem ev_trInK : trInK fe r env = oInK (r env) (fe env) := (rfl)
theorem ev_trNinK : trNinK fe r env = (oInK (r env) (fe env)).map (!·) := (rfl)
def oE1 (o : Option D) (c q : Str) (env : List C) : Out := match o with | some d => .xc env ⟨c, [q], [d]⟩ | none => .err
theorem ev_raise1 {q : Str} : sRaise (mkE1 c q fe) env = oE1 (fe env) c q env := by
  unfold sRaise mkE1 oE1
  cases fe env <;> rfl
theorem ev_oE1 {q : Str} : oE1 (some d) c q env = .xc env ⟨c, [q], [d]⟩ := (rfl)
def oE2 (o o2 : Option D) (c q q2 : Str) (env : List C) : Out := match o with | some d => (match o2 with | some d2 => .xc env ⟨c, [q2, q], [d2, d]⟩ | none => .err) | none => .err
theorem ev_raise2 {q q2 : Str} : sRaise (mkE2 c q q2 f1 f2) env = oE2 (f1 env) (f2 env) c q q2 env := by
  unfold sRaise mkE2 oE2
  cases f1 env with
  | none => rfl
  | some d => dsimp only; cases f2 env <;> rfl
theorem ev_oE2 {q q2 : Str} {d2 : D} : oE2 (some d) (some d2) c q q2 env = .xc env ⟨c, [q2, q], [d2, d]⟩ := (rfl)
theorem ev_raise0 : sRaise (fun _ => some xd) env = .xc env xd := (rfl)
def oSetY (o : Option OY) (i : Nat) : Out := match o with | some (.ok e u) => .nx (e.set i (toC u)) | some (.xc e x) => .xc e x | none => .err
theorem ev_setY : sSetY i gy env = oSetY (gy env) i := (rfl)
theorem ev_oSetY_ok : oSetY (some (.ok e u)) i = .nx (e.set i (toC u)) := (rfl)
theorem ev_oSetY_xc : oSetY (some (.xc e xd)) i = .xc e xd := (rfl)
def oTry (o : Out) (xs : List Str) (i j : Nat) : Out := match o with
  | .xc e x => if xs.contains x.c = true ∧ i < e.length then .nx ((e.set i .und).set j (.own none (XK x))) else .err
  | o => o
theorem ev_try {xs : List Str} : sTry xs i j b env = oTry (b env) xs i j := (rfl)
theorem ev_oTry_nx {xs : List Str} : oTry (.nx e) xs i j = .nx e := (rfl)
def oPair (o o2 : Option C) (i j : Nat) (env : List C) : Out := match o.bind giveC, o2.bind giveC with
  | some u, some w => .rx ((env.set i .und).set j .und) (.n .t [u, w])
  | _, _ => .err
theorem ev_retPair : sRetPair i j env = oPair env[i]? env[j]? i j env := (rfl)
theorem ev_oPair_vv : oPair (some (.val d)) (some (.val x)) i j env = .rx ((env.set i .und).set j .und) (.n .t [.d d, .d x]) := (rfl)
theorem ev_oPair_vo : oPair (some (.val d)) (some (.own none u)) i j env = .rx ((env.set i .und).set j .und) (.n .t [.d d, u]) := (rfl)
def oIx2 (o : Option (List C × T)) (n : Nat) : Option (List C × T) := match o with
  | some (env', .n .t us) => (match us[n]? with | some (.d d) => some (env', .d d) | _ => none)
  | _ => none
theorem ev_xIx2 : xIx2 n gx env = oIx2 (gx env) n := (rfl)
theorem ev_oIx2 : oIx2 (some (e, .n .t [.d d, u])) 0 = some (e, .d d) := (rfl)
def oRPl (o : Option IP) (env : List C) : Option T := o.bind (nodeAt env)
theorem ev_rPl : rPl gp env = oRPl (gp env) env := (rfl)
theorem ev_oRPl : oRPl (some ip) env = nodeAt env ip := (rfl)
def oForL (o : Option C) (v : Nat) (b : List C → Out) (env : List C) : Out := match o with
  | some (.own (some j) (.n .lf ts)) => forL v j b (List.range ts.length) env
  | _ => .err
theorem ev_forL : sForL s v b env = oForL env[s]? v b env := (rfl)
theorem ev_oForL : oForL (some (.own (some j) (.n .lf ts))) v b env = forL v j b (List.range ts.length) env := (rfl)
theorem ev_onlyRt : onlyRt (.rt d) = .rt d := (rfl)
def oDn (o : Option T) : Option D := match o with | some (.n .l ts) => (flatT ts).map .list | some (.d x) => some x | _ => none
theorem ev_eDn : eDn fn env = oDn (fn env) := (rfl)
theorem ev_oDn_l : oDn (some (.n .l (ds.map T.d))) = some (.list ds) := by
  show (flatT (ds.map T.d)).map PyData.list = _
  rw [flatT_d]; rfl
theorem ev_oDn_d : oDn (some (.d x)) = some x := (rfl)
def oMpRo (o : Option D) (k : Option (List IP × List T)) : Option (List IP × List T) := match o with | some d => (match k with | some r => some (r.1, .d d :: r.2) | none => none) | none => none
theorem ev_mpRo : mpRo fe rs env = oMpRo (fe env) (rs env) := by
  unfold mpRo oMpRo
  cases fe env with
  | none => rfl
  | some d => cases rs env <;> rfl
theorem ev_oMpRo {ips : List IP} {us : List T} : oMpRo (some d) (some (ips, us)) = some (ips, .d d :: us) := (rfl)
theorem ev_mpNil : mpNil env = some ([], []) := (rfl)
theorem putK_at {ts : List T} {kk : Key} (h0 : gx env = some (e, u)) (h1 : gp e = some (i, p)) (h2 : nodeAt e (i, p) = some (.n (.k ks) ts)) (h5 : fe e = some d) (h3 : kOfD d = some kk) (h4 : kkIx kk ks = none) (h7 : ts.length < 16000000) : sPutK gp fe gx env = .nx (putAt e (i, p) (.n (.k (ks ++ [kk])) (ts ++ [u]))) := by
  unfold sPutK
  rw [h0]; dsimp only; rw [h1]; dsimp only; rw [h2]; dsimp only; rw [h5, Option.bind_some, h3]; dsimp only; rw [if_pos h7, h4]
theorem ev_runV {N : Nat} {ns : List Int} : runV N b ns = oRun (b (.ro true (.n .v ((ns.map PyData.int).map .d)) :: List.replicate (N - 1) .und)) := by
  unfold runV oRun
  cases b (.ro true (.n .v ((ns.map PyData.int).map .d)) :: List.replicate (N - 1) .und) <;> rfl
def oVw (c : Option C) : Option D := match c with | some (.ro _ (.n .v ts)) => (flatT ts).map .list | _ => none
theorem ev_eVw : eVw i env = oVw env[i]? := (rfl)
theorem ev_oVw {ro : Bool} : oVw (some (.ro ro (.n .v (ds.map T.d)))) = some (.list ds) := by
  show (flatT (ds.map T.d)).map PyData.list = _
  rw [flatT_d]; rfl
end
end DL
set_option Elab.async false
set_option linter.all false
set_option maxRecDepth 100000
set_option maxHeartbeats 4000000
namespace DL
open PySem PySem.Spec L2
section
variable {fe fa fb fc : List C → Option D} {r : List C → Option T} {gx : List C → Option (List C × T)} {gt gt2 : List C → Option (List C × Bool)} {rs : List C → Option (List IP × List T)} {env e : List C} {i j s v w n : Nat} {u u2 : T} {d x y : D} {ds : List D} {ts : List T} {b : List C → Out} {g g' : D → D → Option D} {bb : Bool}
theorem ev_sumA {ns : List Int} : gSumA [.list (ns.map .int)] = some (.int ns.sum) := by
  unfold gSumA; simp only [allInt_map, Option.map_some]
theorem ev_sumT {ns : List Int} : gSumA [.tuple (ns.map .int)] = some (.int ns.sum) := by
  unfold gSumA; simp only [allInt_map, Option.map_some]
def oRlf (o : Option T) : Option D := match o with | some (.n .lf ts) => (flatT ts).map .list | _ => none
theorem ev_eRlf : eRlf r env = oRlf (r env) := (rfl)
theorem ev_oRlf : oRlf (some (.n .lf (ds.map T.d))) = some (.list ds) := by
  show (flatT (ds.map T.d)).map PyData.list = _
  rw [flatT_d]; rfl
def oFvS (o : Option (List C)) (f : List C → Option D) : Option D := match o with | some env' => oScal (f env') | none => none
theorem ev_fvS {f : List C → Option D} : eFvS i f env = oFvS (putFz i env) f := by
  unfold eFvS oFvS oScal
  cases putFz i env <;> rfl
theorem ev_oFvS {f : List C → Option D} : oFvS (some e) f = oScal (f e) := (rfl)
def oNotNT (o : Option T) : Option Bool := o.map fun u => !isNT u
theorem ev_rNotN : rNotN r env = oNotNT (r env) := (rfl)
theorem ev_oNotNT_n : oNotNT (some (.d .none)) = some false := (rfl)
theorem ev_oNotNT_x {xd : XD} : oNotNT (some (XK xd)) = some true := (rfl)
theorem ev_oNotNT_s {sh : Shp} : oNotNT (some (.n sh ts)) = some true := (rfl)
def oIsNT (o : Option T) : Option Bool := o.map isNT
theorem ev_rIsN : rIsN r env = oIsNT (r env) := (rfl)
theorem ev_oIsNT_n : oIsNT (some (.d .none)) = some true := (rfl)
theorem ev_oIsNT_x {xd : XD} : oIsNT (some (XK xd)) = some false := (rfl)
theorem ev_oIsNT_s {sh : Shp} : oIsNT (some (.n sh ts)) = some false := (rfl)
def oTxV (o : Option (List C × T)) : Option (List C × Bool) := match o with | some (e, .d (.bool b)) => some (e, b) | _ => none
theorem ev_txB : txB gx env = oTxV (gx env) := (rfl)
theorem ev_oTxV : oTxV (some (e, .d (.bool bb))) = some (e, bb) := (rfl)
def oTxAnd (o : Option (List C × Bool)) (k : List C → Option (List C × Bool)) : Option (List C × Bool) := match o with | some (e, true) => k e | some (e, false) => some (e, false) | none => none
theorem ev_txAnd : txAnd gt gt2 env = oTxAnd (gt env) gt2 := (rfl)
theorem ev_oTxAnd_t : oTxAnd (some (e, true)) gt = gt e := (rfl)
theorem ev_oTxAnd_f : oTxAnd (some (e, false)) gt = some (e, false) := (rfl)
def oTxOr (o : Option (List C × Bool)) (k : List C → Option (List C × Bool)) : Option (List C × Bool) := match o with | some (e, true) => some (e, true) | some (e, false) => k e | none => none
theorem ev_txOr : txOr gt gt2 env = oTxOr (gt env) gt2 := (rfl)
theorem ev_oTxOr_t : oTxOr (some (e, true)) gt = some (e, true) := (rfl)
theorem ev_oTxOr_f : oTxOr (some (e, false)) gt = gt e := (rfl)
def oSetP (o : Option (List C × T)) (i j : Nat) : Out := match o with | some (e, .n .t [u, w]) => .nx ((e.set i (toC u)).set j (toC w)) | _ => .err
theorem ev_setPair : sSetPair i j gx env = oSetP (gx env) i j := (rfl)
theorem ev_oSetP : oSetP (some (e, .n .t [u, u2])) i j = .nx ((e.set i (toC u)).set j (toC u2)) := (rfl)
theorem mpVw_at {ro : Bool} {ips : List IP} {us : List T} (h1 : env[i]? = some (.ro ro (.n .v (ds.map .d)))) (h2 : rs env = some (ips, us)) : mpVw i rs env = some (ips, .n .v (ds.map .d) :: us) := by
  unfold mpVw
  rw [h1]; dsimp only; rw [flatT_d]; dsimp only; rw [h2]; rfl
def oXC (o : Option (List C × Bool)) : Option (List C × T) := o.map fun p => (p.1, .d (.bool p.2))
theorem ev_xCmp : xCmp g gx fb env = oXC (txCmp g gx fb env) := (rfl)
theorem ev_oXC : oXC (some (e, bb)) = some (e, .d (.bool bb)) := (rfl)
def oFzA (o : Option (List C)) (f : List C → Option D) : Option D := match o with | some e => flatN (f e) | none => none
theorem ev_fzA {p : List Nat} {f : List C → Option D} : eFzA i p f env = oFzA (fzAt i p env) f := (rfl)
theorem ev_oFzA {f : List C → Option D} : oFzA (some e) f = flatN (f e) := (rfl)
def oTLst (c : Option C) : Option Bool := match c with | some (.lst ds) => some (!ds.isEmpty) | _ => none
theorem ev_tLst : tLst i env = oTLst env[i]? := (rfl)
theorem ev_oTLst : oTLst (some (.lst ds)) = some (!ds.isEmpty) := (rfl)
theorem ev_fzR {p : List Nat} {f : List C → Option D} : eFzR i p f env = oFzA (fzRo i p env) f := (rfl)
def oForA (o : Option (List AI)) (b : List C → Out) (env : List C) : Out := match o with | some l => forA b l env | none => .err
theorem ev_forA {f : List C → Option (List AI)} : sForA f b env = oForA (f env) b env := (rfl)
theorem ev_oForA {l : List AI} : oForA (some l) b env = forA b l env := (rfl)
def oDropY (o : Option OY) : Out := match o with | some (.ok e _) => .nx e | some (.xc e x) => .xc e x | none => .err
theorem ev_dropY {gy : List C → Option OY} : sDropY gy env = oDropY (gy env) := (rfl)
theorem ev_oDropY_ok {y : T} : oDropY (some (.ok e y)) = .nx e := (rfl)
theorem ev_oDropY_xc {xd : XD} : oDropY (some (.xc e xd)) = .xc e xd := (rfl)
def oCallP (o : Option (List IP × List T)) (g : List T → Option Rz) (rd : List Nat) (env : List C) : Option OY := match o with
  | some (ips, us) => if okP ips rd = true then (match g us with
    | some (.ok us' y) => some (.ok (putsP ips us' env) y)
    | some (.ex us' xd) => some (.xc (putsP ips us' env) xd)
    | none => none) else none
  | none => none
theorem ev_callP {g : List T → Option Rz} {rd : List Nat} : yCallP g rd rs env = oCallP (rs env) g rd env := (rfl)
theorem callP_ok {g : List T → Option Rz} {rd : List Nat} {ips : List IP} {us us' : List T} {y : T} (h : okP ips rd = true) (hg : g us = some (.ok us' y)) : oCallP (some (ips, us)) g rd env = some (.ok (putsP ips us' env) y) := by
  unfold oCallP; dsimp only; rw [if_pos h, hg]
theorem callP_ex {g : List T → Option Rz} {rd : List Nat} {ips : List IP} {us us' : List T} {xd : XD} (h : okP ips rd = true) (hg : g us = some (.ex us' xd)) : oCallP (some (ips, us)) g rd env = some (.xc (putsP ips us' env) xd) := by
  unfold oCallP; dsimp only; rw [if_pos h, hg]
theorem fzT_at {g : List C → Out} {d : D} {t : T} (h : env[i]? = some (.own none t)) (h2 : viewT t = some d) : sFzT i g env = g (env.set i (.val d)) := by
  unfold sFzT; rw [h]; dsimp only; rw [h2]
theorem fvT_at {f : List C → Option D} {m : Option Nat} {d : D} {t : T} (h : env[i]? = some (.own m t)) (h1 : allL t = true) (h2 : viewT t = some d) : eFvT i f env = flatN (f (env.set i (.val d))) := by
  unfold eFvT; rw [h]; dsimp only; rw [if_pos h1, h2]
def oTxNN : Option (List C × T) → Option (List C × Bool) | some (e, .d c) => some (e, !isNT (.d c)) | _ => none
theorem ev_txNotN : txNotN gx env = oTxNN (gx env) := (rfl)
theorem ev_oTxNN_n : oTxNN (some (e, .d .none)) = some (e, false) := (rfl)
def oXOY : Option OY → Option (List C × T) | some (.ok e u) => some (e, u) | _ => none
theorem ev_xOfY {gy : List C → Option OY} : xOfY gy env = oXOY (gy env) := (rfl)
theorem ev_oXOY {y : T} : oXOY (some (.ok e y)) = some (e, y) := (rfl)
theorem callM_at {g : List T → Option (List T × T)} {rs : List C → Option (List IP × List T)} {us us' : List T} {y : T} (h1 : rs env = some ([], us)) (h2 : g us = some (us', y)) : nCallM g rs env = some y := by
  unfold nCallM; rw [h1]; dsimp only; rw [h2]
end
end DL
set_option Elab.async false
set_option linter.all false
set_option maxRecDepth 100000
set_option maxHeartbeats 4000000
namespace DL
open PySem PySem.Spec L2
def EV0 := And.intro @ev_bs <| And.intro @ev_bn <| And.intro @ev_ms <| And.intro @ev_mn <| And.intro @ev_g0 <| And.intro @ev_gs <| And.intro @ev_s0 <| And.intro @ev_ss <| And.intro @ev_bn1 <| And.intro @ev_bn2 <| And.intro @ev_seq <| And.intro @ev_seq_nx <| And.intro @ev_seq_rt <| And.intro @ev_seq_bk <| And.intro @ev_seq_ct <| And.intro @ev_nil <| And.intro @ev_brk <| And.intro @ev_cnt <| And.intro @ev_if <| And.intro @ev_if_t <| And.intro @ev_if_f <| And.intro @ev_set <| And.intro @ev_oset <| And.intro @ev_setL <| And.intro @ev_osetL <| And.intro @ev_drop <| And.intro @ev_odrop <| And.intro @ev_ret <| And.intro @ev_oret <| And.intro @ev_retN <| And.intro @ev_retL <| And.intro @ev_oretL <| And.intro @ev_orun <| And.intro @ev_orunN <| And.intro @ev_orunN_nx <| And.intro @ev_fz <| And.intro @ev_fz_l <| And.intro @ev_fz_v <| And.intro @ev_app <| And.intro @ev_app_s <| And.intro @ev_clear <| And.intro @ev_clear_s <| And.intro @ev_oNx <| And.intro @ev_asg <| And.intro @ev_asg_s <| And.intro @ev_par <| And.intro @ev_par_s <| And.intro @ev_aug <| And.intro @ev_aug_s <| And.intro @ev_setIx <| And.intro @ev_setIx_s <| And.intro @ev_augIx <| And.intro @ev_dictN <| And.intro @ev_notInN <| And.intro @ev_oNotInN <| And.intro @ev_putN <| And.intro @ev_oPutN <| And.intro @ev_for <| And.intro @ev_ofor <| And.intro @ev_V <| And.intro @ev_L <| And.intro @ev_B <| @ev_rdV
def EV1 := And.intro @ev_rdLv <| And.intro @ev_rdLl <| And.intro @ev_rdBv <| And.intro @ev_rdBb <| And.intro @ev_C <| And.intro @ev_e2 <| And.intro @ev_o2 <| And.intro @ev_e1 <| And.intro @ev_e3 <| And.intro @ev_o3 <| And.intro @ev_pN <| And.intro @ev_pS <| And.intro @ev_oPS <| And.intro @ev_aNil <| And.intro @ev_aCons <| And.intro @ev_oCons <| And.intro @ev_tup <| And.intro @ev_lst <| And.intro @ev_oLst <| And.intro @ev_scal <| And.intro @ev_scal_i <| And.intro @ev_scal_s <| And.intro @ev_scal_b <| And.intro @ev_neg <| And.intro @ev_oNeg <| And.intro @ev_tB <| And.intro @ev_asB <| And.intro @ev_tNot <| And.intro @ev_tAnd <| And.intro @ev_tOr <| And.intro @ev_oAnd_t <| And.intro @ev_oAnd_f <| And.intro @ev_oOr_t <| And.intro @ev_oOr_f <| And.intro @ev_eAnd <| And.intro @ev_eOr <| And.intro @ev_oAndD_t <| And.intro @ev_oAndD_f <| And.intro @ev_oOrD_t <| And.intro @ev_oOrD_f <| And.intro @ev_eNot <| And.intro @ev_oNot <| And.intro @ev_isi <| And.intro @ev_isi_ii <| And.intro @ev_isi_ib <| And.intro @ev_isi_il <| And.intro @ev_isi_it <| And.intro @ev_isi_is <| And.intro @ev_isi_ll <| And.intro @ev_isi_lt <| And.intro @ev_isi_li <| And.intro @ev_isi_lb <| And.intro @ev_isi_tt <| And.intro @ev_isi_tl <| And.intro @ev_isi_ss <| And.intro @ev_isi_bb <| And.intro @ev_isi_bi <| And.intro @ev_isN <| And.intro @ev_notN <| And.intro @ev_oIsN_n <| And.intro @ev_oIsN_i <| And.intro @ev_oIsN_l <| @ev_oIsN_t
def EV2 := And.intro @ev_oNotN_n <| And.intro @ev_oNotN_i <| And.intro @ev_oNotN_l <| And.intro @ev_oNotN_t <| And.intro @ev_rev <| And.intro @ev_gRev <| And.intro @ev_iAny <| And.intro @ev_oAny_l <| And.intro @ev_oAny_t <| And.intro @ev_iSeqB <| And.intro @ev_oSeqB <| And.intro @ev_iEnum <| And.intro @ev_oEnum <| And.intro @ev_iZip <| And.intro @ev_oZip_ll <| And.intro @ev_oZip_tt <| And.intro @ev_oZip_lt <| And.intro @ev_oZip_tl <| And.intro @ev_iRng1 <| And.intro @ev_rng1_s <| And.intro @ev_iRng2 <| And.intro @ev_rng2_s <| And.intro @ev_tgN <| And.intro @ev_tgNil <| And.intro @ev_tgCons <| And.intro @ev_tgT <| And.intro @ev_wipe_nil <| And.intro @ev_wipe_cons <| And.intro @ev_lc <| And.intro @ev_oLc <| And.intro @ev_add <| And.intro @ev_addIS <| And.intro @ev_add_ll <| And.intro @ev_add_tt <| And.intro @ev_addL <| And.intro @ev_repL <| And.intro @ev_rep <| And.intro @ev_sub <| And.intro @ev_mul <| And.intro @ev_mod <| And.intro @ev_div <| And.intro @ev_modA <| And.intro @ev_divA <| And.intro @ev_pow <| And.intro @ev_lt <| And.intro @ev_le <| And.intro @ev_gt <| And.intro @ev_ge <| And.intro @ev_eq <| And.intro @ev_ne <| And.intro @ev_eqs <| And.intro @ev_nes <| And.intro @ev_eqb <| And.intro @ev_neb <| And.intro @ev_len <| And.intro @ev_lenT <| And.intro @ev_list <| And.intro @ev_listT <| And.intro @ev_tuple <| And.intro @ev_tupleT <| And.intro @ev_int <| And.intro @ev_intb <| @ev_sum
def EV3 := And.intro @ev_sum0 <| And.intro @ev_max2 <| And.intro @ev_min2 <| And.intro @ev_sl <| And.intro @ev_slT <| And.intro @ev_slL <| And.intro @ev_slB <| And.intro @ev_divAZ <| And.intro @ev_divZ <| And.intro @ev_onNx <| And.intro @ev_while <| And.intro @ev_eq_li <| And.intro @ev_ne_li <| And.intro @ev_eq_self <| And.intro @ev_ne_self <| And.intro @ev_eq_selfT <| And.intro @ev_ne_selfT <| And.intro @ev_ne_nil <| And.intro @ev_eq_nil <| And.intro @ev_sorted_i <| And.intro @ev_listRg <| And.intro @ev_oListRg <| And.intro @ev_in_ii <| And.intro @ev_thaw <| And.intro @ev_oThaw <| And.intro @ev_flatO <| And.intro @ev_tThaw <| And.intro @ev_otThaw <| And.intro @ev_move <| And.intro @ev_oMove <| And.intro @ev_iEnumG <| And.intro @ev_oEnumG_l <| And.intro @ev_oEnumG_t <| And.intro @ev_gNotB <| And.intro @ev_nD <| And.intro @ev_nL <| And.intro @ev_oNL <| And.intro @ev_xN <| And.intro @ev_nsNil <| And.intro @ev_nsCons <| And.intro @ev_oNs <| And.intro @ev_nDictQ <| And.intro @ev_nDictK <| And.intro @ev_nLst <| And.intro @ev_nTup <| And.intro @ev_toC_d <| And.intro @ev_toC_n <| And.intro @ev_setX <| And.intro @ev_oSetX <| And.intro @ev_setN <| And.intro @ev_oSetN <| And.intro @ev_dropX <| And.intro @ev_oDropX <| And.intro @ev_retX <| And.intro @ev_oRetX <| And.intro @ev_retXN <| And.intro @ev_seq_rx <| And.intro @ev_ifX <| And.intro @ev_oIfX_t <| And.intro @ev_oIfX_f <| And.intro @ev_oTxB <| And.intro @ev_txCmp <| @ev_oTxC
def EV4 := And.intro @ev_txP <| And.intro @ev_txNot <| And.intro @ev_oTxN <| And.intro @ev_pNm <| And.intro @ev_nodeAt <| And.intro @ev_oNode <| And.intro @ev_sub0 <| And.intro @ev_subS <| And.intro @ev_putAt <| And.intro @ev_oPutA <| And.intro @ev_put0 <| And.intro @ev_putS <| And.intro @ev_oTp <| And.intro @ev_rN <| And.intro @ev_cell_own <| And.intro @ev_cell_ro <| And.intro @ev_cell_val <| And.intro @ev_cell_lst <| And.intro @ev_roN <| And.intro @ev_oRo <| And.intro @ev_rF <| And.intro @ev_oRF <| And.intro @ev_rI <| And.intro @ev_oRI <| And.intro @ev_rLeaf <| And.intro @ev_oLeaf <| And.intro @ev_rFlat <| And.intro @ev_rView <| And.intro @ev_flatV1 <| And.intro @ev_flatV1d <| And.intro @ev_eOw <| And.intro @ev_oEow <| And.intro @ev_fldP <| And.intro @ev_ixP <| And.intro @ev_nd1 <| And.intro @ev_nd2 <| And.intro @ev_seq_xc <| And.intro @ev_rKK <| And.intro @ev_iKK <| And.intro @ev_oKK <| And.intro @ev_eLenO <| And.intro @ev_oLenO_l <| And.intro @ev_oLenO <| And.intro @ev_eListK <| And.intro @ev_oListK <| And.intro @ev_trInK <| And.intro @ev_trNinK <| And.intro @ev_raise1 <| And.intro @ev_oE1 <| And.intro @ev_raise2 <| And.intro @ev_oE2 <| And.intro @ev_raise0 <| And.intro @ev_setY <| And.intro @ev_oSetY_ok <| And.intro @ev_oSetY_xc <| And.intro @ev_try <| And.intro @ev_oTry_nx <| And.intro @ev_retPair <| And.intro @ev_oPair_vv <| And.intro @ev_oPair_vo <| And.intro @ev_xIx2 <| And.intro @ev_oIx2 <| @ev_rPl
def EV5 := And.intro @ev_oRPl <| And.intro @ev_forL <| And.intro @ev_oForL <| And.intro @ev_onlyRt <| And.intro @ev_eDn <| And.intro @ev_oDn_l <| And.intro @ev_oDn_d <| And.intro @ev_mpRo <| And.intro @ev_oMpRo <| And.intro @ev_mpNil <| And.intro @ev_runV <| And.intro @ev_eVw <| And.intro @ev_oVw <| And.intro @ev_sumA <| And.intro @ev_sumT <| And.intro @ev_eRlf <| And.intro @ev_oRlf <| And.intro @ev_fvS <| And.intro @ev_oFvS <| And.intro @ev_rNotN <| And.intro @ev_oNotNT_n <| And.intro @ev_oNotNT_x <| And.intro @ev_oNotNT_s <| And.intro @ev_rIsN <| And.intro @ev_oIsNT_n <| And.intro @ev_oIsNT_x <| And.intro @ev_oIsNT_s <| And.intro @ev_txB <| And.intro @ev_oTxV <| And.intro @ev_txAnd <| And.intro @ev_oTxAnd_t <| And.intro @ev_oTxAnd_f <| And.intro @ev_txOr <| And.intro @ev_oTxOr_t <| And.intro @ev_oTxOr_f <| And.intro @ev_setPair <| And.intro @ev_oSetP <| And.intro @ev_xCmp <| And.intro @ev_oXC <| And.intro @ev_fzA <| And.intro @ev_oFzA <| And.intro @ev_tLst <| And.intro @ev_oTLst <| And.intro @ev_fzR <| And.intro @ev_forA <| And.intro @ev_oForA <| And.intro @ev_dropY <| And.intro @ev_oDropY_ok <| And.intro @ev_oDropY_xc <| And.intro @ev_callP <| And.intro @ev_txNotN <| And.intro @ev_oTxNN_n <| And.intro @ev_xOfY <| And.intro @ev_oXOY <| And.intro @ev_ix <| And.intro @ev_ixT <| And.intro @ev_ixB <| @ev_ixBT
end DL
set_option Elab.async false
set_option linter.all false
set_option maxRecDepth 100000
set_option maxHeartbeats 4000000
namespace DL
open PySem PySem.Spec L2
def topS (i : Nat) : Stmt := PySem.Challenge.pw_apartbook_k11_no_books.main.body.getD i (.Pass ⟨0, 0, 0, 0⟩)
abbrev s_NoText_init : Stmt := inClass (topS 2) 0
abbrev s_NoName_init : Stmt := inClass (topS 3) 0
abbrev s_NotPlain_init : Stmt := inClass (topS 4) 0
abbrev s_Broken_init : Stmt := inClass (topS 6) 0
theorem sc_Broken_init : FnScope ["self", "name"] ["self", "name"] (defScope s_Broken_init) := ⟨rfl, rfl, rfl, by decide +kernel, rfl, by decide +kernel, by decide +kernel⟩
abbrev s_NoLine_init : Stmt := inClass (topS 7) 0
abbrev s_NoDeed_init : Stmt := inClass (topS 8) 0
abbrev s_NoRule_init : Stmt := inClass (topS 9) 0
abbrev s_ShortShare_init : Stmt := inClass (topS 11) 0
abbrev s_NoPaper_init : Stmt := inClass (topS 13) 0
abbrev s_value_of : Stmt := topS 17
abbrev N_value_of : List Str := ["form", "values", "many", "value"]
theorem sc_value_of : FnScope N_value_of ["form", "values"] (defScope s_value_of) := ⟨rfl, rfl, rfl, by decide +kernel, rfl, by decide +kernel, by decide +kernel⟩
def b_value_of : List C → Out := (sRet (e2 gAdd (e1 gSum (aCons (eLc [2, 3] (iZipG (e2 gIxS (eV 0) (eC (.int 0))) (eV 1)) (tgT (tgCons (tgN 2) (tgCons (tgN 3) tgNil))) (fun _ => some true) (e2 gMul (eV 2) (eV 3))) aNil)) (e2 gIxS (eV 0) (eC (.int 1)))))
def f_value_of : List D → Option D := runP [.fz, .fz] 4 b_value_of
theorem fe_value_of (x0 x1 : D) : f_value_of [x0, x1] = oRun (b_value_of [.val x0, .val x1, .und, .und]) := (ev_run (ks := [.fz, .fz]) (n := 4) (b := b_value_of) (ds := [x0, x1])).trans (congrArg (fun l => oRun (b_value_of l)) rfl)

abbrev s_is_name : Stmt := topS 20
abbrev N_is_name : List Str := ["text", "sign"]
theorem sc_is_name : FnScope N_is_name ["text"] (defScope s_is_name) := ⟨rfl, rfl, rfl, by decide +kernel, rfl, by decide +kernel, by decide +kernel⟩
def L_is_name_0 : List C → Out := (sIf (tB (e2 gNotInT (eV 1) (eC (.str "abcdefghijklmnopqrstuvwxyz")))) (sRet (eC (.bool false))) sNil)
def b_is_name : List C → Out := (sSeq (sIf (tOrF (tB (e2 gLt (e1 gLen (aCons (eV 0) aNil)) (eC (.int 1)))) (tB (e2 gGt (e1 gLen (aCons (eV 0) aNil)) (eC (.int 10))))) (sRet (eC (.bool false))) sNil)
  (sSeq (sFor (iAny (eV 0)) (tgN 1) L_is_name_0)
  (sRet (eC (.bool true)))))
def f_is_name : List D → Option D := runP [.fz] 2 b_is_name
theorem fe_is_name (x0 : D) : f_is_name [x0] = oRun (b_is_name [.val x0, .und]) := (ev_run (ks := [.fz]) (n := 2) (b := b_is_name) (ds := [x0])).trans (congrArg (fun l => oRun (b_is_name l)) rfl)

abbrev s_spare : Stmt := topS 21
abbrev N_spare : List Str := ["book", "rule", "state"]
theorem sc_spare : FnScope N_spare ["book", "rule", "state"] (defScope s_spare) := ⟨rfl, rfl, rfl, by decide +kernel, rfl, by decide +kernel, by decide +kernel⟩
def b_spare : List C → Out := (sRet (e1 f_value_of (aCons (e3 gSl (e2 gIxS (e2 gIxS (eV 0) (eC (.int 1))) (eV 1)) (pS (eC (.int 1))) pN) (aCons (eV 2) aNil))))
def f_spare : List D → Option D := runP [.fz, .fz, .fz] 3 b_spare
theorem fe_spare (x0 x1 x2 : D) : f_spare [x0, x1, x2] = oRun (b_spare [.val x0, .val x1, .val x2]) := (ev_run (ks := [.fz, .fz, .fz]) (n := 3) (b := b_spare) (ds := [x0, x1, x2])).trans (congrArg (fun l => oRun (b_spare l)) rfl)

abbrev s_check_names : Stmt := topS 22
abbrev N_check_names : List Str := ["things", "seen", "thing"]
theorem sc_check_names : FnScope N_check_names ["things"] (defScope s_check_names) := ⟨rfl, rfl, rfl, by decide +kernel, rfl, by decide +kernel, by decide +kernel⟩
def L_check_names_0 : List C → Out := (sSeq (sIf (tOrF (tNotF (tB (e1 f_is_name (aCons (e2 gIxS (eV 2) (eC (.int 0))) aNil)))) (trInK (e2 gIxS (eV 2) (eC (.int 0))) (rN 1))) (sRaise (fun _ => some ⟨"NoBook", [], []⟩)) sNil)
  (sPutK (pNm 1) (e2 gIxS (eV 2) (eC (.int 0))) (xN (nD (eC (.bool true))))))
def b_check_names : List C → Out := (sSeq (sSetX 1 (xN nDictK))
  (sFor (iAny (eV 0)) (tgN 2) L_check_names_0))
def f_check_names : List T → Option Rz := runMX [false] 3 b_check_names
theorem fe_check_names  (x0 : D) : f_check_names [.d x0] = outMX [false] (b_check_names [.val x0, .und, .und]) := (rfl)

abbrev s_check_book : Stmt := topS 23
abbrev N_check_book : List Str := ["book", "items", "rules", "deeds", "things", "most", "rule", "deed", "starts", "place", "item"]
theorem sc_check_book : FnScope N_check_book ["book"] (defScope s_check_book) := ⟨rfl, rfl, rfl, by decide +kernel, rfl, by decide +kernel, by decide +kernel⟩
def L_check_book_0 : List C → Out := (sIf (tB (e2 gLt (e1 f_spare (aCons (eV 0) (aCons (eV 9) (aCons (eV 8) aNil)))) (eC (.int 0)))) (sRaise (mkE1 "Broken" "name" (e2 gIxS (eV 6) (eC (.int 0))))) sNil)
def L_check_book_1 : List C → Out := (sIf (tOrF (tB (e2 gNe (e1 gLen (aCons (e2 gIxS (eV 7) (eC (.int 3))) aNil)) (e1 gLen (aCons (eV 1) aNil)))) (tB (e2 gGt (e2 gIxS (eV 7) (eC (.int 1))) (e2 gIxS (eV 7) (eC (.int 2)))))) (sRaise (fun _ => some ⟨"NoBook", [], []⟩)) sNil)
def L_check_book_2 : List C → Out := (sIf (tB (e2 gNe (e1 gLen (aCons (e2 gIxS (eV 6) (eC (.int 1))) aNil)) (e1 gLen (aCons (eV 1) aNil)))) (sRaise (fun _ => some ⟨"NoBook", [], []⟩)) sNil)
def L_check_book_3 : List C → Out := (sSeq (sIf (tOrF (tB (e2 gLt (e1 gLen (aCons (eV 4) aNil)) (eC (.int 1)))) (tB (e2 gGt (e1 gLen (aCons (eV 4) aNil)) (eV 5)))) (sRaise (fun _ => some ⟨"NoBook", [], []⟩)) sNil)
  (sDropY (yCallP f_check_names [] (mpRo (eV 4) mpNil))))
def b_check_book : List C → Out := (sSeq (sAsg (tgT (tgCons (tgN 1) (tgCons (tgN 2) (tgCons (tgN 3) tgNil)))) (eV 0))
  (sSeq (sFor (iZipG (eV 0) (eC (.tuple [.int 4, .int 5, .int 6]))) (tgT (tgCons (tgN 4) (tgCons (tgN 5) tgNil))) L_check_book_3)
  (sSeq (sFor (iAny (eV 2)) (tgN 6) L_check_book_2)
  (sSeq (sFor (iAny (eV 3)) (tgN 7) L_check_book_1)
  (sSeq (sSet 8 (e1 gTuple (aCons (eLc [10] (iAny (eV 1)) (tgN 10) (fun _ => some true) (e2 gIxS (eV 10) (eC (.int 1)))) aNil)))
  (sFor (iEnumG (eV 2)) (tgT (tgCons (tgN 9) (tgCons (tgN 6) tgNil))) L_check_book_0))))))
def f_check_book : List T → Option Rz := runMX [false] 11 b_check_book
theorem fe_check_book  (x0 : D) : f_check_book [.d x0] = outMX [false] (b_check_book [.val x0, .und, .und, .und, .und, .und, .und, .und, .und, .und, .und]) := (rfl)

abbrev s_l_at : Stmt := topS 25
abbrev N_l_at : List Str := ["_law_script", "_law_k"]
theorem sc_l_at : FnScope N_l_at ["_law_script", "_law_k"] (defScope s_l_at) := ⟨rfl, rfl, rfl, by decide +kernel, rfl, by decide +kernel, by decide +kernel⟩
def b_l_at : List C → Out := (sSeq (sIf (tB (e2 gLt (eV 1) (e1 gLen (aCons (eB 0) aNil)))) (sRet (eScal (e2 gIxB (eB 0) (eV 1)))) sNil)
  (sRet (e2 gAdd (e2 gMul (eC (.int 19)) (eV 1)) (eC (.int 8)))))
def f_l_at : List D → Option D := runP [.vw, .fz] 2 b_l_at
theorem fe_l_at (x0 x1 : D) : f_l_at [x0, x1] = oRun (b_l_at [.brw x0, .val x1]) := (ev_run (ks := [.vw, .fz]) (n := 2) (b := b_l_at) (ds := [x0, x1])).trans (congrArg (fun l => oRun (b_l_at l)) rfl)

abbrev s_l_mix : Stmt := topS 26
abbrev N_l_mix : List Str := ["_law_number", "_law_place", "_law_part"]
theorem sc_l_mix : FnScope N_l_mix ["_law_number", "_law_place"] (defScope s_l_mix) := ⟨rfl, rfl, rfl, by decide +kernel, rfl, by decide +kernel, by decide +kernel⟩
def b_l_mix : List C → Out := (sSeq (sSet 2 (e2 gModA (e2 gMul (e2 gAdd (e2 gAdd (e2 gModA (eV 0) (eC (.int 2147483629))) (eV 1)) (eC (.int 1))) (e2 gAdd (e2 gMul (e2 gMul (eC (.int 8)) (eV 1)) (eV 1)) (eC (.int 48271)))) (eC (.int 2147483647))))
  (sRet (e2 gModA (e2 gMul (eV 2) (eV 2)) (eC (.int 2147483587)))))
def f_l_mix : List D → Option D := runP [.fz, .fz] 3 b_l_mix
theorem fe_l_mix (x0 x1 : D) : f_l_mix [x0, x1] = oRun (b_l_mix [.val x0, .val x1, .und]) := (ev_run (ks := [.fz, .fz]) (n := 3) (b := b_l_mix) (ds := [x0, x1])).trans (congrArg (fun l => oRun (b_l_mix l)) rfl)

abbrev s_l_draw : Stmt := topS 27
abbrev N_l_draw : List Str := ["_law_script", "_law_k"]
theorem sc_l_draw : FnScope N_l_draw ["_law_script", "_law_k"] (defScope s_l_draw) := ⟨rfl, rfl, rfl, by decide +kernel, rfl, by decide +kernel, by decide +kernel⟩
def b_l_draw : List C → Out := (sRet (e1 f_l_mix (aCons (e1 f_l_at (aCons (eB 0) (aCons (e2 gAdd (eC (.int 1)) (e2 gModA (eV 1) (eC (.int 62)))) aNil))) (aCons (e2 gAdd (eC (.int 100)) (eV 1)) aNil))))
def f_l_draw : List D → Option D := runP [.vw, .fz] 2 b_l_draw
theorem fe_l_draw (x0 x1 : D) : f_l_draw [x0, x1] = oRun (b_l_draw [.brw x0, .val x1]) := (ev_run (ks := [.vw, .fz]) (n := 2) (b := b_l_draw) (ds := [x0, x1])).trans (congrArg (fun l => oRun (b_l_draw l)) rfl)

abbrev s_l_named : Stmt := topS 28
abbrev N_l_named : List Str := ["_law_k", "_law_number", "_law_place"]
theorem sc_l_named : FnScope N_l_named ["_law_k", "_law_number"] (defScope s_l_named) := ⟨rfl, rfl, rfl, by decide +kernel, rfl, by decide +kernel, by decide +kernel⟩
def b_l_named : List C → Out := (sSeq (sIf (tB (e2 gEq (e2 gModA (eV 1) (eC (.int 2))) (eC (.int 0)))) (sRet (e2 gAdd (e2 gMul (e2 gIxS (eC (.str "abcdefg")) (eV 0)) (e2 gAdd (eC (.int 1)) (e2 gModA (e2 gDivA (eV 1) (eC (.int 2))) (eC (.int 9))))) (e2 gIxS (eC (.str "xyz")) (e2 gModA (e2 gDivA (eV 1) (eC (.int 18))) (eC (.int 3)))))) sNil)
  (sSeq (sSet 2 (e2 gModA (e2 gDivA (eV 1) (eC (.int 2))) (eC (.int 10))))
  (sRet (e2 gAdd (e2 gAdd (e2 gMul (eC (.str "m")) (eV 2)) (e2 gIxS (eC (.str "abcdefg")) (eV 0))) (e2 gMul (eC (.str "m")) (e2 gSub (eC (.int 9)) (eV 2)))))))
def f_l_named : List D → Option D := runP [.fz, .fz] 3 b_l_named
theorem fe_l_named (x0 x1 : D) : f_l_named [x0, x1] = oRun (b_l_named [.val x0, .val x1, .und]) := (ev_run (ks := [.fz, .fz]) (n := 3) (b := b_l_named) (ds := [x0, x1])).trans (congrArg (fun l => oRun (b_l_named l)) rfl)

abbrev s_l_wide : Stmt := topS 29
abbrev N_l_wide : List Str := ["_law_script", "_law_k", "_law_most", "_law_number"]
theorem sc_l_wide : FnScope N_l_wide ["_law_script", "_law_k", "_law_most"] (defScope s_l_wide) := ⟨rfl, rfl, rfl, by decide +kernel, rfl, by decide +kernel, by decide +kernel⟩
def b_l_wide : List C → Out := (sSeq (sSet 3 (e1 f_l_draw (aCons (eB 0) (aCons (eV 1) aNil))))
  (sSeq (sIf (tB (e2 gEq (e2 gModA (eV 3) (eC (.int 8))) (eC (.int 0)))) (sRet (e2 gAdd (e2 gSub (e2 gModA (e1 f_l_at (aCons (eB 0) (aCons (e2 gAdd (eC (.int 1)) (e2 gModA (eV 1) (eC (.int 62)))) aNil))) (e2 gSub (e2 gMul (eC (.int 2)) (eV 2)) (eC (.int 1)))) (eV 2)) (eC (.int 1)))) sNil)
  (sRet (e2 gSub (e2 gModA (e2 gDivA (eV 3) (eC (.int 8))) (eC (.int 13))) (eC (.int 6))))))
def f_l_wide : List D → Option D := runP [.vw, .fz, .fz] 4 b_l_wide
theorem fe_l_wide (x0 x1 x2 : D) : f_l_wide [x0, x1, x2] = oRun (b_l_wide [.brw x0, .val x1, .val x2, .und]) := (ev_run (ks := [.vw, .fz, .fz]) (n := 4) (b := b_l_wide) (ds := [x0, x1, x2])).trans (congrArg (fun l => oRun (b_l_wide l)) rfl)

abbrev s_l_items : Stmt := topS 30
abbrev N_l_items : List Str := ["_law_script", "_law_many", "_law_most", "_law_number", "_law_k"]
theorem sc_l_items : FnScope N_l_items ["_law_script", "_law_many", "_law_most"] (defScope s_l_items) := ⟨rfl, rfl, rfl, by decide +kernel, rfl, by decide +kernel, by decide +kernel⟩
def b_l_items : List C → Out := (sSeq (sSet 3 (e1 f_l_draw (aCons (eB 0) (aCons (eC (.int 1)) aNil))))
  (sRet (eLc [4] (iRng1F (eV 1)) (tgN 4) (fun _ => some true) (eTup (aCons (e1 f_l_named (aCons (eV 4) (aCons (eV 3) aNil))) (aCons (e1 f_l_wide (aCons (eB 0) (aCons (e2 gAdd (eC (.int 10)) (eV 4)) (aCons (eV 2) aNil)))) aNil))))))
def f_l_items : List D → Option D := runP [.vw, .fz, .fz] 5 b_l_items
theorem fe_l_items (x0 x1 x2 : D) : f_l_items [x0, x1, x2] = oRun (b_l_items [.brw x0, .val x1, .val x2, .und, .und]) := (ev_run (ks := [.vw, .fz, .fz]) (n := 5) (b := b_l_items) (ds := [x0, x1, x2])).trans (congrArg (fun l => oRun (b_l_items l)) rfl)

abbrev s_l_rules : Stmt := topS 31
abbrev N_l_rules : List Str := ["_law_script", "_law_items_here", "_law_many", "_law_most", "_law_rules_here", "_law_k", "_law_numbers", "_law_rest", "_law_many_times", "_law_item", "_law_j"]
theorem sc_l_rules : FnScope N_l_rules ["_law_script", "_law_items_here", "_law_many", "_law_most"] (defScope s_l_rules) := ⟨rfl, rfl, rfl, by decide +kernel, rfl, by decide +kernel, by decide +kernel⟩
def L_l_rules_0 : List C → Out := (sSet 7 (e2 gSub (eV 7) (e2 gMul (eV 8) (e2 gIxS (eV 9) (eC (.int 1))))))
def L_l_rules_1 : List C → Out := (sSeq (sSet 6 (e1 gTuple (aCons (eLc [10] (iRng1F (e1 gLen (aCons (eV 1) aNil))) (tgN 10) (fun _ => some true) (e1 f_l_wide (aCons (eB 0) (aCons (e2 gAdd (e2 gAdd (eC (.int 20)) (e2 gMul (eC (.int 5)) (eV 5))) (eV 10)) (aCons (eV 3) aNil))))) aNil)))
  (sSeq (sSet 7 (e2 gMul (e2 gModA (e1 f_l_draw (aCons (eB 0) (aCons (e2 gAdd (eC (.int 50)) (eV 5)) aNil))) (eC (.int 30))) (e2 gModA (e1 f_l_draw (aCons (eB 0) (aCons (e2 gAdd (eC (.int 60)) (eV 5)) aNil))) (eC (.int 3)))))
  (sSeq (sFor (iZipG (eV 6) (eV 1)) (tgT (tgCons (tgN 8) (tgCons (tgN 9) tgNil))) L_l_rules_0)
  (sApp 4 (eTup (aCons (e1 f_l_named (aCons (eV 5) (aCons (e1 f_l_draw (aCons (eB 0) (aCons (eC (.int 2)) aNil))) aNil))) (aCons (eV 6) (aCons (eV 7) aNil))))))))
def b_l_rules : List C → Out := (sSeq (sSetL 4 (eLst aNil))
  (sSeq (sFor (iRng1F (eV 2)) (tgN 5) L_l_rules_1)
  (sRetL 4)))
def f_l_rules : List D → Option D := runP [.vw, .fz, .fz, .fz] 11 b_l_rules
theorem fe_l_rules (x0 x1 x2 x3 : D) : f_l_rules [x0, x1, x2, x3] = oRun (b_l_rules [.brw x0, .val x1, .val x2, .val x3, .und, .und, .und, .und, .und, .und, .und]) := (ev_run (ks := [.vw, .fz, .fz, .fz]) (n := 11) (b := b_l_rules) (ds := [x0, x1, x2, x3])).trans (congrArg (fun l => oRun (b_l_rules l)) rfl)

abbrev s_l_deeds : Stmt := topS 32
abbrev N_l_deeds : List Str := ["_law_script", "_law_items_here", "_law_many", "_law_deeds_here", "_law_k", "_law_low", "_law_changes", "_law_j", "_law_some", "_law_one", "_law_high"]
theorem sc_l_deeds : FnScope N_l_deeds ["_law_script", "_law_items_here", "_law_many"] (defScope s_l_deeds) := ⟨rfl, rfl, rfl, by decide +kernel, rfl, by decide +kernel, by decide +kernel⟩
def L_l_deeds_0 : List C → Out := (sSeq (sSet 8 (e2 gModA (e1 f_l_draw (aCons (eB 0) (aCons (e2 gAdd (e2 gAdd (eC (.int 80)) (e2 gMul (eC (.int 5)) (eV 4))) (eV 7)) aNil))) (eC (.int 3))))
  (sSeq (sSet 9 (e2 gMul (e1 f_l_wide (aCons (eB 0) (aCons (e2 gAdd (e2 gAdd (eC (.int 120)) (e2 gMul (eC (.int 5)) (eV 4))) (eV 7)) (aCons (e2 gPow (eC (.int 10)) (eC (.int 23))) aNil)))) (e1 gInt (aCons (e2 gNe (eV 8) (eC (.int 1))) aNil))))
  (sApp 6 (eTup (aCons (eV 9) (aCons (e2 gMul (e1 f_l_wide (aCons (eB 0) (aCons (e2 gAdd (e2 gAdd (eC (.int 160)) (e2 gMul (eC (.int 5)) (eV 4))) (eV 7)) (aCons (e2 gPow (eC (.int 10)) (eC (.int 23))) aNil)))) (e1 gInt (aCons (e2 gEq (eV 8) (eC (.int 2))) aNil))) aNil))))))
def L_l_deeds_1 : List C → Out := (sSeq (sSet 5 (e1 f_l_wide (aCons (eB 0) (aCons (e2 gAdd (eC (.int 70)) (eV 4)) (aCons (e2 gPow (eC (.int 10)) (eC (.int 23))) aNil)))))
  (sSeq (sSetL 6 (eLst aNil))
  (sSeq (sFor (iRng1F (e1 gLen (aCons (eV 1) aNil))) (tgN 7) L_l_deeds_0)
  (sSeq (sSet 10 (e2 gAdd (eV 5) (e2 gModA (e1 f_l_draw (aCons (eB 0) (aCons (e2 gAdd (eC (.int 200)) (eV 4)) aNil))) (eC (.int 9)))))
  (sApp 3 (eTup (aCons (e1 f_l_named (aCons (eV 4) (aCons (e1 f_l_draw (aCons (eB 0) (aCons (eC (.int 3)) aNil))) aNil))) (aCons (eV 5) (aCons (eV 10) (aCons (e1 gTuple (aCons (eL 6) aNil)) aNil))))))))))
def b_l_deeds : List C → Out := (sSeq (sSetL 3 (eLst aNil))
  (sSeq (sFor (iRng1F (eV 2)) (tgN 4) L_l_deeds_1)
  (sRetL 3)))
def f_l_deeds : List D → Option D := runP [.vw, .fz, .fz] 11 b_l_deeds
theorem fe_l_deeds (x0 x1 x2 : D) : f_l_deeds [x0, x1, x2] = oRun (b_l_deeds [.brw x0, .val x1, .val x2, .und, .und, .und, .und, .und, .und, .und, .und]) := (ev_run (ks := [.vw, .fz, .fz]) (n := 11) (b := b_l_deeds) (ds := [x0, x1, x2])).trans (congrArg (fun l => oRun (b_l_deeds l)) rfl)

abbrev s_l_book : Stmt := topS 33
abbrev N_l_book : List Str := ["_law_script", "_law_counts_here", "_law_big", "_law_items_here"]
theorem sc_l_book : FnScope N_l_book ["_law_script", "_law_counts_here"] (defScope s_l_book) := ⟨rfl, rfl, rfl, by decide +kernel, rfl, by decide +kernel, by decide +kernel⟩
def b_l_book : List C → Out := (sSeq (sSet 2 (e2 gModA (e1 f_l_mix (aCons (e1 f_l_at (aCons (eB 0) (aCons (eC (.int 0)) aNil))) (aCons (eC (.int 2)) aNil))) (eC (.int 2))))
  (sSeq (sSet 3 (e1 f_l_items (aCons (eB 0) (aCons (e2 gIxS (eV 1) (eC (.int 0))) (aCons (e2 gIxS (eLst (aCons (eC (.int 7)) (aCons (e2 gPow (eC (.int 10)) (eC (.int 23))) aNil))) (eV 2)) aNil)))))
  (sRet (eTup (aCons (eV 3) (aCons (e1 f_l_rules (aCons (eB 0) (aCons (eV 3) (aCons (e2 gIxS (eV 1) (eC (.int 1))) (aCons (e2 gIxS (eLst (aCons (e2 gPow (eC (.int 10)) (eC (.int 23))) (aCons (eC (.int 7)) aNil))) (eV 2)) aNil))))) (aCons (e1 f_l_deeds (aCons (eB 0) (aCons (eV 3) (aCons (e2 gIxS (eV 1) (eC (.int 2))) aNil)))) aNil)))))))
def f_l_book : List D → Option D := runP [.vw, .fz] 4 b_l_book
theorem fe_l_book (x0 x1 : D) : f_l_book [x0, x1] = oRun (b_l_book [.brw x0, .val x1, .und, .und]) := (ev_run (ks := [.vw, .fz]) (n := 4) (b := b_l_book) (ds := [x0, x1])).trans (congrArg (fun l => oRun (b_l_book l)) rfl)

abbrev s_l_counts : Stmt := topS 34
abbrev N_l_counts : List Str := ["_law_script", "_law_number"]
theorem sc_l_counts : FnScope N_l_counts ["_law_script"] (defScope s_l_counts) := ⟨rfl, rfl, rfl, by decide +kernel, rfl, by decide +kernel, by decide +kernel⟩
def b_l_counts : List C → Out := (sSeq (sSet 1 (e1 f_l_mix (aCons (e1 f_l_at (aCons (eB 0) (aCons (eC (.int 0)) aNil))) (aCons (eC (.int 1)) aNil))))
  (sRet (eLst (aCons (e2 gAdd (eC (.int 1)) (e2 gModA (eV 1) (eC (.int 4)))) (aCons (e2 gAdd (eC (.int 1)) (e2 gModA (e2 gDivA (eV 1) (eC (.int 4))) (eC (.int 5)))) (aCons (e2 gAdd (eC (.int 1)) (e2 gModA (e2 gDivA (eV 1) (eC (.int 20))) (eC (.int 6)))) aNil))))))
def f_l_counts : List D → Option D := runP [.vw] 2 b_l_counts
theorem fe_l_counts (x0 : D) : f_l_counts [x0] = oRun (b_l_counts [.brw x0, .und]) := (ev_run (ks := [.vw]) (n := 2) (b := b_l_counts) (ds := [x0])).trans (congrArg (fun l => oRun (b_l_counts l)) rfl)

abbrev s_l_other_name : Stmt := topS 35
abbrev N_l_other_name : List Str := ["_law_number", "_law_names", "_law_some"]
theorem sc_l_other_name : FnScope N_l_other_name ["_law_number", "_law_names"] (defScope s_l_other_name) := ⟨rfl, rfl, rfl, by decide +kernel, rfl, by decide +kernel, by decide +kernel⟩
def b_l_other_name : List C → Out := (sSeq (sSet 2 (eLst (aCons (eC (.str "")) (aCons (eC (.str "A")) (aCons (eC (.str "abcdefghijk")) (aCons (eC (.str "a1")) (aCons (eC (.str "a b")) (aCons (eC (.str " a")) (aCons (eC (.str "a ")) (aCons (eC (.str "aB")) (aCons (eC (.str "-")) (aCons (eC (.str "abcdefghijklmnopqrst")) (aCons (eC (.str "1")) (aCons (eC (.str "a:")) aNil))))))))))))))
  (sSeq (sIf (tAndF (tB (e2 gEq (e2 gModA (eV 0) (eC (.int 2))) (eC (.int 0)))) (tB (e2 gGt (e1 gLen (aCons (eV 1) aNil)) (eC (.int 1))))) (sRet (e2 gIxS (eV 1) (e2 gModA (e2 gDivA (eV 0) (eC (.int 2))) (e1 gLen (aCons (eV 1) aNil))))) sNil)
  (sRet (e2 gIxS (eV 2) (e2 gModA (e2 gDivA (eV 0) (eC (.int 2))) (eC (.int 12)))))))
def f_l_other_name : List D → Option D := runP [.fz, .fz] 3 b_l_other_name
theorem fe_l_other_name (x0 x1 : D) : f_l_other_name [x0, x1] = oRun (b_l_other_name [.val x0, .val x1, .und]) := (ev_run (ks := [.fz, .fz]) (n := 3) (b := b_l_other_name) (ds := [x0, x1])).trans (congrArg (fun l => oRun (b_l_other_name l)) rfl)

abbrev s_l_renamed : Stmt := topS 36
abbrev N_l_renamed : List Str := ["_law_things", "_law_number", "_law_at_here", "_law_names", "_law_thing", "_law_k"]
theorem sc_l_renamed : FnScope N_l_renamed ["_law_things", "_law_number"] (defScope s_l_renamed) := ⟨rfl, rfl, rfl, by decide +kernel, rfl, by decide +kernel, by decide +kernel⟩
def b_l_renamed : List C → Out := (sSeq (sSet 2 (e2 gModA (eV 1) (e1 gLen (aCons (eV 0) aNil))))
  (sSeq (sSet 3 (e2 gAdd (eLc [5, 4] (iEnumG (eV 0)) (tgT (tgCons (tgN 5) (tgCons (tgN 4) tgNil))) (tB (e2 gNe (eV 5) (eV 2))) (e2 gIxS (eV 4) (eC (.int 0)))) (eLst (aCons (eC (.str "")) aNil))))
  (sSeq (sSet 4 (e2 gAdd (eTup (aCons (e1 f_l_other_name (aCons (e2 gDivA (eV 1) (eC (.int 8))) (aCons (eV 3) aNil))) aNil)) (e3 gSl (e2 gIxS (eV 0) (eV 2)) (pS (eC (.int 1))) pN)))
  (sRet (e2 gAddL (e2 gAdd (e3 gSl (eV 0) pN (pS (eV 2))) (eLst (aCons (eV 4) aNil))) (e3 gSl (eV 0) (pS (e2 gAdd (eV 2) (eC (.int 1)))) pN))))))
def f_l_renamed : List D → Option D := runP [.fz, .fz] 6 b_l_renamed
theorem fe_l_renamed (x0 x1 : D) : f_l_renamed [x0, x1] = oRun (b_l_renamed [.val x0, .val x1, .und, .und, .und, .und]) := (ev_run (ks := [.fz, .fz]) (n := 6) (b := b_l_renamed) (ds := [x0, x1])).trans (congrArg (fun l => oRun (b_l_renamed l)) rfl)

abbrev s_l_resized : Stmt := topS 37
abbrev N_l_resized : List Str := ["_law_numbers", "_law_number", "_law_one"]
theorem sc_l_resized : FnScope N_l_resized ["_law_numbers", "_law_number", "_law_one"] (defScope s_l_resized) := ⟨rfl, rfl, rfl, by decide +kernel, rfl, by decide +kernel, by decide +kernel⟩
def b_l_resized : List C → Out := (sSeq (sIf (tB (e2 gEq (e2 gModA (eV 1) (eC (.int 2))) (eC (.int 0)))) (sRet (e3 gSl (eV 0) (pS (eC (.int 1))) pN)) sNil)
  (sRet (e2 gAdd (eV 0) (eTup (aCons (eV 2) aNil)))))
def f_l_resized : List D → Option D := runP [.fz, .fz, .fz] 3 b_l_resized
theorem fe_l_resized (x0 x1 x2 : D) : f_l_resized [x0, x1, x2] = oRun (b_l_resized [.val x0, .val x1, .val x2]) := (ev_run (ks := [.fz, .fz, .fz]) (n := 3) (b := b_l_resized) (ds := [x0, x1, x2])).trans (congrArg (fun l => oRun (b_l_resized l)) rfl)

abbrev s_l_wrong : Stmt := topS 38
abbrev N_l_wrong : List Str := ["_law_script", "_law_book_here", "_law_number", "_law_way", "_law_lists", "_law_place", "_law_thing", "_law_k", "_law_name", "_law_counts_here", "_law_at_here", "_law_rule", "_law_deed"]
theorem sc_l_wrong : FnScope N_l_wrong ["_law_script", "_law_book_here", "_law_number"] (defScope s_l_wrong) := ⟨rfl, rfl, rfl, by decide +kernel, rfl, by decide +kernel, by decide +kernel⟩
def L_l_wrong_0 : List C → Out := (sSeq (sSet 8 (e2 gAdd (e2 gAdd (eC (.str "z")) (e2 gIxS (eC (.str "abcdefghijklmnopqrstuvwxyz")) (e2 gModA (eV 7) (eC (.int 26))))) (e2 gIxS (eC (.str "pq")) (e2 gDivA (eV 7) (eC (.int 26))))))
  (sDropX (xAppP (pI (eV 5) (pNm 4)) (nD (e2 gAdd (eTup (aCons (eV 8) aNil)) (e3 gSl (eV 6) (pS (eC (.int 1))) pN))))))
def b_l_wrong : List C → Out := (sSeq (sSet 3 (e2 gModA (eV 2) (eC (.int 8))))
  (sSeq (sSet 2 (e2 gDivA (eV 2) (eC (.int 8))))
  (sSeq (sSetX 4 (xN (nLst (nsCons (nL (e1 gList (aCons (e2 gIxS (eV 1) (eC (.int 0))) aNil))) (nsCons (nL (e1 gList (aCons (e2 gIxS (eV 1) (eC (.int 1))) aNil))) (nsCons (nL (e1 gList (aCons (e2 gIxS (eV 1) (eC (.int 2))) aNil))) nsNil))))))
  (sSeq (sSet 5 (e2 gModA (eV 2) (eC (.int 3))))
  (sSeq (sIf (tB (e2 gEq (eV 3) (eC (.int 0)))) (sIxP (pNm 4) (eV 5) (xN (nL (eLst aNil)))) (sIf (tAndF (tB (e2 gEq (eV 3) (eC (.int 1)))) (tAndF (tB (e2 gGt (eV 5) (eC (.int 0)))) (tB (e2 gEq (e2 gModA (e2 gDivA (eV 2) (eC (.int 3))) (eC (.int 2))) (eC (.int 0)))))) (sSeq (sSet 6 (rLeaf (rI (eC (.int 0)) (rI (eV 5) (rN 4)))))
  (sSeq (sFor (iRng1F (e2 gAdd (eC (.int 7)) (e2 gModA (e2 gDivA (eV 2) (eC (.int 8))) (eC (.int 30))))) (tgN 7) L_l_wrong_0)
  (sIxP (pNm 4) (eV 5) (xN (nL (eFvT 4 (e3 gSlL (e2 gIxS (eV 4) (eV 5)) (pS (eNeg (eC (.int 40)))) pN))))))) (sIf (tB (e2 gEq (eV 3) (eC (.int 1)))) (sSeq (sSetL 9 (e1 f_l_counts (aCons (eVw 0) aNil)))
  (sSeq (sSetIx 9 (eV 5) (e2 gIxS (eLst (aCons (eC (.int 5)) (aCons (eC (.int 6)) (aCons (eC (.int 7)) aNil)))) (eV 5)))
  (sFz 9 (sRetX (xN (nD (e1 f_l_book (aCons (eVw 0) (aCons (eV 9) aNil))))))))) (sIf (tB (e2 gLt (eV 3) (eC (.int 5)))) (sIxP (pNm 4) (eV 5) (xN (nL (eFvT 4 (e1 f_l_renamed (aCons (e2 gIxS (eV 4) (eV 5)) (aCons (e2 gDivA (eV 2) (eC (.int 3))) aNil))))))) (sIf (tB (e2 gEq (eV 3) (eC (.int 5)))) (sSeq (sSet 10 (e2 gModA (e2 gDivA (eV 2) (eC (.int 3))) (e1 gLen (aCons (e2 gIxS (eV 1) (eC (.int 1))) aNil))))
  (sSeq (sSet 11 (e2 gIxS (e2 gIxS (eV 1) (eC (.int 1))) (eV 10)))
  (sIxP (pI (eC (.int 1)) (pNm 4)) (eV 10) (xN (nD (eTup (aCons (e2 gIxS (eV 11) (eC (.int 0))) (aCons (e1 f_l_resized (aCons (e2 gIxS (eV 11) (eC (.int 1))) (aCons (e2 gDivA (eV 2) (eC (.int 64))) (aCons (eC (.int 0)) aNil)))) (aCons (e2 gIxS (eV 11) (eC (.int 2))) aNil))))))))) (sSeq (sSet 10 (e2 gModA (e2 gDivA (eV 2) (eC (.int 3))) (e1 gLen (aCons (e2 gIxS (eV 1) (eC (.int 2))) aNil))))
  (sSeq (sSet 12 (e2 gIxS (e2 gIxS (eV 1) (eC (.int 2))) (eV 10)))
  (sSeq (sIxP (pI (eC (.int 2)) (pNm 4)) (eV 10) (xN (nD (eTup (aCons (e2 gIxS (eV 12) (eC (.int 0))) (aCons (e2 gAdd (e2 gAdd (e2 gIxS (eV 12) (eC (.int 2))) (eC (.int 1))) (e2 gModA (e2 gDivA (eV 2) (eC (.int 64))) (eC (.int 3)))) (aCons (e2 gIxS (eV 12) (eC (.int 2))) (aCons (e2 gIxS (eV 12) (eC (.int 3))) aNil))))))))
  (sIf (tB (e2 gEq (eV 3) (eC (.int 6)))) (sIxP (pI (eC (.int 2)) (pNm 4)) (eV 10) (xN (nD (e2 gAdd (e3 gSl (eV 12) pN (pS (eC (.int 3)))) (eTup (aCons (e1 f_l_resized (aCons (e2 gIxS (eV 12) (eC (.int 3))) (aCons (e2 gDivA (eV 2) (eC (.int 64))) (aCons (eTup (aCons (eC (.int 0)) (aCons (eC (.int 0)) aNil))) aNil)))) aNil)))))) sNil)))))))))
  (sFzT 4 (sRetX (xN (nD (eTup (aCons (e2 gIxS (eV 4) (eC (.int 0))) (aCons (e2 gIxS (eV 4) (eC (.int 1))) (aCons (e2 gIxS (eV 4) (eC (.int 2))) aNil)))))))))))))
def f_l_wrong : List T → Option (List T × T) := runM [false, false, false] 13 b_l_wrong
theorem fe_l_wrong  (u0 : T) (x1 : D) (x2 : D) : f_l_wrong [u0, .d x1, .d x2] = outM [false, false, false] (b_l_wrong [roC false u0, .val x1, .val x2, .und, .und, .und, .und, .und, .und, .und, .und, .und, .und]) := (rfl)

abbrev s_l_broken : Stmt := topS 39
abbrev N_l_broken : List Str := ["_law_book_here", "_law_number", "_law_rules_here", "_law_at_here"]
theorem sc_l_broken : FnScope N_l_broken ["_law_book_here", "_law_number"] (defScope s_l_broken) := ⟨rfl, rfl, rfl, by decide +kernel, rfl, by decide +kernel, by decide +kernel⟩
def b_l_broken : List C → Out := (sSeq (sSetL 2 (e1 gList (aCons (e2 gIxS (eV 0) (eC (.int 1))) aNil)))
  (sSeq (sIf (tAndF (tB (e2 gNe (eL 2) (eLst aNil))) (tB (e2 gEq (e2 gModA (eV 1) (eC (.int 2))) (eC (.int 0))))) (sSeq (sSet 3 (e2 gModA (e2 gDivA (eV 1) (eC (.int 2))) (e1 gLen (aCons (eL 2) aNil))))
  (sSetIx 2 (eV 3) (eTup (aCons (e2 gIxS (e2 gIxS (eL 2) (eV 3)) (eC (.int 0))) (aCons (e2 gIxS (e2 gIxS (eL 2) (eV 3)) (eC (.int 1))) (aCons (e2 gSub (e2 gIxS (e2 gIxS (eL 2) (eV 3)) (eC (.int 2))) (e2 gPow (eC (.int 10)) (eC (.int 29)))) aNil)))))) sNil)
  (sFz 2 (sRet (eTup (aCons (e2 gIxS (eV 0) (eC (.int 0))) (aCons (eV 2) (aCons (e2 gIxS (eV 0) (eC (.int 2))) aNil))))))))
def f_l_broken : List D → Option D := runP [.fz, .fz] 4 b_l_broken
theorem fe_l_broken (x0 x1 : D) : f_l_broken [x0, x1] = oRun (b_l_broken [.val x0, .val x1, .und, .und]) := (ev_run (ks := [.fz, .fz]) (n := 4) (b := b_l_broken) (ds := [x0, x1])).trans (congrArg (fun l => oRun (b_l_broken l)) rfl)

abbrev s_l_refused : Stmt := topS 40
abbrev N_l_refused : List Str := ["_law_book_here", "_law_kept", "e"]
theorem sc_l_refused : FnScope N_l_refused ["_law_book_here"] (defScope s_l_refused) := ⟨rfl, rfl, rfl, by decide +kernel, rfl, by decide +kernel, by decide +kernel⟩
def b_l_refused : List C → Out := (sSeq (sSetX 1 (xN (nD (eC .none))))
  (sSeq (sTry ["NoText", "NoName", "NotPlain", "NoBook", "Broken", "NoLine", "NoDeed", "NoRule", "OutOfRange", "ShortShare", "Folded", "NoPaper"] 2 1 (sDropY (yCallP f_check_book [] (mpRo (eV 0) mpNil))))
  (sSeq (sIf (tOrF (tNotF (tB (eIsX ["NoBook"] ["NoText", "NoName", "NotPlain", "Broken", "NoLine", "NoDeed", "NoRule", "OutOfRange", "ShortShare", "Folded", "NoPaper"] (rN 1)))) (tNotF (tB (eIsX ["NoText", "NoName", "NotPlain", "NoBook", "Broken", "NoLine", "NoDeed", "NoRule", "OutOfRange", "ShortShare", "Folded", "NoPaper"] [] (rN 1))))) (sRetX (xN (nD (eC (.bool false))))) sNil)
  (sSeq (sIf (tB (eIsX ["NoText", "NoName", "Broken", "NoLine", "NoDeed", "NoRule", "Folded", "NoPaper"] ["NotPlain", "NoBook", "OutOfRange", "ShortShare"] (rN 1))) (sRetX (xN (nD (eC (.bool false))))) sNil)
  (sRetX (xN (nD (eNot (eIsX ["NotPlain", "OutOfRange", "ShortShare"] ["NoText", "NoName", "NoBook", "Broken", "NoLine", "NoDeed", "NoRule", "Folded", "NoPaper"] (rN 1))))))))))
def f_l_refused : List T → Option T := runT 3 b_l_refused
theorem fe_l_refused  (x0 : D) : f_l_refused [.d x0] = outT (b_l_refused [.val x0, .und, .und]) := (rfl)

abbrev s_law : Stmt := topS 41
abbrev N_law : List Str := ["_law_script", "_law_book_here", "_law_handed", "_law_wrong_here"]
theorem sc_law : FnScope N_law ["_law_script"] (defScope s_law) := ⟨rfl, rfl, rfl, by decide +kernel, rfl, by decide +kernel, by decide +kernel⟩
def b_law : List C → Out := (sSeq (sSet 1 (e1 f_l_book (aCons (eVw 0) (aCons (e1 f_l_counts (aCons (eVw 0) aNil)) aNil))))
  (sSeq (sSet 2 (eTup (aCons (e1 gList (aCons (e2 gIxS (eV 1) (eC (.int 0))) aNil)) (aCons (e1 gList (aCons (e2 gIxS (eV 1) (eC (.int 1))) aNil)) (aCons (e1 gList (aCons (e2 gIxS (eV 1) (eC (.int 2))) aNil)) aNil)))))
  (sSeq (sIfX (txOr (txNotN (xOfY (yCallP f_check_book [] (mpRo (eV 2) mpNil)))) (txP (tB (e2 gNe (eV 2) (eV 1))))) (sRet (eC (.bool false))) sNil)
  (sSeq (sSet 3 (e1 f_l_broken (aCons (rLeaf (nCallM f_l_wrong (mpVw 0 (mpRo (eV 1) (mpRo (e1 f_l_mix (aCons (e1 f_l_at (aCons (eVw 0) (aCons (eC (.int 0)) aNil))) (aCons (eC (.int 5)) aNil))) mpNil))))) (aCons (e1 f_l_mix (aCons (e1 f_l_at (aCons (eVw 0) (aCons (eC (.int 0)) aNil))) (aCons (eC (.int 6)) aNil))) aNil))))
  (sSeq (sSet 2 (eTup (aCons (e1 gList (aCons (e2 gIxS (eV 3) (eC (.int 0))) aNil)) (aCons (e1 gList (aCons (e2 gIxS (eV 3) (eC (.int 1))) aNil)) (aCons (e1 gList (aCons (e2 gIxS (eV 3) (eC (.int 2))) aNil)) aNil)))))
  (sRet (eAnd (rLeaf (nCall f_l_refused (nsCons (nD (eV 2)) nsNil))) (eAnd (rLeaf (nCall f_l_refused (nsCons (nD (eV 2)) nsNil))) (e2 gEq (eV 2) (eV 3))))))))))
def f_law : List Int → Option D := runV 4 b_law
theorem fe_law (ns : List Int) : f_law ns = oRun (b_law [.ro true (.n .v ((ns.map PyData.int).map .d)), .und, .und, .und]) := (ev_runV (N := 4) (b := b_law) (ns := ns)).trans (congrArg (fun l => oRun (b_law l)) rfl)
end DL
set_option Elab.async false
set_option linter.all false
namespace DL.Frac
structure Ineq where
  co : List Int
  rest : Int
  str : Bool
def tb : List (Int × (Int × Int)) → Int × Int → Int × Int
  | [], r => r
  | (n, p) :: l, r => tb l (r.1 * p.2 + n * p.1 * r.2, r.2 * p.2)
def hv (t : Int) (s : Bool) : Bool := decide (0 < t) || (decide (t = 0) && !s)
def su (l : List (Ineq × Int)) (p : Nat) : Int := (l.map fun a => a.2 * a.1.co.getD p 0).sum
def re (l : List (Ineq × Int)) : Int := (l.map fun a => a.2 * a.1.rest).sum
def st (l : List (Ineq × Int)) : Bool := l.any fun a => decide (0 < a.2) && a.1.str
theorem sum_snoc (l : List Int) (x : Int) : (l ++ [x]).sum = l.sum + x := by rw [List.sum_append]; simp
def fin (qs : List Ineq) (u : Nat) (ws : List Int) : Bool :=
  decide (ws.length = qs.length) && (ws.all fun w => decide (0 ≤ w)) && ((List.range u).all fun p => decide (su (qs.zip ws) p = 0)) && (decide (re (qs.zip ws) < 0) || (decide (re (qs.zip ws) = 0) && st (qs.zip ws)))
end DL.Frac
set_option Elab.async false
set_option linter.all false
namespace DL.Fm
open DL.Frac (Ineq su re st)
def rv (p : Int × Int) : Rat := (p.1 : Rat) / (p.2 : Rat)
def Red (p : Int × Int) : Prop := 0 < p.2 ∧ Int.gcd p.1 p.2 = 1
def hold (v : Rat) (s : Bool) : Prop := 0 < v ∨ (v = 0 ∧ s = false)
abbrev Bd := Option (Rat × Bool)
def lowOk (lo : Bd) (x : Rat) : Prop := ∀ l t, lo = some (l, t) → l < x ∨ (l = x ∧ t = false)
def hiOk (hi : Bd) (x : Rat) : Prop := ∀ l t, hi = some (l, t) → x < l ∨ (x = l ∧ t = false)
def pick (lo hi : Bd) : Rat := match lo, hi with
  | none, none => 0
  | none, some (h, t) => h + -(if t = true then 1 else 0)
  | some (l, t), none => l + (if t = true then 1 else 0)
  | some (l, t), some (h, t') => if t = false then l else if t' = false then h else (l + h) / 2
structure Row where
  co : List Int
  rest : Int
  str : Bool
  ws : List Int
def vt (co : List Int) (rest : Int) (pt : Nat → Rat) : Nat → Nat → Rat
  | 0, _ => (rest : Rat)
  | n + 1, k => (co.getD k 0 : Rat) * pt k + vt co rest pt n (k + 1)
def hd (r : Row) (pt : Nat → Rat) (n k : Nat) : Prop := hold (vt r.co r.rest pt n k) r.str
def lowS (lo : Bd) (b : Rat × Bool) : Bd := match lo with
  | none => some b
  | some (l, t) => if l < b.1 ∨ (l = b.1 ∧ b.2 = true) then some b else some (l, t)
def hiS (hi : Bd) (b : Rat × Bool) : Bd := match hi with
  | none => some b
  | some (l, t) => if b.1 < l ∨ (l = b.1 ∧ b.2 = true) then some b else some (l, t)
def LowInv (bs : List (Rat × Bool)) (lo : Bd) : Prop := (∀ b ∈ bs, ∃ l t, lo = some (l, t) ∧ (b.1 < l ∨ (b.1 = l ∧ (b.2 = true → t = true)))) ∧ ∀ l t, lo = some (l, t) → (l, t) ∈ bs
def HiInv (bs : List (Rat × Bool)) (hi : Bd) : Prop := (∀ b ∈ bs, ∃ l t, hi = some (l, t) ∧ (l < b.1 ∨ (b.1 = l ∧ (b.2 = true → t = true)))) ∧ ∀ l t, hi = some (l, t) → (l, t) ∈ bs
abbrev Ln := Rat × Rat × Bool
def bof (r : Ln) : Rat × Bool := (-r.2.1 / r.1, r.2.2)
def mix (a b : Int) (xs ys : List Int) : List Int := (xs.zip ys).map fun p => b * p.1 + a * p.2
def comb (r r' : Row) (p : Nat) : Row := ⟨mix (r.co.getD p 0) (-(r'.co.getD p 0)) r.co r'.co, -(r'.co.getD p 0) * r.rest + r.co.getD p 0 * r'.rest, r.str || r'.str, mix (r.co.getD p 0) (-(r'.co.getD p 0)) r.ws r'.ws⟩
def lessR (g : Int) (r : Row) : Row := ⟨r.co.map (· / g), r.rest / g, r.str, r.ws.map (· / g)⟩
def Dv (g : Int) (r : Row) : Prop := 0 < g ∧ (∀ c ∈ r.co, g ∣ c) ∧ g ∣ r.rest ∧ ∀ w ∈ r.ws, g ∣ w
def MetOf (r r' : Row) (p : Nat) (row : Row) : Prop := ∃ g, Dv g (comb r r' p) ∧ row = lessR g (comb r r' p)
theorem mix_len {a b : Int} {xs ys : List Int} (h : xs.length = ys.length) : (mix a b xs ys).length = xs.length := by
  unfold mix; rw [List.length_map, List.length_zip]; omega
theorem mix_getD {a b : Int} : ∀ {xs ys : List Int} (q : Nat), xs.length = ys.length → (mix a b xs ys).getD q 0 = b * xs.getD q 0 + a * ys.getD q 0
  | [], [], q, _ => by simp [mix]
  | x :: xs, y :: ys, 0, _ => by simp [mix]
  | x :: xs, y :: ys, q + 1, h => by
    have := mix_getD (a := a) (b := b) (xs := xs) (ys := ys) q (by simpa using h)
    simpa [mix] using this
  | [], _ :: _, _, h => by simp at h
  | _ :: _, [], _, h => by simp at h
theorem div_getD {g : Int} : ∀ {xs : List Int} (q : Nat), (∀ x ∈ xs, g ∣ x) → g * (xs.map (· / g)).getD q 0 = xs.getD q 0
  | [], q, _ => by simp
  | x :: xs, 0, h => by
    have := Int.mul_ediv_cancel' (h x List.mem_cons_self)
    simpa using this
  | x :: xs, q + 1, h => by
    have := div_getD (xs := xs) q fun y hy => h y (List.mem_cons_of_mem _ hy)
    simpa using this
end DL.Fm
set_option Elab.async false
set_option linter.all false
namespace DL.Fm
open DL.Frac (Ineq su re st)
def lf (f : Ineq → Int) (l : List (Ineq × Int)) : Int := (l.map fun a => a.2 * f a.1).sum
theorem su_lf (l : List (Ineq × Int)) (p : Nat) : su l p = lf (fun q => q.co.getD p 0) l := rfl
theorem re_lf (l : List (Ineq × Int)) : re l = lf (fun q => q.rest) l := rfl
theorem lf_cons (f : Ineq → Int) (q : Ineq) (w : Int) (l : List (Ineq × Int)) : lf f ((q, w) :: l) = w * f q + lf f l := by unfold lf; simp
theorem lf_mix (f : Ineq → Int) (a b : Int) : ∀ (qs : List Ineq) (ws ws' : List Int), ws.length = qs.length → ws'.length = qs.length → lf f (qs.zip (mix a b ws ws')) = b * lf f (qs.zip ws) + a * lf f (qs.zip ws')
  | [], _, _, _, _ => by simp [lf]
  | q :: qs, [], _, h, _ => by simp at h
  | q :: qs, _ :: _, [], _, h => by simp at h
  | q :: qs, w :: ws, w' :: ws', h, h' => by
    have ih := lf_mix f a b qs ws ws' (by simpa using h) (by simpa using h')
    have e : mix a b (w :: ws) (w' :: ws') = (b * w + a * w') :: mix a b ws ws' := rfl
    rw [e, List.zip_cons_cons, List.zip_cons_cons, List.zip_cons_cons, lf_cons, lf_cons, lf_cons, ih]
    rw [Int.add_mul, Int.mul_add, Int.mul_add, Int.mul_assoc, Int.mul_assoc]
    omega
theorem lf_div (f : Ineq → Int) (g : Int) : ∀ (qs : List Ineq) (ws : List Int), (∀ w ∈ ws, g ∣ w) → g * lf f (qs.zip (ws.map (· / g))) = lf f (qs.zip ws)
  | [], _, _ => by simp [lf]
  | q :: qs, [], _ => by simp [lf]
  | q :: qs, w :: ws, h => by
    have ih := lf_div f g qs ws fun x hx => h x (List.mem_cons_of_mem _ hx)
    have e := Int.mul_ediv_cancel' (h w List.mem_cons_self)
    rw [List.map_cons, List.zip_cons_cons, List.zip_cons_cons, lf_cons, lf_cons, Int.mul_add, ih, ← Int.mul_assoc, e]
theorem st_mix {a b : Int} (ha : 0 < a) (hb : 0 < b) : ∀ (qs : List Ineq) (ws ws' : List Int), ws.length = qs.length → ws'.length = qs.length → (∀ w ∈ ws, 0 ≤ w) → (∀ w ∈ ws', 0 ≤ w) → st (qs.zip (mix a b ws ws')) = (st (qs.zip ws) || st (qs.zip ws'))
  | [], _, _, _, _, _, _ => by simp [st]
  | q :: qs, [], _, h, _, _, _ => by simp at h
  | q :: qs, _ :: _, [], _, h, _, _ => by simp at h
  | q :: qs, w :: ws, w' :: ws', h, h', p, p' => by
    have ih := st_mix ha hb qs ws ws' (by simpa using h) (by simpa using h') (fun x hx => p x (List.mem_cons_of_mem _ hx)) (fun x hx => p' x (List.mem_cons_of_mem _ hx))
    have e : mix a b (w :: ws) (w' :: ws') = (b * w + a * w') :: mix a b ws ws' := rfl
    have w0 := p w List.mem_cons_self
    have w1 := p' w' List.mem_cons_self
    have b0 : 0 ≤ b * w := Int.mul_nonneg (by omega) w0
    have b1 : 0 ≤ a * w' := Int.mul_nonneg (by omega) w1
    have key : (0 < b * w + a * w') ↔ (0 < w ∨ 0 < w') := by
      constructor
      · intro h
        by_cases c : 0 < w
        · exact .inl c
        · right
          have : w = 0 := by omega
          rw [this, Int.mul_zero] at h
          exact Int.pos_of_mul_pos_right (by omega : 0 < a * w') ha
      · rintro (h | h)
        · have := Int.mul_pos hb h; omega
        · have := Int.mul_pos ha h; omega
    unfold st at ih ⊢
    rw [e, List.zip_cons_cons, List.zip_cons_cons, List.zip_cons_cons, List.any_cons, List.any_cons, List.any_cons, ih]
    dsimp only
    have kd : decide (0 < b * w + a * w') = (decide (0 < w) || decide (0 < w')) := by
      rw [Bool.eq_iff_iff, Bool.or_eq_true, decide_eq_true_eq, decide_eq_true_eq, decide_eq_true_eq]; exact key
    rw [kd]
    by_cases c1 : 0 < w <;> by_cases c2 : 0 < w' <;> cases q.str <;> simp [c1, c2]
theorem st_div {g : Int} (hg : 0 < g) : ∀ (qs : List Ineq) (ws : List Int), (∀ w ∈ ws, g ∣ w) → st (qs.zip (ws.map (· / g))) = st (qs.zip ws)
  | [], _, _ => by simp [st]
  | q :: qs, [], _ => by simp [st]
  | q :: qs, w :: ws, h => by
    have ih := st_div hg qs ws fun x hx => h x (List.mem_cons_of_mem _ hx)
    have e := Int.mul_ediv_cancel' (h w List.mem_cons_self)
    have key : (0 < w / g) ↔ 0 < w := by
      constructor
      · intro h; rw [← e]; exact Int.mul_pos hg h
      · intro h; rw [← e] at h; exact Int.pos_of_mul_pos_right h hg
    unfold st at ih ⊢
    rw [List.map_cons, List.zip_cons_cons, List.zip_cons_cons, List.any_cons, List.any_cons, ih]
    dsimp only
    rw [decide_eq_decide.mpr key]
structure IsC (qs : List Ineq) (u : Nat) (r : Row) : Prop where
  wl : r.ws.length = qs.length
  wn : ∀ w ∈ r.ws, 0 ≤ w
  wp : ∃ w ∈ r.ws, 0 < w
  cl : r.co.length = u
  cs : ∀ q, q < u → r.co.getD q 0 = su (qs.zip r.ws) q
  rs : r.rest = re (qs.zip r.ws)
  ss : r.str = st (qs.zip r.ws)
theorem IsC.comb {qs : List Ineq} {u : Nat} {r r' : Row} {p : Nat} (h : IsC qs u r) (h' : IsC qs u r') (hp : 0 < r.co.getD p 0) (hn : r'.co.getD p 0 < 0) : IsC qs u (comb r r' p) where
  wl := (mix_len (h.wl.trans h'.wl.symm)).trans h.wl
  wn := fun w hw => by
    obtain ⟨x, hx, rfl⟩ := List.mem_map.mp hw
    have mm := List.of_mem_zip hx
    have a := Int.mul_nonneg (show 0 ≤ -(r'.co.getD p 0) by omega) (h.wn _ mm.1)
    have b := Int.mul_nonneg (show 0 ≤ r.co.getD p 0 by omega) (h'.wn _ mm.2)
    omega
  wp := by
    obtain ⟨w, hw, w0⟩ := h.wp
    obtain ⟨i, hi, e⟩ := List.mem_iff_getElem.mp hw
    have hi' : i < r'.ws.length := by rw [h'.wl, ← h.wl]; exact hi
    refine ⟨-(r'.co.getD p 0) * w + r.co.getD p 0 * r'.ws[i], List.mem_map.mpr ⟨(w, r'.ws[i]), ?_, rfl⟩, ?_⟩
    · refine List.mem_iff_getElem.mpr ⟨i, by rw [List.length_zip]; omega, ?_⟩
      rw [List.getElem_zip, e]
    · have a := Int.mul_pos (show 0 < -(r'.co.getD p 0) by omega) w0
      have b := Int.mul_nonneg (show 0 ≤ r.co.getD p 0 by omega) (h'.wn _ (List.getElem_mem hi'))
      omega
  cl := (mix_len (h.cl.trans h'.cl.symm)).trans h.cl
  cs := fun q hq => by
    show (mix _ _ _ _).getD q 0 = su (qs.zip (mix _ _ _ _)) q
    rw [mix_getD q (h.cl.trans h'.cl.symm), su_lf, lf_mix _ _ _ _ _ _ h.wl h'.wl, h.cs q hq, h'.cs q hq]; rfl
  rs := by
    show -(r'.co.getD p 0) * r.rest + r.co.getD p 0 * r'.rest = re (qs.zip (mix _ _ _ _))
    rw [re_lf, lf_mix _ _ _ _ _ _ h.wl h'.wl, h.rs, h'.rs]; rfl
  ss := by
    show (r.str || r'.str) = st (qs.zip (mix _ _ _ _))
    rw [st_mix hp (by omega) _ _ _ h.wl h'.wl h.wn h'.wn, h.ss, h'.ss]
theorem IsC.less {qs : List Ineq} {u : Nat} {r : Row} {g : Int} (hg : Dv g r) (h : IsC qs u r) : IsC qs u (lessR g r) where
  wl := (List.length_map _).trans h.wl
  wn := fun w hw => by
    obtain ⟨x, hx, rfl⟩ := List.mem_map.mp hw
    exact Int.ediv_nonneg (h.wn x hx) (by have := hg.1; omega)
  wp := by
    obtain ⟨w, hw, w0⟩ := h.wp
    refine ⟨w / g, List.mem_map.mpr ⟨w, hw, rfl⟩, ?_⟩
    have e := Int.mul_ediv_cancel' (hg.2.2.2 w hw)
    rw [← e] at w0
    exact Int.pos_of_mul_pos_right w0 hg.1
  cl := (List.length_map _).trans h.cl
  cs := fun q hq => by
    have a : g * (lessR g r).co.getD q 0 = r.co.getD q 0 := div_getD q hg.2.1
    have b := lf_div (fun x => x.co.getD q 0) g qs r.ws hg.2.2.2
    rw [h.cs q hq, su_lf, ← b] at a
    exact Int.eq_of_mul_eq_mul_left (by have := hg.1; omega) a
  rs := by
    have a : g * (r.rest / g) = r.rest := Int.mul_ediv_cancel' hg.2.2.1
    have b := lf_div (fun x => x.rest) g qs r.ws hg.2.2.2
    rw [h.rs, re_lf, ← b] at a
    show r.rest / g = _
    rw [h.rs, re_lf, ← b]
    exact Int.eq_of_mul_eq_mul_left (by have := hg.1; omega) a
  ss := by
    show r.str = _
    rw [h.ss]
    exact (st_div hg.1 qs r.ws hg.2.2.2).symm
def SzR (k : Nat) (r : Row) : Prop := (∀ c ∈ r.co, Sz k c) ∧ Sz k r.rest ∧ ∀ w ∈ r.ws, Sz k w
theorem sz_getD {k : Nat} {l : List Int} (h : ∀ c ∈ l, Sz k c) (p : Nat) : Sz k (l.getD p 0) := by
  rw [List.getD_eq_getElem?_getD]
  by_cases hp : p < l.length
  · rw [List.getElem?_eq_getElem hp]; exact h _ (List.getElem_mem hp)
  · rw [List.getElem?_eq_none (by omega)]
    show (0 : Int).natAbs < _
    exact Nat.pow_pos (by decide)
theorem Sz.neg {k : Nat} {i : Int} (h : Sz k i) : Sz k (-i) := by
  unfold Sz at *; rw [Int.natAbs_neg]; exact h
theorem mix_sz {k : Nat} {a b : Int} {xs ys : List Int} (ha : Sz k a) (hb : Sz k b) (hx : ∀ x ∈ xs, Sz k x) (hy : ∀ y ∈ ys, Sz k y) : ∀ z ∈ mix a b xs ys, Sz (k + k + 1) z := fun z hz => by
  obtain ⟨x, hx', rfl⟩ := List.mem_map.mp hz
  have mm := List.of_mem_zip hx'
  exact (hb.mul (hx _ mm.1)).add (ha.mul (hy _ mm.2))
theorem SzR.comb {k : Nat} {r r' : Row} {p : Nat} (h : SzR k r) (h' : SzR k r') : SzR (k + k + 1) (comb r r' p) :=
  have a := sz_getD h.1 p
  have b := Sz.neg (sz_getD h'.1 p)
  ⟨mix_sz a b h.1 h'.1, (b.mul h.2.1).add (a.mul h'.2.1), mix_sz a b h.2.2 h'.2.2⟩
theorem div_le {g x : Int} (hg : 0 < g) (h : g ∣ x) : (x / g).natAbs ≤ x.natAbs := by
  have e := Int.mul_ediv_cancel' h
  have : (g * (x / g)).natAbs = x.natAbs := by rw [e]
  rw [Int.natAbs_mul] at this
  rw [← this]
  exact Nat.le_mul_of_pos_left _ (by omega)
theorem SzR.less {k : Nat} {r : Row} {g : Int} (hg : Dv g r) (h : SzR k r) : SzR k (lessR g r) :=
  ⟨fun c hc => by
    obtain ⟨x, hx, rfl⟩ := List.mem_map.mp hc
    exact (h.1 x hx).le (div_le hg.1 (hg.2.1 x hx)), h.2.1.le (div_le hg.1 hg.2.2.1), fun c hc => by
    obtain ⟨x, hx, rfl⟩ := List.mem_map.mp hc
    exact (h.2.2 x hx).le (div_le hg.1 (hg.2.2.2 x hx))⟩
theorem SzR.mono {k j : Nat} {r : Row} (h : SzR k r) (hk : k ≤ j) : SzR j r := ⟨fun c hc => (h.1 c hc).mono hk, h.2.1.mono hk, fun c hc => (h.2.2 c hc).mono hk⟩
end DL.Fm
set_option Elab.async false
set_option linter.all false
namespace DL.Fm
open DL.Frac (Ineq su re st)
def unitFrom (s n k : Nat) : List Int := (List.range' s n).map fun j => if k = j then 1 else 0
def unit (m k : Nat) : List Int := (List.range m).map fun j => if k = j then 1 else 0
def startR (m : Nat) (p : Ineq × Nat) : Row := ⟨p.1.co, p.1.rest, p.1.str, unit m p.2⟩
end DL.Fm
set_option Elab.async false
set_option linter.all false
namespace DL.Bk
open PySem
structure Rule where
  nm : Str
  co : List Int
  rest : Int
structure Deed where
  nm : Str
  lo : Int
  hi : Int
  ch : List (Int × Int)
structure Book where
  its : List (Str × Int)
  rus : List Rule
  des : List Deed
def dot (co st : List Int) : Int := ((co.zip st).map fun p => p.1 * p.2).sum
def slope (co : List Int) (ch : List (Int × Int)) : Int := ((co.zip ch).map fun p => p.1 * p.2.1).sum
def beside (co : List Int) (ch : List (Int × Int)) : Int := ((co.zip ch).map fun p => p.1 * p.2.2).sum
def behind (st : List Int) (ch : List (Int × Int)) (n : Int) : List Int := (st.zip ch).map fun p => p.1 + p.2.1 * n + p.2.2
theorem sum_snoc (l : List Int) (x : Int) : (l ++ [x]).sum = l.sum + x := by rw [List.sum_append]; simp
def okS (b : Nat) (x : Str) : Prop := x.length ≤ b ∧ PyData.strOk x = true
end DL.Bk
set_option Elab.async false
set_option linter.all false
set_option maxRecDepth 100000
set_option maxHeartbeats 4000000
set_option exponentiation.threshold 10000
namespace DL
open PySem PySem.Spec L2
open Bk (okS)
def atZ (ns : List Int) (k : Int) : Int := if k < ns.length then ns.getD k.toNat 0 else 19 * k + 8
theorem md_small {i : Int} (h0 : -(2 ^ 200) < i) (h1 : i < 2 ^ 200) : Md i := Md.of_lt h0 h1
theorem at_ok {ns : List Int} {k : Int} (h0 : 0 ≤ k) (h1 : k < 1000) : f_l_at [.list (ns.map .int), .int k] = some (.int (atZ ns k)) := by
  rw [fe_l_at]
  unfold b_l_at
  have m1 : Md 19 := md_small (by decide) (by decide)
  have m2 : Md k := md_small (by omega) (by omega)
  simp only [EV0, EV1, EV2, EV3, EV4, EV5, decide_true, decide_false, List.nil_append, List.cons_append, m1, m2, List.length_map]
  unfold atZ
  by_cases h : k < ns.length
  · have e : atI (ns.map PyData.int) k = some (.int (ns.getD k.toNat 0)) := by
      rw [ev_atm h0 h, List.getD_eq_getElem?_getD, List.getElem?_eq_getElem (by omega)]; rfl
    simp only [EV0, EV1, EV2, EV3, EV4, EV5, decide_true, decide_false, List.nil_append, List.cons_append, h, e, if_true]
  · simp only [EV0, EV1, EV2, EV3, EV4, EV5, decide_true, decide_false, List.nil_append, List.cons_append, h, if_false, m1, m2]
theorem mix_ok {n p : Int} (h0 : 0 ≤ p) (h1 : p < 1000) : ∃ m, f_l_mix [.int n, .int p] = some (.int m) ∧ 0 ≤ m ∧ m < 2147483648 := by
  rw [fe_l_mix]
  unfold b_l_mix
  have z3 : (0 : Int) < 2147483629 := by decide
  have z4 : (0 : Int) < 2147483647 := by decide
  have z5 : (0 : Int) < 2147483587 := by decide
  have e1 := Int.emod_nonneg n (b := 2147483629) (by decide)
  have e2 := Int.emod_lt_of_pos n (b := 2147483629) (by decide)
  have m1 : Md 8 := md_small (by decide) (by decide)
  have m2 : Md p := md_small (by omega) (by omega)
  have m3 : Md (8 * p) := md_small (by omega) (by omega)
  have s1 : 8 * p * p ≤ 8000 * 1000 := by
    have a1 : 8 * p * p ≤ 8000 * p := Int.mul_le_mul_of_nonneg_right (by omega) h0
    omega
  have s0 : 0 ≤ 8 * p * p := Int.mul_nonneg (by omega) h0
  have m4 : Md (n % 2147483629 + p + 1) := md_small (by omega) (by omega)
  have m5 : Md (8 * p * p + 48271) := md_small (by omega) (by omega)
  simp only [EV0, EV1, EV2, EV3, EV4, EV5, decide_true, decide_false, List.nil_append, List.cons_append, m1, m2, m3, m4, m5, z3, z4]
  have g1 : ∀ x : Int, 0 ≤ x % 2147483647 ∧ x % 2147483647 < 2147483647 := fun x => ⟨Int.emod_nonneg _ (by decide), Int.emod_lt_of_pos _ (by decide)⟩
  generalize hx : (n % 2147483629 + p + 1) * (8 * p * p + 48271) % 2147483647 = x
  have b1 := g1 ((n % 2147483629 + p + 1) * (8 * p * p + 48271))
  rw [hx] at b1
  have m6 : Md x := md_small (by omega) (by omega)
  simp only [EV0, EV1, EV2, EV3, EV4, EV5, decide_true, decide_false, List.nil_append, List.cons_append, m6, z5, Option.some.injEq, PyData.int.injEq]
  have := Int.emod_lt_of_pos (x * x) (b := 2147483587) (by decide)
  exact ⟨_, rfl, Int.emod_nonneg _ (by decide), by omega⟩
noncomputable def mixZ (n p : Int) : Int := if h : 0 ≤ p ∧ p < 1000 then (mix_ok (n := n) h.1 h.2).choose else 0
theorem mixZ_ok {n p : Int} (h0 : 0 ≤ p) (h1 : p < 1000) : f_l_mix [.int n, .int p] = some (.int (mixZ n p)) ∧ 0 ≤ mixZ n p ∧ mixZ n p < 2147483648 := by
  unfold mixZ
  rw [dif_pos ⟨h0, h1⟩]
  exact (mix_ok (n := n) h0 h1).choose_spec
theorem p10 : ((10 : Int).natAbs < 2 ^ 64) := by decide
abbrev T23 : Int := 100000000000000000000000
abbrev T29 : Int := 100000000000000000000000000000
theorem q29 : (10 : Int) ^ (29 : Int).toNat = T29 := by decide
theorem b29 : (0 : Int) ≤ 29 ∧ (29 : Int) ≤ 1000000 := by decide
abbrev T28 : Int := 10000000000000000000000000000
theorem q23 : (10 : Int) ^ (23 : Int).toNat = T23 := by decide
theorem q5 : (10 : Int) ^ (5 : Int).toNat = 100000 := by decide
theorem b23 : (0 : Int) ≤ 23 ∧ (23 : Int) ≤ 1000000 := by decide
theorem ev_mul_s {x : Str} {k : Int} (h0 : 0 ≤ k) (h1 : k ≤ 1000) (h2 : (x.length : Int) ≤ 1000) : gMul (.str x) (.int k) = some (.str (strRep x k.toNat)) := by
  refine gOr_n (show gMulI (.str x) (.int k) = none from rfl) (gOr_s ?_)
  unfold gMulS
  exact if_pos ⟨h0, h1, by omega⟩
theorem ev_add_s {x y : Str} (h : (x.length : Int) + y.length ≤ 1000000) : gAdd (.str x) (.str y) = some (.str (x ++ y)) := by
  refine gOr_n (show gAddI (.str x) (.str y) = none from rfl) (gOr_s ?_)
  unfold gAddS
  exact if_pos (by rw [sizeLine_eq]; omega)
def chs (s : Str) : List Nat := s.cps.toList
theorem chs_eq {s t : Str} (h : chs s = chs t) : s = t := by
  cases s; cases t
  unfold chs at h
  congr 1
  exact Array.toList_inj.mp h
theorem rep1_flat (c : Nat) : ∀ m : Nat, (List.replicate m [c]).flatten = List.replicate m c
  | 0 => rfl
  | m + 1 => by rw [List.replicate_succ, List.replicate_succ, List.flatten_cons, rep1_flat c m]; rfl
theorem rep1_eq (c m : Nat) : strRep ⟨#[c]⟩ m = ⟨(List.replicate m c).toArray⟩ := by
  refine chs_eq ?_
  show (List.replicate m [c]).flatten.toArray.toList = _
  rw [rep1_flat]; rfl
theorem app_eq (a b : List Nat) : ((⟨a.toArray⟩ : Str) ++ (⟨b.toArray⟩ : Str)) = (⟨(a ++ b).toArray⟩ : Str) := by
  refine chs_eq ?_
  show (a.toArray ++ b.toArray).toList = (a ++ b).toArray.toList
  rw [Array.toList_append]
theorem len_ar (a : List Nat) : (⟨a.toArray⟩ : Str).length = a.length := rfl
def nmC (k : Nat) (n : Int) : List Nat :=
  if n % 2 = 0 then List.replicate (1 + n / 2 % 9).toNat (97 + k) ++ [120 + (n / 18 % 3).toNat]
  else List.replicate (n / 2 % 10).toNat 109 ++ [97 + k] ++ List.replicate (9 - n / 2 % 10).toNat 109
theorem nmC_len (k : Nat) (n : Int) : 1 ≤ (nmC k n).length ∧ (nmC k n).length ≤ 10 := by
  unfold nmC
  split
  · rw [List.length_append, List.length_replicate, List.length_singleton]; omega
  · rw [List.length_append, List.length_append, List.length_replicate, List.length_replicate, List.length_singleton]; omega
theorem nmC_sign {k : Nat} (hk : k < 7) {n : Int} : ∀ c ∈ nmC k n, 97 ≤ c ∧ c ≤ 122 := by
  unfold nmC
  intro c hc
  split at hc
  · rcases List.mem_append.mp hc with h | h
    · rw [List.eq_of_mem_replicate h]; omega
    · rw [List.mem_singleton.mp h]; omega
  · rcases List.mem_append.mp hc with h | h
    · rcases List.mem_append.mp h with h | h
      · rw [List.eq_of_mem_replicate h]; omega
      · rw [List.mem_singleton.mp h]; omega
    · rw [List.eq_of_mem_replicate h]; omega
theorem nmC_inj {k j : Nat} {n : Int} (h : nmC k n = nmC j n) : k = j := by
  unfold nmC at h
  split at h
  · have e := List.append_inj_left h (by rw [List.length_replicate, List.length_replicate])
    obtain ⟨m, hm⟩ : ∃ m : Nat, (1 + n / 2 % 9).toNat = m + 1 := ⟨(n / 2 % 9).toNat, by omega⟩
    rw [hm, List.replicate_succ, List.replicate_succ] at e
    injection e with e _
    omega
  · rw [List.append_assoc, List.append_assoc] at h
    have e := List.append_inj_right h rfl
    have e2 := List.append_inj_left e rfl
    injection e2 with e2 _
    omega
def nameS (k n : Int) : Str := ⟨(nmC k.toNat n).toArray⟩
theorem abc_ok {k : Nat} (h1 : k < 7) : gIxS (.str "abcdefg") (.int (k : Nat)) = some (.str ⟨#[97 + k]⟩) := by
  have : k = 0 ∨ k = 1 ∨ k = 2 ∨ k = 3 ∨ k = 4 ∨ k = 5 ∨ k = 6 := by omega
  rcases this with rfl | rfl | rfl | rfl | rfl | rfl | rfl <;> kernel_rfl
theorem xyz_ok {k : Int} (h0 : 0 ≤ k) (h1 : k < 3) : gIxS (.str "xyz") (.int k) = some (.str ⟨#[120 + k.toNat]⟩) := by
  have : k = 0 ∨ k = 1 ∨ k = 2 := by omega
  rcases this with rfl | rfl | rfl <;> kernel_rfl
theorem m_ok : ("m" : Str) = ⟨#[109]⟩ := by kernel_rfl
theorem nameS_ok {k n : Int} (h0 : 0 ≤ k) (h1 : k < 7) (hn : 0 ≤ n) : f_l_named [.int k, .int n] = some (.str (nameS k n)) ∧ PyData.strOk (nameS k n) = true := by
  obtain ⟨k, rfl⟩ : ∃ j : Nat, k = (j : Int) := ⟨k.toNat, by omega⟩
  have hk : k < 7 := by omega
  refine ⟨?_, ?_⟩
  · rw [fe_l_named]
    unfold b_l_named
    have z2 : (0 : Int) < 2 := by decide
    have z2' : (2 : Int) < 2 ^ 250 := by decide
    have z9 : (0 : Int) < 9 := by decide
    have z10 : (0 : Int) < 10 := by decide
    have z18 : (0 : Int) < 18 := by decide
    have z18' : (18 : Int) < 2 ^ 250 := by decide
    have z3 : (0 : Int) < 3 := by decide
    have hc := abc_ok hk
    have hd := xyz_ok (k := n / 18 % 3) (by omega) (by omega)
    have lc : (((⟨#[97 + k]⟩ : Str).length : Nat) : Int) ≤ 1000 := by show ((1 : Nat) : Int) ≤ 1000; omega
    have lm : (((⟨#[109]⟩ : Str).length : Nat) : Int) ≤ 1000 := by show ((1 : Nat) : Int) ≤ 1000; omega
    have L := (nmC_len k n).2
    have E := nmC_len k n
    unfold nameS
    rw [m_ok, Int.toNat_natCast]
    by_cases h : n % 2 = 0
    · have e0 : 0 ≤ 1 + n / 2 % 9 := by omega
      have e1 : 1 + n / 2 % 9 ≤ 1000 := by omega
      have l1 : ((strRep ⟨#[97 + k]⟩ (1 + n / 2 % 9).toNat).length : Int) + ((⟨#[120 + (n / 18 % 3).toNat]⟩ : Str).length : Nat) ≤ 1000000 := by
        rw [rep1_eq, len_ar, List.length_replicate]
        show ((1 + n / 2 % 9).toNat : Int) + ((1 : Nat) : Int) ≤ 1000000
        omega
      simp only [EV0, EV1, EV2, EV3, EV4, EV5, decide_true, decide_false, List.nil_append, List.cons_append, z2, z2', h, hc, z9, z18, z18', z3, hd, e0, e1, lc, ev_mul_s, ev_add_s, l1]
      rw [rep1_eq, show (⟨#[120 + (n / 18 % 3).toNat]⟩ : Str) = ⟨[120 + (n / 18 % 3).toNat].toArray⟩ from rfl, app_eq]
      unfold nmC
      rw [if_pos h]
    · have e0 : 0 ≤ n / 2 % 10 := by omega
      have e1 : n / 2 % 10 ≤ 1000 := by omega
      have e2 : 0 ≤ 9 - n / 2 % 10 := by omega
      have e3 : 9 - n / 2 % 10 ≤ 1000 := by omega
      have l1 : ((strRep ⟨#[109]⟩ (n / 2 % 10).toNat).length : Int) + ((⟨#[97 + k]⟩ : Str).length : Nat) ≤ 1000000 := by
        rw [rep1_eq, len_ar, List.length_replicate]
        show ((n / 2 % 10).toNat : Int) + ((1 : Nat) : Int) ≤ 1000000
        omega
      have l2 : ((strRep ⟨#[109]⟩ (n / 2 % 10).toNat ++ (⟨#[97 + k]⟩ : Str)).length : Int) + ((strRep ⟨#[109]⟩ (9 - n / 2 % 10).toNat).length : Nat) ≤ 1000000 := by
        rw [rep1_eq, rep1_eq, show (⟨#[97 + k]⟩ : Str) = ⟨[97 + k].toArray⟩ from rfl, app_eq, len_ar, len_ar, List.length_append, List.length_replicate, List.length_replicate, List.length_singleton]
        omega
      simp only [EV0, EV1, EV2, EV3, EV4, EV5, decide_true, decide_false, List.nil_append, List.cons_append, z2, z2', z10, h, hc, e0, e1, e2, e3, lm, ev_mul_s, ev_add_s, l1, l2]
      rw [rep1_eq, rep1_eq, show (⟨#[97 + k]⟩ : Str) = ⟨[97 + k].toArray⟩ from rfl, app_eq, app_eq]
      unfold nmC
      rw [if_neg h]
  · unfold PyData.strOk nameS
    rw [Array.all_eq_true_iff_forall_mem]
    intro c hc
    have := nmC_sign (k := k) hk (n := n) c (by rw [Int.toNat_natCast] at hc; exact List.mem_toArray.mp hc)
    rw [decide_eq_true_eq]; omega
noncomputable def drawZ (ns : List Int) (k : Int) : Int := mixZ (atZ ns (1 + k % 62)) (100 + k)
theorem draw_ok (ns : List Int) {k : Int} (h0 : 0 ≤ k) (h1 : k < 800) : f_l_draw [.list (ns.map .int), .int k] = some (.int (drawZ ns k)) ∧ 0 ≤ drawZ ns k ∧ drawZ ns k < 2147483648 := by
  rw [fe_l_draw]
  unfold b_l_draw
  have z62 : (0 : Int) < 62 := by decide
  have e1 : f_l_at [.list (ns.map .int), .int (1 + k % 62)] = some (.int (atZ ns (1 + k % 62))) := at_ok (by omega) (by omega)
  obtain ⟨e2, x0, x1⟩ := mixZ_ok (n := atZ ns (1 + k % 62)) (p := 100 + k) (by omega) (by omega)
  simp only [EV0, EV1, EV2, EV3, EV4, EV5, decide_true, decide_false, List.nil_append, List.cons_append, z62, e1, e2]
  exact ⟨rfl, x0, x1⟩
theorem wide_ok (ns : List Int) {k m : Int} (h0 : 0 ≤ k) (h1 : k < 700) (m0 : 0 < m) (m1 : m ≤ T29) : ∃ x : Int, f_l_wide [.list (ns.map .int), .int k, .int m] = some (.int x) ∧ Sz 110 x ∧ (m ≤ T23 → Sz 80 x) := by
  rw [fe_l_wide]
  unfold b_l_wide
  obtain ⟨e1, x0, x1⟩ := draw_ok ns (k := k) h0 (by omega)
  generalize drawZ ns k = d at e1 x0 x1
  have e2 : f_l_at [.list (ns.map .int), .int (1 + k % 62)] = some (.int (atZ ns (1 + k % 62))) := at_ok (by omega) (by omega)
  have z62 : (0 : Int) < 62 := by decide
  have z8 : (0 : Int) < 8 := by decide
  have z8' : (8 : Int) < 2 ^ 250 := by decide
  have z13 : (0 : Int) < 13 := by decide
  have t23 : T23 = 100000000000000000000000 := rfl
  have t29 : T29 = 100000000000000000000000000000 := rfl
  by_cases h : d % 8 = 0
  · have m2 : Md 2 := Sz.md (k := 10) (Sz.of (by decide) (by decide))
    have mm : Md m := Sz.md (k := 100) (Sz.of (by omega) (by omega))
    have zz : 0 < 2 * m - 1 := by omega
    have g1 := Int.emod_nonneg (atZ ns (1 + k % 62)) (b := 2 * m - 1) (by omega)
    have g2 := Int.emod_lt_of_pos (atZ ns (1 + k % 62)) zz
    simp only [EV0, EV1, EV2, EV3, EV4, EV5, decide_true, decide_false, List.nil_append, List.cons_append, e1, e2, z62, z8, h, m2, mm, zz]
    exact ⟨_, rfl, Sz.of (by omega) (by omega), fun hm => Sz.of (by omega) (by omega)⟩
  · simp only [EV0, EV1, EV2, EV3, EV4, EV5, decide_true, decide_false, List.nil_append, List.cons_append, e1, z8, z8', z13, h]
    exact ⟨_, rfl, Sz.of (by omega) (by omega), fun hm => Sz.of (by omega) (by omega)⟩
noncomputable def wideZ (ns : List Int) (k m : Int) : Int := if h : 0 ≤ k ∧ k < 700 ∧ 0 < m ∧ m ≤ T29 then (wide_ok ns h.1 h.2.1 h.2.2.1 h.2.2.2).choose else 0
theorem wideZ_okW (ns : List Int) {k m : Int} (h0 : 0 ≤ k) (h1 : k < 700) (m0 : 0 < m) (m1 : m ≤ T29) : f_l_wide [.list (ns.map .int), .int k, .int m] = some (.int (wideZ ns k m)) ∧ Sz 110 (wideZ ns k m) ∧ (m ≤ T23 → Sz 80 (wideZ ns k m)) := by
  unfold wideZ
  rw [dif_pos ⟨h0, h1, m0, m1⟩]
  exact (wide_ok ns h0 h1 m0 m1).choose_spec
theorem wideZ_ok (ns : List Int) {k m : Int} (h0 : 0 ≤ k) (h1 : k < 700) (m0 : 0 < m) (m1 : m ≤ T23) : f_l_wide [.list (ns.map .int), .int k, .int m] = some (.int (wideZ ns k m)) ∧ Sz 80 (wideZ ns k m) := by
  have g := wideZ_okW ns h0 h1 m0 (Int.le_trans m1 (by decide))
  exact ⟨g.1, g.2.2 m1⟩
def itD (i : Str × Int) : D := .tuple [.str i.1, .int i.2]
def ruD (r : Bk.Rule) : D := .tuple [.str r.nm, .tuple (r.co.map .int), .int r.rest]
def chD (c : Int × Int) : D := .tuple [.int c.1, .int c.2]
def deD (d : Bk.Deed) : D := .tuple [.str d.nm, .int d.lo, .int d.hi, .tuple (d.ch.map chD)]
def bkD (b : Bk.Book) : D := .tuple [.list (b.its.map itD), .list (b.rus.map ruD), .list (b.des.map deD)]
def NL (l : List Str) : Prop := ∃ n : Int, l = (List.range l.length).map fun i : Nat => nameS (i : Int) n
def GI (its : List (Str × Int)) : Prop := ∀ i ∈ its, PyData.strOk i.1 = true ∧ Sz 80 i.2
def GR (n : Nat) (rus : List Bk.Rule) : Prop := ∀ r ∈ rus, PyData.strOk r.nm = true ∧ r.co.length = n ∧ (∀ c ∈ r.co, Sz 80 c) ∧ Sz 300 r.rest
def GD (n : Nat) (des : List Bk.Deed) : Prop := ∀ d ∈ des, PyData.strOk d.nm = true ∧ d.ch.length = n ∧ (∀ c ∈ d.ch, Sz 90 c.1 ∧ Sz 90 c.2) ∧ d.lo ≤ d.hi ∧ Sz 120 d.lo ∧ Sz 120 d.hi
def GB (b : Bk.Book) : Prop := GI b.its ∧ GR b.its.length b.rus ∧ GD b.its.length b.des ∧ b.its.length ≤ 5 ∧ b.rus.length ≤ 6 ∧ b.des.length ≤ 7
def stOf (its : List (Str × Int)) : List Int := its.map (·.2)
def SP (its : List (Str × Int)) (rus : List Bk.Rule) : Prop := ∀ r ∈ rus, 0 ≤ Bk.dot r.co (stOf its) + r.rest
theorem dot_st (co : List Int) (its : List (Str × Int)) : Bk.dot co (stOf its) = ((co.zip its).map fun p => p.1 * p.2.2).sum := by
  show ((co.zip (its.map (·.2))).map fun p => p.1 * p.2).sum = _
  rw [List.zip_map_right, List.map_map]
  rfl
end DL
set_option Elab.async false
set_option linter.all false
set_option maxRecDepth 100000
set_option maxHeartbeats 4000000
set_option exponentiation.threshold 10000
namespace DL
open PySem PySem.Spec L2
open Bk (okS)
theorem items_ok (ns : List Int) {n : Nat} {m : Int} (hn : n ≤ 5) (m0 : 0 < m) (m1 : m ≤ T23) : ∃ its : List (Str × Int), f_l_items [.list (ns.map .int), .int (n : Nat), .int m] = some (.list (its.map itD)) ∧ its.length = n ∧ GI its ∧ NL (its.map (·.1)) := by
  rw [fe_l_items]
  unfold b_l_items
  obtain ⟨f1, x0, x1⟩ := draw_ok ns (k := 1) (by decide) (by decide)
  generalize drawZ ns 1 = d at f1 x0 x1
  have v1 : -(2 ^ 62) ≤ (n : Int) := by omega
  have v2 : (n : Int) ≤ 16777216 := by omega
  have el : lcF (tgN 4) (fun _ => some true) (eTup (aCons (e1 f_l_named (aCons (eV 4) (aCons (eV 3) aNil))) (aCons (e1 f_l_wide (aCons (eB 0) (aCons (e2 gAdd (eC (.int 10)) (eV 4)) (aCons (eV 2) aNil)))) aNil))) [.brw (.list (ns.map .int)), .val (.int (n : Nat)), .val (.int m), .val (.int d), .und] (rng 0 (n : Int).toNat) =
      some (((List.range n).map fun i : Nat => (nameS (0 + (i : Int)) d, wideZ ns (10 + (0 + (i : Int))) m)).map itD) := by
    rw [rng_map, List.map_map, Int.toNat_natCast]
    refine lcF_map (fun i : Nat => PyData.int (0 + (i : Int))) (fun i : Nat => itD (nameS (0 + (i : Int)) d, wideZ ns (10 + (0 + (i : Int))) m)) _ ?_
    intro i hm
    have hi := List.mem_range.mp hm
    have g1 := (nameS_ok (k := 0 + (i : Int)) (n := d) (by omega) (by omega) x0).1
    have g2 := (wideZ_ok ns (k := 10 + (0 + (i : Int))) (by omega) (by omega) m0 m1).1
    refine ⟨_, rfl, rfl, ?_⟩
    simp only [EV0, EV1, EV2, EV3, EV4, EV5, decide_true, decide_false, List.nil_append, List.cons_append, g1, g2]
    rfl
  simp only [EV0, EV1, EV2, EV3, EV4, EV5, decide_true, decide_false, List.nil_append, List.cons_append, f1, v1, v2, el]
  refine ⟨_, rfl, by rw [List.length_map, List.length_range], fun p hm => ?_, d, ?_⟩
  · obtain ⟨i, hi, rfl⟩ := List.mem_map.mp hm
    have hi := List.mem_range.mp hi
    exact ⟨(nameS_ok (by omega) (by omega) x0).2, (wideZ_ok ns (by omega) (by omega) m0 m1).2⟩
  · rw [List.length_map, List.length_map, List.length_range, List.map_map]
    exact List.map_congr_left fun i _ => by show nameS (0 + (i : Int)) d = _; rw [Int.zero_add]
theorem len_itD (its : List (Str × Int)) : ((its.map itD).length : Int) = its.length := by rw [List.length_map]
theorem rules_ok (ns : List Int) {its : List (Str × Int)} {n : Nat} {m : Int} (hl : its.length ≤ 5) (hg : GI its) (hn : n ≤ 6) (m0 : 0 < m) (m1 : m ≤ T23) :
    ∃ rus : List Bk.Rule, f_l_rules [.list (ns.map .int), .list (its.map itD), .int (n : Nat), .int m] = some (.list (rus.map ruD)) ∧ rus.length = n ∧ GR its.length rus ∧ NL (rus.map (·.nm)) ∧ SP its rus := by
  rw [fe_l_rules]
  unfold b_l_rules
  have v1 : -(2 ^ 62) ≤ (n : Int) := by omega
  have v2 : (n : Int) ≤ 16777216 := by omega
  have w1 : -(2 ^ 62) ≤ (its.length : Int) := by omega
  have w2 : (its.length : Int) ≤ 16777216 := by omega
  obtain ⟨f2, y0, y1⟩ := draw_ok ns (k := 2) (by decide) (by decide)
  generalize drawZ ns 2 = d2 at f2 y0 y1
  simp only [EV0, EV1, EV2, EV3, EV4, EV5, decide_true, decide_false, List.nil_append, List.cons_append, v1, v2]
  obtain ⟨e, he, rus, t5, t6, t7, t8, t9, t10, rfl, hr, hg2, hsp, hnl⟩ := forF_rng (lo := 0) (n := (n : Int).toNat) (v := 5) (b := L_l_rules_1) (env := [.brw (.list (ns.map .int)), .val (.list (its.map itD)), .val (.int (n : Nat)), .val (.int m), .lst [], .und, .und, .und, .und, .und, .und])
    (fun i env => ∃ (rus : List Bk.Rule) (t5 t6 t7 t8 t9 t10 : C), env = [.brw (.list (ns.map .int)), .val (.list (its.map itD)), .val (.int (n : Nat)), .val (.int m), .lst (rus.map ruD), t5, t6, t7, t8, t9, t10] ∧ rus.length = i ∧ GR its.length rus ∧ SP its rus ∧ rus.map (·.nm) = (List.range i).map fun q : Nat => nameS (q : Int) d2)
    ⟨[], _, _, _, _, _, _, rfl, rfl, (fun _ h => nomatch h), (fun _ h => nomatch h), rfl⟩ (fun i env hi hI => by
      obtain ⟨rus, t5, t6, t7, t8, t9, t10, rfl, hr, hg2, hsp, hnl⟩ := hI
      have hi' : i < 6 := by omega
      obtain ⟨f3, a0, a1⟩ := draw_ok ns (k := 50 + (0 + (i : Int))) (by omega) (by omega)
      obtain ⟨f4, b0, b1⟩ := draw_ok ns (k := 60 + (0 + (i : Int))) (by omega) (by omega)
      generalize drawZ ns (50 + (0 + (i : Int))) = r1 at f3 a0 a1
      generalize drawZ ns (60 + (0 + (i : Int))) = r2 at f4 b0 b1
      have s1s2 : Sz 170 (r1 % 30 * (r2 % 3)) := ((Sz.of (k := 10) (by omega) (by omega)).mul (Sz.of (k := 10) (by omega) (by omega))).mono (by decide)
      have z30 : (0 : Int) < 30 := by decide
      have z3 : (0 : Int) < 3 := by decide
      have s1 : Sz 10 (r1 % 30) := Sz.of (by omega) (by omega)
      have s2 : Sz 10 (r2 % 3) := Sz.of (by omega) (by omega)
      have k1 := s1.md
      have k2 := s2.md
      have m5 : Md 5 := Sz.md (k := 10) (Sz.of (by decide) (by decide))
      have mi : Md (0 + (i : Int)) := Sz.md (k := 10) (Sz.of (by omega) (by omega))
      obtain ⟨g1, g2⟩ := nameS_ok (k := 0 + (i : Int)) (n := d2) (by omega) (by omega) y0
      have ln : (((rus.map ruD).length : Nat) : Int) < 16000000 := by rw [List.length_map]; omega
      have el : ∀ t4 t6 t7 t8 t9, lcF (tgN 10) (fun _ => some true) (e1 f_l_wide (aCons (eB 0) (aCons (e2 gAdd (e2 gAdd (eC (.int 20)) (e2 gMul (eC (.int 5)) (eV 5))) (eV 10)) (aCons (eV 3) aNil)))) [.brw (.list (ns.map .int)), .val (.list (its.map itD)), .val (.int (n : Nat)), .val (.int m), t4, .val (.int (0 + (i : Int))), t6, t7, t8, t9, .und] (rng 0 (its.length : Int).toNat) =
          some (((List.range its.length).map fun j : Nat => wideZ ns (20 + 5 * (0 + (i : Int)) + (0 + (j : Int))) m).map .int) := fun t4 t6 t7 t8 t9 => by
        rw [rng_map, List.map_map, Int.toNat_natCast]
        refine lcF_map (fun j : Nat => PyData.int (0 + (j : Int))) (fun j : Nat => .int (wideZ ns (20 + 5 * (0 + (i : Int)) + (0 + (j : Int))) m)) _ ?_
        intro j hm
        have hj := List.mem_range.mp hm
        have g2 := (wideZ_ok ns (k := 20 + 5 * (0 + (i : Int)) + (0 + (j : Int))) (by omega) (by omega) m0 m1).1
        refine ⟨_, rfl, rfl, ?_⟩
        simp only [EV0, EV1, EV2, EV3, EV4, EV5, decide_true, decide_false, List.nil_append, List.cons_append, m5, mi, g2]
      have hco : ∀ c ∈ (List.range its.length).map fun j : Nat => wideZ ns (20 + 5 * (0 + (i : Int)) + (0 + (j : Int))) m, Sz 80 c := fun c hm => by
        obtain ⟨j, hj, rfl⟩ := List.mem_map.mp hm
        have hj := List.mem_range.mp hj
        exact (wideZ_ok ns (by omega) (by omega) m0 m1).2
      have lco : ((List.range its.length).map fun j : Nat => wideZ ns (20 + 5 * (0 + (i : Int)) + (0 + (j : Int))) m).length = its.length := by rw [List.length_map, List.length_range]
      unfold L_l_rules_1
      simp only [EV0, EV1, EV2, EV3, EV4, EV5, decide_true, decide_false, List.nil_append, List.cons_append, len_itD, w1, w2, el, f3, f4, z30, z3, k1, k2]
      have r0 : 0 ≤ r1 % 30 * (r2 % 3) := Int.mul_nonneg (by omega) (by omega)
      generalize r1 % 30 * (r2 % 3) = rr at r0 s1s2 ⊢
      generalize ((List.range its.length).map fun j : Nat => wideZ ns (20 + 5 * (0 + (i : Int)) + (0 + (j : Int))) m) = co at hco lco ⊢
      rw [zip_map]
      obtain ⟨e, he, r, t8, t9, rfl, hsr, her⟩ := forF_inv (g := tgT (tgCons (tgN 8) (tgCons (tgN 9) tgNil))) (b := L_l_rules_0) (items := (co.zip its).map fun p => PyData.tuple [.int p.1, itD p.2])
        (env := [.brw (.list (ns.map .int)), .val (.list (its.map itD)), .val (.int (n : Nat)), .val (.int m), .lst (rus.map ruD), .val (.int (0 + (i : Int))), .val (.tuple (co.map .int)), .val (.int rr), t8, t9, t10])
        (fun j env => ∃ (r : Int) (t8 t9 : C), env = [.brw (.list (ns.map .int)), .val (.list (its.map itD)), .val (.int (n : Nat)), .val (.int m), .lst (rus.map ruD), .val (.int (0 + (i : Int))), .val (.tuple (co.map .int)), .val (.int r), t8, t9, t10] ∧ Sz (170 + j) r ∧ r = rr - (((co.zip its).take j).map fun p => p.1 * p.2.2).sum)
        ⟨_, _, _, rfl, s1s2, by simp⟩ (fun j d env hd hI => by
          obtain ⟨r, t8, t9, rfl, hsr, her⟩ := hI
          rw [List.getElem?_map] at hd
          cases ez : (co.zip its)[j]? with
          | none => rw [ez] at hd; cases hd
          | some p =>
            rw [ez] at hd; cases hd
            have mm := List.of_mem_zip (List.mem_of_getElem? ez)
            obtain ⟨c, s, v⟩ := p
            have c1 := hco c mm.1
            have c2 := (hg _ mm.2).2
            have n1 := c1.md
            have n2 := c2.md
            have i1 : gIxS (itD (s, v)) (.int 1) = some (.int v) := rfl
            refine ⟨_, rfl, ?_⟩
            unfold L_l_rules_0
            dsimp only at n2 ⊢
            simp only [EV0, EV1, EV2, EV3, EV4, EV5, decide_true, decide_false, List.nil_append, List.cons_append, i1, n1, n2]
            exact ⟨_, _, _, rfl, hsr.sub ((c1.mul c2).mono (by omega)), by rw [her, List.take_add_one, ez]; simp; omega⟩)
      have lz : ((co.zip its).map fun p => PyData.tuple [.int p.1, itD p.2]).length ≤ 5 := by rw [List.length_map, List.length_zip]; omega
      rw [he]
      simp only [EV0, EV1, EV2, EV3, EV4, EV5, decide_true, decide_false, List.nil_append, List.cons_append, f2, g1, ln]
      refine ⟨rus ++ [⟨nameS (0 + (i : Int)) d2, co, r⟩], _, _, _, _, _, _, by rw [List.map_append]; rfl, by rw [List.length_append, hr]; rfl, fun q hm => ?_, fun q hm => ?_, by rw [List.map_append, hnl, List.range_succ, List.map_append]; show _ ++ [nameS (0 + (i : Int)) d2] = _ ++ [nameS (i : Int) d2]; rw [Int.zero_add]⟩
      · rcases List.mem_append.mp hm with h | h
        · exact hg2 q h
        · rw [List.mem_singleton.mp h]
          exact ⟨g2, lco, hco, hsr.mono (by omega)⟩
      · rcases List.mem_append.mp hm with h | h
        · exact hsp q h
        · rw [List.mem_singleton.mp h]
          show 0 ≤ Bk.dot co (stOf its) + r
          rw [List.length_map, List.take_length] at her
          rw [dot_st, her]
          omega)
  rw [he]
  simp only [EV0, EV1, EV2, EV3, EV4, EV5, decide_true, decide_false, List.nil_append, List.cons_append, ev_retL]
  exact ⟨rus, rfl, by omega, hg2, ⟨d2, by rw [List.length_map, hr]; exact hnl⟩, hsp⟩
theorem b01 (b : Bool) : Sz 1 (if b = true then (1 : Int) else 0) := by cases b <;> exact Sz.of (by decide) (by decide)
theorem deeds_ok (ns : List Int) {its : List (Str × Int)} {n : Nat} (hl : its.length ≤ 5) (hn : n ≤ 7) :
    ∃ des : List Bk.Deed, f_l_deeds [.list (ns.map .int), .list (its.map itD), .int (n : Nat)] = some (.list (des.map deD)) ∧ des.length = n ∧ GD its.length des ∧ NL (des.map (·.nm)) := by
  rw [fe_l_deeds]
  unfold b_l_deeds
  have v1 : -(2 ^ 62) ≤ (n : Int) := by omega
  have v2 : (n : Int) ≤ 16777216 := by omega
  have w1 : -(2 ^ 62) ≤ (its.length : Int) := by omega
  have w2 : (its.length : Int) ≤ 16777216 := by omega
  have t23 : T23 = 100000000000000000000000 := rfl
  obtain ⟨f2, y0, y1⟩ := draw_ok ns (k := 3) (by decide) (by decide)
  generalize drawZ ns 3 = d2 at f2 y0 y1
  simp only [EV0, EV1, EV2, EV3, EV4, EV5, decide_true, decide_false, List.nil_append, List.cons_append, v1, v2]
  obtain ⟨e, he, des, t4, t5, t6, t7, t8, t9, t10, rfl, hr, hg2, hnl⟩ := forF_rng (lo := 0) (n := (n : Int).toNat) (v := 4) (b := L_l_deeds_1) (env := [.brw (.list (ns.map .int)), .val (.list (its.map itD)), .val (.int (n : Nat)), .lst [], .und, .und, .und, .und, .und, .und, .und])
    (fun i env => ∃ (des : List Bk.Deed) (t4 t5 t6 t7 t8 t9 t10 : C), env = [.brw (.list (ns.map .int)), .val (.list (its.map itD)), .val (.int (n : Nat)), .lst (des.map deD), t4, t5, t6, t7, t8, t9, t10] ∧ des.length = i ∧ GD its.length des ∧ des.map (·.nm) = (List.range i).map fun q : Nat => nameS (q : Int) d2)
    ⟨[], _, _, _, _, _, _, _, rfl, rfl, (fun _ h => nomatch h), rfl⟩ (fun i env hi hI => by
      obtain ⟨des, t4, t5, t6, t7, t8, t9, t10, rfl, hr, hg2, hnl⟩ := hI
      have hi' : i < 7 := by omega
      obtain ⟨f1, s1⟩ := wideZ_ok ns (k := 70 + (0 + (i : Int))) (m := T23) (by omega) (by omega) (by decide) (by decide)
      obtain ⟨f3, a0, a1⟩ := draw_ok ns (k := 200 + (0 + (i : Int))) (by omega) (by omega)
      generalize drawZ ns (200 + (0 + (i : Int))) = r1 at f3 a0 a1
      generalize wideZ ns (70 + (0 + (i : Int))) T23 = lo at f1 s1
      have z9 : (0 : Int) < 9 := by decide
      have m5 : Md 5 := Sz.md (k := 10) (Sz.of (by decide) (by decide))
      have mi : Md (0 + (i : Int)) := Sz.md (k := 10) (Sz.of (by omega) (by omega))
      have z3 : (0 : Int) < 3 := by decide
      obtain ⟨g1, g2⟩ := nameS_ok (k := 0 + (i : Int)) (n := d2) (by omega) (by omega) y0
      have ln : (((des.map deD).length : Nat) : Int) < 16000000 := by rw [List.length_map]; omega
      unfold L_l_deeds_1
      simp only [EV0, EV1, EV2, EV3, EV4, EV5, decide_true, decide_false, List.nil_append, List.cons_append, p10, q23, b23, f1, len_itD, w1, w2]
      obtain ⟨e, he, ch, t7, t8, t9, rfl, hcl, hch⟩ := forF_rng (lo := 0) (n := (its.length : Int).toNat) (v := 7) (b := L_l_deeds_0)
        (env := [.brw (.list (ns.map .int)), .val (.list (its.map itD)), .val (.int (n : Nat)), .lst (des.map deD), .val (.int (0 + (i : Int))), .val (.int lo), .lst [], t7, t8, t9, t10])
        (fun j env => ∃ (ch : List (Int × Int)) (t7 t8 t9 : C), env = [.brw (.list (ns.map .int)), .val (.list (its.map itD)), .val (.int (n : Nat)), .lst (des.map deD), .val (.int (0 + (i : Int))), .val (.int lo), .lst (ch.map chD), t7, t8, t9, t10] ∧ ch.length = j ∧ ∀ c ∈ ch, Sz 90 c.1 ∧ Sz 90 c.2)
        ⟨[], _, _, _, rfl, rfl, fun _ h => nomatch h⟩ (fun j env hj hI => by
          obtain ⟨ch, t7, t8, t9, rfl, hcl, hch⟩ := hI
          have hj' : j < 5 := by omega
          obtain ⟨h1, k0, k1⟩ := draw_ok ns (k := 80 + 5 * (0 + (i : Int)) + (0 + (j : Int))) (by omega) (by omega)
          obtain ⟨h2, u1⟩ := wideZ_ok ns (k := 120 + 5 * (0 + (i : Int)) + (0 + (j : Int))) (m := T23) (by omega) (by omega) (by decide) (by decide)
          obtain ⟨h3, u2⟩ := wideZ_ok ns (k := 160 + 5 * (0 + (i : Int)) + (0 + (j : Int))) (m := T23) (by omega) (by omega) (by decide) (by decide)
          generalize drawZ ns (80 + 5 * (0 + (i : Int)) + (0 + (j : Int))) = so at h1 k0 k1
          generalize wideZ ns (120 + 5 * (0 + (i : Int)) + (0 + (j : Int))) T23 = x at h2 u1
          generalize wideZ ns (160 + 5 * (0 + (i : Int)) + (0 + (j : Int))) T23 = y at h3 u2
          have ln : (((ch.map chD).length : Nat) : Int) < 16000000 := by rw [List.length_map]; omega
          have n1 := u1.md
          have n2 := u2.md
          have n3 := (b01 (!decide (so % 3 = 1))).md
          have n4 := (b01 (decide (so % 3 = 2))).md
          unfold L_l_deeds_0
          simp only [EV0, EV1, EV2, EV3, EV4, EV5, decide_true, decide_false, List.nil_append, List.cons_append, m5, mi, h1, h2, h3, z3, p10, q23, b23, n1, n2, n3, n4, ln]
          refine ⟨ch ++ [(x * (if (!decide (so % 3 = 1)) = true then 1 else 0), y * (if decide (so % 3 = 2) = true then 1 else 0))], _, _, _, by rw [List.map_append]; rfl, by rw [List.length_append, hcl]; rfl, fun c hm => ?_⟩
          rcases List.mem_append.mp hm with h | h
          · exact hch c h
          · rw [List.mem_singleton.mp h]
            exact ⟨(u1.mul (b01 _)).mono (by decide), (u2.mul (b01 _)).mono (by decide)⟩)
      rw [he]
      simp only [EV0, EV1, EV2, EV3, EV4, EV5, decide_true, decide_false, List.nil_append, List.cons_append, f2, f3, z9, g1, ln]
      refine ⟨des ++ [⟨nameS (0 + (i : Int)) d2, lo, lo + r1 % 9, ch⟩], _, _, _, _, _, _, _, by rw [List.map_append]; rfl, by rw [List.length_append, hr]; rfl, fun q hm => ?_, by rw [List.map_append, hnl, List.range_succ, List.map_append]; show _ ++ [nameS (0 + (i : Int)) d2] = _ ++ [nameS (i : Int) d2]; rw [Int.zero_add]⟩
      rcases List.mem_append.mp hm with h | h
      · exact hg2 q h
      · rw [List.mem_singleton.mp h]
        refine ⟨g2, (show ch.length = its.length by omega), hch, ?_, s1.mono (by decide), ?_⟩
        · show lo ≤ lo + r1 % 9
          omega
        · exact ((s1.mono (by decide : 80 ≤ 90)).add (Sz.of (by omega) (by omega))).mono (by decide))
  rw [he]
  simp only [EV0, EV1, EV2, EV3, EV4, EV5, decide_true, decide_false, List.nil_append, List.cons_append, ev_retL]
  exact ⟨des, rfl, by omega, hg2, d2, by rw [List.length_map, hr]; exact hnl⟩
def NLs (b : Bk.Book) : Prop := NL (b.its.map (·.1)) ∧ NL (b.rus.map (·.nm)) ∧ NL (b.des.map (·.nm)) ∧ 1 ≤ b.its.length ∧ 1 ≤ b.rus.length ∧ 1 ≤ b.des.length
theorem counts_ok (ns : List Int) : ∃ a b c : Nat, f_l_counts [.list (ns.map .int)] = some (.list [.int (a : Nat), .int (b : Nat), .int (c : Nat)]) ∧ (1 ≤ a ∧ 1 ≤ b ∧ 1 ≤ c) ∧ a ≤ 4 ∧ b ≤ 5 ∧ c ≤ 6 := by
  rw [fe_l_counts]
  unfold b_l_counts
  have c0 : f_l_at [.list (ns.map .int), .int 0] = some (.int (atZ ns 0)) := at_ok (by decide) (by decide)
  obtain ⟨x0, a0, a1⟩ := mixZ_ok (n := atZ ns 0) (p := 1) (by decide) (by decide)
  generalize mixZ (atZ ns 0) 1 = d at x0 a0 a1
  have z4 : (0 : Int) < 4 := by decide
  have z4' : (4 : Int) < 2 ^ 250 := by decide
  have z5 : (0 : Int) < 5 := by decide
  have z20 : (0 : Int) < 20 := by decide
  have z20' : (20 : Int) < 2 ^ 250 := by decide
  have z6 : (0 : Int) < 6 := by decide
  simp only [EV0, EV1, EV2, EV3, EV4, EV5, decide_true, decide_false, List.nil_append, List.cons_append, c0, x0, z4, z4', z5, z20, z20', z6]
  refine ⟨(1 + d % 4).toNat, (1 + d / 4 % 5).toNat, (1 + d / 20 % 6).toNat, ?_, by omega, by omega, by omega, by omega⟩
  rw [show (((1 + d % 4).toNat : Nat) : Int) = 1 + d % 4 by omega, show (((1 + d / 4 % 5).toNat : Nat) : Int) = 1 + d / 4 % 5 by omega, show (((1 + d / 20 % 6).toNat : Nat) : Int) = 1 + d / 20 % 6 by omega]
theorem book_ok (ns : List Int) {a b c : Nat} (hp : 1 ≤ a ∧ 1 ≤ b ∧ 1 ≤ c) (ha : a ≤ 5) (hb : b ≤ 6) (hc : c ≤ 7) : ∃ bk : Bk.Book, f_l_book [.list (ns.map .int), .list [.int (a : Nat), .int (b : Nat), .int (c : Nat)]] = some (bkD bk) ∧ GB bk ∧ NLs bk ∧ SP bk.its bk.rus ∧ bk.its.length = a ∧ bk.rus.length = b ∧ bk.des.length = c := by
  rw [fe_l_book]
  unfold b_l_book
  have c0 : f_l_at [.list (ns.map .int), .int 0] = some (.int (atZ ns 0)) := at_ok (by decide) (by decide)
  obtain ⟨x0, a0, a1⟩ := mixZ_ok (n := atZ ns 0) (p := 2) (by decide) (by decide)
  generalize mixZ (atZ ns 0) 2 = d at x0 a0 a1
  have z2 : (0 : Int) < 2 := by decide
  have i0 : atI [PyData.int (a : Nat), PyData.int (b : Nat), PyData.int (c : Nat)] 0 = some (.int (a : Nat)) := rfl
  have i1 : atI [PyData.int (a : Nat), PyData.int (b : Nat), PyData.int (c : Nat)] 1 = some (.int (b : Nat)) := rfl
  have i2 : atI [PyData.int (a : Nat), PyData.int (b : Nat), PyData.int (c : Nat)] 2 = some (.int (c : Nat)) := rfl
  obtain ⟨m, h1, m0, m1⟩ : ∃ m : Int, atI [PyData.int 7, PyData.int T23] (d % 2) = some (.int m) ∧ 0 < m ∧ m ≤ T23 := by
    have : d % 2 = 0 ∨ d % 2 = 1 := by omega
    rcases this with h | h <;> rw [h]
    · exact ⟨7, rfl, by decide, by decide⟩
    · exact ⟨T23, rfl, by decide, by decide⟩
  obtain ⟨m', h2, k0, k1⟩ : ∃ m : Int, atI [PyData.int T23, PyData.int 7] (d % 2) = some (.int m) ∧ 0 < m ∧ m ≤ T23 := by
    have : d % 2 = 0 ∨ d % 2 = 1 := by omega
    rcases this with h | h <;> rw [h]
    · exact ⟨T23, rfl, by decide, by decide⟩
    · exact ⟨7, rfl, by decide, by decide⟩
  obtain ⟨its, f1, l1, g1, n1⟩ := items_ok ns (n := a) (m := m) ha m0 m1
  obtain ⟨rus, f2, l2, g2, n2, sp⟩ := rules_ok ns (its := its) (n := b) (m := m') (by omega) g1 hb k0 k1
  obtain ⟨des, f3, l3, g3, n3⟩ := deeds_ok ns (its := its) (n := c) (by omega) hc
  simp only [EV0, EV1, EV2, EV3, EV4, EV5, decide_true, decide_false, List.nil_append, List.cons_append, c0, x0, z2, i0, i1, i2, p10, q23, b23, h1, h2, f1, f2, f3]
  exact ⟨⟨its, rus, des⟩, rfl, ⟨g1, g2, g3, by dsimp only; omega, by dsimp only; omega, by dsimp only; omega⟩, ⟨n1, n2, n3, by dsimp only; omega, by dsimp only; omega, by dsimp only; omega⟩, sp, l1, l2, l3⟩
end DL
set_option Elab.async false
set_option linter.all false
set_option maxRecDepth 100000
set_option maxHeartbeats 4000000
set_option exponentiation.threshold 10000
namespace DL
open PySem PySem.Spec L2
open Bk (okS)
theorem i_bk0 (bk : Bk.Book) : gIxS (bkD bk) (.int 0) = some (.list (bk.its.map itD)) := rfl
theorem i_bk1 (bk : Bk.Book) : gIxS (bkD bk) (.int 1) = some (.list (bk.rus.map ruD)) := rfl
theorem i_bk2 (bk : Bk.Book) : gIxS (bkD bk) (.int 2) = some (.list (bk.des.map deD)) := rfl
theorem i_ru0 (r : Bk.Rule) : gIxS (ruD r) (.int 0) = some (.str r.nm) := rfl
theorem i_ru1 (r : Bk.Rule) : gIxS (ruD r) (.int 1) = some (.tuple (r.co.map .int)) := rfl
theorem i_ru2 (r : Bk.Rule) : gIxS (ruD r) (.int 2) = some (.int r.rest) := rfl
theorem i_de0 (d : Bk.Deed) : gIxS (deD d) (.int 0) = some (.str d.nm) := rfl
theorem i_de1 (d : Bk.Deed) : gIxS (deD d) (.int 1) = some (.int d.lo) := rfl
theorem i_de2 (d : Bk.Deed) : gIxS (deD d) (.int 2) = some (.int d.hi) := rfl
theorem i_de3 (d : Bk.Deed) : gIxS (deD d) (.int 3) = some (.tuple (d.ch.map chD)) := rfl
theorem cut_ru (r : Bk.Rule) : gSl (ruD r) (some 1) none = some (.tuple [.tuple (r.co.map .int), .int r.rest]) := rfl
theorem valueP_ok {co st : List Int} {rest : Int} (h1 : ∀ c ∈ co, Sz 80 c) (h2 : ∀ s ∈ st, Sz 400 s) : f_value_of [.tuple [.tuple (co.map .int), .int rest], .tuple (st.map .int)] = some (.int (Bk.dot co st + rest)) := by
  rw [fe_value_of]
  unfold b_value_of
  have i0 : atI [PyData.tuple (co.map .int), PyData.int rest] 0 = some (.tuple (co.map .int)) := rfl
  have i1 : atI [PyData.tuple (co.map .int), PyData.int rest] 1 = some (.int rest) := rfl
  have el : lcF (tgT (tgCons (tgN 2) (tgCons (tgN 3) tgNil))) (fun _ => some true) (e2 gMul (eV 2) (eV 3)) [.val (.tuple [.tuple (co.map .int), .int rest]), .val (.tuple (st.map .int)), .und, .und] (zipD (co.map .int) (st.map .int)) = some (((co.zip st).map fun p => p.1 * p.2).map .int) := by
    rw [zip_map, List.map_map]
    refine lcF_map (fun p : Int × Int => PyData.tuple [.int p.1, .int p.2]) (fun p => .int (p.1 * p.2)) _ ?_
    intro p hm
    have mm := List.of_mem_zip hm
    have n1 := (h1 _ mm.1).md
    have n2 := (h2 _ mm.2).md
    refine ⟨_, rfl, rfl, ?_⟩
    simp only [EV0, EV1, EV2, EV3, EV4, EV5, decide_true, decide_false, List.nil_append, List.cons_append, n1, n2]
  simp only [EV0, EV1, EV2, EV3, EV4, EV5, decide_true, decide_false, List.nil_append, List.cons_append, i0, i1, el]
  rfl
theorem atZr {α : Type} {f : α → D} {l : List α} {k : Nat} {a : α} {i : Int} (h : l[k]? = some a) (hi : i = (k : Int)) : atI (l.map f) i = some (f a) := by
  subst hi
  have hk := (List.getElem?_eq_some_iff.mp h).1
  rw [ev_atm (by omega) (by omega), Int.toNat_natCast, h]; rfl
theorem spareP_ok {bk : Bk.Book} {k : Nat} {r : Bk.Rule} (hb : GB bk) (hr : bk.rus[k]? = some r) {st : List Int} (h2 : ∀ s ∈ st, Sz 400 s) {i : Int} (hi : i = (k : Int)) : f_spare [bkD bk, .int i, .tuple (st.map .int)] = some (.int (Bk.dot r.co st + r.rest)) := by
  rw [fe_spare]
  unfold b_spare
  have a1 : atI (bk.rus.map ruD) i = some (ruD r) := atZr hr hi
  have v1 := valueP_ok (co := r.co) (st := st) (rest := r.rest) (fun c hc => (hb.2.1 r (List.mem_of_getElem? hr)).2.2.1 c hc) h2
  simp only [EV0, EV1, EV2, EV3, EV4, EV5, decide_true, decide_false, List.nil_append, List.cons_append, i_bk1, a1, cut_ru, v1]
theorem lay_allD {α : Type} (t : α → D) : ∀ l : List α, (∀ a ∈ l, (t a).canLay0 = true) → PyData.canLayAll0 (l.map t) = true
  | [], _ => by simp only [List.map_nil, PyData.canLayAll0]
  | a :: l, h => by
    simp only [List.map_cons, PyData.canLayAll0, h a List.mem_cons_self, lay_allD t l fun b hb => h b (List.mem_cons_of_mem _ hb), Bool.and_self]
theorem lay_ints (ns : List Int) : PyData.canLayAll0 (ns.map PyData.int) = true := layAll_map PyData.int (fun _ => rfl) ns
theorem dep_ints (ns : List Int) : PyData.depthAll (ns.map PyData.int) ≤ 0 := depthAll_mapD PyData.int (fun _ => Nat.le_refl _) ns
theorem lay_chD (c : Int × Int) : (chD c).canLay0 = true := by
  unfold chD
  simp only [PyData.canLay0, PyData.canLayAll0, Bool.and_self]
theorem dep_chD (c : Int × Int) : (chD c).depth ≤ 1 := by
  unfold chD
  simp only [PyData.depth, PyData.depthAll]
  omega
theorem dep_itD (i : Str × Int) : (itD i).depth ≤ 1 := by
  unfold itD
  simp only [PyData.depth, PyData.depthAll]
  omega
theorem dep_ruD (r : Bk.Rule) : (ruD r).depth ≤ 2 := by
  unfold ruD
  have := dep_ints r.co
  simp only [PyData.depth, PyData.depthAll]
  omega
theorem dep_deD (d : Bk.Deed) : (deD d).depth ≤ 3 := by
  unfold deD
  have := depthAll_mapD chD dep_chD d.ch
  simp only [PyData.depth, PyData.depthAll]
  omega
end DL
set_option Elab.async false
set_option linter.all false
set_option maxRecDepth 100000
set_option maxHeartbeats 4000000
set_option exponentiation.threshold 10000
namespace DL
open PySem PySem.Spec L2
open Bk (okS)
def NmOk (s : Str) : Prop := 1 ≤ s.length ∧ s.length ≤ 10 ∧ ∀ c ∈ s.cps.toList, 97 ≤ c ∧ c ≤ 122
theorem nameS_nm {k n : Int} (h0 : 0 ≤ k) (h1 : k < 7) : NmOk (nameS k n) := by
  have E := nmC_len k.toNat n
  refine ⟨E.1, E.2, fun c hc => ?_⟩
  exact nmC_sign (k := k.toNat) (by omega) c hc
theorem letters_in : ∀ c : Nat, 97 ≤ c → c ≤ 122 → c ∈ ("abcdefghijklmnopqrstuvwxyz" : Str).cps.toList := by
  have e : ("abcdefghijklmnopqrstuvwxyz" : Str).cps.toList = List.range' 97 26 := by kernel_rfl
  intro c h0 h1
  rw [e, List.mem_range'_1]
  omega
theorem is_name_ok {s : Str} (h : NmOk s) : f_is_name [.str s] = some (.bool true) := by
  rw [fe_is_name]
  unfold b_is_name
  obtain ⟨h1, h2, h3⟩ := h
  have a1 : ¬((s.length : Int) < 1) := by omega
  have a2 : ¬((10 : Int) < (s.length : Int)) := by omega
  have a3 : s.length ≤ sizeLine := by rw [sizeLine_eq]; omega
  have an : oAny (some (.str s)) = some (s.cps.toList.map fun c => .str ⟨#[c]⟩) := if_pos a3
  have ln : gLen [.str s] = some (.int (s.length : Nat)) := by first | rfl | exact if_pos a3
  simp only [EV0, EV1, EV2, EV3, EV4, EV5, decide_true, decide_false, List.nil_append, List.cons_append, ln, a1, a2, an]
  obtain ⟨e, he, t1, rfl⟩ := forF_inv (g := tgN 1) (b := L_is_name_0) (items := s.cps.toList.map fun c => PyData.str ⟨#[c]⟩) (env := [.val (.str s), .und])
    (fun i env => ∃ t1, env = [.val (.str s), t1]) ⟨_, rfl⟩ (fun i x env hd hI => by
      obtain ⟨t1, rfl⟩ := hI
      rw [List.getElem?_map] at hd
      cases ec : s.cps.toList[i]? with
      | none => rw [ec] at hd; cases hd
      | some c =>
        rw [ec] at hd; cases hd
        have hc := h3 c (List.mem_of_getElem? ec)
        have nt : gNotInT (.str ⟨#[c]⟩) (.str "abcdefghijklmnopqrstuvwxyz") = some (.bool false) := by
          rw [notInT_one, decide_eq_true (letters_in c hc.1 hc.2)]; rfl
        refine ⟨_, rfl, ?_⟩
        unfold L_is_name_0
        simp only [EV0, EV1, EV2, EV3, EV4, EV5, decide_true, decide_false, List.nil_append, List.cons_append, nt]
        exact ⟨_, rfl⟩)
  rw [he]
  simp only [EV0, EV1, EV2, EV3, EV4, EV5, decide_true, decide_false, List.nil_append, List.cons_append]
abbrev NB : XD := ⟨"NoBook", [], []⟩
theorem in_letters {c : Nat} (h : c ∈ ("abcdefghijklmnopqrstuvwxyz" : Str).cps.toList) : 97 ≤ c ∧ c ≤ 122 := by
  have e : ("abcdefghijklmnopqrstuvwxyz" : Str).cps.toList = List.range' 97 26 := by kernel_rfl
  rw [e, List.mem_range'_1] at h
  omega
theorem is_name_gen {s : Str} (hs : s.length ≤ 1000) (hn : ¬NmOk s) : f_is_name [.str s] = some (.bool false) := by
  rw [fe_is_name]
  unfold b_is_name
  have a3 : s.length ≤ sizeLine := by rw [sizeLine_eq]; omega
  have an : oAny (some (.str s)) = some (s.cps.toList.map fun c => .str ⟨#[c]⟩) := if_pos a3
  have ln : gLen [.str s] = some (.int (s.length : Nat)) := by first | rfl | exact if_pos a3
  by_cases a1 : (s.length : Int) < 1
  · simp only [EV0, EV1, EV2, EV3, EV4, EV5, decide_true, decide_false, List.nil_append, List.cons_append, ln, a1]
  by_cases a2 : (10 : Int) < (s.length : Int)
  · simp only [EV0, EV1, EV2, EV3, EV4, EV5, decide_true, decide_false, List.nil_append, List.cons_append, ln, a1, a2]
  simp only [EV0, EV1, EV2, EV3, EV4, EV5, decide_true, decide_false, List.nil_append, List.cons_append, ln, a1, a2, an]
  refine forF_run (fun o => oRun (oSeq o _) = some (.bool false)) _ _ (fun i env => ∃ t1, env = [.val (.str s), t1] ∧ ∀ c ∈ s.cps.toList.take i, 97 ≤ c ∧ c ≤ 122) ⟨_, rfl, fun c h => by rw [List.take_zero] at h; cases h⟩ (fun i x env hd hI => ?_) (fun e hI => ?_)
  · obtain ⟨t1, rfl, hI⟩ := hI
    rw [List.getElem?_map] at hd
    cases ec : s.cps.toList[i]? with
    | none => rw [ec] at hd; cases hd
    | some c =>
      rw [ec] at hd; cases hd
      refine ⟨_, rfl, ?_⟩
      unfold L_is_name_0
      by_cases hc : c ∈ ("abcdefghijklmnopqrstuvwxyz" : Str).cps.toList
      · have nt : gNotInT (.str ⟨#[c]⟩) (.str "abcdefghijklmnopqrstuvwxyz") = some (.bool false) := by
          rw [notInT_one, decide_eq_true hc]; rfl
        simp only [EV0, EV1, EV2, EV3, EV4, EV5, decide_true, decide_false, List.nil_append, List.cons_append, nt]
        refine ⟨_, rfl, fun c' h => ?_⟩
        rw [List.take_add_one, ec] at h
        rcases List.mem_append.mp h with h | h
        · exact hI c' h
        · rw [List.mem_singleton.mp h]; exact in_letters hc
      · have nt : gNotInT (.str ⟨#[c]⟩) (.str "abcdefghijklmnopqrstuvwxyz") = some (.bool true) := by
          rw [notInT_one, decide_eq_false hc]; rfl
        simp only [EV0, EV1, EV2, EV3, EV4, EV5, decide_true, decide_false, List.nil_append, List.cons_append, nt]
  · obtain ⟨t1, rfl, hI⟩ := hI
    rw [List.length_map, List.take_length] at hI
    exact absurd ⟨by omega, by omega, hI⟩ hn
end DL
set_option Elab.async false
set_option linter.all false
set_option maxRecDepth 100000
set_option maxHeartbeats 4000000
set_option exponentiation.threshold 10000
namespace DL
open PySem PySem.Spec L2
open Bk (okS)
theorem kk_no {k : Key} : ∀ {ks : List Key}, k ∉ ks → kkIx k ks = none
  | [], _ => rfl
  | x :: r, h => by
    unfold kkIx
    have hx : ¬x = k := fun e => h (by rw [e]; exact List.mem_cons_self)
    rw [if_neg hx, kk_no fun m => h (List.mem_cons_of_mem _ m)]
    rfl
theorem kk_yes {k : Key} : ∀ {ks : List Key}, k ∈ ks → (kkIx k ks).isSome = true
  | x :: r, h => by
    unfold kkIx
    by_cases hx : x = k
    · rw [if_pos hx]; rfl
    · rw [if_neg hx]
      have := kk_yes (k := k) (ks := r) (by rcases List.mem_cons.mp h with e | m; exact absurd e.symm hx; exact m)
      cases z : kkIx k r with
      | none => rw [z] at this; cases this
      | some j => rfl
def OkN (l : List Str) : Prop := (∀ s ∈ l, NmOk s) ∧ l.Nodup
theorem OkN.pre {l : List Str} (h : OkN l) (i : Nat) : OkN (l.take i) := ⟨fun s m => h.1 s (List.mem_of_mem_take m), h.2.sublist (List.take_sublist i l)⟩
theorem check_names_gen {ds : List D} {nms : List Str} (hl : nms.length = ds.length) (hs : ∀ (i : Nat) (d : D) (s : Str), ds[i]? = some d → nms[i]? = some s → gIxS d (.int 0) = some (.str s)) (hz : ∀ s ∈ nms, s.length ≤ 1000) (h6 : ds.length ≤ 100) :
    (OkN nms → ∃ us, f_check_names [.d (.list ds)] = some (.ok us (.d .none))) ∧ (¬OkN nms → ∃ us, f_check_names [.d (.list ds)] = some (.ex us NB)) := by
  rw [fe_check_names]
  unfold b_check_names
  have sx : sSetX 1 (xN nDictK) [.val (.list ds), .und, .und] = .nx [.val (.list ds), .own none (.n (.k []) []), .und] := rfl
  rw [ev_seq, sx, ev_seq_nx]
  simp only [EV0, EV1, EV2, EV3, EV4, EV5, decide_true, decide_false, List.nil_append, List.cons_append]
  refine forF_run (fun o => (OkN nms → ∃ us, outMX [false] o = some (.ok us (.d .none))) ∧ (¬OkN nms → ∃ us, outMX [false] o = some (.ex us NB))) _ _
    (fun i env => ∃ (ts : List T) (t2 : C), env = [.val (.list ds), .own none (.n (.k ((nms.take i).map .inr)) ts), t2] ∧ ts.length = i ∧ OkN (nms.take i)) ⟨[], _, rfl, rfl, (fun s h => by rw [List.take_zero] at h; cases h), by rw [List.take_zero]; exact List.nodup_nil⟩ (fun i d env hd' hI => ?_) (fun e hI => ?_)
  · obtain ⟨ts, t2, rfl, hts, hok⟩ := hI
    have hi := (List.getElem?_eq_some_iff.mp hd').1
    have es : nms[i]? = some (nms[i]'(by omega)) := List.getElem?_eq_getElem (by omega)
    generalize nms[i]'(by omega) = s at es
    have g0 := hs i d s hd' es
    have kd : kOfD (.str s) = some (.inr s) := rfl
    have hlen := hz s (List.mem_of_getElem? es)
    refine ⟨[.val (.list ds), .own none (.n (.k ((nms.take i).map .inr)) ts), .val d], rfl, ?_⟩
    unfold L_check_names_0
    have tk : nms.take (i + 1) = nms.take i ++ [s] := by rw [List.take_add_one, es]; rfl
    by_cases hn : NmOk s
    · have g1 := is_name_ok hn
      have it : ∀ b, (kkIx (.inr s) ((nms.take i).map .inr)).isSome = b → trInK (e2 gIxS (eV 2) (eC (.int 0))) (rN 1) [.val (.list ds), .own none (.n (.k ((nms.take i).map .inr)) ts), .val d] = some b := fun b hb => by
        rw [show trInK (e2 gIxS (eV 2) (eC (.int 0))) (rN 1) [.val (.list ds), .own none (.n (.k ((nms.take i).map .inr)) ts), .val d] = oInK (some (.n (.k ((nms.take i).map .inr)) ts)) (gIxS d (.int 0)) from rfl, g0]
        show some (kkIx (.inr s) ((nms.take i).map .inr)).isSome = _
        rw [hb]
      by_cases hm : s ∈ nms.take i
      · have it := it true (kk_yes (List.mem_map.mpr ⟨s, hm, rfl⟩))
        rw [ev_seq, ev_if, ev_tOr, ev_tNot, ev_tB, ev_e1]
        have a1 : (aCons (e2 gIxS (eV 2) (eC (.int 0))) aNil [.val (.list ds), .own none (.n (.k ((nms.take i).map .inr)) ts), .val d]).bind f_is_name = some (.bool true) := by
          simp only [ev_aCons, ev_aNil, ev_e2, ev_V, ev_C, ev_g0, ev_gs, ev_rdV, ev_o2, g0, ev_oCons, ev_bs, g1]
        rw [a1, ev_asB, ev_ms, ev_bn1, ev_oOr_f, it, ev_if_t]
        refine ⟨fun hO => ?_, fun _ => ⟨_, rfl⟩⟩
        have := (hO.pre (i + 1)).2
        rw [tk, List.nodup_append] at this
        exact absurd rfl (this.2.2 s hm s List.mem_cons_self)
      · have nk : kkIx (.inr s) ((nms.take i).map .inr) = none := kk_no fun m => by
          obtain ⟨x, hx, e⟩ := List.mem_map.mp m
          cases e
          exact hm hx
        have it := it false (by rw [nk]; rfl)
        rw [ev_seq, ev_if, ev_tOr, ev_tNot, ev_tB, ev_e1]
        have a1 : (aCons (e2 gIxS (eV 2) (eC (.int 0))) aNil [.val (.list ds), .own none (.n (.k ((nms.take i).map .inr)) ts), .val d]).bind f_is_name = some (.bool true) := by
          simp only [ev_aCons, ev_aNil, ev_e2, ev_V, ev_C, ev_g0, ev_gs, ev_rdV, ev_o2, g0, ev_oCons, ev_bs, g1]
        rw [a1, ev_asB, ev_ms, ev_bn1, ev_oOr_f, it, ev_if_f, ev_nil, ev_seq_nx]
        rw [putK_at (ks := (nms.take i).map .inr) (ts := ts) (e := [.val (.list ds), .own none (.n (.k ((nms.take i).map .inr)) ts), .val d]) (u := .d (.bool true)) (i := 1) (p := []) (d := .str s) rfl rfl rfl (by simp only [EV0, EV1, EV2, EV3, EV4, EV5, decide_true, decide_false, List.nil_append, List.cons_append, g0]) kd nk (by omega)]
        refine ⟨ts ++ [.d (.bool true)], .val d, ?_, by rw [List.length_append, hts]; rfl, ?_⟩
        · rw [tk, List.map_append]
          rfl
        · rw [tk]
          refine ⟨fun s' h => ?_, ?_⟩
          · rcases List.mem_append.mp h with h | h
            · exact hok.1 s' h
            · rw [List.mem_singleton.mp h]; exact hn
          · rw [List.nodup_append]
            exact ⟨hok.2, by simp, fun a ha b hb e => hm (by rw [List.mem_singleton.mp hb] at e; rw [← e]; exact ha)⟩
    · have g1 := is_name_gen hlen hn
      rw [ev_seq, ev_if, ev_tOr, ev_tNot, ev_tB, ev_e1]
      have a1 : (aCons (e2 gIxS (eV 2) (eC (.int 0))) aNil [.val (.list ds), .own none (.n (.k ((nms.take i).map .inr)) ts), .val d]).bind f_is_name = some (.bool false) := by
        simp only [ev_aCons, ev_aNil, ev_e2, ev_V, ev_C, ev_g0, ev_gs, ev_rdV, ev_o2, g0, ev_oCons, ev_bs, g1]
      rw [a1, ev_asB, ev_ms, ev_bn2, ev_oOr_t, ev_if_t]
      exact ⟨fun hO => absurd (hO.1 s (List.mem_of_getElem? es)) hn, fun _ => ⟨_, rfl⟩⟩
  · obtain ⟨ts, t2, rfl, hts, hok⟩ := hI
    rw [← hl, List.take_length] at hok
    exact ⟨fun _ => ⟨_, rfl⟩, fun h => absurd hok h⟩
end DL
set_option Elab.async false
set_option linter.all false
set_option maxRecDepth 100000
set_option maxHeartbeats 4000000
set_option exponentiation.threshold 10000
namespace DL
open PySem PySem.Spec L2
open Bk (okS)
theorem nl_ok {l : List Str} (h : NL l) (h6 : l.length ≤ 7) : OkN l := by
  obtain ⟨n, e⟩ := h
  have g : ∀ (i : Nat) (s : Str), l[i]? = some s → i < l.length ∧ s = nameS (i : Int) n := fun i s hi => by
    have hl := (List.getElem?_eq_some_iff.mp hi).1
    refine ⟨hl, ?_⟩
    rw [e, List.getElem?_map, List.getElem?_range hl] at hi
    exact (Option.some.inj hi).symm
  refine ⟨fun s hs => ?_, ?_⟩
  · obtain ⟨i, hi⟩ := List.mem_iff_getElem?.mp hs
    obtain ⟨a, rfl⟩ := g i s hi
    exact nameS_nm (by omega) (by omega)
  · rw [List.nodup_iff_pairwise_ne, List.pairwise_iff_getElem]
    intro i j hi hj hij hne
    obtain ⟨_, a⟩ := g i _ (List.getElem?_eq_getElem hi)
    obtain ⟨_, b⟩ := g j _ (List.getElem?_eq_getElem hj)
    have c : nameS (i : Int) n = nameS (j : Int) n := a.symm.trans (hne.trans b)
    have d := congrArg (fun z : Str => z.cps.toList) c
    have := nmC_inj (n := n) (by simpa [nameS] using d : nmC i n = nmC j n)
    omega
abbrev nIt (b : Bk.Book) : List Str := b.its.map (·.1)
abbrev nRu (b : Bk.Book) : List Str := b.rus.map (·.nm)
abbrev nDe (b : Bk.Book) : List Str := b.des.map (·.nm)
def Lot (n : Nat) (l : List Str) (m : Int) : Prop := 1 ≤ n ∧ (n : Int) ≤ m ∧ OkN l
def Gd (b : Bk.Book) : Prop := (Lot b.its.length (nIt b) 4 ∧ Lot b.rus.length (nRu b) 5 ∧ Lot b.des.length (nDe b) 6) ∧ (∀ r ∈ b.rus, r.co.length = b.its.length) ∧ ∀ d ∈ b.des, d.ch.length = b.its.length ∧ d.lo ≤ d.hi
def WN (l : List Str) : Prop := l.length ≤ 100 ∧ ∀ s ∈ l, s.length ≤ 1000 ∧ PyData.strOk s = true
def WB (b : Bk.Book) : Prop := WN (nIt b) ∧ WN (nRu b) ∧ WN (nDe b)
theorem names_gen {α : Type} {xs : List α} {f : α → D} {nm : α → Str} (hf : ∀ a, gIxS (f a) (.int 0) = some (.str (nm a))) (hw : WN (xs.map nm)) :
    (OkN (xs.map nm) → ∃ us, f_check_names [.d (.list (xs.map f))] = some (.ok us (.d .none))) ∧ (¬OkN (xs.map nm) → ∃ us, f_check_names [.d (.list (xs.map f))] = some (.ex us NB)) := by
  refine check_names_gen (nms := xs.map nm) (by rw [List.length_map, List.length_map]) (fun i d s h1 h2 => ?_) (fun s h => (hw.2 s h).1) (by have := hw.1; rw [List.length_map] at this ⊢; exact this)
  rw [List.getElem?_map] at h1 h2
  cases e : xs[i]? with
  | none => rw [e] at h1; cases h1
  | some x => rw [e] at h1 h2; cases h1; cases h2; exact hf x
theorem lot_gen {α : Type} {xs : List α} {f : α → D} {nm : α → Str} {m : Int} (hf : ∀ a, gIxS (f a) (.int 0) = some (.str (nm a))) (hw : WN (xs.map nm)) (c0 c1 c2 c3 : C) (c6 c7 c8 c9 c10 : C) :
    (Lot xs.length (xs.map nm) m → L_check_book_3 [c0, c1, c2, c3, .val (.list (xs.map f)), .val (.int m), c6, c7, c8, c9, c10] = .nx [c0, c1, c2, c3, .val (.list (xs.map f)), .val (.int m), c6, c7, c8, c9, c10]) ∧
    (¬Lot xs.length (xs.map nm) m → L_check_book_3 [c0, c1, c2, c3, .val (.list (xs.map f)), .val (.int m), c6, c7, c8, c9, c10] = .xc [c0, c1, c2, c3, .val (.list (xs.map f)), .val (.int m), c6, c7, c8, c9, c10] NB) := by
  obtain ⟨h1, h2⟩ := names_gen (f := f) hf hw
  have ex : mpRo (eV 4) mpNil [c0, c1, c2, c3, .val (.list (xs.map f)), .val (.int m), c6, c7, c8, c9, c10] = some ([], [.d (.list (xs.map f))]) := rfl
  refine ⟨fun ⟨a, b, c⟩ => ?_, fun h => ?_⟩
  · obtain ⟨us, hc⟩ := h1 c
    have a1 : ¬((xs.length : Int) < 1) := by omega
    have a2 : ¬(m < (xs.length : Int)) := by omega
    have cc := callP_ok (env := [c0, c1, c2, c3, .val (.list (xs.map f)), .val (.int m), c6, c7, c8, c9, c10]) (ips := []) (rd := []) (us := [.d (.list (xs.map f))]) rfl hc
    unfold L_check_book_3
    simp only [EV0, EV1, EV2, EV3, EV4, EV5, decide_true, decide_false, List.nil_append, List.cons_append, List.length_map, a1, a2, cc]
    rfl
  · unfold L_check_book_3
    by_cases a1 : (xs.length : Int) < 1
    · simp only [EV0, EV1, EV2, EV3, EV4, EV5, decide_true, decide_false, List.nil_append, List.cons_append, List.length_map, a1]
    by_cases a2 : m < (xs.length : Int)
    · simp only [EV0, EV1, EV2, EV3, EV4, EV5, decide_true, decide_false, List.nil_append, List.cons_append, List.length_map, a1, a2]
    obtain ⟨us, hc⟩ := h2 fun c => h ⟨by omega, by omega, c⟩
    have cc := callP_ex (env := [c0, c1, c2, c3, .val (.list (xs.map f)), .val (.int m), c6, c7, c8, c9, c10]) (ips := []) (rd := []) (us := [.d (.list (xs.map f))]) rfl hc
    simp only [EV0, EV1, EV2, EV3, EV4, EV5, decide_true, decide_false, List.nil_append, List.cons_append, List.length_map, a1, a2, cc]
    rfl
theorem i_it0 (i : Str × Int) : gIxS (itD i) (.int 0) = some (.str i.1) := rfl
abbrev cb0 (bk : Bk.Book) (c4 c5 c6 c7 : C) : List C := [.val (bkD bk), .val (.list (bk.its.map itD)), .val (.list (bk.rus.map ruD)), .val (.list (bk.des.map deD)), c4, c5, c6, c7, .und, .und, .und]
end DL
set_option Elab.async false
set_option linter.all false
set_option maxRecDepth 100000
set_option maxHeartbeats 4000000
set_option exponentiation.threshold 10000
namespace DL
open PySem PySem.Spec L2
open Bk (okS)
theorem check_book_no {bk : Bk.Book} (hw : WB bk) (hb : ¬Gd bk) : ∃ us, f_check_book [.d (bkD bk)] = some (.ex us NB) := by
  rw [fe_check_book]
  unfold b_check_book
  have sa : tgT (tgCons (tgN 1) (tgCons (tgN 2) (tgCons (tgN 3) tgNil))) (bkD bk) [.val (bkD bk), .und, .und, .und, .und, .und, .und, .und, .und, .und, .und] = some (cb0 bk .und .und .und .und) := rfl
  have zf2 : oZip (some (bkD bk)) (some (PyData.tuple [PyData.int 4, PyData.int 5, PyData.int 6])) = some [.tuple [.list (bk.its.map itD), .int 4], .tuple [.list (bk.rus.map ruD), .int 5], .tuple [.list (bk.des.map deD), .int 6]] := rfl
  simp only [EV0, EV1, EV2, EV3, EV4, EV5, decide_true, decide_false, List.nil_append, List.cons_append, sa, zf2]
  have k1 := fun c0 c1 c2 c3 c6 c7 c8 c9 c10 => lot_gen (m := 4) i_it0 hw.1 c0 c1 c2 c3 c6 c7 c8 c9 c10
  have k2 := fun c0 c1 c2 c3 c6 c7 c8 c9 c10 => lot_gen (m := 5) i_ru0 hw.2.1 c0 c1 c2 c3 c6 c7 c8 c9 c10
  have k3 := fun c0 c1 c2 c3 c6 c7 c8 c9 c10 => lot_gen (m := 6) i_de0 hw.2.2 c0 c1 c2 c3 c6 c7 c8 c9 c10
  refine forF_run (fun o => ∃ us, outMX [false] (oSeq o _) = some (.ex us NB)) _ _ (fun i env => ∃ c4 c5, env = cb0 bk c4 c5 .und .und ∧ (1 ≤ i → Lot bk.its.length (nIt bk) 4) ∧ (2 ≤ i → Lot bk.rus.length (nRu bk) 5) ∧ (3 ≤ i → Lot bk.des.length (nDe bk) 6))
    ⟨_, _, rfl, fun h => absurd h (by decide), fun h => absurd h (by decide), fun h => absurd h (by decide)⟩ (fun i d env hd hI => ?_) (fun e hI => ?_)
  · obtain ⟨c4, c5, rfl, a1, a2, a3⟩ := hI
    match i, hd with
    | 0, hd =>
      cases hd
      refine ⟨cb0 bk (.val (.list (bk.its.map itD))) (.val (.int 4)) .und .und, rfl, ?_⟩
      by_cases h : Lot bk.its.length (nIt bk) 4
      · rw [(k1 _ _ _ _ _ _ _ _ _).1 h]
        exact ⟨_, _, rfl, fun _ => h, fun h => absurd h (by decide), fun h => absurd h (by decide)⟩
      · rw [(k1 _ _ _ _ _ _ _ _ _).2 h]
        exact ⟨_, rfl⟩
    | 1, hd =>
      cases hd
      refine ⟨cb0 bk (.val (.list (bk.rus.map ruD))) (.val (.int 5)) .und .und, rfl, ?_⟩
      by_cases h : Lot bk.rus.length (nRu bk) 5
      · rw [(k2 _ _ _ _ _ _ _ _ _).1 h]
        exact ⟨_, _, rfl, fun _ => a1 (by decide), fun _ => h, fun h => absurd h (by decide)⟩
      · rw [(k2 _ _ _ _ _ _ _ _ _).2 h]
        exact ⟨_, rfl⟩
    | 2, hd =>
      cases hd
      refine ⟨cb0 bk (.val (.list (bk.des.map deD))) (.val (.int 6)) .und .und, rfl, ?_⟩
      by_cases h : Lot bk.des.length (nDe bk) 6
      · rw [(k3 _ _ _ _ _ _ _ _ _).1 h]
        exact ⟨_, _, rfl, fun _ => a1 (by decide), fun _ => a2 (by decide), fun _ => h⟩
      · rw [(k3 _ _ _ _ _ _ _ _ _).2 h]
        exact ⟨_, rfl⟩
    | i + 3, hd => simp at hd
  obtain ⟨c4, c5, rfl, a1, a2, a3⟩ := hI
  have b1 := a1 (by show 1 ≤ 3; decide)
  have b2 := a2 (by show 2 ≤ 3; decide)
  have b3 := a3 (by show 3 ≤ 3; decide)
  rw [ev_seq_nx]
  simp only [EV0, EV1, EV2, EV3, EV4, EV5, decide_true, decide_false, List.nil_append, List.cons_append]
  refine forF_run (fun o => ∃ us, outMX [false] (oSeq o _) = some (.ex us NB)) _ _ (fun i env => ∃ c6, env = cb0 bk c4 c5 c6 .und ∧ ∀ r ∈ bk.rus.take i, r.co.length = bk.its.length)
    ⟨_, rfl, fun r h => by rw [List.take_zero] at h; cases h⟩ (fun i d env hd hI => ?_) (fun e hI => ?_)
  · obtain ⟨c6, rfl, hI⟩ := hI
    rw [List.getElem?_map] at hd
    cases ed : bk.rus[i]? with
    | none => rw [ed] at hd; cases hd
    | some r =>
      rw [ed] at hd; cases hd
      refine ⟨cb0 bk c4 c5 (.val (ruD r)) .und, rfl, ?_⟩
      unfold L_check_book_2
      by_cases h : r.co.length = bk.its.length
      · simp only [EV0, EV1, EV2, EV3, EV4, EV5, decide_true, decide_false, List.nil_append, List.cons_append, i_ru1, List.length_map, h]
        refine ⟨_, rfl, fun r' m => ?_⟩
        rw [List.take_add_one, ed] at m
        rcases List.mem_append.mp m with m | m
        · exact hI r' m
        · rw [List.mem_singleton.mp m]; exact h
      · have h' : ¬((r.co.length : Int) = bk.its.length) := by omega
        simp only [EV0, EV1, EV2, EV3, EV4, EV5, decide_true, decide_false, List.nil_append, List.cons_append, i_ru1, List.length_map, h']
        exact ⟨_, rfl⟩
  obtain ⟨c6, rfl, r1⟩ := hI
  rw [List.length_map, List.take_length] at r1
  rw [ev_seq_nx]
  simp only [EV0, EV1, EV2, EV3, EV4, EV5, decide_true, decide_false, List.nil_append, List.cons_append]
  refine forF_run (fun o => ∃ us, outMX [false] (oSeq o _) = some (.ex us NB)) _ _ (fun i env => ∃ c7, env = cb0 bk c4 c5 c6 c7 ∧ ∀ r ∈ bk.des.take i, r.ch.length = bk.its.length ∧ r.lo ≤ r.hi)
    ⟨_, rfl, fun r h => by rw [List.take_zero] at h; cases h⟩ (fun i d env hd hI => ?_) (fun e hI => ?_)
  · obtain ⟨c7, rfl, hI⟩ := hI
    rw [List.getElem?_map] at hd
    cases ed : bk.des[i]? with
    | none => rw [ed] at hd; cases hd
    | some r =>
      rw [ed] at hd; cases hd
      refine ⟨cb0 bk c4 c5 c6 (.val (deD r)), rfl, ?_⟩
      unfold L_check_book_1
      by_cases h : r.ch.length = bk.its.length
      · by_cases h2 : r.hi < r.lo
        · simp only [EV0, EV1, EV2, EV3, EV4, EV5, decide_true, decide_false, List.nil_append, List.cons_append, i_de1, i_de2, i_de3, List.length_map, h, h2]
          exact ⟨_, rfl⟩
        · simp only [EV0, EV1, EV2, EV3, EV4, EV5, decide_true, decide_false, List.nil_append, List.cons_append, i_de1, i_de2, i_de3, List.length_map, h, h2]
          refine ⟨_, rfl, fun r' m => ?_⟩
          rw [List.take_add_one, ed] at m
          rcases List.mem_append.mp m with m | m
          · exact hI r' m
          · rw [List.mem_singleton.mp m]; exact ⟨h, by omega⟩
      · have h' : ¬((r.ch.length : Int) = bk.its.length) := by omega
        simp only [EV0, EV1, EV2, EV3, EV4, EV5, decide_true, decide_false, List.nil_append, List.cons_append, i_de3, List.length_map, h']
        exact ⟨_, rfl⟩
  obtain ⟨c7, rfl, r2⟩ := hI
  rw [List.length_map, List.take_length] at r2
  exact absurd ⟨⟨b1, b2, b3⟩, r1, r2⟩ hb
end DL
set_option Elab.async false
set_option linter.all false
set_option maxRecDepth 100000
set_option maxHeartbeats 4000000
set_option exponentiation.threshold 10000
namespace DL
open PySem PySem.Spec L2
open Bk (okS)
theorem cut_drop {α : Type} {l : List α} {i : Int} (h : 0 ≤ i) : cutD l (some i) none = l.drop i.toNat := by
  unfold cutD
  have e1 : HT.sIx l.length l.length none = l.length := rfl
  have e2 : HT.sIx l.length 0 (some i) = min i.toNat l.length := by
    show (if i < 0 then (i + (l.length : Int)).toNat else min i.toNat l.length) = _
    rw [if_neg (by omega)]
  rw [e1, e2]
  by_cases hl : i.toNat ≤ l.length
  · rw [Nat.min_eq_left hl, List.take_of_length_le (by rw [List.length_drop]; exact Nat.le_refl _)]
  · rw [Nat.min_eq_right (by omega), List.drop_of_length_le (Nat.le_refl _), List.drop_of_length_le (by omega), List.take_nil]
theorem wn_nl {l : List Str} (h : NL l) (h6 : l.length ≤ 7) (hs : ∀ s ∈ l, PyData.strOk s = true) : WN l := by
  obtain ⟨a, _⟩ := nl_ok h h6
  exact ⟨by omega, fun s m => ⟨by have := (a s m).2.1; omega, hs s m⟩⟩
def odd12 : List Str := ["", "A", "abcdefghijk", "a1", "a b", " a", "a ", "aB", "-", "abcdefghijklmnopqrst", "1", "a:"]
theorem odd_no : ∀ s ∈ odd12, ¬NmOk s ∧ s.length ≤ 1000 ∧ PyData.strOk s = true := by
  intro s hs
  have key : ∀ (t : Str) (P : Bool), (decide (1 ≤ t.length) && decide (t.length ≤ 10) && t.cps.toList.all fun c => decide (97 ≤ c) && decide (c ≤ 122)) = false → ¬NmOk t := fun t P h hn => by
    have : (decide (1 ≤ t.length) && decide (t.length ≤ 10) && t.cps.toList.all fun c => decide (97 ≤ c) && decide (c ≤ 122)) = true := by
      simp only [Bool.and_eq_true, decide_eq_true_eq, List.all_eq_true]
      exact ⟨⟨hn.1, hn.2.1⟩, fun c hc => hn.2.2 c hc⟩
    rw [this] at h; cases h
  have all : odd12.all (fun s => !(decide (1 ≤ s.length) && decide (s.length ≤ 10) && s.cps.toList.all fun c => decide (97 ≤ c) && decide (c ≤ 122)) && (decide (s.length ≤ 1000) && PyData.strOk s)) = true := by decide +kernel
  have h := List.all_eq_true.mp all s hs
  simp only [Bool.and_eq_true, Bool.not_eq_true', decide_eq_true_eq] at h
  refine ⟨key s true ?_, h.2.1, h.2.2⟩
  have h1 := h.1
  simpa using h1
theorem atS {l : List Str} {k : Int} (h0 : 0 ≤ k) (h1 : k < (l.length : Int)) : ∃ s ∈ l, atI (l.map PyData.str) k = some (.str s) := by
  have hk : k.toNat < l.length := by omega
  have e : l[k.toNat]? = some l[k.toNat] := List.getElem?_eq_getElem hk
  exact ⟨l[k.toNat], List.getElem_mem hk, by rw [ev_atm h0 h1, e]; rfl⟩
theorem other_ok {n : Int} (h0 : 0 ≤ n) {l : List Str} (hl : l.length ≤ 100) : ∃ s, f_l_other_name [.int n, .list ((l ++ ([""] : List Str)).map .str)] = some (.str s) ∧ (s ∈ odd12 ∨ s ∈ l) := by
  rw [fe_l_other_name]
  unfold b_l_other_name
  have z2 : (0 : Int) < 2 := by decide
  have z2' : (2 : Int) < 2 ^ 250 := by decide
  have z12 : (0 : Int) < 12 := by decide
  have lz : (0 : Int) < (((l ++ ([""] : List Str)).length : Nat) : Int) := by
    have : (l ++ ([""] : List Str)).length = l.length + 1 := by simp
    omega
  have odd : PyData.list [PyData.str "", PyData.str "A", PyData.str "abcdefghijk", PyData.str "a1", PyData.str "a b", PyData.str " a", PyData.str "a ", PyData.str "aB", PyData.str "-", PyData.str "abcdefghijklmnopqrst", PyData.str "1", PyData.str "a:"] = .list (odd12.map .str) := rfl
  obtain ⟨s2, m2, e2⟩ := atS (l := odd12) (k := n / 2 % 12) (by omega) (by show n / 2 % 12 < ((12 : Nat) : Int); omega)
  by_cases h : n % 2 = 0
  · by_cases h1 : (1 : Int) < (((l ++ ([""] : List Str)).length : Nat) : Int)
    · obtain ⟨s, m, e⟩ := atS (l := l ++ ([""] : List Str)) (k := n / 2 % (((l ++ ([""] : List Str)).length : Nat) : Int)) (Int.emod_nonneg _ (by omega)) (Int.emod_lt_of_pos _ lz)
      simp only [EV0, EV1, EV2, EV3, EV4, EV5, decide_true, decide_false, List.nil_append, List.cons_append, odd, z2, z2', h, List.length_map, h1, lz, e]
      refine ⟨s, rfl, ?_⟩
      rcases List.mem_append.mp m with m | m
      · exact .inr m
      · left; rw [List.mem_singleton.mp m]; exact List.mem_cons_self
    · simp only [EV0, EV1, EV2, EV3, EV4, EV5, decide_true, decide_false, List.nil_append, List.cons_append, odd, z2, z2', z12, h, List.length_map, h1, e2]
      exact ⟨s2, rfl, .inl m2⟩
  · simp only [EV0, EV1, EV2, EV3, EV4, EV5, decide_true, decide_false, List.nil_append, List.cons_append, odd, z2, z2', z12, h, e2]
    exact ⟨s2, rfl, .inl m2⟩
def tpD (p : Str × List D) : D := .tuple (.str p.1 :: p.2)
theorem i_tp0 (p : Str × List D) : gIxS (tpD p) (.int 0) = some (.str p.1) := by
  show atI (.str p.1 :: p.2) 0 = _
  rw [ev_at (by decide) (by rw [List.length_cons]; omega)]; rfl
theorem cut_tp (p : Str × List D) : gSl (tpD p) (some 1) none = some (.tuple p.2) := by
  show some (PyData.tuple (cutD (PyData.str p.1 :: p.2) (some 1) none)) = _
  rw [cut_drop (by decide)]; rfl
def others (xs : List (Str × List D)) (k : Nat) : List Str := (xs.zipIdx.filter fun p => !decide ((p.2 : Int) = (k : Int))).map (·.1.1)
theorem others_mem {xs : List (Str × List D)} {k : Nat} {s : Str} (h : s ∈ others xs k) : ∃ j r, j ≠ k ∧ xs[j]? = some (s, r) := by
  obtain ⟨p, hp, rfl⟩ := List.mem_map.mp h
  obtain ⟨h1, h2⟩ := List.mem_filter.mp hp
  obtain ⟨⟨s, r⟩, j⟩ := p
  refine ⟨j, r, ?_, ?_⟩
  · intro e
    subst e
    simp at h2
  · exact (List.mem_zipIdx_iff_getElem?.mp h1)
theorem others_len (xs : List (Str × List D)) (k : Nat) : (others xs k).length ≤ xs.length := by
  unfold others
  rw [List.length_map]
  have := List.length_filter_le (fun p : (Str × List D) × Nat => !decide ((p.2 : Int) = (k : Int))) xs.zipIdx
  rwa [List.length_zipIdx] at this
def BadAt (ns : List Str) (k : Nat) (s : Str) : Prop := s ∈ odd12 ∨ ∃ j, j ≠ k ∧ ns[j]? = some s
theorem renamed_ok {xs : List (Str × List D)} {n : Int} (h0 : 0 ≤ n) (hp : 0 < xs.length) (hl : xs.length ≤ 50) (hr : ∀ p ∈ xs, p.2.length ≤ 10) : ∃ (k : Nat) (s : Str) (r : List D) (s0 : Str), k < xs.length ∧ xs[k]? = some (s0, r) ∧ f_l_renamed [.list (xs.map tpD), .int n] = some (.list ((xs.set k (s, r)).map tpD)) ∧ BadAt (xs.map (·.1)) k s := by
  rw [fe_l_renamed]
  unfold b_l_renamed
  have lz : (0 : Int) < ((xs.length : Nat) : Int) := by omega
  have z8 : (0 : Int) < 8 := by decide
  have z8' : (8 : Int) < 2 ^ 250 := by decide
  obtain ⟨k, hk⟩ : ∃ k : Nat, n % (xs.length : Int) = (k : Int) := ⟨(n % (xs.length : Int)).toNat, by have := Int.emod_nonneg n (b := (xs.length : Int)) (by omega); omega⟩
  have hkl : k < xs.length := by have := Int.emod_lt_of_pos n lz; omega
  have el : ∀ t0 t1 t3, lcF (tgT (tgCons (tgN 5) (tgCons (tgN 4) tgNil))) (tB (e2 gNe (eV 5) (eV 2))) (e2 gIxS (eV 4) (eC (.int 0))) [t0, t1, .val (.int (k : Nat)), t3, .und, .und] (xs.zipIdx.map fun p => PyData.tuple [.int (p.2 : Nat), tpD p.1]) = some ((others xs k).map .str) := fun t0 t1 t3 => by
    unfold others
    rw [List.map_map]
    refine lcF_filt (fun p : (Str × List D) × Nat => PyData.tuple [.int (p.2 : Nat), tpD p.1]) (fun p => !decide ((p.2 : Int) = (k : Int))) (fun p => .str p.1.1) _ ?_
    intro p hm
    refine ⟨_, rfl, ?_, ?_⟩
    · simp only [EV0, EV1, EV2, EV3, EV4, EV5, decide_true, decide_false, List.nil_append, List.cons_append]
    · intro _; simp only [EV0, EV1, EV2, EV3, EV4, EV5, decide_true, decide_false, List.nil_append, List.cons_append, i_tp0]
  have lo := others_len xs k
  obtain ⟨s, fo, ho⟩ := other_ok (n := n / 8) (by omega) (l := others xs k) (by omega)
  obtain ⟨s0, r, ek⟩ : ∃ s0 r, xs[k]? = some (s0, r) := ⟨_, _, List.getElem?_eq_getElem hkl⟩
  have ak : atI (xs.map tpD) (k : Int) = some (tpD (s0, r)) := by
    rw [ev_atm (by omega) (by omega), Int.toNat_natCast, ek]; rfl
  have a1 : (((others xs k).map PyData.str).length : Int) + (([PyData.str ""] : List D).length : Nat) ≤ 16777216 := by rw [List.length_map]; simp; omega
  have e1' : (others xs k).map PyData.str ++ [PyData.str ""] = ((others xs k) ++ ([""] : List Str)).map .str := by rw [List.map_append]; rfl
  have ga : gAdd (.list ((others xs k).map .str)) (.list [.str ""]) = some (.list (((others xs k) ++ ([""] : List Str)).map .str)) := by rw [ev_add_ll a1, e1']
  have hr' : r.length ≤ 10 := hr (s0, r) (List.mem_of_getElem? ek)
  have tt : gAdd (.tuple [.str s]) (.tuple r) = some (tpD (s, r)) := by
    rw [ev_add_tt (by simp; omega)]; rfl
  have k0 : (0 : Int) ≤ (k : Int) := by omega
  have c1 : cutD (xs.map tpD) none (some (k : Int)) = (xs.take k).map tpD := by rw [cut_take k0, Int.toNat_natCast, List.map_take]
  have c2 : cutD (xs.map tpD) (some ((k : Int) + 1)) none = (xs.drop (k + 1)).map tpD := by
    rw [cut_drop (by omega), show ((k : Int) + 1).toNat = k + 1 by omega, List.map_drop]
  have l1 : (((xs.take k).map tpD).length : Int) + (([tpD (s, r)] : List D).length : Nat) ≤ 16777216 := by rw [List.length_map, List.length_take]; simp; omega
  have l2 : (((xs.take k).map tpD ++ [tpD (s, r)]).length : Int) + ((xs.drop (k + 1)).map tpD).length ≤ 16777216 := by rw [List.length_append, List.length_map, List.length_take, List.length_map, List.length_drop]; simp; omega
  have ga2 : gAdd (.list ((xs.take k).map tpD)) (.list [tpD (s, r)]) = some (.list ((xs.take k).map tpD ++ [tpD (s, r)])) := ev_add_ll l1
  have ga3 : gAddL (.list ((xs.take k).map tpD ++ [tpD (s, r)])) (.list ((xs.drop (k + 1)).map tpD)) = some (.list ((xs.take k).map tpD ++ [tpD (s, r)] ++ (xs.drop (k + 1)).map tpD)) := ev_addL l2
  have set : (xs.set k (s, r)).map tpD = (xs.take k).map tpD ++ [tpD (s, r)] ++ (xs.drop (k + 1)).map tpD := by
    rw [List.set_eq_take_append_cons_drop, if_pos hkl, List.map_append, List.map_cons, List.append_assoc]; rfl
  refine ⟨k, s, r, s0, hkl, ek, ?_, ?_⟩
  · simp only [EV0, EV1, EV2, EV3, EV4, EV5, decide_true, decide_false, List.nil_append, List.cons_append, List.length_map, lz, hk, el, enum_map, ga, z8, z8', fo, ak, cut_tp, tt, c1, c2, ga2, ga3, set]
  · rcases ho with h | h
    · exact .inl h
    · obtain ⟨j, r', hj, e⟩ := others_mem h
      exact .inr ⟨j, hj, by rw [List.getElem?_map, e]; rfl⟩
theorem bad_set {ns : List Str} {k : Nat} {s : Str} (hk : k < ns.length) (hb : BadAt ns k s) : ¬OkN (ns.set k s) := by
  intro h
  rcases hb with hb | ⟨j, hj, e⟩
  · exact (odd_no s hb).1 (h.1 s (List.mem_of_getElem? (i := k) (by rw [List.getElem?_set_self hk])))
  · have e1 : (ns.set k s)[k]? = some s := List.getElem?_set_self hk
    have e2 : (ns.set k s)[j]? = some s := by rw [List.getElem?_set_ne (Ne.symm hj)]; exact e
    have hjl := (List.getElem?_eq_some_iff.mp e2)
    have hkl := (List.getElem?_eq_some_iff.mp e1)
    obtain ⟨hjl, f1⟩ := hjl
    obtain ⟨hkl, f2⟩ := hkl
    have nd := h.2
    rw [List.nodup_iff_pairwise_ne, List.pairwise_iff_getElem] at nd
    rcases Nat.lt_or_gt_of_ne hj with q | q
    · exact nd j k hjl hkl q (f1.trans f2.symm)
    · exact nd k j hkl hjl q (f2.trans f1.symm)
theorem bad_wn {ns : List Str} {k : Nat} {s : Str} (hw : WN ns) (hb : BadAt ns k s) : WN (ns.set k s) := by
  refine ⟨by rw [List.length_set]; exact hw.1, fun t m => ?_⟩
  rcases List.mem_or_eq_of_mem_set m with m | rfl
  · exact hw.2 t m
  · rcases hb with hb | ⟨j, _, e⟩
    · exact (odd_no t hb).2
    · exact hw.2 t (List.mem_of_getElem? e)
theorem resized_ok {xs : List D} {n : Int} {d : D} (hl : xs.length ≤ 50) : f_l_resized [.tuple xs, .int n, d] = some (.tuple (if n % 2 = 0 then xs.drop 1 else xs ++ [d])) := by
  rw [fe_l_resized]
  unfold b_l_resized
  have z2 : (0 : Int) < 2 := by decide
  have l1 : (xs.length : Int) + (([d] : List D).length : Nat) ≤ 16777216 := by simp; omega
  by_cases h : n % 2 = 0
  · simp only [EV0, EV1, EV2, EV3, EV4, EV5, decide_true, decide_false, List.nil_append, List.cons_append, z2, h, if_pos, cut_drop (i := 1) (by decide)]
    rfl
  · rw [if_neg h]
    simp only [EV0, EV1, EV2, EV3, EV4, EV5, decide_true, decide_false, List.nil_append, List.cons_append, z2, h, l1]
end DL
set_option Elab.async false
set_option linter.all false
set_option maxRecDepth 100000
set_option maxHeartbeats 4000000
set_option exponentiation.threshold 10000
namespace DL
open PySem PySem.Spec L2
open Bk (okS)
theorem noLs_map {α : Type} {f : α → D} (h : ∀ a, noL (f a) = true) : ∀ l : List α, noLs (l.map f) = true
  | [] => by unfold noLs; rfl
  | a :: l => by rw [List.map_cons]; unfold noLs; rw [h a, noLs_map h l]; rfl
theorem flatN_ok {es : List D} (h : noLs es = true) : flatN (some (.list es)) = some (.list es) := if_pos h
theorem noL_it (i : Str × Int) : noL (itD i) = true := by simp [itD, noL, noLs]
theorem noL_ru (r : Bk.Rule) : noL (ruD r) = true := by simp [ruD, noL, noLs, noLs_map (f := PyData.int) (fun a => by simp [noL])]
theorem noL_de (r : Bk.Deed) : noL (deD r) = true := by simp [deD, noL, noLs, noLs_map (f := chD) (fun a => by simp [chD, noL, noLs])]
theorem renamed_gen {α : Type} {f : α → D} {nm : α → Str} {rest : α → List D} {up : α → Str → α} (hf : ∀ a, f a = tpD (nm a, rest a)) (hu : ∀ a s, nm (up a s) = s ∧ rest (up a s) = rest a) {xs : List α} (hr : ∀ a ∈ xs, (rest a).length ≤ 10) {n : Int} (h0 : 0 ≤ n) (hp : 0 < xs.length) (hl : xs.length ≤ 50) :
    ∃ (k : Nat) (s : Str) (a : α), xs[k]? = some a ∧ f_l_renamed [.list (xs.map f), .int n] = some (.list ((xs.set k (up a s)).map f)) ∧ (xs.set k (up a s)).map nm = (xs.map nm).set k s ∧ k < (xs.map nm).length ∧ BadAt (xs.map nm) k s := by
  have e0 : xs.map f = (xs.map fun a => (nm a, rest a)).map tpD := by
    rw [List.map_map]; exact List.map_congr_left fun a _ => hf a
  obtain ⟨k, s, r, s0, hk, ek, er, hb⟩ := renamed_ok (xs := xs.map fun a => (nm a, rest a)) h0 (by rw [List.length_map]; exact hp) (by rw [List.length_map]; exact hl) (fun p hm => by obtain ⟨a, ha, rfl⟩ := List.mem_map.mp hm; exact hr a ha)
  rw [List.length_map] at hk
  rw [List.getElem?_map] at ek
  cases ea : xs[k]? with
  | none => rw [ea] at ek; cases ek
  | some a =>
    rw [ea] at ek
    cases ek
    refine ⟨k, s, a, ea, ?_, ?_, by rw [List.length_map]; exact hk, ?_⟩
    · rw [e0, er]
      congr 2
      rw [List.map_set, List.map_set, List.map_map]
      congr 1
      · exact List.map_congr_left fun a _ => (hf a).symm
      · rw [hf, (hu a s).1, (hu a s).2]
    · rw [List.map_set, (hu a s).1]
    · rw [List.map_map] at hb; exact hb
abbrev LL (xs ys zs : List D) : T := .n .l [.n .l (xs.map .d), .n .l (ys.map .d), .n .l (zs.map .d)]
theorem viewTs_d : ∀ ds : List D, viewTs (ds.map T.d) = some ds
  | [] => rfl
  | d :: ds => by
    show (viewT (.d d)).bind (fun x => (viewTs (ds.map T.d)).map (x :: ·)) = _
    rw [viewTs_d ds]; rfl
theorem view_LL (xs ys zs : List D) : viewT (LL xs ys zs) = some (.list [.list xs, .list ys, .list zs]) := by
  have v : ∀ l : List D, viewT (.n .l (l.map T.d)) = some (.list l) := fun l => by unfold viewT; rw [viewTs_d]; rfl
  show (viewTs _).map PyData.list = _
  unfold viewTs; rw [v]
  unfold viewTs; rw [v]
  unfold viewTs; rw [v]
  rfl
theorem allLs_d : ∀ ds : List D, allLs (ds.map T.d) = true
  | [] => by unfold allLs; rfl
  | d :: ds => by rw [List.map_cons]; unfold allLs; rw [allLs_d ds]; unfold allL; rfl
theorem allL_LL (xs ys zs : List D) : allL (LL xs ys zs) = true := by
  have v : ∀ l : List D, allL (.n .l (l.map T.d)) = true := fun l => by unfold allL; exact allLs_d l
  unfold allL
  unfold allLs; rw [v]
  unfold allLs; rw [v]
  unfold allLs; rw [v]
  unfold allLs; rfl
theorem wrong_end {xs ys zs : List D} {env : List C} (h : env[4]? = some (.own none (LL xs ys zs))) (hl : 4 < env.length) :
    outM [false, false, false] (sFzT 4 (sRetX (xN (nD (eTup (aCons (e2 gIxS (eV 4) (eC (.int 0))) (aCons (e2 gIxS (eV 4) (eC (.int 1))) (aCons (e2 gIxS (eV 4) (eC (.int 2))) aNil))))))) env) = some ([], .d (.tuple [.list xs, .list ys, .list zs])) := by
  rw [fzT_at h (view_LL xs ys zs)]
  have e : (env.set 4 (.val (.list [.list xs, .list ys, .list zs])))[4]? = some (.val (.list [.list xs, .list ys, .list zs])) := List.getElem?_set_self hl
  have a0 : atI [PyData.list xs, PyData.list ys, PyData.list zs] 0 = some (.list xs) := rfl
  have a1 : atI [PyData.list xs, PyData.list ys, PyData.list zs] 1 = some (.list ys) := rfl
  have a2 : atI [PyData.list xs, PyData.list ys, PyData.list zs] 2 = some (.list zs) := rfl
  simp only [EV0, EV1, EV2, EV3, EV4, EV5, decide_true, decide_false, List.nil_append, List.cons_append, e, a0, a1, a2]
  rfl
theorem put_LL {env : List C} {xs ys zs : List D} {fe : List C → Option D} {u : T} {k : Int} {j : Nat} (h : env[4]? = some (.own none (LL xs ys zs))) (h2 : fe env = some (.int k)) (h3 : ixN 3 k = some j) :
    oIxP (some (env, u)) (pNm 4) fe = .nx (env.set 4 (.own none (.n .l ([T.n .l (xs.map .d), T.n .l (ys.map .d), T.n .l (zs.map .d)].set j u)))) := by
  have nd : nodeAt env (4, []) = some (LL xs ys zs) := by
    rw [ev_nodeAt, h]; rfl
  rw [ixP_at (i := 4) (p := []) rfl nd h2 (by exact h3), ev_putAt, h]
  rfl
abbrev wE (sc : C) (bk : Bk.Book) (m w pl : Int) (t : T) (c6 c7 c8 c9 c10 c11 c12 : C) : List C := [sc, .val (bkD bk), .val (.int m), .val (.int w), .own none t, .val (.int pl), c6, c7, c8, c9, c10, c11, c12]
theorem wb_gb {bk : Bk.Book} (hg : GB bk) (hn : NLs bk) : WB bk :=
  ⟨wn_nl hn.1 (by rw [List.length_map]; have := hg.2.2.2.1; omega) (fun s m => by obtain ⟨i, hi, rfl⟩ := List.mem_map.mp m; exact (hg.1 i hi).1),
   wn_nl hn.2.1 (by rw [List.length_map]; have := hg.2.2.2.2.1; omega) (fun s m => by obtain ⟨i, hi, rfl⟩ := List.mem_map.mp m; exact (hg.2.1 i hi).1),
   wn_nl hn.2.2.1 (by rw [List.length_map]; have := hg.2.2.2.2.2; omega) (fun s m => by obtain ⟨i, hi, rfl⟩ := List.mem_map.mp m; exact (hg.2.2.1 i hi).1)⟩
def Res (o : Out) : Prop := ∃ bk', outM [false, false, false] o = some ([], .d (bkD bk')) ∧ WB bk' ∧ ¬Gd bk'
abbrev bkT (bk : Bk.Book) : T := LL (bk.its.map itD) (bk.rus.map ruD) (bk.des.map deD)
theorem wrong_fin {bk' : Bk.Book} {env : List C} (h : env[4]? = some (.own none (bkT bk'))) (hl : 4 < env.length) (hw : WB bk') (hb : ¬Gd bk') :
    Res (sFzT 4 (sRetX (xN (nD (eTup (aCons (e2 gIxS (eV 4) (eC (.int 0))) (aCons (e2 gIxS (eV 4) (eC (.int 1))) (aCons (e2 gIxS (eV 4) (eC (.int 2))) aNil))))))) env) :=
  ⟨bk', wrong_end h hl, hw, hb⟩
theorem wn_nil : WN [] := ⟨by decide, fun s m => nomatch m⟩
theorem way0 {bk : Bk.Book} (hw : WB bk) {sc : C} {m w : Int} {c6 c7 c8 c9 c10 c11 c12 : C} {pl : Int} (h0 : 0 ≤ pl) (h1 : pl < 3) {g : List C → Out}
    (hg : ∀ (bk' : Bk.Book), WB bk' → ¬Gd bk' → Res (g (wE sc bk m w pl (bkT bk') c6 c7 c8 c9 c10 c11 c12))) :
    Res (oSeq (oIxP (some (wE sc bk m w pl (bkT bk) c6 c7 c8 c9 c10 c11 c12, .n .l [])) (pNm 4) (eV 5)) g) := by
  have p : pl = 0 ∨ pl = 1 ∨ pl = 2 := by omega
  rcases p with rfl | rfl | rfl
  · rw [put_LL (j := 0) (k := 0) rfl rfl (by decide)]
    exact hg ⟨[], bk.rus, bk.des⟩ ⟨wn_nil, hw.2⟩ fun h => absurd h.1.1.1 (by show ¬(1 ≤ 0); decide)
  · rw [put_LL (j := 1) (k := 1) rfl rfl (by decide)]
    exact hg ⟨bk.its, [], bk.des⟩ ⟨hw.1, wn_nil, hw.2.2⟩ fun h => absurd h.1.2.1.1 (by show ¬(1 ≤ 0); decide)
  · rw [put_LL (j := 2) (k := 2) rfl rfl (by decide)]
    exact hg ⟨bk.its, bk.rus, []⟩ ⟨hw.1, hw.2.1, wn_nil⟩ fun h => absurd h.1.2.2.1 (by show ¬(1 ≤ 0); decide)
theorem way2 {bk : Bk.Book} (hg : GB bk) (hn : NLs bk) (hw : WB bk) {sc : C} {m w : Int} (m0 : 0 ≤ m) {c6 c7 c8 c9 c10 c11 c12 : C} {pl : Int} (h0 : 0 ≤ pl) (h1 : pl < 3) {g : List C → Out}
    (hr : ∀ (bk' : Bk.Book), WB bk' → ¬Gd bk' → Res (g (wE sc bk m w pl (bkT bk') c6 c7 c8 c9 c10 c11 c12))) :
    Res (oSeq (sIxP (pNm 4) (eV 5) (xN (nL (eFvT 4 (e1 f_l_renamed (aCons (e2 gIxS (eV 4) (eV 5)) (aCons (e2 gDivA (eV 2) (eC (.int 3))) aNil)))))) (wE sc bk m w pl (bkT bk) c6 c7 c8 c9 c10 c11 c12)) g) := by
  obtain ⟨g1, g2, g3, l1, l2, l3⟩ := id hg
  obtain ⟨_, _, _, p1, p2, p3⟩ := id hn
  have z3 : (0 : Int) < 3 := by decide
  have z3' : (3 : Int) < 2 ^ 250 := by decide
  have fv : ∀ f : List C → Option D, eFvT 4 f (wE sc bk m w pl (bkT bk) c6 c7 c8 c9 c10 c11 c12) = flatN (f ((wE sc bk m w pl (bkT bk) c6 c7 c8 c9 c10 c11 c12).set 4 (.val (.list [.list (bk.its.map itD), .list (bk.rus.map ruD), .list (bk.des.map deD)])))) := fun f => fvT_at rfl (allL_LL _ _ _) (view_LL _ _ _)
  have p : pl = 0 ∨ pl = 1 ∨ pl = 2 := by omega
  rw [ev_ixP, ev_xN, ev_nL, fv]
  rcases p with rfl | rfl | rfl
  · obtain ⟨k, s, a, ek, er, en, hk, hb⟩ := renamed_gen (f := itD) (nm := (·.1)) (rest := fun i => [.int i.2]) (up := fun i s => (s, i.2)) (fun _ => rfl) (fun _ _ => ⟨rfl, rfl⟩) (xs := bk.its) (fun _ _ => by simp) (n := m / 3) (by omega) p1 (by omega)
    have a0 : atI [PyData.list (bk.its.map itD), .list (bk.rus.map ruD), .list (bk.des.map deD)] 0 = some (.list (bk.its.map itD)) := rfl
    simp only [EV0, EV1, EV2, EV3, EV4, EV5, decide_true, decide_false, List.nil_append, List.cons_append, a0, z3, z3', er]
    rw [flatN_ok (noLs_map noL_it _), ev_oNL, ev_ms, put_LL (j := 0) (k := 0) rfl rfl (by decide), ev_seq_nx]
    refine hr ⟨bk.its.set k (s, a.2), bk.rus, bk.des⟩ ⟨?_, hw.2⟩ fun h => ?_
    · show WN ((bk.its.set k (s, a.2)).map (·.1))
      rw [en]; exact bad_wn hw.1 hb
    · have h := h.1.1.2.2
      change OkN ((bk.its.set k (s, a.2)).map (·.1)) at h
      rw [en] at h
      exact bad_set hk hb h
  · obtain ⟨k, s, a, ek, er, en, hk, hb⟩ := renamed_gen (f := ruD) (nm := (·.nm)) (rest := fun r => [.tuple (r.co.map .int), .int r.rest]) (up := fun r s => { r with nm := s }) (fun _ => rfl) (fun _ _ => ⟨rfl, rfl⟩) (xs := bk.rus) (fun _ _ => by simp) (n := m / 3) (by omega) p2 (by omega)
    have a0 : atI [PyData.list (bk.its.map itD), .list (bk.rus.map ruD), .list (bk.des.map deD)] 1 = some (.list (bk.rus.map ruD)) := rfl
    simp only [EV0, EV1, EV2, EV3, EV4, EV5, decide_true, decide_false, List.nil_append, List.cons_append, a0, z3, z3', er]
    rw [flatN_ok (noLs_map noL_ru _), ev_oNL, ev_ms, put_LL (j := 1) (k := 1) rfl rfl (by decide), ev_seq_nx]
    refine hr ⟨bk.its, bk.rus.set k { a with nm := s }, bk.des⟩ ⟨hw.1, ?_, hw.2.2⟩ fun h => ?_
    · show WN ((bk.rus.set k { a with nm := s }).map (·.nm))
      rw [en]; exact bad_wn hw.2.1 hb
    · have h := h.1.2.1.2.2
      change OkN ((bk.rus.set k { a with nm := s }).map (·.nm)) at h
      rw [en] at h
      exact bad_set hk hb h
  · obtain ⟨k, s, a, ek, er, en, hk, hb⟩ := renamed_gen (f := deD) (nm := (·.nm)) (rest := fun r => [.int r.lo, .int r.hi, .tuple (r.ch.map chD)]) (up := fun r s => { r with nm := s }) (fun _ => rfl) (fun _ _ => ⟨rfl, rfl⟩) (xs := bk.des) (fun _ _ => by simp) (n := m / 3) (by omega) p3 (by omega)
    have a0 : atI [PyData.list (bk.its.map itD), .list (bk.rus.map ruD), .list (bk.des.map deD)] 2 = some (.list (bk.des.map deD)) := rfl
    simp only [EV0, EV1, EV2, EV3, EV4, EV5, decide_true, decide_false, List.nil_append, List.cons_append, a0, z3, z3', er]
    rw [flatN_ok (noLs_map noL_de _), ev_oNL, ev_ms, put_LL (j := 2) (k := 2) rfl rfl (by decide), ev_seq_nx]
    refine hr ⟨bk.its, bk.rus, bk.des.set k { a with nm := s }⟩ ⟨hw.1, hw.2.1, ?_⟩ fun h => ?_
    · show WN ((bk.des.set k { a with nm := s }).map (·.nm))
      rw [en]; exact bad_wn hw.2.2 hb
    · have h := h.1.2.2.2.2
      change OkN ((bk.des.set k { a with nm := s }).map (·.nm)) at h
      rw [en] at h
      exact bad_set hk hb h
end DL
set_option Elab.async false
set_option linter.all false
set_option maxRecDepth 100000
set_option maxHeartbeats 4000000
set_option exponentiation.threshold 10000
namespace DL
open PySem PySem.Spec L2
open Bk (okS)
theorem abc26 {k : Nat} (h1 : k < 26) : gIxS (.str "abcdefghijklmnopqrstuvwxyz") (.int (k : Nat)) = some (.str ⟨#[97 + k]⟩) := by
  have : k = 0 ∨ k = 1 ∨ k = 2 ∨ k = 3 ∨ k = 4 ∨ k = 5 ∨ k = 6 ∨ k = 7 ∨ k = 8 ∨ k = 9 ∨ k = 10 ∨ k = 11 ∨ k = 12 ∨ k = 13 ∨ k = 14 ∨ k = 15 ∨ k = 16 ∨ k = 17 ∨ k = 18 ∨ k = 19 ∨ k = 20 ∨ k = 21 ∨ k = 22 ∨ k = 23 ∨ k = 24 ∨ k = 25 := by omega
  rcases this with rfl | rfl | rfl | rfl | rfl | rfl | rfl | rfl | rfl | rfl | rfl | rfl | rfl | rfl | rfl | rfl | rfl | rfl | rfl | rfl | rfl | rfl | rfl | rfl | rfl | rfl <;> kernel_rfl
theorem pq2 {k : Nat} (h1 : k < 2) : gIxS (.str "pq") (.int (k : Nat)) = some (.str ⟨#[112 + k]⟩) := by
  have : k = 0 ∨ k = 1 := by omega
  rcases this with rfl | rfl <;> kernel_rfl
theorem z_ok : ("z" : Str) = ⟨#[122]⟩ := by kernel_rfl
def zN (k : Nat) : Str := ⟨[122, 97 + k % 26, 112 + k / 26].toArray⟩
theorem zN_ok (k : Nat) (h : k < 52) : (zN k).length ≤ 1000 ∧ PyData.strOk (zN k) = true := by
  refine ⟨by show 3 ≤ 1000; decide, ?_⟩
  unfold PyData.strOk zN
  rw [Array.all_eq_true_iff_forall_mem]
  intro c hc
  have : c = 122 ∨ c = 97 + k % 26 ∨ c = 112 + k / 26 := by simpa using hc
  rw [decide_eq_true_eq]; omega
theorem cut_neg {α : Type} {l : List α} {k : Nat} (h : 0 < k) : cutD l (some (-(k : Int))) none = l.drop (l.length - k) := by
  unfold cutD
  have e1 : HT.sIx l.length l.length none = l.length := rfl
  have e2 : HT.sIx l.length 0 (some (-(k : Int))) = l.length - k := by
    show (if -(k : Int) < 0 then (-(k : Int) + (l.length : Int)).toNat else min (-(k : Int)).toNat l.length) = _
    rw [if_pos (by omega)]; omega
  rw [e1, e2, List.take_of_length_le (by rw [List.length_drop]; exact Nat.le_refl _)]
theorem app_one {bk : Bk.Book} {sc : C} {m w pl : Int} {t : T} {k : Nat} (hk : k < 52) {nm : Str} {r : List D} (hr : r.length ≤ 10) {j : Nat} {c8 c9 c10 c11 c12 : C} {ts : List T} {ds : List D} (hpl : ixN ts.length pl = some j) (ht : t = .n .l ts) (hj : ts[j]? = some (.n .l (ds.map .d))) (hl : ds.length ≤ 1000) :
    L_l_wrong_0 (wE sc bk m w pl t (.val (tpD (nm, r))) (.val (.int (0 + (k : Int)))) c8 c9 c10 c11 c12) = .nx (wE sc bk m w pl (.n .l (ts.set j (.n .l ((ds ++ [tpD (zN k, r)]).map .d)))) (.val (tpD (nm, r))) (.val (.int (0 + (k : Int)))) (.val (.str (zN k))) c9 c10 c11 c12) := by
  subst ht
  unfold L_l_wrong_0
  have z26 : (0 : Int) < 26 := by decide
  have z26' : (26 : Int) < 2 ^ 250 := by decide
  have q1 := abc26 (k := k % 26) (by omega)
  have q2 := pq2 (k := k / 26) (by omega)
  rw [show ((k % 26 : Nat) : Int) = (0 + (k : Int)) % 26 by omega] at q1
  rw [show ((k / 26 : Nat) : Int) = (0 + (k : Int)) / 26 by omega] at q2
  have s1 : gAdd (.str "z") (.str ⟨#[97 + k % 26]⟩) = some (.str ⟨[122, 97 + k % 26].toArray⟩) := by
    rw [ev_add_s (by rw [z_ok]; show ((1 : Nat) : Int) + ((1 : Nat) : Int) ≤ 1000000; decide), z_ok]
    rw [show (⟨#[122]⟩ : Str) = ⟨[122].toArray⟩ from rfl, show (⟨#[97 + k % 26]⟩ : Str) = ⟨[97 + k % 26].toArray⟩ from rfl, app_eq]; rfl
  have s2 : gAdd (.str ⟨[122, 97 + k % 26].toArray⟩) (.str ⟨#[112 + k / 26]⟩) = some (.str (zN k)) := by
    rw [ev_add_s (by show ((2 : Nat) : Int) + ((1 : Nat) : Int) ≤ 1000000; decide)]
    rw [show (⟨#[112 + k / 26]⟩ : Str) = ⟨[112 + k / 26].toArray⟩ from rfl, app_eq]; rfl
  have s3 : gAdd (.tuple [.str (zN k)]) (.tuple r) = some (tpD (zN k, r)) := by
    rw [ev_add_tt (by simp; omega)]; rfl
  have sg : (e2 gAdd (e2 gAdd (eC (.str "z")) (e2 gIxS (eC (.str "abcdefghijklmnopqrstuvwxyz")) (e2 gModA (eV 7) (eC (.int 26))))) (e2 gIxS (eC (.str "pq")) (e2 gDivA (eV 7) (eC (.int 26))))) (wE sc bk m w pl (.n .l ts) (.val (tpD (nm, r))) (.val (.int (0 + (k : Int)))) c8 c9 c10 c11 c12) = some (.str (zN k)) := by
    simp only [EV0, EV1, EV2, EV3, EV4, EV5, decide_true, decide_false, List.nil_append, List.cons_append, z26, z26', q1, q2, s1, s2]
  rw [ev_seq, ev_set, sg, ev_oset, ev_seq_nx]
  have ap := appP_at (gp := pI (eV 5) (pNm 4)) (fn := nD (e2 gAdd (eTup (aCons (eV 8) aNil)) (e3 gSl (eV 6) (pS (eC (.int 1))) pN))) (env := (wE sc bk m w pl (.n .l ts) (.val (tpD (nm, r))) (.val (.int (0 + (k : Int)))) c8 c9 c10 c11 c12).set 8 (.val (.str (zN k)))) (i := 4) (p := [j]) (ts := ds.map .d) (u := .d (tpD (zN k, r)))
    (pI_at (k := pl) (ts := ts) (j := j) (i := 4) (p := []) rfl rfl rfl hpl) (by show T.sub [j] (.n .l ts) = _; rw [ev_subS, hj]; rfl) (by simp only [EV0, EV1, EV2, EV3, EV4, EV5, decide_true, decide_false, List.nil_append, List.cons_append, cut_tp, s3]) (by rw [List.length_map]; omega)
  rw [ev_dropX, ap, ev_oDropX]
  show Out.nx (putAt _ (4, [j]) _) = _
  rw [ev_putAt]
  have e4 : ((wE sc bk m w pl (.n .l ts) (.val (tpD (nm, r))) (.val (.int (0 + (k : Int)))) c8 c9 c10 c11 c12).set 8 (.val (.str (zN k))))[4]? = some (.own none (.n .l ts)) := rfl
  rw [e4, ev_oPutA, ev_putS, hj, ev_oTp, ev_put0, List.map_append]
  rfl
theorem grow_loop {bk : Bk.Book} {sc : C} {m w pl : Int} {n : Nat} (hn : n ≤ 36) {nm : Str} {r : List D} (hr : r.length ≤ 10) {j : Nat} (hj : j < 3) (hpl : ixN 3 pl = some j) {c7 c8 c9 c10 c11 c12 : C} {ts : List T} (h3 : ts.length = 3) {ds : List D} (hd : ts[j]? = some (.n .l (ds.map .d))) (hl : ds.length ≤ 100) :
    ∃ c7' c8', forF (tgN 7) L_l_wrong_0 (rng 0 n) (wE sc bk m w pl (.n .l ts) (.val (tpD (nm, r))) c7 c8 c9 c10 c11 c12) = .nx (wE sc bk m w pl (.n .l (ts.set j (.n .l ((ds ++ (List.range n).map fun k => tpD (zN k, r)).map .d)))) (.val (tpD (nm, r))) c7' c8' c9 c10 c11 c12) := by
  obtain ⟨e, he, c7', c8', rfl⟩ := forF_rng (lo := 0) (n := n) (v := 7) (b := L_l_wrong_0) (env := wE sc bk m w pl (.n .l ts) (.val (tpD (nm, r))) c7 c8 c9 c10 c11 c12)
    (fun i env => ∃ c7 c8, env = wE sc bk m w pl (.n .l (ts.set j (.n .l ((ds ++ (List.range i).map fun k => tpD (zN k, r)).map .d)))) (.val (tpD (nm, r))) c7 c8 c9 c10 c11 c12)
    ⟨_, _, by
      rw [List.range_zero, List.map_nil, List.append_nil, set_same hd]⟩ (fun i env hi hI => by
      obtain ⟨c7, c8, rfl⟩ := hI
      have := app_one (bk := bk) (sc := sc) (m := m) (w := w) (pl := pl) (t := .n .l (ts.set j (.n .l ((ds ++ (List.range i).map fun k => tpD (zN k, r)).map .d)))) (k := i) (by omega) (nm := nm) hr (j := j) (c8 := c8) (c9 := c9) (c10 := c10) (c11 := c11) (c12 := c12) (by rw [List.length_set, h3]; exact hpl) rfl (List.getElem?_set_self (by omega)) (by rw [List.length_append, List.length_map, List.length_range]; omega)
      show onNx (L_l_wrong_0 (wE sc bk m w pl _ (.val (tpD (nm, r))) (.val (.int (0 + (i : Int)))) c8 c9 c10 c11 c12)) _
      rw [this, List.set_set, List.append_assoc, show (List.range i).map (fun k => tpD (zN k, r)) ++ [tpD (zN i, r)] = (List.range (i + 1)).map (fun k => tpD (zN k, r)) by rw [List.range_succ, List.map_append]; rfl]
      exact ⟨_, _, rfl⟩)
  exact ⟨c7', c8', he⟩
end DL
set_option Elab.async false
set_option linter.all false
set_option maxRecDepth 100000
set_option maxHeartbeats 4000000
set_option exponentiation.threshold 10000
namespace DL
open PySem PySem.Spec L2
open Bk (okS)
abbrev SFZ : List C → Out := sFzT 4 (sRetX (xN (nD (eTup (aCons (e2 gIxS (eV 4) (eC (.int 0))) (aCons (e2 gIxS (eV 4) (eC (.int 1))) (aCons (e2 gIxS (eV 4) (eC (.int 2))) aNil)))))))
theorem sfz_ok {bk0 : Bk.Book} {sc : C} {m w pl : Int} {c6 c7 c8 c9 c10 c11 c12 : C} (bk' : Bk.Book) (h1 : WB bk') (h2 : ¬Gd bk') : Res (SFZ (wE sc bk0 m w pl (bkT bk') c6 c7 c8 c9 c10 c11 c12)) :=
  wrong_fin rfl (by show 4 < 13; decide) h1 h2
theorem wn_grow {l : List Str} (hw : WN l) (h10 : l.length ≤ 10) {n : Nat} (hn : n ≤ 36) (q : Nat) : WN ((l ++ (List.range n).map zN).drop q) := by
  refine ⟨by rw [List.length_drop, List.length_append, List.length_map, List.length_range]; omega, fun s m => ?_⟩
  rcases List.mem_append.mp (List.mem_of_mem_drop m) with m | m
  · exact hw.2 s m
  · obtain ⟨k, hk, rfl⟩ := List.mem_map.mp m
    have := List.mem_range.mp hk
    exact zN_ok k (by omega)
theorem way1r {bk : Bk.Book} (hg : GB bk) (hn : NLs bk) (hw : WB bk) {sc : C} {m w : Int} (m0 : 0 ≤ m) {c6 c7 c8 c9 c10 c11 c12 : C} :
    Res (oSeq (sSeq (sSet 6 (rLeaf (rI (eC (.int 0)) (rI (eV 5) (rN 4))))) (sSeq (sFor (iRng1F (e2 gAdd (eC (.int 7)) (e2 gModA (e2 gDivA (eV 2) (eC (.int 8))) (eC (.int 30))))) (tgN 7) L_l_wrong_0)
      (sIxP (pNm 4) (eV 5) (xN (nL (eFvT 4 (e3 gSlL (e2 gIxS (eV 4) (eV 5)) (pS (eNeg (eC (.int 40)))) pN)))))) (wE sc bk m w 1 (bkT bk) c6 c7 c8 c9 c10 c11 c12)) SFZ) := by
  obtain ⟨g1, g2, g3, l1, l2, l3⟩ := id hg
  obtain ⟨_, _, _, p1, p2, p3⟩ := id hn
  obtain ⟨its, rus, des⟩ := bk
  dsimp only at l1 l2 l3 p1 p2 p3
  obtain ⟨r0, rs, rfl⟩ : ∃ r0 rs, rus = r0 :: rs := by
    cases rus with
    | nil => cases p2
    | cons r rs => exact ⟨r, rs, rfl⟩
  have z8 : (0 : Int) < 8 := by decide
  have z8' : (8 : Int) < 2 ^ 250 := by decide
  have z30 : (0 : Int) < 30 := by decide
  have rl : rLeaf (rI (eC (.int 0)) (rI (eV 5) (rN 4))) (wE sc ⟨its, r0 :: rs, des⟩ m w 1 (bkT ⟨its, r0 :: rs, des⟩) c6 c7 c8 c9 c10 c11 c12) = some (tpD (r0.nm, [.tuple (r0.co.map .int), .int r0.rest])) := by
    have ix : ixN (((r0 :: rs).map ruD).map T.d).length 0 = some 0 := ixN_pos (by decide) (by rw [List.length_map, List.length_map, List.length_cons]; omega)
    rw [ev_rLeaf, ev_rI, ev_rI, ev_rN]
    show oLeaf (oRI (some (T.n .l (((r0 :: rs).map ruD).map T.d))) (some (.int 0))) = _
    rw [ev_oRI, ix]; rfl
  rw [ev_seq, ev_set, rl, ev_oset, ev_seq_nx]
  have q0 := Int.emod_nonneg (m / 8) (b := 30) (by decide)
  have q1 := Int.emod_lt_of_pos (m / 8) z30
  have v1 : -(2 ^ 62) ≤ 7 + m / 8 % 30 := by omega
  have v2 : 7 + m / 8 % 30 ≤ 16777216 := by omega
  have nn : (7 + m / 8 % 30).toNat ≤ 36 := by omega
  have n7 : 7 ≤ (7 + m / 8 % 30).toNat := by omega
  have rg : iRng1F (e2 gAdd (eC (.int 7)) (e2 gModA (e2 gDivA (eV 2) (eC (.int 8))) (eC (.int 30)))) ((wE sc ⟨its, r0 :: rs, des⟩ m w 1 (bkT ⟨its, r0 :: rs, des⟩) c6 c7 c8 c9 c10 c11 c12).set 6 (.val (tpD (r0.nm, [.tuple (r0.co.map .int), .int r0.rest])))) = some (rng 0 (7 + m / 8 % 30).toNat) := by
    simp only [EV0, EV1, EV2, EV3, EV4, EV5, decide_true, decide_false, List.nil_append, List.cons_append, z8, z8', z30, v1, v2]
  generalize (7 + m / 8 % 30).toNat = n at rg nn n7
  obtain ⟨c7', c8', lp⟩ := grow_loop (bk := ⟨its, r0 :: rs, des⟩) (sc := sc) (m := m) (w := w) (pl := 1) (n := n) nn (nm := r0.nm) (r := [.tuple (r0.co.map .int), .int r0.rest]) (by simp) (j := 1) (by decide) (by decide) (c7 := c7) (c8 := c8) (c9 := c9) (c10 := c10) (c11 := c11) (c12 := c12)
    (ts := [T.n .l ((its.map itD).map .d), T.n .l (((r0 :: rs).map ruD).map .d), T.n .l ((des.map deD).map .d)]) rfl (ds := (r0 :: rs).map ruD) rfl (by rw [List.length_map]; omega)
  have ext : (r0 :: rs).map ruD ++ (List.range n).map (fun k => tpD (zN k, [.tuple (r0.co.map .int), .int r0.rest])) = ((r0 :: rs) ++ (List.range n).map fun k => ({ r0 with nm := zN k } : Bk.Rule)).map ruD := by
    rw [List.map_append, List.map_map]; rfl
  rw [ext] at lp
  have nmz : ((r0 :: rs) ++ (List.range n).map fun k => ({ r0 with nm := zN k } : Bk.Rule)).map (·.nm) = (r0 :: rs).map (·.nm) ++ (List.range n).map zN := by
    rw [List.map_append, List.map_map]; rfl
  have lnz : ((r0 :: rs) ++ (List.range n).map fun k => ({ r0 with nm := zN k } : Bk.Rule)).length = (r0 :: rs).length + n := by rw [List.length_append, List.length_map, List.length_range]
  generalize (r0 :: rs) ++ (List.range n).map (fun k => ({ r0 with nm := zN k } : Bk.Rule)) = ru2 at lp nmz lnz
  replace lp := lp.trans (show _ = Out.nx (wE sc ⟨its, r0 :: rs, des⟩ m w 1 (bkT ⟨its, ru2, des⟩) (.val (tpD (r0.nm, [.tuple (r0.co.map .int), .int r0.rest]))) c7' c8' c9 c10 c11 c12) from rfl)
  rw [ev_seq, ev_for, rg, ev_ofor]
  refine (congrArg (fun o => Res (oSeq (oSeq o _) SFZ)) lp).mpr ?_
  rw [ev_seq_nx, ev_ixP, ev_xN, ev_nL]
  have fv : ∀ f : List C → Option D, eFvT 4 f (wE sc ⟨its, r0 :: rs, des⟩ m w 1 (bkT ⟨its, ru2, des⟩) (.val (tpD (r0.nm, [.tuple (r0.co.map .int), .int r0.rest]))) c7' c8' c9 c10 c11 c12) = flatN (f ((wE sc ⟨its, r0 :: rs, des⟩ m w 1 (bkT ⟨its, ru2, des⟩) (.val (tpD (r0.nm, [.tuple (r0.co.map .int), .int r0.rest]))) c7' c8' c9 c10 c11 c12).set 4 (.val (.list [.list (its.map itD), .list (ru2.map ruD), .list (des.map deD)])))) := fun f => fvT_at rfl (allL_LL _ _ _) (view_LL _ _ _)
  have a0 : atI [PyData.list (its.map itD), .list (ru2.map ruD), .list (des.map deD)] 1 = some (.list (ru2.map ruD)) := rfl
  have cn : cutD (ru2.map ruD) (some (-40)) none = (ru2.drop (ru2.length - 40)).map ruD := by
    rw [show (-40 : Int) = -((40 : Nat) : Int) by decide, cut_neg (by decide), List.length_map, List.map_drop]
  have fe : eFvT 4 (e3 gSlL (e2 gIxS (eV 4) (eV 5)) (pS (eNeg (eC (.int 40)))) pN) (wE sc ⟨its, r0 :: rs, des⟩ m w 1 (bkT ⟨its, ru2, des⟩) (.val (tpD (r0.nm, [.tuple (r0.co.map .int), .int r0.rest]))) c7' c8' c9 c10 c11 c12) = some (.list ((ru2.drop (ru2.length - 40)).map ruD)) := by
    rw [fv]
    simp only [EV0, EV1, EV2, EV3, EV4, EV5, decide_true, decide_false, List.nil_append, List.cons_append, a0, cn]
    exact flatN_ok (noLs_map noL_ru _)
  rw [fe, ev_oNL, ev_ms, put_LL (xs := its.map itD) (ys := ru2.map ruD) (zs := des.map deD) (j := 1) (k := 1) rfl rfl (by decide), ev_seq_nx]
  refine sfz_ok ⟨its, ru2.drop (ru2.length - 40), des⟩ ⟨hw.1, ?_, hw.2.2⟩ fun h => ?_
  · show WN ((ru2.drop (ru2.length - 40)).map (·.nm))
    rw [List.map_drop, nmz]
    exact wn_grow hw.2.1 (by rw [List.length_map]; show (r0 :: rs).length ≤ 10; omega) nn _
  · have h := h.1.2.1.2.1
    dsimp only at h
    rw [List.length_drop] at h
    omega
theorem way1d {bk : Bk.Book} (hg : GB bk) (hn : NLs bk) (hw : WB bk) {sc : C} {m w : Int} (m0 : 0 ≤ m) {c6 c7 c8 c9 c10 c11 c12 : C} :
    Res (oSeq (sSeq (sSet 6 (rLeaf (rI (eC (.int 0)) (rI (eV 5) (rN 4))))) (sSeq (sFor (iRng1F (e2 gAdd (eC (.int 7)) (e2 gModA (e2 gDivA (eV 2) (eC (.int 8))) (eC (.int 30))))) (tgN 7) L_l_wrong_0)
      (sIxP (pNm 4) (eV 5) (xN (nL (eFvT 4 (e3 gSlL (e2 gIxS (eV 4) (eV 5)) (pS (eNeg (eC (.int 40)))) pN)))))) (wE sc bk m w 2 (bkT bk) c6 c7 c8 c9 c10 c11 c12)) SFZ) := by
  obtain ⟨g1, g2, g3, l1, l2, l3⟩ := id hg
  obtain ⟨_, _, _, p1, p2, p3⟩ := id hn
  obtain ⟨its, rus, des⟩ := bk
  dsimp only at l1 l2 l3 p1 p2 p3
  obtain ⟨r0, rs, rfl⟩ : ∃ r0 rs, des = r0 :: rs := by
    cases des with
    | nil => cases p3
    | cons r rs => exact ⟨r, rs, rfl⟩
  have z8 : (0 : Int) < 8 := by decide
  have z8' : (8 : Int) < 2 ^ 250 := by decide
  have z30 : (0 : Int) < 30 := by decide
  have rl : rLeaf (rI (eC (.int 0)) (rI (eV 5) (rN 4))) (wE sc ⟨its, rus, r0 :: rs⟩ m w 2 (bkT ⟨its, rus, r0 :: rs⟩) c6 c7 c8 c9 c10 c11 c12) = some (tpD (r0.nm, [.int r0.lo, .int r0.hi, .tuple (r0.ch.map chD)])) := by
    have ix : ixN (((r0 :: rs).map deD).map T.d).length 0 = some 0 := ixN_pos (by decide) (by rw [List.length_map, List.length_map, List.length_cons]; omega)
    rw [ev_rLeaf, ev_rI, ev_rI, ev_rN]
    show oLeaf (oRI (some (T.n .l (((r0 :: rs).map deD).map T.d))) (some (.int 0))) = _
    rw [ev_oRI, ix]; rfl
  rw [ev_seq, ev_set, rl, ev_oset, ev_seq_nx]
  have q0 := Int.emod_nonneg (m / 8) (b := 30) (by decide)
  have q1 := Int.emod_lt_of_pos (m / 8) z30
  have v1 : -(2 ^ 62) ≤ 7 + m / 8 % 30 := by omega
  have v2 : 7 + m / 8 % 30 ≤ 16777216 := by omega
  have nn : (7 + m / 8 % 30).toNat ≤ 36 := by omega
  have n7 : 7 ≤ (7 + m / 8 % 30).toNat := by omega
  have rg : iRng1F (e2 gAdd (eC (.int 7)) (e2 gModA (e2 gDivA (eV 2) (eC (.int 8))) (eC (.int 30)))) ((wE sc ⟨its, rus, r0 :: rs⟩ m w 2 (bkT ⟨its, rus, r0 :: rs⟩) c6 c7 c8 c9 c10 c11 c12).set 6 (.val (tpD (r0.nm, [.int r0.lo, .int r0.hi, .tuple (r0.ch.map chD)])))) = some (rng 0 (7 + m / 8 % 30).toNat) := by
    simp only [EV0, EV1, EV2, EV3, EV4, EV5, decide_true, decide_false, List.nil_append, List.cons_append, z8, z8', z30, v1, v2]
  generalize (7 + m / 8 % 30).toNat = n at rg nn n7
  obtain ⟨c7', c8', lp⟩ := grow_loop (bk := ⟨its, rus, r0 :: rs⟩) (sc := sc) (m := m) (w := w) (pl := 2) (n := n) nn (nm := r0.nm) (r := [.int r0.lo, .int r0.hi, .tuple (r0.ch.map chD)]) (by simp) (j := 2) (by decide) (by decide) (c7 := c7) (c8 := c8) (c9 := c9) (c10 := c10) (c11 := c11) (c12 := c12)
    (ts := [T.n .l ((its.map itD).map .d), T.n .l ((rus.map ruD).map .d), T.n .l (((r0 :: rs).map deD).map .d)]) rfl (ds := (r0 :: rs).map deD) rfl (by rw [List.length_map]; omega)
  have ext : (r0 :: rs).map deD ++ (List.range n).map (fun k => tpD (zN k, [.int r0.lo, .int r0.hi, .tuple (r0.ch.map chD)])) = ((r0 :: rs) ++ (List.range n).map fun k => ({ r0 with nm := zN k } : Bk.Deed)).map deD := by
    rw [List.map_append, List.map_map]; rfl
  rw [ext] at lp
  have nmz : ((r0 :: rs) ++ (List.range n).map fun k => ({ r0 with nm := zN k } : Bk.Deed)).map (·.nm) = (r0 :: rs).map (·.nm) ++ (List.range n).map zN := by
    rw [List.map_append, List.map_map]; rfl
  have lnz : ((r0 :: rs) ++ (List.range n).map fun k => ({ r0 with nm := zN k } : Bk.Deed)).length = (r0 :: rs).length + n := by rw [List.length_append, List.length_map, List.length_range]
  generalize (r0 :: rs) ++ (List.range n).map (fun k => ({ r0 with nm := zN k } : Bk.Deed)) = ru2 at lp nmz lnz
  replace lp := lp.trans (show _ = Out.nx (wE sc ⟨its, rus, r0 :: rs⟩ m w 2 (bkT ⟨its, rus, ru2⟩) (.val (tpD (r0.nm, [.int r0.lo, .int r0.hi, .tuple (r0.ch.map chD)]))) c7' c8' c9 c10 c11 c12) from rfl)
  rw [ev_seq, ev_for, rg, ev_ofor]
  refine (congrArg (fun o => Res (oSeq (oSeq o _) SFZ)) lp).mpr ?_
  rw [ev_seq_nx, ev_ixP, ev_xN, ev_nL]
  have fv : ∀ f : List C → Option D, eFvT 4 f (wE sc ⟨its, rus, r0 :: rs⟩ m w 2 (bkT ⟨its, rus, ru2⟩) (.val (tpD (r0.nm, [.int r0.lo, .int r0.hi, .tuple (r0.ch.map chD)]))) c7' c8' c9 c10 c11 c12) = flatN (f ((wE sc ⟨its, rus, r0 :: rs⟩ m w 2 (bkT ⟨its, rus, ru2⟩) (.val (tpD (r0.nm, [.int r0.lo, .int r0.hi, .tuple (r0.ch.map chD)]))) c7' c8' c9 c10 c11 c12).set 4 (.val (.list [.list (its.map itD), .list (rus.map ruD), .list (ru2.map deD)])))) := fun f => fvT_at rfl (allL_LL _ _ _) (view_LL _ _ _)
  have a0 : atI [PyData.list (its.map itD), .list (rus.map ruD), .list (ru2.map deD)] 2 = some (.list (ru2.map deD)) := rfl
  have cn : cutD (ru2.map deD) (some (-40)) none = (ru2.drop (ru2.length - 40)).map deD := by
    rw [show (-40 : Int) = -((40 : Nat) : Int) by decide, cut_neg (by decide), List.length_map, List.map_drop]
  have fe : eFvT 4 (e3 gSlL (e2 gIxS (eV 4) (eV 5)) (pS (eNeg (eC (.int 40)))) pN) (wE sc ⟨its, rus, r0 :: rs⟩ m w 2 (bkT ⟨its, rus, ru2⟩) (.val (tpD (r0.nm, [.int r0.lo, .int r0.hi, .tuple (r0.ch.map chD)]))) c7' c8' c9 c10 c11 c12) = some (.list ((ru2.drop (ru2.length - 40)).map deD)) := by
    rw [fv]
    simp only [EV0, EV1, EV2, EV3, EV4, EV5, decide_true, decide_false, List.nil_append, List.cons_append, a0, cn]
    exact flatN_ok (noLs_map noL_de _)
  rw [fe, ev_oNL, ev_ms, put_LL (xs := its.map itD) (ys := rus.map ruD) (zs := ru2.map deD) (j := 2) (k := 2) rfl rfl (by decide), ev_seq_nx]
  refine sfz_ok ⟨its, rus, ru2.drop (ru2.length - 40)⟩ ⟨hw.1, hw.2.1, ?_⟩ fun h => ?_
  · show WN ((ru2.drop (ru2.length - 40)).map (·.nm))
    rw [List.map_drop, nmz]
    exact wn_grow hw.2.2 (by rw [List.length_map]; show (r0 :: rs).length ≤ 10; omega) nn _
  · have h := h.1.2.2.2.1
    dsimp only at h
    rw [List.length_drop] at h
    omega
theorem resize_len {α : Type} {xs : List α} {n : Int} {a : α} (h : 1 ≤ xs.length) : (if n % 2 = 0 then xs.drop 1 else xs ++ [a]).length ≠ xs.length := by
  split
  · rw [List.length_drop]; omega
  · rw [List.length_append]; simp
theorem resize_map {α : Type} {f : α → D} {xs : List α} {n : Int} {a : α} : (if n % 2 = 0 then (xs.map f).drop 1 else xs.map f ++ [f a]) = (if n % 2 = 0 then xs.drop 1 else xs ++ [a]).map f := by
  split
  · rw [List.map_drop]
  · rw [List.map_append]; rfl
theorem wn_set {α : Type} {nm : α → Str} {xs : List α} {k : Nat} {a b : α} (hk : xs[k]? = some a) (he : nm b = nm a) : (xs.set k b).map nm = xs.map nm := by
  rw [List.map_set, he]
  exact set_same (by rw [List.getElem?_map, hk]; rfl)
def rzR (r : Bk.Rule) (n : Int) : Bk.Rule := { r with co := if n % 2 = 0 then r.co.drop 1 else r.co ++ [0] }
theorem way5 {bk : Bk.Book} (hg : GB bk) (hn : NLs bk) (hw : WB bk) {sc : C} {m w : Int} (m0 : 0 ≤ m) {pl : Int} {c6 c7 c8 c9 c10 c11 c12 : C} :
    Res (oSeq (sSeq (sSet 10 (e2 gModA (e2 gDivA (eV 2) (eC (.int 3))) (e1 gLen (aCons (e2 gIxS (eV 1) (eC (.int 1))) aNil))))
      (sSeq (sSet 11 (e2 gIxS (e2 gIxS (eV 1) (eC (.int 1))) (eV 10)))
      (sIxP (pI (eC (.int 1)) (pNm 4)) (eV 10) (xN (nD (eTup (aCons (e2 gIxS (eV 11) (eC (.int 0))) (aCons (e1 f_l_resized (aCons (e2 gIxS (eV 11) (eC (.int 1))) (aCons (e2 gDivA (eV 2) (eC (.int 64))) (aCons (eC (.int 0)) aNil)))) (aCons (e2 gIxS (eV 11) (eC (.int 2))) aNil))))))))
      (wE sc bk m w pl (bkT bk) c6 c7 c8 c9 c10 c11 c12)) SFZ) := by
  obtain ⟨g1, g2, g3, l1, l2, l3⟩ := id hg
  obtain ⟨_, _, _, p1, p2, p3⟩ := id hn
  have z3 : (0 : Int) < 3 := by decide
  have z3' : (3 : Int) < 2 ^ 250 := by decide
  have z64 : (0 : Int) < 64 := by decide
  have z64' : (64 : Int) < 2 ^ 250 := by decide
  have lz : (0 : Int) < ((bk.rus.length : Nat) : Int) := by omega
  obtain ⟨k, hk⟩ : ∃ k : Nat, m / 3 % (bk.rus.length : Int) = (k : Int) := ⟨(m / 3 % (bk.rus.length : Int)).toNat, by have := Int.emod_nonneg (m / 3) (b := (bk.rus.length : Int)) (by omega); omega⟩
  have hkl : k < bk.rus.length := by have := Int.emod_lt_of_pos (m / 3) lz; omega
  obtain ⟨r, er⟩ : ∃ r, bk.rus[k]? = some r := ⟨_, List.getElem?_eq_getElem hkl⟩
  have ar : atI (bk.rus.map ruD) (k : Int) = some (ruD r) := atZr er rfl
  have hr := g2 r (List.mem_of_getElem? er)
  have rs := resized_ok (xs := r.co.map .int) (n := m / 64) (d := .int 0) (by rw [List.length_map]; omega)
  rw [resize_map] at rs
  have ix1 : (xN (nD (eTup (aCons (e2 gIxS (eV 11) (eC (.int 0))) (aCons (e1 f_l_resized (aCons (e2 gIxS (eV 11) (eC (.int 1))) (aCons (e2 gDivA (eV 2) (eC (.int 64))) (aCons (eC (.int 0)) aNil)))) (aCons (e2 gIxS (eV 11) (eC (.int 2))) aNil)))))) (wE sc bk m w pl (bkT bk) c6 c7 c8 c9 (.val (.int (k : Nat))) (.val (ruD r)) c12) =
      some (wE sc bk m w pl (bkT bk) c6 c7 c8 c9 (.val (.int (k : Nat))) (.val (ruD r)) c12, .d (ruD (rzR r (m / 64)))) := by
    simp only [EV0, EV1, EV2, EV3, EV4, EV5, decide_true, decide_false, List.nil_append, List.cons_append, i_ru0, i_ru1, i_ru2, z64, z64', rs]
    rfl
  have st1 : sSet 10 (e2 gModA (e2 gDivA (eV 2) (eC (.int 3))) (e1 gLen (aCons (e2 gIxS (eV 1) (eC (.int 1))) aNil))) (wE sc bk m w pl (bkT bk) c6 c7 c8 c9 c10 c11 c12) = .nx (wE sc bk m w pl (bkT bk) c6 c7 c8 c9 (.val (.int (k : Nat))) c11 c12) := by
    simp only [EV0, EV1, EV2, EV3, EV4, EV5, decide_true, decide_false, List.nil_append, List.cons_append, i_bk1, List.length_map, z3, z3', lz, hk]
  have st2 : sSet 11 (e2 gIxS (e2 gIxS (eV 1) (eC (.int 1))) (eV 10)) (wE sc bk m w pl (bkT bk) c6 c7 c8 c9 (.val (.int (k : Nat))) c11 c12) = .nx (wE sc bk m w pl (bkT bk) c6 c7 c8 c9 (.val (.int (k : Nat))) (.val (ruD r)) c12) := by
    simp only [EV0, EV1, EV2, EV3, EV4, EV5, decide_true, decide_false, List.nil_append, List.cons_append, i_bk1, ar]
  rw [ev_seq, st1, ev_seq_nx, ev_seq, st2, ev_seq_nx, ev_ixP, ix1]
  rw [ixP_at (i := 4) (p := [1]) (ts := (bk.rus.map ruD).map .d) (j := k) (k := (k : Int)) (pI_at (k := 1) (ts := [T.n .l ((bk.its.map itD).map .d), T.n .l ((bk.rus.map ruD).map .d), T.n .l ((bk.des.map deD).map .d)]) (i := 4) (p := []) rfl rfl rfl rfl) rfl rfl (by rw [ixN_pos (by omega) (by rw [List.length_map, List.length_map]; omega), Int.toNat_natCast]), ev_seq_nx]
  have pe : putAt (wE sc bk m w pl (bkT bk) c6 c7 c8 c9 (.val (.int (k : Nat))) (.val (ruD r)) c12) (4, [1]) (.n .l (((bk.rus.map ruD).map .d).set k (.d (ruD (rzR r (m / 64)))))) =
      wE sc bk m w pl (bkT ⟨bk.its, bk.rus.set k (rzR r (m / 64)), bk.des⟩) c6 c7 c8 c9 (.val (.int (k : Nat))) (.val (ruD r)) c12 := by
    rw [show ((bk.rus.map ruD).map T.d).set k (.d (ruD (rzR r (m / 64)))) = ((bk.rus.set k (rzR r (m / 64))).map ruD).map T.d by rw [List.map_set, List.map_set]]
    rfl
  rw [pe]
  refine sfz_ok _ ⟨hw.1, ?_, hw.2.2⟩ fun h => ?_
  · show WN ((bk.rus.set k (rzR r (m / 64))).map (·.nm))
    rw [wn_set (nm := fun x : Bk.Rule => x.nm) (b := rzR r (m / 64)) er rfl]; exact hw.2.1
  · have h := h.2.1 (rzR r (m / 64)) (List.mem_of_getElem? (i := k) (List.getElem?_set_self hkl))
    exact resize_len (by rw [hr.2.1]; exact p1) (h.trans hr.2.1.symm)
def rzE (d : Bk.Deed) (n : Int) : Bk.Deed := { d with ch := if n % 2 = 0 then d.ch.drop 1 else d.ch ++ [(0, 0)] }
def hiE (d : Bk.Deed) (n : Int) : Bk.Deed := { d with lo := d.hi + 1 + n % 3 }
theorem way6 {bk : Bk.Book} (hg : GB bk) (hn : NLs bk) (hw : WB bk) {sc : C} {m w : Int} (m0 : 0 ≤ m) {pl : Int} {c6 c7 c8 c9 c10 c11 c12 : C} :
    Res (oSeq (sSeq (sSet 10 (e2 gModA (e2 gDivA (eV 2) (eC (.int 3))) (e1 gLen (aCons (e2 gIxS (eV 1) (eC (.int 2))) aNil))))
      (sSeq (sSet 12 (e2 gIxS (e2 gIxS (eV 1) (eC (.int 2))) (eV 10)))
      (sSeq (sIxP (pI (eC (.int 2)) (pNm 4)) (eV 10) (xN (nD (eTup (aCons (e2 gIxS (eV 12) (eC (.int 0))) (aCons (e2 gAdd (e2 gAdd (e2 gIxS (eV 12) (eC (.int 2))) (eC (.int 1))) (e2 gModA (e2 gDivA (eV 2) (eC (.int 64))) (eC (.int 3)))) (aCons (e2 gIxS (eV 12) (eC (.int 2))) (aCons (e2 gIxS (eV 12) (eC (.int 3))) aNil))))))))
      (sIf (tB (e2 gEq (eV 3) (eC (.int 6)))) (sIxP (pI (eC (.int 2)) (pNm 4)) (eV 10) (xN (nD (e2 gAdd (e3 gSl (eV 12) pN (pS (eC (.int 3)))) (eTup (aCons (e1 f_l_resized (aCons (e2 gIxS (eV 12) (eC (.int 3))) (aCons (e2 gDivA (eV 2) (eC (.int 64))) (aCons (eTup (aCons (eC (.int 0)) (aCons (eC (.int 0)) aNil))) aNil)))) aNil)))))) sNil)))
      (wE sc bk m w pl (bkT bk) c6 c7 c8 c9 c10 c11 c12)) SFZ) := by
  obtain ⟨g1, g2, g3, l1, l2, l3⟩ := id hg
  obtain ⟨_, _, _, p1, p2, p3⟩ := id hn
  have z3 : (0 : Int) < 3 := by decide
  have z3' : (3 : Int) < 2 ^ 250 := by decide
  have z64 : (0 : Int) < 64 := by decide
  have z64' : (64 : Int) < 2 ^ 250 := by decide
  have lz : (0 : Int) < ((bk.des.length : Nat) : Int) := by omega
  obtain ⟨k, hk⟩ : ∃ k : Nat, m / 3 % (bk.des.length : Int) = (k : Int) := ⟨(m / 3 % (bk.des.length : Int)).toNat, by have := Int.emod_nonneg (m / 3) (b := (bk.des.length : Int)) (by omega); omega⟩
  have hkl : k < bk.des.length := by have := Int.emod_lt_of_pos (m / 3) lz; omega
  obtain ⟨r, er⟩ : ∃ r, bk.des[k]? = some r := ⟨_, List.getElem?_eq_getElem hkl⟩
  have ar : atI (bk.des.map deD) (k : Int) = some (deD r) := atZr er rfl
  have hr := g3 r (List.mem_of_getElem? er)
  have rs := resized_ok (xs := r.ch.map chD) (n := m / 64) (d := chD (0, 0)) (by rw [List.length_map]; omega)
  rw [resize_map] at rs
  have cz : chD (0, 0) = .tuple [.int 0, .int 0] := rfl
  rw [cz] at rs
  have st1 : sSet 10 (e2 gModA (e2 gDivA (eV 2) (eC (.int 3))) (e1 gLen (aCons (e2 gIxS (eV 1) (eC (.int 2))) aNil))) (wE sc bk m w pl (bkT bk) c6 c7 c8 c9 c10 c11 c12) = .nx (wE sc bk m w pl (bkT bk) c6 c7 c8 c9 (.val (.int (k : Nat))) c11 c12) := by
    simp only [EV0, EV1, EV2, EV3, EV4, EV5, decide_true, decide_false, List.nil_append, List.cons_append, i_bk2, List.length_map, z3, z3', lz, hk]
  have st2 : sSet 12 (e2 gIxS (e2 gIxS (eV 1) (eC (.int 2))) (eV 10)) (wE sc bk m w pl (bkT bk) c6 c7 c8 c9 (.val (.int (k : Nat))) c11 c12) = .nx (wE sc bk m w pl (bkT bk) c6 c7 c8 c9 (.val (.int (k : Nat))) c11 (.val (deD r))) := by
    simp only [EV0, EV1, EV2, EV3, EV4, EV5, decide_true, decide_false, List.nil_append, List.cons_append, i_bk2, ar]
  have put : ∀ (bx : List Bk.Deed) (x : Bk.Deed) (f : List C → Option T), bx.length = bk.des.length → f (wE sc bk m w pl (bkT ⟨bk.its, bk.rus, bx⟩) c6 c7 c8 c9 (.val (.int (k : Nat))) c11 (.val (deD r))) = some (.d (deD x)) →
      sIxP (pI (eC (.int 2)) (pNm 4)) (eV 10) (xN f) (wE sc bk m w pl (bkT ⟨bk.its, bk.rus, bx⟩) c6 c7 c8 c9 (.val (.int (k : Nat))) c11 (.val (deD r))) = .nx (wE sc bk m w pl (bkT ⟨bk.its, bk.rus, bx.set k x⟩) c6 c7 c8 c9 (.val (.int (k : Nat))) c11 (.val (deD r))) := fun bx x f hl hf => by
    rw [ev_ixP, ev_xN, hf, ev_ms]
    rw [ixP_at (i := 4) (p := [2]) (ts := (bx.map deD).map .d) (j := k) (k := (k : Int)) (pI_at (k := 2) (ts := [T.n .l ((bk.its.map itD).map .d), T.n .l ((bk.rus.map ruD).map .d), T.n .l ((bx.map deD).map .d)]) (i := 4) (p := []) rfl rfl rfl rfl) rfl rfl (by rw [ixN_pos (by omega) (by rw [List.length_map, List.length_map]; omega), Int.toNat_natCast])]
    rw [show ((bx.map deD).map T.d).set k (.d (deD x)) = ((bx.set k x).map deD).map T.d by rw [List.map_set, List.map_set]]
    rfl
  have ad : gAdd (.int (r.hi + 1)) (.int (m / 64 % 3)) = some (.int (r.hi + 1 + m / 64 % 3)) := rfl
  have v1 : nD (eTup (aCons (e2 gIxS (eV 12) (eC (.int 0))) (aCons (e2 gAdd (e2 gAdd (e2 gIxS (eV 12) (eC (.int 2))) (eC (.int 1))) (e2 gModA (e2 gDivA (eV 2) (eC (.int 64))) (eC (.int 3)))) (aCons (e2 gIxS (eV 12) (eC (.int 2))) (aCons (e2 gIxS (eV 12) (eC (.int 3))) aNil))))) (wE sc bk m w pl (bkT ⟨bk.its, bk.rus, bk.des⟩) c6 c7 c8 c9 (.val (.int (k : Nat))) c11 (.val (deD r))) = some (.d (deD (hiE r (m / 64)))) := by
    simp only [EV0, EV1, EV2, EV3, EV4, EV5, decide_true, decide_false, List.nil_append, List.cons_append, i_de0, i_de2, i_de3, z3, z64, z64']
    rfl
  have cu : gSl (deD r) none (some 3) = some (.tuple [.str r.nm, .int r.lo, .int r.hi]) := rfl
  have at' : gAdd (.tuple [.str r.nm, .int r.lo, .int r.hi]) (.tuple [.tuple ((if m / 64 % 2 = 0 then r.ch.drop 1 else r.ch ++ [(0, 0)]).map chD)]) = some (deD (rzE r (m / 64))) := by
    rw [ev_add_tt (by simp)]; rfl
  have v2 : ∀ bx, nD (e2 gAdd (e3 gSl (eV 12) pN (pS (eC (.int 3)))) (eTup (aCons (e1 f_l_resized (aCons (e2 gIxS (eV 12) (eC (.int 3))) (aCons (e2 gDivA (eV 2) (eC (.int 64))) (aCons (eTup (aCons (eC (.int 0)) (aCons (eC (.int 0)) aNil))) aNil)))) aNil))) (wE sc bk m w pl (bkT ⟨bk.its, bk.rus, bx⟩) c6 c7 c8 c9 (.val (.int (k : Nat))) c11 (.val (deD r))) = some (.d (deD (rzE r (m / 64)))) := fun bx => by
    simp only [EV0, EV1, EV2, EV3, EV4, EV5, decide_true, decide_false, List.nil_append, List.cons_append, i_de3, z64, z64', rs, cu, at']
  rw [ev_seq, st1, ev_seq_nx, ev_seq, st2, ev_seq_nx, ev_seq]
  refine (congrArg (fun o => Res (oSeq (oSeq o _) SFZ)) (put bk.des (hiE r (m / 64)) _ rfl v1)).mpr ?_
  rw [ev_seq_nx]
  by_cases h6 : w = 6
  · subst h6
    rw [show sIf (tB (e2 gEq (eV 3) (eC (.int 6)))) _ sNil _ = _ from by rw [ev_if, show tB (e2 gEq (eV 3) (eC (.int 6))) _ = some true from rfl, ev_if_t]]
    refine (congrArg (fun o => Res (oSeq o SFZ)) (put (bk.des.set k (hiE r (m / 64))) (rzE r (m / 64)) _ (List.length_set) (v2 _))).mpr ?_
    rw [ev_seq_nx, List.set_set]
    refine sfz_ok ⟨bk.its, bk.rus, bk.des.set k (rzE r (m / 64))⟩ ⟨hw.1, hw.2.1, ?_⟩ fun h => ?_
    · show WN ((bk.des.set k (rzE r (m / 64))).map (·.nm))
      rw [wn_set (nm := fun x : Bk.Deed => x.nm) (b := rzE r (m / 64)) er rfl]; exact hw.2.2
    · have h := (h.2.2 (rzE r (m / 64)) (List.mem_of_getElem? (i := k) (List.getElem?_set_self hkl))).1
      exact resize_len (by rw [hr.2.1]; exact p1) (h.trans hr.2.1.symm)
  · have t6 : tB (e2 gEq (eV 3) (eC (.int 6))) (wE sc bk m w pl (bkT ⟨bk.its, bk.rus, bk.des.set k (hiE r (m / 64))⟩) c6 c7 c8 c9 (.val (.int (k : Nat))) c11 (.val (deD r))) = some false := by
      show some (decide (w = 6)) = _
      rw [decide_eq_false h6]
    rw [ev_if, t6, ev_if_f, ev_nil, ev_seq_nx]
    refine sfz_ok ⟨bk.its, bk.rus, bk.des.set k (hiE r (m / 64))⟩ ⟨hw.1, hw.2.1, ?_⟩ fun h => ?_
    · show WN ((bk.des.set k (hiE r (m / 64))).map (·.nm))
      rw [wn_set (nm := fun x : Bk.Deed => x.nm) (b := hiE r (m / 64)) er rfl]; exact hw.2.2
    · have h := (h.2.2 (hiE r (m / 64)) (List.mem_of_getElem? (i := k) (List.getElem?_set_self hkl))).2
      have h : r.hi + 1 + m / 64 % 3 ≤ r.hi := h
      omega
end DL
set_option Elab.async false
set_option linter.all false
set_option maxRecDepth 100000
set_option maxHeartbeats 4000000
set_option exponentiation.threshold 10000
namespace DL
open PySem PySem.Spec L2
open Bk (okS)
theorem big_len {bk : Bk.Book} (h : 4 < bk.its.length ∨ 5 < bk.rus.length ∨ 6 < bk.des.length) : ¬Gd bk := fun g => by
  have a := g.1.1.2.1
  have b := g.1.2.1.2.1
  have c := g.1.2.2.2.1
  omega
theorem way1b {ns : List Int} {bk : Bk.Book} {m w pl : Int} (h0 : 0 ≤ pl) (h1 : pl < 3) {t : T} {c6 c7 c8 c9 c10 c11 c12 : C} {g : List C → Out} :
    Res (oSeq (sSeq (sSetL 9 (e1 f_l_counts (aCons (eVw 0) aNil)))
  (sSeq (sSetIx 9 (eV 5) (e2 gIxS (eLst (aCons (eC (.int 5)) (aCons (eC (.int 6)) (aCons (eC (.int 7)) aNil)))) (eV 5)))
  (sFz 9 (sRetX (xN (nD (e1 f_l_book (aCons (eVw 0) (aCons (eV 9) aNil)))))))) (wE (.ro false (.n .v ((ns.map PyData.int).map .d))) bk m w pl t c6 c7 c8 c9 c10 c11 c12)) g) := by
  obtain ⟨a, b, c, f1, hp, ha, hb, hc⟩ := counts_ok ns
  have p : pl = 0 ∨ pl = 1 ∨ pl = 2 := by omega
  have s0 : ∀ x : Int, setAt [PyData.int (a : Nat), PyData.int (b : Nat), PyData.int (c : Nat)] 0 (.int x) = some [PyData.int x, PyData.int (b : Nat), PyData.int (c : Nat)] := fun x => rfl
  have s1 : ∀ x : Int, setAt [PyData.int (a : Nat), PyData.int (b : Nat), PyData.int (c : Nat)] 1 (.int x) = some [PyData.int (a : Nat), PyData.int x, PyData.int (c : Nat)] := fun x => rfl
  have s2 : ∀ x : Int, setAt [PyData.int (a : Nat), PyData.int (b : Nat), PyData.int (c : Nat)] 2 (.int x) = some [PyData.int (a : Nat), PyData.int (b : Nat), PyData.int x] := fun x => rfl
  have i0 : atI [PyData.int 5, PyData.int 6, PyData.int 7] 0 = some (.int 5) := rfl
  have i1 : atI [PyData.int 5, PyData.int 6, PyData.int 7] 1 = some (.int 6) := rfl
  have i2 : atI [PyData.int 5, PyData.int 6, PyData.int 7] 2 = some (.int 7) := rfl
  rcases p with rfl | rfl | rfl
  · obtain ⟨bk', f2, hg, hn, _, l1, l2, l3⟩ := book_ok ns (a := 5) (b := b) (c := c) (by omega) (by omega) (by omega) (by omega)
    have f2 : f_l_book [.list (ns.map .int), .list [.int 5, .int (b : Nat), .int (c : Nat)]] = some (bkD bk') := f2
    simp only [EV0, EV1, EV2, EV3, EV4, EV5, decide_true, decide_false, List.nil_append, List.cons_append, f1, s0, i0, f2]
    exact ⟨bk', rfl, wb_gb hg hn, big_len (.inl (by omega))⟩
  · obtain ⟨bk', f2, hg, hn, _, l1, l2, l3⟩ := book_ok ns (a := a) (b := 6) (c := c) (by omega) (by omega) (by omega) (by omega)
    have f2 : f_l_book [.list (ns.map .int), .list [.int (a : Nat), .int 6, .int (c : Nat)]] = some (bkD bk') := f2
    simp only [EV0, EV1, EV2, EV3, EV4, EV5, decide_true, decide_false, List.nil_append, List.cons_append, f1, s1, i1, f2]
    exact ⟨bk', rfl, wb_gb hg hn, big_len (.inr (.inl (by omega)))⟩
  · obtain ⟨bk', f2, hg, hn, _, l1, l2, l3⟩ := book_ok ns (a := a) (b := b) (c := 7) (by omega) (by omega) (by omega) (by omega)
    have f2 : f_l_book [.list (ns.map .int), .list [.int (a : Nat), .int (b : Nat), .int 7]] = some (bkD bk') := f2
    simp only [EV0, EV1, EV2, EV3, EV4, EV5, decide_true, decide_false, List.nil_append, List.cons_append, f1, s2, i2, f2]
    exact ⟨bk', rfl, wb_gb hg hn, big_len (.inr (.inr (by omega)))⟩
theorem wrong_ok {ns : List Int} {bk : Bk.Book} (hg : GB bk) (hn : NLs bk) {n : Int} (h0 : 0 ≤ n) : ∃ bk', f_l_wrong [.n .v ((ns.map PyData.int).map .d), .d (bkD bk), .d (.int n)] = some ([], .d (bkD bk')) ∧ WB bk' ∧ ¬Gd bk' := by
  rw [fe_l_wrong]
  have hw := wb_gb hg hn
  suffices h : Res (b_l_wrong [roC false (.n .v ((ns.map PyData.int).map .d)), .val (bkD bk), .val (.int n), .und, .und, .und, .und, .und, .und, .und, .und, .und, .und]) by exact h
  unfold b_l_wrong
  have z8 : (0 : Int) < 8 := by decide
  have z8' : (8 : Int) < 2 ^ 250 := by decide
  have z3 : (0 : Int) < 3 := by decide
  have z3' : (3 : Int) < 2 ^ 250 := by decide
  have z2 : (0 : Int) < 2 := by decide
  have m0 : 0 ≤ n / 8 := by omega
  have w0 : 0 ≤ n % 8 := by omega
  have w1 : n % 8 < 8 := by omega
  have q0 : 0 ≤ n / 8 % 3 := by omega
  have q1 : n / 8 % 3 < 3 := by omega
  have A1 : sSet 3 (e2 gModA (eV 2) (eC (.int 8))) [roC false (.n .v ((ns.map PyData.int).map .d)), .val (bkD bk), .val (.int n), .und, .und, .und, .und, .und, .und, .und, .und, .und, .und] = .nx [.ro false (.n .v ((ns.map PyData.int).map .d)), .val (bkD bk), .val (.int n), .val (.int (n % 8)), .und, .und, .und, .und, .und, .und, .und, .und, .und] := by
    simp only [EV0, EV1, EV2, EV3, EV4, EV5, decide_true, decide_false, List.nil_append, List.cons_append, z8]; rfl
  have A2 : sSet 2 (e2 gDivA (eV 2) (eC (.int 8))) [.ro false (.n .v ((ns.map PyData.int).map .d)), .val (bkD bk), .val (.int n), .val (.int (n % 8)), .und, .und, .und, .und, .und, .und, .und, .und, .und] = .nx [.ro false (.n .v ((ns.map PyData.int).map .d)), .val (bkD bk), .val (.int (n / 8)), .val (.int (n % 8)), .und, .und, .und, .und, .und, .und, .und, .und, .und] := by
    simp only [EV0, EV1, EV2, EV3, EV4, EV5, decide_true, decide_false, List.nil_append, List.cons_append, z8, z8']
  have A3 : sSetX 4 (xN (nLst (nsCons (nL (e1 gList (aCons (e2 gIxS (eV 1) (eC (.int 0))) aNil))) (nsCons (nL (e1 gList (aCons (e2 gIxS (eV 1) (eC (.int 1))) aNil))) (nsCons (nL (e1 gList (aCons (e2 gIxS (eV 1) (eC (.int 2))) aNil))) nsNil))))) [.ro false (.n .v ((ns.map PyData.int).map .d)), .val (bkD bk), .val (.int (n / 8)), .val (.int (n % 8)), .und, .und, .und, .und, .und, .und, .und, .und, .und] = .nx [.ro false (.n .v ((ns.map PyData.int).map .d)), .val (bkD bk), .val (.int (n / 8)), .val (.int (n % 8)), .own none (bkT bk), .und, .und, .und, .und, .und, .und, .und, .und] := by
    simp only [EV0, EV1, EV2, EV3, EV4, EV5, decide_true, decide_false, List.nil_append, List.cons_append, i_bk0, i_bk1, i_bk2]
  have A4 : sSet 5 (e2 gModA (eV 2) (eC (.int 3))) [.ro false (.n .v ((ns.map PyData.int).map .d)), .val (bkD bk), .val (.int (n / 8)), .val (.int (n % 8)), .own none (bkT bk), .und, .und, .und, .und, .und, .und, .und, .und] = .nx (wE (.ro false (.n .v ((ns.map PyData.int).map .d))) bk (n / 8) (n % 8) (n / 8 % 3) (bkT bk) .und .und .und .und .und .und .und ) := by
    simp only [EV0, EV1, EV2, EV3, EV4, EV5, decide_true, decide_false, List.nil_append, List.cons_append, z3]
  rw [ev_seq, A1, ev_seq_nx, ev_seq, A2, ev_seq_nx, ev_seq, A3, ev_seq_nx, ev_seq, A4, ev_seq_nx]
  generalize n % 8 = w at w0 w1
  generalize n / 8 = m at m0 q0 q1
  generalize hpl : m % 3 = pl at q0 q1
  show Res (sSeq _ SFZ (wE (.ro false (.n .v ((ns.map PyData.int).map .d))) bk m w pl (bkT bk) .und .und .und .und .und .und .und))
  have t0 : ∀ {k : Int} {b : Bool} (_ : decide (w = k) = b), tB (e2 gEq (eV 3) (eC (.int k))) (wE (.ro false (.n .v ((ns.map PyData.int).map .d))) bk m w pl (bkT bk) .und .und .und .und .und .und .und) = some b := fun h => by rw [← h]; rfl
  have t5 : ∀ {b : Bool} (_ : decide (w < 5) = b), tB (e2 gLt (eV 3) (eC (.int 5))) (wE (.ro false (.n .v ((ns.map PyData.int).map .d))) bk m w pl (bkT bk) .und .und .und .und .und .und .und) = some b := fun h => by rw [← h]; rfl
  have tg : ∀ {b : Bool} (_ : decide (0 < pl) = b), tB (e2 gGt (eV 5) (eC (.int 0))) (wE (.ro false (.n .v ((ns.map PyData.int).map .d))) bk m w pl (bkT bk) .und .und .und .und .und .und .und) = some b := fun h => by rw [← h]; rfl
  have tm : ∀ {b : Bool} (_ : decide (m / 3 % 2 = 0) = b), tB (e2 gEq (e2 gModA (e2 gDivA (eV 2) (eC (.int 3))) (eC (.int 2))) (eC (.int 0))) (wE (.ro false (.n .v ((ns.map PyData.int).map .d))) bk m w pl (bkT bk) .und .und .und .und .und .und .und) = some b := fun h => by
    rw [← h]; simp only [EV0, EV1, EV2, EV3, EV4, EV5, decide_true, decide_false, List.nil_append, List.cons_append, z3, z3', z2]
  rw [ev_seq, ev_if]
  by_cases e0 : w = 0
  · rw [t0 (decide_eq_true e0), ev_if_t]
    exact way0 hw q0 q1 sfz_ok
  rw [t0 (decide_eq_false e0), ev_if_f, ev_if, ev_tAnd]
  by_cases e1' : w = 1
  · rw [t0 (decide_eq_true e1'), ev_oAnd_t, ev_tAnd]
    by_cases g : 0 < pl
    · rw [tg (decide_eq_true g), ev_oAnd_t]
      by_cases g2 : m / 3 % 2 = 0
      · rw [tm (decide_eq_true g2), ev_if_t]
        have p : pl = 1 ∨ pl = 2 := by omega
        rcases p with rfl | rfl
        · exact way1r hg hn hw m0
        · exact way1d hg hn hw m0
      · rw [tm (decide_eq_false g2), ev_if_f, ev_if, t0 (decide_eq_true e1'), ev_if_t]
        exact way1b q0 q1
    · rw [tg (decide_eq_false g), ev_oAnd_f, ev_if_f, ev_if, t0 (decide_eq_true e1'), ev_if_t]
      exact way1b q0 q1
  rw [t0 (decide_eq_false e1'), ev_oAnd_f, ev_if_f, ev_if, t0 (decide_eq_false e1'), ev_if_f, ev_if]
  by_cases e5 : w < 5
  · rw [t5 (decide_eq_true e5), ev_if_t]
    exact way2 hg hn hw m0 q0 q1 sfz_ok
  rw [t5 (decide_eq_false e5), ev_if_f, ev_if]
  by_cases e6 : w = 5
  · rw [t0 (decide_eq_true e6), ev_if_t]
    exact way5 hg hn hw m0
  rw [t0 (decide_eq_false e6), ev_if_f]
  exact way6 hg hn hw m0
end DL
set_option Elab.async false
set_option linter.all false
set_option maxRecDepth 100000
set_option maxHeartbeats 4000000
set_option exponentiation.threshold 10000
namespace DL
open PySem PySem.Spec L2
open Bk (okS)
def neg (its : List (Str × Int)) (r : Bk.Rule) : Bool := decide (Bk.dot r.co (stOf its) + r.rest < 0)
def dueR (bk : Bk.Book) : Option Bk.Rule := bk.rus.find? (neg bk.its)
theorem find_at {α : Type} {p : α → Bool} {l : List α} {i : Nat} {r : α} (h : (l.take i).find? p = none) (hr : l[i]? = some r) (hp : p r = true) : l.find? p = some r := by
  have hi := (List.getElem?_eq_some_iff.mp hr)
  obtain ⟨hi, e⟩ := hi
  rw [← List.take_append_drop i l, List.find?_append, h, List.drop_eq_getElem_cons hi, e, List.find?_cons, hp]
  rfl
theorem find_step {α : Type} {p : α → Bool} {l : List α} {i : Nat} {r : α} (h : (l.take i).find? p = none) (hr : l[i]? = some r) (hp : p r = false) : (l.take (i + 1)).find? p = none := by
  rw [List.take_add_one, hr, List.find?_append, h]
  show List.find? p [r] = none
  rw [List.find?_cons, hp]
  rfl
abbrev brk (r : Bk.Rule) : XD := ⟨"Broken", ["name"], [.str r.nm]⟩
abbrev bkEnv (bk : Bk.Book) (c1 c2 c3 c4 c5 t6 c7 t9 c10 : C) : List C := [.val (bkD bk), c1, c2, c3, c4, c5, t6, c7, .val (.tuple ((stOf bk.its).map .int)), t9, c10]
theorem rules_loop {bk : Bk.Book} (hg : GB bk) (c1 c2 c3 c4 c5 c7 c10 t9 t6 : C) (J : Out → Prop)
    (h1 : dueR bk = none → ∀ t9 t6, J (.nx (bkEnv bk c1 c2 c3 c4 c5 t6 c7 t9 c10))) (h2 : ∀ r, dueR bk = some r → ∀ t9 t6, J (.xc (bkEnv bk c1 c2 c3 c4 c5 t6 c7 t9 c10) (brk r))) :
    J (forF (tgT (tgCons (tgN 9) (tgCons (tgN 6) tgNil))) L_check_book_0 (bk.rus.zipIdx.map fun p => PyData.tuple [.int (p.2 : Nat), ruD p.1]) (bkEnv bk c1 c2 c3 c4 c5 t6 c7 t9 c10)) := by
  refine forF_run J _ _ (fun i env => ∃ t9 t6, env = bkEnv bk c1 c2 c3 c4 c5 t6 c7 t9 c10 ∧ (bk.rus.take i).find? (neg bk.its) = none) ⟨_, _, rfl, rfl⟩ (fun i x env hd hI => ?_) (fun e hI => ?_)
  · obtain ⟨t9, t6, rfl, hn⟩ := hI
    rw [List.getElem?_map, List.getElem?_zipIdx] at hd
    cases ed : bk.rus[i]? with
    | none => rw [ed] at hd; cases hd
    | some r =>
      rw [ed] at hd; cases hd
      have sp := spareP_ok hg ed (st := stOf bk.its) (fun s hs => by
        obtain ⟨j, hj, rfl⟩ := List.mem_map.mp hs
        exact (hg.1 j hj).2.mono (by decide)) (i := ((0 + i : Nat) : Int)) (by omega)
      refine ⟨_, rfl, ?_⟩
      unfold L_check_book_0
      by_cases h : Bk.dot r.co (stOf bk.its) + r.rest < 0
      · simp only [EV0, EV1, EV2, EV3, EV4, EV5, decide_true, decide_false, List.nil_append, List.cons_append, sp, h, i_ru0]
        exact h2 r (find_at hn ed (decide_eq_true h)) _ _
      · simp only [EV0, EV1, EV2, EV3, EV4, EV5, decide_true, decide_false, List.nil_append, List.cons_append, sp, h]
        exact ⟨_, _, rfl, find_step hn ed (decide_eq_false h)⟩
  · obtain ⟨t9, t6, rfl, hn⟩ := hI
    refine h1 ?_ _ _
    rw [List.length_map, List.length_zipIdx, List.take_length] at hn
    exact hn
theorem lot_nx {o : Out} {e : List C} {P : List C → Prop} (h : o = .nx e) (p : P e) : onNx o P := by rw [h]; exact p
theorem check_book_ok {bk : Bk.Book} (hg : GB bk) (hw : WB bk) (gd : Gd bk) : (dueR bk = none → ∃ us, f_check_book [.d (bkD bk)] = some (.ok us (.d .none))) ∧ (∀ r, dueR bk = some r → ∃ us, f_check_book [.d (bkD bk)] = some (.ex us (brk r))) := by
  obtain ⟨g1, g2, g3, l1, l2, l3⟩ := id hg
  obtain ⟨⟨k1, k2, k3⟩, r1, r2⟩ := id gd
  suffices h : ∃ c1 c2 c3 c4 c5 c7 c10 t9 t6, f_check_book [.d (bkD bk)] = outMX [false] (forF (tgT (tgCons (tgN 9) (tgCons (tgN 6) tgNil))) L_check_book_0 (bk.rus.zipIdx.map fun p => PyData.tuple [.int (p.2 : Nat), ruD p.1]) (bkEnv bk c1 c2 c3 c4 c5 t6 c7 t9 c10)) by
    obtain ⟨c1, c2, c3, c4, c5, c7, c10, t9, t6, h⟩ := h
    rw [h]
    refine rules_loop hg c1 c2 c3 c4 c5 c7 c10 t9 t6 (fun o => (dueR bk = none → ∃ us, outMX [false] o = some (.ok us (.d .none))) ∧ (∀ r, dueR bk = some r → ∃ us, outMX [false] o = some (.ex us (brk r)))) (fun e t9 t6 => ⟨fun _ => ⟨_, rfl⟩, fun r h => by rw [e] at h; cases h⟩) (fun r e t9 t6 => ⟨fun h => (by rw [e] at h; cases h), fun r' h => ⟨_, by rw [e] at h; cases h; rfl⟩⟩)
  rw [fe_check_book]
  unfold b_check_book
  have sa : tgT (tgCons (tgN 1) (tgCons (tgN 2) (tgCons (tgN 3) tgNil))) (bkD bk) [.val (bkD bk), .und, .und, .und, .und, .und, .und, .und, .und, .und, .und] = some [.val (bkD bk), .val (.list (bk.its.map itD)), .val (.list (bk.rus.map ruD)), .val (.list (bk.des.map deD)), .und, .und, .und, .und, .und, .und, .und] := rfl
  have zf : iZipG (eV 0) (eC (.tuple [.int 4, .int 5, .int 6])) [.val (bkD bk), .val (.list (bk.its.map itD)), .val (.list (bk.rus.map ruD)), .val (.list (bk.des.map deD)), .und, .und, .und, .und, .und, .und, .und] = some [.tuple [.list (bk.its.map itD), .int 4], .tuple [.list (bk.rus.map ruD), .int 5], .tuple [.list (bk.des.map deD), .int 6]] := rfl
  have lp1 : ∃ c4 c5, forF (tgT (tgCons (tgN 4) (tgCons (tgN 5) tgNil))) L_check_book_3 [.tuple [.list (bk.its.map itD), .int 4], .tuple [.list (bk.rus.map ruD), .int 5], .tuple [.list (bk.des.map deD), .int 6]] [.val (bkD bk), .val (.list (bk.its.map itD)), .val (.list (bk.rus.map ruD)), .val (.list (bk.des.map deD)), .und, .und, .und, .und, .und, .und, .und] = .nx [.val (bkD bk), .val (.list (bk.its.map itD)), .val (.list (bk.rus.map ruD)), .val (.list (bk.des.map deD)), c4, c5, .und, .und, .und, .und, .und] := by
    obtain ⟨e, he, c4, c5, rfl⟩ := forF_inv (g := tgT (tgCons (tgN 4) (tgCons (tgN 5) tgNil))) (b := L_check_book_3) (items := [.tuple [.list (bk.its.map itD), .int 4], .tuple [.list (bk.rus.map ruD), .int 5], .tuple [.list (bk.des.map deD), .int 6]]) (env := [.val (bkD bk), .val (.list (bk.its.map itD)), .val (.list (bk.rus.map ruD)), .val (.list (bk.des.map deD)), .und, .und, .und, .und, .und, .und, .und])
      (fun i env => ∃ c4 c5, env = [.val (bkD bk), .val (.list (bk.its.map itD)), .val (.list (bk.rus.map ruD)), .val (.list (bk.des.map deD)), c4, c5, .und, .und, .und, .und, .und]) ⟨_, _, rfl⟩ (fun i d env hd hI => by
        obtain ⟨c4, c5, rfl⟩ := hI
        match i, hd with
        | 0, hd => cases hd; exact ⟨_, rfl, lot_nx ((lot_gen (m := 4) i_it0 hw.1 _ _ _ _ _ _ _ _ _).1 k1) ⟨_, _, rfl⟩⟩
        | 1, hd => cases hd; exact ⟨_, rfl, lot_nx ((lot_gen (m := 5) i_ru0 hw.2.1 _ _ _ _ _ _ _ _ _).1 k2) ⟨_, _, rfl⟩⟩
        | 2, hd => cases hd; exact ⟨_, rfl, lot_nx ((lot_gen (m := 6) i_de0 hw.2.2 _ _ _ _ _ _ _ _ _).1 k3) ⟨_, _, rfl⟩⟩
        | i + 3, hd => simp at hd)
    exact ⟨c4, c5, he⟩
  obtain ⟨c4, c5, lp1⟩ := lp1
  have lp2 : ∃ t6, forF (tgN 6) L_check_book_2 (bk.rus.map ruD) [.val (bkD bk), .val (.list (bk.its.map itD)), .val (.list (bk.rus.map ruD)), .val (.list (bk.des.map deD)), c4, c5, .und, .und, .und, .und, .und] = .nx [.val (bkD bk), .val (.list (bk.its.map itD)), .val (.list (bk.rus.map ruD)), .val (.list (bk.des.map deD)), c4, c5, t6, .und, .und, .und, .und] := by
    obtain ⟨e, he, t6, rfl⟩ := forF_inv (g := tgN 6) (b := L_check_book_2) (items := bk.rus.map ruD) (env := [.val (bkD bk), .val (.list (bk.its.map itD)), .val (.list (bk.rus.map ruD)), .val (.list (bk.des.map deD)), c4, c5, .und, .und, .und, .und, .und])
      (fun i env => ∃ t6, env = [.val (bkD bk), .val (.list (bk.its.map itD)), .val (.list (bk.rus.map ruD)), .val (.list (bk.des.map deD)), c4, c5, t6, .und, .und, .und, .und]) ⟨_, rfl⟩ (fun i d env hd hI => by
        obtain ⟨t6, rfl⟩ := hI
        rw [List.getElem?_map] at hd
        cases ed : bk.rus[i]? with
        | none => rw [ed] at hd; cases hd
        | some r =>
          rw [ed] at hd; cases hd
          have q := (g2 r (List.mem_of_getElem? ed)).2.1
          refine ⟨_, rfl, ?_⟩
          unfold L_check_book_2
          simp only [EV0, EV1, EV2, EV3, EV4, EV5, decide_true, decide_false, List.nil_append, List.cons_append, i_ru1, List.length_map, q]
          exact ⟨_, rfl⟩)
    exact ⟨t6, he⟩
  obtain ⟨t6, lp2⟩ := lp2
  have lp3 : ∃ t7, forF (tgN 7) L_check_book_1 (bk.des.map deD) [.val (bkD bk), .val (.list (bk.its.map itD)), .val (.list (bk.rus.map ruD)), .val (.list (bk.des.map deD)), c4, c5, t6, .und, .und, .und, .und] = .nx [.val (bkD bk), .val (.list (bk.its.map itD)), .val (.list (bk.rus.map ruD)), .val (.list (bk.des.map deD)), c4, c5, t6, t7, .und, .und, .und] := by
    obtain ⟨e, he, t7, rfl⟩ := forF_inv (g := tgN 7) (b := L_check_book_1) (items := bk.des.map deD) (env := [.val (bkD bk), .val (.list (bk.its.map itD)), .val (.list (bk.rus.map ruD)), .val (.list (bk.des.map deD)), c4, c5, t6, .und, .und, .und, .und])
      (fun i env => ∃ t7, env = [.val (bkD bk), .val (.list (bk.its.map itD)), .val (.list (bk.rus.map ruD)), .val (.list (bk.des.map deD)), c4, c5, t6, t7, .und, .und, .und]) ⟨_, rfl⟩ (fun i d env hd hI => by
        obtain ⟨t7, rfl⟩ := hI
        rw [List.getElem?_map] at hd
        cases ed : bk.des[i]? with
        | none => rw [ed] at hd; cases hd
        | some r =>
          rw [ed] at hd; cases hd
          obtain ⟨_, q, _, q2, _⟩ := g3 r (List.mem_of_getElem? ed)
          have q3 : ¬(r.hi < r.lo) := by omega
          refine ⟨_, rfl, ?_⟩
          unfold L_check_book_1
          simp only [EV0, EV1, EV2, EV3, EV4, EV5, decide_true, decide_false, List.nil_append, List.cons_append, i_de1, i_de2, i_de3, List.length_map, q, q3]
          exact ⟨_, rfl⟩)
    exact ⟨t7, he⟩
  obtain ⟨t7, lp3⟩ := lp3
  have el : ∀ t1 t2 t3 t4 t5 t6 t7, lcF (tgN 10) (fun _ => some true) (e2 gIxS (eV 10) (eC (.int 1))) [.val (bkD bk), t1, t2, t3, t4, t5, t6, t7, .und, .und, .und] (bk.its.map itD) = some ((stOf bk.its).map .int) := fun t1 t2 t3 t4 t5 t6 t7 => by
    unfold stOf
    rw [List.map_map]
    refine lcF_map itD (fun i => .int i.2) _ ?_
    intro i hm
    have i1 : gIxS (itD i) (.int 1) = some (.int i.2) := rfl
    refine ⟨_, rfl, rfl, ?_⟩
    simp only [EV0, EV1, EV2, EV3, EV4, EV5, decide_true, decide_false, List.nil_append, List.cons_append, i1]
  have zf2 : oZip (some (bkD bk)) (some (PyData.tuple [PyData.int 4, PyData.int 5, PyData.int 6])) = some [.tuple [.list (bk.its.map itD), .int 4], .tuple [.list (bk.rus.map ruD), .int 5], .tuple [.list (bk.des.map deD), .int 6]] := rfl
  simp only [EV0, EV1, EV2, EV3, EV4, EV5, decide_true, decide_false, List.nil_append, List.cons_append, sa, zf2, lp1, lp2, lp3, el, enum_map]
  exact ⟨_, _, _, _, _, _, _, _, _, rfl⟩
end DL
set_option Elab.async false
set_option linter.all false
set_option maxRecDepth 100000
set_option maxHeartbeats 4000000
set_option exponentiation.threshold 10000
namespace DL
open PySem PySem.Spec L2
open Bk (okS)
theorem neL_nil {xs : List D} (h : SeqAt.shaped (.list xs) = true) : gNe (.list xs) (.list []) = some (.bool (!decide (xs = []))) := by
  have e : gNeD (.list xs) (.list []) = some (.bool (!decide (xs = []))) := by
    unfold gNeD
    rw [if_pos ⟨h, shaped_ints []⟩]
    cases xs with
    | nil => rfl
    | cons x xs =>
      rw [decide_eq_false (by simp)]
      rfl
  show (match gNeS (.list xs) (.list []) with | some d => some d | none => gNeD (.list xs) (.list [])) = _
  exact e
theorem sh_rus {rus : List Bk.Rule} (h : ∀ r ∈ rus, PyData.strOk r.nm = true) : SeqAt.shaped (.list (rus.map ruD)) = true := by
  have a2 : PyData.canLayAll0 (rus.map ruD) = true := lay_allD ruD _ fun i hi => by
    unfold ruD
    simp only [PyData.canLay0, PyData.canLayAll0, h i hi, lay_ints, Bool.and_self]
  have d2 := depthAll_mapD ruD dep_ruD rus
  unfold SeqAt.shaped
  simp only [PyData.canLay0, PyData.depth, a2, Bool.true_and]
  exact decide_eq_true (by omega)
theorem shaped_wb {b : Bk.Book} (h : WB b) : SeqAt.shaped (bkD b) = true := by
  obtain ⟨g1, g2, g3⟩ := h
  have a1 : PyData.canLayAll0 (b.its.map itD) = true := lay_allD itD _ fun i hi => by
    unfold itD
    simp only [PyData.canLay0, PyData.canLayAll0, (g1.2 _ (List.mem_map.mpr ⟨i, hi, rfl⟩)).2, Bool.and_self]
  have a2 : PyData.canLayAll0 (b.rus.map ruD) = true := lay_allD ruD _ fun i hi => by
    unfold ruD
    simp only [PyData.canLay0, PyData.canLayAll0, (g2.2 _ (List.mem_map.mpr ⟨i, hi, rfl⟩)).2, lay_ints, Bool.and_self]
  have a3 : PyData.canLayAll0 (b.des.map deD) = true := lay_allD deD _ fun i hi => by
    unfold deD
    simp only [PyData.canLay0, PyData.canLayAll0, (g3.2 _ (List.mem_map.mpr ⟨i, hi, rfl⟩)).2, layAll_map chD lay_chD, Bool.and_self]
  have d1 := depthAll_mapD itD dep_itD b.its
  have d2 := depthAll_mapD ruD dep_ruD b.rus
  have d3 := depthAll_mapD deD dep_deD b.des
  unfold SeqAt.shaped bkD
  simp only [PyData.canLay0, PyData.canLayAll0, PyData.depth, PyData.depthAll, a1, a2, a3, Bool.and_self, Bool.true_and]
  refine decide_eq_true ?_
  show max (PyData.depthAll (b.its.map itD) + 1) (max (PyData.depthAll (b.rus.map ruD) + 1) (max (PyData.depthAll (b.des.map deD) + 1) 0)) + 1 ≤ 64
  omega
theorem broken_ok {bk : Bk.Book} (hw : WB bk) (hb : ¬Gd bk) {n : Int} (h0 : 0 ≤ n) : ∃ bk', f_l_broken [bkD bk, .int n] = some (bkD bk') ∧ WB bk' ∧ ¬Gd bk' := by
  rw [fe_l_broken]
  unfold b_l_broken
  have z2 : (0 : Int) < 2 := by decide
  have z2' : (2 : Int) < 2 ^ 250 := by decide
  have sh : SeqAt.shaped (.list (bk.rus.map ruD)) = true := sh_rus fun r hr => (hw.2.1.2 _ (List.mem_map.mpr ⟨r, hr, rfl⟩)).2
  have ne := neL_nil sh
  have fold : PyData.tuple [.list (bk.its.map itD), .list (bk.rus.map ruD), .list (bk.des.map deD)] = bkD bk := rfl
  by_cases hr : bk.rus = []
  · have e : bk.rus.map ruD = [] := by rw [hr]; rfl
    rw [decide_eq_true e] at ne
    simp only [EV0, EV1, EV2, EV3, EV4, EV5, decide_true, decide_false, List.nil_append, List.cons_append, i_bk0, i_bk1, i_bk2, ne]
    exact ⟨bk, rfl, hw, hb⟩
  have e : ¬bk.rus.map ruD = [] := fun h => hr (List.map_eq_nil_iff.mp h)
  rw [decide_eq_false e] at ne
  by_cases hn : n % 2 = 0
  · have lz : (0 : Int) < ((bk.rus.length : Nat) : Int) := by
      have : bk.rus.length ≠ 0 := fun e => hr (List.length_eq_zero_iff.mp e)
      omega
    obtain ⟨k, hk⟩ : ∃ k : Nat, n / 2 % (bk.rus.length : Int) = (k : Int) := ⟨(n / 2 % (bk.rus.length : Int)).toNat, by have := Int.emod_nonneg (n / 2) (b := (bk.rus.length : Int)) (by omega); omega⟩
    have hkl : k < bk.rus.length := by have := Int.emod_lt_of_pos (n / 2) lz; omega
    obtain ⟨r, er⟩ : ∃ r, bk.rus[k]? = some r := ⟨_, List.getElem?_eq_getElem hkl⟩
    have ar : atI (bk.rus.map ruD) (k : Int) = some (ruD r) := atZr er rfl
    have st : setAt (bk.rus.map ruD) (k : Int) (.tuple [.str r.nm, .tuple (r.co.map .int), .int (r.rest - T29)]) = some ((bk.rus.set k { r with rest := r.rest - T29 }).map ruD) := by
      rw [ev_setAt (by omega) (by rw [List.length_map]; omega), Int.toNat_natCast, List.map_set]; rfl
    simp only [EV0, EV1, EV2, EV3, EV4, EV5, decide_true, decide_false, List.nil_append, List.cons_append, i_bk0, i_bk1, i_bk2, ne, z2, z2', hn, List.length_map, lz, hk, ar, i_ru0, i_ru1, i_ru2, p10, q29, b29, st]
    refine ⟨⟨bk.its, bk.rus.set k { r with rest := r.rest - T29 }, bk.des⟩, rfl, ⟨hw.1, ?_, hw.2.2⟩, fun h => hb ?_⟩
    · show WN ((bk.rus.set k { r with rest := r.rest - T29 }).map (·.nm))
      rw [wn_set (nm := fun x : Bk.Rule => x.nm) (b := { r with rest := r.rest - T29 }) er rfl]; exact hw.2.1
    · obtain ⟨⟨k1, ⟨k2, k2', k2''⟩, k3⟩, r1, r2⟩ := h
      refine ⟨⟨k1, ⟨?_, ?_, ?_⟩, k3⟩, fun x hx => ?_, r2⟩
      · dsimp only at k2; rw [List.length_set] at k2; exact k2
      · dsimp only at k2'; rw [List.length_set] at k2'; exact k2'
      · have k2'' : OkN ((bk.rus.set k { r with rest := r.rest - T29 }).map (·.nm)) := k2''
        rw [wn_set (nm := fun x : Bk.Rule => x.nm) (b := { r with rest := r.rest - T29 }) er rfl] at k2''
        exact k2''
      · by_cases hx2 : x = r
        · rw [hx2]
          exact r1 { r with rest := r.rest - T29 } (List.mem_of_getElem? (i := k) (List.getElem?_set_self hkl))
        · obtain ⟨j, hj⟩ := List.mem_iff_getElem?.mp hx
          have : j ≠ k := fun e => hx2 (by rw [e, er] at hj; exact (Option.some.inj hj).symm)
          exact r1 x (List.mem_of_getElem? (i := j) (by dsimp only; rw [List.getElem?_set_ne (Ne.symm this)]; exact hj))
  · simp only [EV0, EV1, EV2, EV3, EV4, EV5, decide_true, decide_false, List.nil_append, List.cons_append, i_bk0, i_bk1, i_bk2, ne, z2, hn]
    exact ⟨bk, rfl, hw, hb⟩
theorem refused_ok {bk : Bk.Book} (hw : WB bk) (hb : ¬Gd bk) : f_l_refused [.d (bkD bk)] = some (.d (.bool true)) := by
  rw [fe_l_refused]
  unfold b_l_refused
  obtain ⟨us, h⟩ := check_book_no hw hb
  have sx : sSetX 1 (xN (nD (eC .none))) [.val (bkD bk), .und, .und] = .nx [.val (bkD bk), toC (.d .none), .und] := rfl
  have c : yCallP f_check_book [] (mpRo (eV 0) mpNil) [.val (bkD bk), toC (.d .none), .und] = some (.xc [.val (bkD bk), toC (.d .none), .und] NB) :=
    callP_ex (ips := []) (us := [.d (bkD bk)]) rfl h
  have c2 : sDropY (yCallP f_check_book [] (mpRo (eV 0) mpNil)) [.val (bkD bk), toC (.d .none), .und] = .xc [.val (bkD bk), toC (.d .none), .und] NB := by
    unfold sDropY; rw [c]
  rw [ev_seq, sx, ev_seq_nx, ev_seq, ev_try, c2]
  rfl
theorem law_true (ns : List Int) (h : ns.length ≤ 63) : f_law ns = some (.bool true) := by
  rw [fe_law]
  unfold b_law
  obtain ⟨a, b, c, f1, hp, ha, hb, hc⟩ := counts_ok ns
  obtain ⟨bk, f2, hg, hn, sp, l1, l2, l3⟩ := book_ok ns hp (by omega) (by omega) (by omega)
  have c0 : f_l_at [.list (ns.map .int), .int 0] = some (.int (atZ ns 0)) := at_ok (by decide) (by decide)
  obtain ⟨x5, a0, a1⟩ := mixZ_ok (n := atZ ns 0) (p := 5) (by decide) (by decide)
  obtain ⟨x6, b0, b1⟩ := mixZ_ok (n := atZ ns 0) (p := 6) (by decide) (by decide)
  generalize mixZ (atZ ns 0) 5 = u at x5 a0 a1
  generalize mixZ (atZ ns 0) 6 = v at x6 b0 b1
  have hw := wb_gb hg hn
  have gd : Gd bk := by
    obtain ⟨n1, n2, n3, p1, p2, p3⟩ := hn
    refine ⟨⟨⟨p1, by omega, nl_ok n1 (by rw [List.length_map]; omega)⟩, ⟨p2, by omega, nl_ok n2 (by rw [List.length_map]; omega)⟩, ⟨p3, by omega, nl_ok n3 (by rw [List.length_map]; omega)⟩⟩, fun r hr => (hg.2.1 r hr).2.1, fun d hd => ⟨(hg.2.2.1 d hd).2.1, (hg.2.2.1 d hd).2.2.2.1⟩⟩
  have dn : dueR bk = none := by
    unfold dueR
    rw [List.find?_eq_none]
    intro r hr
    have := sp r hr
    unfold neg
    rw [decide_eq_true_eq]
    omega
  obtain ⟨us, ck⟩ := (check_book_ok hg hw gd).1 dn
  obtain ⟨bk1, w1, hw1, hb1⟩ := wrong_ok (ns := ns) hg hn a0
  obtain ⟨bk2, w2, hw2, hb2⟩ := broken_ok hw1 hb1 b0
  have rf := refused_ok hw2 hb2
  have ne : gNe (bkD bk) (bkD bk) = some (.bool false) := ev_ne_selfT (shaped_wb hw)
  have eq : gEq (bkD bk2) (bkD bk2) = some (.bool true) := ev_eq_selfT (shaped_wb hw2)
  have fold : PyData.tuple [.list (bk.its.map itD), .list (bk.rus.map ruD), .list (bk.des.map deD)] = bkD bk := rfl
  have fold2 : PyData.tuple [.list (bk2.its.map itD), .list (bk2.rus.map ruD), .list (bk2.des.map deD)] = bkD bk2 := rfl
  have cc : ∀ s0 t2 t3, oCallP (some ([], [.d (bkD bk)])) f_check_book [] [s0, .val (bkD bk), .val t2, t3] = some (.ok [s0, .val (bkD bk), .val t2, t3] (.d .none)) := fun s0 t2 t3 => callP_ok (ips := []) (us := [.d (bkD bk)]) rfl ck
  have wc : nCallM f_l_wrong (mpVw 0 (mpRo (eV 1) (mpRo (e1 f_l_mix (aCons (e1 f_l_at (aCons (eVw 0) (aCons (eC (.int 0)) aNil))) (aCons (eC (.int 5)) aNil))) mpNil))) [.ro true (.n .v ((ns.map PyData.int).map .d)), .val (bkD bk), .val (bkD bk), .und] = some (.d (bkD bk1)) := by
    refine callM_at (us := [.n .v ((ns.map PyData.int).map .d), .d (bkD bk), .d (.int u)]) ?_ w1
    refine mpVw_at (ds := ns.map .int) rfl ?_
    simp only [EV0, EV1, EV2, EV3, EV4, EV5, decide_true, decide_false, List.nil_append, List.cons_append, c0, x5]
  have rc : ∀ e : List C, e[2]? = some (.val (bkD bk2)) → nCall f_l_refused (nsCons (nD (eV 2)) nsNil) e = some (.d (.bool true)) := fun e he => by
    have k9 : nsCons (nD (eV 2)) nsNil e = some [.d (bkD bk2)] := by
      simp only [EV0, EV1, EV2, EV3, EV4, EV5, decide_true, decide_false, List.nil_append, List.cons_append, he]
    unfold nCall
    rw [k9, Option.bind_some, rf]
  have r1 := rc [.ro true (.n .v ((ns.map PyData.int).map .d)), .val (bkD bk), .val (bkD bk2), .val (bkD bk2)] rfl
  simp only [EV0, EV1, EV2, EV3, EV4, EV5, decide_true, decide_false, List.nil_append, List.cons_append, f1, f2, i_bk0, i_bk1, i_bk2, fold, cc, ne, wc, c0, x6, w2, fold2, r1, eq]
end DL
set_option Elab.async false
set_option linter.all false
set_option maxRecDepth 100000
set_option maxHeartbeats 4000000
namespace DL
open PySem PySem.Spec L2
section
variable {P : Program} {w : World} {K : PySem.W.Frag} {mg : Str → Option Value} {base : Heap}
theorem ok_Broken_init {f CB : Addr} {fd : FuncData} (F : Fun K "__init__" "Broken.__init__" s_Broken_init f fd) (bc : BaseC K mg "BookError" CB) : FnOk P w K mg base CX0 1 f fd ["self", "name"] (spI1 K "name") :=
  init1_ok F sc_Broken_init fun cdv A outer s H E => pss_cons (ps_expr (pe_binit (by rfl) bc.at_ bc.rd bc.sp bc.fc (pa_cons (pv 0) (pa_cons pe_str pa_nil)))) (pss_one (ps_ost (pv 0) (pv 1)))

theorem ok_value_of {f : Addr} {fd : FuncData} (F : Fun K "value_of" "value_of" s_value_of f fd) (hm : mg "value_of" = some (.ref f)) (b : Binds K fd ["form", "values"] []) (B_sum : mg "sum" = none) (B_zip : mg "zip" = none) : Callee P w K mg base 1 "value_of" [.fz, .fz] .fz f_value_of :=
  ⟨⟨f, fd, ["form", "values"], fn_pure F sc_value_of rfl rfl fun cdv A outer s H E G hr hW hw =>
  (dss_one (ds_ret (d_bin o_add (d_callB (o_sum rfl) (by rfl) B_sum (by decide +kernel) (da_cons (d_lc [("many", 2), ("value", 3)] rfl sc_value_of.nd (di_zipG (by rfl) B_zip (d_ix (d_var 0 (pv 0)) d_int (fun _ _ => rfl)) (d_var 1 (pv 1))) N_value_of (defScope s_value_of) (by decide +kernel) (fun _ _ _ _ _ => (dg_tup rfl (dgs_cons (dg_name 2 sc_value_of.nd rfl) (dgs_cons (dg_name 3 sc_value_of.nd rfl) dgs_nil)) rfl (fun _ _ _ h => tgCons_len (fun _ _ _ h => tgCons_len (fun _ _ _ h => tgNil_len h) h) h))) (fun _ _ _ _ _ => dif_nil) (fun _ _ _ _ _ => (d_bin o_mul (d_var 2 (pv 2)) (d_var 3 (pv 3))))) .vw da_nil)) (d_ix (d_var 0 (pv 0)) d_int (fun _ _ => rfl))))), hm, F.kp, b⟩⟩

theorem ok_is_name {f : Addr} {fd : FuncData} (F : Fun K "is_name" "is_name" s_is_name f fd) (hm : mg "is_name" = some (.ref f)) (b : Binds K fd ["text"] []) (B_len : mg "len" = none) (G_LETTERS : ∃ t, mg "LETTERS" = some (.str "abcdefghijklmnopqrstuvwxyz" t)) (G_LONGEST : ∃ t, mg "LONGEST" = some (.int 10 t)) : Callee P w K mg base 1 "is_name" [.fz] .fz f_is_name :=
  ⟨⟨f, fd, ["text"], fn_pure F sc_is_name rfl rfl fun cdv A outer s H E G hr hW hw =>
  (dss_cons (ds_if (DW.t (dw_or (dt_cmp o_lt (d_callB o_len (by rfl) B_len PySem.boot_len (da_cons (d_var 0 (pv 0)) .vw da_nil)) d_int (by first | exact nomark _ | rfl)) (dw_or1 (dt_cmp o_gt (d_callB o_len (by rfl) B_len PySem.boot_len (da_cons (d_var 0 (pv 0)) .vw da_nil)) (d_glob (v := .int 10) (by rfl) G_LONGEST.choose_spec ⟨_, rfl⟩ (.int _)) (by first | exact nomark _ | rfl))))) (dss_one (ds_ret d_bl)) dss_nil)
  (dss_cons (ds_for PassesOwn.never rfl (di_any (d_var 0 (pv 0))) (dg_name 1 sc_is_name.nd rfl)
  (dss_one (ds_if (dt_cmp o_notInT (d_var 1 (pv 1)) (d_glob (v := .str "abcdefghijklmnopqrstuvwxyz") (by rfl) G_LETTERS.choose_spec ⟨_, rfl⟩ (.str _)) (by first | exact nomark _ | rfl)) (dss_one (ds_ret d_bl)) dss_nil)))
  (dss_one (ds_ret d_bl)))), hm, F.kp, b⟩⟩

theorem ok_spare {f : Addr} {fd : FuncData} (F : Fun K "spare" "spare" s_spare f fd) (hm : mg "spare" = some (.ref f)) (b : Binds K fd ["book", "rule", "state"] []) (c_value_of : Callee P w K mg base 1 "value_of" [.fz, .fz] .fz f_value_of) : Callee P w K mg base 2 "spare" [.fz, .fz, .fz] .fz f_spare :=
  ⟨⟨f, fd, ["book", "rule", "state"], fn_pure F sc_spare rfl rfl fun cdv A outer s H E G hr hW hw =>
  (dss_one (ds_ret (d_call c_value_of (hr.mono (by decide)) (by rfl) (da_cons (d_sl (d_ix (d_ix (d_var 0 (pv 0)) d_int (fun _ _ => rfl)) (d_var 1 (pv 1)) (fun _ _ => rfl)) (dp_some d_int) dp_none) .fz (da_cons (d_var 2 (pv 2)) .fz da_nil))))), hm, F.kp, b⟩⟩

theorem ok_check_names {f : Addr} {fd : FuncData} (F : Fun K "check_names" "check_names" s_check_names f fd) (hm : mg "check_names" = some (.ref f)) (b : Binds K fd ["things"] []) (c_is_name : Callee P w K mg base 1 "is_name" [.fz] .fz f_is_name) (x0_NoBook : MkE0 K mg "NoBook") : CalX P w K mg base 3 "check_names" [false] f_check_names :=
  ⟨⟨f, fd, ["things"], fn_muX (ks := [false]) F sc_check_names rfl fun cdv A outer s H E G hr hw =>
  (dss_cons (ds_setX 1 sc_check_names.nd rfl (dx_of dn_dictK))
  (dss_one (ds_for (passes_of rfl) rfl (di_any (d_var 0 (pv 0))) (dg_name 2 sc_check_names.nd rfl)
  (dss_cons (ds_if (DW.t (dw_or (dt_not (dt_val (d_call c_is_name (hr.mono (by decide)) (by rfl) (da_cons (d_ix (d_var 2 (pv 2)) d_int (fun _ _ => rfl)) .fz da_nil)))) (dw_or1 (dt_rinK (hu_of hr) (d_ix (d_var 2 (pv 2)) d_int (fun _ _ => rfl)) (dr_name 1 (pv 1)))))) (dss_one (ds_raise rfl (dmk_0 x0_NoBook (by rfl)))) dss_nil)
  (dss_one (ds_putK (hu_of hr) (dp_name 1 (pv 1)) (d_ix (d_var 2 (pv 2)) d_int (fun _ _ => rfl)) (dx_of (dn_fz d_bl)))))))), hm, F.kp, b⟩⟩

theorem ok_check_book {f : Addr} {fd : FuncData} (F : Fun K "check_book" "check_book" s_check_book f fd) (hm : mg "check_book" = some (.ref f)) (b : Binds K fd ["book"] []) (c_spare : Callee P w K mg base 2 "spare" [.fz, .fz, .fz] .fz f_spare) (c_check_names : CalX P w K mg base 3 "check_names" [false] f_check_names) (xm_Broken : MkE P w K mg base 1 "Broken" ["name"] (spI1 K "name")) (x0_NoBook : MkE0 K mg "NoBook") (B_enumerate : mg "enumerate" = none) (B_len : mg "len" = none) (B_tuple : mg "tuple" = none) (B_zip : mg "zip" = none) (G_MOST : ∃ a, mg "MOST" = some (.ref a) ∧ DF K (fun _ => none) (.ref a) (.tuple [.int 4, .int 5, .int 6])) : CalX P w K mg base 4 "check_book" [false] f_check_book :=
  ⟨⟨f, fd, ["book"], fn_muX (ks := [false]) F sc_check_book rfl fun cdv A outer s H E G hr hw =>
  (dss_cons (ds_asg (d_var 0 (pv 0)) (dg_tup rfl (dgs_cons (dg_name 1 sc_check_book.nd rfl) (dgs_cons (dg_name 2 sc_check_book.nd rfl) (dgs_cons (dg_name 3 sc_check_book.nd rfl) dgs_nil))) rfl (fun _ _ _ h => tgCons_len (fun _ _ _ h => tgCons_len (fun _ _ _ h => tgCons_len (fun _ _ _ h => tgNil_len h) h) h) h)))
  (dss_cons (ds_for (passes_of rfl) rfl (di_zipG (by rfl) B_zip (d_var 0 (pv 0)) (d_glob (v := .ref G_MOST.choose) (by rfl) G_MOST.choose_spec.1 rfl G_MOST.choose_spec.2)) (dg_tup rfl (dgs_cons (dg_name 4 sc_check_book.nd rfl) (dgs_cons (dg_name 5 sc_check_book.nd rfl) dgs_nil)) rfl (fun _ _ _ h => tgCons_len (fun _ _ _ h => tgCons_len (fun _ _ _ h => tgNil_len h) h) h))
  (dss_cons (ds_if (DW.t (dw_or (dt_cmp o_lt (d_callB o_len (by rfl) B_len PySem.boot_len (da_cons (d_var 4 (pv 4)) .vw da_nil)) d_int (by first | exact nomark _ | rfl)) (dw_or1 (dt_cmp o_gt (d_callB o_len (by rfl) B_len PySem.boot_len (da_cons (d_var 4 (pv 4)) .vw da_nil)) (d_var 5 (pv 5)) (by first | exact nomark _ | rfl))))) (dss_one (ds_raise rfl (dmk_0 x0_NoBook (by rfl)))) dss_nil)
  (dss_one (ds_exprY (dy_callP c_check_names hw (hr.mono (by decide)) (by rfl) (dmp_ro (d_var 4 (pv 4)) dmp_nil))))))
  (dss_cons (ds_for (passes_of rfl) rfl (di_any (d_var 2 (pv 2))) (dg_name 6 sc_check_book.nd rfl)
  (dss_one (ds_if (dt_cmp (o_ne (hu64 hr)) (d_callB o_len (by rfl) B_len PySem.boot_len (da_cons (d_ix (d_var 6 (pv 6)) d_int (fun _ _ => rfl)) .vw da_nil)) (d_callB o_len (by rfl) B_len PySem.boot_len (da_cons (d_var 1 (pv 1)) .vw da_nil)) (by first | exact nomark _ | rfl)) (dss_one (ds_raise rfl (dmk_0 x0_NoBook (by rfl)))) dss_nil)))
  (dss_cons (ds_for (passes_of rfl) rfl (di_any (d_var 3 (pv 3))) (dg_name 7 sc_check_book.nd rfl)
  (dss_one (ds_if (DW.t (dw_or (dt_cmp (o_ne (hu64 hr)) (d_callB o_len (by rfl) B_len PySem.boot_len (da_cons (d_ix (d_var 7 (pv 7)) d_int (fun _ _ => rfl)) .vw da_nil)) (d_callB o_len (by rfl) B_len PySem.boot_len (da_cons (d_var 1 (pv 1)) .vw da_nil)) (by first | exact nomark _ | rfl)) (dw_or1 (dt_cmp o_gt (d_ix (d_var 7 (pv 7)) d_int (fun _ _ => rfl)) (d_ix (d_var 7 (pv 7)) d_int (fun _ _ => rfl)) (by first | exact nomark _ | rfl))))) (dss_one (ds_raise rfl (dmk_0 x0_NoBook (by rfl)))) dss_nil)))
  (dss_cons (ds_set 8 sc_check_book.nd rfl (d_callT o_tuple (by rfl) B_tuple (by decide +kernel) (da_cons (d_lc [("item", 10)] rfl sc_check_book.nd (di_any (d_var 1 (pv 1))) N_check_book (defScope s_check_book) (by decide +kernel) (fun _ _ _ _ _ => (dg_name 10 sc_check_book.nd rfl)) (fun _ _ _ _ _ => dif_nil) (fun _ _ _ _ _ => (d_ix (d_var 10 (pv 10)) d_int (fun _ _ => rfl)))) .vl da_nil)))
  (dss_one (ds_for (passes_of rfl) rfl (di_enumG (by rfl) B_enumerate (d_var 2 (pv 2))) (dg_tup rfl (dgs_cons (dg_name 9 sc_check_book.nd rfl) (dgs_cons (dg_name 6 sc_check_book.nd rfl) dgs_nil)) rfl (fun _ _ _ h => tgCons_len (fun _ _ _ h => tgCons_len (fun _ _ _ h => tgNil_len h) h) h))
  (dss_one (ds_if (dt_cmp o_lt (d_call c_spare (hr.mono (by decide)) (by rfl) (da_cons (d_var 0 (pv 0)) .fz (da_cons (d_var 9 (pv 9)) .fz (da_cons (d_var 8 (pv 8)) .fz da_nil)))) d_int (by first | exact nomark _ | rfl)) (dss_one (ds_raise rfl (dmk_1 xm_Broken (hr.mono (by decide)) (by rfl) (d_ix (d_var 6 (pv 6)) d_int (fun _ _ => rfl))))) dss_nil))))))))), hm, F.kp, b⟩⟩

theorem ok_l_at {f : Addr} {fd : FuncData} (F : Fun K "_law_at" "_law_at" s_l_at f fd) (hm : mg "_law_at" = some (.ref f)) (b : Binds K fd ["_law_script", "_law_k"] []) (B_len : mg "len" = none) : Callee P w K mg base 1 "_law_at" [.vw, .fz] .fz f_l_at :=
  ⟨⟨f, fd, ["_law_script", "_law_k"], fn_pure F sc_l_at rfl rfl fun cdv A outer s H E G hr hW hw =>
  (dss_cons (ds_if (dt_cmp o_lt (d_var 1 (pv 1)) (d_callB o_len (by rfl) B_len PySem.boot_len (da_cons (d_varB 0 (pv 0)) .vw da_nil)) (by first | exact nomark _ | rfl)) (dss_one (ds_ret (d_scal (d_ixB (d_varB 0 (pv 0)) (d_var 1 (pv 1)) (fun _ _ => rfl))))) dss_nil)
  (dss_one (ds_ret (d_bin o_add (d_bin o_mul d_int (d_var 1 (pv 1))) d_int)))), hm, F.kp, b⟩⟩

theorem ok_l_mix {f : Addr} {fd : FuncData} (F : Fun K "_law_mix" "_law_mix" s_l_mix f fd) (hm : mg "_law_mix" = some (.ref f)) (b : Binds K fd ["_law_number", "_law_place"] []) : Callee P w K mg base 1 "_law_mix" [.fz, .fz] .fz f_l_mix :=
  ⟨⟨f, fd, ["_law_number", "_law_place"], fn_pure F sc_l_mix rfl rfl fun cdv A outer s H E G hr hW hw =>
  (dss_cons (ds_set 2 sc_l_mix.nd rfl (d_bin o_modA (d_bin o_mul (d_bin o_add (d_bin o_add (d_bin o_modA (d_var 0 (pv 0)) d_int) (d_var 1 (pv 1))) d_int) (d_bin o_add (d_bin o_mul (d_bin o_mul d_int (d_var 1 (pv 1))) (d_var 1 (pv 1))) d_int)) d_int))
  (dss_one (ds_ret (d_bin o_modA (d_bin o_mul (d_var 2 (pv 2)) (d_var 2 (pv 2))) d_int)))), hm, F.kp, b⟩⟩

theorem ok_l_draw {f : Addr} {fd : FuncData} (F : Fun K "_law_draw" "_law_draw" s_l_draw f fd) (hm : mg "_law_draw" = some (.ref f)) (b : Binds K fd ["_law_script", "_law_k"] []) (c_l_mix : Callee P w K mg base 1 "_law_mix" [.fz, .fz] .fz f_l_mix) (c_l_at : Callee P w K mg base 1 "_law_at" [.vw, .fz] .fz f_l_at) : Callee P w K mg base 2 "_law_draw" [.vw, .fz] .fz f_l_draw :=
  ⟨⟨f, fd, ["_law_script", "_law_k"], fn_pure F sc_l_draw rfl rfl fun cdv A outer s H E G hr hW hw =>
  (dss_one (ds_ret (d_call c_l_mix (hr.mono (by decide)) (by rfl) (da_cons (d_call c_l_at (hr.mono (by decide)) (by rfl) (da_cons (d_varB 0 (pv 0)) .vw (da_cons (d_bin o_add d_int (d_bin o_modA (d_var 1 (pv 1)) d_int)) .fz da_nil))) .fz (da_cons (d_bin o_add d_int (d_var 1 (pv 1))) .fz da_nil))))), hm, F.kp, b⟩⟩

theorem ok_l_named {f : Addr} {fd : FuncData} (F : Fun K "_law_named" "_law_named" s_l_named f fd) (hm : mg "_law_named" = some (.ref f)) (b : Binds K fd ["_law_k", "_law_number"] []) : Callee P w K mg base 1 "_law_named" [.fz, .fz] .fz f_l_named :=
  ⟨⟨f, fd, ["_law_k", "_law_number"], fn_pure F sc_l_named rfl rfl fun cdv A outer s H E G hr hW hw =>
  (dss_cons (ds_if (dt_cmp (o_eq (hu64 hr)) (d_bin o_modA (d_var 1 (pv 1)) d_int) d_int (by first | exact nomark _ | rfl)) (dss_one (ds_ret (d_bin o_add (d_bin o_mul (d_ix d_str (d_var 0 (pv 0)) (fun _ _ => rfl)) (d_bin o_add d_int (d_bin o_modA (d_bin o_divA (d_var 1 (pv 1)) d_int) d_int))) (d_ix d_str (d_bin o_modA (d_bin o_divA (d_var 1 (pv 1)) d_int) d_int) (fun _ _ => rfl))))) dss_nil)
  (dss_cons (ds_set 2 sc_l_named.nd rfl (d_bin o_modA (d_bin o_divA (d_var 1 (pv 1)) d_int) d_int))
  (dss_one (ds_ret (d_bin o_add (d_bin o_add (d_bin o_mul d_str (d_var 2 (pv 2))) (d_ix d_str (d_var 0 (pv 0)) (fun _ _ => rfl))) (d_bin o_mul d_str (d_bin o_sub d_int (d_var 2 (pv 2))))))))), hm, F.kp, b⟩⟩

theorem ok_l_wide {f : Addr} {fd : FuncData} (F : Fun K "_law_wide" "_law_wide" s_l_wide f fd) (hm : mg "_law_wide" = some (.ref f)) (b : Binds K fd ["_law_script", "_law_k", "_law_most"] []) (c_l_at : Callee P w K mg base 1 "_law_at" [.vw, .fz] .fz f_l_at) (c_l_draw : Callee P w K mg base 2 "_law_draw" [.vw, .fz] .fz f_l_draw) : Callee P w K mg base 3 "_law_wide" [.vw, .fz, .fz] .fz f_l_wide :=
  ⟨⟨f, fd, ["_law_script", "_law_k", "_law_most"], fn_pure F sc_l_wide rfl rfl fun cdv A outer s H E G hr hW hw =>
  (dss_cons (ds_set 3 sc_l_wide.nd rfl (d_call c_l_draw (hr.mono (by decide)) (by rfl) (da_cons (d_varB 0 (pv 0)) .vw (da_cons (d_var 1 (pv 1)) .fz da_nil))))
  (dss_cons (ds_if (dt_cmp (o_eq (hu64 hr)) (d_bin o_modA (d_var 3 (pv 3)) d_int) d_int (by first | exact nomark _ | rfl)) (dss_one (ds_ret (d_bin o_add (d_bin o_sub (d_bin o_modA (d_call c_l_at (hr.mono (by decide)) (by rfl) (da_cons (d_varB 0 (pv 0)) .vw (da_cons (d_bin o_add d_int (d_bin o_modA (d_var 1 (pv 1)) d_int)) .fz da_nil))) (d_bin o_sub (d_bin o_mul d_int (d_var 2 (pv 2))) d_int)) (d_var 2 (pv 2))) d_int))) dss_nil)
  (dss_one (ds_ret (d_bin o_sub (d_bin o_modA (d_bin o_divA (d_var 3 (pv 3)) d_int) d_int) d_int))))), hm, F.kp, b⟩⟩

theorem ok_l_items {f : Addr} {fd : FuncData} (F : Fun K "_law_items" "_law_items" s_l_items f fd) (hm : mg "_law_items" = some (.ref f)) (b : Binds K fd ["_law_script", "_law_many", "_law_most"] []) (c_l_wide : Callee P w K mg base 3 "_law_wide" [.vw, .fz, .fz] .fz f_l_wide) (c_l_named : Callee P w K mg base 1 "_law_named" [.fz, .fz] .fz f_l_named) (c_l_draw : Callee P w K mg base 2 "_law_draw" [.vw, .fz] .fz f_l_draw) (B_range : mg "range" = none) : Callee P w K mg base 4 "_law_items" [.vw, .fz, .fz] .ow f_l_items :=
  ⟨⟨f, fd, ["_law_script", "_law_many", "_law_most"], fn_pure F sc_l_items rfl rfl fun cdv A outer s H E G hr hW hw =>
  (dss_cons (ds_set 3 sc_l_items.nd rfl (d_call c_l_draw (hr.mono (by decide)) (by rfl) (da_cons (d_varB 0 (pv 0)) .vw (da_cons d_int .fz da_nil))))
  (dss_one (ds_ret (d_lc [("_law_k", 4)] rfl sc_l_items.nd (di_range1 (by rfl) B_range (d_var 1 (pv 1))) N_l_items (defScope s_l_items) (by decide +kernel) (fun _ _ _ _ _ => (dg_name 4 sc_l_items.nd rfl)) (fun _ _ _ _ _ => dif_nil) (fun _ _ _ _ _ => (d_tup (da_cons (d_call c_l_named (hr.mono (by decide)) (by rfl) (da_cons (d_var 4 (pv 4)) .fz (da_cons (d_var 3 (pv 3)) .fz da_nil))) .fz (da_cons (d_call c_l_wide (hr.mono (by decide)) (by rfl) (da_cons (d_varB 0 (pv 0)) .vw (da_cons (d_bin o_add d_int (d_var 4 (pv 4))) .fz (da_cons (d_var 2 (pv 2)) .fz da_nil)))) .fz da_nil)))))))), hm, F.kp, b⟩⟩

theorem ok_l_rules {f : Addr} {fd : FuncData} (F : Fun K "_law_rules" "_law_rules" s_l_rules f fd) (hm : mg "_law_rules" = some (.ref f)) (b : Binds K fd ["_law_script", "_law_items_here", "_law_many", "_law_most"] []) (c_l_named : Callee P w K mg base 1 "_law_named" [.fz, .fz] .fz f_l_named) (c_l_draw : Callee P w K mg base 2 "_law_draw" [.vw, .fz] .fz f_l_draw) (c_l_wide : Callee P w K mg base 3 "_law_wide" [.vw, .fz, .fz] .fz f_l_wide) (B_len : mg "len" = none) (B_range : mg "range" = none) (B_tuple : mg "tuple" = none) (B_zip : mg "zip" = none) : Callee P w K mg base 4 "_law_rules" [.vw, .fz, .fz, .fz] .ow f_l_rules :=
  ⟨⟨f, fd, ["_law_script", "_law_items_here", "_law_many", "_law_most"], fn_pure F sc_l_rules rfl rfl fun cdv A outer s H E G hr hW hw =>
  (dss_cons (ds_setL 4 sc_l_rules.nd rfl (d_lst da_nil))
  (dss_cons (ds_for PassesOwn.never rfl (di_range1 (by rfl) B_range (d_var 2 (pv 2))) (dg_name 5 sc_l_rules.nd rfl)
  (dss_cons (ds_set 6 sc_l_rules.nd rfl (d_callT o_tuple (by rfl) B_tuple (by decide +kernel) (da_cons (d_lc [("_law_j", 10)] rfl sc_l_rules.nd (di_range1 (by rfl) B_range (d_callB o_len (by rfl) B_len PySem.boot_len (da_cons (d_var 1 (pv 1)) .vw da_nil))) N_l_rules (defScope s_l_rules) (by decide +kernel) (fun _ _ _ _ _ => (dg_name 10 sc_l_rules.nd rfl)) (fun _ _ _ _ _ => dif_nil) (fun _ _ _ _ _ => (d_call c_l_wide (hr.mono (by decide)) (by rfl) (da_cons (d_varB 0 (pv 0)) .vw (da_cons (d_bin o_add (d_bin o_add d_int (d_bin o_mul d_int (d_var 5 (pv 5)))) (d_var 10 (pv 10))) .fz (da_cons (d_var 3 (pv 3)) .fz da_nil)))))) .vl da_nil)))
  (dss_cons (ds_set 7 sc_l_rules.nd rfl (d_bin o_mul (d_bin o_modA (d_call c_l_draw (hr.mono (by decide)) (by rfl) (da_cons (d_varB 0 (pv 0)) .vw (da_cons (d_bin o_add d_int (d_var 5 (pv 5))) .fz da_nil))) d_int) (d_bin o_modA (d_call c_l_draw (hr.mono (by decide)) (by rfl) (da_cons (d_varB 0 (pv 0)) .vw (da_cons (d_bin o_add d_int (d_var 5 (pv 5))) .fz da_nil))) d_int)))
  (dss_cons (ds_for PassesOwn.never rfl (di_zipG (by rfl) B_zip (d_var 6 (pv 6)) (d_var 1 (pv 1))) (dg_tup rfl (dgs_cons (dg_name 8 sc_l_rules.nd rfl) (dgs_cons (dg_name 9 sc_l_rules.nd rfl) dgs_nil)) rfl (fun _ _ _ h => tgCons_len (fun _ _ _ h => tgCons_len (fun _ _ _ h => tgNil_len h) h) h))
  (dss_one (ds_set 7 sc_l_rules.nd rfl (d_bin o_sub (d_var 7 (pv 7)) (d_bin o_mul (d_var 8 (pv 8)) (d_ix (d_var 9 (pv 9)) d_int (fun _ _ => rfl)))))))
  (dss_one (ds_app 4 (pv 4) (d_tup (da_cons (d_call c_l_named (hr.mono (by decide)) (by rfl) (da_cons (d_var 5 (pv 5)) .fz (da_cons (d_call c_l_draw (hr.mono (by decide)) (by rfl) (da_cons (d_varB 0 (pv 0)) .vw (da_cons d_int .fz da_nil))) .fz da_nil))) .fz (da_cons (d_var 6 (pv 6)) .fz (da_cons (d_var 7 (pv 7)) .fz da_nil))))))))))
  (dss_one (ds_retL 4 (pv 4))))), hm, F.kp, b⟩⟩

theorem ok_l_deeds {f : Addr} {fd : FuncData} (F : Fun K "_law_deeds" "_law_deeds" s_l_deeds f fd) (hm : mg "_law_deeds" = some (.ref f)) (b : Binds K fd ["_law_script", "_law_items_here", "_law_many"] []) (c_l_named : Callee P w K mg base 1 "_law_named" [.fz, .fz] .fz f_l_named) (c_l_draw : Callee P w K mg base 2 "_law_draw" [.vw, .fz] .fz f_l_draw) (c_l_wide : Callee P w K mg base 3 "_law_wide" [.vw, .fz, .fz] .fz f_l_wide) (B_int : mg "int" = none) (B_len : mg "len" = none) (B_range : mg "range" = none) (B_tuple : mg "tuple" = none) : Callee P w K mg base 4 "_law_deeds" [.vw, .fz, .fz] .ow f_l_deeds :=
  ⟨⟨f, fd, ["_law_script", "_law_items_here", "_law_many"], fn_pure F sc_l_deeds rfl rfl fun cdv A outer s H E G hr hW hw =>
  (dss_cons (ds_setL 3 sc_l_deeds.nd rfl (d_lst da_nil))
  (dss_cons (ds_for PassesOwn.never rfl (di_range1 (by rfl) B_range (d_var 2 (pv 2))) (dg_name 4 sc_l_deeds.nd rfl)
  (dss_cons (ds_set 5 sc_l_deeds.nd rfl (d_call c_l_wide (hr.mono (by decide)) (by rfl) (da_cons (d_varB 0 (pv 0)) .vw (da_cons (d_bin o_add d_int (d_var 4 (pv 4))) .fz (da_cons (d_bin o_pow d_int d_int) .fz da_nil)))))
  (dss_cons (ds_setL 6 sc_l_deeds.nd rfl (d_lst da_nil))
  (dss_cons (ds_for PassesOwn.never rfl (di_range1 (by rfl) B_range (d_callB o_len (by rfl) B_len PySem.boot_len (da_cons (d_var 1 (pv 1)) .vw da_nil))) (dg_name 7 sc_l_deeds.nd rfl)
  (dss_cons (ds_set 8 sc_l_deeds.nd rfl (d_bin o_modA (d_call c_l_draw (hr.mono (by decide)) (by rfl) (da_cons (d_varB 0 (pv 0)) .vw (da_cons (d_bin o_add (d_bin o_add d_int (d_bin o_mul d_int (d_var 4 (pv 4)))) (d_var 7 (pv 7))) .fz da_nil))) d_int))
  (dss_cons (ds_set 9 sc_l_deeds.nd rfl (d_bin o_mul (d_call c_l_wide (hr.mono (by decide)) (by rfl) (da_cons (d_varB 0 (pv 0)) .vw (da_cons (d_bin o_add (d_bin o_add d_int (d_bin o_mul d_int (d_var 4 (pv 4)))) (d_var 7 (pv 7))) .fz (da_cons (d_bin o_pow d_int d_int) .fz da_nil)))) (d_callT o_int (by rfl) B_int (by decide +kernel) (da_cons (d_cmp (o_ne (hu64 hr)) (d_var 8 (pv 8)) d_int (by first | exact nomark _ | rfl)) .vw da_nil))))
  (dss_one (ds_app 6 (pv 6) (d_tup (da_cons (d_var 9 (pv 9)) .fz (da_cons (d_bin o_mul (d_call c_l_wide (hr.mono (by decide)) (by rfl) (da_cons (d_varB 0 (pv 0)) .vw (da_cons (d_bin o_add (d_bin o_add d_int (d_bin o_mul d_int (d_var 4 (pv 4)))) (d_var 7 (pv 7))) .fz (da_cons (d_bin o_pow d_int d_int) .fz da_nil)))) (d_callT o_int (by rfl) B_int (by decide +kernel) (da_cons (d_cmp (o_eq (hu64 hr)) (d_var 8 (pv 8)) d_int (by first | exact nomark _ | rfl)) .vw da_nil))) .fz da_nil))))))))
  (dss_cons (ds_set 10 sc_l_deeds.nd rfl (d_bin o_add (d_var 5 (pv 5)) (d_bin o_modA (d_call c_l_draw (hr.mono (by decide)) (by rfl) (da_cons (d_varB 0 (pv 0)) .vw (da_cons (d_bin o_add d_int (d_var 4 (pv 4))) .fz da_nil))) d_int)))
  (dss_one (ds_app 3 (pv 3) (d_tup (da_cons (d_call c_l_named (hr.mono (by decide)) (by rfl) (da_cons (d_var 4 (pv 4)) .fz (da_cons (d_call c_l_draw (hr.mono (by decide)) (by rfl) (da_cons (d_varB 0 (pv 0)) .vw (da_cons d_int .fz da_nil))) .fz da_nil))) .fz (da_cons (d_var 5 (pv 5)) .fz (da_cons (d_var 10 (pv 10)) .fz (da_cons (d_callT o_tuple (by rfl) B_tuple (by decide +kernel) (da_cons (d_varL 6 (pv 6)) .vl da_nil)) .fz da_nil))))))))))))
  (dss_one (ds_retL 3 (pv 3))))), hm, F.kp, b⟩⟩

theorem ok_l_book {f : Addr} {fd : FuncData} (F : Fun K "_law_book" "_law_book" s_l_book f fd) (hm : mg "_law_book" = some (.ref f)) (b : Binds K fd ["_law_script", "_law_counts_here"] []) (c_l_deeds : Callee P w K mg base 4 "_law_deeds" [.vw, .fz, .fz] .ow f_l_deeds) (c_l_rules : Callee P w K mg base 4 "_law_rules" [.vw, .fz, .fz, .fz] .ow f_l_rules) (c_l_items : Callee P w K mg base 4 "_law_items" [.vw, .fz, .fz] .ow f_l_items) (c_l_mix : Callee P w K mg base 1 "_law_mix" [.fz, .fz] .fz f_l_mix) (c_l_at : Callee P w K mg base 1 "_law_at" [.vw, .fz] .fz f_l_at) : Callee P w K mg base 5 "_law_book" [.vw, .fz] .fz f_l_book :=
  ⟨⟨f, fd, ["_law_script", "_law_counts_here"], fn_pure F sc_l_book rfl rfl fun cdv A outer s H E G hr hW hw =>
  (dss_cons (ds_set 2 sc_l_book.nd rfl (d_bin o_modA (d_call c_l_mix (hr.mono (by decide)) (by rfl) (da_cons (d_call c_l_at (hr.mono (by decide)) (by rfl) (da_cons (d_varB 0 (pv 0)) .vw (da_cons d_int .fz da_nil))) .fz (da_cons d_int .fz da_nil))) d_int))
  (dss_cons (ds_set 3 sc_l_book.nd rfl (d_call c_l_items (hr.mono (by decide)) (by rfl) (da_cons (d_varB 0 (pv 0)) .vw (da_cons (d_ix (d_var 1 (pv 1)) d_int (fun _ _ => rfl)) .fz (da_cons (d_ix (d_lst (da_cons d_int .fz (da_cons (d_bin o_pow d_int d_int) .fz da_nil))) (d_var 2 (pv 2)) (fun _ _ => rfl)) .fz da_nil)))))
  (dss_one (ds_ret (d_tup (da_cons (d_var 3 (pv 3)) .fz (da_cons (d_call c_l_rules (hr.mono (by decide)) (by rfl) (da_cons (d_varB 0 (pv 0)) .vw (da_cons (d_var 3 (pv 3)) .fz (da_cons (d_ix (d_var 1 (pv 1)) d_int (fun _ _ => rfl)) .fz (da_cons (d_ix (d_lst (da_cons (d_bin o_pow d_int d_int) .fz (da_cons d_int .fz da_nil))) (d_var 2 (pv 2)) (fun _ _ => rfl)) .fz da_nil))))) .fz (da_cons (d_call c_l_deeds (hr.mono (by decide)) (by rfl) (da_cons (d_varB 0 (pv 0)) .vw (da_cons (d_var 3 (pv 3)) .fz (da_cons (d_ix (d_var 1 (pv 1)) d_int (fun _ _ => rfl)) .fz da_nil)))) .fz da_nil)))))))), hm, F.kp, b⟩⟩

theorem ok_l_counts {f : Addr} {fd : FuncData} (F : Fun K "_law_counts" "_law_counts" s_l_counts f fd) (hm : mg "_law_counts" = some (.ref f)) (b : Binds K fd ["_law_script"] []) (c_l_mix : Callee P w K mg base 1 "_law_mix" [.fz, .fz] .fz f_l_mix) (c_l_at : Callee P w K mg base 1 "_law_at" [.vw, .fz] .fz f_l_at) : Callee P w K mg base 2 "_law_counts" [.vw] .ow f_l_counts :=
  ⟨⟨f, fd, ["_law_script"], fn_pure F sc_l_counts rfl rfl fun cdv A outer s H E G hr hW hw =>
  (dss_cons (ds_set 1 sc_l_counts.nd rfl (d_call c_l_mix (hr.mono (by decide)) (by rfl) (da_cons (d_call c_l_at (hr.mono (by decide)) (by rfl) (da_cons (d_varB 0 (pv 0)) .vw (da_cons d_int .fz da_nil))) .fz (da_cons d_int .fz da_nil))))
  (dss_one (ds_ret (d_lst (da_cons (d_bin o_add d_int (d_bin o_modA (d_var 1 (pv 1)) d_int)) .fz (da_cons (d_bin o_add d_int (d_bin o_modA (d_bin o_divA (d_var 1 (pv 1)) d_int) d_int)) .fz (da_cons (d_bin o_add d_int (d_bin o_modA (d_bin o_divA (d_var 1 (pv 1)) d_int) d_int)) .fz da_nil))))))), hm, F.kp, b⟩⟩

theorem ok_l_other_name {f : Addr} {fd : FuncData} (F : Fun K "_law_other_name" "_law_other_name" s_l_other_name f fd) (hm : mg "_law_other_name" = some (.ref f)) (b : Binds K fd ["_law_number", "_law_names"] []) (B_len : mg "len" = none) : Callee P w K mg base 1 "_law_other_name" [.fz, .fz] .fz f_l_other_name :=
  ⟨⟨f, fd, ["_law_number", "_law_names"], fn_pure F sc_l_other_name rfl rfl fun cdv A outer s H E G hr hW hw =>
  (dss_cons (ds_set 2 sc_l_other_name.nd rfl (d_lst (da_cons d_str .fz (da_cons d_str .fz (da_cons d_str .fz (da_cons d_str .fz (da_cons d_str .fz (da_cons d_str .fz (da_cons d_str .fz (da_cons d_str .fz (da_cons d_str .fz (da_cons d_str .fz (da_cons d_str .fz (da_cons d_str .fz da_nil))))))))))))))
  (dss_cons (ds_if (DW.t (dw_and (dt_cmp (o_eq (hu64 hr)) (d_bin o_modA (d_var 0 (pv 0)) d_int) d_int (by first | exact nomark _ | rfl)) (dw_and1 (dt_cmp o_gt (d_callB o_len (by rfl) B_len PySem.boot_len (da_cons (d_var 1 (pv 1)) .vw da_nil)) d_int (by first | exact nomark _ | rfl))))) (dss_one (ds_ret (d_ix (d_var 1 (pv 1)) (d_bin o_modA (d_bin o_divA (d_var 0 (pv 0)) d_int) (d_callB o_len (by rfl) B_len PySem.boot_len (da_cons (d_var 1 (pv 1)) .vw da_nil))) (fun _ _ => rfl)))) dss_nil)
  (dss_one (ds_ret (d_ix (d_var 2 (pv 2)) (d_bin o_modA (d_bin o_divA (d_var 0 (pv 0)) d_int) d_int) (fun _ _ => rfl)))))), hm, F.kp, b⟩⟩

theorem ok_l_renamed {f : Addr} {fd : FuncData} (F : Fun K "_law_renamed" "_law_renamed" s_l_renamed f fd) (hm : mg "_law_renamed" = some (.ref f)) (b : Binds K fd ["_law_things", "_law_number"] []) (c_l_other_name : Callee P w K mg base 1 "_law_other_name" [.fz, .fz] .fz f_l_other_name) (B_enumerate : mg "enumerate" = none) (B_len : mg "len" = none) : Callee P w K mg base 2 "_law_renamed" [.fz, .fz] .ow f_l_renamed :=
  ⟨⟨f, fd, ["_law_things", "_law_number"], fn_pure F sc_l_renamed rfl rfl fun cdv A outer s H E G hr hW hw =>
  (dss_cons (ds_set 2 sc_l_renamed.nd rfl (d_bin o_modA (d_var 1 (pv 1)) (d_callB o_len (by rfl) B_len PySem.boot_len (da_cons (d_var 0 (pv 0)) .vw da_nil))))
  (dss_cons (ds_set 3 sc_l_renamed.nd rfl (d_bin o_add (d_lc [("_law_k", 5), ("_law_thing", 4)] rfl sc_l_renamed.nd (di_enumG (by rfl) B_enumerate (d_var 0 (pv 0))) N_l_renamed (defScope s_l_renamed) (by decide +kernel) (fun _ _ _ _ _ => (dg_tup rfl (dgs_cons (dg_name 5 sc_l_renamed.nd rfl) (dgs_cons (dg_name 4 sc_l_renamed.nd rfl) dgs_nil)) rfl (fun _ _ _ h => tgCons_len (fun _ _ _ h => tgCons_len (fun _ _ _ h => tgNil_len h) h) h))) (fun _ _ _ _ _ => (dif_one (dt_cmp (o_ne (hu64 hr)) (d_var 5 (pv 5)) (d_var 2 (pv 2)) (by first | exact nomark _ | rfl)))) (fun _ _ _ _ _ => (d_ix (d_var 4 (pv 4)) d_int (fun _ _ => rfl)))) (d_lst (da_cons d_str .fz da_nil))))
  (dss_cons (ds_set 4 sc_l_renamed.nd rfl (d_bin o_add (d_tup (da_cons (d_call c_l_other_name (hr.mono (by decide)) (by rfl) (da_cons (d_bin o_divA (d_var 1 (pv 1)) d_int) .fz (da_cons (d_var 3 (pv 3)) .fz da_nil))) .fz da_nil)) (d_sl (d_ix (d_var 0 (pv 0)) (d_var 2 (pv 2)) (fun _ _ => rfl)) (dp_some d_int) dp_none)))
  (dss_one (ds_ret (d_bin o_addL (d_bin o_add (d_sl (d_var 0 (pv 0)) dp_none (dp_some (d_var 2 (pv 2)))) (d_lst (da_cons (d_var 4 (pv 4)) .fz da_nil))) (d_sl (d_var 0 (pv 0)) (dp_some (d_bin o_add (d_var 2 (pv 2)) d_int)) dp_none))))))), hm, F.kp, b⟩⟩

theorem ok_l_resized {f : Addr} {fd : FuncData} (F : Fun K "_law_resized" "_law_resized" s_l_resized f fd) (hm : mg "_law_resized" = some (.ref f)) (b : Binds K fd ["_law_numbers", "_law_number", "_law_one"] []) : Callee P w K mg base 1 "_law_resized" [.fz, .fz, .fz] .fz f_l_resized :=
  ⟨⟨f, fd, ["_law_numbers", "_law_number", "_law_one"], fn_pure F sc_l_resized rfl rfl fun cdv A outer s H E G hr hW hw =>
  (dss_cons (ds_if (dt_cmp (o_eq (hu64 hr)) (d_bin o_modA (d_var 1 (pv 1)) d_int) d_int (by first | exact nomark _ | rfl)) (dss_one (ds_ret (d_sl (d_var 0 (pv 0)) (dp_some d_int) dp_none))) dss_nil)
  (dss_one (ds_ret (d_bin o_add (d_var 0 (pv 0)) (d_tup (da_cons (d_var 2 (pv 2)) .fz da_nil)))))), hm, F.kp, b⟩⟩

theorem ok_l_wrong {f : Addr} {fd : FuncData} (F : Fun K "_law_wrong" "_law_wrong" s_l_wrong f fd) (hm : mg "_law_wrong" = some (.ref f)) (b : Binds K fd ["_law_script", "_law_book_here", "_law_number"] []) (c_l_book : Callee P w K mg base 5 "_law_book" [.vw, .fz] .fz f_l_book) (c_l_counts : Callee P w K mg base 2 "_law_counts" [.vw] .ow f_l_counts) (c_l_renamed : Callee P w K mg base 2 "_law_renamed" [.fz, .fz] .ow f_l_renamed) (c_l_resized : Callee P w K mg base 1 "_law_resized" [.fz, .fz, .fz] .fz f_l_resized) (B_len : mg "len" = none) (B_list : mg "list" = none) (B_range : mg "range" = none) : CalM P w K mg base 6 "_law_wrong" [false, false, false] f_l_wrong :=
  ⟨⟨f, fd, ["_law_script", "_law_book_here", "_law_number"], fn_mu (ks := [false, false, false]) F sc_l_wrong rfl fun cdv A outer s H E G hr hw =>
  (dss_cons (ds_set 3 sc_l_wrong.nd rfl (d_bin o_modA (d_var 2 (pv 2)) d_int))
  (dss_cons (ds_set 2 sc_l_wrong.nd rfl (d_bin o_divA (d_var 2 (pv 2)) d_int))
  (dss_cons (ds_setX 4 sc_l_wrong.nd rfl (dx_of (dn_lst (dns_cons (dn_ow (d_callT o_list (by rfl) B_list (by decide +kernel) (da_cons (d_ix (d_var 1 (pv 1)) d_int (fun _ _ => rfl)) .vl da_nil))) (dns_cons (dn_ow (d_callT o_list (by rfl) B_list (by decide +kernel) (da_cons (d_ix (d_var 1 (pv 1)) d_int (fun _ _ => rfl)) .vl da_nil))) (dns_cons (dn_ow (d_callT o_list (by rfl) B_list (by decide +kernel) (da_cons (d_ix (d_var 1 (pv 1)) d_int (fun _ _ => rfl)) .vl da_nil))) dns_nil))) (by decide) (fun e u h => by rw [(nsCons_len (nsCons_len (nsCons_len (fun _ _ h => nsNil_len h)))) e u h]; decide))))
  (dss_cons (ds_set 5 sc_l_wrong.nd rfl (d_bin o_modA (d_var 2 (pv 2)) d_int))
  (dss_cons (ds_if (dt_cmp (o_eq (hu64 hr)) (d_var 3 (pv 3)) d_int (by first | exact nomark _ | rfl)) (dss_one (ds_ixP (dp_name 4 (pv 4)) (d_var 5 (pv 5)) (dx_of (dn_ow (d_lst da_nil))))) (dss_one (ds_if (DW.t (dw_and (dt_cmp (o_eq (hu64 hr)) (d_var 3 (pv 3)) d_int (by first | exact nomark _ | rfl)) (dw_and (dt_cmp o_gt (d_var 5 (pv 5)) d_int (by first | exact nomark _ | rfl)) (dw_and1 (dt_cmp (o_eq (hu64 hr)) (d_bin o_modA (d_bin o_divA (d_var 2 (pv 2)) d_int) d_int) d_int (by first | exact nomark _ | rfl)))))) (dss_cons (ds_set 6 sc_l_wrong.nd rfl (d_rleaf (dr_ix (dr_ix (dr_name 4 (pv 4)) (d_var 5 (pv 5)) (fun _ _ => rfl)) d_int (fun _ _ => rfl))))
  (dss_cons (ds_for PassesOwn.never rfl (di_range1 (by rfl) B_range (d_bin o_add d_int (d_bin o_modA (d_bin o_divA (d_var 2 (pv 2)) d_int) d_int))) (dg_name 7 sc_l_wrong.nd rfl)
  (dss_cons (ds_set 8 sc_l_wrong.nd rfl (d_bin o_add (d_bin o_add d_str (d_ix d_str (d_bin o_modA (d_var 7 (pv 7)) d_int) (fun _ _ => rfl))) (d_ix d_str (d_bin o_divA (d_var 7 (pv 7)) d_int) (fun _ _ => rfl))))
  (dss_one (ds_exprX (dx_appP (dp_ix (dp_name 4 (pv 4)) (d_var 5 (pv 5)) (fun _ _ => rfl)) (dn_fz (d_bin o_add (d_tup (da_cons (d_var 8 (pv 8)) .fz da_nil)) (d_sl (d_var 6 (pv 6)) (dp_some d_int) dp_none))))))))
  (dss_one (ds_ixP (dp_name 4 (pv 4)) (d_var 5 (pv 5)) (dx_of (dn_ow (d_fvT 4 (fun _ => (d_slL (d_ix (d_var 4 (pv 4)) (d_var 5 (pv 5)) (fun _ _ => rfl)) (dp_some (d_neg d_int)) dp_none))))))))) (dss_one (ds_if (dt_cmp (o_eq (hu64 hr)) (d_var 3 (pv 3)) d_int (by first | exact nomark _ | rfl)) (dss_cons (ds_setL 9 sc_l_wrong.nd rfl (d_call c_l_counts (hr.mono (by decide)) (by rfl) (da_cons (d_vw 0 (pv 0)) .vw da_nil)))
  (dss_cons (ds_setIx 9 (pv 9) (d_var 5 (pv 5)) (d_ix (d_lst (da_cons d_int .fz (da_cons d_int .fz (da_cons d_int .fz da_nil)))) (d_var 5 (pv 5)) (fun _ _ => rfl)))
  (dss_fz 9 (dss_one (ds_retX (dx_of (dn_fz (d_call c_l_book (hr.mono (by decide)) (by rfl) (da_cons (d_vw 0 (pv 0)) .vw (da_cons (d_var 9 (pv 9)) .fz da_nil)))))))))) (dss_one (ds_if (dt_cmp o_lt (d_var 3 (pv 3)) d_int (by first | exact nomark _ | rfl)) (dss_one (ds_ixP (dp_name 4 (pv 4)) (d_var 5 (pv 5)) (dx_of (dn_ow (d_fvT 4 (fun _ => (d_call c_l_renamed (hr.mono (by decide)) (by rfl) (da_cons (d_ix (d_var 4 (pv 4)) (d_var 5 (pv 5)) (fun _ _ => rfl)) .fz (da_cons (d_bin o_divA (d_var 2 (pv 2)) d_int) .fz da_nil))))))))) (dss_one (ds_if (dt_cmp (o_eq (hu64 hr)) (d_var 3 (pv 3)) d_int (by first | exact nomark _ | rfl)) (dss_cons (ds_set 10 sc_l_wrong.nd rfl (d_bin o_modA (d_bin o_divA (d_var 2 (pv 2)) d_int) (d_callB o_len (by rfl) B_len PySem.boot_len (da_cons (d_ix (d_var 1 (pv 1)) d_int (fun _ _ => rfl)) .vw da_nil))))
  (dss_cons (ds_set 11 sc_l_wrong.nd rfl (d_ix (d_ix (d_var 1 (pv 1)) d_int (fun _ _ => rfl)) (d_var 10 (pv 10)) (fun _ _ => rfl)))
  (dss_one (ds_ixP (dp_ix (dp_name 4 (pv 4)) d_int (fun _ _ => rfl)) (d_var 10 (pv 10)) (dx_of (dn_fz (d_tup (da_cons (d_ix (d_var 11 (pv 11)) d_int (fun _ _ => rfl)) .fz (da_cons (d_call c_l_resized (hr.mono (by decide)) (by rfl) (da_cons (d_ix (d_var 11 (pv 11)) d_int (fun _ _ => rfl)) .fz (da_cons (d_bin o_divA (d_var 2 (pv 2)) d_int) .fz (da_cons d_int .fz da_nil)))) .fz (da_cons (d_ix (d_var 11 (pv 11)) d_int (fun _ _ => rfl)) .fz da_nil)))))))))) (dss_cons (ds_set 10 sc_l_wrong.nd rfl (d_bin o_modA (d_bin o_divA (d_var 2 (pv 2)) d_int) (d_callB o_len (by rfl) B_len PySem.boot_len (da_cons (d_ix (d_var 1 (pv 1)) d_int (fun _ _ => rfl)) .vw da_nil))))
  (dss_cons (ds_set 12 sc_l_wrong.nd rfl (d_ix (d_ix (d_var 1 (pv 1)) d_int (fun _ _ => rfl)) (d_var 10 (pv 10)) (fun _ _ => rfl)))
  (dss_cons (ds_ixP (dp_ix (dp_name 4 (pv 4)) d_int (fun _ _ => rfl)) (d_var 10 (pv 10)) (dx_of (dn_fz (d_tup (da_cons (d_ix (d_var 12 (pv 12)) d_int (fun _ _ => rfl)) .fz (da_cons (d_bin o_add (d_bin o_add (d_ix (d_var 12 (pv 12)) d_int (fun _ _ => rfl)) d_int) (d_bin o_modA (d_bin o_divA (d_var 2 (pv 2)) d_int) d_int)) .fz (da_cons (d_ix (d_var 12 (pv 12)) d_int (fun _ _ => rfl)) .fz (da_cons (d_ix (d_var 12 (pv 12)) d_int (fun _ _ => rfl)) .fz da_nil))))))))
  (dss_one (ds_if (dt_cmp (o_eq (hu64 hr)) (d_var 3 (pv 3)) d_int (by first | exact nomark _ | rfl)) (dss_one (ds_ixP (dp_ix (dp_name 4 (pv 4)) d_int (fun _ _ => rfl)) (d_var 10 (pv 10)) (dx_of (dn_fz (d_bin o_add (d_sl (d_var 12 (pv 12)) dp_none (dp_some d_int)) (d_tup (da_cons (d_call c_l_resized (hr.mono (by decide)) (by rfl) (da_cons (d_ix (d_var 12 (pv 12)) d_int (fun _ _ => rfl)) .fz (da_cons (d_bin o_divA (d_var 2 (pv 2)) d_int) .fz (da_cons (d_tup (da_cons d_int .fz (da_cons d_int .fz da_nil))) .fz da_nil)))) .fz da_nil))))))) dss_nil))))))))))))))
  (dss_fzT 4 (dss_one (ds_retX (dx_of (dn_fz (d_tup (da_cons (d_ix (d_var 4 (pv 4)) d_int (fun _ _ => rfl)) .fz (da_cons (d_ix (d_var 4 (pv 4)) d_int (fun _ _ => rfl)) .fz (da_cons (d_ix (d_var 4 (pv 4)) d_int (fun _ _ => rfl)) .fz da_nil)))))))))))))), hm, F.kp, b⟩⟩

theorem ok_l_broken {f : Addr} {fd : FuncData} (F : Fun K "_law_broken" "_law_broken" s_l_broken f fd) (hm : mg "_law_broken" = some (.ref f)) (b : Binds K fd ["_law_book_here", "_law_number"] []) (B_len : mg "len" = none) (B_list : mg "list" = none) : Callee P w K mg base 1 "_law_broken" [.fz, .fz] .fz f_l_broken :=
  ⟨⟨f, fd, ["_law_book_here", "_law_number"], fn_pure F sc_l_broken rfl rfl fun cdv A outer s H E G hr hW hw =>
  (dss_cons (ds_setL 2 sc_l_broken.nd rfl (d_callT o_list (by rfl) B_list (by decide +kernel) (da_cons (d_ix (d_var 0 (pv 0)) d_int (fun _ _ => rfl)) .vl da_nil)))
  (dss_cons (ds_if (DW.t (dw_and (dt_cmp (o_ne (hu64 hr)) (d_varL 2 (pv 2)) (d_lst da_nil) (by first | exact nomark _ | rfl)) (dw_and1 (dt_cmp (o_eq (hu64 hr)) (d_bin o_modA (d_var 1 (pv 1)) d_int) d_int (by first | exact nomark _ | rfl))))) (dss_cons (ds_set 3 sc_l_broken.nd rfl (d_bin o_modA (d_bin o_divA (d_var 1 (pv 1)) d_int) (d_callB o_len (by rfl) B_len PySem.boot_len (da_cons (d_varL 2 (pv 2)) .vw da_nil))))
  (dss_one (ds_setIx 2 (pv 2) (d_var 3 (pv 3)) (d_tup (da_cons (d_ix (d_ix (d_varL 2 (pv 2)) (d_var 3 (pv 3)) (fun _ _ => rfl)) d_int (fun _ _ => rfl)) .fz (da_cons (d_ix (d_ix (d_varL 2 (pv 2)) (d_var 3 (pv 3)) (fun _ _ => rfl)) d_int (fun _ _ => rfl)) .fz (da_cons (d_bin o_sub (d_ix (d_ix (d_varL 2 (pv 2)) (d_var 3 (pv 3)) (fun _ _ => rfl)) d_int (fun _ _ => rfl)) (d_bin o_pow d_int d_int)) .fz da_nil))))))) dss_nil)
  (dss_fz 2 (dss_one (ds_ret (d_tup (da_cons (d_ix (d_var 0 (pv 0)) d_int (fun _ _ => rfl)) .fz (da_cons (d_var 2 (pv 2)) .fz (da_cons (d_ix (d_var 0 (pv 0)) d_int (fun _ _ => rfl)) .fz da_nil))))))))), hm, F.kp, b⟩⟩

theorem ok_l_refused {f : Addr} {fd : FuncData} (F : Fun K "_law_refused" "_law_refused" s_l_refused f fd) (hm : mg "_law_refused" = some (.ref f)) (b : Binds K fd ["_law_book_here"] []) {CB_BookError : Addr} {CB_Broken : Addr} {CB_Folded : Addr} {CB_NoBook : Addr} {CB_NoDeed : Addr} {CB_NoLine : Addr} {CB_NoName : Addr} {CB_NoPaper : Addr} {CB_NoRule : Addr} {CB_NoText : Addr} {CB_NotPlain : Addr} {CB_OutOfRange : Addr} {CB_ShortShare : Addr} (c_check_book : CalX P w K mg base 4 "check_book" [false] f_check_book) (gB_BookError : mg "BookError" = some (.ref CB_BookError)) (gB_Broken : mg "Broken" = some (.ref CB_Broken)) (gB_Folded : mg "Folded" = some (.ref CB_Folded)) (gB_NoBook : mg "NoBook" = some (.ref CB_NoBook)) (gB_NoDeed : mg "NoDeed" = some (.ref CB_NoDeed)) (gB_NoLine : mg "NoLine" = some (.ref CB_NoLine)) (gB_NoName : mg "NoName" = some (.ref CB_NoName)) (gB_NoPaper : mg "NoPaper" = some (.ref CB_NoPaper)) (gB_NoRule : mg "NoRule" = some (.ref CB_NoRule)) (gB_NoText : mg "NoText" = some (.ref CB_NoText)) (gB_NotPlain : mg "NotPlain" = some (.ref CB_NotPlain)) (gB_OutOfRange : mg "OutOfRange" = some (.ref CB_OutOfRange)) (gB_ShortShare : mg "ShortShare" = some (.ref CB_ShortShare)) (xt_Broken : ∀ c, c ∈ (["Broken"] : List Str) → ExOk K c ∧ IsOk K c (.ref CB_Broken) true) (xn_Broken : ∀ c, c ∈ (["NoText", "NoName", "NotPlain", "NoBook", "NoLine", "NoDeed", "NoRule", "OutOfRange", "ShortShare", "Folded", "NoPaper"] : List Str) → ExOk K c ∧ IsOk K c (.ref CB_Broken) false) (xt_Folded : ∀ c, c ∈ (["Folded"] : List Str) → ExOk K c ∧ IsOk K c (.ref CB_Folded) true) (xn_Folded : ∀ c, c ∈ (["NoText", "NoName", "NotPlain", "NoBook", "Broken", "NoLine", "NoDeed", "NoRule", "OutOfRange", "ShortShare", "NoPaper"] : List Str) → ExOk K c ∧ IsOk K c (.ref CB_Folded) false) (xt_NoBook : ∀ c, c ∈ (["NoBook"] : List Str) → ExOk K c ∧ IsOk K c (.ref CB_NoBook) true) (xn_NoBook : ∀ c, c ∈ (["NoText", "NoName", "NotPlain", "Broken", "NoLine", "NoDeed", "NoRule", "OutOfRange", "ShortShare", "Folded", "NoPaper"] : List Str) → ExOk K c ∧ IsOk K c (.ref CB_NoBook) false) (xt_NoDeed : ∀ c, c ∈ (["NoDeed"] : List Str) → ExOk K c ∧ IsOk K c (.ref CB_NoDeed) true) (xn_NoDeed : ∀ c, c ∈ (["NoText", "NoName", "NotPlain", "NoBook", "Broken", "NoLine", "NoRule", "OutOfRange", "ShortShare", "Folded", "NoPaper"] : List Str) → ExOk K c ∧ IsOk K c (.ref CB_NoDeed) false) (xt_NoLine : ∀ c, c ∈ (["NoLine"] : List Str) → ExOk K c ∧ IsOk K c (.ref CB_NoLine) true) (xn_NoLine : ∀ c, c ∈ (["NoText", "NoName", "NotPlain", "NoBook", "Broken", "NoDeed", "NoRule", "OutOfRange", "ShortShare", "Folded", "NoPaper"] : List Str) → ExOk K c ∧ IsOk K c (.ref CB_NoLine) false) (xt_NoName : ∀ c, c ∈ (["NoName"] : List Str) → ExOk K c ∧ IsOk K c (.ref CB_NoName) true) (xn_NoName : ∀ c, c ∈ (["NoText", "NotPlain", "NoBook", "Broken", "NoLine", "NoDeed", "NoRule", "OutOfRange", "ShortShare", "Folded", "NoPaper"] : List Str) → ExOk K c ∧ IsOk K c (.ref CB_NoName) false) (xt_NoPaper : ∀ c, c ∈ (["NoPaper"] : List Str) → ExOk K c ∧ IsOk K c (.ref CB_NoPaper) true) (xn_NoPaper : ∀ c, c ∈ (["NoText", "NoName", "NotPlain", "NoBook", "Broken", "NoLine", "NoDeed", "NoRule", "OutOfRange", "ShortShare", "Folded"] : List Str) → ExOk K c ∧ IsOk K c (.ref CB_NoPaper) false) (xt_NoRule : ∀ c, c ∈ (["NoRule"] : List Str) → ExOk K c ∧ IsOk K c (.ref CB_NoRule) true) (xn_NoRule : ∀ c, c ∈ (["NoText", "NoName", "NotPlain", "NoBook", "Broken", "NoLine", "NoDeed", "OutOfRange", "ShortShare", "Folded", "NoPaper"] : List Str) → ExOk K c ∧ IsOk K c (.ref CB_NoRule) false) (xt_NoText : ∀ c, c ∈ (["NoText"] : List Str) → ExOk K c ∧ IsOk K c (.ref CB_NoText) true) (xn_NoText : ∀ c, c ∈ (["NoName", "NotPlain", "NoBook", "Broken", "NoLine", "NoDeed", "NoRule", "OutOfRange", "ShortShare", "Folded", "NoPaper"] : List Str) → ExOk K c ∧ IsOk K c (.ref CB_NoText) false) (xt_NotPlain : ∀ c, c ∈ (["NotPlain"] : List Str) → ExOk K c ∧ IsOk K c (.ref CB_NotPlain) true) (xn_NotPlain : ∀ c, c ∈ (["NoText", "NoName", "NoBook", "Broken", "NoLine", "NoDeed", "NoRule", "OutOfRange", "ShortShare", "Folded", "NoPaper"] : List Str) → ExOk K c ∧ IsOk K c (.ref CB_NotPlain) false) (xt_OutOfRange : ∀ c, c ∈ (["OutOfRange"] : List Str) → ExOk K c ∧ IsOk K c (.ref CB_OutOfRange) true) (xn_OutOfRange : ∀ c, c ∈ (["NoText", "NoName", "NotPlain", "NoBook", "Broken", "NoLine", "NoDeed", "NoRule", "ShortShare", "Folded", "NoPaper"] : List Str) → ExOk K c ∧ IsOk K c (.ref CB_OutOfRange) false) (xt_ShortShare : ∀ c, c ∈ (["ShortShare"] : List Str) → ExOk K c ∧ IsOk K c (.ref CB_ShortShare) true) (xn_ShortShare : ∀ c, c ∈ (["NoText", "NoName", "NotPlain", "NoBook", "Broken", "NoLine", "NoDeed", "NoRule", "OutOfRange", "Folded", "NoPaper"] : List Str) → ExOk K c ∧ IsOk K c (.ref CB_ShortShare) false) (xt_ValueError : ∀ c, c ∈ (["NoText", "NoName", "NotPlain", "NoBook", "Broken", "NoLine", "NoDeed", "NoRule", "OutOfRange", "ShortShare", "Folded", "NoPaper"] : List Str) → ExOk K c ∧ IsOk K c (.type "ValueError") true) (xn_ValueError : ∀ c, c ∈ ([] : List Str) → ExOk K c ∧ IsOk K c (.type "ValueError") false) (xu_BookError : ∀ c, c ∈ (["NoText", "NoName", "NotPlain", "NoBook", "Broken", "NoLine", "NoDeed", "NoRule", "OutOfRange", "ShortShare", "Folded", "NoPaper"] : List Str) → Under K (.ref CB_BookError) c) (B_ValueError : mg "ValueError" = none) (B_isinstance : mg "isinstance" = none) : CalT P w K mg base 5 "_law_refused" 1 f_l_refused :=
  ⟨⟨f, fd, ["_law_book_here"], fn_ro F sc_l_refused fun cdv A outer s H E G hr hw =>
  (dss_cons (ds_setX 1 sc_l_refused.nd rfl (dx_of (dn_fz d_non)))
  (dss_cons (ds_tryKeep ["NoText", "NoName", "NotPlain", "NoBook", "Broken", "NoLine", "NoDeed", "NoRule", "OutOfRange", "ShortShare", "Folded", "NoPaper"] 2 1 (by decide) rfl rfl rfl sc_l_refused.nd rfl rfl rfl rfl ⟨by rfl, by decide, .inl gB_BookError⟩ xu_BookError (fun a oe pn => pv 2) (fun a oe pn => rfl) (fun pn xe po =>
  (dss_one (ds_exprY (dy_callP c_check_book hw (hr.mono (by decide)) (by rfl) (dmp_ro (d_var 0 (pv 0)) dmp_nil))))))
  (dss_cons (ds_if (DW.t (dw_or (dt_not (dt_val (d_isX ["NoBook"] ["NoText", "NoName", "NotPlain", "Broken", "NoLine", "NoDeed", "NoRule", "OutOfRange", "ShortShare", "Folded", "NoPaper"] (V.ref CB_NoBook) (.ref CB_NoBook) (dr_name 1 (pv 1)) (by rfl) B_isinstance (pe_glob (v := V.ref CB_NoBook) (by rfl) gB_NoBook rfl) (fun _ _ _ h => h) (fun _ h => h) xt_NoBook xn_NoBook))) (dw_or1 (dt_not (dt_val (d_isX ["NoText", "NoName", "NotPlain", "NoBook", "Broken", "NoLine", "NoDeed", "NoRule", "OutOfRange", "ShortShare", "Folded", "NoPaper"] [] (.ty "ValueError") (.type "ValueError") (dr_name 1 (pv 1)) (by rfl) B_isinstance (pe_bltn (by rfl) B_ValueError (v := .ty "ValueError") (by decide +kernel) rfl (by decide) (by decide)) (fun _ _ _ h => h) (fun _ h => h) xt_ValueError xn_ValueError)))))) (dss_one (ds_retX (dx_of (dn_fz d_bl)))) dss_nil)
  (dss_cons (ds_if (dt_val (d_isXT ["NoText", "NoName", "Broken", "NoLine", "NoDeed", "NoRule", "Folded", "NoPaper"] ["NotPlain", "NoBook", "OutOfRange", "ShortShare"] (dr_name 1 (pv 1)) (by rfl) B_isinstance (PCs.cons (C := CB_Broken) (pe_glob (v := V.ref CB_Broken) (by rfl) gB_Broken rfl) (fun _ _ _ h => h) (PCs.cons (C := CB_Folded) (pe_glob (v := V.ref CB_Folded) (by rfl) gB_Folded rfl) (fun _ _ _ h => h) (PCs.cons (C := CB_NoDeed) (pe_glob (v := V.ref CB_NoDeed) (by rfl) gB_NoDeed rfl) (fun _ _ _ h => h) (PCs.cons (C := CB_NoLine) (pe_glob (v := V.ref CB_NoLine) (by rfl) gB_NoLine rfl) (fun _ _ _ h => h) (PCs.cons (C := CB_NoName) (pe_glob (v := V.ref CB_NoName) (by rfl) gB_NoName rfl) (fun _ _ _ h => h) (PCs.cons (C := CB_NoPaper) (pe_glob (v := V.ref CB_NoPaper) (by rfl) gB_NoPaper rfl) (fun _ _ _ h => h) (PCs.cons (C := CB_NoRule) (pe_glob (v := V.ref CB_NoRule) (by rfl) gB_NoRule rfl) (fun _ _ _ h => h) (PCs.cons (C := CB_NoText) (pe_glob (v := V.ref CB_NoText) (by rfl) gB_NoText rfl) (fun _ _ _ h => h) PCs.nil)))))))) (Nat.le_of_ble_eq_true rfl) (List.forall_mem_cons.2 ⟨⟨(xt_NoText "NoText" (.head _)).1, (isT_f (xn_Broken "NoText" (.head _)).2 (isT_f (xn_Folded "NoText" (.head _)).2 (isT_f (xn_NoDeed "NoText" (.head _)).2 (isT_f (xn_NoLine "NoText" (.head _)).2 (isT_f (xn_NoName "NoText" (.head _)).2 (isT_f (xn_NoPaper "NoText" (.head _)).2 (isT_f (xn_NoRule "NoText" (.head _)).2 (isT_t (xt_NoText "NoText" (.head _)).2))))))))⟩, (List.forall_mem_cons.2 ⟨⟨(xt_NoName "NoName" (.head _)).1, (isT_f (xn_Broken "NoName" (.tail _ (.head _))).2 (isT_f (xn_Folded "NoName" (.tail _ (.head _))).2 (isT_f (xn_NoDeed "NoName" (.tail _ (.head _))).2 (isT_f (xn_NoLine "NoName" (.tail _ (.head _))).2 (isT_t (xt_NoName "NoName" (.head _)).2)))))⟩, (List.forall_mem_cons.2 ⟨⟨(xt_Broken "Broken" (.head _)).1, (isT_t (xt_Broken "Broken" (.head _)).2)⟩, (List.forall_mem_cons.2 ⟨⟨(xt_NoLine "NoLine" (.head _)).1, (isT_f (xn_Broken "NoLine" (.tail _ (.tail _ (.tail _ (.tail _ (.head _)))))).2 (isT_f (xn_Folded "NoLine" (.tail _ (.tail _ (.tail _ (.tail _ (.tail _ (.head _))))))).2 (isT_f (xn_NoDeed "NoLine" (.tail _ (.tail _ (.tail _ (.tail _ (.tail _ (.head _))))))).2 (isT_t (xt_NoLine "NoLine" (.head _)).2))))⟩, (List.forall_mem_cons.2 ⟨⟨(xt_NoDeed "NoDeed" (.head _)).1, (isT_f (xn_Broken "NoDeed" (.tail _ (.tail _ (.tail _ (.tail _ (.tail _ (.head _))))))).2 (isT_f (xn_Folded "NoDeed" (.tail _ (.tail _ (.tail _ (.tail _ (.tail _ (.tail _ (.head _)))))))).2 (isT_t (xt_NoDeed "NoDeed" (.head _)).2)))⟩, (List.forall_mem_cons.2 ⟨⟨(xt_NoRule "NoRule" (.head _)).1, (isT_f (xn_Broken "NoRule" (.tail _ (.tail _ (.tail _ (.tail _ (.tail _ (.tail _ (.head _)))))))).2 (isT_f (xn_Folded "NoRule" (.tail _ (.tail _ (.tail _ (.tail _ (.tail _ (.tail _ (.tail _ (.head _))))))))).2 (isT_f (xn_NoDeed "NoRule" (.tail _ (.tail _ (.tail _ (.tail _ (.tail _ (.tail _ (.head _)))))))).2 (isT_f (xn_NoLine "NoRule" (.tail _ (.tail _ (.tail _ (.tail _ (.tail _ (.tail _ (.head _)))))))).2 (isT_f (xn_NoName "NoRule" (.tail _ (.tail _ (.tail _ (.tail _ (.tail _ (.tail _ (.head _)))))))).2 (isT_f (xn_NoPaper "NoRule" (.tail _ (.tail _ (.tail _ (.tail _ (.tail _ (.tail _ (.tail _ (.head _))))))))).2 (isT_t (xt_NoRule "NoRule" (.head _)).2)))))))⟩, (List.forall_mem_cons.2 ⟨⟨(xt_Folded "Folded" (.head _)).1, (isT_f (xn_Broken "Folded" (.tail _ (.tail _ (.tail _ (.tail _ (.tail _ (.tail _ (.tail _ (.tail _ (.tail _ (.head _))))))))))).2 (isT_t (xt_Folded "Folded" (.head _)).2))⟩, (List.forall_mem_cons.2 ⟨⟨(xt_NoPaper "NoPaper" (.head _)).1, (isT_f (xn_Broken "NoPaper" (.tail _ (.tail _ (.tail _ (.tail _ (.tail _ (.tail _ (.tail _ (.tail _ (.tail _ (.tail _ (.head _)))))))))))).2 (isT_f (xn_Folded "NoPaper" (.tail _ (.tail _ (.tail _ (.tail _ (.tail _ (.tail _ (.tail _ (.tail _ (.tail _ (.tail _ (.head _)))))))))))).2 (isT_f (xn_NoDeed "NoPaper" (.tail _ (.tail _ (.tail _ (.tail _ (.tail _ (.tail _ (.tail _ (.tail _ (.tail _ (.tail _ (.head _)))))))))))).2 (isT_f (xn_NoLine "NoPaper" (.tail _ (.tail _ (.tail _ (.tail _ (.tail _ (.tail _ (.tail _ (.tail _ (.tail _ (.tail _ (.head _)))))))))))).2 (isT_f (xn_NoName "NoPaper" (.tail _ (.tail _ (.tail _ (.tail _ (.tail _ (.tail _ (.tail _ (.tail _ (.tail _ (.tail _ (.head _)))))))))))).2 (isT_t (xt_NoPaper "NoPaper" (.head _)).2))))))⟩, (fun _ h => nomatch h)⟩)⟩)⟩)⟩)⟩)⟩)⟩)⟩) (List.forall_mem_cons.2 ⟨⟨(xn_Broken "NotPlain" (.tail _ (.tail _ (.head _)))).1, (isT_f (xn_Broken "NotPlain" (.tail _ (.tail _ (.head _)))).2 (isT_f (xn_Folded "NotPlain" (.tail _ (.tail _ (.head _)))).2 (isT_f (xn_NoDeed "NotPlain" (.tail _ (.tail _ (.head _)))).2 (isT_f (xn_NoLine "NotPlain" (.tail _ (.tail _ (.head _)))).2 (isT_f (xn_NoName "NotPlain" (.tail _ (.head _))).2 (isT_f (xn_NoPaper "NotPlain" (.tail _ (.tail _ (.head _)))).2 (isT_f (xn_NoRule "NotPlain" (.tail _ (.tail _ (.head _)))).2 (isT_f (xn_NoText "NotPlain" (.tail _ (.head _))).2 isT_nil))))))))⟩, (List.forall_mem_cons.2 ⟨⟨(xn_Broken "NoBook" (.tail _ (.tail _ (.tail _ (.head _))))).1, (isT_f (xn_Broken "NoBook" (.tail _ (.tail _ (.tail _ (.head _))))).2 (isT_f (xn_Folded "NoBook" (.tail _ (.tail _ (.tail _ (.head _))))).2 (isT_f (xn_NoDeed "NoBook" (.tail _ (.tail _ (.tail _ (.head _))))).2 (isT_f (xn_NoLine "NoBook" (.tail _ (.tail _ (.tail _ (.head _))))).2 (isT_f (xn_NoName "NoBook" (.tail _ (.tail _ (.head _)))).2 (isT_f (xn_NoPaper "NoBook" (.tail _ (.tail _ (.tail _ (.head _))))).2 (isT_f (xn_NoRule "NoBook" (.tail _ (.tail _ (.tail _ (.head _))))).2 (isT_f (xn_NoText "NoBook" (.tail _ (.tail _ (.head _)))).2 isT_nil))))))))⟩, (List.forall_mem_cons.2 ⟨⟨(xn_Broken "OutOfRange" (.tail _ (.tail _ (.tail _ (.tail _ (.tail _ (.tail _ (.tail _ (.head _))))))))).1, (isT_f (xn_Broken "OutOfRange" (.tail _ (.tail _ (.tail _ (.tail _ (.tail _ (.tail _ (.tail _ (.head _))))))))).2 (isT_f (xn_Folded "OutOfRange" (.tail _ (.tail _ (.tail _ (.tail _ (.tail _ (.tail _ (.tail _ (.tail _ (.head _)))))))))).2 (isT_f (xn_NoDeed "OutOfRange" (.tail _ (.tail _ (.tail _ (.tail _ (.tail _ (.tail _ (.tail _ (.head _))))))))).2 (isT_f (xn_NoLine "OutOfRange" (.tail _ (.tail _ (.tail _ (.tail _ (.tail _ (.tail _ (.tail _ (.head _))))))))).2 (isT_f (xn_NoName "OutOfRange" (.tail _ (.tail _ (.tail _ (.tail _ (.tail _ (.tail _ (.tail _ (.head _))))))))).2 (isT_f (xn_NoPaper "OutOfRange" (.tail _ (.tail _ (.tail _ (.tail _ (.tail _ (.tail _ (.tail _ (.tail _ (.head _)))))))))).2 (isT_f (xn_NoRule "OutOfRange" (.tail _ (.tail _ (.tail _ (.tail _ (.tail _ (.tail _ (.tail _ (.head _))))))))).2 (isT_f (xn_NoText "OutOfRange" (.tail _ (.tail _ (.tail _ (.tail _ (.tail _ (.tail _ (.tail _ (.head _))))))))).2 isT_nil))))))))⟩, (List.forall_mem_cons.2 ⟨⟨(xn_Broken "ShortShare" (.tail _ (.tail _ (.tail _ (.tail _ (.tail _ (.tail _ (.tail _ (.tail _ (.head _)))))))))).1, (isT_f (xn_Broken "ShortShare" (.tail _ (.tail _ (.tail _ (.tail _ (.tail _ (.tail _ (.tail _ (.tail _ (.head _)))))))))).2 (isT_f (xn_Folded "ShortShare" (.tail _ (.tail _ (.tail _ (.tail _ (.tail _ (.tail _ (.tail _ (.tail _ (.tail _ (.head _))))))))))).2 (isT_f (xn_NoDeed "ShortShare" (.tail _ (.tail _ (.tail _ (.tail _ (.tail _ (.tail _ (.tail _ (.tail _ (.head _)))))))))).2 (isT_f (xn_NoLine "ShortShare" (.tail _ (.tail _ (.tail _ (.tail _ (.tail _ (.tail _ (.tail _ (.tail _ (.head _)))))))))).2 (isT_f (xn_NoName "ShortShare" (.tail _ (.tail _ (.tail _ (.tail _ (.tail _ (.tail _ (.tail _ (.tail _ (.head _)))))))))).2 (isT_f (xn_NoPaper "ShortShare" (.tail _ (.tail _ (.tail _ (.tail _ (.tail _ (.tail _ (.tail _ (.tail _ (.tail _ (.head _))))))))))).2 (isT_f (xn_NoRule "ShortShare" (.tail _ (.tail _ (.tail _ (.tail _ (.tail _ (.tail _ (.tail _ (.tail _ (.head _)))))))))).2 (isT_f (xn_NoText "ShortShare" (.tail _ (.tail _ (.tail _ (.tail _ (.tail _ (.tail _ (.tail _ (.tail _ (.head _)))))))))).2 isT_nil))))))))⟩, (fun _ h => nomatch h)⟩)⟩)⟩)⟩))) (dss_one (ds_retX (dx_of (dn_fz d_bl)))) dss_nil)
  (dss_one (ds_retX (dx_of (dn_fz (d_not (d_isXT ["NotPlain", "OutOfRange", "ShortShare"] ["NoText", "NoName", "NoBook", "Broken", "NoLine", "NoDeed", "NoRule", "Folded", "NoPaper"] (dr_name 1 (pv 1)) (by rfl) B_isinstance (PCs.cons (C := CB_NotPlain) (pe_glob (v := V.ref CB_NotPlain) (by rfl) gB_NotPlain rfl) (fun _ _ _ h => h) (PCs.cons (C := CB_OutOfRange) (pe_glob (v := V.ref CB_OutOfRange) (by rfl) gB_OutOfRange rfl) (fun _ _ _ h => h) (PCs.cons (C := CB_ShortShare) (pe_glob (v := V.ref CB_ShortShare) (by rfl) gB_ShortShare rfl) (fun _ _ _ h => h) PCs.nil))) (Nat.le_of_ble_eq_true rfl) (List.forall_mem_cons.2 ⟨⟨(xt_NotPlain "NotPlain" (.head _)).1, (isT_t (xt_NotPlain "NotPlain" (.head _)).2)⟩, (List.forall_mem_cons.2 ⟨⟨(xt_OutOfRange "OutOfRange" (.head _)).1, (isT_f (xn_NotPlain "OutOfRange" (.tail _ (.tail _ (.tail _ (.tail _ (.tail _ (.tail _ (.tail _ (.head _))))))))).2 (isT_t (xt_OutOfRange "OutOfRange" (.head _)).2))⟩, (List.forall_mem_cons.2 ⟨⟨(xt_ShortShare "ShortShare" (.head _)).1, (isT_f (xn_NotPlain "ShortShare" (.tail _ (.tail _ (.tail _ (.tail _ (.tail _ (.tail _ (.tail _ (.tail _ (.head _)))))))))).2 (isT_f (xn_OutOfRange "ShortShare" (.tail _ (.tail _ (.tail _ (.tail _ (.tail _ (.tail _ (.tail _ (.tail _ (.head _)))))))))).2 (isT_t (xt_ShortShare "ShortShare" (.head _)).2)))⟩, (fun _ h => nomatch h)⟩)⟩)⟩) (List.forall_mem_cons.2 ⟨⟨(xn_NotPlain "NoText" (.head _)).1, (isT_f (xn_NotPlain "NoText" (.head _)).2 (isT_f (xn_OutOfRange "NoText" (.head _)).2 (isT_f (xn_ShortShare "NoText" (.head _)).2 isT_nil)))⟩, (List.forall_mem_cons.2 ⟨⟨(xn_NotPlain "NoName" (.tail _ (.head _))).1, (isT_f (xn_NotPlain "NoName" (.tail _ (.head _))).2 (isT_f (xn_OutOfRange "NoName" (.tail _ (.head _))).2 (isT_f (xn_ShortShare "NoName" (.tail _ (.head _))).2 isT_nil)))⟩, (List.forall_mem_cons.2 ⟨⟨(xn_NotPlain "NoBook" (.tail _ (.tail _ (.head _)))).1, (isT_f (xn_NotPlain "NoBook" (.tail _ (.tail _ (.head _)))).2 (isT_f (xn_OutOfRange "NoBook" (.tail _ (.tail _ (.tail _ (.head _))))).2 (isT_f (xn_ShortShare "NoBook" (.tail _ (.tail _ (.tail _ (.head _))))).2 isT_nil)))⟩, (List.forall_mem_cons.2 ⟨⟨(xn_NotPlain "Broken" (.tail _ (.tail _ (.tail _ (.head _))))).1, (isT_f (xn_NotPlain "Broken" (.tail _ (.tail _ (.tail _ (.head _))))).2 (isT_f (xn_OutOfRange "Broken" (.tail _ (.tail _ (.tail _ (.tail _ (.head _)))))).2 (isT_f (xn_ShortShare "Broken" (.tail _ (.tail _ (.tail _ (.tail _ (.head _)))))).2 isT_nil)))⟩, (List.forall_mem_cons.2 ⟨⟨(xn_NotPlain "NoLine" (.tail _ (.tail _ (.tail _ (.tail _ (.head _)))))).1, (isT_f (xn_NotPlain "NoLine" (.tail _ (.tail _ (.tail _ (.tail _ (.head _)))))).2 (isT_f (xn_OutOfRange "NoLine" (.tail _ (.tail _ (.tail _ (.tail _ (.tail _ (.head _))))))).2 (isT_f (xn_ShortShare "NoLine" (.tail _ (.tail _ (.tail _ (.tail _ (.tail _ (.head _))))))).2 isT_nil)))⟩, (List.forall_mem_cons.2 ⟨⟨(xn_NotPlain "NoDeed" (.tail _ (.tail _ (.tail _ (.tail _ (.tail _ (.head _))))))).1, (isT_f (xn_NotPlain "NoDeed" (.tail _ (.tail _ (.tail _ (.tail _ (.tail _ (.head _))))))).2 (isT_f (xn_OutOfRange "NoDeed" (.tail _ (.tail _ (.tail _ (.tail _ (.tail _ (.tail _ (.head _)))))))).2 (isT_f (xn_ShortShare "NoDeed" (.tail _ (.tail _ (.tail _ (.tail _ (.tail _ (.tail _ (.head _)))))))).2 isT_nil)))⟩, (List.forall_mem_cons.2 ⟨⟨(xn_NotPlain "NoRule" (.tail _ (.tail _ (.tail _ (.tail _ (.tail _ (.tail _ (.head _)))))))).1, (isT_f (xn_NotPlain "NoRule" (.tail _ (.tail _ (.tail _ (.tail _ (.tail _ (.tail _ (.head _)))))))).2 (isT_f (xn_OutOfRange "NoRule" (.tail _ (.tail _ (.tail _ (.tail _ (.tail _ (.tail _ (.tail _ (.head _))))))))).2 (isT_f (xn_ShortShare "NoRule" (.tail _ (.tail _ (.tail _ (.tail _ (.tail _ (.tail _ (.tail _ (.head _))))))))).2 isT_nil)))⟩, (List.forall_mem_cons.2 ⟨⟨(xn_NotPlain "Folded" (.tail _ (.tail _ (.tail _ (.tail _ (.tail _ (.tail _ (.tail _ (.tail _ (.tail _ (.head _))))))))))).1, (isT_f (xn_NotPlain "Folded" (.tail _ (.tail _ (.tail _ (.tail _ (.tail _ (.tail _ (.tail _ (.tail _ (.tail _ (.head _))))))))))).2 (isT_f (xn_OutOfRange "Folded" (.tail _ (.tail _ (.tail _ (.tail _ (.tail _ (.tail _ (.tail _ (.tail _ (.tail _ (.head _))))))))))).2 (isT_f (xn_ShortShare "Folded" (.tail _ (.tail _ (.tail _ (.tail _ (.tail _ (.tail _ (.tail _ (.tail _ (.tail _ (.head _))))))))))).2 isT_nil)))⟩, (List.forall_mem_cons.2 ⟨⟨(xn_NotPlain "NoPaper" (.tail _ (.tail _ (.tail _ (.tail _ (.tail _ (.tail _ (.tail _ (.tail _ (.tail _ (.tail _ (.head _)))))))))))).1, (isT_f (xn_NotPlain "NoPaper" (.tail _ (.tail _ (.tail _ (.tail _ (.tail _ (.tail _ (.tail _ (.tail _ (.tail _ (.tail _ (.head _)))))))))))).2 (isT_f (xn_OutOfRange "NoPaper" (.tail _ (.tail _ (.tail _ (.tail _ (.tail _ (.tail _ (.tail _ (.tail _ (.tail _ (.tail _ (.head _)))))))))))).2 (isT_f (xn_ShortShare "NoPaper" (.tail _ (.tail _ (.tail _ (.tail _ (.tail _ (.tail _ (.tail _ (.tail _ (.tail _ (.tail _ (.head _)))))))))))).2 isT_nil)))⟩, (fun _ h => nomatch h)⟩)⟩)⟩)⟩)⟩)⟩)⟩)⟩)⟩))))))))))), hm, F.kp, b⟩⟩

theorem ok_law {f : Addr} {fd : FuncData} (F : Fun K "law" "law" s_law f fd) (c_l_refused : CalT P w K mg base 5 "_law_refused" 1 f_l_refused) (c_l_broken : Callee P w K mg base 1 "_law_broken" [.fz, .fz] .fz f_l_broken) (c_l_mix : Callee P w K mg base 1 "_law_mix" [.fz, .fz] .fz f_l_mix) (c_l_at : Callee P w K mg base 1 "_law_at" [.vw, .fz] .fz f_l_at) (c_l_wrong : CalM P w K mg base 6 "_law_wrong" [false, false, false] f_l_wrong) (c_check_book : CalX P w K mg base 4 "check_book" [false] f_check_book) (c_l_book : Callee P w K mg base 5 "_law_book" [.vw, .fz] .fz f_l_book) (c_l_counts : Callee P w K mg base 2 "_law_counts" [.vw] .ow f_l_counts) (B_list : mg "list" = none) : FnOk P w K mg base CX0 7 f fd ["_law_script"] (spV K f_law) :=
  fn_lawV F sc_law (by decide) fun cdv A outer s H E G hr hW hw =>
  (dss_cons (ds_set 1 sc_law.nd rfl (d_call c_l_book (hr.mono (by decide)) (by rfl) (da_cons (d_vw 0 (pv 0)) .vw (da_cons (d_call c_l_counts (hr.mono (by decide)) (by rfl) (da_cons (d_vw 0 (pv 0)) .vw da_nil)) .fz da_nil))))
  (dss_cons (ds_set 2 sc_law.nd rfl (d_tup (da_cons (d_callT o_list (by rfl) B_list (by decide +kernel) (da_cons (d_ix (d_var 1 (pv 1)) d_int (fun _ _ => rfl)) .vl da_nil)) .fz (da_cons (d_callT o_list (by rfl) B_list (by decide +kernel) (da_cons (d_ix (d_var 1 (pv 1)) d_int (fun _ _ => rfl)) .vl da_nil)) .fz (da_cons (d_callT o_list (by rfl) B_list (by decide +kernel) (da_cons (d_ix (d_var 1 (pv 1)) d_int (fun _ _ => rfl)) .vl da_nil)) .fz da_nil)))))
  (dss_cons (ds_ifX (DWX.t (dwx_or (dtx_notN (dx_ofY (dy_callP c_check_book hw (hr.mono (by decide)) (by rfl) (dmp_ro (d_var 2 (pv 2)) dmp_nil)))) (dwx_or1 (dtx_of (dt_cmp (o_ne (hu64 hr)) (d_var 2 (pv 2)) (d_var 1 (pv 1)) (by first | exact nomark _ | rfl)))))) (dss_one (ds_ret d_bl)) dss_nil)
  (dss_cons (ds_set 3 sc_law.nd rfl (d_call c_l_broken (hr.mono (by decide)) (by rfl) (da_cons (d_rleaf (dr_dn (dn_callM c_l_wrong hw (hr.mono (by decide)) (by rfl) (dmp_vw 0 (pv 0) (dmp_ro (d_var 1 (pv 1)) (dmp_ro (d_call c_l_mix (hr.mono (by decide)) (by rfl) (da_cons (d_call c_l_at (hr.mono (by decide)) (by rfl) (da_cons (d_vw 0 (pv 0)) .vw (da_cons d_int .fz da_nil))) .fz (da_cons d_int .fz da_nil))) dmp_nil)))))) .fz (da_cons (d_call c_l_mix (hr.mono (by decide)) (by rfl) (da_cons (d_call c_l_at (hr.mono (by decide)) (by rfl) (da_cons (d_vw 0 (pv 0)) .vw (da_cons d_int .fz da_nil))) .fz (da_cons d_int .fz da_nil))) .fz da_nil))))
  (dss_cons (ds_set 2 sc_law.nd rfl (d_tup (da_cons (d_callT o_list (by rfl) B_list (by decide +kernel) (da_cons (d_ix (d_var 3 (pv 3)) d_int (fun _ _ => rfl)) .vl da_nil)) .fz (da_cons (d_callT o_list (by rfl) B_list (by decide +kernel) (da_cons (d_ix (d_var 3 (pv 3)) d_int (fun _ _ => rfl)) .vl da_nil)) .fz (da_cons (d_callT o_list (by rfl) B_list (by decide +kernel) (da_cons (d_ix (d_var 3 (pv 3)) d_int (fun _ _ => rfl)) .vl da_nil)) .fz da_nil)))))
  (dss_one (ds_ret (d_and (d_rleaf (dr_dn (dn_callT c_l_refused hw (hr.mono (by decide)) (by rfl) (drs_cons (dr_fz (d_var 2 (pv 2))) drs_nil) rfl (by decide) (nsCons_len (fun _ _ h => nsNil_len h))))) (d_and (d_rleaf (dr_dn (dn_callT c_l_refused hw (hr.mono (by decide)) (by rfl) (drs_cons (dr_fz (d_var 2 (pv 2))) drs_nil) rfl (by decide) (nsCons_len (fun _ _ h => nsNil_len h))))) (d_one (d_cmp (o_eq (hu64 hr)) (d_var 2 (pv 2)) (d_var 3 (pv 3)) (by first | exact nomark _ | rfl))))))))))))
end
end DL
set_option Elab.async false
set_option linter.all false
set_option maxRecDepth 100000
set_option maxHeartbeats 4000000
set_option maxHeartbeats 4000000
namespace DL
open PySem PySem.Spec L2
def spLaw (K : PySem.W.Frag) : Sp := fun vs H Q _ => ∃ (a : Addr) (ns : List Int), vs = [.ref a] ∧ SqL K H a (ns.map V.int) ∧ ns.length ≤ 63 ∧ ∀ H', Q (.bl true) H'
theorem sp_law {K : PySem.W.Frag} (ht : ∀ ns : List Int, ns.length ≤ 63 → f_law ns = some (.bool true)) (vs : List V) (H : Hp) (Q : VK) (E : L2.XK) (h : spLaw K vs H Q E) : spV K f_law vs H Q E := by
  obtain ⟨a, ns, rfl, hS, hl, q⟩ := h
  exact ⟨a, ns, rfl, hS, ht ns hl, q⟩
theorem all_mk {l : PySem.W.OpenLaw} {w : World} {K : PySem.W.Frag} {h : Heap} {mg : Str → Option Value} {fa fa_value_of fa_is_name fa_spare fa_check_names fa_check_book fa_l_at fa_l_mix fa_l_draw fa_l_named fa_l_wide fa_l_items fa_l_rules fa_l_deeds fa_l_book fa_l_counts fa_l_other_name fa_l_renamed fa_l_resized fa_l_wrong fa_l_broken fa_l_refused fa_law C_BookError C_NoText C_NoName C_NotPlain C_NoBook C_Broken fa_Broken_init C_NoLine C_NoDeed C_NoRule C_OutOfRange C_ShortShare C_Folded C_NoPaper GA_MOST : Addr} {t_LETTERS : Tok} {t_LONGEST : Tok} (X : K.In h) (G : h.Ns mainGlobals mg) (hfa : mg "law" = some (.ref fa))
    {od_value_of an_value_of : Option Addr} {sl_value_of : Array (Option Value)} {oc_value_of kV_value_of dc_value_of pm_value_of cd_value_of ct_value_of : Value}
    {od_is_name an_is_name : Option Addr} {sl_is_name : Array (Option Value)} {oc_is_name kV_is_name dc_is_name pm_is_name cd_is_name ct_is_name : Value}
    {od_spare an_spare : Option Addr} {sl_spare : Array (Option Value)} {oc_spare kV_spare dc_spare pm_spare cd_spare ct_spare : Value}
    {od_check_names an_check_names : Option Addr} {sl_check_names : Array (Option Value)} {oc_check_names kV_check_names dc_check_names pm_check_names cd_check_names ct_check_names : Value}
    {od_check_book an_check_book : Option Addr} {sl_check_book : Array (Option Value)} {oc_check_book kV_check_book dc_check_book pm_check_book cd_check_book ct_check_book : Value}
    {od_l_at an_l_at : Option Addr} {sl_l_at : Array (Option Value)} {oc_l_at kV_l_at dc_l_at pm_l_at cd_l_at ct_l_at : Value}
    {od_l_mix an_l_mix : Option Addr} {sl_l_mix : Array (Option Value)} {oc_l_mix kV_l_mix dc_l_mix pm_l_mix cd_l_mix ct_l_mix : Value}
    {od_l_draw an_l_draw : Option Addr} {sl_l_draw : Array (Option Value)} {oc_l_draw kV_l_draw dc_l_draw pm_l_draw cd_l_draw ct_l_draw : Value}
    {od_l_named an_l_named : Option Addr} {sl_l_named : Array (Option Value)} {oc_l_named kV_l_named dc_l_named pm_l_named cd_l_named ct_l_named : Value}
    {od_l_wide an_l_wide : Option Addr} {sl_l_wide : Array (Option Value)} {oc_l_wide kV_l_wide dc_l_wide pm_l_wide cd_l_wide ct_l_wide : Value}
    {od_l_items an_l_items : Option Addr} {sl_l_items : Array (Option Value)} {oc_l_items kV_l_items dc_l_items pm_l_items cd_l_items ct_l_items : Value}
    {od_l_rules an_l_rules : Option Addr} {sl_l_rules : Array (Option Value)} {oc_l_rules kV_l_rules dc_l_rules pm_l_rules cd_l_rules ct_l_rules : Value}
    {od_l_deeds an_l_deeds : Option Addr} {sl_l_deeds : Array (Option Value)} {oc_l_deeds kV_l_deeds dc_l_deeds pm_l_deeds cd_l_deeds ct_l_deeds : Value}
    {od_l_book an_l_book : Option Addr} {sl_l_book : Array (Option Value)} {oc_l_book kV_l_book dc_l_book pm_l_book cd_l_book ct_l_book : Value}
    {od_l_counts an_l_counts : Option Addr} {sl_l_counts : Array (Option Value)} {oc_l_counts kV_l_counts dc_l_counts pm_l_counts cd_l_counts ct_l_counts : Value}
    {od_l_other_name an_l_other_name : Option Addr} {sl_l_other_name : Array (Option Value)} {oc_l_other_name kV_l_other_name dc_l_other_name pm_l_other_name cd_l_other_name ct_l_other_name : Value}
    {od_l_renamed an_l_renamed : Option Addr} {sl_l_renamed : Array (Option Value)} {oc_l_renamed kV_l_renamed dc_l_renamed pm_l_renamed cd_l_renamed ct_l_renamed : Value}
    {od_l_resized an_l_resized : Option Addr} {sl_l_resized : Array (Option Value)} {oc_l_resized kV_l_resized dc_l_resized pm_l_resized cd_l_resized ct_l_resized : Value}
    {od_l_wrong an_l_wrong : Option Addr} {sl_l_wrong : Array (Option Value)} {oc_l_wrong kV_l_wrong dc_l_wrong pm_l_wrong cd_l_wrong ct_l_wrong : Value}
    {od_l_broken an_l_broken : Option Addr} {sl_l_broken : Array (Option Value)} {oc_l_broken kV_l_broken dc_l_broken pm_l_broken cd_l_broken ct_l_broken : Value}
    {od_l_refused an_l_refused : Option Addr} {sl_l_refused : Array (Option Value)} {oc_l_refused kV_l_refused dc_l_refused pm_l_refused cd_l_refused ct_l_refused : Value}
    {od_law an_law : Option Addr} {sl_law : Array (Option Value)} {oc_law kV_law dc_law pm_law cd_law ct_law : Value}
    {nm_BookError qn_BookError : Str} {N_BookError : Addr} {bs_BookError : List Value} {sn_BookError : List Str} {sb_BookError : List Value} {ab_BookError : Bool} {co_BookError : Option Bool} {dd_BookError : Option Addr} {k0_BookError k1_BookError k2_BookError k3_BookError k5_BookError : Option Value}
    {cn_BookError : Value} {dn_BookError : Option Addr} {es_BookError : Array DictEntry} {en_BookError : Nat} {sl_BookError : Array (Option Value)}
    {nm_NoText qn_NoText : Str} {N_NoText : Addr} {bs_NoText bm_NoText : List Value} {sn_NoText : List Str} {sb_NoText : List Value} {ab_NoText : Bool} {co_NoText : Option Bool} {dd_NoText : Option Addr} {k0_NoText k1_NoText k2_NoText k3_NoText k5_NoText : Option Value}
    {nm_NoName qn_NoName : Str} {N_NoName : Addr} {bs_NoName bm_NoName : List Value} {sn_NoName : List Str} {sb_NoName : List Value} {ab_NoName : Bool} {co_NoName : Option Bool} {dd_NoName : Option Addr} {k0_NoName k1_NoName k2_NoName k3_NoName k5_NoName : Option Value}
    {nm_NotPlain qn_NotPlain : Str} {N_NotPlain : Addr} {bs_NotPlain bm_NotPlain : List Value} {sn_NotPlain : List Str} {sb_NotPlain : List Value} {ab_NotPlain : Bool} {co_NotPlain : Option Bool} {dd_NotPlain : Option Addr} {k0_NotPlain k1_NotPlain k2_NotPlain k3_NotPlain k5_NotPlain : Option Value}
    {nm_NoBook qn_NoBook : Str} {N_NoBook : Addr} {bs_NoBook : List Value} {sn_NoBook : List Str} {sb_NoBook : List Value} {ab_NoBook : Bool} {co_NoBook : Option Bool} {dd_NoBook : Option Addr} {k0_NoBook k1_NoBook k2_NoBook k3_NoBook k5_NoBook : Option Value}
    {cn_NoBook : Value} {dn_NoBook : Option Addr} {es_NoBook : Array DictEntry} {en_NoBook : Nat} {sl_NoBook : Array (Option Value)}
    {nm_Broken qn_Broken : Str} {N_Broken : Addr} {bs_Broken bm_Broken : List Value} {sn_Broken : List Str} {sb_Broken : List Value} {ab_Broken : Bool} {co_Broken : Option Bool} {dd_Broken : Option Addr} {k0_Broken k1_Broken k2_Broken k3_Broken k5_Broken : Option Value}
    {od_Broken_init an_Broken_init : Option Addr} {sl_Broken_init : Array (Option Value)} {oc_Broken_init kV_Broken_init dc_Broken_init pm_Broken_init cd_Broken_init ct_Broken_init : Value}
    {nm_NoLine qn_NoLine : Str} {N_NoLine : Addr} {bs_NoLine bm_NoLine : List Value} {sn_NoLine : List Str} {sb_NoLine : List Value} {ab_NoLine : Bool} {co_NoLine : Option Bool} {dd_NoLine : Option Addr} {k0_NoLine k1_NoLine k2_NoLine k3_NoLine k5_NoLine : Option Value}
    {nm_NoDeed qn_NoDeed : Str} {N_NoDeed : Addr} {bs_NoDeed bm_NoDeed : List Value} {sn_NoDeed : List Str} {sb_NoDeed : List Value} {ab_NoDeed : Bool} {co_NoDeed : Option Bool} {dd_NoDeed : Option Addr} {k0_NoDeed k1_NoDeed k2_NoDeed k3_NoDeed k5_NoDeed : Option Value}
    {nm_NoRule qn_NoRule : Str} {N_NoRule : Addr} {bs_NoRule bm_NoRule : List Value} {sn_NoRule : List Str} {sb_NoRule : List Value} {ab_NoRule : Bool} {co_NoRule : Option Bool} {dd_NoRule : Option Addr} {k0_NoRule k1_NoRule k2_NoRule k3_NoRule k5_NoRule : Option Value}
    {nm_OutOfRange qn_OutOfRange : Str} {N_OutOfRange : Addr} {bs_OutOfRange : List Value} {sn_OutOfRange : List Str} {sb_OutOfRange : List Value} {ab_OutOfRange : Bool} {co_OutOfRange : Option Bool} {dd_OutOfRange : Option Addr} {k0_OutOfRange k1_OutOfRange k2_OutOfRange k3_OutOfRange k5_OutOfRange : Option Value}
    {nm_ShortShare qn_ShortShare : Str} {N_ShortShare : Addr} {bs_ShortShare bm_ShortShare : List Value} {sn_ShortShare : List Str} {sb_ShortShare : List Value} {ab_ShortShare : Bool} {co_ShortShare : Option Bool} {dd_ShortShare : Option Addr} {k0_ShortShare k1_ShortShare k2_ShortShare k3_ShortShare k5_ShortShare : Option Value}
    {nm_Folded qn_Folded : Str} {N_Folded : Addr} {bs_Folded : List Value} {sn_Folded : List Str} {sb_Folded : List Value} {ab_Folded : Bool} {co_Folded : Option Bool} {dd_Folded : Option Addr} {k0_Folded k1_Folded k2_Folded k3_Folded k5_Folded : Option Value}
    {nm_NoPaper qn_NoPaper : Str} {N_NoPaper : Addr} {bs_NoPaper bm_NoPaper : List Value} {sn_NoPaper : List Str} {sb_NoPaper : List Value} {ab_NoPaper : Bool} {co_NoPaper : Option Bool} {dd_NoPaper : Option Addr} {k0_NoPaper k1_NoPaper k2_NoPaper k3_NoPaper k5_NoPaper : Option Value}
    {dd_MOST : Option Addr} {n_MOST : Nat} {sl_MOST : Array (Option Value)} {t0_MOST : Tok} {t1_MOST : Tok} {t2_MOST : Tok}
    (a_value_of : PySem.W.nsIn K mainGlobals "value_of" = some (some (.ref fa_value_of)))
    (l_value_of : K.lookup fa_value_of = some ⟨oc_value_of, od_value_of, .func (PySem.W.fnOf "value_of" "value_of" (defArgs s_value_of) (defBody s_value_of) (defScope s_value_of) .none kV_value_of dc_value_of pm_value_of an_value_of cd_value_of ct_value_of), sl_value_of⟩)
    (x_value_of : PySem.W.codeIn K cd_value_of "value_of" = true)
    (k_value_of : PySem.W.keepIn K (.ref fa_value_of) = true)
    (a_is_name : PySem.W.nsIn K mainGlobals "is_name" = some (some (.ref fa_is_name)))
    (l_is_name : K.lookup fa_is_name = some ⟨oc_is_name, od_is_name, .func (PySem.W.fnOf "is_name" "is_name" (defArgs s_is_name) (defBody s_is_name) (defScope s_is_name) .none kV_is_name dc_is_name pm_is_name an_is_name cd_is_name ct_is_name), sl_is_name⟩)
    (x_is_name : PySem.W.codeIn K cd_is_name "is_name" = true)
    (k_is_name : PySem.W.keepIn K (.ref fa_is_name) = true)
    (a_spare : PySem.W.nsIn K mainGlobals "spare" = some (some (.ref fa_spare)))
    (l_spare : K.lookup fa_spare = some ⟨oc_spare, od_spare, .func (PySem.W.fnOf "spare" "spare" (defArgs s_spare) (defBody s_spare) (defScope s_spare) .none kV_spare dc_spare pm_spare an_spare cd_spare ct_spare), sl_spare⟩)
    (x_spare : PySem.W.codeIn K cd_spare "spare" = true)
    (k_spare : PySem.W.keepIn K (.ref fa_spare) = true)
    (a_check_names : PySem.W.nsIn K mainGlobals "check_names" = some (some (.ref fa_check_names)))
    (l_check_names : K.lookup fa_check_names = some ⟨oc_check_names, od_check_names, .func (PySem.W.fnOf "check_names" "check_names" (defArgs s_check_names) (defBody s_check_names) (defScope s_check_names) .none kV_check_names dc_check_names pm_check_names an_check_names cd_check_names ct_check_names), sl_check_names⟩)
    (x_check_names : PySem.W.codeIn K cd_check_names "check_names" = true)
    (k_check_names : PySem.W.keepIn K (.ref fa_check_names) = true)
    (a_check_book : PySem.W.nsIn K mainGlobals "check_book" = some (some (.ref fa_check_book)))
    (l_check_book : K.lookup fa_check_book = some ⟨oc_check_book, od_check_book, .func (PySem.W.fnOf "check_book" "check_book" (defArgs s_check_book) (defBody s_check_book) (defScope s_check_book) .none kV_check_book dc_check_book pm_check_book an_check_book cd_check_book ct_check_book), sl_check_book⟩)
    (x_check_book : PySem.W.codeIn K cd_check_book "check_book" = true)
    (k_check_book : PySem.W.keepIn K (.ref fa_check_book) = true)
    (a_l_at : PySem.W.nsIn K mainGlobals "_law_at" = some (some (.ref fa_l_at)))
    (l_l_at : K.lookup fa_l_at = some ⟨oc_l_at, od_l_at, .func (PySem.W.fnOf "_law_at" "_law_at" (defArgs s_l_at) (defBody s_l_at) (defScope s_l_at) .none kV_l_at dc_l_at pm_l_at an_l_at cd_l_at ct_l_at), sl_l_at⟩)
    (x_l_at : PySem.W.codeIn K cd_l_at "_law_at" = true)
    (k_l_at : PySem.W.keepIn K (.ref fa_l_at) = true)
    (a_l_mix : PySem.W.nsIn K mainGlobals "_law_mix" = some (some (.ref fa_l_mix)))
    (l_l_mix : K.lookup fa_l_mix = some ⟨oc_l_mix, od_l_mix, .func (PySem.W.fnOf "_law_mix" "_law_mix" (defArgs s_l_mix) (defBody s_l_mix) (defScope s_l_mix) .none kV_l_mix dc_l_mix pm_l_mix an_l_mix cd_l_mix ct_l_mix), sl_l_mix⟩)
    (x_l_mix : PySem.W.codeIn K cd_l_mix "_law_mix" = true)
    (k_l_mix : PySem.W.keepIn K (.ref fa_l_mix) = true)
    (a_l_draw : PySem.W.nsIn K mainGlobals "_law_draw" = some (some (.ref fa_l_draw)))
    (l_l_draw : K.lookup fa_l_draw = some ⟨oc_l_draw, od_l_draw, .func (PySem.W.fnOf "_law_draw" "_law_draw" (defArgs s_l_draw) (defBody s_l_draw) (defScope s_l_draw) .none kV_l_draw dc_l_draw pm_l_draw an_l_draw cd_l_draw ct_l_draw), sl_l_draw⟩)
    (x_l_draw : PySem.W.codeIn K cd_l_draw "_law_draw" = true)
    (k_l_draw : PySem.W.keepIn K (.ref fa_l_draw) = true)
    (a_l_named : PySem.W.nsIn K mainGlobals "_law_named" = some (some (.ref fa_l_named)))
    (l_l_named : K.lookup fa_l_named = some ⟨oc_l_named, od_l_named, .func (PySem.W.fnOf "_law_named" "_law_named" (defArgs s_l_named) (defBody s_l_named) (defScope s_l_named) .none kV_l_named dc_l_named pm_l_named an_l_named cd_l_named ct_l_named), sl_l_named⟩)
    (x_l_named : PySem.W.codeIn K cd_l_named "_law_named" = true)
    (k_l_named : PySem.W.keepIn K (.ref fa_l_named) = true)
    (a_l_wide : PySem.W.nsIn K mainGlobals "_law_wide" = some (some (.ref fa_l_wide)))
    (l_l_wide : K.lookup fa_l_wide = some ⟨oc_l_wide, od_l_wide, .func (PySem.W.fnOf "_law_wide" "_law_wide" (defArgs s_l_wide) (defBody s_l_wide) (defScope s_l_wide) .none kV_l_wide dc_l_wide pm_l_wide an_l_wide cd_l_wide ct_l_wide), sl_l_wide⟩)
    (x_l_wide : PySem.W.codeIn K cd_l_wide "_law_wide" = true)
    (k_l_wide : PySem.W.keepIn K (.ref fa_l_wide) = true)
    (a_l_items : PySem.W.nsIn K mainGlobals "_law_items" = some (some (.ref fa_l_items)))
    (l_l_items : K.lookup fa_l_items = some ⟨oc_l_items, od_l_items, .func (PySem.W.fnOf "_law_items" "_law_items" (defArgs s_l_items) (defBody s_l_items) (defScope s_l_items) .none kV_l_items dc_l_items pm_l_items an_l_items cd_l_items ct_l_items), sl_l_items⟩)
    (x_l_items : PySem.W.codeIn K cd_l_items "_law_items" = true)
    (k_l_items : PySem.W.keepIn K (.ref fa_l_items) = true)
    (a_l_rules : PySem.W.nsIn K mainGlobals "_law_rules" = some (some (.ref fa_l_rules)))
    (l_l_rules : K.lookup fa_l_rules = some ⟨oc_l_rules, od_l_rules, .func (PySem.W.fnOf "_law_rules" "_law_rules" (defArgs s_l_rules) (defBody s_l_rules) (defScope s_l_rules) .none kV_l_rules dc_l_rules pm_l_rules an_l_rules cd_l_rules ct_l_rules), sl_l_rules⟩)
    (x_l_rules : PySem.W.codeIn K cd_l_rules "_law_rules" = true)
    (k_l_rules : PySem.W.keepIn K (.ref fa_l_rules) = true)
    (a_l_deeds : PySem.W.nsIn K mainGlobals "_law_deeds" = some (some (.ref fa_l_deeds)))
    (l_l_deeds : K.lookup fa_l_deeds = some ⟨oc_l_deeds, od_l_deeds, .func (PySem.W.fnOf "_law_deeds" "_law_deeds" (defArgs s_l_deeds) (defBody s_l_deeds) (defScope s_l_deeds) .none kV_l_deeds dc_l_deeds pm_l_deeds an_l_deeds cd_l_deeds ct_l_deeds), sl_l_deeds⟩)
    (x_l_deeds : PySem.W.codeIn K cd_l_deeds "_law_deeds" = true)
    (k_l_deeds : PySem.W.keepIn K (.ref fa_l_deeds) = true)
    (a_l_book : PySem.W.nsIn K mainGlobals "_law_book" = some (some (.ref fa_l_book)))
    (l_l_book : K.lookup fa_l_book = some ⟨oc_l_book, od_l_book, .func (PySem.W.fnOf "_law_book" "_law_book" (defArgs s_l_book) (defBody s_l_book) (defScope s_l_book) .none kV_l_book dc_l_book pm_l_book an_l_book cd_l_book ct_l_book), sl_l_book⟩)
    (x_l_book : PySem.W.codeIn K cd_l_book "_law_book" = true)
    (k_l_book : PySem.W.keepIn K (.ref fa_l_book) = true)
    (a_l_counts : PySem.W.nsIn K mainGlobals "_law_counts" = some (some (.ref fa_l_counts)))
    (l_l_counts : K.lookup fa_l_counts = some ⟨oc_l_counts, od_l_counts, .func (PySem.W.fnOf "_law_counts" "_law_counts" (defArgs s_l_counts) (defBody s_l_counts) (defScope s_l_counts) .none kV_l_counts dc_l_counts pm_l_counts an_l_counts cd_l_counts ct_l_counts), sl_l_counts⟩)
    (x_l_counts : PySem.W.codeIn K cd_l_counts "_law_counts" = true)
    (k_l_counts : PySem.W.keepIn K (.ref fa_l_counts) = true)
    (a_l_other_name : PySem.W.nsIn K mainGlobals "_law_other_name" = some (some (.ref fa_l_other_name)))
    (l_l_other_name : K.lookup fa_l_other_name = some ⟨oc_l_other_name, od_l_other_name, .func (PySem.W.fnOf "_law_other_name" "_law_other_name" (defArgs s_l_other_name) (defBody s_l_other_name) (defScope s_l_other_name) .none kV_l_other_name dc_l_other_name pm_l_other_name an_l_other_name cd_l_other_name ct_l_other_name), sl_l_other_name⟩)
    (x_l_other_name : PySem.W.codeIn K cd_l_other_name "_law_other_name" = true)
    (k_l_other_name : PySem.W.keepIn K (.ref fa_l_other_name) = true)
    (a_l_renamed : PySem.W.nsIn K mainGlobals "_law_renamed" = some (some (.ref fa_l_renamed)))
    (l_l_renamed : K.lookup fa_l_renamed = some ⟨oc_l_renamed, od_l_renamed, .func (PySem.W.fnOf "_law_renamed" "_law_renamed" (defArgs s_l_renamed) (defBody s_l_renamed) (defScope s_l_renamed) .none kV_l_renamed dc_l_renamed pm_l_renamed an_l_renamed cd_l_renamed ct_l_renamed), sl_l_renamed⟩)
    (x_l_renamed : PySem.W.codeIn K cd_l_renamed "_law_renamed" = true)
    (k_l_renamed : PySem.W.keepIn K (.ref fa_l_renamed) = true)
    (a_l_resized : PySem.W.nsIn K mainGlobals "_law_resized" = some (some (.ref fa_l_resized)))
    (l_l_resized : K.lookup fa_l_resized = some ⟨oc_l_resized, od_l_resized, .func (PySem.W.fnOf "_law_resized" "_law_resized" (defArgs s_l_resized) (defBody s_l_resized) (defScope s_l_resized) .none kV_l_resized dc_l_resized pm_l_resized an_l_resized cd_l_resized ct_l_resized), sl_l_resized⟩)
    (x_l_resized : PySem.W.codeIn K cd_l_resized "_law_resized" = true)
    (k_l_resized : PySem.W.keepIn K (.ref fa_l_resized) = true)
    (a_l_wrong : PySem.W.nsIn K mainGlobals "_law_wrong" = some (some (.ref fa_l_wrong)))
    (l_l_wrong : K.lookup fa_l_wrong = some ⟨oc_l_wrong, od_l_wrong, .func (PySem.W.fnOf "_law_wrong" "_law_wrong" (defArgs s_l_wrong) (defBody s_l_wrong) (defScope s_l_wrong) .none kV_l_wrong dc_l_wrong pm_l_wrong an_l_wrong cd_l_wrong ct_l_wrong), sl_l_wrong⟩)
    (x_l_wrong : PySem.W.codeIn K cd_l_wrong "_law_wrong" = true)
    (k_l_wrong : PySem.W.keepIn K (.ref fa_l_wrong) = true)
    (a_l_broken : PySem.W.nsIn K mainGlobals "_law_broken" = some (some (.ref fa_l_broken)))
    (l_l_broken : K.lookup fa_l_broken = some ⟨oc_l_broken, od_l_broken, .func (PySem.W.fnOf "_law_broken" "_law_broken" (defArgs s_l_broken) (defBody s_l_broken) (defScope s_l_broken) .none kV_l_broken dc_l_broken pm_l_broken an_l_broken cd_l_broken ct_l_broken), sl_l_broken⟩)
    (x_l_broken : PySem.W.codeIn K cd_l_broken "_law_broken" = true)
    (k_l_broken : PySem.W.keepIn K (.ref fa_l_broken) = true)
    (a_l_refused : PySem.W.nsIn K mainGlobals "_law_refused" = some (some (.ref fa_l_refused)))
    (l_l_refused : K.lookup fa_l_refused = some ⟨oc_l_refused, od_l_refused, .func (PySem.W.fnOf "_law_refused" "_law_refused" (defArgs s_l_refused) (defBody s_l_refused) (defScope s_l_refused) .none kV_l_refused dc_l_refused pm_l_refused an_l_refused cd_l_refused ct_l_refused), sl_l_refused⟩)
    (x_l_refused : PySem.W.codeIn K cd_l_refused "_law_refused" = true)
    (k_l_refused : PySem.W.keepIn K (.ref fa_l_refused) = true)
    (a_law : PySem.W.nsIn K mainGlobals "law" = some (some (.ref fa_law)))
    (l_law : K.lookup fa_law = some ⟨oc_law, od_law, .func (PySem.W.fnOf "law" "law" (defArgs s_law) (defBody s_law) (defScope s_law) .none kV_law dc_law pm_law an_law cd_law ct_law), sl_law⟩)
    (x_law : PySem.W.codeIn K cd_law "law" = true)
    (k_law : PySem.W.keepIn K (.ref fa_law) = true)
    (hn_x : PySem.W.specialIn K (.builtin "object.__class__") "__get__" = some (some (.builtin "getset_descriptor.__get__")))
    (ht_x : PySem.W.takesIn K (.builtin "object.__class__") = some true)
    (a_BookError : PySem.W.nsIn K mainGlobals "BookError" = some (some (.ref C_BookError)))
    (l_BookError : K.lookup C_BookError = some (excClassObj nm_BookError qn_BookError C_BookError N_BookError bs_BookError veT true sn_BookError sb_BookError ab_BookError co_BookError dd_BookError k0_BookError k1_BookError k2_BookError k3_BookError k5_BookError "ValueError.__new__"))
    (sa_BookError : PySem.W.findIn K (.ref C_BookError) "__setattr__" = some (some (.builtin "object.__setattr__")))
    (ex_BookError : PySem.W.subIn K (.ref C_BookError) (.type "BaseException") = some true)
    (ty_BookError : PySem.W.typeIn K (.ref C_BookError) = some (.type "type"))
    (kc_BookError : PySem.W.keepIn K (.ref C_BookError) = true)
    (nl_BookError : K.lookup N_BookError = some ⟨cn_BookError, dn_BookError, .dict es_BookError en_BookError, sl_BookError⟩)
    (ne_BookError : (es_BookError.toList.all fun e => match e.key with | .str _ _ => true | _ => false) = true)
    (iN_BookError : PySem.W.nsIn K N_BookError "__init__" = some none)
    (rd_BookError : PySem.W.readsIn K C_BookError (.type "type") = true)
    (sp_BookError : PySem.W.specialIn K (.ref C_BookError) "__getattribute__" = some (some (.builtin "type.__getattribute__")))
    (fc_BookError : PySem.W.findCls K (.ref C_BookError) (.type "type") "__init__" = some (.val (.builtin "ValueError.__init__")))
    (a_NoText : PySem.W.nsIn K mainGlobals "NoText" = some (some (.ref C_NoText)))
    (l_NoText : K.lookup C_NoText = some (excClassObj nm_NoText qn_NoText C_NoText N_NoText bs_NoText bm_NoText true sn_NoText sb_NoText ab_NoText co_NoText dd_NoText k0_NoText k1_NoText k2_NoText k3_NoText k5_NoText "ValueError.__new__"))
    (sa_NoText : PySem.W.findIn K (.ref C_NoText) "__setattr__" = some (some (.builtin "object.__setattr__")))
    (ex_NoText : PySem.W.subIn K (.ref C_NoText) (.type "BaseException") = some true)
    (ty_NoText : PySem.W.typeIn K (.ref C_NoText) = some (.type "type"))
    (kc_NoText : PySem.W.keepIn K (.ref C_NoText) = true)
    (ga_NoText : PySem.W.findIn K (.ref C_NoText) "__getattribute__" = some (some (.builtin "BaseException.__getattribute__")))
    (gg_NoText : PySem.W.findIn K (.ref C_NoText) "__getattr__" = some none)
    (hd_NoText : PySem.W.hasDictIn K C_NoText = true)
    (cl_NoText : PySem.W.findIn K (.ref C_NoText) "__class__" = some (some (.builtin "object.__class__")))
    (hm_NoText : PySem.W.mroIn K C_NoText (.type "object") = some true)
    (ss_NoText : PySem.W.subIn K (.ref C_NoText) (.ref C_NoText) = some true)
    (nf_NoText_place : PySem.W.findIn K (.ref C_NoText) "place" = some none)
    (a_NoName : PySem.W.nsIn K mainGlobals "NoName" = some (some (.ref C_NoName)))
    (l_NoName : K.lookup C_NoName = some (excClassObj nm_NoName qn_NoName C_NoName N_NoName bs_NoName bm_NoName true sn_NoName sb_NoName ab_NoName co_NoName dd_NoName k0_NoName k1_NoName k2_NoName k3_NoName k5_NoName "ValueError.__new__"))
    (sa_NoName : PySem.W.findIn K (.ref C_NoName) "__setattr__" = some (some (.builtin "object.__setattr__")))
    (ex_NoName : PySem.W.subIn K (.ref C_NoName) (.type "BaseException") = some true)
    (ty_NoName : PySem.W.typeIn K (.ref C_NoName) = some (.type "type"))
    (kc_NoName : PySem.W.keepIn K (.ref C_NoName) = true)
    (ga_NoName : PySem.W.findIn K (.ref C_NoName) "__getattribute__" = some (some (.builtin "BaseException.__getattribute__")))
    (gg_NoName : PySem.W.findIn K (.ref C_NoName) "__getattr__" = some none)
    (hd_NoName : PySem.W.hasDictIn K C_NoName = true)
    (cl_NoName : PySem.W.findIn K (.ref C_NoName) "__class__" = some (some (.builtin "object.__class__")))
    (hm_NoName : PySem.W.mroIn K C_NoName (.type "object") = some true)
    (ss_NoName : PySem.W.subIn K (.ref C_NoName) (.ref C_NoName) = some true)
    (nf_NoName_name : PySem.W.findIn K (.ref C_NoName) "name" = some none)
    (nf_NoName_place : PySem.W.findIn K (.ref C_NoName) "place" = some none)
    (a_NotPlain : PySem.W.nsIn K mainGlobals "NotPlain" = some (some (.ref C_NotPlain)))
    (l_NotPlain : K.lookup C_NotPlain = some (excClassObj nm_NotPlain qn_NotPlain C_NotPlain N_NotPlain bs_NotPlain bm_NotPlain true sn_NotPlain sb_NotPlain ab_NotPlain co_NotPlain dd_NotPlain k0_NotPlain k1_NotPlain k2_NotPlain k3_NotPlain k5_NotPlain "ValueError.__new__"))
    (sa_NotPlain : PySem.W.findIn K (.ref C_NotPlain) "__setattr__" = some (some (.builtin "object.__setattr__")))
    (ex_NotPlain : PySem.W.subIn K (.ref C_NotPlain) (.type "BaseException") = some true)
    (ty_NotPlain : PySem.W.typeIn K (.ref C_NotPlain) = some (.type "type"))
    (kc_NotPlain : PySem.W.keepIn K (.ref C_NotPlain) = true)
    (ga_NotPlain : PySem.W.findIn K (.ref C_NotPlain) "__getattribute__" = some (some (.builtin "BaseException.__getattribute__")))
    (gg_NotPlain : PySem.W.findIn K (.ref C_NotPlain) "__getattr__" = some none)
    (hd_NotPlain : PySem.W.hasDictIn K C_NotPlain = true)
    (cl_NotPlain : PySem.W.findIn K (.ref C_NotPlain) "__class__" = some (some (.builtin "object.__class__")))
    (hm_NotPlain : PySem.W.mroIn K C_NotPlain (.type "object") = some true)
    (ss_NotPlain : PySem.W.subIn K (.ref C_NotPlain) (.ref C_NotPlain) = some true)
    (nf_NotPlain_place : PySem.W.findIn K (.ref C_NotPlain) "place" = some none)
    (a_NoBook : PySem.W.nsIn K mainGlobals "NoBook" = some (some (.ref C_NoBook)))
    (l_NoBook : K.lookup C_NoBook = some (excClassObj nm_NoBook qn_NoBook C_NoBook N_NoBook bs_NoBook (.ref C_BookError :: veT) true sn_NoBook sb_NoBook ab_NoBook co_NoBook dd_NoBook k0_NoBook k1_NoBook k2_NoBook k3_NoBook k5_NoBook "ValueError.__new__"))
    (sa_NoBook : PySem.W.findIn K (.ref C_NoBook) "__setattr__" = some (some (.builtin "object.__setattr__")))
    (ex_NoBook : PySem.W.subIn K (.ref C_NoBook) (.type "BaseException") = some true)
    (ty_NoBook : PySem.W.typeIn K (.ref C_NoBook) = some (.type "type"))
    (kc_NoBook : PySem.W.keepIn K (.ref C_NoBook) = true)
    (nl_NoBook : K.lookup N_NoBook = some ⟨cn_NoBook, dn_NoBook, .dict es_NoBook en_NoBook, sl_NoBook⟩)
    (ne_NoBook : (es_NoBook.toList.all fun e => match e.key with | .str _ _ => true | _ => false) = true)
    (iN_NoBook : PySem.W.nsIn K N_NoBook "__init__" = some none)
    (ga_NoBook : PySem.W.findIn K (.ref C_NoBook) "__getattribute__" = some (some (.builtin "BaseException.__getattribute__")))
    (gg_NoBook : PySem.W.findIn K (.ref C_NoBook) "__getattr__" = some none)
    (hd_NoBook : PySem.W.hasDictIn K C_NoBook = true)
    (cl_NoBook : PySem.W.findIn K (.ref C_NoBook) "__class__" = some (some (.builtin "object.__class__")))
    (hm_NoBook : PySem.W.mroIn K C_NoBook (.type "object") = some true)
    (ss_NoBook : PySem.W.subIn K (.ref C_NoBook) (.ref C_NoBook) = some true)
    (a_Broken : PySem.W.nsIn K mainGlobals "Broken" = some (some (.ref C_Broken)))
    (l_Broken : K.lookup C_Broken = some (excClassObj nm_Broken qn_Broken C_Broken N_Broken bs_Broken bm_Broken true sn_Broken sb_Broken ab_Broken co_Broken dd_Broken k0_Broken k1_Broken k2_Broken k3_Broken k5_Broken "ValueError.__new__"))
    (sa_Broken : PySem.W.findIn K (.ref C_Broken) "__setattr__" = some (some (.builtin "object.__setattr__")))
    (ex_Broken : PySem.W.subIn K (.ref C_Broken) (.type "BaseException") = some true)
    (ty_Broken : PySem.W.typeIn K (.ref C_Broken) = some (.type "type"))
    (kc_Broken : PySem.W.keepIn K (.ref C_Broken) = true)
    (ga_Broken : PySem.W.findIn K (.ref C_Broken) "__getattribute__" = some (some (.builtin "BaseException.__getattribute__")))
    (gg_Broken : PySem.W.findIn K (.ref C_Broken) "__getattr__" = some none)
    (hd_Broken : PySem.W.hasDictIn K C_Broken = true)
    (cl_Broken : PySem.W.findIn K (.ref C_Broken) "__class__" = some (some (.builtin "object.__class__")))
    (hm_Broken : PySem.W.mroIn K C_Broken (.type "object") = some true)
    (ss_Broken : PySem.W.subIn K (.ref C_Broken) (.ref C_Broken) = some true)
    (nf_Broken_name : PySem.W.findIn K (.ref C_Broken) "name" = some none)
    (v_Broken : PySem.HandSPX.refsVE bm_Broken = true)
    (a_Broken_init : PySem.W.findIn K (.ref C_Broken) "__init__" = some (some (.ref fa_Broken_init)))
    (ti_Broken_init : PySem.W.typeIn K (.ref fa_Broken_init) = some (.type "function"))
    (l_Broken_init : K.lookup fa_Broken_init = some ⟨oc_Broken_init, od_Broken_init, .func (PySem.W.fnOf "__init__" "Broken.__init__" (defArgs s_Broken_init) (defBody s_Broken_init) (defScope s_Broken_init) .none kV_Broken_init dc_Broken_init pm_Broken_init an_Broken_init cd_Broken_init ct_Broken_init), sl_Broken_init⟩)
    (x_Broken_init : PySem.W.codeIn K cd_Broken_init "Broken.__init__" = true)
    (k_Broken_init : PySem.W.keepIn K (.ref fa_Broken_init) = true)
    (a_NoLine : PySem.W.nsIn K mainGlobals "NoLine" = some (some (.ref C_NoLine)))
    (l_NoLine : K.lookup C_NoLine = some (excClassObj nm_NoLine qn_NoLine C_NoLine N_NoLine bs_NoLine bm_NoLine true sn_NoLine sb_NoLine ab_NoLine co_NoLine dd_NoLine k0_NoLine k1_NoLine k2_NoLine k3_NoLine k5_NoLine "ValueError.__new__"))
    (sa_NoLine : PySem.W.findIn K (.ref C_NoLine) "__setattr__" = some (some (.builtin "object.__setattr__")))
    (ex_NoLine : PySem.W.subIn K (.ref C_NoLine) (.type "BaseException") = some true)
    (ty_NoLine : PySem.W.typeIn K (.ref C_NoLine) = some (.type "type"))
    (kc_NoLine : PySem.W.keepIn K (.ref C_NoLine) = true)
    (ga_NoLine : PySem.W.findIn K (.ref C_NoLine) "__getattribute__" = some (some (.builtin "BaseException.__getattribute__")))
    (gg_NoLine : PySem.W.findIn K (.ref C_NoLine) "__getattr__" = some none)
    (hd_NoLine : PySem.W.hasDictIn K C_NoLine = true)
    (cl_NoLine : PySem.W.findIn K (.ref C_NoLine) "__class__" = some (some (.builtin "object.__class__")))
    (hm_NoLine : PySem.W.mroIn K C_NoLine (.type "object") = some true)
    (ss_NoLine : PySem.W.subIn K (.ref C_NoLine) (.ref C_NoLine) = some true)
    (nf_NoLine_line : PySem.W.findIn K (.ref C_NoLine) "line" = some none)
    (a_NoDeed : PySem.W.nsIn K mainGlobals "NoDeed" = some (some (.ref C_NoDeed)))
    (l_NoDeed : K.lookup C_NoDeed = some (excClassObj nm_NoDeed qn_NoDeed C_NoDeed N_NoDeed bs_NoDeed bm_NoDeed true sn_NoDeed sb_NoDeed ab_NoDeed co_NoDeed dd_NoDeed k0_NoDeed k1_NoDeed k2_NoDeed k3_NoDeed k5_NoDeed "ValueError.__new__"))
    (sa_NoDeed : PySem.W.findIn K (.ref C_NoDeed) "__setattr__" = some (some (.builtin "object.__setattr__")))
    (ex_NoDeed : PySem.W.subIn K (.ref C_NoDeed) (.type "BaseException") = some true)
    (ty_NoDeed : PySem.W.typeIn K (.ref C_NoDeed) = some (.type "type"))
    (kc_NoDeed : PySem.W.keepIn K (.ref C_NoDeed) = true)
    (ga_NoDeed : PySem.W.findIn K (.ref C_NoDeed) "__getattribute__" = some (some (.builtin "BaseException.__getattribute__")))
    (gg_NoDeed : PySem.W.findIn K (.ref C_NoDeed) "__getattr__" = some none)
    (hd_NoDeed : PySem.W.hasDictIn K C_NoDeed = true)
    (cl_NoDeed : PySem.W.findIn K (.ref C_NoDeed) "__class__" = some (some (.builtin "object.__class__")))
    (hm_NoDeed : PySem.W.mroIn K C_NoDeed (.type "object") = some true)
    (ss_NoDeed : PySem.W.subIn K (.ref C_NoDeed) (.ref C_NoDeed) = some true)
    (nf_NoDeed_name : PySem.W.findIn K (.ref C_NoDeed) "name" = some none)
    (a_NoRule : PySem.W.nsIn K mainGlobals "NoRule" = some (some (.ref C_NoRule)))
    (l_NoRule : K.lookup C_NoRule = some (excClassObj nm_NoRule qn_NoRule C_NoRule N_NoRule bs_NoRule bm_NoRule true sn_NoRule sb_NoRule ab_NoRule co_NoRule dd_NoRule k0_NoRule k1_NoRule k2_NoRule k3_NoRule k5_NoRule "ValueError.__new__"))
    (sa_NoRule : PySem.W.findIn K (.ref C_NoRule) "__setattr__" = some (some (.builtin "object.__setattr__")))
    (ex_NoRule : PySem.W.subIn K (.ref C_NoRule) (.type "BaseException") = some true)
    (ty_NoRule : PySem.W.typeIn K (.ref C_NoRule) = some (.type "type"))
    (kc_NoRule : PySem.W.keepIn K (.ref C_NoRule) = true)
    (ga_NoRule : PySem.W.findIn K (.ref C_NoRule) "__getattribute__" = some (some (.builtin "BaseException.__getattribute__")))
    (gg_NoRule : PySem.W.findIn K (.ref C_NoRule) "__getattr__" = some none)
    (hd_NoRule : PySem.W.hasDictIn K C_NoRule = true)
    (cl_NoRule : PySem.W.findIn K (.ref C_NoRule) "__class__" = some (some (.builtin "object.__class__")))
    (hm_NoRule : PySem.W.mroIn K C_NoRule (.type "object") = some true)
    (ss_NoRule : PySem.W.subIn K (.ref C_NoRule) (.ref C_NoRule) = some true)
    (nf_NoRule_name : PySem.W.findIn K (.ref C_NoRule) "name" = some none)
    (a_OutOfRange : PySem.W.nsIn K mainGlobals "OutOfRange" = some (some (.ref C_OutOfRange)))
    (l_OutOfRange : K.lookup C_OutOfRange = some (excClassObj nm_OutOfRange qn_OutOfRange C_OutOfRange N_OutOfRange bs_OutOfRange (.ref C_BookError :: veT) true sn_OutOfRange sb_OutOfRange ab_OutOfRange co_OutOfRange dd_OutOfRange k0_OutOfRange k1_OutOfRange k2_OutOfRange k3_OutOfRange k5_OutOfRange "ValueError.__new__"))
    (sa_OutOfRange : PySem.W.findIn K (.ref C_OutOfRange) "__setattr__" = some (some (.builtin "object.__setattr__")))
    (ex_OutOfRange : PySem.W.subIn K (.ref C_OutOfRange) (.type "BaseException") = some true)
    (ty_OutOfRange : PySem.W.typeIn K (.ref C_OutOfRange) = some (.type "type"))
    (kc_OutOfRange : PySem.W.keepIn K (.ref C_OutOfRange) = true)
    (ga_OutOfRange : PySem.W.findIn K (.ref C_OutOfRange) "__getattribute__" = some (some (.builtin "BaseException.__getattribute__")))
    (gg_OutOfRange : PySem.W.findIn K (.ref C_OutOfRange) "__getattr__" = some none)
    (hd_OutOfRange : PySem.W.hasDictIn K C_OutOfRange = true)
    (cl_OutOfRange : PySem.W.findIn K (.ref C_OutOfRange) "__class__" = some (some (.builtin "object.__class__")))
    (hm_OutOfRange : PySem.W.mroIn K C_OutOfRange (.type "object") = some true)
    (ss_OutOfRange : PySem.W.subIn K (.ref C_OutOfRange) (.ref C_OutOfRange) = some true)
    (a_ShortShare : PySem.W.nsIn K mainGlobals "ShortShare" = some (some (.ref C_ShortShare)))
    (l_ShortShare : K.lookup C_ShortShare = some (excClassObj nm_ShortShare qn_ShortShare C_ShortShare N_ShortShare bs_ShortShare bm_ShortShare true sn_ShortShare sb_ShortShare ab_ShortShare co_ShortShare dd_ShortShare k0_ShortShare k1_ShortShare k2_ShortShare k3_ShortShare k5_ShortShare "ValueError.__new__"))
    (sa_ShortShare : PySem.W.findIn K (.ref C_ShortShare) "__setattr__" = some (some (.builtin "object.__setattr__")))
    (ex_ShortShare : PySem.W.subIn K (.ref C_ShortShare) (.type "BaseException") = some true)
    (ty_ShortShare : PySem.W.typeIn K (.ref C_ShortShare) = some (.type "type"))
    (kc_ShortShare : PySem.W.keepIn K (.ref C_ShortShare) = true)
    (ga_ShortShare : PySem.W.findIn K (.ref C_ShortShare) "__getattribute__" = some (some (.builtin "BaseException.__getattribute__")))
    (gg_ShortShare : PySem.W.findIn K (.ref C_ShortShare) "__getattr__" = some none)
    (hd_ShortShare : PySem.W.hasDictIn K C_ShortShare = true)
    (cl_ShortShare : PySem.W.findIn K (.ref C_ShortShare) "__class__" = some (some (.builtin "object.__class__")))
    (hm_ShortShare : PySem.W.mroIn K C_ShortShare (.type "object") = some true)
    (ss_ShortShare : PySem.W.subIn K (.ref C_ShortShare) (.ref C_ShortShare) = some true)
    (nf_ShortShare_name : PySem.W.findIn K (.ref C_ShortShare) "name" = some none)
    (nf_ShortShare_lack : PySem.W.findIn K (.ref C_ShortShare) "lack" = some none)
    (a_Folded : PySem.W.nsIn K mainGlobals "Folded" = some (some (.ref C_Folded)))
    (l_Folded : K.lookup C_Folded = some (excClassObj nm_Folded qn_Folded C_Folded N_Folded bs_Folded (.ref C_BookError :: veT) true sn_Folded sb_Folded ab_Folded co_Folded dd_Folded k0_Folded k1_Folded k2_Folded k3_Folded k5_Folded "ValueError.__new__"))
    (sa_Folded : PySem.W.findIn K (.ref C_Folded) "__setattr__" = some (some (.builtin "object.__setattr__")))
    (ex_Folded : PySem.W.subIn K (.ref C_Folded) (.type "BaseException") = some true)
    (ty_Folded : PySem.W.typeIn K (.ref C_Folded) = some (.type "type"))
    (kc_Folded : PySem.W.keepIn K (.ref C_Folded) = true)
    (ga_Folded : PySem.W.findIn K (.ref C_Folded) "__getattribute__" = some (some (.builtin "BaseException.__getattribute__")))
    (gg_Folded : PySem.W.findIn K (.ref C_Folded) "__getattr__" = some none)
    (hd_Folded : PySem.W.hasDictIn K C_Folded = true)
    (cl_Folded : PySem.W.findIn K (.ref C_Folded) "__class__" = some (some (.builtin "object.__class__")))
    (hm_Folded : PySem.W.mroIn K C_Folded (.type "object") = some true)
    (ss_Folded : PySem.W.subIn K (.ref C_Folded) (.ref C_Folded) = some true)
    (a_NoPaper : PySem.W.nsIn K mainGlobals "NoPaper" = some (some (.ref C_NoPaper)))
    (l_NoPaper : K.lookup C_NoPaper = some (excClassObj nm_NoPaper qn_NoPaper C_NoPaper N_NoPaper bs_NoPaper bm_NoPaper true sn_NoPaper sb_NoPaper ab_NoPaper co_NoPaper dd_NoPaper k0_NoPaper k1_NoPaper k2_NoPaper k3_NoPaper k5_NoPaper "ValueError.__new__"))
    (sa_NoPaper : PySem.W.findIn K (.ref C_NoPaper) "__setattr__" = some (some (.builtin "object.__setattr__")))
    (ex_NoPaper : PySem.W.subIn K (.ref C_NoPaper) (.type "BaseException") = some true)
    (ty_NoPaper : PySem.W.typeIn K (.ref C_NoPaper) = some (.type "type"))
    (kc_NoPaper : PySem.W.keepIn K (.ref C_NoPaper) = true)
    (ga_NoPaper : PySem.W.findIn K (.ref C_NoPaper) "__getattribute__" = some (some (.builtin "BaseException.__getattribute__")))
    (gg_NoPaper : PySem.W.findIn K (.ref C_NoPaper) "__getattr__" = some none)
    (hd_NoPaper : PySem.W.hasDictIn K C_NoPaper = true)
    (cl_NoPaper : PySem.W.findIn K (.ref C_NoPaper) "__class__" = some (some (.builtin "object.__class__")))
    (hm_NoPaper : PySem.W.mroIn K C_NoPaper (.type "object") = some true)
    (ss_NoPaper : PySem.W.subIn K (.ref C_NoPaper) (.ref C_NoPaper) = some true)
    (nf_NoPaper_line : PySem.W.findIn K (.ref C_NoPaper) "line" = some none)
    (su_NoText_BookError : PySem.W.subIn K (.ref C_NoText) (.ref C_BookError) = some true)
    (su_NoName_BookError : PySem.W.subIn K (.ref C_NoName) (.ref C_BookError) = some true)
    (su_NotPlain_BookError : PySem.W.subIn K (.ref C_NotPlain) (.ref C_BookError) = some true)
    (su_NoBook_BookError : PySem.W.subIn K (.ref C_NoBook) (.ref C_BookError) = some true)
    (su_Broken_BookError : PySem.W.subIn K (.ref C_Broken) (.ref C_BookError) = some true)
    (su_NoLine_BookError : PySem.W.subIn K (.ref C_NoLine) (.ref C_BookError) = some true)
    (su_NoDeed_BookError : PySem.W.subIn K (.ref C_NoDeed) (.ref C_BookError) = some true)
    (su_NoRule_BookError : PySem.W.subIn K (.ref C_NoRule) (.ref C_BookError) = some true)
    (su_OutOfRange_BookError : PySem.W.subIn K (.ref C_OutOfRange) (.ref C_BookError) = some true)
    (su_ShortShare_BookError : PySem.W.subIn K (.ref C_ShortShare) (.ref C_BookError) = some true)
    (su_Folded_BookError : PySem.W.subIn K (.ref C_Folded) (.ref C_BookError) = some true)
    (su_NoPaper_BookError : PySem.W.subIn K (.ref C_NoPaper) (.ref C_BookError) = some true)
    (su_NoText_Broken : PySem.W.subIn K (.ref C_NoText) (.ref C_Broken) = some false)
    (su_NoName_Broken : PySem.W.subIn K (.ref C_NoName) (.ref C_Broken) = some false)
    (su_NotPlain_Broken : PySem.W.subIn K (.ref C_NotPlain) (.ref C_Broken) = some false)
    (su_NoBook_Broken : PySem.W.subIn K (.ref C_NoBook) (.ref C_Broken) = some false)
    (su_Broken_Broken : PySem.W.subIn K (.ref C_Broken) (.ref C_Broken) = some true)
    (su_NoLine_Broken : PySem.W.subIn K (.ref C_NoLine) (.ref C_Broken) = some false)
    (su_NoDeed_Broken : PySem.W.subIn K (.ref C_NoDeed) (.ref C_Broken) = some false)
    (su_NoRule_Broken : PySem.W.subIn K (.ref C_NoRule) (.ref C_Broken) = some false)
    (su_OutOfRange_Broken : PySem.W.subIn K (.ref C_OutOfRange) (.ref C_Broken) = some false)
    (su_ShortShare_Broken : PySem.W.subIn K (.ref C_ShortShare) (.ref C_Broken) = some false)
    (su_Folded_Broken : PySem.W.subIn K (.ref C_Folded) (.ref C_Broken) = some false)
    (su_NoPaper_Broken : PySem.W.subIn K (.ref C_NoPaper) (.ref C_Broken) = some false)
    (su_NoText_Folded : PySem.W.subIn K (.ref C_NoText) (.ref C_Folded) = some false)
    (su_NoName_Folded : PySem.W.subIn K (.ref C_NoName) (.ref C_Folded) = some false)
    (su_NotPlain_Folded : PySem.W.subIn K (.ref C_NotPlain) (.ref C_Folded) = some false)
    (su_NoBook_Folded : PySem.W.subIn K (.ref C_NoBook) (.ref C_Folded) = some false)
    (su_Broken_Folded : PySem.W.subIn K (.ref C_Broken) (.ref C_Folded) = some false)
    (su_NoLine_Folded : PySem.W.subIn K (.ref C_NoLine) (.ref C_Folded) = some false)
    (su_NoDeed_Folded : PySem.W.subIn K (.ref C_NoDeed) (.ref C_Folded) = some false)
    (su_NoRule_Folded : PySem.W.subIn K (.ref C_NoRule) (.ref C_Folded) = some false)
    (su_OutOfRange_Folded : PySem.W.subIn K (.ref C_OutOfRange) (.ref C_Folded) = some false)
    (su_ShortShare_Folded : PySem.W.subIn K (.ref C_ShortShare) (.ref C_Folded) = some false)
    (su_Folded_Folded : PySem.W.subIn K (.ref C_Folded) (.ref C_Folded) = some true)
    (su_NoPaper_Folded : PySem.W.subIn K (.ref C_NoPaper) (.ref C_Folded) = some false)
    (su_NoText_NoBook : PySem.W.subIn K (.ref C_NoText) (.ref C_NoBook) = some false)
    (su_NoName_NoBook : PySem.W.subIn K (.ref C_NoName) (.ref C_NoBook) = some false)
    (su_NotPlain_NoBook : PySem.W.subIn K (.ref C_NotPlain) (.ref C_NoBook) = some false)
    (su_NoBook_NoBook : PySem.W.subIn K (.ref C_NoBook) (.ref C_NoBook) = some true)
    (su_Broken_NoBook : PySem.W.subIn K (.ref C_Broken) (.ref C_NoBook) = some false)
    (su_NoLine_NoBook : PySem.W.subIn K (.ref C_NoLine) (.ref C_NoBook) = some false)
    (su_NoDeed_NoBook : PySem.W.subIn K (.ref C_NoDeed) (.ref C_NoBook) = some false)
    (su_NoRule_NoBook : PySem.W.subIn K (.ref C_NoRule) (.ref C_NoBook) = some false)
    (su_OutOfRange_NoBook : PySem.W.subIn K (.ref C_OutOfRange) (.ref C_NoBook) = some false)
    (su_ShortShare_NoBook : PySem.W.subIn K (.ref C_ShortShare) (.ref C_NoBook) = some false)
    (su_Folded_NoBook : PySem.W.subIn K (.ref C_Folded) (.ref C_NoBook) = some false)
    (su_NoPaper_NoBook : PySem.W.subIn K (.ref C_NoPaper) (.ref C_NoBook) = some false)
    (su_NoText_NoDeed : PySem.W.subIn K (.ref C_NoText) (.ref C_NoDeed) = some false)
    (su_NoName_NoDeed : PySem.W.subIn K (.ref C_NoName) (.ref C_NoDeed) = some false)
    (su_NotPlain_NoDeed : PySem.W.subIn K (.ref C_NotPlain) (.ref C_NoDeed) = some false)
    (su_NoBook_NoDeed : PySem.W.subIn K (.ref C_NoBook) (.ref C_NoDeed) = some false)
    (su_Broken_NoDeed : PySem.W.subIn K (.ref C_Broken) (.ref C_NoDeed) = some false)
    (su_NoLine_NoDeed : PySem.W.subIn K (.ref C_NoLine) (.ref C_NoDeed) = some false)
    (su_NoDeed_NoDeed : PySem.W.subIn K (.ref C_NoDeed) (.ref C_NoDeed) = some true)
    (su_NoRule_NoDeed : PySem.W.subIn K (.ref C_NoRule) (.ref C_NoDeed) = some false)
    (su_OutOfRange_NoDeed : PySem.W.subIn K (.ref C_OutOfRange) (.ref C_NoDeed) = some false)
    (su_ShortShare_NoDeed : PySem.W.subIn K (.ref C_ShortShare) (.ref C_NoDeed) = some false)
    (su_Folded_NoDeed : PySem.W.subIn K (.ref C_Folded) (.ref C_NoDeed) = some false)
    (su_NoPaper_NoDeed : PySem.W.subIn K (.ref C_NoPaper) (.ref C_NoDeed) = some false)
    (su_NoText_NoLine : PySem.W.subIn K (.ref C_NoText) (.ref C_NoLine) = some false)
    (su_NoName_NoLine : PySem.W.subIn K (.ref C_NoName) (.ref C_NoLine) = some false)
    (su_NotPlain_NoLine : PySem.W.subIn K (.ref C_NotPlain) (.ref C_NoLine) = some false)
    (su_NoBook_NoLine : PySem.W.subIn K (.ref C_NoBook) (.ref C_NoLine) = some false)
    (su_Broken_NoLine : PySem.W.subIn K (.ref C_Broken) (.ref C_NoLine) = some false)
    (su_NoLine_NoLine : PySem.W.subIn K (.ref C_NoLine) (.ref C_NoLine) = some true)
    (su_NoDeed_NoLine : PySem.W.subIn K (.ref C_NoDeed) (.ref C_NoLine) = some false)
    (su_NoRule_NoLine : PySem.W.subIn K (.ref C_NoRule) (.ref C_NoLine) = some false)
    (su_OutOfRange_NoLine : PySem.W.subIn K (.ref C_OutOfRange) (.ref C_NoLine) = some false)
    (su_ShortShare_NoLine : PySem.W.subIn K (.ref C_ShortShare) (.ref C_NoLine) = some false)
    (su_Folded_NoLine : PySem.W.subIn K (.ref C_Folded) (.ref C_NoLine) = some false)
    (su_NoPaper_NoLine : PySem.W.subIn K (.ref C_NoPaper) (.ref C_NoLine) = some false)
    (su_NoText_NoName : PySem.W.subIn K (.ref C_NoText) (.ref C_NoName) = some false)
    (su_NoName_NoName : PySem.W.subIn K (.ref C_NoName) (.ref C_NoName) = some true)
    (su_NotPlain_NoName : PySem.W.subIn K (.ref C_NotPlain) (.ref C_NoName) = some false)
    (su_NoBook_NoName : PySem.W.subIn K (.ref C_NoBook) (.ref C_NoName) = some false)
    (su_Broken_NoName : PySem.W.subIn K (.ref C_Broken) (.ref C_NoName) = some false)
    (su_NoLine_NoName : PySem.W.subIn K (.ref C_NoLine) (.ref C_NoName) = some false)
    (su_NoDeed_NoName : PySem.W.subIn K (.ref C_NoDeed) (.ref C_NoName) = some false)
    (su_NoRule_NoName : PySem.W.subIn K (.ref C_NoRule) (.ref C_NoName) = some false)
    (su_OutOfRange_NoName : PySem.W.subIn K (.ref C_OutOfRange) (.ref C_NoName) = some false)
    (su_ShortShare_NoName : PySem.W.subIn K (.ref C_ShortShare) (.ref C_NoName) = some false)
    (su_Folded_NoName : PySem.W.subIn K (.ref C_Folded) (.ref C_NoName) = some false)
    (su_NoPaper_NoName : PySem.W.subIn K (.ref C_NoPaper) (.ref C_NoName) = some false)
    (su_NoText_NoPaper : PySem.W.subIn K (.ref C_NoText) (.ref C_NoPaper) = some false)
    (su_NoName_NoPaper : PySem.W.subIn K (.ref C_NoName) (.ref C_NoPaper) = some false)
    (su_NotPlain_NoPaper : PySem.W.subIn K (.ref C_NotPlain) (.ref C_NoPaper) = some false)
    (su_NoBook_NoPaper : PySem.W.subIn K (.ref C_NoBook) (.ref C_NoPaper) = some false)
    (su_Broken_NoPaper : PySem.W.subIn K (.ref C_Broken) (.ref C_NoPaper) = some false)
    (su_NoLine_NoPaper : PySem.W.subIn K (.ref C_NoLine) (.ref C_NoPaper) = some false)
    (su_NoDeed_NoPaper : PySem.W.subIn K (.ref C_NoDeed) (.ref C_NoPaper) = some false)
    (su_NoRule_NoPaper : PySem.W.subIn K (.ref C_NoRule) (.ref C_NoPaper) = some false)
    (su_OutOfRange_NoPaper : PySem.W.subIn K (.ref C_OutOfRange) (.ref C_NoPaper) = some false)
    (su_ShortShare_NoPaper : PySem.W.subIn K (.ref C_ShortShare) (.ref C_NoPaper) = some false)
    (su_Folded_NoPaper : PySem.W.subIn K (.ref C_Folded) (.ref C_NoPaper) = some false)
    (su_NoPaper_NoPaper : PySem.W.subIn K (.ref C_NoPaper) (.ref C_NoPaper) = some true)
    (su_NoText_NoRule : PySem.W.subIn K (.ref C_NoText) (.ref C_NoRule) = some false)
    (su_NoName_NoRule : PySem.W.subIn K (.ref C_NoName) (.ref C_NoRule) = some false)
    (su_NotPlain_NoRule : PySem.W.subIn K (.ref C_NotPlain) (.ref C_NoRule) = some false)
    (su_NoBook_NoRule : PySem.W.subIn K (.ref C_NoBook) (.ref C_NoRule) = some false)
    (su_Broken_NoRule : PySem.W.subIn K (.ref C_Broken) (.ref C_NoRule) = some false)
    (su_NoLine_NoRule : PySem.W.subIn K (.ref C_NoLine) (.ref C_NoRule) = some false)
    (su_NoDeed_NoRule : PySem.W.subIn K (.ref C_NoDeed) (.ref C_NoRule) = some false)
    (su_NoRule_NoRule : PySem.W.subIn K (.ref C_NoRule) (.ref C_NoRule) = some true)
    (su_OutOfRange_NoRule : PySem.W.subIn K (.ref C_OutOfRange) (.ref C_NoRule) = some false)
    (su_ShortShare_NoRule : PySem.W.subIn K (.ref C_ShortShare) (.ref C_NoRule) = some false)
    (su_Folded_NoRule : PySem.W.subIn K (.ref C_Folded) (.ref C_NoRule) = some false)
    (su_NoPaper_NoRule : PySem.W.subIn K (.ref C_NoPaper) (.ref C_NoRule) = some false)
    (su_NoText_NoText : PySem.W.subIn K (.ref C_NoText) (.ref C_NoText) = some true)
    (su_NoName_NoText : PySem.W.subIn K (.ref C_NoName) (.ref C_NoText) = some false)
    (su_NotPlain_NoText : PySem.W.subIn K (.ref C_NotPlain) (.ref C_NoText) = some false)
    (su_NoBook_NoText : PySem.W.subIn K (.ref C_NoBook) (.ref C_NoText) = some false)
    (su_Broken_NoText : PySem.W.subIn K (.ref C_Broken) (.ref C_NoText) = some false)
    (su_NoLine_NoText : PySem.W.subIn K (.ref C_NoLine) (.ref C_NoText) = some false)
    (su_NoDeed_NoText : PySem.W.subIn K (.ref C_NoDeed) (.ref C_NoText) = some false)
    (su_NoRule_NoText : PySem.W.subIn K (.ref C_NoRule) (.ref C_NoText) = some false)
    (su_OutOfRange_NoText : PySem.W.subIn K (.ref C_OutOfRange) (.ref C_NoText) = some false)
    (su_ShortShare_NoText : PySem.W.subIn K (.ref C_ShortShare) (.ref C_NoText) = some false)
    (su_Folded_NoText : PySem.W.subIn K (.ref C_Folded) (.ref C_NoText) = some false)
    (su_NoPaper_NoText : PySem.W.subIn K (.ref C_NoPaper) (.ref C_NoText) = some false)
    (su_NoText_NotPlain : PySem.W.subIn K (.ref C_NoText) (.ref C_NotPlain) = some false)
    (su_NoName_NotPlain : PySem.W.subIn K (.ref C_NoName) (.ref C_NotPlain) = some false)
    (su_NotPlain_NotPlain : PySem.W.subIn K (.ref C_NotPlain) (.ref C_NotPlain) = some true)
    (su_NoBook_NotPlain : PySem.W.subIn K (.ref C_NoBook) (.ref C_NotPlain) = some false)
    (su_Broken_NotPlain : PySem.W.subIn K (.ref C_Broken) (.ref C_NotPlain) = some false)
    (su_NoLine_NotPlain : PySem.W.subIn K (.ref C_NoLine) (.ref C_NotPlain) = some false)
    (su_NoDeed_NotPlain : PySem.W.subIn K (.ref C_NoDeed) (.ref C_NotPlain) = some false)
    (su_NoRule_NotPlain : PySem.W.subIn K (.ref C_NoRule) (.ref C_NotPlain) = some false)
    (su_OutOfRange_NotPlain : PySem.W.subIn K (.ref C_OutOfRange) (.ref C_NotPlain) = some false)
    (su_ShortShare_NotPlain : PySem.W.subIn K (.ref C_ShortShare) (.ref C_NotPlain) = some false)
    (su_Folded_NotPlain : PySem.W.subIn K (.ref C_Folded) (.ref C_NotPlain) = some false)
    (su_NoPaper_NotPlain : PySem.W.subIn K (.ref C_NoPaper) (.ref C_NotPlain) = some false)
    (su_NoText_OutOfRange : PySem.W.subIn K (.ref C_NoText) (.ref C_OutOfRange) = some false)
    (su_NoName_OutOfRange : PySem.W.subIn K (.ref C_NoName) (.ref C_OutOfRange) = some false)
    (su_NotPlain_OutOfRange : PySem.W.subIn K (.ref C_NotPlain) (.ref C_OutOfRange) = some false)
    (su_NoBook_OutOfRange : PySem.W.subIn K (.ref C_NoBook) (.ref C_OutOfRange) = some false)
    (su_Broken_OutOfRange : PySem.W.subIn K (.ref C_Broken) (.ref C_OutOfRange) = some false)
    (su_NoLine_OutOfRange : PySem.W.subIn K (.ref C_NoLine) (.ref C_OutOfRange) = some false)
    (su_NoDeed_OutOfRange : PySem.W.subIn K (.ref C_NoDeed) (.ref C_OutOfRange) = some false)
    (su_NoRule_OutOfRange : PySem.W.subIn K (.ref C_NoRule) (.ref C_OutOfRange) = some false)
    (su_OutOfRange_OutOfRange : PySem.W.subIn K (.ref C_OutOfRange) (.ref C_OutOfRange) = some true)
    (su_ShortShare_OutOfRange : PySem.W.subIn K (.ref C_ShortShare) (.ref C_OutOfRange) = some false)
    (su_Folded_OutOfRange : PySem.W.subIn K (.ref C_Folded) (.ref C_OutOfRange) = some false)
    (su_NoPaper_OutOfRange : PySem.W.subIn K (.ref C_NoPaper) (.ref C_OutOfRange) = some false)
    (su_NoText_ShortShare : PySem.W.subIn K (.ref C_NoText) (.ref C_ShortShare) = some false)
    (su_NoName_ShortShare : PySem.W.subIn K (.ref C_NoName) (.ref C_ShortShare) = some false)
    (su_NotPlain_ShortShare : PySem.W.subIn K (.ref C_NotPlain) (.ref C_ShortShare) = some false)
    (su_NoBook_ShortShare : PySem.W.subIn K (.ref C_NoBook) (.ref C_ShortShare) = some false)
    (su_Broken_ShortShare : PySem.W.subIn K (.ref C_Broken) (.ref C_ShortShare) = some false)
    (su_NoLine_ShortShare : PySem.W.subIn K (.ref C_NoLine) (.ref C_ShortShare) = some false)
    (su_NoDeed_ShortShare : PySem.W.subIn K (.ref C_NoDeed) (.ref C_ShortShare) = some false)
    (su_NoRule_ShortShare : PySem.W.subIn K (.ref C_NoRule) (.ref C_ShortShare) = some false)
    (su_OutOfRange_ShortShare : PySem.W.subIn K (.ref C_OutOfRange) (.ref C_ShortShare) = some false)
    (su_ShortShare_ShortShare : PySem.W.subIn K (.ref C_ShortShare) (.ref C_ShortShare) = some true)
    (su_Folded_ShortShare : PySem.W.subIn K (.ref C_Folded) (.ref C_ShortShare) = some false)
    (su_NoPaper_ShortShare : PySem.W.subIn K (.ref C_NoPaper) (.ref C_ShortShare) = some false)
    (su_NoText_ValueError : PySem.W.subIn K (.ref C_NoText) (.type "ValueError") = some true)
    (su_NoName_ValueError : PySem.W.subIn K (.ref C_NoName) (.type "ValueError") = some true)
    (su_NotPlain_ValueError : PySem.W.subIn K (.ref C_NotPlain) (.type "ValueError") = some true)
    (su_NoBook_ValueError : PySem.W.subIn K (.ref C_NoBook) (.type "ValueError") = some true)
    (su_Broken_ValueError : PySem.W.subIn K (.ref C_Broken) (.type "ValueError") = some true)
    (su_NoLine_ValueError : PySem.W.subIn K (.ref C_NoLine) (.type "ValueError") = some true)
    (su_NoDeed_ValueError : PySem.W.subIn K (.ref C_NoDeed) (.type "ValueError") = some true)
    (su_NoRule_ValueError : PySem.W.subIn K (.ref C_NoRule) (.type "ValueError") = some true)
    (su_OutOfRange_ValueError : PySem.W.subIn K (.ref C_OutOfRange) (.type "ValueError") = some true)
    (su_ShortShare_ValueError : PySem.W.subIn K (.ref C_ShortShare) (.type "ValueError") = some true)
    (su_Folded_ValueError : PySem.W.subIn K (.ref C_Folded) (.type "ValueError") = some true)
    (su_NoPaper_ValueError : PySem.W.subIn K (.ref C_NoPaper) (.type "ValueError") = some true)
    (z_ValueError : PySem.W.nsIn K mainGlobals "ValueError" = some none)
    (z_enumerate : PySem.W.nsIn K mainGlobals "enumerate" = some none)
    (z_int : PySem.W.nsIn K mainGlobals "int" = some none)
    (z_isinstance : PySem.W.nsIn K mainGlobals "isinstance" = some none)
    (z_len : PySem.W.nsIn K mainGlobals "len" = some none)
    (z_list : PySem.W.nsIn K mainGlobals "list" = some none)
    (z_range : PySem.W.nsIn K mainGlobals "range" = some none)
    (z_sum : PySem.W.nsIn K mainGlobals "sum" = some none)
    (z_tuple : PySem.W.nsIn K mainGlobals "tuple" = some none)
    (z_zip : PySem.W.nsIn K mainGlobals "zip" = some none)
    (g_LETTERS : PySem.W.nsIn K mainGlobals "LETTERS" = some (some (.str "abcdefghijklmnopqrstuvwxyz" t_LETTERS)))
    (g_LONGEST : PySem.W.nsIn K mainGlobals "LONGEST" = some (some (.int 10 t_LONGEST)))
    (g_MOST : PySem.W.nsIn K mainGlobals "MOST" = some (some (.ref GA_MOST)))
    (lt_MOST : K.lookup GA_MOST = some ⟨.type "tuple", dd_MOST, .seq #[.int 4 t0_MOST, .int 5 t1_MOST, .int 6 t2_MOST] n_MOST, sl_MOST⟩) :
    ∃ fd : FuncData, (∀ (s : Shared) (v : Value), BindsTo s fd ⟨[v], []⟩ [("_law_script", v)]) ∧ ∀ base : Heap, K.In base → base.Ns mainGlobals mg → FnOk l.prog w K mg base CX0 7 fa fd ["_law_script"] (spLaw K) := by
  have e := hfa.symm.trans (PySem.W.mg_of X G a_law)
  cases e
  have F_value_of := fun_mk (st := s_value_of) l_value_of x_value_of k_value_of
  have b_value_of := F_value_of.binds (ps := ["form", "values"]) fun _ _ _ _ _ _ us hl => match us, hl with | [_, _], _ => rfl
  have m_value_of := PySem.W.mg_of X G a_value_of
  have F_is_name := fun_mk (st := s_is_name) l_is_name x_is_name k_is_name
  have b_is_name := F_is_name.binds (ps := ["text"]) fun _ _ _ _ _ _ us hl => match us, hl with | [_], _ => rfl
  have m_is_name := PySem.W.mg_of X G a_is_name
  have F_spare := fun_mk (st := s_spare) l_spare x_spare k_spare
  have b_spare := F_spare.binds (ps := ["book", "rule", "state"]) fun _ _ _ _ _ _ us hl => match us, hl with | [_, _, _], _ => rfl
  have m_spare := PySem.W.mg_of X G a_spare
  have F_check_names := fun_mk (st := s_check_names) l_check_names x_check_names k_check_names
  have b_check_names := F_check_names.binds (ps := ["things"]) fun _ _ _ _ _ _ us hl => match us, hl with | [_], _ => rfl
  have m_check_names := PySem.W.mg_of X G a_check_names
  have F_check_book := fun_mk (st := s_check_book) l_check_book x_check_book k_check_book
  have b_check_book := F_check_book.binds (ps := ["book"]) fun _ _ _ _ _ _ us hl => match us, hl with | [_], _ => rfl
  have m_check_book := PySem.W.mg_of X G a_check_book
  have F_l_at := fun_mk (st := s_l_at) l_l_at x_l_at k_l_at
  have b_l_at := F_l_at.binds (ps := ["_law_script", "_law_k"]) fun _ _ _ _ _ _ us hl => match us, hl with | [_, _], _ => rfl
  have m_l_at := PySem.W.mg_of X G a_l_at
  have F_l_mix := fun_mk (st := s_l_mix) l_l_mix x_l_mix k_l_mix
  have b_l_mix := F_l_mix.binds (ps := ["_law_number", "_law_place"]) fun _ _ _ _ _ _ us hl => match us, hl with | [_, _], _ => rfl
  have m_l_mix := PySem.W.mg_of X G a_l_mix
  have F_l_draw := fun_mk (st := s_l_draw) l_l_draw x_l_draw k_l_draw
  have b_l_draw := F_l_draw.binds (ps := ["_law_script", "_law_k"]) fun _ _ _ _ _ _ us hl => match us, hl with | [_, _], _ => rfl
  have m_l_draw := PySem.W.mg_of X G a_l_draw
  have F_l_named := fun_mk (st := s_l_named) l_l_named x_l_named k_l_named
  have b_l_named := F_l_named.binds (ps := ["_law_k", "_law_number"]) fun _ _ _ _ _ _ us hl => match us, hl with | [_, _], _ => rfl
  have m_l_named := PySem.W.mg_of X G a_l_named
  have F_l_wide := fun_mk (st := s_l_wide) l_l_wide x_l_wide k_l_wide
  have b_l_wide := F_l_wide.binds (ps := ["_law_script", "_law_k", "_law_most"]) fun _ _ _ _ _ _ us hl => match us, hl with | [_, _, _], _ => rfl
  have m_l_wide := PySem.W.mg_of X G a_l_wide
  have F_l_items := fun_mk (st := s_l_items) l_l_items x_l_items k_l_items
  have b_l_items := F_l_items.binds (ps := ["_law_script", "_law_many", "_law_most"]) fun _ _ _ _ _ _ us hl => match us, hl with | [_, _, _], _ => rfl
  have m_l_items := PySem.W.mg_of X G a_l_items
  have F_l_rules := fun_mk (st := s_l_rules) l_l_rules x_l_rules k_l_rules
  have b_l_rules := F_l_rules.binds (ps := ["_law_script", "_law_items_here", "_law_many", "_law_most"]) fun _ _ _ _ _ _ us hl => match us, hl with | [_, _, _, _], _ => rfl
  have m_l_rules := PySem.W.mg_of X G a_l_rules
  have F_l_deeds := fun_mk (st := s_l_deeds) l_l_deeds x_l_deeds k_l_deeds
  have b_l_deeds := F_l_deeds.binds (ps := ["_law_script", "_law_items_here", "_law_many"]) fun _ _ _ _ _ _ us hl => match us, hl with | [_, _, _], _ => rfl
  have m_l_deeds := PySem.W.mg_of X G a_l_deeds
  have F_l_book := fun_mk (st := s_l_book) l_l_book x_l_book k_l_book
  have b_l_book := F_l_book.binds (ps := ["_law_script", "_law_counts_here"]) fun _ _ _ _ _ _ us hl => match us, hl with | [_, _], _ => rfl
  have m_l_book := PySem.W.mg_of X G a_l_book
  have F_l_counts := fun_mk (st := s_l_counts) l_l_counts x_l_counts k_l_counts
  have b_l_counts := F_l_counts.binds (ps := ["_law_script"]) fun _ _ _ _ _ _ us hl => match us, hl with | [_], _ => rfl
  have m_l_counts := PySem.W.mg_of X G a_l_counts
  have F_l_other_name := fun_mk (st := s_l_other_name) l_l_other_name x_l_other_name k_l_other_name
  have b_l_other_name := F_l_other_name.binds (ps := ["_law_number", "_law_names"]) fun _ _ _ _ _ _ us hl => match us, hl with | [_, _], _ => rfl
  have m_l_other_name := PySem.W.mg_of X G a_l_other_name
  have F_l_renamed := fun_mk (st := s_l_renamed) l_l_renamed x_l_renamed k_l_renamed
  have b_l_renamed := F_l_renamed.binds (ps := ["_law_things", "_law_number"]) fun _ _ _ _ _ _ us hl => match us, hl with | [_, _], _ => rfl
  have m_l_renamed := PySem.W.mg_of X G a_l_renamed
  have F_l_resized := fun_mk (st := s_l_resized) l_l_resized x_l_resized k_l_resized
  have b_l_resized := F_l_resized.binds (ps := ["_law_numbers", "_law_number", "_law_one"]) fun _ _ _ _ _ _ us hl => match us, hl with | [_, _, _], _ => rfl
  have m_l_resized := PySem.W.mg_of X G a_l_resized
  have F_l_wrong := fun_mk (st := s_l_wrong) l_l_wrong x_l_wrong k_l_wrong
  have b_l_wrong := F_l_wrong.binds (ps := ["_law_script", "_law_book_here", "_law_number"]) fun _ _ _ _ _ _ us hl => match us, hl with | [_, _, _], _ => rfl
  have m_l_wrong := PySem.W.mg_of X G a_l_wrong
  have F_l_broken := fun_mk (st := s_l_broken) l_l_broken x_l_broken k_l_broken
  have b_l_broken := F_l_broken.binds (ps := ["_law_book_here", "_law_number"]) fun _ _ _ _ _ _ us hl => match us, hl with | [_, _], _ => rfl
  have m_l_broken := PySem.W.mg_of X G a_l_broken
  have F_l_refused := fun_mk (st := s_l_refused) l_l_refused x_l_refused k_l_refused
  have b_l_refused := F_l_refused.binds (ps := ["_law_book_here"]) fun _ _ _ _ _ _ us hl => match us, hl with | [_], _ => rfl
  have m_l_refused := PySem.W.mg_of X G a_l_refused
  have F_law := fun_mk (st := s_law) l_law x_law k_law
  have b_law := F_law.binds (ps := ["_law_script"]) fun _ _ _ _ _ _ us hl => match us, hl with | [_], _ => rfl
  have m_law := PySem.W.mg_of X G a_law
  have B_ValueError : mg "ValueError" = none := PySem.W.mg_none_of X G z_ValueError
  have B_enumerate : mg "enumerate" = none := PySem.W.mg_none_of X G z_enumerate
  have B_int : mg "int" = none := PySem.W.mg_none_of X G z_int
  have B_isinstance : mg "isinstance" = none := PySem.W.mg_none_of X G z_isinstance
  have B_len : mg "len" = none := PySem.W.mg_none_of X G z_len
  have B_list : mg "list" = none := PySem.W.mg_none_of X G z_list
  have B_range : mg "range" = none := PySem.W.mg_none_of X G z_range
  have B_sum : mg "sum" = none := PySem.W.mg_none_of X G z_sum
  have B_tuple : mg "tuple" = none := PySem.W.mg_none_of X G z_tuple
  have B_zip : mg "zip" = none := PySem.W.mg_none_of X G z_zip
  have G_MOST : ∃ a, mg "MOST" = some (.ref a) ∧ DF K (fun _ => none) (.ref a) (.tuple [.int 4, .int 5, .int 6]) := ⟨_, PySem.W.mg_of X G g_MOST, glob_tup (vs := [.int 4, .int 5, .int 6]) lt_MOST (Nat.le_of_ble_eq_true rfl) (.cons ⟨_, rfl⟩ (.cons ⟨_, rfl⟩ (.cons ⟨_, rfl⟩ (.nil)))) (.cons (.int 4) (.cons (.int 5) (.cons (.int 6) (.nil))))⟩
  have G_LETTERS : ∃ t, mg "LETTERS" = some (.str "abcdefghijklmnopqrstuvwxyz" t) := ⟨_, PySem.W.mg_of X G g_LETTERS⟩
  have G_LONGEST : ∃ t, mg "LONGEST" = some (.int 10 t) := ⟨_, PySem.W.mg_of X G g_LONGEST⟩
  have eo_NoText : ExOk K "NoText" := exok_mk a_NoText ga_NoText gg_NoText ex_NoText hd_NoText cl_NoText hn_x ht_x hm_NoText
  have eo_NoName : ExOk K "NoName" := exok_mk a_NoName ga_NoName gg_NoName ex_NoName hd_NoName cl_NoName hn_x ht_x hm_NoName
  have eo_NotPlain : ExOk K "NotPlain" := exok_mk a_NotPlain ga_NotPlain gg_NotPlain ex_NotPlain hd_NotPlain cl_NotPlain hn_x ht_x hm_NotPlain
  have eo_NoBook : ExOk K "NoBook" := exok_mk a_NoBook ga_NoBook gg_NoBook ex_NoBook hd_NoBook cl_NoBook hn_x ht_x hm_NoBook
  have eo_Broken : ExOk K "Broken" := exok_mk a_Broken ga_Broken gg_Broken ex_Broken hd_Broken cl_Broken hn_x ht_x hm_Broken
  have F_Broken_init := fun_mk (st := s_Broken_init) l_Broken_init x_Broken_init k_Broken_init
  have b_Broken_init := F_Broken_init.binds (ps := ["self", "name"]) fun _ _ _ _ _ _ us hl => match us, hl with | [_, _], _ => rfl
  have eo_NoLine : ExOk K "NoLine" := exok_mk a_NoLine ga_NoLine gg_NoLine ex_NoLine hd_NoLine cl_NoLine hn_x ht_x hm_NoLine
  have eo_NoDeed : ExOk K "NoDeed" := exok_mk a_NoDeed ga_NoDeed gg_NoDeed ex_NoDeed hd_NoDeed cl_NoDeed hn_x ht_x hm_NoDeed
  have eo_NoRule : ExOk K "NoRule" := exok_mk a_NoRule ga_NoRule gg_NoRule ex_NoRule hd_NoRule cl_NoRule hn_x ht_x hm_NoRule
  have eo_OutOfRange : ExOk K "OutOfRange" := exok_mk a_OutOfRange ga_OutOfRange gg_OutOfRange ex_OutOfRange hd_OutOfRange cl_OutOfRange hn_x ht_x hm_OutOfRange
  have eo_ShortShare : ExOk K "ShortShare" := exok_mk a_ShortShare ga_ShortShare gg_ShortShare ex_ShortShare hd_ShortShare cl_ShortShare hn_x ht_x hm_ShortShare
  have eo_Folded : ExOk K "Folded" := exok_mk a_Folded ga_Folded gg_Folded ex_Folded hd_Folded cl_Folded hn_x ht_x hm_Folded
  have eo_NoPaper : ExOk K "NoPaper" := exok_mk a_NoPaper ga_NoPaper gg_NoPaper ex_NoPaper hd_NoPaper cl_NoPaper hn_x ht_x hm_NoPaper
  have bc_x : BaseC K mg "BookError" C_BookError := ⟨PySem.W.mg_of X G a_BookError, rd_BookError, sp_BookError, fc_BookError⟩
  have gB_BookError := PySem.W.mg_of X G a_BookError
  have gB_Broken := PySem.W.mg_of X G a_Broken
  have gB_Folded := PySem.W.mg_of X G a_Folded
  have gB_NoBook := PySem.W.mg_of X G a_NoBook
  have gB_NoDeed := PySem.W.mg_of X G a_NoDeed
  have gB_NoLine := PySem.W.mg_of X G a_NoLine
  have gB_NoName := PySem.W.mg_of X G a_NoName
  have gB_NoPaper := PySem.W.mg_of X G a_NoPaper
  have gB_NoRule := PySem.W.mg_of X G a_NoRule
  have gB_NoText := PySem.W.mg_of X G a_NoText
  have gB_NotPlain := PySem.W.mg_of X G a_NotPlain
  have gB_OutOfRange := PySem.W.mg_of X G a_OutOfRange
  have gB_ShortShare := PySem.W.mg_of X G a_ShortShare
  refine ⟨PySem.W.fnOf "law" "law" (defArgs s_law) (defBody s_law) (defScope s_law) .none kV_law dc_law pm_law an_law cd_law ct_law, fun s v => .of_eq rfl, fun base _ _ => ?_⟩
  have x0_NoBook : MkE0 K mg "NoBook" := mk0_mk a_NoBook (PySem.W.mg_of X G a_NoBook) l_NoBook (nsok_mk nl_NoBook ne_NoBook) iN_NoBook l_BookError (nsok_mk nl_BookError ne_BookError) iN_BookError kc_NoBook ex_NoBook ty_NoBook
  have xm_Broken : MkE l.prog w K mg base 1 "Broken" ["name"] (spI1 K "name") := mkE_of a_Broken (PySem.W.mg_of X G a_Broken) (oex_mk l_Broken v_Broken sa_Broken ex_Broken ty_Broken kc_Broken) a_Broken_init ti_Broken_init (List.forall_mem_cons.2 ⟨nf_Broken_name, (fun _ h => nomatch h)⟩) (ok_Broken_init F_Broken_init bc_x) b_Broken_init
  have xt_Broken : ∀ c, c ∈ (["Broken"] : List Str) → ExOk K c ∧ IsOk K c (.ref C_Broken) true := (List.forall_mem_cons.2 ⟨⟨eo_Broken, kit_ref a_Broken su_Broken_Broken ss_Broken (cls_lk l_Broken).choose_spec ty_Broken⟩, (fun _ h => nomatch h)⟩)
  have xn_Broken : ∀ c, c ∈ (["NoText", "NoName", "NotPlain", "NoBook", "NoLine", "NoDeed", "NoRule", "OutOfRange", "ShortShare", "Folded", "NoPaper"] : List Str) → ExOk K c ∧ IsOk K c (.ref C_Broken) false := (List.forall_mem_cons.2 ⟨⟨eo_NoText, kit_ref a_NoText su_NoText_Broken ss_NoText (cls_lk l_Broken).choose_spec ty_Broken⟩, (List.forall_mem_cons.2 ⟨⟨eo_NoName, kit_ref a_NoName su_NoName_Broken ss_NoName (cls_lk l_Broken).choose_spec ty_Broken⟩, (List.forall_mem_cons.2 ⟨⟨eo_NotPlain, kit_ref a_NotPlain su_NotPlain_Broken ss_NotPlain (cls_lk l_Broken).choose_spec ty_Broken⟩, (List.forall_mem_cons.2 ⟨⟨eo_NoBook, kit_ref a_NoBook su_NoBook_Broken ss_NoBook (cls_lk l_Broken).choose_spec ty_Broken⟩, (List.forall_mem_cons.2 ⟨⟨eo_NoLine, kit_ref a_NoLine su_NoLine_Broken ss_NoLine (cls_lk l_Broken).choose_spec ty_Broken⟩, (List.forall_mem_cons.2 ⟨⟨eo_NoDeed, kit_ref a_NoDeed su_NoDeed_Broken ss_NoDeed (cls_lk l_Broken).choose_spec ty_Broken⟩, (List.forall_mem_cons.2 ⟨⟨eo_NoRule, kit_ref a_NoRule su_NoRule_Broken ss_NoRule (cls_lk l_Broken).choose_spec ty_Broken⟩, (List.forall_mem_cons.2 ⟨⟨eo_OutOfRange, kit_ref a_OutOfRange su_OutOfRange_Broken ss_OutOfRange (cls_lk l_Broken).choose_spec ty_Broken⟩, (List.forall_mem_cons.2 ⟨⟨eo_ShortShare, kit_ref a_ShortShare su_ShortShare_Broken ss_ShortShare (cls_lk l_Broken).choose_spec ty_Broken⟩, (List.forall_mem_cons.2 ⟨⟨eo_Folded, kit_ref a_Folded su_Folded_Broken ss_Folded (cls_lk l_Broken).choose_spec ty_Broken⟩, (List.forall_mem_cons.2 ⟨⟨eo_NoPaper, kit_ref a_NoPaper su_NoPaper_Broken ss_NoPaper (cls_lk l_Broken).choose_spec ty_Broken⟩, (fun _ h => nomatch h)⟩)⟩)⟩)⟩)⟩)⟩)⟩)⟩)⟩)⟩)⟩)
  have xt_Folded : ∀ c, c ∈ (["Folded"] : List Str) → ExOk K c ∧ IsOk K c (.ref C_Folded) true := (List.forall_mem_cons.2 ⟨⟨eo_Folded, kit_ref a_Folded su_Folded_Folded ss_Folded (cls_lk l_Folded).choose_spec ty_Folded⟩, (fun _ h => nomatch h)⟩)
  have xn_Folded : ∀ c, c ∈ (["NoText", "NoName", "NotPlain", "NoBook", "Broken", "NoLine", "NoDeed", "NoRule", "OutOfRange", "ShortShare", "NoPaper"] : List Str) → ExOk K c ∧ IsOk K c (.ref C_Folded) false := (List.forall_mem_cons.2 ⟨⟨eo_NoText, kit_ref a_NoText su_NoText_Folded ss_NoText (cls_lk l_Folded).choose_spec ty_Folded⟩, (List.forall_mem_cons.2 ⟨⟨eo_NoName, kit_ref a_NoName su_NoName_Folded ss_NoName (cls_lk l_Folded).choose_spec ty_Folded⟩, (List.forall_mem_cons.2 ⟨⟨eo_NotPlain, kit_ref a_NotPlain su_NotPlain_Folded ss_NotPlain (cls_lk l_Folded).choose_spec ty_Folded⟩, (List.forall_mem_cons.2 ⟨⟨eo_NoBook, kit_ref a_NoBook su_NoBook_Folded ss_NoBook (cls_lk l_Folded).choose_spec ty_Folded⟩, (List.forall_mem_cons.2 ⟨⟨eo_Broken, kit_ref a_Broken su_Broken_Folded ss_Broken (cls_lk l_Folded).choose_spec ty_Folded⟩, (List.forall_mem_cons.2 ⟨⟨eo_NoLine, kit_ref a_NoLine su_NoLine_Folded ss_NoLine (cls_lk l_Folded).choose_spec ty_Folded⟩, (List.forall_mem_cons.2 ⟨⟨eo_NoDeed, kit_ref a_NoDeed su_NoDeed_Folded ss_NoDeed (cls_lk l_Folded).choose_spec ty_Folded⟩, (List.forall_mem_cons.2 ⟨⟨eo_NoRule, kit_ref a_NoRule su_NoRule_Folded ss_NoRule (cls_lk l_Folded).choose_spec ty_Folded⟩, (List.forall_mem_cons.2 ⟨⟨eo_OutOfRange, kit_ref a_OutOfRange su_OutOfRange_Folded ss_OutOfRange (cls_lk l_Folded).choose_spec ty_Folded⟩, (List.forall_mem_cons.2 ⟨⟨eo_ShortShare, kit_ref a_ShortShare su_ShortShare_Folded ss_ShortShare (cls_lk l_Folded).choose_spec ty_Folded⟩, (List.forall_mem_cons.2 ⟨⟨eo_NoPaper, kit_ref a_NoPaper su_NoPaper_Folded ss_NoPaper (cls_lk l_Folded).choose_spec ty_Folded⟩, (fun _ h => nomatch h)⟩)⟩)⟩)⟩)⟩)⟩)⟩)⟩)⟩)⟩)⟩)
  have xt_NoBook : ∀ c, c ∈ (["NoBook"] : List Str) → ExOk K c ∧ IsOk K c (.ref C_NoBook) true := (List.forall_mem_cons.2 ⟨⟨eo_NoBook, kit_ref a_NoBook su_NoBook_NoBook ss_NoBook (cls_lk l_NoBook).choose_spec ty_NoBook⟩, (fun _ h => nomatch h)⟩)
  have xn_NoBook : ∀ c, c ∈ (["NoText", "NoName", "NotPlain", "Broken", "NoLine", "NoDeed", "NoRule", "OutOfRange", "ShortShare", "Folded", "NoPaper"] : List Str) → ExOk K c ∧ IsOk K c (.ref C_NoBook) false := (List.forall_mem_cons.2 ⟨⟨eo_NoText, kit_ref a_NoText su_NoText_NoBook ss_NoText (cls_lk l_NoBook).choose_spec ty_NoBook⟩, (List.forall_mem_cons.2 ⟨⟨eo_NoName, kit_ref a_NoName su_NoName_NoBook ss_NoName (cls_lk l_NoBook).choose_spec ty_NoBook⟩, (List.forall_mem_cons.2 ⟨⟨eo_NotPlain, kit_ref a_NotPlain su_NotPlain_NoBook ss_NotPlain (cls_lk l_NoBook).choose_spec ty_NoBook⟩, (List.forall_mem_cons.2 ⟨⟨eo_Broken, kit_ref a_Broken su_Broken_NoBook ss_Broken (cls_lk l_NoBook).choose_spec ty_NoBook⟩, (List.forall_mem_cons.2 ⟨⟨eo_NoLine, kit_ref a_NoLine su_NoLine_NoBook ss_NoLine (cls_lk l_NoBook).choose_spec ty_NoBook⟩, (List.forall_mem_cons.2 ⟨⟨eo_NoDeed, kit_ref a_NoDeed su_NoDeed_NoBook ss_NoDeed (cls_lk l_NoBook).choose_spec ty_NoBook⟩, (List.forall_mem_cons.2 ⟨⟨eo_NoRule, kit_ref a_NoRule su_NoRule_NoBook ss_NoRule (cls_lk l_NoBook).choose_spec ty_NoBook⟩, (List.forall_mem_cons.2 ⟨⟨eo_OutOfRange, kit_ref a_OutOfRange su_OutOfRange_NoBook ss_OutOfRange (cls_lk l_NoBook).choose_spec ty_NoBook⟩, (List.forall_mem_cons.2 ⟨⟨eo_ShortShare, kit_ref a_ShortShare su_ShortShare_NoBook ss_ShortShare (cls_lk l_NoBook).choose_spec ty_NoBook⟩, (List.forall_mem_cons.2 ⟨⟨eo_Folded, kit_ref a_Folded su_Folded_NoBook ss_Folded (cls_lk l_NoBook).choose_spec ty_NoBook⟩, (List.forall_mem_cons.2 ⟨⟨eo_NoPaper, kit_ref a_NoPaper su_NoPaper_NoBook ss_NoPaper (cls_lk l_NoBook).choose_spec ty_NoBook⟩, (fun _ h => nomatch h)⟩)⟩)⟩)⟩)⟩)⟩)⟩)⟩)⟩)⟩)⟩)
  have xt_NoDeed : ∀ c, c ∈ (["NoDeed"] : List Str) → ExOk K c ∧ IsOk K c (.ref C_NoDeed) true := (List.forall_mem_cons.2 ⟨⟨eo_NoDeed, kit_ref a_NoDeed su_NoDeed_NoDeed ss_NoDeed (cls_lk l_NoDeed).choose_spec ty_NoDeed⟩, (fun _ h => nomatch h)⟩)
  have xn_NoDeed : ∀ c, c ∈ (["NoText", "NoName", "NotPlain", "NoBook", "Broken", "NoLine", "NoRule", "OutOfRange", "ShortShare", "Folded", "NoPaper"] : List Str) → ExOk K c ∧ IsOk K c (.ref C_NoDeed) false := (List.forall_mem_cons.2 ⟨⟨eo_NoText, kit_ref a_NoText su_NoText_NoDeed ss_NoText (cls_lk l_NoDeed).choose_spec ty_NoDeed⟩, (List.forall_mem_cons.2 ⟨⟨eo_NoName, kit_ref a_NoName su_NoName_NoDeed ss_NoName (cls_lk l_NoDeed).choose_spec ty_NoDeed⟩, (List.forall_mem_cons.2 ⟨⟨eo_NotPlain, kit_ref a_NotPlain su_NotPlain_NoDeed ss_NotPlain (cls_lk l_NoDeed).choose_spec ty_NoDeed⟩, (List.forall_mem_cons.2 ⟨⟨eo_NoBook, kit_ref a_NoBook su_NoBook_NoDeed ss_NoBook (cls_lk l_NoDeed).choose_spec ty_NoDeed⟩, (List.forall_mem_cons.2 ⟨⟨eo_Broken, kit_ref a_Broken su_Broken_NoDeed ss_Broken (cls_lk l_NoDeed).choose_spec ty_NoDeed⟩, (List.forall_mem_cons.2 ⟨⟨eo_NoLine, kit_ref a_NoLine su_NoLine_NoDeed ss_NoLine (cls_lk l_NoDeed).choose_spec ty_NoDeed⟩, (List.forall_mem_cons.2 ⟨⟨eo_NoRule, kit_ref a_NoRule su_NoRule_NoDeed ss_NoRule (cls_lk l_NoDeed).choose_spec ty_NoDeed⟩, (List.forall_mem_cons.2 ⟨⟨eo_OutOfRange, kit_ref a_OutOfRange su_OutOfRange_NoDeed ss_OutOfRange (cls_lk l_NoDeed).choose_spec ty_NoDeed⟩, (List.forall_mem_cons.2 ⟨⟨eo_ShortShare, kit_ref a_ShortShare su_ShortShare_NoDeed ss_ShortShare (cls_lk l_NoDeed).choose_spec ty_NoDeed⟩, (List.forall_mem_cons.2 ⟨⟨eo_Folded, kit_ref a_Folded su_Folded_NoDeed ss_Folded (cls_lk l_NoDeed).choose_spec ty_NoDeed⟩, (List.forall_mem_cons.2 ⟨⟨eo_NoPaper, kit_ref a_NoPaper su_NoPaper_NoDeed ss_NoPaper (cls_lk l_NoDeed).choose_spec ty_NoDeed⟩, (fun _ h => nomatch h)⟩)⟩)⟩)⟩)⟩)⟩)⟩)⟩)⟩)⟩)⟩)
  have xt_NoLine : ∀ c, c ∈ (["NoLine"] : List Str) → ExOk K c ∧ IsOk K c (.ref C_NoLine) true := (List.forall_mem_cons.2 ⟨⟨eo_NoLine, kit_ref a_NoLine su_NoLine_NoLine ss_NoLine (cls_lk l_NoLine).choose_spec ty_NoLine⟩, (fun _ h => nomatch h)⟩)
  have xn_NoLine : ∀ c, c ∈ (["NoText", "NoName", "NotPlain", "NoBook", "Broken", "NoDeed", "NoRule", "OutOfRange", "ShortShare", "Folded", "NoPaper"] : List Str) → ExOk K c ∧ IsOk K c (.ref C_NoLine) false := (List.forall_mem_cons.2 ⟨⟨eo_NoText, kit_ref a_NoText su_NoText_NoLine ss_NoText (cls_lk l_NoLine).choose_spec ty_NoLine⟩, (List.forall_mem_cons.2 ⟨⟨eo_NoName, kit_ref a_NoName su_NoName_NoLine ss_NoName (cls_lk l_NoLine).choose_spec ty_NoLine⟩, (List.forall_mem_cons.2 ⟨⟨eo_NotPlain, kit_ref a_NotPlain su_NotPlain_NoLine ss_NotPlain (cls_lk l_NoLine).choose_spec ty_NoLine⟩, (List.forall_mem_cons.2 ⟨⟨eo_NoBook, kit_ref a_NoBook su_NoBook_NoLine ss_NoBook (cls_lk l_NoLine).choose_spec ty_NoLine⟩, (List.forall_mem_cons.2 ⟨⟨eo_Broken, kit_ref a_Broken su_Broken_NoLine ss_Broken (cls_lk l_NoLine).choose_spec ty_NoLine⟩, (List.forall_mem_cons.2 ⟨⟨eo_NoDeed, kit_ref a_NoDeed su_NoDeed_NoLine ss_NoDeed (cls_lk l_NoLine).choose_spec ty_NoLine⟩, (List.forall_mem_cons.2 ⟨⟨eo_NoRule, kit_ref a_NoRule su_NoRule_NoLine ss_NoRule (cls_lk l_NoLine).choose_spec ty_NoLine⟩, (List.forall_mem_cons.2 ⟨⟨eo_OutOfRange, kit_ref a_OutOfRange su_OutOfRange_NoLine ss_OutOfRange (cls_lk l_NoLine).choose_spec ty_NoLine⟩, (List.forall_mem_cons.2 ⟨⟨eo_ShortShare, kit_ref a_ShortShare su_ShortShare_NoLine ss_ShortShare (cls_lk l_NoLine).choose_spec ty_NoLine⟩, (List.forall_mem_cons.2 ⟨⟨eo_Folded, kit_ref a_Folded su_Folded_NoLine ss_Folded (cls_lk l_NoLine).choose_spec ty_NoLine⟩, (List.forall_mem_cons.2 ⟨⟨eo_NoPaper, kit_ref a_NoPaper su_NoPaper_NoLine ss_NoPaper (cls_lk l_NoLine).choose_spec ty_NoLine⟩, (fun _ h => nomatch h)⟩)⟩)⟩)⟩)⟩)⟩)⟩)⟩)⟩)⟩)⟩)
  have xt_NoName : ∀ c, c ∈ (["NoName"] : List Str) → ExOk K c ∧ IsOk K c (.ref C_NoName) true := (List.forall_mem_cons.2 ⟨⟨eo_NoName, kit_ref a_NoName su_NoName_NoName ss_NoName (cls_lk l_NoName).choose_spec ty_NoName⟩, (fun _ h => nomatch h)⟩)
  have xn_NoName : ∀ c, c ∈ (["NoText", "NotPlain", "NoBook", "Broken", "NoLine", "NoDeed", "NoRule", "OutOfRange", "ShortShare", "Folded", "NoPaper"] : List Str) → ExOk K c ∧ IsOk K c (.ref C_NoName) false := (List.forall_mem_cons.2 ⟨⟨eo_NoText, kit_ref a_NoText su_NoText_NoName ss_NoText (cls_lk l_NoName).choose_spec ty_NoName⟩, (List.forall_mem_cons.2 ⟨⟨eo_NotPlain, kit_ref a_NotPlain su_NotPlain_NoName ss_NotPlain (cls_lk l_NoName).choose_spec ty_NoName⟩, (List.forall_mem_cons.2 ⟨⟨eo_NoBook, kit_ref a_NoBook su_NoBook_NoName ss_NoBook (cls_lk l_NoName).choose_spec ty_NoName⟩, (List.forall_mem_cons.2 ⟨⟨eo_Broken, kit_ref a_Broken su_Broken_NoName ss_Broken (cls_lk l_NoName).choose_spec ty_NoName⟩, (List.forall_mem_cons.2 ⟨⟨eo_NoLine, kit_ref a_NoLine su_NoLine_NoName ss_NoLine (cls_lk l_NoName).choose_spec ty_NoName⟩, (List.forall_mem_cons.2 ⟨⟨eo_NoDeed, kit_ref a_NoDeed su_NoDeed_NoName ss_NoDeed (cls_lk l_NoName).choose_spec ty_NoName⟩, (List.forall_mem_cons.2 ⟨⟨eo_NoRule, kit_ref a_NoRule su_NoRule_NoName ss_NoRule (cls_lk l_NoName).choose_spec ty_NoName⟩, (List.forall_mem_cons.2 ⟨⟨eo_OutOfRange, kit_ref a_OutOfRange su_OutOfRange_NoName ss_OutOfRange (cls_lk l_NoName).choose_spec ty_NoName⟩, (List.forall_mem_cons.2 ⟨⟨eo_ShortShare, kit_ref a_ShortShare su_ShortShare_NoName ss_ShortShare (cls_lk l_NoName).choose_spec ty_NoName⟩, (List.forall_mem_cons.2 ⟨⟨eo_Folded, kit_ref a_Folded su_Folded_NoName ss_Folded (cls_lk l_NoName).choose_spec ty_NoName⟩, (List.forall_mem_cons.2 ⟨⟨eo_NoPaper, kit_ref a_NoPaper su_NoPaper_NoName ss_NoPaper (cls_lk l_NoName).choose_spec ty_NoName⟩, (fun _ h => nomatch h)⟩)⟩)⟩)⟩)⟩)⟩)⟩)⟩)⟩)⟩)⟩)
  have xt_NoPaper : ∀ c, c ∈ (["NoPaper"] : List Str) → ExOk K c ∧ IsOk K c (.ref C_NoPaper) true := (List.forall_mem_cons.2 ⟨⟨eo_NoPaper, kit_ref a_NoPaper su_NoPaper_NoPaper ss_NoPaper (cls_lk l_NoPaper).choose_spec ty_NoPaper⟩, (fun _ h => nomatch h)⟩)
  have xn_NoPaper : ∀ c, c ∈ (["NoText", "NoName", "NotPlain", "NoBook", "Broken", "NoLine", "NoDeed", "NoRule", "OutOfRange", "ShortShare", "Folded"] : List Str) → ExOk K c ∧ IsOk K c (.ref C_NoPaper) false := (List.forall_mem_cons.2 ⟨⟨eo_NoText, kit_ref a_NoText su_NoText_NoPaper ss_NoText (cls_lk l_NoPaper).choose_spec ty_NoPaper⟩, (List.forall_mem_cons.2 ⟨⟨eo_NoName, kit_ref a_NoName su_NoName_NoPaper ss_NoName (cls_lk l_NoPaper).choose_spec ty_NoPaper⟩, (List.forall_mem_cons.2 ⟨⟨eo_NotPlain, kit_ref a_NotPlain su_NotPlain_NoPaper ss_NotPlain (cls_lk l_NoPaper).choose_spec ty_NoPaper⟩, (List.forall_mem_cons.2 ⟨⟨eo_NoBook, kit_ref a_NoBook su_NoBook_NoPaper ss_NoBook (cls_lk l_NoPaper).choose_spec ty_NoPaper⟩, (List.forall_mem_cons.2 ⟨⟨eo_Broken, kit_ref a_Broken su_Broken_NoPaper ss_Broken (cls_lk l_NoPaper).choose_spec ty_NoPaper⟩, (List.forall_mem_cons.2 ⟨⟨eo_NoLine, kit_ref a_NoLine su_NoLine_NoPaper ss_NoLine (cls_lk l_NoPaper).choose_spec ty_NoPaper⟩, (List.forall_mem_cons.2 ⟨⟨eo_NoDeed, kit_ref a_NoDeed su_NoDeed_NoPaper ss_NoDeed (cls_lk l_NoPaper).choose_spec ty_NoPaper⟩, (List.forall_mem_cons.2 ⟨⟨eo_NoRule, kit_ref a_NoRule su_NoRule_NoPaper ss_NoRule (cls_lk l_NoPaper).choose_spec ty_NoPaper⟩, (List.forall_mem_cons.2 ⟨⟨eo_OutOfRange, kit_ref a_OutOfRange su_OutOfRange_NoPaper ss_OutOfRange (cls_lk l_NoPaper).choose_spec ty_NoPaper⟩, (List.forall_mem_cons.2 ⟨⟨eo_ShortShare, kit_ref a_ShortShare su_ShortShare_NoPaper ss_ShortShare (cls_lk l_NoPaper).choose_spec ty_NoPaper⟩, (List.forall_mem_cons.2 ⟨⟨eo_Folded, kit_ref a_Folded su_Folded_NoPaper ss_Folded (cls_lk l_NoPaper).choose_spec ty_NoPaper⟩, (fun _ h => nomatch h)⟩)⟩)⟩)⟩)⟩)⟩)⟩)⟩)⟩)⟩)⟩)
  have xt_NoRule : ∀ c, c ∈ (["NoRule"] : List Str) → ExOk K c ∧ IsOk K c (.ref C_NoRule) true := (List.forall_mem_cons.2 ⟨⟨eo_NoRule, kit_ref a_NoRule su_NoRule_NoRule ss_NoRule (cls_lk l_NoRule).choose_spec ty_NoRule⟩, (fun _ h => nomatch h)⟩)
  have xn_NoRule : ∀ c, c ∈ (["NoText", "NoName", "NotPlain", "NoBook", "Broken", "NoLine", "NoDeed", "OutOfRange", "ShortShare", "Folded", "NoPaper"] : List Str) → ExOk K c ∧ IsOk K c (.ref C_NoRule) false := (List.forall_mem_cons.2 ⟨⟨eo_NoText, kit_ref a_NoText su_NoText_NoRule ss_NoText (cls_lk l_NoRule).choose_spec ty_NoRule⟩, (List.forall_mem_cons.2 ⟨⟨eo_NoName, kit_ref a_NoName su_NoName_NoRule ss_NoName (cls_lk l_NoRule).choose_spec ty_NoRule⟩, (List.forall_mem_cons.2 ⟨⟨eo_NotPlain, kit_ref a_NotPlain su_NotPlain_NoRule ss_NotPlain (cls_lk l_NoRule).choose_spec ty_NoRule⟩, (List.forall_mem_cons.2 ⟨⟨eo_NoBook, kit_ref a_NoBook su_NoBook_NoRule ss_NoBook (cls_lk l_NoRule).choose_spec ty_NoRule⟩, (List.forall_mem_cons.2 ⟨⟨eo_Broken, kit_ref a_Broken su_Broken_NoRule ss_Broken (cls_lk l_NoRule).choose_spec ty_NoRule⟩, (List.forall_mem_cons.2 ⟨⟨eo_NoLine, kit_ref a_NoLine su_NoLine_NoRule ss_NoLine (cls_lk l_NoRule).choose_spec ty_NoRule⟩, (List.forall_mem_cons.2 ⟨⟨eo_NoDeed, kit_ref a_NoDeed su_NoDeed_NoRule ss_NoDeed (cls_lk l_NoRule).choose_spec ty_NoRule⟩, (List.forall_mem_cons.2 ⟨⟨eo_OutOfRange, kit_ref a_OutOfRange su_OutOfRange_NoRule ss_OutOfRange (cls_lk l_NoRule).choose_spec ty_NoRule⟩, (List.forall_mem_cons.2 ⟨⟨eo_ShortShare, kit_ref a_ShortShare su_ShortShare_NoRule ss_ShortShare (cls_lk l_NoRule).choose_spec ty_NoRule⟩, (List.forall_mem_cons.2 ⟨⟨eo_Folded, kit_ref a_Folded su_Folded_NoRule ss_Folded (cls_lk l_NoRule).choose_spec ty_NoRule⟩, (List.forall_mem_cons.2 ⟨⟨eo_NoPaper, kit_ref a_NoPaper su_NoPaper_NoRule ss_NoPaper (cls_lk l_NoRule).choose_spec ty_NoRule⟩, (fun _ h => nomatch h)⟩)⟩)⟩)⟩)⟩)⟩)⟩)⟩)⟩)⟩)⟩)
  have xt_NoText : ∀ c, c ∈ (["NoText"] : List Str) → ExOk K c ∧ IsOk K c (.ref C_NoText) true := (List.forall_mem_cons.2 ⟨⟨eo_NoText, kit_ref a_NoText su_NoText_NoText ss_NoText (cls_lk l_NoText).choose_spec ty_NoText⟩, (fun _ h => nomatch h)⟩)
  have xn_NoText : ∀ c, c ∈ (["NoName", "NotPlain", "NoBook", "Broken", "NoLine", "NoDeed", "NoRule", "OutOfRange", "ShortShare", "Folded", "NoPaper"] : List Str) → ExOk K c ∧ IsOk K c (.ref C_NoText) false := (List.forall_mem_cons.2 ⟨⟨eo_NoName, kit_ref a_NoName su_NoName_NoText ss_NoName (cls_lk l_NoText).choose_spec ty_NoText⟩, (List.forall_mem_cons.2 ⟨⟨eo_NotPlain, kit_ref a_NotPlain su_NotPlain_NoText ss_NotPlain (cls_lk l_NoText).choose_spec ty_NoText⟩, (List.forall_mem_cons.2 ⟨⟨eo_NoBook, kit_ref a_NoBook su_NoBook_NoText ss_NoBook (cls_lk l_NoText).choose_spec ty_NoText⟩, (List.forall_mem_cons.2 ⟨⟨eo_Broken, kit_ref a_Broken su_Broken_NoText ss_Broken (cls_lk l_NoText).choose_spec ty_NoText⟩, (List.forall_mem_cons.2 ⟨⟨eo_NoLine, kit_ref a_NoLine su_NoLine_NoText ss_NoLine (cls_lk l_NoText).choose_spec ty_NoText⟩, (List.forall_mem_cons.2 ⟨⟨eo_NoDeed, kit_ref a_NoDeed su_NoDeed_NoText ss_NoDeed (cls_lk l_NoText).choose_spec ty_NoText⟩, (List.forall_mem_cons.2 ⟨⟨eo_NoRule, kit_ref a_NoRule su_NoRule_NoText ss_NoRule (cls_lk l_NoText).choose_spec ty_NoText⟩, (List.forall_mem_cons.2 ⟨⟨eo_OutOfRange, kit_ref a_OutOfRange su_OutOfRange_NoText ss_OutOfRange (cls_lk l_NoText).choose_spec ty_NoText⟩, (List.forall_mem_cons.2 ⟨⟨eo_ShortShare, kit_ref a_ShortShare su_ShortShare_NoText ss_ShortShare (cls_lk l_NoText).choose_spec ty_NoText⟩, (List.forall_mem_cons.2 ⟨⟨eo_Folded, kit_ref a_Folded su_Folded_NoText ss_Folded (cls_lk l_NoText).choose_spec ty_NoText⟩, (List.forall_mem_cons.2 ⟨⟨eo_NoPaper, kit_ref a_NoPaper su_NoPaper_NoText ss_NoPaper (cls_lk l_NoText).choose_spec ty_NoText⟩, (fun _ h => nomatch h)⟩)⟩)⟩)⟩)⟩)⟩)⟩)⟩)⟩)⟩)⟩)
  have xt_NotPlain : ∀ c, c ∈ (["NotPlain"] : List Str) → ExOk K c ∧ IsOk K c (.ref C_NotPlain) true := (List.forall_mem_cons.2 ⟨⟨eo_NotPlain, kit_ref a_NotPlain su_NotPlain_NotPlain ss_NotPlain (cls_lk l_NotPlain).choose_spec ty_NotPlain⟩, (fun _ h => nomatch h)⟩)
  have xn_NotPlain : ∀ c, c ∈ (["NoText", "NoName", "NoBook", "Broken", "NoLine", "NoDeed", "NoRule", "OutOfRange", "ShortShare", "Folded", "NoPaper"] : List Str) → ExOk K c ∧ IsOk K c (.ref C_NotPlain) false := (List.forall_mem_cons.2 ⟨⟨eo_NoText, kit_ref a_NoText su_NoText_NotPlain ss_NoText (cls_lk l_NotPlain).choose_spec ty_NotPlain⟩, (List.forall_mem_cons.2 ⟨⟨eo_NoName, kit_ref a_NoName su_NoName_NotPlain ss_NoName (cls_lk l_NotPlain).choose_spec ty_NotPlain⟩, (List.forall_mem_cons.2 ⟨⟨eo_NoBook, kit_ref a_NoBook su_NoBook_NotPlain ss_NoBook (cls_lk l_NotPlain).choose_spec ty_NotPlain⟩, (List.forall_mem_cons.2 ⟨⟨eo_Broken, kit_ref a_Broken su_Broken_NotPlain ss_Broken (cls_lk l_NotPlain).choose_spec ty_NotPlain⟩, (List.forall_mem_cons.2 ⟨⟨eo_NoLine, kit_ref a_NoLine su_NoLine_NotPlain ss_NoLine (cls_lk l_NotPlain).choose_spec ty_NotPlain⟩, (List.forall_mem_cons.2 ⟨⟨eo_NoDeed, kit_ref a_NoDeed su_NoDeed_NotPlain ss_NoDeed (cls_lk l_NotPlain).choose_spec ty_NotPlain⟩, (List.forall_mem_cons.2 ⟨⟨eo_NoRule, kit_ref a_NoRule su_NoRule_NotPlain ss_NoRule (cls_lk l_NotPlain).choose_spec ty_NotPlain⟩, (List.forall_mem_cons.2 ⟨⟨eo_OutOfRange, kit_ref a_OutOfRange su_OutOfRange_NotPlain ss_OutOfRange (cls_lk l_NotPlain).choose_spec ty_NotPlain⟩, (List.forall_mem_cons.2 ⟨⟨eo_ShortShare, kit_ref a_ShortShare su_ShortShare_NotPlain ss_ShortShare (cls_lk l_NotPlain).choose_spec ty_NotPlain⟩, (List.forall_mem_cons.2 ⟨⟨eo_Folded, kit_ref a_Folded su_Folded_NotPlain ss_Folded (cls_lk l_NotPlain).choose_spec ty_NotPlain⟩, (List.forall_mem_cons.2 ⟨⟨eo_NoPaper, kit_ref a_NoPaper su_NoPaper_NotPlain ss_NoPaper (cls_lk l_NotPlain).choose_spec ty_NotPlain⟩, (fun _ h => nomatch h)⟩)⟩)⟩)⟩)⟩)⟩)⟩)⟩)⟩)⟩)⟩)
  have xt_OutOfRange : ∀ c, c ∈ (["OutOfRange"] : List Str) → ExOk K c ∧ IsOk K c (.ref C_OutOfRange) true := (List.forall_mem_cons.2 ⟨⟨eo_OutOfRange, kit_ref a_OutOfRange su_OutOfRange_OutOfRange ss_OutOfRange (cls_lk l_OutOfRange).choose_spec ty_OutOfRange⟩, (fun _ h => nomatch h)⟩)
  have xn_OutOfRange : ∀ c, c ∈ (["NoText", "NoName", "NotPlain", "NoBook", "Broken", "NoLine", "NoDeed", "NoRule", "ShortShare", "Folded", "NoPaper"] : List Str) → ExOk K c ∧ IsOk K c (.ref C_OutOfRange) false := (List.forall_mem_cons.2 ⟨⟨eo_NoText, kit_ref a_NoText su_NoText_OutOfRange ss_NoText (cls_lk l_OutOfRange).choose_spec ty_OutOfRange⟩, (List.forall_mem_cons.2 ⟨⟨eo_NoName, kit_ref a_NoName su_NoName_OutOfRange ss_NoName (cls_lk l_OutOfRange).choose_spec ty_OutOfRange⟩, (List.forall_mem_cons.2 ⟨⟨eo_NotPlain, kit_ref a_NotPlain su_NotPlain_OutOfRange ss_NotPlain (cls_lk l_OutOfRange).choose_spec ty_OutOfRange⟩, (List.forall_mem_cons.2 ⟨⟨eo_NoBook, kit_ref a_NoBook su_NoBook_OutOfRange ss_NoBook (cls_lk l_OutOfRange).choose_spec ty_OutOfRange⟩, (List.forall_mem_cons.2 ⟨⟨eo_Broken, kit_ref a_Broken su_Broken_OutOfRange ss_Broken (cls_lk l_OutOfRange).choose_spec ty_OutOfRange⟩, (List.forall_mem_cons.2 ⟨⟨eo_NoLine, kit_ref a_NoLine su_NoLine_OutOfRange ss_NoLine (cls_lk l_OutOfRange).choose_spec ty_OutOfRange⟩, (List.forall_mem_cons.2 ⟨⟨eo_NoDeed, kit_ref a_NoDeed su_NoDeed_OutOfRange ss_NoDeed (cls_lk l_OutOfRange).choose_spec ty_OutOfRange⟩, (List.forall_mem_cons.2 ⟨⟨eo_NoRule, kit_ref a_NoRule su_NoRule_OutOfRange ss_NoRule (cls_lk l_OutOfRange).choose_spec ty_OutOfRange⟩, (List.forall_mem_cons.2 ⟨⟨eo_ShortShare, kit_ref a_ShortShare su_ShortShare_OutOfRange ss_ShortShare (cls_lk l_OutOfRange).choose_spec ty_OutOfRange⟩, (List.forall_mem_cons.2 ⟨⟨eo_Folded, kit_ref a_Folded su_Folded_OutOfRange ss_Folded (cls_lk l_OutOfRange).choose_spec ty_OutOfRange⟩, (List.forall_mem_cons.2 ⟨⟨eo_NoPaper, kit_ref a_NoPaper su_NoPaper_OutOfRange ss_NoPaper (cls_lk l_OutOfRange).choose_spec ty_OutOfRange⟩, (fun _ h => nomatch h)⟩)⟩)⟩)⟩)⟩)⟩)⟩)⟩)⟩)⟩)⟩)
  have xt_ShortShare : ∀ c, c ∈ (["ShortShare"] : List Str) → ExOk K c ∧ IsOk K c (.ref C_ShortShare) true := (List.forall_mem_cons.2 ⟨⟨eo_ShortShare, kit_ref a_ShortShare su_ShortShare_ShortShare ss_ShortShare (cls_lk l_ShortShare).choose_spec ty_ShortShare⟩, (fun _ h => nomatch h)⟩)
  have xn_ShortShare : ∀ c, c ∈ (["NoText", "NoName", "NotPlain", "NoBook", "Broken", "NoLine", "NoDeed", "NoRule", "OutOfRange", "Folded", "NoPaper"] : List Str) → ExOk K c ∧ IsOk K c (.ref C_ShortShare) false := (List.forall_mem_cons.2 ⟨⟨eo_NoText, kit_ref a_NoText su_NoText_ShortShare ss_NoText (cls_lk l_ShortShare).choose_spec ty_ShortShare⟩, (List.forall_mem_cons.2 ⟨⟨eo_NoName, kit_ref a_NoName su_NoName_ShortShare ss_NoName (cls_lk l_ShortShare).choose_spec ty_ShortShare⟩, (List.forall_mem_cons.2 ⟨⟨eo_NotPlain, kit_ref a_NotPlain su_NotPlain_ShortShare ss_NotPlain (cls_lk l_ShortShare).choose_spec ty_ShortShare⟩, (List.forall_mem_cons.2 ⟨⟨eo_NoBook, kit_ref a_NoBook su_NoBook_ShortShare ss_NoBook (cls_lk l_ShortShare).choose_spec ty_ShortShare⟩, (List.forall_mem_cons.2 ⟨⟨eo_Broken, kit_ref a_Broken su_Broken_ShortShare ss_Broken (cls_lk l_ShortShare).choose_spec ty_ShortShare⟩, (List.forall_mem_cons.2 ⟨⟨eo_NoLine, kit_ref a_NoLine su_NoLine_ShortShare ss_NoLine (cls_lk l_ShortShare).choose_spec ty_ShortShare⟩, (List.forall_mem_cons.2 ⟨⟨eo_NoDeed, kit_ref a_NoDeed su_NoDeed_ShortShare ss_NoDeed (cls_lk l_ShortShare).choose_spec ty_ShortShare⟩, (List.forall_mem_cons.2 ⟨⟨eo_NoRule, kit_ref a_NoRule su_NoRule_ShortShare ss_NoRule (cls_lk l_ShortShare).choose_spec ty_ShortShare⟩, (List.forall_mem_cons.2 ⟨⟨eo_OutOfRange, kit_ref a_OutOfRange su_OutOfRange_ShortShare ss_OutOfRange (cls_lk l_ShortShare).choose_spec ty_ShortShare⟩, (List.forall_mem_cons.2 ⟨⟨eo_Folded, kit_ref a_Folded su_Folded_ShortShare ss_Folded (cls_lk l_ShortShare).choose_spec ty_ShortShare⟩, (List.forall_mem_cons.2 ⟨⟨eo_NoPaper, kit_ref a_NoPaper su_NoPaper_ShortShare ss_NoPaper (cls_lk l_ShortShare).choose_spec ty_ShortShare⟩, (fun _ h => nomatch h)⟩)⟩)⟩)⟩)⟩)⟩)⟩)⟩)⟩)⟩)⟩)
  have xt_ValueError : ∀ c, c ∈ (["NoText", "NoName", "NotPlain", "NoBook", "Broken", "NoLine", "NoDeed", "NoRule", "OutOfRange", "ShortShare", "Folded", "NoPaper"] : List Str) → ExOk K c ∧ IsOk K c (.type "ValueError") true := (List.forall_mem_cons.2 ⟨⟨eo_NoText, kit_type a_NoText su_NoText_ValueError (by decide +kernel)⟩, (List.forall_mem_cons.2 ⟨⟨eo_NoName, kit_type a_NoName su_NoName_ValueError (by decide +kernel)⟩, (List.forall_mem_cons.2 ⟨⟨eo_NotPlain, kit_type a_NotPlain su_NotPlain_ValueError (by decide +kernel)⟩, (List.forall_mem_cons.2 ⟨⟨eo_NoBook, kit_type a_NoBook su_NoBook_ValueError (by decide +kernel)⟩, (List.forall_mem_cons.2 ⟨⟨eo_Broken, kit_type a_Broken su_Broken_ValueError (by decide +kernel)⟩, (List.forall_mem_cons.2 ⟨⟨eo_NoLine, kit_type a_NoLine su_NoLine_ValueError (by decide +kernel)⟩, (List.forall_mem_cons.2 ⟨⟨eo_NoDeed, kit_type a_NoDeed su_NoDeed_ValueError (by decide +kernel)⟩, (List.forall_mem_cons.2 ⟨⟨eo_NoRule, kit_type a_NoRule su_NoRule_ValueError (by decide +kernel)⟩, (List.forall_mem_cons.2 ⟨⟨eo_OutOfRange, kit_type a_OutOfRange su_OutOfRange_ValueError (by decide +kernel)⟩, (List.forall_mem_cons.2 ⟨⟨eo_ShortShare, kit_type a_ShortShare su_ShortShare_ValueError (by decide +kernel)⟩, (List.forall_mem_cons.2 ⟨⟨eo_Folded, kit_type a_Folded su_Folded_ValueError (by decide +kernel)⟩, (List.forall_mem_cons.2 ⟨⟨eo_NoPaper, kit_type a_NoPaper su_NoPaper_ValueError (by decide +kernel)⟩, (fun _ h => nomatch h)⟩)⟩)⟩)⟩)⟩)⟩)⟩)⟩)⟩)⟩)⟩)⟩)
  have xn_ValueError : ∀ c, c ∈ ([] : List Str) → ExOk K c ∧ IsOk K c (.type "ValueError") false := (fun _ h => nomatch h)
  have xu_BookError : ∀ c, c ∈ (["NoText", "NoName", "NotPlain", "NoBook", "Broken", "NoLine", "NoDeed", "NoRule", "OutOfRange", "ShortShare", "Folded", "NoPaper"] : List Str) → Under K (.ref C_BookError) c := (List.forall_mem_cons.2 ⟨under_ref a_NoText su_NoText_BookError ex_BookError (cls_lk l_BookError).choose_spec ty_BookError, (List.forall_mem_cons.2 ⟨under_ref a_NoName su_NoName_BookError ex_BookError (cls_lk l_BookError).choose_spec ty_BookError, (List.forall_mem_cons.2 ⟨under_ref a_NotPlain su_NotPlain_BookError ex_BookError (cls_lk l_BookError).choose_spec ty_BookError, (List.forall_mem_cons.2 ⟨under_ref a_NoBook su_NoBook_BookError ex_BookError (cls_lk l_BookError).choose_spec ty_BookError, (List.forall_mem_cons.2 ⟨under_ref a_Broken su_Broken_BookError ex_BookError (cls_lk l_BookError).choose_spec ty_BookError, (List.forall_mem_cons.2 ⟨under_ref a_NoLine su_NoLine_BookError ex_BookError (cls_lk l_BookError).choose_spec ty_BookError, (List.forall_mem_cons.2 ⟨under_ref a_NoDeed su_NoDeed_BookError ex_BookError (cls_lk l_BookError).choose_spec ty_BookError, (List.forall_mem_cons.2 ⟨under_ref a_NoRule su_NoRule_BookError ex_BookError (cls_lk l_BookError).choose_spec ty_BookError, (List.forall_mem_cons.2 ⟨under_ref a_OutOfRange su_OutOfRange_BookError ex_BookError (cls_lk l_BookError).choose_spec ty_BookError, (List.forall_mem_cons.2 ⟨under_ref a_ShortShare su_ShortShare_BookError ex_BookError (cls_lk l_BookError).choose_spec ty_BookError, (List.forall_mem_cons.2 ⟨under_ref a_Folded su_Folded_BookError ex_BookError (cls_lk l_BookError).choose_spec ty_BookError, (List.forall_mem_cons.2 ⟨under_ref a_NoPaper su_NoPaper_BookError ex_BookError (cls_lk l_BookError).choose_spec ty_BookError, (fun _ h => nomatch h)⟩)⟩)⟩)⟩)⟩)⟩)⟩)⟩)⟩)⟩)⟩)⟩)
  have c_value_of : Callee l.prog w K mg base 1 "value_of" [.fz, .fz] .fz f_value_of := ok_value_of F_value_of m_value_of b_value_of B_sum B_zip
  have c_is_name : Callee l.prog w K mg base 1 "is_name" [.fz] .fz f_is_name := ok_is_name F_is_name m_is_name b_is_name B_len G_LETTERS G_LONGEST
  have c_spare : Callee l.prog w K mg base 2 "spare" [.fz, .fz, .fz] .fz f_spare := ok_spare F_spare m_spare b_spare c_value_of
  have c_check_names : CalX l.prog w K mg base 3 "check_names" [false] f_check_names := ok_check_names F_check_names m_check_names b_check_names c_is_name x0_NoBook
  have c_check_book : CalX l.prog w K mg base 4 "check_book" [false] f_check_book := ok_check_book F_check_book m_check_book b_check_book c_spare c_check_names xm_Broken x0_NoBook B_enumerate B_len B_tuple B_zip G_MOST
  have c_l_at : Callee l.prog w K mg base 1 "_law_at" [.vw, .fz] .fz f_l_at := ok_l_at F_l_at m_l_at b_l_at B_len
  have c_l_mix : Callee l.prog w K mg base 1 "_law_mix" [.fz, .fz] .fz f_l_mix := ok_l_mix F_l_mix m_l_mix b_l_mix 
  have c_l_draw : Callee l.prog w K mg base 2 "_law_draw" [.vw, .fz] .fz f_l_draw := ok_l_draw F_l_draw m_l_draw b_l_draw c_l_mix c_l_at
  have c_l_named : Callee l.prog w K mg base 1 "_law_named" [.fz, .fz] .fz f_l_named := ok_l_named F_l_named m_l_named b_l_named 
  have c_l_wide : Callee l.prog w K mg base 3 "_law_wide" [.vw, .fz, .fz] .fz f_l_wide := ok_l_wide F_l_wide m_l_wide b_l_wide c_l_at c_l_draw
  have c_l_items : Callee l.prog w K mg base 4 "_law_items" [.vw, .fz, .fz] .ow f_l_items := ok_l_items F_l_items m_l_items b_l_items c_l_wide c_l_named c_l_draw B_range
  have c_l_rules : Callee l.prog w K mg base 4 "_law_rules" [.vw, .fz, .fz, .fz] .ow f_l_rules := ok_l_rules F_l_rules m_l_rules b_l_rules c_l_named c_l_draw c_l_wide B_len B_range B_tuple B_zip
  have c_l_deeds : Callee l.prog w K mg base 4 "_law_deeds" [.vw, .fz, .fz] .ow f_l_deeds := ok_l_deeds F_l_deeds m_l_deeds b_l_deeds c_l_named c_l_draw c_l_wide B_int B_len B_range B_tuple
  have c_l_book : Callee l.prog w K mg base 5 "_law_book" [.vw, .fz] .fz f_l_book := ok_l_book F_l_book m_l_book b_l_book c_l_deeds c_l_rules c_l_items c_l_mix c_l_at
  have c_l_counts : Callee l.prog w K mg base 2 "_law_counts" [.vw] .ow f_l_counts := ok_l_counts F_l_counts m_l_counts b_l_counts c_l_mix c_l_at
  have c_l_other_name : Callee l.prog w K mg base 1 "_law_other_name" [.fz, .fz] .fz f_l_other_name := ok_l_other_name F_l_other_name m_l_other_name b_l_other_name B_len
  have c_l_renamed : Callee l.prog w K mg base 2 "_law_renamed" [.fz, .fz] .ow f_l_renamed := ok_l_renamed F_l_renamed m_l_renamed b_l_renamed c_l_other_name B_enumerate B_len
  have c_l_resized : Callee l.prog w K mg base 1 "_law_resized" [.fz, .fz, .fz] .fz f_l_resized := ok_l_resized F_l_resized m_l_resized b_l_resized 
  have c_l_wrong : CalM l.prog w K mg base 6 "_law_wrong" [false, false, false] f_l_wrong := ok_l_wrong F_l_wrong m_l_wrong b_l_wrong c_l_book c_l_counts c_l_renamed c_l_resized B_len B_list B_range
  have c_l_broken : Callee l.prog w K mg base 1 "_law_broken" [.fz, .fz] .fz f_l_broken := ok_l_broken F_l_broken m_l_broken b_l_broken B_len B_list
  have c_l_refused : CalT l.prog w K mg base 5 "_law_refused" 1 f_l_refused := ok_l_refused F_l_refused m_l_refused b_l_refused c_check_book gB_BookError gB_Broken gB_Folded gB_NoBook gB_NoDeed gB_NoLine gB_NoName gB_NoPaper gB_NoRule gB_NoText gB_NotPlain gB_OutOfRange gB_ShortShare xt_Broken xn_Broken xt_Folded xn_Folded xt_NoBook xn_NoBook xt_NoDeed xn_NoDeed xt_NoLine xn_NoLine xt_NoName xn_NoName xt_NoPaper xn_NoPaper xt_NoRule xn_NoRule xt_NoText xn_NoText xt_NotPlain xn_NotPlain xt_OutOfRange xn_OutOfRange xt_ShortShare xn_ShortShare xt_ValueError xn_ValueError xu_BookError B_ValueError B_isinstance
  have c_law : FnOk l.prog w K mg base CX0 7 fa (PySem.W.fnOf "law" "law" (defArgs s_law) (defBody s_law) (defScope s_law) .none kV_law dc_law pm_law an_law cd_law ct_law) ["_law_script"] (spV K f_law) := ok_law F_law c_l_refused c_l_broken c_l_mix c_l_at c_l_wrong c_check_book c_l_book c_l_counts B_list
  exact c_law.imp (sp_law law_true)
end DL
open PySem PySem.W PyProof.Rows
set_option maxRecDepth 100000 in
set_option maxHeartbeats 0 in
theorem PySem.Challenge.cw_apartbook_k11_no_books_holds : PySem.Challenge.rw_apartbook_k11_no_books.Holds := by
  w_on; o_law; k_head; (case hw => w_witness2)
  k_fill
  refine L2.walk_of (l := PySem.Challenge.rw_apartbook_k11_no_books) (n := 63) (k := 7) (x := "_law_script") (CX := fun _ => L2.CX0) (sp := fun w => DL.spLaw _) rfl (by decide) rfl ⟨rfl, by decide, by decide⟩ (fun w h Y => PySem.W.kIn_of Y) ?F (fun _ _ a ns hl _ hS => ⟨a, ns, rfl, hS, hl, fun _ => rfl⟩) (fun _ _ _ _ _ z => z)
  case F =>
    intro w mg fa h KX G hmg
    refine' DL.all_mk KX G hmg ?a_value_of ?l_value_of ?x_value_of ?k_value_of ?a_is_name ?l_is_name ?x_is_name ?k_is_name ?a_spare ?l_spare ?x_spare ?k_spare ?a_check_names ?l_check_names ?x_check_names ?k_check_names ?a_check_book ?l_check_book ?x_check_book ?k_check_book ?a_l_at ?l_l_at ?x_l_at ?k_l_at ?a_l_mix ?l_l_mix ?x_l_mix ?k_l_mix ?a_l_draw ?l_l_draw ?x_l_draw ?k_l_draw ?a_l_named ?l_l_named ?x_l_named ?k_l_named ?a_l_wide ?l_l_wide ?x_l_wide ?k_l_wide ?a_l_items ?l_l_items ?x_l_items ?k_l_items ?a_l_rules ?l_l_rules ?x_l_rules ?k_l_rules ?a_l_deeds ?l_l_deeds ?x_l_deeds ?k_l_deeds ?a_l_book ?l_l_book ?x_l_book ?k_l_book ?a_l_counts ?l_l_counts ?x_l_counts ?k_l_counts ?a_l_other_name ?l_l_other_name ?x_l_other_name ?k_l_other_name ?a_l_renamed ?l_l_renamed ?x_l_renamed ?k_l_renamed ?a_l_resized ?l_l_resized ?x_l_resized ?k_l_resized ?a_l_wrong ?l_l_wrong ?x_l_wrong ?k_l_wrong ?a_l_broken ?l_l_broken ?x_l_broken ?k_l_broken ?a_l_refused ?l_l_refused ?x_l_refused ?k_l_refused ?a_law ?l_law ?x_law ?k_law ?hn_x ?ht_x ?a_BookError ?l_BookError ?sa_BookError ?ex_BookError ?ty_BookError ?kc_BookError ?nl_BookError ?ne_BookError ?iN_BookError ?rd_BookError ?sp_BookError ?fc_BookError ?a_NoText ?l_NoText ?sa_NoText ?ex_NoText ?ty_NoText ?kc_NoText ?ga_NoText ?gg_NoText ?hd_NoText ?cl_NoText ?hm_NoText ?ss_NoText ?nf_NoText_place ?a_NoName ?l_NoName ?sa_NoName ?ex_NoName ?ty_NoName ?kc_NoName ?ga_NoName ?gg_NoName ?hd_NoName ?cl_NoName ?hm_NoName ?ss_NoName ?nf_NoName_name ?nf_NoName_place ?a_NotPlain ?l_NotPlain ?sa_NotPlain ?ex_NotPlain ?ty_NotPlain ?kc_NotPlain ?ga_NotPlain ?gg_NotPlain ?hd_NotPlain ?cl_NotPlain ?hm_NotPlain ?ss_NotPlain ?nf_NotPlain_place ?a_NoBook ?l_NoBook ?sa_NoBook ?ex_NoBook ?ty_NoBook ?kc_NoBook ?nl_NoBook ?ne_NoBook ?iN_NoBook ?ga_NoBook ?gg_NoBook ?hd_NoBook ?cl_NoBook ?hm_NoBook ?ss_NoBook ?a_Broken ?l_Broken ?sa_Broken ?ex_Broken ?ty_Broken ?kc_Broken ?ga_Broken ?gg_Broken ?hd_Broken ?cl_Broken ?hm_Broken ?ss_Broken ?nf_Broken_name ?v_Broken ?a_Broken_init ?ti_Broken_init ?l_Broken_init ?x_Broken_init ?k_Broken_init ?a_NoLine ?l_NoLine ?sa_NoLine ?ex_NoLine ?ty_NoLine ?kc_NoLine ?ga_NoLine ?gg_NoLine ?hd_NoLine ?cl_NoLine ?hm_NoLine ?ss_NoLine ?nf_NoLine_line ?a_NoDeed ?l_NoDeed ?sa_NoDeed ?ex_NoDeed ?ty_NoDeed ?kc_NoDeed ?ga_NoDeed ?gg_NoDeed ?hd_NoDeed ?cl_NoDeed ?hm_NoDeed ?ss_NoDeed ?nf_NoDeed_name ?a_NoRule ?l_NoRule ?sa_NoRule ?ex_NoRule ?ty_NoRule ?kc_NoRule ?ga_NoRule ?gg_NoRule ?hd_NoRule ?cl_NoRule ?hm_NoRule ?ss_NoRule ?nf_NoRule_name ?a_OutOfRange ?l_OutOfRange ?sa_OutOfRange ?ex_OutOfRange ?ty_OutOfRange ?kc_OutOfRange ?ga_OutOfRange ?gg_OutOfRange ?hd_OutOfRange ?cl_OutOfRange ?hm_OutOfRange ?ss_OutOfRange ?a_ShortShare ?l_ShortShare ?sa_ShortShare ?ex_ShortShare ?ty_ShortShare ?kc_ShortShare ?ga_ShortShare ?gg_ShortShare ?hd_ShortShare ?cl_ShortShare ?hm_ShortShare ?ss_ShortShare ?nf_ShortShare_name ?nf_ShortShare_lack ?a_Folded ?l_Folded ?sa_Folded ?ex_Folded ?ty_Folded ?kc_Folded ?ga_Folded ?gg_Folded ?hd_Folded ?cl_Folded ?hm_Folded ?ss_Folded ?a_NoPaper ?l_NoPaper ?sa_NoPaper ?ex_NoPaper ?ty_NoPaper ?kc_NoPaper ?ga_NoPaper ?gg_NoPaper ?hd_NoPaper ?cl_NoPaper ?hm_NoPaper ?ss_NoPaper ?nf_NoPaper_line ?su_NoText_BookError ?su_NoName_BookError ?su_NotPlain_BookError ?su_NoBook_BookError ?su_Broken_BookError ?su_NoLine_BookError ?su_NoDeed_BookError ?su_NoRule_BookError ?su_OutOfRange_BookError ?su_ShortShare_BookError ?su_Folded_BookError ?su_NoPaper_BookError ?su_NoText_Broken ?su_NoName_Broken ?su_NotPlain_Broken ?su_NoBook_Broken ?su_Broken_Broken ?su_NoLine_Broken ?su_NoDeed_Broken ?su_NoRule_Broken ?su_OutOfRange_Broken ?su_ShortShare_Broken ?su_Folded_Broken ?su_NoPaper_Broken ?su_NoText_Folded ?su_NoName_Folded ?su_NotPlain_Folded ?su_NoBook_Folded ?su_Broken_Folded ?su_NoLine_Folded ?su_NoDeed_Folded ?su_NoRule_Folded ?su_OutOfRange_Folded ?su_ShortShare_Folded ?su_Folded_Folded ?su_NoPaper_Folded ?su_NoText_NoBook ?su_NoName_NoBook ?su_NotPlain_NoBook ?su_NoBook_NoBook ?su_Broken_NoBook ?su_NoLine_NoBook ?su_NoDeed_NoBook ?su_NoRule_NoBook ?su_OutOfRange_NoBook ?su_ShortShare_NoBook ?su_Folded_NoBook ?su_NoPaper_NoBook ?su_NoText_NoDeed ?su_NoName_NoDeed ?su_NotPlain_NoDeed ?su_NoBook_NoDeed ?su_Broken_NoDeed ?su_NoLine_NoDeed ?su_NoDeed_NoDeed ?su_NoRule_NoDeed ?su_OutOfRange_NoDeed ?su_ShortShare_NoDeed ?su_Folded_NoDeed ?su_NoPaper_NoDeed ?su_NoText_NoLine ?su_NoName_NoLine ?su_NotPlain_NoLine ?su_NoBook_NoLine ?su_Broken_NoLine ?su_NoLine_NoLine ?su_NoDeed_NoLine ?su_NoRule_NoLine ?su_OutOfRange_NoLine ?su_ShortShare_NoLine ?su_Folded_NoLine ?su_NoPaper_NoLine ?su_NoText_NoName ?su_NoName_NoName ?su_NotPlain_NoName ?su_NoBook_NoName ?su_Broken_NoName ?su_NoLine_NoName ?su_NoDeed_NoName ?su_NoRule_NoName ?su_OutOfRange_NoName ?su_ShortShare_NoName ?su_Folded_NoName ?su_NoPaper_NoName ?su_NoText_NoPaper ?su_NoName_NoPaper ?su_NotPlain_NoPaper ?su_NoBook_NoPaper ?su_Broken_NoPaper ?su_NoLine_NoPaper ?su_NoDeed_NoPaper ?su_NoRule_NoPaper ?su_OutOfRange_NoPaper ?su_ShortShare_NoPaper ?su_Folded_NoPaper ?su_NoPaper_NoPaper ?su_NoText_NoRule ?su_NoName_NoRule ?su_NotPlain_NoRule ?su_NoBook_NoRule ?su_Broken_NoRule ?su_NoLine_NoRule ?su_NoDeed_NoRule ?su_NoRule_NoRule ?su_OutOfRange_NoRule ?su_ShortShare_NoRule ?su_Folded_NoRule ?su_NoPaper_NoRule ?su_NoText_NoText ?su_NoName_NoText ?su_NotPlain_NoText ?su_NoBook_NoText ?su_Broken_NoText ?su_NoLine_NoText ?su_NoDeed_NoText ?su_NoRule_NoText ?su_OutOfRange_NoText ?su_ShortShare_NoText ?su_Folded_NoText ?su_NoPaper_NoText ?su_NoText_NotPlain ?su_NoName_NotPlain ?su_NotPlain_NotPlain ?su_NoBook_NotPlain ?su_Broken_NotPlain ?su_NoLine_NotPlain ?su_NoDeed_NotPlain ?su_NoRule_NotPlain ?su_OutOfRange_NotPlain ?su_ShortShare_NotPlain ?su_Folded_NotPlain ?su_NoPaper_NotPlain ?su_NoText_OutOfRange ?su_NoName_OutOfRange ?su_NotPlain_OutOfRange ?su_NoBook_OutOfRange ?su_Broken_OutOfRange ?su_NoLine_OutOfRange ?su_NoDeed_OutOfRange ?su_NoRule_OutOfRange ?su_OutOfRange_OutOfRange ?su_ShortShare_OutOfRange ?su_Folded_OutOfRange ?su_NoPaper_OutOfRange ?su_NoText_ShortShare ?su_NoName_ShortShare ?su_NotPlain_ShortShare ?su_NoBook_ShortShare ?su_Broken_ShortShare ?su_NoLine_ShortShare ?su_NoDeed_ShortShare ?su_NoRule_ShortShare ?su_OutOfRange_ShortShare ?su_ShortShare_ShortShare ?su_Folded_ShortShare ?su_NoPaper_ShortShare ?su_NoText_ValueError ?su_NoName_ValueError ?su_NotPlain_ValueError ?su_NoBook_ValueError ?su_Broken_ValueError ?su_NoLine_ValueError ?su_NoDeed_ValueError ?su_NoRule_ValueError ?su_OutOfRange_ValueError ?su_ShortShare_ValueError ?su_Folded_ValueError ?su_NoPaper_ValueError ?z_ValueError ?z_enumerate ?z_int ?z_isinstance ?z_len ?z_list ?z_range ?z_sum ?z_tuple ?z_zip ?g_LETTERS ?g_LONGEST ?g_MOST ?lt_MOST
    (case a_value_of => k_is)
    (case l_value_of => k_is)
    (case x_value_of => k_is)
    (case k_value_of => k_is)
    (case a_is_name => k_is)
    (case l_is_name => k_is)
    (case x_is_name => k_is)
    (case k_is_name => k_is)
    (case a_spare => k_is)
    (case l_spare => k_is)
    (case x_spare => k_is)
    (case k_spare => k_is)
    (case a_check_names => k_is)
    (case l_check_names => k_is)
    (case x_check_names => k_is)
    (case k_check_names => k_is)
    (case a_check_book => k_is)
    (case l_check_book => k_is)
    (case x_check_book => k_is)
    (case k_check_book => k_is)
    (case a_l_at => k_is)
    (case l_l_at => k_is)
    (case x_l_at => k_is)
    (case k_l_at => k_is)
    (case a_l_mix => k_is)
    (case l_l_mix => k_is)
    (case x_l_mix => k_is)
    (case k_l_mix => k_is)
    (case a_l_draw => k_is)
    (case l_l_draw => k_is)
    (case x_l_draw => k_is)
    (case k_l_draw => k_is)
    (case a_l_named => k_is)
    (case l_l_named => k_is)
    (case x_l_named => k_is)
    (case k_l_named => k_is)
    (case a_l_wide => k_is)
    (case l_l_wide => k_is)
    (case x_l_wide => k_is)
    (case k_l_wide => k_is)
    (case a_l_items => k_is)
    (case l_l_items => k_is)
    (case x_l_items => k_is)
    (case k_l_items => k_is)
    (case a_l_rules => k_is)
    (case l_l_rules => k_is)
    (case x_l_rules => k_is)
    (case k_l_rules => k_is)
    (case a_l_deeds => k_is)
    (case l_l_deeds => k_is)
    (case x_l_deeds => k_is)
    (case k_l_deeds => k_is)
    (case a_l_book => k_is)
    (case l_l_book => k_is)
    (case x_l_book => k_is)
    (case k_l_book => k_is)
    (case a_l_counts => k_is)
    (case l_l_counts => k_is)
    (case x_l_counts => k_is)
    (case k_l_counts => k_is)
    (case a_l_other_name => k_is)
    (case l_l_other_name => k_is)
    (case x_l_other_name => k_is)
    (case k_l_other_name => k_is)
    (case a_l_renamed => k_is)
    (case l_l_renamed => k_is)
    (case x_l_renamed => k_is)
    (case k_l_renamed => k_is)
    (case a_l_resized => k_is)
    (case l_l_resized => k_is)
    (case x_l_resized => k_is)
    (case k_l_resized => k_is)
    (case a_l_wrong => k_is)
    (case l_l_wrong => k_is)
    (case x_l_wrong => k_is)
    (case k_l_wrong => k_is)
    (case a_l_broken => k_is)
    (case l_l_broken => k_is)
    (case x_l_broken => k_is)
    (case k_l_broken => k_is)
    (case a_l_refused => k_is)
    (case l_l_refused => k_is)
    (case x_l_refused => k_is)
    (case k_l_refused => k_is)
    (case a_law => k_is)
    (case l_law => k_is)
    (case x_law => k_is)
    (case k_law => k_is)
    (case hn_x => k_is)
    (case ht_x => k_is)
    (case a_BookError => k_is)
    (case l_BookError => k_is)
    (case sa_BookError => k_is)
    (case ex_BookError => k_is)
    (case ty_BookError => k_is)
    (case kc_BookError => k_is)
    (case nl_BookError => k_is)
    (case ne_BookError => rfl)
    (case iN_BookError => k_is)
    (case rd_BookError => k_is)
    (case sp_BookError => k_is)
    (case fc_BookError => k_is)
    (case a_NoText => k_is)
    (case l_NoText => k_is)
    (case sa_NoText => k_is)
    (case ex_NoText => k_is)
    (case ty_NoText => k_is)
    (case kc_NoText => k_is)
    (case ga_NoText => k_is)
    (case gg_NoText => k_is)
    (case hd_NoText => k_is)
    (case cl_NoText => k_is)
    (case hm_NoText => k_is)
    (case ss_NoText => k_is)
    (case nf_NoText_place => k_is)
    (case a_NoName => k_is)
    (case l_NoName => k_is)
    (case sa_NoName => k_is)
    (case ex_NoName => k_is)
    (case ty_NoName => k_is)
    (case kc_NoName => k_is)
    (case ga_NoName => k_is)
    (case gg_NoName => k_is)
    (case hd_NoName => k_is)
    (case cl_NoName => k_is)
    (case hm_NoName => k_is)
    (case ss_NoName => k_is)
    (case nf_NoName_name => k_is)
    (case nf_NoName_place => k_is)
    (case a_NotPlain => k_is)
    (case l_NotPlain => k_is)
    (case sa_NotPlain => k_is)
    (case ex_NotPlain => k_is)
    (case ty_NotPlain => k_is)
    (case kc_NotPlain => k_is)
    (case ga_NotPlain => k_is)
    (case gg_NotPlain => k_is)
    (case hd_NotPlain => k_is)
    (case cl_NotPlain => k_is)
    (case hm_NotPlain => k_is)
    (case ss_NotPlain => k_is)
    (case nf_NotPlain_place => k_is)
    (case a_NoBook => k_is)
    (case l_NoBook => k_is)
    (case sa_NoBook => k_is)
    (case ex_NoBook => k_is)
    (case ty_NoBook => k_is)
    (case kc_NoBook => k_is)
    (case nl_NoBook => k_is)
    (case ne_NoBook => rfl)
    (case iN_NoBook => k_is)
    (case ga_NoBook => k_is)
    (case gg_NoBook => k_is)
    (case hd_NoBook => k_is)
    (case cl_NoBook => k_is)
    (case hm_NoBook => k_is)
    (case ss_NoBook => k_is)
    (case a_Broken => k_is)
    (case l_Broken => k_is)
    (case sa_Broken => k_is)
    (case ex_Broken => k_is)
    (case ty_Broken => k_is)
    (case kc_Broken => k_is)
    (case ga_Broken => k_is)
    (case gg_Broken => k_is)
    (case hd_Broken => k_is)
    (case cl_Broken => k_is)
    (case hm_Broken => k_is)
    (case ss_Broken => k_is)
    (case nf_Broken_name => k_is)
    (case v_Broken => rfl)
    (case a_Broken_init => k_is)
    (case ti_Broken_init => k_is)
    (case l_Broken_init => k_is)
    (case x_Broken_init => k_is)
    (case k_Broken_init => k_is)
    (case a_NoLine => k_is)
    (case l_NoLine => k_is)
    (case sa_NoLine => k_is)
    (case ex_NoLine => k_is)
    (case ty_NoLine => k_is)
    (case kc_NoLine => k_is)
    (case ga_NoLine => k_is)
    (case gg_NoLine => k_is)
    (case hd_NoLine => k_is)
    (case cl_NoLine => k_is)
    (case hm_NoLine => k_is)
    (case ss_NoLine => k_is)
    (case nf_NoLine_line => k_is)
    (case a_NoDeed => k_is)
    (case l_NoDeed => k_is)
    (case sa_NoDeed => k_is)
    (case ex_NoDeed => k_is)
    (case ty_NoDeed => k_is)
    (case kc_NoDeed => k_is)
    (case ga_NoDeed => k_is)
    (case gg_NoDeed => k_is)
    (case hd_NoDeed => k_is)
    (case cl_NoDeed => k_is)
    (case hm_NoDeed => k_is)
    (case ss_NoDeed => k_is)
    (case nf_NoDeed_name => k_is)
    (case a_NoRule => k_is)
    (case l_NoRule => k_is)
    (case sa_NoRule => k_is)
    (case ex_NoRule => k_is)
    (case ty_NoRule => k_is)
    (case kc_NoRule => k_is)
    (case ga_NoRule => k_is)
    (case gg_NoRule => k_is)
    (case hd_NoRule => k_is)
    (case cl_NoRule => k_is)
    (case hm_NoRule => k_is)
    (case ss_NoRule => k_is)
    (case nf_NoRule_name => k_is)
    (case a_OutOfRange => k_is)
    (case l_OutOfRange => k_is)
    (case sa_OutOfRange => k_is)
    (case ex_OutOfRange => k_is)
    (case ty_OutOfRange => k_is)
    (case kc_OutOfRange => k_is)
    (case ga_OutOfRange => k_is)
    (case gg_OutOfRange => k_is)
    (case hd_OutOfRange => k_is)
    (case cl_OutOfRange => k_is)
    (case hm_OutOfRange => k_is)
    (case ss_OutOfRange => k_is)
    (case a_ShortShare => k_is)
    (case l_ShortShare => k_is)
    (case sa_ShortShare => k_is)
    (case ex_ShortShare => k_is)
    (case ty_ShortShare => k_is)
    (case kc_ShortShare => k_is)
    (case ga_ShortShare => k_is)
    (case gg_ShortShare => k_is)
    (case hd_ShortShare => k_is)
    (case cl_ShortShare => k_is)
    (case hm_ShortShare => k_is)
    (case ss_ShortShare => k_is)
    (case nf_ShortShare_name => k_is)
    (case nf_ShortShare_lack => k_is)
    (case a_Folded => k_is)
    (case l_Folded => k_is)
    (case sa_Folded => k_is)
    (case ex_Folded => k_is)
    (case ty_Folded => k_is)
    (case kc_Folded => k_is)
    (case ga_Folded => k_is)
    (case gg_Folded => k_is)
    (case hd_Folded => k_is)
    (case cl_Folded => k_is)
    (case hm_Folded => k_is)
    (case ss_Folded => k_is)
    (case a_NoPaper => k_is)
    (case l_NoPaper => k_is)
    (case sa_NoPaper => k_is)
    (case ex_NoPaper => k_is)
    (case ty_NoPaper => k_is)
    (case kc_NoPaper => k_is)
    (case ga_NoPaper => k_is)
    (case gg_NoPaper => k_is)
    (case hd_NoPaper => k_is)
    (case cl_NoPaper => k_is)
    (case hm_NoPaper => k_is)
    (case ss_NoPaper => k_is)
    (case nf_NoPaper_line => k_is)
    (case su_NoText_BookError => k_is)
    (case su_NoName_BookError => k_is)
    (case su_NotPlain_BookError => k_is)
    (case su_NoBook_BookError => k_is)
    (case su_Broken_BookError => k_is)
    (case su_NoLine_BookError => k_is)
    (case su_NoDeed_BookError => k_is)
    (case su_NoRule_BookError => k_is)
    (case su_OutOfRange_BookError => k_is)
    (case su_ShortShare_BookError => k_is)
    (case su_Folded_BookError => k_is)
    (case su_NoPaper_BookError => k_is)
    (case su_NoText_Broken => k_is)
    (case su_NoName_Broken => k_is)
    (case su_NotPlain_Broken => k_is)
    (case su_NoBook_Broken => k_is)
    (case su_Broken_Broken => k_is)
    (case su_NoLine_Broken => k_is)
    (case su_NoDeed_Broken => k_is)
    (case su_NoRule_Broken => k_is)
    (case su_OutOfRange_Broken => k_is)
    (case su_ShortShare_Broken => k_is)
    (case su_Folded_Broken => k_is)
    (case su_NoPaper_Broken => k_is)
    (case su_NoText_Folded => k_is)
    (case su_NoName_Folded => k_is)
    (case su_NotPlain_Folded => k_is)
    (case su_NoBook_Folded => k_is)
    (case su_Broken_Folded => k_is)
    (case su_NoLine_Folded => k_is)
    (case su_NoDeed_Folded => k_is)
    (case su_NoRule_Folded => k_is)
    (case su_OutOfRange_Folded => k_is)
    (case su_ShortShare_Folded => k_is)
    (case su_Folded_Folded => k_is)
    (case su_NoPaper_Folded => k_is)
    (case su_NoText_NoBook => k_is)
    (case su_NoName_NoBook => k_is)
    (case su_NotPlain_NoBook => k_is)
    (case su_NoBook_NoBook => k_is)
    (case su_Broken_NoBook => k_is)
    (case su_NoLine_NoBook => k_is)
    (case su_NoDeed_NoBook => k_is)
    (case su_NoRule_NoBook => k_is)
    (case su_OutOfRange_NoBook => k_is)
    (case su_ShortShare_NoBook => k_is)
    (case su_Folded_NoBook => k_is)
    (case su_NoPaper_NoBook => k_is)
    (case su_NoText_NoDeed => k_is)
    (case su_NoName_NoDeed => k_is)
    (case su_NotPlain_NoDeed => k_is)
    (case su_NoBook_NoDeed => k_is)
    (case su_Broken_NoDeed => k_is)
    (case su_NoLine_NoDeed => k_is)
    (case su_NoDeed_NoDeed => k_is)
    (case su_NoRule_NoDeed => k_is)
    (case su_OutOfRange_NoDeed => k_is)
    (case su_ShortShare_NoDeed => k_is)
    (case su_Folded_NoDeed => k_is)
    (case su_NoPaper_NoDeed => k_is)
    (case su_NoText_NoLine => k_is)
    (case su_NoName_NoLine => k_is)
    (case su_NotPlain_NoLine => k_is)
    (case su_NoBook_NoLine => k_is)
    (case su_Broken_NoLine => k_is)
    (case su_NoLine_NoLine => k_is)
    (case su_NoDeed_NoLine => k_is)
    (case su_NoRule_NoLine => k_is)
    (case su_OutOfRange_NoLine => k_is)
    (case su_ShortShare_NoLine => k_is)
    (case su_Folded_NoLine => k_is)
    (case su_NoPaper_NoLine => k_is)
    (case su_NoText_NoName => k_is)
    (case su_NoName_NoName => k_is)
    (case su_NotPlain_NoName => k_is)
    (case su_NoBook_NoName => k_is)
    (case su_Broken_NoName => k_is)
    (case su_NoLine_NoName => k_is)
    (case su_NoDeed_NoName => k_is)
    (case su_NoRule_NoName => k_is)
    (case su_OutOfRange_NoName => k_is)
    (case su_ShortShare_NoName => k_is)
    (case su_Folded_NoName => k_is)
    (case su_NoPaper_NoName => k_is)
    (case su_NoText_NoPaper => k_is)
    (case su_NoName_NoPaper => k_is)
    (case su_NotPlain_NoPaper => k_is)
    (case su_NoBook_NoPaper => k_is)
    (case su_Broken_NoPaper => k_is)
    (case su_NoLine_NoPaper => k_is)
    (case su_NoDeed_NoPaper => k_is)
    (case su_NoRule_NoPaper => k_is)
    (case su_OutOfRange_NoPaper => k_is)
    (case su_ShortShare_NoPaper => k_is)
    (case su_Folded_NoPaper => k_is)
    (case su_NoPaper_NoPaper => k_is)
    (case su_NoText_NoRule => k_is)
    (case su_NoName_NoRule => k_is)
    (case su_NotPlain_NoRule => k_is)
    (case su_NoBook_NoRule => k_is)
    (case su_Broken_NoRule => k_is)
    (case su_NoLine_NoRule => k_is)
    (case su_NoDeed_NoRule => k_is)
    (case su_NoRule_NoRule => k_is)
    (case su_OutOfRange_NoRule => k_is)
    (case su_ShortShare_NoRule => k_is)
    (case su_Folded_NoRule => k_is)
    (case su_NoPaper_NoRule => k_is)
    (case su_NoText_NoText => k_is)
    (case su_NoName_NoText => k_is)
    (case su_NotPlain_NoText => k_is)
    (case su_NoBook_NoText => k_is)
    (case su_Broken_NoText => k_is)
    (case su_NoLine_NoText => k_is)
    (case su_NoDeed_NoText => k_is)
    (case su_NoRule_NoText => k_is)
    (case su_OutOfRange_NoText => k_is)
    (case su_ShortShare_NoText => k_is)
    (case su_Folded_NoText => k_is)
    (case su_NoPaper_NoText => k_is)
    (case su_NoText_NotPlain => k_is)
    (case su_NoName_NotPlain => k_is)
    (case su_NotPlain_NotPlain => k_is)
    (case su_NoBook_NotPlain => k_is)
    (case su_Broken_NotPlain => k_is)
    (case su_NoLine_NotPlain => k_is)
    (case su_NoDeed_NotPlain => k_is)
    (case su_NoRule_NotPlain => k_is)
    (case su_OutOfRange_NotPlain => k_is)
    (case su_ShortShare_NotPlain => k_is)
    (case su_Folded_NotPlain => k_is)
    (case su_NoPaper_NotPlain => k_is)
    (case su_NoText_OutOfRange => k_is)
    (case su_NoName_OutOfRange => k_is)
    (case su_NotPlain_OutOfRange => k_is)
    (case su_NoBook_OutOfRange => k_is)
    (case su_Broken_OutOfRange => k_is)
    (case su_NoLine_OutOfRange => k_is)
    (case su_NoDeed_OutOfRange => k_is)
    (case su_NoRule_OutOfRange => k_is)
    (case su_OutOfRange_OutOfRange => k_is)
    (case su_ShortShare_OutOfRange => k_is)
    (case su_Folded_OutOfRange => k_is)
    (case su_NoPaper_OutOfRange => k_is)
    (case su_NoText_ShortShare => k_is)
    (case su_NoName_ShortShare => k_is)
    (case su_NotPlain_ShortShare => k_is)
    (case su_NoBook_ShortShare => k_is)
    (case su_Broken_ShortShare => k_is)
    (case su_NoLine_ShortShare => k_is)
    (case su_NoDeed_ShortShare => k_is)
    (case su_NoRule_ShortShare => k_is)
    (case su_OutOfRange_ShortShare => k_is)
    (case su_ShortShare_ShortShare => k_is)
    (case su_Folded_ShortShare => k_is)
    (case su_NoPaper_ShortShare => k_is)
    (case su_NoText_ValueError => k_is)
    (case su_NoName_ValueError => k_is)
    (case su_NotPlain_ValueError => k_is)
    (case su_NoBook_ValueError => k_is)
    (case su_Broken_ValueError => k_is)
    (case su_NoLine_ValueError => k_is)
    (case su_NoDeed_ValueError => k_is)
    (case su_NoRule_ValueError => k_is)
    (case su_OutOfRange_ValueError => k_is)
    (case su_ShortShare_ValueError => k_is)
    (case su_Folded_ValueError => k_is)
    (case su_NoPaper_ValueError => k_is)
    (case z_ValueError => k_is)
    (case z_enumerate => k_is)
    (case z_int => k_is)
    (case z_isinstance => k_is)
    (case z_len => k_is)
    (case z_list => k_is)
    (case z_range => k_is)
    (case z_sum => k_is)
    (case z_tuple => k_is)
    (case z_zip => k_is)
    (case g_LETTERS => k_is)
    (case g_LONGEST => k_is)
    (case g_MOST => k_is)
    (case lt_MOST => k_is)
#print axioms PySem.Challenge.cw_apartbook_k11_no_books_holds
