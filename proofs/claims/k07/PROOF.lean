import PyProof.Rows.All
import Wide.All
import OpenK.AllK
import Wide.FinOn
import HandS.ForMost
import HandS.Wide
import HandS.Zip
import KE.SortData
import KE.KDictKeyed
import HandS.Exc
import HandS.ExcInit
import HandS.ExcOwn
import HandS.ExcField
import HandS.ExcIs
import HandS.WordsExc
import KE.KExcIs
import HandS.Deep
import HandS.TupAny
import HandS.TupMul
import HandS.Style
import HandS.IsInst
import KE.GoesMore
import KE.GoesEnum
import PyProof.LongRange
import HandS.Conv
import KE.Datum
import KE.KDictSum
import HandS.Keys
import PyProof.Transfer
import HandS.TupLe
import KE.KTupSum
import KE.DataFind
import HandS.Text
import HandS.TryOnly
import HandS.Head0
import HandS.Head1
import HandS.Head2
import HandS.HeadHook1
import HandS.HeadHook2
import HandS.HeadEnd
import HandS.ExcValue
import PyProof.SliceStr2
import PySem.Challenge.RW_apartbook_k07_refusals_made_by_hand
set_option Elab.async false
set_option linter.all false
set_option maxRecDepth 100000
set_option maxHeartbeats 4000000
namespace L2
open PySem PySem.Spec PyProof.Rows
section
variable {X : Cx} {o e : Expr} {es : List Expr} {ta : TA} {p1 p2 pos : Pos}
theorem pe_binit {pl : Sem Bool} {B : Str} {CB : Addr} (hg : Gl X B) (hm : X.mg B = some (.ref CB)) (rd : PySem.W.readsIn X.K CB (.type "type") = true) (sp : PySem.W.specialIn X.K (.ref CB) "__getattribute__" = some (some (.builtin "type.__getattribute__")))
    (fc : PySem.W.findCls X.K (.ref CB) (.type "type") "__init__" = some (.val (.builtin "ValueError.__init__"))) (ha : PA X (e :: es) ta)
    (hc : eval (.Call (.Attribute (.Name B p1) "__init__" p2) (e :: es) [] pos) X.env = (do
      let cl ← eval (.Name B p1) X.env
      standAt p2.atName
      let (fu, first) ← holding [cl] (getMethod cl "__init__" pl)
      callWith pos fu first (backTo pos (starEach (e :: es) X.env)) (backToKw pos (keywordEach [] X.env))) := by rfl)
    (he : starEach (e :: es) X.env = (false, eval e X.env) :: starEach es X.env := by rfl) (hpl : (backTo pos (starEach es X.env)).any (·.1) = false := by rfl) (hdb : (B == ("__debug__" : Str)) = false := by decide) :
    PE X (.Call (.Attribute (.Name B p1) "__init__" p2) (e :: es) [] pos) (tVeI X.K ta) := by
  refine ⟨fun pins s σ H Q I h => ?_⟩
  refine PySem.W.methodCall_KW (ld_glob I hg hm ?_ hdb) hc
  refine PySem.W.method_cls I.kIn sp (PySem.W.cls_value I.kIn rd fc (by decide +kernel) ?_)
  show wpAny _ _ (callWith pos (Value.builtin "ValueError.__init__") [] (backTo pos (starEach (e :: es) X.env)) []) _ _ _
  refine PyProof.Rows.callWith_method1 (thn (ha.run pos pins _ σ H _ (I.tok _) h) fun us s1 hh => ?_) he hpl
  obtain ⟨vs, H1, I1, r1, a, C, ws, rfl, hl, T, ea, q⟩ := hh
  cases r1 with
  | @cons _ u0 _ ur ra rw' =>
    have eu : u0 = Value.ref a := ra
    subst eu
    exact oinit_ok T I1 ea (by rw [← Paired.length rw', sizeLine_eq]; omega) fun s' J => ⟨.non, H1, J, rfl, q⟩
end
def exV (a : Addr) (cls : Value) (d : Option Addr) : HO := .ext fun h => ∃ oe vs, h.get? a = some oe ∧ Zc cls d oe ∧ oe.data = .fields vs
theorem exV_ok {P : Program} {w : World} {H : Hp} {h : Heap} {a : Addr} {cls : Value} {d : Option Addr} {oe : Obj} (h1 : h.get? a = some oe) (h2 : Zc cls d oe) (h3 : ∃ vs, oe.data = .fields vs) : ObjOk P w H h a (exV a cls d) :=
  ⟨⟨oe, h3.choose, h1, h2, h3.choose_spec⟩, ⟨oe, h1⟩, fun _ _ ⟨o, v, q, r⟩ k => ⟨o, v, k o q, r⟩⟩
theorem exV_at {P : Program} {w : World} {H : Hp} {h : Heap} {a : Addr} {cls : Value} {d : Option Addr} (hok : HOk P w H h) (e : H a = some (exV a cls d)) : ∃ oe vs, h.get? a = some oe ∧ Zc cls d oe ∧ oe.data = .fields vs := by
  have x : ObjOk P w H h a (.ext fun h => ∃ oe vs, h.get? a = some oe ∧ Zc cls d oe ∧ oe.data = .fields vs) := hok a _ e
  exact x.1
section
variable {X : Cx} {pins : List (Addr × Obj)} {σ : St} {H : Hp} {s : Shared}
end
def wKp (K : PySem.W.Frag) (c : Value) (i : Nat) (ts : TS) (Wout : WX) (D : Ends) : WX := fun cls d σ H =>
  ∃ b, PySem.W.exmOne K cls c = some b ∧ (b = true → ∀ a, H a = none → ts { nx := fun σ' H' => D.nx (σ'.set i none) (upd H' a (exV a cls d)), rt := fun _ _ => False, bk := fun _ _ => False, ct := fun _ _ => False } (σ.set i (some (.ref a))) H) ∧
    (b = false → Wout cls d σ H)
section
variable {X : Cx} {x n : Str} {c : Value} {i : Nat} {body suite : List Stmt} {b0 : Stmt} {np pos hpos : Pos} {tb : WX → TS} {ts : TS} {Wout : WX}
end
end L2
namespace L2
open PySem PySem.Spec PyProof.Rows
section
variable {X : Cx}
theorem exV_inst {pins : List (Addr × Obj)} {σ : St} {H : Hp} {s : Shared} {a C : Addr} {d : Option Addr} {od : Option Obj} (I : Inv X pins σ H s) (e : H a = some (exV a (.ref C) d)) (hd : (d = none ∧ od = none) ∨ ∃ dx o, d = some dx ∧ od = some o ∧ s.heap.get? dx = some o) :
    ∃ oe, PySem.W.InstAt s.heap a oe C od := by
  obtain ⟨oe, vs, h1, h2, h3⟩ := exV_at I.hok e
  obtain ⟨oc, odd, oda, osl⟩ := oe
  obtain ⟨z1, z2⟩ := h2
  dsimp only at z1 z2 h3
  subst z1 z2 h3
  rcases hd with ⟨rfl, rfl⟩ | ⟨dx, o, rfl, rfl, ho⟩
  · exact ⟨_, h1, rfl, rfl, trivial⟩
  · exact ⟨_, h1, rfl, rfl, ho⟩
def rIsX (K : PySem.W.Frag) : List V → Hp → VK → Prop := fun xs H Q => ∃ (a C : Addr) (d : Option Addr) (c : V) (cv : Value) (b : Bool), xs = [.ref a, c] ∧ ExcC K C ∧ H a = some (exV a (.ref C) d) ∧ (d = none ∨ ∃ dx fs, d = some dx ∧ H dx = some (.xd fs)) ∧ (∀ u, RelV c u → u = cv) ∧ PySem.W.kitOne K (.ref C) cv = some b ∧ Q (.bl b) H
theorem call_isX : CallR X (.builtin "isinstance") (rIsX X.K) := by
  intro pins s σ H xs us Q I r h
  obtain ⟨a, C, d, c, cv, b, rfl, ec, ea, hd, hcv, hk, q⟩ := h
  obtain ⟨u, w, rfl, ru, rw'⟩ := vals2 r
  have eu : u = Value.ref a := ru
  subst eu
  have ew := hcv _ rw'
  subst ew
  obtain ⟨od, J⟩ : ∃ od : Option Obj, ∃ oe, PySem.W.InstAt s.heap a oe C od := by
    rcases hd with rfl | ⟨dx, fs, rfl, hx⟩
    · exact ⟨none, exV_inst I ea (.inl ⟨rfl, rfl⟩)⟩
    · have ho : ObjOk X.prog X.w H s.heap dx (.xd fs) := I.hok dx _ hx
      obtain ⟨mA, hns, hr⟩ := ho
      obtain ⟨o, ho, hl⟩ := lookIn_ns hns
      exact ⟨some o, exV_inst I ea (.inr ⟨dx, o, rfl, rfl, ho⟩)⟩
  obtain ⟨oe, J⟩ := J
  obtain ⟨cd, hc, _⟩ := PySem.W.any_some ec.hd
  exact PySem.W.kia_one (PySem.W.kitx_exc (by rw [hc]; rfl) ec.hg ec.hk ec.hs ec.ha ec.hn ec.ht ec.hm) I.kIn J hk (fun z => nomatch z) fun tk => ⟨.bl b, H, I.tok _, rfl, q⟩
def tXk (K : PySem.W.Frag) (n : Str) (te : TE) : TE := fun σ H Q => te σ H fun x H1 => ∃ (a C dx : Addr) (fs : List (Str × V)) (v : V), x = .ref a ∧ XfC K C ∧ PySem.W.findIn K (.ref C) n = some none ∧ H1 a = some (exV a (.ref C) (some dx)) ∧ H1 dx = some (.xd fs) ∧ fs.lookup n = some v ∧ Q v H1
theorem pe_xk {e : Expr} {te : TE} {pos : Pos} {n : Str} (he : PE X e te) (hb : attributeBase e n X.env (eval e X.env) = eval e X.env := by rfl) : PE X (.Attribute e n pos) (tXk X.K n te) := by
  refine ⟨fun pins s σ H Q I h => ?_⟩
  refine attr_of hb (thn (he.run pins s σ H _ I h) fun u s1 hh => ?_)
  obtain ⟨x, H1, I1, rx, a, C, dx, fs, v, ex, T, hno, ea, ed, l, q⟩ := hh
  subst ex
  have eu : u = Value.ref a := rx
  subst eu
  have ho : ObjOk X.prog X.w H1 s1.heap dx (.xd fs) := I1.hok dx _ ed
  obtain ⟨mA, hns, hr⟩ := ho
  obtain ⟨o, ho, hl⟩ := lookIn_ns hns
  obtain ⟨w, hw, rw'⟩ := RelO.some_of (v := v) (o := mA n) (by rw [← l]; exact hr n)
  obtain ⟨oe, J⟩ := exV_inst I1 ea (od := some o) (.inr ⟨dx, o, rfl, rfl, ho⟩)
  exact HandSPX.exc_get I1.kIn J T.ga T.gg T.exC (PySem.W.findObj_own T.hdC hno rfl (by rw [hl, hw])) (handed_of rw') ⟨v, H1, I1.tok _, rw', q⟩
end
def spI1 (K : PySem.W.Frag) (f : Str) : Sp := fun vs H Q _ => ∃ (a C : Addr) (y : V), vs = [.ref a, y] ∧ OexC K C ∧ PySem.W.findIn K (.ref C) f = some none ∧ H a = some (exo a C none) ∧ ∀ dx, H dx = none → dx ≠ a → Q .non (upd (upd H dx (exd dx [(f, y)])) a (exo a C (some dx)))
def spI2 (K : PySem.W.Frag) (f g : Str) : Sp := fun vs H Q _ => ∃ (a C : Addr) (y z : V), vs = [.ref a, y, z] ∧ OexC K C ∧ PySem.W.findIn K (.ref C) f = some none ∧ PySem.W.findIn K (.ref C) g = some none ∧ H a = some (exo a C none) ∧
  ∀ dx, H dx = none → dx ≠ a → Q .non (upd (upd (upd H dx (exd dx [(f, y)])) a (exo a C (some dx))) dx (exd dx [(g, z), (f, y)]))
section
variable {P : Program} {w : World} {K : PySem.W.Frag} {mg : Str → Option Value} {base : Heap} {qual : Str} {st : Stmt} {fI CB : Addr} {fd : FuncData} {B m f g : Str} {j : Option Str} {p1 p2 p3 p4 p5 p6 p7 p8 p9 p10 q7 q8 q9 q10 : Pos} {kk : ConstKind}
structure BaseC (K : PySem.W.Frag) (mg : Str → Option Value) (B : Str) (CB : Addr) : Prop where
  at_ : mg B = some (.ref CB)
  rd : PySem.W.readsIn K CB (.type "type") = true
  sp : PySem.W.specialIn K (.ref CB) "__getattribute__" = some (some (.builtin "type.__getattribute__"))
  fc : PySem.W.findCls K (.ref CB) (.type "type") "__init__" = some (.val (.builtin "ValueError.__init__"))
end
end L2
namespace DL
open PySem PySem.Spec L2

abbrev D := PyData
inductive RK where
  | vw | vl | sv | fz | ow
inductive Shp where
  | l | t | k (ks : List Key) | q (ks : List D) | o (c : Str) (fs : List Str) | x (c : Str) (fs : List Str) | e (fs : List Str) | lf | kf (ks : List Key) | v
def Shp.cell : Shp → Bool
  | .t => false
  | .lf => false
  | .kf _ => false
  | .v => false
  | _ => true
inductive T where
  | d (d : D) | n (s : Shp) (ts : List T)
inductive C where
  | und | val (d : D) | brw (d : D) | lst (ds : List D) | dK (kvs : List (Key × D)) | dT (kvs : List (List Key × D)) | dN (ks : List D) | own (m : Option Nat) (t : T) | ro (b : Bool) (t : T) | pin (j : Nat) | al (j i : Nat) | al2 (j k i : Nat)
def C.mu : C → Bool
  | .own (some _) _ => true
  | _ => false

structure GC where
  H0 : Hp
  F0 : Hp
  Ws : List (Addr × List Addr)
  w : Option World
def GC.W (G : GC) : List Addr := G.Ws.flatMap (·.2)
def GC.kp (G : GC) : Hp := fun a => if a ∈ G.W then none else G.H0 a

mutual
inductive DF (K : PySem.W.Frag) (H : Hp) : V → PyData → Prop
  | non : DF K H .non .none
  | bl (b : Bool) : DF K H (.bl b) (.bool b)
  | int (i : Int) : DF K H (.int i) (.int i)
  | str (x : Str) : DF K H (.str x) (.str x)
  | lst {a : Addr} {xs : List V} {ds : List PyData} : H a = some (.lst xs) → DFAll K H xs ds → DF K H (.ref a) (.list ds)
  | tup {a : Addr} {xs : List V} {ds : List PyData} : SqT K H a xs → DFAll K H xs ds → DF K H (.ref a) (.tuple ds)
inductive DFAll (K : PySem.W.Frag) (H : Hp) : List V → List PyData → Prop
  | nil : DFAll K H [] []
  | cons {v : V} {vs : List V} {d : PyData} {ds : List PyData} : DF K H v d → DFAll K H vs ds → DFAll K H (v :: vs) (d :: ds)
end
section
variable {K : PySem.W.Frag} {H H' F F' : Hp}
theorem Same.seqT (e : Same H H') {a : Addr} {xs : List V} (h : SqT K H a xs) : SqT K H' a xs := by
  rcases h with (h | ⟨o, h⟩) | h
  · exact .inl (.inl (e _ _ h))
  · exact .inl (.inr ⟨o, e _ _ h⟩)
  · exact .inr h
mutual
theorem Dp_mono (e : Same H H') : ∀ (d : D) (v : V), Dp K H v d → Dp K H' v d
  | .none, _, h => by cases h; exact .non
  | .bool b, _, h => by cases h; exact .bl b
  | .int i, _, h => by cases h; exact .int i
  | .str x, _, h => by cases h; exact .str x
  | .list ds, _, h => by
    cases h with
    | lst hs ha => exact .lst (e.seq hs) (DpAll_mono e ds _ ha)
  | .tuple ds, _, h => by
    cases h with
    | tup hs ha => exact .tup (Same.seqT e hs) (DpAll_mono e ds _ ha)
  | .dict _, _, h => by cases h
theorem DpAll_mono (e : Same H H') : ∀ (ds : List D) (vs : List V), DpAll K H vs ds → DpAll K H' vs ds
  | [], _, h => by cases h; exact .nil
  | d :: ds, _, h => by
    cases h with
    | cons h1 h2 => exact .cons (Dp_mono e d _ h1) (DpAll_mono e ds _ h2)
end
theorem DpAll_len : ∀ {vs : List V} {ds : List D}, DpAll K H vs ds → vs.length = ds.length
  | [], ds, h => by cases h; rfl
  | v :: vs, ds, h => by
    cases h with
    | cons h1 h2 => rw [List.length_cons, List.length_cons, DpAll_len h2]
theorem DpAll_get : ∀ {vs : List V} {ds : List D} {i : Nat} {d : D}, DpAll K H vs ds → ds[i]? = some d → ∃ v, vs[i]? = some v ∧ Dp K H v d
  | [], ds, i, d, h, e => by cases h; simp at e
  | v :: vs, ds, i, d, h, e => by
    cases h with
    | cons h1 h2 =>
      cases i with
      | zero => simp at e; subst e; exact ⟨v, rfl, h1⟩
      | succ i => simpa using DpAll_get h2 (by simpa using e)
theorem DpAll_ints : ∀ (ns : List Int), DpAll K H (ns.map V.int) (ns.map PyData.int)
  | [] => .nil
  | n :: ns => .cons (.int n) (DpAll_ints ns)
mutual
theorem DF_mono (e : Same H H') : ∀ (d : D) (v : V), DF K H v d → DF K H' v d
  | .none, _, h => by cases h; exact .non
  | .bool b, _, h => by cases h; exact .bl b
  | .int i, _, h => by cases h; exact .int i
  | .str x, _, h => by cases h; exact .str x
  | .list ds, _, h => by
    cases h with
    | lst hs ha => exact .lst (e _ _ hs) (DFAll_mono e ds _ ha)
  | .tuple ds, _, h => by
    cases h with
    | tup hs ha => exact .tup (Same.seqT e hs) (DFAll_mono e ds _ ha)
  | .dict _, _, h => by cases h
theorem DFAll_mono (e : Same H H') : ∀ (ds : List D) (vs : List V), DFAll K H vs ds → DFAll K H' vs ds
  | [], _, h => by cases h; exact .nil
  | d :: ds, _, h => by
    cases h with
    | cons h1 h2 => exact .cons (DF_mono e d _ h1) (DFAll_mono e ds _ h2)
end
theorem DFAll_len : ∀ {vs : List V} {ds : List D}, DFAll K H vs ds → vs.length = ds.length
  | [], ds, h => by cases h; rfl
  | v :: vs, ds, h => by
    cases h with
    | cons h1 h2 => rw [List.length_cons, List.length_cons, DFAll_len h2]
theorem DFAll_get : ∀ {vs : List V} {ds : List D} {i : Nat} {d : D}, DFAll K H vs ds → ds[i]? = some d → ∃ v, vs[i]? = some v ∧ DF K H v d
  | [], ds, i, d, h, e => by cases h; simp at e
  | v :: vs, ds, i, d, h, e => by
    cases h with
    | cons h1 h2 =>
      cases i with
      | zero => simp at e; subst e; exact ⟨v, rfl, h1⟩
      | succ i => simpa using DFAll_get h2 (by simpa using e)
theorem DFAll_app : ∀ {vs ws : List V} {ds es : List D}, DFAll K H vs ds → DFAll K H ws es → DFAll K H (vs ++ ws) (ds ++ es)
  | [], ws, ds, es, h, h' => by cases h; exact h'
  | v :: vs, ws, ds, es, h, h' => by
    cases h with
    | cons h1 h2 => exact .cons h1 (DFAll_app h2 h')
theorem DFAll_take : ∀ {vs : List V} {ds : List D} (n : Nat), DFAll K H vs ds → DFAll K H (vs.take n) (ds.take n)
  | _, _, 0, _ => .nil
  | [], _, n + 1, h => by cases h; exact .nil
  | v :: vs, _, n + 1, h => by
    cases h with
    | cons h1 h2 => exact .cons h1 (DFAll_take n h2)
theorem DFAll_drop : ∀ {vs : List V} {ds : List D} (n : Nat), DFAll K H vs ds → DFAll K H (vs.drop n) (ds.drop n)
  | _, _, 0, h => h
  | [], _, n + 1, h => by cases h; exact .nil
  | v :: vs, _, n + 1, h => by
    cases h with
    | cons h1 h2 => exact DFAll_drop n h2
theorem DFAll_rep {vs : List V} {ds : List D} (h : DFAll K H vs ds) : ∀ n : Nat, DFAll K H (List.replicate n vs).flatten (List.replicate n ds).flatten
  | 0 => .nil
  | n + 1 => by
    rw [List.replicate_succ, List.replicate_succ, List.flatten_cons, List.flatten_cons]
    exact DFAll_app h (DFAll_rep h n)
mutual
theorem DF.dp : ∀ (d : D) (v : V), DF K H v d → Dp K H v d
  | .none, _, h => by cases h; exact .non
  | .bool b, _, h => by cases h; exact .bl b
  | .int i, _, h => by cases h; exact .int i
  | .str x, _, h => by cases h; exact .str x
  | .list ds, _, h => by
    cases h with
    | lst hs ha => exact .lst (.inl (.inl hs)) (DFAll.dp ds _ ha)
  | .tuple ds, _, h => by
    cases h with
    | tup hs ha => exact .tup hs (DFAll.dp ds _ ha)
  | .dict _, _, h => by cases h
theorem DFAll.dp : ∀ (ds : List D) (vs : List V), DFAll K H vs ds → DpAll K H vs ds
  | [], _, h => by cases h; exact .nil
  | d :: ds, _, h => by
    cases h with
    | cons h1 h2 => exact .cons (DF.dp d _ h1) (DFAll.dp ds _ h2)
end
end

inductive KDp {κ : Type} (K : PySem.W.Frag) (H : Hp) : List (κ × V) → List (κ × D) → Prop
  | nil : KDp K H [] []
  | cons {k : κ} {v : V} {d : D} {vs ds} : DF K H v d → KDp K H vs ds → KDp K H ((k, v) :: vs) ((k, d) :: ds)
theorem KDp.mono {κ : Type} {K : PySem.W.Frag} {H H' : Hp} (e : Same H H') : ∀ {vs : List (κ × V)} {ds : List (κ × D)}, KDp K H vs ds → KDp K H' vs ds
  | _, _, .nil => .nil
  | _, _, .cons h t => .cons (DF_mono e _ _ h) (KDp.mono e t)

mutual
def keyN : D → Option NestedKey
  | .none => some .none
  | .bool b => some (.num (if b = true then 1 else 0))
  | .int i => some (.num i)
  | .str x => some (.text x)
  | .tuple ds => (keyNs ds).map .tup
  | _ => none
def keyNs : List D → Option (List NestedKey)
  | [] => some []
  | d :: ds => (keyN d).bind fun k => (keyNs ds).map (k :: ·)
end
def dnO (w : World) (a : Addr) (xs : List (NestedKey × Addr × Value)) : HO := .ext fun h => xs.length ≤ sizeLine ∧ (a == sysModules) = false ∧
  ∃ o es ep, h.get? a = some o ∧ o.ExactDict ∧ o.data = .dict es ep ∧ es.toList = xs.map (fun x => (⟨x.1.hash w, .ref x.2.1, x.2.2⟩ : DictEntry)) ∧ (xs.map (·.1)).Nodup
inductive KeyAll (K : PySem.W.Frag) (H : Hp) : List (NestedKey × Addr × Value) → List D → Prop
  | nil : KeyAll K H [] []
  | cons {k : NestedKey} {p : Addr} {v : Value} {d : D} {xs : List (NestedKey × Addr × Value)} {ds : List D} : keyN d = some k → k.depth ≤ 8 → DF K H (.ref p) d → KeyAll K H xs ds → KeyAll K H ((k, p, v) :: xs) (d :: ds)
theorem KeyAll.mono {K : PySem.W.Frag} {H H' : Hp} (e : Same H H') : ∀ {xs : List (NestedKey × Addr × Value)} {ds : List D}, KeyAll K H xs ds → KeyAll K H' xs ds
  | _, _, .nil => .nil
  | _, _, .cons a b c t => .cons a b (DF_mono e _ _ c) (KeyAll.mono e t)
inductive KeysQ (K : PySem.W.Frag) (F : Hp) : List (NestedKey × Addr × Value) → List D → List V → Prop
  | nil : KeysQ K F [] [] []
  | cons {k : NestedKey} {p : Addr} {u : Value} {v : V} {d : D} {xs : List (NestedKey × Addr × Value)} {ds : List D} {vs : List V} : keyN d = some k → k.depth ≤ 8 → DF K F (.ref p) d → RelV v u → KeysQ K F xs ds vs → KeysQ K F ((k, p, u) :: xs) (d :: ds) (v :: vs)
theorem KeysQ.mono {K : PySem.W.Frag} {F F' : Hp} (e : Same F F') : ∀ {xs : List (NestedKey × Addr × Value)} {ds : List D} {vs : List V}, KeysQ K F xs ds vs → KeysQ K F' xs ds vs
  | _, _, _, .nil => .nil
  | _, _, _, .cons a b c r t => .cons a b (DF_mono e _ _ c) r (KeysQ.mono e t)
def NR (K : PySem.W.Frag) (ow : Option World) (H F : Hp) (s : Shp) (a : Addr) (vs : List V) (own : List Addr) : Prop :=
  match s with
  | .l => own = [a] ∧ H a = some (.lst vs)
  | .t => (own = [a] ∧ H a = some (.tup vs)) ∨ (own = [] ∧ SqT K F a vs)
  | .k ks => own = [a] ∧ ks.length = vs.length ∧ H a = some (.dK (ks.zip vs))
  | .q ks => own = [a] ∧ ∃ w xs, ow = some w ∧ H a = some (dnO w a xs) ∧ KeysQ K F xs ks vs
  | .o c fs => fs.length = vs.length ∧ ∃ C dx, own = [a, dx] ∧ PySem.W.nsIn K mainGlobals c = some (some (.ref C)) ∧ H a = some (.ins C dx (fs.zip vs)) ∧ H dx = some (.own a)
  | .e fs => own = [a] ∧ fs.length = vs.length ∧ H a = some (.xd (fs.zip vs))
  | .lf => own = [] ∧ F a = some (.lst vs)
  | .v => own = [] ∧ SqL K F a vs
  | .kf ks => own = [] ∧ ks.length = vs.length ∧ ∃ o, F a = some (.frz o (.dK (ks.zip vs)))
  | .x c fs => fs.length = vs.length ∧ ∃ C, PySem.W.nsIn K mainGlobals c = some (some (.ref C)) ∧ ((own = [a] ∧ fs = [] ∧ H a = some (exV a (.ref C) none)) ∨ ∃ dx, own = [a, dx] ∧ H a = some (exV a (.ref C) (some dx)) ∧ H dx = some (.xd (fs.zip vs)))
theorem NR.mono {K : PySem.W.Frag} {ow : Option World} {H H' F F' : Hp} {s : Shp} {a : Addr} {vs : List V} {own : List Addr} (r : NR K ow H F s a vs own) (h : ∀ b o, b ∈ own → H b = some o → H' b = some o) (f : Same F F') : NR K ow H' F' s a vs own := by
  cases s with
  | l => obtain ⟨rfl, r⟩ := r; exact ⟨rfl, h _ _ (List.mem_singleton.mpr rfl) r⟩
  | t =>
    rcases r with ⟨rfl, r⟩ | ⟨rfl, r⟩
    · exact .inl ⟨rfl, h _ _ (List.mem_singleton.mpr rfl) r⟩
    · exact .inr ⟨rfl, Same.seqT f r⟩
  | k ks => obtain ⟨rfl, l, r⟩ := r; exact ⟨rfl, l, h _ _ (List.mem_singleton.mpr rfl) r⟩
  | q ks => obtain ⟨rfl, w, xs, e, r, kq⟩ := r; exact ⟨rfl, w, xs, e, h _ _ (List.mem_singleton.mpr rfl) r, kq.mono f⟩
  | o c fs => obtain ⟨l, C, dx, rfl, n, r, r2⟩ := r; exact ⟨l, C, dx, rfl, n, h _ _ (List.mem_cons_self ..) r, h _ _ (by simp) r2⟩
  | e fs => obtain ⟨rfl, l, r⟩ := r; exact ⟨rfl, l, h _ _ (List.mem_singleton.mpr rfl) r⟩
  | lf => obtain ⟨rfl, r⟩ := r; exact ⟨rfl, f _ _ r⟩
  | v => obtain ⟨rfl, r⟩ := r; exact ⟨rfl, f.seq r⟩
  | kf ks => obtain ⟨rfl, l, o, r⟩ := r; exact ⟨rfl, l, o, f _ _ r⟩
  | x c fs =>
    obtain ⟨l, C, n, r⟩ := r
    refine ⟨l, C, n, ?_⟩
    rcases r with ⟨rfl, e, r⟩ | ⟨dx, rfl, r, r2⟩
    · exact .inl ⟨rfl, e, h _ _ (List.mem_cons_self ..) r⟩
    · exact .inr ⟨dx, rfl, h _ _ (List.mem_cons_self ..) r, h _ _ (by simp) r2⟩
mutual
inductive OR (K : PySem.W.Frag) (ow : Option World) (H F : Hp) : V → T → List Addr → Prop
  | d {v : V} {d : D} : DF K F v d → OR K ow H F v (.d d) []
  | n {s : Shp} {a : Addr} {vs : List V} {ts : List T} {own l : List Addr} : NR K ow H F s a vs own → ORs K ow H F vs ts l → (own ++ l).Nodup → OR K ow H F (.ref a) (.n s ts) (own ++ l)
inductive ORs (K : PySem.W.Frag) (ow : Option World) (H F : Hp) : List V → List T → List Addr → Prop
  | nil : ORs K ow H F [] [] []
  | cons {v : V} {t : T} {l m : List Addr} {vs : List V} {ts : List T} : OR K ow H F v t l → ORs K ow H F vs ts m → ORs K ow H F (v :: vs) (t :: ts) (l ++ m)
end
section
variable {K : PySem.W.Frag} {ow : Option World} {H H' F F' : Hp}
mutual
theorem OR_mono (f : Same F F') : ∀ (t : T) (v : V) (l : List Addr), (∀ b o, b ∈ l → H b = some o → H' b = some o) → OR K ow H F v t l → OR K ow H' F' v t l
  | .d d, _, _, _, h => by
    cases h with
    | d h => exact .d (DF_mono f _ _ h)
  | .n s ts, _, _, e, h => by
    cases h with
    | n h1 h2 h3 => exact .n (h1.mono (fun b o hb => e b o (List.mem_append_left _ hb)) f) (ORs_mono f ts _ _ (fun b o hb => e b o (List.mem_append_right _ hb)) h2) h3
theorem ORs_mono (f : Same F F') : ∀ (ts : List T) (vs : List V) (l : List Addr), (∀ b o, b ∈ l → H b = some o → H' b = some o) → ORs K ow H F vs ts l → ORs K ow H' F' vs ts l
  | [], _, _, _, h => by cases h; exact .nil
  | t :: ts, _, _, e, h => by
    cases h with
    | cons h1 h2 => exact .cons (OR_mono f t _ _ (fun b o hb => e b o (List.mem_append_left _ hb)) h1) (ORs_mono f ts _ _ (fun b o hb => e b o (List.mem_append_right _ hb)) h2)
end
theorem OR.nodup {v : V} {t : T} {l : List Addr} (h : OR K ow H F v t l) : l.Nodup := by
  cases h with
  | d _ => exact List.nodup_nil
  | n _ _ h => exact h
end
def SlotRep (K : PySem.W.Frag) (G : GC) (H F : Hp) (x : Option V) (c : C) (fp : List Addr) : Prop :=
  match c with
  | .und => fp = []
  | .val d => fp = [] ∧ ∃ v, x = some v ∧ DF K F v d
  | .brw d => fp = [] ∧ ∃ v, x = some v ∧ Dp K G.kp v d
  | .lst ds => ∃ a vs, fp = [a] ∧ x = some (.ref a) ∧ H a = some (.lst vs) ∧ DFAll K F vs ds
  | .dK ds => ∃ a vs, fp = [a] ∧ x = some (.ref a) ∧ H a = some (.dK vs) ∧ KDp K F vs ds
  | .dT ds => ∃ a vs, fp = [a] ∧ x = some (.ref a) ∧ H a = some (.dT vs) ∧ KDp K F vs ds
  | .dN ks => ∃ a w xs, fp = [a] ∧ x = some (.ref a) ∧ G.w = some w ∧ H a = some (dnO w a xs) ∧ KeyAll K F xs ks
  | .ro b t => fp = [] ∧ ∃ v l, x = some v ∧ OR K G.w G.kp F v t l ∧ (b = true → ∀ a vs, a ∈ l → G.kp a = some (.lst vs) → F a = some (.lst vs))
  | .pin j => fp = [] ∧ ∃ a l, G.Ws[j]? = some (a, l) ∧ x = some (.ref a)
  | .al j i => fp = [] ∧ ∃ a l vs v, G.Ws[j]? = some (a, l) ∧ F a = some (.lst vs) ∧ vs[i]? = some v ∧ x = some v
  | .al2 j k i => fp = [] ∧ ∃ a l vs b us v, G.Ws[j]? = some (a, l) ∧ F a = some (.lst vs) ∧ vs[k]? = some (.ref b) ∧ F b = some (.lst us) ∧ us[i]? = some v ∧ x = some v
  | .own m t => ∃ v, x = some v ∧ OR K G.w H F v t fp ∧ ∀ j, m = some j → ∃ a l, G.Ws[j]? = some (a, l) ∧ v = .ref a ∧ ∀ b, b ∈ fp → b ∈ l ∨ G.H0 b = none

structure Rel (K : PySem.W.Frag) (G : GC) (env : List C) (σ : St) (H F : Hp) (fp : Nat → List Addr) : Prop where
  len : env.length = σ.length
  slot : ∀ i c, env[i]? = some c → SlotRep K G H F (σ[i]?.join) c (fp i)
  dj : ∀ i j a, a ∈ fp i → a ∈ fp j → i = j
  own : ∀ i a, a ∈ fp i → F a = none ∧ H a ≠ none ∧ (G.H0 a = none ∨ (a ∈ G.W ∧ ∃ c, env[i]? = some c ∧ c.mu = true))
  sub : Same F H
  new : ∀ a o, F a = some o → G.F0 a = some o ∨ G.H0 a = none
  old : Same G.F0 F
  keep : ∀ a o, G.H0 a = some o → a ∉ G.W → H a = some o
  alive : ∀ a, G.H0 a ≠ none → H a ≠ none

structure Ext (H F H' F' : Hp) : Prop where
  h : Same H H'
  f : Same F F'
  sub : Same F' H'
  new : ∀ a o, F' a = some o → F a = some o ∨ H a = none
section
variable {K : PySem.W.Frag} {G : GC} {env : List C} {σ : St} {H F H' F' H1 F1 : Hp} {fp : Nat → List Addr}
theorem Ext.refl (h : Same F H) : Ext H F H F := ⟨Same.refl _, Same.refl _, h, fun _ _ e => .inl e⟩
theorem Ext.trans (a : Ext H F H1 F1) (b : Ext H1 F1 H' F') : Ext H F H' F' :=
  ⟨a.h.trans b.h, a.f.trans b.f, b.sub, fun x o e => by
    rcases b.new x o e with q | q
    · exact a.new x o q
    · exact .inr (a.h.free q)⟩
theorem Ext.frozen {p : Addr} {o : HO} (h : Same F H) (np : H p = none) : Ext H F (upd H p o) (upd F p o) := by
  have nf : F p = none := h.free np
  refine ⟨fun b x e => ?_, fun b x e => ?_, fun b x e => ?_, fun b x e => ?_⟩
  · rw [upd_ne (ne_of_none e np)]; exact e
  · rw [upd_ne (ne_of_none e nf)]; exact e
  · by_cases hb : b = p
    · subst hb; rw [upd_same] at e ⊢; exact e
    · rw [upd_ne hb] at e ⊢; exact h _ _ e
  · by_cases hb : b = p
    · subst hb; exact .inr np
    · rw [upd_ne hb] at e; exact .inl e
theorem Ext.laid {p : Addr} {o : HO} (h : Same F H) (np : H p = none) : Ext H F (upd H p o) F := by
  refine ⟨fun b x e => ?_, Same.refl _, fun b x e => ?_, fun b x e => .inl e⟩
  · rw [upd_ne (ne_of_none e np)]; exact e
  · rw [upd_ne (ne_of_none (h _ _ e) np)]; exact h _ _ e
theorem Rel.ext (R : Rel K G env σ H F fp) (E : Ext H F H' F') : Rel K G env σ H' F' fp where
  len := R.len
  slot := fun i c e => by
    have q := R.slot i c e
    cases c with
    | und => exact q
    | val d => obtain ⟨q1, v, q2, q3⟩ := q; exact ⟨q1, v, q2, DF_mono E.f _ _ q3⟩
    | brw d => exact q
    | lst ds => obtain ⟨a, vs, q1, q2, q3, q4⟩ := q; exact ⟨a, vs, q1, q2, E.h _ _ q3, DFAll_mono E.f _ _ q4⟩
    | dK ds => obtain ⟨a, vs, q1, q2, q3, q4⟩ := q; exact ⟨a, vs, q1, q2, E.h _ _ q3, q4.mono E.f⟩
    | dT ds => obtain ⟨a, vs, q1, q2, q3, q4⟩ := q; exact ⟨a, vs, q1, q2, E.h _ _ q3, q4.mono E.f⟩
    | dN ds => obtain ⟨a, w, xs, q1, q2, q5, q3, q4⟩ := q; exact ⟨a, w, xs, q1, q2, q5, E.h _ _ q3, q4.mono E.f⟩
    | pin _ => exact q
    | al j i => obtain ⟨q0, a, l, vs, v, q1, q2, q3⟩ := q; exact ⟨q0, a, l, vs, v, q1, E.f _ _ q2, q3⟩
    | al2 j k i => obtain ⟨q0, a, l, vs, b, us, v, q1, q2, q3, q4, q5⟩ := q; exact ⟨q0, a, l, vs, b, us, v, q1, E.f _ _ q2, q3, E.f _ _ q4, q5⟩
    | ro b t => obtain ⟨q0, v, l, q1, q2, q3⟩ := q; exact ⟨q0, v, l, q1, OR_mono E.f _ _ _ (fun _ _ _ h => h) q2, fun hb a vs ha hk => E.f _ _ (q3 hb a vs ha hk)⟩
    | own m t => obtain ⟨v, q1, q2, q3⟩ := q; exact ⟨v, q1, OR_mono E.f _ _ _ (fun b o _ => E.h b o) q2, q3⟩
  dj := R.dj
  own := fun i a ha => by
    obtain ⟨h1, h2, h3⟩ := R.own i a ha
    refine ⟨?_, ?_, h3⟩
    · cases q : F' a with
      | none => rfl
      | some o =>
        rcases E.new a o q with z | z
        · rw [h1] at z; cases z
        · exact absurd z h2
    · cases q : H a with
      | none => exact absurd q h2
      | some o => rw [E.h _ _ q]; intro z; cases z
  sub := E.sub
  new := fun a o e => by
    rcases E.new a o e with z | z
    · exact R.new a o z
    · right
      cases q : G.H0 a with
      | none => rfl
      | some u => exact absurd z (R.alive a (by rw [q]; intro z; cases z))
  old := R.old.trans E.f
  keep := fun a o e hw => E.h _ _ (R.keep a o e hw)
  alive := fun a e => by
    have q := R.alive a e
    cases z : H a with
    | none => exact absurd z q
    | some o => rw [E.h _ _ z]; intro y; cases y
theorem Rel.kpSame (R : Rel K G env σ H F fp) : Same G.kp H := fun a o e => by
  unfold GC.kp at e
  by_cases hw : a ∈ G.W
  · rw [if_pos hw] at e; cases e
  · rw [if_neg hw] at e; exact R.keep a o e hw
end

def LenOk (K : PySem.W.Frag) (H : Hp) : Prop := ∀ a xs, (SqL K H a xs ∨ SqT K H a xs) → xs.length ≤ sizeLine
def stb (G : GC) (F : Hp) : Hp := fun a => (F a).or (G.kp a)
def RepK (K : PySem.W.Frag) (G : GC) (k : RK) (H : Hp) (H' F' : Hp) (v : V) (d : D) : Prop :=
  match k with
  | .vw => Dp K H' v d
  | .vl => DF K F' v d ∨ ∃ a vs ds, v = .ref a ∧ d = .list ds ∧ H' a = some (.lst vs) ∧ DFAll K F' vs ds
  | .sv => Dp K (stb G F') v d
  | .fz => DF K F' v d
  | .ow => ∃ a vs ds, v = .ref a ∧ d = .list ds ∧ H a = none ∧ H' a = some (.lst vs) ∧ F' a = none ∧ DFAll K F' vs ds

structure DE (X : Cx) (G : GC) (k : RK) (e : Expr) (f : List C → Option D) : Prop where
  ex : ∃ t, PE X e t ∧ ∀ (σ : St) (H F : Hp) (fp : Nat → List Addr) (env : List C) (d : D) (Q : VK), Rel X.K G env σ H F fp → f env = some d →
    (∀ v H' F', Ext H F H' F' → RepK X.K G k H H' F' v d → Q v H') → t σ H Q
def RepA (K : PySem.W.Frag) (G : GC) (k : RK) (H' F' : Hp) (v : V) (d : D) : Prop :=
  match k with
  | .vw => Dp K H' v d
  | .vl => DF K F' v d ∨ ∃ a vs ds, v = .ref a ∧ d = .list ds ∧ H' a = some (.lst vs) ∧ DFAll K F' vs ds
  | .sv => Dp K (stb G F') v d
  | _ => DF K F' v d
def RepKs (K : PySem.W.Frag) (G : GC) (H' F' : Hp) : List RK → List V → List D → Prop
  | [], [], [] => True
  | k :: ks, v :: vs, d :: ds => RepA K G k H' F' v d ∧ RepKs K G H' F' ks vs ds
  | _, _, _ => False
structure DA (X : Cx) (G : GC) (ks : List RK) (es : List Expr) (f : List C → Option (List D)) : Prop where
  ex : ∃ t, PA X es t ∧ ∀ (σ : St) (H F : Hp) (fp : Nat → List Addr) (env : List C) (ds : List D) (Q : List V → Hp → Prop), Rel X.K G env σ H F fp → f env = some ds →
    (∀ vs H' F', Ext H F H' F' → RepKs X.K G H' F' ks vs ds → Q vs H') → t σ H Q
structure DTs (X : Cx) (G : GC) (e : Expr) (f : List C → Option Bool) : Prop where
  ex : ∃ t, PT X e t ∧ ∀ (σ : St) (H F : Hp) (fp : Nat → List Addr) (env : List C) (b : Bool) (Q : Bool → Hp → Prop), Rel X.K G env σ H F fp → f env = some b →
    (∀ H' F', Ext H F H' F' → Q b H') → t σ H Q
end DL
namespace DL
open PySem PySem.Spec L2

def RK.le : RK → RK → Bool
  | .ow, _ => true
  | .fz, .fz => true | .fz, .sv => true | .fz, .vl => true | .fz, .vw => true
  | .vl, .vl => true | .vl, .vw => true
  | .sv, .sv => true | .sv, .vw => true
  | .vw, .vw => true
  | _, _ => false
def RK.arg : RK → Bool
  | .ow => false
  | _ => true

section
variable {K : PySem.W.Frag} {G : GC} {H H1 F1 H' F F' : Hp} {v : V} {d : D}
theorem stb_f : Same F (stb G F) := fun a o e => by unfold stb; rw [e]; rfl
theorem stb_kp (sub : Same F H) (kp : Same G.kp H) : Same G.kp (stb G F) := fun a o e => by
  unfold stb
  cases q : F a with
  | none => exact e
  | some u =>
    have h1 := sub _ _ q
    rw [kp _ _ e] at h1
    cases h1; rfl
theorem stb_sub (sub : Same F H) (kp : Same G.kp H) : Same (stb G F) H := fun a o e => by
  unfold stb at e
  cases q : F a with
  | none => rw [q] at e; exact kp _ _ e
  | some u => rw [q] at e; cases e; exact sub _ _ q
theorem stb_mono (sub : Same F' H') (kp : Same G.kp H') (f : Same F F') : Same (stb G F) (stb G F') := fun a o e => by
  unfold stb at e
  cases q : F a with
  | none => rw [q] at e; exact stb_kp sub kp _ _ e
  | some u => rw [q] at e; cases e; exact stb_f _ _ (f _ _ q)
theorem RepA.ext {k : RK} (E : Ext H F H' F') (kp : Same G.kp H') (r : RepA K G k H F v d) : RepA K G k H' F' v d := by
  cases k with
  | vw => exact Dp_mono E.h _ _ r
  | vl =>
    rcases r with r | ⟨a, vs, ds, e1, e2, e3, e4⟩
    · exact .inl (DF_mono E.f _ _ r)
    · exact .inr ⟨a, vs, ds, e1, e2, E.h _ _ e3, DFAll_mono E.f _ _ e4⟩
  | sv => exact Dp_mono (stb_mono E.sub kp E.f) _ _ r
  | fz => exact DF_mono E.f _ _ r
  | ow => exact DF_mono E.f _ _ r
theorem RepA.now {k : RK} (sub : Same F H) (kp : Same G.kp H) (r : RepA K G k H F v d) : Dp K H v d := by
  cases k with
  | vw => exact r
  | vl =>
    rcases r with r | ⟨a, vs, ds, rfl, rfl, e3, e4⟩
    · exact Dp_mono sub _ _ (DF.dp _ _ r)
    · exact .lst (.inl (.inl e3)) (DpAll_mono sub _ _ (DFAll.dp _ _ e4))
  | sv => exact Dp_mono (stb_sub sub kp) _ _ r
  | fz => exact Dp_mono sub _ _ (DF.dp _ _ r)
  | ow => exact Dp_mono sub _ _ (DF.dp _ _ r)
theorem vl_list {ds : List D} (sub : Same F H) (r : RepA K G .vl H F v (.list ds)) : ∃ a vs, v = .ref a ∧ H a = some (.lst vs) ∧ DFAll K F vs ds := by
  rcases r with r | ⟨a, vs, ds', e1, e2, e3, e4⟩
  · cases r with
    | lst h1 h2 => exact ⟨_, _, rfl, sub _ _ h1, h2⟩
  · cases e2
    exact ⟨a, vs, e1, e3, e4⟩
theorem vl_tup {ds : List D} (sub : Same F H) (r : RepA K G .vl H F v (.tuple ds)) : ∃ a vs, v = .ref a ∧ SqT K H a vs ∧ DFAll K F vs ds := by
  rcases r with r | ⟨a, vs, ds', e1, e2, e3, e4⟩
  · cases r with
    | tup h1 h2 => exact ⟨_, _, rfl, Same.seqT sub h1, h2⟩
  · cases e2
theorem vl_int {i : Int} (r : RepA K G .vl H F v (.int i)) : v = .int i := by
  rcases r with r | ⟨a, vs, ds', e1, e2, e3, e4⟩
  · cases r; rfl
  · cases e2
theorem vl_str {i : Str} (r : RepA K G .vl H F v (.str i)) : v = .str i := by
  rcases r with r | ⟨a, vs, ds', e1, e2, e3, e4⟩
  · cases r; rfl
  · cases e2
theorem vl_bl {i : Bool} (r : RepA K G .vl H F v (.bool i)) : v = .bl i := by
  rcases r with r | ⟨a, vs, ds', e1, e2, e3, e4⟩
  · cases r; rfl
  · cases e2
end

section
variable {X : Cx} {G : GC} {k k' : RK} {e : Expr} {f : List C → Option D}
theorem DE.conv (h : DE X G k e f) (hk : k.le k' = true) : DE X G k' e f := by
  obtain ⟨t, pt, ok⟩ := h.ex
  refine ⟨t, pt, fun σ H F fp env d Q R hf q => ok σ H F fp env d Q R hf fun v H' F' E r => ?_⟩
  have kp := (R.ext E).kpSame
  cases k with
  | ow =>
    obtain ⟨a, vs, ds, rfl, rfl, h1, h2, h3, h4⟩ := r
    have E2 : Ext H F H' (upd F' a (.lst vs)) := by
      refine ⟨E.h, fun b x e => ?_, fun b x e => ?_, fun b x e => ?_⟩
      · rw [upd_ne (ne_of_none (E.f _ _ e) h3)]; exact E.f _ _ e
      · by_cases hb : b = a
        · subst hb; rw [upd_same] at e; rw [← e]; exact h2
        · rw [upd_ne hb] at e; exact E.sub _ _ e
      · by_cases hb : b = a
        · subst hb; exact .inr h1
        · rw [upd_ne hb] at e; exact E.new _ _ e
    have m : Same F' (upd F' a (.lst vs)) := fun b x e => by
      rw [upd_ne (ne_of_none e h3)]; exact e
    have z : DF X.K (upd F' a (.lst vs)) (.ref a) (.list ds) := .lst upd_same (DFAll_mono m _ _ h4)
    cases k' with
    | vw => exact q _ H' _ E2 (Dp_mono E2.sub _ _ (DF.dp _ _ z))
    | vl => exact q _ H' _ E2 (.inl z)
    | sv => exact q _ H' _ E2 (Dp_mono stb_f _ _ (DF.dp _ _ z))
    | fz => exact q _ H' _ E2 z
    | ow => exact q _ H' F' E ⟨a, vs, ds, rfl, rfl, h1, h2, h3, h4⟩
  | fz =>
    have z : DF X.K F' v d := r
    cases k' with
    | vw => exact q _ H' _ E (Dp_mono E.sub _ _ (DF.dp _ _ z))
    | vl => exact q _ H' _ E (.inl z)
    | sv => exact q _ H' _ E (Dp_mono stb_f _ _ (DF.dp _ _ z))
    | fz => exact q _ H' _ E z
    | ow => cases hk
  | vl =>
    cases k' with
    | vw => exact q _ H' _ E (RepA.now (k := .vl) E.sub kp r)
    | vl => exact q _ H' _ E r
    | sv => cases hk
    | fz => cases hk
    | ow => cases hk
  | sv =>
    cases k' with
    | vw => exact q _ H' _ E (Dp_mono (stb_sub E.sub kp) _ _ r)
    | sv => exact q _ H' _ E r
    | vl => cases hk
    | fz => cases hk
    | ow => cases hk
  | vw =>
    cases k' with
    | vw => exact q _ H' _ E r
    | sv => cases hk
    | vl => cases hk
    | fz => cases hk
    | ow => cases hk
theorem repK_A {K : PySem.W.Frag} {H H' F' : Hp} {v : V} {d : D} (ha : k.arg = true) (r : RepK K G k H H' F' v d) : RepA K G k H' F' v d := by
  cases k with
  | ow => cases ha
  | _ => exact r
def eV (i : Nat) : List C → Option D := fun env => match env[i]? with | some (.val d) => some d | _ => none
def eL (i : Nat) : List C → Option D := fun env => match env[i]? with | some (.val d) => some d | some (.lst ds) => some (.list ds) | _ => none
def eB (i : Nat) : List C → Option D := fun env => match env[i]? with | some (.val d) => some d | some (.brw d) => some d | _ => none
def eC (d : D) : List C → Option D := fun _ => some d
theorem d_var {x : Str} {pos : Pos} (i : Nat) (h : PE X (.Name x pos) (tVar i)) : DE X G .fz (.Name x pos) (eV i) := by
  refine ⟨_, h, fun σ H F fp env d Q R hf q => ?_⟩
  unfold eV at hf
  split at hf
  · rename_i d' e
    cases hf
    obtain ⟨_, v, e1, r⟩ := R.slot i _ e
    cases z : σ[i]? with
    | none => rw [z] at e1; cases e1
    | some o =>
      rw [z] at e1
      have e2 : o = some v := e1
      subst e2
      exact ⟨v, z, q v H F (Ext.refl R.sub) r⟩
  · cases hf
theorem d_varB {x : Str} {pos : Pos} (i : Nat) (h : PE X (.Name x pos) (tVar i)) : DE X G .sv (.Name x pos) (eB i) := by
  refine ⟨_, h, fun σ H F fp env d Q R hf q => ?_⟩
  unfold eB at hf
  split at hf
  · rename_i d' e
    cases hf
    obtain ⟨_, v, e1, r⟩ := R.slot i _ e
    cases z : σ[i]? with
    | none => rw [z] at e1; cases e1
    | some o =>
      rw [z] at e1
      have e2 : o = some v := e1
      subst e2
      exact ⟨v, z, q v H F (Ext.refl R.sub) (Dp_mono stb_f _ _ (DF.dp _ _ r))⟩
  · rename_i ds e
    cases hf
    obtain ⟨_, v, e1, r⟩ := R.slot i _ e
    cases z : σ[i]? with
    | none => rw [z] at e1; cases e1
    | some o =>
      rw [z] at e1
      have e2 : o = some v := e1
      subst e2
      exact ⟨v, z, q v H F (Ext.refl R.sub) (Dp_mono (stb_kp R.sub R.kpSame) _ _ r)⟩
  · cases hf
theorem d_int {i j pos} : DE X G .fz (.Constant (.int i) j pos) (eC (.int i)) := ⟨_, pe_int, fun σ H F fp env d Q R hf q => by cases hf; exact q _ H F (Ext.refl R.sub) (.int i)⟩
theorem d_bl {b j pos} : DE X G .fz (.Constant (.bool b) j pos) (eC (.bool b)) := ⟨_, pe_bl, fun σ H F fp env d Q R hf q => by cases hf; exact q _ H F (Ext.refl R.sub) (.bl b)⟩
theorem d_str {x j pos} : DE X G .fz (.Constant (.str x) j pos) (eC (.str x)) := ⟨_, pe_str, fun σ H F fp env d Q R hf q => by cases hf; exact q _ H F (Ext.refl R.sub) (.str x)⟩
theorem opr_len {f : Value → Value → Sem Value} {r : R2} (h : OpR X f r) : OpR X f (fun x y H Q => LenOk X.K H → r x y H Q) := fun pins s σ H x y v u Q I rx ry q => h pins s σ H x y v u Q I rx ry (q fun a xs hx => by
  rcases hx with hx | hx
  · obtain ⟨_, _, _, z⟩ := I.list hx
    exact z
  · obtain ⟨_, _, _, z⟩ := I.tuple hx
    exact z)
structure DOp (X : Cx) (G : GC) (f : Value → Value → Sem Value) (ka kb kr : RK) (g : D → D → Option D) : Prop where
  ex : ∃ r, OpR X f r ∧ ∀ (H F : Hp) (vx vy : V) (dx dy d : D) (Q : VK), Same F H → Same G.kp H → LenOk X.K H → RepA X.K G ka H F vx dx → RepA X.K G kb H F vy dy → g dx dy = some d →
    (∀ v H' F', Ext H F H' F' → RepK X.K G kr H H' F' v d → Q v H') → r vx vy H Q
def e2 (g : D → D → Option D) (fa fb : List C → Option D) : List C → Option D := fun env => (fa env).bind fun x => (fb env).bind fun y => g x y
variable {op : Operator} {a b : Expr} {fa fb : List C → Option D} {pos : Pos} {ka kb kr k1 k2 : RK} {g : D → D → Option D}
theorem RepK.back {K : PySem.W.Frag} {H H1 H' F' : Hp} {v : V} {d : D} (s : Same H H1) (r : RepK K G k H1 H' F' v d) : RepK K G k H H' F' v d := by
  cases k with
  | ow =>
    obtain ⟨a, vs, ds, e1, e2, h1, r⟩ := r
    exact ⟨a, vs, ds, e1, e2, s.free h1, r⟩
  | _ => exact r
theorem two_ok {r : R2} {ta tb : TE} (o2 : ∀ (H F : Hp) (vx vy : V) (dx dy d : D) (Q : VK), Same F H → Same G.kp H → LenOk X.K H → RepA X.K G ka H F vx dx → RepA X.K G kb H F vy dy → g dx dy = some d →
    (∀ v H' F', Ext H F H' F' → RepK X.K G kr H H' F' v d → Q v H') → r vx vy H Q) (haa : ka.arg = true) (hba : kb.arg = true)
    (oa : ∀ (σ : L2.St) (H F : Hp) (fp : Nat → List Addr) (env : List C) (d : D) (Q : VK), Rel X.K G env σ H F fp → fa env = some d → (∀ v H' F', Ext H F H' F' → RepK X.K G ka H H' F' v d → Q v H') → ta σ H Q)
    (ob : ∀ (σ : L2.St) (H F : Hp) (fp : Nat → List Addr) (env : List C) (d : D) (Q : VK), Rel X.K G env σ H F fp → fb env = some d → (∀ v H' F', Ext H F H' F' → RepK X.K G kb H H' F' v d → Q v H') → tb σ H Q)
    {σ : L2.St} {H F : Hp} {fp : Nat → List Addr} {env : List C} {d : D} {Q : VK} (R : Rel X.K G env σ H F fp) (hf : e2 g fa fb env = some d) (q : ∀ v H' F', Ext H F H' F' → RepK X.K G kr H H' F' v d → Q v H') :
    tOp (fun x y H Q => LenOk X.K H → r x y H Q) ta tb σ H Q := by
  unfold e2 at hf
  cases h1 : fa env with
  | none => rw [h1] at hf; cases hf
  | some x =>
    cases h2 : fb env with
    | none => rw [h1, h2] at hf; cases hf
    | some y =>
      rw [h1, h2] at hf
      refine oa σ H F fp env x _ R h1 fun vx H1 F1 E1 r1 => ?_
      refine ob σ H1 F1 fp env y _ (R.ext E1) h2 fun vy H2 F2 E2 r2 => ?_
      intro hl
      have kp2 := ((R.ext E1).ext E2).kpSame
      exact o2 H2 F2 vx vy x y d Q E2.sub kp2 hl ((repK_A haa r1).ext E2 kp2) (repK_A hba r2) hf fun v H' F' E3 r3 => q v H' F' ((E1.trans E2).trans E3) (r3.back (E1.h.trans E2.h))
theorem d_bin (o : DOp X G (binaryOp op) ka kb kr g) (ha : DE X G k1 a fa) (hb : DE X G k2 b fb) (h1 : k1.le ka = true := by rfl) (h2 : k2.le kb = true := by rfl) (haa : ka.arg = true := by rfl) (hba : kb.arg = true := by rfl) :
    DE X G kr (.BinOp a op b pos) (e2 g fa fb) := by
  obtain ⟨r, or, o2⟩ := o.ex
  obtain ⟨ta, pa, oa⟩ := (ha.conv h1).ex
  obtain ⟨tb, pb, ob⟩ := (hb.conv h2).ex
  exact ⟨_, pe_op (opr_len or) pa pb, fun σ H F fp env d Q R hf q => two_ok o2 haa hba oa ob R hf q⟩
theorem d_cmp {op : CmpOp} (o : DOp X G (compareOp op) ka kb kr g) (ha : DE X G k1 a fa) (hb : DE X G k2 b fb) (hm : behindInMarks op b = false) (h1 : k1.le ka = true := by rfl) (h2 : k2.le kb = true := by rfl) (haa : ka.arg = true := by rfl) (hba : kb.arg = true := by rfl) :
    DE X G kr (.Compare a [op] [b] pos) (e2 g fa fb) := by
  obtain ⟨r, or, o2⟩ := o.ex
  obtain ⟨ta, pa, oa⟩ := (ha.conv h1).ex
  obtain ⟨tb, pb, ob⟩ := (hb.conv h2).ex
  exact ⟨_, pe_cmpR (opr_len or) pa pb hm, fun σ H F fp env d Q R hf q => two_ok o2 haa hba oa ob R hf q⟩
def asB : Option D → Option Bool
  | some (.bool b) => some b
  | _ => none
def tB (f : List C → Option D) : List C → Option Bool := fun env => asB (f env)
theorem asB_some {o : Option D} {b : Bool} (h : asB o = some b) : o = some (.bool b) := by
  cases o with
  | none => cases h
  | some d => cases d <;> first | (cases h; rfl) | cases h
theorem repK_bl {K : PySem.W.Frag} {H H' F' : Hp} {v : V} {c : Bool} (ha : k.arg = true) (r : RepK K G k H H' F' v (.bool c)) : v = .bl c := by
  cases k with
  | ow => cases ha
  | vw => cases r; rfl
  | vl => exact vl_bl (G := G) (H := H') (F := F') r
  | sv => cases r; rfl
  | fz => cases r; rfl
theorem dt_cmp {op : CmpOp} (o : DOp X G (compareOp op) ka kb .fz g) (ha : DE X G k1 a fa) (hb : DE X G k2 b fb) (hm : behindInMarks op b = false) (h1 : k1.le ka = true := by rfl) (h2 : k2.le kb = true := by rfl) (haa : ka.arg = true := by rfl) (hba : kb.arg = true := by rfl) :
    DTs X G (.Compare a [op] [b] pos) (tB (e2 g fa fb)) := by
  obtain ⟨r, or, o2⟩ := o.ex
  obtain ⟨ta, pa, oa⟩ := (ha.conv h1).ex
  obtain ⟨tb, pb, ob⟩ := (hb.conv h2).ex
  refine ⟨_, pt_cmpR (opr_len or) pa pb hm, fun σ H F fp env d Q R hf q => ?_⟩
  exact two_ok (r := r) (Q := fun x H' => ∃ k, x = .bl k ∧ Q k H') o2 haa hba oa ob R (asB_some hf) fun v H' F' E r => ⟨d, repK_bl (k := .fz) (G := G) (H := H) rfl r, q H' F' E⟩
theorem dt_val (h : DE X G k e f) (h1 : k.le .vw = true := by rfl) (he : ∀ whole, isTrue e X.env whole = (do let v ← whole; standAt e.pos; holding [v] (truthy v)) := by intro _; rfl) : DTs X G e (tB f) := by
  obtain ⟨t, pt, ok⟩ := (h.conv h1).ex
  refine ⟨_, pt_val pt he, fun σ H F fp env d Q R hf q => ?_⟩
  exact ok σ H F fp env _ _ R (asB_some hf) fun v H' F' E r => ⟨d, repK_bl (k := .vw) (G := G) (H := H) rfl r, q H' F' E⟩
def tNotF (f : List C → Option Bool) : List C → Option Bool := fun env => (f env).map (!·)
theorem dt_not {f : List C → Option Bool} (h : DTs X G a f) : DTs X G (.UnaryOp .Not a pos) (tNotF f) := by
  obtain ⟨t, pt, ok⟩ := h.ex
  refine ⟨_, pt_not pt, fun σ H F fp env d Q R hf q => ?_⟩
  unfold tNotF at hf
  cases z : f env with
  | none => rw [z] at hf; cases hf
  | some c =>
    rw [z] at hf; cases hf
    exact ok σ H F fp env c _ R z fun H' F' E => q H' F' E
structure DW (X : Cx) (G : GC) (e : Expr) (f : List C → Option Bool) : Prop where
  ex : ∃ t, PW X e t ∧ ∀ (σ : L2.St) (H F : Hp) (fp : Nat → List Addr) (env : List C) (b : Bool) (Q : Bool → Hp → Prop), Rel X.K G env σ H F fp → f env = some b →
    (∀ H' F', Ext H F H' F' → Q b H') → t σ H Q
theorem DW.t {f : List C → Option Bool} (h : DW X G e f) : DTs X G e f := let ⟨t, p, o⟩ := h.ex; ⟨t, p.pt, o⟩
def tAndF (f g : List C → Option Bool) : List C → Option Bool := fun env => (f env).bind fun c => if c = true then g env else some false
def tOrF (f g : List C → Option Bool) : List C → Option Bool := fun env => (f env).bind fun c => if c = true then some true else g env
variable {f1 f2 : List C → Option Bool} {rest : List Expr}
theorem dw_or1 (h : DTs X G a f1) : DW X G (.BoolOp .Or [a] pos) f1 := let ⟨t, p, o⟩ := h.ex; ⟨t, pw_or1 p, o⟩
theorem dw_or (h : DTs X G a f1) (h2 : DW X G (.BoolOp .Or (b :: rest) pos) f2) : DW X G (.BoolOp .Or (a :: b :: rest) pos) (tOrF f1 f2) := by
  obtain ⟨t, p, o⟩ := h.ex
  obtain ⟨t2, p2, o2⟩ := h2.ex
  refine ⟨_, pw_or p p2, fun σ H F fp env d Q R hf q => ?_⟩
  unfold tOrF at hf
  cases z : f1 env with
  | none => rw [z] at hf; cases hf
  | some c =>
    rw [z] at hf
    refine o σ H F fp env c _ R z fun H1 F1 E1 => ?_
    cases c with
    | true =>
      cases hf
      exact iteT (q H1 F1 E1)
    | false =>
      refine iteF ?_
      exact o2 σ H1 F1 fp env d _ (R.ext E1) hf fun H' F' E => q H' F' (E1.trans E)
def eAnd (f g : List C → Option D) : List C → Option D := fun env => (asB (f env)).bind fun c => if c = true then g env else some (.bool false)
def eOr (f g : List C → Option D) : List C → Option D := fun env => (asB (f env)).bind fun c => if c = true then some (.bool true) else g env
def eNot (f : List C → Option D) : List C → Option D := fun env => (asB (f env)).map fun c => .bool (!c)
theorem d_one {op} (h : DE X G k a fa) : DE X G k (.BoolOp op [a] pos) fa := let ⟨t, p, o⟩ := h.ex; ⟨t, pe_one p, o⟩
theorem d_and (h : DE X G k1 a fa) (h2 : DE X G k2 (.BoolOp .And (b :: rest) pos) fb) (hk : k1.le .vw = true := by rfl) (hk2 : k2.le .fz = true := by rfl) : DE X G .fz (.BoolOp .And (a :: b :: rest) pos) (eAnd fa fb) := by
  obtain ⟨t, p, o⟩ := (h.conv hk).ex
  obtain ⟨t2, p2, o2⟩ := (h2.conv hk2).ex
  refine ⟨_, pe_and p p2, fun σ H F fp env d Q R hf q => ?_⟩
  unfold eAnd at hf
  cases z : asB (fa env) with
  | none => rw [z] at hf; cases hf
  | some c =>
    rw [z] at hf
    refine o σ H F fp env _ _ R (asB_some z) fun v H1 F1 E1 r => ⟨c, repK_bl (k := .vw) (G := G) (H := H) rfl r, ?_⟩
    cases c with
    | true =>
      refine iteT ?_
      exact o2 σ H1 F1 fp env d _ (R.ext E1) hf fun v H' F' E r => q v H' F' (E1.trans E) r
    | false =>
      cases hf
      exact iteF (q _ H1 F1 E1 (.bl false))
theorem d_not (h : DE X G k1 a fa) (hk : k1.le .vw = true := by rfl) : DE X G .fz (.UnaryOp .Not a pos) (eNot fa) := by
  obtain ⟨t, p, o⟩ := (h.conv hk).ex
  refine ⟨_, pe_not p, fun σ H F fp env d Q R hf q => ?_⟩
  unfold eNot at hf
  cases z : asB (fa env) with
  | none => rw [z] at hf; cases hf
  | some c =>
    rw [z] at hf; cases hf
    exact o σ H F fp env _ _ R (asB_some z) fun v H1 F1 E1 r => ⟨c, repK_bl (k := .vw) (G := G) (H := H) rfl r, q _ H1 F1 E1 (.bl _)⟩
end
end DL
namespace DL
open PySem PySem.Spec L2

section
variable {X : Cx} {G : GC}
def gAddI : D → D → Option D | .int i, .int j => some (.int (i + j)) | _, _ => none
def gSub : D → D → Option D | .int i, .int j => some (.int (i - j)) | _, _ => none
def gMulI : D → D → Option D | .int i, .int j => if i.natAbs.log2 + j.natAbs.log2 < 1000000 then some (.int (i * j)) else none | _, _ => none
def gDiv : D → D → Option D | .int i, .int j => if 0 < j ∧ j.natAbs.log2 < 9000 then some (.int (i / j)) else none | _, _ => none
def gMod : D → D → Option D | .int i, .int j => if 0 < j then some (.int (i % j)) else none | _, _ => none
def gPow : D → D → Option D | .int i, .int j => if 0 ≤ j ∧ j ≤ 1000000 ∧ i.natAbs < 2 ^ 64 then some (.int (i ^ j.toNat)) else none | _, _ => none
def gLt : D → D → Option D | .int i, .int j => some (.bool (decide (i < j))) | _, _ => none
def gLe : D → D → Option D | .int i, .int j => some (.bool (decide (i ≤ j))) | _, _ => none
def gGt : D → D → Option D | .int i, .int j => some (.bool (decide (j < i))) | _, _ => none
def gGe : D → D → Option D | .int i, .int j => some (.bool (decide (j ≤ i))) | _, _ => none

theorem dop_int {f : Value → Value → Sem Value} {C : Int → Int → Prop} [∀ i j, Decidable (C i j)] {r : Int → Int → V} {r' : Int → Int → D} (h : OpR X f (rI C r)) {g : D → D → Option D}
    (hg : ∀ x y d, g x y = some d → ∃ i j, x = .int i ∧ y = .int j ∧ C i j ∧ d = r' i j) (hr : ∀ K F i j, DF K F (r i j) (r' i j)) : DOp X G f .vl .vl .fz g :=
  ⟨_, h, fun H F vx vy dx dy d Q sub kp hl rx ry hd q => by
    obtain ⟨i, j, rfl, rfl, hC, rfl⟩ := hg _ _ _ hd
    have e1 := vl_int rx
    have e2 := vl_int ry
    subst e1 e2
    exact ⟨i, j, rfl, rfl, hC, q _ H F (Ext.refl sub) (hr _ _ _ _)⟩⟩
theorem rI_of0 {f : Value → Value → Sem Value} {r : Int → Int → V} (h : OpR X f (rI0 r)) : OpR X f (rI (fun _ _ => True) r) := fun pins s σ H x y v u Q I rx ry q => h pins s σ H x y v u Q I rx ry (by
  obtain ⟨i, j, e1, e2, _, q⟩ := q
  exact ⟨i, j, e1, e2, q⟩)
theorem o_addI : DOp X G (binaryOp .Add) .vl .vl .fz gAddI := dop_int (r' := fun i j => .int (i + j)) (rI_of0 op_add) (fun x y d h => by
  unfold gAddI at h; split at h <;> cases h; exact ⟨_, _, rfl, rfl, True.intro, rfl⟩) fun _ _ _ _ => .int _
theorem o_sub : DOp X G (binaryOp .Sub) .vl .vl .fz gSub := dop_int (r' := fun i j => .int (i - j)) (rI_of0 op_sub) (fun x y d h => by
  unfold gSub at h; split at h <;> cases h; exact ⟨_, _, rfl, rfl, True.intro, rfl⟩) fun _ _ _ _ => .int _
theorem o_mulI : DOp X G (binaryOp .Mult) .vl .vl .fz gMulI := dop_int (C := fun i j => i.natAbs.log2 + j.natAbs.log2 < 1000000) (r' := fun i j => .int (i * j)) op_mulW (fun x y d h => by
  unfold gMulI at h
  split at h
  · split at h <;> cases h
    exact ⟨_, _, rfl, rfl, by assumption, rfl⟩
  · cases h) fun _ _ _ _ => .int _
theorem o_pow : DOp X G (binaryOp .Pow) .vl .vl .fz gPow := dop_int (C := fun i j => 0 ≤ j ∧ j ≤ 1000000 ∧ i.natAbs < 2 ^ 64) (r' := fun i j => .int (i ^ j.toNat)) op_pow (fun x y d h => by
  unfold gPow at h
  split at h
  · split at h <;> cases h
    exact ⟨_, _, rfl, rfl, by assumption, rfl⟩
  · cases h) fun _ _ _ _ => .int _
theorem o_lt : DOp X G (compareOp .Lt) .vl .vl .fz gLt := dop_int (r' := fun i j => .bool (decide (i < j))) (rI_of0 op_lt) (fun x y d h => by
  unfold gLt at h; split at h <;> cases h; exact ⟨_, _, rfl, rfl, True.intro, rfl⟩) fun _ _ _ _ => .bl _
def eNeg (f : List C → Option D) : List C → Option D := fun env => match f env with | some (.int i) => some (.int (-i)) | _ => none
theorem d_neg {a : Expr} {k1 : RK} {fa : List C → Option D} {pos : Pos} (h : DE X G k1 a fa) (hk : k1.le .vl = true := by rfl) : DE X G .fz (.UnaryOp .USub a pos) (eNeg fa) := by
  obtain ⟨t, p, o⟩ := (h.conv hk).ex
  refine ⟨_, pe_un un_neg p, fun σ H F fp env d Q R hf q => ?_⟩
  unfold eNeg at hf
  cases z : fa env with
  | none => rw [z] at hf; cases hf
  | some c =>
    rw [z] at hf
    cases c <;> cases hf
    refine o σ H F fp env _ _ R z fun v H1 F1 E1 r => ?_
    have e := vl_int (G := G) (H := H1) (F := F1) r
    subst e
    exact ⟨_, rfl, q _ H1 F1 E1 (.int _)⟩

def gAddS : D → D → Option D | .str x, .str y => if x.length + y.length ≤ sizeLine then some (.str (x ++ y)) else none | _, _ => none
theorem o_addS : DOp X G (binaryOp .Add) .vl .vl .fz gAddS := ⟨_, op_add_str, fun H F vx vy dx dy d Q sub kp hl rx ry hd q => by
  unfold gAddS at hd
  split at hd
  · split at hd <;> cases hd
    have e1 := vl_str rx
    have e2 := vl_str ry
    subst e1 e2
    exact ⟨_, _, rfl, rfl, by assumption, q _ H F (Ext.refl sub) (.str _)⟩
  · cases hd⟩
def gAddL : D → D → Option D | .list xs, .list ys => if xs.length + ys.length ≤ sizeLine then some (.list (xs ++ ys)) else none | _, _ => none
theorem new_ow {H F : Hp} {p : Addr} {vs : List V} {ds : List D} (sub : Same F H) (np : H p = none) (r : DFAll X.K F vs ds) : Ext H F (upd H p (.lst vs)) F ∧ RepK X.K G .ow H (upd H p (.lst vs)) F (.ref p) (.list ds) :=
  ⟨Ext.laid sub np, p, vs, ds, rfl, rfl, np, upd_same, sub.free np, r⟩
theorem new_tup {H F : Hp} {p : Addr} {vs : List V} {ds : List D} (sub : Same F H) (np : H p = none) (r : DFAll X.K F vs ds) : Ext H F (upd H p (.tup vs)) (upd F p (.tup vs)) ∧ DF X.K (upd F p (.tup vs)) (.ref p) (.tuple ds) :=
  ⟨Ext.frozen sub np, .tup (.inl (.inl upd_same)) (DFAll_mono (fun b x e => by rw [upd_ne (ne_of_none e (sub.free np))]; exact e) _ _ r)⟩
theorem o_addL : DOp X G (binaryOp .Add) .vl .vl .ow gAddL := ⟨_, op_cat, fun H F vx vy dx dy d Q sub kp hl rx ry hd q => by
  unfold gAddL at hd
  split at hd
  · split at hd <;> cases hd
    obtain ⟨a, vs, rfl, h1, h2⟩ := vl_list sub rx
    obtain ⟨b, ws, rfl, h3, h4⟩ := vl_list sub ry
    refine ⟨a, b, vs, ws, rfl, rfl, h1, h3, by rw [DFAll_len h2, DFAll_len h4]; assumption, fun p np => ?_⟩
    obtain ⟨E, r⟩ := new_ow (G := G) sub np (DFAll_app h2 h4)
    exact q _ _ _ E r
  · cases hd⟩
def gAddT : D → D → Option D | .tuple xs, .tuple ys => if xs.length + ys.length ≤ sizeLine then some (.tuple (xs ++ ys)) else none | _, _ => none
theorem o_addT : DOp X G (binaryOp .Add) .vl .vl .fz gAddT := ⟨_, op_catA, fun H F vx vy dx dy d Q sub kp hl rx ry hd q => by
  unfold gAddT at hd
  split at hd
  · split at hd <;> cases hd
    rename_i xs ys _
    have fx : ∃ a vs, vx = .ref a ∧ SqT X.K F a vs ∧ DFAll X.K F vs xs := by
      rcases rx with rx | ⟨_, _, _, _, z, _⟩
      · cases rx with | tup h1 h2 => exact ⟨_, _, rfl, h1, h2⟩
      · cases z
    have fy : ∃ a vs, vy = .ref a ∧ SqT X.K F a vs ∧ DFAll X.K F vs ys := by
      rcases ry with rx | ⟨_, _, _, _, z, _⟩
      · cases rx with | tup h1 h2 => exact ⟨_, _, rfl, h1, h2⟩
      · cases z
    obtain ⟨a, vs, rfl, h1, h2⟩ := fx
    obtain ⟨b, ws, rfl, h3, h4⟩ := fy
    refine ⟨a, b, vs, ws, rfl, rfl, Same.seqT sub h1, Same.seqT sub h3, by rw [DFAll_len h2, DFAll_len h4]; assumption, fun e => ?_, fun e0 e => ?_, fun e0 e1 p np => ?_⟩
    · subst e; cases h2; exact q _ H F (Ext.refl sub) (.tup h3 h4)
    · subst e; cases h4; rw [List.append_nil] at q; exact q _ H F (Ext.refl sub) (.tup h1 h2)
    · obtain ⟨E, r⟩ := new_tup sub np (DFAll_app h2 h4)
      exact q _ _ _ E r
  · cases hd⟩
def gMulL : D → D → Option D | .list xs, .int k => if k < 2 ^ 63 ∧ -(2 ^ 63) ≤ k ∧ xs.length * k.toNat ≤ sizeLine then some (.list (List.replicate k.toNat xs).flatten) else none | _, _ => none
theorem o_mulL : DOp X G (binaryOp .Mult) .vl .vl .ow gMulL := ⟨_, op_rep, fun H F vx vy dx dy d Q sub kp hl rx ry hd q => by
  unfold gMulL at hd
  split at hd
  · split at hd <;> cases hd
    rename_i hc
    obtain ⟨a, vs, rfl, h1, h2⟩ := vl_list sub rx
    have e2 := vl_int ry
    subst e2
    refine ⟨a, _, vs, rfl, rfl, h1, hc.2.1, hc.1, by rw [DFAll_len h2]; exact hc.2.2, fun p np => ?_⟩
    obtain ⟨E, r⟩ := new_ow (G := G) sub np (DFAll_rep h2 _)
    exact q _ _ _ E r
  · cases hd⟩
def gMulT : D → D → Option D | .tuple xs, .int k => if xs ≠ [] ∧ 2 ≤ k ∧ k ≤ 1000 ∧ xs.length ≤ 1000 then some (.tuple (List.replicate k.toNat xs).flatten) else none | _, _ => none
theorem o_mulT : DOp X G (binaryOp .Mult) .vl .vl .fz gMulT := ⟨_, op_repT, fun H F vx vy dx dy d Q sub kp hl rx ry hd q => by
  unfold gMulT at hd
  split at hd
  · split at hd <;> cases hd
    rename_i hc
    obtain ⟨a, vs, rfl, h1, h2⟩ := vl_tup sub rx
    have e2 := vl_int ry
    subst e2
    refine ⟨a, _, vs, rfl, rfl, h1, fun e => ?_, hc.2.1, hc.2.2.1, by rw [DFAll_len h2]; exact hc.2.2.2, fun p np => ?_⟩
    · subst e; cases h2; exact hc.1 rfl
    obtain ⟨E, r⟩ := new_tup sub np (DFAll_rep h2 _)
    exact q _ _ _ E r
  · cases hd⟩

def gEqS : D → D → Option D
  | .int i, .int j => some (.bool (decide (i = j)))
  | .str i, .str j => some (.bool (decide (i = j)))
  | .bool i, .bool j => some (.bool (decide (i = j)))
  | _, _ => none
def gNeS : D → D → Option D
  | .int i, .int j => some (.bool (!decide (i = j)))
  | .str i, .str j => some (.bool (!decide (i = j)))
  | .bool i, .bool j => some (.bool (!decide (i = j)))
  | _, _ => none
theorem o_eqS : DOp X G (compareOp .Eq) .vl .vl .fz gEqS := ⟨_, op_eq, fun H F vx vy dx dy d Q sub kp hl rx ry hd q => by
  unfold gEqS at hd
  split at hd <;> cases hd
  · have e1 := vl_int rx; have e2 := vl_int ry; subst e1 e2
    refine ⟨rfl, ?_⟩
    rw [dec_int, Bool.beq_eq_decide_eq]
    exact q _ H F (Ext.refl sub) (.bl _)
  · have e1 := vl_str rx; have e2 := vl_str ry; subst e1 e2
    refine ⟨rfl, ?_⟩
    rw [dec_str, Bool.beq_eq_decide_eq]
    exact q _ H F (Ext.refl sub) (.bl _)
  · have e1 := vl_bl rx; have e2 := vl_bl ry; subst e1 e2
    refine ⟨rfl, ?_⟩
    rw [dec_bl, Bool.beq_eq_decide_eq]
    exact q _ H F (Ext.refl sub) (.bl _)⟩
theorem o_neS : DOp X G (compareOp .NotEq) .vl .vl .fz gNeS := ⟨_, op_ne, fun H F vx vy dx dy d Q sub kp hl rx ry hd q => by
  unfold gNeS at hd
  split at hd <;> cases hd
  · have e1 := vl_int rx; have e2 := vl_int ry; subst e1 e2
    refine ⟨rfl, ?_⟩
    rw [dec_int, Bool.beq_eq_decide_eq]
    exact q _ H F (Ext.refl sub) (.bl _)
  · have e1 := vl_str rx; have e2 := vl_str ry; subst e1 e2
    refine ⟨rfl, ?_⟩
    rw [dec_str, Bool.beq_eq_decide_eq]
    exact q _ H F (Ext.refl sub) (.bl _)
  · have e1 := vl_bl rx; have e2 := vl_bl ry; subst e1 e2
    refine ⟨rfl, ?_⟩
    rw [dec_bl, Bool.beq_eq_decide_eq]
    exact q _ H F (Ext.refl sub) (.bl _)⟩
def gEqD : D → D → Option D := fun x y => if SeqAt.shaped x = true ∧ SeqAt.shaped y = true then some (.bool (PyData.eqv x y)) else none
def gNeD : D → D → Option D := fun x y => if SeqAt.shaped x = true ∧ SeqAt.shaped y = true then some (.bool (!PyData.eqv x y)) else none
theorem o_eqD (hu : X.A.units + 64 < cLine) : DOp X G (compareOp .Eq) .vw .vw .fz gEqD := ⟨_, op_eqD hu, fun H F vx vy dx dy d Q sub kp hl rx ry hd q => by
  unfold gEqD at hd
  split at hd <;> cases hd
  rename_i hc
  exact ⟨_, _, rx, ry, hc.1, hc.2, q _ H F (Ext.refl sub) (.bl _)⟩⟩
theorem o_neD (hu : X.A.units + 64 < cLine) : DOp X G (compareOp .NotEq) .vw .vw .fz gNeD := ⟨_, op_neD hu, fun H F vx vy dx dy d Q sub kp hl rx ry hd q => by
  unfold gNeD at hd
  split at hd <;> cases hd
  rename_i hc
  exact ⟨_, _, rx, ry, hc.1, hc.2, q _ H F (Ext.refl sub) (.bl _)⟩⟩
def gInL : D → D → Option D | x, .list ys => if SeqAt.shaped x = true ∧ SeqAt.shaped (.list ys) = true then some (.bool (ys.any fun z => PyData.eqv z x)) else none | _, _ => none
def gNotInL : D → D → Option D | x, .list ys => if SeqAt.shaped x = true ∧ SeqAt.shaped (.list ys) = true then some (.bool (!ys.any fun z => PyData.eqv z x)) else none | _, _ => none
def gIx : D → D → Option D
  | .list xs, .int i => atI xs i
  | .tuple xs, .int i => atI xs i
  | .str z, .int i => (atI z.cps.toList i).map fun c => .str ⟨#[c]⟩
  | _, _ => none
theorem atI_repD {K : PySem.W.Frag} {F : Hp} {vs : List V} {ds : List D} {i : Int} {d : D} (h : DpAll K F vs ds) (e : atI ds i = some d) : ∃ v, atI vs i = some v ∧ Dp K F v d := by
  unfold atI at e ⊢
  rw [DpAll_len h]
  cases z : ixN ds.length i with
  | none => rw [z] at e; cases e
  | some j =>
    rw [z] at e
    exact DpAll_get h e
theorem ixr_len {r : R2} (h : IxR X r) : IxR X (fun x y H Q => LenOk X.K H → r x y H Q) := fun a b pins s σ H x y v u Q I rx ry q hs => h a b pins s σ H x y v u Q I rx ry (q fun a xs hx => by
  rcases hx with hx | hx
  · obtain ⟨_, _, _, z⟩ := I.list hx
    exact z
  · obtain ⟨_, _, _, z⟩ := I.tuple hx
    exact z) hs
def gIxS : D → D → Option D
  | .str z, .int i => if z.length ≤ sizeLine then (atI z.cps.toList i).map fun c => .str ⟨#[c]⟩ else none
  | x, y => gIx x y
theorem ixB_ok {H F : Hp} {vx vy : V} {dx dy d : D} {Q : VK} (sub : Same F H) (kp : Same G.kp H) (rx : Dp X.K (stb G F) vx dx) (ry : RepA X.K G .vl H F vy dy) (hd : gIx dx dy = some d) (hz : ∀ z, dx ≠ .str z)
    (q : ∀ v H' F', Ext H F H' F' → RepK X.K G .sv H H' F' v d → Q v H') : rIx X.K vx vy H Q := by
  unfold gIx at hd
  split at hd
  · cases rx with
    | lst h1 h2 =>
      have e2 := vl_int ry; subst e2
      obtain ⟨v, e, r⟩ := atI_repD h2 hd
      exact .inl ⟨_, _, _, v, rfl, rfl, (stb_sub sub kp).seq h1, e, q _ H F (Ext.refl sub) r⟩
  · cases rx with
    | tup h1 h2 =>
      have e2 := vl_int ry; subst e2
      obtain ⟨v, e, r⟩ := atI_repD h2 hd
      exact .inr (.inl ⟨_, _, _, v, rfl, rfl, Same.seqT (stb_sub sub kp) h1, e, q _ H F (Ext.refl sub) r⟩)
  · exact absurd rfl (hz _)
  · cases hd
variable {a b : Expr} {fa fb : List C → Option D} {pos : Pos} {k1 k2 : RK}
def gIxB : D → D → Option D | .str _, _ => none | x, y => gIx x y
theorem d_ixB (ha : DE X G k1 a fa) (hb : DE X G k2 b fb) (hs : PlainIx b) (h1 : k1.le .sv = true := by rfl) (h2 : k2.le .vl = true := by rfl) : DE X G .sv (.Subscript a b pos) (e2 gIxB fa fb) := by
  obtain ⟨ta, pa, oa⟩ := (ha.conv h1).ex
  obtain ⟨tb, pb, ob⟩ := (hb.conv h2).ex
  refine ⟨_, pe_ix (ixr_len ix_seq) pa pb hs, fun σ H F fp env d Q R hf q => two_ok (kr := .sv) (fun H F vx vy dx dy d Q sub kp hl rx ry hd q => ?_) rfl rfl oa ob R hf q⟩
  unfold gIxB at hd
  split at hd
  · cases hd
  · rename_i hn
    exact ixB_ok sub kp rx ry hd (fun z e => hn z e) q
def scalD : D → Bool | .int _ => true | .str _ => true | .bool _ => true | .none => true | _ => false
def eScal (f : List C → Option D) : List C → Option D := fun env => match f env with | some d => if scalD d then some d else none | none => none
theorem d_scal {e : Expr} {f : List C → Option D} (h : DE X G k1 e f) (h1 : k1.le .vw = true := by rfl) : DE X G .fz e (eScal f) := by
  obtain ⟨t, p, o⟩ := (h.conv h1).ex
  refine ⟨t, p, fun σ H F fp env d Q R hf q => ?_⟩
  unfold eScal at hf
  split at hf
  · rename_i d' e
    split at hf
    · cases hf
      rename_i hs
      refine o σ H F fp env _ _ R e fun v H' F' E r => q v H' F' E ?_
      have r' : Dp X.K H' v d := r
      cases r' with
      | non => exact .non
      | bl b => exact .bl b
      | int i => exact .int i
      | str x => exact .str x
      | lst _ _ => cases hs
      | tup _ _ => cases hs
    · cases hf
  · cases hf

structure DP (X : Cx) (G : GC) (e : Option Expr) (f : List C → Option (Option Int)) : Prop where
  ex : ∃ t, PO X e t ∧ ∀ (σ : L2.St) (H F : Hp) (fp : Nat → List Addr) (env : List C) (o : Option Int) (Q : Option Int → Hp → Prop), Rel X.K G env σ H F fp → f env = some o →
    (∀ H' F', Ext H F H' F' → Q o H') → t σ H Q
def pN : List C → Option (Option Int) := fun _ => some none
def pS (f : List C → Option D) : List C → Option (Option Int) := fun env => match f env with | some (.int i) => some (some i) | _ => none
theorem dp_none : DP X G none pN := ⟨_, po_none, fun σ H F fp env d Q R hf q => by cases hf; exact q H F (Ext.refl R.sub)⟩
theorem dp_some {e : Expr} {f : List C → Option D} (h : DE X G k1 e f) (h1 : k1.le .vl = true := by rfl) : DP X G (some e) (pS f) := by
  obtain ⟨t, p, o⟩ := (h.conv h1).ex
  refine ⟨_, po_some p, fun σ H F fp env d Q R hf q => ?_⟩
  unfold pS at hf
  split at hf
  · rename_i i e
    cases hf
    refine o σ H F fp env _ _ R e fun v H' F' E r => ?_
    have e1 := vl_int (G := G) (H := H') (F := F') r
    exact ⟨i, e1, q H' F' E⟩
  · cases hf
def cutD {α : Type} (xs : List α) (lo hi : Option Int) : List α := (xs.drop (HT.sIx xs.length 0 lo)).take (HT.sIx xs.length xs.length hi - HT.sIx xs.length 0 lo)
theorem cut_rep {K : PySem.W.Frag} {F : Hp} {vs : List V} {ds : List D} (h : DFAll K F vs ds) (lo hi : Option Int) : DFAll K F (cutV vs lo hi) (cutD ds lo hi) := by
  unfold cutV cutD
  rw [DFAll_len h]
  exact DFAll_take _ (DFAll_drop _ h)
theorem slr_len {r : V → Option Int → Option Int → Hp → VK → Prop} (h : SlR X r) : SlR X (fun x l u H Q => LenOk X.K H → r x l u H Q) := fun pins s σ H x v vl vu lo hi sl Q I rx hs pl pu q => h pins s σ H x v vl vu lo hi sl Q I rx hs pl pu (q fun a xs hx => by
  rcases hx with hx | hx
  · obtain ⟨_, _, _, z⟩ := I.list hx
    exact z
  · obtain ⟨_, _, _, z⟩ := I.tuple hx
    exact z)
def e3 (g : D → Option Int → Option Int → Option D) (fa : List C → Option D) (fl fu : List C → Option (Option Int)) : List C → Option D := fun env => (fa env).bind fun x => (fl env).bind fun l => (fu env).bind fun u => g x l u
theorem d_slice {r : V → Option Int → Option Int → Hp → VK → Prop} {ka kr : RK} {g : D → Option Int → Option Int → Option D} {lo hi : Option Expr} {fl fu : List C → Option (Option Int)} {p2 : Pos} (hr : SlR X r)
    (hg : ∀ (H F : Hp) (vx : V) (dx d : D) (l u : Option Int) (Q : VK), Same F H → Same G.kp H → LenOk X.K H → RepA X.K G ka H F vx dx → g dx l u = some d → (∀ v H' F', Ext H F H' F' → RepK X.K G kr H H' F' v d → Q v H') → r vx l u H Q)
    (ha : DE X G k1 a fa) (hl : DP X G lo fl) (hu : DP X G hi fu) (h1 : k1.le ka = true := by rfl) (haa : ka.arg = true := by rfl) : DE X G kr (.Subscript a (.Slice lo hi none p2) pos) (e3 g fa fl fu) := by
  obtain ⟨ta, pa, oa⟩ := (ha.conv h1).ex
  obtain ⟨tl, pl, ol⟩ := hl.ex
  obtain ⟨tu, pu, ou⟩ := hu.ex
  refine ⟨_, pe_slice (slr_len hr) pa pl pu, fun σ H F fp env d Q R hf q => ?_⟩
  unfold e3 at hf
  cases z1 : fa env with
  | none => rw [z1] at hf; cases hf
  | some x =>
    cases z2 : fl env with
    | none => rw [z1, z2] at hf; cases hf
    | some l =>
      cases z3 : fu env with
      | none => rw [z1, z2, z3] at hf; cases hf
      | some u =>
        rw [z1, z2, z3] at hf
        refine oa σ H F fp env x _ R z1 fun vx H1 F1 E1 r1 => ?_
        refine ol σ H1 F1 fp env l _ (R.ext E1) z2 fun H2 F2 E2 => ?_
        have R2 := (R.ext E1).ext E2
        refine ou σ H2 F2 fp env u _ R2 z3 fun H3 F3 E3 hlen => ?_
        have R3 := R2.ext E3
        have kp3 := R3.kpSame
        have kp2 := R2.kpSame
        exact hg H3 F3 vx x d l u Q E3.sub kp3 hlen (((repK_A haa r1).ext E2 kp2).ext E3 kp3) hf fun v H' F' E r => q v H' F' (((E1.trans E2).trans E3).trans E) (r.back ((E1.h.trans E2.h).trans E3.h))
def gSlL : D → Option Int → Option Int → Option D | .list xs, l, u => some (.list (cutD xs l u)) | _, _, _ => none
def allInt : List D → Option (List Int)
  | [] => some []
  | .int i :: r => (allInt r).map (i :: ·)
  | _ => none
theorem allInt_map : ∀ ns : List Int, allInt (ns.map PyData.int) = some ns
  | [] => rfl
  | n :: ns => by rw [List.map_cons, allInt, allInt_map ns]; rfl
def gSlB : D → Option Int → Option Int → Option D | .list xs, l, u => (allInt xs).map fun ns => .list ((cutD ns l u).map .int) | _, _, _ => none
def gSlT : D → Option Int → Option Int → Option D | .tuple xs, l, u => some (.tuple (cutD xs l u)) | _, _, _ => none
end
end DL
namespace DL
open PySem PySem.Spec L2

section
variable {X : Cx} {G : GC} {e : Expr} {es : List Expr} {k k' kr : RK} {ks : List RK} {f : List C → Option D} {fs : List C → Option (List D)} {pos p : Pos}
theorem RepKs_len {K : PySem.W.Frag} {H F : Hp} : ∀ {ks : List RK} {vs : List V} {ds : List D}, RepKs K G H F ks vs ds → vs.length = ds.length ∧ ks.length = ds.length
  | [], [], [], _ => ⟨rfl, rfl⟩
  | k :: ks, v :: vs, d :: ds, h => by
    obtain ⟨h1, h2⟩ := RepKs_len h.2
    exact ⟨by rw [List.length_cons, List.length_cons, h1], by rw [List.length_cons, List.length_cons, h2]⟩
  | [], _ :: _, _, h => by cases h
  | [], [], _ :: _, h => by cases h
  | _ :: _, [], _, h => by cases h
  | _ :: _, _ :: _, [], h => by cases h
def aNil : List C → Option (List D) := fun _ => some []
def aCons (f : List C → Option D) (g : List C → Option (List D)) : List C → Option (List D) := fun env => (f env).bind fun d => (g env).bind fun ds => some (d :: ds)
theorem da_nil : DA X G [] [] aNil := ⟨_, pa_nil, fun σ H F fp env ds Q R hf q => by cases hf; exact q [] H F (Ext.refl R.sub) trivial⟩
theorem da_cons (h : DE X G k e f) (k' : RK) (ht : DA X G ks es fs) (hk : k.le k' = true := by rfl) (ha : k'.arg = true := by rfl) (hs : starEach (e :: es) X.env = (false, eval e X.env) :: starEach es X.env := by rfl) : DA X G (k' :: ks) (e :: es) (aCons f fs) := by
  obtain ⟨t, pt, o⟩ := (h.conv hk).ex
  obtain ⟨t2, pt2, o2⟩ := ht.ex
  refine ⟨_, pa_cons pt pt2 hs, fun σ H F fp env ds Q R hf q => ?_⟩
  unfold aCons at hf
  cases z : f env with
  | none => rw [z] at hf; cases hf
  | some d =>
    cases z2 : fs env with
    | none => rw [z, z2] at hf; cases hf
    | some es =>
      rw [z, z2] at hf; cases hf
      refine o σ H F fp env d _ R z fun v H1 F1 E1 r1 => ?_
      refine o2 σ H1 F1 fp env es _ (R.ext E1) z2 fun vs H2 F2 E2 r2 => ?_
      exact q (v :: vs) H2 F2 (E1.trans E2) ⟨(repK_A ha r1).ext E2 ((R.ext E1).ext E2).kpSame, r2⟩
def allFz : List RK → Bool
  | [] => true
  | .fz :: r => allFz r
  | _ => false
theorem RepKs_fz {K : PySem.W.Frag} {H F : Hp} : ∀ {ks : List RK} {vs : List V} {ds : List D}, allFz ks = true → RepKs K G H F ks vs ds → DFAll K F vs ds
  | [], [], [], _, _ => .nil
  | k :: ks, v :: vs, d :: ds, hk, h => by
    cases k with
    | fz => exact .cons h.1 (RepKs_fz (show allFz ks = true from hk) h.2)
    | _ => cases hk
  | [], _ :: _, _, _, h => by cases h
  | [], [], _ :: _, _, h => by cases h
  | _ :: _, [], _, _, h => by cases h
  | _ :: _, _ :: _, [], _, h => by cases h
def eTup (f : List C → Option (List D)) : List C → Option D := fun env => (f env).map .tuple
def eLst (f : List C → Option (List D)) : List C → Option D := fun env => (f env).map .list
theorem line1000 {n : Nat} (h : n ≤ 1000) : n ≤ sizeLine := by rw [sizeLine_eq]; omega
theorem d_lst (h : DA X G ks es fs) (hk : allFz ks = true := by rfl) (hn : ks.length ≤ 1000 := by decide) : DE X G .ow (.List es pos) (eLst fs) := by
  obtain ⟨t, pt, o⟩ := h.ex
  refine ⟨_, pe_lst pt, fun σ H F fp env d Q R hf q => ?_⟩
  unfold eLst at hf
  cases z : fs env with
  | none => rw [z] at hf; cases hf
  | some ds =>
    rw [z] at hf; cases hf
    refine o σ H F fp env ds _ R z fun vs H1 F1 E1 r => ?_
    obtain ⟨l1, l2⟩ := RepKs_len r
    refine ⟨line1000 (by omega), fun n nn => ?_⟩
    obtain ⟨E, r'⟩ := new_ow (G := G) E1.sub nn (RepKs_fz hk r)
    exact q _ _ _ (E1.trans E) (r'.back E1.h)

theorem callr_len {f : Value} {r : List V → Hp → VK → Prop} (h : CallR X f r) : CallR X f (fun xs H Q => LenOk X.K H → r xs H Q) := fun pins s σ H xs us Q I rx q => h pins s σ H xs us Q I rx (q fun a xs hx => by
  rcases hx with hx | hx
  · obtain ⟨_, _, _, z⟩ := I.list hx
    exact z
  · obtain ⟨_, _, _, z⟩ := I.tuple hx
    exact z)
structure DCall (X : Cx) (G : GC) (f : Value) (ks : List RK) (kr : RK) (g : List D → Option D) : Prop where
  ex : ∃ r, CallR X f r ∧ ∀ (H F : Hp) (vs : List V) (ds : List D) (d : D) (Q : VK), Same F H → Same G.kp H → LenOk X.K H → RepKs X.K G H F ks vs ds → g ds = some d →
    (∀ v H' F', Ext H F H' F' → RepK X.K G kr H H' F' v d → Q v H') → r vs H Q
def e1 (g : List D → Option D) (f : List C → Option (List D)) : List C → Option D := fun env => (f env).bind g
theorem call_ok {r : List V → Hp → VK → Prop} {t : TA} {g : List D → Option D} (o : ∀ (H F : Hp) (vs : List V) (ds : List D) (d : D) (Q : VK), Same F H → Same G.kp H → LenOk X.K H → RepKs X.K G H F ks vs ds → g ds = some d →
    (∀ v H' F', Ext H F H' F' → RepK X.K G kr H H' F' v d → Q v H') → r vs H Q)
    (oa : ∀ (σ : L2.St) (H F : Hp) (fp : Nat → List Addr) (env : List C) (ds : List D) (Q : List V → Hp → Prop), Rel X.K G env σ H F fp → fs env = some ds → (∀ vs H' F', Ext H F H' F' → RepKs X.K G H' F' ks vs ds → Q vs H') → t σ H Q)
    {σ : L2.St} {H F : Hp} {fp : Nat → List Addr} {env : List C} {d : D} {Q : VK} (R : Rel X.K G env σ H F fp) (hf : e1 g fs env = some d) (q : ∀ v H' F', Ext H F H' F' → RepK X.K G kr H H' F' v d → Q v H') :
    tCB (fun xs H Q => LenOk X.K H → r xs H Q) t σ H Q := by
  unfold e1 at hf
  cases z : fs env with
  | none => rw [z] at hf; cases hf
  | some ds =>
    rw [z] at hf
    refine oa σ H F fp env ds _ R z fun vs H1 F1 E1 r1 hl => ?_
    exact o H1 F1 vs ds d Q E1.sub (R.ext E1).kpSame hl r1 hf fun v H' F' E r => q v H' F' (E1.trans E) (r.back E1.h)
variable {x : Str} {id T : String} {g : List D → Option D}
theorem d_callB (o : DCall X G (.builtin id) ks kr g) (hg : Gl X x) (hm : X.mg x = none) (hv : bootBuiltins x = some (.builtin id)) (ha : DA X G ks (e :: es) fs) (hn : x ≠ "__name__" := by decide) (hdb : (x == ("__debug__" : Str)) = false := by decide)
    (he : starEach (e :: es) X.env = (false, eval e X.env) :: starEach es X.env := by rfl) (hpl : (backTo pos (starEach es X.env)).any (·.1) = false := by rfl) : DE X G kr (.Call (.Name x p) (e :: es) [] pos) (e1 g fs) := by
  obtain ⟨r, hr, o⟩ := o.ex
  obtain ⟨t, pt, oa⟩ := ha.ex
  exact ⟨_, pe_callB (callr_len hr) hg hm hv pt hn hdb he hpl, fun σ H F fp env d Q R hf q => call_ok o oa R hf q⟩
theorem rep1 {K : PySem.W.Frag} {H F : Hp} {k : RK} {vs : List V} {ds : List D} (h : RepKs K G H F [k] vs ds) : ∃ v d, vs = [v] ∧ ds = [d] ∧ RepA K G k H F v d := by
  obtain ⟨l1, l2⟩ := RepKs_len h
  have l3 : ds.length = 1 := l2.symm
  obtain ⟨d, rfl⟩ := List.length_eq_one_iff.mp l3
  obtain ⟨v, rfl⟩ := List.length_eq_one_iff.mp (l1.trans l3)
  exact ⟨v, d, rfl, rfl, h.1⟩
def gLen : List D → Option D
  | [.list xs] => some (.int xs.length)
  | [.tuple xs] => some (.int xs.length)
  | [.str z] => if z.length ≤ sizeLine then some (.int z.length) else none
  | _ => none
theorem o_len : DCall X G (.builtin "len") [.vw] .fz gLen := ⟨_, call_len_seq.or call_len_str, fun H F vs ds d Q sub kp hl rs hd q => by
  obtain ⟨v, d1, rfl, rfl, r⟩ := rep1 rs
  have r' : Dp X.K H v d1 := r
  unfold gLen at hd
  split at hd
  · rename_i e; cases e; cases hd
    cases r' with
    | lst h1 h2 =>
      left
      refine ⟨_, _, rfl, .inl h1, ?_⟩
      rw [DpAll_len h2]
      exact q _ H F (Ext.refl sub) (.int _)
  · rename_i e; cases e; cases hd
    cases r' with
    | tup h1 h2 =>
      left
      refine ⟨_, _, rfl, .inr h1, ?_⟩
      rw [DpAll_len h2]
      exact q _ H F (Ext.refl sub) (.int _)
  · rename_i e; cases e
    split at hd <;> cases hd
    cases r'
    right
    exact ⟨_, rfl, by assumption, q _ H F (Ext.refl sub) (.int _)⟩
  · cases hd⟩
def gAbs : List D → Option D | [.int i] => some (.int (if i < 0 then -i else i)) | _ => none
def gMax2 : List D → Option D | [.int i, .int j] => some (.int (if j > i then j else i)) | _ => none
def gMin2 : List D → Option D | [.int i, .int j] => some (.int (if j < i then j else i)) | _ => none
def gSum : List D → Option D | [.list xs] => (allInt xs).map fun ns => .int ns.sum | _ => none
def gInt : List D → Option D
  | [.int i] => some (.int i)
  | [.bool b] => some (.int (if b then 1 else 0))
  | [.str a] => if a.length ≤ 640 then (PySem.intText? a).map .int else none
  | _ => none
def gStr : List D → Option D | [.int i] => if i.natAbs.log2 < 1920 then some (.str (toString i)) else none | _ => none
def gList : List D → Option D | [.list xs] => some (.list xs) | [.tuple xs] => some (.list xs) | _ => none
def gTuple : List D → Option D | [.list xs] => some (.tuple xs) | [.tuple xs] => some (.tuple xs) | _ => none
def tyD : D → String
  | .none => "NoneType" | .bool _ => "bool" | .int _ => "int" | .str _ => "str" | .list _ => "list" | .tuple _ => "tuple" | .dict _ => "dict"
theorem dp_ty {K : PySem.W.Frag} {H : Hp} {v : V} {d : D} (h : Dp K H v d) : TyX K H v (.type (tyD d)) := by
  cases h with
  | non => exact .base .non
  | bl b => exact .base (.bl b)
  | int i => exact .base (.int i)
  | str x => exact .base (.str x)
  | lst h _ =>
    rcases h with (h | ⟨o, h⟩) | ⟨o, its, n, h1, h2, _⟩
    · exact .base (.lst h)
    · exact .base (.frz h)
    · exact .kList h1 h2
  | tup h _ =>
    rcases h with (h | ⟨o, h⟩) | ⟨o, its, n, h1, h2, _⟩
    · exact .base (.tup h)
    · exact .fTuple h
    · exact .kTuple h1 h2
def eIsi (T : String) (f : List C → Option D) : List C → Option D := fun env => (f env).bind fun d => (kitB (tyD d) T).map .bool
theorem d_isi {e : Expr} {y : Str} {p2 : Pos} {T : String} (h : DE X G k e f) (hg : Gl X "isinstance") (hm : X.mg "isinstance" = none) (hg2 : Gl X y) (hm2 : X.mg y = none) (hv2 : bootBuiltins y = some (.type T)) (hc : ClsV (.ty T) (.type T))
    (hk : k.le .vw = true := by rfl) (hv : bootBuiltins "isinstance" = some (.builtin "isinstance") := by decide +kernel) (hy : y ≠ "__name__" := by decide) (hdb : (y == ("__debug__" : Str)) = false := by decide)
    (he : starEach [e, .Name y p2] X.env = (false, eval e X.env) :: starEach [.Name y p2] X.env := by rfl) (he2 : starEach [.Name y p2] X.env = (false, eval (.Name y p2) X.env) :: starEach [] X.env := by rfl)
    (hpl : (backTo pos (starEach [.Name y p2] X.env)).any (·.1) = false := by rfl) : DE X G .fz (.Call (.Name "isinstance" p) [e, .Name y p2] [] pos) (eIsi T f) := by
  obtain ⟨t, pt, o⟩ := (h.conv hk).ex
  refine ⟨_, pe_callB call_isi hg hm hv (pa_cons pt (pa_cons (pe_bltn hg2 hm2 hv2 (v := .ty T) rfl hy hdb) pa_nil he2) he) (by decide) (by decide) he hpl, fun σ H F fp env d Q R hf q => ?_⟩
  unfold eIsi at hf
  cases z : f env with
  | none => rw [z] at hf; cases hf
  | some d1 =>
    rw [z] at hf
    cases z2 : kitB (tyD d1) T with
    | none => rw [show (some d1 : Option D).bind (fun d => (kitB (tyD d) T).map PyData.bool) = (kitB (tyD d1) T).map PyData.bool from rfl, z2] at hf; cases hf
    | some b =>
      rw [show (some d1 : Option D).bind (fun d => (kitB (tyD d) T).map PyData.bool) = (kitB (tyD d1) T).map PyData.bool from rfl, z2] at hf; cases hf
      refine o σ H F fp env d1 _ R z fun v H1 F1 E1 r => ?_
      exact ⟨_, _, _, _, _, rfl, hc, dp_ty r, kit_ty z2, q _ H1 F1 E1 (.bl _)⟩
end

def spP (K : PySem.W.Frag) (ks : List RK) (kr : RK) (g : List D → Option D) : Sp := fun vs H Q _ => ∃ (F0 : Hp) (ds : List D) (d : D), Same F0 H ∧ g ds = some d ∧ RepKs K ⟨H, F0, [], none⟩ H F0 ks vs ds ∧
  ∀ v H' F', Ext H F0 H' F' → RepK K ⟨H, F0, [], none⟩ kr H H' F' v d → Q v H'
structure Callee (P : Program) (w : World) (K : PySem.W.Frag) (mg : Str → Option Value) (base : Heap) (k : Nat) (x : Str) (ks : List RK) (kr : RK) (g : List D → Option D) : Prop where
  ex : ∃ (f : Addr) (fd : FuncData) (ps : List Str), FnOk P w K mg base CX0 k f fd ps (spP K ks kr g) ∧ mg x = some (.ref f) ∧ PySem.W.keepIn K (.ref f) = true ∧ Binds K fd ps []
def okPs : List RK → Bool
  | [] => true
  | .fz :: r => okPs r
  | .vw :: r => okPs r
  | _ => false
def okR : RK → Bool | .fz => true | .ow => true | _ => false
section
variable {X : Cx} {G G' : GC} {es : List Expr} {kr : RK} {ks : List RK} {fs : List C → Option (List D)} {pos p : Pos} {x : Str} {g : List D → Option D} {n : Nat}
theorem RepKs_any {K : PySem.W.Frag} {H F : Hp} : ∀ {ks : List RK} {vs : List V} {ds : List D}, okPs ks = true → RepKs K G H F ks vs ds → RepKs K G' H F ks vs ds
  | [], [], [], _, _ => trivial
  | k :: ks, v :: vs, d :: ds, hk, h => by
    cases k with
    | fz => exact ⟨h.1, RepKs_any hk h.2⟩
    | vw => exact ⟨h.1, RepKs_any hk h.2⟩
    | _ => cases hk
  | [], _ :: _, _, _, h => by cases h
  | [], [], _ :: _, _, h => by cases h
  | _ :: _, [], _, _, h => by cases h
  | _ :: _, _ :: _, [], _, h => by cases h
theorem RepK_any {K : PySem.W.Frag} {H H' F' : Hp} {v : V} {d : D} (hk : okR kr = true) (h : RepK K G kr H H' F' v d) : RepK K G' kr H H' F' v d := by
  cases kr with
  | fz => exact h
  | ow => exact h
  | _ => cases hk
theorem d_call {e : Expr} (c : Callee X.prog X.w X.K X.mg X.base n x ks kr g) (hr : Room n X.A) (hg : Gl X x) (ha : DA X G ks (e :: es) fs) (hp : okPs ks = true := by rfl) (hk : okR kr = true := by rfl) (hdb : (x == ("__debug__" : Str)) = false := by decide)
    (he : starEach (e :: es) X.env = (false, eval e X.env) :: starEach es X.env := by rfl) (hpl : (backTo pos (starEach es X.env)).any (·.1) = false := by rfl) : DE X G kr (.Call (.Name x p) (e :: es) [] pos) (e1 g fs) := by
  obtain ⟨f, fd, ps, F, hm, kp, b⟩ := c.ex
  obtain ⟨t, pt, oa⟩ := ha.ex
  refine ⟨_, pe_call F hr hg hm kp b .nil pass0 pt hdb he hpl, fun σ H F fp env d Q R hf q => ?_⟩
  unfold e1 at hf
  cases z : fs env with
  | none => rw [z] at hf; cases hf
  | some ds =>
    rw [z] at hf
    refine oa σ H F fp env ds _ R z fun vs H1 F1 E1 r1 => ?_
    rw [List.append_nil]
    exact ⟨F1, ds, d, E1.sub, hf, RepKs_any hp r1, fun v H' F' E r => q v H' F' (E1.trans E) ((RepK_any hk r).back E1.h)⟩
end
end DL
namespace DL
open PySem PySem.Spec L2

structure XD where
  c : Str
  fs : List Str
  ds : List D
def XT (x : XD) : T := match x.fs with | [] => .d .none | f :: r => .n (.e (f :: r)) (x.ds.map T.d)
def vX : Option Addr → V
  | none => .non
  | some a => .ref a
def XC (K : PySem.W.Frag) (c : Str) (cls : Value) : Prop := ∃ C, PySem.W.nsIn K mainGlobals c = some (some (.ref C)) ∧ cls = .ref C
inductive Out where
  | nx (env : List C) | rt (d : D) | bk (env : List C) | ct (env : List C) | err | rx (env : List C) (t : T) | xc (env : List C) (x : XD)
structure Fin (G : GC) (H' F' : Hp) : Prop where
  h : ∀ a o, G.H0 a = some o → a ∉ G.W → H' a = some o
  f : Same G.F0 F'
  sub : Same F' H'
  new : ∀ a o, F' a = some o → G.F0 a = some o ∨ G.H0 a = none
structure New (K : PySem.W.Frag) (G : GC) (H F : Hp) (fp : Nat → List Addr) (v : V) (t : T) (l : List Addr) : Prop where
  rep : OR K G.w H F v t l
  own : ∀ a, a ∈ l → F a = none ∧ H a ≠ none ∧ G.H0 a = none
  dj : ∀ a, a ∈ l → ∀ j, a ∉ fp j
def Post (X : Cx) (G : GC) (kr : RK) (F : Hp) (E : Ends) : Out → Prop
  | .nx env' => ∀ σ' H' F' fp', Rel X.K G env' σ' H' F' fp' → Same F F' → E.nx σ' H'
  | .rt d => ∀ v H' F', Fin G H' F' → RepK X.K G kr G.H0 H' F' v d → E.rt v H'
  | .bk env' => ∀ σ' H' F' fp', Rel X.K G env' σ' H' F' fp' → Same F F' → E.bk σ' H'
  | .ct env' => ∀ σ' H' F' fp', Rel X.K G env' σ' H' F' fp' → Same F F' → E.ct σ' H'
  | .err => False
  | .rx env' t => ∀ v σ' H' F' fp' l, Rel X.K G env' σ' H' F' fp' → New X.K G H' F' fp' v t l → E.rt v H'
  | .xc env' x => ∀ cls d σ' H' F' fp' l, Rel X.K G env' σ' H' F' fp' → Same F F' → XC X.K x.c cls → New X.K G H' F' fp' (vX d) (XT x) l → ∃ W : WX, Takes X W ∧ W cls d σ' H'
structure DS (X : Cx) (G : GC) (kr : RK) (st : Stmt) (f : List C → Out) : Prop where
  ex : ∃ t, PS X st t ∧ ∀ (σ : L2.St) (H F : Hp) (fp : Nat → List Addr) (env : List C) (E : Ends), Rel X.K G env σ H F fp → Post X G kr F E (f env) → t E σ H
structure DSs (X : Cx) (G : GC) (kr : RK) (st : List Stmt) (f : List C → Out) : Prop where
  ex : ∃ t, PSs X st t ∧ ∀ (σ : L2.St) (H F : Hp) (fp : Nat → List Addr) (env : List C) (E : Ends), Rel X.K G env σ H F fp → Post X G kr F E (f env) → t E σ H

section
variable {K : PySem.W.Frag} {G : GC} {env : List C} {σ : L2.St} {H F H' F' : Hp} {fp : Nat → List Addr} {kr : RK}
theorem Post.mono {X : Cx} {F F1 : Hp} {E : Ends} (s : Same F F1) : ∀ {o : Out}, Post X G kr F E o → Post X G kr F1 E o
  | .nx _, h => fun σ' H' F' fp' R z => h σ' H' F' fp' R (s.trans z)
  | .rt _, h => h
  | .bk _, h => fun σ' H' F' fp' R z => h σ' H' F' fp' R (s.trans z)
  | .ct _, h => fun σ' H' F' fp' R z => h σ' H' F' fp' R (s.trans z)
  | .err, h => h
  | .rx _ _, h => h
  | .xc _ _, h => fun cls d σ' H' F' fp' l R z => h cls d σ' H' F' fp' l R (s.trans z)
theorem Rel.fin (R : Rel K G env σ H F fp) : Fin G H F := ⟨R.keep, R.old, R.sub, R.new⟩
theorem Rel.h0 (R : Rel K G env σ H F fp) {a : Addr} (e : H a = none) : G.H0 a = none := by
  cases q : G.H0 a with
  | none => rfl
  | some o => exact absurd e (R.alive a (by rw [q]; intro z; cases z))
def fset (fp : Nat → List Addr) (i : Nat) (l : List Addr) : Nat → List Addr := fun j => if j = i then l else fp j
theorem fset_at {fp : Nat → List Addr} {i : Nat} {l : List Addr} : fset fp i l i = l := if_pos rfl
theorem fset_ne {fp : Nat → List Addr} {i j : Nat} {l : List Addr} (h : j ≠ i) : fset fp i l j = fp j := if_neg h
theorem join_set_at {σ : L2.St} {i : Nat} {v : V} (h : i < σ.length) : ((σ.set i (some v))[i]?).join = some v := by
  rw [List.getElem?_set_self h]; rfl
theorem Rel.put (R : Rel K G env σ H F fp) {i : Nat} {v : V} {c : C} {l : List Addr} (hs : SlotRep K G H F (some v) c l) (ho : ∀ a, a ∈ l → F a = none ∧ H a ≠ none ∧ G.H0 a = none) (hd : ∀ a, a ∈ l → ∀ j, j ≠ i → a ∉ fp j) :
    Rel K G (env.set i c) (σ.set i (some v)) H F (fset fp i l) where
  len := by rw [List.length_set, List.length_set, R.len]
  slot := fun j c' e => by
    by_cases hj : j = i
    · subst hj
      rw [fset_at]
      by_cases hl : j < env.length
      · rw [List.getElem?_set_self hl] at e; cases e
        rw [join_set_at (by rw [← R.len]; exact hl)]
        exact hs
      · rw [List.getElem?_eq_none (by rw [List.length_set]; omega)] at e; cases e
    · rw [List.getElem?_set_ne (Ne.symm hj)] at e
      rw [List.getElem?_set_ne (Ne.symm hj), fset_ne hj]
      exact R.slot j c' e
  dj := fun j k a h1 h2 => by
    by_cases hj : j = i
    · by_cases hk : k = i
      · exact hj.trans hk.symm
      · subst hj
        rw [fset_at] at h1; rw [fset_ne hk] at h2
        exact absurd h2 (hd a h1 k hk)
    · by_cases hk : k = i
      · subst hk
        rw [fset_at] at h2; rw [fset_ne hj] at h1
        exact absurd h1 (hd a h2 j hj)
      · rw [fset_ne hj] at h1; rw [fset_ne hk] at h2
        exact R.dj j k a h1 h2
  own := fun j a h1 => by
    by_cases hj : j = i
    · subst hj; rw [fset_at] at h1
      obtain ⟨g1, g2, g3⟩ := ho a h1
      exact ⟨g1, g2, .inl g3⟩
    · rw [fset_ne hj] at h1
      rw [List.getElem?_set_ne (Ne.symm hj)]
      exact R.own j a h1
  sub := R.sub
  new := R.new
  old := R.old
  keep := R.keep
  alive := R.alive
theorem Rel.drop (R : Rel K G env σ H F fp) (i : Nat) : Rel K G (env.set i .und) σ H F (fset fp i []) where
  len := by rw [List.length_set]; exact R.len
  slot := fun j c' e => by
    by_cases hj : j = i
    · subst hj
      rw [fset_at]
      by_cases hl : j < env.length
      · rw [List.getElem?_set_self hl] at e; cases e; rfl
      · rw [List.getElem?_eq_none (by rw [List.length_set]; omega)] at e; cases e
    · rw [List.getElem?_set_ne (Ne.symm hj)] at e
      rw [fset_ne hj]
      exact R.slot j c' e
  dj := fun j k a h1 h2 => by
    by_cases hj : j = i
    · subst hj; rw [fset_at] at h1; cases h1
    · by_cases hk : k = i
      · subst hk; rw [fset_at] at h2; cases h2
      · rw [fset_ne hj] at h1; rw [fset_ne hk] at h2
        exact R.dj j k a h1 h2
  own := fun j a h1 => by
    by_cases hj : j = i
    · subst hj; rw [fset_at] at h1; cases h1
    · rw [fset_ne hj] at h1
      rw [List.getElem?_set_ne (Ne.symm hj)]
      exact R.own j a h1
  sub := R.sub
  new := R.new
  old := R.old
  keep := R.keep
  alive := R.alive
theorem Rel.h00 (R : Rel K G env σ H F fp) {i : Nat} {c : C} (e : env[i]? = some c) (hc : c.mu = false) {a : Addr} (ha : a ∈ fp i) : G.H0 a = none := by
  rcases (R.own i a ha).2.2 with h | ⟨_, c', e', h⟩
  · exact h
  · rw [e] at e'; cases e'; rw [hc] at h; cases h
theorem Rel.write (R : Rel K G env σ H F fp) {i : Nat} {a : Addr} {o : HO} {c0 c : C} (hi : fp i = [a]) (e0 : env[i]? = some c0) (hs : SlotRep K G (upd H a o) F (σ[i]?.join) c [a]) (hc0 : c0.mu = false := by rfl) : Rel K G (env.set i c) σ (upd H a o) F fp := by
  obtain ⟨h1, h2, _⟩ := R.own i a (by rw [hi]; exact List.mem_singleton.mpr rfl)
  have h3 := R.h00 e0 hc0 (a := a) (by rw [hi]; exact List.mem_singleton.mpr rfl)
  have ne : ∀ b u, F b = some u → b ≠ a := fun b u e z => by rw [z, h1] at e; cases e
  exact {
    len := by rw [List.length_set]; exact R.len
    slot := fun j c' e => by
      by_cases hj : j = i
      · subst hj
        by_cases hl : j < env.length
        · rw [List.getElem?_set_self hl] at e; cases e; rw [hi]; exact hs
        · rw [List.getElem?_eq_none (by rw [List.length_set]; omega)] at e; cases e
      · rw [List.getElem?_set_ne (Ne.symm hj)] at e
        have q := R.slot j c' e
        have nm : a ∉ fp j := fun z => hj (R.dj j i a z (by rw [hi]; exact List.mem_singleton.mpr rfl))
        have na : ∀ b, fp j = [b] → b ≠ a := fun b z y => nm (by rw [z, y]; exact List.mem_singleton.mpr rfl)
        cases c' with
        | und => exact q
        | val d => exact q
        | brw d => exact q
        | lst ds => obtain ⟨b, vs, q1, q2, q3, q4⟩ := q; exact ⟨b, vs, q1, q2, by rw [upd_ne (na b q1)]; exact q3, q4⟩
        | dK ds => obtain ⟨b, vs, q1, q2, q3, q4⟩ := q; exact ⟨b, vs, q1, q2, by rw [upd_ne (na b q1)]; exact q3, q4⟩
        | dT ds => obtain ⟨b, vs, q1, q2, q3, q4⟩ := q; exact ⟨b, vs, q1, q2, by rw [upd_ne (na b q1)]; exact q3, q4⟩
        | dN ds => obtain ⟨b, w, xs, q1, q2, q5, q3, q4⟩ := q; exact ⟨b, w, xs, q1, q2, q5, by rw [upd_ne (na b q1)]; exact q3, q4⟩
        | ro b t => exact q
        | pin _ => exact q
        | al _ _ => exact q
        | al2 _ _ _ => exact q
        | own m t => obtain ⟨v, q1, q2, q3⟩ := q; exact ⟨v, q1, OR_mono (Same.refl _) _ _ _ (fun b o hb e => by rw [upd_ne (fun z => nm (by rw [← z]; exact hb))]; exact e) q2, q3⟩
    dj := R.dj
    own := fun j b hb => by
      obtain ⟨g1, g2, g3⟩ := R.own j b hb
      refine ⟨g1, ?_, ?_⟩
      · by_cases hb' : b = a
        · rw [hb', upd_same]; intro z; cases z
        · rw [upd_ne hb']; exact g2
      · by_cases hj : j = i
        · subst hj; exact .inl (R.h00 e0 hc0 hb)
        · rw [List.getElem?_set_ne (Ne.symm hj)]; exact g3
    sub := fun b u e => by rw [upd_ne (ne b u e)]; exact R.sub b u e
    new := R.new
    old := R.old
    keep := fun b u e hw => by
      have nb : b ≠ a := fun z => by rw [z, h3] at e; cases e
      rw [upd_ne nb]; exact R.keep b u e hw
    alive := fun b e => by
      by_cases hb' : b = a
      · rw [hb', upd_same]; intro z; cases z
      · rw [upd_ne hb']; exact R.alive b e }
end

section
variable {X : Cx} {G : GC} {kr k k1 : RK} {st : Stmt} {rest sts sts2 : List Stmt} {e a : Expr} {f g : List C → Out} {fe fa : List C → Option D} {ft : List C → Option Bool} {pos pos' : Pos}
def sNil : List C → Out := fun env => .nx env
def sSeq (f g : List C → Out) : List C → Out := fun env => match f env with | .nx e => g e | o => o
theorem dss_nil : DSs X G kr [] sNil := ⟨_, pss_nil, fun σ H F fp env E R q => q σ H F fp R (Same.refl _)⟩
theorem dss_cons (h : DS X G kr st f) (h2 : DSs X G kr rest g) : DSs X G kr (st :: rest) (sSeq f g) := by
  obtain ⟨t, p, o⟩ := h.ex
  obtain ⟨t2, p2, o2⟩ := h2.ex
  refine ⟨_, pss_cons p p2, fun σ H F fp env E R q => o σ H F fp env _ R ?_⟩
  unfold sSeq at q
  cases z : f env with
  | nx e' =>
    rw [z] at q
    intro σ' H' F' fp' R' s
    exact o2 σ' H' F' fp' e' E R' (Post.mono s q)
  | rt d => rw [z] at q; exact q
  | bk e' => rw [z] at q; exact q
  | ct e' => rw [z] at q; exact q
  | err => rw [z] at q; exact q
  | rx _ _ => rw [z] at q; exact q
  | xc _ _ => rw [z] at q; exact q
theorem dss_one (h : DS X G kr st f) : DSs X G kr [st] f := let ⟨t, p, o⟩ := h.ex; ⟨t, pss_one p, o⟩
def sFz (i : Nat) (g : List C → Out) : List C → Out := fun env => match env[i]? with | some (.lst ds) => g (env.set i (.val (.list ds))) | some (.val _) => g env | _ => .err
def sBrk : List C → Out := fun env => .bk env
def sCnt : List C → Out := fun env => .ct env
def sDrop (fe : List C → Option D) : List C → Out := fun env => match fe env with | some _ => .nx env | none => .err
def sRet (fe : List C → Option D) : List C → Out := fun env => match fe env with | some d => .rt d | none => .err
theorem RepK_h0 {K : PySem.W.Frag} {env : List C} {σ : L2.St} {H F H' F' : Hp} {fp : Nat → List Addr} {v : V} {d : D} (R : Rel K G env σ H F fp) (r : RepK K G k H H' F' v d) : RepK K G k G.H0 H' F' v d := by
  cases k with
  | ow =>
    obtain ⟨a, vs, ds, e1, e2, h1, r⟩ := r
    exact ⟨a, vs, ds, e1, e2, R.h0 h1, r⟩
  | _ => exact r
theorem ds_ret (h : DE X G k e fe) (hk : k.le kr = true := by rfl) : DS X G kr (.Return (some e) pos) (sRet fe) := by
  obtain ⟨t, p, o⟩ := (h.conv hk).ex
  refine ⟨_, ps_ret p, fun σ H F fp env E R q => ?_⟩
  unfold sRet at q
  cases z : fe env with
  | none => rw [z] at q; exact q.elim
  | some d =>
    rw [z] at q
    exact o σ H F fp env d _ R z fun v H' F' E' r => q v H' F' (R.ext E').fin (RepK_h0 R r)
def sRetL (i : Nat) : List C → Out := fun env => match env[i]? with | some (.lst ds) => .rt (.list ds) | _ => .err
def sRetN : List C → Out := fun _ => .rt .none
def sIf (ft : List C → Option Bool) (f g : List C → Out) : List C → Out := fun env => match ft env with | some true => f env | some false => g env | none => .err
theorem ds_if (hc : DTs X G e ft) (ha : DSs X G kr sts f) (hb : DSs X G kr sts2 g) : DS X G kr (.If e sts sts2 pos) (sIf ft f g) := by
  obtain ⟨tc, pc, oc⟩ := hc.ex
  obtain ⟨ta, pa, oa⟩ := ha.ex
  obtain ⟨tb, pb, ob⟩ := hb.ex
  refine ⟨_, ps_if pc pa pb, fun σ H F fp env E R q => ?_⟩
  unfold sIf at q
  cases z : ft env with
  | none => rw [z] at q; exact q.elim
  | some b =>
    rw [z] at q
    refine oc σ H F fp env b _ R z fun H' F' E' => ?_
    cases b with
    | true => exact iteT (oa σ H' F' fp env E (R.ext E') (Post.mono E'.f q))
    | false => exact iteF (ob σ H' F' fp env E (R.ext E') (Post.mono E'.f q))
def sSet (i : Nat) (fe : List C → Option D) : List C → Out := fun env => match fe env with | some d => .nx (env.set i (.val d)) | none => .err
theorem ds_set {x : Str} (i : Nat) (hN : X.N.Nodup) (hi : X.N[i]? = some x) (h : DE X G k e fe) (hx : Loc X.env.scope x := by first | exact .inl rfl | exact .inr rfl) (hk : k.le .fz = true := by rfl) (hs : swapsWith e (some (.Name x pos')) pos.line X.env = pure false := by rfl)
    (hf : X.fn x = true ∨ X.env.scope.names.lookup x = some .local := by first | exact .inl rfl | exact .inr rfl | assumption) : DS X G kr (.Assign [.Name x pos'] e pos) (sSet i fe) := by
  obtain ⟨t, p, o⟩ := (h.conv hk).ex
  refine ⟨_, ps_set hN hi hx p hs hf, fun σ H F fp env E R q => ?_⟩
  unfold sSet at q
  cases z : fe env with
  | none => rw [z] at q; exact q.elim
  | some d =>
    rw [z] at q
    refine o σ H F fp env d _ R z fun v H' F' E' r => ?_
    exact q _ H' F' _ ((R.ext E').put (i := i) (v := v) (c := .val d) (l := []) ⟨rfl, v, rfl, r⟩ (fun _ m => nomatch m) (fun _ m => nomatch m)) E'.f
def sSetL (i : Nat) (fe : List C → Option D) : List C → Out := fun env => match fe env with | some (.list ds) => .nx (env.set i (.lst ds)) | _ => .err
def sAug (i : Nat) (g : D → D → Option D) (fe : List C → Option D) : List C → Out := fun env => match env[i]? with
  | some (.val x) => (match fe env with | some y => (match g x y with | some z => .nx (env.set i (.val z)) | none => .err) | none => .err)
  | _ => .err
def sApp (i : Nat) (fe : List C → Option D) : List C → Out := fun env => match env[i]? with
  | some (.lst ds) => (match fe env with | some d => if ds.length < 16000000 then .nx (env.set i (.lst (ds ++ [d]))) else .err | none => .err)
  | _ => .err
def setAt (ds : List D) (i : Int) (d : D) : Option (List D) := (ixN ds.length i).map fun j => ds.set j d
def sSetIx (i : Nat) (fi fe : List C → Option D) : List C → Out := fun env => match env[i]? with
  | some (.lst ds) => (match fe env with
    | some d => (match fi env with
      | some (.int j) => (match setAt ds j d with | some ds' => .nx (env.set i (.lst ds')) | none => .err)
      | _ => .err)
    | none => .err)
  | _ => .err
end
end DL
namespace DL
open PySem PySem.Spec L2

def tD (K : PySem.W.Frag) (G : GC) (k : RK) (f : List C → Option D) : TE := fun σ H Q => ∃ (F : Hp) (fp : Nat → List Addr) (env : List C) (d : D), Rel K G env σ H F fp ∧ f env = some d ∧ ∀ v H' F', Ext H F H' F' → RepK K G k H H' F' v d → Q v H'
def tDT (K : PySem.W.Frag) (G : GC) (f : List C → Option Bool) : TT := fun σ H Q => ∃ (F : Hp) (fp : Nat → List Addr) (env : List C) (b : Bool), Rel K G env σ H F fp ∧ f env = some b ∧ ∀ H' F', Ext H F H' F' → Q b H'
section
variable {X : Cx} {G : GC} {k : RK} {e : Expr} {f : List C → Option D} {ft : List C → Option Bool}
theorem DE.canon (h : DE X G k e f) : PE X e (tD X.K G k f) := by
  obtain ⟨t, p, o⟩ := h.ex
  exact ⟨fun pins s σ H Q I ⟨F, fp, env, d, R, hf, q⟩ => p.run pins s σ H Q I (o σ H F fp env d Q R hf q)⟩
theorem DE.of (h : PE X e (tD X.K G k f)) : DE X G k e f := ⟨_, h, fun σ H F fp env d Q R hf q => ⟨F, fp, env, d, R, hf, q⟩⟩
theorem DTs.canon (h : DTs X G e ft) : PT X e (tDT X.K G ft) := by
  obtain ⟨t, p, o⟩ := h.ex
  exact ⟨fun pins s σ H Q I ⟨F, fp, env, d, R, hf, q⟩ => p.run pins s σ H Q I (o σ H F fp env d Q R hf q)⟩
end

structure DG (X : Cx) (G : GC) (is : List Nat) (tg : Expr) (f : D → List C → Option (List C)) : Prop where
  ex : ∃ t, PG X tg t ∧ ∀ (σ : L2.St) (H F : Hp) (fp : Nat → List Addr) (env env' : List C) (v : V) (d : D) (Q : L2.St → Hp → Prop), Rel X.K G env σ H F fp → DF X.K F v d → f d env = some env' →
    (∀ σ' fp', Rel X.K G env' σ' H F fp' → (∀ vs, (∀ i, i ∈ is → i ∈ vs) → wipe σ' vs = wipe σ vs) → (∀ j a, a ∈ fp' j → a ∈ fp j) → Q σ' H) → t v σ H Q
structure DGs (X : Cx) (G : GC) (is : List Nat) (tgs : List Expr) (f : List D → List C → Option (List C)) : Prop where
  ex : ∃ t, PGs X tgs t ∧ ∀ (σ : L2.St) (H F : Hp) (fp : Nat → List Addr) (env env' : List C) (vs : List V) (ds : List D) (Q : L2.St → Hp → Prop), Rel X.K G env σ H F fp → DFAll X.K F vs ds → f ds env = some env' →
    (∀ σ' fp', Rel X.K G env' σ' H F fp' → (∀ vs, (∀ i, i ∈ is → i ∈ vs) → wipe σ' vs = wipe σ vs) → (∀ j a, a ∈ fp' j → a ∈ fp j) → Q σ' H) → t vs σ H Q
theorem wipe_set0 (σ : L2.St) (i : Nat) (x : Option V) : ∀ vs : List Nat, (wipe (σ.set i x) vs).set i none = (wipe σ vs).set i none
  | [] => by unfold wipe; rw [List.set_set]
  | v :: vs => by
    unfold wipe
    by_cases h : v = i
    · subst h; rw [List.set_set, List.set_set]; exact wipe_set0 σ v x vs
    · rw [List.set_comm _ _ h, wipe_set0 σ i x vs, List.set_comm _ _ (Ne.symm h)]
theorem wipe_set (σ : L2.St) (i : Nat) (x : Option V) : ∀ vs : List Nat, i ∈ vs → wipe (σ.set i x) vs = wipe σ vs
  | v :: vs, h => by
    unfold wipe
    by_cases e : v = i
    · subst e; exact wipe_set0 σ v x vs
    · rw [wipe_set σ i x vs (by
        rcases List.mem_cons.mp h with z | z
        · exact absurd z.symm e
        · exact z)]
section
variable {X : Cx} {G : GC} {tg : Expr} {tgs : List Expr} {pos : Pos}
def tgN (i : Nat) : D → List C → Option (List C) := fun d env => some (env.set i (.val d))
theorem dg_name {x : Str} (i : Nat) (hN : X.N.Nodup) (hi : X.N[i]? = some x) (hx : Loc X.env.scope x := by first | exact .inl rfl | exact .inr rfl) (hf : X.fn x = true ∨ X.env.scope.names.lookup x = some .local := by first | exact .inl rfl | exact .inr rfl | assumption) :
    DG X G [i] (.Name x pos) (tgN i) := by
  refine ⟨_, pg_name hN hi hx hf, fun σ H F fp env env' v d Q R r hf q => ?_⟩
  cases hf
  refine q _ _ (R.put (i := i) (v := v) (c := .val d) (l := []) ⟨rfl, v, rfl, r⟩ (fun _ m => nomatch m) (fun _ m => nomatch m)) (fun vs h => wipe_set σ i _ vs (h i (List.mem_singleton.mpr rfl))) (fun j a h => ?_)
  by_cases hj : j = i
  · subst hj; rw [fset_at] at h; cases h
  · rw [fset_ne hj] at h; exact h
def tgNil : List D → List C → Option (List C) := fun ds env => match ds with | [] => some env | _ => none
def tgCons (f : D → List C → Option (List C)) (g : List D → List C → Option (List C)) : List D → List C → Option (List C) := fun ds env => match ds with | d :: r => (f d env).bind (g r) | [] => none
def tgT (g : List D → List C → Option (List C)) : D → List C → Option (List C) := fun d env => match d with | .tuple ds => g ds env | _ => none
def sAsg (f : D → List C → Option (List C)) (fe : List C → Option D) : List C → Out := fun env => match fe env with | some d => (match f d env with | some e => .nx e | none => .err) | none => .err
def sPar (i j : Nat) (fs : List C → Option (List D)) : List C → Out := fun env => match fs env with | some [x, y] => .nx ((env.set i (.val x)).set j (.val y)) | _ => .err
end

theorem pi_len {X : Cx} {tg iter : Expr} {wi : TI} (h : PI X tg iter wi) : PI X tg iter (fun σ H R => wi σ H fun J H' => LenOk X.K H' → R J H') := ⟨fun pins s σ H R I q => thn (h.run pins s σ H _ I q) fun v s1 h1 => thn h1 fun itv s2 ⟨it, fp, tn, J, H', e, I', T, t0, f0, r⟩ => ⟨it, fp, tn, J, H', e, I', T, t0, f0, r fun a xs hx => by
  rcases hx with hx | hx
  · obtain ⟨_, _, _, z⟩ := I'.list hx
    exact z
  · obtain ⟨_, _, _, z⟩ := I'.tuple hx
    exact z⟩⟩
def Walk (K : PySem.W.Frag) (J : It) (items : List D) (F' : Hp) : Prop := ∀ (i : Nat) (H2 F2 : Hp), Same F' F2 → Same F2 H2 →
  (∀ d, items[i]? = some d → J.go i H2 ∧ ∀ x H3, J.yld i H2 x H3 → ∃ F3, Ext H2 F2 H3 F3 ∧ DF K F3 x d) ∧ (items.length ≤ i → J.stop i H2)
structure DI (X : Cx) (G : GC) (tg iter : Expr) (f : List C → Option (List D)) : Prop where
  ex : ∃ wi, PI X tg iter wi ∧ ∀ (σ : L2.St) (H F : Hp) (fp : Nat → List Addr) (env : List C) (items : List D) (R : It → Hp → Prop), Rel X.K G env σ H F fp → f env = some items →
    (∀ J H' F', Ext H F H' F' → Walk X.K J items F' → (LenOk X.K H' → items.length ≤ sizeLine) → R J H') → wi σ H R
section
variable {X : Cx} {G : GC} {tg iter e : Expr} {k : RK} {f : List C → Option D} {fs : List C → Option (List D)} {p pos : Pos} {ks : List RK}
theorem pi_or {wi wi' : TI} (h : PI X tg iter wi) (h' : PI X tg iter wi') : PI X tg iter (fun σ H R => wi σ H R ∨ wi' σ H R) := ⟨fun pins s σ H R I q => by
  rcases q with q | q
  · exact h.run pins s σ H R I q
  · exact h'.run pins s σ H R I q⟩
def iSeq (f : List C → Option D) : List C → Option (List D) := fun env => match f env with | some (.list ds) => some ds | some (.tuple ds) => some ds | _ => none
theorem di_seq (h : DE X G k e f) (hk : k.le .fz = true := by rfl) : DI X G tg e (iSeq f) := by
  obtain ⟨t, p, o⟩ := (h.conv hk).ex
  refine ⟨_, pi_or (pi_list p) (pi_tup p), fun σ H F fp env items R Rl hf q => ?_⟩
  unfold iSeq at hf
  split at hf
  · rename_i ds z
    cases hf
    left
    refine o σ H F fp env _ _ Rl z fun v H1 F1 E1 r => ?_
    cases r with
    | @lst a vs _ h1 h2 =>
      refine ⟨a, rfl, ⟨vs, .inl (.inl (E1.sub _ _ h1))⟩, q _ H1 F1 E1 (fun i H2 F2 s1 s2 => ⟨fun d hd => ?_, fun hl => ?_⟩) (fun ln => by rw [← DFAll_len h2]; exact ln a vs (.inl (.inl (.inl (E1.sub _ _ h1)))))⟩
      · have e2 : H2 a = some (.lst vs) := s2 _ _ (s1 _ _ h1)
        obtain ⟨v, hv, rv⟩ := DFAll_get h2 hd
        refine ⟨⟨vs, v, .inl (.inl e2), hv⟩, fun x H3 ⟨eH, y⟩ => ⟨F2, ?_, ?_⟩⟩
        · subst eH; exact Ext.refl s2
        · have e3 := y vs (.inl (.inl e2))
          rw [hv] at e3; cases e3
          exact DF_mono s1 _ _ rv
      · exact ⟨vs, .inl (.inl (s2 _ _ (s1 _ _ h1))), by rw [DFAll_len h2]; exact hl⟩
  · rename_i ds z
    cases hf
    right
    refine o σ H F fp env _ _ Rl z fun v H1 F1 E1 r => ?_
    cases r with
    | @tup a vs _ h1 h2 =>
      refine ⟨a, rfl, ⟨vs, Same.seqT E1.sub h1⟩, q _ H1 F1 E1 (fun i H2 F2 s1 s2 => ⟨fun d hd => ?_, fun hl => ?_⟩) (fun ln => by rw [← DFAll_len h2]; exact ln a vs (.inr (Same.seqT E1.sub h1)))⟩
      · have e2 : SqT X.K H2 a vs := Same.seqT (s1.trans s2) h1
        obtain ⟨v, hv, rv⟩ := DFAll_get h2 hd
        refine ⟨⟨vs, v, e2, hv⟩, fun x H3 ⟨eH, y⟩ => ⟨F2, ?_, ?_⟩⟩
        · subst eH; exact Ext.refl s2
        · have e3 := y vs e2
          rw [hv] at e3; cases e3
          exact DF_mono s1 _ _ rv
      · exact ⟨vs, Same.seqT (s1.trans s2) h1, by rw [DFAll_len h2]; exact hl⟩
  · cases hf
def rng (lo : Int) (n : Nat) : List D := (List.range n).map fun i => .int (lo + (i : Nat))
theorem rng_len (lo : Int) (n : Nat) : (rng lo n).length = n := by unfold rng; rw [List.length_map, List.length_range]
theorem walk_rng {K : PySem.W.Frag} {F' : Hp} (lo : Int) (n : Nat) : Walk K (Itr lo n) (rng lo n) F' := fun i H2 F2 s1 s2 => by
  refine ⟨fun d hd => ?_, fun hl => by rw [rng_len] at hl; exact hl⟩
  have hi : i < n := by
    have := (List.getElem?_eq_some_iff.mp hd).1
    rw [rng_len] at this; exact this
  refine ⟨hi, fun x H3 ⟨e, ex⟩ => ⟨F2, by subst e; exact Ext.refl s2, ?_⟩⟩
  unfold rng at hd
  rw [List.getElem?_map, List.getElem?_range hi] at hd
  cases hd
  subst ex
  exact .int _
def iRng1F (f : List C → Option D) : List C → Option (List D) := fun env => match f env with | some (.int j) => if -(2 ^ 62) ≤ j ∧ j ≤ 16777216 then some (rng 0 j.toNat) else none | _ => none
theorem di_range1 (hg : Gl X "range") (hm : X.mg "range" = none) (h : DE X G k e f) (hk : k.le .vl = true := by rfl) (hs : starEach [e] X.env = [(false, eval e X.env)] := by rfl) : DI X G tg (.Call (.Name "range" p) [e] [] pos) (iRng1F f) := by
  obtain ⟨t, pt, o⟩ := (h.conv hk).ex
  refine ⟨_, pi_range1 hg hm (pa_cons pt pa_nil hs) hs, fun σ H F fp env items R Rl hf q => ?_⟩
  unfold iRng1F at hf
  split at hf
  · rename_i j z
    split at hf
    · cases hf
      rename_i hb
      refine o σ H F fp env _ _ Rl z fun v H1 F1 E1 r => ?_
      have ev := vl_int (G := G) (H := H1) (F := F1) r
      subst ev
      exact ⟨j, rfl, hb.1, by omega, q _ H1 F1 E1 (walk_rng 0 _) fun _ => by rw [rng_len, sizeLine_eq]; omega⟩
    · cases hf
  · cases hf
def iRng2F (f g : List C → Option D) : List C → Option (List D) := fun env => match f env with
  | some (.int i) => (match g env with | some (.int j) => if (-(2 ^ 62) ≤ i ∧ i < 2 ^ 62 ∧ -(2 ^ 62) ≤ j ∧ j < 2 ^ 62 ∧ j - i ≤ 16777216) then some (rng i (j - i).toNat) else none | _ => none)
  | _ => none
def rngD (lo : Int) (n : Nat) : List D := (List.range n).map fun i => .int (lo - (i : Nat))
def iRngD (f g h : List C → Option D) : List C → Option (List D) := fun env => match f env with
  | some (.int i) => (match g env with | some (.int j) => (match h env with | some (.int (-1)) => if (-(2 ^ 62) ≤ i ∧ i < 2 ^ 62 ∧ -(2 ^ 62) ≤ j ∧ j < 2 ^ 62 ∧ i - j ≤ 16777216) then some (rngD i (i - j).toNat) else none | _ => none) | _ => none)
  | _ => none
def iStrF (f : List C → Option D) : List C → Option (List D) := fun env => match f env with | some (.str z) => if z.length ≤ sizeLine then some (z.cps.toList.map fun c => .str ⟨#[c]⟩) else none | _ => none
theorem di_str (h : DE X G k e f) (hk : k.le .vl = true := by rfl) : DI X G tg e (iStrF f) := by
  obtain ⟨t, p, o⟩ := (h.conv hk).ex
  refine ⟨_, pi_str p, fun σ H F fp env items R Rl hf q => ?_⟩
  unfold iStrF at hf
  split at hf
  · rename_i z ez
    split at hf
    rotate_left
    · cases hf
    rename_i hz
    cases hf
    refine o σ H F fp env _ _ Rl ez fun v H1 F1 E1 r => ?_
    have ev := vl_str (G := G) (H := H1) (F := F1) r
    refine ⟨z, ev, q _ H1 F1 E1 (fun i H2 F2 s1 s2 => ⟨fun d hd => ?_, fun hl => ?_⟩) (fun _ => by rw [List.length_map, Array.length_toList]; exact hz)⟩
    · rw [List.getElem?_map] at hd
      cases y : z.cps.toList[i]? with
      | none => rw [y] at hd; cases hd
      | some c =>
        rw [y] at hd; cases hd
        have hi : i < z.cps.size := by
          have := (List.getElem?_eq_some_iff.mp y).1
          rw [Array.length_toList] at this; exact this
        refine ⟨hi, fun x H3 ⟨e, c', ec, ex⟩ => ⟨F2, by subst e; exact Ext.refl s2, ?_⟩⟩
        subst ex
        rw [← Array.getElem?_toList, y] at ec
        cases ec
        exact .str _
    · rw [List.length_map, Array.length_toList] at hl; exact hl
  · cases hf
def enumD (ds : List D) : List D := (List.range ds.length).zipWith (fun i d => .tuple [.int (i : Nat), d]) ds
def iEnumF (f : List C → Option D) : List C → Option (List D) := fun env => match f env with | some (.list ds) => some (enumD ds) | _ => none
def zipD : List D → List D → List D := List.zipWith fun x y => .tuple [x, y]
def iZipF (f g : List C → Option D) : List C → Option (List D) := fun env => match f env with
  | some (.list xs) => (match g env with | some (.list ys) => some (zipD xs ys) | _ => none)
  | some (.tuple xs) => (match g env with | some (.tuple ys) => some (zipD xs ys) | _ => none)
  | _ => none
end
end DL
namespace DL
open PySem PySem.Spec L2

section
variable {X : Cx} {G : GC} {tg iter e e2 elt : Expr} {k k2 kr : RK} {f f2 fe : List C → Option D} {fs : List C → Option (List D)} {p pos : Pos} {body : List Stmt} {fb : List C → Out} {ft : List C → Option Bool}
def forF (g : D → List C → Option (List C)) (b : List C → Out) : List D → List C → Out
  | [], env => .nx env
  | d :: ds, env => match g d env with
    | none => .err
    | some e => match b e with
      | .nx e' => forF g b ds e'
      | .ct e' => forF g b ds e'
      | .bk e' => .nx e'
      | .rt d => .rt d
      | .err => .err
      | .rx e t => .rx e t
      | .xc e x => .xc e x
def sFor (fi : List C → Option (List D)) (g : D → List C → Option (List C)) (b : List C → Out) : List C → Out := fun env => match fi env with | some items => forF g b items env | none => .err
theorem ds_for {is : List Nat} {fi : List C → Option (List D)} {g : D → List C → Option (List C)} (hp : PassesOwn (model X.prog X.w) X.A X.env X.xe) (hc : X.calm = true) (hi : DI X G tg iter fi) (hg : DG X G is tg g) (hb : DSs X G kr body fb)
    (hs : ∀ x, foldedSetIterable iter X.env x = pure x := by intro _; rfl) : DS X G kr (.For tg iter body [] pos) (sFor fi g fb) := by
  obtain ⟨wi, pw, ow⟩ := hi.ex
  obtain ⟨tg', pg, og⟩ := hg.ex
  obtain ⟨tb, pb, ob⟩ := hb.ex
  refine ⟨_, ps_for hp hc pw pg pb hs, fun σ H F fp env E R q => ?_⟩
  unfold sFor at q
  cases z : fi env with
  | none => rw [z] at q; exact q.elim
  | some items =>
    rw [z] at q
    refine ow σ H F fp env items _ R z fun J H1 F1 E1 wk _ => ?_
    refine ⟨fun i m σ H => m = items.length - i ∧ i ≤ items.length ∧ ∃ env fp F, Rel X.K G env σ H F fp ∧ Same F1 F ∧ Post X G kr F E (forF g fb (items.drop i) env), ⟨items.length, by simp, Nat.zero_le _, env, fp, F1, R.ext E1, Same.refl _, Post.mono E1.f (by rw [List.drop_zero]; exact q)⟩, ?_⟩
    rintro i m σ2 H2 ⟨rfl, hi, env2, fp2, F2, R2, s2, q2⟩
    obtain ⟨w1, w2⟩ := wk i H2 F2 s2 R2.sub
    by_cases hlt : i < items.length
    · right
      obtain ⟨d, hd⟩ : ∃ d, items[i]? = some d := ⟨items[i], List.getElem?_eq_getElem hlt⟩
      obtain ⟨go, y⟩ := w1 d hd
      have ed : items.drop i = d :: items.drop (i + 1) := by
        rw [List.drop_eq_getElem_cons hlt]
        rw [List.getElem?_eq_getElem hlt] at hd; cases hd; rfl
      rw [ed] at q2
      unfold forF at q2
      refine ⟨go, fun σ' H' => ∃ env' fp' F', Rel X.K G env' σ' H' F' fp' ∧ Same F1 F' ∧ Post X G kr F' E (forF g fb (items.drop (i + 1)) env'), fun σ' H' n => ⟨items.length - (i + 1), by omega, rfl, hlt, n⟩, fun x H3 yl => ?_⟩
      obtain ⟨F3, E3, r3⟩ := y x H3 yl
      have R3 := R2.ext E3
      cases z2 : g d env2 with
      | none => simp only [z2] at q2; exact q2.elim
      | some e' =>
        simp only [z2] at q2
        refine og σ2 H3 F3 fp2 env2 e' x d _ R3 r3 z2 fun σ4 fp4 R4 _ _ => ?_
        refine ob σ4 H3 F3 fp4 e' _ R4 ?_
        cases z3 : fb e' with
        | nx e'' =>
          simp only [z3] at q2
          exact fun σ5 H5 F5 fp5 R5 s5 => ⟨e'', fp5, F5, R5, (s2.trans E3.f).trans s5, Post.mono (E3.f.trans s5) q2⟩
        | ct e'' =>
          simp only [z3] at q2
          exact fun σ5 H5 F5 fp5 R5 s5 => ⟨e'', fp5, F5, R5, (s2.trans E3.f).trans s5, Post.mono (E3.f.trans s5) q2⟩
        | bk e'' =>
          simp only [z3] at q2
          exact fun σ5 H5 F5 fp5 R5 s5 => q2 σ5 H5 F5 fp5 R5 (E3.f.trans s5)
        | rt d' => simp only [z3] at q2; exact q2
        | err => simp only [z3] at q2; exact q2
        | rx _ _ => simp only [z3] at q2; exact q2
        | xc _ _ => simp only [z3] at q2; exact fun cls d σ' H' F' fp' l R s => q2 cls d σ' H' F' fp' l R (E3.f.trans s)
    · left
      have ei : i = items.length := by omega
      subst ei
      rw [List.drop_length] at q2
      exact ⟨w2 (Nat.le_refl _), q2 σ2 H2 F2 fp2 R2 (Same.refl _)⟩
def whileF (c : List C → Option Bool) (b : List C → Out) : Nat → List C → Out
  | 0, _ => .err
  | n + 1, env => match c env with
    | none => .err
    | some false => .nx env
    | some true => match b env with
      | .nx e' => whileF c b n e'
      | .ct e' => whileF c b n e'
      | .bk e' => .nx e'
      | .rt d => .rt d
      | .err => .err
      | .rx e t => .rx e t
      | .xc e x => .xc e x
def sWhile (fuel : List C → Nat) (c : List C → Option Bool) (b : List C → Out) : List C → Out := fun env => whileF c b (fuel env) env
def wipeE (env : List C) : List Nat → List C
  | [] => env
  | v :: vs => (wipeE env vs).set v .und
theorem Rel.drop2 {K : PySem.W.Frag} {env : List C} {σ : L2.St} {H F : Hp} {fp : Nat → List Addr} (R : Rel K G env σ H F fp) (i : Nat) : Rel K G (env.set i .und) (σ.set i none) H F (fset fp i []) where
  len := by rw [List.length_set, List.length_set]; exact R.len
  slot := fun j c' e => by
    by_cases hj : j = i
    · subst hj
      rw [fset_at]
      by_cases hl : j < env.length
      · rw [List.getElem?_set_self hl] at e; cases e; rfl
      · rw [List.getElem?_eq_none (by rw [List.length_set]; omega)] at e; cases e
    · rw [List.getElem?_set_ne (Ne.symm hj)] at e
      rw [fset_ne hj, List.getElem?_set_ne (Ne.symm hj)]
      exact R.slot j c' e
  dj := (R.drop i).dj
  own := (R.drop i).own
  sub := R.sub
  new := R.new
  old := R.old
  keep := R.keep
  alive := R.alive
theorem Rel.wiped {K : PySem.W.Frag} {env : List C} {σ : L2.St} {H F : Hp} {fp : Nat → List Addr} (R : Rel K G env σ H F fp) : ∀ vs : List Nat, ∃ fp', Rel K G (wipeE env vs) (wipe σ vs) H F fp' ∧ ∀ j a, a ∈ fp' j → a ∈ fp j
  | [] => ⟨fp, R, fun _ _ h => h⟩
  | v :: vs => by
    obtain ⟨fp', R', s⟩ := R.wiped vs
    refine ⟨_, R'.drop2 v, fun j a h => ?_⟩
    by_cases hj : j = v
    · subst hj; rw [fset_at] at h; cases h
    · rw [fset_ne hj] at h; exact s j a h
theorem Rel.updD {K : PySem.W.Frag} {env : List C} {σ : L2.St} {H F : Hp} {fp : Nat → List Addr} {p : Addr} {o : HO} (R : Rel K G env σ H F fp) (hp : ∀ j, p ∉ fp j) (hF : F p = none) (h0 : G.H0 p = none) : Rel K G env σ (upd H p o) F fp where
  len := R.len
  slot := fun j c' e => by
    have q := R.slot j c' e
    have na : ∀ b, fp j = [b] → b ≠ p := fun b z y => hp j (by rw [z, y]; exact List.mem_singleton.mpr rfl)
    cases c' with
    | ro b t => exact q
    | pin _ => exact q
    | al _ _ => exact q
    | al2 _ _ _ => exact q
    | own m t => obtain ⟨v, q1, q2, q3⟩ := q; exact ⟨v, q1, OR_mono (Same.refl _) _ _ _ (fun b o hb e => by rw [upd_ne (fun z => hp j (by rw [← z]; exact hb))]; exact e) q2, q3⟩
    | und => exact q
    | val d => exact q
    | brw d => exact q
    | lst ds => obtain ⟨b, vs, q1, q2, q3, q4⟩ := q; exact ⟨b, vs, q1, q2, by rw [upd_ne (na b q1)]; exact q3, q4⟩
    | dK ds => obtain ⟨b, vs, q1, q2, q3, q4⟩ := q; exact ⟨b, vs, q1, q2, by rw [upd_ne (na b q1)]; exact q3, q4⟩
    | dT ds => obtain ⟨b, vs, q1, q2, q3, q4⟩ := q; exact ⟨b, vs, q1, q2, by rw [upd_ne (na b q1)]; exact q3, q4⟩
    | dN ds => obtain ⟨b, w, xs, q1, q2, q5, q3, q4⟩ := q; exact ⟨b, w, xs, q1, q2, q5, by rw [upd_ne (na b q1)]; exact q3, q4⟩
  dj := R.dj
  own := fun j b hb => by
    obtain ⟨g1, g2, g3⟩ := R.own j b hb
    refine ⟨g1, ?_, g3⟩
    by_cases hb' : b = p
    · rw [hb', upd_same]; intro z; cases z
    · rw [upd_ne hb']; exact g2
  sub := fun b u e => by rw [upd_ne (fun z => by rw [z, hF] at e; cases e)]; exact R.sub b u e
  new := R.new
  old := R.old
  keep := fun b u e hw => by
    rw [upd_ne (fun z => by rw [z, h0] at e; cases e)]; exact R.keep b u e hw
  alive := fun b e => by
    by_cases hb' : b = p
    · rw [hb', upd_same]; intro z; cases z
    · rw [upd_ne hb']; exact R.alive b e
theorem wipe_wipe (σ : L2.St) : ∀ vs : List Nat, wipe (wipe σ vs) vs = wipe σ vs
  | [] => rfl
  | v :: vs => by
    show (wipe ((wipe σ vs).set v none) vs).set v none = (wipe σ vs).set v none
    rw [wipe_set0, wipe_wipe σ vs]
def lcF (g : D → List C → Option (List C)) (tt : List C → Option Bool) (fe : List C → Option D) (env : List C) : List D → Option (List D)
  | [] => some []
  | d :: ds => (g d env).bind fun e => (tt e).bind fun b => if b = true then (fe e).bind fun y => (lcF g tt fe env ds).map (y :: ·) else lcF g tt fe env ds
def eLc (vs : List Nat) (fi : List C → Option (List D)) (g : D → List C → Option (List C)) (tt : List C → Option Bool) (fe : List C → Option D) : List C → Option D := fun env => (fi env).bind fun items => (lcF g tt fe (wipeE env vs) items).map .list
def tgD (K : PySem.W.Frag) (G : GC) (is : List Nat) (f : D → List C → Option (List C)) : TG := fun v σ H Q => ∃ (F : Hp) (fp : Nat → List Addr) (env env' : List C) (d : D), Rel K G env σ H F fp ∧ DF K F v d ∧ f d env = some env' ∧
  ∀ σ' fp', Rel K G env' σ' H F fp' → (∀ vs, (∀ i, i ∈ is → i ∈ vs) → wipe σ' vs = wipe σ vs) → (∀ j a, a ∈ fp' j → a ∈ fp j) → Q σ' H
theorem DG.canon {is : List Nat} {f : D → List C → Option (List C)} (h : DG X G is tg f) : PG X tg (tgD X.K G is f) := by
  obtain ⟨t, p, o⟩ := h.ex
  exact ⟨fun pins s σ H v u Q I r ⟨F, fp, env, env', d, R, rd, hf, q⟩ => p.run pins s σ H v u Q I r (o σ H F fp env env' v d Q R rd hf q)⟩
structure DIf (X : Cx) (G : GC) (ifs : List Expr) (f : List C → Option Bool) : Prop where
  run : PTs X ifs (tDT X.K G f)
theorem dif_nil : DIf X G [] (fun _ => some true) := ⟨⟨fun pins s σ H Q I ⟨F, fp, env, b, R, hf, q⟩ => pts_nil.run pins s σ H Q I (by cases hf; exact q H F (Ext.refl R.sub))⟩⟩
theorem lc_ok {wi : TI} {is vs : List Nat} {fi : List C → Option (List D)} {g : D → List C → Option (List C)} (ow : ∀ (σ : L2.St) (H F : Hp) (fp : Nat → List Addr) (env : List C) (items : List D) (R : It → Hp → Prop), Rel X.K G env σ H F fp → fi env = some items →
    (∀ J H' F', Ext H F H' F' → Walk X.K J items F' → (LenOk X.K H' → items.length ≤ sizeLine) → R J H') → wi σ H R) (hi : ∀ i, i ∈ is → i ∈ vs) {σ : L2.St} {H F : Hp} {fp : Nat → List Addr} {env : List C} {d : D} {Q : VK} (R : Rel X.K G env σ H F fp) (hf : eLc vs fi g ft fe env = some d)
    (q : ∀ v H' F', Ext H F H' F' → RepK X.K G .ow H H' F' v d → Q v H') : tLc (fun σ H R => wi σ H fun J H' => LenOk X.K H' → R J H') (tgD X.K G is g) (tDT X.K G ft) (tD X.K G .fz fe) vs σ H Q := by
  unfold eLc at hf
  cases z : fi env with
  | none => rw [z] at hf; cases hf
  | some items =>
    rw [z] at hf
    cases z2 : lcF g ft fe (wipeE env vs) items with
    | none =>
      rw [show (some items : Option (List D)).bind (fun items => (lcF g ft fe (wipeE env vs) items).map PyData.list) = (lcF g ft fe (wipeE env vs) items).map PyData.list from rfl, z2] at hf
      cases hf
    | some res =>
      rw [show (some items : Option (List D)).bind (fun items => (lcF g ft fe (wipeE env vs) items).map PyData.list) = (lcF g ft fe (wipeE env vs) items).map PyData.list from rfl, z2] at hf
      cases hf
      refine ow σ H F fp env items _ R z fun J H1 F1 E1 wk lnw ln p np => ?_
      have hline := lnw ln
      have R1 := R.ext E1
      obtain ⟨fpw, Rw, sw⟩ := R1.wiped vs
      have pfp : ∀ j, p ∉ fpw j := fun j hm => (Rw.own j p hm).2.1 np
      have h0p : G.H0 p = none := R1.h0 np
      have f1p : F1 p = none := R1.sub.free np
      refine ⟨fun i m Hc => m = items.length - i ∧ i ≤ items.length ∧ ∃ Fc acc vs' rest, Rel X.K G (wipeE env vs) (wipe σ vs) Hc Fc fpw ∧ Same H1 Hc ∧ Same F1 Fc ∧ (∀ a o, Fc a = some o → F1 a = some o ∨ H1 a = none) ∧ Hc p = some (.lst vs') ∧ Fc p = none ∧ DFAll X.K Fc vs' acc ∧ lcF g ft fe (wipeE env vs) (items.drop i) = some rest ∧ acc ++ rest = res ∧ acc.length + rest.length ≤ i + rest.length ∧ vs'.length ≤ i,
        ⟨items.length, by simp, Nat.zero_le _, F1, [], [], res, Rw.updD pfp f1p h0p, fun b x e => by rw [upd_ne (ne_of_none e np)]; exact e, Same.refl _, fun _ _ e => .inl e, upd_same, f1p, .nil, by rw [List.drop_zero]; exact z2, rfl, by simp, Nat.le_refl _⟩, ?_⟩
      rintro i m Hc ⟨rfl, hile, Fc, acc, vs', rest, Rc, sH, sF, nF, hp, fpn, dacc, hrest, hres, hle, hvl⟩
      obtain ⟨w1, w2⟩ := wk i Hc Fc sF Rc.sub
      by_cases hlt : i < items.length
      · right
        obtain ⟨dd, hd⟩ : ∃ d, items[i]? = some d := ⟨items[i], List.getElem?_eq_getElem hlt⟩
        obtain ⟨go, y⟩ := w1 dd hd
        have ed : items.drop i = dd :: items.drop (i + 1) := by
          rw [List.drop_eq_getElem_cons hlt]
          rw [List.getElem?_eq_getElem hlt] at hd; cases hd; rfl
        rw [ed] at hrest
        unfold lcF at hrest
        cases z3 : g dd (wipeE env vs) with
        | none => rw [z3] at hrest; cases hrest
        | some e' =>
          rw [z3] at hrest
          have hrest : ((ft e').bind fun b => if b = true then (fe e').bind fun y => (lcF g ft fe (wipeE env vs) (items.drop (i + 1))).map (y :: ·) else lcF g ft fe (wipeE env vs) (items.drop (i + 1))) = some rest := hrest
          cases z4 : ft e' with
          | none => rw [z4] at hrest; cases hrest
          | some b =>
            rw [z4] at hrest
            have hrest : (if b = true then (fe e').bind fun y => (lcF g ft fe (wipeE env vs) (items.drop (i + 1))).map (y :: ·) else lcF g ft fe (wipeE env vs) (items.drop (i + 1))) = some rest := hrest
            refine ⟨go, fun H' => i + 1 ≤ items.length ∧ ∃ Fc acc vs' rest, Rel X.K G (wipeE env vs) (wipe σ vs) H' Fc fpw ∧ Same H1 H' ∧ Same F1 Fc ∧ (∀ a o, Fc a = some o → F1 a = some o ∨ H1 a = none) ∧ H' p = some (.lst vs') ∧ Fc p = none ∧ DFAll X.K Fc vs' acc ∧ lcF g ft fe (wipeE env vs) (items.drop (i + 1)) = some rest ∧ acc ++ rest = res ∧ acc.length + rest.length ≤ i + 1 + rest.length ∧ vs'.length ≤ i + 1,
              fun H' n => ⟨items.length - (i + 1), by omega, rfl, n⟩, fun x H3 yl => ?_⟩
            obtain ⟨F3, E3, r3⟩ := y x H3 yl
            have R3 := Rc.ext E3
            refine ⟨F3, fpw, _, e', dd, R3, r3, z3, fun σ4 fp4 R4 w4 s4 => ⟨w4 vs hi |>.trans ?_, ?_⟩⟩
            · exact wipe_wipe σ vs
            refine ⟨F3, fp4, e', b, R4, z4, fun H5 F5 E5 => ?_⟩
            have back : ∀ {H F}, Ext H3 F3 H F → Rel X.K G (wipeE env vs) (wipe σ vs) H F fpw := fun E => R3.ext E
            have fz : ∀ {H F}, Ext Hc Fc H F → F p = none := fun {H F} E => by
              cases q9 : F p with
              | none => rfl
              | some o =>
                rcases E.new p o q9 with z9 | z9
                · rw [fpn] at z9; cases z9
                · rw [hp] at z9; cases z9
            have nf : ∀ {H F}, Ext Hc Fc H F → ∀ a o, F a = some o → F1 a = some o ∨ H1 a = none := fun {H F} E a o e => by
              rcases E.new a o e with z9 | z9
              · exact nF a o z9
              · exact .inr (sH.free z9)
            cases b with
            | false =>
              simp only [Bool.false_eq_true, if_false] at hrest
              refine iteF ⟨hlt, F5, acc, vs', rest, back E5, sH.trans (E3.h.trans E5.h), sF.trans (E3.f.trans E5.f), nf (E3.trans E5), E5.h _ _ (E3.h _ _ hp), fz (E3.trans E5), DFAll_mono (E3.f.trans E5.f) _ _ dacc, hrest, hres, by omega, by omega⟩
            | true =>
              simp only [if_true] at hrest
              refine iteT ?_
              cases z5 : fe e' with
              | none => rw [z5] at hrest; cases hrest
              | some yv =>
                rw [z5] at hrest
                have hrest : ((lcF g ft fe (wipeE env vs) (items.drop (i + 1))).map (yv :: ·)) = some rest := hrest
                cases z6 : lcF g ft fe (wipeE env vs) (items.drop (i + 1)) with
                | none => rw [z6] at hrest; cases hrest
                | some rest' =>
                  rw [z6] at hrest; cases hrest
                  refine ⟨F5, fp4, e', yv, R4.ext E5, z5, fun v H6 F6 E6 r6 => ?_⟩
                  have E36 := E5.trans E6
                  refine ⟨vs', E6.h _ _ (E5.h _ _ (E3.h _ _ hp)), ?_, hlt, F6, acc ++ [yv], vs' ++ [v], rest', (back E36).updD pfp (fz (E3.trans E36)) h0p, ?_, sF.trans (E3.f.trans E36.f), nf (E3.trans E36), upd_same, fz (E3.trans E36), DFAll_app (DFAll_mono (E3.f.trans E36.f) _ _ dacc) (.cons r6 .nil), rfl, by rw [← hres]; simp, by simp only [List.length_append, List.length_cons, List.length_nil] at hle ⊢; omega, by rw [List.length_append]; simp; omega⟩
                  · omega
                  · intro b x e
                    rw [upd_ne (ne_of_none e np)]
                    exact E36.h _ _ (E3.h _ _ (sH _ _ e))
      · left
        have ei : i = items.length := by omega
        subst ei
        rw [List.drop_length] at hrest
        cases hrest
        rw [List.append_nil] at hres
        subst hres
        refine ⟨w2 (Nat.le_refl _), q _ Hc Fc ⟨E1.h.trans sH, E1.f.trans sF, Rc.sub, fun a o e => ?_⟩ ⟨p, vs', acc, rfl, rfl, E1.h.free np, hp, fpn, dacc⟩⟩
        rcases nF a o e with z9 | z9
        · exact E1.new a o z9
        · exact .inr (E1.h.free z9)
theorem d_lc {is : List Nat} {fi : List C → Option (List D)} {g : D → List C → Option (List C)} {ifs : List Expr} {scope : Scope} (own : List (Str × Nat)) (hc : X.calm = true) (hN : X.N.Nodup) (hi : DI X G tg iter fi) (N : List Str) (sc : Scope) (ok : blkC N sc scope own = true)
    (hg : ∀ (s : Shared) (H : Hp) (C : Addr) (cl : List (Str × Addr)) (fp : List Addr), DG (X.blk s H scope (compEnvC scope cl C X.env) fp) G is tg g) (ht : ∀ (s : Shared) (H : Hp) (C : Addr) (cl : List (Str × Addr)) (fp : List Addr), DIf (X.blk s H scope (compEnvC scope cl C X.env) fp) G ifs ft)
    (he : ∀ (s : Shared) (H : Hp) (C : Addr) (cl : List (Str × Addr)) (fp : List Addr), DE (X.blk s H scope (compEnvC scope cl C X.env) fp) G k elt fe) (hk : k.le .fz = true := by rfl) (his : ∀ i, i ∈ is → i ∈ own.map (·.2) := by decide) (hs : ∀ x, foldedSetIterable iter X.env x = pure x := by intro _; rfl) (hN2 : X.N = N := by rfl) (hs2 : X.env.scope = sc := by rfl) :
    DE X G .ow (.ListComp elt [⟨tg, iter, ifs, 0⟩] scope pos) (eLc (own.map (·.2)) fi g ft fe) := by
  obtain ⟨wi, pw, ow⟩ := hi.ex
  exact ⟨_, pe_lc hc hN (pi_len pw) (blkOk_by (by rw [hN2, hs2]; exact ok)) (fun s H C cl fp => (hg s H C cl fp).canon) (fun s H C cl fp => (ht s H C cl fp).run) (fun s H C cl fp => ((he s H C cl fp).conv hk).canon) hs,
    fun σ H F fp env d Q R hf q => lc_ok ow his R hf q⟩
end

def cells : List RK → List D → List C
  | .vw :: ks, d :: ds => .brw d :: cells ks ds
  | _ :: ks, d :: ds => .val d :: cells ks ds
  | _, _ => []
def runP (ks : List RK) (n : Nat) (body : List C → Out) : List D → Option D := fun ds => match body (cells ks ds ++ List.replicate (n - ds.length) .und) with
  | .rt d => some d
  | _ => none
def runN (ks : List RK) (n : Nat) (body : List C → Out) : List D → Option D := fun ds => match body (cells ks ds ++ List.replicate (n - ds.length) .und) with
  | .rt d => some d
  | .nx _ => some .none
  | _ => none
theorem cells_ok {K : PySem.W.Frag} {G : GC} {H F : Hp} (hk : ∀ v d, Dp K H v d → Dp K G.kp v d) : ∀ {ks : List RK} {vs : List V} {ds : List D}, okPs ks = true → RepKs K G H F ks vs ds → (cells ks ds).length = vs.length ∧ ∀ (i : Nat) (c : C), (cells ks ds)[i]? = some c → SlotRep K G H F ((vs.map some)[i]?.join) c []
  | [], [], [], _, _ => ⟨rfl, fun i c e => by simp [cells] at e⟩
  | k :: ks, v :: vs, d :: ds, hp, h => by
    cases k with
    | fz =>
      obtain ⟨h1, h2⟩ := cells_ok hk (show okPs ks = true from hp) h.2
      refine ⟨by simp [cells, h1], fun i c e => ?_⟩
      cases i with
      | zero => simp [cells] at e; subst e; exact ⟨rfl, v, rfl, h.1⟩
      | succ i => simp only [cells, List.getElem?_cons_succ] at e; simpa using h2 i c e
    | vw =>
      obtain ⟨h1, h2⟩ := cells_ok hk (show okPs ks = true from hp) h.2
      refine ⟨by simp [cells, h1], fun i c e => ?_⟩
      cases i with
      | zero => simp [cells] at e; subst e; exact ⟨rfl, v, rfl, hk _ _ h.1⟩
      | succ i => simp only [cells, List.getElem?_cons_succ] at e; simpa using h2 i c e
    | _ => cases hp
  | [], _ :: _, _, _, h => by cases h
  | [], [], _ :: _, _, h => by cases h
  | _ :: _, [], _, _, h => by cases h
  | _ :: _, _ :: _, [], _, h => by cases h
section
variable {P : Program} {w : World} {K : PySem.W.Frag} {mg : Str → Option Value} {base : Heap}
theorem rel_start {ks : List RK} {N : List Str} {vs : List V} {ds : List D} {H F0 : Hp} (hp : okPs ks = true) (sub : Same F0 H) (r : RepKs K ⟨H, F0, [], none⟩ H F0 ks vs ds) (ow : Option World) :
    Rel K ⟨H, F0, [], ow⟩ (cells ks ds ++ List.replicate (N.length - ds.length) .und) (L2.start N vs) H F0 (fun _ => []) := by
  have hk : ∀ v d, Dp K H v d → Dp K (GC.kp ⟨H, F0, [], ow⟩) v d := fun v d h => by
    have e : GC.kp ⟨H, F0, [], ow⟩ = H := by
      funext a
      unfold GC.kp
      exact if_neg List.not_mem_nil
    rw [e]; exact h
  obtain ⟨l1, l2⟩ := cells_ok (G := ⟨H, F0, [], ow⟩) hk hp (RepKs_any hp r)
  obtain ⟨m1, m2⟩ := RepKs_len r
  exact {
    len := by
      unfold L2.start
      rw [List.length_append, List.length_append, List.length_replicate, List.length_replicate, List.length_map, l1, m1]
    slot := fun i c e => by
      by_cases hi : i < (cells ks ds).length
      · rw [List.getElem?_append_left hi] at e
        have q := l2 i c e
        unfold L2.start
        rw [List.getElem?_append_left (by rw [List.length_map, ← l1]; exact hi)]
        exact q
      · rw [List.getElem?_append_right (by omega), List.getElem?_replicate] at e
        split at e
        · cases e; rfl
        · cases e
    dj := fun _ _ _ h => nomatch h
    own := fun _ _ h => nomatch h
    sub := sub
    new := fun _ _ e => .inl e
    old := Same.refl _
    keep := fun _ _ e _ => e
    alive := fun _ e => e }
theorem fn_gen {x qual : Str} {st : Stmt} {f : Addr} {fd : FuncData} {N ps : List Str} {k : Nat} {ks : List RK} {kr : RK} {body : List C → Out} {g : List D → Option D} (F : Fun K x qual st f fd) (S : FnScope N ps (defScope st)) (hl : ks.length = ps.length) (hp : okPs ks = true)
    (hgo : ∀ ds d, g ds = some d → body (cells ks ds ++ List.replicate (N.length - ds.length) .und) = .rt d ∨ (kr = .fz ∧ d = .none ∧ ∃ e, body (cells ks ds ++ List.replicate (N.length - ds.length) .und) = .nx e))
    (hbody : ∀ (cdv : Value) (A : Around) (outer : List Env) (s : Shared) (H : Hp) (E : XK) (G : GC), Room k (A.deeper (PyProof.Rows.envOfC qual (defScope st) s.heap.objs.size f cdv)) → G.W = [] → G.w = some w →
      DSs (cxOf CX0 P w K mg base N qual (defScope st) f cdv A outer s H E).nox G kr (defBody st) body) : FnOk P w K mg base CX0 (k + 1) f fd ps (spP K ks kr g) := by
  refine F.ok S (fun vs H Q E h => ?_) (fun cdv A outer s H vs Q E hr h => ?_)
  · obtain ⟨F0, ds, d, sub, hg, r, q⟩ := h
    obtain ⟨m1, m2⟩ := RepKs_len r
    omega
  · obtain ⟨F0, ds, d, sub, hg, r, q⟩ := h
    obtain ⟨t, pt, o⟩ := (hbody cdv A outer s H E ⟨H, F0, [], some w⟩ hr rfl rfl).ex
    refine ⟨t, pt, o _ H F0 _ _ _ (rel_start (N := N) hp sub r (some w)) ?_⟩
    rcases hgo ds d hg with e | ⟨rfl, rfl, e', e⟩
    · rw [e]
      exact fun v H' F' fin rk => q v H' F' ⟨fun a o e => fin.h a o e List.not_mem_nil, fin.f, fin.sub, fin.new⟩ rk
    · rw [e]
      exact fun σ' H' F' fp' R' s' => q .non H' F' ⟨fun a o e => R'.keep a o e List.not_mem_nil, R'.old, R'.sub, R'.new⟩ .non
theorem fn_pure {x qual : Str} {st : Stmt} {f : Addr} {fd : FuncData} {N ps : List Str} {k : Nat} {ks : List RK} {kr : RK} {body : List C → Out} (F : Fun K x qual st f fd) (S : FnScope N ps (defScope st)) (hl : ks.length = ps.length) (hp : okPs ks = true)
    (hbody : ∀ (cdv : Value) (A : Around) (outer : List Env) (s : Shared) (H : Hp) (E : XK) (G : GC), Room k (A.deeper (PyProof.Rows.envOfC qual (defScope st) s.heap.objs.size f cdv)) → G.W = [] → G.w = some w →
      DSs (cxOf CX0 P w K mg base N qual (defScope st) f cdv A outer s H E).nox G kr (defBody st) body) : FnOk P w K mg base CX0 (k + 1) f fd ps (spP K ks kr (runP ks N.length body)) :=
  fn_gen F S hl hp (fun ds d h => by
    unfold runP at h
    split at h
    · cases h; exact .inl (by assumption)
    · cases h) hbody
end
end DL
namespace DL
open PySem PySem.Spec L2

section
variable {X : Cx} {G : GC} {k k2 kr : RK} {e ei a : Expr} {f fe fi fa : List C → Option D} {pos p1 p2 : Pos} {x : Str}
def alikeB (ds : List D) : Bool := ds.all fun d => ds.all fun d' => W.alike d d'
def isTup1 : D → Bool | .tuple (_ :: _) => true | _ => false
def notNT : D → Bool | .none => false | .tuple _ => false | _ => true
def sortableB (ds : List D) : Bool := ds.all isTup1 || ds.all notNT
def gSorted : List D → Option D | [.list ds] => if alikeB ds = true ∧ sortableB ds = true ∧ (ds.all fun d => decide (d.depth ≤ 60)) = true then some (.list (ds.mergeSort (W.dataLe false fun d => d))) else none | _ => none
def rSortD (K : PySem.W.Frag) : List V → Hp → VK → Prop := fun xs H Q => ∃ (F : Hp) (a : Addr) (vs : List V) (ds : List D), xs = [.ref a] ∧ Same F H ∧ H a = some (.lst vs) ∧ DFAll K F vs ds ∧ alikeB ds = true ∧ sortableB ds = true ∧ (ds.all fun d => decide (d.depth ≤ 60)) = true ∧
  ∀ p ws, H p = none → DFAll K F ws (ds.mergeSort (W.dataLe false fun d => d)) → Q (.ref p) (upd H p (.lst ws))
def flatD : D → Bool | .none => true | .bool _ => true | .int _ => true | .str _ => true | _ => false
def flV : D → V | .none => .non | .bool b => .bl b | .int i => .int i | .str x => .str x | _ => .non
def inF (x : D) (ys : List D) : Bool := inV (flV x) (ys.map flV)
def gInF : D → D → Option D
  | x, .tuple ys => if flatD x = true ∧ ys.all flatD = true then some (.bool (inF x ys)) else none
  | x, .list ys => if flatD x = true ∧ ys.all flatD = true then some (.bool (inF x ys)) else none
  | _, _ => none
def gNotInF : D → D → Option D
  | x, .tuple ys => if flatD x = true ∧ ys.all flatD = true then some (.bool (!inF x ys)) else none
  | x, .list ys => if flatD x = true ∧ ys.all flatD = true then some (.bool (!inF x ys)) else none
  | _, _ => none
def gRev : D → Option D | .list xs => some (.list xs.reverse) | _ => none
def eRev (f : List C → Option D) : List C → Option D := fun env => (f env).bind gRev
def sAugIx (i : Nat) (g : D → D → Option D) (fi fe : List C → Option D) : List C → Out := fun env => match env[i]? with
  | some (.lst ds) => (match fi env with
    | some (.int j) => (match atI ds j with
      | some x => (match fe env with
        | some y => (match g x y with
          | some z => (match setAt ds j z with | some ds' => .nx (env.set i (.lst ds')) | none => .err)
          | none => .err)
        | none => .err)
      | none => .err)
    | _ => .err)
  | _ => .err
def sClear (i : Nat) : List C → Out := fun env => match env[i]? with | some (.lst _) => .nx (env.set i (.lst [])) | _ => .err
end
end DL
namespace DL
open PySem PySem.Spec L2
section
variable {X : Cx} {G : GC} {ka kb kr k1 : RK} {g1 g2 : D → D → Option D} {f : Value → Value → Sem Value} {tg iter e a : Expr} {pos : Pos}
def gOr (g1 g2 : D → D → Option D) : D → D → Option D := fun x y => match g1 x y with | some d => some d | none => g2 x y
theorem DOp.or (o1 : DOp X G f ka kb kr g1) (o2 : DOp X G f ka kb kr g2) : DOp X G f ka kb kr (gOr g1 g2) := by
  obtain ⟨r1, p1, q1⟩ := o1.ex
  obtain ⟨r2, p2, q2⟩ := o2.ex
  refine ⟨_, p1.or p2, fun H F vx vy dx dy d Q sub kp hl rx ry hd q => ?_⟩
  unfold gOr at hd
  split at hd
  · rename_i d' e
    cases hd
    exact .inl (q1 H F vx vy dx dy _ Q sub kp hl rx ry e q)
  · exact .inr (q2 H F vx vy dx dy d Q sub kp hl rx ry hd q)
theorem DOp.fz (o : DOp X G f ka kb .ow g1) : DOp X G f ka kb .fz g1 := by
  obtain ⟨r, p, q⟩ := o.ex
  refine ⟨r, p, fun H F vx vy dx dy d Q sub kp hl rx ry hd k => q H F vx vy dx dy d Q sub kp hl rx ry hd fun v H' F' E r => ?_⟩
  obtain ⟨a, vs, ds, rfl, rfl, h1, h2, h3, h4⟩ := r
  have m : Same F' (upd F' a (.lst vs)) := fun b x e => by rw [upd_ne (ne_of_none e h3)]; exact e
  refine k _ H' (upd F' a (.lst vs)) ⟨E.h, E.f.trans m, fun b x e => ?_, fun b x e => ?_⟩ (.lst upd_same (DFAll_mono m _ _ h4))
  · by_cases hb : b = a
    · subst hb; rw [upd_same] at e; rw [← e]; exact h2
    · rw [upd_ne hb] at e; exact E.sub _ _ e
  · by_cases hb : b = a
    · subst hb; exact .inr h1
    · rw [upd_ne hb] at e; exact E.new _ _ e
theorem repA_vw {K : PySem.W.Frag} {H F : Hp} {v : V} {d : D} (sub : Same F H) (r : RepA K G .vl H F v d) : RepA K G .vw H F v d := by
  rcases r with r | ⟨a, vs, ds, rfl, rfl, e3, e4⟩
  · exact Dp_mono sub _ _ (DF.dp _ _ r)
  · exact .lst (.inl (.inl e3)) (DpAll_mono sub _ _ (DFAll.dp _ _ e4))
theorem DOp.vl (o : DOp X G f .vw .vw kr g1) : DOp X G f .vl .vl kr g1 := by
  obtain ⟨r, p, q⟩ := o.ex
  exact ⟨r, p, fun H F vx vy dx dy d Q sub kp hl rx ry hd k => q H F vx vy dx dy d Q sub kp hl (repA_vw sub rx) (repA_vw sub ry) hd k⟩
def gAdd : D → D → Option D := gOr gAddI (gOr gAddS (gOr gAddL gAddT))
theorem o_add : DOp X G (binaryOp .Add) .vl .vl .fz gAdd := o_addI.or (o_addS.or (o_addL.fz.or o_addT))
def strRep (x : Str) (k : Nat) : Str := ⟨(List.replicate k x.cps.toList).flatten.toArray⟩
theorem foldl_arr (c : Array Nat) : ∀ (k : Nat) (acc : List Nat), (List.replicate k c).foldl (· ++ ·) acc.toArray = (acc ++ (List.replicate k c.toList).flatten).toArray
  | 0, acc => by simp
  | k + 1, acc => by
    rw [List.replicate_succ, List.foldl_cons, List.replicate_succ, List.flatten_cons, ← List.append_assoc]
    have e : acc.toArray ++ c = (acc ++ c.toList).toArray := by
      apply Array.ext'
      simp
    rw [e]
    exact foldl_arr c k _
theorem op_mulS : OpR X (binaryOp .Mult) (fun x y H Q => ∃ z k, x = .str z ∧ y = .int k ∧ 0 ≤ k ∧ k ≤ 1000 ∧ z.length ≤ 1000 ∧ Q (.str (strRep z k.toNat)) H) := by
  intro pins s σ H x y v u Q I rx ry h
  obtain ⟨z, k, rfl, rfl, h0, h1, h2, q⟩ := h
  obtain ⟨t, rfl⟩ := rx
  obtain ⟨t', rfl⟩ := ry
  have hn : z.length * k.toNat ≤ 1000000 := Nat.le_trans (Nat.mul_le_mul h2 (by omega : k.toNat ≤ 1000)) (by decide)
  have fin : ∀ tk, EP X pins σ Q (.str (strRep z k.toNat) tk) { s with toks := s.toks + 1 } := fun tk => ⟨.str (strRep z k.toNat), H, I.tok _, ⟨tk, rfl⟩, q⟩
  refine P.mul_str ?_ (fun hk _ => ?_) (fun hk _ => ?_) ?_
  · rw [decide_eq_false (by omega), decide_eq_false (by omega)]; rfl
  · intro hc
    have hk' : 0 < k := by omega
    have a1 : (2 ^ 63 - 1) / k ≥ (2 ^ 63 - 1) / 1000 := by
      refine Int.le_ediv_of_mul_le hk' ?_
      have : (2 ^ 63 - 1) / 1000 * k ≤ (2 ^ 63 - 1) / 1000 * 1000 := Int.mul_le_mul_of_nonneg_left h1 (by decide)
      omega
    have a2 : ((2 : Int) ^ 63 - 1) / 1000 ≥ 1000 := by decide
    omega
  · show decide (z.length * k.toNat > sizeLine) = false
    exact decide_eq_false (by rw [sizeLine_eq]; omega)
  · split
    · rename_i hk
      have e : strRep z k.toNat = Str.empty := by
        have : k.toNat = 0 := by omega
        unfold strRep
        rw [this]; rfl
      refine ⟨by decide, ?_⟩
      have := fin s.toks
      rw [e] at this
      exact this
    · split
      · rename_i hk hc
        have e : strRep z k.toNat = z := by
          rcases Bool.or_eq_true_iff.mp hc with y | y
          · have : k.toNat = 1 := by
              have := beq_iff_eq.mp y
              omega
            unfold strRep
            rw [this]
            simp
          · have y' := beq_iff_eq.mp y
            unfold strRep
            have : z.cps.toList = [] := List.eq_nil_of_length_eq_zero (by rw [Array.length_toList]; exact y')
            rw [this]
            apply Str.ext'
            apply Array.ext'
            simp [this]
        show EP X pins σ Q (.str z t) s
        exact ⟨.str z, H, I, ⟨t, rfl⟩, by rw [e] at q; exact q⟩
      · have e : (⟨(List.replicate k.toNat z.cps).foldl (· ++ ·) #[]⟩ : Str) = strRep z k.toNat := by
          unfold strRep
          have := foldl_arr z.cps k.toNat []
          rw [List.nil_append] at this
          rw [← this]
        rw [e]
        refine ⟨?_, fin s.toks⟩
        unfold strRep Str.length
        rw [List.size_toArray, PyProof.Rows.lm_len_rep_flat, Array.length_toList, sizeLine_eq]
        have : k.toNat * z.cps.size ≤ 1000000 := by rw [Nat.mul_comm]; exact hn
        omega
def gMulS : D → D → Option D | .str x, .int k => if 0 ≤ k ∧ k ≤ 1000 ∧ x.length ≤ 1000 then some (.str (strRep x k.toNat)) else none | _, _ => none
theorem o_mulS : DOp X G (binaryOp .Mult) .vl .vl .fz gMulS := ⟨_, op_mulS, fun H F vx vy dx dy d Q sub kp hl rx ry hd q => by
  unfold gMulS at hd
  split at hd
  · split at hd <;> cases hd
    rename_i hc
    have e1 := vl_str rx
    have e2 := vl_int ry
    subst e1 e2
    exact ⟨_, _, rfl, rfl, hc.1, hc.2.1, hc.2.2, q _ H F (Ext.refl sub) (.str _)⟩
  · cases hd⟩
def gEq : D → D → Option D := gOr gEqS gEqD
def gNe : D → D → Option D := gOr gNeS gNeD
theorem scal_vl {K : PySem.W.Frag} {H F : Hp} {v : V} {d : D} (hs : scalD d = true) (r : Dp K H v d) : RepA K G .vl H F v d := by
  cases r with
  | lst _ _ => cases hs
  | tup _ _ => cases hs
  | non => exact .inl .non
  | bl b => exact .inl (.bl b)
  | int i => exact .inl (.int i)
  | str x => exact .inl (.str x)
theorem o_eqSw : DOp X G (compareOp .Eq) .vw .vw .fz gEqS := by
  obtain ⟨r, p, q⟩ := (o_eqS (X := X) (G := G)).ex
  refine ⟨r, p, fun H F vx vy dx dy d Q sub kp hl rx ry hd k => q H F vx vy dx dy d Q sub kp hl (scal_vl ?_ rx) (scal_vl ?_ ry) hd k⟩
  · unfold gEqS at hd; split at hd <;> first | rfl | cases hd
  · unfold gEqS at hd; split at hd <;> first | rfl | cases hd
theorem o_neSw : DOp X G (compareOp .NotEq) .vw .vw .fz gNeS := by
  obtain ⟨r, p, q⟩ := (o_neS (X := X) (G := G)).ex
  refine ⟨r, p, fun H F vx vy dx dy d Q sub kp hl rx ry hd k => q H F vx vy dx dy d Q sub kp hl (scal_vl ?_ rx) (scal_vl ?_ ry) hd k⟩
  · unfold gNeS at hd; split at hd <;> first | rfl | cases hd
  · unfold gNeS at hd; split at hd <;> first | rfl | cases hd
theorem o_eq (hu : X.A.units + 64 < cLine) : DOp X G (compareOp .Eq) .vw .vw .fz gEq := o_eqSw.or (o_eqD hu)
theorem o_ne (hu : X.A.units + 64 < cLine) : DOp X G (compareOp .NotEq) .vw .vw .fz gNe := o_neSw.or (o_neD hu)
def gIn : D → D → Option D := gOr gInF gInL
def gNotIn : D → D → Option D := gOr gNotInF gNotInL
def gMul : D → D → Option D := gOr gMulI (gOr gMulS (gOr gMulL gMulT))
theorem o_mul : DOp X G (binaryOp .Mult) .vl .vl .fz gMul := o_mulI.or (o_mulS.or (o_mulL.fz.or o_mulT))
def gSlS : D → Option Int → Option Int → Option D | .str z, l, u => if z.length ≤ sizeLine then some (.str (cutS z l u)) else none | _, _, _ => none
def gSl : D → Option Int → Option Int → Option D
  | .list xs, l, u => some (.list (cutD xs l u))
  | .tuple xs, l, u => some (.tuple (cutD xs l u))
  | .str z, l, u => if z.length ≤ sizeLine then some (.str (cutS z l u)) else none
  | _, _, _ => none
theorem d_sl {lo hi : Option Expr} {fa : List C → Option D} {fl fu : List C → Option (Option Int)} {p2 : Pos} (ha : DE X G k1 a fa) (hl : DP X G lo fl) (hu : DP X G hi fu) (h1 : k1.le .vl = true := by rfl) : DE X G .fz (.Subscript a (.Slice lo hi none p2) pos) (e3 gSl fa fl fu) :=
  d_slice (ka := .vl) (sl_list.or (sl_tupA.or sl_str)) (fun H F vx dx d l u Q sub kp hlen rx hd q => by
    unfold gSl at hd
    split at hd
    · cases hd
      obtain ⟨p, vs, rfl, h1, h2⟩ := vl_list sub rx
      refine .inl ⟨p, vs, rfl, .inl (.inl h1), fun n nn => ?_⟩
      have m : Same F (upd F n (.lst (cutV vs l u))) := fun b x e => by rw [upd_ne (ne_of_none e (sub.free nn))]; exact e
      exact q _ _ _ (Ext.frozen sub nn) (.lst upd_same (DFAll_mono m _ _ (cut_rep h2 l u)))
    · rename_i xs
      cases hd
      have fx : ∃ a vs, vx = .ref a ∧ SqT X.K F a vs ∧ DFAll X.K F vs xs := by
        rcases rx with rx | ⟨_, _, _, _, z, _⟩
        · cases rx with | tup h1 h2 => exact ⟨_, _, rfl, h1, h2⟩
        · cases z
      obtain ⟨p, vs, rfl, h1, h2⟩ := fx
      refine .inr (.inl ⟨p, vs, rfl, Same.seqT sub h1, fun hw => ?_, fun hw n nn => ?_⟩)
      · have e : cutV vs l u = vs := by
          unfold cutV
          rw [hw.1, hw.2]
          exact List.take_length
        have r := cut_rep h2 l u
        rw [e] at r
        exact q _ H F (Ext.refl sub) (.tup h1 r)
      · obtain ⟨E, r⟩ := new_tup sub nn (cut_rep h2 l u)
        exact q _ _ _ E r
    · split at hd <;> cases hd
      have e1 := vl_str rx
      subst e1
      exact .inr (.inr ⟨_, rfl, by assumption, q _ H F (Ext.refl sub) (.str _)⟩)
    · cases hd) ha hl hu h1
def iAny (f : List C → Option D) : List C → Option (List D) := fun env => match f env with
  | some (.list ds) => some ds
  | some (.tuple ds) => some ds
  | some (.str z) => if z.length ≤ sizeLine then some (z.cps.toList.map fun c => .str ⟨#[c]⟩) else none
  | _ => none
theorem di_any {k : RK} {f : List C → Option D} (h : DE X G k e f) (hk : k.le .fz = true := by rfl) : DI X G tg e (iAny f) := by
  obtain ⟨w1, p1, o1⟩ := (di_seq (tg := tg) h hk).ex
  obtain ⟨w2, p2, o2⟩ := (di_str (tg := tg) (h.conv hk)).ex
  refine ⟨_, pi_or p1 p2, fun σ H F fp env items R Rl hf q => ?_⟩
  unfold iAny at hf
  split at hf
  · rename_i ds z
    cases hf
    exact .inl (o1 σ H F fp env _ R Rl (by unfold iSeq; rw [z]) q)
  · rename_i ds z
    cases hf
    exact .inl (o1 σ H F fp env _ R Rl (by unfold iSeq; rw [z]) q)
  · rename_i s z
    exact .inr (o2 σ H F fp env _ R Rl (by unfold iStrF; rw [z]; exact hf) q)
  · cases hf
end
def Free (mg : Str → Option Value) (x : Str) : Prop := mg x = none
end DL
namespace DL
open PySem PySem.Spec L2
theorem hu64 {A : Around} {k : Nat} (hr : Room k A) : A.units + 64 < cLine := hr.units
section
variable {X : Cx} {G : GC} {k kr : RK} {e a : Expr} {f fa : List C → Option D} {pos p pos' : Pos} {tg : Expr}
def gAddIS : D → D → Option D := gOr gAddI gAddS
def isNoD : D → Bool | .none => true | _ => false
def eIsN (f : List C → Option D) : List C → Option D := fun env => (f env).map fun d => .bool (isNoD d)
def eNotN (f : List C → Option D) : List C → Option D := fun env => (f env).map fun d => .bool (!isNoD d)
def iSeqB (f : List C → Option D) : List C → Option (List D) := fun env => match f env with | some (.list ds) => if ds.all scalD = true then some ds else none | _ => none
end
end DL
namespace DL
open PySem PySem.Spec L2
def SqB (kd : Bool) (K : PySem.W.Frag) (H : Hp) (a : Addr) (xs : List V) : Prop := if kd = true then SqT K H a xs else SqL K H a xs
def IsB (kd : Bool) (h : Heap) (a : Addr) (its : Array Value) : Prop := if kd = true then h.IsTuple a its else h.IsList a its
def ItB (kd : Bool) (h : Heap) (i a : Addr) (n : Nat) : Prop := if kd = true then h.IsTupleIter i a n else h.IsListIter i a n
def itO (kd : Bool) (a : Addr) : Obj := if kd = true then ⟨.type "tuple_iterator", none, .fields #[.ref a, .int 0 0], #[]⟩ else ⟨.type "list_iterator", none, .fields #[.ref a, .int 0 0], #[]⟩
section
variable {X : Cx} {pins : List (Addr × Obj)} {σ : L2.St} {H : Hp} {s : Shared} {a : Addr} {xs ys : List V} {kd : Bool}
end
def ItzM (K : PySem.W.Frag) (k1 k2 : Bool) (a b : Addr) (n1 n2 : Nat) : It where
  go := fun i H => ∃ (xs ys : List V) (x y : V), SqB k1 K H a xs ∧ SqB k2 K H b ys ∧ xs.length = n1 ∧ ys.length = n2 ∧ xs[i]? = some x ∧ ys[i]? = some y
  yld := fun i H v H' => ∃ T x y, v = .ref T ∧ H T = none ∧ H' = upd H T (.tup [x, y]) ∧ (∀ xs, SqB k1 K H a xs → xs[i]? = some x) ∧ ∀ ys, SqB k2 K H b ys → ys[i]? = some y
  stop := fun i H => ∃ xs ys : List V, SqB k1 K H a xs ∧ SqB k2 K H b ys ∧ xs.length = n1 ∧ ys.length = n2 ∧ (n1 ≤ i ∨ n2 ≤ i)
def tnM (k1 k2 : Bool) (a b z TI TO i1 i2 : Addr) (n1 n2 : Nat) (i : Nat) (h : Heap) : Prop :=
  IsZip h z TI TO .none ∧ IsTupOf2 h TI (.ref i1) (.ref i2) ∧ (∃ x y, IsTupOf2 h TO x y) ∧ ItB k1 h i1 a i ∧ ItB k2 h i2 b i ∧ i ≤ n1 ∧ i ≤ n2
def iZipX (K : PySem.W.Frag) (ta : TA) : TI := fun σ H R => ta σ H fun vs H1 => ∃ k1 k2 a b xs ys, vs = [.ref a, .ref b] ∧ SqB k1 K H1 a xs ∧ SqB k2 K H1 b ys ∧ R (ItzM K k1 k2 a b xs.length ys.length) H1
def sqD : D → Option (Bool × List D) | .list xs => some (false, xs) | .tuple xs => some (true, xs) | _ => none
def iZipG (f g : List C → Option D) : List C → Option (List D) := fun env => ((f env).bind sqD).bind fun x => ((g env).bind sqD).bind fun y => some (zipD x.2 y.2)
end DL
namespace DL
open PySem PySem.Spec L2
section
variable {X : Cx} {tg : Expr}
def iRngA (ta : TA) : TI := fun σ H R => ta σ H fun vs H1 => ∃ i j : Int, vs = [.int i, .int j] ∧ R (Itr i (j - i).toNat) H1
end
def iRng2A (f g : List C → Option D) : List C → Option (List D) := fun env => match f env with
  | some (.int i) => (match g env with | some (.int j) => if j - i ≤ 16777216 then some (rng i (j - i).toNat) else none | _ => none)
  | _ => none
end DL
namespace DL
open PySem PySem.Spec L2
section
variable {X : Cx} {pins : List (Addr × Obj)} {σ : L2.St} {H : Hp} {s : Shared}
mutual
theorem nested_is (I : Inv X pins σ H s) : ∀ (d : D) (v : V) (u : Value) (k : NestedKey), Dp X.K H v d → RelV v u → keyN d = some k → NestedIs s.heap k u
  | .none, _, u, k, h, r, e => by
    cases h; cases e; cases r; exact .none
  | .bool b, _, u, k, h, r, e => by
    cases h; cases e; cases r; exact .bool rfl
  | .int i, _, u, k, h, r, e => by
    cases h; cases e
    obtain ⟨t, rfl⟩ := r
    exact .int i t
  | .str x, _, u, k, h, r, e => by
    cases h; cases e
    obtain ⟨t, rfl⟩ := r
    exact .text x t
  | .tuple ds, _, u, k, h, r, e => by
    cases h with
    | tup hs ha =>
      unfold keyN at e
      cases z : keyNs ds with
      | none => rw [z] at e; cases e
      | some ks =>
        rw [z] at e; cases e
        cases r
        obtain ⟨its, rv, p, _⟩ := I.tuple hs
        obtain ⟨o, eo, ec, n, ed⟩ := p
        exact .tup eo ec ed (by
          rw [List.toList_toArray]
          exact nested_all I ds _ _ _ ha rv z)
  | .list _, _, _, _, _, _, e => by unfold keyN at e; cases e
  | .dict _, _, _, _, _, _, e => by unfold keyN at e; cases e
theorem nested_all (I : Inv X pins σ H s) : ∀ (ds : List D) (vs : List V) (us : List Value) (ks : List NestedKey), DpAll X.K H vs ds → Vals vs us → keyNs ds = some ks → NestedAll s.heap ks us
  | [], _, us, ks, h, r, e => by
    cases h; cases e; cases r; exact .nil
  | d :: ds, _, us, ks, h, r, e => by
    cases h with
    | cons h1 h2 =>
      unfold keyNs at e
      cases z1 : keyN d with
      | none => rw [z1] at e; cases e
      | some k =>
        cases z2 : keyNs ds with
        | none => rw [z1, z2] at e; cases e
        | some ks2 =>
          rw [z1, z2] at e; cases e
          cases r with
          | cons r1 r2 => exact .cons (nested_is I d _ _ _ h1 r1 z1) (nested_all I ds _ _ _ h2 r2 z2)
end
end
section
variable {X : Cx} {G : GC} {kr k k1 : RK} {e : Expr} {fe : List C → Option D} {pos p1 p2 pos' : Pos} {x y : Str}
def sDictN (i : Nat) : List C → Out := fun env => .nx (env.set i (.dN []))
def okK (d : D) : Bool := match d, keyN d with | .tuple _, some k => decide (k.depth ≤ 8) | _, _ => false
def hasK (ks : List D) (d : D) : Bool := ks.any fun k => decide (keyN k = keyN d)
def tNotInN (f : List C → Option D) (i : Nat) : List C → Option Bool := fun env => match env[i]? with
  | some (.dN ks) => (match f env with | some d => if okK d = true then some (!hasK ks d) else none | none => none)
  | _ => none
def sPutN (i : Nat) (f : List C → Option D) : List C → Out := fun env => match env[i]? with
  | some (.dN ks) => (match f env with | some d => if okK d = true ∧ hasK ks d = false ∧ ks.length < 16000000 then .nx (env.set i (.dN (ks ++ [d]))) else .err | none => .err)
  | _ => .err
end
section
variable {X : Cx} {G : GC}
def gDivA : D → D → Option D | .int i, .int j => if j ≠ 0 ∧ j.natAbs.log2 < 9000 then some (.int (i.fdiv j)) else none | _, _ => none
def gModA : D → D → Option D | .int i, .int j => if j ≠ 0 then some (.int (i.fmod j)) else none | _, _ => none
theorem o_modA : DOp X G (binaryOp .Mod) .vl .vl .fz gModA := dop_int (C := fun _ j => j ≠ 0) (r' := fun i j => .int (i.fmod j)) op_modN (fun x y d h => by
  unfold gModA at h
  split at h
  · split at h <;> cases h
    exact ⟨_, _, rfl, rfl, by assumption, rfl⟩
  · cases h) fun _ _ _ _ => .int _
end
end DL
namespace DL
open PySem PySem.Spec L2
section
variable {X : Cx} {G : GC} {k : RK} {e : Expr} {f : List C → Option D} {p p2 pos pos2 : Pos}
def eListRg (f : List C → Option D) : List C → Option D := fun env => match f env with
  | some (.int j) => if -(2 ^ 62) ≤ j ∧ j ≤ 16777216 then some (.list (rng 0 j.toNat)) else none
  | _ => none
end
end DL
namespace DL
open PySem PySem.Spec L2
section
variable {X : Cx} {G : GC} {kr k : RK} {e iter tg elt : Expr} {fe : List C → Option D} {ft : List C → Option Bool} {pos : Pos}
def flatO : Option D → Option D
  | some (.list es) => if es.all flatD = true then some (.list es) else none
  | _ => none
def eThaw (t : Nat) (fl : List C → Option D) : List C → Option D := fun env => match env[t]? with
  | some (.lst ds) => flatO (fl (env.set t (.val (.list ds))))
  | _ => none
def tThaw (t : Nat) (ft : List C → Option Bool) : List C → Option Bool := fun env => match env[t]? with
  | some (.lst ds) => ft (env.set t (.val (.list ds)))
  | _ => none
def sMove (i j : Nat) : List C → Out := fun env => match env[j]? with
  | some (.lst ds) => .nx ((env.set j .und).set i (.lst ds))
  | _ => .err
end
end DL
namespace DL
open PySem PySem.Spec L2
open Sem (wp)
def IteB (K : PySem.W.Frag) (kd : Bool) (a : Addr) (m : Nat) : It where
  go := fun i H => ∃ (xs : List V) (x : V), SqB kd K H a xs ∧ xs.length = m ∧ xs[i]? = some x
  yld := fun i H v H' => ∃ T x, v = .ref T ∧ H T = none ∧ H' = upd H T (.tup [.int (i : Nat), x]) ∧ ∀ xs, SqB kd K H a xs → xs[i]? = some x
  stop := fun i H => ∃ xs : List V, SqB kd K H a xs ∧ xs.length = m ∧ m ≤ i
def iEnumX (K : PySem.W.Frag) (ta : TA) : TI := fun σ H R => ta σ H fun vs H1 => ∃ kd a xs, vs = [.ref a] ∧ SqB kd K H1 a xs ∧ R (IteB K kd a xs.length) H1
def iEnumG (f : List C → Option D) : List C → Option (List D) := fun env => ((f env).bind sqD).bind fun x => some (enumD x.2)
end DL
set_option exponentiation.threshold 500
namespace DL
open PySem PySem.Spec L2

section
variable {env : List C} {f g : List C → Out} {fe fa fb : List C → Option D} {ft f1 f2 : List C → Option Bool} {fs : List C → Option (List D)} {fi : List C → Option (List D)} {i j n : Nat} {d x y : D} {ds xs ys : List D} {e : List C}
theorem ev_bs {α β : Type} {x : α} {f : α → Option β} : (some x).bind f = f x := (rfl)
theorem ev_bn {α β : Type} {f : α → Option β} : (none : Option α).bind f = none := (rfl)
theorem ev_ms {α β : Type} {x : α} {f : α → β} : (some x).map f = some (f x) := (rfl)
theorem ev_mn {α β : Type} {f : α → β} : (none : Option α).map f = none := (rfl)
theorem ev_g0 {α : Type} {a : α} {l : List α} : (a :: l)[0]? = some a := (rfl)
theorem ev_gs {α : Type} {a : α} {l : List α} {n : Nat} : (a :: l)[n + 1]? = l[n]? := (rfl)
theorem ev_s0 {α : Type} {a b : α} {l : List α} : (a :: l).set 0 b = b :: l := (rfl)
theorem ev_ss {α : Type} {a b : α} {l : List α} {n : Nat} : (a :: l).set (n + 1) b = a :: l.set n b := (rfl)
theorem ev_bn1 : (!true) = false := (rfl)
theorem ev_bn2 : (!false) = true := (rfl)
def oSeq (o : Out) (g : List C → Out) : Out := match o with | .nx e => g e | o => o
theorem ev_seq : sSeq f g env = oSeq (f env) g := by unfold sSeq oSeq; cases f env <;> rfl
theorem ev_seq_nx : oSeq (.nx e) g = g e := (rfl)
theorem ev_seq_rt : oSeq (.rt d) g = .rt d := (rfl)
theorem ev_seq_bk : oSeq (.bk e) g = .bk e := (rfl)
theorem ev_seq_ct : oSeq (.ct e) g = .ct e := (rfl)
theorem ev_nil : sNil env = .nx env := (rfl)
theorem ev_brk : sBrk env = .bk env := (rfl)
theorem ev_cnt : sCnt env = .ct env := (rfl)
def oIf (c : Option Bool) (f g : List C → Out) (env : List C) : Out := match c with | some true => f env | some false => g env | none => .err
theorem ev_if : sIf ft f g env = oIf (ft env) f g env := (rfl)
theorem ev_if_t : oIf (some true) f g env = f env := (rfl)
theorem ev_if_f : oIf (some false) f g env = g env := (rfl)
def oSet (o : Option D) (i : Nat) (env : List C) : Out := match o with | some d => .nx (env.set i (.val d)) | none => .err
theorem ev_set : sSet i fe env = oSet (fe env) i env := (rfl)
theorem ev_oset : oSet (some d) i env = .nx (env.set i (.val d)) := (rfl)
def oSetL (o : Option D) (i : Nat) (env : List C) : Out := match o with | some (.list ds) => .nx (env.set i (.lst ds)) | _ => .err
theorem ev_setL : sSetL i fe env = oSetL (fe env) i env := (rfl)
theorem ev_osetL : oSetL (some (.list ds)) i env = .nx (env.set i (.lst ds)) := (rfl)
def oDrop (o : Option D) (env : List C) : Out := match o with | some _ => .nx env | none => .err
theorem ev_drop : sDrop fe env = oDrop (fe env) env := (rfl)
theorem ev_odrop : oDrop (some d) env = .nx env := (rfl)
def oRet (o : Option D) : Out := match o with | some d => .rt d | none => .err
theorem ev_ret : sRet fe env = oRet (fe env) := (rfl)
theorem ev_oret : oRet (some d) = .rt d := (rfl)
theorem ev_retN : sRetN env = .rt .none := (rfl)
def oRetL (o : Option C) : Out := match o with | some (.lst ds) => .rt (.list ds) | _ => .err
theorem ev_retL : sRetL i env = oRetL env[i]? := (rfl)
theorem ev_oretL : oRetL (some (.lst ds)) = .rt (.list ds) := (rfl)
def oRun (o : Out) : Option D := match o with | .rt d => some d | _ => none
def oRunN (o : Out) : Option D := match o with | .rt d => some d | .nx _ => some .none | _ => none
theorem ev_run {ks : List RK} {b : List C → Out} : runP ks n b ds = oRun (b (cells ks ds ++ List.replicate (n - ds.length) .und)) := (rfl)
theorem ev_orun : oRun (.rt d) = some d := (rfl)
theorem ev_orunN : oRunN (.rt d) = some d := (rfl)
theorem ev_orunN_nx : oRunN (.nx e) = some .none := (rfl)
def oFz (c : Option C) (i : Nat) (g : List C → Out) (env : List C) : Out := match c with | some (.lst ds) => g (env.set i (.val (.list ds))) | some (.val _) => g env | _ => .err
theorem ev_fz : sFz i g env = oFz env[i]? i g env := (rfl)
theorem ev_fz_l : oFz (some (.lst ds)) i g env = g (env.set i (.val (.list ds))) := (rfl)
theorem ev_fz_v : oFz (some (.val d)) i g env = g env := (rfl)
def oApp (c : Option C) (o : Option D) (i : Nat) (env : List C) : Out := match c with
  | some (.lst ds) => (match o with | some d => if ds.length < 16000000 then .nx (env.set i (.lst (ds ++ [d]))) else .err | none => .err)
  | _ => .err
theorem ev_app : sApp i fe env = oApp env[i]? (fe env) i env := (rfl)
theorem ev_app_s (h : (ds.length : Int) < 16000000) : oApp (some (.lst ds)) (some d) i env = .nx (env.set i (.lst (ds ++ [d]))) := if_pos (by omega)
def oClear (c : Option C) (i : Nat) (env : List C) : Out := match c with | some (.lst _) => .nx (env.set i (.lst [])) | _ => .err
theorem ev_clear : sClear i env = oClear env[i]? i env := (rfl)
theorem ev_clear_s : oClear (some (.lst ds)) i env = .nx (env.set i (.lst [])) := (rfl)
def oNx (o : Option (List C)) : Out := match o with | some e => .nx e | none => .err
theorem ev_oNx : oNx (some e) = .nx e := (rfl)
def oAsg (o : Option D) (h : D → List C → Option (List C)) (env : List C) : Out := match o with | some d => oNx (h d env) | none => .err
theorem ev_asg {h : D → List C → Option (List C)} : sAsg h fe env = oAsg (fe env) h env := by unfold sAsg oAsg oNx; cases fe env <;> rfl
theorem ev_asg_s {h : D → List C → Option (List C)} : oAsg (some d) h env = oNx (h d env) := (rfl)
def oPar (o : Option (List D)) (i j : Nat) (env : List C) : Out := match o with | some [x, y] => .nx ((env.set i (.val x)).set j (.val y)) | _ => .err
theorem ev_par : sPar i j fs env = oPar (fs env) i j env := (rfl)
theorem ev_par_s : oPar (some [x, y]) i j env = .nx ((env.set i (.val x)).set j (.val y)) := (rfl)
def oAug (c : Option C) (o : Option D) (h : D → D → Option D) (i : Nat) (env : List C) : Out := match c with
  | some (.val x) => oSet (o.bind fun y => h x y) i env
  | _ => .err
theorem ev_aug {h : D → D → Option D} : sAug i h fe env = oAug env[i]? (fe env) h i env := by
  unfold sAug oAug
  cases env[i]? with
  | none => rfl
  | some c =>
    cases c <;> try rfl
    rename_i x
    cases fe env with
    | none => rfl
    | some y =>
      show (match h x y with | some z => Out.nx _ | none => Out.err) = oSet (h x y) i env
      cases h x y <;> rfl
theorem ev_aug_s {h : D → D → Option D} : oAug (some (.val x)) (some y) h i env = oSet (h x y) i env := (rfl)
def oSetIx (c : Option C) (oi o : Option D) (i : Nat) (env : List C) : Out := match c with
  | some (.lst ds) => (match o with
    | some d => (match oi with
      | some (.int j) => oSetL ((setAt ds j d).map .list) i env
      | _ => .err)
    | none => .err)
  | _ => .err
theorem ev_setIx {fj : List C → Option D} : sSetIx i fj fe env = oSetIx env[i]? (fj env) (fe env) i env := by
  unfold sSetIx oSetIx
  cases env[i]? with
  | none => rfl
  | some c =>
    cases c <;> try rfl
    rename_i ds
    cases fe env with
    | none => rfl
    | some d =>
      cases fj env with
      | none => rfl
      | some k =>
        cases k <;> try rfl
        rename_i k
        dsimp only
        cases setAt ds k d <;> rfl
theorem ev_setIx_s {k : Int} : oSetIx (some (.lst ds)) (some (.int k)) (some d) i env = oSetL ((setAt ds k d).map .list) i env := (rfl)
def oAugIx (c : Option C) (oi o : Option D) (h : D → D → Option D) (i : Nat) (env : List C) : Out := match c with
  | some (.lst ds) => (match oi with
    | some (.int j) => (match atI ds j with
      | some x => (match o with
        | some y => (match h x y with
          | some z => (match setAt ds j z with | some ds' => .nx (env.set i (.lst ds')) | none => .err)
          | none => .err)
        | none => .err)
      | none => .err)
    | _ => .err)
  | _ => .err
theorem ev_augIx {h : D → D → Option D} {fj : List C → Option D} : sAugIx i h fj fe env = oAugIx env[i]? (fj env) (fe env) h i env := by
  unfold sAugIx oAugIx
  rfl
theorem ev_dictN : sDictN i env = .nx (env.set i (.dN [])) := (rfl)
def oNotInN (c : Option C) (o : Option D) : Option Bool := match c with
  | some (.dN ks) => (match o with | some d => if okK d = true then some (!hasK ks d) else none | none => none)
  | _ => none
theorem ev_notInN : tNotInN fe i env = oNotInN env[i]? (fe env) := (rfl)
theorem ev_oNotInN (h : okK d = true) : oNotInN (some (.dN ds)) (some d) = some (!hasK ds d) := if_pos h
def oPutN (c : Option C) (o : Option D) (i : Nat) (env : List C) : Out := match c with
  | some (.dN ks) => (match o with | some d => if okK d = true ∧ hasK ks d = false ∧ ks.length < 16000000 then .nx (env.set i (.dN (ks ++ [d]))) else .err | none => .err)
  | _ => .err
theorem ev_putN : sPutN i fe env = oPutN env[i]? (fe env) i env := (rfl)
theorem ev_oPutN (h1 : okK d = true) (h2 : hasK ds d = false) (h3 : (ds.length : Int) < 16000000) : oPutN (some (.dN ds)) (some d) i env = .nx (env.set i (.dN (ds ++ [d]))) := if_pos ⟨h1, h2, by omega⟩
def oFor (o : Option (List D)) (h : D → List C → Option (List C)) (b : List C → Out) (env : List C) : Out := match o with | some items => forF h b items env | none => .err
theorem ev_for {h : D → List C → Option (List C)} {b : List C → Out} : sFor fi h b env = oFor (fi env) h b env := (rfl)
theorem ev_ofor {h : D → List C → Option (List C)} {b : List C → Out} : oFor (some ds) h b env = forF h b ds env := (rfl)
def rdV (c : Option C) : Option D := match c with | some (.val d) => some d | _ => none
def rdL (c : Option C) : Option D := match c with | some (.val d) => some d | some (.lst ds) => some (.list ds) | _ => none
def rdB (c : Option C) : Option D := match c with | some (.val d) => some d | some (.brw d) => some d | _ => none
theorem ev_V : eV i env = rdV env[i]? := (rfl)
theorem ev_L : eL i env = rdL env[i]? := (rfl)
theorem ev_B : eB i env = rdB env[i]? := (rfl)
theorem ev_rdV : rdV (some (.val d)) = some d := (rfl)
theorem ev_rdLv : rdL (some (.val d)) = some d := (rfl)
theorem ev_rdLl : rdL (some (.lst ds)) = some (.list ds) := (rfl)
theorem ev_rdBv : rdB (some (.val d)) = some d := (rfl)
theorem ev_rdBb : rdB (some (.brw d)) = some d := (rfl)
theorem ev_C : eC d env = some d := (rfl)
def o2 (g : D → D → Option D) (a b : Option D) : Option D := match a, b with | some x, some y => g x y | _, _ => none
theorem ev_e2 {g : D → D → Option D} : e2 g fa fb env = o2 g (fa env) (fb env) := by unfold e2 o2; cases fa env <;> cases fb env <;> rfl
theorem ev_o2 {g : D → D → Option D} : o2 g (some x) (some y) = g x y := (rfl)
theorem ev_e1 {g : List D → Option D} : e1 g fs env = (fs env).bind g := (rfl)
def o3 (g : D → Option Int → Option Int → Option D) (a : Option D) (l u : Option (Option Int)) : Option D := match a, l, u with | some x, some l, some u => g x l u | _, _, _ => none
theorem ev_e3 {g : D → Option Int → Option Int → Option D} {fl fu : List C → Option (Option Int)} : e3 g fa fl fu env = o3 g (fa env) (fl env) (fu env) := by
  unfold e3 o3; cases fa env <;> cases fl env <;> cases fu env <;> rfl
theorem ev_o3 {g : D → Option Int → Option Int → Option D} {l u : Option Int} : o3 g (some x) (some l) (some u) = g x l u := (rfl)
theorem ev_pN : pN env = some none := (rfl)
def oPS (o : Option D) : Option (Option Int) := match o with | some (.int i) => some (some i) | _ => none
theorem ev_pS : pS fe env = oPS (fe env) := (rfl)
theorem ev_oPS {k : Int} : oPS (some (.int k)) = some (some k) := (rfl)
def oCons (o : Option D) (os : Option (List D)) : Option (List D) := match o, os with | some d, some ds => some (d :: ds) | _, _ => none
theorem ev_aNil : aNil env = some [] := (rfl)
theorem ev_aCons : aCons fe fs env = oCons (fe env) (fs env) := by unfold aCons oCons; cases fe env <;> cases fs env <;> rfl
theorem ev_oCons : oCons (some d) (some ds) = some (d :: ds) := (rfl)
theorem ev_tup : eTup fs env = (fs env).map .tuple := (rfl)
def oLst (o : Option (List D)) : Option D := o.map .list
theorem ev_lst : eLst fs env = oLst (fs env) := (rfl)
theorem ev_oLst : oLst (some ds) = some (.list ds) := (rfl)
def oScal (o : Option D) : Option D := match o with | some d => if scalD d then some d else none | none => none
theorem ev_scal : eScal fe env = oScal (fe env) := (rfl)
theorem ev_scal_i {k : Int} : oScal (some (.int k)) = some (.int k) := (rfl)
theorem ev_scal_s {k : Str} : oScal (some (.str k)) = some (.str k) := (rfl)
theorem ev_scal_b {k : Bool} : oScal (some (.bool k)) = some (.bool k) := (rfl)
def oNeg (o : Option D) : Option D := match o with | some (.int i) => some (.int (-i)) | _ => none
theorem ev_neg : eNeg fe env = oNeg (fe env) := (rfl)
theorem ev_oNeg {k : Int} : oNeg (some (.int k)) = some (.int (-k)) := (rfl)
theorem ev_tB : tB fe env = asB (fe env) := (rfl)
theorem ev_asB {b : Bool} : asB (some (.bool b)) = some b := (rfl)
theorem ev_tNot : tNotF ft env = (ft env).map (!·) := (rfl)
def oAnd (c : Option Bool) (g : List C → Option Bool) (env : List C) : Option Bool := match c with | some true => g env | some false => some false | none => none
def oOr (c : Option Bool) (g : List C → Option Bool) (env : List C) : Option Bool := match c with | some true => some true | some false => g env | none => none
theorem ev_tAnd : tAndF f1 f2 env = oAnd (f1 env) f2 env := by
  unfold tAndF oAnd
  cases f1 env with
  | none => rfl
  | some b => cases b <;> rfl
theorem ev_tOr : tOrF f1 f2 env = oOr (f1 env) f2 env := by
  unfold tOrF oOr
  cases f1 env with
  | none => rfl
  | some b => cases b <;> rfl
theorem ev_oAnd_t : oAnd (some true) f1 env = f1 env := (rfl)
theorem ev_oAnd_f : oAnd (some false) f1 env = some false := (rfl)
theorem ev_oOr_t : oOr (some true) f1 env = some true := (rfl)
theorem ev_oOr_f : oOr (some false) f1 env = f1 env := (rfl)
def oAndD (c : Option Bool) (g : List C → Option D) (env : List C) : Option D := match c with | some true => g env | some false => some (.bool false) | none => none
def oOrD (c : Option Bool) (g : List C → Option D) (env : List C) : Option D := match c with | some true => some (.bool true) | some false => g env | none => none
theorem ev_eAnd : eAnd fa fb env = oAndD (asB (fa env)) fb env := by
  unfold eAnd oAndD
  cases asB (fa env) with
  | none => rfl
  | some b => cases b <;> rfl
theorem ev_eOr : eOr fa fb env = oOrD (asB (fa env)) fb env := by
  unfold eOr oOrD
  cases asB (fa env) with
  | none => rfl
  | some b => cases b <;> rfl
theorem ev_oAndD_t : oAndD (some true) fb env = fb env := (rfl)
theorem ev_oAndD_f : oAndD (some false) fb env = some (.bool false) := (rfl)
theorem ev_oOrD_t : oOrD (some true) fb env = some (.bool true) := (rfl)
theorem ev_oOrD_f : oOrD (some false) fb env = fb env := (rfl)
def oNot (o : Option Bool) : Option D := o.map fun c => .bool (!c)
theorem ev_eNot : eNot fe env = oNot (asB (fe env)) := (rfl)
theorem ev_oNot {b : Bool} : oNot (some b) = some (.bool (!b)) := (rfl)
def oIsi (T : String) (o : Option D) : Option D := o.bind fun d => (kitB (tyD d) T).map .bool
theorem ev_isi {T : String} : eIsi T fe env = oIsi T (fe env) := (rfl)
theorem ev_isi_ii {k : Int} : oIsi "int" (some (.int k)) = some (.bool true) := by
  show (kitB "int" "int").map PyData.bool = _
  rw [show kitB "int" "int" = some true by decide +kernel]; rfl
theorem ev_isi_ib {k : Int} : oIsi "bool" (some (.int k)) = some (.bool false) := by
  show (kitB "int" "bool").map PyData.bool = _
  rw [show kitB "int" "bool" = some false by decide +kernel]; rfl
theorem ev_isi_il {k : Int} : oIsi "list" (some (.int k)) = some (.bool false) := by
  show (kitB "int" "list").map PyData.bool = _
  rw [show kitB "int" "list" = some false by decide +kernel]; rfl
theorem ev_isi_it {k : Int} : oIsi "tuple" (some (.int k)) = some (.bool false) := by
  show (kitB "int" "tuple").map PyData.bool = _
  rw [show kitB "int" "tuple" = some false by decide +kernel]; rfl
theorem ev_isi_is {k : Int} : oIsi "str" (some (.int k)) = some (.bool false) := by
  show (kitB "int" "str").map PyData.bool = _
  rw [show kitB "int" "str" = some false by decide +kernel]; rfl
theorem ev_isi_ll : oIsi "list" (some (.list ds)) = some (.bool true) := by
  show (kitB "list" "list").map PyData.bool = _
  rw [show kitB "list" "list" = some true by decide +kernel]; rfl
theorem ev_isi_lt : oIsi "tuple" (some (.list ds)) = some (.bool false) := by
  show (kitB "list" "tuple").map PyData.bool = _
  rw [show kitB "list" "tuple" = some false by decide +kernel]; rfl
theorem ev_isi_li : oIsi "int" (some (.list ds)) = some (.bool false) := by
  show (kitB "list" "int").map PyData.bool = _
  rw [show kitB "list" "int" = some false by decide +kernel]; rfl
theorem ev_isi_lb : oIsi "bool" (some (.list ds)) = some (.bool false) := by
  show (kitB "list" "bool").map PyData.bool = _
  rw [show kitB "list" "bool" = some false by decide +kernel]; rfl
theorem ev_isi_tt : oIsi "tuple" (some (.tuple ds)) = some (.bool true) := by
  show (kitB "tuple" "tuple").map PyData.bool = _
  rw [show kitB "tuple" "tuple" = some true by decide +kernel]; rfl
theorem ev_isi_tl : oIsi "list" (some (.tuple ds)) = some (.bool false) := by
  show (kitB "tuple" "list").map PyData.bool = _
  rw [show kitB "tuple" "list" = some false by decide +kernel]; rfl
theorem ev_isi_ss {k : Str} : oIsi "str" (some (.str k)) = some (.bool true) := by
  show (kitB "str" "str").map PyData.bool = _
  rw [show kitB "str" "str" = some true by decide +kernel]; rfl
theorem ev_isi_bb {k : Bool} : oIsi "bool" (some (.bool k)) = some (.bool true) := by
  show (kitB "bool" "bool").map PyData.bool = _
  rw [show kitB "bool" "bool" = some true by decide +kernel]; rfl
theorem ev_isi_bi {k : Bool} : oIsi "int" (some (.bool k)) = some (.bool true) := by
  show (kitB "bool" "int").map PyData.bool = _
  rw [show kitB "bool" "int" = some true by decide +kernel]; rfl
def oIsN (o : Option D) : Option D := o.map fun d => .bool (isNoD d)
def oNotN (o : Option D) : Option D := o.map fun d => .bool (!isNoD d)
theorem ev_isN : eIsN fe env = oIsN (fe env) := (rfl)
theorem ev_notN : eNotN fe env = oNotN (fe env) := (rfl)
theorem ev_oIsN_n : oIsN (some .none) = some (.bool true) := (rfl)
theorem ev_oIsN_i {k : Int} : oIsN (some (.int k)) = some (.bool false) := (rfl)
theorem ev_oIsN_l : oIsN (some (.list ds)) = some (.bool false) := (rfl)
theorem ev_oIsN_t : oIsN (some (.tuple ds)) = some (.bool false) := (rfl)
theorem ev_oNotN_n : oNotN (some .none) = some (.bool false) := (rfl)
theorem ev_oNotN_i {k : Int} : oNotN (some (.int k)) = some (.bool true) := (rfl)
theorem ev_oNotN_l : oNotN (some (.list ds)) = some (.bool true) := (rfl)
theorem ev_oNotN_t : oNotN (some (.tuple ds)) = some (.bool true) := (rfl)
theorem ev_rev : eRev fe env = (fe env).bind gRev := (rfl)
theorem ev_gRev : gRev (.list xs) = some (.list xs.reverse) := (rfl)
def oAny (o : Option D) : Option (List D) := match o with
  | some (.list ds) => some ds
  | some (.tuple ds) => some ds
  | some (.str z) => if z.length ≤ sizeLine then some (z.cps.toList.map fun c => .str ⟨#[c]⟩) else none
  | _ => none
theorem ev_iAny : iAny fe env = oAny (fe env) := (rfl)
theorem ev_oAny_l : oAny (some (.list ds)) = some ds := (rfl)
theorem ev_oAny_t : oAny (some (.tuple ds)) = some ds := (rfl)
def oSeqB (o : Option D) : Option (List D) := match o with | some (.list ds) => if ds.all scalD = true then some ds else none | _ => none
theorem ev_iSeqB : iSeqB fe env = oSeqB (fe env) := (rfl)
theorem scal_ints : ∀ ns : List Int, (ns.map PyData.int).all scalD = true
  | [] => rfl
  | _ :: ns => scal_ints ns
theorem ev_oSeqB {ns : List Int} : oSeqB (some (.list (ns.map .int))) = some (ns.map .int) := if_pos (scal_ints ns)
def oEnum (o : Option D) : Option (List D) := match o with | some (.list ds) => some (enumD ds) | _ => none
theorem ev_iEnum : iEnumF fe env = oEnum (fe env) := (rfl)
theorem ev_oEnum : oEnum (some (.list ds)) = some (enumD ds) := (rfl)
def oZip (a b : Option D) : Option (List D) := (a.bind sqD).bind fun x => (b.bind sqD).bind fun y => some (zipD x.2 y.2)
theorem ev_iZip : iZipG fa fb env = oZip (fa env) (fb env) := (rfl)
theorem ev_oZip_ll : oZip (some (.list xs)) (some (.list ys)) = some (zipD xs ys) := (rfl)
theorem ev_oZip_tt : oZip (some (.tuple xs)) (some (.tuple ys)) = some (zipD xs ys) := (rfl)
theorem ev_oZip_lt : oZip (some (.list xs)) (some (.tuple ys)) = some (zipD xs ys) := (rfl)
theorem ev_oZip_tl : oZip (some (.tuple xs)) (some (.list ys)) = some (zipD xs ys) := (rfl)
def oRng1 (o : Option D) : Option (List D) := match o with | some (.int j) => if -(2 ^ 62) ≤ j ∧ j ≤ 16777216 then some (rng 0 j.toNat) else none | _ => none
theorem ev_iRng1 : iRng1F fe env = oRng1 (fe env) := (rfl)
theorem ev_rng1_s {k : Int} (h1 : -(2 ^ 62) ≤ k) (h2 : k ≤ 16777216) : oRng1 (some (.int k)) = some (rng 0 k.toNat) := if_pos ⟨h1, h2⟩
def oRng2 (a b : Option D) : Option (List D) := match a, b with
  | some (.int i), some (.int j) => if j - i ≤ 16777216 then some (rng i (j - i).toNat) else none
  | _, _ => none
theorem ev_iRng2 : iRng2A fa fb env = oRng2 (fa env) (fb env) := by
  unfold iRng2A oRng2
  cases fa env with
  | none => rfl
  | some a => cases a <;> (cases fb env with
    | none => rfl
    | some b => cases b <;> rfl)
theorem ev_rng2_s {k l : Int} (h5 : l - k ≤ 16777216) : oRng2 (some (.int k)) (some (.int l)) = some (rng k (l - k).toNat) := if_pos h5
theorem ev_tgN : tgN i d env = some (env.set i (.val d)) := (rfl)
theorem ev_tgNil : tgNil [] env = some env := (rfl)
theorem ev_tgCons {h : D → List C → Option (List C)} {k : List D → List C → Option (List C)} : tgCons h k (d :: ds) env = (h d env).bind (k ds) := (rfl)
theorem ev_tgT {k : List D → List C → Option (List C)} : tgT k (.tuple ds) env = k ds env := (rfl)
theorem ev_wipe_nil : wipeE env [] = env := (rfl)
theorem ev_wipe_cons {vs : List Nat} : wipeE env (i :: vs) = (wipeE env vs).set i .und := (rfl)
def oLc (o : Option (List D)) (h : D → List C → Option (List C)) (tt : List C → Option Bool) (fe : List C → Option D) (env : List C) : Option D := match o with | some items => (lcF h tt fe env items).map .list | none => none
theorem ev_lc {vs : List Nat} {h : D → List C → Option (List C)} : eLc vs fi h ft fe env = oLc (fi env) h ft fe (wipeE env vs) := by
  unfold eLc oLc; cases fi env <;> rfl
theorem ev_oLc {h : D → List C → Option (List C)} : oLc (some ds) h ft fe env = (lcF h ft fe env ds).map .list := (rfl)
end

section
variable {i j k : Int} {s t : Str} {xs ys : List D} {b c : Bool}
def Md (i : Int) : Prop := i.natAbs < 2 ^ 400000
theorem Md.of_lt (h1 : -(2 ^ 200) < i) (h2 : i < 2 ^ 200) : Md i := by
  have h3 : i.natAbs < 2 ^ 200 := by omega
  exact Nat.lt_of_lt_of_le h3 (Nat.pow_le_pow_right (by decide) (by decide))
theorem log2_lt {n k : Nat} (hk : 0 < k) (h : n < 2 ^ k) : n.log2 < k := by
  by_cases h0 : n = 0
  · subst h0; exact hk
  · exact (Nat.log2_lt h0).mpr h
theorem ev_add : gAdd (.int i) (.int j) = some (.int (i + j)) := (rfl)
theorem ev_addIS : gAddIS (.int i) (.int j) = some (.int (i + j)) := (rfl)
theorem ev_add_ll (h : (xs.length : Int) + ys.length ≤ 16777216) : gAdd (.list xs) (.list ys) = some (.list (xs ++ ys)) := by
  have : gAddL (.list xs) (.list ys) = some (.list (xs ++ ys)) := if_pos (by rw [sizeLine_eq]; omega)
  unfold gAdd gOr
  rw [this]; rfl
theorem ev_add_tt (h : (xs.length : Int) + ys.length ≤ 16777216) : gAdd (.tuple xs) (.tuple ys) = some (.tuple (xs ++ ys)) := by
  have : gAddT (.tuple xs) (.tuple ys) = some (.tuple (xs ++ ys)) := if_pos (by rw [sizeLine_eq]; omega)
  unfold gAdd gOr
  rw [this]; rfl
theorem ev_addL (h : (xs.length : Int) + ys.length ≤ 16777216) : gAddL (.list xs) (.list ys) = some (.list (xs ++ ys)) := if_pos (by rw [sizeLine_eq]; omega)
theorem flat_rep {α : Type} (x : α) : ∀ n : Nat, (List.replicate n [x]).flatten = List.replicate n x
  | 0 => rfl
  | n + 1 => by rw [List.replicate_succ, List.replicate_succ, List.flatten_cons, flat_rep x n]; rfl
theorem mulL_if {k : Int} : gMulL (.list xs) (.int k) = if k < 2 ^ 63 ∧ -(2 ^ 63) ≤ k ∧ xs.length * k.toNat ≤ sizeLine then some (.list (List.replicate k.toNat xs).flatten) else none := rfl
theorem gOr_s {g1 g2 : D → D → Option D} {x y d : D} (h : g1 x y = some d) : gOr g1 g2 x y = some d := by unfold gOr; rw [h]
theorem gOr_n {g1 g2 : D → D → Option D} {x y d : D} (h : g1 x y = none) (h2 : g2 x y = some d) : gOr g1 g2 x y = some d := by unfold gOr; rw [h]; exact h2
theorem mulI_l {y : D} : gMulI (.list xs) y = none := by cases y <;> rfl
theorem mulS_l {y : D} : gMulS (.list xs) y = none := by cases y <;> rfl
theorem ev_repL {x : D} {n : Nat} (h : ((n : Nat) : Int) ≤ 1000000) : gMulL (.list [x]) (.int (n : Nat)) = some (.list (List.replicate n x)) := by
  have c : ((n : Nat) : Int) < 2 ^ 63 ∧ -(2 ^ 63) ≤ ((n : Nat) : Int) ∧ [x].length * ((n : Nat) : Int).toNat ≤ sizeLine := ⟨by omega, by omega, by rw [sizeLine_eq, Int.toNat_natCast]; show 1 * n ≤ _; omega⟩
  rw [mulL_if, if_pos c, Int.toNat_natCast, flat_rep]
theorem ev_rep {x : D} {n : Nat} (h : ((n : Nat) : Int) ≤ 1000000) : gMul (.list [x]) (.int (n : Nat)) = some (.list (List.replicate n x)) := by
  have e := ev_repL (x := x) h
  show gOr gMulI (gOr gMulS (gOr gMulL gMulT)) (.list [x]) (.int (n : Nat)) = _
  exact gOr_n mulI_l (gOr_n mulS_l (gOr_s e))
theorem ev_sub : gSub (.int i) (.int j) = some (.int (i - j)) := (rfl)
theorem ev_mul (h1 : Md i) (h2 : Md j) : gMul (.int i) (.int j) = some (.int (i * j)) := by
  have a1 := log2_lt (by decide) h1
  have a2 := log2_lt (by decide) h2
  have : gMulI (.int i) (.int j) = some (.int (i * j)) := if_pos (by omega)
  unfold gMul gOr
  rw [this]
theorem ev_mod (h : 0 < j) : gMod (.int i) (.int j) = some (.int (i % j)) := if_pos h
theorem ev_div (h : 0 < j) (h2 : j < 2 ^ 250) : gDiv (.int i) (.int j) = some (.int (i / j)) := if_pos ⟨h, by
  have : j.natAbs < 2 ^ 250 := by omega
  have := log2_lt (by decide) this
  omega⟩
theorem ev_modA (h : 0 < j) : gModA (.int i) (.int j) = some (.int (i % j)) := by
  show (if j ≠ 0 then some (PyData.int (i.fmod j)) else none) = _
  rw [if_pos (by omega), Int.fmod_eq_emod_of_nonneg _ (by omega)]
theorem ev_divA (h : 0 < j) (h2 : j < 2 ^ 250) : gDivA (.int i) (.int j) = some (.int (i / j)) := by
  have a : j.natAbs < 2 ^ 250 := by omega
  have b := log2_lt (by decide) a
  show (if j ≠ 0 ∧ j.natAbs.log2 < 9000 then some (PyData.int (i.fdiv j)) else none) = _
  rw [if_pos ⟨by omega, by omega⟩, Int.fdiv_eq_ediv_of_nonneg _ (by omega)]
theorem ev_pow (h0 : 0 ≤ j) (h1 : j ≤ 1000000) (h2 : i.natAbs < 2 ^ 64) : gPow (.int i) (.int j) = some (.int (i ^ j.toNat)) := if_pos ⟨h0, h1, h2⟩
theorem ev_lt : gLt (.int i) (.int j) = some (.bool (decide (i < j))) := (rfl)
theorem ev_le : gLe (.int i) (.int j) = some (.bool (decide (i ≤ j))) := (rfl)
theorem ev_gt : gGt (.int i) (.int j) = some (.bool (decide (j < i))) := (rfl)
theorem ev_ge : gGe (.int i) (.int j) = some (.bool (decide (j ≤ i))) := (rfl)
theorem ev_eq : gEq (.int i) (.int j) = some (.bool (decide (i = j))) := (rfl)
theorem ev_ne : gNe (.int i) (.int j) = some (.bool (!decide (i = j))) := (rfl)
theorem ev_eqs : gEq (.str s) (.str t) = some (.bool (decide (s = t))) := (rfl)
theorem ev_nes : gNe (.str s) (.str t) = some (.bool (!decide (s = t))) := (rfl)
theorem ev_eqb : gEq (.bool b) (.bool c) = some (.bool (decide (b = c))) := (rfl)
theorem ev_neb : gNe (.bool b) (.bool c) = some (.bool (!decide (b = c))) := (rfl)
theorem ev_len : gLen [.list xs] = some (.int xs.length) := (rfl)
theorem ev_lenT : gLen [.tuple xs] = some (.int xs.length) := (rfl)
theorem ev_list : gList [.list xs] = some (.list xs) := (rfl)
theorem ev_listT : gList [.tuple xs] = some (.list xs) := (rfl)
theorem ev_tuple : gTuple [.list xs] = some (.tuple xs) := (rfl)
theorem ev_tupleT : gTuple [.tuple xs] = some (.tuple xs) := (rfl)
theorem ev_int : gInt [.int i] = some (.int i) := (rfl)
theorem ev_intb : gInt [.bool b] = some (.int (if b then 1 else 0)) := (rfl)
theorem ev_sum {ns : List Int} : gSum [.list (ns.map .int)] = some (.int ns.sum) := by
  unfold gSum; simp only [allInt_map, Option.map_some]
theorem ev_sum0 : gSum [.list []] = some (.int 0) := (rfl)
theorem ev_max2 : gMax2 [.int i, .int j] = some (.int (if j > i then j else i)) := (rfl)
theorem ev_min2 : gMin2 [.int i, .int j] = some (.int (if j < i then j else i)) := (rfl)
theorem ev_sl {l u : Option Int} : gSl (.list xs) l u = some (.list (cutD xs l u)) := (rfl)
theorem ev_slT {l u : Option Int} : gSl (.tuple xs) l u = some (.tuple (cutD xs l u)) := (rfl)
theorem ev_slL {l u : Option Int} : gSlL (.list xs) l u = some (.list (cutD xs l u)) := (rfl)
theorem ev_slB {ns : List Int} {l u : Option Int} : gSlB (.list (ns.map .int)) l u = some (.list ((cutD ns l u).map .int)) := by
  unfold gSlB; simp only [allInt_map, Option.map_some]
theorem ev_ix : gIxS (.list xs) (.int i) = atI xs i := (rfl)
theorem ev_ixT : gIxS (.tuple xs) (.int i) = atI xs i := (rfl)
theorem ev_ixB : gIxB (.list xs) (.int i) = atI xs i := (rfl)
theorem ev_ixBT : gIxB (.tuple xs) (.int i) = atI xs i := (rfl)
theorem ixN_pos {n : Nat} (h0 : 0 ≤ i) (h1 : i < n) : ixN n i = some i.toNat := by
  unfold ixN
  rw [if_pos h0, if_pos (by omega)]
theorem ev_at (h0 : 0 ≤ i) (h1 : i < xs.length) : atI xs i = xs[i.toNat]? := by
  unfold atI
  rw [ixN_pos h0 h1]; rfl
theorem ev_atm {α : Type} {f : α → D} {l : List α} (h0 : 0 ≤ i) (h1 : i < l.length) : atI (l.map f) i = (l[i.toNat]?).map f := by
  rw [ev_at h0 (by rw [List.length_map]; exact h1), List.getElem?_map]
end

def Sz (k : Nat) (i : Int) : Prop := i.natAbs < 2 ^ k
section
variable {a b k : Nat} {i j : Int}
theorem Sz.mono (h : Sz a i) (hab : a ≤ b) : Sz b i := Nat.lt_of_lt_of_le h (Nat.pow_le_pow_right (by decide) hab)
theorem Sz.sub (h1 : Sz a i) (h2 : Sz a j) : Sz (a + 1) (i - j) := by
  unfold Sz at *
  rw [Nat.pow_succ]
  omega
theorem Sz.le (h : Sz k i) (hj : j.natAbs ≤ i.natAbs) : Sz k j := Nat.lt_of_le_of_lt hj h
theorem Sz.of (h1 : -(2 ^ k) < i) (h2 : i < 2 ^ k) : Sz k i := by
  unfold Sz
  have e : ((2 ^ k : Nat) : Int) = (2 : Int) ^ k := by norm_cast
  omega
theorem divF (h : j ≠ 0) (h2 : Sz 8000 j) : gDivA (.int i) (.int j) = some (.int (i.fdiv j)) := by
  have b := log2_lt (by decide) h2
  show (if j ≠ 0 ∧ j.natAbs.log2 < 9000 then some (PyData.int (i.fdiv j)) else none) = _
  rw [if_pos ⟨h, by omega⟩]
theorem ev_divAZ (h : 0 < j) (h2 : Sz 8000 j) : gDivA (.int i) (.int j) = some (.int (i / j)) := by
  rw [divF (by omega) h2, Int.fdiv_eq_ediv_of_nonneg _ (by omega)]
theorem ev_divZ (h : 0 < j) (h2 : Sz 8000 j) : gDiv (.int i) (.int j) = some (.int (i / j)) := if_pos ⟨h, by
  have := log2_lt (by decide) h2
  omega⟩
end
def onNx (o : Out) (P : List C → Prop) : Prop := match o with | .nx e => P e | _ => False
theorem ev_onNx {e : List C} {P : List C → Prop} : onNx (.nx e) P = P e := (rfl)
def natAt (i : Nat) (env : List C) : Nat := match env[i]? with | some (.val (.int k)) => k.toNat | _ => 0
def absAt (i : Nat) (env : List C) : Nat := match env[i]? with | some (.val (.int k)) => k.natAbs | _ => 0
theorem ev_while {env : List C} {fu : List C → Nat} {c : List C → Option Bool} {b : List C → Out} : sWhile fu c b env = whileF c b (fu env) env := (rfl)
section
variable {α : Type}
theorem layAll_map (t : α → D) (h : ∀ a, (t a).canLay0 = true) : ∀ l : List α, PyData.canLayAll0 (l.map t) = true
  | [] => by simp only [List.map_nil, PyData.canLayAll0]
  | a :: l => by simp only [List.map_cons, PyData.canLayAll0, h a, layAll_map t h l, Bool.and_self]
theorem depthAll_mapD (t : α → D) {k : Nat} (h : ∀ a, (t a).depth ≤ k) : ∀ l : List α, PyData.depthAll (l.map t) ≤ k
  | [] => Nat.zero_le _
  | a :: l => by
    rw [List.map_cons, PyData.depthAll]
    exact Nat.max_le.mpr ⟨h a, depthAll_mapD t h l⟩
theorem shaped_list (t : α → D) (h : ∀ a, (t a).canLay0 = true) {k : Nat} (hk : k < 64) (hd : ∀ a, (t a).depth ≤ k) (l : List α) : SeqAt.shaped (.list (l.map t)) = true := by
  unfold SeqAt.shaped
  have := depthAll_mapD t hd l
  simp only [PyData.canLay0, PyData.depth, layAll_map t h l, Bool.true_and, decide_eq_true_eq]
  exact decide_eq_true (Nat.succ_le_of_lt (Nat.lt_of_le_of_lt this hk))
theorem shaped_ints (ns : List Int) : SeqAt.shaped (.list (ns.map .int)) = true := shaped_list (k := 0) PyData.int (fun _ => rfl) (by decide) (fun _ => Nat.le_refl _) ns
theorem ev_eq_li {ns ms : List Int} : gEq (.list (ns.map .int)) (.list (ms.map .int)) = some (.bool (decide (ns = ms))) := by
  have e : gEqD (.list (ns.map .int)) (.list (ms.map .int)) = some (.bool (decide (ns = ms))) := by
    unfold gEqD
    rw [if_pos ⟨shaped_ints ns, shaped_ints ms⟩]
    have := PySem.W.Datum.eqv ns ms
    rw [show PyData.eqv (.list (ns.map .int)) (.list (ms.map .int)) = decide (ns = ms) from this]
  show (match gEqS (.list (ns.map .int)) (.list (ms.map .int)) with | some d => some d | none => gEqD (.list (ns.map .int)) (.list (ms.map .int))) = _
  exact e
theorem ev_ne_li {ns ms : List Int} : gNe (.list (ns.map .int)) (.list (ms.map .int)) = some (.bool (!decide (ns = ms))) := by
  have e : gNeD (.list (ns.map .int)) (.list (ms.map .int)) = some (.bool (!decide (ns = ms))) := by
    unfold gNeD
    rw [if_pos ⟨shaped_ints ns, shaped_ints ms⟩]
    have := PySem.W.Datum.eqv ns ms
    rw [show PyData.eqv (.list (ns.map .int)) (.list (ms.map .int)) = decide (ns = ms) from this]
  show (match gNeS (.list (ns.map .int)) (.list (ms.map .int)) with | some d => some d | none => gNeD (.list (ns.map .int)) (.list (ms.map .int))) = _
  exact e
theorem eqD_self {x : D} (h : SeqAt.shaped x = true) : gEqD x x = some (.bool true) := by
  unfold gEqD
  rw [if_pos ⟨h, h⟩]
  unfold SeqAt.shaped at h
  rw [Bool.and_eq_true] at h
  rw [PySem.SeqAt.eqv_refl_plain x (PySem.PyData.plain_of_canLay0 x h.1)]
theorem neD_self {x : D} (h : SeqAt.shaped x = true) : gNeD x x = some (.bool false) := by
  unfold gNeD
  rw [if_pos ⟨h, h⟩]
  unfold SeqAt.shaped at h
  rw [Bool.and_eq_true] at h
  rw [PySem.SeqAt.eqv_refl_plain x (PySem.PyData.plain_of_canLay0 x h.1)]; rfl
theorem eqS_l {xs : List D} {y : D} : gEqS (.list xs) y = none := by cases y <;> rfl
theorem neS_l {xs : List D} {y : D} : gNeS (.list xs) y = none := by cases y <;> rfl
theorem eqS_t {xs : List D} {y : D} : gEqS (.tuple xs) y = none := by cases y <;> rfl
theorem neS_t {xs : List D} {y : D} : gNeS (.tuple xs) y = none := by cases y <;> rfl
theorem ev_eq_self {xs : List D} (h : SeqAt.shaped (.list xs) = true) : gEq (.list xs) (.list xs) = some (.bool true) := gOr_n eqS_l (eqD_self h)
theorem ev_ne_self {xs : List D} (h : SeqAt.shaped (.list xs) = true) : gNe (.list xs) (.list xs) = some (.bool false) := gOr_n neS_l (neD_self h)
theorem ev_eq_selfT {xs : List D} (h : SeqAt.shaped (.tuple xs) = true) : gEq (.tuple xs) (.tuple xs) = some (.bool true) := gOr_n eqS_t (eqD_self h)
theorem ev_ne_selfT {xs : List D} (h : SeqAt.shaped (.tuple xs) = true) : gNe (.tuple xs) (.tuple xs) = some (.bool false) := gOr_n neS_t (neD_self h)
theorem ev_ne_nil {ns : List Int} : gNe (.list (ns.map .int)) (.list []) = some (.bool (!decide (ns = []))) := ev_ne_li (ms := [])
theorem ev_eq_nil {ns : List Int} : gEq (.list (ns.map .int)) (.list []) = some (.bool (decide (ns = []))) := ev_eq_li (ms := [])
theorem sorted_gen {t : α → D} {le : α → α → Bool} {l : List α} (h1 : ∀ a b, W.alike (t a) (t b) = true) (h2 : (∀ a, isTup1 (t a) = true) ∨ (∀ a, notNT (t a) = true)) (h3 : ∀ a, (t a).depth ≤ 60) (hle : ∀ a b, W.dataLe false (fun d : D => d) (t a) (t b) = le a b) :
    gSorted [.list (l.map t)] = some (.list ((l.mergeSort le).map t)) := by
  have a1 : alikeB (l.map t) = true := by
    unfold alikeB
    simp only [List.all_map, List.all_eq_true, Function.comp]
    exact fun a _ b _ => h1 a b
  have a2 : sortableB (l.map t) = true := by
    unfold sortableB
    rw [Bool.or_eq_true]
    rcases h2 with h2 | h2
    · left; simp only [List.all_map, List.all_eq_true, Function.comp]; exact fun a _ => h2 a
    · right; simp only [List.all_map, List.all_eq_true, Function.comp]; exact fun a _ => h2 a
  have a3 : ((l.map t).all fun d => decide (d.depth ≤ 60)) = true := by
    simp only [List.all_map, List.all_eq_true, Function.comp, decide_eq_true_eq]; exact fun a _ => h3 a
  have e : gSorted [.list (l.map t)] = some (.list ((l.map t).mergeSort (W.dataLe false fun d => d))) := if_pos ⟨a1, a2, a3⟩
  rw [e, ← W.sort_maps t (fun a _ b _ => (hle a b).symm)]
theorem ev_sorted_i {ns : List Int} : gSorted [.list (ns.map .int)] = some (.list ((ns.mergeSort fun a b => decide (a ≤ b)).map .int)) :=
  sorted_gen (fun _ _ => by simp [W.alike]) (.inr fun _ => rfl) (fun _ => Nat.zero_le _) fun a b => congrFun (congrFun (W.dataLe_int (fun x : Int => x)) a) b
end
def oListRg (o : Option D) : Option D := match o with
  | some (.int j) => if -(2 ^ 62) ≤ j ∧ j ≤ 16777216 then some (.list (rng 0 j.toNat)) else none
  | _ => none
theorem ev_listRg {f : List C → Option D} {env : List C} : eListRg f env = oListRg (f env) := (rfl)
theorem ev_oListRg {k : Int} (h1 : -(2 ^ 62) ≤ k) (h2 : k ≤ 16777216) : oListRg (some (.int k)) = some (.list (rng 0 k.toNat)) := if_pos ⟨h1, h2⟩
theorem flat_ints (ns : List Int) : (ns.map PyData.int).all flatD = true := by
  rw [List.all_eq_true]
  intro d hd
  obtain ⟨n, _, rfl⟩ := List.mem_map.mp hd
  rfl
theorem ev_in_ii {i : Int} {ns : List Int} : gIn (.int i) (.list (ns.map .int)) = some (.bool (decide (i ∈ ns))) := by
  refine gOr_s ?_
  refine (show gInF (.int i) (.list (ns.map .int)) = if flatD (.int i) = true ∧ (ns.map PyData.int).all flatD = true then some (.bool (inF (.int i) (ns.map .int))) else none from rfl).trans ?_
  rw [if_pos ⟨rfl, flat_ints ns⟩]
  unfold inF inV
  rw [List.map_map, List.any_map]
  congr 2
  rw [Bool.eq_iff_iff, List.any_eq_true, decide_eq_true_eq]
  constructor
  · rintro ⟨y, hy, e⟩
    have : y = i := by simpa [flV, eqV] using e
    rw [← this]; exact hy
  · intro h
    exact ⟨i, h, by simp [flV, eqV]⟩
def oThaw (c : Option C) (fl : List C → Option D) (t : Nat) (env : List C) : Option D := match c with | some (.lst ds) => flatO (fl (env.set t (.val (.list ds)))) | _ => none
theorem ev_thaw {t : Nat} {fl : List C → Option D} {env : List C} : eThaw t fl env = oThaw env[t]? fl t env := (rfl)
theorem ev_oThaw {t : Nat} {fl : List C → Option D} {env : List C} {ds : List D} : oThaw (some (.lst ds)) fl t env = flatO (fl (env.set t (.val (.list ds)))) := (rfl)
theorem ev_flatO {ns : List Int} : flatO (some (.list (ns.map .int))) = some (.list (ns.map .int)) := if_pos (flat_ints ns)
def otThaw (c : Option C) (fl : List C → Option Bool) (t : Nat) (env : List C) : Option Bool := match c with | some (.lst ds) => fl (env.set t (.val (.list ds))) | _ => none
theorem ev_tThaw {t : Nat} {fl : List C → Option Bool} {env : List C} : tThaw t fl env = otThaw env[t]? fl t env := (rfl)
theorem ev_otThaw {t : Nat} {fl : List C → Option Bool} {env : List C} {ds : List D} : otThaw (some (.lst ds)) fl t env = fl (env.set t (.val (.list ds))) := (rfl)
def oMove (c : Option C) (i j : Nat) (env : List C) : Out := match c with | some (.lst ds) => .nx ((env.set j .und).set i (.lst ds)) | _ => .err
theorem ev_move {i j : Nat} {env : List C} : sMove i j env = oMove env[j]? i j env := (rfl)
theorem ev_oMove {i j : Nat} {env : List C} {ds : List D} : oMove (some (.lst ds)) i j env = .nx ((env.set j .und).set i (.lst ds)) := (rfl)
def oEnumG (o : Option D) : Option (List D) := (o.bind sqD).bind fun x => some (enumD x.2)
theorem ev_iEnumG {fe : List C → Option D} {env : List C} : iEnumG fe env = oEnumG (fe env) := (rfl)
theorem ev_oEnumG_l {ds : List D} : oEnumG (some (.list ds)) = some (enumD ds) := (rfl)
theorem ev_oEnumG_t {ds : List D} : oEnumG (some (.tuple ds)) = some (enumD ds) := (rfl)
end DL
namespace DL
open PySem PySem.Spec L2

def T.sub : List Nat → T → Option T
  | [], t => some t
  | j :: p, .n _ ts => (ts[j]?).bind (T.sub p)
  | _ :: _, .d _ => none
def T.put : List Nat → T → T → T
  | [], _, u => u
  | j :: p, .n s ts, u => .n s (match ts[j]? with | some t => ts.set j (T.put p t u) | none => ts)
  | _ :: _, .d x, _ => .d x
section
variable {K : PySem.W.Frag} {ow : Option World} {H F : Hp} {G : GC} {env : List C} {σ : L2.St} {fp : Nat → List Addr}
theorem ORs_len : ∀ {ts : List T} {vs : List V} {l : List Addr}, ORs K ow H F vs ts l → vs.length = ts.length
  | [], _, _, h => by cases h; rfl
  | t :: ts, _, _, h => by
    cases h with
    | cons h1 h2 => rw [List.length_cons, List.length_cons, ORs_len h2]
theorem ORs_at : ∀ {ts : List T} {vs : List V} {l : List Addr} {j : Nat} {t : T}, ORs K ow H F vs ts l → ts[j]? = some t → ∃ v lt l1 l2, l = l1 ++ (lt ++ l2) ∧ vs[j]? = some v ∧ OR K ow H F v t lt ∧
    ∀ (H' F' : Hp) (v' : V) (t' : T) (lt' : List Addr), Same F F' → (∀ b o, b ∈ l1 ++ l2 → H b = some o → H' b = some o) → OR K ow H' F' v' t' lt' → ORs K ow H' F' (vs.set j v') (ts.set j t') (l1 ++ (lt' ++ l2))
  | [], _, _, j, t, h, e => by simp at e
  | t0 :: ts, _, _, 0, t, h, e => by
    cases h with
    | @cons v _ lt m vs _ h1 h2 =>
      simp at e; subst e
      refine ⟨v, lt, [], m, rfl, rfl, h1, fun H' F' v' t' lt' f k r => ?_⟩
      show ORs K ow H' F' (v' :: vs) (t' :: ts) (lt' ++ m)
      exact .cons r (ORs_mono f _ _ _ k h2)
  | t0 :: ts, _, _, j + 1, t, h, e => by
    cases h with
    | @cons v _ l0 m vs _ h1 h2 =>
      obtain ⟨v', lt, l1, l2, rfl, g1, g2, g3⟩ := ORs_at h2 (by simpa using e)
      refine ⟨v', lt, l0 ++ l1, l2, by simp, by simpa using g1, g2, fun H' F' v' t' lt' f k r => ?_⟩
      have := ORs.cons (OR_mono f _ _ _ (fun b o hb => k b o (by simp [hb])) h1) (g3 H' F' v' t' lt' f (fun b o hb => k b o (by simp at hb ⊢; rcases hb with hb | hb <;> simp [hb])) r)
      simpa using this
theorem set_same {α : Type} {l : List α} {j : Nat} {x : α} (h : l[j]? = some x) : l.set j x = l := by
  obtain ⟨hj, rfl⟩ := List.getElem?_eq_some_iff.mp h
  exact List.set_getElem_self hj
theorem slot_own (R : Rel K G env σ H F fp) {i : Nat} {m : Option Nat} {t : T} (e : env[i]? = some (.own m t)) : ∃ v, σ[i]? = some (some v) ∧ OR K G.w H F v t (fp i) ∧ ∀ j, m = some j → ∃ a l, G.Ws[j]? = some (a, l) ∧ v = .ref a ∧ ∀ b, b ∈ fp i → b ∈ l ∨ G.H0 b = none := by
  obtain ⟨v, q1, q2, q3⟩ := R.slot i _ e
  cases z : σ[i]? with
  | none => rw [z] at q1; cases q1
  | some o =>
    rw [z] at q1
    have e2 : o = some v := q1
    subst e2
    exact ⟨v, rfl, q2, q3⟩
end
end DL
namespace DL
open PySem PySem.Spec L2

abbrev IP := Nat × List Nat
def nodeAt (env : List C) (ip : IP) : Option T := match env[ip.1]? with
  | some (.own _ t) => T.sub ip.2 t
  | _ => none
def putAt (env : List C) (ip : IP) (u : T) : List C := match env[ip.1]? with
  | some (.own m t) => env.set ip.1 (.own m (T.put ip.2 t u))
  | _ => env
theorem T.sub_snoc : ∀ {p : List Nat} {t : T} {s : Shp} {ts : List T} {j : Nat} {u : T}, T.sub p t = some (.n s ts) → ts[j]? = some u → T.sub (p ++ [j]) t = some u
  | [], t, s, ts, j, u, h, e => by cases h; show (ts[j]?).bind (T.sub []) = some u; rw [e]; rfl
  | k :: p, .d _, s, ts, j, u, h, e => by cases h
  | k :: p, .n s' ts', s, ts, j, u, h, e => by
    unfold T.sub at h
    show (ts'[k]?).bind (T.sub (p ++ [j])) = some u
    cases z : ts'[k]? with
    | none => rw [z] at h; cases h
    | some t' =>
      rw [z] at h
      exact T.sub_snoc (p := p) h e
theorem T.put_snoc : ∀ {p : List Nat} {t : T} {s : Shp} {ts : List T} {j : Nat} {u u' : T}, T.sub p t = some (.n s ts) → ts[j]? = some u → T.put (p ++ [j]) t u' = T.put p t (.n s (ts.set j u'))
  | [], t, s, ts, j, u, u', h, e => by
    cases h
    show T.n s (match ts[j]? with | some t => ts.set j (T.put [] t u') | none => ts) = .n s (ts.set j u')
    rw [e]; rfl
  | k :: p, .d _, s, ts, j, u, u', h, e => by cases h
  | k :: p, .n s' ts', s, ts, j, u, u', h, e => by
    unfold T.sub at h
    cases z : ts'[k]? with
    | none => rw [z] at h; cases h
    | some t' =>
      rw [z] at h
      show T.n s' (match ts'[k]? with | some t => ts'.set k (T.put (p ++ [j]) t u') | none => ts') = T.n s' (match ts'[k]? with | some t => ts'.set k (T.put p t (.n s (ts.set j u'))) | none => ts')
      rw [z]
      dsimp only
      rw [T.put_snoc (p := p) h e]
structure Lens (K : PySem.W.Frag) (ow : Option World) (H F : Hp) (v0 : V) (t : T) (l : List Addr) (p : List Nat) (u : T) (v : V) (lu : List Addr) : Prop where
  rep : OR K ow H F v u lu
  mem : ∀ b, b ∈ lu → b ∈ l
  upd : ∀ (H' F' : Hp) (u' : T) (lu' : List Addr), Same F F' → (∀ b o, b ∈ l → b ∉ lu → H b = some o → H' b = some o) → OR K ow H' F' v u' lu' → (∀ b, b ∈ lu' → b ∈ lu ∨ b ∉ l) →
    ∃ l', OR K ow H' F' v0 (T.put p t u') l' ∧ ∀ b, b ∈ l' → (b ∈ l ∧ b ∉ lu) ∨ b ∈ lu'
section
variable {K : PySem.W.Frag} {ow : Option World} {H F H1 F1 : Hp} {v0 v : V} {t u : T} {l lu : List Addr} {p : List Nat}
theorem Lens.root (h : OR K ow H F v0 t l) : Lens K ow H F v0 t l [] t v0 l := ⟨h, fun _ h => h, fun H' F' u' lu' f k r n => ⟨lu', r, fun b hb => .inr hb⟩⟩
theorem Lens.mono (L : Lens K ow H F v0 t l p u v lu) (f : Same F F1) (k : ∀ b o, b ∈ l → H b = some o → H1 b = some o) : Lens K ow H1 F1 v0 t l p u v lu :=
  ⟨OR_mono f _ _ _ (fun b o hb => k b o (L.mem b hb)) L.rep, L.mem, fun H' F' u' lu' f' k' r n => L.upd H' F' u' lu' (f.trans f') (fun b o hl hn e => k' b o hl hn (k b o hl e)) r n⟩
theorem Lens.child {s : Shp} {ts : List T} {j : Nat} {tj : T} (L : Lens K ow H F v0 t l p (.n s ts) v lu) (hs : T.sub p t = some (.n s ts)) (e : ts[j]? = some tj) :
    ∃ a vs own w lt, v = .ref a ∧ NR K ow H F s a vs own ∧ ORs K ow H F vs ts (lu.drop own.length) ∧ vs[j]? = some w ∧ Lens K ow H F v0 t l (p ++ [j]) tj w lt := by
  obtain ⟨rep, mem, upd⟩ := L
  cases rep with
  | @n _ a vs _ own l0 h1 h2 h3 =>
    have hd : (own ++ l0).drop own.length = l0 := by simp
    obtain ⟨w, lt, l1, l2, rfl, g1, g2, g3⟩ := ORs_at h2 e
    refine ⟨a, vs, own, w, lt, rfl, h1, by rw [hd]; exact h2, g1, g2, fun b hb => mem b (by simp [hb]), fun H' F' u' lu' f k r n => ?_⟩
    have nd : ∀ b, b ∈ lt → b ∉ own ∧ b ∉ l1 ∧ b ∉ l2 := fun b hb => by
      simp only [List.nodup_append, List.mem_append] at h3
      grind
    have o1 := g3 H' F' w u' lu' f (fun b o hb => k b o (mem b (by simp at hb ⊢; grind)) (fun hl => by have := nd b hl; simp at hb; grind)) r
    rw [set_same g1] at o1
    have nl : ∀ b, b ∈ lu' → b ∉ own ∧ b ∉ l1 ∧ b ∉ l2 := fun b hb => by
      rcases n b hb with y | y
      · exact nd b y
      · have h := fun (z : b ∈ own ++ (l1 ++ (lt ++ l2))) => y (mem b z)
        simp at h; grind
    have nd2 : (own ++ (l1 ++ (lu' ++ l2))).Nodup := by
      have nl' := r.nodup
      simp only [List.nodup_append, List.mem_append] at h3 ⊢
      grind
    obtain ⟨l', r', q⟩ := upd H' F' (.n s (ts.set j u')) (own ++ (l1 ++ (lu' ++ l2))) f (fun b o hl hn => k b o hl (fun hl => hn (by simp [hl])))
      (.n (h1.mono (fun b o hb => k b o (mem b (by simp [hb])) (fun hl => (nd b hl).1 hb)) f) o1 nd2) (fun b hb => by
        by_cases hb' : b ∈ lu'
        · exact (n b hb').imp_left fun z => by simp [z]
        · exact .inl (by simp at hb ⊢; grind))
    refine ⟨l', ?_, fun b hb => ?_⟩
    · rw [T.put_snoc hs e]; exact r'
    · rcases q b hb with z | z
      · exact .inl ⟨z.1, fun y => z.2 (by simp [y])⟩
      · by_cases hb' : b ∈ lu'
        · exact .inr hb'
        · refine .inl ⟨mem b (by simp at z ⊢; grind), fun y => ?_⟩
          have := nd b y
          simp at z; grind
end
structure Place (K : PySem.W.Frag) (G : GC) (env : List C) (σ : L2.St) (H F : Hp) (fp : Nat → List Addr) (ip : IP) (u : T) (v : V) (lu : List Addr) : Prop where
  ex : ∃ m t v0, env[ip.1]? = some (.own m t) ∧ T.sub ip.2 t = some u ∧ σ[ip.1]? = some (some v0) ∧ Lens K G.w H F v0 t (fp ip.1) ip.2 u v lu
section
variable {K : PySem.W.Frag} {G : GC} {env : List C} {σ : L2.St} {H F H1 F1 : Hp} {fp : Nat → List Addr} {ip : IP} {u : T} {v : V} {lu : List Addr}
theorem Place.rep (P : Place K G env σ H F fp ip u v lu) : OR K G.w H F v u lu := let ⟨_, _, _, _, _, _, L⟩ := P.ex; L.rep
theorem Place.mem (P : Place K G env σ H F fp ip u v lu) {b : Addr} (hb : b ∈ lu) : b ∈ fp ip.1 := let ⟨_, _, _, _, _, _, L⟩ := P.ex; L.mem b hb
theorem Place.node (P : Place K G env σ H F fp ip u v lu) : nodeAt env ip = some u := by
  obtain ⟨m, t, v0, e, hs, _⟩ := P.ex
  unfold nodeAt; rw [e]; exact hs
theorem Rel.place (R : Rel K G env σ H F fp) {i : Nat} {m : Option Nat} {t : T} (e : env[i]? = some (.own m t)) : ∃ v, σ[i]? = some (some v) ∧ Place K G env σ H F fp (i, []) t v (fp i) := by
  obtain ⟨v0, s1, s2, s3⟩ := slot_own R e
  exact ⟨v0, s1, ⟨m, t, v0, e, rfl, s1, Lens.root s2⟩⟩
theorem Place.ext (P : Place K G env σ H F fp ip u v lu) (E : Ext H F H1 F1) : Place K G env σ H1 F1 fp ip u v lu := by
  obtain ⟨m, t, v0, e, hs, s, L⟩ := P.ex
  exact ⟨m, t, v0, e, hs, s, L.mono E.f fun b o _ => E.h b o⟩
theorem Place.child {s : Shp} {ts : List T} {j : Nat} {t : T} (P : Place K G env σ H F fp ip (.n s ts) v lu) (e : ts[j]? = some t) :
    ∃ a vs own w lt, v = .ref a ∧ NR K G.w H F s a vs own ∧ ORs K G.w H F vs ts (lu.drop own.length) ∧ vs[j]? = some w ∧ Place K G env σ H F fp (ip.1, ip.2 ++ [j]) t w lt := by
  obtain ⟨m, t0, v0, e0, hs, s, L⟩ := P.ex
  obtain ⟨a, vs, own, w, lt, h1, h2, h3, h4, L'⟩ := L.child hs e
  exact ⟨a, vs, own, w, lt, h1, h2, h3, h4, ⟨m, t0, v0, e0, T.sub_snoc hs e, s, L'⟩⟩
theorem Rel.write3 (R : Rel K G env σ H F fp) (P : Place K G env σ H F fp ip u v lu) {H' F' : Hp} {u' : T} {lu' : List Addr} (f : Same F F') (sub : Same F' H') (nw : ∀ a o, F' a = some o → F a = some o ∨ H a = none ∨ (a ∈ lu ∧ G.H0 a = none)) (k : ∀ b o, b ∉ lu → H b = some o → H' b = some o) (al : ∀ b, b ∈ lu → H' b ≠ none)
    (r : OR K G.w H' F' v u' lu') (n : ∀ b, b ∈ lu' → (b ∈ lu ∨ ((∀ j, b ∉ fp j) ∧ G.H0 b = none)) ∧ F' b = none ∧ H' b ≠ none) : ∃ fp', Rel K G (putAt env ip u') σ H' F' fp' ∧ (∀ j, j ≠ ip.1 → fp' j = fp j) ∧ ∀ b, b ∈ fp' ip.1 → b ∈ fp ip.1 ∨ b ∈ lu' := by
  obtain ⟨i, p⟩ := ip
  obtain ⟨m, t, v0, e, hs, s1, L⟩ := P.ex
  dsimp only at *
  have a3 := L.mem
  obtain ⟨v0', s1', _, s3⟩ := slot_own R e
  rw [s1] at s1'; cases s1'
  obtain ⟨l', r', hl2⟩ := L.upd H' F' u' lu' f (fun b o _ => k b o) r (fun b hb => (n b hb).1.imp_right fun z => z.1 i)
  have hl' : ∀ b, b ∈ l' → b ∈ fp i ∨ b ∈ lu' := fun b hb => (hl2 b hb).imp_left And.left
  unfold putAt
  rw [e]
  dsimp only
  have al2 : ∀ b, H b ≠ none → H' b ≠ none := fun b hb => by
    by_cases hl : b ∈ lu
    · exact al b hl
    · cases q : H b with
      | none => exact absurd q hb
      | some o => rw [k b o hl q]; intro z; cases z
  have fn : ∀ j b, b ∈ fp j → b ∉ lu → F' b = none := fun j b hb hl => by
    cases q : F' b with
    | none => rfl
    | some o =>
      rcases nw b o q with z | z | z
      · rw [(R.own j b hb).1] at z; cases z
      · exact absurd z (R.own j b hb).2.1
      · exact absurd z.1 hl
  have hi := (List.getElem?_eq_some_iff.mp e).1
  refine ⟨fset fp i l', ?_, fun j hj => fset_ne hj, fun b hb => by rw [fset_at] at hb; exact hl' b hb⟩
  exact {
    len := by rw [List.length_set]; exact R.len
    slot := fun j c ej => by
      by_cases hj : j = i
      · subst hj
        rw [fset_at]
        rw [List.getElem?_set_self hi] at ej; cases ej
        refine ⟨v0, by rw [s1]; rfl, r', fun jj hj => ?_⟩
        obtain ⟨ra, rl, h1, h2, h3⟩ := s3 jj hj
        refine ⟨ra, rl, h1, h2, fun b hb => ?_⟩
        rcases hl' b hb with z | z
        · exact h3 b z
        · rcases (n b z).1 with y | y
          · exact h3 b (a3 b y)
          · exact .inr y.2
      · rw [List.getElem?_set_ne (Ne.symm hj)] at ej
        rw [fset_ne hj]
        have q := R.slot j c ej
        have kk : ∀ b o, b ∈ fp j → H b = some o → H' b = some o := fun b o hb => k b o fun hl => hj (R.dj j i b hb (a3 b hl))
        cases c with
        | und => exact q
        | val d => obtain ⟨y1, w, y2, y3⟩ := q; exact ⟨y1, w, y2, DF_mono f _ _ y3⟩
        | brw d => exact q
        | lst ds => obtain ⟨b, vs, y1, y2, y3, y4⟩ := q; exact ⟨b, vs, y1, y2, kk _ _ (by rw [y1]; exact List.mem_singleton.mpr rfl) y3, DFAll_mono f _ _ y4⟩
        | dK ds => obtain ⟨b, vs, y1, y2, y3, y4⟩ := q; exact ⟨b, vs, y1, y2, kk _ _ (by rw [y1]; exact List.mem_singleton.mpr rfl) y3, y4.mono f⟩
        | dT ds => obtain ⟨b, vs, y1, y2, y3, y4⟩ := q; exact ⟨b, vs, y1, y2, kk _ _ (by rw [y1]; exact List.mem_singleton.mpr rfl) y3, y4.mono f⟩
        | dN ds => obtain ⟨b, w, xs, y1, y2, y5, y3, y4⟩ := q; exact ⟨b, w, xs, y1, y2, y5, kk _ _ (by rw [y1]; exact List.mem_singleton.mpr rfl) y3, y4.mono f⟩
        | pin _ => exact q
        | al j i => obtain ⟨q0, a, l, vs, v, q1, q2, q3⟩ := q; exact ⟨q0, a, l, vs, v, q1, f _ _ q2, q3⟩
        | al2 j k i => obtain ⟨q0, a, l, vs, b, us, v, q1, q2, q3, q4, q5⟩ := q; exact ⟨q0, a, l, vs, b, us, v, q1, f _ _ q2, q3, f _ _ q4, q5⟩
        | ro b t2 => obtain ⟨y0, w, l, y1, y2, y3⟩ := q; exact ⟨y0, w, l, y1, OR_mono f _ _ _ (fun _ _ _ z => z) y2, fun hb a vs ha hk => f _ _ (y3 hb a vs ha hk)⟩
        | own m2 t2 => obtain ⟨w, y1, y2, y3⟩ := q; exact ⟨w, y1, OR_mono f _ _ _ kk y2, y3⟩
    dj := fun j k2 b h1 h2 => by
      have hh : ∀ j, j ≠ i → b ∈ l' → b ∈ fp j → False := fun j hj h1 h2 => by
        rcases hl' b h1 with z | z
        · exact hj (R.dj j i b h2 z)
        · rcases (n b z).1 with y | y
          · exact hj (R.dj j i b h2 (a3 b y))
          · exact y.1 j h2
      by_cases hj : j = i
      · by_cases hk : k2 = i
        · exact hj.trans hk.symm
        · subst hj; rw [fset_at] at h1; rw [fset_ne hk] at h2
          exact (hh k2 hk h1 h2).elim
      · by_cases hk : k2 = i
        · subst hk; rw [fset_at] at h2; rw [fset_ne hj] at h1
          exact (hh j hj h2 h1).elim
        · rw [fset_ne hj] at h1; rw [fset_ne hk] at h2
          exact R.dj j k2 b h1 h2
    own := fun j b hb => by
      by_cases hj : j = i
      · subst hj
        rw [fset_at] at hb
        have old : b ∈ fp j → F' b = none → F' b = none ∧ H' b ≠ none ∧ (G.H0 b = none ∨ (b ∈ G.W ∧ ∃ c, (env.set j (.own m (T.put p t u')))[j]? = some c ∧ c.mu = true)) := fun z nf => by
          obtain ⟨g1, g2, g3⟩ := R.own j b z
          refine ⟨nf, al2 b g2, g3.imp_right fun ⟨w1, c, w2, w3⟩ => ⟨w1, _, List.getElem?_set_self hi, ?_⟩⟩
          rw [e] at w2; cases w2
          cases m with
          | none => cases w3
          | some _ => rfl
        rcases hl2 b hb with z | z
        · exact old z.1 (fn j b z.1 z.2)
        · obtain ⟨n1, n2, n3⟩ := n b z
          rcases n1 with y | y
          · exact old (a3 b y) n2
          · exact ⟨n2, n3, .inl y.2⟩
      · rw [fset_ne hj] at hb
        obtain ⟨g1, g2, g3⟩ := R.own j b hb
        exact ⟨fn j b hb (fun hl => hj (R.dj j i b hb (a3 b hl))), al2 b g2, by rw [List.getElem?_set_ne (Ne.symm hj)]; exact g3⟩
    sub := sub
    new := fun a o q => by
      rcases nw a o q with z | z | z
      · exact R.new a o z
      · exact .inr (R.h0 z)
      · exact .inr z.2
    old := R.old.trans f
    keep := fun a o q hw => by
      refine k a o (fun hl => ?_) (R.keep a o q hw)
      rcases (R.own i a (a3 a hl)).2.2 with z | z
      · rw [z] at q; cases q
      · exact hw z.1
    alive := fun a q => al2 a (R.alive a q) }
theorem Rel.write2 (R : Rel K G env σ H F fp) (P : Place K G env σ H F fp ip u v lu) {H' F' : Hp} {u' : T} {lu' : List Addr} (f : Same F F') (sub : Same F' H') (nw : ∀ a o, F' a = some o → F a = some o ∨ H a = none) (k : ∀ b o, b ∉ lu → H b = some o → H' b = some o) (al : ∀ b, b ∈ lu → H' b ≠ none)
    (r : OR K G.w H' F' v u' lu') (n : ∀ b, b ∈ lu' → (b ∈ lu ∨ ((∀ j, b ∉ fp j) ∧ G.H0 b = none)) ∧ F' b = none ∧ H' b ≠ none) : ∃ fp', Rel K G (putAt env ip u') σ H' F' fp' ∧ (∀ j, j ≠ ip.1 → fp' j = fp j) ∧ ∀ b, b ∈ fp' ip.1 → b ∈ fp ip.1 ∨ b ∈ lu' :=
  R.write3 P f sub (fun a o h => (nw a o h).imp_right .inl) k al r n
end
structure DPl (X : Cx) (G : GC) (e : Expr) (g : List C → Option IP) : Prop where
  ex : ∃ t, PE X e t ∧ ∀ (σ : L2.St) (H F : Hp) (fp : Nat → List Addr) (env : List C) (ip : IP) (u : T) (Q : VK), Rel X.K G env σ H F fp → g env = some ip → nodeAt env ip = some u →
    (∀ v lu H' F', Ext H F H' F' → Place X.K G env σ H' F' fp ip u v lu → Q v H') → t σ H Q
section
variable {X : Cx} {G : GC} {e : Expr} {g : List C → Option IP} {pos : Pos} {k : RK} {f fi : List C → Option D}
def pNm (i : Nat) : List C → Option IP := fun _ => some (i, [])
def pChild (g : List C → Option IP) (sel : List C → Shp → Nat → Option Nat) : List C → Option IP := fun env => match g env with
  | some ip => (match nodeAt env ip with | some (.n s ts) => (match sel env s ts.length with | some j => if j < ts.length then some (ip.1, ip.2 ++ [j]) else none | none => none) | _ => none)
  | none => none
structure ClOk (K : PySem.W.Frag) (c : Str) : Prop where
  ex : ∃ C, PySem.W.nsIn K mainGlobals c = some (some (.ref C)) ∧ Cls K C
def NoAt (K : PySem.W.Frag) (c f : Str) : Prop := ∀ C, PySem.W.nsIn K mainGlobals c = some (some (.ref C)) → NoAttr K C f
def fIx (f : Str) : List Str → Option Nat
  | [] => none
  | g :: r => if g = f then some 0 else (fIx f r).map (· + 1)
theorem fIx_zip {f : Str} : ∀ {fs : List Str} {vs : List V} {j : Nat} {w : V}, fIx f fs = some j → vs[j]? = some w → (fs.zip vs).lookup f = some w
  | [], _, _, _, h, _ => by cases h
  | g :: r, [], _, _, _, e => by simp at e
  | g :: r, v :: vs, j, w, h, e => by
    unfold fIx at h
    rw [List.zip_cons_cons, List.lookup_cons]
    by_cases hg : g = f
    · rw [if_pos hg] at h; cases h
      simp at e
      subst hg
      simp [e]
    · rw [if_neg hg] at h
      have hb : (f == g) = false := beq_eq_false_iff_ne.mpr (Ne.symm hg)
      rw [hb]
      cases z : fIx f r with
      | none => rw [z] at h; cases h
      | some k =>
        rw [z] at h; cases h
        exact fIx_zip z (by simpa using e)
def selF (c f : Str) : List C → Shp → Nat → Option Nat := fun _ s _ => match s with | .o c' fs => if c' = c then fIx f fs else none | _ => none
def pF (c f : Str) (g : List C → Option IP) : List C → Option IP := pChild g (selF c f)
def selI (fi : List C → Option D) : List C → Shp → Nat → Option Nat := fun env s n => match s with
  | .l => (match fi env with | some (.int i) => ixN n i | _ => none)
  | .lf => (match fi env with | some (.int i) => ixN n i | _ => none)
  | .t => (match fi env with | some (.int i) => ixN n i | _ => none)
  | _ => none
def pI (fi : List C → Option D) (g : List C → Option IP) : List C → Option IP := pChild g (selI fi)
def eLeaf (g : List C → Option IP) : List C → Option D := fun env => match g env with
  | some ip => (match nodeAt env ip with | some (.d x) => some x | _ => none)
  | none => none
def flatT : List T → Option (List D)
  | [] => some []
  | .d x :: r => (flatT r).map (x :: ·)
  | .n _ _ :: _ => none
theorem flatT_rep {K : PySem.W.Frag} {ow : Option World} {H F : Hp} : ∀ {ts : List T} {ds : List D} {vs : List V} {l : List Addr}, flatT ts = some ds → ORs K ow H F vs ts l → DFAll K F vs ds ∧ l = []
  | [], ds, vs, l, h, r => by cases h; cases r; exact ⟨.nil, rfl⟩
  | .d x :: ts, ds, vs, l, h, r => by
    unfold flatT at h
    cases z : flatT ts with
    | none => rw [z] at h; cases h
    | some ds' =>
      rw [z] at h; cases h
      cases r with
      | cons r1 r2 =>
        cases r1 with
        | d r1 =>
          obtain ⟨a, b⟩ := flatT_rep z r2
          exact ⟨.cons r1 a, by rw [b]; rfl⟩
  | .n _ _ :: ts, ds, vs, l, h, r => by cases h
theorem rep_flatT {K : PySem.W.Frag} {ow : Option World} {H F : Hp} : ∀ {ds : List D} {vs : List V}, DFAll K F vs ds → ORs K ow H F vs (ds.map T.d) []
  | [], _, h => by cases h; exact .nil
  | d :: ds, _, h => by
    cases h with
    | cons h1 h2 =>
      have := ORs.cons (.d h1) (rep_flatT (ow := ow) (H := H) h2)
      simpa using this
def eFlat (g : List C → Option IP) : List C → Option D := fun env => match g env with
  | some ip => (match nodeAt env ip with | some (.n .l ts) => (flatT ts).map .list | some (.d x) => some x | _ => none)
  | none => none
mutual
def viewT : T → Option D
  | .d x => some x
  | .n .l ts => (viewTs ts).map .list
  | .n .t ts => (viewTs ts).map .tuple
  | .n _ _ => none
def viewTs : List T → Option (List D)
  | [] => some []
  | t :: r => (viewT t).bind fun x => (viewTs r).map (x :: ·)
end
mutual
theorem view_rep {K : PySem.W.Frag} {ow : Option World} {H F : Hp} (sub : Same F H) : ∀ (t : T) (v : V) (d : D) (l : List Addr), viewT t = some d → OR K ow H F v t l → Dp K H v d
  | .d x, v, d, l, h, r => by
    unfold viewT at h; cases h
    cases r with
    | d r => exact Dp_mono sub _ _ (DF.dp _ _ r)
  | .n s ts, v, d, l, h, r => by
    cases r with
    | n r1 r2 r3 =>
      cases s with
      | l =>
        unfold viewT at h
        cases z : viewTs ts with
        | none => rw [z] at h; cases h
        | some ds => rw [z] at h; cases h; exact .lst (.inl (.inl r1.2)) (view_reps sub ts _ _ _ z r2)
      | t =>
        unfold viewT at h
        cases z : viewTs ts with
        | none => rw [z] at h; cases h
        | some ds => rw [z] at h; cases h; exact .tup (by
          rcases r1 with ⟨_, h⟩ | ⟨_, h⟩
          · exact .inl (.inl h)
          · exact Same.seqT sub h) (view_reps sub ts _ _ _ z r2)
      | k ks => unfold viewT at h; cases h
      | q ks => unfold viewT at h; cases h
      | o c fs => unfold viewT at h; cases h
      | x c fs => unfold viewT at h; cases h
      | e fs => unfold viewT at h; cases h
      | lf => unfold viewT at h; cases h
      | kf ks => unfold viewT at h; cases h
      | v => unfold viewT at h; cases h
theorem view_reps {K : PySem.W.Frag} {ow : Option World} {H F : Hp} (sub : Same F H) : ∀ (ts : List T) (vs : List V) (ds : List D) (l : List Addr), viewTs ts = some ds → ORs K ow H F vs ts l → DpAll K H vs ds
  | [], vs, ds, l, h, r => by unfold viewTs at h; cases h; cases r; exact .nil
  | t :: ts, vs, ds, l, h, r => by
    cases r with
    | cons r1 r2 =>
      unfold viewTs at h
      cases z : viewT t with
      | none => rw [z] at h; cases h
      | some x =>
        cases z2 : viewTs ts with
        | none => rw [z, z2] at h; cases h
        | some xs =>
          rw [z, z2] at h; cases h
          exact .cons (view_rep sub t _ _ _ z r1) (view_reps sub ts _ _ _ z2 r2)
end
def eView (g : List C → Option IP) : List C → Option D := fun env => match g env with
  | some ip => (match nodeAt env ip with | some t => viewT t | _ => none)
  | none => none
end
end DL
namespace DL
open PySem PySem.Spec L2

def Fresh (H H' F' : Hp) (l : List Addr) : Prop := ∀ b, b ∈ l → H b = none ∧ F' b = none ∧ H' b ≠ none
structure DN (X : Cx) (G : GC) (e : Expr) (f : List C → Option T) : Prop where
  ex : ∃ t, PE X e t ∧ ∀ (σ : L2.St) (H F : Hp) (fp : Nat → List Addr) (env : List C) (u : T) (Q : VK), Rel X.K G env σ H F fp → f env = some u →
    (∀ v H' F' l, Ext H F H' F' → OR X.K G.w H' F' v u l → Fresh H H' F' l → Q v H') → t σ H Q
structure DNs (X : Cx) (G : GC) (es : List Expr) (f : List C → Option (List T)) : Prop where
  ex : ∃ t, PA X es t ∧ ∀ (σ : L2.St) (H F : Hp) (fp : Nat → List Addr) (env : List C) (us : List T) (Q : List V → Hp → Prop), Rel X.K G env σ H F fp → f env = some us →
    (∀ vs H' F' l, Ext H F H' F' → ORs X.K G.w H' F' vs us l → Fresh H H' F' l → l.Nodup → Q vs H') → t σ H Q
section
variable {X : Cx} {G : GC} {e : Expr} {es : List Expr} {k : RK} {f : List C → Option D} {fn : List C → Option T} {fs : List C → Option (List T)} {pos : Pos}
theorem Fresh.ext {H H1 F1 H' F' : Hp} {l : List Addr} (h : Fresh H H1 F1 l) (E : Ext H1 F1 H' F') : Fresh H H' F' l := fun b hb => by
  obtain ⟨h1, h2, h3⟩ := h b hb
  refine ⟨h1, ?_, ?_⟩
  · cases q : F' b with
    | none => rfl
    | some o =>
      rcases E.new b o q with z | z
      · rw [h2] at z; cases z
      · exact absurd z h3
  · cases q : H1 b with
    | none => exact absurd q h3
    | some o => rw [E.h _ _ q]; intro z; cases z
theorem Fresh.back {H H1 H' F' : Hp} {l : List Addr} (h : Fresh H1 H' F' l) (s : Same H H1) : Fresh H H' F' l := fun b hb => ⟨s.free (h b hb).1, (h b hb).2⟩
def nD (f : List C → Option D) : List C → Option T := fun env => (f env).map T.d
def nL (f : List C → Option D) : List C → Option T := fun env => match f env with | some (.list ds) => some (.n .l (ds.map T.d)) | _ => none
theorem dn_fz (h : DE X G k e f) (hk : k.le .fz = true := by rfl) : DN X G e (nD f) := by
  obtain ⟨t, pt, o⟩ := (h.conv hk).ex
  refine ⟨t, pt, fun σ H F fp env u Q R hf q => ?_⟩
  unfold nD at hf
  cases z : f env with
  | none => rw [z] at hf; cases hf
  | some d =>
    rw [z] at hf; cases hf
    exact o σ H F fp env d Q R z fun v H' F' E r => q v H' F' [] E (.d r) (fun _ m => nomatch m)
theorem dn_ow (h : DE X G .ow e f) : DN X G e (nL f) := by
  obtain ⟨t, pt, o⟩ := h.ex
  refine ⟨t, pt, fun σ H F fp env u Q R hf q => ?_⟩
  unfold nL at hf
  split at hf
  · rename_i ds z
    cases hf
    refine o σ H F fp env _ Q R z fun v H' F' E r => ?_
    obtain ⟨a, vs, ds', rfl, ed, h1, h2, h3, h4⟩ := r
    cases ed
    refine q _ H' F' ([a] ++ []) E (.n ⟨rfl, h2⟩ (rep_flatT h4) (by simp)) fun b hb => ?_
    have e : b = a := by simpa using hb
    subst e
    exact ⟨h1, h3, by rw [h2]; intro z; cases z⟩
  · cases hf
def nsNil : List C → Option (List T) := fun _ => some []
def nsCons (f : List C → Option T) (g : List C → Option (List T)) : List C → Option (List T) := fun env => match f env with
  | some u => (match g env with | some us => some (u :: us) | none => none)
  | none => none
theorem dns_nil : DNs X G [] nsNil := ⟨_, pa_nil, fun σ H F fp env ds Q R hf q => by cases hf; exact q [] H F [] (Ext.refl R.sub) .nil (fun _ m => nomatch m) List.nodup_nil⟩
theorem fresh_apart {H H1 F1 H2 F2 : Hp} {l m : List Addr} (h1 : Fresh H H1 F1 l) (h2 : Fresh H1 H2 F2 m) (n1 : l.Nodup) (n2 : m.Nodup) : (l ++ m).Nodup := by
  rw [List.nodup_append]
  refine ⟨n1, n2, fun a ha b hb e => ?_⟩
  subst e
  exact (h1 a ha).2.2 (h2 a hb).1
theorem dns_cons (h : DN X G e fn) (ht : DNs X G es fs) (hs : starEach (e :: es) X.env = (false, eval e X.env) :: starEach es X.env := by rfl) : DNs X G (e :: es) (nsCons fn fs) := by
  obtain ⟨t, pt, o⟩ := h.ex
  obtain ⟨t2, pt2, o2⟩ := ht.ex
  refine ⟨_, pa_cons pt pt2 hs, fun σ H F fp env ds Q R hf q => ?_⟩
  unfold nsCons at hf
  split at hf
  · rename_i u z
    split at hf
    · rename_i us z2
      cases hf
      refine o σ H F fp env u _ R z fun v H1 F1 l E1 r1 f1 => ?_
      refine o2 σ H1 F1 fp env us _ (R.ext E1) z2 fun vs H2 F2 m E2 r2 f2 n2 => ?_
      refine q (v :: vs) H2 F2 (l ++ m) (E1.trans E2) (.cons (OR_mono E2.f _ _ _ (fun b o _ => E2.h b o) r1) r2) (fun b hb => ?_) (fresh_apart f1 f2 r1.nodup n2)
      rcases List.mem_append.mp hb with z | z
      · exact f1.ext E2 b z
      · exact f2.back E1.h b z
    · cases hf
  · cases hf
def nLst (fs : List C → Option (List T)) : List C → Option T := fun env => (fs env).map (.n .l)
def nTup (fs : List C → Option (List T)) : List C → Option T := fun env => (fs env).map (.n .t)
theorem laid_node {K : PySem.W.Frag} {ow : Option World} {H0 H F : Hp} {s : Shp} {p : Addr} {o : HO} {vs : List V} {us : List T} {l : List Addr} (np : H p = none) (sub : Same F H) (r : ORs K ow H F vs us l) (fr : Fresh H0 H F l) (nd : l.Nodup) (s0 : Same H0 H) (nr : NR K ow (upd H p o) F s p vs [p]) :
    OR K ow (upd H p o) F (.ref p) (.n s us) (p :: l) ∧ Fresh H0 (upd H p o) F (p :: l) := by
  have ne : ∀ b, b ∈ l → b ≠ p := fun b hb z => (fr b hb).2.2 (by rw [z]; exact np)
  refine ⟨.n (own := [p]) nr (ORs_mono (Same.refl _) _ _ _ (fun b o hb e => by rw [upd_ne (ne b hb)]; exact e) r) (by simpa using ⟨fun h => ne p h rfl, nd⟩), fun b hb => ?_⟩
  rcases List.mem_cons.mp hb with rfl | hb
  · exact ⟨s0.free np, sub.free np, by rw [upd_same]; intro z; cases z⟩
  · obtain ⟨h1, h2, h3⟩ := fr b hb
    exact ⟨h1, h2, by rw [upd_ne (ne b hb)]; exact h3⟩
theorem dn_lst (h : DNs X G es fs) (hn : es.length ≤ 1000 := by decide) (hl : ∀ env us, fs env = some us → us.length ≤ 1000) : DN X G (.List es pos) (nLst fs) := by
  obtain ⟨t, pt, o⟩ := h.ex
  refine ⟨_, pe_lst pt, fun σ H F fp env u Q R hf q => ?_⟩
  unfold nLst at hf
  cases z : fs env with
  | none => rw [z] at hf; cases hf
  | some us =>
    rw [z] at hf; cases hf
    refine o σ H F fp env us _ R z fun vs H1 F1 l E1 r fr nd => ?_
    refine ⟨line1000 (by rw [ORs_len r]; exact hl _ _ z), fun p np => ?_⟩
    obtain ⟨r', fr'⟩ := laid_node (s := .l) (o := .lst vs) np E1.sub r fr nd E1.h ⟨rfl, upd_same⟩
    exact q _ _ F1 _ (E1.trans (Ext.laid E1.sub np)) r' fr'
theorem nsNil_len {env : List C} {us : List T} (h : nsNil env = some us) : us.length = 0 := by cases h; rfl
theorem nsCons_len {n : Nat} (hl : ∀ env us, fs env = some us → us.length = n) (env : List C) (us : List T) (h : nsCons fn fs env = some us) : us.length = n + 1 := by
  unfold nsCons at h
  split at h
  · split at h
    · rename_i us' z
      cases h
      rw [List.length_cons, hl _ _ z]
    · cases h
  · cases h
def nDictK : List C → Option T := fun _ => some (.n (.k []) [])
def nDictQ : List C → Option T := fun _ => some (.n (.q []) [])
end

structure DX (X : Cx) (G : GC) (e : Expr) (g : List C → Option (List C × T)) : Prop where
  ex : ∃ t, PE X e t ∧ ∀ (σ : L2.St) (H F : Hp) (fp : Nat → List Addr) (env env' : List C) (u : T) (Q : VK), Rel X.K G env σ H F fp → g env = some (env', u) →
    (∀ v H' F' fp' l, Rel X.K G env' σ H' F' fp' → Same F F' → New X.K G H' F' fp' v u l → Q v H') → t σ H Q
structure DTX (X : Cx) (G : GC) (e : Expr) (g : List C → Option (List C × Bool)) : Prop where
  ex : ∃ t, PT X e t ∧ ∀ (σ : L2.St) (H F : Hp) (fp : Nat → List Addr) (env env' : List C) (b : Bool) (Q : Bool → Hp → Prop), Rel X.K G env σ H F fp → g env = some (env', b) →
    (∀ H' F' fp', Rel X.K G env' σ H' F' fp' → Same F F' → Q b H') → t σ H Q
section
variable {X : Cx} {G : GC} {kr k : RK} {e a b : Expr} {sts sts2 : List Stmt} {f : List C → Option D} {fn : List C → Option T} {g : List C → Option (List C × T)} {gt : List C → Option (List C × Bool)} {pos pos' : Pos} {x : Str}
theorem Rel.fresh {K : PySem.W.Frag} {env : List C} {σ : L2.St} {H F H' F' : Hp} {fp : Nat → List Addr} {l : List Addr} {v : V} {u : T} (R : Rel K G env σ H F fp) (E : Ext H F H' F') (r : OR K G.w H' F' v u l) (fr : Fresh H H' F' l) : New K G H' F' fp v u l where
  rep := r
  own := fun a ha => ⟨(fr a ha).2.1, (fr a ha).2.2, R.h0 (fr a ha).1⟩
  dj := fun a ha j hj => (R.own j a hj).2.1 (fr a ha).1
def xN (f : List C → Option T) : List C → Option (List C × T) := fun env => (f env).map fun u => (env, u)
theorem dx_of (h : DN X G e fn) : DX X G e (xN fn) := by
  obtain ⟨t, pt, o⟩ := h.ex
  refine ⟨t, pt, fun σ H F fp env env' u Q R hf q => ?_⟩
  unfold xN at hf
  cases z : fn env with
  | none => rw [z] at hf; cases hf
  | some u' =>
    rw [z] at hf; cases hf
    exact o σ H F fp env _ Q R z fun v H' F' l E r fr => q v H' F' fp l (R.ext E) E.f (R.fresh E r fr)
def toC : T → C
  | .d x => .val x
  | u => .own none u
theorem Rel.putX {K : PySem.W.Frag} {env : List C} {σ : L2.St} {H F : Hp} {fp : Nat → List Addr} {l : List Addr} {v : V} {u : T} (R : Rel K G env σ H F fp) (n : New K G H F fp v u l) (i : Nat) : ∃ fp', Rel K G (env.set i (toC u)) (σ.set i (some v)) H F fp' := by
  cases u with
  | d x =>
    cases n.rep with
    | d r => exact ⟨_, R.put (i := i) (v := v) (c := .val x) (l := []) ⟨rfl, v, rfl, r⟩ (fun _ m => nomatch m) (fun _ m => nomatch m)⟩
  | n s ts =>
    exact ⟨_, R.put (i := i) (v := v) (c := .own none (.n s ts)) (l := l) ⟨v, rfl, n.rep, fun _ h => nomatch h⟩ (fun a ha => n.own a ha) (fun a ha j _ => n.dj a ha j)⟩
def sSetX (i : Nat) (g : List C → Option (List C × T)) : List C → Out := fun env => match g env with | some (env', u) => .nx (env'.set i (toC u)) | none => .err
theorem ds_setX {x : Str} (i : Nat) (hN : X.N.Nodup) (hi : X.N[i]? = some x) (h : DX X G e g) (hx : Loc X.env.scope x := by first | exact .inl rfl | exact .inr rfl) (hs : swapsWith e (some (.Name x pos')) pos.line X.env = pure false := by rfl)
    (hf : X.fn x = true ∨ X.env.scope.names.lookup x = some .local := by first | exact .inl rfl | exact .inr rfl | assumption) : DS X G kr (.Assign [.Name x pos'] e pos) (sSetX i g) := by
  obtain ⟨t, p, o⟩ := h.ex
  refine ⟨_, ps_set hN hi hx p hs hf, fun σ H F fp env E R q => ?_⟩
  unfold sSetX at q
  cases z : g env with
  | none => rw [z] at q; exact q.elim
  | some eu =>
    obtain ⟨env', u⟩ := eu
    rw [z] at q
    refine o σ H F fp env env' u _ R z fun v H' F' fp' l R' s n => ?_
    obtain ⟨fp2, R2⟩ := R'.putX n i
    exact q _ H' F' _ R2 s
def toL : T → Option C
  | .n .l ts => (flatT ts).map .lst
  | _ => none
def sSetXL (i : Nat) (g : List C → Option (List C × T)) : List C → Out := fun env => match g env with | some (env', u) => (match toL u with | some c => .nx (env'.set i c) | none => .err) | none => .err
def sDropX (g : List C → Option (List C × T)) : List C → Out := fun env => match g env with | some (env', _) => .nx env' | none => .err
def sRetX (g : List C → Option (List C × T)) : List C → Out := fun env => match g env with | some (env', u) => .rx env' u | none => .err
theorem ds_retX (h : DX X G e g) : DS X G kr (.Return (some e) pos) (sRetX g) := by
  obtain ⟨t, p, o⟩ := h.ex
  refine ⟨_, ps_ret p, fun σ H F fp env E R q => ?_⟩
  unfold sRetX at q
  cases z : g env with
  | none => rw [z] at q; exact q.elim
  | some eu =>
    obtain ⟨env', u⟩ := eu
    rw [z] at q
    exact o σ H F fp env env' u _ R z fun v H' F' fp' l R' s n => q v σ H' F' fp' l R' n
def sRetXN : List C → Out := fun env => .rx env (.d .none)
def sRetO (i : Nat) : List C → Out := fun env => match env[i]? with
  | some (.own none u) => .rx (env.set i .und) u
  | some (.lst ds) => .rx (env.set i .und) (.n .l (ds.map T.d))
  | some (.val d) => .rx env (.d d)
  | _ => .err
def txP (ft : List C → Option Bool) : List C → Option (List C × Bool) := fun env => (ft env).map fun b => (env, b)
def txB (g : List C → Option (List C × T)) : List C → Option (List C × Bool) := fun env => match g env with | some (env', .d (.bool b)) => some (env', b) | _ => none
def txNot (gt : List C → Option (List C × Bool)) : List C → Option (List C × Bool) := fun env => match gt env with | some (env', b) => some (env', !b) | none => none
def txCmp (g2 : D → D → Option D) (g : List C → Option (List C × T)) (f : List C → Option D) : List C → Option (List C × Bool) := fun env => match g env with
  | some (env', .d x) => (match f env' with | some y => (match g2 x y with | some (.bool b) => some (env', b) | _ => none) | none => none)
  | _ => none
structure DWX (X : Cx) (G : GC) (e : Expr) (g : List C → Option (List C × Bool)) : Prop where
  ex : ∃ t, PW X e t ∧ ∀ (σ : L2.St) (H F : Hp) (fp : Nat → List Addr) (env env' : List C) (b : Bool) (Q : Bool → Hp → Prop), Rel X.K G env σ H F fp → g env = some (env', b) →
    (∀ H' F' fp', Rel X.K G env' σ H' F' fp' → Same F F' → Q b H') → t σ H Q
theorem DWX.t (h : DWX X G e gt) : DTX X G e gt := let ⟨t, p, o⟩ := h.ex; ⟨t, p.pt, o⟩
def txAnd (f g : List C → Option (List C × Bool)) : List C → Option (List C × Bool) := fun env => match f env with | some (env', true) => g env' | some (env', false) => some (env', false) | none => none
def txOr (f g : List C → Option (List C × Bool)) : List C → Option (List C × Bool) := fun env => match f env with | some (env', true) => some (env', true) | some (env', false) => g env' | none => none
variable {g1 g2 : List C → Option (List C × Bool)} {rest : List Expr}
def sIfX (gt : List C → Option (List C × Bool)) (f g : List C → Out) : List C → Out := fun env => match gt env with | some (env', true) => f env' | some (env', false) => g env' | none => .err
end
end DL
namespace DL
open PySem PySem.Spec L2
section
variable {K : PySem.W.Frag} {ow : Option World} {G : GC} {env : List C} {σ : L2.St} {H F H1 F1 : Hp} {fp : Nat → List Addr} {ip : IP} {v : V} {lu : List Addr} {s : Shp} {ts : List T}
theorem NR.root {H F : Hp} {a : Addr} {vs : List V} {own : List Addr} (h : NR K ow H F s a vs own) : a ∈ own ∧ own.Nodup → a ∈ own := fun h => h.1
theorem NR.mem {H F : Hp} {a : Addr} {vs : List V} {own : List Addr} (h : NR K ow H F s a vs own) (hs : s.cell = true) : a ∈ own := by
  cases s with
  | l => obtain ⟨rfl, _⟩ := h; simp
  | t => cases hs
  | lf => cases hs
  | kf _ => cases hs
  | v => cases hs
  | k ks => obtain ⟨rfl, _⟩ := h; simp
  | q ks => obtain ⟨rfl, _⟩ := h; simp
  | o c fs => obtain ⟨_, _, _, rfl, _⟩ := h; simp
  | e fs => obtain ⟨rfl, _⟩ := h; simp
  | x c fs =>
    obtain ⟨_, _, _, h⟩ := h
    rcases h with ⟨rfl, _⟩ | ⟨_, rfl, _⟩ <;> simp
theorem Rel.store (R : Rel K G env σ H F fp) (P : Place K G env σ H F fp ip (.n s ts) v lu) (hs : s.cell = true := by rfl) : ∃ a vs own l0, v = .ref a ∧ NR K G.w H F s a vs own ∧ ORs K G.w H F vs ts l0 ∧ (own ++ l0).Nodup ∧ (∀ b, b ∈ own ++ l0 → b ∈ fp ip.1) ∧
    ∀ (o' : HO) (s' : Shp) (vs' : List V) (ts' : List T) (l0' : List Addr), NR K G.w (upd H a o') F s' a vs' own → ORs K G.w H F vs' ts' l0' → (own ++ l0').Nodup → (∀ b, b ∈ l0' → b ∈ l0 ∨ ((∀ j, b ∉ fp j) ∧ G.H0 b = none ∧ F b = none ∧ H b ≠ none)) →
      ∃ fp', Rel K G (putAt env ip (.n s' ts')) σ (upd H a o') F fp' := by
  have hrep := P.rep
  have hmem := fun b => @Place.mem _ _ _ _ _ _ _ _ _ _ _ P b
  cases hrep with
  | @n _ a vs _ own l0 h1 h2 h3 =>
    refine ⟨a, vs, own, l0, rfl, h1, h2, h3, fun b hb => hmem b hb, fun o' s' vs' ts' l0' n1 n2 n3 n4 => ?_⟩
    have ao := h1.mem hs
    have na : a ∉ l0' := fun h => by
      rw [List.nodup_append] at n3
      exact n3.2.2 a ao a h rfl
    have fa : F a = none := (R.own ip.1 a (hmem a (by simp [ao]))).1
    obtain ⟨fp', R', _⟩ := R.write2 P (F' := F) (H' := upd H a o') (u' := .n s' ts') (lu' := own ++ l0') (Same.refl _) (fun b x e => by rw [upd_ne (fun z => by rw [z, fa] at e; cases e)]; exact R.sub b x e) (fun _ _ e => .inl e)
      (fun b o hb e => by rw [upd_ne (fun z => hb (by rw [z]; simp [ao]))]; exact e) (fun b hb => by
        by_cases z : b = a
        · rw [z, upd_same]; intro y; cases y
        · rw [upd_ne z]; exact (R.own ip.1 b (hmem b hb)).2.1)
      (.n n1 (ORs_mono (Same.refl _) _ _ _ (fun b o hb e => by rw [upd_ne (fun z => na (by rw [← z]; exact hb))]; exact e) n2) n3) (fun b hb => by
        have al : H b ≠ none → upd H a o' b ≠ none := fun h => by
          by_cases z : b = a
          · rw [z, upd_same]; intro y; cases y
          · rw [upd_ne z]; exact h
        have old : b ∈ own ++ l0 → (b ∈ own ++ l0 ∨ ((∀ j, b ∉ fp j) ∧ G.H0 b = none)) ∧ F b = none ∧ upd H a o' b ≠ none := fun z => by
          obtain ⟨g1, g2, _⟩ := R.own ip.1 b (hmem b z)
          exact ⟨.inl z, g1, al g2⟩
        rcases List.mem_append.mp hb with z | z
        · exact old (by simp [z])
        · rcases n4 b z with y | ⟨y1, y2, y3, y4⟩
          · exact old (by simp [y])
          · exact ⟨.inr ⟨y1, y2⟩, y3, al y4⟩)
    exact ⟨fp', R'⟩
theorem New.ext {v : V} {t : T} {l : List Addr} (n : New K G H F fp v t l) (E : Ext H F H1 F1) : New K G H1 F1 fp v t l where
  rep := OR_mono E.f _ _ _ (fun b o _ => E.h b o) n.rep
  own := fun b hb => by
    obtain ⟨h1, h2, h3⟩ := n.own b hb
    refine ⟨?_, ?_, h3⟩
    · cases q : F1 b with
      | none => rfl
      | some o =>
        rcases E.new b o q with z | z
        · rw [h1] at z; cases z
        · exact absurd z h2
    · cases q : H b with
      | none => exact absurd q h2
      | some o => rw [E.h _ _ q]; intro z; cases z
  dj := n.dj
end
def putO (f : Str) (u : T) (c : Str) (fs : List Str) (ts : List T) : T := match fIx f fs with
  | some j => .n (.o c fs) (ts.set j u)
  | none => .n (.o c (fs ++ [f])) (ts ++ [u])
section
variable {X : Cx} {G : GC} {kr k k2 : RK} {e ei o : Expr} {f fi fe : List C → Option D} {g : List C → Option (List C × T)} {gp : List C → Option IP} {pos p1 p2 p3 pos' : Pos}
def sFldP (c fn : Str) (gp : List C → Option IP) (g : List C → Option (List C × T)) : List C → Out := fun env => match g env with
  | some (env1, u) => (match gp env1 with
    | some ip => (match nodeAt env1 ip with
      | some (.n (.o c' fs) ts) => if c' = c ∧ fs.length < 1000 then .nx (putAt env1 ip (putO fn u c fs ts)) else .err
      | _ => .err)
    | none => .err)
  | none => .err
def sFldAugP (c fn : Str) (g2 : D → D → Option D) (gp : List C → Option IP) (fe : List C → Option D) : List C → Out := fun env => match gp env with
  | some ip => (match nodeAt env ip with
    | some (.n (.o c' fs) ts) => (match fIx fn fs with
      | some j => (match ts[j]? with
        | some (.d x) => (match fe env with
          | some y => (match g2 x y with | some z => if c' = c ∧ fs.length < 1000 then .nx (putAt env ip (putO fn (.d z) c fs ts)) else .err | none => .err)
          | none => .err)
        | _ => .err)
      | none => .err)
    | _ => .err)
  | none => .err
def sIxP (gp : List C → Option IP) (fi : List C → Option D) (g : List C → Option (List C × T)) : List C → Out := fun env => match g env with
  | some (env1, u) => (match gp env1 with
    | some ip => (match nodeAt env1 ip with
      | some (.n .l ts) => (match fi env1 with
        | some (.int j) => (match ixN ts.length j with | some m => .nx (putAt env1 ip (.n .l (ts.set m u))) | none => .err)
        | _ => .err)
      | _ => .err)
    | none => .err)
  | none => .err
def sAugP (g2 : D → D → Option D) (gp : List C → Option IP) (fi fe : List C → Option D) : List C → Out := fun env => match gp env with
  | some ip => (match nodeAt env ip with
    | some (.n .l ts) => (match fi env with
      | some (.int j) => (match ixN ts.length j with
        | some m => (match ts[m]? with
          | some (.d x) => (match fe env with
            | some y => (match g2 x y with | some z => .nx (putAt env ip (.n .l (ts.set m (.d z)))) | none => .err)
            | none => .err)
          | _ => .err)
        | none => .err)
      | _ => .err)
    | _ => .err)
  | none => .err
def xAppP (gp : List C → Option IP) (fn : List C → Option T) : List C → Option (List C × T) := fun env => match gp env with
  | some ip => (match nodeAt env ip with
    | some (.n .l ts) => (match fn env with | some u => if ts.length < 16000000 then some (putAt env ip (.n .l (ts ++ [u])), .d .none) else none | none => none)
    | _ => none)
  | none => none
def xAppX (i : Nat) (g : List C → Option (List C × T)) : List C → Option (List C × T) := fun env => match nodeAt env (i, []), g env with
  | some (.n .l _), some (env1, u) => (match nodeAt env1 (i, []) with
    | some (.n .l ts) => if ts.length < 16000000 then some (putAt env1 (i, []) (.n .l (ts ++ [u])), .d .none) else none
    | _ => none)
  | _, _ => none
def xClearP (gp : List C → Option IP) : List C → Option (List C × T) := fun env => match gp env with
  | some ip => (match nodeAt env ip with
    | some (.n .l ts) => some (putAt env ip (.n .l []), .d .none)
    | some (.d (.list [])) => some (env, .d .none)
    | _ => none)
  | none => none
end
end DL
namespace DL
open PySem PySem.Spec L2
def kIx : List D → D → Option Nat
  | [], _ => none
  | x :: r, y => if keyN x = keyN y then some 0 else (kIx r y).map (· + 1)
section
variable {K : PySem.W.Frag} {F H : Hp}
end
structure IsKeyD (K : PySem.W.Frag) (H : Hp) (p : Addr) (d : D) (k : NestedKey) : Prop where
  dp : Dp K H (.ref p) d
  key : keyN d = some k
  deep : k.depth ≤ 8
def KeysOk (K : PySem.W.Frag) (H : Hp) (xs : List (NestedKey × Addr × Value)) : Prop := ∀ e, e ∈ xs → e.1.depth ≤ 8 ∧ ∃ d, keyN d = some e.1 ∧ Dp K H (.ref e.2.1) d
section
variable {X : Cx} {o e ek : Expr} {td ty : TE} {pos apos cpos : Pos} {pins : List (Addr × Obj)} {σ : L2.St} {H : Hp} {s : Shared}
def rGetQ (X : Cx) : R2 := fun x y H Q => ∃ a p d k xs q v, x = .ref a ∧ y = .ref p ∧ IsKeyD X.K H p d k ∧ H a = some (dnO X.w a xs) ∧ KeysOk X.K H xs ∧ atKey xs k = some q ∧ RelV v q.2 ∧ Q v H
def tBMQ (X : Cx) (r : V → List V → Hp → VK → Prop) (to : TE) (t : TA) : TE := fun σ H Q => to σ H fun x H1 => (∃ a xs, x = .ref a ∧ H1 a = some (dnO X.w a xs)) ∧ t σ H1 fun vs H2 => r x vs H2 Q
def rPopQ (X : Cx) : V → List V → Hp → VK → Prop := fun x vs H Q => ∃ a p d k xs q v, x = .ref a ∧ vs = [.ref p] ∧ IsKeyD X.K H p d k ∧ H a = some (dnO X.w a xs) ∧ KeysOk X.K H xs ∧ atKey xs k = some q ∧ RelV v q.2 ∧ ((xs.map (·.1)).Nodup → Q v (upd H a (dnO X.w a (withoutH xs k))))
def rPopQ2 (X : Cx) : V → List V → Hp → VK → Prop := fun x vs H Q => ∃ a p d k xs w, x = .ref a ∧ vs = [.ref p, w] ∧ IsKeyD X.K H p d k ∧ H a = some (dnO X.w a xs) ∧ KeysOk X.K H xs ∧
  ((∃ q v, atKey xs k = some q ∧ RelV v q.2 ∧ ((xs.map (·.1)).Nodup → Q v (upd H a (dnO X.w a (withoutH xs k))))) ∨ (atKey xs k = none ∧ Q w H))
def rSetdQ (X : Cx) : V → List V → Hp → VK → Prop := fun x vs H Q => ∃ a p d k xs w, x = .ref a ∧ vs = [.ref p, w] ∧ IsKeyD X.K H p d k ∧ H a = some (dnO X.w a xs) ∧ KeysOk X.K H xs ∧
  ((∃ q v, atKey xs k = some q ∧ RelV v q.2 ∧ Q v H) ∨ (atKey xs k = none ∧ xs.length < 16000000 ∧ ∀ u, RelV w u → Q w (upd H a (dnO X.w a (xs ++ [(k, p, u)])))))
def rSortQ (X : Cx) : List V → Hp → VK → Prop := fun vs H Q => ∃ (F : Hp) (a : Addr) (xs : List (NestedKey × Addr × Value)) (ds : List D), vs = [.ref a] ∧ Same F H ∧ H a = some (dnO X.w a xs) ∧ KeysOk X.K H xs ∧ DFAll X.K F (xs.map fun e => V.ref e.2.1) ds ∧ alikeB ds = true ∧ sortableB ds = true ∧ (ds.all fun d => decide (d.depth ≤ 60)) = true ∧
  ∀ p ws, H p = none → DFAll X.K F ws (ds.mergeSort (W.dataLe false fun d => d)) → Q (.ref p) (upd H p (.lst ws))
end
end DL
namespace DL
open PySem PySem.Spec L2
section
variable {X : Cx} {G : GC} {kr k k2 : RK} {e ei ek o : Expr} {es : List Expr} {f fi fk fe : List C → Option D} {fs : List C → Option (List D)} {g : List C → Option (List C × T)} {gp : List C → Option IP} {pos p1 p2 p3 pos' : Pos}
def selK (fk : List C → Option D) : List C → Shp → Nat → Option Nat := fun env s _ => match s with
  | .q ks => (match fk env with | some d => if okK d = true then kIx ks d else none | none => none)
  | _ => none
def pK (fk : List C → Option D) (g : List C → Option IP) : List C → Option IP := pChild g (selK fk)
def tInQ (fk : List C → Option D) (gp : List C → Option IP) : List C → Option Bool := fun env => match gp env with
  | some ip => (match nodeAt env ip with
    | some (.n (.q ks) _) => (match fk env with | some d => if okK d = true then some (kIx ks d).isSome else none | none => none)
    | _ => none)
  | none => none
def tNotInQ (fk : List C → Option D) (gp : List C → Option IP) : List C → Option Bool := fun env => (tInQ fk gp env).map (!·)
def xPopQ (gp : List C → Option IP) (fs : List C → Option (List D)) : List C → Option (List C × T) := fun env => match gp env with
  | some ip => (match nodeAt env ip with
    | some (.n (.q ks) ts) => (match fs env with
      | some [d] => if okK d = true then (match kIx ks d with
        | some j => (match ts[j]? with | some (.d x) => some (putAt env ip (.n (.q (ks.eraseIdx j)) (ts.eraseIdx j)), .d x) | _ => none)
        | none => none) else none
      | _ => none)
    | _ => none)
  | none => none
theorem new_d {K : PySem.W.Frag} {H F : Hp} {fp : Nat → List Addr} {v : V} {x : D} (r : DF K F v x) : New K G H F fp v (.d x) [] := ⟨.d r, (fun _ m => nomatch m), (fun _ m => nomatch m)⟩
def xPopQ2 (gp : List C → Option IP) (fs : List C → Option (List D)) : List C → Option (List C × T) := fun env => match gp env with
  | some ip => (match nodeAt env ip with
    | some (.n (.q ks) ts) => (match fs env with
      | some [d, y] => if okK d = true then (match kIx ks d with
        | some j => (match ts[j]? with | some (.d x) => some (putAt env ip (.n (.q (ks.eraseIdx j)) (ts.eraseIdx j)), .d x) | _ => none)
        | none => some (env, .d y)) else none
      | _ => none)
    | _ => none)
  | none => none
def xSetdQ (gp : List C → Option IP) (fs : List C → Option (List D)) : List C → Option (List C × T) := fun env => match gp env with
  | some ip => (match nodeAt env ip with
    | some (.n (.q ks) ts) => (match fs env with
      | some [d, y] => if okK d = true then (match kIx ks d with
        | some j => (match ts[j]? with | some (.d x) => some (env, .d x) | _ => none)
        | none => if ts.length < 16000000 then some (putAt env ip (.n (.q (ks ++ [d])) (ts ++ [.d y])), .d y) else none) else none
      | _ => none)
    | _ => none)
  | none => none
def sPutQ (gp : List C → Option IP) (fk : List C → Option D) (g : List C → Option (List C × T)) : List C → Out := fun env => match g env with
  | some (env1, u) => (match gp env1 with
    | some ip => (match nodeAt env1 ip with
      | some (.n (.q ks) ts) => (match fk env1 with
        | some d => if okK d = true ∧ ts.length < 16000000 then (match kIx ks d with | none => .nx (putAt env1 ip (.n (.q (ks ++ [d])) (ts ++ [u]))) | some _ => .err) else .err
        | none => .err)
      | _ => .err)
    | none => .err)
  | none => .err
def eSortQ (gp : List C → Option IP) : List C → Option D := fun env => match gp env with
  | some ip => (match nodeAt env ip with
    | some (.n (.q ks) _) => gSorted [.list ks]
    | _ => none)
  | none => none
end
end DL
namespace DL
open PySem PySem.Spec L2
structure DRd (X : Cx) (G : GC) (e : Expr) (r : List C → Option T) : Prop where
  ex : ∃ t, PE X e t ∧ ∀ (σ : L2.St) (H F : Hp) (fp : Nat → List Addr) (env : List C) (u : T) (Q : VK), Rel X.K G env σ H F fp → r env = some u →
    (∀ v l H' F', Ext H F H' F' → OR X.K G.w H' F' v u l → Q v H') → t σ H Q
section
variable {X : Cx} {G : GC} {kr k k2 : RK} {e ei ek o : Expr} {es : List Expr} {f fi fk fe : List C → Option D} {r : List C → Option T} {rs : List C → Option (List T)} {gp : List C → Option IP} {pos p1 p2 p3 pos' : Pos}
def cellT : C → Option T
  | .val d => some (.d d)
  | .lst ds => some (.n .l (ds.map T.d))
  | .own _ t => some t
  | .ro _ t => some t
  | _ => none
def rN (i : Nat) : List C → Option T := fun env => (env[i]?).bind cellT
theorem cell_or {K : PySem.W.Frag} {env : List C} {σ : L2.St} {H F : Hp} {fp : Nat → List Addr} {i : Nat} {u : T} (R : Rel K G env σ H F fp) (h : rN i env = some u) : ∃ v l, σ[i]? = some (some v) ∧ OR K G.w H F v u l := by
  unfold rN at h
  cases e : env[i]? with
  | none => rw [e] at h; cases h
  | some c =>
    rw [e] at h
    have h : cellT c = some u := h
    have q := R.slot i c e
    have join : ∀ v, (σ[i]?).join = some v → σ[i]? = some (some v) := fun v z => by
      cases y : σ[i]? with
      | none => rw [y] at z; cases z
      | some o => rw [y] at z; exact congrArg some z
    cases c with
    | val d => cases h; obtain ⟨_, v, e1, r⟩ := q; exact ⟨v, [], join v e1, .d r⟩
    | lst ds => cases h; obtain ⟨a, vs, q1, q2, q3, q4⟩ := q; exact ⟨.ref a, [a] ++ [], join _ q2, .n ⟨rfl, q3⟩ (rep_flatT q4) (by simp)⟩
    | own m t => cases h; obtain ⟨v, q1, q2, _⟩ := q; exact ⟨v, _, join v q1, q2⟩
    | ro b t => cases h; obtain ⟨_, v, l, q1, q2, _⟩ := q; exact ⟨v, l, join v q1, OR_mono (Same.refl _) _ _ _ (fun b o _ z => R.kpSame b o z) q2⟩
    | und => cases h
    | pin _ => cases h
    | al _ _ => cases h
    | al2 _ _ _ => cases h
    | brw d => cases h
    | dK d => cases h
    | dT d => cases h
    | dN d => cases h
theorem dr_name {x : Str} (i : Nat) (h : PE X (.Name x pos) (tVar i)) : DRd X G (.Name x pos) (rN i) := by
  refine ⟨_, h, fun σ H F fp env u Q R hg q => ?_⟩
  obtain ⟨v, l, s1, r⟩ := cell_or R hg
  exact ⟨v, s1, q v l H F (Ext.refl R.sub) r⟩
theorem dr_fz (h : DE X G k e f) (hk : k.le .fz = true := by rfl) : DRd X G e (nD f) := by
  obtain ⟨t, pt, o⟩ := (h.conv hk).ex
  refine ⟨t, pt, fun σ H F fp env u Q R hf q => ?_⟩
  unfold nD at hf
  cases z : f env with
  | none => rw [z] at hf; cases hf
  | some d =>
    rw [z] at hf; cases hf
    exact o σ H F fp env d Q R z fun v H' F' E r => q v [] H' F' E (.d r)
theorem dr_dn {fn : List C → Option T} (h : DN X G e fn) : DRd X G e fn := by
  obtain ⟨t, pt, o⟩ := h.ex
  exact ⟨t, pt, fun σ H F fp env u Q R hf q => o σ H F fp env u Q R hf fun v H' F' l E r _ => q v l H' F' E r⟩
def rChild (r : List C → Option T) (sel : List C → Shp → Nat → Option Nat) : List C → Option T := fun env => match r env with
  | some (.n s ts) => (match sel env s ts.length with | some j => ts[j]? | none => none)
  | _ => none
theorem rChild_of {sel : List C → Shp → Nat → Option Nat} {env : List C} {u : T} (h : rChild r sel env = some u) : ∃ s ts j, r env = some (.n s ts) ∧ sel env s ts.length = some j ∧ ts[j]? = some u := by
  unfold rChild at h
  split at h
  · rename_i s ts z
    split at h
    · rename_i j z2; exact ⟨s, ts, j, z, z2, h⟩
    · cases h
  · cases h
theorem or_child {K : PySem.W.Frag} {ow : Option World} {H F : Hp} {v : V} {s : Shp} {ts : List T} {l : List Addr} {j : Nat} {u : T} (h : OR K ow H F v (.n s ts) l) (e : ts[j]? = some u) :
    ∃ a vs own l0 w lt, v = .ref a ∧ NR K ow H F s a vs own ∧ ORs K ow H F vs ts l0 ∧ vs[j]? = some w ∧ OR K ow H F w u lt := by
  cases h with
  | n r1 r2 r3 =>
    obtain ⟨w, lt, l1, l2, rfl, g1, g2, _⟩ := ORs_at r2 e
    exact ⟨_, _, _, _, w, lt, rfl, r1, r2, g1, g2⟩
def rF (c f : Str) (r : List C → Option T) : List C → Option T := rChild r (selF c f)
def rI (fi : List C → Option D) (r : List C → Option T) : List C → Option T := rChild r (selI fi)
def rK (fk : List C → Option D) (r : List C → Option T) : List C → Option T := rChild r (selK fk)
theorem dr_ix (h : DRd X G e r) (hi : DE X G k ei fi) (hs : PlainIx ei := by exact fun _ _ => rfl) (hk : k.le .vl = true := by rfl) : DRd X G (.Subscript e ei pos) (rI fi r) := by
  obtain ⟨t, pt, o⟩ := h.ex
  obtain ⟨ti, pi, oi⟩ := (hi.conv hk).ex
  refine ⟨_, pe_ix ix_seq pt pi hs, fun σ H F fp env u Q R hg q => ?_⟩
  obtain ⟨s, ts, j, h1, h2, h3⟩ := rChild_of hg
  have go : ∀ i, fi env = some (.int i) → ixN ts.length i = some j → (s = .l ∨ s = .t ∨ s = .lf) → tOp (rIx X.K) t ti σ H Q := fun i h4 h5 hs => by
    refine o σ H F fp env _ _ R h1 fun v l H1 F1 E1 rep => ?_
    refine oi σ H1 F1 fp env _ _ (R.ext E1) h4 fun vi H2 F2 E2 ri => ?_
    have ei := vl_int (G := G) (H := H2) (F := F2) ri
    subst ei
    obtain ⟨a, vs, own, l0, w, lt, rfl, nr, os, hw, r'⟩ := or_child (OR_mono E2.f _ _ _ (fun b o _ => E2.h b o) rep) h3
    have ha : atI vs i = some w := by unfold atI; rw [ORs_len os, h5]; exact hw
    rcases hs with rfl | rfl | rfl
    · exact .inl ⟨a, vs, i, w, rfl, rfl, .inl (.inl nr.2), ha, q w lt H2 F2 (E1.trans E2) r'⟩
    · have st : SqT X.K H2 a vs := by
        rcases nr with ⟨_, h⟩ | ⟨_, h⟩
        · exact .inl (.inl h)
        · exact Same.seqT E2.sub h
      exact .inr (.inl ⟨a, vs, i, w, rfl, rfl, st, ha, q w lt H2 F2 (E1.trans E2) r'⟩)
    · exact .inl ⟨a, vs, i, w, rfl, rfl, .inl (.inl (E2.sub _ _ nr.2)), ha, q w lt H2 F2 (E1.trans E2) r'⟩
  unfold selI at h2
  split at h2
  · split at h2
    · rename_i i h4; exact go i h4 h2 (.inl rfl)
    · cases h2
  · split at h2
    · rename_i i h4; exact go i h4 h2 (.inr (.inr rfl))
    · cases h2
  · split at h2
    · rename_i i h4; exact go i h4 h2 (.inr (.inl rfl))
    · cases h2
  · cases h2
def rLeaf (r : List C → Option T) : List C → Option D := fun env => match r env with | some (.d x) => some x | _ => none
theorem d_rleaf (h : DRd X G e r) : DE X G .fz e (rLeaf r) := by
  obtain ⟨t, pt, o⟩ := h.ex
  refine ⟨t, pt, fun σ H F fp env d Q R hf q => ?_⟩
  unfold rLeaf at hf
  split at hf
  · rename_i x z
    cases hf
    refine o σ H F fp env _ _ R z fun v l H1 F1 E1 rep => ?_
    cases rep with
    | d r => exact q v H1 F1 E1 r
  · cases hf
def flatV1 : T → Option D
  | .d x => some x
  | .n .l ts => (flatT ts).map .list
  | _ => none
def rFlat (r : List C → Option T) : List C → Option D := fun env => (r env).bind flatV1
def rView (r : List C → Option T) : List C → Option D := fun env => (r env).bind viewT
def trIn (fk : List C → Option D) (r : List C → Option T) : List C → Option Bool := fun env => match r env with
  | some (.n (.q ks) _) => (match fk env with | some d => if okK d = true then some (kIx ks d).isSome else none | none => none)
  | _ => none
def trNin (fk : List C → Option D) (r : List C → Option T) : List C → Option Bool := fun env => (trIn fk r env).map (!·)
def rSort (r : List C → Option T) : List C → Option D := fun env => match r env with
  | some (.n (.q ks) _) => gSorted [.list ks]
  | _ => none
structure DRs (X : Cx) (G : GC) (es : List Expr) (rs : List C → Option (List T)) : Prop where
  ex : ∃ t, PA X es t ∧ ∀ (σ : L2.St) (H F : Hp) (fp : Nat → List Addr) (env : List C) (us : List T) (Q : List V → Hp → Prop), Rel X.K G env σ H F fp → rs env = some us →
    (∀ vs H' F', Ext H F H' F' → W.EachIs (fun v u => ∃ l, OR X.K G.w H' F' v u l) vs us → Q vs H') → t σ H Q
theorem drs_nil : DRs X G [] nsNil := ⟨_, pa_nil, fun σ H F fp env us Q R hf q => by cases hf; exact q [] H F (Ext.refl R.sub) .nil⟩
theorem drs_cons (h : DRd X G e r) (ht : DRs X G es rs) (hs : starEach (e :: es) X.env = (false, eval e X.env) :: starEach es X.env := by rfl) : DRs X G (e :: es) (nsCons r rs) := by
  obtain ⟨t, pt, o⟩ := h.ex
  obtain ⟨t2, pt2, o2⟩ := ht.ex
  refine ⟨_, pa_cons pt pt2 hs, fun σ H F fp env ds Q R hf q => ?_⟩
  unfold nsCons at hf
  split at hf
  · rename_i u z
    split at hf
    · rename_i us z2
      cases hf
      refine o σ H F fp env u _ R z fun v l H1 F1 E1 r1 => ?_
      refine o2 σ H1 F1 fp env us _ (R.ext E1) z2 fun vs H2 F2 E2 r2 => ?_
      exact q (v :: vs) H2 F2 (E1.trans E2) (.cons ⟨l, OR_mono E2.f _ _ _ (fun b o _ => E2.h b o) r1⟩ r2)
    · cases hf
  · cases hf
end
end DL
namespace DL
open PySem PySem.Spec L2
inductive MA (K : PySem.W.Frag) (ow : Option World) (Kp H F : Hp) : List Bool → List V → List T → List (Addr × List Addr) → Prop
  | nil : MA K ow Kp H F [] [] [] []
  | ro {v : V} {u : T} {l : List Addr} {ks : List Bool} {vs : List V} {us : List T} {ws : List (Addr × List Addr)} : OR K ow Kp F v u l → MA K ow Kp H F ks vs us ws → MA K ow Kp H F (false :: ks) (v :: vs) (u :: us) ws
  | mu {a : Addr} {u : T} {l : List Addr} {ks : List Bool} {vs : List V} {us : List T} {ws : List (Addr × List Addr)} : OR K ow H F (.ref a) u l → MA K ow Kp H F ks vs us ws → MA K ow Kp H F (true :: ks) (.ref a :: vs) (u :: us) ((a, l) :: ws)
inductive MU (K : PySem.W.Frag) (ow : Option World) (H F : Hp) : List Bool → List V → List T → List (List Addr) → Prop
  | nil : MU K ow H F [] [] [] []
  | ro {v : V} {ks : List Bool} {vs : List V} {us : List T} {ls : List (List Addr)} : MU K ow H F ks vs us ls → MU K ow H F (false :: ks) (v :: vs) us ls
  | mu {a : Addr} {u : T} {l : List Addr} {ks : List Bool} {vs : List V} {us : List T} {ls : List (List Addr)} : OR K ow H F (.ref a) u l → MU K ow H F ks vs us ls → MU K ow H F (true :: ks) (.ref a :: vs) (u :: us) (l :: ls)
def wAll (ws : List (Addr × List Addr)) : List Addr := ws.flatMap (·.2)
def cut (H : Hp) (W : List Addr) : Hp := fun a => if a ∈ W then none else H a
structure PostM (K : PySem.W.Frag) (w : World) (ks : List Bool) (vs : List V) (H F0 : Hp) (ws : List (Addr × List Addr)) (H' F' : Hp) (us' : List T) (ls' : List (List Addr)) (v : V) (r : T) (lr : List Addr) : Prop where
  f : Same F0 F'
  sub : Same F' H'
  nw : ∀ a o, F' a = some o → F0 a = some o ∨ H a = none
  keep : ∀ b o, b ∉ wAll ws → H b = some o → H' b = some o
  al : ∀ b, b ∈ wAll ws → H' b ≠ none
  mu : MU K (some w) H' F' ks vs us' ls'
  sep : W.EachIs (fun (x : Addr × List Addr) (l : List Addr) => ∀ b, b ∈ l → b ∈ x.2 ∨ H b = none) ws ls'
  own : ∀ b, b ∈ ls'.flatten → F' b = none ∧ H' b ≠ none
  nd : (ls'.flatten ++ lr).Nodup
  res : OR K (some w) H' F' v r lr
  new : ∀ b, b ∈ lr → H b = none ∧ F' b = none ∧ H' b ≠ none
def spM (K : PySem.W.Frag) (w : World) (ks : List Bool) (g : List T → Option (List T × T)) : Sp := fun vs H Q _ => ∃ (F0 : Hp) (us : List T) (ws : List (Addr × List Addr)) (us' : List T) (r : T), Same F0 H ∧ MA K (some w) (cut H (wAll ws)) H F0 ks vs us ws ∧ (wAll ws).Nodup ∧ (∀ b, b ∈ wAll ws → F0 b = none ∧ H b ≠ none) ∧
  g us = some (us', r) ∧ ∀ v H' F' ls' lr, PostM K w ks vs H F0 ws H' F' us' ls' v r lr → Q v H'
def spT (K : PySem.W.Frag) (w : World) (n : Nat) (g : List T → Option T) : Sp := fun vs H Q _ => ∃ (F0 : Hp) (us : List T) (r : T), Same F0 H ∧ vs.length = n ∧ W.EachIs (fun v u => ∃ l, OR K (some w) H F0 v u l) vs us ∧ g us = some r ∧
  ∀ v H' F' l, Ext H F0 H' F' → OR K (some w) H' F' v r l → Fresh H H' F' l → Q v H'
def roC (b : Bool) : T → C
  | .d d => .val d
  | u => .ro b u
def cellsM : List Bool → Nat → List T → List C
  | false :: ks, j, u :: us => roC false u :: cellsM ks j us
  | true :: ks, j, u :: us => .own (some j) u :: cellsM ks (j + 1) us
  | _, _, _ => []
def fpM : List Bool → List (Addr × List Addr) → Nat → List Addr
  | true :: _, w :: _, 0 => w.2
  | true :: ks, _ :: ws, i + 1 => fpM ks ws i
  | false :: ks, ws, i + 1 => fpM ks ws i
  | _, _, _ => []
def muSlots : List Bool → Nat → List Nat
  | [], _ => []
  | true :: ks, i => i :: muSlots ks (i + 1)
  | false :: ks, i => muSlots ks (i + 1)
def collectM : List Bool → Nat → Nat → List C → Option (List T)
  | [], _, _, _ => some []
  | false :: ks, i, j, env => collectM ks (i + 1) j env
  | true :: ks, i, j, env => match env[i]? with
    | some (.own (some j') t) => if j' = j then (collectM ks (i + 1) (j + 1) env).map (t :: ·) else none
    | _ => none
def outM (ks : List Bool) : Out → Option (List T × T)
  | .rx env r => (collectM ks 0 0 env).map fun us => (us, r)
  | .nx env => (collectM ks 0 0 env).map fun us => (us, .d .none)
  | _ => none
def runM (ks : List Bool) (N : Nat) (body : List C → Out) : List T → Option (List T × T) := fun us => outM ks (body (cellsM ks 0 us ++ List.replicate (N - us.length) .und))
mutual
def noL : D → Bool
  | .list _ => false
  | .tuple ds => noLs ds
  | _ => true
def noLs : List D → Bool
  | [] => true
  | d :: ds => noL d && noLs ds
end
mutual
def noT : T → Bool
  | .d x => noL x
  | .n (.q _) _ => false
  | .n .lf _ => false
  | .n .v _ => false
  | .n _ ts => noTs ts
def noTs : List T → Bool
  | [] => true
  | t :: ts => noT t && noTs ts
end
def outT : Out → Option T
  | .rx _ r => if noT r = true then some r else none
  | .nx _ => some (.d .none)
  | _ => none
def runT (N : Nat) (body : List C → Out) : List T → Option T := fun us => outT (body (us.map (roC true) ++ List.replicate (N - us.length) .und))
section
variable {K : PySem.W.Frag} {ow : Option World} {Kp H F H' F' : Hp} {ks : List Bool} {vs : List V} {us us' : List T} {ws : List (Addr × List Addr)}
theorem MA.len (h : MA K ow Kp H F ks vs us ws) : vs.length = ks.length ∧ us.length = ks.length := by
  induction h with
  | nil => exact ⟨rfl, rfl⟩
  | ro _ _ ih => simp [ih.1, ih.2]
  | mu _ _ ih => simp [ih.1, ih.2]
theorem cellsM_len (h : MA K ow Kp H F ks vs us ws) : ∀ j, (cellsM ks j us).length = vs.length := by
  induction h with
  | nil => intro j; rfl
  | ro _ _ ih => intro j; simp [cellsM, ih]
  | mu _ _ ih => intro j; simp [cellsM, ih]
theorem MA.slots {G : GC} (h : MA K G.w G.kp H F ks vs us ws) (sub : Same F H) (kp : Same G.kp H) : ∀ j, (∀ (k : Nat) (x : Addr × List Addr), ws[k]? = some x → G.Ws[j + k]? = some x) → ∀ (i : Nat) (c : C), (cellsM ks j us)[i]? = some c → SlotRep K G H F ((vs.map some)[i]?.join) c (fpM ks ws i) := by
  induction h with
  | nil => intro j _ i c e; simp [cellsM] at e
  | @ro v u l ks vs us ws r _ ih =>
    intro j hw i c e
    cases i with
    | zero =>
      simp [cellsM] at e; subst e
      cases u with
      | d x =>
        cases r with
        | d r => exact ⟨rfl, v, rfl, r⟩
      | n s ts => exact ⟨rfl, v, l, rfl, r, fun h => nomatch h⟩
    | succ i => simpa [fpM] using ih j hw i c (by simpa [cellsM] using e)
  | @mu a u l ks vs us ws r _ ih =>
    intro j hw i c e
    cases i with
    | zero =>
      simp [cellsM] at e; subst e
      exact ⟨.ref a, rfl, r, fun j' hj => by cases hj; exact ⟨a, l, hw 0 _ rfl, rfl, fun b hb => .inl hb⟩⟩
    | succ i => simpa [fpM] using ih (j + 1) (fun k x e => by have := hw (k + 1) x (by simpa using e); rwa [Nat.add_assoc, Nat.add_comm 1 k]) i c (by simpa [cellsM] using e)
theorem MA.fp_own (h : MA K ow Kp H F ks vs us ws) : ∀ (j i : Nat) (b : Addr), b ∈ fpM ks ws i → b ∈ wAll ws ∧ ∃ c, (cellsM ks j us)[i]? = some c ∧ c.mu = true := by
  induction h with
  | nil => intro j i b hb; simp [fpM] at hb
  | ro _ _ ih =>
    intro j i b hb
    cases i with
    | zero => simp [fpM] at hb
    | succ i => obtain ⟨h1, c, h2, h3⟩ := ih j i b (by simpa [fpM] using hb); exact ⟨h1, c, by simpa [cellsM] using h2, h3⟩
  | @mu a u l ks vs us ws r _ ih =>
    intro j i b hb
    cases i with
    | zero => exact ⟨by simp [wAll]; exact .inl (by simpa [fpM] using hb), _, by simp [cellsM]; rfl, rfl⟩
    | succ i => obtain ⟨h1, c, h2, h3⟩ := ih (j + 1) i b (by simpa [fpM] using hb); exact ⟨by simp [wAll] at h1 ⊢; exact .inr h1, c, by simpa [cellsM] using h2, h3⟩
theorem MA.fp_dj (h : MA K ow Kp H F ks vs us ws) : (wAll ws).Nodup → ∀ (i j : Nat) (b : Addr), b ∈ fpM ks ws i → b ∈ fpM ks ws j → i = j := by
  induction h with
  | nil => intro _ i j b hb; simp [fpM] at hb
  | ro _ _ ih =>
    intro nd i j b h1 h2
    cases i with
    | zero => simp [fpM] at h1
    | succ i =>
      cases j with
      | zero => simp [fpM] at h2
      | succ j => rw [ih nd i j b (by simpa [fpM] using h1) (by simpa [fpM] using h2)]
  | @mu a u l ks vs us ws r m ih =>
    intro nd i j b h1 h2
    have nd' : (l ++ wAll ws).Nodup := by simpa [wAll] using nd
    rw [List.nodup_append] at nd'
    cases i with
    | zero =>
      cases j with
      | zero => rfl
      | succ j => exact absurd rfl (nd'.2.2 b (by simpa [fpM] using h1) b (m.fp_own 0 j b (by simpa [fpM] using h2)).1)
    | succ i =>
      cases j with
      | zero => exact absurd rfl (nd'.2.2 b (by simpa [fpM] using h2) b (m.fp_own 0 i b (by simpa [fpM] using h1)).1)
      | succ j => rw [ih nd'.2.1 i j b (by simpa [fpM] using h1) (by simpa [fpM] using h2)]
theorem muSlots_ge : ∀ (ks : List Bool) (i j : Nat), j ∈ muSlots ks i → i ≤ j
  | [], i, j, h => by simp [muSlots] at h
  | true :: ks, i, j, h => by
    rcases List.mem_cons.mp h with rfl | h
    · exact Nat.le_refl _
    · have := muSlots_ge ks (i + 1) j h; omega
  | false :: ks, i, j, h => by have := muSlots_ge ks (i + 1) j h; omega
theorem muSlots_nd : ∀ (ks : List Bool) (i : Nat), (muSlots ks i).Nodup
  | [], i => List.nodup_nil
  | true :: ks, i => by
    unfold muSlots
    rw [List.nodup_cons]
    exact ⟨fun h => by have := muSlots_ge ks (i + 1) i h; omega, muSlots_nd ks (i + 1)⟩
  | false :: ks, i => muSlots_nd ks (i + 1)
theorem MA.exit {G : GC} {env : List C} {σ : L2.St} {H2 F2 : Hp} {fp : Nat → List Addr} (h : MA K ow Kp H F ks vs us ws) (R : Rel K G env σ H2 F2 fp) : ∀ (i j : Nat) (us' : List T), (∀ (k : Nat) (x : Addr × List Addr), ws[k]? = some x → G.Ws[j + k]? = some x) → collectM ks i j env = some us' →
    MU K G.w H2 F2 ks vs us' ((muSlots ks i).map fp) ∧ W.EachIs (fun (x : Addr × List Addr) (l : List Addr) => ∀ b, b ∈ l → b ∈ x.2 ∨ G.H0 b = none) ws ((muSlots ks i).map fp) := by
  induction h with
  | nil => intro i j us' _ e; cases e; exact ⟨.nil, .nil⟩
  | ro _ _ ih =>
    intro i j us' hw e
    obtain ⟨h1, h2⟩ := ih (i + 1) j us' hw (by simpa [collectM] using e)
    exact ⟨.ro h1, h2⟩
  | @mu a u l ks vs us ws r m ih =>
    intro i j us' hw e
    unfold collectM at e
    split at e
    · rename_i j' t e1
      split at e
      · rename_i hj
        subst hj
        cases z : collectM ks (i + 1) (j' + 1) env with
        | none => rw [z] at e; cases e
        | some us2 =>
          rw [z] at e; cases e
          obtain ⟨h1, h2⟩ := ih (i + 1) (j' + 1) us2 (fun k x e => by have := hw (k + 1) x (by simpa using e); rwa [Nat.add_assoc, Nat.add_comm 1 k]) z
          obtain ⟨v, s1, s2, s3⟩ := slot_own R e1
          obtain ⟨ra, rl, w1, w2, w3⟩ := s3 j' rfl
          have := hw 0 _ rfl
          rw [Nat.add_zero, w1] at this
          cases this
          subst w2
          exact ⟨.mu s2 h1, .cons w3 h2⟩
      · cases e
    · cases e
theorem rel_startM {w : World} {N : List Str} {F0 : Hp} (sub : Same F0 H) (m : MA K (some w) (cut H (wAll ws)) H F0 ks vs us ws) (nd : (wAll ws).Nodup) (al : ∀ b, b ∈ wAll ws → F0 b = none ∧ H b ≠ none) :
    Rel K ⟨H, F0, ws, some w⟩ (cellsM ks 0 us ++ List.replicate (N.length - us.length) .und) (L2.start N vs) H F0 (fpM ks ws) := by
  have l1 := cellsM_len m 0
  obtain ⟨m1, m2⟩ := m.len
  have kp : Same (GC.kp ⟨H, F0, ws, some w⟩) H := fun a o e => by
    unfold GC.kp at e
    split at e
    · cases e
    · exact e
  have hk : cut H (wAll ws) = GC.kp ⟨H, F0, ws, some w⟩ := rfl
  have sl := MA.slots (G := ⟨H, F0, ws, some w⟩) m sub kp 0 (fun k x e => by rw [Nat.zero_add]; exact e)
  exact {
    len := by
      unfold L2.start
      rw [List.length_append, List.length_append, List.length_replicate, List.length_replicate, List.length_map, l1, m1, m2]
    slot := fun i c e => by
      by_cases hi : i < (cellsM ks 0 us).length
      · rw [List.getElem?_append_left hi] at e
        unfold L2.start
        rw [List.getElem?_append_left (by rw [List.length_map, ← l1]; exact hi)]
        exact sl i c e
      · rw [List.getElem?_append_right (by omega), List.getElem?_replicate] at e
        split at e
        · cases e
          show fpM ks ws i = []
          cases q : fpM ks ws i with
          | nil => rfl
          | cons b l =>
            obtain ⟨_, c, h2, _⟩ := m.fp_own 0 i b (by rw [q]; simp)
            exact absurd (List.getElem?_eq_some_iff.mp h2).1 hi
        · cases e
    dj := fun i j b h1 h2 => m.fp_dj nd i j b h1 h2
    own := fun i b hb => by
      obtain ⟨h1, c, h2, h3⟩ := m.fp_own 0 i b hb
      obtain ⟨g1, g2⟩ := al b h1
      refine ⟨g1, g2, .inr ⟨h1, c, ?_, h3⟩⟩
      rw [List.getElem?_append_left (List.getElem?_eq_some_iff.mp h2).1]
      exact h2
    sub := sub
    new := fun _ _ e => .inl e
    old := Same.refl _
    keep := fun _ _ e _ => e
    alive := fun _ e => e }
theorem slots_nd {G : GC} {env : List C} {σ : L2.St} {fp : Nat → List Addr} (R : Rel K G env σ H F fp) {ls : List (List Addr)} (hm : MU K ow H' F' ks vs us' ls) : ∀ (L : List Nat), L.Nodup → (∀ i, i ∈ L → (fp i).Nodup) → (L.map fp).flatten.Nodup
  | [], _, _ => List.nodup_nil
  | i :: L, nd, h => by
    rw [List.nodup_cons] at nd
    rw [List.map_cons, List.flatten_cons, List.nodup_append]
    refine ⟨h i (List.mem_cons_self ..), slots_nd R hm L nd.2 (fun j hj => h j (List.mem_cons_of_mem _ hj)), fun a ha b hb e => ?_⟩
    subst e
    obtain ⟨l, hl, hal⟩ := List.mem_flatten.mp hb
    obtain ⟨j, hj, rfl⟩ := List.mem_map.mp hl
    have := R.dj i j a ha hal
    subst this
    exact nd.1 hj
theorem MU.nodup : ∀ {ks : List Bool} {vs : List V} {us : List T} {ls : List (List Addr)}, MU K ow H F ks vs us ls → ∀ l, l ∈ ls → l.Nodup
  | _, _, _, _, .nil, _, h => nomatch h
  | _, _, _, _, .ro m, l, h => MU.nodup m l h
  | _, _, _, _, .mu r m, l, h => by
    rcases List.mem_cons.mp h with rfl | h
    · exact r.nodup
    · exact MU.nodup m l h
end
section
variable {P : Program} {w : World} {K : PySem.W.Frag} {mg : Str → Option Value} {base : Heap}
theorem fn_mu {x qual : Str} {st : Stmt} {f : Addr} {fd : FuncData} {N ps : List Str} {k : Nat} {ks : List Bool} {body : List C → Out} (F : Fun K x qual st f fd) (S : FnScope N ps (defScope st)) (hl : ks.length = ps.length)
    (hbody : ∀ (cdv : Value) (A : Around) (outer : List Env) (s : Shared) (H : Hp) (E : XK) (G : GC), Room k (A.deeper (PyProof.Rows.envOfC qual (defScope st) s.heap.objs.size f cdv)) → G.w = some w →
      DSs (cxOf CX0 P w K mg base N qual (defScope st) f cdv A outer s H E).nox G .fz (defBody st) body) : FnOk P w K mg base CX0 (k + 1) f fd ps (spM K w ks (runM ks N.length body)) := by
  refine F.ok S (fun vs H Q E h => ?_) (fun cdv A outer s H vs Q E hr h => ?_)
  · obtain ⟨F0, us, ws, us', r, sub, m, _⟩ := h
    rw [m.len.1, hl]
  · obtain ⟨F0, us, ws, us', r, sub, m, nd, al, hg, q⟩ := h
    obtain ⟨t, pt, o⟩ := (hbody cdv A outer s H E ⟨H, F0, ws, some w⟩ hr rfl).ex
    refine ⟨t, pt, o _ H F0 _ _ _ (rel_startM (N := N) sub m nd al) ?_⟩
    unfold runM at hg
    have fin : ∀ (env' : List C) (σ' : L2.St) (H' F' : Hp) (fp' : Nat → List Addr) (v : V) (lr : List Addr), Rel K ⟨H, F0, ws, some w⟩ env' σ' H' F' fp' → New K ⟨H, F0, ws, some w⟩ H' F' fp' v r lr → collectM ks 0 0 env' = some us' → Q v H' := fun env' σ' H' F' fp' v lr R n hc => by
      obtain ⟨e1, e2⟩ := m.exit R 0 0 us' (fun k x e => by rw [Nat.zero_add]; exact e) hc
      have inF : ∀ b, b ∈ ((muSlots ks 0).map fp').flatten → ∃ i, b ∈ fp' i := fun b hb => by
        obtain ⟨l, hl, hb⟩ := List.mem_flatten.mp hb
        obtain ⟨i, _, rfl⟩ := List.mem_map.mp hl
        exact ⟨i, hb⟩
      refine q v H' F' _ lr { f := R.old, sub := R.sub, nw := R.new, keep := fun b o hb e => R.keep b o e hb, al := fun b hb => R.alive b (al b hb).2, mu := e1, sep := e2, own := fun b hb => ?_, nd := ?_, res := n.rep, new := fun b hb => ⟨(n.own b hb).2.2, (n.own b hb).1, (n.own b hb).2.1⟩ }
      · obtain ⟨i, hi⟩ := inF b hb
        exact ⟨(R.own i b hi).1, (R.own i b hi).2.1⟩
      · rw [List.nodup_append]
        refine ⟨slots_nd R e1 _ (muSlots_nd ks 0) (fun i hi => e1.nodup _ (List.mem_map.mpr ⟨i, hi, rfl⟩)), n.rep.nodup, fun a ha b hb e => ?_⟩
        subst e
        obtain ⟨i, hi⟩ := inF a ha
        exact n.dj a hb i hi
    unfold outM at hg
    split at hg
    · rename_i env' r' e
      rw [e]
      cases z : collectM ks 0 0 env' with
      | none => rw [z] at hg; cases hg
      | some us2 =>
        rw [z] at hg; cases hg
        exact fun v σ' H' F' fp' l R n => fin env' σ' H' F' fp' v l R n z
    · rename_i env' e
      rw [e]
      cases z : collectM ks 0 0 env' with
      | none => rw [z] at hg; cases hg
      | some us2 =>
        rw [z] at hg; cases hg
        exact fun σ' H' F' fp' R s => fin env' σ' H' F' fp' .non [] R (new_d .non) z
    · cases hg
theorem mu_ro {H F : Hp} : ∀ {n : Nat} {vs : List V} {us : List T} {ls : List (List Addr)}, MU K (some w) H F (List.replicate n false) vs us ls → us = [] ∧ ls = []
  | 0, _, _, _, h => by
    have h : MU K (some w) H F [] _ _ _ := h
    cases h; exact ⟨rfl, rfl⟩
  | n + 1, _, _, _, h => by
    rw [List.replicate_succ] at h
    cases h with
    | ro h => exact mu_ro h
mutual
theorem DF_off {F F' : Hp} (h : ∀ a o, F a = some o → F' a = some o ∨ ∃ vs, o = .lst vs) : ∀ (d : D) (v : V), noL d = true → DF K F v d → DF K F' v d
  | .none, _, _, r => by cases r; exact .non
  | .bool b, _, _, r => by cases r; exact .bl b
  | .int i, _, _, r => by cases r; exact .int i
  | .str x, _, _, r => by cases r; exact .str x
  | .list ds, _, n, _ => by cases n
  | .tuple ds, _, n, r => by
    cases r with
    | @tup a xs _ hs ha =>
      refine .tup ?_ (DFAll_off h ds _ n ha)
      rcases hs with (hs | ⟨o, hs⟩) | hs
      · rcases h _ _ hs with z | ⟨vs, z⟩
        · exact .inl (.inl z)
        · cases z
      · rcases h _ _ hs with z | ⟨vs, z⟩
        · exact .inl (.inr ⟨o, z⟩)
        · cases z
      · exact .inr hs
  | .dict _, _, _, r => by cases r
theorem DFAll_off {F F' : Hp} (h : ∀ a o, F a = some o → F' a = some o ∨ ∃ vs, o = .lst vs) : ∀ (ds : List D) (vs : List V), noLs ds = true → DFAll K F vs ds → DFAll K F' vs ds
  | [], _, _, r => by cases r; exact .nil
  | d :: ds, _, n, r => by
    unfold noLs at n
    rw [Bool.and_eq_true] at n
    cases r with
    | cons r1 r2 => exact .cons (DF_off h d _ n.1 r1) (DFAll_off h ds _ n.2 r2)
end
mutual
theorem OR_off {ow : Option World} {H F F' : Hp} (h : ∀ a o, F a = some o → F' a = some o ∨ ∃ vs, o = .lst vs) : ∀ (t : T) (v : V) (l : List Addr), noT t = true → OR K ow H F v t l → OR K ow H F' v t l
  | .d d, _, _, n, r => by
    cases r with
    | d r => exact .d (DF_off h _ _ n r)
  | .n s ts, _, _, n, r => by
    cases r with
    | n r1 r2 r3 =>
      cases s with
      | l => exact .n r1 (ORs_off h ts _ _ (by simpa [noT] using n) r2) r3
      | t =>
        refine .n ?_ (ORs_off h ts _ _ (by simpa [noT] using n) r2) r3
        rcases r1 with r1 | ⟨r0, r1⟩
        · exact .inl r1
        · refine .inr ⟨r0, ?_⟩
          rcases r1 with (hs | ⟨o, hs⟩) | hs
          · rcases h _ _ hs with z | ⟨vs, z⟩
            · exact .inl (.inl z)
            · cases z
          · rcases h _ _ hs with z | ⟨vs, z⟩
            · exact .inl (.inr ⟨o, z⟩)
            · cases z
          · exact .inr hs
      | k ks => exact .n r1 (ORs_off h ts _ _ (by simpa [noT] using n) r2) r3
      | q ks => simp [noT] at n
      | o c fs => exact .n r1 (ORs_off h ts _ _ (by simpa [noT] using n) r2) r3
      | x c fs => exact .n r1 (ORs_off h ts _ _ (by simpa [noT] using n) r2) r3
      | e fs => exact .n r1 (ORs_off h ts _ _ (by simpa [noT] using n) r2) r3
      | lf => simp [noT] at n
      | v => simp [noT] at n
      | kf ks =>
        refine .n ?_ (ORs_off h ts _ _ (by simpa [noT] using n) r2) r3
        obtain ⟨r0, rl, o, r1⟩ := r1
        refine ⟨r0, rl, o, ?_⟩
        rcases h _ _ r1 with z | ⟨vs, z⟩
        · exact z
        · cases z
theorem ORs_off {ow : Option World} {H F F' : Hp} (h : ∀ a o, F a = some o → F' a = some o ∨ ∃ vs, o = .lst vs) : ∀ (ts : List T) (vs : List V) (l : List Addr), noTs ts = true → ORs K ow H F vs ts l → ORs K ow H F' vs ts l
  | [], _, _, _, r => by cases r; exact .nil
  | t :: ts, _, _, n, r => by
    unfold noTs at n
    rw [Bool.and_eq_true] at n
    cases r with
    | cons r1 r2 => exact .cons (OR_off h t _ _ n.1 r1) (ORs_off h ts _ _ n.2 r2)
end
def frzL (H F : Hp) : Hp := fun a => match F a with
  | some o => some o
  | none => match H a with | some (.lst vs) => some (.lst vs) | _ => none
theorem frzL_sub {H F : Hp} (sub : Same F H) : Same F (frzL H F) ∧ Same (frzL H F) H ∧ ∀ a vs, H a = some (.lst vs) → frzL H F a = some (.lst vs) := by
  refine ⟨fun a o e => ?_, fun a o e => ?_, fun a vs e => ?_⟩
  · unfold frzL; rw [e]
  · unfold frzL at e
    cases q : F a with
    | some o' => rw [q] at e; cases e; exact sub _ _ q
    | none =>
      rw [q] at e
      cases z : H a with
      | none => rw [z] at e; cases e
      | some u => rw [z] at e; cases u <;> first | (cases e; rfl) | cases e
  · unfold frzL
    cases q : F a with
    | some o' => have := sub _ _ q; rw [e] at this; cases this; rfl
    | none => simp only [e]
theorem ro_slots {G : GC} {F1 H : Hp} (hk : G.kp = H) (sub : Same F1 H) : ∀ {vs : List V} {us : List T}, W.EachIs (fun v u => ∃ l, OR K G.w H F1 v u l) vs us → ∀ (i : Nat) (c : C), (us.map (roC true))[i]? = some c → SlotRep K G H (frzL H F1) ((vs.map some)[i]?.join) c []
  | _, _, .nil, i, c, e => by simp at e
  | v :: vs, u :: us, .cons ⟨l, r⟩ t, 0, c, e => by
    simp at e; subst e
    obtain ⟨f, _, fl⟩ := frzL_sub sub
    cases u with
    | d x =>
      cases r with
      | d r => exact ⟨rfl, v, rfl, DF_mono f _ _ r⟩
    | n s ts => exact ⟨rfl, v, l, rfl, by rw [hk]; exact OR_mono f _ _ _ (fun _ _ _ h => h) r, fun _ a ws ha hw => fl a ws (by rw [hk] at hw; exact hw)⟩
  | v :: vs, u :: us, .cons _ t, i + 1, c, e => by simpa using ro_slots hk sub t i c (by simpa using e)
theorem each_len {R : V → T → Prop} : ∀ {vs : List V} {us : List T}, W.EachIs R vs us → vs.length = us.length
  | _, _, .nil => rfl
  | _, _, .cons _ t => by rw [List.length_cons, List.length_cons, each_len t]
theorem rel_startT {N : List Str} {vs : List V} {us : List T} {H F0 : Hp} (sub : Same F0 H) (ro : W.EachIs (fun v u => ∃ l, OR K (some w) H F0 v u l) vs us) :
    Rel K ⟨H, frzL H F0, [], some w⟩ (us.map (roC true) ++ List.replicate (N.length - us.length) .und) (L2.start N vs) H (frzL H F0) (fun _ => []) := by
  have hk : GC.kp ⟨H, frzL H F0, [], some w⟩ = H := by
    funext a
    unfold GC.kp
    exact if_neg List.not_mem_nil
  have sl := ro_slots (G := ⟨H, frzL H F0, [], some w⟩) hk sub ro
  obtain ⟨_, s2, _⟩ := frzL_sub sub
  have hl := each_len ro
  exact {
    len := by
      unfold L2.start
      rw [List.length_append, List.length_append, List.length_replicate, List.length_replicate, List.length_map, List.length_map, hl]
    slot := fun i c e => by
      by_cases hi : i < (us.map (roC true)).length
      · rw [List.getElem?_append_left hi] at e
        unfold L2.start
        rw [List.getElem?_append_left (by rw [List.length_map] at hi ⊢; omega)]
        exact sl i c e
      · rw [List.getElem?_append_right (by omega), List.getElem?_replicate] at e
        split at e
        · cases e; rfl
        · cases e
    dj := fun _ _ _ h => nomatch h
    own := fun _ _ h => nomatch h
    sub := s2
    new := fun _ _ e => .inl e
    old := Same.refl _
    keep := fun _ _ e _ => e
    alive := fun _ e => e }
def unF (H F0 F' : Hp) : Hp := fun a => match F0 a with
  | some o => some o
  | none => match H a with | some (.lst _) => none | _ => F' a
theorem fn_ro {x qual : Str} {st : Stmt} {f : Addr} {fd : FuncData} {N ps : List Str} {k : Nat} {body : List C → Out} (F : Fun K x qual st f fd) (S : FnScope N ps (defScope st))
    (hbody : ∀ (cdv : Value) (A : Around) (outer : List Env) (s : Shared) (H : Hp) (E : XK) (G : GC), Room k (A.deeper (PyProof.Rows.envOfC qual (defScope st) s.heap.objs.size f cdv)) → G.w = some w →
      DSs (cxOf CX0 P w K mg base N qual (defScope st) f cdv A outer s H E).nox G .fz (defBody st) body) : FnOk P w K mg base CX0 (k + 1) f fd ps (spT K w ps.length (runT N.length body)) := by
  refine F.ok S (fun vs H Q E h => ?_) (fun cdv A outer s H vs Q E hr h => ?_)
  · obtain ⟨F0, us, r, sub, hl, _⟩ := h
    exact hl
  · obtain ⟨F0, us, r, sub, hl, ro, hg, q⟩ := h
    obtain ⟨t, pt, o⟩ := (hbody cdv A outer s H E ⟨H, frzL H F0, [], some w⟩ hr rfl).ex
    refine ⟨t, pt, o _ H _ _ _ _ (rel_startT (N := N) sub ro) ?_⟩
    obtain ⟨s1, s2, s3⟩ := frzL_sub sub
    have fin : ∀ (env' : List C) (σ' : L2.St) (H' F' : Hp) (fp' : Nat → List Addr) (v : V) (l : List Addr), Rel K ⟨H, frzL H F0, [], some w⟩ env' σ' H' F' fp' → New K ⟨H, frzL H F0, [], some w⟩ H' F' fp' v r l → noT r = true → Q v H' := fun env' σ' H' F' fp' v l R n hn => by
      have k1 : ∀ a o, F0 a = some o → F' a = some o := fun a o e => R.old _ _ (s1 _ _ e)
      have off : ∀ a o, F' a = some o → unF H F0 F' a = some o ∨ ∃ vs, o = .lst vs := fun a o e => by
        unfold unF
        cases q : F0 a with
        | some o' => left; rw [k1 a o' q] at e; exact e
        | none =>
          cases z : H a with
          | none => left; exact e
          | some u =>
            cases u with
            | lst ws =>
              right
              have := R.old _ _ (s3 a ws z)
              rw [e] at this; cases this
              exact ⟨ws, rfl⟩
            | _ => left; exact e
      refine q v H' (unF H F0 F') l ⟨fun b o e => R.keep b o e List.not_mem_nil, fun a o e => ?_, fun a o e => ?_, fun a o e => ?_⟩ (OR_off off _ _ _ hn n.rep) (fun b hb => ?_)
      · unfold unF; rw [e]
      · unfold unF at e
        cases q : F0 a with
        | some o' => rw [q] at e; cases e; exact R.sub _ _ (k1 _ _ q)
        | none =>
          rw [q] at e
          cases z : H a with
          | none => rw [z] at e; exact R.sub _ _ e
          | some u => rw [z] at e; cases u <;> first | exact R.sub _ _ e | cases e
      · unfold unF at e
        cases q : F0 a with
        | some o' => rw [q] at e; exact .inl e
        | none =>
          rw [q] at e
          right
          cases z : H a with
          | none => rfl
          | some u =>
            rw [z] at e
            have z2 : ∀ (e : F' a = some o), False ∨ ∃ ws, u = .lst ws := fun e => by
              rcases R.new a o e with y | y
              · have y : frzL H F0 a = some o := y
                unfold frzL at y
                rw [q, z] at y
                cases u <;> first | exact .inr ⟨_, rfl⟩ | cases y
              · have y : H a = none := y
                rw [z] at y; cases y
            cases u with
            | lst ws => cases e
            | _ =>
              rcases z2 e with y | ⟨ws, y⟩
              · exact y.elim
              · cases y
      · obtain ⟨n1, n2, n3⟩ := n.own b hb
        refine ⟨n3, ?_, n2⟩
        unfold unF
        cases q : F0 b with
        | some o' => rw [k1 b o' q] at n1; cases n1
        | none =>
          have n3 : H b = none := n3
          rw [n3]; exact n1
    unfold runT at hg
    unfold outT at hg
    split at hg
    · rename_i env' r' e
      rw [e]
      split at hg <;> cases hg
      rename_i hn
      exact fun v σ' H' F' fp' l R n => fin env' σ' H' F' fp' v l R n hn
    · rename_i env' e
      rw [e]
      cases hg
      exact fun σ' H' F' fp' R s => fin env' σ' H' F' fp' .non [] R (new_d .non) rfl
    · cases hg
end
end DL
namespace DL
open PySem PySem.Spec L2
structure CalT (P : Program) (w : World) (K : PySem.W.Frag) (mg : Str → Option Value) (base : Heap) (k : Nat) (x : Str) (n : Nat) (g : List T → Option T) : Prop where
  ex : ∃ (f : Addr) (fd : FuncData) (ps : List Str), FnOk P w K mg base CX0 k f fd ps (spT K w n g) ∧ mg x = some (.ref f) ∧ PySem.W.keepIn K (.ref f) = true ∧ Binds K fd ps []
structure MetT (P : Program) (w : World) (K : PySem.W.Frag) (mg : Str → Option Value) (base : Heap) (k : Nat) (c m : Str) (n : Nat) (g : List T → Option T) : Prop where
  ex : ∃ (C f : Addr) (fd : FuncData) (ps : List Str), PySem.W.nsIn K mainGlobals c = some (some (.ref C)) ∧ Cls K C ∧ Meth K C m f ∧ FnOk P w K mg base CX0 k f fd ps (spT K w n g) ∧ Binds K fd ps []
structure MetM (P : Program) (w : World) (K : PySem.W.Frag) (mg : Str → Option Value) (base : Heap) (k : Nat) (c m : Str) (n : Nat) (g : List T → Option (List T × T)) : Prop where
  ex : ∃ (C f : Addr) (fd : FuncData) (ps : List Str), PySem.W.nsIn K mainGlobals c = some (some (.ref C)) ∧ Cls K C ∧ Meth K C m f ∧ FnOk P w K mg base CX0 k f fd ps (spM K w (true :: List.replicate n false) g) ∧ Binds K fd ps []
structure MakM (P : Program) (w : World) (K : PySem.W.Frag) (mg : Str → Option Value) (base : Heap) (k : Nat) (c : Str) (n : Nat) (g : List T → Option (List T × T)) : Prop where
  ex : ∃ (C f : Addr) (fd : FuncData) (ps : List Str), PySem.W.nsIn K mainGlobals c = some (some (.ref C)) ∧ mg c = some (.ref C) ∧ Mk K C f ∧ FnOk P w K mg base CX0 k f fd ps (spM K w (true :: List.replicate n false) g) ∧ Binds K fd ps []
section
variable {K : PySem.W.Frag} {w : World} {G : GC} {env : List C} {σ : L2.St} {H F H' F' : Hp} {fp : Nat → List Addr}
theorem mu_one {n : Nat} {a : Addr} {vs : List V} {us : List T} {ls : List (List Addr)} (h : MU K (some w) H F (true :: List.replicate n false) (.ref a :: vs) us ls) : ∃ u l, us = [u] ∧ ls = [l] ∧ OR K (some w) H F (.ref a) u l := by
  cases h with
  | mu r h =>
    obtain ⟨rfl, rfl⟩ := mu_ro h
    exact ⟨_, _, rfl, rfl, r⟩
theorem Rel.called {ip : IP} {u r : T} {a : Addr} {lu lr : List Addr} {n : Nat} {vs : List V} {us' : List T} {ls' : List (List Addr)} {v : V} (hw : G.w = some w) (R : Rel K G env σ H F fp) (P : Place K G env σ H F fp ip u (.ref a) lu)
    (p : PostM K w (true :: List.replicate n false) (.ref a :: vs) H F [(a, lu)] H' F' us' ls' v r lr) : ∃ u' fp', us' = [u'] ∧ Rel K G (putAt env ip u') σ H' F' fp' ∧ New K G H' F' fp' v r lr := by
  obtain ⟨u', l', rfl, rfl, rep⟩ := mu_one p.mu
  have hwa : wAll [(a, lu)] = lu := by simp [wAll]
  have sep : ∀ b, b ∈ l' → b ∈ lu ∨ H b = none := by
    cases p.sep with
    | cons h _ => exact h
  have own : ∀ b, b ∈ l' → F' b = none ∧ H' b ≠ none := fun b hb => p.own b (by simpa using hb)
  have nd : (l' ++ lr).Nodup := by simpa using p.nd
  have fr : ∀ b, H b = none → (∀ j, b ∉ fp j) := fun b hb j hj => (R.own j b hj).2.1 hb
  obtain ⟨fp', R', q1, q2⟩ := R.write2 P (H' := H') (F' := F') (u' := u') (lu' := l') p.f p.sub p.nw (fun b o hb e => p.keep b o (by rw [hwa]; exact hb) e) (fun b hb => p.al b (by rw [hwa]; exact hb)) (by rw [hw]; exact rep)
    (fun b hb => ⟨(sep b hb).imp_right fun z => ⟨fr b z, R.h0 z⟩, own b hb⟩)
  refine ⟨u', fp', rfl, R', ⟨by rw [hw]; exact p.res, fun b hb => ⟨(p.new b hb).2.1, (p.new b hb).2.2, R.h0 (p.new b hb).1⟩, fun b hb j hj => ?_⟩⟩
  have hbn := (p.new b hb).1
  by_cases hji : j = ip.1
  · subst hji
    rcases q2 b hj with z | z
    · exact fr b hbn _ z
    · rw [List.nodup_append] at nd
      exact nd.2.2 b z b hb rfl
  · rw [q1 j hji] at hj
    exact fr b hbn j hj
end
section
variable {X : Cx} {G : GC} {kr k k2 : RK} {e ei ek o : Expr} {es : List Expr} {f fi fk fe : List C → Option D} {r : List C → Option T} {rs : List C → Option (List T)} {gp : List C → Option IP} {pos p1 p2 p3 pos' p apos : Pos} {n lv : Nat} {c m x : Str}
def nCall (g : List T → Option T) (rs : List C → Option (List T)) : List C → Option T := fun env => (rs env).bind g
theorem dn_callT {g : List T → Option T} (cal : CalT X.prog X.w X.K X.mg X.base lv x n g) (hw : G.w = some X.w) (hr : Room lv X.A) (hg : Gl X x) (h : DRs X G (e :: es) rs) (hn : (e :: es).length = n := by rfl) (hdb : (x == ("__debug__" : Str)) = false := by decide)
    (hl : ∀ env us, rs env = some us → us.length = n) (he : starEach (e :: es) X.env = (false, eval e X.env) :: starEach es X.env := by rfl) (hpl : (backTo pos (starEach es X.env)).any (·.1) = false := by rfl) : DN X G (.Call (.Name x p) (e :: es) [] pos) (nCall g rs) := by
  obtain ⟨fa, fd, ps, F, hm, kp, b⟩ := cal.ex
  obtain ⟨t, pt, oa⟩ := h.ex
  refine ⟨_, pe_call F hr hg hm kp b .nil pass0 pt hdb he hpl, fun σ H F fp env u Q R hf q => ?_⟩
  unfold nCall at hf
  cases z : rs env with
  | none => rw [z] at hf; cases hf
  | some us =>
    rw [z] at hf
    refine oa σ H F fp env us _ R z fun vs H1 F1 E1 r1 => ?_
    rw [List.append_nil]
    rw [hw] at r1
    exact ⟨F1, us, u, E1.sub, by rw [each_len r1]; exact hl _ _ z, r1, hf, fun v H' F' l E ro fr => q v H' F' l (E1.trans E) (by rw [hw]; exact ro) (fr.back E1.h)⟩
def nMeth (c m : Str) (g : List T → Option T) (r : List C → Option T) (rs : List C → Option (List T)) : List C → Option T := fun env => match r env with
  | some (.n (.o c' fs) ts) => if c' = c ∧ fIx m fs = none then (match rs env with | some us => g (.n (.o c fs) ts :: us) | none => none) else none
  | _ => none
def xMeth (c m : Str) (g : List T → Option (List T × T)) (gp : List C → Option IP) (rs : List C → Option (List T)) : List C → Option (List C × T) := fun env => match gp env with
  | some ip => (match nodeAt env ip with
    | some (.n (.o c' fs) ts) => if c' = c ∧ fIx m fs = none then (match rs env with
      | some us => (match flatT us, g (.n (.o c fs) ts :: us) with
        | some _, some ([u'], y) => some (putAt env ip u', y)
        | _, _ => none)
      | none => none) else none
    | _ => none)
  | none => none
def xMethX (c m : Str) (g : List T → Option (List T × T)) (i : Nat) (gx : List C → Option (List C × T)) : List C → Option (List C × T) := fun env => match nodeAt env (i, []), gx env with
  | some (.n (.o c0 fs0) _), some (env1, .d y) => if c0 = c ∧ fIx m fs0 = none then (match nodeAt env1 (i, []) with
    | some (.n (.o c' fs) ts) => (match g (.n (.o c' fs) ts :: [.d y]) with
        | some ([u'], z) => some (putAt env1 (i, []) u', z)
        | _ => none)
    | _ => none) else none
  | _, _ => none
def nMake (c : Str) (g : List T → Option (List T × T)) (rs : List C → Option (List T)) : List C → Option T := fun env => match rs env with
  | some us => (match g (.n (.o c []) [] :: us) with | some ([u'], .d .none) => some u' | _ => none)
  | none => none
end
end DL
namespace DL
open PySem PySem.Spec L2
section
variable {X : Cx} {G : GC} {tg iter e e2 elt : Expr} {k k2 kr : RK} {f f2 : List C → Option D} {fn : List C → Option T} {p pos : Pos} {ft : List C → Option Bool}
def tNn (K : PySem.W.Frag) (G : GC) (f : List C → Option T) : TE := fun σ H Q => ∃ (F : Hp) (fp : Nat → List Addr) (env : List C) (u : T), Rel K G env σ H F fp ∧ f env = some u ∧ ∀ v H' F' l, Ext H F H' F' → OR K G.w H' F' v u l → Fresh H H' F' l → Q v H'
theorem DN.canon (h : DN X G e fn) : PE X e (tNn X.K G fn) := by
  obtain ⟨t, p, o⟩ := h.ex
  exact ⟨fun pins s σ H Q I ⟨F, fp, env, d, R, hf, q⟩ => p.run pins s σ H Q I (o σ H F fp env d Q R hf q)⟩
def lcT (g : D → List C → Option (List C)) (tt : List C → Option Bool) (fe : List C → Option T) (env : List C) : List D → Option (List T)
  | [] => some []
  | d :: ds => (g d env).bind fun e => (tt e).bind fun b => if b = true then (fe e).bind fun y => (lcT g tt fe env ds).map (y :: ·) else lcT g tt fe env ds
def nLc (vs : List Nat) (fi : List C → Option (List D)) (g : D → List C → Option (List C)) (tt : List C → Option Bool) (fe : List C → Option T) : List C → Option T := fun env => (fi env).bind fun items => (lcT g tt fe (wipeE env vs) items).map (.n .l)
def sSetN (i : Nat) (f : List C → Option T) : List C → Out := fun env => match f env with | some u => .nx (env.set i (toC u)) | none => .err
theorem OR.alive {K : PySem.W.Frag} {ow : Option World} {H F : Hp} : ∀ (t : T) {v : V} {l : List Addr}, OR K ow H F v t l → ∀ b, b ∈ l → H b ≠ none := by
  intro t
  exact OR.rec (motive_1 := fun v t l _ => ∀ b, b ∈ l → H b ≠ none) (motive_2 := fun vs ts l _ => ∀ b, b ∈ l → H b ≠ none) (fun _ b hb => nomatch hb) (fun {s a vs ts own l} nr _ _ ih b hb => by
    rcases List.mem_append.mp hb with z | z
    · cases s with
      | l => obtain ⟨rfl, h⟩ := nr; rw [List.mem_singleton.mp z, h]; intro y; cases y
      | t =>
        rcases nr with ⟨rfl, h⟩ | ⟨rfl, _⟩
        · rw [List.mem_singleton.mp z, h]; intro y; cases y
        · cases z
      | k ks => obtain ⟨rfl, _, h⟩ := nr; rw [List.mem_singleton.mp z, h]; intro y; cases y
      | q ks => obtain ⟨rfl, _, _, _, h, _⟩ := nr; rw [List.mem_singleton.mp z, h]; intro y; cases y
      | o c fs =>
        obtain ⟨_, C, dx, rfl, _, h, h2⟩ := nr
        rcases List.mem_cons.mp z with rfl | z
        · rw [h]; intro y; cases y
        · rw [List.mem_singleton.mp z, h2]; intro y; cases y
      | e fs => obtain ⟨rfl, _, h⟩ := nr; rw [List.mem_singleton.mp z, h]; intro y; cases y
      | lf => obtain ⟨rfl, _⟩ := nr; cases z
      | v => obtain ⟨rfl, _⟩ := nr; cases z
      | kf _ => obtain ⟨rfl, _⟩ := nr; cases z
      | x c fs =>
        obtain ⟨_, C, _, h⟩ := nr
        rcases h with ⟨rfl, _, h⟩ | ⟨dx, rfl, h, h2⟩
        · rw [List.mem_singleton.mp z, h]; intro y; cases y
        · rcases List.mem_cons.mp z with rfl | z
          · rw [h]; intro y; cases y
          · rw [List.mem_singleton.mp z, h2]; intro y; cases y
    · exact ih b z) (fun b hb => nomatch hb) (fun _ _ ih1 ih2 b hb => by
    rcases List.mem_append.mp hb with z | z
    · exact ih1 b z
    · exact ih2 b z)
mutual
theorem view_fz {K : PySem.W.Frag} {ow : Option World} {H F F1 : Hp} (f : Same F F1) : ∀ (t : T) (v : V) (d : D) (l : List Addr), (∀ b o, b ∈ l → H b = some o → F1 b = some o) → viewT t = some d → OR K ow H F v t l → DF K F1 v d
  | .d x, v, d, l, _, h, r => by
    unfold viewT at h; cases h
    cases r with
    | d r => exact DF_mono f _ _ r
  | .n s ts, v, d, l, k, h, r => by
    cases r with
    | n r1 r2 r3 =>
      cases s with
      | l =>
        unfold viewT at h
        cases z : viewTs ts with
        | none => rw [z] at h; cases h
        | some ds =>
          rw [z] at h; cases h
          obtain ⟨rfl, r1⟩ := r1
          exact .lst (k _ _ (by simp) r1) (view_fzs f ts _ _ _ (fun b o hb => k b o (by simp [hb])) z r2)
      | t =>
        unfold viewT at h
        cases z : viewTs ts with
        | none => rw [z] at h; cases h
        | some ds =>
          rw [z] at h; cases h
          refine .tup ?_ (view_fzs f ts _ _ _ (fun b o hb => k b o (by simp [hb])) z r2)
          rcases r1 with ⟨rfl, r1⟩ | ⟨rfl, r1⟩
          · exact .inl (.inl (k _ _ (by simp) r1))
          · exact Same.seqT f r1
      | k ks => unfold viewT at h; cases h
      | q ks => unfold viewT at h; cases h
      | o c fs => unfold viewT at h; cases h
      | x c fs => unfold viewT at h; cases h
      | e fs => unfold viewT at h; cases h
      | lf => unfold viewT at h; cases h
      | kf ks => unfold viewT at h; cases h
      | v => unfold viewT at h; cases h
theorem view_fzs {K : PySem.W.Frag} {ow : Option World} {H F F1 : Hp} (f : Same F F1) : ∀ (ts : List T) (vs : List V) (ds : List D) (l : List Addr), (∀ b o, b ∈ l → H b = some o → F1 b = some o) → viewTs ts = some ds → ORs K ow H F vs ts l → DFAll K F1 vs ds
  | [], vs, ds, l, _, h, r => by unfold viewTs at h; cases h; cases r; exact .nil
  | t :: ts, vs, ds, l, k, h, r => by
    cases r with
    | cons r1 r2 =>
      unfold viewTs at h
      cases z : viewT t with
      | none => rw [z] at h; cases h
      | some x =>
        cases z2 : viewTs ts with
        | none => rw [z, z2] at h; cases h
        | some xs =>
          rw [z, z2] at h; cases h
          exact .cons (view_fz f t _ _ _ (fun b o hb => k b o (by simp [hb])) z r1) (view_fzs f ts _ _ _ (fun b o hb => k b o (by simp [hb])) z2 r2)
end
def GC.frz (G : GC) (F1 : Hp) : GC := ⟨G.H0, F1, G.Ws, G.w⟩
def putFz (i : Nat) (env : List C) : Option (List C) := match env[i]? with
  | some (.own _ t) => (viewT t).map fun d => env.set i (.val d)
  | some (.lst ds) => some (env.set i (.val (.list ds)))
  | some (.val _) => some env
  | _ => none
def eFv (i : Nat) (f : List C → Option D) : List C → Option D := fun env => match putFz i env with | some env' => flatO (f env') | none => none
def tFv (i : Nat) (ft : List C → Option Bool) : List C → Option Bool := fun env => (putFz i env).bind ft
structure DRo (X : Cx) (G : GC) (e : Expr) (r : List C → Option T) : Prop where
  ex : ∃ t, PE X e t ∧ ∀ (σ : L2.St) (H F : Hp) (fp : Nat → List Addr) (env : List C) (u : T) (Q : VK), Rel X.K G env σ H F fp → r env = some u →
    (∀ v l H' F', Ext H F H' F' → OR X.K G.w G.kp F' v u l → (∀ a vs, a ∈ l → G.kp a = some (.lst vs) → F' a = some (.lst vs)) → Q v H') → t σ H Q
def roN (i : Nat) : List C → Option T := fun env => match env[i]? with | some (.ro true t) => some t | _ => none
def eOw (fn : List C → Option T) : List C → Option D := fun env => match fn env with | some (.n .l ts) => (flatT ts).map .list | _ => none
theorem d_now (h : DN X G e fn) : DE X G .ow e (eOw fn) := by
  obtain ⟨t, pt, o⟩ := h.ex
  refine ⟨t, pt, fun σ H F fp env d Q R hf q => ?_⟩
  unfold eOw at hf
  split at hf
  · rename_i ts z
    cases z2 : flatT ts with
    | none => rw [z2] at hf; cases hf
    | some ds =>
      rw [z2] at hf; cases hf
      refine o σ H F fp env _ Q R z fun v H' F' l E r fr => ?_
      cases r with
      | @n _ a vs _ own l0 r1 r2 r3 =>
        obtain ⟨rfl, r1⟩ := r1
        obtain ⟨g1, g2, g3⟩ := fr a (by simp)
        exact q _ H' F' E ⟨a, vs, ds, rfl, rfl, g1, r1, g2, (flatT_rep z2 r2).1⟩
  · cases hf
end
end DL
namespace DL
open PySem PySem.Spec L2
section
variable {K : PySem.W.Frag} {w : World} {G : GC} {env : List C} {σ : L2.St} {H F H' F' : Hp} {fp : Nat → List Addr} {X : Cx}
def OneOk (K : PySem.W.Frag) (H : Hp) : Prop := (∀ a xs ys, SqT K H a xs → SqT K H a ys → xs = ys) ∧ ∀ a xs ys, H a = some (.lst xs) → SqT K H a ys → False
theorem pe_one {e : Expr} {t : TE} (h : PE X e t) : PE X e (fun σ H Q => t σ H (fun v H' => OneOk X.K H' → Q v H')) := ⟨fun pins s σ H Q I hq => thn (h.run pins s σ H _ I hq) fun u s' ⟨v, H', I', rv, q⟩ => ⟨v, H', I', rv, q ⟨fun a xs ys h1 h2 => I'.tuple_inj h1 h2, fun a xs ys h1 h2 => by
  obtain ⟨its, r, ⟨o, n, e, hc, _, d⟩, _⟩ := I'.list (SqL.of h1)
  obtain ⟨its', r', ⟨o', e', hc', n', d'⟩, _⟩ := I'.tuple h2
  rw [e] at e'; cases e'
  rw [hc] at hc'
  injection hc' with z
  exact absurd z (by decide)⟩⟩⟩
theorem lst_tup {a : Addr} {xs ys : List V} (ok : OneOk K H) (sub : Same F H) (h1 : F a = some (.lst xs)) (h2 : SqT K F a ys) : False := ok.2 a xs ys (sub _ _ h1) (Same.seqT sub h2)
mutual
theorem DF_one (ok : OneOk K H) (sub : Same F H) : ∀ (d e : D) (v : V), DF K F v d → DF K F v e → d = e
  | .none, e, v, h, h' => by cases h; cases h'; rfl
  | .bool b, e, v, h, h' => by cases h; cases h'; rfl
  | .int i, e, v, h, h' => by cases h; cases h'; rfl
  | .str x, e, v, h, h' => by cases h; cases h'; rfl
  | .list ds, e, v, h, h' => by
    cases h with
    | @lst a xs _ h1 h2 =>
      cases h' with
      | @lst _ ys es g1 g2 =>
        rw [h1] at g1; cases g1
        rw [DFAll_one ok sub ds es xs h2 g2]
      | @tup _ ys es g1 g2 => exact (lst_tup ok sub h1 g1).elim
  | .tuple ds, e, v, h, h' => by
    cases h with
    | @tup a xs _ h1 h2 =>
      cases h' with
      | @lst _ ys es g1 g2 => exact (lst_tup ok sub g1 h1).elim
      | @tup _ ys es g1 g2 =>
        have := ok.1 a xs ys (Same.seqT sub h1) (Same.seqT sub g1)
        subst this
        rw [DFAll_one ok sub ds es xs h2 g2]
  | .dict _, _, _, h, _ => by cases h
theorem DFAll_one (ok : OneOk K H) (sub : Same F H) : ∀ (ds es : List D) (vs : List V), DFAll K F vs ds → DFAll K F vs es → ds = es
  | [], es, vs, h, h' => by cases h; cases h'; rfl
  | d :: ds, es, vs, h, h' => by
    cases h with
    | cons h1 h2 =>
      cases h' with
      | cons g1 g2 => rw [DF_one ok sub d _ _ h1 g1, DFAll_one ok sub ds _ _ h2 g2]
end
open Classical in
noncomputable def oneL (F : Hp) (b : Addr) : Hp := fun a => match F a with
  | some (HO.lst vs) => if a = b then some (HO.lst vs) else none
  | o => o
open Classical in
noncomputable def nCallF (g : List D → Option D) (fs : List C → Option (List D)) : List C → Option T := fun env => match fs env with
  | some [.list as, .int n] => (match g [.list as, .int n] with
    | some (.tuple [.str s, .list es]) => if noLs as = true ∧ noLs es = true then (if as = es then (if es = [] then some (.n .t [.d (.str s), .d (.list [])]) else none) else some (.n .t [.d (.str s), .n .l (es.map .d)])) else none
    | _ => none)
  | _ => none
def gNotB : D → D → Option D | .bool a, .bool b => some (.bool (!decide (a = b))) | _, _ => none
end
end DL
namespace DL
open PySem PySem.Spec L2
inductive MAs (K : PySem.W.Frag) (env : List C) (σ : L2.St) (F : Hp) : List Bool → List Nat → List V → List T → Prop
  | nil : MAs K env σ F [] [] [] []
  | ro {v : V} {d : D} {ks : List Bool} {sl : List Nat} {vs : List V} {us : List T} : DF K F v d → MAs K env σ F ks sl vs us → MAs K env σ F (false :: ks) sl (v :: vs) (.d d :: us)
  | mu {i : Nat} {m : Option Nat} {s : Shp} {ts : List T} {v : V} {ks : List Bool} {sl : List Nat} {vs : List V} {us : List T} : env[i]? = some (.own m (.n s ts)) → σ[i]? = some (some v) → MAs K env σ F ks sl vs us → MAs K env σ F (true :: ks) (i :: sl) (v :: vs) (.n s ts :: us)
def putsN : List Nat → List T → List C → List C
  | i :: sl, u :: us, env => putsN sl us (putAt env (i, []) u)
  | _, _, env => env
def fpN : List Nat → List (List Addr) → (Nat → List Addr) → Nat → List Addr
  | i :: sl, l :: ls, fp => fpN sl ls (fset fp i l)
  | _, _, fp => fp
section
variable {K : PySem.W.Frag} {w : World} {G : GC} {env : List C} {σ : L2.St} {H F H' F' : Hp} {fp : Nat → List Addr} {ks : List Bool} {sl : List Nat} {vs : List V} {us us' : List T} {ls' : List (List Addr)} {ws : List (Addr × List Addr)}
theorem MAs.mono (f : Same F F') (h : MAs K env σ F ks sl vs us) : MAs K env σ F' ks sl vs us := by
  induction h with
  | nil => exact .nil
  | ro h _ ih => exact .ro (DF_mono f _ _ h) ih
  | mu h1 h2 _ ih => exact .mu h1 h2 ih
theorem MAs.ma (hw : G.w = some w) (R : Rel K G env σ H F fp) (Kp : Hp) (h : MAs K env σ F ks sl vs us) : ∃ ws, MA K (some w) Kp H F ks vs us ws ∧ ws.map (·.2) = sl.map fp := by
  induction h with
  | nil => exact ⟨[], .nil, rfl⟩
  | ro h _ ih =>
    obtain ⟨ws, h1, h2⟩ := ih
    exact ⟨ws, .ro (.d h) h1, h2⟩
  | @mu i m s ts v ks sl vs us e1 e2 _ ih =>
    obtain ⟨ws, h1, h2⟩ := ih
    obtain ⟨v', s1, r, _⟩ := slot_own R e1
    rw [e2] at s1; cases s1
    rw [hw] at r
    generalize hl : fp i = l at r
    cases r with
    | @n _ a vs' _ own l0 r1 r2 r3 =>
      refine ⟨(a, own ++ l0) :: ws, .mu (.n r1 r2 r3) h1, ?_⟩
      rw [List.map_cons, List.map_cons, h2, hl]
theorem MAs.slots (R : Rel K G env σ H F fp) (h : MAs K env σ F ks sl vs us) (nd : sl.Nodup) : ((sl.map fp).flatten).Nodup := by
  induction h with
  | nil => exact List.nodup_nil
  | ro _ _ ih => exact ih nd
  | @mu i m s ts v ks sl vs us e1 e2 _ ih =>
    rw [List.nodup_cons] at nd
    obtain ⟨v', s1, r, _⟩ := slot_own R e1
    rw [List.map_cons, List.flatten_cons, List.nodup_append]
    refine ⟨r.nodup, ih nd.2, fun b hb c hc z => ?_⟩
    subst z
    obtain ⟨l, hl, hc⟩ := List.mem_flatten.mp hc
    obtain ⟨j, hj, rfl⟩ := List.mem_map.mp hl
    exact nd.1 (R.dj i j b hb hc ▸ hj)
theorem wAll_map (ws : List (Addr × List Addr)) : wAll ws = (ws.map (·.2)).flatten := by unfold wAll; rw [List.flatMap_def]
theorem putAt_ne {i j : Nat} {u : T} (h : j ≠ i) : (putAt env (i, []) u)[j]? = env[j]? := by
  unfold putAt
  split
  · rw [List.getElem?_set_ne (Ne.symm h)]
  · rfl
theorem putAt_len {ip : IP} {u : T} : (putAt env ip u).length = env.length := by
  unfold putAt
  split
  · rw [List.length_set]
  · rfl
theorem putsN_ne : ∀ {sl : List Nat} {us : List T} {env : List C} {j : Nat}, j ∉ sl → (putsN sl us env)[j]? = env[j]?
  | [], us, env, j, _ => by unfold putsN; rfl
  | i :: sl, [], env, j, _ => by unfold putsN; rfl
  | i :: sl, u :: us, env, j, h => by
    unfold putsN
    exact (putsN_ne fun z => h (List.mem_cons_of_mem _ z)).trans (putAt_ne fun z : j = i => h (z ▸ List.mem_cons_self))
theorem putsN_len : ∀ {sl : List Nat} {us : List T} {env : List C}, (putsN sl us env).length = env.length
  | [], us, env => by unfold putsN; rfl
  | i :: sl, [], env => by unfold putsN; rfl
  | i :: sl, u :: us, env => by
    unfold putsN
    rw [putsN_len, putAt_len]
theorem fpN_ne : ∀ {sl : List Nat} {ls : List (List Addr)} {fp : Nat → List Addr} {j : Nat}, j ∉ sl → fpN sl ls fp j = fp j
  | [], ls, fp, j, _ => by unfold fpN; rfl
  | i :: sl, [], fp, j, _ => by unfold fpN; rfl
  | i :: sl, l :: ls, fp, j, h => by
    unfold fpN
    exact (fpN_ne fun z => h (List.mem_cons_of_mem _ z)).trans (fset_ne fun z : j = i => h (z ▸ List.mem_cons_self))
theorem fpN_mem : ∀ {sl : List Nat} {ls : List (List Addr)} {fp : Nat → List Addr} {j : Nat}, sl.Nodup → sl.length = ls.length → j ∈ sl → fpN sl ls fp j ∈ ls
  | [], ls, fp, j, _, _, h => nomatch h
  | i :: sl, [], fp, j, _, e, _ => nomatch e
  | i :: sl, l :: ls, fp, j, nd, e, h => by
    unfold fpN
    rw [List.nodup_cons] at nd
    by_cases hj : j ∈ sl
    · exact List.mem_cons_of_mem _ (fpN_mem nd.2 (by simpa using e) hj)
    · have : j = i := (List.mem_cons.mp h).resolve_right hj
      subst this
      rw [fpN_ne hj, fset_at]; exact List.mem_cons_self
theorem fpN_dj : ∀ {sl : List Nat} {ls : List (List Addr)} {fp : Nat → List Addr} {j k : Nat} {b : Addr}, sl.Nodup → sl.length = ls.length → ls.flatten.Nodup → j ∈ sl → k ∈ sl → b ∈ fpN sl ls fp j → b ∈ fpN sl ls fp k → j = k
  | [], ls, fp, j, k, b, _, _, _, h, _, _, _ => nomatch h
  | i :: sl, [], fp, j, k, b, _, e, _, _, _, _, _ => nomatch e
  | i :: sl, l :: ls, fp, j, k, b, nd, e, nf, hj, hk, h1, h2 => by
    unfold fpN at h1 h2
    have nd' := nd
    rw [List.nodup_cons] at nd
    rw [List.flatten_cons, List.nodup_append] at nf
    have e' : sl.length = ls.length := by simpa using e
    by_cases gj : j ∈ sl
    · by_cases gk : k ∈ sl
      · exact fpN_dj nd.2 e' nf.2.1 gj gk h1 h2
      · have : k = i := (List.mem_cons.mp hk).resolve_right gk
        subst this
        rw [fpN_ne gk, fset_at] at h2
        exact (nf.2.2 b h2 b (List.mem_flatten.mpr ⟨_, fpN_mem nd.2 e' gj, h1⟩) rfl).elim
    · have : j = i := (List.mem_cons.mp hj).resolve_right gj
      subst this
      rw [fpN_ne gj, fset_at] at h1
      by_cases gk : k ∈ sl
      · exact (nf.2.2 b h1 b (List.mem_flatten.mpr ⟨_, fpN_mem nd.2 e' gk, h2⟩) rfl).elim
      · exact ((List.mem_cons.mp hk).resolve_right gk).symm
theorem MAs.post {ow : Option World} (h : MAs K env σ F ks sl vs us) : ∀ {us' : List T} {ls' : List (List Addr)} {ws : List (Addr × List Addr)} {fp0 : Nat → List Addr}, MU K ow H' F' ks vs us' ls' → W.EachIs (fun (x : Addr × List Addr) (l : List Addr) => ∀ b, b ∈ l → b ∈ x.2 ∨ H b = none) ws ls' → ws.map (·.2) = sl.map fp0 → sl.Nodup →
    sl.length = ls'.length ∧ ∀ (env1 : List C) (fp1 : Nat → List Addr), (∀ j, j ∈ sl → env1[j]? = env[j]?) → ∀ j, j ∈ sl → ∃ m s ts v u' l', env[j]? = some (.own m (.n s ts)) ∧ σ[j]? = some (some v) ∧ (putsN sl us' env1)[j]? = some (.own m u') ∧ fpN sl ls' fp1 j = l' ∧ OR K ow H' F' v u' l' ∧ ∀ b, b ∈ l' → b ∈ fp0 j ∨ H b = none := by
  induction h with
  | nil =>
    intro us' ls' ws fp0 mu sep e nd
    cases mu
    exact ⟨rfl, fun _ _ _ j hj => nomatch hj⟩
  | ro _ _ ih =>
    intro us' ls' ws fp0 mu sep e nd
    cases mu with
    | ro mu => exact ih mu sep e nd
  | @mu i m s ts v ks sl vs us e1 e2 _ ih =>
    intro us' ls' ws fp0 mu sep e nd
    rw [List.nodup_cons] at nd
    cases mu with
    | @mu a u l _ _ us2 ls2 r mu =>
      cases sep with
      | @cons x _ ws2 _ sp sep =>
        rw [List.map_cons, List.map_cons] at e
        injection e with ea eb
        obtain ⟨hl, go⟩ := ih mu sep eb nd.2
        refine ⟨by rw [List.length_cons, List.length_cons, hl], fun env1 fp1 he j hj => ?_⟩
        unfold putsN fpN
        have hi : env1[i]? = some (.own m (.n s ts)) := (he i List.mem_cons_self).trans e1
        by_cases gj : j ∈ sl
        · exact go _ _ (fun k hk => by
            have hne : k ≠ i := fun z => nd.1 (z ▸ hk)
            exact (putAt_ne hne).trans (he k (List.mem_cons_of_mem _ hk))) j gj
        · have : j = i := (List.mem_cons.mp hj).resolve_right gj
          subst this
          refine ⟨m, s, ts, _, u, l, e1, e2, ?_, ?_, r, fun b hb => ?_⟩
          · rw [putsN_ne gj]
            unfold putAt
            dsimp only
            rw [hi]
            exact List.getElem?_set_self (List.getElem?_eq_some_iff.mp hi).1
          · rw [fpN_ne gj, fset_at]
          · rw [← ea]; exact sp b hb
theorem Rel.calledN {r : T} {lr : List Addr} {v : V} (hw : G.w = some w) (R : Rel K G env σ H F fp) (ma : MAs K env σ F ks sl vs us) (nd : sl.Nodup) (hws : ws.map (·.2) = sl.map fp) (p : PostM K w ks vs H F ws H' F' us' ls' v r lr) :
    Rel K G (putsN sl us' env) σ H' F' (fpN sl ls' fp) ∧ New K G H' F' (fpN sl ls' fp) v r lr := by
  obtain ⟨hl, at1⟩ := ma.post p.mu p.sep hws nd
  have at1 := at1 env fp (fun _ _ => rfl)
  have hwa : ∀ b, b ∈ wAll ws ↔ ∃ i, i ∈ sl ∧ b ∈ fp i := fun b => by
    rw [wAll_map, hws, List.mem_flatten]
    constructor
    · intro ⟨l, h1, h2⟩
      obtain ⟨i, hi, rfl⟩ := List.mem_map.mp h1
      exact ⟨i, hi, h2⟩
    · intro ⟨i, h1, h2⟩
      exact ⟨_, List.mem_map.mpr ⟨i, h1, rfl⟩, h2⟩
  have ndl := p.nd
  rw [List.nodup_append] at ndl
  have al2 : ∀ b, H b ≠ none → H' b ≠ none := fun b hb => by
    by_cases hl : b ∈ wAll ws
    · exact p.al b hl
    · cases q : H b with
      | none => exact absurd q hb
      | some o => rw [p.keep b o hl q]; intro z; cases z
  have fn : ∀ j b, b ∈ fp j → F' b = none := fun j b hb => by
    cases q : F' b with
    | none => rfl
    | some o =>
      rcases p.nw b o q with z | z
      · rw [(R.own j b hb).1] at z; cases z
      · exact absurd z (R.own j b hb).2.1
  have fr : ∀ b, H b = none → (∀ j, b ∉ fp j) := fun b hb j hj => (R.own j b hj).2.1 hb
  have inl : ∀ j, j ∈ sl → ∀ b, b ∈ fpN sl ls' fp j → b ∈ ls'.flatten := fun j hj b hb => List.mem_flatten.mpr ⟨_, fpN_mem nd hl hj, hb⟩
  have sep : ∀ j, j ∈ sl → ∀ b, b ∈ fpN sl ls' fp j → b ∈ fp j ∨ H b = none := fun j hj b hb => by
    obtain ⟨m, s, ts, v', u', l', _, _, _, e4, _, e6⟩ := at1 j hj
    exact e6 b (e4 ▸ hb)
  refine ⟨?_, ⟨by rw [hw]; exact p.res, fun b hb => ⟨(p.new b hb).2.1, (p.new b hb).2.2, R.h0 (p.new b hb).1⟩, fun b hb j hj => ?_⟩⟩
  · exact {
      len := by rw [putsN_len]; exact R.len
      slot := fun j c ej => by
        by_cases hj : j ∈ sl
        · obtain ⟨m, s, ts, v', u', l', e1, e2, e3, e4, e5, e6⟩ := at1 j hj
          rw [e3] at ej; cases ej
          obtain ⟨v0, s1, _, s3⟩ := slot_own R e1
          rw [e2] at s1; cases s1
          refine ⟨v', by rw [e2]; rfl, by rw [hw, e4]; exact e5, fun jj hjj => ?_⟩
          obtain ⟨ra, rl, h1, h2, h3⟩ := s3 jj hjj
          refine ⟨ra, rl, h1, h2, fun b hb => ?_⟩
          rcases sep j hj b hb with z | z
          · exact h3 b z
          · exact .inr (R.h0 z)
        · rw [putsN_ne hj] at ej
          rw [fpN_ne hj]
          have q := R.slot j c ej
          have kk : ∀ b o, b ∈ fp j → H b = some o → H' b = some o := fun b o hb => p.keep b o fun hl => by
            obtain ⟨i, hi, hb'⟩ := (hwa b).mp hl
            exact hj (R.dj j i b hb hb' ▸ hi)
          have f := p.f
          cases c with
          | und => exact q
          | val d => obtain ⟨y1, w, y2, y3⟩ := q; exact ⟨y1, w, y2, DF_mono f _ _ y3⟩
          | brw d => exact q
          | lst ds => obtain ⟨b, vs, y1, y2, y3, y4⟩ := q; exact ⟨b, vs, y1, y2, kk _ _ (by rw [y1]; exact List.mem_singleton.mpr rfl) y3, DFAll_mono f _ _ y4⟩
          | dK ds => obtain ⟨b, vs, y1, y2, y3, y4⟩ := q; exact ⟨b, vs, y1, y2, kk _ _ (by rw [y1]; exact List.mem_singleton.mpr rfl) y3, y4.mono f⟩
          | dT ds => obtain ⟨b, vs, y1, y2, y3, y4⟩ := q; exact ⟨b, vs, y1, y2, kk _ _ (by rw [y1]; exact List.mem_singleton.mpr rfl) y3, y4.mono f⟩
          | dN ds => obtain ⟨b, w, xs, y1, y2, y5, y3, y4⟩ := q; exact ⟨b, w, xs, y1, y2, y5, kk _ _ (by rw [y1]; exact List.mem_singleton.mpr rfl) y3, y4.mono f⟩
          | pin _ => exact q
          | al j i => obtain ⟨q0, a, l, vs, v, q1, q2, q3⟩ := q; exact ⟨q0, a, l, vs, v, q1, f _ _ q2, q3⟩
          | al2 j k i => obtain ⟨q0, a, l, vs, b, us, v, q1, q2, q3, q4, q5⟩ := q; exact ⟨q0, a, l, vs, b, us, v, q1, f _ _ q2, q3, f _ _ q4, q5⟩
          | ro b t2 => obtain ⟨y0, w, l, y1, y2, y3⟩ := q; exact ⟨y0, w, l, y1, OR_mono f _ _ _ (fun _ _ _ z => z) y2, fun hb a vs ha hk => f _ _ (y3 hb a vs ha hk)⟩
          | own m2 t2 => obtain ⟨w, y1, y2, y3⟩ := q; exact ⟨w, y1, OR_mono f _ _ _ kk y2, y3⟩
      dj := fun j k b h1 h2 => by
        by_cases hj : j ∈ sl
        · by_cases hk : k ∈ sl
          · exact fpN_dj nd hl ndl.1 hj hk h1 h2
          · rw [fpN_ne hk] at h2
            rcases sep j hj b h1 with z | z
            · exact R.dj j k b z h2
            · exact (fr b z k h2).elim
        · rw [fpN_ne hj] at h1
          by_cases hk : k ∈ sl
          · rcases sep k hk b h2 with z | z
            · exact R.dj j k b h1 z
            · exact (fr b z j h1).elim
          · rw [fpN_ne hk] at h2
            exact R.dj j k b h1 h2
      own := fun j b hb => by
        by_cases hj : j ∈ sl
        · obtain ⟨m, s, ts, v', u', l', e1, e2, e3, e4, e5, e6⟩ := at1 j hj
          obtain ⟨o1, o2⟩ := p.own b (inl j hj b hb)
          refine ⟨o1, o2, ?_⟩
          rcases sep j hj b hb with z | z
          · refine (R.own j b z).2.2.imp_right fun ⟨w1, c, w2, w3⟩ => ⟨w1, _, e3, ?_⟩
            rw [e1] at w2; cases w2
            cases m with
            | none => cases w3
            | some _ => rfl
          · exact .inl (R.h0 z)
        · rw [fpN_ne hj] at hb
          obtain ⟨g1, g2, g3⟩ := R.own j b hb
          exact ⟨fn j b hb, al2 b g2, by rw [putsN_ne hj]; exact g3⟩
      sub := p.sub
      new := fun a o q => by
        rcases p.nw a o q with z | z
        · exact R.new a o z
        · exact .inr (R.h0 z)
      old := R.old.trans p.f
      keep := fun a o q hW => p.keep a o (fun hl => by
        obtain ⟨i, hi, hb⟩ := (hwa a).mp hl
        rcases (R.own i a hb).2.2 with z | ⟨z, _⟩
        · rw [q] at z; cases z
        · exact hW z) (R.keep a o q hW)
      alive := fun a q => al2 a (R.alive a q) }
  · by_cases hjl : j ∈ sl
    · exact ndl.2.2 b (inl j hjl b hj) b hb rfl
    · rw [fpN_ne hjl] at hj
      exact fr b (p.new b hb).1 j hj
end
section
variable {X : Cx} {G : GC} {kr k k2 : RK} {e a b : Expr} {es : List Expr} {f : List C → Option D} {rs : List C → Option (List T)} {pos p : Pos} {n lv : Nat} {x : Str} {ks : List Bool} {sl : List Nat}
structure DMs (X : Cx) (G : GC) (es : List Expr) (ks : List Bool) (sl : List Nat) (rs : List C → Option (List T)) : Prop where
  ex : ∃ t, PA X es t ∧ ∀ (σ : L2.St) (H F : Hp) (fp : Nat → List Addr) (env : List C) (us : List T) (Q : List V → Hp → Prop), Rel X.K G env σ H F fp → rs env = some us →
    (∀ vs H' F', Ext H F H' F' → MAs X.K env σ F' ks sl vs us → Q vs H') → t σ H Q
def msMu (i : Nat) (rs : List C → Option (List T)) : List C → Option (List T) := fun env => match env[i]? with
  | some (.own _ (.n s ts)) => (rs env).map (.n s ts :: ·)
  | _ => none
def msRo (f : List C → Option D) (rs : List C → Option (List T)) : List C → Option (List T) := fun env => match f env with
  | some d => (rs env).map (.d d :: ·)
  | none => none
structure CalM (P : Program) (w : World) (K : PySem.W.Frag) (mg : Str → Option Value) (base : Heap) (k : Nat) (x : Str) (ks : List Bool) (g : List T → Option (List T × T)) : Prop where
  ex : ∃ (f : Addr) (fd : FuncData) (ps : List Str), FnOk P w K mg base CX0 k f fd ps (spM K w ks g) ∧ mg x = some (.ref f) ∧ PySem.W.keepIn K (.ref f) = true ∧ Binds K fd ps []
def xCallM (g : List T → Option (List T × T)) (sl : List Nat) (rs : List C → Option (List T)) : List C → Option (List C × T) := fun env => match rs env with
  | some us => (match g us with
    | some (us', y) => some (putsN sl us' env, y)
    | none => none)
  | none => none
def txCmp2 (g2 : D → D → Option D) (g gb : List C → Option (List C × T)) : List C → Option (List C × Bool) := fun env => match g env with
  | some (env1, .d x) => (match gb env1 with
    | some (env2, .d y) => (match g2 x y with | some (.bool b) => some (env2, b) | _ => none)
    | _ => none)
  | _ => none
end
end DL
namespace DL
open PySem PySem.Spec L2
def kOfD : D → Option Key
  | .int i => some (.inl i)
  | .str x => some (.inr x)
  | _ => none
def keyT : Key → D
  | .inl i => .int i
  | .inr x => .str x
def kkIx (k : Key) : List Key → Option Nat
  | [] => none
  | x :: r => if x = k then some 0 else (kkIx k r).map (· + 1)
def ksOf : Shp → Option (List Key)
  | .k ks => some ks
  | .kf ks => some ks
  | _ => none
def selKK (fk : List C → Option D) : List C → Shp → Nat → Option Nat := fun env s _ => match ksOf s, (fk env).bind kOfD with
  | some ks, some k => kkIx k ks
  | _, _ => none
def pKK (fk : List C → Option D) (g : List C → Option IP) : List C → Option IP := pChild g (selKK fk)
def rKK (fk : List C → Option D) (r : List C → Option T) : List C → Option T := rChild r (selKK fk)
section
variable {X : Cx} {G : GC} {kr k k2 : RK} {e ei ek o : Expr} {es : List Expr} {f fi fk fe : List C → Option D} {r : List C → Option T} {rs : List C → Option (List T)} {gp : List C → Option IP} {g : List C → Option (List C × T)} {fn : List C → Option T} {pos p1 p2 p3 pos' : Pos}
def trInK (fk : List C → Option D) (r : List C → Option T) : List C → Option Bool := fun env => match r env with
  | some (.n s _) => (match ksOf s, (fk env).bind kOfD with | some ks, some k => some (kkIx k ks).isSome | _, _ => none)
  | _ => none
def trNinK (fk : List C → Option D) (r : List C → Option T) : List C → Option Bool := fun env => (trInK fk r env).map (!·)
def DkOk (H : Hp) : Prop := ∀ a kvs, Rd H a (.dK kvs) → kvs.length ≤ sizeLine
def iKK (r : List C → Option T) : List C → Option (List D) := fun env => match r env with
  | some (.n (.kf ks) _) => some (ks.map keyT)
  | _ => none
def eListK (r : List C → Option T) : List C → Option D := fun env => match r env with
  | some (.n s _) => (ksOf s).map fun ks => .list (ks.map keyT)
  | _ => none
def eLenO (r : List C → Option T) : List C → Option D := fun env => match r env with
  | some (.n .l ts) => some (.int ts.length)
  | some (.n .lf ts) => some (.int ts.length)
  | _ => none
def sPutK (gp : List C → Option IP) (fk : List C → Option D) (g : List C → Option (List C × T)) : List C → Out := fun env => match g env with
  | some (env1, u) => (match gp env1 with
    | some ip => (match nodeAt env1 ip with
      | some (.n (.k ks) ts) => (match (fk env1).bind kOfD with
        | some k => if ts.length < 16000000 then (match kkIx k ks with | none => .nx (putAt env1 ip (.n (.k (ks ++ [k])) (ts ++ [u]))) | some _ => .err) else .err
        | none => .err)
      | _ => .err)
    | none => .err)
  | none => .err
end
end DL
namespace DL
open PySem PySem.Spec L2
def frzAt (p : List Nat) (u : T) : Option T := match T.sub p u with
  | some (.n .l ts) => some (T.put p u (.n .lf ts))
  | some (.n (.k ks) ts) => some (T.put p u (.n (.kf ks) ts))
  | _ => none
section
variable {K : PySem.W.Frag} {ow : Option World} {H F : Hp} {v0 : V} {t : T} {l : List Addr}
end
def Lk (H : Hp) (Q : Hp → Prop) : Prop := Q H ∨ ∃ a kvs, H a = some (.dK kvs) ∧ ∀ od, Q (upd H a (.frz od (.dK kvs)))
section
variable {X : Cx} {G : GC} {kr : RK} {e : Expr} {fn : List C → Option T} {sts : List Stmt} {g : List C → Out} {gx : List C → Option (List C × T)}
def nFrz (p : List Nat) (f : List C → Option T) : List C → Option T := fun env => (f env).bind (frzAt p)
def sFrz (i : Nat) (p : List Nat) (g : List C → Out) : List C → Out := fun env => match env[i]? with
  | some (.own none t) => (match frzAt p t with | some t' => g (env.set i (.own none t')) | none => .err)
  | _ => .err
end
end DL
namespace DL
open PySem PySem.Spec L2
inductive MAp (K : PySem.W.Frag) (G : GC) (env : List C) (σ : L2.St) (H F : Hp) (fp : Nat → List Addr) (rd : List Nat) : List Bool → List IP → List V → List T → List (List Addr) → Prop
  | nil : MAp K G env σ H F fp rd [] [] [] [] []
  | ro {v : V} {u : T} {l : List Addr} {ks : List Bool} {ips : List IP} {vs : List V} {us : List T} {lus : List (List Addr)} : OR K G.w H F v u l → (∀ b, b ∈ l → ∃ j, j ∈ rd ∧ b ∈ fp j) → MAp K G env σ H F fp rd ks ips vs us lus → MAp K G env σ H F fp rd (false :: ks) ips (v :: vs) (u :: us) lus
  | mu {ip : IP} {s : Shp} {ts : List T} {a : Addr} {lu : List Addr} {ks : List Bool} {ips : List IP} {vs : List V} {us : List T} {lus : List (List Addr)} : Place K G env σ H F fp ip (.n s ts) (.ref a) lu → MAp K G env σ H F fp rd ks ips vs us lus → MAp K G env σ H F fp rd (true :: ks) (ip :: ips) (.ref a :: vs) (.n s ts :: us) (lu :: lus)
def putsP : List IP → List T → List C → List C
  | ip :: ips, u :: us, env => putsP ips us (putAt env ip u)
  | _, _, env => env
section
variable {K : PySem.W.Frag} {w : World} {G : GC} {env : List C} {σ : L2.St} {H F H' F' : Hp} {fp : Nat → List Addr} {rd : List Nat} {ks : List Bool} {ips : List IP} {vs : List V} {us us' : List T} {lus ls' : List (List Addr)}
theorem MAp.ext (E : Ext H F H' F') (h : MAp K G env σ H F fp rd ks ips vs us lus) : MAp K G env σ H' F' fp rd ks ips vs us lus := by
  induction h with
  | nil => exact .nil
  | ro h1 h2 _ ih => exact .ro (OR_mono E.f _ _ _ (fun b o _ => E.h b o) h1) h2 ih
  | mu P _ ih => exact .mu (P.ext E) ih
theorem MAp.mem (h : MAp K G env σ H F fp rd ks ips vs us lus) : ∀ b, b ∈ lus.flatten → ∃ ip, ip ∈ ips ∧ b ∈ fp ip.1 := by
  induction h with
  | nil => intro b hb; cases hb
  | ro _ _ _ ih => exact ih
  | mu P _ ih =>
    intro b hb
    rw [List.flatten_cons] at hb
    rcases List.mem_append.mp hb with z | z
    · exact ⟨_, List.mem_cons_self, P.mem z⟩
    · obtain ⟨ip, h1, h2⟩ := ih b z
      exact ⟨ip, List.mem_cons_of_mem _ h1, h2⟩
theorem MAp.ma (Kp : Hp) (h : MAp K G env σ H F fp rd ks ips vs us lus) (hk : ∀ b o, (∃ j, j ∈ rd ∧ b ∈ fp j) → H b = some o → Kp b = some o) : ∃ ws, MA K G.w Kp H F ks vs us ws ∧ ws.map (·.2) = lus := by
  induction h with
  | nil => exact ⟨[], .nil, rfl⟩
  | ro h1 h2 _ ih =>
    obtain ⟨ws, m, e⟩ := ih
    exact ⟨ws, .ro (OR_mono (Same.refl _) _ _ _ (fun b o hb => hk b o (h2 b hb)) h1) m, e⟩
  | @mu ip su tu a lu ks ips vs us lus P _ ih =>
    obtain ⟨ws, m, e⟩ := ih
    exact ⟨(a, lu) :: ws, .mu P.rep m, by rw [List.map_cons, e]⟩
theorem MAp.nd (R : Rel K G env σ H F fp) (h : MAp K G env σ H F fp rd ks ips vs us lus) (nd : (ips.map (·.1)).Nodup) : lus.flatten.Nodup := by
  induction h with
  | nil => exact List.nodup_nil
  | ro _ _ _ ih => exact ih nd
  | @mu ip su tu a lu ks ips vs us lus P h ih =>
    rw [List.map_cons, List.nodup_cons] at nd
    rw [List.flatten_cons, List.nodup_append]
    refine ⟨P.rep.nodup, ih nd.2, fun b hb c hc z => ?_⟩
    subst z
    obtain ⟨ip', h1, h2⟩ := h.mem b hc
    exact nd.1 (R.dj _ _ b (P.mem hb) h2 ▸ List.mem_map.mpr ⟨ip', h1, rfl⟩)
theorem MAp.mem2 (h : MAp K G env σ H F fp rd ks ips vs us lus) : ∀ b, b ∈ lus.flatten → ∃ ip lu, (ip, lu) ∈ ips.zip lus ∧ b ∈ lu ∧ b ∈ fp ip.1 := by
  induction h with
  | nil => intro b hb; cases hb
  | ro _ _ _ ih => exact ih
  | @mu ip su tu a lu ks ips vs us lus P _ ih =>
    intro b hb
    rw [List.flatten_cons] at hb
    rcases List.mem_append.mp hb with z | z
    · exact ⟨ip, lu, by simp, z, P.mem z⟩
    · obtain ⟨ip', lu', h1, h2⟩ := ih b z
      exact ⟨ip', lu', by simp [h1], h2⟩
theorem zip_one : ∀ {ips : List IP} {lus : List (List Addr)} {ip ip' : IP} {lu lu' : List Addr}, (ips.map (·.1)).Nodup → (ip, lu) ∈ ips.zip lus → (ip', lu') ∈ ips.zip lus → ip.1 = ip'.1 → lu = lu'
  | [], _, _, _, _, _, _, h, _, _ => by simp at h
  | _ :: _, [], _, _, _, _, _, h, _, _ => by simp at h
  | i0 :: ips, l0 :: lus, ip, ip', lu, lu', nd, h1, h2, e => by
    rw [List.map_cons, List.nodup_cons] at nd
    have mem : ∀ {ip : IP} {lu : List Addr}, (ip, lu) ∈ ips.zip lus → ip.1 ∈ ips.map (·.1) := fun h => List.mem_map.mpr ⟨_, (List.of_mem_zip h).1, rfl⟩
    rw [List.zip_cons_cons, List.mem_cons] at h1 h2
    rcases h1 with h1 | h1
    · cases h1
      rcases h2 with h2 | h2
      · cases h2; rfl
      · exact absurd (e ▸ mem h2) nd.1
    · rcases h2 with h2 | h2
      · cases h2; exact absurd (e ▸ mem h1) nd.1
      · exact zip_one nd.2 h1 h2 e
theorem putAt_other {ip : IP} {u : T} {j : Nat} (h : j ≠ ip.1) : (putAt env ip u)[j]? = env[j]? := by
  unfold putAt
  split
  · rw [List.getElem?_set_ne (Ne.symm h)]
  · rfl
inductive RootsP (K : PySem.W.Frag) (ow : Option World) (env : List C) (σ : L2.St) (H H' F F' : Hp) (fp : Nat → List Addr) : List IP → List (List Addr) → List T → List (List Addr) → List Bool → List V → List T → List T → List (List Addr) → List (Addr × List Addr) → Prop
  | nil : RootsP K ow env σ H H' F F' fp [] [] [] [] [] [] [] [] [] []
  | cons {ip : IP} {m : Option Nat} {s : Shp} {ts : List T} {a : Addr} {u' : T} {lu l' l2 : List Addr} {ips : List IP} {lus ls' ls2 : List (List Addr)} {us' us0 us2 : List T} {ks0 : List Bool} {vs0 : List V} {ws : List (Addr × List Addr)} :
    env[ip.1]? = some (.own m (.n s ts)) → σ[ip.1]? = some (some (.ref a)) → OR K ow H' F' (.ref a) (T.put ip.2 (.n s ts) u') l2 → (∀ b, b ∈ l2 → (b ∈ fp ip.1 ∧ b ∉ lu) ∨ b ∈ l') → (∀ b, b ∈ l' → b ∈ lu ∨ H b = none) → (∀ b, b ∈ lu → b ∈ fp ip.1) →
    RootsP K ow env σ H H' F F' fp ips lus us' ls' ks0 vs0 us0 us2 ls2 ws → RootsP K ow env σ H H' F F' fp (ip :: ips) (lu :: lus) (u' :: us') (l' :: ls') (true :: ks0) (.ref a :: vs0) (.n s ts :: us0) (T.put ip.2 (.n s ts) u' :: us2) (l2 :: ls2) ((a, fp ip.1) :: ws)
variable {us0 us2 : List T} {ls2 : List (List Addr)} {ks0 : List Bool} {vs0 : List V} {ws ws0 : List (Addr × List Addr)} {ow : Option World}
theorem MAp.roots (R : Rel K G env σ H F fp) (sF : Same F F') (Wl : List Addr) (hk : ∀ b o, b ∉ Wl → H b = some o → H' b = some o) (hW : ∀ b, b ∈ Wl → b ∈ lus.flatten) (h : MAp K G env σ H F fp rd ks ips vs us lus) (nd : (ips.map (·.1)).Nodup) :
    ∀ {us' : List T} {ls' : List (List Addr)} {ws : List (Addr × List Addr)}, MU K G.w H' F' ks vs us' ls' → W.EachIs (fun (x : Addr × List Addr) (l : List Addr) => ∀ b, b ∈ l → b ∈ x.2 ∨ H b = none) ws ls' → ws.map (·.2) = lus →
      ∃ ks0 vs0 us0 us2 ls2 ws0, RootsP K G.w env σ H H' F F' fp ips lus us' ls' ks0 vs0 us0 us2 ls2 ws0 := by
  have go : ∀ {ks : List Bool} {ips : List IP} {vs : List V} {us : List T} {lus' : List (List Addr)}, MAp K G env σ H F fp rd ks ips vs us lus' → (∀ ip lu, (ip, lu) ∈ ips.zip lus' → ∀ b, b ∈ fp ip.1 → b ∉ lu → b ∉ Wl) → ∀ {us' : List T} {ls' : List (List Addr)} {ws : List (Addr × List Addr)}, MU K G.w H' F' ks vs us' ls' → W.EachIs (fun (x : Addr × List Addr) (l : List Addr) => ∀ b, b ∈ l → b ∈ x.2 ∨ H b = none) ws ls' → ws.map (·.2) = lus' →
      ∃ ks0 vs0 us0 us2 ls2 ws0, RootsP K G.w env σ H H' F F' fp ips lus' us' ls' ks0 vs0 us0 us2 ls2 ws0 := by
    intro ks ips vs us lus' h
    induction h with
    | nil =>
      intro _ us' ls' ws mu _ _
      cases mu
      exact ⟨[], [], [], [], [], [], .nil⟩
    | ro _ _ _ ih =>
      intro hd us' ls' ws mu sp e
      cases mu with
      | ro mu => exact ih hd mu sp e
    | @mu ip su tu a lu ks ips vs us lus P _ ih =>
      intro hd us' ls' ws mu sp e
      cases mu with
      | @mu _ u' l' _ _ us1 ls1 r' mu =>
        cases sp with
        | @cons x _ ws1 _ s1 sp =>
          rw [List.map_cons] at e
          injection e with e1 e2
          obtain ⟨ks0, vs0, us0, us2, ls2, ws0, ih⟩ := ih (fun ip lu hm => hd ip lu (by simp [hm])) mu sp e2
          obtain ⟨m, t, v0, h1, h2, h3, L⟩ := P.ex
          have s1' : ∀ b, b ∈ l' → b ∈ lu ∨ H b = none := fun b hb => by rw [← e1]; exact s1 b hb
          obtain ⟨l2, r2, m2⟩ := L.upd H' F' u' l' sF (fun b o hb hn => hk b o (hd ip lu (by simp) b hb hn)) r' (fun b hb => (s1' b hb).imp_right fun z hm => (R.own ip.1 b hm).2.1 z)
          have tn : ∃ s ts b, t = .n s ts ∧ v0 = .ref b := by
            obtain ⟨vr, q1, q2, _⟩ := slot_own R h1
            rw [h3] at q1; cases q1
            cases t with
            | d x =>
              cases hp : ip.2 with
              | nil => rw [hp] at h2; cases h2
              | cons j p => rw [hp] at h2; cases h2
            | n s ts =>
              generalize fp ip.1 = l0 at q2
              cases q2 with
              | n _ _ _ => exact ⟨_, _, _, rfl, rfl⟩
          obtain ⟨s, ts, b0, rfl, rfl⟩ := tn
          exact ⟨_, _, _, _, _, _, .cons h1 h3 r2 m2 s1' L.mem ih⟩
  intro us' ls' ws mu sp e
  refine go h (fun ip lu hm b hb hn hW' => ?_) mu sp e
  obtain ⟨ip', lu', h1, h2, h3⟩ := h.mem2 b (hW b hW')
  exact hn (zip_one nd h1 hm (R.dj _ _ b h3 hb) ▸ h2)
theorem RootsP.mas (h : RootsP K ow env σ H H' F F' fp ips lus us' ls' ks0 vs0 us0 us2 ls2 ws0) : MAs K env σ F ks0 (ips.map (·.1)) vs0 us0 ∧ ws0.map (·.2) = (ips.map (·.1)).map fp ∧ MU K ow H' F' ks0 vs0 us2 ls2 := by
  induction h with
  | nil => exact ⟨.nil, rfl, .nil⟩
  | cons e1 e2 r _ _ _ _ ih =>
    obtain ⟨h1, h2, h3⟩ := ih
    exact ⟨.mu e1 e2 h1, by rw [List.map_cons, List.map_cons, List.map_cons, h2], .mu r h3⟩
theorem RootsP.sep (h : RootsP K ow env σ H H' F F' fp ips lus us' ls' ks0 vs0 us0 us2 ls2 ws0) : W.EachIs (fun (x : Addr × List Addr) (l : List Addr) => ∀ b, b ∈ l → b ∈ x.2 ∨ H b = none) ws0 ls2 := by
  induction h with
  | nil => exact .nil
  | cons _ _ _ m s k _ ih =>
    refine .cons (fun b hb => ?_) ih
    rcases m b hb with z | z
    · exact .inl z.1
    · exact (s b z).imp_left (k b)
theorem RootsP.puts (h : RootsP K ow env σ H H' F F' fp ips lus us' ls' ks0 vs0 us0 us2 ls2 ws0) (nd : (ips.map (·.1)).Nodup) : ∀ env2 : List C, (∀ j, j ∈ ips.map (·.1) → env2[j]? = env[j]?) → putsN (ips.map (·.1)) us2 env2 = putsP ips us' env2 := by
  induction h with
  | nil => intro _ _; rfl
  | @cons ip m s ts a u' lu l' l2 ips lus ls' ls2 us' us0 us2 ks0 vs0 ws e1 e2 r m2 s2 k _ ih =>
    intro env2 h2
    rw [List.map_cons, List.nodup_cons] at nd
    have e3 := (h2 ip.1 (by simp)).trans e1
    have e4 : putAt env2 (ip.1, []) (T.put ip.2 (.n s ts) u') = putAt env2 ip u' := by
      unfold putAt
      dsimp only
      rw [e3]
      rfl
    show putsN _ us2 (putAt env2 (ip.1, []) (T.put ip.2 (.n s ts) u')) = putsP ips us' (putAt env2 ip u')
    rw [e4]
    refine ih nd.2 _ fun j hj => ?_
    rw [putAt_other (fun z => nd.1 (z ▸ hj))]
    exact h2 j (by simp [hj])
theorem RootsP.from (h : RootsP K ow env σ H H' F F' fp ips lus us' ls' ks0 vs0 us0 us2 ls2 ws0) : ∀ b, b ∈ ls2.flatten → (∃ ip lu, (ip, lu) ∈ ips.zip lus ∧ b ∈ fp ip.1 ∧ b ∉ lu) ∨ b ∈ ls'.flatten := by
  induction h with
  | nil => intro b hb; cases hb
  | @cons ip m s ts a u' lu l' l2 ips lus ls' ls2 us' us0 us2 ks0 vs0 ws e1 e2 r m2 s2 k _ ih =>
    intro b hb
    rw [List.flatten_cons] at hb
    rcases List.mem_append.mp hb with z | z
    · rcases m2 b z with y | y
      · exact .inl ⟨ip, lu, by simp, y⟩
      · exact .inr (by simp [y])
    · rcases ih b z with ⟨ip', lu', y1, y2⟩ | y
      · exact .inl ⟨ip', lu', by simp [y1], y2⟩
      · exact .inr (by simp only [List.flatten_cons, List.mem_append]; exact .inr y)
theorem RootsP.nd (R : Rel K G env σ H F fp) (h : RootsP K ow env σ H H' F F' fp ips lus us' ls' ks0 vs0 us0 us2 ls2 ws0) (hn : (ips.map (·.1)).Nodup) (hl : ls'.flatten.Nodup) : ls2.flatten.Nodup := by
  induction h with
  | nil => exact List.nodup_nil
  | @cons ip m s ts a u' lu l' l2 ips lus ls' ls2 us' us0 us2 ks0 vs0 ws e1 e2 r m2 s2 k hr ih =>
    rw [List.map_cons, List.nodup_cons] at hn
    rw [List.flatten_cons, List.nodup_append] at hl
    rw [List.flatten_cons, List.nodup_append]
    refine ⟨r.nodup, ih hn.2 hl.2.1, fun b hb c hc z => ?_⟩
    subst z
    have i1 : b ∈ l' → b ∈ fp ip.1 ∨ H b = none := fun y => (s2 b y).imp_left (k b)
    have rest : (∃ ip', ip' ∈ ips ∧ b ∈ fp ip'.1) ∨ (H b = none ∧ b ∈ ls'.flatten) ∨ (b ∈ ls'.flatten) := by
      rcases hr.from b hc with ⟨ip', lu', y1, y2, _⟩ | y
      · exact .inl ⟨ip', (List.of_mem_zip y1).1, y2⟩
      · exact .inr (.inr y)
    have far : ∀ ip', ip' ∈ ips → b ∈ fp ip'.1 → b ∈ fp ip.1 → False := fun ip' h1 h2 h3 => hn.1 (List.mem_map.mpr ⟨ip', h1, R.dj _ _ b h2 h3⟩)
    have inls : ∀ {ips : List IP} {lus ls' : List (List Addr)} {us' us0 us2 : List T} {ls2 : List (List Addr)} {ks0 : List Bool} {vs0 : List V} {ws : List (Addr × List Addr)}, RootsP K ow env σ H H' F F' fp ips lus us' ls' ks0 vs0 us0 us2 ls2 ws → b ∈ ls'.flatten → (∃ ip', ip' ∈ ips ∧ b ∈ fp ip'.1) ∨ H b = none := by
      intro ips lus ls' us' us0 us2 ls2 ks0 vs0 ws h
      induction h with
      | nil => intro hb; cases hb
      | @cons ip1 _ _ _ _ _ lu1 l1 _ _ _ _ _ _ _ _ _ _ _ _ _ _ _ s3 k3 _ ih2 =>
        intro hb
        rw [List.flatten_cons] at hb
        rcases List.mem_append.mp hb with z | z
        · rcases s3 b z with y | y
          · exact .inl ⟨ip1, by simp, k3 b y⟩
          · exact .inr y
        · rcases ih2 z with ⟨ip', y1, y2⟩ | y
          · exact .inl ⟨ip', by simp [y1], y2⟩
          · exact .inr y
    rcases m2 b hb with y | y
    · have hne := (R.own ip.1 b y.1).2.1
      rcases hr.from b hc with ⟨ip', lu', y1, y2, _⟩ | y3
      · exact far ip' (List.of_mem_zip y1).1 y2 y.1
      · rcases inls hr y3 with ⟨ip', z1, z2⟩ | z
        · exact far ip' z1 z2 y.1
        · exact hne z
    · rcases hr.from b hc with ⟨ip', lu', y1, y2, _⟩ | y3
      · rcases i1 y with z | z
        · exact far ip' (List.of_mem_zip y1).1 y2 z
        · exact (R.own ip'.1 b y2).2.1 z
      · exact hl.2.2 b y b y3 rfl
theorem Rel.calledP {r : T} {lr : List Addr} {v : V} (hw : G.w = some w) (R : Rel K G env σ H F fp) (ma : MAp K G env σ H F fp rd ks ips vs us lus) (nd : (ips.map (·.1)).Nodup) (hws : ws.map (·.2) = lus) (p : PostM K w ks vs H F ws H' F' us' ls' v r lr) :
    ∃ fp', Rel K G (putsP ips us' env) σ H' F' fp' ∧ New K G H' F' fp' v r lr := by
  have hW : ∀ b, b ∈ wAll ws → b ∈ lus.flatten := fun b hb => by rw [wAll_map, hws] at hb; exact hb
  have pmu := p.mu
  rw [← hw] at pmu
  obtain ⟨ks0, vs0, us0, us2, ls2, ws0, rt⟩ := ma.roots R p.f (wAll ws) p.keep hW nd pmu p.sep hws
  obtain ⟨m1, m2, m3⟩ := rt.mas
  rw [hw] at m3
  have w0 : ∀ b, b ∈ wAll ws → b ∈ wAll ws0 := fun b hb => by
    obtain ⟨ip, h1, h2⟩ := ma.mem b (hW b hb)
    rw [wAll_map, m2]
    exact List.mem_flatten.mpr ⟨_, List.mem_map.mpr ⟨_, List.mem_map.mpr ⟨ip, h1, rfl⟩, rfl⟩, h2⟩
  have w1 : ∀ b, b ∈ wAll ws0 → ∃ i, b ∈ fp i := fun b hb => by
    rw [wAll_map, m2] at hb
    obtain ⟨l, h1, h2⟩ := List.mem_flatten.mp hb
    obtain ⟨i, _, rfl⟩ := List.mem_map.mp h1
    exact ⟨i, h2⟩
  have al : ∀ b, H b ≠ none → H' b ≠ none := fun b hb => by
    by_cases z : b ∈ wAll ws
    · exact p.al b z
    · cases q : H b with
      | none => exact absurd q hb
      | some o => rw [p.keep b o z q]; intro y; cases y
  have fpF : ∀ i b, b ∈ fp i → F' b = none := fun i b hb => by
    cases q : F' b with
    | none => rfl
    | some o =>
      rcases p.nw b o q with z | z
      · rw [(R.own i b hb).1] at z; cases z
      · exact absurd z (R.own i b hb).2.1
  have ndl := p.nd
  rw [List.nodup_append] at ndl
  have p0 : PostM K w ks0 vs0 H F ws0 H' F' us2 ls2 v r lr := {
    f := p.f
    sub := p.sub
    nw := p.nw
    keep := fun b o hb => p.keep b o fun z => hb (w0 b z)
    al := fun b hb => let ⟨i, hi⟩ := w1 b hb; al b (R.own i b hi).2.1
    mu := m3
    sep := rt.sep
    own := fun b hb => by
      rcases rt.from b hb with ⟨ip, lu, _, h2, _⟩ | z
      · exact ⟨fpF _ b h2, al b (R.own _ b h2).2.1⟩
      · exact p.own b z
    nd := by
      rw [List.nodup_append]
      refine ⟨rt.nd R nd ndl.1, ndl.2.1, fun b hb c hc z => ?_⟩
      subst z
      rcases rt.from b hb with ⟨ip, lu, _, h2, _⟩ | z
      · exact (R.own _ b h2).2.1 (p.new b hc).1
      · exact ndl.2.2 b z b hc rfl
    res := p.res
    new := p.new }
  obtain ⟨R', n'⟩ := R.calledN hw m1 nd m2 p0
  rw [rt.puts nd env fun _ _ => rfl] at R'
  exact ⟨_, R', n'⟩
end
end DL
namespace DL
open PySem PySem.Spec L2
section
variable {X : Cx} {G : GC} {kr k : RK} {e : Expr} {es : List Expr} {fe : List C → Option D} {gp : List C → Option IP} {pos p p1 p2 : Pos} {x y : Str} {sts body : List Stmt} {fb g : List C → Out}
def pAl (s v : Nat) : List C → Option IP := fun env => match env[v]?, env[s]? with
  | some (.al j i), some (.own (some j') (.n .lf ts)) => if j = j' ∧ i < ts.length then some (s, [i]) else none
  | _, _ => none
def rPl (gp : List C → Option IP) : List C → Option T := fun env => (gp env).bind (nodeAt env)
def sAl (s v : Nat) (fi : List C → Option D) : List C → Out := fun env => match env[s]? with
  | some (.own (some j) (.n .lf ts)) => (match fi env with | some (.int i) => (match ixN ts.length i with | some n => .nx (env.set v (.al j n)) | none => .err) | _ => .err)
  | _ => .err
def forL (v j : Nat) (b : List C → Out) : List Nat → List C → Out
  | [], env => .nx env
  | i :: r, env => match b (env.set v (.al j i)) with
    | .nx e => forL v j b r e
    | .ct e => forL v j b r e
    | .bk e => .nx e
    | .rt d => .rt d
    | .err => .err
    | .rx e t => .rx e t
    | .xc e x => .xc e x
def sForL (s v : Nat) (fb : List C → Out) : List C → Out := fun env => match env[s]? with
  | some (.own (some j) (.n .lf ts)) => forL v j fb (List.range ts.length) env
  | _ => .err
def noPinC : C → Bool
  | .own (some _) _ => false
  | .pin _ => false
  | .al _ _ => false
  | .al2 _ _ _ => false
  | _ => true
def onlyRt : Out → Out
  | .rt d => .rt d
  | _ => .err
def sPin (s : Nat) (g : List C → Out) : List C → Out := fun env => match env[s]? with
  | some (.own none (.n .lf ts)) => if env.all noPinC = true then onlyRt (g (env.set s (.own (some 0) (.n .lf ts)))) else .err
  | _ => .err
structure DMp (X : Cx) (G : GC) (es : List Expr) (ks : List Bool) (rd : List Nat) (rs : List C → Option (List IP × List T)) : Prop where
  ex : ∃ t, PA X es t ∧ ∀ (σ : L2.St) (H F : Hp) (fp : Nat → List Addr) (env : List C) (ips : List IP) (us : List T) (Q : List V → Hp → Prop), Rel X.K G env σ H F fp → rs env = some (ips, us) →
    (∀ vs lus H' F', Ext H F H' F' → MAp X.K G env σ H' F' fp rd ks ips vs us lus → Q vs H') → t σ H Q
def mpNil : List C → Option (List IP × List T) := fun _ => some ([], [])
def mpRo (f : List C → Option D) (rs : List C → Option (List IP × List T)) : List C → Option (List IP × List T) := fun env => match f env with
  | some d => (rs env).map fun r => (r.1, .d d :: r.2)
  | none => none
def mpRd (i : Nat) (rs : List C → Option (List IP × List T)) : List C → Option (List IP × List T) := fun env => match env[i]? with
  | some (.own _ t) => (rs env).map fun r => (r.1, t :: r.2)
  | _ => none
def mpMu (gp : List C → Option IP) (rs : List C → Option (List IP × List T)) : List C → Option (List IP × List T) := fun env => match gp env with
  | some ip => (match nodeAt env ip with | some (.n s ts) => (rs env).map fun r => (ip :: r.1, .n s ts :: r.2) | _ => none)
  | none => none
variable {ks : List Bool} {rd : List Nat} {rs : List C → Option (List IP × List T)} {f : List C → Option D}
theorem dmp_nil : DMp X G [] [] [] mpNil := ⟨_, pa_nil, fun σ H F fp env ips us Q R hf q => by cases hf; exact q [] [] H F (Ext.refl R.sub) .nil⟩
theorem dmp_ro (h : DE X G k e f) (ht : DMp X G es ks rd rs) (hk : k.le .fz = true := by rfl) (hs : starEach (e :: es) X.env = (false, eval e X.env) :: starEach es X.env := by rfl) : DMp X G (e :: es) (false :: ks) rd (mpRo f rs) := by
  obtain ⟨t, pt, o⟩ := (h.conv hk).ex
  obtain ⟨t2, pt2, o2⟩ := ht.ex
  refine ⟨_, pa_cons pt pt2 hs, fun σ H F fp env ips us Q R hf q => ?_⟩
  unfold mpRo at hf
  split at hf
  · rename_i d z
    cases z2 : rs env with
    | none => rw [z2] at hf; cases hf
    | some r2 =>
      rw [z2] at hf; cases hf
      refine o σ H F fp env d _ R z fun v H1 F1 E1 r => ?_
      refine o2 σ H1 F1 fp env r2.1 r2.2 _ (R.ext E1) z2 fun vs lus H2 F2 E2 m => ?_
      exact q (v :: vs) lus H2 F2 (E1.trans E2) (.ro (l := []) (.d (DF_mono E2.f _ _ r)) (fun _ m => nomatch m) m)
  · cases hf
def okP (ips : List IP) (rd : List Nat) : Bool := decide ((ips.map (·.1)).Nodup ∧ ∀ r, r ∈ rd → r ∉ ips.map (·.1))
def xCallP (g : List T → Option (List T × T)) (rd : List Nat) (rs : List C → Option (List IP × List T)) : List C → Option (List C × T) := fun env => match rs env with
  | some (ips, us) => if okP ips rd = true then (match g us with | some (us', y) => some (putsP ips us' env, y) | none => none) else none
  | none => none
theorem MAp.spM {K : PySem.W.Frag} {w : World} {env : List C} {σ : L2.St} {H F : Hp} {fp : Nat → List Addr} {ips : List IP} {vs : List V} {us : List T} {lus : List (List Addr)} (hw : G.w = some w) (R : Rel K G env σ H F fp) (ma : MAp K G env σ H F fp rd ks ips vs us lus) (ok : okP ips rd = true) :
    ∃ ws, MA K (some w) (cut H (wAll ws)) H F ks vs us ws ∧ (wAll ws).Nodup ∧ (∀ b, b ∈ wAll ws → F b = none ∧ H b ≠ none) ∧ ws.map (·.2) = lus := by
  have ok := of_decide_eq_true ok
  obtain ⟨nd, hr⟩ := ok
  have eW : ∀ ws : List (Addr × List Addr), ws.map (·.2) = lus → wAll ws = lus.flatten := fun ws e => by rw [wAll_map, e]
  obtain ⟨ws, m, e⟩ := ma.ma (cut H lus.flatten) (fun b o ⟨j, hj, hb⟩ h => by
    unfold cut
    rw [if_neg (fun z => ?_)]
    · exact h
    · obtain ⟨ip, h1, h2⟩ := ma.mem b z
      exact hr j hj (R.dj _ _ b h2 hb ▸ List.mem_map.mpr ⟨ip, h1, rfl⟩))
  rw [hw] at m
  refine ⟨ws, by rw [eW ws e]; exact m, by rw [eW ws e]; exact ma.nd R nd, fun b hb => ?_, e⟩
  rw [eW ws e] at hb
  obtain ⟨ip, h1, h2⟩ := ma.mem b hb
  exact ⟨(R.own _ b h2).1, (R.own _ b h2).2.1⟩
theorem dx_callP {lv : Nat} {g : List T → Option (List T × T)} (cal : CalM X.prog X.w X.K X.mg X.base lv x ks g) (hw : G.w = some X.w) (hr : Room lv X.A) (hg : Gl X x) (h : DMp X G (e :: es) ks rd rs) (hdb : (x == ("__debug__" : Str)) = false := by decide)
    (he : starEach (e :: es) X.env = (false, eval e X.env) :: starEach es X.env := by rfl) (hpl : (backTo pos (starEach es X.env)).any (·.1) = false := by rfl) : DX X G (.Call (.Name x p) (e :: es) [] pos) (xCallP g rd rs) := by
  obtain ⟨fa, fd, ps, F, hm, kp, b⟩ := cal.ex
  obtain ⟨t, pt, oa⟩ := h.ex
  refine ⟨_, pe_call F hr hg hm kp b .nil pass0 pt hdb he hpl, fun σ H F fp env env' u Q R hf q => ?_⟩
  unfold xCallP at hf
  split at hf
  · rename_i ips us z
    split at hf
    · rename_i ok
      split at hf
      · rename_i us' y z2
        cases hf
        refine oa σ H F fp env ips us _ R z fun vs lus H1 F1 E1 ma => ?_
        rw [List.append_nil]
        have R1 := R.ext E1
        obtain ⟨ws, m1, m2, m3, e⟩ := ma.spM hw R1 ok
        refine ⟨F1, us, ws, us', u, E1.sub, m1, m2, m3, z2, fun v H' F' ls' lr pm => ?_⟩
        obtain ⟨fp', R', n'⟩ := R1.calledP hw ma (of_decide_eq_true ok).1 e pm
        exact q v H' F' fp' lr R' (E1.f.trans pm.f) n'
      · cases hf
    · cases hf
  · cases hf
end
end DL
namespace DL
open PySem PySem.Spec L2
inductive Rz where
  | ok (us : List T) (r : T) | ex (us : List T) (x : XD)
def spMX (K : PySem.W.Frag) (w : World) (ks : List Bool) (g : List T → Option Rz) : Sp := fun vs H Q E => ∃ (F0 : Hp) (us : List T) (ws : List (Addr × List Addr)), Same F0 H ∧ MA K (some w) (cut H (wAll ws)) H F0 ks vs us ws ∧ (wAll ws).Nodup ∧ (∀ b, b ∈ wAll ws → F0 b = none ∧ H b ≠ none) ∧
  match g us with
  | some (.ok us' r) => ∀ v H' F' ls' lr, PostM K w ks vs H F0 ws H' F' us' ls' v r lr → Q v H'
  | some (.ex us' x) => ∀ cls d H' F' ls' lr, XC K x.c cls → PostM K w ks vs H F0 ws H' F' us' ls' (vX d) (XT x) lr → E cls d H'
  | none => False
def outMX (ks : List Bool) : Out → Option Rz
  | .rx env r => (collectM ks 0 0 env).map fun us => .ok us r
  | .nx env => (collectM ks 0 0 env).map fun us => .ok us (.d .none)
  | .xc env x => (collectM ks 0 0 env).map fun us => .ex us x
  | _ => none
def runMX (ks : List Bool) (N : Nat) (body : List C → Out) : List T → Option Rz := fun us => outMX ks (body (cellsM ks 0 us ++ List.replicate (N - us.length) .und))
def WS (X : Cx) : WX := fun cls d σ H => ∃ W : WX, Takes X W ∧ W cls d σ H
section
variable {P : Program} {w : World} {K : PySem.W.Frag} {mg : Str → Option Value} {base : Heap}
end
structure MetMX (P : Program) (w : World) (K : PySem.W.Frag) (mg : Str → Option Value) (base : Heap) (k : Nat) (c m : Str) (n : Nat) (g : List T → Option Rz) : Prop where
  ex : ∃ (C f : Addr) (fd : FuncData) (ps : List Str), PySem.W.nsIn K mainGlobals c = some (some (.ref C)) ∧ Cls K C ∧ Meth K C m f ∧ FnOk P w K mg base (L2.CX P w) k f fd ps (spMX K w (true :: List.replicate n false) g) ∧ Binds K fd ps []
section
variable {X : Cx} {CX : CXT} {k : Nat} {f C : Addr} {fd : FuncData} {ps : List Str} {sp : Sp} {E : St → XK} {m : Str} {p pos apos : Pos} {e o : Expr} {es : List Expr} {ta : TE} {t : TA}
def tMethS (C : Addr) (m : Str) (sp : Sp) (E : St → XK) (ta : TE) (t : TA) : TE := fun σ H Q => ta σ H fun x H1 => ∃ a dx fs, x = .ref a ∧ H1 a = some (.ins C dx fs) ∧ fs.lookup m = none ∧ t σ H1 fun vs H2 => sp (x :: vs) H2 Q (E σ)
end
inductive OY where
  | ok (env : List C) (u : T) | xc (env : List C) (x : XD)
structure DY (X : Cx) (G : GC) (e : Expr) (g : List C → Option OY) : Prop where
  ex : ∃ t, PE X e t ∧ ∀ (σ : L2.St) (H F : Hp) (fp : Nat → List Addr) (env : List C) (o : OY) (Q : VK), Rel X.K G env σ H F fp → g env = some o →
    (match o with
      | .ok env' u => ∀ v H' F' fp' l, Rel X.K G env' σ H' F' fp' → Same F F' → New X.K G H' F' fp' v u l → Q v H'
      | .xc env' x => ∀ cls d H' F' fp' l, Rel X.K G env' σ H' F' fp' → Same F F' → XC X.K x.c cls → New X.K G H' F' fp' (vX d) (XT x) l → WS X cls d σ H') → t σ H Q
section
variable {X : Cx} {G : GC} {kr k : RK} {e o : Expr} {es : List Expr} {gp : List C → Option IP} {rs : List C → Option (List T)} {lv n : Nat} {c m : Str} {pos apos p p1 p2 : Pos} {gy : List C → Option OY} {x : Str}
def yMeth (c m : Str) (g : List T → Option Rz) (gp : List C → Option IP) (rs : List C → Option (List T)) : List C → Option OY := fun env => match gp env with
  | some ip => (match nodeAt env ip with
    | some (.n (.o c' fs) ts) => if c' = c ∧ fIx m fs = none then (match rs env with
      | some us => (match flatT us, g (.n (.o c fs) ts :: us) with
        | some _, some (.ok [u'] y) => some (.ok (putAt env ip u') y)
        | some _, some (.ex [u'] x) => some (.xc (putAt env ip u') x)
        | _, _ => none)
      | none => none) else none
    | _ => none)
  | none => none
end
end DL
namespace DL
open PySem PySem.Spec L2
section
variable {X : Cx} {G : GC} {kr : RK} {e : Expr} {gy : List C → Option OY} {pos pos' : Pos} {x : Str}
def sSetY (i : Nat) (g : List C → Option OY) : List C → Out := fun env => match g env with
  | some (.ok e u) => .nx (e.set i (toC u))
  | some (.xc e x) => .xc e x
  | none => .err
def sDropY (g : List C → Option OY) : List C → Out := fun env => match g env with
  | some (.ok e _) => .nx e
  | some (.xc e x) => .xc e x
  | none => .err
def sRetY (g : List C → Option OY) : List C → Out := fun env => match g env with
  | some (.ok e u) => .rx e u
  | some (.xc e x) => .xc e x
  | none => .err
end
structure DMk (X : Cx) (G : GC) (e : Expr) (g : List C → Option XD) : Prop where
  ex : ∃ t, PMk X e t ∧ ∀ (σ : L2.St) (H F : Hp) (fp : Nat → List Addr) (env : List C) (x : XD) (Q : XK), Rel X.K G env σ H F fp → g env = some x →
    (∀ cls d H' F' l, Ext H F H' F' → XC X.K x.c cls → OR X.K G.w H' F' (vX d) (XT x) l → Fresh H H' F' l → Q cls d H') → t σ H Q
structure MkE (P : Program) (w : World) (K : PySem.W.Frag) (mg : Str → Option Value) (base : Heap) (k : Nat) (c : Str) (fs : List Str) (sp : Sp) : Prop where
  ex : ∃ (C fI : Addr) (fd : FuncData) (ps : List Str), PySem.W.nsIn K mainGlobals c = some (some (.ref C)) ∧ mg c = some (.ref C) ∧ OexC K C ∧ PySem.W.findIn K (.ref C) "__init__" = some (some (.ref fI)) ∧ PySem.W.typeIn K (.ref fI) = some (.type "function") ∧ (∀ f, f ∈ fs → PySem.W.findIn K (.ref C) f = some none) ∧
    FnOk P w K mg base CX0 k fI fd ps sp ∧ Binds K fd ps []
section
variable {X : Cx} {G : GC} {kr k k2 : RK} {e a b : Expr} {g : List C → Option XD} {fe fa fb : List C → Option D} {p pos : Pos} {c f f2 : Str} {lv : Nat}
def sRaise (g : List C → Option XD) : List C → Out := fun env => match g env with | some x => .xc env x | none => .err
def mkE1 (c f : Str) (fa : List C → Option D) : List C → Option XD := fun env => (fa env).map fun d => ⟨c, [f], [d]⟩
theorem heap_mk {H1 : Hp} {a dx : Addr} {o1 o2 o3 o : HO} (ha : H1 a = none) (hne : dx ≠ a) : upd (L2.del (upd (upd (upd H1 a o1) dx o2) a o3) a) dx o = upd H1 dx o := by
  funext b
  by_cases h1 : b = dx
  · subst h1; rw [upd_same, upd_same]
  · rw [upd_ne h1, upd_ne h1]
    by_cases h2 : b = a
    · subst h2; rw [L2.del_same, ha]
    · rw [L2.del_ne h2, upd_ne h2, upd_ne h1, upd_ne h2]
theorem heap_mk2 {H1 : Hp} {a dx : Addr} {o1 o2 o3 o4 o : HO} (ha : H1 a = none) (hne : dx ≠ a) : upd (L2.del (upd (upd (upd (upd H1 a o1) dx o2) a o3) dx o4) a) dx o = upd H1 dx o := by
  funext b
  by_cases h1 : b = dx
  · subst h1; rw [upd_same, upd_same]
  · rw [upd_ne h1, upd_ne h1]
    by_cases h2 : b = a
    · subst h2; rw [L2.del_same, ha]
    · rw [L2.del_ne h2, upd_ne h1, upd_ne h2, upd_ne h1, upd_ne h2]
theorem dmk_1 (mk : MkE X.prog X.w X.K X.mg X.base lv c [f] (spI1 X.K f)) (hr : Room (lv + 1) X.A) (hg : Gl X c) (h : DE X G k a fa) (hk : k.le .fz = true := by rfl) (hdb : (c == ("__debug__" : Str)) = false := by decide)
    (hs : starEach [a] X.env = [(false, eval a X.env)] := by rfl) (hpl : (backTo pos (starEach [] X.env)).any (·.1) = false := by rfl) : DMk X G (.Call (.Name c p) [a] [] pos) (mkE1 c f fa) := by
  obtain ⟨C, fI, fd, ps, nC, gC, T, iC, tI, no, F1, b⟩ := mk.ex
  obtain ⟨t, pt, o⟩ := (h.conv hk).ex
  refine ⟨_, pmk_oex T iC tI F1 hr b .nil pass0 hg gC (pa_cons pt pa_nil hs) hdb hs hpl, fun σ H F fp env x Q R hf q => ?_⟩
  unfold mkE1 at hf
  cases z : fa env with
  | none => rw [z] at hf; cases hf
  | some d0 =>
    rw [z] at hf; cases hf
    refine o σ H F fp env d0 _ R z fun v H1 F1 E1 r => ⟨(by simp : [v].length ≤ 1000), fun x hx => ?_⟩
    refine ⟨x, C, v, rfl, T, no f (List.mem_singleton.mpr rfl), upd_same, fun dx hdx hne => ⟨rfl, dx, [(f, v)], upd_same, ?_, ?_, ?_⟩⟩
    · rw [upd_ne hne, upd_same]
    · rw [upd_ne hne] at hdx; exact hdx
    · rw [upd_ne hne] at hdx
      rw [heap_mk hx hne]
      refine q (.ref C) (some dx) _ F1 [dx] (E1.trans (Ext.laid E1.sub hdx)) ⟨C, nC, rfl⟩ (.n (own := [dx]) (l := []) ⟨rfl, rfl, upd_same⟩ (.cons (.d r) .nil) (by simp)) fun b hb => ?_
      rw [List.mem_singleton.mp hb]
      refine ⟨E1.h.free hdx, E1.sub.free hdx, ?_⟩
      rw [upd_same]; intro y; cases y
def mkE2 (c f f2 : Str) (fa fb : List C → Option D) : List C → Option XD := fun env => match fa env with
  | some d => (fb env).map fun d2 => ⟨c, [f2, f], [d2, d]⟩
  | none => none
theorem dmk_2 (mk : MkE X.prog X.w X.K X.mg X.base lv c [f, f2] (spI2 X.K f f2)) (hr : Room (lv + 1) X.A) (hg : Gl X c) (h : DE X G k a fa) (h2 : DE X G k2 b fb) (hk : k.le .fz = true := by rfl) (hk2 : k2.le .fz = true := by rfl) (hdb : (c == ("__debug__" : Str)) = false := by decide)
    (hs : starEach [a, b] X.env = (false, eval a X.env) :: starEach [b] X.env := by rfl) (hs2 : starEach [b] X.env = [(false, eval b X.env)] := by rfl) (hpl : (backTo pos (starEach [b] X.env)).any (·.1) = false := by rfl) : DMk X G (.Call (.Name c p) [a, b] [] pos) (mkE2 c f f2 fa fb) := by
  obtain ⟨C, fI, fd, ps, nC, gC, T, iC, tI, no, F1, bd⟩ := mk.ex
  obtain ⟨t, pt, o⟩ := (h.conv hk).ex
  obtain ⟨t2, pt2, o2⟩ := (h2.conv hk2).ex
  refine ⟨_, pmk_oex T iC tI F1 hr bd .nil pass0 hg gC (pa_cons pt (pa_cons pt2 pa_nil hs2) hs) hdb hs hpl, fun σ H F fp env x Q R hf q => ?_⟩
  unfold mkE2 at hf
  cases z : fa env with
  | none => rw [z] at hf; cases hf
  | some d0 =>
    cases z2 : fb env with
    | none => rw [z, z2] at hf; cases hf
    | some d1 =>
      rw [z, z2] at hf; cases hf
      refine o σ H F fp env d0 _ R z fun v H1 F1 E1 r => ?_
      refine o2 σ H1 F1 fp env d1 _ (R.ext E1) z2 fun v2 H2 F2 E2 r2 => ⟨(by simp : [v, v2].length ≤ 1000), fun x hx => ?_⟩
      refine ⟨x, C, v, v2, rfl, T, no f (by simp), no f2 (by simp), upd_same, fun dx hdx hne => ⟨rfl, dx, [(f2, v2), (f, v)], ?_, upd_same, ?_, ?_⟩⟩
      · rw [upd_ne (Ne.symm hne), upd_same]
      · rw [upd_ne hne] at hdx; exact hdx
      · rw [upd_ne hne] at hdx
        rw [heap_mk2 hx hne]
        refine q (.ref C) (some dx) _ F2 [dx] ((E1.trans E2).trans (Ext.laid E2.sub hdx)) ⟨C, nC, rfl⟩ (.n (own := [dx]) (l := []) ⟨rfl, rfl, upd_same⟩ (.cons (.d r2) (.cons (.d (DF_mono E2.f _ _ r)) .nil)) (by simp)) fun b hb => ?_
        rw [List.mem_singleton.mp hb]
        refine ⟨(E1.trans E2).h.free hdx, E2.sub.free hdx, ?_⟩
        rw [upd_same]; intro y; cases y
end
end DL
namespace DL
open PySem PySem.Spec L2
def XK (x : XD) : T := .n (.x x.c x.fs) (match x.fs with | [] => [] | _ => x.ds.map T.d)
def sTry (xs : List Str) (i j : Nat) (fb : List C → Out) : List C → Out := fun env => match fb env with
  | .xc e x => if xs.contains x.c = true ∧ i < e.length then .nx ((e.set i .und).set j (.own none (XK x))) else .err
  | o => o
def PostW (X : Cx) (G : GC) (kr : RK) (F : Hp) (E : Ends) (W : WX) : Out → Prop
  | .xc env' x => ∀ cls d σ' H' F' fp' l, Rel X.K G env' σ' H' F' fp' → Same F F' → XC X.K x.c cls → New X.K G H' F' fp' (vX d) (XT x) l → W cls d σ' H'
  | o => Post X G kr F E o
def Under (K : PySem.W.Frag) (B : Value) (c : Str) : Prop := ∀ C, PySem.W.nsIn K mainGlobals c = some (some (.ref C)) → PySem.W.exmOne K (.ref C) B = some true
section
variable {X : Cx} {G : GC} {kr : RK} {body : List Stmt} {fb : List C → Out} {n m b : Str} {B : Value} {p1 p2 p3 np hpos pos : Pos}
end
end DL
namespace L2
open PySem PySem.Spec PyProof.Rows
section
variable {X : Cx} {C : Addr} {bmB : List Value} {B newId initId : String}
theorem pmk_own0 {x : Str} {p pos : Pos} (F : ExcBaseFacts B newId initId bmB) (q : PySem.W.excIn X.K C bmB newId = true) (gC : X.mg x = some (.ref C)) (kC : PySem.W.keepIn X.K (.ref C) = true) (r : Raises X (.ref C)) (hg : Gl X x)
    (hdb : (x == ("__debug__" : Str)) = false := by decide) : PMk X (.Call (.Name x p) [] [] pos) (fun _ H Q => Q (.ref C) none H) := by
  intro pins s σ H Q I h
  refine wpAny_Call_Name_kw (ld_glob I hg gC ?_ hdb)
  refine PySem.W.callWith_K0 (first := []) I.kIn kC ?_
  show wpAny _ _ (call (.ref C) []) _ _ _
  obtain ⟨bm, N, nm, qn, bs, hdct, sn, sub, ab, col, dd, k0, k1, k2, k3, k5, mN, hC, hN, hni, T⟩ := exc_obj I.kIn q
  exact wpAny_call_exc_subT F T hC hN hni (fun h' e hm => mk_of I hm r h (I.hok.gone hm.new)) (by show 0 ≤ sizeLine; omega)
end
end L2
namespace DL
open PySem PySem.Spec L2
structure ExOk (K : PySem.W.Frag) (c : Str) : Prop where
  ex : ∃ C, PySem.W.nsIn K mainGlobals c = some (some (.ref C)) ∧ ExcC K C ∧ XfC K C
def NoAtX (K : PySem.W.Frag) (c f : Str) : Prop := ∀ C, PySem.W.nsIn K mainGlobals c = some (some (.ref C)) → PySem.W.findIn K (.ref C) f = some none
def IsOk (K : PySem.W.Frag) (c : Str) (cv : Value) (b : Bool) : Prop := ∀ C, PySem.W.nsIn K mainGlobals c = some (some (.ref C)) → PySem.W.kitOne K (.ref C) cv = some b
theorem kit_ref {K : PySem.W.Frag} {c : Str} {C D : Addr} {b : Bool} {cd : ClassData} (n : PySem.W.nsIn K mainGlobals c = some (some (.ref C))) (h : PySem.W.subIn K (.ref C) (.ref D) = some b) (hs : PySem.W.subIn K (.ref C) (.ref C) = some true) (hc : PySem.W.clsIn K D = some cd) (ht : PySem.W.typeIn K (.ref D) = some (.type "type")) : IsOk K c (.ref D) b := by
  intro C' n'
  rw [n] at n'; cases n'
  unfold PySem.W.kitOne
  split
  · rename_i e
    have e : Value.ref C = Value.ref D := beq_iff_eq.mp e
    rw [← e, hs] at h; cases h; rfl
  · unfold PySem.W.kitCls
    dsimp only
    rw [if_pos (by rw [hc, ht]; rfl)]
    exact h
theorem kit_type {K : PySem.W.Frag} {c : Str} {C : Addr} {T : String} {b : Bool} (n : PySem.W.nsIn K mainGlobals c = some (some (.ref C))) (h : PySem.W.subIn K (.ref C) (.type T) = some b) (hm : PySem.W.kitMeta T = true) : IsOk K c (.type T) b := by
  intro C' n'
  rw [n] at n'; cases n'
  unfold PySem.W.kitOne
  rw [if_neg (by intro z; have := beq_iff_eq.mp z; cases this)]
  unfold PySem.W.kitCls
  dsimp only
  rw [if_pos hm]
  exact h
section
variable {X : Cx} {G : GC} {kr k : RK} {e : Expr} {r : List C → Option T} {pos p p1 p2 pos' : Pos} {f x : Str}
def selX (cs : List Str) (f : Str) : List C → Shp → Nat → Option Nat := fun _ s _ => match s with
  | .x c fs => if cs.contains c = true then fIx f fs else none
  | _ => none
def rX (cs : List Str) (f : Str) (r : List C → Option T) : List C → Option T := rChild r (selX cs f)
theorem dr_exf (cs : List Str) (h : DRd X G e r) (hc : ∀ c, c ∈ cs → ExOk X.K c ∧ NoAtX X.K c f) (hb : attributeBase e f X.env (eval e X.env) = eval e X.env := by rfl) : DRd X G (.Attribute e f pos) (rX cs f r) := by
  obtain ⟨t, pt, o⟩ := h.ex
  refine ⟨_, pe_xk pt hb, fun σ H F fp env u Q R hg q => ?_⟩
  obtain ⟨s, ts, j, h1, h2, h3⟩ := rChild_of hg
  unfold selX at h2
  split at h2
  rotate_left
  · cases h2
  rename_i c fs
  split at h2
  rotate_left
  · cases h2
  rename_i hm
  refine o σ H F fp env _ _ R h1 fun v l H1 F1 E1 rep => ?_
  obtain ⟨a, vs, own, l0, w, lt, rfl, nr, os, hw, r'⟩ := or_child rep h3
  obtain ⟨hl, C, nC, hx⟩ := nr
  obtain ⟨⟨C', nC', eC, xC⟩, no⟩ := hc c (by simpa using hm) |>.imp (fun z => z.ex) id
  rw [nC] at nC'; cases nC'
  rcases hx with ⟨_, e0, _⟩ | ⟨dx, _, e1, e2⟩
  · rw [e0] at h2; cases h2
  · exact ⟨a, C, dx, _, w, rfl, xC, no C nC, e1, e2, fIx_zip h2 hw, q w lt H1 F1 E1 r'⟩
def eIsX (ys ns : List Str) (r : List C → Option T) : List C → Option D := fun env => match r env with
  | some (.n (.x c _) _) => if ys.contains c = true then some (.bool true) else if ns.contains c = true then some (.bool false) else none
  | _ => none
theorem isx_go {H F : Hp} {v : V} {c : Str} {fs : List Str} {ts : List T} {l : List Addr} {cx : V} {cv : Value} {b : Bool} {Q : VK} (ok : ExOk X.K c) (is : IsOk X.K c cv b) (hcv : ∀ u, RelV cx u → u = cv) (rep : OR X.K G.w H F v (.n (.x c fs) ts) l) (q : Q (.bl b) H) : rIsX X.K [v, cx] H Q := by
  cases rep with
  | @n _ a vs _ own l0 nr n2 n3 =>
    obtain ⟨hl, C, nC, hx⟩ := nr
    obtain ⟨C', nC', eC, xC⟩ := ok.ex
    rw [nC] at nC'; cases nC'
    rcases hx with ⟨_, _, e0⟩ | ⟨dx, _, e1, e2⟩
    · exact ⟨a, C, none, cx, cv, b, rfl, eC, e0, .inl rfl, hcv, is C nC, q⟩
    · exact ⟨a, C, some dx, cx, cv, b, rfl, eC, e1, .inr ⟨dx, _, rfl, e2⟩, hcv, is C nC, q⟩
theorem d_isX {y : Str} {tc : TE} (ys ns : List Str) (cx : V) (cv : Value) (h : DRd X G e r) (hg : Gl X "isinstance") (hm : X.mg "isinstance" = none) (hy : PE X (.Name y p2) tc) (htc : ∀ σ H Q, Q cx H → tc σ H Q) (hcv : ∀ u, RelV cx u → u = cv)
    (h1 : ∀ c, c ∈ ys → ExOk X.K c ∧ IsOk X.K c cv true) (h2 : ∀ c, c ∈ ns → ExOk X.K c ∧ IsOk X.K c cv false) (hv : bootBuiltins "isinstance" = some (.builtin "isinstance") := by decide +kernel)
    (he : starEach [e, .Name y p2] X.env = (false, eval e X.env) :: starEach [.Name y p2] X.env := by rfl) (he2 : starEach [.Name y p2] X.env = (false, eval (.Name y p2) X.env) :: starEach [] X.env := by rfl)
    (hpl : (backTo pos (starEach [.Name y p2] X.env)).any (·.1) = false := by rfl) : DE X G .fz (.Call (.Name "isinstance" p) [e, .Name y p2] [] pos) (eIsX ys ns r) := by
  obtain ⟨t, pt, o⟩ := h.ex
  refine ⟨_, pe_callB call_isX hg hm hv (pa_cons pt (pa_cons hy pa_nil he2) he) (by decide) (by decide) he hpl, fun σ H F fp env d Q R hf q => ?_⟩
  unfold eIsX at hf
  split at hf
  rotate_left
  · cases hf
  rename_i c fs ts z
  refine o σ H F fp env _ _ R z fun v l H1 F1 E1 rep => htc _ _ _ ?_
  split at hf
  · rename_i hm
    cases hf
    obtain ⟨a1, a2⟩ := h1 c (by simpa using hm)
    exact isx_go a1 a2 hcv rep (q _ H1 F1 E1 (.bl true))
  · split at hf
    · rename_i hm
      cases hf
      obtain ⟨a1, a2⟩ := h2 c (by simpa using hm)
      exact isx_go a1 a2 hcv rep (q _ H1 F1 E1 (.bl false))
    · cases hf
def isNT : T → Bool
  | .d d => isNoD d
  | .n _ _ => false
def rIsN (r : List C → Option T) : List C → Option Bool := fun env => (r env).map isNT
def rNotN (r : List C → Option T) : List C → Option Bool := fun env => (r env).map fun u => !isNT u
def eIsNR (r : List C → Option T) : List C → Option D := fun env => (rIsN r env).map .bool
def giveC : C → Option T
  | .val d => some (.d d)
  | .own none u => some u
  | _ => none
def sRetPair (i j : Nat) : List C → Out := fun env => match env[i]?.bind giveC, env[j]?.bind giveC with
  | some u, some w => .rx ((env.set i .und).set j .und) (.n .t [u, w])
  | _, _ => .err
def sSetPair (i j : Nat) (g : List C → Option (List C × T)) : List C → Out := fun env => match g env with
  | some (env', .n .t [u, w]) => .nx ((env'.set i (toC u)).set j (toC w))
  | _ => .err
def xIx2 (n : Nat) (g : List C → Option (List C × T)) : List C → Option (List C × T) := fun env => match g env with
  | some (env', .n .t us) => (match us[n]? with | some (.d d) => some (env', .d d) | _ => none)
  | _ => none
structure MkE0 (K : PySem.W.Frag) (mg : Str → Option Value) (c : Str) : Prop where
  ex : ∃ C bm newId initId, PySem.W.nsIn K mainGlobals c = some (some (.ref C)) ∧ mg c = some (.ref C) ∧ ExcBaseFacts "ValueError" newId initId bm ∧ PySem.W.excIn K C bm newId = true ∧ PySem.W.keepIn K (.ref C) = true ∧ PySem.W.subIn K (.ref C) (.type "BaseException") = some true ∧ PySem.W.typeIn K (.ref C) = some (.type "type")
theorem dmk_0 {c : Str} (mk : MkE0 X.K X.mg c) (hg : Gl X c) (hdb : (c == ("__debug__" : Str)) = false := by decide) : DMk X G (.Call (.Name c p) [] [] pos) (fun _ => some ⟨c, [], []⟩) := by
  obtain ⟨C, bm, newId, initId, nC, gC, FB, ei, kC, sC, tC⟩ := mk.ex
  refine ⟨_, pmk_own0 FB ei gC kC (raises_own sC tC) hg hdb, fun σ H F fp env x Q R hf q => ?_⟩
  cases hf
  exact q (.ref C) none H F [] (Ext.refl R.sub) ⟨C, nC, rfl⟩ (.d .non) (fun _ m => nomatch m)
end
end DL
namespace DL
open PySem PySem.Spec L2
section
variable {X : Cx} {G : GC} {kr k k2 : RK} {e o a : Expr} {fn : List C → Option T} {f fo fa : List C → Option D} {pos p p1 p2 p3 : Pos}
def eDn (fn : List C → Option T) : List C → Option D := fun env => match fn env with
  | some (.n .l ts) => (flatT ts).map .list
  | some (.d x) => some x
  | _ => none
def idxD (d : D) : List D → Option Nat
  | [] => none
  | z :: r => if PyData.eqv z d = true then some 0 else (idxD d r).map (· + 1)
def gIndex : D → D → Option D
  | .list ds, d => if SeqAt.shaped (.list ds) = true ∧ SeqAt.shaped d = true then (idxD d ds).map fun j => .int j else none
  | _, _ => none
end
def tI0 (K : PySem.W.Frag) (m : Str) : TS := tDrop (tVeI K (tCons (tVar 0) (tCons (tC (.str m)) tNil)))
theorem init1_ok {P : Program} {w : World} {K : PySem.W.Frag} {mg : Str → Option Value} {base : Heap} {q : Str} {st : Stmt} {f : Addr} {fd : FuncData} {n m : Str} (F : Fun K "__init__" q st f fd) (S : FnScope ["self", n] ["self", n] (defScope st))
    (hbody : ∀ (cdv : Value) (A : Around) (outer : List Env) (s : Shared) (H : Hp) (E : L2.XK), PSs (cxOf CX0 P w K mg base ["self", n] q (defScope st) f cdv A outer s H E).nox (defBody st) (tSeq (tI0 K m) (tOst K n (tVar 0) (tVar 1)))) :
    FnOk P w K mg base CX0 1 f fd ["self", n] (spI1 K n) := by
  refine F.ok S (fun vs H Q E h => ?_) fun cdv A outer s H vs Q E hr h => ?_
  · obtain ⟨a, C, y, rfl, _⟩ := h; rfl
  · obtain ⟨a, C, y, rfl, T, no, ea, q⟩ := h
    refine ⟨_, hbody cdv A outer s H E, ?_⟩
    exact ⟨.ref a, rfl, a, C, [.str m], rfl, by simp, T, ea, y, rfl, .ref a, rfl, a, C, rfl, T, no, .inl ⟨ea, fun dx h1 h2 => q dx h1 h2⟩⟩
theorem init2_ok {P : Program} {w : World} {K : PySem.W.Frag} {mg : Str → Option Value} {base : Heap} {q : Str} {st : Stmt} {f : Addr} {fd : FuncData} {n n2 m : Str} (F : Fun K "__init__" q st f fd) (S : FnScope ["self", n, n2] ["self", n, n2] (defScope st))
    (hbody : ∀ (cdv : Value) (A : Around) (outer : List Env) (s : Shared) (H : Hp) (E : L2.XK), PSs (cxOf CX0 P w K mg base ["self", n, n2] q (defScope st) f cdv A outer s H E).nox (defBody st) (tSeq (tI0 K m) (tSeq (tOst K n (tVar 0) (tVar 1)) (tOst K n2 (tVar 0) (tVar 2))))) :
    FnOk P w K mg base CX0 1 f fd ["self", n, n2] (spI2 K n n2) := by
  refine F.ok S (fun vs H Q E h => ?_) fun cdv A outer s H vs Q E hr h => ?_
  · obtain ⟨a, C, y, z, rfl, _⟩ := h; rfl
  · obtain ⟨a, C, y, z, rfl, T, no, no2, ea, q⟩ := h
    refine ⟨_, hbody cdv A outer s H E, ?_⟩
    exact ⟨.ref a, rfl, a, C, [.str m], rfl, by simp, T, ea, y, rfl, .ref a, rfl, a, C, rfl, T, no, .inl ⟨ea, fun dx h1 h2 => ⟨z, rfl, .ref a, rfl, a, C, rfl, T, no2, .inr ⟨dx, [(n, y)], upd_same, by rw [upd_ne h2, upd_same], by simp, q dx h1 h2⟩⟩⟩⟩
theorem mkE_of {P : Program} {w : World} {K : PySem.W.Frag} {mg : Str → Option Value} {base : Heap} {c : Str} {fs : List Str} {sp : Sp} {C fI : Addr} {fd : FuncData} {ps : List Str} {lv : Nat} (nC : PySem.W.nsIn K mainGlobals c = some (some (.ref C))) (gC : mg c = some (.ref C)) (T : OexC K C) (iC : PySem.W.findIn K (.ref C) "__init__" = some (some (.ref fI)))
    (tI : PySem.W.typeIn K (.ref fI) = some (.type "function")) (no : ∀ f, f ∈ fs → PySem.W.findIn K (.ref C) f = some none) (F : FnOk P w K mg base CX0 lv fI fd ps sp) (b : Binds K fd ps []) : MkE P w K mg base lv c fs sp := ⟨⟨C, fI, fd, ps, nC, gC, T, iC, tI, no, F, b⟩⟩
end DL
namespace DL
open PySem PySem.Spec L2
abbrev veT : List Value := [.type "ValueError", .type "Exception", .type "BaseException", .type "object"]
section
variable {K : PySem.W.Frag} {mg : Str → Option Value} {c : Str} {C D B N NB : Addr} {nm q nmB qB : Str} {bs bsB : List Value} {sn snB : List Str} {sub subB : List Value} {ab abB : Bool} {col colB : Option Bool} {dd ddB : Option Addr} {k0 k1 k2 k3 k5 j0 j1 j2 j3 j5 : Option Value}
theorem cls_lk {bm : List Value} (l : K.lookup C = some (excClassObj nm q C N bs bm true sn sub ab col dd k0 k1 k2 k3 k5 "ValueError.__new__")) : ∃ cd, PySem.W.clsIn K C = some cd := by
  unfold PySem.W.clsIn
  rw [l]
  exact ⟨_, rfl⟩
theorem exok_mk (n : PySem.W.nsIn K mainGlobals c = some (some (.ref C))) (ga : PySem.W.findIn K (.ref C) "__getattribute__" = some (some (.builtin "BaseException.__getattribute__"))) (gg : PySem.W.findIn K (.ref C) "__getattr__" = some none) (ex : PySem.W.subIn K (.ref C) (.type "BaseException") = some true)
    (hd : PySem.W.hasDictIn K C = true) (cl : PySem.W.findIn K (.ref C) "__class__" = some (some (.builtin "object.__class__"))) (hn : PySem.W.specialIn K (.builtin "object.__class__") "__get__" = some (some (.builtin "getset_descriptor.__get__"))) (ht : PySem.W.takesIn K (.builtin "object.__class__") = some true)
    (hm : PySem.W.mroIn K C (.type "object") = some true) : ExOk K c := ⟨⟨C, n, ⟨ga, gg, ex, hd, cl, hn, ht, hm⟩, ⟨ga, gg, ex, hd⟩⟩⟩
theorem noatx_mk {f : Str} (n : PySem.W.nsIn K mainGlobals c = some (some (.ref C))) (h : PySem.W.findIn K (.ref C) f = some none) : NoAtX K c f := fun D e => by rw [n] at e; cases e; exact h
theorem mk0_mk (n : PySem.W.nsIn K mainGlobals c = some (some (.ref C))) (g : mg c = some (.ref C)) (l : K.lookup C = some (excClassObj nm q C N bs (.ref B :: veT) true sn sub ab col dd k0 k1 k2 k3 k5 "ValueError.__new__")) (nN : PySem.W.nsOkIn K N = true) (iN : PySem.W.nsIn K N "__init__" = some none)
    (lB : K.lookup B = some (excClassObj nmB qB B NB bsB veT true snB subB abB colB ddB j0 j1 j2 j3 j5 "ValueError.__new__")) (nB : PySem.W.nsOkIn K NB = true) (iB : PySem.W.nsIn K NB "__init__" = some none) (kc : PySem.W.keepIn K (.ref C) = true) (ex : PySem.W.subIn K (.ref C) (.type "BaseException") = some true)
    (ty : PySem.W.typeIn K (.ref C) = some (.type "type")) : MkE0 K mg c := by
  refine ⟨⟨C, veT, "ValueError.__new__", "ValueError.__init__", n, g, PySem.F.excBase_ValueError, ?_, kc, ex, ty⟩⟩
  have t2 : PySem.W.tailIn K veT veT = true := by
    unfold PySem.W.tailIn
    simp
  have t1 : PySem.W.tailIn K veT (.ref B :: veT) = true := by
    unfold PySem.W.tailIn
    dsimp only
    rw [lB]
    dsimp only [excClassObj]
    rw [nB, iB, t2]
    simp
  unfold PySem.W.excIn
  rw [l]
  simp [nN, iN, t1]
end
end DL
namespace L2
open PySem PySem.Spec PyProof.Rows
section
variable {X : Cx}
def rCountD (K : PySem.W.Frag) : V → List V → Hp → VK → Prop := fun x xs H Q => ∃ (a : Addr) (y : V) (d : PyData) (ds : List PyData), x = V.ref a ∧ xs = [y] ∧ Dp K H (V.ref a) (.list ds) ∧ Dp K H y d ∧
  SeqAt.shaped (.list ds) = true ∧ SeqAt.shaped d = true ∧ Q (.int (ds.countP fun z => PyData.eqv z d : Nat)) H
end
end L2
namespace DL
open PySem PySem.Spec L2
section
variable {X : Cx} {G : GC} {k k2 : RK} {o a : Expr} {fo fa : List C → Option D} {p2 p3 : Pos}
def gCount : D → D → Option D
  | .list ds, d => if SeqAt.shaped (.list ds) = true ∧ SeqAt.shaped d = true then some (.int (ds.countP fun z => PyData.eqv z d : Nat)) else none
  | _, _ => none
end
end DL
namespace DL
open PySem PySem.Spec L2
section
variable {X : Cx} {G : GC} {e : Expr} {es : List Expr} {ks : List Bool} {rd : List Nat} {rs : List C → Option (List IP × List T)} {y : Str} {p : Pos}
def eVw (i : Nat) : List C → Option D := fun env => match env[i]? with | some (.ro _ (.n .v ts)) => (flatT ts).map .list | _ => none
def mpVw (i : Nat) (rs : List C → Option (List IP × List T)) : List C → Option (List IP × List T) := fun env => match env[i]? with
  | some (.ro _ (.n .v ts)) => (match flatT ts with | some _ => (rs env).map fun r => (r.1, .n .v ts :: r.2) | none => none)
  | _ => none
end
def runV (N : Nat) (body : List C → Out) : List Int → Option D := fun ns => match body (.ro true (.n .v ((ns.map PyData.int).map .d)) :: List.replicate (N - 1) .und) with
  | .rt d => some d
  | _ => none
def spV (K : PySem.W.Frag) (g : List Int → Option D) : Sp := fun vs H Q _ => ∃ (a : Addr) (ns : List Int), vs = [.ref a] ∧ SqL K H a (ns.map V.int) ∧ g ns = some (.bool true) ∧ ∀ H', Q (.bl true) H'
section
variable {P : Program} {w : World} {K : PySem.W.Frag} {mg : Str → Option Value} {base : Heap}
end
end DL
namespace DL
open PySem PySem.Spec L2
abbrev AI := List (Nat × C)
def asgA : AI → List C → List C
  | [], e => e
  | p :: r, e => asgA r (e.set p.1 p.2)
structure DIA (X : Cx) (G : GC) (tg iter : Expr) (f : List C → Option (List AI)) : Prop where
  ex : ∃ wi tt, PI X tg iter wi ∧ PG X tg tt ∧ ∀ (σ : L2.St) (H F : Hp) (fp : Nat → List Addr) (env : List C) (items : List AI) (R : It → Hp → Prop), Rel X.K G env σ H F fp → f env = some items →
    (∀ J H' F', Ext H F H' F' → (∀ (i : Nat) (H2 F2 : Hp), Same F' F2 → Same F2 H2 →
      (∀ u, items[i]? = some u → J.go i H2 ∧ ∀ x H3, J.yld i H2 x H3 → ∃ F3, Ext H2 F2 H3 F3 ∧ ∀ (σ2 : L2.St) (fp2 : Nat → List Addr) (env2 : List C) (Q : L2.St → Hp → Prop), Rel X.K G env2 σ2 H3 F3 fp2 → (∀ σ' fp', Rel X.K G (asgA u env2) σ' H3 F3 fp' → Q σ' H3) → tt x σ2 H3 Q) ∧
      (items.length ≤ i → J.stop i H2)) → R J H') → wi σ H R
def forA (b : List C → Out) : List AI → List C → Out
  | [], env => .nx env
  | u :: r, env => match b (asgA u env) with
    | .nx e => forA b r e
    | .ct e => forA b r e
    | .bk e => .nx e
    | .rt d => .rt d
    | .err => .err
    | .rx e t => .rx e t
    | .xc e x => .xc e x
def sForA (f : List C → Option (List AI)) (fb : List C → Out) : List C → Out := fun env => match f env with
  | some items => forA fb items env
  | none => .err
section
variable {X : Cx} {G : GC} {kr k : RK} {e tg iter : Expr} {pos p p1 p2 p3 : Pos} {x y z : Str} {body : List Stmt} {fb : List C → Out}
def fSl (s v : Nat) (fl fu : List C → Option (Option Int)) : List C → Option (List AI) := fun env => match env[s]? with
  | some (.own (some j) (.n .lf ts)) => (match fl env, fu env with | some l, some u => some ((cutD (List.range ts.length) l u).map fun i => [(v, .al j i)]) | _, _ => none)
  | _ => none
def fRev (s v : Nat) : List C → Option (List AI) := fun env => match env[s]? with
  | some (.own (some j) (.n .lf ts)) => some ((List.range ts.length).reverse.map fun i => [(v, .al j i)])
  | _ => none
def fEnum (s w v : Nat) : List C → Option (List AI) := fun env => match env[s]? with
  | some (.own (some j) (.n .lf ts)) => some ((List.range ts.length).map fun i => [(w, .val (.int (i : Nat))), (v, .al j i)])
  | _ => none
end
end DL
namespace DL
open PySem PySem.Spec L2
section
variable {X : Cx} {G : GC} {k1 k2 k3 : RK} {a b c : Expr} {pos : Pos} {fa fb fc : List C → Option D} {g g' : D → D → Option D}
def eChain (g g' : D → D → Option D) (fa fb fc : List C → Option D) : List C → Option D := fun env => (fa env).bind fun x => (fb env).bind fun y => match g x y with
  | some (.bool true) => (fc env).bind fun z => g' y z
  | some (.bool false) => some (.bool false)
  | _ => none
def eFvS (i : Nat) (f : List C → Option D) : List C → Option D := fun env => match putFz i env with | some env' => (match f env' with | some d => if scalD d = true then some d else none | none => none) | none => none
def rSumT (K : PySem.W.Frag) : List V → Hp → VK → Prop := fun vs H Q => ∃ (a : Addr) (ns : List Int), vs = [V.ref a] ∧ SqT K H a (ns.map V.int) ∧ Q (.int ns.sum) H
def gSumA : List D → Option D
  | [.list xs] => (allInt xs).map fun ns => .int ns.sum
  | [.tuple xs] => (allInt xs).map fun ns => .int ns.sum
  | _ => none
end
end DL
namespace DL
open PySem PySem.Spec L2
section
variable {X : Cx} {G : GC} {kr : RK} {e : Expr} {st : Stmt} {r : List C → Option T}
def sErr : List C → Out := fun _ => .err
def eErr : List C → Option D := fun _ => none
def eRlf (r : List C → Option T) : List C → Option D := fun env => match r env with | some (.n .lf ts) => (flatT ts).map .list | _ => none
end
end DL
namespace DL
open PySem PySem.Spec L2
def forM (s v j : Nat) (b : List C → Out) : Nat → Nat → List C → Out
  | 0, _, _ => .err
  | f + 1, i, env => match env[s]? with
    | some (.own (some j') (.n .l ts)) => if j' = j then (match ts[i]? with
      | none => .nx env
      | some (.d d) => (match b (env.set v (.val d)) with
        | .nx e => forM s v j b f (i + 1) e
        | .ct e => forM s v j b f (i + 1) e
        | .bk e => .nx e
        | .rt d => .rt d
        | .err => .err
        | .rx e t => .rx e t
        | .xc e x => .xc e x)
      | some _ => .err) else .err
    | _ => .err
def sForM (s v : Nat) (b : List C → Out) : List C → Out := fun env => match env[s]? with
  | some (.own (some j) (.n .l ts)) => forM s v j b (ts.length + 1) 0 env
  | _ => .err
section
variable {X : Cx} {G : GC} {kr k : RK} {pos p p1 p2 : Pos} {x y : Str} {body : List Stmt} {fb : List C → Out}
end
end DL
namespace DL
open PySem PySem.Spec L2
def fzAt (i : Nat) (p : List Nat) (env : List C) : Option (List C) := match env[i]? with
  | some (.own m t) => (match T.sub p t with
    | some (.n .l ts) => (flatT ts).map fun ds => env.set i (.own m (T.put p t (.d (.list ds))))
    | _ => none)
  | _ => none
section
variable {X : Cx} {G : GC} {e a b : Expr} {f : List C → Option D} {g : List C → Option (List C × T)} {k : RK} {pos : Pos}
def flatN : Option D → Option D
  | some (.list es) => if noLs es = true then some (.list es) else none
  | _ => none
mutual
theorem DF_back {K : PySem.W.Frag} {F F' : Hp} (h : ∀ b o, F' b = some o → (∀ vs, o ≠ .lst vs) → F b = some o) : ∀ (d : D) (v : V), noL d = true → DF K F' v d → DF K F v d
  | .none, _, _, r => by cases r; exact .non
  | .bool b, _, _, r => by cases r; exact .bl b
  | .int i, _, _, r => by cases r; exact .int i
  | .str x, _, _, r => by cases r; exact .str x
  | .list ds, _, n, _ => by cases n
  | .tuple ds, _, n, r => by
    cases r with
    | tup r1 r2 =>
      refine .tup ?_ (DF_backs h ds _ n r2)
      rcases r1 with (r1 | ⟨o, r1⟩) | r1
      · exact .inl (.inl (h _ _ r1 fun vs e => nomatch e))
      · exact .inl (.inr ⟨o, h _ _ r1 fun vs e => nomatch e⟩)
      · exact .inr r1
theorem DF_backs {K : PySem.W.Frag} {F F' : Hp} (h : ∀ b o, F' b = some o → (∀ vs, o ≠ .lst vs) → F b = some o) : ∀ (ds : List D) (vs : List V), noLs ds = true → DFAll K F' vs ds → DFAll K F vs ds
  | [], _, _, r => by cases r; exact .nil
  | d :: ds, _, n, r => by
    cases r with
    | cons r1 r2 =>
      unfold noLs at n
      rw [Bool.and_eq_true] at n
      exact .cons (DF_back h d _ n.1 r1) (DF_backs h ds _ n.2 r2)
end
def eFzA (i : Nat) (p : List Nat) (f : List C → Option D) : List C → Option D := fun env => match fzAt i p env with | some env' => flatN (f env') | none => none
def xCmp (g2 : D → D → Option D) (g : List C → Option (List C × T)) (f : List C → Option D) : List C → Option (List C × T) := fun env => (txCmp g2 g f env).map fun p => (p.1, .d (.bool p.2))
end
end DL
namespace L2
open PySem PySem.Spec PyProof.Rows
section
variable {X : Cx}
def rRemD (K : PySem.W.Frag) : V → List V → Hp → VK → Prop := fun x xs H Q => ∃ (a : Addr) (y : V) (d : PyData) (ds : List PyData) (vs : List V) (j : Nat) (z : PyData), x = V.ref a ∧ xs = [y] ∧ H a = some (.lst vs) ∧ DpAll K H vs ds ∧ Dp K H y d ∧
  SeqAt.shaped (.list ds) = true ∧ SeqAt.shaped d = true ∧ ds[j]? = some z ∧ PyData.eqv z d = true ∧ (∀ (m : Nat) (z' : PyData), m < j → ds[m]? = some z' → PyData.eqv z' d = false) ∧ Q .non (upd H a (.lst (vs.eraseIdx j)))
end
end L2
namespace DL
open PySem PySem.Spec L2
section
variable {X : Cx} {G : GC} {kr k : RK} {e : Expr} {fe : List C → Option D} {pos : Pos}
def sRem (i : Nat) (fe : List C → Option D) : List C → Out := fun env => match env[i]? with
  | some (.lst ds) => (match fe env with
    | some d => if SeqAt.shaped (.list ds) = true ∧ SeqAt.shaped d = true then (match idxD d ds with | some j => .nx (env.set i (.lst (ds.eraseIdx j))) | none => .err) else .err
    | none => .err)
  | _ => .err
def tLst (i : Nat) : List C → Option Bool := fun env => match env[i]? with | some (.lst ds) => some (!ds.isEmpty) | _ => none
end
end DL
namespace DL
open PySem PySem.Spec L2
section
variable {X : Cx} {G : GC} {e : Expr} {f : List C → Option D}
def eFvN (i : Nat) (f : List C → Option D) : List C → Option D := fun env => match env[i]? with | some (.lst ds) => flatN (f (env.set i (.val (.list ds)))) | _ => none
end
end DL
namespace DL
open PySem PySem.Spec L2
section
variable {X : Cx} {G : GC} {kr : RK} {sts : List Stmt} {f g : List C → Out}
def sAlt (f g : List C → Out) : List C → Out := fun env => match f env with | .err => g env | o => o
end
def fzRo (i : Nat) (p : List Nat) (env : List C) : Option (List C) := match env[i]? with
  | some (.ro b t) => (match T.sub p t with
    | some (.n .l ts) => (flatT ts).map fun ds => env.set i (.ro b (T.put p t (.d (.list ds))))
    | _ => none)
  | _ => none
section
variable {X : Cx} {G : GC} {e : Expr} {f : List C → Option D}
def eFzR (i : Nat) (p : List Nat) (f : List C → Option D) : List C → Option D := fun env => match fzRo i p env with | some env' => flatN (f env') | none => none
end
end DL
namespace DL
open PySem PySem.Spec L2
structure CalX (P : Program) (w : World) (K : PySem.W.Frag) (mg : Str → Option Value) (base : Heap) (k : Nat) (x : Str) (ks : List Bool) (g : List T → Option Rz) : Prop where
  ex : ∃ (f : Addr) (fd : FuncData) (ps : List Str), FnOk P w K mg base (L2.CX P w) k f fd ps (spMX K w ks g) ∧ mg x = some (.ref f) ∧ PySem.W.keepIn K (.ref f) = true ∧ Binds K fd ps []
section
variable {X : Cx} {G : GC} {e : Expr} {es : List Expr} {rs : List C → Option (List IP × List T)} {lv : Nat} {ks : List Bool} {rd : List Nat} {x : Str} {p pos : Pos}
def yCallP (g : List T → Option Rz) (rd : List Nat) (rs : List C → Option (List IP × List T)) : List C → Option OY := fun env => match rs env with
  | some (ips, us) => if okP ips rd = true then (match g us with
    | some (.ok us' y) => some (.ok (putsP ips us' env) y)
    | some (.ex us' xd) => some (.xc (putsP ips us' env) xd)
    | none => none) else none
  | none => none
end
end DL
namespace L2
open PySem PySem.Spec PyProof.Rows
section
variable {X : Cx}
def rIsXT (K : PySem.W.Frag) : List V → Hp → VK → Prop := fun xs H Q => ∃ (a C tp : Addr) (d : Option Addr) (cs : List V) (us : List Value) (b : Bool), xs = [.ref a, .ref tp] ∧ ExcC K C ∧ H a = some (exV a (.ref C) d) ∧ (d = none ∨ ∃ dx fs, d = some dx ∧ H dx = some (.xd fs)) ∧ H tp = some (.tup cs) ∧ Paired ClsV cs us ∧ PySem.W.kitAny K (.ref C) us = some b ∧ Q (.bl b) H
end
end L2
namespace DL
open PySem PySem.Spec L2
def IsOkT (K : PySem.W.Frag) (c : Str) (us : List Value) (b : Bool) : Prop := ∀ C, PySem.W.nsIn K mainGlobals c = some (some (.ref C)) → PySem.W.kitAny K (.ref C) us = some b
section
variable {X : Cx} {G : GC} {e : Expr} {es : List Expr} {r : List C → Option T} {p p2 pos : Pos} {k : Nat}
structure PCs (X : Cx) (es : List Expr) (cs : List V) (us : List Value) : Prop where
  ex : ∃ t, PA X es t ∧ ∀ σ H Q, Q cs H → t σ H Q
  ok : Paired ClsV cs us
end
end DL
namespace DL
open PySem PySem.Spec L2
def gInT : D → D → Option D | .str i, .str j => some (.bool (!(Builtin.Str.occurrences j i 0 j.length 1).isEmpty)) | _, _ => none
def gNotInT : D → D → Option D | .str i, .str j => some (.bool (!(!(Builtin.Str.occurrences j i 0 j.length 1).isEmpty))) | _, _ => none
section
variable {X : Cx} {G : GC}
theorem PCs.nil : PCs X [] [] [] := ⟨⟨_, pa_nil, fun _ _ _ q => q⟩, .nil⟩
theorem PCs.cons {y : Str} {p : Pos} {tc : TE} {C : Addr} {es : List Expr} {cs : List V} {us : List Value} (hy : PE X (.Name y p) tc) (htc : ∀ σ H Q, Q (.ref C) H → tc σ H Q) (t : PCs X es cs us) (he : starEach (.Name y p :: es) X.env = (false, eval (.Name y p) X.env) :: starEach es X.env := by rfl) : PCs X (.Name y p :: es) (.ref C :: cs) (.ref C :: us) := by
  obtain ⟨t0, p0, o0⟩ := t.ex
  exact ⟨⟨_, pa_cons hy p0 he, fun σ H Q q => htc _ _ _ (o0 _ _ _ q)⟩, .cons (.own C) t.ok⟩
end
end DL
namespace DL
open PySem PySem.Spec L2
def sFzT (i : Nat) (g : List C → Out) : List C → Out := fun env => match env[i]? with
  | some (.own none t) => (match viewT t with | some d => g (env.set i (.val d)) | none => .err)
  | _ => .err
mutual
def allL : T → Bool
  | .d _ => true
  | .n .l ts => allLs ts
  | .n _ _ => false
def allLs : List T → Bool
  | [] => true
  | t :: ts => allL t && allLs ts
end
mutual
theorem allL_lst {K : PySem.W.Frag} {ow : Option World} {H F : Hp} : ∀ (t : T) (v : V) (l : List Addr), allL t = true → OR K ow H F v t l → ∀ b, b ∈ l → ∃ vs, H b = some (.lst vs)
  | .d x, v, l, _, r, b, hb => by cases r; cases hb
  | .n s ts, v, l, h, r, b, hb => by
    cases r with
    | n r1 r2 r3 =>
      cases s with
      | l =>
        unfold allL at h
        obtain ⟨rfl, r1⟩ := r1
        rcases List.mem_append.mp hb with z | z
        · rw [List.mem_singleton.mp z]; exact ⟨_, r1⟩
        · exact allLs_lst ts _ _ h r2 b z
      | _ => unfold allL at h; cases h
theorem allLs_lst {K : PySem.W.Frag} {ow : Option World} {H F : Hp} : ∀ (ts : List T) (vs : List V) (l : List Addr), allLs ts = true → ORs K ow H F vs ts l → ∀ b, b ∈ l → ∃ vs, H b = some (.lst vs)
  | [], vs, l, _, r, b, hb => by cases r; cases hb
  | t :: ts, vs, l, h, r, b, hb => by
    cases r with
    | cons r1 r2 =>
      unfold allLs at h
      rw [Bool.and_eq_true] at h
      rcases List.mem_append.mp hb with z | z
      · exact allL_lst t _ _ h.1 r1 b z
      · exact allLs_lst ts _ _ h.2 r2 b z
end
def eFvT (i : Nat) (f : List C → Option D) : List C → Option D := fun env => match env[i]? with
  | some (.own m t) => if allL t = true then (match viewT t with | some d => flatN (f (env.set i (.val d))) | none => none) else none
  | _ => none
section
variable {X : Cx} {G : GC} {e a : Expr} {gy : List C → Option OY} {g : List C → Option (List C × T)} {pos pos' : Pos}
def xOfY (gy : List C → Option OY) : List C → Option (List C × T) := fun env => match gy env with | some (.ok e u) => some (e, u) | _ => none
def txNotN (g : List C → Option (List C × T)) : List C → Option (List C × Bool) := fun env => match g env with | some (e, .d c) => some (e, !isNT (.d c)) | _ => none
end
section
variable {X : Cx} {G : GC} {e : Expr} {es : List Expr} {rs : List C → Option (List IP × List T)} {lv : Nat} {ks : List Bool} {x : Str} {p pos : Pos}
def nCallM (g : List T → Option (List T × T)) (rs : List C → Option (List IP × List T)) : List C → Option T := fun env => match rs env with
  | some ([], us) => (match g us with | some (_, u) => some u | none => none)
  | _ => none
end
end DL
namespace DL
open PySem PySem.Spec L2
section
variable {X : Cx} {G : GC} {k k2 : RK} {o a : Expr} {fo fa : List C → Option D} {p2 p3 : Pos}
def strsD : List D → Option (List Str)
  | [] => some []
  | .str s :: r => (strsD r).map (s :: ·)
  | _ => none
theorem strsD_map : ∀ ys : List Str, strsD (ys.map PyData.str) = some ys
  | [] => rfl
  | y :: ys => by rw [List.map_cons, strsD, strsD_map ys]; rfl
def gJoin : D → D → Option D
  | .str a, .list ds => (strsD ds).bind fun ys => if (ys.map (·.length)).sum + ys.length * a.length ≤ 16777216 then some (.str (Txt.join a ys)) else none
  | _, _ => none
abbrev rJoin (K : PySem.W.Frag) : V → List V → Hp → VK → Prop := fun x xs H Q => ∃ a p, ∃ ys : List Str, x = .str a ∧ xs = [.ref p] ∧ (SqL K H p (ys.map V.str) ∨ SqT K H p (ys.map V.str)) ∧ (ys.map (·.length)).sum + ys.length * a.length ≤ 16777216 ∧ Q (.str (Txt.join a ys)) H
def gSplit : D → D → Option D
  | .str a, .str b => if 0 < b.length ∧ a.length + 2 ≤ sizeLine then some (.list ((Txt.split a b).map .str)) else none
  | _, _ => none
abbrev rNewS (ys : List Str) : Hp → VK → Prop := fun H Q => ∀ p, H p = none → Q (.ref p) (upd H p (.lst (ys.map V.str)))
abbrev rSplit : V → List V → Hp → VK → Prop := fun x xs H Q => ∃ a b, x = .str a ∧ xs = [.str b] ∧ (b.length == 0) = false ∧ a.length + 2 ≤ sizeLine ∧ rNewS (Txt.split a b) H Q
def gPart : D → D → Option D
  | .str a, .str b => if 0 < b.length ∧ a.length ≤ sizeLine then some (.tuple [.str (Txt.partition a b).1, .str (Txt.partition a b).2.1, .str (Txt.partition a b).2.2]) else none
  | _, _ => none
abbrev rPart : V → List V → Hp → VK → Prop := fun x xs H Q => ∃ a b, x = .str a ∧ xs = [.str b] ∧ (b.length == 0) = false ∧ a.length ≤ sizeLine ∧ ∀ p, H p = none → Q (.ref p) (upd H p (.tup [.str (Txt.partition a b).1, .str (Txt.partition a b).2.1, .str (Txt.partition a b).2.2]))
def gIntT : List D → Option D | [.str s] => if s.length ≤ 640 then (PySem.intText? s).map .int else none | _ => none
def tgL (g : List D → List C → Option (List C)) : D → List C → Option (List C) := fun d env => match d with | .list ds => g ds env | _ => none
end
end DL
namespace DL
open PySem PySem.Spec L2
def NoK (K : PySem.W.Frag) (b : Addr) : Prop := ∀ o n, K.lookup b = some o → o.cls ≠ .type n
def offA (F : Hp) (a : Addr) : Hp := fun x => if x = a then none else F x
theorem offA_ne {F : Hp} {a x : Addr} (h : x ≠ a) : offA F a x = F x := by unfold offA; rw [if_neg h]
section
variable {K : PySem.W.Frag} {ow : Option World} {H F : Hp} {a b : Addr} {vr : List V} (fa : F a = some (.lst (.ref b :: vr))) (fb : F b = none) (kb : NoK K b)
include fb kb
theorem SqT_no {xs : List V} (h : SqT K F b xs) : False := by
  rcases h with (h | ⟨o, h⟩) | ⟨o, its, n, hk, hc, _⟩
  · rw [fb] at h; cases h
  · rw [fb] at h; cases h
  · exact kb o _ hk hc
theorem SqL_no {xs : List V} (h : SqL K F b xs) : False := by
  rcases h with (h | ⟨o, h⟩) | ⟨o, its, n, hk, hc, _⟩
  · rw [fb] at h; cases h
  · rw [fb] at h; cases h
  · exact kb o _ hk hc
theorem DF_no {d : D} (h : DF K F (.ref b) d) : False := by
  cases h with
  | lst h _ => rw [fb] at h; cases h
  | tup h _ => exact SqT_no fb kb h
include fa
theorem SqT_hof {x : Addr} {xs : List V} (h : SqT K F x xs) : SqT K (offA F a) x xs := by
  rcases h with (h | ⟨o, h⟩) | h
  · exact .inl (.inl (by rw [offA_ne]; exact h; intro z; rw [z, fa] at h; cases h))
  · exact .inl (.inr ⟨o, by rw [offA_ne]; exact h; intro z; rw [z, fa] at h; cases h⟩)
  · exact .inr h
mutual
theorem DF_hof : ∀ (d : D) (v : V), DF K F v d → DF K (offA F a) v d
  | .none, _, h => by cases h; exact .non
  | .bool b, _, h => by cases h; exact .bl b
  | .int i, _, h => by cases h; exact .int i
  | .str x, _, h => by cases h; exact .str x
  | .list ds, _, h => by
    cases h with
    | @lst x xs _ hs ha =>
      by_cases hx : x = a
      · subst hx
        rw [fa] at hs; cases hs
        cases ha with
        | cons h1 _ => exact (DF_no fb kb h1).elim
      · exact .lst (by rw [offA_ne hx]; exact hs) (DFAll_hof ds _ ha)
  | .tuple ds, _, h => by
    cases h with
    | tup hs ha => exact .tup (SqT_hof fa fb kb hs) (DFAll_hof ds _ ha)
  | .dict _, _, h => by cases h
theorem DFAll_hof : ∀ (ds : List D) (vs : List V), DFAll K F vs ds → DFAll K (offA F a) vs ds
  | [], _, h => by cases h; exact .nil
  | d :: ds, _, h => by
    cases h with
    | cons h1 h2 => exact .cons (DF_hof d _ h1) (DFAll_hof ds _ h2)
end
theorem KeysQ_hof : ∀ {xs : List (NestedKey × Addr × Value)} {ds : List D} {vs : List V}, KeysQ K F xs ds vs → KeysQ K (offA F a) xs ds vs
  | _, _, _, .nil => .nil
  | _, _, _, .cons x y c r t => .cons x y (DF_hof fa fb kb _ _ c) r (KeysQ_hof t)
theorem NR_hof {s : Shp} {x : Addr} {vs : List V} {own : List Addr} (hv : ∀ r, vs ≠ .ref b :: r) (h : NR K ow H F s x vs own) : NR K ow H (offA F a) s x vs own := by
  cases s with
  | l => exact h
  | t =>
    rcases h with h | ⟨h1, h2⟩
    · exact .inl h
    · exact .inr ⟨h1, SqT_hof fa fb kb h2⟩
  | k ks => exact h
  | q ks => obtain ⟨h1, w, xs, h2, h3, h4⟩ := h; exact ⟨h1, w, xs, h2, h3, KeysQ_hof fa fb kb h4⟩
  | o c fs => exact h
  | e fs => exact h
  | x c fs => exact h
  | lf =>
    obtain ⟨h1, h2⟩ := h
    refine ⟨h1, ?_⟩
    rw [offA_ne]; exact h2
    intro z; rw [z, fa] at h2; cases h2; exact hv _ rfl
  | v =>
    obtain ⟨h1, h2⟩ := h
    refine ⟨h1, ?_⟩
    rcases h2 with (h2 | ⟨o, h2⟩) | h2
    · refine .inl (.inl ?_)
      rw [offA_ne]; exact h2
      intro z; rw [z, fa] at h2; cases h2; exact hv _ rfl
    · refine .inl (.inr ⟨o, ?_⟩)
      rw [offA_ne]; exact h2
      intro z; rw [z, fa] at h2; cases h2
    · exact .inr h2
  | kf ks =>
    obtain ⟨h1, h2, o, h3⟩ := h
    refine ⟨h1, h2, o, ?_⟩
    rw [offA_ne]; exact h3
    intro z; rw [z, fa] at h3; cases h3
omit fa
theorem OR_mem {t : T} {l : List Addr} (h : OR K ow H F (.ref b) t l) : b ∈ l ∧ H b ≠ none := by
  cases h with
  | d h => exact (DF_no fb kb h).elim
  | @n s _ vs ts own l0 n1 n2 n3 =>
    cases s with
    | l => obtain ⟨rfl, r⟩ := n1; exact ⟨by simp, by rw [r]; intro z; cases z⟩
    | t =>
      rcases n1 with ⟨rfl, r⟩ | ⟨rfl, r⟩
      · exact ⟨by simp, by rw [r]; intro z; cases z⟩
      · exact (SqT_no fb kb r).elim
    | k ks => obtain ⟨rfl, _, r⟩ := n1; exact ⟨by simp, by rw [r]; intro z; cases z⟩
    | q ks => obtain ⟨rfl, w, xs, _, r, _⟩ := n1; exact ⟨by simp, by rw [r]; intro z; cases z⟩
    | o c fs => obtain ⟨_, C, dx, rfl, _, r, _⟩ := n1; exact ⟨by simp, by rw [r]; intro z; cases z⟩
    | e fs => obtain ⟨rfl, _, r⟩ := n1; exact ⟨by simp, by rw [r]; intro z; cases z⟩
    | lf => obtain ⟨_, r⟩ := n1; rw [fb] at r; cases r
    | v => obtain ⟨_, r⟩ := n1; exact (SqL_no fb kb r).elim
    | kf ks => obtain ⟨_, _, o, r⟩ := n1; rw [fb] at r; cases r
    | x c fs =>
      obtain ⟨_, C, _, r⟩ := n1
      rcases r with ⟨rfl, _, r⟩ | ⟨dx, rfl, r, _⟩
      · exact ⟨by simp, by rw [r]; intro z; cases z⟩
      · exact ⟨by simp, by rw [r]; intro z; cases z⟩
include fa
mutual
theorem OR_hof : ∀ (t : T) (v : V) (l : List Addr), OR K ow H F v t l → (b ∉ l ∨ H b = none) → OR K ow H (offA F a) v t l
  | .d d, _, _, h, _ => by
    cases h with
    | d h => exact .d (DF_hof fa fb kb _ _ h)
  | .n s ts, _, _, h, hb => by
    cases h with
    | @n _ x vs _ own l0 n1 n2 n3 =>
      have hb' : b ∉ l0 ∨ H b = none := hb.imp_left fun z m => z (List.mem_append_right _ m)
      refine .n (NR_hof fa fb kb (fun r e => ?_) n1) (ORs_hof ts vs l0 n2 hb') n3
      subst e
      cases n2 with
      | cons m1 _ =>
        obtain ⟨q1, q2⟩ := OR_mem fb kb m1
        rcases hb' with z | z
        · exact z (List.mem_append_left _ q1)
        · exact q2 z
theorem ORs_hof : ∀ (ts : List T) (vs : List V) (l : List Addr), ORs K ow H F vs ts l → (b ∉ l ∨ H b = none) → ORs K ow H (offA F a) vs ts l
  | [], _, _, h, _ => by cases h; exact .nil
  | t :: ts, _, _, h, hb => by
    cases h with
    | cons h1 h2 => exact .cons (OR_hof t _ _ h1 (hb.imp_left fun z m => z (List.mem_append_left _ m))) (ORs_hof ts _ _ h2 (hb.imp_left fun z m => z (List.mem_append_right _ m)))
end
end
def unC : C → C
  | .al _ _ => .und
  | .al2 _ _ _ => .und
  | .pin _ => .und
  | .own (some _) _ => .und
  | c => c
def insHead : List T → Bool
  | .n (.o _ _) _ :: _ => true
  | _ => false
def unHold (s : Nat) : Out → Out
  | .nx env => (match env[s]? with
    | some (.own (some 0) (.n .lf ts)) => if insHead ts = true then .nx ((env.map unC).set s (.own none (.n .l ts))) else .err
    | _ => .err)
  | .rt d => .rt d
  | _ => .err
def sHold (s : Nat) (g : List C → Out) : List C → Out := fun env => match env[s]? with
  | some (.own none (.n .l ts)) => if insHead ts = true then unHold s (g ((env.map unC).set s (.own (some 0) (.n .lf ts)))) else .err
  | _ => .err
def fpU (env : List C) (fp : Nat → List Addr) (s : Nat) (l : List Addr) : Nat → List Addr := fun i => if i = s then l else match env[i]? with
  | some c => if noPinC c = true then fp i else []
  | none => []
section
variable {K : PySem.W.Frag} {G : GC} {env : List C} {σ : L2.St} {H F : Hp} {fp : Nat → List Addr} {s : Nat}
end
section
variable {X : Cx} {G : GC} {st : Stmt} {g : List C → Out}
def gMinL : List D → Option D | [.list xs] => (match allInt xs with | some (n :: ns) => some (.int (ns.foldl min n)) | _ => none) | _ => none
end
end DL
namespace DL
open PySem PySem.Spec L2
section
variable {X : Cx} {G : GC} {kr k : RK} {ks : List RK} {e o : Expr} {es : List Expr} {fs : List C → Option (List D)} {gx : List C → Option (List C × T)} {gp : List C → Option IP} {rs : List C → Option (List T)} {lv n : Nat} {c m x y : Str} {pos apos p p1 p2 : Pos}
structure DAX (X : Cx) (G : GC) (ks : List RK) (es : List Expr) (f : List C → Option (List C × List D)) : Prop where
  ex : ∃ t, PA X es t ∧ ∀ (σ : L2.St) (H F : Hp) (fp : Nat → List Addr) (env env' : List C) (ds : List D) (Q : List V → Hp → Prop), Rel X.K G env σ H F fp → f env = some (env', ds) →
    (∀ vs H' F' fp', Rel X.K G env' σ H' F' fp' → Same F F' → RepKs X.K G H' F' ks vs ds → Q vs H') → t σ H Q
def axHd (gx : List C → Option (List C × T)) (fs : List C → Option (List D)) : List C → Option (List C × List D) := fun env => match gx env with
  | some (env1, .d y) => (fs env1).map fun ds => (env1, y :: ds)
  | _ => none
def xCallD (g : List D → Option D) (f : List C → Option (List C × List D)) : List C → Option (List C × T) := fun env => match f env with
  | some (env1, ds) => (g ds).map fun d => (env1, .d d)
  | none => none
def xTup (gx : List C → Option (List C × T)) : List C → Option (List C × T) := fun env => match gx env with
  | some (env1, .d (.list ds)) => some (env1, .d (.tuple ds))
  | _ => none
structure DRX (X : Cx) (G : GC) (es : List Expr) (f : List C → Option (List C × List T)) : Prop where
  ex : ∃ t, PA X es t ∧ ∀ (σ : L2.St) (H F : Hp) (fp : Nat → List Addr) (env env' : List C) (us : List T) (Q : List V → Hp → Prop), Rel X.K G env σ H F fp → f env = some (env', us) →
    (∀ vs H' F' fp', Rel X.K G env' σ H' F' fp' → Same F F' → W.EachIs (fun v u => ∃ l, OR X.K G.w H' F' v u l) vs us → Q vs H') → t σ H Q
def rxEnd (gx : List C → Option (List C × T)) : List C → Option (List C × List T) := fun env => match gx env with
  | some (env1, .d y) => some (env1, [.d y])
  | _ => none
def nmT : C → Option T
  | .own _ t => some t
  | .val d => some (.d d)
  | _ => none
def rxNm (i : Nat) (rs : List C → Option (List C × List T)) : List C → Option (List C × List T) := fun env => match (env[i]?).bind nmT, rs env with
  | some _, some (env1, us) => ((env1[i]?).bind nmT).map fun u => (env1, u :: us)
  | _, _ => none
def xCallTX (g : List T → Option T) (rs : List C → Option (List C × List T)) : List C → Option (List C × T) := fun env => match rs env with
  | some (env1, us) => (g us).map fun u => (env1, u)
  | none => none
def yMethX (c m : Str) (g : List T → Option Rz) (i : Nat) (gx : List C → Option (List C × T)) : List C → Option OY := fun env => match nodeAt env (i, []), gx env with
  | some (.n (.o c0 fs0) _), some (env1, .d y) => if c0 = c ∧ fIx m fs0 = none then (match nodeAt env1 (i, []) with
    | some (.n (.o c' fs) ts) => (match g (.n (.o c' fs) ts :: [.d y]) with
        | some (.ok [u'] z) => some (.ok (putAt env1 (i, []) u') z)
        | some (.ex [u'] x) => some (.xc (putAt env1 (i, []) u') x)
        | _ => none)
    | _ => none) else none
  | _, _ => none
def xMethP (c m : Str) (g : List T → Option (List T × T)) (gp : List C → Option IP) (rd : List Nat) (rs : List C → Option (List IP × List T)) : List C → Option (List C × T) := fun env => match gp env with
  | some ip => (match nodeAt env ip with
    | some (.n (.o c' fs) ts) => if c' = c ∧ fIx m fs = none then (match rs env with
      | some ([], us) => if okP [ip] rd = true then (match g (.n (.o c fs) ts :: us) with
        | some ([u'], y) => some (putAt env ip u', y)
        | _ => none) else none
      | _ => none) else none
    | _ => none)
  | none => none
end
end DL
namespace DL
open PySem PySem.Spec L2
def WalkR (IR : Hp → V → D → Prop) (J : It) (items : List D) (F' : Hp) : Prop := ∀ (i : Nat) (H2 F2 : Hp), Same F' F2 → Same F2 H2 →
  (∀ d, items[i]? = some d → J.go i H2 ∧ ∀ x H3, J.yld i H2 x H3 → ∃ F3, Ext H2 F2 H3 F3 ∧ IR F3 x d) ∧ (items.length ≤ i → J.stop i H2)
def tgR (IR : Hp → V → D → Prop) (K : PySem.W.Frag) (G : GC) (is : List Nat) (f : D → List C → Option (List C)) : TG := fun v σ H Q => ∃ (F : Hp) (fp : Nat → List Addr) (env env' : List C) (d : D), Rel K G env σ H F fp ∧ IR F v d ∧ f d env = some env' ∧
  ∀ σ' fp', Rel K G env' σ' H F fp' → (∀ vs, (∀ i, i ∈ is → i ∈ vs) → wipe σ' vs = wipe σ vs) → (∀ j a, a ∈ fp' j → a ∈ fp j) → Q σ' H
def IRal (G : GC) (F : Hp) (v : V) (d : D) : Prop := ∃ i : Nat, d = .int i ∧ ∃ a l vs, G.Ws[0]? = some (a, l) ∧ F a = some (.lst vs) ∧ vs[i]? = some v
def tgAl (s : Nat) : D → List C → Option (List C) := fun d env => match d with | .int i => some (env.set s (.al 0 i.toNat)) | _ => none
def iAl (s : Nat) : List C → Option (List D) := fun env => match env[s]? with | some (.own (some 0) (.n .lf ts)) => some ((List.range ts.length).map fun (i : Nat) => .int i) | _ => none
section
variable {X : Cx} {G : GC} {kr k : RK} {elt : Expr} {fe : List C → Option D} {ft : List C → Option Bool} {p p1 pos : Pos} {x y : Str}
end
end DL
namespace DL
open PySem PySem.Spec L2 PyProof.Rows
def evs {α : Type} : List α → List α
  | [] => []
  | [x] => [x]
  | x :: _ :: r => x :: evs r
section
variable {X : Cx} {G : GC} {k : RK} {e : Expr} {f : List C → Option D} {pos p1 p3 : Pos}
def tEvL (K : PySem.W.Frag) (te : TE) : TE := fun σ H Q => te σ H fun x H1 => ∃ a xs, x = .ref a ∧ SqL K H1 a xs ∧ ∀ n, H1 n = none → Q (.ref n) (upd H1 n (.lst (evs xs)))
def gEvs : D → Option D | .list xs => some (.list (evs xs)) | _ => none
def eEvs (f : List C → Option D) : List C → Option D := fun env => (f env).bind gEvs
end
end DL
namespace DL
open PySem PySem.Spec L2
section
variable {env e : List C} {f g : List C → Out} {fe fa fb fk : List C → Option D} {ft f1 f2 : List C → Option Bool} {fs : List C → Option (List D)} {fi : List C → Option (List D)} {i j n : Nat} {d x y : D} {ds xs ys : List D}
variable {fn : List C → Option T} {rs : List C → Option (List T)} {gx : List C → Option (List C × T)} {gt : List C → Option (List C × Bool)} {gp : List C → Option IP} {r : List C → Option T} {u v : T} {us ts : List T} {ip : IP} {s : Shp} {c m q : Str} {fl : List Str} {b : Bool} {mm : Option Nat} {p : List Nat}
theorem ev_gNotB {a b : Bool} : gNotB (.bool a) (.bool b) = some (.bool (!decide (a = b))) := (rfl)
theorem ev_nD : nD fe env = (fe env).map T.d := (rfl)
def oNL (o : Option D) : Option T := match o with | some (.list ds) => some (.n .l (ds.map T.d)) | _ => none
theorem ev_nL : nL fe env = oNL (fe env) := (rfl)
theorem ev_oNL : oNL (some (.list ds)) = some (.n .l (ds.map T.d)) := (rfl)
theorem ev_xN : xN fn env = (fn env).map fun u => (env, u) := (rfl)
theorem ev_nsNil : nsNil env = some [] := (rfl)
def oNs (o : Option T) (os : Option (List T)) : Option (List T) := match o with | some u => (match os with | some us => some (u :: us) | none => none) | none => none
theorem ev_nsCons : nsCons fn rs env = oNs (fn env) (rs env) := (rfl)
theorem ev_oNs : oNs (some u) (some us) = some (u :: us) := (rfl)
theorem ev_nDictQ : nDictQ env = some (.n (.q []) []) := (rfl)
theorem ev_nDictK : nDictK env = some (.n (.k []) []) := (rfl)
theorem ev_nLst : nLst rs env = (rs env).map (.n .l) := (rfl)
theorem ev_nTup : nTup rs env = (rs env).map (.n .t) := (rfl)
theorem ev_toC_d : toC (.d x) = .val x := (rfl)
theorem ev_toC_n : toC (.n s ts) = .own none (.n s ts) := (rfl)
def oSetX (o : Option (List C × T)) (i : Nat) : Out := match o with | some (env', u) => .nx (env'.set i (toC u)) | none => .err
theorem ev_setX : sSetX i gx env = oSetX (gx env) i := (rfl)
theorem ev_oSetX : oSetX (some (e, u)) i = .nx (e.set i (toC u)) := (rfl)
def oSetN (o : Option T) (i : Nat) (env : List C) : Out := match o with | some u => .nx (env.set i (toC u)) | none => .err
theorem ev_setN : sSetN i fn env = oSetN (fn env) i env := (rfl)
theorem ev_oSetN : oSetN (some u) i env = .nx (env.set i (toC u)) := (rfl)
def oDropX (o : Option (List C × T)) : Out := match o with | some (env', _) => .nx env' | none => .err
theorem ev_dropX : sDropX gx env = oDropX (gx env) := (rfl)
theorem ev_oDropX : oDropX (some (e, u)) = .nx e := (rfl)
def oRetX (o : Option (List C × T)) : Out := match o with | some (env', u) => .rx env' u | none => .err
theorem ev_retX : sRetX gx env = oRetX (gx env) := (rfl)
theorem ev_oRetX : oRetX (some (e, u)) = .rx e u := (rfl)
theorem ev_retXN : sRetXN env = .rx env (.d .none) := (rfl)
theorem ev_seq_rx : oSeq (.rx e u) g = .rx e u := (rfl)
def oIfX (o : Option (List C × Bool)) (f g : List C → Out) : Out := match o with | some (env', true) => f env' | some (env', false) => g env' | none => .err
theorem ev_ifX : sIfX gt f g env = oIfX (gt env) f g := (rfl)
theorem ev_oIfX_t : oIfX (some (e, true)) f g = f e := (rfl)
theorem ev_oIfX_f : oIfX (some (e, false)) f g = g e := (rfl)
def oTxB (o : Option D) (e : List C) : Option (List C × Bool) := match o with | some (.bool b) => some (e, b) | _ => none
theorem ev_oTxB : oTxB (some (.bool b)) e = some (e, b) := (rfl)
def oTxC (o : Option (List C × T)) (h : D → D → Option D) (f : List C → Option D) : Option (List C × Bool) := match o with
  | some (e, .d x) => oTxB (o2 h (some x) (f e)) e
  | _ => none
theorem ev_txCmp {h : D → D → Option D} : txCmp h gx fe env = oTxC (gx env) h fe := by
  unfold txCmp oTxC
  cases gx env with
  | none => rfl
  | some eu =>
    obtain ⟨e, u⟩ := eu
    cases u with
    | n _ _ => rfl
    | d x =>
      dsimp only
      unfold o2
      cases fe e with
      | none => rfl
      | some y =>
        dsimp only
        cases h x y with
        | none => rfl
        | some z => cases z <;> rfl
theorem ev_oTxC {h : D → D → Option D} : oTxC (some (e, .d x)) h fe = oTxB (o2 h (some x) (fe e)) e := (rfl)
theorem ev_txP : txP ft env = (ft env).map fun b => (env, b) := (rfl)
def oTxN (o : Option (List C × Bool)) : Option (List C × Bool) := match o with | some (e, b) => some (e, !b) | none => none
theorem ev_txNot : txNot gt env = oTxN (gt env) := (rfl)
theorem ev_oTxN : oTxN (some (e, b)) = some (e, !b) := (rfl)
theorem ev_pNm : pNm i env = some (i, []) := (rfl)
def oNode (o : Option C) (p : List Nat) : Option T := match o with | some (.own _ t) => T.sub p t | _ => none
theorem ev_nodeAt : nodeAt env (i, p) = oNode env[i]? p := (rfl)
theorem ev_oNode : oNode (some (.own mm u)) p = T.sub p u := (rfl)
theorem ev_sub0 : T.sub [] u = some u := (rfl)
theorem ev_subS : T.sub (j :: p) (.n s ts) = (ts[j]?).bind (T.sub p) := (rfl)
def oPutA (o : Option C) (env : List C) (i : Nat) (p : List Nat) (v : T) : List C := match o with | some (.own m t) => env.set i (.own m (T.put p t v)) | _ => env
theorem ev_putAt : putAt env (i, p) v = oPutA env[i]? env i p v := (rfl)
theorem ev_oPutA : oPutA (some (.own mm u)) env i p v = env.set i (.own mm (T.put p u v)) := (rfl)
theorem ev_put0 : T.put [] u v = v := (rfl)
def oTp (o : Option T) (p : List Nat) (s : Shp) (ts : List T) (j : Nat) (v : T) : T := .n s (match o with | some t => ts.set j (T.put p t v) | none => ts)
theorem ev_putS : T.put (j :: p) (.n s ts) v = oTp ts[j]? p s ts j v := (rfl)
theorem ev_oTp : oTp (some u) p s ts j v = .n s (ts.set j (T.put p u v)) := (rfl)
def oPC (o : Option IP) (sel : List C → Shp → Nat → Option Nat) (env : List C) : Option IP := match o with
  | some ip => (match nodeAt env ip with | some (.n s ts) => (match sel env s ts.length with | some j => if j < ts.length then some (ip.1, ip.2 ++ [j]) else none | none => none) | _ => none)
  | none => none
def oCell (o : Option C) : Option T := o.bind cellT
theorem ev_rN : rN i env = oCell env[i]? := (rfl)
theorem ev_cell_own : oCell (some (.own mm u)) = some u := (rfl)
theorem ev_cell_ro : oCell (some (.ro b u)) = some u := (rfl)
theorem ev_cell_val : oCell (some (.val x)) = some (.d x) := (rfl)
theorem ev_cell_lst : oCell (some (.lst ds)) = some (.n .l (ds.map T.d)) := (rfl)
def oRo (o : Option C) : Option T := match o with | some (.ro true t) => some t | _ => none
theorem ev_roN : roN i env = oRo env[i]? := (rfl)
theorem ev_oRo : oRo (some (.ro true u)) = some u := (rfl)
def oRC (o : Option T) (sel : List C → Shp → Nat → Option Nat) (env : List C) : Option T := match o with
  | some (.n s ts) => (match sel env s ts.length with | some j => ts[j]? | none => none)
  | _ => none
def oRF (o : Option T) (c q : Str) : Option T := match o with
  | some (.n (.o c' fl) ts) => if c' = c then (fIx q fl).bind fun j => ts[j]? else none
  | _ => none
theorem ev_rF : rF c q r env = oRF (r env) c q := by
  unfold rF rChild oRF
  cases r env with
  | none => rfl
  | some u =>
    cases u with
    | d _ => rfl
    | n s ts =>
      cases s <;> try rfl
      rename_i c' fl
      dsimp only [selF]
      by_cases h : c' = c
      · rw [if_pos h, if_pos h]; cases fIx q fl <;> rfl
      · rw [if_neg h, if_neg h]
theorem ev_oRF : oRF (some (.n (.o c fl) ts)) c q = (fIx q fl).bind fun j => ts[j]? := if_pos rfl
def oRI (o : Option T) (k : Option D) : Option T := match o with
  | some (.n .l ts) => (match k with | some (.int i) => (ixN ts.length i).bind fun j => ts[j]? | _ => none)
  | some (.n .t ts) => (match k with | some (.int i) => (ixN ts.length i).bind fun j => ts[j]? | _ => none)
  | some (.n .lf ts) => (match k with | some (.int i) => (ixN ts.length i).bind fun j => ts[j]? | _ => none)
  | _ => none
theorem ev_rI : rI fe r env = oRI (r env) (fe env) := by
  unfold rI rChild oRI
  cases r env with
  | none => rfl
  | some u =>
    cases u with
    | d _ => rfl
    | n s ts =>
      cases s <;> try rfl
      all_goals
        dsimp only [selI]
        cases fe env with
        | none => rfl
        | some k =>
          cases k <;> try rfl
          rename_i k
          dsimp only
          cases ixN ts.length k <;> rfl
theorem ev_oRI {k : Int} : oRI (some (.n .l ts)) (some (.int k)) = (ixN ts.length k).bind fun j => ts[j]? := (rfl)
def oLeaf (o : Option T) : Option D := match o with | some (.d x) => some x | _ => none
theorem ev_rLeaf : rLeaf r env = oLeaf (r env) := (rfl)
theorem ev_oLeaf : oLeaf (some (.d x)) = some x := (rfl)
theorem ev_rFlat : rFlat r env = (r env).bind flatV1 := (rfl)
theorem ev_rView : rView r env = (r env).bind viewT := (rfl)
theorem flatT_d : ∀ ds : List D, flatT (ds.map T.d) = some ds
  | [] => rfl
  | d :: ds => by rw [List.map_cons]; unfold flatT; rw [flatT_d ds]; rfl
theorem ev_flatV1 : flatV1 (.n .l (ds.map T.d)) = some (.list ds) := by
  show (flatT (ds.map T.d)).map PyData.list = _
  rw [flatT_d]; rfl
theorem ev_flatV1d : flatV1 (.d x) = some x := (rfl)
def oEow (o : Option T) : Option D := match o with | some (.n .l ts) => (flatT ts).map .list | _ => none
theorem ev_eOw : eOw fn env = oEow (fn env) := (rfl)
theorem ev_oEow : oEow (some (.n .l (ds.map T.d))) = some (.list ds) := by
  show (flatT (ds.map T.d)).map PyData.list = _
  rw [flatT_d]; rfl
def oFldP (o : Option (List C × T)) (c q : Str) (gp : List C → Option IP) : Out := match o with
  | some (env1, u) => (match gp env1 with
    | some ip => (match nodeAt env1 ip with
      | some (.n (.o c' fs) ts) => if c' = c ∧ fs.length < 1000 then .nx (putAt env1 ip (putO q u c fs ts)) else .err
      | _ => .err)
    | none => .err)
  | none => .err
theorem ev_fldP : sFldP c q gp gx env = oFldP (gx env) c q gp := (rfl)
def oIxP (o : Option (List C × T)) (gp : List C → Option IP) (fi : List C → Option D) : Out := match o with
  | some (env1, u) => (match gp env1 with
    | some ip => (match nodeAt env1 ip with
      | some (.n .l ts) => (match fi env1 with
        | some (.int j) => (match ixN ts.length j with | some m => .nx (putAt env1 ip (.n .l (ts.set m u))) | none => .err)
        | _ => .err)
      | _ => .err)
    | none => .err)
  | none => .err
theorem ev_ixP : sIxP gp fe gx env = oIxP (gx env) gp fe := (rfl)
end
def onND (o : Out) (P : List C → Prop) : Prop := match o with | .nx e => P e | .ct e => P e | _ => False
theorem ev_nd1 {e : List C} {P : List C → Prop} : onND (.nx e) P = P e := (rfl)
theorem ev_nd2 {e : List C} {P : List C → Prop} : onND (.ct e) P = P e := (rfl)
end DL
namespace DL
open PySem PySem.Spec L2
section
variable {fe fk fi f1 f2 : List C → Option D} {r : List C → Option T} {fn : List C → Option T} {gp : List C → Option IP} {gx : List C → Option (List C × T)} {gy : List C → Option OY} {rs : List C → Option (List IP × List T)} {env e : List C} {i j s v n m : Nat} {p : List Nat} {u w : T} {d x : D} {ds : List D} {ts : List T} {c q : Str} {b g : List C → Out} {ks : List Key} {xd : XD} {ip : IP}
theorem ev_seq_xc : oSeq (.xc e xd) g = .xc e xd := (rfl)
def oRKK (o : Option T) (k : Option D) : Option T := match o with
  | some (.n s ts) => (match ksOf s, k.bind kOfD with | some ks, some kk => (match kkIx kk ks with | some j => ts[j]? | none => none) | _, _ => none)
  | _ => none
theorem ev_rKK : rKK fe r env = oRKK (r env) (fe env) := by
  unfold rKK rChild oRKK selKK
  cases r env with
  | none => rfl
  | some u =>
    cases u with
    | d _ => rfl
    | n s ts =>
      cases h1 : ksOf s <;> cases h2 : (fe env).bind kOfD <;> simp only [h1, h2]
      all_goals first | rfl | (rename_i a c; cases kkIx c a <;> rfl)
def oKK (o : Option T) : Option (List D) := match o with | some (.n (.kf ks) _) => some (ks.map keyT) | _ => none
theorem ev_iKK : iKK r env = oKK (r env) := (rfl)
theorem ev_oKK : oKK (some (.n (.kf ks) ts)) = some (ks.map keyT) := (rfl)
def oLenO (o : Option T) : Option D := match o with | some (.n .l ts) => some (.int ts.length) | some (.n .lf ts) => some (.int ts.length) | _ => none
theorem ev_eLenO : eLenO r env = oLenO (r env) := (rfl)
theorem ev_oLenO_l : oLenO (some (.n .l ts)) = some (.int ts.length) := (rfl)
theorem ev_oLenO : oLenO (some (.n .lf ts)) = some (.int ts.length) := (rfl)
def oListK (o : Option T) : Option D := match o with | some (.n s _) => (ksOf s).map fun ks => .list (ks.map keyT) | _ => none
theorem ev_eListK : eListK r env = oListK (r env) := (rfl)
theorem ev_oListK : oListK (some (.n (.kf ks) ts)) = some (.list (ks.map keyT)) := (rfl)
def oInK (o : Option T) (k : Option D) : Option Bool := match o with
  | some (.n s _) => (match ksOf s, k.bind kOfD with | some ks, some k => some (kkIx k ks).isSome | _, _ => none)
  | _ => none
theorem ev_trInK : trInK fe r env = oInK (r env) (fe env) := (rfl)
theorem ev_trNinK : trNinK fe r env = (oInK (r env) (fe env)).map (!·) := (rfl)
def oE1 (o : Option D) (c q : Str) (env : List C) : Out := match o with | some d => .xc env ⟨c, [q], [d]⟩ | none => .err
theorem ev_raise1 {q : Str} : sRaise (mkE1 c q fe) env = oE1 (fe env) c q env := by
  unfold sRaise mkE1 oE1
  cases fe env <;> rfl
theorem ev_oE1 {q : Str} : oE1 (some d) c q env = .xc env ⟨c, [q], [d]⟩ := (rfl)
def oE2 (o o2 : Option D) (c q q2 : Str) (env : List C) : Out := match o with | some d => (match o2 with | some d2 => .xc env ⟨c, [q2, q], [d2, d]⟩ | none => .err) | none => .err
theorem ev_raise2 {q q2 : Str} : sRaise (mkE2 c q q2 f1 f2) env = oE2 (f1 env) (f2 env) c q q2 env := by
  unfold sRaise mkE2 oE2
  cases f1 env with
  | none => rfl
  | some d => dsimp only; cases f2 env <;> rfl
theorem ev_oE2 {q q2 : Str} {d2 : D} : oE2 (some d) (some d2) c q q2 env = .xc env ⟨c, [q2, q], [d2, d]⟩ := (rfl)
theorem ev_raise0 : sRaise (fun _ => some xd) env = .xc env xd := (rfl)
def oSetY (o : Option OY) (i : Nat) : Out := match o with | some (.ok e u) => .nx (e.set i (toC u)) | some (.xc e x) => .xc e x | none => .err
theorem ev_setY : sSetY i gy env = oSetY (gy env) i := (rfl)
theorem ev_oSetY_ok : oSetY (some (.ok e u)) i = .nx (e.set i (toC u)) := (rfl)
theorem ev_oSetY_xc : oSetY (some (.xc e xd)) i = .xc e xd := (rfl)
def oTry (o : Out) (xs : List Str) (i j : Nat) : Out := match o with
  | .xc e x => if xs.contains x.c = true ∧ i < e.length then .nx ((e.set i .und).set j (.own none (XK x))) else .err
  | o => o
theorem ev_try {xs : List Str} : sTry xs i j b env = oTry (b env) xs i j := (rfl)
theorem ev_oTry_nx {xs : List Str} : oTry (.nx e) xs i j = .nx e := (rfl)
def oPair (o o2 : Option C) (i j : Nat) (env : List C) : Out := match o.bind giveC, o2.bind giveC with
  | some u, some w => .rx ((env.set i .und).set j .und) (.n .t [u, w])
  | _, _ => .err
theorem ev_retPair : sRetPair i j env = oPair env[i]? env[j]? i j env := (rfl)
theorem ev_oPair_vv : oPair (some (.val d)) (some (.val x)) i j env = .rx ((env.set i .und).set j .und) (.n .t [.d d, .d x]) := (rfl)
theorem ev_oPair_vo : oPair (some (.val d)) (some (.own none u)) i j env = .rx ((env.set i .und).set j .und) (.n .t [.d d, u]) := (rfl)
def oIx2 (o : Option (List C × T)) (n : Nat) : Option (List C × T) := match o with
  | some (env', .n .t us) => (match us[n]? with | some (.d d) => some (env', .d d) | _ => none)
  | _ => none
theorem ev_xIx2 : xIx2 n gx env = oIx2 (gx env) n := (rfl)
theorem ev_oIx2 : oIx2 (some (e, .n .t [.d d, u])) 0 = some (e, .d d) := (rfl)
def oRPl (o : Option IP) (env : List C) : Option T := o.bind (nodeAt env)
theorem ev_rPl : rPl gp env = oRPl (gp env) env := (rfl)
theorem ev_oRPl : oRPl (some ip) env = nodeAt env ip := (rfl)
def oForL (o : Option C) (v : Nat) (b : List C → Out) (env : List C) : Out := match o with
  | some (.own (some j) (.n .lf ts)) => forL v j b (List.range ts.length) env
  | _ => .err
theorem ev_forL : sForL s v b env = oForL env[s]? v b env := (rfl)
theorem ev_oForL : oForL (some (.own (some j) (.n .lf ts))) v b env = forL v j b (List.range ts.length) env := (rfl)
theorem ev_onlyRt : onlyRt (.rt d) = .rt d := (rfl)
def oDn (o : Option T) : Option D := match o with | some (.n .l ts) => (flatT ts).map .list | some (.d x) => some x | _ => none
theorem ev_eDn : eDn fn env = oDn (fn env) := (rfl)
theorem ev_oDn_l : oDn (some (.n .l (ds.map T.d))) = some (.list ds) := by
  show (flatT (ds.map T.d)).map PyData.list = _
  rw [flatT_d]; rfl
theorem ev_oDn_d : oDn (some (.d x)) = some x := (rfl)
theorem callP_at {g2 : List T → Option (List T × T)} {rd : List Nat} {ips : List IP} {us us' : List T} {y : T} (h1 : rs env = some (ips, us)) (h2 : okP ips rd = true) (h3 : g2 us = some (us', y)) : xCallP g2 rd rs env = some (putsP ips us' env, y) := by
  unfold xCallP
  rw [h1]; dsimp only; rw [if_pos h2, h3]
def oMpRo (o : Option D) (k : Option (List IP × List T)) : Option (List IP × List T) := match o with | some d => (match k with | some r => some (r.1, .d d :: r.2) | none => none) | none => none
theorem ev_mpRo : mpRo fe rs env = oMpRo (fe env) (rs env) := by
  unfold mpRo oMpRo
  cases fe env with
  | none => rfl
  | some d => cases rs env <;> rfl
theorem ev_oMpRo {ips : List IP} {us : List T} : oMpRo (some d) (some (ips, us)) = some (ips, .d d :: us) := (rfl)
theorem ev_mpNil : mpNil env = some ([], []) := (rfl)
theorem ev_runV {N : Nat} {ns : List Int} : runV N b ns = oRun (b (.ro true (.n .v ((ns.map PyData.int).map .d)) :: List.replicate (N - 1) .und)) := by
  unfold runV oRun
  cases b (.ro true (.n .v ((ns.map PyData.int).map .d)) :: List.replicate (N - 1) .und) <;> rfl
def oVw (c : Option C) : Option D := match c with | some (.ro _ (.n .v ts)) => (flatT ts).map .list | _ => none
theorem ev_eVw : eVw i env = oVw env[i]? := (rfl)
theorem ev_oVw {ro : Bool} : oVw (some (.ro ro (.n .v (ds.map T.d)))) = some (.list ds) := by
  show (flatT (ds.map T.d)).map PyData.list = _
  rw [flatT_d]; rfl
end
end DL
namespace DL
open PySem PySem.Spec L2
section
variable {fe fa fb fc : List C → Option D} {r : List C → Option T} {gx : List C → Option (List C × T)} {gt gt2 : List C → Option (List C × Bool)} {rs : List C → Option (List IP × List T)} {env e : List C} {i j s v w n : Nat} {u u2 : T} {d x y : D} {ds : List D} {ts : List T} {b : List C → Out} {g g' : D → D → Option D} {bb : Bool}
theorem ev_sumA {ns : List Int} : gSumA [.list (ns.map .int)] = some (.int ns.sum) := by
  unfold gSumA; simp only [allInt_map, Option.map_some]
theorem ev_sumT {ns : List Int} : gSumA [.tuple (ns.map .int)] = some (.int ns.sum) := by
  unfold gSumA; simp only [allInt_map, Option.map_some]
def oRlf (o : Option T) : Option D := match o with | some (.n .lf ts) => (flatT ts).map .list | _ => none
theorem ev_eRlf : eRlf r env = oRlf (r env) := (rfl)
theorem ev_oRlf : oRlf (some (.n .lf (ds.map T.d))) = some (.list ds) := by
  show (flatT (ds.map T.d)).map PyData.list = _
  rw [flatT_d]; rfl
def oFvS (o : Option (List C)) (f : List C → Option D) : Option D := match o with | some env' => oScal (f env') | none => none
theorem ev_fvS {f : List C → Option D} : eFvS i f env = oFvS (putFz i env) f := by
  unfold eFvS oFvS oScal
  cases putFz i env <;> rfl
theorem ev_oFvS {f : List C → Option D} : oFvS (some e) f = oScal (f e) := (rfl)
def oNotNT (o : Option T) : Option Bool := o.map fun u => !isNT u
theorem ev_rNotN : rNotN r env = oNotNT (r env) := (rfl)
theorem ev_oNotNT_n : oNotNT (some (.d .none)) = some false := (rfl)
theorem ev_oNotNT_x {xd : XD} : oNotNT (some (XK xd)) = some true := (rfl)
theorem ev_oNotNT_s {sh : Shp} : oNotNT (some (.n sh ts)) = some true := (rfl)
def oIsNT (o : Option T) : Option Bool := o.map isNT
theorem ev_rIsN : rIsN r env = oIsNT (r env) := (rfl)
theorem ev_oIsNT_n : oIsNT (some (.d .none)) = some true := (rfl)
theorem ev_oIsNT_x {xd : XD} : oIsNT (some (XK xd)) = some false := (rfl)
theorem ev_oIsNT_s {sh : Shp} : oIsNT (some (.n sh ts)) = some false := (rfl)
def oTxV (o : Option (List C × T)) : Option (List C × Bool) := match o with | some (e, .d (.bool b)) => some (e, b) | _ => none
theorem ev_txB : txB gx env = oTxV (gx env) := (rfl)
theorem ev_oTxV : oTxV (some (e, .d (.bool bb))) = some (e, bb) := (rfl)
def oTxAnd (o : Option (List C × Bool)) (k : List C → Option (List C × Bool)) : Option (List C × Bool) := match o with | some (e, true) => k e | some (e, false) => some (e, false) | none => none
theorem ev_txAnd : txAnd gt gt2 env = oTxAnd (gt env) gt2 := (rfl)
theorem ev_oTxAnd_t : oTxAnd (some (e, true)) gt = gt e := (rfl)
theorem ev_oTxAnd_f : oTxAnd (some (e, false)) gt = some (e, false) := (rfl)
def oTxOr (o : Option (List C × Bool)) (k : List C → Option (List C × Bool)) : Option (List C × Bool) := match o with | some (e, true) => some (e, true) | some (e, false) => k e | none => none
theorem ev_txOr : txOr gt gt2 env = oTxOr (gt env) gt2 := (rfl)
theorem ev_oTxOr_t : oTxOr (some (e, true)) gt = some (e, true) := (rfl)
theorem ev_oTxOr_f : oTxOr (some (e, false)) gt = gt e := (rfl)
def oSetP (o : Option (List C × T)) (i j : Nat) : Out := match o with | some (e, .n .t [u, w]) => .nx ((e.set i (toC u)).set j (toC w)) | _ => .err
theorem ev_setPair : sSetPair i j gx env = oSetP (gx env) i j := (rfl)
theorem ev_oSetP : oSetP (some (e, .n .t [u, u2])) i j = .nx ((e.set i (toC u)).set j (toC u2)) := (rfl)
def oXC (o : Option (List C × Bool)) : Option (List C × T) := o.map fun p => (p.1, .d (.bool p.2))
theorem ev_xCmp : xCmp g gx fb env = oXC (txCmp g gx fb env) := (rfl)
theorem ev_oXC : oXC (some (e, bb)) = some (e, .d (.bool bb)) := (rfl)
def oFzA (o : Option (List C)) (f : List C → Option D) : Option D := match o with | some e => flatN (f e) | none => none
theorem ev_fzA {p : List Nat} {f : List C → Option D} : eFzA i p f env = oFzA (fzAt i p env) f := (rfl)
theorem ev_oFzA {f : List C → Option D} : oFzA (some e) f = flatN (f e) := (rfl)
def oTLst (c : Option C) : Option Bool := match c with | some (.lst ds) => some (!ds.isEmpty) | _ => none
theorem ev_tLst : tLst i env = oTLst env[i]? := (rfl)
theorem ev_oTLst : oTLst (some (.lst ds)) = some (!ds.isEmpty) := (rfl)
theorem ev_fzR {p : List Nat} {f : List C → Option D} : eFzR i p f env = oFzA (fzRo i p env) f := (rfl)
def oForA (o : Option (List AI)) (b : List C → Out) (env : List C) : Out := match o with | some l => forA b l env | none => .err
theorem ev_forA {f : List C → Option (List AI)} : sForA f b env = oForA (f env) b env := (rfl)
theorem ev_oForA {l : List AI} : oForA (some l) b env = forA b l env := (rfl)
def oDropY (o : Option OY) : Out := match o with | some (.ok e _) => .nx e | some (.xc e x) => .xc e x | none => .err
theorem ev_dropY {gy : List C → Option OY} : sDropY gy env = oDropY (gy env) := (rfl)
theorem ev_oDropY_ok {y : T} : oDropY (some (.ok e y)) = .nx e := (rfl)
theorem ev_oDropY_xc {xd : XD} : oDropY (some (.xc e xd)) = .xc e xd := (rfl)
def oCallP (o : Option (List IP × List T)) (g : List T → Option Rz) (rd : List Nat) (env : List C) : Option OY := match o with
  | some (ips, us) => if okP ips rd = true then (match g us with
    | some (.ok us' y) => some (.ok (putsP ips us' env) y)
    | some (.ex us' xd) => some (.xc (putsP ips us' env) xd)
    | none => none) else none
  | none => none
theorem ev_callP {g : List T → Option Rz} {rd : List Nat} : yCallP g rd rs env = oCallP (rs env) g rd env := (rfl)
def oTxNN : Option (List C × T) → Option (List C × Bool) | some (e, .d c) => some (e, !isNT (.d c)) | _ => none
theorem ev_txNotN : txNotN gx env = oTxNN (gx env) := (rfl)
theorem ev_oTxNN_n : oTxNN (some (e, .d .none)) = some (e, false) := (rfl)
def oXOY : Option OY → Option (List C × T) | some (.ok e u) => some (e, u) | _ => none
theorem ev_xOfY {gy : List C → Option OY} : xOfY gy env = oXOY (gy env) := (rfl)
theorem ev_oXOY {y : T} : oXOY (some (.ok e y)) = some (e, y) := (rfl)
theorem ev_join {ys : List Str} {s : Str} (h : (((ys.map (·.length)).sum : Nat) : Int) + (ys.length : Int) * (s.length : Int) ≤ 16777216) : gJoin (.str s) (.list (ys.map .str)) = some (.str (Txt.join s ys)) := by
  show (strsD (ys.map .str)).bind _ = _
  rw [strsD_map, Option.bind_some, if_pos (by omega)]
theorem ev_split {s t : Str} (h : 0 < (t.length : Int)) (h2 : (s.length : Int) ≤ 16000000) : gSplit (.str s) (.str t) = some (.list ((Txt.split s t).map .str)) := if_pos ⟨by omega, by rw [sizeLine_eq]; omega⟩
theorem ev_part {s t : Str} (h : 0 < (t.length : Int)) (h2 : (s.length : Int) ≤ 16000000) : gPart (.str s) (.str t) = some (.tuple [.str (Txt.partition s t).1, .str (Txt.partition s t).2.1, .str (Txt.partition s t).2.2]) := if_pos ⟨by omega, by rw [sizeLine_eq]; omega⟩
theorem ev_tgL {k : List D → List C → Option (List C)} : tgL k (.list ds) env = k ds env := (rfl)
end
end DL
namespace DL
open PySem PySem.Spec L2
def EV0 := And.intro @ev_bs <| And.intro @ev_bn <| And.intro @ev_ms <| And.intro @ev_mn <| And.intro @ev_g0 <| And.intro @ev_gs <| And.intro @ev_s0 <| And.intro @ev_ss <| And.intro @ev_bn1 <| And.intro @ev_bn2 <| And.intro @ev_seq <| And.intro @ev_seq_nx <| And.intro @ev_seq_rt <| And.intro @ev_seq_bk <| And.intro @ev_seq_ct <| And.intro @ev_nil <| And.intro @ev_brk <| And.intro @ev_cnt <| And.intro @ev_if <| And.intro @ev_if_t <| And.intro @ev_if_f <| And.intro @ev_set <| And.intro @ev_oset <| And.intro @ev_setL <| And.intro @ev_osetL <| And.intro @ev_drop <| And.intro @ev_odrop <| And.intro @ev_ret <| And.intro @ev_oret <| And.intro @ev_retN <| And.intro @ev_retL <| And.intro @ev_oretL <| And.intro @ev_orun <| And.intro @ev_orunN <| And.intro @ev_orunN_nx <| And.intro @ev_fz <| And.intro @ev_fz_l <| And.intro @ev_fz_v <| And.intro @ev_app <| And.intro @ev_app_s <| And.intro @ev_clear <| And.intro @ev_clear_s <| And.intro @ev_oNx <| And.intro @ev_asg <| And.intro @ev_asg_s <| And.intro @ev_par <| And.intro @ev_par_s <| And.intro @ev_aug <| And.intro @ev_aug_s <| And.intro @ev_setIx <| And.intro @ev_setIx_s <| And.intro @ev_augIx <| And.intro @ev_dictN <| And.intro @ev_notInN <| And.intro @ev_oNotInN <| And.intro @ev_putN <| And.intro @ev_oPutN <| And.intro @ev_for <| And.intro @ev_ofor <| And.intro @ev_V <| And.intro @ev_L <| And.intro @ev_B <| @ev_rdV
def EV1 := And.intro @ev_rdLv <| And.intro @ev_rdLl <| And.intro @ev_rdBv <| And.intro @ev_rdBb <| And.intro @ev_C <| And.intro @ev_e2 <| And.intro @ev_o2 <| And.intro @ev_e1 <| And.intro @ev_e3 <| And.intro @ev_o3 <| And.intro @ev_pN <| And.intro @ev_pS <| And.intro @ev_oPS <| And.intro @ev_aNil <| And.intro @ev_aCons <| And.intro @ev_oCons <| And.intro @ev_tup <| And.intro @ev_lst <| And.intro @ev_oLst <| And.intro @ev_scal <| And.intro @ev_scal_i <| And.intro @ev_scal_s <| And.intro @ev_scal_b <| And.intro @ev_neg <| And.intro @ev_oNeg <| And.intro @ev_tB <| And.intro @ev_asB <| And.intro @ev_tNot <| And.intro @ev_tAnd <| And.intro @ev_tOr <| And.intro @ev_oAnd_t <| And.intro @ev_oAnd_f <| And.intro @ev_oOr_t <| And.intro @ev_oOr_f <| And.intro @ev_eAnd <| And.intro @ev_eOr <| And.intro @ev_oAndD_t <| And.intro @ev_oAndD_f <| And.intro @ev_oOrD_t <| And.intro @ev_oOrD_f <| And.intro @ev_eNot <| And.intro @ev_oNot <| And.intro @ev_isi <| And.intro @ev_isi_ii <| And.intro @ev_isi_ib <| And.intro @ev_isi_il <| And.intro @ev_isi_it <| And.intro @ev_isi_is <| And.intro @ev_isi_ll <| And.intro @ev_isi_lt <| And.intro @ev_isi_li <| And.intro @ev_isi_lb <| And.intro @ev_isi_tt <| And.intro @ev_isi_tl <| And.intro @ev_isi_ss <| And.intro @ev_isi_bb <| And.intro @ev_isi_bi <| And.intro @ev_isN <| And.intro @ev_notN <| And.intro @ev_oIsN_n <| And.intro @ev_oIsN_i <| And.intro @ev_oIsN_l <| @ev_oIsN_t
def EV2 := And.intro @ev_oNotN_n <| And.intro @ev_oNotN_i <| And.intro @ev_oNotN_l <| And.intro @ev_oNotN_t <| And.intro @ev_rev <| And.intro @ev_gRev <| And.intro @ev_iAny <| And.intro @ev_oAny_l <| And.intro @ev_oAny_t <| And.intro @ev_iSeqB <| And.intro @ev_oSeqB <| And.intro @ev_iEnum <| And.intro @ev_oEnum <| And.intro @ev_iZip <| And.intro @ev_oZip_ll <| And.intro @ev_oZip_tt <| And.intro @ev_oZip_lt <| And.intro @ev_oZip_tl <| And.intro @ev_iRng1 <| And.intro @ev_rng1_s <| And.intro @ev_iRng2 <| And.intro @ev_rng2_s <| And.intro @ev_tgN <| And.intro @ev_tgNil <| And.intro @ev_tgCons <| And.intro @ev_tgT <| And.intro @ev_wipe_nil <| And.intro @ev_wipe_cons <| And.intro @ev_lc <| And.intro @ev_oLc <| And.intro @ev_add <| And.intro @ev_addIS <| And.intro @ev_add_ll <| And.intro @ev_add_tt <| And.intro @ev_addL <| And.intro @ev_repL <| And.intro @ev_rep <| And.intro @ev_sub <| And.intro @ev_mul <| And.intro @ev_mod <| And.intro @ev_div <| And.intro @ev_modA <| And.intro @ev_divA <| And.intro @ev_pow <| And.intro @ev_lt <| And.intro @ev_le <| And.intro @ev_gt <| And.intro @ev_ge <| And.intro @ev_eq <| And.intro @ev_ne <| And.intro @ev_eqs <| And.intro @ev_nes <| And.intro @ev_eqb <| And.intro @ev_neb <| And.intro @ev_len <| And.intro @ev_lenT <| And.intro @ev_list <| And.intro @ev_listT <| And.intro @ev_tuple <| And.intro @ev_tupleT <| And.intro @ev_int <| And.intro @ev_intb <| @ev_sum
def EV3 := And.intro @ev_sum0 <| And.intro @ev_max2 <| And.intro @ev_min2 <| And.intro @ev_sl <| And.intro @ev_slT <| And.intro @ev_slL <| And.intro @ev_slB <| And.intro @ev_divAZ <| And.intro @ev_divZ <| And.intro @ev_onNx <| And.intro @ev_while <| And.intro @ev_eq_li <| And.intro @ev_ne_li <| And.intro @ev_eq_self <| And.intro @ev_ne_self <| And.intro @ev_eq_selfT <| And.intro @ev_ne_selfT <| And.intro @ev_ne_nil <| And.intro @ev_eq_nil <| And.intro @ev_sorted_i <| And.intro @ev_listRg <| And.intro @ev_oListRg <| And.intro @ev_in_ii <| And.intro @ev_thaw <| And.intro @ev_oThaw <| And.intro @ev_flatO <| And.intro @ev_tThaw <| And.intro @ev_otThaw <| And.intro @ev_move <| And.intro @ev_oMove <| And.intro @ev_iEnumG <| And.intro @ev_oEnumG_l <| And.intro @ev_oEnumG_t <| And.intro @ev_gNotB <| And.intro @ev_nD <| And.intro @ev_nL <| And.intro @ev_oNL <| And.intro @ev_xN <| And.intro @ev_nsNil <| And.intro @ev_nsCons <| And.intro @ev_oNs <| And.intro @ev_nDictQ <| And.intro @ev_nDictK <| And.intro @ev_nLst <| And.intro @ev_nTup <| And.intro @ev_toC_d <| And.intro @ev_toC_n <| And.intro @ev_setX <| And.intro @ev_oSetX <| And.intro @ev_setN <| And.intro @ev_oSetN <| And.intro @ev_dropX <| And.intro @ev_oDropX <| And.intro @ev_retX <| And.intro @ev_oRetX <| And.intro @ev_retXN <| And.intro @ev_seq_rx <| And.intro @ev_ifX <| And.intro @ev_oIfX_t <| And.intro @ev_oIfX_f <| And.intro @ev_oTxB <| And.intro @ev_txCmp <| @ev_oTxC
def EV4 := And.intro @ev_txP <| And.intro @ev_txNot <| And.intro @ev_oTxN <| And.intro @ev_pNm <| And.intro @ev_nodeAt <| And.intro @ev_oNode <| And.intro @ev_sub0 <| And.intro @ev_subS <| And.intro @ev_putAt <| And.intro @ev_oPutA <| And.intro @ev_put0 <| And.intro @ev_putS <| And.intro @ev_oTp <| And.intro @ev_rN <| And.intro @ev_cell_own <| And.intro @ev_cell_ro <| And.intro @ev_cell_val <| And.intro @ev_cell_lst <| And.intro @ev_roN <| And.intro @ev_oRo <| And.intro @ev_rF <| And.intro @ev_oRF <| And.intro @ev_rI <| And.intro @ev_oRI <| And.intro @ev_rLeaf <| And.intro @ev_oLeaf <| And.intro @ev_rFlat <| And.intro @ev_rView <| And.intro @ev_flatV1 <| And.intro @ev_flatV1d <| And.intro @ev_eOw <| And.intro @ev_oEow <| And.intro @ev_fldP <| And.intro @ev_ixP <| And.intro @ev_nd1 <| And.intro @ev_nd2 <| And.intro @ev_seq_xc <| And.intro @ev_rKK <| And.intro @ev_iKK <| And.intro @ev_oKK <| And.intro @ev_eLenO <| And.intro @ev_oLenO_l <| And.intro @ev_oLenO <| And.intro @ev_eListK <| And.intro @ev_oListK <| And.intro @ev_trInK <| And.intro @ev_trNinK <| And.intro @ev_raise1 <| And.intro @ev_oE1 <| And.intro @ev_raise2 <| And.intro @ev_oE2 <| And.intro @ev_raise0 <| And.intro @ev_setY <| And.intro @ev_oSetY_ok <| And.intro @ev_oSetY_xc <| And.intro @ev_try <| And.intro @ev_oTry_nx <| And.intro @ev_retPair <| And.intro @ev_oPair_vv <| And.intro @ev_oPair_vo <| And.intro @ev_xIx2 <| And.intro @ev_oIx2 <| @ev_rPl
def EV5 := And.intro @ev_oRPl <| And.intro @ev_forL <| And.intro @ev_oForL <| And.intro @ev_onlyRt <| And.intro @ev_eDn <| And.intro @ev_oDn_l <| And.intro @ev_oDn_d <| And.intro @ev_mpRo <| And.intro @ev_oMpRo <| And.intro @ev_mpNil <| And.intro @ev_runV <| And.intro @ev_eVw <| And.intro @ev_oVw <| And.intro @ev_sumA <| And.intro @ev_sumT <| And.intro @ev_eRlf <| And.intro @ev_oRlf <| And.intro @ev_fvS <| And.intro @ev_oFvS <| And.intro @ev_rNotN <| And.intro @ev_oNotNT_n <| And.intro @ev_oNotNT_x <| And.intro @ev_oNotNT_s <| And.intro @ev_rIsN <| And.intro @ev_oIsNT_n <| And.intro @ev_oIsNT_x <| And.intro @ev_oIsNT_s <| And.intro @ev_txB <| And.intro @ev_oTxV <| And.intro @ev_txAnd <| And.intro @ev_oTxAnd_t <| And.intro @ev_oTxAnd_f <| And.intro @ev_txOr <| And.intro @ev_oTxOr_t <| And.intro @ev_oTxOr_f <| And.intro @ev_setPair <| And.intro @ev_oSetP <| And.intro @ev_xCmp <| And.intro @ev_oXC <| And.intro @ev_fzA <| And.intro @ev_oFzA <| And.intro @ev_tLst <| And.intro @ev_oTLst <| And.intro @ev_fzR <| And.intro @ev_forA <| And.intro @ev_oForA <| And.intro @ev_dropY <| And.intro @ev_oDropY_ok <| And.intro @ev_oDropY_xc <| And.intro @ev_callP <| And.intro @ev_txNotN <| And.intro @ev_oTxNN_n <| And.intro @ev_xOfY <| And.intro @ev_oXOY <| And.intro @ev_join <| And.intro @ev_split <| And.intro @ev_part <| And.intro @ev_tgL <| And.intro @ev_ix <| And.intro @ev_ixT <| And.intro @ev_ixB <| @ev_ixBT
end DL
namespace DL
open PySem PySem.Spec L2 PyProof.Rows
def bigN : Nat := 1000000
section
variable {P : Program} {w : World} {K : PySem.W.Frag} {mg : Str → Option Value} {base : Heap} {k n : Nat} {c m : Str} {g : List T → Option Rz}
end
section
variable {X : Cx} {G : GC} {k : Nat} {lv : Nat} {m c : Str} {p pos apos : Pos} {o : Expr} {gp : List C → Option IP}
end
inductive OYs where
  | ok (env : List C) (ds : List D) | xc (env : List C) (x : XD)
structure DYs (X : Cx) (G : GC) (es : List Expr) (g : List C → Option OYs) : Prop where
  ex : ∃ t, PA X es t ∧ ∀ (σ : L2.St) (H F : Hp) (fp : Nat → List Addr) (env : List C) (o : OYs) (Q : List V → Hp → Prop), Rel X.K G env σ H F fp → g env = some o →
    (match o with
      | .ok env' ds => ∀ vs H' F' fp', Rel X.K G env' σ H' F' fp' → Same F F' → DFAll X.K F' vs ds → Q vs H'
      | .xc env' x => ∀ cls d H' F' fp' l, Rel X.K G env' σ H' F' fp' → Same F F' → XC X.K x.c cls → New X.K G H' F' fp' (vX d) (XT x) l → WS X cls d σ H') → t σ H Q
section
variable {X : Cx} {G : GC} {k : RK} {ks : List RK} {e : Expr} {es : List Expr} {f : List C → Option D} {fs : List C → Option (List D)} {gy : List C → Option OY} {g : List C → Option OYs} {pos : Pos}
def ysCons (f : List C → Option D) (g : List C → Option OYs) : List C → Option OYs := fun env => match f env with
  | some d => (match g env with
    | some (.ok e ds) => some (.ok e (d :: ds))
    | some (.xc e x) => some (.xc e x)
    | none => none)
  | none => none
def ysHere (gy : List C → Option OY) (fs : List C → Option (List D)) : List C → Option OYs := fun env => match gy env with
  | some (.ok e (.d d)) => (match fs e with
    | some ds => some (.ok e (d :: ds))
    | none => none)
  | some (.xc e x) => some (.xc e x)
  | _ => none
def yTup (g : List C → Option OYs) : List C → Option OY := fun env => match g env with
  | some (.ok e ds) => some (.ok e (.d (.tuple ds)))
  | some (.xc e x) => some (.xc e x)
  | none => none
def yLst (g : List C → Option OYs) : List C → Option OY := fun env => match g env with
  | some (.ok e ds) => some (.ok e (.n .l (ds.map T.d)))
  | some (.xc e x) => some (.xc e x)
  | none => none
def yAppX (i : Nat) (g : List C → Option OY) : List C → Option OY := fun env => match nodeAt env (i, []), g env with
  | some (.n .l _), some (.ok env1 u) => (match nodeAt env1 (i, []) with
    | some (.n .l ts) => if ts.length < 16000000 then some (.ok (putAt env1 (i, []) (.n .l (ts ++ [u]))) (.d .none)) else none
    | _ => none)
  | some (.n .l _), some (.xc env1 x) => some (.xc env1 x)
  | _, _ => none
def whileX (c : List C → Option (List C × Bool)) (b : List C → Out) : Nat → List C → Out
  | 0, _ => .err
  | n + 1, env => match c env with
    | none => .err
    | some (e0, false) => .nx e0
    | some (e0, true) => match b e0 with
      | .nx e' => whileX c b n e'
      | .ct e' => whileX c b n e'
      | .bk e' => .nx e'
      | .rt d => .rt d
      | .err => .err
      | .rx e t => .rx e t
      | .xc e x => .xc e x
def sWhileX (fuel : List C → Nat) (c : List C → Option (List C × Bool)) (b : List C → Out) : List C → Out := fun env => whileX c b (fuel env) env
def yX (g : List C → Option (List C × T)) : List C → Option OY := fun env => (g env).map fun p => .ok p.1 p.2
def x1T (g : List D → Option D) (gx : List C → Option (List C × T)) : List C → Option (List C × T) := fun env => match gx env with
  | some (e, .d d) => (match g [d] with | some y => some (e, .d y) | none => none)
  | _ => none
def yCallD (g : List D → Option D) (f : List C → Option OYs) : List C → Option OY := fun env => match f env with
  | some (.ok e ds) => (g ds).map fun d => .ok e (.d d)
  | some (.xc e x) => some (.xc e x)
  | none => none
def allF : List Bool → Bool
  | [] => true
  | b :: bs => !b && allF bs
def yCallY (g : List T → Option Rz) (f : List C → Option OYs) : List C → Option OY := fun env => match f env with
  | some (.ok e ds) => (match g (ds.map T.d) with
    | some (.ok _ y) => some (.ok e y)
    | some (.ex _ xd) => some (.xc e xd)
    | none => none)
  | some (.xc e x) => some (.xc e x)
  | none => none
end
end DL
namespace DL
open PySem PySem.Spec L2 PyProof.Rows
abbrev FrK := PySem.W.Frag
def stepH (g : Addr → Option Obj) (l : List Addr) : List Addr := l.flatMap fun a => match g a with
  | some o => He.refsO o
  | none => []
def upH (g : Addr → Option Obj) : Nat → List Addr → List Addr
  | 0, l => l
  | n + 1, l => l ++ upH g n (stepH g l)
def KH (g : Addr → Option Obj) : FrK := He.frG g (upH g 4 [mainGlobals] ++ [cStatics])
structure PartK where
  ck : List (FrK → Bool)
  fn : List He.FnD
def PartK.see (p : PartK) (K : FrK) : Bool × List He.FnV := ((p.ck.all fun f => f K) && p.fn.all fun d => (He.Fa.code d.at_ d.qual).ok K, p.fn.map fun d => He.fnObs K d.at_)
def PartK.due (p : PartK) : Bool × List He.FnV := (true, p.fn.map He.FnD.val)
def SaysK (ps : List PartK) (K : FrK) : Prop := ∀ p ∈ ps, p.see K = p.due
def obK (ps : List PartK) (g : Addr → Option Obj) : List (Bool × List He.FnV) := ps.map fun p => p.see (KH g)
theorem says_of {ps : List PartK} {K : FrK} (h : ps.map (fun p => p.see K) = ps.map PartK.due) : SaysK ps K := by
  induction ps with
  | nil => exact fun _ m => nomatch m
  | cons p ps ih =>
    simp only [List.map_cons, List.cons.injEq] at h
    intro q hq
    rcases List.mem_cons.mp hq with e | m
    · rw [e]; exact h.1
    · exact ih h.2 q m
def hookK (ps : List PartK) : PySem.W.Hook where
  α := List (Bool × List He.FnV)
  obs := fun s => obK ps s.heap.get?
  val := fun _ => ps.map PartK.due
  says := fun _ h => ∃ K : FrK, K.In h ∧ SaysK ps K
  of := fun _ _ e => ⟨_, He.frG_in, says_of e⟩
  keeps := fun _ _ _ ⟨K, hK, c⟩ k => ⟨K, PySem.W.Frag.In.keeps hK k, c⟩
def obT (ps : List PartK) (s : PySem.W.SharedT) : List (Bool × List He.FnV) := obK ps (HandSHeadRun.getT s)
theorem obT_eq (ps : List PartK) (s : PySem.W.SharedT) : obT ps s = (hookK ps).obs s.abs := by
  have e : HandSHeadRun.getT s = s.abs.heap.get? := funext fun a => HandSHeadRun.getT_eq s a
  show obK ps (HandSHeadRun.getT s) = obK ps s.abs.heap.get?
  rw [e]
section
variable {r : PySem.W.OpenRow} {q : Program} {M : Nat} {loose : List Str} {w : World} {p : PartK} {ps : List PartK}
theorem run_add (h1 : HandSHeadRun.RunEq r q (hookK [p]) (obT [p]) M loose w) (h2 : HandSHeadRun.RunEq r q (hookK ps) (obT ps) M loose w) : HandSHeadRun.RunEq r q (hookK (p :: ps)) (obT (p :: ps)) M loose w := fun os => by
  have a := h1 os
  have b := h2 os
  generalize HandSHeadRun.endF (HandSHeadRun.stepQ (HandSHeadRun.denQ HandSHeadRun.tabQ) r.prog w) M r.prog w os = z at a b ⊢
  cases z with
  | none => exact absurd a (by rw [Option.map_none]; exact fun z => nomatch z)
  | some s =>
    have a1 := Option.some.inj a
    have b1 := Option.some.inj b
    have a3 := congrArg (fun x => x.2.2) a1
    have b3 := congrArg (fun x => x.2.2) b1
    have a3' : [p.see (KH (HandSHeadRun.getT s))] = [p.due] := a3
    have b3' : ps.map (fun p => p.see (KH (HandSHeadRun.getT s))) = ps.map PartK.due := b3
    have e : obT (p :: ps) s = (p :: ps).map PartK.due := by
      show p.see (KH (HandSHeadRun.getT s)) :: ps.map (fun p => p.see (KH (HandSHeadRun.getT s))) = p.due :: ps.map PartK.due
      rw [b3']
      simp only [List.cons.injEq, and_true] at a3'
      rw [a3']
    have f1 := congrArg (fun x => x.1) a1
    have f2 := congrArg (fun x => x.2.1) a1
    dsimp only at f1 f2
    show some (_, _, obT (p :: ps) s) = some (true, PySem.W.openGood q loose, (p :: ps).map PartK.due)
    rw [f1, f2, e]
end
section
variable {ps : List PartK} {p : PartK} {K : FrK}
theorem SaysK.ck (c : SaysK ps K) (i : Nat) (h : ps[i]? = some p) (j : Nat) {f : FrK → Bool} (hf : p.ck[j]? = some f) : f K = true := by
  have e := congrArg Prod.fst (c p (List.mem_of_getElem? h))
  have e1 : ((p.ck.all fun f => f K) && p.fn.all fun d => (He.Fa.code d.at_ d.qual).ok K) = true := e
  exact List.all_eq_true.mp (Bool.and_eq_true_iff.mp e1).1 f (List.mem_of_getElem? hf)
theorem SaysK.fn (c : SaysK ps K) (i : Nat) (h : ps[i]? = some p) (j : Nat) {d : He.FnD} (hd : p.fn[j]? = some d) :
    ∃ oc od osl kV doc pm an cdv ct, K.lookup (He.fAd K d.at_) = some ⟨oc, od, .func (PySem.W.fnOf d.name d.qual d.params d.body d.scope .none kV doc pm an cdv ct), osl⟩ ∧ PySem.W.codeIn K cdv d.qual = true := by
  have e := c p (List.mem_of_getElem? h)
  have e1 : ((p.ck.all fun f => f K) && p.fn.all fun d => (He.Fa.code d.at_ d.qual).ok K) = true := congrArg Prod.fst e
  have e2 : p.fn.map (fun d => He.fnObs K d.at_) = p.fn.map He.FnD.val := congrArg Prod.snd e
  have e3 : (p.fn.map fun d => He.fnObs K d.at_)[j]? = (p.fn.map He.FnD.val)[j]? := by rw [e2]
  rw [List.getElem?_map, List.getElem?_map, hd] at e3
  exact He.fn_ok (Option.some.inj e3) (List.all_eq_true.mp (Bool.and_eq_true_iff.mp e1).2 d (List.mem_of_getElem? hd))
end
def cGlo (x : Str) : FrK → Bool := fun K => (He.Fa.glo x).ok K
def cKeep (x : Str) : FrK → Bool := fun K => (He.Fa.keep x).ok K
def cFree (x : Str) : FrK → Bool := fun K => (He.Fa.free x).ok K
def cInt (x : Str) (i : Int) : FrK → Bool := fun K => (He.Fa.int x i).ok K
def cStr (x y : Str) : FrK → Bool := fun K => (He.Fa.str x y).ok K
def cCls (x : Str) : FrK → Bool := fun K => (He.Fa.cls x).ok K
def cNo (x f : Str) : FrK → Bool := fun K => (He.Fa.noat x f).ok K
def cMeth (x m : Str) : FrK → Bool := fun K => (He.Fa.meth x m).ok K
def cMkr (x : Str) : FrK → Bool := fun K => (He.Fa.mkr x).ok K
def cTup (x : Str) (l : List Int) : FrK → Bool := fun K => (He.Fa.glo x).ok K && He.tupB K x (l.map He.Dv.int)
section
variable {K : FrK} {h : Heap} {mg : Str → Option Value} {x f m : Str}
theorem cGlo_a (c : cGlo x K = true) : PySem.W.nsIn K mainGlobals x = some (some (.ref (He.ga K x))) := He.eqO_ok c
def exB (K : FrK) (C : Addr) (p : Addr → List Value → Bool) : Bool := match K.lookup C with
  | some ⟨.type "type", _, .cls c, l⟩ => (match c.mro, l.toList with
    | .ref D :: bm, [_, _, _, _, some (.builtin n), _] => D == C && (n == "ValueError.__new__" && (!c.hasDel && (c.hasDict && p c.ns bm)))
    | _, _ => false)
  | _ => false
theorem exB_ok {C : Addr} {p : Addr → List Value → Bool} (q : exB K C p = true) : ∃ nm qn N bs bm sn sub ab col dd k0 k1 k2 k3 k5, K.lookup C = some (excClassObj nm qn C N bs bm true sn sub ab col dd k0 k1 k2 k3 k5 "ValueError.__new__") ∧ p N bm = true := by
  unfold exB at q
  split at q
  · rename_i dd cd sl ho
    split at q
    · rename_i D bm k0 k1 k2 k3 n k5 hm hs
      simp only [Bool.and_eq_true, beq_iff_eq, Bool.not_eq_true'] at q
      obtain ⟨rfl, rfl, hdel, hdt, ht⟩ := q
      obtain ⟨nm, bs, mro, ns, qn, hd, sn, sub, ab, col, del⟩ := cd
      dsimp only at hm hdel hdt ht
      subst hm hdel hdt
      have hsl : sl = #[k0, k1, k2, k3, some (.builtin "ValueError.__new__"), k5] := by
        obtain ⟨l⟩ := sl
        simp only at hs
        rw [hs]
      subst hsl
      exact ⟨nm, qn, ns, bs, bm, sn, sub, ab, col, dd, k0, k1, k2, k3, k5, ho, ht⟩
    · cases q
  · cases q
def cX (x : Str) : FrK → Bool := fun K => cGlo x K && (exB K (He.ga K x) (fun _ bm => PySem.HandSPX.refsVE bm) && (He.eqO (PySem.W.findIn K (.ref (He.ga K x)) "__setattr__") (some (some (.builtin "object.__setattr__"))) && (decide (PySem.W.subIn K (.ref (He.ga K x)) (.type "BaseException") = some true) && (decide (PySem.W.typeIn K (.ref (He.ga K x)) = some (.type "type")) && PySem.W.keepIn K (.ref (He.ga K x))))))
theorem cX_ok (c : cX x K = true) : PySem.W.nsIn K mainGlobals x = some (some (.ref (He.ga K x))) ∧ OexC K (He.ga K x) := by
  obtain ⟨c0, c⟩ := Bool.and_eq_true_iff.mp c
  obtain ⟨c1, c⟩ := Bool.and_eq_true_iff.mp c
  obtain ⟨c2, c⟩ := Bool.and_eq_true_iff.mp c
  obtain ⟨c3, c⟩ := Bool.and_eq_true_iff.mp c
  obtain ⟨c4, c5⟩ := Bool.and_eq_true_iff.mp c
  exact ⟨cGlo_a c0, exB_ok c1, He.eqO_ok c2, of_decide_eq_true c3, of_decide_eq_true c4, c5⟩
theorem oex_cls {C : Addr} (T : OexC K C) : ∃ cd, PySem.W.clsIn K C = some cd := by
  obtain ⟨_, _, _, _, _, _, _, _, _, _, _, _, _, _, _, l, _⟩ := T.cls
  exact cls_lk l
def cBase (x : Str) : FrK → Bool := fun K => PySem.W.readsIn K (He.ga K x) (.type "type") && (He.eqO (PySem.W.specialIn K (.ref (He.ga K x)) "__getattribute__") (some (some (.builtin "type.__getattribute__"))) && (match PySem.W.findCls K (.ref (He.ga K x)) (.type "type") "__init__" with
  | some (.val (.builtin n)) => n == "ValueError.__init__"
  | _ => false))
theorem cBase_ok (X : K.In h) (G : h.Ns mainGlobals mg) (g : cX x K = true) (c : cBase x K = true) : BaseC K mg x (He.ga K x) := by
  obtain ⟨c1, c⟩ := Bool.and_eq_true_iff.mp c
  obtain ⟨c2, c3⟩ := Bool.and_eq_true_iff.mp c
  refine ⟨PySem.W.mg_of X G (cX_ok g).1, c1, He.eqO_ok c2, ?_⟩
  revert c3
  split
  · rename_i n e
    intro c3
    rw [e, beq_iff_eq.mp c3]
  · intro c3; cases c3
def cHn : FrK → Bool := fun K => He.eqO (PySem.W.specialIn K (.builtin "object.__class__") "__get__") (some (some (.builtin "getset_descriptor.__get__"))) && decide (PySem.W.takesIn K (.builtin "object.__class__") = some true)
def cXo (x : Str) : FrK → Bool := fun K => He.eqO (PySem.W.findIn K (.ref (He.ga K x)) "__getattribute__") (some (some (.builtin "BaseException.__getattribute__"))) && (He.eqO (PySem.W.findIn K (.ref (He.ga K x)) "__getattr__") (some none) && (PySem.W.hasDictIn K (He.ga K x) && (He.eqO (PySem.W.findIn K (.ref (He.ga K x)) "__class__") (some (some (.builtin "object.__class__"))) && (decide (PySem.W.mroIn K (He.ga K x) (.type "object") = some true) && decide (PySem.W.subIn K (.ref (He.ga K x)) (.ref (He.ga K x)) = some true)))))
theorem cXo_ok (g : cX x K = true) (c : cXo x K = true) (n : cHn K = true) : ExOk K x ∧ PySem.W.subIn K (.ref (He.ga K x)) (.ref (He.ga K x)) = some true := by
  obtain ⟨c1, c⟩ := Bool.and_eq_true_iff.mp c
  obtain ⟨c2, c⟩ := Bool.and_eq_true_iff.mp c
  obtain ⟨c3, c⟩ := Bool.and_eq_true_iff.mp c
  obtain ⟨c4, c⟩ := Bool.and_eq_true_iff.mp c
  obtain ⟨c5, c6⟩ := Bool.and_eq_true_iff.mp c
  obtain ⟨n1, n2⟩ := Bool.and_eq_true_iff.mp n
  obtain ⟨g1, T⟩ := cX_ok g
  exact ⟨exok_mk g1 (He.eqO_ok c1) (He.eqO_ok c2) T.exC c3 (He.eqO_ok c4) (He.eqO_ok n1) (of_decide_eq_true n2) (of_decide_eq_true c5), of_decide_eq_true c6⟩
theorem no_atx (g : cX x K = true) (c : cNo x f K = true) : NoAtX K x f := noatx_mk (cX_ok g).1 (He.noat_ok c)
def cXi (x : Str) : FrK → Bool := fun K => cMeth x "__init__" K && decide (PySem.W.typeIn K (.ref (He.ma K (He.ga K x) "__init__")) = some (.type "function"))
theorem cXi_ok (c : cXi x K = true) : PySem.W.findIn K (.ref (He.ga K x)) "__init__" = some (some (.ref (He.ma K (He.ga K x) "__init__"))) ∧ PySem.W.typeIn K (.ref (He.ma K (He.ga K x) "__init__")) = some (.type "function") ∧ PySem.W.keepIn K (.ref (He.ma K (He.ga K x) "__init__")) = true := by
  obtain ⟨c1, c2⟩ := Bool.and_eq_true_iff.mp c
  have m := He.meth_ok c1
  have c3 : (He.Fa.meth x "__init__").ok K = true := c1
  obtain ⟨d1, d⟩ := Bool.and_eq_true_iff.mp c3
  obtain ⟨d2, d3⟩ := Bool.and_eq_true_iff.mp d
  exact ⟨He.eqO_ok d1, of_decide_eq_true c2, d3⟩
def cX0 (b x : Str) : FrK → Bool := fun K => exB K (He.ga K x) (fun N bm => decide (bm = .ref (He.ga K b) :: veT) && (PySem.W.nsOkIn K N && He.eqO (PySem.W.nsIn K N "__init__") (some none)))
def cXb (b : Str) : FrK → Bool := fun K => exB K (He.ga K b) (fun N bm => decide (bm = veT) && (PySem.W.nsOkIn K N && He.eqO (PySem.W.nsIn K N "__init__") (some none)))
theorem cX0_ok (X : K.In h) (G : h.Ns mainGlobals mg) {b : Str} (g : cX x K = true) (c : cX0 b x K = true) (cb : cXb b K = true) : MkE0 K mg x := by
  obtain ⟨g1, T⟩ := cX_ok g
  obtain ⟨_, _, _, _, _, _, _, _, _, _, _, _, _, _, _, l, p⟩ := exB_ok c
  obtain ⟨_, _, _, _, _, _, _, _, _, _, _, _, _, _, _, lb, pb⟩ := exB_ok cb
  obtain ⟨p1, p⟩ := Bool.and_eq_true_iff.mp p
  obtain ⟨p2, p3⟩ := Bool.and_eq_true_iff.mp p
  obtain ⟨q1, q⟩ := Bool.and_eq_true_iff.mp pb
  obtain ⟨q2, q3⟩ := Bool.and_eq_true_iff.mp q
  rw [of_decide_eq_true p1] at l
  rw [of_decide_eq_true q1] at lb
  exact mk0_mk g1 (PySem.W.mg_of X G g1) l p2 (He.eqO_ok p3) lb q2 (He.eqO_ok q3) T.kC T.exC T.tyC
def cSub (x y : Str) (b : Bool) : FrK → Bool := fun K => decide (PySem.W.subIn K (.ref (He.ga K x)) (.ref (He.ga K y)) = some b)
def cSubT (x : Str) (t : String) : FrK → Bool := fun K => decide (PySem.W.subIn K (.ref (He.ga K x)) (.type t) = some true)
theorem is_ref {y : Str} {b : Bool} (gx : cX x K = true) (gy : cX y K = true) (c : cSub x y b K = true) (s : PySem.W.subIn K (.ref (He.ga K x)) (.ref (He.ga K x)) = some true) : IsOk K x (.ref (He.ga K y)) b :=
  kit_ref (cX_ok gx).1 (of_decide_eq_true c) s (oex_cls (cX_ok gy).2).choose_spec (cX_ok gy).2.tyC
theorem is_type {t : String} (gx : cX x K = true) (c : cSubT x t K = true) (hm : PySem.W.kitMeta t = true) : IsOk K x (.type t) true := kit_type (cX_ok gx).1 (of_decide_eq_true c) hm
theorem fun_at {x q : Str} {p : Str × Option Str} {st : Stmt} (k : PySem.W.keepIn K (.ref (He.fAd K p)) = true) (e : ∃ oc od osl kV doc pm an cdv ct, K.lookup (He.fAd K p) = some ⟨oc, od, .func (PySem.W.fnOf x q (defArgs st) (defBody st) (defScope st) .none kV doc pm an cdv ct), osl⟩ ∧ PySem.W.codeIn K cdv q = true) : ∃ fd, Fun K x q st (He.fAd K p) fd := by
  obtain ⟨_, _, _, _, _, _, _, _, _, l, c⟩ := e
  exact ⟨_, fun_mk (st := st) l c k⟩
end
end DL
namespace DL
open PySem PySem.Spec L2 TL
def tS (n : Int) : Str := Str.ofString (toString n)
def intL (n : Int) : List Nat := if n < 0 then 45 :: numL n.natAbs else numL n.natAbs
def spS (l : List Int) : Str := Txt.join ("" : Str) (l.map fun n => (" " : Str) ++ tS n)
end DL
namespace DL
open PySem PySem.Spec L2 TL
def wordsL (ws : List Str) : List Nat := joinL [32] (ws.map tl)
end DL
namespace DL
open PySem PySem.Spec L2
section
variable {env env1 : List C} {i : Nat} {c m : Str} {fl fl1 : List Str} {ts ts1 us : List T} {gx : List C → Option (List C × T)} {y : D} {u' z : T} {rs : List C → Option (List T)} {gp : List C → Option IP} {p : List Nat} {ds : List D}
end
end DL
namespace DL
open PySem PySem.Spec L2 PyProof.Rows
def rRep1 (K : PySem.W.Frag) : R2 := fun x y H Q => ∃ l xs, x = .ref l ∧ y = .int 1 ∧ SqT K H l xs ∧ Q (.ref l) H
def rRep0 (K : PySem.W.Frag) : R2 := fun x y H Q => ∃ l xs, x = .ref l ∧ y = .int 0 ∧ SqT K H l xs ∧ xs ≠ [] ∧ ∀ p, H p = none → Q (.ref p) (upd H p (.tup []))
section
variable {X : Cx} {G : GC}
def gMulT1 : D → D → Option D | .tuple xs, .int 1 => some (.tuple xs) | _, _ => none
def gMulT0 : D → D → Option D | .tuple xs, .int 0 => if xs ≠ [] then some (.tuple []) else none | _, _ => none
def gMulTA : D → D → Option D := gOr gMulT1 (gOr gMulT0 gMulT)
def gX (g : List T → Option Rz) : List D → Option D := fun ds => match g (ds.map T.d) with
  | some (.ok _ (.d d)) => some d
  | _ => none
end
end DL
namespace DL
open PySem PySem.Spec L2 PyProof.Rows
section
variable {X : Cx} {G : GC} {k k2 : RK} {e es : Expr} {f : List C → Option D} {fs : List C → Option (Option Int)} {pos p3 : Pos}
def stepV (i : Int) (xs : List V) : List V := if i = -1 then xs.reverse else xs
def tStep (K : PySem.W.Frag) (te : TE) (ts : TO) : TE := fun σ H Q => te σ H fun x H1 => ts σ H1 fun o H2 => ∃ a xs i, x = .ref a ∧ o = some i ∧ (i = 1 ∨ i = -1) ∧ SqL K H2 a xs ∧ ∀ n, H2 n = none → Q (.ref n) (upd H2 n (.lst (stepV i xs)))
def gStep : D → Option Int → Option D | .list xs, some i => if i = 1 ∨ i = -1 then some (.list (if i = -1 then xs.reverse else xs)) else none | _, _ => none
def eStep (f : List C → Option D) (fs : List C → Option (Option Int)) : List C → Option D := fun env => (f env).bind fun x => (fs env).bind fun o => gStep x o
end
end DL
namespace DL
open PySem PySem.Spec L2
section
variable {env e e1 e0 : List C} {i j n : Nat} {fe : List C → Option D} {fs : List C → Option (List D)} {gx : List C → Option (List C × T)} {gy : List C → Option OY} {gz : List C → Option OYs} {u : T} {d y : D} {ds : List D} {ts : List T} {xd : XD} {b : List C → Out}
def oYX (o : Option (List C × T)) : Option OY := o.map fun p => .ok p.1 p.2
theorem ev_yX : yX gx env = oYX (gx env) := (rfl)
theorem ev_oYX : oYX (some (e, u)) = some (.ok e u) := (rfl)
def oX1T (o : Option (List C × T)) (g : List D → Option D) : Option (List C × T) := match o with
  | some (e, .d d) => (match g [d] with | some y => some (e, .d y) | none => none)
  | _ => none
theorem ev_x1T {g : List D → Option D} : x1T g gx env = oX1T (gx env) g := (rfl)
def oYsC (o : Option D) (p : Option OYs) : Option OYs := match o with
  | some d => (match p with
    | some (.ok e ds) => some (.ok e (d :: ds))
    | some (.xc e x) => some (.xc e x)
    | none => none)
  | none => none
theorem ev_ysC : ysCons fe gz env = oYsC (fe env) (gz env) := by
  unfold ysCons oYsC; cases fe env <;> rfl
theorem ev_oYsC_ok : oYsC (some d) (some (.ok e ds)) = some (.ok e (d :: ds)) := (rfl)
theorem ev_oYsC_xc : oYsC (some d) (some (.xc e xd)) = some (.xc e xd) := (rfl)
def oYsH2 (e : List C) (d : D) (o : Option (List D)) : Option OYs := match o with | some ds => some (.ok e (d :: ds)) | none => none
theorem ev_oYsH2 : oYsH2 e d (some ds) = some (.ok e (d :: ds)) := (rfl)
def oYsH (o : Option OY) (fs : List C → Option (List D)) : Option OYs := match o with
  | some (.ok e (.d d)) => oYsH2 e d (fs e)
  | some (.xc e x) => some (.xc e x)
  | _ => none
theorem ev_ysH : ysHere gy fs env = oYsH (gy env) fs := by
  unfold ysHere oYsH oYsH2
  cases gy env with
  | none => rfl
  | some o =>
    cases o with
    | xc _ _ => rfl
    | ok e u => cases u <;> rfl
theorem ev_oYsH_ok : oYsH (some (.ok e (.d d))) fs = oYsH2 e d (fs e) := (rfl)
theorem ev_oYsH_xc : oYsH (some (.xc e xd)) fs = some (.xc e xd) := (rfl)
def oYT (o : Option OYs) : Option OY := match o with
  | some (.ok e ds) => some (.ok e (.d (.tuple ds)))
  | some (.xc e x) => some (.xc e x)
  | none => none
theorem ev_yTup : yTup gz env = oYT (gz env) := (rfl)
theorem ev_oYT_ok : oYT (some (.ok e ds)) = some (.ok e (.d (.tuple ds))) := (rfl)
theorem ev_oYT_xc : oYT (some (.xc e xd)) = some (.xc e xd) := (rfl)
def oYL (o : Option OYs) : Option OY := match o with
  | some (.ok e ds) => some (.ok e (.n .l (ds.map T.d)))
  | some (.xc e x) => some (.xc e x)
  | none => none
theorem ev_yLst : yLst gz env = oYL (gz env) := (rfl)
theorem ev_oYL_ok : oYL (some (.ok e ds)) = some (.ok e (.n .l (ds.map T.d))) := (rfl)
theorem ev_oYL_xc : oYL (some (.xc e xd)) = some (.xc e xd) := (rfl)
def oRetY (o : Option OY) : Out := match o with | some (.ok e u) => .rx e u | some (.xc e x) => .xc e x | none => .err
theorem ev_retY : sRetY gy env = oRetY (gy env) := (rfl)
theorem ev_oRetY_ok : oRetY (some (.ok e u)) = .rx e u := (rfl)
theorem ev_oRetY_xc : oRetY (some (.xc e xd)) = .xc e xd := (rfl)
def EVY := And.intro @ev_yX <| And.intro @ev_oYX <| And.intro @ev_x1T <| And.intro @ev_ysC <| And.intro @ev_oYsC_ok <| And.intro @ev_oYsC_xc <| And.intro @ev_oYsH2 <| And.intro @ev_ysH <| And.intro @ev_oYsH_ok <| And.intro @ev_oYsH_xc <| And.intro @ev_yTup <| And.intro @ev_oYT_ok <| And.intro @ev_oYT_xc <| And.intro @ev_yLst <| And.intro @ev_oYL_ok <| And.intro @ev_oYL_xc <| And.intro @ev_retY <| And.intro @ev_oRetY_ok @ev_oRetY_xc
theorem forF_nx {g : D → List C → Option (List C)} (h : g d env = some e0) (h2 : b e0 = .nx e1) : forF g b (d :: ds) env = forF g b ds e1 := by
  conv => lhs; unfold forF
  rw [h]; dsimp only; rw [h2]
theorem forF_0 {g : D → List C → Option (List C)} : forF g b [] env = .nx env := (rfl)
end
end DL
namespace DL
open PySem PySem.Spec L2
section
variable {X : Cx} {G : GC} {kr k : RK} {e e2 : Expr} {es : List Expr} {gp : List C → Option IP} {pos p p1 p2 p3 : Pos} {x y z : Str} {sts body : List Stmt} {fb g : List C → Out}
def sPin2 (s t : Nat) (g : List C → Out) : List C → Out := fun env => match env[s]?, env[t]? with
  | some (.own none (.n .lf ts)), some (.own none (.n .lf us)) => if s ≠ t ∧ env.all noPinC = true then onlyRt (g ((env.set s (.own (some 0) (.n .lf ts))).set t (.own (some 1) (.n .lf us)))) else .err
  | _, _ => .err
def fZipA (s t v w : Nat) : List C → Option (List AI) := fun env => match env[s]?, env[t]? with
  | some (.own (some j) (.n .lf ts)), some (.own (some k) (.n .lf us)) => some ((List.range (min ts.length us.length)).map fun i => [(v, .al j i), (w, .al k i)])
  | _, _ => none
def lendC (i : Nat) : C → C
  | .own _ (.n _ _) => .pin i
  | .lst _ => .pin i
  | .dK _ => .pin i
  | .dT _ => .pin i
  | .dN _ => .pin i
  | .pin _ => .pin i
  | .ro _ (.n _ _) => .pin i
  | .val d => .val d
  | _ => .und
def lendE : Nat → List C → List C
  | _, [] => []
  | i, c :: r => lendC i c :: lendE (i + 1) r
def isPin (i : Nat) : C → Bool | .pin j => j == i | _ => false
def isPn : C → Bool | .pin _ => true | _ => false
def keepV : C → C | .val d => .val d | _ => .und
def backC (i : Nat) (c0 c1 : C) : Option C := if isPn (lendC i c0) = true then (if isPin i c1 = true then some c0 else none) else some (keepV c1)
def backE : Nat → List C → List C → Option (List C)
  | _, [], [] => some []
  | i, c0 :: r0, c1 :: r1 => match backC i c0 c1, backE (i + 1) r0 r1 with
    | some c, some r => some (c :: r)
    | _, _ => none
  | _, _, _ => none
theorem lendE_get : ∀ {k : Nat} {env : List C} {i : Nat}, (lendE k env)[i]? = (env[i]?).map (lendC (k + i))
  | k, [], i => by simp [lendE]
  | k, c :: r, 0 => by simp [lendE]
  | k, c :: r, i + 1 => by
    simp only [lendE, List.getElem?_cons_succ]
    rw [lendE_get (k := k + 1) (env := r) (i := i)]
    have : k + 1 + i = k + (i + 1) := by omega
    rw [this]
theorem lendE_len : ∀ {k : Nat} {env : List C}, (lendE k env).length = env.length
  | k, [] => rfl
  | k, c :: r => by simp [lendE, lendE_len (k := k + 1) (env := r)]
theorem backE_get : ∀ {k : Nat} {e0 e1 e : List C}, backE k e0 e1 = some e → e0.length = e1.length ∧ e.length = e1.length ∧ ∀ i c, e[i]? = some c → ∃ c0 c1, e0[i]? = some c0 ∧ e1[i]? = some c1 ∧ backC (k + i) c0 c1 = some c
  | k, [], [], e, h => by cases h; exact ⟨rfl, rfl, fun i c h => by simp at h⟩
  | k, c0 :: r0, c1 :: r1, e, h => by
    unfold backE at h
    split at h
    · rename_i c r z1 z2
      cases h
      obtain ⟨g1, g2, g3⟩ := backE_get z2
      refine ⟨by simp [g1], by simp [g2], fun i c' hc => ?_⟩
      cases i with
      | zero => simp at hc; subst hc; exact ⟨c0, c1, rfl, rfl, z1⟩
      | succ i =>
        obtain ⟨d0, d1, h1, h2, h3⟩ := g3 i c' (by simpa using hc)
        refine ⟨d0, d1, by simpa using h1, by simpa using h2, ?_⟩
        have : k + 1 + i = k + (i + 1) := by omega
        rw [← this]; exact h3
    · cases h
  | k, [], _ :: _, e, h => by simp [backE] at h
  | k, _ :: _, [], e, h => by simp [backE] at h
def rootV : Option V → Addr × List Addr
  | some (.ref a) => (a, [])
  | _ => (0, [])
def lentG (G : GC) (σ : L2.St) (H F : Hp) : GC := ⟨H, F, σ.map rootV, G.w⟩
theorem lentW {σ : L2.St} {H F : Hp} : (lentG G σ H F).W = [] := by
  unfold lentG GC.W
  rw [List.flatMap_eq_nil_iff]
  intro q hq
  obtain ⟨o, _, rfl⟩ := List.mem_map.mp hq
  unfold rootV
  split <;> rfl
theorem lentKp {σ : L2.St} {H F : Hp} : (lentG G σ H F).kp = H := by
  funext b; unfold GC.kp; rw [lentW]; simp; rfl
section
variable {K : PySem.W.Frag} {env env1 env' : List C} {σ σ1 : L2.St} {H F H1 F1 : Hp} {fp fp1 : Nat → List Addr}
theorem lend_ref (R : Rel K G env σ H F fp) {i : Nat} {c : C} (e : env[i]? = some c) (hp : isPn (lendC i c) = true) : ∃ a, σ[i]? = some (some (.ref a)) := by
  have q := R.slot i c e
  have join : ∀ a, (σ[i]?).join = some (.ref a) → ∃ a, σ[i]? = some (some (V.ref a)) := fun a z => by
    cases y : σ[i]? with
    | none => rw [y] at z; cases z
    | some o => rw [y] at z; exact ⟨a, congrArg some z⟩
  cases c with
  | und => cases hp
  | val d => cases hp
  | brw d => cases hp
  | lst ds => obtain ⟨a, vs, q1, q2, _⟩ := q; exact join a q2
  | dK ds => obtain ⟨a, vs, q1, q2, _⟩ := q; exact join a q2
  | dT ds => obtain ⟨a, vs, q1, q2, _⟩ := q; exact join a q2
  | dN ds => obtain ⟨a, w, xs, q1, q2, _⟩ := q; exact join a q2
  | ro b t =>
    cases t with
    | d _ => cases hp
    | n s ts =>
      obtain ⟨q0, v, l, q1, q2, _⟩ := q
      cases q2 with | n _ _ _ => exact join _ q1
  | pin j => obtain ⟨q0, a, l, _, q1⟩ := q; exact join a q1
  | al j i => cases hp
  | al2 j k i => cases hp
  | own m t =>
    cases t with
    | d _ => cases hp
    | n s ts =>
      obtain ⟨v, q1, q2, _⟩ := q
      generalize fp i = lf at q2
      cases q2 with | n _ _ _ => exact join _ q1
theorem lend_in (R : Rel K G env σ H F fp) : Rel K (lentG G σ H F) (lendE 0 env) σ H F (fun _ => []) where
  len := by rw [lendE_len]; exact R.len
  slot := fun i c e => by
    rw [lendE_get, Nat.zero_add] at e
    cases z : env[i]? with
    | none => rw [z] at e; cases e
    | some c0 =>
      rw [z] at e
      cases e
      have pin : ∀ j, lendC i c0 = .pin j → SlotRep K (lentG G σ H F) H F (σ[i]?.join) (lendC i c0) [] := fun j hj => by
        have hji : j = i := by
          unfold lendC at hj
          split at hj <;> cases hj <;> rfl
        obtain ⟨a, ha⟩ := lend_ref R z (by rw [hj]; rfl)
        rw [hj]
        refine ⟨rfl, a, [], ?_, by rw [ha]; rfl⟩
        show (σ.map rootV)[j]? = some (a, [])
        rw [hji, List.getElem?_map, ha]; rfl
      have q := R.slot i c0 z
      cases c0 with
      | und => exact rfl
      | val d => exact ⟨rfl, q.2⟩
      | brw d => exact rfl
      | lst ds => exact pin i rfl
      | dK ds => exact pin i rfl
      | dT ds => exact pin i rfl
      | dN ds => exact pin i rfl
      | ro b t => cases t with | d _ => exact rfl | n s ts => exact pin i rfl
      | pin j => exact pin i rfl
      | al j i => exact rfl
      | al2 j k i => exact rfl
      | own m t => cases t with | d _ => exact rfl | n s ts => exact pin i rfl
  dj := fun _ _ _ h => nomatch h
  own := fun _ _ h => nomatch h
  sub := R.sub
  new := fun a o e => .inl e
  old := Same.refl _
  keep := fun a o e _ => e
  alive := fun a h => h
theorem lend_ext (R1 : Rel K (lentG G σ H F) env1 σ1 H1 F1 fp1) : Ext H F H1 F1 :=
  ⟨fun b o h => R1.keep b o h (by rw [lentW]; exact fun m => nomatch m), R1.old, R1.sub, R1.new⟩
theorem lend_out (R : Rel K G env σ H F fp) (R1 : Rel K (lentG G σ H F) env1 σ1 H1 F1 fp1) (hb : backE 0 env env1 = some env') : ∃ fp', Rel K G env' σ1 H1 F1 fp' := by
  obtain ⟨l1, l2, hg⟩ := backE_get hb
  have R0 := R.ext (lend_ext R1)
  refine ⟨fun i => match env[i]? with | some c => if isPn (lendC i c) = true then fp i else [] | none => [], ?_⟩
  have sub : ∀ i a, a ∈ (match env[i]? with | some c => if isPn (lendC i c) = true then fp i else [] | none => [] : List Addr) → ∃ c, env[i]? = some c ∧ isPn (lendC i c) = true ∧ a ∈ fp i := fun i a h => by
    split at h
    · rename_i c e
      split at h
      · rename_i hp; exact ⟨c, e, hp, h⟩
      · cases h
    · cases h
  exact {
    len := by rw [l2]; exact R1.len
    slot := fun i c e => by
      obtain ⟨c0, c1, h0, h1, h2⟩ := hg i c e
      rw [Nat.zero_add] at h2
      unfold backC at h2
      rw [h0]
      dsimp only
      split at h2
      · rename_i hp
        rw [if_pos hp]
        split at h2 <;> cases h2
        rename_i hpin
        unfold isPin at hpin
        split at hpin
        rotate_left
        · cases hpin
        rename_i j
        have hj : j = i := by simpa using hpin
        subst hj
        obtain ⟨_, a, l, w1, q1⟩ := R1.slot j _ h1
        obtain ⟨a', ha'⟩ := lend_ref R h0 hp
        have w2 : (σ.map rootV)[j]? = some (a, l) := w1
        rw [List.getElem?_map, ha'] at w2
        cases w2
        rw [q1]
        have q := R0.slot j c h0
        rw [ha'] at q
        exact q
      · rename_i hp
        rw [if_neg hp]
        cases h2
        have q := R1.slot i _ h1
        cases c1 with
        | val d => exact ⟨rfl, q.2⟩
        | _ => exact rfl
    dj := fun i j a h1 h2 => by
      obtain ⟨_, _, _, m1⟩ := sub i a h1
      obtain ⟨_, _, _, m2⟩ := sub j a h2
      exact R.dj i j a m1 m2
    own := fun i a ha => by
      obtain ⟨c, e0, hp, m⟩ := sub i a ha
      obtain ⟨g1, g2, g3⟩ := R0.own i a m
      refine ⟨g1, g2, g3.imp_right fun ⟨w1, c', w2, w3⟩ => ⟨w1, c', ?_, w3⟩⟩
      rw [e0] at w2; cases w2
      have hl : i < env'.length := by rw [l2, ← l1]; exact (List.getElem?_eq_some_iff.mp e0).1
      obtain ⟨d0, d1, h0, h1, h2⟩ := hg i _ (List.getElem?_eq_getElem hl)
      rw [e0] at h0; cases h0
      rw [Nat.zero_add] at h2
      unfold backC at h2
      rw [if_pos hp] at h2
      split at h2 <;> cases h2
      rw [List.getElem?_eq_getElem hl]
    sub := R0.sub
    new := R0.new
    old := R0.old
    keep := R0.keep
    alive := R0.alive }
theorem lend_fin (R : Rel K G env σ H F fp) {H' F' : Hp} (f : Fin (lentG G σ H F) H' F') : Fin G H' F' where
  h := fun a o h hw => f.h a o (R.keep a o h hw) (by rw [lentW]; exact fun m => nomatch m)
  f := R.old.trans f.f
  sub := f.sub
  new := fun a o h => by
    rcases f.new a o h with z | z
    · exact R.new a o z
    · exact .inr (R.h0 z)
end
end
end DL
namespace DL
open PySem PySem.Spec L2
section
variable {X : Cx} {G : GC} {kr k : RK} {e e2 : Expr} {es : List Expr} {gp : List C → Option IP} {pos p p1 p2 p3 : Pos} {x y z : Str} {sts body : List Stmt} {fb g : List C → Out}
def forLend (v w : Nat) (b : List C → Out) : List (T × T) → List C → Out
  | [], env => .nx env
  | u :: r, env => match b ((env.set v (.ro false u.1)).set w (.ro false u.2)) with
    | .nx e => forLend v w b r e
    | .ct e => forLend v w b r e
    | .bk e => .nx e
    | .rt d => .rt d
    | _ => .err
def isLs : Shp → Bool
  | .l => true
  | .lf => true
  | _ => false
def oLend (env : List C) : Out → Out
  | .nx e => (match backE 0 env e with | some e' => .nx e' | none => .err)
  | .rt d => .rt d
  | _ => .err
def sForLend (v w : Nat) (r1 r2 : List C → Option T) (fb : List C → Out) : List C → Out := fun env => match r1 env, r2 env with
  | some (.n s1 ts), some (.n s2 us) => if isLs s1 = true ∧ isLs s2 = true then oLend env (forLend v w fb (ts.zip us) (lendE 0 env)) else .err
  | _, _ => .err
def mpRp (s : Nat) (gp : List C → Option IP) (rs : List C → Option (List IP × List T)) : List C → Option (List IP × List T) := fun env => match gp env with
  | some ip => if ip.1 = s then (match nodeAt env ip with | some u => (rs env).map fun r => (r.1, u :: r.2) | none => none) else none
  | none => none
variable {ks : List Bool} {rd : List Nat} {rs : List C → Option (List IP × List T)}
theorem rel_drop {K : PySem.W.Frag} {env : List C} {σ : L2.St} {H F : Hp} {fp : Nat → List Addr} (R : Rel K G env σ H F fp) (i : Nat) : Rel K G (env.set i .und) σ H F (fset fp i []) where
  len := by rw [List.length_set, R.len]
  slot := fun j c e => by
    by_cases hj : j = i
    · subst hj
      rw [fset_at]
      have hl := (List.getElem?_eq_some_iff.mp e).1
      rw [List.length_set] at hl
      rw [List.getElem?_set_self hl] at e; cases e
      rfl
    · rw [List.getElem?_set_ne (Ne.symm hj)] at e
      rw [fset_ne hj]
      exact R.slot j c e
  dj := fun j k a h1 h2 => by
    by_cases hj : j = i
    · subst hj; rw [fset_at] at h1; cases h1
    · by_cases hk : k = i
      · subst hk; rw [fset_at] at h2; cases h2
      · rw [fset_ne hj] at h1; rw [fset_ne hk] at h2
        exact R.dj j k a h1 h2
  own := fun j a ha => by
    by_cases hj : j = i
    · subst hj; rw [fset_at] at ha; cases ha
    · rw [fset_ne hj] at ha
      obtain ⟨g1, g2, g3⟩ := R.own j a ha
      exact ⟨g1, g2, by rw [List.getElem?_set_ne (Ne.symm hj)]; exact g3⟩
  sub := R.sub
  new := R.new
  old := R.old
  keep := R.keep
  alive := R.alive
def xMv (i : Nat) : List C → Option (List C × T) := fun env => match env[i]? with
  | some (.own none t) => some (env.set i .und, t)
  | _ => none
end
end DL
namespace L2
open PySem PySem.Spec PyProof.Rows
theorem pe_mk {X : Cx} {e : Expr} {t : St → Hp → XK → Prop} (h : PMk X e t) : PE X e (fun σ H Q => t σ H fun cls d H' => ∀ a, H' a = none → Q (.ref a) (upd H' a (exV a cls d))) := by
  refine ⟨fun pins s σ H Q I h0 => ?_⟩
  refine wpAny_mono (h pins s σ H _ I h0) (fun u s1 hu => ?_) fun _ _ x => x
  obtain ⟨a, oe, vs, sI, H', cls, d, rfl, J, k, hne, ha, hz, hd, h1, na, os, ag, r, q⟩ := hu
  have J2 := J.laidN (h' := s1.heap) (t' := s1.toks) (o := exV a cls d) k hne na (exV_ok ha hz ⟨vs, hd⟩)
  exact ⟨.ref a, _, ⟨J2.ok, os.trans J2.os, ag, J2.base, J2.loc, J2.cell, J2.free, J2.freeC, J2.pin, J2.hok, J2.len⟩, rfl, q a na⟩
end L2
namespace DL
open PySem PySem.Spec L2
section
variable {X : Cx} {G : GC} {e : Expr} {g : List C → Option XD}
def nMk (g : List C → Option XD) : List C → Option T := fun env => (g env).map XK
theorem dn_mk (h : DMk X G e g) : DN X G e (nMk g) := by
  obtain ⟨t, pt, o⟩ := h.ex
  refine ⟨_, pe_mk pt, fun σ H F fp env u Q R hf q => ?_⟩
  unfold nMk at hf
  cases z : g env with
  | none => rw [z] at hf; cases hf
  | some x =>
    rw [z] at hf; cases hf
    refine o σ H F fp env x _ R z fun cls d H' F' l E hcl rep fr => ?_
    intro a na
    obtain ⟨CC, nC, rfl⟩ := hcl
    have R' := R.ext E
    have E1 : Ext H' F' (upd H' a (exV a (.ref CC) d)) F' := Ext.laid R'.sub na
    have Fa : F' a = none := R'.sub.free na
    have Ha : H a = none := by
      cases y : H a with
      | none => rfl
      | some o' => rw [E.h a o' y] at na; cases na
    have nw : ∀ b o, H' b = some o → upd H' a (exV a (.ref CC) d) b = some o := fun b o e => E1.h b o e
    have fa : Fresh H (upd H' a (exV a (.ref CC) d)) F' [a] := fun b hb => by
      rw [List.mem_singleton.mp hb]
      exact ⟨Ha, Fa, by rw [upd_same]; intro y; cases y⟩
    unfold XT at rep
    have key : ∃ lk, OR X.K G.w (upd H' a (exV a (.ref CC) d)) F' (.ref a) (XK x) lk ∧ ∀ b, b ∈ lk → b = a ∨ b ∈ l := by
      unfold XK
      cases hfs : x.fs with
      | nil =>
        rw [hfs] at rep
        have rep : OR X.K G.w H' F' (vX d) (.d .none) l := rep
        generalize hvx : vX d = v at rep
        cases rep with
        | d r =>
          have hd : d = none := by
            cases d with
            | none => rfl
            | some dx =>
              have hvx : V.ref dx = v := hvx
              subst hvx
              cases r
          subst hd
          exact ⟨[a], .n (own := [a]) (l := []) ⟨rfl, CC, nC, .inl ⟨rfl, rfl, upd_same⟩⟩ .nil (by simp), fun b hb => .inl (List.mem_singleton.mp hb)⟩
      | cons f r =>
        rw [hfs] at rep
        have rep : OR X.K G.w H' F' (vX d) (.n (.e (f :: r)) (x.ds.map T.d)) l := rep
        cases d with
        | none =>
          have rep : OR X.K G.w H' F' .non (.n (.e (f :: r)) (x.ds.map T.d)) l := rep
          cases rep
        | some dy =>
        have rep : OR X.K G.w H' F' (.ref dy) (.n (.e (f :: r)) (x.ds.map T.d)) l := rep
        cases rep with
        | @n _ dx vs _ own l0 h1 h2 h3 =>
          obtain ⟨rfl, h1, h1'⟩ := h1
          have mo : ∀ b, b ∈ [dy] ++ l0 → b ≠ a := fun b hb e => by
            have := (fr b hb).2.2
            rw [e] at this
            exact this na
          refine ⟨[a, dy] ++ l0, .n (own := [a, dy]) (l := l0) ⟨h1, CC, nC, .inr ⟨dy, rfl, upd_same, nw _ _ h1'⟩⟩ (ORs_mono (Same.refl _) _ _ _ (fun b o _ e => nw b o e) h2) ?_, fun b hb => ?_⟩
          · show (a :: ([dy] ++ l0)).Nodup
            exact List.nodup_cons.mpr ⟨fun hm => mo a hm rfl, h3⟩
          · have hb : b ∈ a :: ([dy] ++ l0) := hb
            rcases List.mem_cons.mp hb with z | z
            · exact .inl z
            · exact .inr z
    obtain ⟨lk, rk, hlk⟩ := key
    refine q (.ref a) _ F' lk (E.trans E1) rk fun b hb => ?_
    rcases hlk b hb with rfl | hb
    · exact fa b List.mem_cons_self
    · obtain ⟨g1, g2, g3⟩ := fr b hb
      refine ⟨g1, g2, ?_⟩
      cases y : H' b with
      | none => exact absurd y g3
      | some o' => rw [nw b o' y]; intro w; cases w
end
end DL
namespace DL
open PySem PySem.Spec L2 PyProof.Rows
def revT (z : Str) : Str := ⟨((Builtin.Str.strSliceIndices none none (-1) z.length).filterMap (z.cps[·]?)).toArray⟩
section
variable {X : Cx} {G : GC} {k k2 : RK} {e es : Expr} {f : List C → Option D} {fs : List C → Option (Option Int)} {pos p3 : Pos}
theorem pe_revT {te : TE} {ts : TO} (he : PE X e te) (hst : PO X (some es) ts) : PE X (.Subscript e (.Slice none none (some es) p3) pos) (fun σ H Q => te σ H fun x H1 => ts σ H1 fun o H2 => ∃ z, x = .str z ∧ o = some (-1) ∧ (revT z).length ≤ sizeLine ∧ Q (.str (revT z)) H2) := by
  refine ⟨fun pins s σ H Q I h => ?_⟩
  refine Subscript_ (thn (he.run pins s σ H _ I h) fun v s1 ⟨x, H1, I1, r1, q1⟩ => ?_)
  refine wpAny_Slice (thn (po_none.run pins s1 σ H1 (fun o H2 => o = none ∧ H2 = H1) I1 ⟨rfl, rfl⟩) fun vl s2 ⟨l, H2, I2, pl, el, e2⟩ => ?_)
  subst el e2
  refine thn (po_none.run pins s2 σ H2 (fun o H3 => o = none ∧ H3 = H2) I2 ⟨rfl, rfl⟩) fun vu s3 ⟨u, H3, I3, pu, eu, e3⟩ => ?_
  subst eu e3
  refine thn (hst.run pins s3 σ H3 _ I3 q1) fun vs s4 ⟨o, H4, I4, ps, q2⟩ => ?_
  obtain ⟨z, ex, eo, hz, q⟩ := q2
  subst ex
  subst eo
  obtain ⟨t, rfl⟩ := r1
  obtain ⟨l, rfl, hl⟩ := IsPart.raw pl
  obtain ⟨u, rfl, hu⟩ := IsPart.raw pu
  obtain ⟨st, rfl, hst'⟩ := IsPart.raw ps
  have el : l = none := by cases l with | none => rfl | some _ => cases hl
  have eu : u = none := by cases u with | none => rfl | some _ => cases hu
  subst el eu
  obtain ⟨tk, rfl⟩ : ∃ tk, st = some (-1, tk) := by
    cases st with
    | none => cases hst'
    | some p =>
      obtain ⟨i, tk⟩ := p
      have : i = -1 := Option.some.inj hst'
      subst this
      exact ⟨tk, rfl⟩
  have I5 : Inv X pins σ H4 { s4 with heap := s4.heap.push { cls := .type "slice", data := .fields #[partValue none, partValue none, partValue (some (-1, tk))] } } := I4.kept (t' := s4.toks) fun b ob q => Heap.get?_push_of_some _ q
  show wpAny (model X.prog X.w) X.A (subscriptTail e (.Slice none none (some es) p3) (.str z t) (.ref s4.heap.objs.size)) (EP X pins σ Q) X.xe { s4 with heap := s4.heap.push { cls := .type "slice", data := .fields #[partValue none, partValue none, partValue (some (-1, tk))] } }
  refine tail_any (ops := [.str z t, .ref s4.heap.objs.size]) (typeIs_str _ _ _) (PySem.F.slot_str_getitem.lookup) ?_ (by with_unfolding_all rfl)
  refine wpAny_getItem_str_slice (l := none) (u := none) (st := some (-1, tk)) ⟨_, Heap.get?_push_size _ rfl, rfl, rfl⟩ rfl ?_
  show Made.post (if ((-1 : Int) == 1 && (Builtin.Str.strSliceIndices none none (-1) z.length).length == z.length) = true then Made.val (.str z t)
    else Made.str ⟨((Builtin.Str.strSliceIndices none none (-1) z.length).filterMap (z.cps[·]?)).toArray⟩) (EP X pins σ Q) _
  rw [show ((-1 : Int) == 1) = false from rfl, Bool.false_and, if_neg (by decide)]
  exact ⟨hz, .str _, H4, I5.tok _, ⟨_, rfl⟩, q⟩
def gRevT : D → Option Int → Option D | .str z, some i => if i = -1 ∧ (revT z).length ≤ sizeLine then some (.str (revT z)) else none | _, _ => none
def eRevT (f : List C → Option D) (fs : List C → Option (Option Int)) : List C → Option D := fun env => (f env).bind fun x => (fs env).bind fun o => gRevT x o
theorem ev_revT {env : List C} : eRevT f fs env = (f env).bind fun x => (fs env).bind fun o => gRevT x o := (rfl)
theorem d_revT (h : DE X G k e f) (hs : DP X G (some es) fs) (hk : k.le .vl = true := by rfl) : DE X G .fz (.Subscript e (.Slice none none (some es) p3) pos) (eRevT f fs) := by
  obtain ⟨t, p, o⟩ := (h.conv hk).ex
  obtain ⟨ts, p2, o2⟩ := hs.ex
  refine ⟨_, pe_revT p p2, fun σ H F fp env d Q R hf q => ?_⟩
  unfold eRevT at hf
  cases z : f env with
  | none => rw [z] at hf; cases hf
  | some d1 =>
    cases z2 : fs env with
    | none => rw [z, z2] at hf; cases hf
    | some oi =>
      rw [z, z2] at hf
      have hf : gRevT d1 oi = some d := hf
      unfold gRevT at hf
      split at hf
      · rename_i xs i _
        split at hf
        · rename_i hi
          cases hf
          refine o σ H F fp env _ _ R z fun v H1 F1 E1 r => ?_
          refine o2 σ H1 F1 fp env _ _ (R.ext E1) z2 fun H2 F2 E2 => ?_
          have ev : v = .str xs := vl_str (G := G) (repK_A (k := .vl) rfl r)
          exact ⟨xs, ev, by rw [hi.1], hi.2, q _ H2 F2 (E1.trans E2) (.str _)⟩
        · cases hf
      · cases hf
end
end DL
namespace DL
open PySem PySem.Spec L2
theorem ORs_app {K : PySem.W.Frag} {ow : Option World} {H F : Hp} : ∀ {ts us : List T} {vs ws : List V} {l m : List Addr}, ORs K ow H F vs ts l → ORs K ow H F ws us m → ORs K ow H F (vs ++ ws) (ts ++ us) (l ++ m)
  | [], _, vs, _, l, _, h, g => by cases h; exact g
  | t :: ts, _, vs, _, l, _, h, g => by
    cases h with
    | cons r1 r2 =>
      rw [List.append_assoc]
      exact .cons r1 (ORs_app r2 g)
section
variable {X : Cx} {G : GC} {kr k : RK} {e e2 : Expr} {x y z : Str} {pos p p1 p2 p3 : Pos} {body : List Stmt} {fb : List C → Out}
def xCat (i : Nat) (fn : List C → Option T) : List C → Option (List C × T) := fun env => match env[i]?, fn env with
  | some (.own none (.n .l ts)), some (.n .l us) => if ts.length + us.length ≤ 1000 then some (env.set i .und, .n .l (ts ++ us)) else none
  | _, _ => none
theorem dx_cat {fn : List C → Option T} (i : Nat) (h : PE X (.Name x p) (tVar i)) (hb : DN X G e fn) : DX X G (.BinOp (.Name x p) .Add e pos) (xCat i fn) := by
  obtain ⟨t, pt, o⟩ := hb.ex
  refine ⟨_, pe_op op_cat h pt, fun σ H F fp env env' u Q R hf q => ?_⟩
  unfold xCat at hf
  split at hf
  rotate_left
  · cases hf
  rename_i ts us z1 z2
  split at hf <;> cases hf
  rename_i hlen
  obtain ⟨v, s1, r, _⟩ := slot_own R z1
  refine ⟨v, s1, ?_⟩
  refine o σ H F fp env _ _ R z2 fun w H1 F1 lb E1 rb fr => ?_
  have R1 := R.ext E1
  obtain ⟨v', s1', r', _⟩ := slot_own R1 z1
  rw [s1] at s1'; cases s1'
  generalize hli : fp i = li at r'
  cases r' with
  | @n _ a vs _ own lt h1 h2 h3 =>
    obtain ⟨rfl, h1⟩ := h1
    cases rb with
    | @n _ b ws _ own2 lu g1 g2 g3 =>
      obtain ⟨rfl, g1⟩ := g1
      refine ⟨a, b, vs, ws, rfl, rfl, h1, g1, by rw [ORs_len h2, ORs_len g2, sizeLine_eq]; omega, fun n nn => ?_⟩
      have E2 : Ext H1 F1 (upd H1 n (.lst (vs ++ ws))) F1 := Ext.laid R1.sub nn
      have R2 := rel_drop (R1.ext E2) i
      have nw : ∀ c, H1 c ≠ none → upd H1 n (.lst (vs ++ ws)) c ≠ none := fun c hc => by
        cases y : H1 c with
        | none => exact absurd y hc
        | some o' => rw [E2.h c o' y]; intro w; cases w
      have ne : ∀ c, H1 c ≠ none → c ≠ n := fun c hc e => hc (by rw [e]; exact nn)
      have mt : ∀ c, c ∈ lt → c ∈ fp i := fun c hc => by rw [hli]; simp [hc]
      have ot : ∀ c, c ∈ lt → F1 c = none ∧ H1 c ≠ none ∧ G.H0 c = none := fun c hc => by
        obtain ⟨w1, w2, w3⟩ := R1.own i c (mt c hc)
        refine ⟨w1, w2, ?_⟩
        rcases w3 with y | y
        · exact y
        · obtain ⟨_, c', e', m⟩ := y
          rw [z1] at e'; cases e'; cases m
      have ou : ∀ c, c ∈ lu → H c = none ∧ F1 c = none ∧ H1 c ≠ none := fun c hc => fr c (by simp [hc])
      refine q (.ref n) _ F1 _ ([n] ++ (lt ++ lu)) R2 E1.f ⟨.n (own := [n]) ⟨rfl, upd_same⟩ (ORs_mono (Same.refl _) _ _ _ (fun c o' hc e => ?_) (ORs_app h2 g2)) ?_, fun c hc => ?_, fun c hc j hj => ?_⟩
      · exact E2.h c o' e
      · show (n :: (lt ++ lu)).Nodup
        refine List.nodup_cons.mpr ⟨fun hm => ?_, List.nodup_append.mpr ⟨(List.nodup_append.mp h3).2.1, (List.nodup_append.mp g3).2.1, fun c hc c' hc' e => ?_⟩⟩
        · rcases List.mem_append.mp hm with hm | hm
          · exact ne n (ot n hm).2.1 rfl
          · exact ne n (ou n hm).2.2 rfl
        · subst e
          exact (R.own i c (mt c hc)).2.1 (ou c hc').1
      · rcases List.mem_cons.mp (show c ∈ n :: (lt ++ lu) from hc) with rfl | hc
        · exact ⟨R1.sub.free nn, (by rw [upd_same]; intro y; cases y), R1.h0 nn⟩
        · rcases List.mem_append.mp hc with hc | hc
          · obtain ⟨w1, w2, w3⟩ := ot c hc
            exact ⟨w1, nw c w2, w3⟩
          · obtain ⟨w1, w2, w3⟩ := ou c hc
            exact ⟨w2, nw c w3, R.h0 w1⟩
      · by_cases hji : j = i
        · subst hji; rw [fset_at] at hj; cases hj
        · rw [fset_ne hji] at hj
          rcases List.mem_cons.mp (show c ∈ n :: (lt ++ lu) from hc) with rfl | hc
          · exact (R1.own j c hj).2.1 nn
          · rcases List.mem_append.mp hc with hc | hc
            · exact hji (R1.dj j i c hj (mt c hc))
            · exact (R.own j c hj).2.1 (ou c hc).1
end
end DL
namespace DL
open PySem PySem.Spec L2
section
variable {X : Cx} {G : GC} {kr k : RK} {e e2 : Expr} {x y z : Str} {pos p p1 p2 p3 : Pos} {body : List Stmt} {fb : List C → Out}
def forLit (v : Nat) (b : List C → Out) : List T → List C → Out
  | [], env => .nx env
  | u :: r, env => match b (env.set v (.ro false u)) with
    | .nx e => forLit v b r e
    | .ct e => forLit v b r e
    | .bk e => .nx e
    | .rt d => .rt d
    | _ => .err
def sForLit (v : Nat) (r1 r2 : List C → Option T) (fb : List C → Out) : List C → Out := fun env => match r1 env, r2 env with
  | some t1, some t2 => oLend env (forLit v fb [t1, t2] (lendE 0 env))
  | _, _ => .err
theorem ds_forLit {r1 r2 : List C → Option T} {pc pa : Pos} (v : Nat) (hp : PassesOwn (model X.prog X.w) X.A X.env X.xe) (hc : X.calm = true) (h1 : DRd X G e r1) (h2 : DRd X G e2 r2) (hN : X.N.Nodup) (hv : X.N[v]? = some y)
    (hb : ∀ G', G'.w = G.w → G'.W = [] → DSs X G' .fz body fb)
    (hy : Loc X.env.scope y := by first | exact .inl rfl | exact .inr rfl) (hfy : X.fn y = true ∨ X.env.scope.names.lookup y = some .local := by first | exact .inl rfl | exact .inr rfl | assumption)
    (hs : starEach [e, e2] X.env = (false, eval e X.env) :: starEach [e2] X.env := by rfl) (hs2 : starEach [e2] X.env = [(false, eval e2 X.env)] := by rfl)
    (hfs : ∀ x, foldedSetIterable (.List [e, e2] pc) X.env x = pure x := by intro _; rfl) :
    DS X G .fz (.For (.Name y pa) (.List [e, e2] pc) body [] pos) (sForLit v r1 r2 fb) := by
  let tb : TS := fun E σ H => ∃ G', G'.w = G.w ∧ G'.W = [] ∧ ∃ F fp env, Rel X.K G' env σ H F fp ∧ Post X G' .fz F E (fb env)
  have pb : PSs X body tb := ⟨fun pins s σ H D I ⟨G', hw, hW', F, fp, env, R, q⟩ => by
    obtain ⟨t, pt, ob⟩ := (hb G' hw hW').ex
    exact pt.run pins s σ H D I (ob σ H F fp env D R q)⟩
  obtain ⟨t1, pt1, o1⟩ := h1.ex
  obtain ⟨t2, pt2, o2⟩ := h2.ex
  refine ⟨_, ps_for hp hc (pi_list (pe_lst (pa_cons pt1 (pa_cons pt2 pa_nil hs2) hs))) (pg_name hN hv hy hfy) pb hfs, fun σ H F fp env E R q => ?_⟩
  unfold sForLit at q
  split at q
  rotate_left
  · exact q.elim
  rename_i u1 u2 z1 z2
  refine o1 σ H F fp env _ _ R z1 fun v1 l1 H1 F1 E1 r1' => ?_
  have R1 := R.ext E1
  refine o2 σ H1 F1 fp env _ _ R1 z2 fun v2 l2 H2' F2 E2 r2' => ?_
  refine ⟨by show 2 ≤ sizeLine; rw [sizeLine_eq]; decide, fun a na => ?_⟩
  have R2' := R1.ext E2
  have E3 : Ext H2' F2 (upd H2' a (.lst [v1, v2])) F2 := Ext.laid R2'.sub na
  have R2 := R2'.ext E3
  have r1' := OR_mono (E2.f.trans E3.f) _ _ _ (fun b o _ h => E3.h b o (E2.h b o h)) r1'
  have r2' := OR_mono E3.f _ _ _ (fun b o _ h => E3.h b o h) r2'
  have sF : Same F F2 := E1.f.trans E2.f
  have ha : upd H2' a (.lst [v1, v2]) a = some (.lst [v1, v2]) := upd_same
  generalize upd H2' a (.lst [v1, v2]) = H2 at *
  let us : List T := [u1, u2]
  let vs : List V := [v1, v2]
  have gt : ∀ i, i < 2 → ∃ u w l, us[i]? = some u ∧ vs[i]? = some w ∧ OR X.K G.w H2 F2 w u l := fun i hi => by
    have : i = 0 ∨ i = 1 := by omega
    rcases this with h | h <;> subst h
    · exact ⟨u1, v1, l1, rfl, rfl, r1'⟩
    · exact ⟨u2, v2, l2, rfl, rfl, r2'⟩
  refine ⟨a, rfl, ⟨vs, .inl (.inl ha)⟩, ?_⟩
  let Good : Out → Prop := fun o => match o with
    | .nx e => ∃ e', backE 0 env e = some e' ∧ Post X G .fz F E (.nx e')
    | .rt d => Post X G .fz F E (.rt d)
    | _ => False
  have g0 : Good (forLit v fb (us.drop 0) (lendE 0 env)) := by
    rw [List.drop_zero]
    have q' : Post X G .fz F E (oLend env (forLit v fb us (lendE 0 env))) := q
    clear q
    revert q'
    unfold oLend
    cases forLit v fb us (lendE 0 env) with
    | nx e =>
      dsimp only
      cases hz : backE 0 env e with
      | none => exact fun q => q.elim
      | some e' => exact fun q => ⟨e', hz, q⟩
    | rt d => exact fun q => q
    | bk _ => exact fun q => q.elim
    | ct _ => exact fun q => q.elim
    | err => exact fun q => q.elim
    | rx _ _ => exact fun q => q.elim
    | xc _ _ => exact fun q => q.elim
  have kp : ∀ {env' σ' H' F' fp'} (x : Addr) (o : HO), Rel X.K (lentG G σ H2 F2) env' σ' H' F' fp' → H2 x = some o → H' x = some o := fun x o R3 h => R3.keep x o h (by rw [lentW]; exact fun m => nomatch m)
  refine ⟨fun i m σ' H' => m = 2 - i ∧ i ≤ 2 ∧ ∃ env' fp' F', Rel X.K (lentG G σ H2 F2) env' σ' H' F' fp' ∧ Good (forLit v fb (us.drop i) env'), ⟨2, by simp, Nat.zero_le _, lendE 0 env, _, F2, lend_in R2, g0⟩, ?_⟩
  rintro i m σ2 H3 ⟨rfl, hi, env2, fp2, F3, R3, q3⟩
  have ha3 := kp a _ R3 ha
  by_cases hlt : i < 2
  · right
    obtain ⟨u, w, lw, gu, gw, ro⟩ := gt i hlt
    have ed : us.drop i = u :: us.drop (i + 1) := by
      have : i = 0 ∨ i = 1 := by omega
      rcases this with h | h <;> subst h <;> cases gu <;> rfl
    rw [ed] at q3
    unfold forLit at q3
    refine ⟨⟨vs, w, .inl (.inl ha3), gw⟩, fun σ' H' => ∃ env' fp' F', Rel X.K (lentG G σ H2 F2) env' σ' H' F' fp' ∧ Good (forLit v fb (us.drop (i + 1)) env'), fun σ' H' n => ⟨2 - (i + 1), by omega, rfl, hlt, n⟩, fun xx H4 ⟨eH, yv⟩ => ?_⟩
    subst eH
    have e3 := yv vs (.inl (.inl ha3))
    rw [gw] at e3; cases e3
    have sF2 : Same F2 F3 := R3.old
    have R6 := R3.put (i := v) (v := w) (c := .ro false u) (l := []) ⟨rfl, w, lw, rfl, by rw [lentKp]; exact OR_mono sF2 _ _ _ (fun _ _ _ h => h) ro, fun h => nomatch h⟩ (fun _ m => nomatch m) (fun _ m => nomatch m)
    refine ⟨lentG G σ H2 F2, rfl, lentW, _, _, _, R6, ?_⟩
    revert q3
    cases z3 : fb (env2.set v (.ro false u)) with
    | nx e'' => exact fun q3 σ5 H5 F5 fp5 R5 s5 => ⟨e'', fp5, F5, R5, q3⟩
    | ct e'' => exact fun q3 σ5 H5 F5 fp5 R5 s5 => ⟨e'', fp5, F5, R5, q3⟩
    | bk e'' =>
      exact fun ⟨e', hbk, q3⟩ σ5 H5 F5 fp5 R5 s5 => by
        obtain ⟨fp6, R8⟩ := lend_out R2 R5 hbk
        exact q3 σ5 H5 F5 fp6 R8 (sF.trans R5.old)
    | rt d => exact fun q3 v' H' F' f r => q3 v' H' F' (lend_fin R2 f) r
    | err => exact fun q3 => q3.elim
    | rx _ _ => exact fun q3 => q3.elim
    | xc _ _ => exact fun q3 => q3.elim
  · left
    have ei : i = 2 := by omega
    subst ei
    have q3 : Good (.nx env2) := q3
    obtain ⟨e', hbk, q3⟩ := q3
    obtain ⟨fp6, R8⟩ := lend_out R2 R3 hbk
    exact ⟨⟨vs, .inl (.inl ha3), Nat.le_refl _⟩, q3 σ2 H3 F3 fp6 R8 (sF.trans R3.old)⟩
end
end DL
namespace DL
open PySem PySem.Spec L2
def topS (i : Nat) : Stmt := PySem.Challenge.pw_apartbook_k07_refusals_made_by_hand.main.body.getD i (.Pass ⟨0, 0, 0, 0⟩)
abbrev s_NoText_init : Stmt := inClass (topS 2) 0
theorem sc_NoText_init : FnScope ["self", "place"] ["self", "place"] (defScope s_NoText_init) := ⟨rfl, rfl, rfl, by decide +kernel, rfl, by decide +kernel, by decide +kernel⟩
abbrev s_NoName_init : Stmt := inClass (topS 3) 0
theorem sc_NoName_init : FnScope ["self", "name", "place"] ["self", "name", "place"] (defScope s_NoName_init) := ⟨rfl, rfl, rfl, by decide +kernel, rfl, by decide +kernel, by decide +kernel⟩
abbrev s_NotPlain_init : Stmt := inClass (topS 4) 0
theorem sc_NotPlain_init : FnScope ["self", "place"] ["self", "place"] (defScope s_NotPlain_init) := ⟨rfl, rfl, rfl, by decide +kernel, rfl, by decide +kernel, by decide +kernel⟩
abbrev s_Broken_init : Stmt := inClass (topS 6) 0
theorem sc_Broken_init : FnScope ["self", "name"] ["self", "name"] (defScope s_Broken_init) := ⟨rfl, rfl, rfl, by decide +kernel, rfl, by decide +kernel, by decide +kernel⟩
abbrev s_NoLine_init : Stmt := inClass (topS 7) 0
theorem sc_NoLine_init : FnScope ["self", "line"] ["self", "line"] (defScope s_NoLine_init) := ⟨rfl, rfl, rfl, by decide +kernel, rfl, by decide +kernel, by decide +kernel⟩
abbrev s_NoDeed_init : Stmt := inClass (topS 8) 0
theorem sc_NoDeed_init : FnScope ["self", "name"] ["self", "name"] (defScope s_NoDeed_init) := ⟨rfl, rfl, rfl, by decide +kernel, rfl, by decide +kernel, by decide +kernel⟩
abbrev s_NoRule_init : Stmt := inClass (topS 9) 0
theorem sc_NoRule_init : FnScope ["self", "name"] ["self", "name"] (defScope s_NoRule_init) := ⟨rfl, rfl, rfl, by decide +kernel, rfl, by decide +kernel, by decide +kernel⟩
abbrev s_ShortShare_init : Stmt := inClass (topS 11) 0
theorem sc_ShortShare_init : FnScope ["self", "name", "lack"] ["self", "name", "lack"] (defScope s_ShortShare_init) := ⟨rfl, rfl, rfl, by decide +kernel, rfl, by decide +kernel, by decide +kernel⟩
abbrev s_NoPaper_init : Stmt := inClass (topS 13) 0
theorem sc_NoPaper_init : FnScope ["self", "line"] ["self", "line"] (defScope s_NoPaper_init) := ⟨rfl, rfl, rfl, by decide +kernel, rfl, by decide +kernel, by decide +kernel⟩
abbrev s_l_cell_at : Stmt := topS 15
abbrev N_l_cell_at : List Str := ["_law_script", "_law_k"]
theorem sc_l_cell_at : FnScope N_l_cell_at ["_law_script", "_law_k"] (defScope s_l_cell_at) := ⟨rfl, rfl, rfl, by decide +kernel, rfl, by decide +kernel, by decide +kernel⟩
def b_l_cell_at : List C → Out := (sSeq (sIf (tB (e2 gLt (eV 1) (e1 gLen (aCons (eB 0) aNil)))) (sRet (eScal (e2 gIxB (eB 0) (eV 1)))) sNil)
  (sRet (eC (.int 0))))
def f_l_cell_at : List D → Option D := runP [.vw, .fz] 2 b_l_cell_at
theorem fe_l_cell_at (x0 x1 : D) : f_l_cell_at [x0, x1] = oRun (b_l_cell_at [.brw x0, .val x1]) := (ev_run (ks := [.vw, .fz]) (n := 2) (b := b_l_cell_at) (ds := [x0, x1])).trans (congrArg (fun l => oRun (b_l_cell_at l)) rfl)

abbrev s_l_mix : Stmt := topS 16
abbrev N_l_mix : List Str := ["_law_cell", "_law_k", "_law_number"]
def b_l_mix : List C → Out := (sSeq (sSet 2 (e2 gModA (e2 gMul (e2 gAdd (e2 gAdd (e2 gModA (eV 0) (eC (.int 1000003))) (e2 gMul (e2 gMul (eV 1) (eV 1)) (eC (.int 7919)))) (eV 1)) (eC (.int 48271))) (eC (.int 2147483629))))
  (sRet (e2 gDivA (e2 gModA (e2 gMul (eV 2) (eV 2)) (eC (.int 2147483587))) (eC (.int 7)))))
def f_l_mix : List D → Option D := runP [.fz, .fz] 3 b_l_mix
abbrev s_l_whole : Stmt := topS 17
abbrev N_l_whole : List Str := ["_law_found"]
theorem sc_l_whole : FnScope N_l_whole ["_law_found"] (defScope s_l_whole) := ⟨rfl, rfl, rfl, by decide +kernel, rfl, by decide +kernel, by decide +kernel⟩
def b_l_whole : List C → Out := (sRet (eAnd (eIsi "int" (eV 0)) (eNot (eIsi "bool" (eV 0)))))
def f_l_whole : List D → Option D := runP [.fz] 1 b_l_whole
theorem fe_l_whole (x0 : D) : f_l_whole [x0] = oRun (b_l_whole [.val x0]) := (ev_run (ks := [.fz]) (n := 1) (b := b_l_whole) (ds := [x0])).trans (congrArg (fun l => oRun (b_l_whole l)) rfl)

abbrev s_l_kinds : Stmt := topS 18
abbrev N_l_kinds : List Str := ["_law_error", "_law_kinds_here"]
theorem sc_l_kinds : FnScope N_l_kinds ["_law_error"] (defScope s_l_kinds) := ⟨rfl, rfl, rfl, by decide +kernel, rfl, by decide +kernel, by decide +kernel⟩
def b_l_kinds : List C → Out := (sSeq (sSet 1 (eLst (aCons (eIsX ["Broken"] ["NoText", "NoName", "NotPlain", "NoBook", "NoLine", "NoDeed", "NoRule", "OutOfRange", "ShortShare", "Folded", "NoPaper"] (rN 0)) (aCons (eIsX ["Folded"] ["NoText", "NoName", "NotPlain", "NoBook", "Broken", "NoLine", "NoDeed", "NoRule", "OutOfRange", "ShortShare", "NoPaper"] (rN 0)) (aCons (eIsX ["NoBook"] ["NoText", "NoName", "NotPlain", "Broken", "NoLine", "NoDeed", "NoRule", "OutOfRange", "ShortShare", "Folded", "NoPaper"] (rN 0)) (aCons (eIsX ["NoDeed"] ["NoText", "NoName", "NotPlain", "NoBook", "Broken", "NoLine", "NoRule", "OutOfRange", "ShortShare", "Folded", "NoPaper"] (rN 0)) aNil))))))
  (sSeq (sSet 1 (e2 gAdd (eV 1) (eLst (aCons (eIsX ["NoLine"] ["NoText", "NoName", "NotPlain", "NoBook", "Broken", "NoDeed", "NoRule", "OutOfRange", "ShortShare", "Folded", "NoPaper"] (rN 0)) (aCons (eIsX ["NoName"] ["NoText", "NotPlain", "NoBook", "Broken", "NoLine", "NoDeed", "NoRule", "OutOfRange", "ShortShare", "Folded", "NoPaper"] (rN 0)) (aCons (eIsX ["NoPaper"] ["NoText", "NoName", "NotPlain", "NoBook", "Broken", "NoLine", "NoDeed", "NoRule", "OutOfRange", "ShortShare", "Folded"] (rN 0)) aNil))))))
  (sSeq (sSet 1 (e2 gAdd (eV 1) (eLst (aCons (eIsX ["NoRule"] ["NoText", "NoName", "NotPlain", "NoBook", "Broken", "NoLine", "NoDeed", "OutOfRange", "ShortShare", "Folded", "NoPaper"] (rN 0)) (aCons (eIsX ["NotPlain"] ["NoText", "NoName", "NoBook", "Broken", "NoLine", "NoDeed", "NoRule", "OutOfRange", "ShortShare", "Folded", "NoPaper"] (rN 0)) (aCons (eIsX ["NoText"] ["NoName", "NotPlain", "NoBook", "Broken", "NoLine", "NoDeed", "NoRule", "OutOfRange", "ShortShare", "Folded", "NoPaper"] (rN 0)) aNil))))))
  (sRetX (xN (nL (e2 gAddL (eV 1) (eLst (aCons (eIsX ["OutOfRange"] ["NoText", "NoName", "NotPlain", "NoBook", "Broken", "NoLine", "NoDeed", "NoRule", "ShortShare", "Folded", "NoPaper"] (rN 0)) (aCons (eIsX ["ShortShare"] ["NoText", "NoName", "NotPlain", "NoBook", "Broken", "NoLine", "NoDeed", "NoRule", "OutOfRange", "Folded", "NoPaper"] (rN 0)) aNil))))))))))
def f_l_kinds : List T → Option T := runT 2 b_l_kinds
abbrev s_l_all : Stmt := topS 19
abbrev N_l_all : List Str := ["_law_name", "_law_number", "_law_found"]
theorem sc_l_all : FnScope N_l_all ["_law_name", "_law_number"] (defScope s_l_all) := ⟨rfl, rfl, rfl, by decide +kernel, rfl, by decide +kernel, by decide +kernel⟩
def b_l_all : List C → Out := (sSeq (sSetX 2 (xN (nLst (nsCons (nMk (mkE1 "Broken" "name" (eV 0))) (nsCons (nMk (fun _ => some ⟨"Folded", [], []⟩)) (nsCons (nMk (fun _ => some ⟨"NoBook", [], []⟩)) (nsCons (nMk (mkE1 "NoDeed" "name" (eV 0))) (nsCons (nMk (mkE1 "NoLine" "line" (eV 1))) (nsCons (nMk (mkE2 "NoName" "name" "place" (eV 0) (eV 1))) (nsCons (nMk (mkE1 "NoPaper" "line" (eV 1))) nsNil))))))))))
  (sRetX (xCat 2 (nLst (nsCons (nMk (mkE1 "NoRule" "name" (eV 0))) (nsCons (nMk (mkE1 "NotPlain" "place" (eV 1))) (nsCons (nMk (mkE1 "NoText" "place" (eV 1))) (nsCons (nMk (fun _ => some ⟨"OutOfRange", [], []⟩)) (nsCons (nMk (mkE2 "ShortShare" "name" "lack" (eV 0) (eV 1))) nsNil)))))))))
def f_l_all : List T → Option (List T × T) := runM [false, false] 3 b_l_all
abbrev s_l_kept : Stmt := topS 20
abbrev N_l_kept : List Str := ["_law_found", "_law_name", "_law_number", "_law_place", "_law_told"]
theorem sc_l_kept : FnScope N_l_kept ["_law_found", "_law_name", "_law_number"] (defScope s_l_kept) := ⟨rfl, rfl, rfl, by decide +kernel, rfl, by decide +kernel, by decide +kernel⟩
def L_l_kept_0 : List C → Out := (sIf (tOrF (tNotF (tB (e1 f_l_whole (aCons (eV 4) aNil)))) (tB (e2 gNe (eV 4) (eV 2)))) (sRetX (xN (nD (eC (.bool false))))) sNil)
def L_l_kept_1 : List C → Out := (sIf (tB (e2 gNe (rLeaf (rX ["NoName", "Broken", "NoDeed", "NoRule", "ShortShare"] "name" (rI (eV 3) (rN 0)))) (eV 1))) (sRetX (xN (nD (eC (.bool false))))) sNil)
def b_l_kept : List C → Out := (sSeq (sFor (iAny (eLst (aCons (eC (.int 0)) (aCons (eC (.int 3)) (aCons (eC (.int 5)) (aCons (eC (.int 7)) (aCons (eC (.int 11)) aNil))))))) (tgN 3) L_l_kept_1)
  (sSeq (sFor (iAny (eLst (aCons (rLeaf (rX ["NoLine", "NoPaper"] "line" (rI (eC (.int 4)) (rN 0)))) (aCons (rLeaf (rX ["NoText", "NoName", "NotPlain"] "place" (rI (eC (.int 5)) (rN 0)))) (aCons (rLeaf (rX ["NoLine", "NoPaper"] "line" (rI (eC (.int 6)) (rN 0)))) (aCons (rLeaf (rX ["NoText", "NoName", "NotPlain"] "place" (rI (eC (.int 8)) (rN 0)))) (aCons (rLeaf (rX ["NoText", "NoName", "NotPlain"] "place" (rI (eC (.int 9)) (rN 0)))) (aCons (rLeaf (rX ["ShortShare"] "lack" (rI (eC (.int 11)) (rN 0)))) aNil)))))))) (tgN 4) L_l_kept_0)
  (sRetX (xN (nD (eC (.bool true)))))))
def f_l_kept : List T → Option T := runT 5 b_l_kept
theorem fe_l_kept  (u0 : T) (x1 : D) (x2 : D) : f_l_kept [u0, .d x1, .d x2] = outT (b_l_kept [roC true u0, .val x1, .val x2, .und, .und]) := (rfl)

abbrev s_law : Stmt := topS 21
abbrev N_law : List Str := ["_law_script", "_law_name", "_law_number", "_law_one", "_law_other", "_law_some", "_law_place", "_law_k"]
theorem sc_law : FnScope N_law ["_law_script"] (defScope s_law) := ⟨rfl, rfl, rfl, by decide +kernel, rfl, by decide +kernel, by decide +kernel⟩
def L_law_0 : List C → Out := (sSeq (sIf (tOrF (tNotF (tB (eIsX ["NoText", "NoName", "NotPlain", "NoBook", "Broken", "NoLine", "NoDeed", "NoRule", "OutOfRange", "ShortShare", "Folded", "NoPaper"] [] (rI (eV 6) (rN 5))))) (tNotF (tB (eIsX ["NoText", "NoName", "NotPlain", "NoBook", "Broken", "NoLine", "NoDeed", "NoRule", "OutOfRange", "ShortShare", "Folded", "NoPaper"] [] (rI (eV 6) (rN 5)))))) (sRet (eC (.bool false))) sNil)
  (sIf (tB (e2 gNe (eOw (nCall f_l_kinds (nsCons (rI (eV 6) (rN 5)) nsNil))) (eLc [7] (iRng1F (eC (.int 12))) (tgN 7) (fun _ => some true) (e2 gEq (eV 6) (eV 7))))) (sRet (eC (.bool false))) sNil))
def L_law_1 : List C → Out := (sFor (iRng1F (eC (.int 12))) (tgN 6) L_law_0)
def b_law : List C → Out := (sSeq (sSet 1 (e3 gSl (eC (.str "abcdefghij")) pN (pS (e2 gAdd (eC (.int 1)) (e2 gModA (e1 f_l_cell_at (aCons (eB 0) (aCons (eC (.int 0)) aNil))) (eC (.int 10)))))))
  (sSeq (sSet 2 (e2 gModA (e1 f_l_cell_at (aCons (eB 0) (aCons (eC (.int 1)) aNil))) (e2 gPow (eC (.int 10)) (eC (.int 30)))))
  (sSeq (sSetX 3 (xCallP f_l_all [] (mpRo (eV 1) (mpRo (eV 2) mpNil))))
  (sSeq (sSetX 4 (xCallP f_l_all [] (mpRo (eRevT (eV 1) (pS (eNeg (eC (.int 1))))) (mpRo (e2 gSub (e2 gAdd (eV 2) (eC (.int 1))) (e2 gMul (e2 gModA (eV 2) (eC (.int 2))) (eC (.int 2)))) mpNil))))
  (sSeq (sForLit 5 (rN 3) (rN 4) L_law_1)
  (sRet (eAnd (rLeaf (nCall f_l_kept (nsCons (rN 3) (nsCons (nD (eV 1)) (nsCons (nD (eV 2)) nsNil))))) (rLeaf (nCall f_l_kept (nsCons (rN 4) (nsCons (nD (eRevT (eV 1) (pS (eNeg (eC (.int 1)))))) (nsCons (nD (e2 gSub (e2 gAdd (eV 2) (eC (.int 1))) (e2 gMul (e2 gModA (eV 2) (eC (.int 2))) (eC (.int 2))))) nsNil))))))))))))
def f_law : List D → Option D := runP [.vw] 8 b_law
theorem fe_law (x0 : D) : f_law [x0] = oRun (b_law [.brw x0, .und, .und, .und, .und, .und, .und, .und]) := (ev_run (ks := [.vw]) (n := 8) (b := b_law) (ds := [x0])).trans (congrArg (fun l => oRun (b_law l)) rfl)
end DL
namespace DL
open PySem PySem.Spec L2 TL
noncomputable section
def exLs (s : Str) (n : Int) : List T := [XK ⟨"Broken", ["name"], [.str s]⟩, XK ⟨"Folded", [], []⟩, XK ⟨"NoBook", [], []⟩, XK ⟨"NoDeed", ["name"], [.str s]⟩, XK ⟨"NoLine", ["line"], [.int n]⟩, XK ⟨"NoName", ["place", "name"], [.int n, .str s]⟩, XK ⟨"NoPaper", ["line"], [.int n]⟩,
  XK ⟨"NoRule", ["name"], [.str s]⟩, XK ⟨"NotPlain", ["place"], [.int n]⟩, XK ⟨"NoText", ["place"], [.int n]⟩, XK ⟨"OutOfRange", [], []⟩, XK ⟨"ShortShare", ["lack", "name"], [.int n, .str s]⟩]
abbrev exL (s : Str) (n : Int) : T := .n .l (exLs s n)
theorem all_ok (s : Str) (n : Int) : f_l_all [.d (.str s), .d (.int n)] = some ([], exL s n) := rfl
theorem st_ok (s : Str) (n : Int) (c0 c1 c2 c3 c4 : C) (i : Nat) (hi : i < 12) (c7 : C) : L_law_0 [c0, c1, c2, c3, c4, .ro false (exL s n), .val (.int (0 + (i : Int))), c7] = .nx [c0, c1, c2, c3, c4, .ro false (exL s n), .val (.int (0 + (i : Int))), c7] := by
  have : i = 0 ∨ i = 1 ∨ i = 2 ∨ i = 3 ∨ i = 4 ∨ i = 5 ∨ i = 6 ∨ i = 7 ∨ i = 8 ∨ i = 9 ∨ i = 10 ∨ i = 11 := by omega
  rcases this with h | h | h | h | h | h | h | h | h | h | h | h <;> subst h <;> rfl
theorem loop_ok (s : Str) (n : Int) (c0 c1 c2 c3 c4 c7 : C) : ∀ (l : List Nat) (c6 : C), (∀ i ∈ l, i < 12) → ∃ c6', forF (tgN 6) L_law_0 (l.map fun i : Nat => PyData.int (0 + (i : Int))) [c0, c1, c2, c3, c4, .ro false (exL s n), c6, c7] = .nx [c0, c1, c2, c3, c4, .ro false (exL s n), c6', c7]
  | [], c6, _ => ⟨c6, forF_0⟩
  | i :: l, c6, h => by
    obtain ⟨c6', r⟩ := loop_ok s n c0 c1 c2 c3 c4 c7 l (.val (.int (0 + (i : Int)))) fun j hj => h j (List.mem_cons_of_mem _ hj)
    exact ⟨c6', (forF_nx (e0 := [c0, c1, c2, c3, c4, .ro false (exL s n), .val (.int (0 + (i : Int))), c7]) rfl (st_ok s n c0 c1 c2 c3 c4 i (h i List.mem_cons_self) c7)).trans r⟩
theorem body_ok (s : Str) (n : Int) (c0 c1 c2 c3 c4 c6 c7 : C) : ∃ c6', L_law_1 [c0, c1, c2, c3, c4, .ro false (exL s n), c6, c7] = .nx [c0, c1, c2, c3, c4, .ro false (exL s n), c6', c7] := by
  obtain ⟨c6', r⟩ := loop_ok s n c0 c1 c2 c3 c4 c7 (List.range 12) c6 fun i hi => List.mem_range.mp hi
  exact ⟨c6', r⟩
theorem kept_ok (s : Str) (n : Int) : f_l_kept [exL s n, .d (.str s), .d (.int n)] = some (.d (.bool true)) := by
  have es : gNe (.str s) (.str s) = some (.bool false) := by rw [ev_nes, decide_eq_true rfl]; rfl
  have ei : gNe (.int n) (.int n) = some (.bool false) := by rw [ev_ne, decide_eq_true rfl]; rfl
  have wh : f_l_whole [.int n] = some (.bool true) := by
    rw [fe_l_whole]
    unfold b_l_whole
    simp only [EVY, EV0, EV1, EV2, EV3, EV4, EV5, decide_true, decide_false, List.nil_append, List.cons_append]
  have l1 : ∀ (i : Int) (c3 : C), i = 0 ∨ i = 3 ∨ i = 5 ∨ i = 7 ∨ i = 11 → L_l_kept_1 [.ro true (exL s n), .val (.str s), .val (.int n), .val (.int i), .und] = .nx [.ro true (exL s n), .val (.str s), .val (.int n), .val (.int i), .und] := fun i c3 hi => by
    have r : rX ["NoName", "Broken", "NoDeed", "NoRule", "ShortShare"] "name" (rI (eV 3) (rN 0)) [.ro true (exL s n), .val (.str s), .val (.int n), .val (.int i), .und] = some (.d (.str s)) := by
      rcases hi with h | h | h | h | h <;> subst h <;> rfl
    unfold L_l_kept_1
    simp only [EVY, EV0, EV1, EV2, EV3, EV4, EV5, decide_true, decide_false, List.nil_append, List.cons_append, r, es]
  have l0 : ∀ (c4 : C), L_l_kept_0 [.ro true (exL s n), .val (.str s), .val (.int n), .val (.int 11), .val (.int n)] = .nx [.ro true (exL s n), .val (.str s), .val (.int n), .val (.int 11), .val (.int n)] := fun c4 => by
    unfold L_l_kept_0
    simp only [EVY, EV0, EV1, EV2, EV3, EV4, EV5, decide_true, decide_false, List.nil_append, List.cons_append, wh, ei]
  have f1 : forF (tgN 3) L_l_kept_1 [.int 0, .int 3, .int 5, .int 7, .int 11] [.ro true (exL s n), .val (.str s), .val (.int n), .und, .und] = .nx [.ro true (exL s n), .val (.str s), .val (.int n), .val (.int 11), .und] := by
    rw [forF_nx (e0 := [.ro true (exL s n), .val (.str s), .val (.int n), .val (.int 0), .und]) rfl (l1 0 .und (by decide)),
      forF_nx (e0 := [.ro true (exL s n), .val (.str s), .val (.int n), .val (.int 3), .und]) rfl (l1 3 .und (by decide)),
      forF_nx (e0 := [.ro true (exL s n), .val (.str s), .val (.int n), .val (.int 5), .und]) rfl (l1 5 .und (by decide)),
      forF_nx (e0 := [.ro true (exL s n), .val (.str s), .val (.int n), .val (.int 7), .und]) rfl (l1 7 .und (by decide)),
      forF_nx (e0 := [.ro true (exL s n), .val (.str s), .val (.int n), .val (.int 11), .und]) rfl (l1 11 .und (by decide)), forF_0]
  have f0 : ∀ (l : List Unit) (c4 : C), ∃ c4', forF (tgN 4) L_l_kept_0 (l.map fun _ => PyData.int n) [.ro true (exL s n), .val (.str s), .val (.int n), .val (.int 11), c4] = .nx [.ro true (exL s n), .val (.str s), .val (.int n), .val (.int 11), c4'] := fun l => by
    induction l with
    | nil => exact fun c4 => ⟨c4, forF_0⟩
    | cons u l ih =>
      intro c4
      obtain ⟨c4', r⟩ := ih (.val (.int n))
      exact ⟨c4', (forF_nx (e0 := [.ro true (exL s n), .val (.str s), .val (.int n), .val (.int 11), .val (.int n)]) rfl (l0 .und)).trans r⟩
  obtain ⟨c4', f0⟩ := f0 [(), (), (), (), (), ()] .und
  have f0 : forF (tgN 4) L_l_kept_0 [.int n, .int n, .int n, .int n, .int n, .int n] [.ro true (exL s n), .val (.str s), .val (.int n), .val (.int 11), .und] = .nx [.ro true (exL s n), .val (.str s), .val (.int n), .val (.int 11), c4'] := f0
  have r : ∀ env : List C, env = [.ro true (exL s n), .val (.str s), .val (.int n), .val (.int 11), .und] →
      rX ["NoLine", "NoPaper"] "line" (rI (eC (.int 4)) (rN 0)) env = some (.d (.int n)) ∧ rX ["NoText", "NoName", "NotPlain"] "place" (rI (eC (.int 5)) (rN 0)) env = some (.d (.int n)) ∧
      rX ["NoLine", "NoPaper"] "line" (rI (eC (.int 6)) (rN 0)) env = some (.d (.int n)) ∧ rX ["NoText", "NoName", "NotPlain"] "place" (rI (eC (.int 8)) (rN 0)) env = some (.d (.int n)) ∧
      rX ["NoText", "NoName", "NotPlain"] "place" (rI (eC (.int 9)) (rN 0)) env = some (.d (.int n)) ∧ rX ["ShortShare"] "lack" (rI (eC (.int 11)) (rN 0)) env = some (.d (.int n)) := fun env e => by
    subst e
    exact ⟨rfl, rfl, rfl, rfl, rfl, rfl⟩
  obtain ⟨r4, r5, r6, r8, r9, r11⟩ := r _ rfl
  refine (fe_l_kept _ _ _).trans ?_
  show outT (b_l_kept [.ro true (exL s n), .val (.str s), .val (.int n), .und, .und]) = _
  unfold b_l_kept
  simp only [EVY, EV0, EV1, EV2, EV3, EV4, EV5, decide_true, decide_false, List.nil_append, List.cons_append, f1, r4, r5, r6, r8, r9, r11, f0]
  rfl
theorem cell_ok {ns : List Int} {k : Int} (h0 : 0 ≤ k) : ∃ v : Int, f_l_cell_at [.list (ns.map .int), .int k] = some (.int v) := by
  rw [fe_l_cell_at]
  unfold b_l_cell_at
  by_cases h : k < ns.length
  · have e : atI (ns.map PyData.int) k = some (.int ns[k.toNat]) := by
      rw [ev_atm h0 h, List.getElem?_eq_getElem (by omega)]; rfl
    simp only [EVY, EV0, EV1, EV2, EV3, EV4, EV5, decide_true, decide_false, List.nil_append, List.cons_append, List.length_map, h, e, if_true]
    exact ⟨_, rfl⟩
  · simp only [EVY, EV0, EV1, EV2, EV3, EV4, EV5, decide_true, decide_false, List.nil_append, List.cons_append, List.length_map, h, if_false]
    exact ⟨_, rfl⟩
theorem forLit_nx {v : Nat} {b : List C → Out} {u : T} {r : List T} {env e : List C} (h : b (env.set v (.ro false u)) = .nx e) : forLit v b (u :: r) env = forLit v b r e := by
  conv => lhs; unfold forLit
  rw [h]
theorem lit_ok {b : List C → Out} {sc z n : D} {ts1 ts2 : List T} (h : ∀ (ts : List T), ts = ts1 ∨ ts = ts2 → ∀ c0 c1 c2 c3 c4 c6 c7 : C, ∃ c6', b [c0, c1, c2, c3, c4, .ro false (.n .l ts), c6, c7] = .nx [c0, c1, c2, c3, c4, .ro false (.n .l ts), c6', c7]) :
    ∃ x0 x5 x6 x7, sForLit 5 (rN 3) (rN 4) b [.brw sc, .val z, .val n, .own none (.n .l ts1), .own none (.n .l ts2), .und, .und, .und] = .nx [x0, .val z, .val n, .own none (.n .l ts1), .own none (.n .l ts2), x5, x6, x7] := by
  have en : lendE 0 [.brw sc, .val z, .val n, .own none (.n .l ts1), .own none (.n .l ts2), .und, .und, .und] = [lendC 0 (.brw sc), lendC 1 (.val z), lendC 2 (.val n), lendC 3 (.own none (.n .l ts1)), lendC 4 (.own none (.n .l ts2)), lendC 5 .und, lendC 6 .und, lendC 7 .und] := rfl
  obtain ⟨d6, b1⟩ := h ts1 (.inl rfl) (lendC 0 (.brw sc)) (lendC 1 (.val z)) (lendC 2 (.val n)) (lendC 3 (.own none (.n .l ts1))) (lendC 4 (.own none (.n .l ts2))) (lendC 6 .und) (lendC 7 .und)
  obtain ⟨d6', b2⟩ := h ts2 (.inr rfl) (lendC 0 (.brw sc)) (lendC 1 (.val z)) (lendC 2 (.val n)) (lendC 3 (.own none (.n .l ts1))) (lendC 4 (.own none (.n .l ts2))) d6 (lendC 7 .und)
  have fl : forLit 5 b [.n .l ts1, .n .l ts2] (lendE 0 [.brw sc, .val z, .val n, .own none (.n .l ts1), .own none (.n .l ts2), .und, .und, .und]) = .nx [lendC 0 (.brw sc), lendC 1 (.val z), lendC 2 (.val n), lendC 3 (.own none (.n .l ts1)), lendC 4 (.own none (.n .l ts2)), .ro false (.n .l ts2), d6', lendC 7 .und] := by
    rw [en, forLit_nx b1, forLit_nx b2]
    rfl
  refine ⟨(backC 0 (.brw sc) (lendC 0 (.brw sc))).getD .und, .und, keepV d6', .und, ?_⟩
  have e0 : sForLit 5 (rN 3) (rN 4) b [.brw sc, .val z, .val n, .own none (.n .l ts1), .own none (.n .l ts2), .und, .und, .und] = oLend [.brw sc, .val z, .val n, .own none (.n .l ts1), .own none (.n .l ts2), .und, .und, .und] (forLit 5 b [.n .l ts1, .n .l ts2] (lendE 0 [.brw sc, .val z, .val n, .own none (.n .l ts1), .own none (.n .l ts2), .und, .und, .und])) := rfl
  rw [e0, fl]
  rfl
theorem rev_ok {k : Int} (h0 : 0 ≤ k) (h1 : k < 10) : (revT (cutS "abcdefghij" none (some (1 + k)))).length ≤ sizeLine := by
  have : k = 0 ∨ k = 1 ∨ k = 2 ∨ k = 3 ∨ k = 4 ∨ k = 5 ∨ k = 6 ∨ k = 7 ∨ k = 8 ∨ k = 9 := by omega
  rw [sizeLine_eq]
  rcases this with h | h | h | h | h | h | h | h | h | h <;> subst h <;> decide +kernel
theorem law_true (ns : List Int) (h : ns.length ≤ 63) : f_law [.list (ns.map PyData.int)] = some (.bool true) := by
  obtain ⟨a, c0⟩ := cell_ok (ns := ns) (k := 0) (by decide)
  obtain ⟨b, c1⟩ := cell_ok (ns := ns) (k := 1) (by decide)
  have z10 : (0 : Int) < 10 := by decide
  have p30 : gPow (.int 10) (.int 30) = some (.int (10 ^ 30)) := (ev_pow (i := 10) (j := 30) (by decide) (by decide) (by decide)).trans (by rfl)
  have z30 : (0 : Int) < 10 ^ 30 := by decide
  have z2 : (0 : Int) < 2 := by decide
  have r0 := Int.emod_nonneg a (b := 10) (by decide)
  have r1 := Int.emod_lt_of_pos a z10
  have hr := rev_ok r0 r1
  have sl : gSl (.str "abcdefghij") none (some (1 + a % 10)) = some (.str (cutS "abcdefghij" none (some (1 + a % 10)))) := by
    show (if ("abcdefghij" : Str).length ≤ sizeLine then some (PyData.str (cutS "abcdefghij" none (some (1 + a % 10)))) else none) = _
    rw [if_pos (by rw [sizeLine_eq]; decide +kernel)]
  generalize cutS "abcdefghij" none (some (1 + a % 10)) = z at hr sl
  generalize hb : b % 10 ^ 30 = n at *
  have rv : gRevT (.str z) (some (-1)) = some (.str (revT z)) := if_pos ⟨rfl, hr⟩
  have m2 : Md 2 := Md.of_lt (by decide) (by decide)
  have m0 : Md (n % 2) := Md.of_lt (by omega) (by omega)
  have mu := ev_mul m0 m2
  have nc : ∀ (g : List T → Option T) (rs : List C → Option (List T)) (env : List C), nCall g rs env = (rs env).bind g := fun _ _ _ => rfl
  have aA := all_ok z n
  have aB := all_ok (revT z) (n + 1 - n % 2 * 2)
  have k1 := kept_ok z n
  have k2 := kept_ok (revT z) (n + 1 - n % 2 * 2)
  obtain ⟨x0, x5, x6, x7, fl⟩ := lit_ok (b := L_law_1) (sc := .list (ns.map .int)) (z := .str z) (n := .int n) (ts1 := exLs z n) (ts2 := exLs (revT z) (n + 1 - n % 2 * 2)) (fun ts h c0 c1 c2 c3 c4 c6 c7 => by
    rcases h with h | h <;> subst h <;> exact body_ok _ _ c0 c1 c2 c3 c4 c6 c7)
  unfold exL at aA aB k1 k2
  generalize exLs z n = t1 at *
  generalize exLs (revT z) (n + 1 - n % 2 * 2) = t2 at *
  have cA : xCallP f_l_all [] (mpRo (eV 1) (mpRo (eV 2) mpNil)) [.brw (.list (ns.map .int)), .val (.str z), .val (.int n), .und, .und, .und, .und, .und] = some ([.brw (.list (ns.map .int)), .val (.str z), .val (.int n), .und, .und, .und, .und, .und], .n .l t1) :=
    (callP_at (ips := []) (us := [.d (.str z), .d (.int n)]) (us' := []) rfl (by rfl) aA).trans rfl
  have cB : xCallP f_l_all [] (mpRo (eRevT (eV 1) (pS (eNeg (eC (.int 1))))) (mpRo (e2 gSub (e2 gAdd (eV 2) (eC (.int 1))) (e2 gMul (e2 gModA (eV 2) (eC (.int 2))) (eC (.int 2)))) mpNil)) [.brw (.list (ns.map .int)), .val (.str z), .val (.int n), .own none (.n .l t1), .und, .und, .und, .und] = some ([.brw (.list (ns.map .int)), .val (.str z), .val (.int n), .own none (.n .l t1), .und, .und, .und, .und], .n .l t2) :=
    (callP_at (ips := []) (us := [.d (.str (revT z)), .d (.int (n + 1 - n % 2 * 2))]) (us' := []) (by simp only [EVY, EV0, EV1, EV2, EV3, EV4, EV5, decide_true, decide_false, List.nil_append, List.cons_append, ev_revT, rv, z2, mu]) (by rfl) aB).trans rfl
  rw [fe_law]
  unfold b_law
  simp only [EVY, EV0, EV1, EV2, EV3, EV4, EV5, decide_true, decide_false, List.nil_append, List.cons_append, c0, c1, z10, sl, p30, z30, hb, cA, cB, fl, nc, k1, k2, ev_revT, rv, z2, mu]
end
end DL
namespace DL
open PySem PySem.Spec L2
section
variable {P : Program} {w : World} {K : PySem.W.Frag} {mg : Str → Option Value} {base : Heap}
theorem ok_NoText_init {f CB : Addr} {fd : FuncData} (F : Fun K "__init__" "NoText.__init__" s_NoText_init f fd) (bc : BaseC K mg "BookError" CB) : FnOk P w K mg base CX0 1 f fd ["self", "place"] (spI1 K "place") :=
  init1_ok F sc_NoText_init fun cdv A outer s H E => pss_cons (ps_expr (pe_binit (by rfl) bc.at_ bc.rd bc.sp bc.fc (pa_cons (pv 0) (pa_cons pe_str pa_nil)))) (pss_one (ps_ost (pv 0) (pv 1)))

theorem ok_NoName_init {f CB : Addr} {fd : FuncData} (F : Fun K "__init__" "NoName.__init__" s_NoName_init f fd) (bc : BaseC K mg "BookError" CB) : FnOk P w K mg base CX0 1 f fd ["self", "name", "place"] (spI2 K "name" "place") :=
  init2_ok F sc_NoName_init fun cdv A outer s H E => pss_cons (ps_expr (pe_binit (by rfl) bc.at_ bc.rd bc.sp bc.fc (pa_cons (pv 0) (pa_cons pe_str pa_nil)))) (pss_cons (ps_ost (pv 0) (pv 1)) (pss_one (ps_ost (pv 0) (pv 2))))

theorem ok_NotPlain_init {f CB : Addr} {fd : FuncData} (F : Fun K "__init__" "NotPlain.__init__" s_NotPlain_init f fd) (bc : BaseC K mg "BookError" CB) : FnOk P w K mg base CX0 1 f fd ["self", "place"] (spI1 K "place") :=
  init1_ok F sc_NotPlain_init fun cdv A outer s H E => pss_cons (ps_expr (pe_binit (by rfl) bc.at_ bc.rd bc.sp bc.fc (pa_cons (pv 0) (pa_cons pe_str pa_nil)))) (pss_one (ps_ost (pv 0) (pv 1)))

theorem ok_Broken_init {f CB : Addr} {fd : FuncData} (F : Fun K "__init__" "Broken.__init__" s_Broken_init f fd) (bc : BaseC K mg "BookError" CB) : FnOk P w K mg base CX0 1 f fd ["self", "name"] (spI1 K "name") :=
  init1_ok F sc_Broken_init fun cdv A outer s H E => pss_cons (ps_expr (pe_binit (by rfl) bc.at_ bc.rd bc.sp bc.fc (pa_cons (pv 0) (pa_cons pe_str pa_nil)))) (pss_one (ps_ost (pv 0) (pv 1)))

theorem ok_NoLine_init {f CB : Addr} {fd : FuncData} (F : Fun K "__init__" "NoLine.__init__" s_NoLine_init f fd) (bc : BaseC K mg "BookError" CB) : FnOk P w K mg base CX0 1 f fd ["self", "line"] (spI1 K "line") :=
  init1_ok F sc_NoLine_init fun cdv A outer s H E => pss_cons (ps_expr (pe_binit (by rfl) bc.at_ bc.rd bc.sp bc.fc (pa_cons (pv 0) (pa_cons pe_str pa_nil)))) (pss_one (ps_ost (pv 0) (pv 1)))

theorem ok_NoDeed_init {f CB : Addr} {fd : FuncData} (F : Fun K "__init__" "NoDeed.__init__" s_NoDeed_init f fd) (bc : BaseC K mg "BookError" CB) : FnOk P w K mg base CX0 1 f fd ["self", "name"] (spI1 K "name") :=
  init1_ok F sc_NoDeed_init fun cdv A outer s H E => pss_cons (ps_expr (pe_binit (by rfl) bc.at_ bc.rd bc.sp bc.fc (pa_cons (pv 0) (pa_cons pe_str pa_nil)))) (pss_one (ps_ost (pv 0) (pv 1)))

theorem ok_NoRule_init {f CB : Addr} {fd : FuncData} (F : Fun K "__init__" "NoRule.__init__" s_NoRule_init f fd) (bc : BaseC K mg "BookError" CB) : FnOk P w K mg base CX0 1 f fd ["self", "name"] (spI1 K "name") :=
  init1_ok F sc_NoRule_init fun cdv A outer s H E => pss_cons (ps_expr (pe_binit (by rfl) bc.at_ bc.rd bc.sp bc.fc (pa_cons (pv 0) (pa_cons pe_str pa_nil)))) (pss_one (ps_ost (pv 0) (pv 1)))

theorem ok_ShortShare_init {f CB : Addr} {fd : FuncData} (F : Fun K "__init__" "ShortShare.__init__" s_ShortShare_init f fd) (bc : BaseC K mg "BookError" CB) : FnOk P w K mg base CX0 1 f fd ["self", "name", "lack"] (spI2 K "name" "lack") :=
  init2_ok F sc_ShortShare_init fun cdv A outer s H E => pss_cons (ps_expr (pe_binit (by rfl) bc.at_ bc.rd bc.sp bc.fc (pa_cons (pv 0) (pa_cons pe_str pa_nil)))) (pss_cons (ps_ost (pv 0) (pv 1)) (pss_one (ps_ost (pv 0) (pv 2))))

theorem ok_NoPaper_init {f CB : Addr} {fd : FuncData} (F : Fun K "__init__" "NoPaper.__init__" s_NoPaper_init f fd) (bc : BaseC K mg "BookError" CB) : FnOk P w K mg base CX0 1 f fd ["self", "line"] (spI1 K "line") :=
  init1_ok F sc_NoPaper_init fun cdv A outer s H E => pss_cons (ps_expr (pe_binit (by rfl) bc.at_ bc.rd bc.sp bc.fc (pa_cons (pv 0) (pa_cons pe_str pa_nil)))) (pss_one (ps_ost (pv 0) (pv 1)))

theorem ok_l_cell_at {f : Addr} {fd : FuncData} (F : Fun K "_law_cell_at" "_law_cell_at" s_l_cell_at f fd) (hm : mg "_law_cell_at" = some (.ref f)) (b : Binds K fd ["_law_script", "_law_k"] []) (B_len : mg "len" = none) : Callee P w K mg base 1 "_law_cell_at" [.vw, .fz] .fz f_l_cell_at :=
  ⟨⟨f, fd, ["_law_script", "_law_k"], fn_pure F sc_l_cell_at rfl rfl fun cdv A outer s H E G hr hW hw =>
  (dss_cons (ds_if (dt_cmp o_lt (d_var 1 (pv 1)) (d_callB o_len (by rfl) B_len PySem.boot_len (da_cons (d_varB 0 (pv 0)) .vw da_nil)) (by first | exact nomark _ | rfl)) (dss_one (ds_ret (d_scal (d_ixB (d_varB 0 (pv 0)) (d_var 1 (pv 1)) (fun _ _ => rfl))))) dss_nil)
  (dss_one (ds_ret d_int))), hm, F.kp, b⟩⟩

theorem ok_l_whole {f : Addr} {fd : FuncData} (F : Fun K "_law_whole" "_law_whole" s_l_whole f fd) (hm : mg "_law_whole" = some (.ref f)) (b : Binds K fd ["_law_found"] []) (B_bool : mg "bool" = none) (B_int : mg "int" = none) (B_isinstance : mg "isinstance" = none) : Callee P w K mg base 1 "_law_whole" [.fz] .fz f_l_whole :=
  ⟨⟨f, fd, ["_law_found"], fn_pure F sc_l_whole rfl rfl fun cdv A outer s H E G hr hW hw =>
  (dss_one (ds_ret (d_and (d_isi (T := "int") (d_var 0 (pv 0)) (by rfl) B_isinstance (by rfl) B_int (by decide +kernel) (.ty _)) (d_one (d_not (d_isi (T := "bool") (d_var 0 (pv 0)) (by rfl) B_isinstance (by rfl) B_bool (by decide +kernel) (.ty _))))))), hm, F.kp, b⟩⟩

theorem ok_l_kinds {f : Addr} {fd : FuncData} (F : Fun K "_law_kinds" "_law_kinds" s_l_kinds f fd) (hm : mg "_law_kinds" = some (.ref f)) (b : Binds K fd ["_law_error"] []) {CB_Broken : Addr} {CB_Folded : Addr} {CB_NoBook : Addr} {CB_NoDeed : Addr} {CB_NoLine : Addr} {CB_NoName : Addr} {CB_NoPaper : Addr} {CB_NoRule : Addr} {CB_NoText : Addr} {CB_NotPlain : Addr} {CB_OutOfRange : Addr} {CB_ShortShare : Addr} (gB_Broken : mg "Broken" = some (.ref CB_Broken)) (gB_Folded : mg "Folded" = some (.ref CB_Folded)) (gB_NoBook : mg "NoBook" = some (.ref CB_NoBook)) (gB_NoDeed : mg "NoDeed" = some (.ref CB_NoDeed)) (gB_NoLine : mg "NoLine" = some (.ref CB_NoLine)) (gB_NoName : mg "NoName" = some (.ref CB_NoName)) (gB_NoPaper : mg "NoPaper" = some (.ref CB_NoPaper)) (gB_NoRule : mg "NoRule" = some (.ref CB_NoRule)) (gB_NoText : mg "NoText" = some (.ref CB_NoText)) (gB_NotPlain : mg "NotPlain" = some (.ref CB_NotPlain)) (gB_OutOfRange : mg "OutOfRange" = some (.ref CB_OutOfRange)) (gB_ShortShare : mg "ShortShare" = some (.ref CB_ShortShare)) (xt_Broken : ∀ c, c ∈ (["Broken"] : List Str) → ExOk K c ∧ IsOk K c (.ref CB_Broken) true) (xn_Broken : ∀ c, c ∈ (["NoText", "NoName", "NotPlain", "NoBook", "NoLine", "NoDeed", "NoRule", "OutOfRange", "ShortShare", "Folded", "NoPaper"] : List Str) → ExOk K c ∧ IsOk K c (.ref CB_Broken) false) (xt_Folded : ∀ c, c ∈ (["Folded"] : List Str) → ExOk K c ∧ IsOk K c (.ref CB_Folded) true) (xn_Folded : ∀ c, c ∈ (["NoText", "NoName", "NotPlain", "NoBook", "Broken", "NoLine", "NoDeed", "NoRule", "OutOfRange", "ShortShare", "NoPaper"] : List Str) → ExOk K c ∧ IsOk K c (.ref CB_Folded) false) (xt_NoBook : ∀ c, c ∈ (["NoBook"] : List Str) → ExOk K c ∧ IsOk K c (.ref CB_NoBook) true) (xn_NoBook : ∀ c, c ∈ (["NoText", "NoName", "NotPlain", "Broken", "NoLine", "NoDeed", "NoRule", "OutOfRange", "ShortShare", "Folded", "NoPaper"] : List Str) → ExOk K c ∧ IsOk K c (.ref CB_NoBook) false) (xt_NoDeed : ∀ c, c ∈ (["NoDeed"] : List Str) → ExOk K c ∧ IsOk K c (.ref CB_NoDeed) true) (xn_NoDeed : ∀ c, c ∈ (["NoText", "NoName", "NotPlain", "NoBook", "Broken", "NoLine", "NoRule", "OutOfRange", "ShortShare", "Folded", "NoPaper"] : List Str) → ExOk K c ∧ IsOk K c (.ref CB_NoDeed) false) (xt_NoLine : ∀ c, c ∈ (["NoLine"] : List Str) → ExOk K c ∧ IsOk K c (.ref CB_NoLine) true) (xn_NoLine : ∀ c, c ∈ (["NoText", "NoName", "NotPlain", "NoBook", "Broken", "NoDeed", "NoRule", "OutOfRange", "ShortShare", "Folded", "NoPaper"] : List Str) → ExOk K c ∧ IsOk K c (.ref CB_NoLine) false) (xt_NoName : ∀ c, c ∈ (["NoName"] : List Str) → ExOk K c ∧ IsOk K c (.ref CB_NoName) true) (xn_NoName : ∀ c, c ∈ (["NoText", "NotPlain", "NoBook", "Broken", "NoLine", "NoDeed", "NoRule", "OutOfRange", "ShortShare", "Folded", "NoPaper"] : List Str) → ExOk K c ∧ IsOk K c (.ref CB_NoName) false) (xt_NoPaper : ∀ c, c ∈ (["NoPaper"] : List Str) → ExOk K c ∧ IsOk K c (.ref CB_NoPaper) true) (xn_NoPaper : ∀ c, c ∈ (["NoText", "NoName", "NotPlain", "NoBook", "Broken", "NoLine", "NoDeed", "NoRule", "OutOfRange", "ShortShare", "Folded"] : List Str) → ExOk K c ∧ IsOk K c (.ref CB_NoPaper) false) (xt_NoRule : ∀ c, c ∈ (["NoRule"] : List Str) → ExOk K c ∧ IsOk K c (.ref CB_NoRule) true) (xn_NoRule : ∀ c, c ∈ (["NoText", "NoName", "NotPlain", "NoBook", "Broken", "NoLine", "NoDeed", "OutOfRange", "ShortShare", "Folded", "NoPaper"] : List Str) → ExOk K c ∧ IsOk K c (.ref CB_NoRule) false) (xt_NoText : ∀ c, c ∈ (["NoText"] : List Str) → ExOk K c ∧ IsOk K c (.ref CB_NoText) true) (xn_NoText : ∀ c, c ∈ (["NoName", "NotPlain", "NoBook", "Broken", "NoLine", "NoDeed", "NoRule", "OutOfRange", "ShortShare", "Folded", "NoPaper"] : List Str) → ExOk K c ∧ IsOk K c (.ref CB_NoText) false) (xt_NotPlain : ∀ c, c ∈ (["NotPlain"] : List Str) → ExOk K c ∧ IsOk K c (.ref CB_NotPlain) true) (xn_NotPlain : ∀ c, c ∈ (["NoText", "NoName", "NoBook", "Broken", "NoLine", "NoDeed", "NoRule", "OutOfRange", "ShortShare", "Folded", "NoPaper"] : List Str) → ExOk K c ∧ IsOk K c (.ref CB_NotPlain) false) (xt_OutOfRange : ∀ c, c ∈ (["OutOfRange"] : List Str) → ExOk K c ∧ IsOk K c (.ref CB_OutOfRange) true) (xn_OutOfRange : ∀ c, c ∈ (["NoText", "NoName", "NotPlain", "NoBook", "Broken", "NoLine", "NoDeed", "NoRule", "ShortShare", "Folded", "NoPaper"] : List Str) → ExOk K c ∧ IsOk K c (.ref CB_OutOfRange) false) (xt_ShortShare : ∀ c, c ∈ (["ShortShare"] : List Str) → ExOk K c ∧ IsOk K c (.ref CB_ShortShare) true) (xn_ShortShare : ∀ c, c ∈ (["NoText", "NoName", "NotPlain", "NoBook", "Broken", "NoLine", "NoDeed", "NoRule", "OutOfRange", "Folded", "NoPaper"] : List Str) → ExOk K c ∧ IsOk K c (.ref CB_ShortShare) false) (B_isinstance : mg "isinstance" = none) : CalT P w K mg base 1 "_law_kinds" 1 f_l_kinds :=
  ⟨⟨f, fd, ["_law_error"], fn_ro F sc_l_kinds fun cdv A outer s H E G hr hw =>
  (dss_cons (ds_set 1 sc_l_kinds.nd rfl (d_lst (da_cons (d_isX ["Broken"] ["NoText", "NoName", "NotPlain", "NoBook", "NoLine", "NoDeed", "NoRule", "OutOfRange", "ShortShare", "Folded", "NoPaper"] (V.ref CB_Broken) (.ref CB_Broken) (dr_name 0 (pv 0)) (by rfl) B_isinstance (pe_glob (v := V.ref CB_Broken) (by rfl) gB_Broken rfl) (fun _ _ _ h => h) (fun _ h => h) xt_Broken xn_Broken) .fz (da_cons (d_isX ["Folded"] ["NoText", "NoName", "NotPlain", "NoBook", "Broken", "NoLine", "NoDeed", "NoRule", "OutOfRange", "ShortShare", "NoPaper"] (V.ref CB_Folded) (.ref CB_Folded) (dr_name 0 (pv 0)) (by rfl) B_isinstance (pe_glob (v := V.ref CB_Folded) (by rfl) gB_Folded rfl) (fun _ _ _ h => h) (fun _ h => h) xt_Folded xn_Folded) .fz (da_cons (d_isX ["NoBook"] ["NoText", "NoName", "NotPlain", "Broken", "NoLine", "NoDeed", "NoRule", "OutOfRange", "ShortShare", "Folded", "NoPaper"] (V.ref CB_NoBook) (.ref CB_NoBook) (dr_name 0 (pv 0)) (by rfl) B_isinstance (pe_glob (v := V.ref CB_NoBook) (by rfl) gB_NoBook rfl) (fun _ _ _ h => h) (fun _ h => h) xt_NoBook xn_NoBook) .fz (da_cons (d_isX ["NoDeed"] ["NoText", "NoName", "NotPlain", "NoBook", "Broken", "NoLine", "NoRule", "OutOfRange", "ShortShare", "Folded", "NoPaper"] (V.ref CB_NoDeed) (.ref CB_NoDeed) (dr_name 0 (pv 0)) (by rfl) B_isinstance (pe_glob (v := V.ref CB_NoDeed) (by rfl) gB_NoDeed rfl) (fun _ _ _ h => h) (fun _ h => h) xt_NoDeed xn_NoDeed) .fz da_nil))))))
  (dss_cons (ds_set 1 sc_l_kinds.nd rfl (d_bin o_add (d_var 1 (pv 1)) (d_lst (da_cons (d_isX ["NoLine"] ["NoText", "NoName", "NotPlain", "NoBook", "Broken", "NoDeed", "NoRule", "OutOfRange", "ShortShare", "Folded", "NoPaper"] (V.ref CB_NoLine) (.ref CB_NoLine) (dr_name 0 (pv 0)) (by rfl) B_isinstance (pe_glob (v := V.ref CB_NoLine) (by rfl) gB_NoLine rfl) (fun _ _ _ h => h) (fun _ h => h) xt_NoLine xn_NoLine) .fz (da_cons (d_isX ["NoName"] ["NoText", "NotPlain", "NoBook", "Broken", "NoLine", "NoDeed", "NoRule", "OutOfRange", "ShortShare", "Folded", "NoPaper"] (V.ref CB_NoName) (.ref CB_NoName) (dr_name 0 (pv 0)) (by rfl) B_isinstance (pe_glob (v := V.ref CB_NoName) (by rfl) gB_NoName rfl) (fun _ _ _ h => h) (fun _ h => h) xt_NoName xn_NoName) .fz (da_cons (d_isX ["NoPaper"] ["NoText", "NoName", "NotPlain", "NoBook", "Broken", "NoLine", "NoDeed", "NoRule", "OutOfRange", "ShortShare", "Folded"] (V.ref CB_NoPaper) (.ref CB_NoPaper) (dr_name 0 (pv 0)) (by rfl) B_isinstance (pe_glob (v := V.ref CB_NoPaper) (by rfl) gB_NoPaper rfl) (fun _ _ _ h => h) (fun _ h => h) xt_NoPaper xn_NoPaper) .fz da_nil))))))
  (dss_cons (ds_set 1 sc_l_kinds.nd rfl (d_bin o_add (d_var 1 (pv 1)) (d_lst (da_cons (d_isX ["NoRule"] ["NoText", "NoName", "NotPlain", "NoBook", "Broken", "NoLine", "NoDeed", "OutOfRange", "ShortShare", "Folded", "NoPaper"] (V.ref CB_NoRule) (.ref CB_NoRule) (dr_name 0 (pv 0)) (by rfl) B_isinstance (pe_glob (v := V.ref CB_NoRule) (by rfl) gB_NoRule rfl) (fun _ _ _ h => h) (fun _ h => h) xt_NoRule xn_NoRule) .fz (da_cons (d_isX ["NotPlain"] ["NoText", "NoName", "NoBook", "Broken", "NoLine", "NoDeed", "NoRule", "OutOfRange", "ShortShare", "Folded", "NoPaper"] (V.ref CB_NotPlain) (.ref CB_NotPlain) (dr_name 0 (pv 0)) (by rfl) B_isinstance (pe_glob (v := V.ref CB_NotPlain) (by rfl) gB_NotPlain rfl) (fun _ _ _ h => h) (fun _ h => h) xt_NotPlain xn_NotPlain) .fz (da_cons (d_isX ["NoText"] ["NoName", "NotPlain", "NoBook", "Broken", "NoLine", "NoDeed", "NoRule", "OutOfRange", "ShortShare", "Folded", "NoPaper"] (V.ref CB_NoText) (.ref CB_NoText) (dr_name 0 (pv 0)) (by rfl) B_isinstance (pe_glob (v := V.ref CB_NoText) (by rfl) gB_NoText rfl) (fun _ _ _ h => h) (fun _ h => h) xt_NoText xn_NoText) .fz da_nil))))))
  (dss_one (ds_retX (dx_of (dn_ow (d_bin o_addL (d_var 1 (pv 1)) (d_lst (da_cons (d_isX ["OutOfRange"] ["NoText", "NoName", "NotPlain", "NoBook", "Broken", "NoLine", "NoDeed", "NoRule", "ShortShare", "Folded", "NoPaper"] (V.ref CB_OutOfRange) (.ref CB_OutOfRange) (dr_name 0 (pv 0)) (by rfl) B_isinstance (pe_glob (v := V.ref CB_OutOfRange) (by rfl) gB_OutOfRange rfl) (fun _ _ _ h => h) (fun _ h => h) xt_OutOfRange xn_OutOfRange) .fz (da_cons (d_isX ["ShortShare"] ["NoText", "NoName", "NotPlain", "NoBook", "Broken", "NoLine", "NoDeed", "NoRule", "OutOfRange", "Folded", "NoPaper"] (V.ref CB_ShortShare) (.ref CB_ShortShare) (dr_name 0 (pv 0)) (by rfl) B_isinstance (pe_glob (v := V.ref CB_ShortShare) (by rfl) gB_ShortShare rfl) (fun _ _ _ h => h) (fun _ h => h) xt_ShortShare xn_ShortShare) .fz da_nil))))))))))), hm, F.kp, b⟩⟩

theorem ok_l_all {f : Addr} {fd : FuncData} (F : Fun K "_law_all" "_law_all" s_l_all f fd) (hm : mg "_law_all" = some (.ref f)) (b : Binds K fd ["_law_name", "_law_number"] []) (xm_Broken : MkE P w K mg base 1 "Broken" ["name"] (spI1 K "name")) (x0_Folded : MkE0 K mg "Folded") (x0_NoBook : MkE0 K mg "NoBook") (xm_NoDeed : MkE P w K mg base 1 "NoDeed" ["name"] (spI1 K "name")) (xm_NoLine : MkE P w K mg base 1 "NoLine" ["line"] (spI1 K "line")) (xm_NoName : MkE P w K mg base 1 "NoName" ["name", "place"] (spI2 K "name" "place")) (xm_NoPaper : MkE P w K mg base 1 "NoPaper" ["line"] (spI1 K "line")) (xm_NoRule : MkE P w K mg base 1 "NoRule" ["name"] (spI1 K "name")) (xm_NoText : MkE P w K mg base 1 "NoText" ["place"] (spI1 K "place")) (xm_NotPlain : MkE P w K mg base 1 "NotPlain" ["place"] (spI1 K "place")) (x0_OutOfRange : MkE0 K mg "OutOfRange") (xm_ShortShare : MkE P w K mg base 1 "ShortShare" ["name", "lack"] (spI2 K "name" "lack")) : CalM P w K mg base 3 "_law_all" [false, false] f_l_all :=
  ⟨⟨f, fd, ["_law_name", "_law_number"], fn_mu (ks := [false, false]) F sc_l_all rfl fun cdv A outer s H E G hr hw =>
  (dss_cons (ds_setX 2 sc_l_all.nd rfl (dx_of (dn_lst (dns_cons (dn_mk (dmk_1 xm_Broken (hr.mono (by decide)) (by rfl) (d_var 0 (pv 0)))) (dns_cons (dn_mk (dmk_0 x0_Folded (by rfl))) (dns_cons (dn_mk (dmk_0 x0_NoBook (by rfl))) (dns_cons (dn_mk (dmk_1 xm_NoDeed (hr.mono (by decide)) (by rfl) (d_var 0 (pv 0)))) (dns_cons (dn_mk (dmk_1 xm_NoLine (hr.mono (by decide)) (by rfl) (d_var 1 (pv 1)))) (dns_cons (dn_mk (dmk_2 xm_NoName (hr.mono (by decide)) (by rfl) (d_var 0 (pv 0)) (d_var 1 (pv 1)))) (dns_cons (dn_mk (dmk_1 xm_NoPaper (hr.mono (by decide)) (by rfl) (d_var 1 (pv 1)))) dns_nil))))))) (by decide) (fun e u h => by rw [(nsCons_len (nsCons_len (nsCons_len (nsCons_len (nsCons_len (nsCons_len (nsCons_len (fun _ _ h => nsNil_len h)))))))) e u h]; decide))))
  (dss_one (ds_retX (dx_cat 2 (pv 2) (dn_lst (dns_cons (dn_mk (dmk_1 xm_NoRule (hr.mono (by decide)) (by rfl) (d_var 0 (pv 0)))) (dns_cons (dn_mk (dmk_1 xm_NotPlain (hr.mono (by decide)) (by rfl) (d_var 1 (pv 1)))) (dns_cons (dn_mk (dmk_1 xm_NoText (hr.mono (by decide)) (by rfl) (d_var 1 (pv 1)))) (dns_cons (dn_mk (dmk_0 x0_OutOfRange (by rfl))) (dns_cons (dn_mk (dmk_2 xm_ShortShare (hr.mono (by decide)) (by rfl) (d_var 0 (pv 0)) (d_var 1 (pv 1)))) dns_nil))))) (by decide) (fun e u h => by rw [(nsCons_len (nsCons_len (nsCons_len (nsCons_len (nsCons_len (fun _ _ h => nsNil_len h)))))) e u h]; decide)))))), hm, F.kp, b⟩⟩

theorem ok_l_kept {f : Addr} {fd : FuncData} (F : Fun K "_law_kept" "_law_kept" s_l_kept f fd) (hm : mg "_law_kept" = some (.ref f)) (b : Binds K fd ["_law_found", "_law_name", "_law_number"] []) (c_l_whole : Callee P w K mg base 1 "_law_whole" [.fz] .fz f_l_whole) (xf_lack : ∀ c, c ∈ (["ShortShare"] : List Str) → ExOk K c ∧ NoAtX K c "lack") (xf_line : ∀ c, c ∈ (["NoLine", "NoPaper"] : List Str) → ExOk K c ∧ NoAtX K c "line") (xf_name : ∀ c, c ∈ (["NoName", "Broken", "NoDeed", "NoRule", "ShortShare"] : List Str) → ExOk K c ∧ NoAtX K c "name") (xf_place : ∀ c, c ∈ (["NoText", "NoName", "NotPlain"] : List Str) → ExOk K c ∧ NoAtX K c "place") : CalT P w K mg base 2 "_law_kept" 3 f_l_kept :=
  ⟨⟨f, fd, ["_law_found", "_law_name", "_law_number"], fn_ro F sc_l_kept fun cdv A outer s H E G hr hw =>
  (dss_cons (ds_for PassesOwn.never rfl (di_any (d_lst (da_cons d_int .fz (da_cons d_int .fz (da_cons d_int .fz (da_cons d_int .fz (da_cons d_int .fz da_nil))))))) (dg_name 3 sc_l_kept.nd rfl)
  (dss_one (ds_if (dt_cmp (o_ne (hu64 hr)) (d_rleaf (dr_exf ["NoName", "Broken", "NoDeed", "NoRule", "ShortShare"] (dr_ix (dr_name 0 (pv 0)) (d_var 3 (pv 3)) (fun _ _ => rfl)) xf_name)) (d_var 1 (pv 1)) (by first | exact nomark _ | rfl)) (dss_one (ds_retX (dx_of (dn_fz d_bl)))) dss_nil)))
  (dss_cons (ds_for PassesOwn.never rfl (di_any (d_lst (da_cons (d_rleaf (dr_exf ["NoLine", "NoPaper"] (dr_ix (dr_name 0 (pv 0)) d_int (fun _ _ => rfl)) xf_line)) .fz (da_cons (d_rleaf (dr_exf ["NoText", "NoName", "NotPlain"] (dr_ix (dr_name 0 (pv 0)) d_int (fun _ _ => rfl)) xf_place)) .fz (da_cons (d_rleaf (dr_exf ["NoLine", "NoPaper"] (dr_ix (dr_name 0 (pv 0)) d_int (fun _ _ => rfl)) xf_line)) .fz (da_cons (d_rleaf (dr_exf ["NoText", "NoName", "NotPlain"] (dr_ix (dr_name 0 (pv 0)) d_int (fun _ _ => rfl)) xf_place)) .fz (da_cons (d_rleaf (dr_exf ["NoText", "NoName", "NotPlain"] (dr_ix (dr_name 0 (pv 0)) d_int (fun _ _ => rfl)) xf_place)) .fz (da_cons (d_rleaf (dr_exf ["ShortShare"] (dr_ix (dr_name 0 (pv 0)) d_int (fun _ _ => rfl)) xf_lack)) .fz da_nil)))))))) (dg_name 4 sc_l_kept.nd rfl)
  (dss_one (ds_if (DW.t (dw_or (dt_not (dt_val (d_call c_l_whole (hr.mono (by decide)) (by rfl) (da_cons (d_var 4 (pv 4)) .fz da_nil)))) (dw_or1 (dt_cmp (o_ne (hu64 hr)) (d_var 4 (pv 4)) (d_var 2 (pv 2)) (by first | exact nomark _ | rfl))))) (dss_one (ds_retX (dx_of (dn_fz d_bl)))) dss_nil)))
  (dss_one (ds_retX (dx_of (dn_fz d_bl)))))), hm, F.kp, b⟩⟩

theorem ok_law {f : Addr} {fd : FuncData} (F : Fun K "law" "law" s_law f fd) {CB_BookError : Addr} (c_l_kept : CalT P w K mg base 2 "_law_kept" 3 f_l_kept) (c_l_kinds : CalT P w K mg base 1 "_law_kinds" 1 f_l_kinds) (c_l_all : CalM P w K mg base 3 "_law_all" [false, false] f_l_all) (c_l_cell_at : Callee P w K mg base 1 "_law_cell_at" [.vw, .fz] .fz f_l_cell_at) (gB_BookError : mg "BookError" = some (.ref CB_BookError)) (xt_BookError : ∀ c, c ∈ (["NoText", "NoName", "NotPlain", "NoBook", "Broken", "NoLine", "NoDeed", "NoRule", "OutOfRange", "ShortShare", "Folded", "NoPaper"] : List Str) → ExOk K c ∧ IsOk K c (.ref CB_BookError) true) (xn_BookError : ∀ c, c ∈ ([] : List Str) → ExOk K c ∧ IsOk K c (.ref CB_BookError) false) (xt_ValueError : ∀ c, c ∈ (["NoText", "NoName", "NotPlain", "NoBook", "Broken", "NoLine", "NoDeed", "NoRule", "OutOfRange", "ShortShare", "Folded", "NoPaper"] : List Str) → ExOk K c ∧ IsOk K c (.type "ValueError") true) (xn_ValueError : ∀ c, c ∈ ([] : List Str) → ExOk K c ∧ IsOk K c (.type "ValueError") false) (B_ValueError : mg "ValueError" = none) (B_isinstance : mg "isinstance" = none) (B_range : mg "range" = none) : FnOk P w K mg base CX0 4 f fd ["_law_script"] (spP K [.vw] .fz f_law) :=
  fn_pure F sc_law rfl rfl fun cdv A outer s H E G hr hW hw =>
  (dss_cons (ds_set 1 sc_law.nd rfl (d_sl d_str dp_none (dp_some (d_bin o_add d_int (d_bin o_modA (d_call c_l_cell_at (hr.mono (by decide)) (by rfl) (da_cons (d_varB 0 (pv 0)) .vw (da_cons d_int .fz da_nil))) d_int)))))
  (dss_cons (ds_set 2 sc_law.nd rfl (d_bin o_modA (d_call c_l_cell_at (hr.mono (by decide)) (by rfl) (da_cons (d_varB 0 (pv 0)) .vw (da_cons d_int .fz da_nil))) (d_bin o_pow d_int d_int)))
  (dss_cons (ds_setX 3 sc_law.nd rfl (dx_callP c_l_all hw (hr.mono (by decide)) (by rfl) (dmp_ro (d_var 1 (pv 1)) (dmp_ro (d_var 2 (pv 2)) dmp_nil))))
  (dss_cons (ds_setX 4 sc_law.nd rfl (dx_callP c_l_all hw (hr.mono (by decide)) (by rfl) (dmp_ro (d_revT (d_var 1 (pv 1)) (dp_some (d_neg d_int))) (dmp_ro (d_bin o_sub (d_bin o_add (d_var 2 (pv 2)) d_int) (d_bin o_mul (d_bin o_modA (d_var 2 (pv 2)) d_int) d_int)) dmp_nil))))
  (dss_cons (ds_forLit 5 PassesOwn.never rfl (dr_name 3 (pv 3)) (dr_name 4 (pv 4)) sc_law.nd rfl (fun G2 hw2 hW => have hw := hw2.trans hw
  (dss_one (ds_for PassesOwn.never rfl (di_range1 (by rfl) B_range d_int) (dg_name 6 sc_law.nd rfl)
  (dss_cons (ds_if (DW.t (dw_or (dt_not (dt_val (d_isX ["NoText", "NoName", "NotPlain", "NoBook", "Broken", "NoLine", "NoDeed", "NoRule", "OutOfRange", "ShortShare", "Folded", "NoPaper"] [] (V.ref CB_BookError) (.ref CB_BookError) (dr_ix (dr_name 5 (pv 5)) (d_var 6 (pv 6)) (fun _ _ => rfl)) (by rfl) B_isinstance (pe_glob (v := V.ref CB_BookError) (by rfl) gB_BookError rfl) (fun _ _ _ h => h) (fun _ h => h) xt_BookError xn_BookError))) (dw_or1 (dt_not (dt_val (d_isX ["NoText", "NoName", "NotPlain", "NoBook", "Broken", "NoLine", "NoDeed", "NoRule", "OutOfRange", "ShortShare", "Folded", "NoPaper"] [] (.ty "ValueError") (.type "ValueError") (dr_ix (dr_name 5 (pv 5)) (d_var 6 (pv 6)) (fun _ _ => rfl)) (by rfl) B_isinstance (pe_bltn (by rfl) B_ValueError (v := .ty "ValueError") (by decide +kernel) rfl (by decide) (by decide)) (fun _ _ _ h => h) (fun _ h => h) xt_ValueError xn_ValueError)))))) (dss_one (ds_ret d_bl)) dss_nil)
  (dss_one (ds_if (dt_cmp (o_ne (hu64 hr)) (d_now (dn_callT c_l_kinds hw (hr.mono (by decide)) (by rfl) (drs_cons (dr_ix (dr_name 5 (pv 5)) (d_var 6 (pv 6)) (fun _ _ => rfl)) drs_nil) rfl (by decide) (nsCons_len (fun _ _ h => nsNil_len h)))) (d_lc [("_law_k", 7)] rfl sc_law.nd (di_range1 (by rfl) B_range d_int) N_law (defScope s_law) (by decide +kernel) (fun _ _ _ _ _ => (dg_name 7 sc_law.nd rfl)) (fun _ _ _ _ _ => dif_nil) (fun _ _ _ _ _ => (d_cmp (o_eq (hu64 hr)) (d_var 6 (pv 6)) (d_var 7 (pv 7)) (by first | exact nomark _ | rfl)))) (by first | exact nomark _ | rfl)) (dss_one (ds_ret d_bl)) dss_nil)))))))
  (dss_one (ds_ret (d_and (d_rleaf (dr_dn (dn_callT c_l_kept hw (hr.mono (by decide)) (by rfl) (drs_cons (dr_name 3 (pv 3)) (drs_cons (dr_fz (d_var 1 (pv 1))) (drs_cons (dr_fz (d_var 2 (pv 2))) drs_nil))) rfl (by decide) (nsCons_len (nsCons_len (nsCons_len (fun _ _ h => nsNil_len h))))))) (d_one (d_rleaf (dr_dn (dn_callT c_l_kept hw (hr.mono (by decide)) (by rfl) (drs_cons (dr_name 4 (pv 4)) (drs_cons (dr_fz (d_revT (d_var 1 (pv 1)) (dp_some (d_neg d_int)))) (drs_cons (dr_fz (d_bin o_sub (d_bin o_add (d_var 2 (pv 2)) d_int) (d_bin o_mul (d_bin o_modA (d_var 2 (pv 2)) d_int) d_int))) drs_nil))) rfl (by decide) (nsCons_len (nsCons_len (nsCons_len (fun _ _ h => nsNil_len h))))))))))))))))
end
end DL
namespace DL
open PySem PySem.Spec L2
def spLaw (K : PySem.W.Frag) : Sp := fun vs H Q _ => ∃ (a : Addr) (ns : List Int), vs = [.ref a] ∧ SqL K H a (ns.map V.int) ∧ ns.length ≤ 63 ∧ ∀ H', Q (.bl true) H'
theorem sp_law {K : PySem.W.Frag} (ht : ∀ ns : List Int, ns.length ≤ 63 → f_law [.list (ns.map PyData.int)] = some (.bool true)) (vs : List V) (H : Hp) (Q : VK) (E : L2.XK) (h : spLaw K vs H Q E) : spP K [.vw] .fz f_law vs H Q E := by
  obtain ⟨a, ns, rfl, hS, hl, q⟩ := h
  exact ⟨fun _ => none, _, _, (fun _ _ z => nomatch z), ht ns hl, ⟨.lst hS (DpAll_ints ns), trivial⟩, fun v H' F' E r => by
    cases r with | bl b => exact q H'⟩
theorem bd_l_cell_at {K : PySem.W.Frag} {f : Addr} {fd : FuncData} (F : Fun K "_law_cell_at" "_law_cell_at" s_l_cell_at f fd) : Binds K fd ["_law_script", "_law_k"] [] := F.binds (ps := ["_law_script", "_law_k"]) fun _ _ _ _ _ _ us hl => match us, hl with | [_, _], _ => rfl
theorem bd_l_whole {K : PySem.W.Frag} {f : Addr} {fd : FuncData} (F : Fun K "_law_whole" "_law_whole" s_l_whole f fd) : Binds K fd ["_law_found"] [] := F.binds (ps := ["_law_found"]) fun _ _ _ _ _ _ us hl => match us, hl with | [_], _ => rfl
theorem bd_l_kinds {K : PySem.W.Frag} {f : Addr} {fd : FuncData} (F : Fun K "_law_kinds" "_law_kinds" s_l_kinds f fd) : Binds K fd ["_law_error"] [] := F.binds (ps := ["_law_error"]) fun _ _ _ _ _ _ us hl => match us, hl with | [_], _ => rfl
theorem bd_l_all {K : PySem.W.Frag} {f : Addr} {fd : FuncData} (F : Fun K "_law_all" "_law_all" s_l_all f fd) : Binds K fd ["_law_name", "_law_number"] [] := F.binds (ps := ["_law_name", "_law_number"]) fun _ _ _ _ _ _ us hl => match us, hl with | [_, _], _ => rfl
theorem bd_l_kept {K : PySem.W.Frag} {f : Addr} {fd : FuncData} (F : Fun K "_law_kept" "_law_kept" s_l_kept f fd) : Binds K fd ["_law_found", "_law_name", "_law_number"] [] := F.binds (ps := ["_law_found", "_law_name", "_law_number"]) fun _ _ _ _ _ _ us hl => match us, hl with | [_, _, _], _ => rfl
theorem bd_law {K : PySem.W.Frag} {f : Addr} {fd : FuncData} (F : Fun K "law" "law" s_law f fd) : Binds K fd ["_law_script"] [] := F.binds (ps := ["_law_script"]) fun _ _ _ _ _ _ us hl => match us, hl with | [_], _ => rfl
theorem bd_NoText_init {K : PySem.W.Frag} {f : Addr} {fd : FuncData} (F : Fun K "__init__" "NoText.__init__" s_NoText_init f fd) : Binds K fd ["self", "place"] [] := F.binds (ps := ["self", "place"]) fun _ _ _ _ _ _ us hl => match us, hl with | [_, _], _ => rfl
theorem bd_NoName_init {K : PySem.W.Frag} {f : Addr} {fd : FuncData} (F : Fun K "__init__" "NoName.__init__" s_NoName_init f fd) : Binds K fd ["self", "name", "place"] [] := F.binds (ps := ["self", "name", "place"]) fun _ _ _ _ _ _ us hl => match us, hl with | [_, _, _], _ => rfl
theorem bd_NotPlain_init {K : PySem.W.Frag} {f : Addr} {fd : FuncData} (F : Fun K "__init__" "NotPlain.__init__" s_NotPlain_init f fd) : Binds K fd ["self", "place"] [] := F.binds (ps := ["self", "place"]) fun _ _ _ _ _ _ us hl => match us, hl with | [_, _], _ => rfl
theorem bd_Broken_init {K : PySem.W.Frag} {f : Addr} {fd : FuncData} (F : Fun K "__init__" "Broken.__init__" s_Broken_init f fd) : Binds K fd ["self", "name"] [] := F.binds (ps := ["self", "name"]) fun _ _ _ _ _ _ us hl => match us, hl with | [_, _], _ => rfl
theorem bd_NoLine_init {K : PySem.W.Frag} {f : Addr} {fd : FuncData} (F : Fun K "__init__" "NoLine.__init__" s_NoLine_init f fd) : Binds K fd ["self", "line"] [] := F.binds (ps := ["self", "line"]) fun _ _ _ _ _ _ us hl => match us, hl with | [_, _], _ => rfl
theorem bd_NoDeed_init {K : PySem.W.Frag} {f : Addr} {fd : FuncData} (F : Fun K "__init__" "NoDeed.__init__" s_NoDeed_init f fd) : Binds K fd ["self", "name"] [] := F.binds (ps := ["self", "name"]) fun _ _ _ _ _ _ us hl => match us, hl with | [_, _], _ => rfl
theorem bd_NoRule_init {K : PySem.W.Frag} {f : Addr} {fd : FuncData} (F : Fun K "__init__" "NoRule.__init__" s_NoRule_init f fd) : Binds K fd ["self", "name"] [] := F.binds (ps := ["self", "name"]) fun _ _ _ _ _ _ us hl => match us, hl with | [_, _], _ => rfl
theorem bd_ShortShare_init {K : PySem.W.Frag} {f : Addr} {fd : FuncData} (F : Fun K "__init__" "ShortShare.__init__" s_ShortShare_init f fd) : Binds K fd ["self", "name", "lack"] [] := F.binds (ps := ["self", "name", "lack"]) fun _ _ _ _ _ _ us hl => match us, hl with | [_, _, _], _ => rfl
theorem bd_NoPaper_init {K : PySem.W.Frag} {f : Addr} {fd : FuncData} (F : Fun K "__init__" "NoPaper.__init__" s_NoPaper_init f fd) : Binds K fd ["self", "line"] [] := F.binds (ps := ["self", "line"]) fun _ _ _ _ _ _ us hl => match us, hl with | [_, _], _ => rfl
def nms0 : List Str := ["__name__", "BookError", "NoText", "NoName", "NotPlain", "NoBook", "Broken", "NoLine", "NoDeed", "NoRule", "OutOfRange", "ShortShare", "Folded", "NoPaper", "_law_cell_at", "_law_mix", "_law_whole", "_law_kinds", "_law_all", "_law_kept"]
def nms : List Str := nms0
def pt0 : PartK := ⟨[cGlo "_law_cell_at", cKeep "_law_cell_at", cGlo "_law_whole", cKeep "_law_whole", cGlo "_law_kinds", cKeep "_law_kinds", cGlo "_law_all", cKeep "_law_all", cGlo "_law_kept", cKeep "_law_kept", cGlo "law", cKeep "law", cHn, cBase "BookError", cX "BookError", cX "NoText", cXo "NoText", cXi "NoText", cNo "NoText" "place", cX "NoName", cXo "NoName", cXi "NoName", cNo "NoName" "place", cNo "NoName" "name", cX "NotPlain", cXo "NotPlain", cXi "NotPlain", cNo "NotPlain" "place", cX "NoBook", cXo "NoBook", cX0 "BookError" "NoBook", cXb "BookError", cX "Broken", cXo "Broken", cXi "Broken", cNo "Broken" "name", cX "NoLine", cXo "NoLine", cXi "NoLine", cNo "NoLine" "line", cX "NoDeed", cXo "NoDeed", cXi "NoDeed", cNo "NoDeed" "name", cX "NoRule", cXo "NoRule", cXi "NoRule", cNo "NoRule" "name", cX "OutOfRange", cXo "OutOfRange", cX0 "BookError" "OutOfRange", cX "ShortShare", cXo "ShortShare", cXi "ShortShare", cNo "ShortShare" "lack", cNo "ShortShare" "name", cX "Folded", cXo "Folded", cX0 "BookError" "Folded", cX "NoPaper"], [⟨("_law_cell_at", none), "_law_cell_at", "_law_cell_at", defArgs s_l_cell_at, defBody s_l_cell_at, defScope s_l_cell_at⟩, ⟨("_law_whole", none), "_law_whole", "_law_whole", defArgs s_l_whole, defBody s_l_whole, defScope s_l_whole⟩, ⟨("_law_kinds", none), "_law_kinds", "_law_kinds", defArgs s_l_kinds, defBody s_l_kinds, defScope s_l_kinds⟩, ⟨("_law_all", none), "_law_all", "_law_all", defArgs s_l_all, defBody s_l_all, defScope s_l_all⟩]⟩
def pt1 : PartK := ⟨[cXo "NoPaper", cXi "NoPaper", cNo "NoPaper" "line", cSub "NoPaper" "BookError" true, cSub "Folded" "BookError" true, cSub "ShortShare" "BookError" true, cSub "OutOfRange" "BookError" true, cSub "NoRule" "BookError" true, cSub "NoDeed" "BookError" true, cSub "NoLine" "BookError" true, cSub "Broken" "BookError" true, cSub "NoBook" "BookError" true, cSub "NotPlain" "BookError" true, cSub "NoName" "BookError" true, cSub "NoText" "BookError" true, cSub "Broken" "Broken" true, cSub "NoPaper" "Broken" false, cSub "Folded" "Broken" false, cSub "ShortShare" "Broken" false, cSub "OutOfRange" "Broken" false, cSub "NoRule" "Broken" false, cSub "NoDeed" "Broken" false, cSub "NoLine" "Broken" false, cSub "NoBook" "Broken" false, cSub "NotPlain" "Broken" false, cSub "NoName" "Broken" false, cSub "NoText" "Broken" false, cSub "Folded" "Folded" true, cSub "NoPaper" "Folded" false, cSub "ShortShare" "Folded" false, cSub "OutOfRange" "Folded" false, cSub "NoRule" "Folded" false, cSub "NoDeed" "Folded" false, cSub "NoLine" "Folded" false, cSub "Broken" "Folded" false, cSub "NoBook" "Folded" false, cSub "NotPlain" "Folded" false, cSub "NoName" "Folded" false, cSub "NoText" "Folded" false, cSub "NoBook" "NoBook" true, cSub "NoPaper" "NoBook" false, cSub "Folded" "NoBook" false, cSub "ShortShare" "NoBook" false, cSub "OutOfRange" "NoBook" false, cSub "NoRule" "NoBook" false, cSub "NoDeed" "NoBook" false, cSub "NoLine" "NoBook" false, cSub "Broken" "NoBook" false, cSub "NotPlain" "NoBook" false, cSub "NoName" "NoBook" false, cSub "NoText" "NoBook" false, cSub "NoDeed" "NoDeed" true, cSub "NoPaper" "NoDeed" false, cSub "Folded" "NoDeed" false, cSub "ShortShare" "NoDeed" false, cSub "OutOfRange" "NoDeed" false, cSub "NoRule" "NoDeed" false, cSub "NoLine" "NoDeed" false, cSub "Broken" "NoDeed" false, cSub "NoBook" "NoDeed" false], [⟨("_law_kept", none), "_law_kept", "_law_kept", defArgs s_l_kept, defBody s_l_kept, defScope s_l_kept⟩, ⟨("law", none), "law", "law", defArgs s_law, defBody s_law, defScope s_law⟩, ⟨("NoText", some "__init__"), "__init__", "NoText.__init__", defArgs s_NoText_init, defBody s_NoText_init, defScope s_NoText_init⟩, ⟨("NoName", some "__init__"), "__init__", "NoName.__init__", defArgs s_NoName_init, defBody s_NoName_init, defScope s_NoName_init⟩]⟩
def pt2 : PartK := ⟨[cSub "NotPlain" "NoDeed" false, cSub "NoName" "NoDeed" false, cSub "NoText" "NoDeed" false, cSub "NoLine" "NoLine" true, cSub "NoPaper" "NoLine" false, cSub "Folded" "NoLine" false, cSub "ShortShare" "NoLine" false, cSub "OutOfRange" "NoLine" false, cSub "NoRule" "NoLine" false, cSub "NoDeed" "NoLine" false, cSub "Broken" "NoLine" false, cSub "NoBook" "NoLine" false, cSub "NotPlain" "NoLine" false, cSub "NoName" "NoLine" false, cSub "NoText" "NoLine" false, cSub "NoName" "NoName" true, cSub "NoPaper" "NoName" false, cSub "Folded" "NoName" false, cSub "ShortShare" "NoName" false, cSub "OutOfRange" "NoName" false, cSub "NoRule" "NoName" false, cSub "NoDeed" "NoName" false, cSub "NoLine" "NoName" false, cSub "Broken" "NoName" false, cSub "NoBook" "NoName" false, cSub "NotPlain" "NoName" false, cSub "NoText" "NoName" false, cSub "NoPaper" "NoPaper" true, cSub "Folded" "NoPaper" false, cSub "ShortShare" "NoPaper" false, cSub "OutOfRange" "NoPaper" false, cSub "NoRule" "NoPaper" false, cSub "NoDeed" "NoPaper" false, cSub "NoLine" "NoPaper" false, cSub "Broken" "NoPaper" false, cSub "NoBook" "NoPaper" false, cSub "NotPlain" "NoPaper" false, cSub "NoName" "NoPaper" false, cSub "NoText" "NoPaper" false, cSub "NoRule" "NoRule" true, cSub "NoPaper" "NoRule" false, cSub "Folded" "NoRule" false, cSub "ShortShare" "NoRule" false, cSub "OutOfRange" "NoRule" false, cSub "NoDeed" "NoRule" false, cSub "NoLine" "NoRule" false, cSub "Broken" "NoRule" false, cSub "NoBook" "NoRule" false, cSub "NotPlain" "NoRule" false, cSub "NoName" "NoRule" false, cSub "NoText" "NoRule" false, cSub "NoText" "NoText" true, cSub "NoPaper" "NoText" false, cSub "Folded" "NoText" false, cSub "ShortShare" "NoText" false, cSub "OutOfRange" "NoText" false, cSub "NoRule" "NoText" false, cSub "NoDeed" "NoText" false, cSub "NoLine" "NoText" false, cSub "Broken" "NoText" false], [⟨("NotPlain", some "__init__"), "__init__", "NotPlain.__init__", defArgs s_NotPlain_init, defBody s_NotPlain_init, defScope s_NotPlain_init⟩, ⟨("Broken", some "__init__"), "__init__", "Broken.__init__", defArgs s_Broken_init, defBody s_Broken_init, defScope s_Broken_init⟩, ⟨("NoLine", some "__init__"), "__init__", "NoLine.__init__", defArgs s_NoLine_init, defBody s_NoLine_init, defScope s_NoLine_init⟩, ⟨("NoDeed", some "__init__"), "__init__", "NoDeed.__init__", defArgs s_NoDeed_init, defBody s_NoDeed_init, defScope s_NoDeed_init⟩]⟩
def pt3 : PartK := ⟨[cSub "NoBook" "NoText" false, cSub "NotPlain" "NoText" false, cSub "NoName" "NoText" false, cSub "NotPlain" "NotPlain" true, cSub "NoPaper" "NotPlain" false, cSub "Folded" "NotPlain" false, cSub "ShortShare" "NotPlain" false, cSub "OutOfRange" "NotPlain" false, cSub "NoRule" "NotPlain" false, cSub "NoDeed" "NotPlain" false, cSub "NoLine" "NotPlain" false, cSub "Broken" "NotPlain" false, cSub "NoBook" "NotPlain" false, cSub "NoName" "NotPlain" false, cSub "NoText" "NotPlain" false, cSub "OutOfRange" "OutOfRange" true, cSub "NoPaper" "OutOfRange" false, cSub "Folded" "OutOfRange" false, cSub "ShortShare" "OutOfRange" false, cSub "NoRule" "OutOfRange" false, cSub "NoDeed" "OutOfRange" false, cSub "NoLine" "OutOfRange" false, cSub "Broken" "OutOfRange" false, cSub "NoBook" "OutOfRange" false, cSub "NotPlain" "OutOfRange" false, cSub "NoName" "OutOfRange" false, cSub "NoText" "OutOfRange" false, cSub "ShortShare" "ShortShare" true, cSub "NoPaper" "ShortShare" false, cSub "Folded" "ShortShare" false, cSub "OutOfRange" "ShortShare" false, cSub "NoRule" "ShortShare" false, cSub "NoDeed" "ShortShare" false, cSub "NoLine" "ShortShare" false, cSub "Broken" "ShortShare" false, cSub "NoBook" "ShortShare" false, cSub "NotPlain" "ShortShare" false, cSub "NoName" "ShortShare" false, cSub "NoText" "ShortShare" false, cSubT "NoPaper" "ValueError", cSubT "Folded" "ValueError", cSubT "ShortShare" "ValueError", cSubT "OutOfRange" "ValueError", cSubT "NoRule" "ValueError", cSubT "NoDeed" "ValueError", cSubT "NoLine" "ValueError", cSubT "Broken" "ValueError", cSubT "NoBook" "ValueError", cSubT "NotPlain" "ValueError", cSubT "NoName" "ValueError", cSubT "NoText" "ValueError", cFree "ValueError", cFree "bool", cFree "int", cFree "isinstance", cFree "len", cFree "range"], [⟨("NoRule", some "__init__"), "__init__", "NoRule.__init__", defArgs s_NoRule_init, defBody s_NoRule_init, defScope s_NoRule_init⟩, ⟨("ShortShare", some "__init__"), "__init__", "ShortShare.__init__", defArgs s_ShortShare_init, defBody s_ShortShare_init, defScope s_ShortShare_init⟩, ⟨("NoPaper", some "__init__"), "__init__", "NoPaper.__init__", defArgs s_NoPaper_init, defBody s_NoPaper_init, defScope s_NoPaper_init⟩]⟩
def parts : List PartK := [pt0, pt1, pt2, pt3]
theorem all_mk {l : PySem.W.OpenLaw} {w : World} {K : PySem.W.Frag} {h : Heap} {mg : Str → Option Value} {fa : Addr} (X : K.In h) (G : h.Ns mainGlobals mg) (hfa : mg "law" = some (.ref fa)) (c : SaysK parts K) :
    ∃ fd : FuncData, (∀ (s : Shared) (v : Value), BindsTo s fd ⟨[v], []⟩ [("_law_script", v)]) ∧ ∀ base : Heap, K.In base → base.Ns mainGlobals mg → FnOk l.prog w K mg base CX0 4 fa fd ["_law_script"] (spLaw K) := by
  have g_l_cell_at : cGlo "_law_cell_at" K = true := (c.ck 0 rfl 0 rfl)
  have m_l_cell_at := PySem.W.mg_of X G (cGlo_a g_l_cell_at)
  obtain ⟨fd_l_cell_at, F_l_cell_at⟩ := fun_at (x := "_law_cell_at") (q := "_law_cell_at") (p := ("_law_cell_at", none)) (st := s_l_cell_at) (c.ck 0 rfl 1 rfl) (c.fn 0 rfl 0 rfl)
  have b_l_cell_at := bd_l_cell_at F_l_cell_at
  have g_l_whole : cGlo "_law_whole" K = true := (c.ck 0 rfl 2 rfl)
  have m_l_whole := PySem.W.mg_of X G (cGlo_a g_l_whole)
  obtain ⟨fd_l_whole, F_l_whole⟩ := fun_at (x := "_law_whole") (q := "_law_whole") (p := ("_law_whole", none)) (st := s_l_whole) (c.ck 0 rfl 3 rfl) (c.fn 0 rfl 1 rfl)
  have b_l_whole := bd_l_whole F_l_whole
  have g_l_kinds : cGlo "_law_kinds" K = true := (c.ck 0 rfl 4 rfl)
  have m_l_kinds := PySem.W.mg_of X G (cGlo_a g_l_kinds)
  obtain ⟨fd_l_kinds, F_l_kinds⟩ := fun_at (x := "_law_kinds") (q := "_law_kinds") (p := ("_law_kinds", none)) (st := s_l_kinds) (c.ck 0 rfl 5 rfl) (c.fn 0 rfl 2 rfl)
  have b_l_kinds := bd_l_kinds F_l_kinds
  have g_l_all : cGlo "_law_all" K = true := (c.ck 0 rfl 6 rfl)
  have m_l_all := PySem.W.mg_of X G (cGlo_a g_l_all)
  obtain ⟨fd_l_all, F_l_all⟩ := fun_at (x := "_law_all") (q := "_law_all") (p := ("_law_all", none)) (st := s_l_all) (c.ck 0 rfl 7 rfl) (c.fn 0 rfl 3 rfl)
  have b_l_all := bd_l_all F_l_all
  have g_l_kept : cGlo "_law_kept" K = true := (c.ck 0 rfl 8 rfl)
  have m_l_kept := PySem.W.mg_of X G (cGlo_a g_l_kept)
  obtain ⟨fd_l_kept, F_l_kept⟩ := fun_at (x := "_law_kept") (q := "_law_kept") (p := ("_law_kept", none)) (st := s_l_kept) (c.ck 0 rfl 9 rfl) (c.fn 1 rfl 0 rfl)
  have b_l_kept := bd_l_kept F_l_kept
  have g_law : cGlo "law" K = true := (c.ck 0 rfl 10 rfl)
  have m_law := PySem.W.mg_of X G (cGlo_a g_law)
  obtain ⟨oc_law, od_law, sl_law, kV_law, dc_law, pm_law, an_law, cd_law, ct_law, l_law, x_law⟩ := (c.fn 1 rfl 1 rfl)
  have F_law := fun_mk (st := s_law) l_law x_law (c.ck 0 rfl 11 rfl)
  have b_law := bd_law F_law
  have hn_x : cHn K = true := (c.ck 0 rfl 12 rfl)
  have g_BookError : cX "BookError" K = true := (c.ck 0 rfl 14 rfl)
  have g_NoText : cX "NoText" K = true := (c.ck 0 rfl 15 rfl)
  have ⟨eo_NoText, ss_NoText⟩ := cXo_ok g_NoText (c.ck 0 rfl 16 rfl) hn_x
  obtain ⟨a_NoText_init, ti_NoText_init, k_NoText_init⟩ := cXi_ok (x := "NoText") (c.ck 0 rfl 17 rfl)
  obtain ⟨fd_NoText_init, F_NoText_init⟩ := fun_at (x := "__init__") (q := "NoText.__init__") (p := ("NoText", some "__init__")) (st := s_NoText_init) k_NoText_init (c.fn 1 rfl 2 rfl)
  have b_NoText_init := bd_NoText_init F_NoText_init
  have g_NoName : cX "NoName" K = true := (c.ck 0 rfl 19 rfl)
  have ⟨eo_NoName, ss_NoName⟩ := cXo_ok g_NoName (c.ck 0 rfl 20 rfl) hn_x
  obtain ⟨a_NoName_init, ti_NoName_init, k_NoName_init⟩ := cXi_ok (x := "NoName") (c.ck 0 rfl 21 rfl)
  obtain ⟨fd_NoName_init, F_NoName_init⟩ := fun_at (x := "__init__") (q := "NoName.__init__") (p := ("NoName", some "__init__")) (st := s_NoName_init) k_NoName_init (c.fn 1 rfl 3 rfl)
  have b_NoName_init := bd_NoName_init F_NoName_init
  have g_NotPlain : cX "NotPlain" K = true := (c.ck 0 rfl 24 rfl)
  have ⟨eo_NotPlain, ss_NotPlain⟩ := cXo_ok g_NotPlain (c.ck 0 rfl 25 rfl) hn_x
  obtain ⟨a_NotPlain_init, ti_NotPlain_init, k_NotPlain_init⟩ := cXi_ok (x := "NotPlain") (c.ck 0 rfl 26 rfl)
  obtain ⟨fd_NotPlain_init, F_NotPlain_init⟩ := fun_at (x := "__init__") (q := "NotPlain.__init__") (p := ("NotPlain", some "__init__")) (st := s_NotPlain_init) k_NotPlain_init (c.fn 2 rfl 0 rfl)
  have b_NotPlain_init := bd_NotPlain_init F_NotPlain_init
  have g_NoBook : cX "NoBook" K = true := (c.ck 0 rfl 28 rfl)
  have ⟨eo_NoBook, ss_NoBook⟩ := cXo_ok g_NoBook (c.ck 0 rfl 29 rfl) hn_x
  have g_Broken : cX "Broken" K = true := (c.ck 0 rfl 32 rfl)
  have ⟨eo_Broken, ss_Broken⟩ := cXo_ok g_Broken (c.ck 0 rfl 33 rfl) hn_x
  obtain ⟨a_Broken_init, ti_Broken_init, k_Broken_init⟩ := cXi_ok (x := "Broken") (c.ck 0 rfl 34 rfl)
  obtain ⟨fd_Broken_init, F_Broken_init⟩ := fun_at (x := "__init__") (q := "Broken.__init__") (p := ("Broken", some "__init__")) (st := s_Broken_init) k_Broken_init (c.fn 2 rfl 1 rfl)
  have b_Broken_init := bd_Broken_init F_Broken_init
  have g_NoLine : cX "NoLine" K = true := (c.ck 0 rfl 36 rfl)
  have ⟨eo_NoLine, ss_NoLine⟩ := cXo_ok g_NoLine (c.ck 0 rfl 37 rfl) hn_x
  obtain ⟨a_NoLine_init, ti_NoLine_init, k_NoLine_init⟩ := cXi_ok (x := "NoLine") (c.ck 0 rfl 38 rfl)
  obtain ⟨fd_NoLine_init, F_NoLine_init⟩ := fun_at (x := "__init__") (q := "NoLine.__init__") (p := ("NoLine", some "__init__")) (st := s_NoLine_init) k_NoLine_init (c.fn 2 rfl 2 rfl)
  have b_NoLine_init := bd_NoLine_init F_NoLine_init
  have g_NoDeed : cX "NoDeed" K = true := (c.ck 0 rfl 40 rfl)
  have ⟨eo_NoDeed, ss_NoDeed⟩ := cXo_ok g_NoDeed (c.ck 0 rfl 41 rfl) hn_x
  obtain ⟨a_NoDeed_init, ti_NoDeed_init, k_NoDeed_init⟩ := cXi_ok (x := "NoDeed") (c.ck 0 rfl 42 rfl)
  obtain ⟨fd_NoDeed_init, F_NoDeed_init⟩ := fun_at (x := "__init__") (q := "NoDeed.__init__") (p := ("NoDeed", some "__init__")) (st := s_NoDeed_init) k_NoDeed_init (c.fn 2 rfl 3 rfl)
  have b_NoDeed_init := bd_NoDeed_init F_NoDeed_init
  have g_NoRule : cX "NoRule" K = true := (c.ck 0 rfl 44 rfl)
  have ⟨eo_NoRule, ss_NoRule⟩ := cXo_ok g_NoRule (c.ck 0 rfl 45 rfl) hn_x
  obtain ⟨a_NoRule_init, ti_NoRule_init, k_NoRule_init⟩ := cXi_ok (x := "NoRule") (c.ck 0 rfl 46 rfl)
  obtain ⟨fd_NoRule_init, F_NoRule_init⟩ := fun_at (x := "__init__") (q := "NoRule.__init__") (p := ("NoRule", some "__init__")) (st := s_NoRule_init) k_NoRule_init (c.fn 3 rfl 0 rfl)
  have b_NoRule_init := bd_NoRule_init F_NoRule_init
  have g_OutOfRange : cX "OutOfRange" K = true := (c.ck 0 rfl 48 rfl)
  have ⟨eo_OutOfRange, ss_OutOfRange⟩ := cXo_ok g_OutOfRange (c.ck 0 rfl 49 rfl) hn_x
  have g_ShortShare : cX "ShortShare" K = true := (c.ck 0 rfl 51 rfl)
  have ⟨eo_ShortShare, ss_ShortShare⟩ := cXo_ok g_ShortShare (c.ck 0 rfl 52 rfl) hn_x
  obtain ⟨a_ShortShare_init, ti_ShortShare_init, k_ShortShare_init⟩ := cXi_ok (x := "ShortShare") (c.ck 0 rfl 53 rfl)
  obtain ⟨fd_ShortShare_init, F_ShortShare_init⟩ := fun_at (x := "__init__") (q := "ShortShare.__init__") (p := ("ShortShare", some "__init__")) (st := s_ShortShare_init) k_ShortShare_init (c.fn 3 rfl 1 rfl)
  have b_ShortShare_init := bd_ShortShare_init F_ShortShare_init
  have g_Folded : cX "Folded" K = true := (c.ck 0 rfl 56 rfl)
  have ⟨eo_Folded, ss_Folded⟩ := cXo_ok g_Folded (c.ck 0 rfl 57 rfl) hn_x
  have g_NoPaper : cX "NoPaper" K = true := (c.ck 0 rfl 59 rfl)
  have ⟨eo_NoPaper, ss_NoPaper⟩ := cXo_ok g_NoPaper (c.ck 1 rfl 0 rfl) hn_x
  obtain ⟨a_NoPaper_init, ti_NoPaper_init, k_NoPaper_init⟩ := cXi_ok (x := "NoPaper") (c.ck 1 rfl 1 rfl)
  obtain ⟨fd_NoPaper_init, F_NoPaper_init⟩ := fun_at (x := "__init__") (q := "NoPaper.__init__") (p := ("NoPaper", some "__init__")) (st := s_NoPaper_init) k_NoPaper_init (c.fn 3 rfl 2 rfl)
  have b_NoPaper_init := bd_NoPaper_init F_NoPaper_init
  have bc_x := cBase_ok X G g_BookError (c.ck 0 rfl 13 rfl)
  have gB_BookError := PySem.W.mg_of X G (cX_ok g_BookError).1
  have gB_Broken := PySem.W.mg_of X G (cX_ok g_Broken).1
  have gB_Folded := PySem.W.mg_of X G (cX_ok g_Folded).1
  have gB_NoBook := PySem.W.mg_of X G (cX_ok g_NoBook).1
  have gB_NoDeed := PySem.W.mg_of X G (cX_ok g_NoDeed).1
  have gB_NoLine := PySem.W.mg_of X G (cX_ok g_NoLine).1
  have gB_NoName := PySem.W.mg_of X G (cX_ok g_NoName).1
  have gB_NoPaper := PySem.W.mg_of X G (cX_ok g_NoPaper).1
  have gB_NoRule := PySem.W.mg_of X G (cX_ok g_NoRule).1
  have gB_NoText := PySem.W.mg_of X G (cX_ok g_NoText).1
  have gB_NotPlain := PySem.W.mg_of X G (cX_ok g_NotPlain).1
  have gB_OutOfRange := PySem.W.mg_of X G (cX_ok g_OutOfRange).1
  have gB_ShortShare := PySem.W.mg_of X G (cX_ok g_ShortShare).1
  have B_ValueError := He.free_ok X G (x := "ValueError") (c.ck 3 rfl 51 rfl)
  have B_bool := He.free_ok X G (x := "bool") (c.ck 3 rfl 52 rfl)
  have B_int := He.free_ok X G (x := "int") (c.ck 3 rfl 53 rfl)
  have B_isinstance := He.free_ok X G (x := "isinstance") (c.ck 3 rfl 54 rfl)
  have B_len := He.free_ok X G (x := "len") (c.ck 3 rfl 55 rfl)
  have B_range := He.free_ok X G (x := "range") (c.ck 3 rfl 56 rfl)
  have e := hfa.symm.trans m_law
  cases e
  refine ⟨PySem.W.fnOf "law" "law" (defArgs s_law) (defBody s_law) (defScope s_law) .none kV_law dc_law pm_law an_law cd_law ct_law, fun s v => .of_eq rfl, fun base _ _ => ?_⟩
  have xm_NoText : MkE l.prog w K mg base 1 "NoText" ["place"] (spI1 K "place") := mkE_of (cX_ok g_NoText).1 (PySem.W.mg_of X G (cX_ok g_NoText).1) (cX_ok g_NoText).2 a_NoText_init ti_NoText_init (List.forall_mem_cons.2 ⟨He.noat_ok (c.ck 0 rfl 18 rfl), (fun _ h => nomatch h)⟩) (ok_NoText_init F_NoText_init bc_x) b_NoText_init
  have xm_NoName : MkE l.prog w K mg base 1 "NoName" ["name", "place"] (spI2 K "name" "place") := mkE_of (cX_ok g_NoName).1 (PySem.W.mg_of X G (cX_ok g_NoName).1) (cX_ok g_NoName).2 a_NoName_init ti_NoName_init (List.forall_mem_cons.2 ⟨He.noat_ok (c.ck 0 rfl 23 rfl), (List.forall_mem_cons.2 ⟨He.noat_ok (c.ck 0 rfl 22 rfl), (fun _ h => nomatch h)⟩)⟩) (ok_NoName_init F_NoName_init bc_x) b_NoName_init
  have xm_NotPlain : MkE l.prog w K mg base 1 "NotPlain" ["place"] (spI1 K "place") := mkE_of (cX_ok g_NotPlain).1 (PySem.W.mg_of X G (cX_ok g_NotPlain).1) (cX_ok g_NotPlain).2 a_NotPlain_init ti_NotPlain_init (List.forall_mem_cons.2 ⟨He.noat_ok (c.ck 0 rfl 27 rfl), (fun _ h => nomatch h)⟩) (ok_NotPlain_init F_NotPlain_init bc_x) b_NotPlain_init
  have x0_NoBook := cX0_ok X G g_NoBook (c.ck 0 rfl 30 rfl) (c.ck 0 rfl 31 rfl)
  have xm_Broken : MkE l.prog w K mg base 1 "Broken" ["name"] (spI1 K "name") := mkE_of (cX_ok g_Broken).1 (PySem.W.mg_of X G (cX_ok g_Broken).1) (cX_ok g_Broken).2 a_Broken_init ti_Broken_init (List.forall_mem_cons.2 ⟨He.noat_ok (c.ck 0 rfl 35 rfl), (fun _ h => nomatch h)⟩) (ok_Broken_init F_Broken_init bc_x) b_Broken_init
  have xm_NoLine : MkE l.prog w K mg base 1 "NoLine" ["line"] (spI1 K "line") := mkE_of (cX_ok g_NoLine).1 (PySem.W.mg_of X G (cX_ok g_NoLine).1) (cX_ok g_NoLine).2 a_NoLine_init ti_NoLine_init (List.forall_mem_cons.2 ⟨He.noat_ok (c.ck 0 rfl 39 rfl), (fun _ h => nomatch h)⟩) (ok_NoLine_init F_NoLine_init bc_x) b_NoLine_init
  have xm_NoDeed : MkE l.prog w K mg base 1 "NoDeed" ["name"] (spI1 K "name") := mkE_of (cX_ok g_NoDeed).1 (PySem.W.mg_of X G (cX_ok g_NoDeed).1) (cX_ok g_NoDeed).2 a_NoDeed_init ti_NoDeed_init (List.forall_mem_cons.2 ⟨He.noat_ok (c.ck 0 rfl 43 rfl), (fun _ h => nomatch h)⟩) (ok_NoDeed_init F_NoDeed_init bc_x) b_NoDeed_init
  have xm_NoRule : MkE l.prog w K mg base 1 "NoRule" ["name"] (spI1 K "name") := mkE_of (cX_ok g_NoRule).1 (PySem.W.mg_of X G (cX_ok g_NoRule).1) (cX_ok g_NoRule).2 a_NoRule_init ti_NoRule_init (List.forall_mem_cons.2 ⟨He.noat_ok (c.ck 0 rfl 47 rfl), (fun _ h => nomatch h)⟩) (ok_NoRule_init F_NoRule_init bc_x) b_NoRule_init
  have x0_OutOfRange := cX0_ok X G g_OutOfRange (c.ck 0 rfl 50 rfl) (c.ck 0 rfl 31 rfl)
  have xm_ShortShare : MkE l.prog w K mg base 1 "ShortShare" ["name", "lack"] (spI2 K "name" "lack") := mkE_of (cX_ok g_ShortShare).1 (PySem.W.mg_of X G (cX_ok g_ShortShare).1) (cX_ok g_ShortShare).2 a_ShortShare_init ti_ShortShare_init (List.forall_mem_cons.2 ⟨He.noat_ok (c.ck 0 rfl 55 rfl), (List.forall_mem_cons.2 ⟨He.noat_ok (c.ck 0 rfl 54 rfl), (fun _ h => nomatch h)⟩)⟩) (ok_ShortShare_init F_ShortShare_init bc_x) b_ShortShare_init
  have x0_Folded := cX0_ok X G g_Folded (c.ck 0 rfl 58 rfl) (c.ck 0 rfl 31 rfl)
  have xm_NoPaper : MkE l.prog w K mg base 1 "NoPaper" ["line"] (spI1 K "line") := mkE_of (cX_ok g_NoPaper).1 (PySem.W.mg_of X G (cX_ok g_NoPaper).1) (cX_ok g_NoPaper).2 a_NoPaper_init ti_NoPaper_init (List.forall_mem_cons.2 ⟨He.noat_ok (c.ck 1 rfl 2 rfl), (fun _ h => nomatch h)⟩) (ok_NoPaper_init F_NoPaper_init bc_x) b_NoPaper_init
  have xt_BookError : ∀ c, c ∈ (["NoText", "NoName", "NotPlain", "NoBook", "Broken", "NoLine", "NoDeed", "NoRule", "OutOfRange", "ShortShare", "Folded", "NoPaper"] : List Str) → ExOk K c ∧ IsOk K c (.ref (He.ga K "BookError")) true := (List.forall_mem_cons.2 ⟨⟨eo_NoText, is_ref g_NoText g_BookError (c.ck 1 rfl 14 rfl) ss_NoText⟩, (List.forall_mem_cons.2 ⟨⟨eo_NoName, is_ref g_NoName g_BookError (c.ck 1 rfl 13 rfl) ss_NoName⟩, (List.forall_mem_cons.2 ⟨⟨eo_NotPlain, is_ref g_NotPlain g_BookError (c.ck 1 rfl 12 rfl) ss_NotPlain⟩, (List.forall_mem_cons.2 ⟨⟨eo_NoBook, is_ref g_NoBook g_BookError (c.ck 1 rfl 11 rfl) ss_NoBook⟩, (List.forall_mem_cons.2 ⟨⟨eo_Broken, is_ref g_Broken g_BookError (c.ck 1 rfl 10 rfl) ss_Broken⟩, (List.forall_mem_cons.2 ⟨⟨eo_NoLine, is_ref g_NoLine g_BookError (c.ck 1 rfl 9 rfl) ss_NoLine⟩, (List.forall_mem_cons.2 ⟨⟨eo_NoDeed, is_ref g_NoDeed g_BookError (c.ck 1 rfl 8 rfl) ss_NoDeed⟩, (List.forall_mem_cons.2 ⟨⟨eo_NoRule, is_ref g_NoRule g_BookError (c.ck 1 rfl 7 rfl) ss_NoRule⟩, (List.forall_mem_cons.2 ⟨⟨eo_OutOfRange, is_ref g_OutOfRange g_BookError (c.ck 1 rfl 6 rfl) ss_OutOfRange⟩, (List.forall_mem_cons.2 ⟨⟨eo_ShortShare, is_ref g_ShortShare g_BookError (c.ck 1 rfl 5 rfl) ss_ShortShare⟩, (List.forall_mem_cons.2 ⟨⟨eo_Folded, is_ref g_Folded g_BookError (c.ck 1 rfl 4 rfl) ss_Folded⟩, (List.forall_mem_cons.2 ⟨⟨eo_NoPaper, is_ref g_NoPaper g_BookError (c.ck 1 rfl 3 rfl) ss_NoPaper⟩, (fun _ h => nomatch h)⟩)⟩)⟩)⟩)⟩)⟩)⟩)⟩)⟩)⟩)⟩)⟩)
  have xn_BookError : ∀ c, c ∈ ([] : List Str) → ExOk K c ∧ IsOk K c (.ref (He.ga K "BookError")) false := (fun _ h => nomatch h)
  have xt_Broken : ∀ c, c ∈ (["Broken"] : List Str) → ExOk K c ∧ IsOk K c (.ref (He.ga K "Broken")) true := (List.forall_mem_cons.2 ⟨⟨eo_Broken, is_ref g_Broken g_Broken (c.ck 1 rfl 15 rfl) ss_Broken⟩, (fun _ h => nomatch h)⟩)
  have xn_Broken : ∀ c, c ∈ (["NoText", "NoName", "NotPlain", "NoBook", "NoLine", "NoDeed", "NoRule", "OutOfRange", "ShortShare", "Folded", "NoPaper"] : List Str) → ExOk K c ∧ IsOk K c (.ref (He.ga K "Broken")) false := (List.forall_mem_cons.2 ⟨⟨eo_NoText, is_ref g_NoText g_Broken (c.ck 1 rfl 26 rfl) ss_NoText⟩, (List.forall_mem_cons.2 ⟨⟨eo_NoName, is_ref g_NoName g_Broken (c.ck 1 rfl 25 rfl) ss_NoName⟩, (List.forall_mem_cons.2 ⟨⟨eo_NotPlain, is_ref g_NotPlain g_Broken (c.ck 1 rfl 24 rfl) ss_NotPlain⟩, (List.forall_mem_cons.2 ⟨⟨eo_NoBook, is_ref g_NoBook g_Broken (c.ck 1 rfl 23 rfl) ss_NoBook⟩, (List.forall_mem_cons.2 ⟨⟨eo_NoLine, is_ref g_NoLine g_Broken (c.ck 1 rfl 22 rfl) ss_NoLine⟩, (List.forall_mem_cons.2 ⟨⟨eo_NoDeed, is_ref g_NoDeed g_Broken (c.ck 1 rfl 21 rfl) ss_NoDeed⟩, (List.forall_mem_cons.2 ⟨⟨eo_NoRule, is_ref g_NoRule g_Broken (c.ck 1 rfl 20 rfl) ss_NoRule⟩, (List.forall_mem_cons.2 ⟨⟨eo_OutOfRange, is_ref g_OutOfRange g_Broken (c.ck 1 rfl 19 rfl) ss_OutOfRange⟩, (List.forall_mem_cons.2 ⟨⟨eo_ShortShare, is_ref g_ShortShare g_Broken (c.ck 1 rfl 18 rfl) ss_ShortShare⟩, (List.forall_mem_cons.2 ⟨⟨eo_Folded, is_ref g_Folded g_Broken (c.ck 1 rfl 17 rfl) ss_Folded⟩, (List.forall_mem_cons.2 ⟨⟨eo_NoPaper, is_ref g_NoPaper g_Broken (c.ck 1 rfl 16 rfl) ss_NoPaper⟩, (fun _ h => nomatch h)⟩)⟩)⟩)⟩)⟩)⟩)⟩)⟩)⟩)⟩)⟩)
  have xt_Folded : ∀ c, c ∈ (["Folded"] : List Str) → ExOk K c ∧ IsOk K c (.ref (He.ga K "Folded")) true := (List.forall_mem_cons.2 ⟨⟨eo_Folded, is_ref g_Folded g_Folded (c.ck 1 rfl 27 rfl) ss_Folded⟩, (fun _ h => nomatch h)⟩)
  have xn_Folded : ∀ c, c ∈ (["NoText", "NoName", "NotPlain", "NoBook", "Broken", "NoLine", "NoDeed", "NoRule", "OutOfRange", "ShortShare", "NoPaper"] : List Str) → ExOk K c ∧ IsOk K c (.ref (He.ga K "Folded")) false := (List.forall_mem_cons.2 ⟨⟨eo_NoText, is_ref g_NoText g_Folded (c.ck 1 rfl 38 rfl) ss_NoText⟩, (List.forall_mem_cons.2 ⟨⟨eo_NoName, is_ref g_NoName g_Folded (c.ck 1 rfl 37 rfl) ss_NoName⟩, (List.forall_mem_cons.2 ⟨⟨eo_NotPlain, is_ref g_NotPlain g_Folded (c.ck 1 rfl 36 rfl) ss_NotPlain⟩, (List.forall_mem_cons.2 ⟨⟨eo_NoBook, is_ref g_NoBook g_Folded (c.ck 1 rfl 35 rfl) ss_NoBook⟩, (List.forall_mem_cons.2 ⟨⟨eo_Broken, is_ref g_Broken g_Folded (c.ck 1 rfl 34 rfl) ss_Broken⟩, (List.forall_mem_cons.2 ⟨⟨eo_NoLine, is_ref g_NoLine g_Folded (c.ck 1 rfl 33 rfl) ss_NoLine⟩, (List.forall_mem_cons.2 ⟨⟨eo_NoDeed, is_ref g_NoDeed g_Folded (c.ck 1 rfl 32 rfl) ss_NoDeed⟩, (List.forall_mem_cons.2 ⟨⟨eo_NoRule, is_ref g_NoRule g_Folded (c.ck 1 rfl 31 rfl) ss_NoRule⟩, (List.forall_mem_cons.2 ⟨⟨eo_OutOfRange, is_ref g_OutOfRange g_Folded (c.ck 1 rfl 30 rfl) ss_OutOfRange⟩, (List.forall_mem_cons.2 ⟨⟨eo_ShortShare, is_ref g_ShortShare g_Folded (c.ck 1 rfl 29 rfl) ss_ShortShare⟩, (List.forall_mem_cons.2 ⟨⟨eo_NoPaper, is_ref g_NoPaper g_Folded (c.ck 1 rfl 28 rfl) ss_NoPaper⟩, (fun _ h => nomatch h)⟩)⟩)⟩)⟩)⟩)⟩)⟩)⟩)⟩)⟩)⟩)
  have xt_NoBook : ∀ c, c ∈ (["NoBook"] : List Str) → ExOk K c ∧ IsOk K c (.ref (He.ga K "NoBook")) true := (List.forall_mem_cons.2 ⟨⟨eo_NoBook, is_ref g_NoBook g_NoBook (c.ck 1 rfl 39 rfl) ss_NoBook⟩, (fun _ h => nomatch h)⟩)
  have xn_NoBook : ∀ c, c ∈ (["NoText", "NoName", "NotPlain", "Broken", "NoLine", "NoDeed", "NoRule", "OutOfRange", "ShortShare", "Folded", "NoPaper"] : List Str) → ExOk K c ∧ IsOk K c (.ref (He.ga K "NoBook")) false := (List.forall_mem_cons.2 ⟨⟨eo_NoText, is_ref g_NoText g_NoBook (c.ck 1 rfl 50 rfl) ss_NoText⟩, (List.forall_mem_cons.2 ⟨⟨eo_NoName, is_ref g_NoName g_NoBook (c.ck 1 rfl 49 rfl) ss_NoName⟩, (List.forall_mem_cons.2 ⟨⟨eo_NotPlain, is_ref g_NotPlain g_NoBook (c.ck 1 rfl 48 rfl) ss_NotPlain⟩, (List.forall_mem_cons.2 ⟨⟨eo_Broken, is_ref g_Broken g_NoBook (c.ck 1 rfl 47 rfl) ss_Broken⟩, (List.forall_mem_cons.2 ⟨⟨eo_NoLine, is_ref g_NoLine g_NoBook (c.ck 1 rfl 46 rfl) ss_NoLine⟩, (List.forall_mem_cons.2 ⟨⟨eo_NoDeed, is_ref g_NoDeed g_NoBook (c.ck 1 rfl 45 rfl) ss_NoDeed⟩, (List.forall_mem_cons.2 ⟨⟨eo_NoRule, is_ref g_NoRule g_NoBook (c.ck 1 rfl 44 rfl) ss_NoRule⟩, (List.forall_mem_cons.2 ⟨⟨eo_OutOfRange, is_ref g_OutOfRange g_NoBook (c.ck 1 rfl 43 rfl) ss_OutOfRange⟩, (List.forall_mem_cons.2 ⟨⟨eo_ShortShare, is_ref g_ShortShare g_NoBook (c.ck 1 rfl 42 rfl) ss_ShortShare⟩, (List.forall_mem_cons.2 ⟨⟨eo_Folded, is_ref g_Folded g_NoBook (c.ck 1 rfl 41 rfl) ss_Folded⟩, (List.forall_mem_cons.2 ⟨⟨eo_NoPaper, is_ref g_NoPaper g_NoBook (c.ck 1 rfl 40 rfl) ss_NoPaper⟩, (fun _ h => nomatch h)⟩)⟩)⟩)⟩)⟩)⟩)⟩)⟩)⟩)⟩)⟩)
  have xt_NoDeed : ∀ c, c ∈ (["NoDeed"] : List Str) → ExOk K c ∧ IsOk K c (.ref (He.ga K "NoDeed")) true := (List.forall_mem_cons.2 ⟨⟨eo_NoDeed, is_ref g_NoDeed g_NoDeed (c.ck 1 rfl 51 rfl) ss_NoDeed⟩, (fun _ h => nomatch h)⟩)
  have xn_NoDeed : ∀ c, c ∈ (["NoText", "NoName", "NotPlain", "NoBook", "Broken", "NoLine", "NoRule", "OutOfRange", "ShortShare", "Folded", "NoPaper"] : List Str) → ExOk K c ∧ IsOk K c (.ref (He.ga K "NoDeed")) false := (List.forall_mem_cons.2 ⟨⟨eo_NoText, is_ref g_NoText g_NoDeed (c.ck 2 rfl 2 rfl) ss_NoText⟩, (List.forall_mem_cons.2 ⟨⟨eo_NoName, is_ref g_NoName g_NoDeed (c.ck 2 rfl 1 rfl) ss_NoName⟩, (List.forall_mem_cons.2 ⟨⟨eo_NotPlain, is_ref g_NotPlain g_NoDeed (c.ck 2 rfl 0 rfl) ss_NotPlain⟩, (List.forall_mem_cons.2 ⟨⟨eo_NoBook, is_ref g_NoBook g_NoDeed (c.ck 1 rfl 59 rfl) ss_NoBook⟩, (List.forall_mem_cons.2 ⟨⟨eo_Broken, is_ref g_Broken g_NoDeed (c.ck 1 rfl 58 rfl) ss_Broken⟩, (List.forall_mem_cons.2 ⟨⟨eo_NoLine, is_ref g_NoLine g_NoDeed (c.ck 1 rfl 57 rfl) ss_NoLine⟩, (List.forall_mem_cons.2 ⟨⟨eo_NoRule, is_ref g_NoRule g_NoDeed (c.ck 1 rfl 56 rfl) ss_NoRule⟩, (List.forall_mem_cons.2 ⟨⟨eo_OutOfRange, is_ref g_OutOfRange g_NoDeed (c.ck 1 rfl 55 rfl) ss_OutOfRange⟩, (List.forall_mem_cons.2 ⟨⟨eo_ShortShare, is_ref g_ShortShare g_NoDeed (c.ck 1 rfl 54 rfl) ss_ShortShare⟩, (List.forall_mem_cons.2 ⟨⟨eo_Folded, is_ref g_Folded g_NoDeed (c.ck 1 rfl 53 rfl) ss_Folded⟩, (List.forall_mem_cons.2 ⟨⟨eo_NoPaper, is_ref g_NoPaper g_NoDeed (c.ck 1 rfl 52 rfl) ss_NoPaper⟩, (fun _ h => nomatch h)⟩)⟩)⟩)⟩)⟩)⟩)⟩)⟩)⟩)⟩)⟩)
  have xt_NoLine : ∀ c, c ∈ (["NoLine"] : List Str) → ExOk K c ∧ IsOk K c (.ref (He.ga K "NoLine")) true := (List.forall_mem_cons.2 ⟨⟨eo_NoLine, is_ref g_NoLine g_NoLine (c.ck 2 rfl 3 rfl) ss_NoLine⟩, (fun _ h => nomatch h)⟩)
  have xn_NoLine : ∀ c, c ∈ (["NoText", "NoName", "NotPlain", "NoBook", "Broken", "NoDeed", "NoRule", "OutOfRange", "ShortShare", "Folded", "NoPaper"] : List Str) → ExOk K c ∧ IsOk K c (.ref (He.ga K "NoLine")) false := (List.forall_mem_cons.2 ⟨⟨eo_NoText, is_ref g_NoText g_NoLine (c.ck 2 rfl 14 rfl) ss_NoText⟩, (List.forall_mem_cons.2 ⟨⟨eo_NoName, is_ref g_NoName g_NoLine (c.ck 2 rfl 13 rfl) ss_NoName⟩, (List.forall_mem_cons.2 ⟨⟨eo_NotPlain, is_ref g_NotPlain g_NoLine (c.ck 2 rfl 12 rfl) ss_NotPlain⟩, (List.forall_mem_cons.2 ⟨⟨eo_NoBook, is_ref g_NoBook g_NoLine (c.ck 2 rfl 11 rfl) ss_NoBook⟩, (List.forall_mem_cons.2 ⟨⟨eo_Broken, is_ref g_Broken g_NoLine (c.ck 2 rfl 10 rfl) ss_Broken⟩, (List.forall_mem_cons.2 ⟨⟨eo_NoDeed, is_ref g_NoDeed g_NoLine (c.ck 2 rfl 9 rfl) ss_NoDeed⟩, (List.forall_mem_cons.2 ⟨⟨eo_NoRule, is_ref g_NoRule g_NoLine (c.ck 2 rfl 8 rfl) ss_NoRule⟩, (List.forall_mem_cons.2 ⟨⟨eo_OutOfRange, is_ref g_OutOfRange g_NoLine (c.ck 2 rfl 7 rfl) ss_OutOfRange⟩, (List.forall_mem_cons.2 ⟨⟨eo_ShortShare, is_ref g_ShortShare g_NoLine (c.ck 2 rfl 6 rfl) ss_ShortShare⟩, (List.forall_mem_cons.2 ⟨⟨eo_Folded, is_ref g_Folded g_NoLine (c.ck 2 rfl 5 rfl) ss_Folded⟩, (List.forall_mem_cons.2 ⟨⟨eo_NoPaper, is_ref g_NoPaper g_NoLine (c.ck 2 rfl 4 rfl) ss_NoPaper⟩, (fun _ h => nomatch h)⟩)⟩)⟩)⟩)⟩)⟩)⟩)⟩)⟩)⟩)⟩)
  have xt_NoName : ∀ c, c ∈ (["NoName"] : List Str) → ExOk K c ∧ IsOk K c (.ref (He.ga K "NoName")) true := (List.forall_mem_cons.2 ⟨⟨eo_NoName, is_ref g_NoName g_NoName (c.ck 2 rfl 15 rfl) ss_NoName⟩, (fun _ h => nomatch h)⟩)
  have xn_NoName : ∀ c, c ∈ (["NoText", "NotPlain", "NoBook", "Broken", "NoLine", "NoDeed", "NoRule", "OutOfRange", "ShortShare", "Folded", "NoPaper"] : List Str) → ExOk K c ∧ IsOk K c (.ref (He.ga K "NoName")) false := (List.forall_mem_cons.2 ⟨⟨eo_NoText, is_ref g_NoText g_NoName (c.ck 2 rfl 26 rfl) ss_NoText⟩, (List.forall_mem_cons.2 ⟨⟨eo_NotPlain, is_ref g_NotPlain g_NoName (c.ck 2 rfl 25 rfl) ss_NotPlain⟩, (List.forall_mem_cons.2 ⟨⟨eo_NoBook, is_ref g_NoBook g_NoName (c.ck 2 rfl 24 rfl) ss_NoBook⟩, (List.forall_mem_cons.2 ⟨⟨eo_Broken, is_ref g_Broken g_NoName (c.ck 2 rfl 23 rfl) ss_Broken⟩, (List.forall_mem_cons.2 ⟨⟨eo_NoLine, is_ref g_NoLine g_NoName (c.ck 2 rfl 22 rfl) ss_NoLine⟩, (List.forall_mem_cons.2 ⟨⟨eo_NoDeed, is_ref g_NoDeed g_NoName (c.ck 2 rfl 21 rfl) ss_NoDeed⟩, (List.forall_mem_cons.2 ⟨⟨eo_NoRule, is_ref g_NoRule g_NoName (c.ck 2 rfl 20 rfl) ss_NoRule⟩, (List.forall_mem_cons.2 ⟨⟨eo_OutOfRange, is_ref g_OutOfRange g_NoName (c.ck 2 rfl 19 rfl) ss_OutOfRange⟩, (List.forall_mem_cons.2 ⟨⟨eo_ShortShare, is_ref g_ShortShare g_NoName (c.ck 2 rfl 18 rfl) ss_ShortShare⟩, (List.forall_mem_cons.2 ⟨⟨eo_Folded, is_ref g_Folded g_NoName (c.ck 2 rfl 17 rfl) ss_Folded⟩, (List.forall_mem_cons.2 ⟨⟨eo_NoPaper, is_ref g_NoPaper g_NoName (c.ck 2 rfl 16 rfl) ss_NoPaper⟩, (fun _ h => nomatch h)⟩)⟩)⟩)⟩)⟩)⟩)⟩)⟩)⟩)⟩)⟩)
  have xt_NoPaper : ∀ c, c ∈ (["NoPaper"] : List Str) → ExOk K c ∧ IsOk K c (.ref (He.ga K "NoPaper")) true := (List.forall_mem_cons.2 ⟨⟨eo_NoPaper, is_ref g_NoPaper g_NoPaper (c.ck 2 rfl 27 rfl) ss_NoPaper⟩, (fun _ h => nomatch h)⟩)
  have xn_NoPaper : ∀ c, c ∈ (["NoText", "NoName", "NotPlain", "NoBook", "Broken", "NoLine", "NoDeed", "NoRule", "OutOfRange", "ShortShare", "Folded"] : List Str) → ExOk K c ∧ IsOk K c (.ref (He.ga K "NoPaper")) false := (List.forall_mem_cons.2 ⟨⟨eo_NoText, is_ref g_NoText g_NoPaper (c.ck 2 rfl 38 rfl) ss_NoText⟩, (List.forall_mem_cons.2 ⟨⟨eo_NoName, is_ref g_NoName g_NoPaper (c.ck 2 rfl 37 rfl) ss_NoName⟩, (List.forall_mem_cons.2 ⟨⟨eo_NotPlain, is_ref g_NotPlain g_NoPaper (c.ck 2 rfl 36 rfl) ss_NotPlain⟩, (List.forall_mem_cons.2 ⟨⟨eo_NoBook, is_ref g_NoBook g_NoPaper (c.ck 2 rfl 35 rfl) ss_NoBook⟩, (List.forall_mem_cons.2 ⟨⟨eo_Broken, is_ref g_Broken g_NoPaper (c.ck 2 rfl 34 rfl) ss_Broken⟩, (List.forall_mem_cons.2 ⟨⟨eo_NoLine, is_ref g_NoLine g_NoPaper (c.ck 2 rfl 33 rfl) ss_NoLine⟩, (List.forall_mem_cons.2 ⟨⟨eo_NoDeed, is_ref g_NoDeed g_NoPaper (c.ck 2 rfl 32 rfl) ss_NoDeed⟩, (List.forall_mem_cons.2 ⟨⟨eo_NoRule, is_ref g_NoRule g_NoPaper (c.ck 2 rfl 31 rfl) ss_NoRule⟩, (List.forall_mem_cons.2 ⟨⟨eo_OutOfRange, is_ref g_OutOfRange g_NoPaper (c.ck 2 rfl 30 rfl) ss_OutOfRange⟩, (List.forall_mem_cons.2 ⟨⟨eo_ShortShare, is_ref g_ShortShare g_NoPaper (c.ck 2 rfl 29 rfl) ss_ShortShare⟩, (List.forall_mem_cons.2 ⟨⟨eo_Folded, is_ref g_Folded g_NoPaper (c.ck 2 rfl 28 rfl) ss_Folded⟩, (fun _ h => nomatch h)⟩)⟩)⟩)⟩)⟩)⟩)⟩)⟩)⟩)⟩)⟩)
  have xt_NoRule : ∀ c, c ∈ (["NoRule"] : List Str) → ExOk K c ∧ IsOk K c (.ref (He.ga K "NoRule")) true := (List.forall_mem_cons.2 ⟨⟨eo_NoRule, is_ref g_NoRule g_NoRule (c.ck 2 rfl 39 rfl) ss_NoRule⟩, (fun _ h => nomatch h)⟩)
  have xn_NoRule : ∀ c, c ∈ (["NoText", "NoName", "NotPlain", "NoBook", "Broken", "NoLine", "NoDeed", "OutOfRange", "ShortShare", "Folded", "NoPaper"] : List Str) → ExOk K c ∧ IsOk K c (.ref (He.ga K "NoRule")) false := (List.forall_mem_cons.2 ⟨⟨eo_NoText, is_ref g_NoText g_NoRule (c.ck 2 rfl 50 rfl) ss_NoText⟩, (List.forall_mem_cons.2 ⟨⟨eo_NoName, is_ref g_NoName g_NoRule (c.ck 2 rfl 49 rfl) ss_NoName⟩, (List.forall_mem_cons.2 ⟨⟨eo_NotPlain, is_ref g_NotPlain g_NoRule (c.ck 2 rfl 48 rfl) ss_NotPlain⟩, (List.forall_mem_cons.2 ⟨⟨eo_NoBook, is_ref g_NoBook g_NoRule (c.ck 2 rfl 47 rfl) ss_NoBook⟩, (List.forall_mem_cons.2 ⟨⟨eo_Broken, is_ref g_Broken g_NoRule (c.ck 2 rfl 46 rfl) ss_Broken⟩, (List.forall_mem_cons.2 ⟨⟨eo_NoLine, is_ref g_NoLine g_NoRule (c.ck 2 rfl 45 rfl) ss_NoLine⟩, (List.forall_mem_cons.2 ⟨⟨eo_NoDeed, is_ref g_NoDeed g_NoRule (c.ck 2 rfl 44 rfl) ss_NoDeed⟩, (List.forall_mem_cons.2 ⟨⟨eo_OutOfRange, is_ref g_OutOfRange g_NoRule (c.ck 2 rfl 43 rfl) ss_OutOfRange⟩, (List.forall_mem_cons.2 ⟨⟨eo_ShortShare, is_ref g_ShortShare g_NoRule (c.ck 2 rfl 42 rfl) ss_ShortShare⟩, (List.forall_mem_cons.2 ⟨⟨eo_Folded, is_ref g_Folded g_NoRule (c.ck 2 rfl 41 rfl) ss_Folded⟩, (List.forall_mem_cons.2 ⟨⟨eo_NoPaper, is_ref g_NoPaper g_NoRule (c.ck 2 rfl 40 rfl) ss_NoPaper⟩, (fun _ h => nomatch h)⟩)⟩)⟩)⟩)⟩)⟩)⟩)⟩)⟩)⟩)⟩)
  have xt_NoText : ∀ c, c ∈ (["NoText"] : List Str) → ExOk K c ∧ IsOk K c (.ref (He.ga K "NoText")) true := (List.forall_mem_cons.2 ⟨⟨eo_NoText, is_ref g_NoText g_NoText (c.ck 2 rfl 51 rfl) ss_NoText⟩, (fun _ h => nomatch h)⟩)
  have xn_NoText : ∀ c, c ∈ (["NoName", "NotPlain", "NoBook", "Broken", "NoLine", "NoDeed", "NoRule", "OutOfRange", "ShortShare", "Folded", "NoPaper"] : List Str) → ExOk K c ∧ IsOk K c (.ref (He.ga K "NoText")) false := (List.forall_mem_cons.2 ⟨⟨eo_NoName, is_ref g_NoName g_NoText (c.ck 3 rfl 2 rfl) ss_NoName⟩, (List.forall_mem_cons.2 ⟨⟨eo_NotPlain, is_ref g_NotPlain g_NoText (c.ck 3 rfl 1 rfl) ss_NotPlain⟩, (List.forall_mem_cons.2 ⟨⟨eo_NoBook, is_ref g_NoBook g_NoText (c.ck 3 rfl 0 rfl) ss_NoBook⟩, (List.forall_mem_cons.2 ⟨⟨eo_Broken, is_ref g_Broken g_NoText (c.ck 2 rfl 59 rfl) ss_Broken⟩, (List.forall_mem_cons.2 ⟨⟨eo_NoLine, is_ref g_NoLine g_NoText (c.ck 2 rfl 58 rfl) ss_NoLine⟩, (List.forall_mem_cons.2 ⟨⟨eo_NoDeed, is_ref g_NoDeed g_NoText (c.ck 2 rfl 57 rfl) ss_NoDeed⟩, (List.forall_mem_cons.2 ⟨⟨eo_NoRule, is_ref g_NoRule g_NoText (c.ck 2 rfl 56 rfl) ss_NoRule⟩, (List.forall_mem_cons.2 ⟨⟨eo_OutOfRange, is_ref g_OutOfRange g_NoText (c.ck 2 rfl 55 rfl) ss_OutOfRange⟩, (List.forall_mem_cons.2 ⟨⟨eo_ShortShare, is_ref g_ShortShare g_NoText (c.ck 2 rfl 54 rfl) ss_ShortShare⟩, (List.forall_mem_cons.2 ⟨⟨eo_Folded, is_ref g_Folded g_NoText (c.ck 2 rfl 53 rfl) ss_Folded⟩, (List.forall_mem_cons.2 ⟨⟨eo_NoPaper, is_ref g_NoPaper g_NoText (c.ck 2 rfl 52 rfl) ss_NoPaper⟩, (fun _ h => nomatch h)⟩)⟩)⟩)⟩)⟩)⟩)⟩)⟩)⟩)⟩)⟩)
  have xt_NotPlain : ∀ c, c ∈ (["NotPlain"] : List Str) → ExOk K c ∧ IsOk K c (.ref (He.ga K "NotPlain")) true := (List.forall_mem_cons.2 ⟨⟨eo_NotPlain, is_ref g_NotPlain g_NotPlain (c.ck 3 rfl 3 rfl) ss_NotPlain⟩, (fun _ h => nomatch h)⟩)
  have xn_NotPlain : ∀ c, c ∈ (["NoText", "NoName", "NoBook", "Broken", "NoLine", "NoDeed", "NoRule", "OutOfRange", "ShortShare", "Folded", "NoPaper"] : List Str) → ExOk K c ∧ IsOk K c (.ref (He.ga K "NotPlain")) false := (List.forall_mem_cons.2 ⟨⟨eo_NoText, is_ref g_NoText g_NotPlain (c.ck 3 rfl 14 rfl) ss_NoText⟩, (List.forall_mem_cons.2 ⟨⟨eo_NoName, is_ref g_NoName g_NotPlain (c.ck 3 rfl 13 rfl) ss_NoName⟩, (List.forall_mem_cons.2 ⟨⟨eo_NoBook, is_ref g_NoBook g_NotPlain (c.ck 3 rfl 12 rfl) ss_NoBook⟩, (List.forall_mem_cons.2 ⟨⟨eo_Broken, is_ref g_Broken g_NotPlain (c.ck 3 rfl 11 rfl) ss_Broken⟩, (List.forall_mem_cons.2 ⟨⟨eo_NoLine, is_ref g_NoLine g_NotPlain (c.ck 3 rfl 10 rfl) ss_NoLine⟩, (List.forall_mem_cons.2 ⟨⟨eo_NoDeed, is_ref g_NoDeed g_NotPlain (c.ck 3 rfl 9 rfl) ss_NoDeed⟩, (List.forall_mem_cons.2 ⟨⟨eo_NoRule, is_ref g_NoRule g_NotPlain (c.ck 3 rfl 8 rfl) ss_NoRule⟩, (List.forall_mem_cons.2 ⟨⟨eo_OutOfRange, is_ref g_OutOfRange g_NotPlain (c.ck 3 rfl 7 rfl) ss_OutOfRange⟩, (List.forall_mem_cons.2 ⟨⟨eo_ShortShare, is_ref g_ShortShare g_NotPlain (c.ck 3 rfl 6 rfl) ss_ShortShare⟩, (List.forall_mem_cons.2 ⟨⟨eo_Folded, is_ref g_Folded g_NotPlain (c.ck 3 rfl 5 rfl) ss_Folded⟩, (List.forall_mem_cons.2 ⟨⟨eo_NoPaper, is_ref g_NoPaper g_NotPlain (c.ck 3 rfl 4 rfl) ss_NoPaper⟩, (fun _ h => nomatch h)⟩)⟩)⟩)⟩)⟩)⟩)⟩)⟩)⟩)⟩)⟩)
  have xt_OutOfRange : ∀ c, c ∈ (["OutOfRange"] : List Str) → ExOk K c ∧ IsOk K c (.ref (He.ga K "OutOfRange")) true := (List.forall_mem_cons.2 ⟨⟨eo_OutOfRange, is_ref g_OutOfRange g_OutOfRange (c.ck 3 rfl 15 rfl) ss_OutOfRange⟩, (fun _ h => nomatch h)⟩)
  have xn_OutOfRange : ∀ c, c ∈ (["NoText", "NoName", "NotPlain", "NoBook", "Broken", "NoLine", "NoDeed", "NoRule", "ShortShare", "Folded", "NoPaper"] : List Str) → ExOk K c ∧ IsOk K c (.ref (He.ga K "OutOfRange")) false := (List.forall_mem_cons.2 ⟨⟨eo_NoText, is_ref g_NoText g_OutOfRange (c.ck 3 rfl 26 rfl) ss_NoText⟩, (List.forall_mem_cons.2 ⟨⟨eo_NoName, is_ref g_NoName g_OutOfRange (c.ck 3 rfl 25 rfl) ss_NoName⟩, (List.forall_mem_cons.2 ⟨⟨eo_NotPlain, is_ref g_NotPlain g_OutOfRange (c.ck 3 rfl 24 rfl) ss_NotPlain⟩, (List.forall_mem_cons.2 ⟨⟨eo_NoBook, is_ref g_NoBook g_OutOfRange (c.ck 3 rfl 23 rfl) ss_NoBook⟩, (List.forall_mem_cons.2 ⟨⟨eo_Broken, is_ref g_Broken g_OutOfRange (c.ck 3 rfl 22 rfl) ss_Broken⟩, (List.forall_mem_cons.2 ⟨⟨eo_NoLine, is_ref g_NoLine g_OutOfRange (c.ck 3 rfl 21 rfl) ss_NoLine⟩, (List.forall_mem_cons.2 ⟨⟨eo_NoDeed, is_ref g_NoDeed g_OutOfRange (c.ck 3 rfl 20 rfl) ss_NoDeed⟩, (List.forall_mem_cons.2 ⟨⟨eo_NoRule, is_ref g_NoRule g_OutOfRange (c.ck 3 rfl 19 rfl) ss_NoRule⟩, (List.forall_mem_cons.2 ⟨⟨eo_ShortShare, is_ref g_ShortShare g_OutOfRange (c.ck 3 rfl 18 rfl) ss_ShortShare⟩, (List.forall_mem_cons.2 ⟨⟨eo_Folded, is_ref g_Folded g_OutOfRange (c.ck 3 rfl 17 rfl) ss_Folded⟩, (List.forall_mem_cons.2 ⟨⟨eo_NoPaper, is_ref g_NoPaper g_OutOfRange (c.ck 3 rfl 16 rfl) ss_NoPaper⟩, (fun _ h => nomatch h)⟩)⟩)⟩)⟩)⟩)⟩)⟩)⟩)⟩)⟩)⟩)
  have xt_ShortShare : ∀ c, c ∈ (["ShortShare"] : List Str) → ExOk K c ∧ IsOk K c (.ref (He.ga K "ShortShare")) true := (List.forall_mem_cons.2 ⟨⟨eo_ShortShare, is_ref g_ShortShare g_ShortShare (c.ck 3 rfl 27 rfl) ss_ShortShare⟩, (fun _ h => nomatch h)⟩)
  have xn_ShortShare : ∀ c, c ∈ (["NoText", "NoName", "NotPlain", "NoBook", "Broken", "NoLine", "NoDeed", "NoRule", "OutOfRange", "Folded", "NoPaper"] : List Str) → ExOk K c ∧ IsOk K c (.ref (He.ga K "ShortShare")) false := (List.forall_mem_cons.2 ⟨⟨eo_NoText, is_ref g_NoText g_ShortShare (c.ck 3 rfl 38 rfl) ss_NoText⟩, (List.forall_mem_cons.2 ⟨⟨eo_NoName, is_ref g_NoName g_ShortShare (c.ck 3 rfl 37 rfl) ss_NoName⟩, (List.forall_mem_cons.2 ⟨⟨eo_NotPlain, is_ref g_NotPlain g_ShortShare (c.ck 3 rfl 36 rfl) ss_NotPlain⟩, (List.forall_mem_cons.2 ⟨⟨eo_NoBook, is_ref g_NoBook g_ShortShare (c.ck 3 rfl 35 rfl) ss_NoBook⟩, (List.forall_mem_cons.2 ⟨⟨eo_Broken, is_ref g_Broken g_ShortShare (c.ck 3 rfl 34 rfl) ss_Broken⟩, (List.forall_mem_cons.2 ⟨⟨eo_NoLine, is_ref g_NoLine g_ShortShare (c.ck 3 rfl 33 rfl) ss_NoLine⟩, (List.forall_mem_cons.2 ⟨⟨eo_NoDeed, is_ref g_NoDeed g_ShortShare (c.ck 3 rfl 32 rfl) ss_NoDeed⟩, (List.forall_mem_cons.2 ⟨⟨eo_NoRule, is_ref g_NoRule g_ShortShare (c.ck 3 rfl 31 rfl) ss_NoRule⟩, (List.forall_mem_cons.2 ⟨⟨eo_OutOfRange, is_ref g_OutOfRange g_ShortShare (c.ck 3 rfl 30 rfl) ss_OutOfRange⟩, (List.forall_mem_cons.2 ⟨⟨eo_Folded, is_ref g_Folded g_ShortShare (c.ck 3 rfl 29 rfl) ss_Folded⟩, (List.forall_mem_cons.2 ⟨⟨eo_NoPaper, is_ref g_NoPaper g_ShortShare (c.ck 3 rfl 28 rfl) ss_NoPaper⟩, (fun _ h => nomatch h)⟩)⟩)⟩)⟩)⟩)⟩)⟩)⟩)⟩)⟩)⟩)
  have xt_ValueError : ∀ c, c ∈ (["NoText", "NoName", "NotPlain", "NoBook", "Broken", "NoLine", "NoDeed", "NoRule", "OutOfRange", "ShortShare", "Folded", "NoPaper"] : List Str) → ExOk K c ∧ IsOk K c (.type "ValueError") true := (List.forall_mem_cons.2 ⟨⟨eo_NoText, is_type g_NoText (c.ck 3 rfl 50 rfl) (by decide +kernel)⟩, (List.forall_mem_cons.2 ⟨⟨eo_NoName, is_type g_NoName (c.ck 3 rfl 49 rfl) (by decide +kernel)⟩, (List.forall_mem_cons.2 ⟨⟨eo_NotPlain, is_type g_NotPlain (c.ck 3 rfl 48 rfl) (by decide +kernel)⟩, (List.forall_mem_cons.2 ⟨⟨eo_NoBook, is_type g_NoBook (c.ck 3 rfl 47 rfl) (by decide +kernel)⟩, (List.forall_mem_cons.2 ⟨⟨eo_Broken, is_type g_Broken (c.ck 3 rfl 46 rfl) (by decide +kernel)⟩, (List.forall_mem_cons.2 ⟨⟨eo_NoLine, is_type g_NoLine (c.ck 3 rfl 45 rfl) (by decide +kernel)⟩, (List.forall_mem_cons.2 ⟨⟨eo_NoDeed, is_type g_NoDeed (c.ck 3 rfl 44 rfl) (by decide +kernel)⟩, (List.forall_mem_cons.2 ⟨⟨eo_NoRule, is_type g_NoRule (c.ck 3 rfl 43 rfl) (by decide +kernel)⟩, (List.forall_mem_cons.2 ⟨⟨eo_OutOfRange, is_type g_OutOfRange (c.ck 3 rfl 42 rfl) (by decide +kernel)⟩, (List.forall_mem_cons.2 ⟨⟨eo_ShortShare, is_type g_ShortShare (c.ck 3 rfl 41 rfl) (by decide +kernel)⟩, (List.forall_mem_cons.2 ⟨⟨eo_Folded, is_type g_Folded (c.ck 3 rfl 40 rfl) (by decide +kernel)⟩, (List.forall_mem_cons.2 ⟨⟨eo_NoPaper, is_type g_NoPaper (c.ck 3 rfl 39 rfl) (by decide +kernel)⟩, (fun _ h => nomatch h)⟩)⟩)⟩)⟩)⟩)⟩)⟩)⟩)⟩)⟩)⟩)⟩)
  have xn_ValueError : ∀ c, c ∈ ([] : List Str) → ExOk K c ∧ IsOk K c (.type "ValueError") false := (fun _ h => nomatch h)
  have xf_lack : ∀ c, c ∈ (["ShortShare"] : List Str) → ExOk K c ∧ NoAtX K c "lack" := (List.forall_mem_cons.2 ⟨⟨eo_ShortShare, no_atx g_ShortShare (c.ck 0 rfl 54 rfl)⟩, (fun _ h => nomatch h)⟩)
  have xf_line : ∀ c, c ∈ (["NoLine", "NoPaper"] : List Str) → ExOk K c ∧ NoAtX K c "line" := (List.forall_mem_cons.2 ⟨⟨eo_NoLine, no_atx g_NoLine (c.ck 0 rfl 39 rfl)⟩, (List.forall_mem_cons.2 ⟨⟨eo_NoPaper, no_atx g_NoPaper (c.ck 1 rfl 2 rfl)⟩, (fun _ h => nomatch h)⟩)⟩)
  have xf_name : ∀ c, c ∈ (["NoName", "Broken", "NoDeed", "NoRule", "ShortShare"] : List Str) → ExOk K c ∧ NoAtX K c "name" := (List.forall_mem_cons.2 ⟨⟨eo_NoName, no_atx g_NoName (c.ck 0 rfl 23 rfl)⟩, (List.forall_mem_cons.2 ⟨⟨eo_Broken, no_atx g_Broken (c.ck 0 rfl 35 rfl)⟩, (List.forall_mem_cons.2 ⟨⟨eo_NoDeed, no_atx g_NoDeed (c.ck 0 rfl 43 rfl)⟩, (List.forall_mem_cons.2 ⟨⟨eo_NoRule, no_atx g_NoRule (c.ck 0 rfl 47 rfl)⟩, (List.forall_mem_cons.2 ⟨⟨eo_ShortShare, no_atx g_ShortShare (c.ck 0 rfl 55 rfl)⟩, (fun _ h => nomatch h)⟩)⟩)⟩)⟩)⟩)
  have xf_place : ∀ c, c ∈ (["NoText", "NoName", "NotPlain"] : List Str) → ExOk K c ∧ NoAtX K c "place" := (List.forall_mem_cons.2 ⟨⟨eo_NoText, no_atx g_NoText (c.ck 0 rfl 18 rfl)⟩, (List.forall_mem_cons.2 ⟨⟨eo_NoName, no_atx g_NoName (c.ck 0 rfl 22 rfl)⟩, (List.forall_mem_cons.2 ⟨⟨eo_NotPlain, no_atx g_NotPlain (c.ck 0 rfl 27 rfl)⟩, (fun _ h => nomatch h)⟩)⟩)⟩)
  have c_l_cell_at : Callee l.prog w K mg base 1 "_law_cell_at" [.vw, .fz] .fz f_l_cell_at := ok_l_cell_at F_l_cell_at m_l_cell_at b_l_cell_at B_len
  have c_l_whole : Callee l.prog w K mg base 1 "_law_whole" [.fz] .fz f_l_whole := ok_l_whole F_l_whole m_l_whole b_l_whole B_bool B_int B_isinstance
  have c_l_kinds : CalT l.prog w K mg base 1 "_law_kinds" 1 f_l_kinds := ok_l_kinds F_l_kinds m_l_kinds b_l_kinds gB_Broken gB_Folded gB_NoBook gB_NoDeed gB_NoLine gB_NoName gB_NoPaper gB_NoRule gB_NoText gB_NotPlain gB_OutOfRange gB_ShortShare xt_Broken xn_Broken xt_Folded xn_Folded xt_NoBook xn_NoBook xt_NoDeed xn_NoDeed xt_NoLine xn_NoLine xt_NoName xn_NoName xt_NoPaper xn_NoPaper xt_NoRule xn_NoRule xt_NoText xn_NoText xt_NotPlain xn_NotPlain xt_OutOfRange xn_OutOfRange xt_ShortShare xn_ShortShare B_isinstance
  have c_l_all : CalM l.prog w K mg base 3 "_law_all" [false, false] f_l_all := ok_l_all F_l_all m_l_all b_l_all xm_Broken x0_Folded x0_NoBook xm_NoDeed xm_NoLine xm_NoName xm_NoPaper xm_NoRule xm_NoText xm_NotPlain x0_OutOfRange xm_ShortShare
  have c_l_kept : CalT l.prog w K mg base 2 "_law_kept" 3 f_l_kept := ok_l_kept F_l_kept m_l_kept b_l_kept c_l_whole xf_lack xf_line xf_name xf_place
  have c_law : FnOk l.prog w K mg base CX0 4 _ _ ["_law_script"] (spP K [.vw] .fz f_law) := ok_law F_law c_l_kept c_l_kinds c_l_all c_l_cell_at gB_BookError xt_BookError xn_BookError xt_ValueError xn_ValueError B_ValueError B_isinstance B_range
  exact c_law.imp (sp_law law_true)
set_option maxHeartbeats 0
abbrev rowK : PySem.W.OpenRow := PySem.W.OpenLaw.row PySem.Challenge.rw_apartbook_k07_refusals_made_by_hand
theorem run0 (w : World) : HandSHeadRun.RunEq rowK (PySem.W.view rowK.prog [21]) (hookK [pt0]) (obT [pt0]) 20000 nms w := by
  intro os
  kernel_rfl
theorem run1 (w : World) : HandSHeadRun.RunEq rowK (PySem.W.view rowK.prog [21]) (hookK [pt1]) (obT [pt1]) 20000 nms w := by
  intro os
  kernel_rfl
theorem run2 (w : World) : HandSHeadRun.RunEq rowK (PySem.W.view rowK.prog [21]) (hookK [pt2]) (obT [pt2]) 20000 nms w := by
  intro os
  kernel_rfl
theorem run3 (w : World) : HandSHeadRun.RunEq rowK (PySem.W.view rowK.prog [21]) (hookK [pt3]) (obT [pt3]) 20000 nms w := by
  intro os
  kernel_rfl
theorem runK (w : World) : HandSHeadRun.RunEq rowK (PySem.W.view rowK.prog [21]) (hookK parts) (obT parts) 20000 nms w := run_add (run0 w) (run_add (run1 w) (run_add (run2 w) (run3 w)))
end DL
open PySem PySem.W PySem.Calls PyProof.Rows
set_option maxRecDepth 100000 in
set_option maxHeartbeats 0 in
theorem PySem.Challenge.cw_apartbook_k07_refusals_made_by_hand_holds : PySem.Challenge.rw_apartbook_k07_refusals_made_by_hand.Holds := by
  w_on; o_law
  refine HandSHeadRun.head_any (r := DL.rowK) (q := view DL.rowK.prog [21]) (H := DL.hookK DL.parts) (ob := DL.obT DL.parts) (M := 20000) (loose := DL.nms) (d := HandSHeadRun.topDef DL.rowK.prog 21) (kwd := []) (DL.obT_eq _)
    (by kernel_rfl) (fun s => by kernel_rfl) DL.runK (by kernel_rfl) (by kernel_rfl) (by kernel_rfl) (by rfl) (by first | assumption | decide +kernel) (by decide +kernel) ⟨rfl, rfl, rfl, rfl, rfl, by decide +kernel⟩ ?hw ?hc
  case hw => w_witness2
  case hc =>
    refine L2.walk_ofE (l := PySem.Challenge.rw_apartbook_k07_refusals_made_by_hand) (n := 63) (k := 4) (x := "_law_script") (CX := L2.CX0) rfl (by decide) (by kernel_rfl) ⟨rfl, by decide, by decide⟩ ?F (fun _ _ _ _ z => z)
    intro w mg fa h Y G hmg0
    obtain ⟨K, KX, c⟩ := Y
    have hmg : mg ("law" : PySem.Str) = some (.ref fa) := by
      have e : (HandSHeadRun.topDef DL.rowK.prog 21).name = ("law" : PySem.Str) := by kernel_rfl
      rw [← e]
      exact hmg0
    obtain ⟨fd, hb, hF⟩ := DL.all_mk (l := PySem.Challenge.rw_apartbook_k07_refusals_made_by_hand) (w := w) KX G hmg c
    exact ⟨K, fd, DL.spLaw K, KX, hb, fun H a ns hl _ hS => ⟨a, ns, rfl, hS, hl, fun _ => rfl⟩, hF⟩
#print axioms PySem.Challenge.cw_apartbook_k07_refusals_made_by_hand_holds
