import PyProof.Rows.All
import Wide.All
import OpenK.AllK
import Wide.FinOn
import HandS.ForMost
import HandS.Wide
import HandS.Zip
import KE.SortData
import KE.KDictKeyed
import HandS.Exc
import HandS.ExcInit
import HandS.ExcOwn
import HandS.ExcField
import HandS.ExcIs
import HandS.WordsExc
import KE.KExcIs
import HandS.Deep
import HandS.TupAny
import HandS.TupMul
import HandS.Style
import HandS.IsInst
import KE.GoesMore
import KE.GoesEnum
import PyProof.LongRange
import HandS.Conv
import KE.Datum
import KE.KDictSum
import HandS.Keys
import PyProof.Transfer
import HandS.TupLe
import KE.KTupSum
import KE.DataFind
import HandS.Text
import HandS.TryOnly
import HandS.Head0
import HandS.Head1
import HandS.Head2
import HandS.HeadHook1
import HandS.HeadHook2
import HandS.HeadEnd
import PySem.Challenge.RW_apartbook_k06_whole_sums_at_numbers
set_option Elab.async false
set_option linter.all false
set_option maxRecDepth 100000
set_option maxHeartbeats 4000000
namespace L2
open PySem PySem.Spec PyProof.Rows
section
variable {X : Cx} {o e : Expr} {es : List Expr} {ta : TA} {p1 p2 pos : Pos}
theorem pe_binit {pl : Sem Bool} {B : Str} {CB : Addr} (hg : Gl X B) (hm : X.mg B = some (.ref CB)) (rd : PySem.W.readsIn X.K CB (.type "type") = true) (sp : PySem.W.specialIn X.K (.ref CB) "__getattribute__" = some (some (.builtin "type.__getattribute__")))
    (fc : PySem.W.findCls X.K (.ref CB) (.type "type") "__init__" = some (.val (.builtin "ValueError.__init__"))) (ha : PA X (e :: es) ta)
    (hc : eval (.Call (.Attribute (.Name B p1) "__init__" p2) (e :: es) [] pos) X.env = (do
      let cl ← eval (.Name B p1) X.env
      standAt p2.atName
      let (fu, first) ← holding [cl] (getMethod cl "__init__" pl)
      callWith pos fu first (backTo pos (starEach (e :: es) X.env)) (backToKw pos (keywordEach [] X.env))) := by rfl)
    (he : starEach (e :: es) X.env = (false, eval e X.env) :: starEach es X.env := by rfl) (hpl : (backTo pos (starEach es X.env)).any (·.1) = false := by rfl) (hdb : (B == ("__debug__" : Str)) = false := by decide) :
    PE X (.Call (.Attribute (.Name B p1) "__init__" p2) (e :: es) [] pos) (tVeI X.K ta) := by
  refine ⟨fun pins s σ H Q I h => ?_⟩
  refine PySem.W.methodCall_KW (ld_glob I hg hm ?_ hdb) hc
  refine PySem.W.method_cls I.kIn sp (PySem.W.cls_value I.kIn rd fc (by decide +kernel) ?_)
  show wpAny _ _ (callWith pos (Value.builtin "ValueError.__init__") [] (backTo pos (starEach (e :: es) X.env)) []) _ _ _
  refine PyProof.Rows.callWith_method1 (thn (ha.run pos pins _ σ H _ (I.tok _) h) fun us s1 hh => ?_) he hpl
  obtain ⟨vs, H1, I1, r1, a, C, ws, rfl, hl, T, ea, q⟩ := hh
  cases r1 with
  | @cons _ u0 _ ur ra rw' =>
    have eu : u0 = Value.ref a := ra
    subst eu
    exact oinit_ok T I1 ea (by rw [← Paired.length rw', sizeLine_eq]; omega) fun s' J => ⟨.non, H1, J, rfl, q⟩
end
def exV (a : Addr) (cls : Value) (d : Option Addr) : HO := .ext fun h => ∃ oe vs, h.get? a = some oe ∧ Zc cls d oe ∧ oe.data = .fields vs
section
variable {X : Cx} {pins : List (Addr × Obj)} {σ : St} {H : Hp} {s : Shared}
end
def wKp (K : PySem.W.Frag) (c : Value) (i : Nat) (ts : TS) (Wout : WX) (D : Ends) : WX := fun cls d σ H =>
  ∃ b, PySem.W.exmOne K cls c = some b ∧ (b = true → ∀ a, H a = none → ts { nx := fun σ' H' => D.nx (σ'.set i none) (upd H' a (exV a cls d)), rt := fun _ _ => False, bk := fun _ _ => False, ct := fun _ _ => False } (σ.set i (some (.ref a))) H) ∧
    (b = false → Wout cls d σ H)
section
variable {X : Cx} {x n : Str} {c : Value} {i : Nat} {body suite : List Stmt} {b0 : Stmt} {np pos hpos : Pos} {tb : WX → TS} {ts : TS} {Wout : WX}
end
end L2
namespace L2
open PySem PySem.Spec PyProof.Rows
section
variable {X : Cx}
def rIsX (K : PySem.W.Frag) : List V → Hp → VK → Prop := fun xs H Q => ∃ (a C : Addr) (d : Option Addr) (c : V) (cv : Value) (b : Bool), xs = [.ref a, c] ∧ ExcC K C ∧ H a = some (exV a (.ref C) d) ∧ (d = none ∨ ∃ dx fs, d = some dx ∧ H dx = some (.xd fs)) ∧ (∀ u, RelV c u → u = cv) ∧ PySem.W.kitOne K (.ref C) cv = some b ∧ Q (.bl b) H
def tXk (K : PySem.W.Frag) (n : Str) (te : TE) : TE := fun σ H Q => te σ H fun x H1 => ∃ (a C dx : Addr) (fs : List (Str × V)) (v : V), x = .ref a ∧ XfC K C ∧ PySem.W.findIn K (.ref C) n = some none ∧ H1 a = some (exV a (.ref C) (some dx)) ∧ H1 dx = some (.xd fs) ∧ fs.lookup n = some v ∧ Q v H1
end
def spI1 (K : PySem.W.Frag) (f : Str) : Sp := fun vs H Q _ => ∃ (a C : Addr) (y : V), vs = [.ref a, y] ∧ OexC K C ∧ PySem.W.findIn K (.ref C) f = some none ∧ H a = some (exo a C none) ∧ ∀ dx, H dx = none → dx ≠ a → Q .non (upd (upd H dx (exd dx [(f, y)])) a (exo a C (some dx)))
def spI2 (K : PySem.W.Frag) (f g : Str) : Sp := fun vs H Q _ => ∃ (a C : Addr) (y z : V), vs = [.ref a, y, z] ∧ OexC K C ∧ PySem.W.findIn K (.ref C) f = some none ∧ PySem.W.findIn K (.ref C) g = some none ∧ H a = some (exo a C none) ∧
  ∀ dx, H dx = none → dx ≠ a → Q .non (upd (upd (upd H dx (exd dx [(f, y)])) a (exo a C (some dx))) dx (exd dx [(g, z), (f, y)]))
section
variable {P : Program} {w : World} {K : PySem.W.Frag} {mg : Str → Option Value} {base : Heap} {qual : Str} {st : Stmt} {fI CB : Addr} {fd : FuncData} {B m f g : Str} {j : Option Str} {p1 p2 p3 p4 p5 p6 p7 p8 p9 p10 q7 q8 q9 q10 : Pos} {kk : ConstKind}
structure BaseC (K : PySem.W.Frag) (mg : Str → Option Value) (B : Str) (CB : Addr) : Prop where
  at_ : mg B = some (.ref CB)
  rd : PySem.W.readsIn K CB (.type "type") = true
  sp : PySem.W.specialIn K (.ref CB) "__getattribute__" = some (some (.builtin "type.__getattribute__"))
  fc : PySem.W.findCls K (.ref CB) (.type "type") "__init__" = some (.val (.builtin "ValueError.__init__"))
end
end L2
namespace DL
open PySem PySem.Spec L2

abbrev D := PyData
inductive RK where
  | vw | vl | sv | fz | ow
inductive Shp where
  | l | t | k (ks : List Key) | q (ks : List D) | o (c : Str) (fs : List Str) | x (c : Str) (fs : List Str) | e (fs : List Str) | lf | kf (ks : List Key) | v
def Shp.cell : Shp → Bool
  | .t => false
  | .lf => false
  | .kf _ => false
  | .v => false
  | _ => true
inductive T where
  | d (d : D) | n (s : Shp) (ts : List T)
inductive C where
  | und | val (d : D) | brw (d : D) | lst (ds : List D) | dK (kvs : List (Key × D)) | dT (kvs : List (List Key × D)) | dN (ks : List D) | own (m : Option Nat) (t : T) | ro (b : Bool) (t : T) | pin (j : Nat) | al (j i : Nat)
def C.mu : C → Bool
  | .own (some _) _ => true
  | _ => false

structure GC where
  H0 : Hp
  F0 : Hp
  Ws : List (Addr × List Addr)
  w : Option World
def GC.W (G : GC) : List Addr := G.Ws.flatMap (·.2)
def GC.kp (G : GC) : Hp := fun a => if a ∈ G.W then none else G.H0 a

mutual
inductive DF (K : PySem.W.Frag) (H : Hp) : V → PyData → Prop
  | non : DF K H .non .none
  | bl (b : Bool) : DF K H (.bl b) (.bool b)
  | int (i : Int) : DF K H (.int i) (.int i)
  | str (x : Str) : DF K H (.str x) (.str x)
  | lst {a : Addr} {xs : List V} {ds : List PyData} : H a = some (.lst xs) → DFAll K H xs ds → DF K H (.ref a) (.list ds)
  | tup {a : Addr} {xs : List V} {ds : List PyData} : SqT K H a xs → DFAll K H xs ds → DF K H (.ref a) (.tuple ds)
inductive DFAll (K : PySem.W.Frag) (H : Hp) : List V → List PyData → Prop
  | nil : DFAll K H [] []
  | cons {v : V} {vs : List V} {d : PyData} {ds : List PyData} : DF K H v d → DFAll K H vs ds → DFAll K H (v :: vs) (d :: ds)
end
section
variable {K : PySem.W.Frag} {H H' F F' : Hp}
theorem Same.seqT (e : Same H H') {a : Addr} {xs : List V} (h : SqT K H a xs) : SqT K H' a xs := by
  rcases h with (h | ⟨o, h⟩) | h
  · exact .inl (.inl (e _ _ h))
  · exact .inl (.inr ⟨o, e _ _ h⟩)
  · exact .inr h
mutual
theorem Dp_mono (e : Same H H') : ∀ (d : D) (v : V), Dp K H v d → Dp K H' v d
  | .none, _, h => by cases h; exact .non
  | .bool b, _, h => by cases h; exact .bl b
  | .int i, _, h => by cases h; exact .int i
  | .str x, _, h => by cases h; exact .str x
  | .list ds, _, h => by
    cases h with
    | lst hs ha => exact .lst (e.seq hs) (DpAll_mono e ds _ ha)
  | .tuple ds, _, h => by
    cases h with
    | tup hs ha => exact .tup (Same.seqT e hs) (DpAll_mono e ds _ ha)
  | .dict _, _, h => by cases h
theorem DpAll_mono (e : Same H H') : ∀ (ds : List D) (vs : List V), DpAll K H vs ds → DpAll K H' vs ds
  | [], _, h => by cases h; exact .nil
  | d :: ds, _, h => by
    cases h with
    | cons h1 h2 => exact .cons (Dp_mono e d _ h1) (DpAll_mono e ds _ h2)
end
theorem DpAll_len : ∀ {vs : List V} {ds : List D}, DpAll K H vs ds → vs.length = ds.length
  | [], ds, h => by cases h; rfl
  | v :: vs, ds, h => by
    cases h with
    | cons h1 h2 => rw [List.length_cons, List.length_cons, DpAll_len h2]
theorem DpAll_get : ∀ {vs : List V} {ds : List D} {i : Nat} {d : D}, DpAll K H vs ds → ds[i]? = some d → ∃ v, vs[i]? = some v ∧ Dp K H v d
  | [], ds, i, d, h, e => by cases h; simp at e
  | v :: vs, ds, i, d, h, e => by
    cases h with
    | cons h1 h2 =>
      cases i with
      | zero => simp at e; subst e; exact ⟨v, rfl, h1⟩
      | succ i => simpa using DpAll_get h2 (by simpa using e)
theorem DpAll_ints : ∀ (ns : List Int), DpAll K H (ns.map V.int) (ns.map PyData.int)
  | [] => .nil
  | n :: ns => .cons (.int n) (DpAll_ints ns)
theorem DpAll_ints_of : ∀ {vs : List V} {ns : List Int}, DpAll K H vs (ns.map PyData.int) → vs = ns.map V.int
  | [], ns, h => by
    cases ns with
    | nil => rfl
    | cons n ns => cases h
  | v :: vs, ns, h => by
    cases ns with
    | nil => cases h
    | cons n ns =>
      cases h with
      | cons h1 h2 =>
        cases h1
        rw [List.map_cons, DpAll_ints_of h2]
mutual
theorem DF_mono (e : Same H H') : ∀ (d : D) (v : V), DF K H v d → DF K H' v d
  | .none, _, h => by cases h; exact .non
  | .bool b, _, h => by cases h; exact .bl b
  | .int i, _, h => by cases h; exact .int i
  | .str x, _, h => by cases h; exact .str x
  | .list ds, _, h => by
    cases h with
    | lst hs ha => exact .lst (e _ _ hs) (DFAll_mono e ds _ ha)
  | .tuple ds, _, h => by
    cases h with
    | tup hs ha => exact .tup (Same.seqT e hs) (DFAll_mono e ds _ ha)
  | .dict _, _, h => by cases h
theorem DFAll_mono (e : Same H H') : ∀ (ds : List D) (vs : List V), DFAll K H vs ds → DFAll K H' vs ds
  | [], _, h => by cases h; exact .nil
  | d :: ds, _, h => by
    cases h with
    | cons h1 h2 => exact .cons (DF_mono e d _ h1) (DFAll_mono e ds _ h2)
end
theorem DFAll_len : ∀ {vs : List V} {ds : List D}, DFAll K H vs ds → vs.length = ds.length
  | [], ds, h => by cases h; rfl
  | v :: vs, ds, h => by
    cases h with
    | cons h1 h2 => rw [List.length_cons, List.length_cons, DFAll_len h2]
theorem DFAll_get : ∀ {vs : List V} {ds : List D} {i : Nat} {d : D}, DFAll K H vs ds → ds[i]? = some d → ∃ v, vs[i]? = some v ∧ DF K H v d
  | [], ds, i, d, h, e => by cases h; simp at e
  | v :: vs, ds, i, d, h, e => by
    cases h with
    | cons h1 h2 =>
      cases i with
      | zero => simp at e; subst e; exact ⟨v, rfl, h1⟩
      | succ i => simpa using DFAll_get h2 (by simpa using e)
theorem DFAll_app : ∀ {vs ws : List V} {ds es : List D}, DFAll K H vs ds → DFAll K H ws es → DFAll K H (vs ++ ws) (ds ++ es)
  | [], ws, ds, es, h, h' => by cases h; exact h'
  | v :: vs, ws, ds, es, h, h' => by
    cases h with
    | cons h1 h2 => exact .cons h1 (DFAll_app h2 h')
theorem DFAll_take : ∀ {vs : List V} {ds : List D} (n : Nat), DFAll K H vs ds → DFAll K H (vs.take n) (ds.take n)
  | _, _, 0, _ => .nil
  | [], _, n + 1, h => by cases h; exact .nil
  | v :: vs, _, n + 1, h => by
    cases h with
    | cons h1 h2 => exact .cons h1 (DFAll_take n h2)
theorem DFAll_drop : ∀ {vs : List V} {ds : List D} (n : Nat), DFAll K H vs ds → DFAll K H (vs.drop n) (ds.drop n)
  | _, _, 0, h => h
  | [], _, n + 1, h => by cases h; exact .nil
  | v :: vs, _, n + 1, h => by
    cases h with
    | cons h1 h2 => exact DFAll_drop n h2
theorem DFAll_rep {vs : List V} {ds : List D} (h : DFAll K H vs ds) : ∀ n : Nat, DFAll K H (List.replicate n vs).flatten (List.replicate n ds).flatten
  | 0 => .nil
  | n + 1 => by
    rw [List.replicate_succ, List.replicate_succ, List.flatten_cons, List.flatten_cons]
    exact DFAll_app h (DFAll_rep h n)
theorem DFAll_ints : ∀ (ns : List Int), DFAll K H (ns.map V.int) (ns.map PyData.int)
  | [] => .nil
  | n :: ns => .cons (.int n) (DFAll_ints ns)
mutual
theorem DF.dp : ∀ (d : D) (v : V), DF K H v d → Dp K H v d
  | .none, _, h => by cases h; exact .non
  | .bool b, _, h => by cases h; exact .bl b
  | .int i, _, h => by cases h; exact .int i
  | .str x, _, h => by cases h; exact .str x
  | .list ds, _, h => by
    cases h with
    | lst hs ha => exact .lst (.inl (.inl hs)) (DFAll.dp ds _ ha)
  | .tuple ds, _, h => by
    cases h with
    | tup hs ha => exact .tup hs (DFAll.dp ds _ ha)
  | .dict _, _, h => by cases h
theorem DFAll.dp : ∀ (ds : List D) (vs : List V), DFAll K H vs ds → DpAll K H vs ds
  | [], _, h => by cases h; exact .nil
  | d :: ds, _, h => by
    cases h with
    | cons h1 h2 => exact .cons (DF.dp d _ h1) (DFAll.dp ds _ h2)
end
end

inductive KDp {κ : Type} (K : PySem.W.Frag) (H : Hp) : List (κ × V) → List (κ × D) → Prop
  | nil : KDp K H [] []
  | cons {k : κ} {v : V} {d : D} {vs ds} : DF K H v d → KDp K H vs ds → KDp K H ((k, v) :: vs) ((k, d) :: ds)
theorem KDp.mono {κ : Type} {K : PySem.W.Frag} {H H' : Hp} (e : Same H H') : ∀ {vs : List (κ × V)} {ds : List (κ × D)}, KDp K H vs ds → KDp K H' vs ds
  | _, _, .nil => .nil
  | _, _, .cons h t => .cons (DF_mono e _ _ h) (KDp.mono e t)

mutual
def keyN : D → Option NestedKey
  | .none => some .none
  | .bool b => some (.num (if b = true then 1 else 0))
  | .int i => some (.num i)
  | .str x => some (.text x)
  | .tuple ds => (keyNs ds).map .tup
  | _ => none
def keyNs : List D → Option (List NestedKey)
  | [] => some []
  | d :: ds => (keyN d).bind fun k => (keyNs ds).map (k :: ·)
end
def dnO (w : World) (a : Addr) (xs : List (NestedKey × Addr × Value)) : HO := .ext fun h => xs.length ≤ sizeLine ∧ (a == sysModules) = false ∧
  ∃ o es ep, h.get? a = some o ∧ o.ExactDict ∧ o.data = .dict es ep ∧ es.toList = xs.map (fun x => (⟨x.1.hash w, .ref x.2.1, x.2.2⟩ : DictEntry)) ∧ (xs.map (·.1)).Nodup
inductive KeyAll (K : PySem.W.Frag) (H : Hp) : List (NestedKey × Addr × Value) → List D → Prop
  | nil : KeyAll K H [] []
  | cons {k : NestedKey} {p : Addr} {v : Value} {d : D} {xs : List (NestedKey × Addr × Value)} {ds : List D} : keyN d = some k → k.depth ≤ 8 → DF K H (.ref p) d → KeyAll K H xs ds → KeyAll K H ((k, p, v) :: xs) (d :: ds)
theorem KeyAll.mono {K : PySem.W.Frag} {H H' : Hp} (e : Same H H') : ∀ {xs : List (NestedKey × Addr × Value)} {ds : List D}, KeyAll K H xs ds → KeyAll K H' xs ds
  | _, _, .nil => .nil
  | _, _, .cons a b c t => .cons a b (DF_mono e _ _ c) (KeyAll.mono e t)
inductive KeysQ (K : PySem.W.Frag) (F : Hp) : List (NestedKey × Addr × Value) → List D → List V → Prop
  | nil : KeysQ K F [] [] []
  | cons {k : NestedKey} {p : Addr} {u : Value} {v : V} {d : D} {xs : List (NestedKey × Addr × Value)} {ds : List D} {vs : List V} : keyN d = some k → k.depth ≤ 8 → DF K F (.ref p) d → RelV v u → KeysQ K F xs ds vs → KeysQ K F ((k, p, u) :: xs) (d :: ds) (v :: vs)
theorem KeysQ.mono {K : PySem.W.Frag} {F F' : Hp} (e : Same F F') : ∀ {xs : List (NestedKey × Addr × Value)} {ds : List D} {vs : List V}, KeysQ K F xs ds vs → KeysQ K F' xs ds vs
  | _, _, _, .nil => .nil
  | _, _, _, .cons a b c r t => .cons a b (DF_mono e _ _ c) r (KeysQ.mono e t)
def NR (K : PySem.W.Frag) (ow : Option World) (H F : Hp) (s : Shp) (a : Addr) (vs : List V) (own : List Addr) : Prop :=
  match s with
  | .l => own = [a] ∧ H a = some (.lst vs)
  | .t => (own = [a] ∧ H a = some (.tup vs)) ∨ (own = [] ∧ SqT K F a vs)
  | .k ks => own = [a] ∧ ks.length = vs.length ∧ H a = some (.dK (ks.zip vs))
  | .q ks => own = [a] ∧ ∃ w xs, ow = some w ∧ H a = some (dnO w a xs) ∧ KeysQ K F xs ks vs
  | .o c fs => fs.length = vs.length ∧ ∃ C dx, own = [a, dx] ∧ PySem.W.nsIn K mainGlobals c = some (some (.ref C)) ∧ H a = some (.ins C dx (fs.zip vs)) ∧ H dx = some (.own a)
  | .e fs => own = [a] ∧ fs.length = vs.length ∧ H a = some (.xd (fs.zip vs))
  | .lf => own = [] ∧ F a = some (.lst vs)
  | .v => own = [] ∧ SqL K F a vs
  | .kf ks => own = [] ∧ ks.length = vs.length ∧ ∃ o, F a = some (.frz o (.dK (ks.zip vs)))
  | .x c fs => fs.length = vs.length ∧ ∃ C, PySem.W.nsIn K mainGlobals c = some (some (.ref C)) ∧ ((own = [a] ∧ fs = [] ∧ H a = some (exV a (.ref C) none)) ∨ ∃ dx, own = [a, dx] ∧ H a = some (exV a (.ref C) (some dx)) ∧ H dx = some (.xd (fs.zip vs)))
theorem NR.mono {K : PySem.W.Frag} {ow : Option World} {H H' F F' : Hp} {s : Shp} {a : Addr} {vs : List V} {own : List Addr} (r : NR K ow H F s a vs own) (h : ∀ b o, b ∈ own → H b = some o → H' b = some o) (f : Same F F') : NR K ow H' F' s a vs own := by
  cases s with
  | l => obtain ⟨rfl, r⟩ := r; exact ⟨rfl, h _ _ (List.mem_singleton.mpr rfl) r⟩
  | t =>
    rcases r with ⟨rfl, r⟩ | ⟨rfl, r⟩
    · exact .inl ⟨rfl, h _ _ (List.mem_singleton.mpr rfl) r⟩
    · exact .inr ⟨rfl, Same.seqT f r⟩
  | k ks => obtain ⟨rfl, l, r⟩ := r; exact ⟨rfl, l, h _ _ (List.mem_singleton.mpr rfl) r⟩
  | q ks => obtain ⟨rfl, w, xs, e, r, kq⟩ := r; exact ⟨rfl, w, xs, e, h _ _ (List.mem_singleton.mpr rfl) r, kq.mono f⟩
  | o c fs => obtain ⟨l, C, dx, rfl, n, r, r2⟩ := r; exact ⟨l, C, dx, rfl, n, h _ _ (List.mem_cons_self ..) r, h _ _ (by simp) r2⟩
  | e fs => obtain ⟨rfl, l, r⟩ := r; exact ⟨rfl, l, h _ _ (List.mem_singleton.mpr rfl) r⟩
  | lf => obtain ⟨rfl, r⟩ := r; exact ⟨rfl, f _ _ r⟩
  | v => obtain ⟨rfl, r⟩ := r; exact ⟨rfl, f.seq r⟩
  | kf ks => obtain ⟨rfl, l, o, r⟩ := r; exact ⟨rfl, l, o, f _ _ r⟩
  | x c fs =>
    obtain ⟨l, C, n, r⟩ := r
    refine ⟨l, C, n, ?_⟩
    rcases r with ⟨rfl, e, r⟩ | ⟨dx, rfl, r, r2⟩
    · exact .inl ⟨rfl, e, h _ _ (List.mem_cons_self ..) r⟩
    · exact .inr ⟨dx, rfl, h _ _ (List.mem_cons_self ..) r, h _ _ (by simp) r2⟩
mutual
inductive OR (K : PySem.W.Frag) (ow : Option World) (H F : Hp) : V → T → List Addr → Prop
  | d {v : V} {d : D} : DF K F v d → OR K ow H F v (.d d) []
  | n {s : Shp} {a : Addr} {vs : List V} {ts : List T} {own l : List Addr} : NR K ow H F s a vs own → ORs K ow H F vs ts l → (own ++ l).Nodup → OR K ow H F (.ref a) (.n s ts) (own ++ l)
inductive ORs (K : PySem.W.Frag) (ow : Option World) (H F : Hp) : List V → List T → List Addr → Prop
  | nil : ORs K ow H F [] [] []
  | cons {v : V} {t : T} {l m : List Addr} {vs : List V} {ts : List T} : OR K ow H F v t l → ORs K ow H F vs ts m → ORs K ow H F (v :: vs) (t :: ts) (l ++ m)
end
section
variable {K : PySem.W.Frag} {ow : Option World} {H H' F F' : Hp}
mutual
theorem OR_mono (f : Same F F') : ∀ (t : T) (v : V) (l : List Addr), (∀ b o, b ∈ l → H b = some o → H' b = some o) → OR K ow H F v t l → OR K ow H' F' v t l
  | .d d, _, _, _, h => by
    cases h with
    | d h => exact .d (DF_mono f _ _ h)
  | .n s ts, _, _, e, h => by
    cases h with
    | n h1 h2 h3 => exact .n (h1.mono (fun b o hb => e b o (List.mem_append_left _ hb)) f) (ORs_mono f ts _ _ (fun b o hb => e b o (List.mem_append_right _ hb)) h2) h3
theorem ORs_mono (f : Same F F') : ∀ (ts : List T) (vs : List V) (l : List Addr), (∀ b o, b ∈ l → H b = some o → H' b = some o) → ORs K ow H F vs ts l → ORs K ow H' F' vs ts l
  | [], _, _, _, h => by cases h; exact .nil
  | t :: ts, _, _, e, h => by
    cases h with
    | cons h1 h2 => exact .cons (OR_mono f t _ _ (fun b o hb => e b o (List.mem_append_left _ hb)) h1) (ORs_mono f ts _ _ (fun b o hb => e b o (List.mem_append_right _ hb)) h2)
end
theorem OR.nodup {v : V} {t : T} {l : List Addr} (h : OR K ow H F v t l) : l.Nodup := by
  cases h with
  | d _ => exact List.nodup_nil
  | n _ _ h => exact h
end
def SlotRep (K : PySem.W.Frag) (G : GC) (H F : Hp) (x : Option V) (c : C) (fp : List Addr) : Prop :=
  match c with
  | .und => fp = []
  | .val d => fp = [] ∧ ∃ v, x = some v ∧ DF K F v d
  | .brw d => fp = [] ∧ ∃ v, x = some v ∧ Dp K G.kp v d
  | .lst ds => ∃ a vs, fp = [a] ∧ x = some (.ref a) ∧ H a = some (.lst vs) ∧ DFAll K F vs ds
  | .dK ds => ∃ a vs, fp = [a] ∧ x = some (.ref a) ∧ H a = some (.dK vs) ∧ KDp K F vs ds
  | .dT ds => ∃ a vs, fp = [a] ∧ x = some (.ref a) ∧ H a = some (.dT vs) ∧ KDp K F vs ds
  | .dN ks => ∃ a w xs, fp = [a] ∧ x = some (.ref a) ∧ G.w = some w ∧ H a = some (dnO w a xs) ∧ KeyAll K F xs ks
  | .ro b t => fp = [] ∧ ∃ v l, x = some v ∧ OR K G.w G.kp F v t l ∧ (b = true → ∀ a vs, a ∈ l → G.kp a = some (.lst vs) → F a = some (.lst vs))
  | .pin j => fp = [] ∧ ∃ a l, G.Ws[j]? = some (a, l) ∧ x = some (.ref a)
  | .al j i => fp = [] ∧ ∃ a l vs v, G.Ws[j]? = some (a, l) ∧ F a = some (.lst vs) ∧ vs[i]? = some v ∧ x = some v
  | .own m t => ∃ v, x = some v ∧ OR K G.w H F v t fp ∧ ∀ j, m = some j → ∃ a l, G.Ws[j]? = some (a, l) ∧ v = .ref a ∧ ∀ b, b ∈ fp → b ∈ l ∨ G.H0 b = none

structure Rel (K : PySem.W.Frag) (G : GC) (env : List C) (σ : St) (H F : Hp) (fp : Nat → List Addr) : Prop where
  len : env.length = σ.length
  slot : ∀ i c, env[i]? = some c → SlotRep K G H F (σ[i]?.join) c (fp i)
  dj : ∀ i j a, a ∈ fp i → a ∈ fp j → i = j
  own : ∀ i a, a ∈ fp i → F a = none ∧ H a ≠ none ∧ (G.H0 a = none ∨ (a ∈ G.W ∧ ∃ c, env[i]? = some c ∧ c.mu = true))
  sub : Same F H
  new : ∀ a o, F a = some o → G.F0 a = some o ∨ G.H0 a = none
  old : Same G.F0 F
  keep : ∀ a o, G.H0 a = some o → a ∉ G.W → H a = some o
  alive : ∀ a, G.H0 a ≠ none → H a ≠ none

structure Ext (H F H' F' : Hp) : Prop where
  h : Same H H'
  f : Same F F'
  sub : Same F' H'
  new : ∀ a o, F' a = some o → F a = some o ∨ H a = none
section
variable {K : PySem.W.Frag} {G : GC} {env : List C} {σ : St} {H F H' F' H1 F1 : Hp} {fp : Nat → List Addr}
theorem Ext.refl (h : Same F H) : Ext H F H F := ⟨Same.refl _, Same.refl _, h, fun _ _ e => .inl e⟩
theorem Ext.trans (a : Ext H F H1 F1) (b : Ext H1 F1 H' F') : Ext H F H' F' :=
  ⟨a.h.trans b.h, a.f.trans b.f, b.sub, fun x o e => by
    rcases b.new x o e with q | q
    · exact a.new x o q
    · exact .inr (a.h.free q)⟩
theorem Ext.frozen {p : Addr} {o : HO} (h : Same F H) (np : H p = none) : Ext H F (upd H p o) (upd F p o) := by
  have nf : F p = none := h.free np
  refine ⟨fun b x e => ?_, fun b x e => ?_, fun b x e => ?_, fun b x e => ?_⟩
  · rw [upd_ne (ne_of_none e np)]; exact e
  · rw [upd_ne (ne_of_none e nf)]; exact e
  · by_cases hb : b = p
    · subst hb; rw [upd_same] at e ⊢; exact e
    · rw [upd_ne hb] at e ⊢; exact h _ _ e
  · by_cases hb : b = p
    · subst hb; exact .inr np
    · rw [upd_ne hb] at e; exact .inl e
theorem Ext.laid {p : Addr} {o : HO} (h : Same F H) (np : H p = none) : Ext H F (upd H p o) F := by
  refine ⟨fun b x e => ?_, Same.refl _, fun b x e => ?_, fun b x e => .inl e⟩
  · rw [upd_ne (ne_of_none e np)]; exact e
  · rw [upd_ne (ne_of_none (h _ _ e) np)]; exact h _ _ e
theorem Rel.ext (R : Rel K G env σ H F fp) (E : Ext H F H' F') : Rel K G env σ H' F' fp where
  len := R.len
  slot := fun i c e => by
    have q := R.slot i c e
    cases c with
    | und => exact q
    | val d => obtain ⟨q1, v, q2, q3⟩ := q; exact ⟨q1, v, q2, DF_mono E.f _ _ q3⟩
    | brw d => exact q
    | lst ds => obtain ⟨a, vs, q1, q2, q3, q4⟩ := q; exact ⟨a, vs, q1, q2, E.h _ _ q3, DFAll_mono E.f _ _ q4⟩
    | dK ds => obtain ⟨a, vs, q1, q2, q3, q4⟩ := q; exact ⟨a, vs, q1, q2, E.h _ _ q3, q4.mono E.f⟩
    | dT ds => obtain ⟨a, vs, q1, q2, q3, q4⟩ := q; exact ⟨a, vs, q1, q2, E.h _ _ q3, q4.mono E.f⟩
    | dN ds => obtain ⟨a, w, xs, q1, q2, q5, q3, q4⟩ := q; exact ⟨a, w, xs, q1, q2, q5, E.h _ _ q3, q4.mono E.f⟩
    | pin _ => exact q
    | al j i => obtain ⟨q0, a, l, vs, v, q1, q2, q3⟩ := q; exact ⟨q0, a, l, vs, v, q1, E.f _ _ q2, q3⟩
    | ro b t => obtain ⟨q0, v, l, q1, q2, q3⟩ := q; exact ⟨q0, v, l, q1, OR_mono E.f _ _ _ (fun _ _ _ h => h) q2, fun hb a vs ha hk => E.f _ _ (q3 hb a vs ha hk)⟩
    | own m t => obtain ⟨v, q1, q2, q3⟩ := q; exact ⟨v, q1, OR_mono E.f _ _ _ (fun b o _ => E.h b o) q2, q3⟩
  dj := R.dj
  own := fun i a ha => by
    obtain ⟨h1, h2, h3⟩ := R.own i a ha
    refine ⟨?_, ?_, h3⟩
    · cases q : F' a with
      | none => rfl
      | some o =>
        rcases E.new a o q with z | z
        · rw [h1] at z; cases z
        · exact absurd z h2
    · cases q : H a with
      | none => exact absurd q h2
      | some o => rw [E.h _ _ q]; intro z; cases z
  sub := E.sub
  new := fun a o e => by
    rcases E.new a o e with z | z
    · exact R.new a o z
    · right
      cases q : G.H0 a with
      | none => rfl
      | some u => exact absurd z (R.alive a (by rw [q]; intro z; cases z))
  old := R.old.trans E.f
  keep := fun a o e hw => E.h _ _ (R.keep a o e hw)
  alive := fun a e => by
    have q := R.alive a e
    cases z : H a with
    | none => exact absurd z q
    | some o => rw [E.h _ _ z]; intro y; cases y
theorem Rel.kpSame (R : Rel K G env σ H F fp) : Same G.kp H := fun a o e => by
  unfold GC.kp at e
  by_cases hw : a ∈ G.W
  · rw [if_pos hw] at e; cases e
  · rw [if_neg hw] at e; exact R.keep a o e hw
end

def LenOk (K : PySem.W.Frag) (H : Hp) : Prop := ∀ a xs, (SqL K H a xs ∨ SqT K H a xs) → xs.length ≤ sizeLine
def stb (G : GC) (F : Hp) : Hp := fun a => (F a).or (G.kp a)
def RepK (K : PySem.W.Frag) (G : GC) (k : RK) (H : Hp) (H' F' : Hp) (v : V) (d : D) : Prop :=
  match k with
  | .vw => Dp K H' v d
  | .vl => DF K F' v d ∨ ∃ a vs ds, v = .ref a ∧ d = .list ds ∧ H' a = some (.lst vs) ∧ DFAll K F' vs ds
  | .sv => Dp K (stb G F') v d
  | .fz => DF K F' v d
  | .ow => ∃ a vs ds, v = .ref a ∧ d = .list ds ∧ H a = none ∧ H' a = some (.lst vs) ∧ F' a = none ∧ DFAll K F' vs ds

structure DE (X : Cx) (G : GC) (k : RK) (e : Expr) (f : List C → Option D) : Prop where
  ex : ∃ t, PE X e t ∧ ∀ (σ : St) (H F : Hp) (fp : Nat → List Addr) (env : List C) (d : D) (Q : VK), Rel X.K G env σ H F fp → f env = some d →
    (∀ v H' F', Ext H F H' F' → RepK X.K G k H H' F' v d → Q v H') → t σ H Q
def RepA (K : PySem.W.Frag) (G : GC) (k : RK) (H' F' : Hp) (v : V) (d : D) : Prop :=
  match k with
  | .vw => Dp K H' v d
  | .vl => DF K F' v d ∨ ∃ a vs ds, v = .ref a ∧ d = .list ds ∧ H' a = some (.lst vs) ∧ DFAll K F' vs ds
  | .sv => Dp K (stb G F') v d
  | _ => DF K F' v d
def RepKs (K : PySem.W.Frag) (G : GC) (H' F' : Hp) : List RK → List V → List D → Prop
  | [], [], [] => True
  | k :: ks, v :: vs, d :: ds => RepA K G k H' F' v d ∧ RepKs K G H' F' ks vs ds
  | _, _, _ => False
structure DA (X : Cx) (G : GC) (ks : List RK) (es : List Expr) (f : List C → Option (List D)) : Prop where
  ex : ∃ t, PA X es t ∧ ∀ (σ : St) (H F : Hp) (fp : Nat → List Addr) (env : List C) (ds : List D) (Q : List V → Hp → Prop), Rel X.K G env σ H F fp → f env = some ds →
    (∀ vs H' F', Ext H F H' F' → RepKs X.K G H' F' ks vs ds → Q vs H') → t σ H Q
structure DTs (X : Cx) (G : GC) (e : Expr) (f : List C → Option Bool) : Prop where
  ex : ∃ t, PT X e t ∧ ∀ (σ : St) (H F : Hp) (fp : Nat → List Addr) (env : List C) (b : Bool) (Q : Bool → Hp → Prop), Rel X.K G env σ H F fp → f env = some b →
    (∀ H' F', Ext H F H' F' → Q b H') → t σ H Q
end DL
namespace DL
open PySem PySem.Spec L2

def RK.le : RK → RK → Bool
  | .ow, _ => true
  | .fz, .fz => true | .fz, .sv => true | .fz, .vl => true | .fz, .vw => true
  | .vl, .vl => true | .vl, .vw => true
  | .sv, .sv => true | .sv, .vw => true
  | .vw, .vw => true
  | _, _ => false
def RK.arg : RK → Bool
  | .ow => false
  | _ => true

section
variable {K : PySem.W.Frag} {G : GC} {H H1 F1 H' F F' : Hp} {v : V} {d : D}
theorem stb_f : Same F (stb G F) := fun a o e => by unfold stb; rw [e]; rfl
theorem stb_kp (sub : Same F H) (kp : Same G.kp H) : Same G.kp (stb G F) := fun a o e => by
  unfold stb
  cases q : F a with
  | none => exact e
  | some u =>
    have h1 := sub _ _ q
    rw [kp _ _ e] at h1
    cases h1; rfl
theorem stb_sub (sub : Same F H) (kp : Same G.kp H) : Same (stb G F) H := fun a o e => by
  unfold stb at e
  cases q : F a with
  | none => rw [q] at e; exact kp _ _ e
  | some u => rw [q] at e; cases e; exact sub _ _ q
theorem stb_mono (sub : Same F' H') (kp : Same G.kp H') (f : Same F F') : Same (stb G F) (stb G F') := fun a o e => by
  unfold stb at e
  cases q : F a with
  | none => rw [q] at e; exact stb_kp sub kp _ _ e
  | some u => rw [q] at e; cases e; exact stb_f _ _ (f _ _ q)
theorem RepA.ext {k : RK} (E : Ext H F H' F') (kp : Same G.kp H') (r : RepA K G k H F v d) : RepA K G k H' F' v d := by
  cases k with
  | vw => exact Dp_mono E.h _ _ r
  | vl =>
    rcases r with r | ⟨a, vs, ds, e1, e2, e3, e4⟩
    · exact .inl (DF_mono E.f _ _ r)
    · exact .inr ⟨a, vs, ds, e1, e2, E.h _ _ e3, DFAll_mono E.f _ _ e4⟩
  | sv => exact Dp_mono (stb_mono E.sub kp E.f) _ _ r
  | fz => exact DF_mono E.f _ _ r
  | ow => exact DF_mono E.f _ _ r
theorem RepA.now {k : RK} (sub : Same F H) (kp : Same G.kp H) (r : RepA K G k H F v d) : Dp K H v d := by
  cases k with
  | vw => exact r
  | vl =>
    rcases r with r | ⟨a, vs, ds, rfl, rfl, e3, e4⟩
    · exact Dp_mono sub _ _ (DF.dp _ _ r)
    · exact .lst (.inl (.inl e3)) (DpAll_mono sub _ _ (DFAll.dp _ _ e4))
  | sv => exact Dp_mono (stb_sub sub kp) _ _ r
  | fz => exact Dp_mono sub _ _ (DF.dp _ _ r)
  | ow => exact Dp_mono sub _ _ (DF.dp _ _ r)
theorem vl_list {ds : List D} (sub : Same F H) (r : RepA K G .vl H F v (.list ds)) : ∃ a vs, v = .ref a ∧ H a = some (.lst vs) ∧ DFAll K F vs ds := by
  rcases r with r | ⟨a, vs, ds', e1, e2, e3, e4⟩
  · cases r with
    | lst h1 h2 => exact ⟨_, _, rfl, sub _ _ h1, h2⟩
  · cases e2
    exact ⟨a, vs, e1, e3, e4⟩
theorem vl_tup {ds : List D} (sub : Same F H) (r : RepA K G .vl H F v (.tuple ds)) : ∃ a vs, v = .ref a ∧ SqT K H a vs ∧ DFAll K F vs ds := by
  rcases r with r | ⟨a, vs, ds', e1, e2, e3, e4⟩
  · cases r with
    | tup h1 h2 => exact ⟨_, _, rfl, Same.seqT sub h1, h2⟩
  · cases e2
theorem vl_int {i : Int} (r : RepA K G .vl H F v (.int i)) : v = .int i := by
  rcases r with r | ⟨a, vs, ds', e1, e2, e3, e4⟩
  · cases r; rfl
  · cases e2
theorem vl_str {i : Str} (r : RepA K G .vl H F v (.str i)) : v = .str i := by
  rcases r with r | ⟨a, vs, ds', e1, e2, e3, e4⟩
  · cases r; rfl
  · cases e2
theorem vl_bl {i : Bool} (r : RepA K G .vl H F v (.bool i)) : v = .bl i := by
  rcases r with r | ⟨a, vs, ds', e1, e2, e3, e4⟩
  · cases r; rfl
  · cases e2
end

section
variable {X : Cx} {G : GC} {k k' : RK} {e : Expr} {f : List C → Option D}
theorem DE.conv (h : DE X G k e f) (hk : k.le k' = true) : DE X G k' e f := by
  obtain ⟨t, pt, ok⟩ := h.ex
  refine ⟨t, pt, fun σ H F fp env d Q R hf q => ok σ H F fp env d Q R hf fun v H' F' E r => ?_⟩
  have kp := (R.ext E).kpSame
  cases k with
  | ow =>
    obtain ⟨a, vs, ds, rfl, rfl, h1, h2, h3, h4⟩ := r
    have E2 : Ext H F H' (upd F' a (.lst vs)) := by
      refine ⟨E.h, fun b x e => ?_, fun b x e => ?_, fun b x e => ?_⟩
      · rw [upd_ne (ne_of_none (E.f _ _ e) h3)]; exact E.f _ _ e
      · by_cases hb : b = a
        · subst hb; rw [upd_same] at e; rw [← e]; exact h2
        · rw [upd_ne hb] at e; exact E.sub _ _ e
      · by_cases hb : b = a
        · subst hb; exact .inr h1
        · rw [upd_ne hb] at e; exact E.new _ _ e
    have m : Same F' (upd F' a (.lst vs)) := fun b x e => by
      rw [upd_ne (ne_of_none e h3)]; exact e
    have z : DF X.K (upd F' a (.lst vs)) (.ref a) (.list ds) := .lst upd_same (DFAll_mono m _ _ h4)
    cases k' with
    | vw => exact q _ H' _ E2 (Dp_mono E2.sub _ _ (DF.dp _ _ z))
    | vl => exact q _ H' _ E2 (.inl z)
    | sv => exact q _ H' _ E2 (Dp_mono stb_f _ _ (DF.dp _ _ z))
    | fz => exact q _ H' _ E2 z
    | ow => exact q _ H' F' E ⟨a, vs, ds, rfl, rfl, h1, h2, h3, h4⟩
  | fz =>
    have z : DF X.K F' v d := r
    cases k' with
    | vw => exact q _ H' _ E (Dp_mono E.sub _ _ (DF.dp _ _ z))
    | vl => exact q _ H' _ E (.inl z)
    | sv => exact q _ H' _ E (Dp_mono stb_f _ _ (DF.dp _ _ z))
    | fz => exact q _ H' _ E z
    | ow => cases hk
  | vl =>
    cases k' with
    | vw => exact q _ H' _ E (RepA.now (k := .vl) E.sub kp r)
    | vl => exact q _ H' _ E r
    | sv => cases hk
    | fz => cases hk
    | ow => cases hk
  | sv =>
    cases k' with
    | vw => exact q _ H' _ E (Dp_mono (stb_sub E.sub kp) _ _ r)
    | sv => exact q _ H' _ E r
    | vl => cases hk
    | fz => cases hk
    | ow => cases hk
  | vw =>
    cases k' with
    | vw => exact q _ H' _ E r
    | sv => cases hk
    | vl => cases hk
    | fz => cases hk
    | ow => cases hk
theorem repK_A {K : PySem.W.Frag} {H H' F' : Hp} {v : V} {d : D} (ha : k.arg = true) (r : RepK K G k H H' F' v d) : RepA K G k H' F' v d := by
  cases k with
  | ow => cases ha
  | _ => exact r
def eV (i : Nat) : List C → Option D := fun env => match env[i]? with | some (.val d) => some d | _ => none
def eL (i : Nat) : List C → Option D := fun env => match env[i]? with | some (.val d) => some d | some (.lst ds) => some (.list ds) | _ => none
def eB (i : Nat) : List C → Option D := fun env => match env[i]? with | some (.val d) => some d | some (.brw d) => some d | _ => none
def eC (d : D) : List C → Option D := fun _ => some d
theorem d_var {x : Str} {pos : Pos} (i : Nat) (h : PE X (.Name x pos) (tVar i)) : DE X G .fz (.Name x pos) (eV i) := by
  refine ⟨_, h, fun σ H F fp env d Q R hf q => ?_⟩
  unfold eV at hf
  split at hf
  · rename_i d' e
    cases hf
    obtain ⟨_, v, e1, r⟩ := R.slot i _ e
    cases z : σ[i]? with
    | none => rw [z] at e1; cases e1
    | some o =>
      rw [z] at e1
      have e2 : o = some v := e1
      subst e2
      exact ⟨v, z, q v H F (Ext.refl R.sub) r⟩
  · cases hf
theorem d_varL {x : Str} {pos : Pos} (i : Nat) (h : PE X (.Name x pos) (tVar i)) : DE X G .vl (.Name x pos) (eL i) := by
  refine ⟨_, h, fun σ H F fp env d Q R hf q => ?_⟩
  unfold eL at hf
  split at hf
  · rename_i d' e
    cases hf
    obtain ⟨_, v, e1, r⟩ := R.slot i _ e
    cases z : σ[i]? with
    | none => rw [z] at e1; cases e1
    | some o =>
      rw [z] at e1
      have e2 : o = some v := e1
      subst e2
      exact ⟨v, z, q v H F (Ext.refl R.sub) (.inl r)⟩
  · rename_i ds e
    cases hf
    obtain ⟨a, vs, _, e1, e3, r⟩ := R.slot i _ e
    cases z : σ[i]? with
    | none => rw [z] at e1; cases e1
    | some o =>
      rw [z] at e1
      have e2 : o = some (.ref a) := e1
      subst e2
      exact ⟨_, z, q _ H F (Ext.refl R.sub) (.inr ⟨a, vs, ds, rfl, rfl, e3, r⟩)⟩
  · cases hf
theorem d_varB {x : Str} {pos : Pos} (i : Nat) (h : PE X (.Name x pos) (tVar i)) : DE X G .sv (.Name x pos) (eB i) := by
  refine ⟨_, h, fun σ H F fp env d Q R hf q => ?_⟩
  unfold eB at hf
  split at hf
  · rename_i d' e
    cases hf
    obtain ⟨_, v, e1, r⟩ := R.slot i _ e
    cases z : σ[i]? with
    | none => rw [z] at e1; cases e1
    | some o =>
      rw [z] at e1
      have e2 : o = some v := e1
      subst e2
      exact ⟨v, z, q v H F (Ext.refl R.sub) (Dp_mono stb_f _ _ (DF.dp _ _ r))⟩
  · rename_i ds e
    cases hf
    obtain ⟨_, v, e1, r⟩ := R.slot i _ e
    cases z : σ[i]? with
    | none => rw [z] at e1; cases e1
    | some o =>
      rw [z] at e1
      have e2 : o = some v := e1
      subst e2
      exact ⟨v, z, q v H F (Ext.refl R.sub) (Dp_mono (stb_kp R.sub R.kpSame) _ _ r)⟩
  · cases hf
theorem d_int {i j pos} : DE X G .fz (.Constant (.int i) j pos) (eC (.int i)) := ⟨_, pe_int, fun σ H F fp env d Q R hf q => by cases hf; exact q _ H F (Ext.refl R.sub) (.int i)⟩
theorem d_bl {b j pos} : DE X G .fz (.Constant (.bool b) j pos) (eC (.bool b)) := ⟨_, pe_bl, fun σ H F fp env d Q R hf q => by cases hf; exact q _ H F (Ext.refl R.sub) (.bl b)⟩
theorem d_str {x j pos} : DE X G .fz (.Constant (.str x) j pos) (eC (.str x)) := ⟨_, pe_str, fun σ H F fp env d Q R hf q => by cases hf; exact q _ H F (Ext.refl R.sub) (.str x)⟩
theorem d_glob {x : Str} {v : V} {d : D} {u : Value} {pos : Pos} (hg : Gl X x) (hm : X.mg x = some u) (r : RelV v u) (hd : DF X.K (fun _ => none) v d) (hdb : (x == ("__debug__" : Str)) = false := by decide) : DE X G .fz (.Name x pos) (eC d) :=
  ⟨_, pe_glob hg hm r hdb, fun σ H F fp env d' Q R hf q => by cases hf; exact q _ H F (Ext.refl R.sub) (DF_mono (fun _ _ z => by simp at z) _ _ hd)⟩

theorem opr_len {f : Value → Value → Sem Value} {r : R2} (h : OpR X f r) : OpR X f (fun x y H Q => LenOk X.K H → r x y H Q) := fun pins s σ H x y v u Q I rx ry q => h pins s σ H x y v u Q I rx ry (q fun a xs hx => by
  rcases hx with hx | hx
  · obtain ⟨_, _, _, z⟩ := I.list hx
    exact z
  · obtain ⟨_, _, _, z⟩ := I.tuple hx
    exact z)
structure DOp (X : Cx) (G : GC) (f : Value → Value → Sem Value) (ka kb kr : RK) (g : D → D → Option D) : Prop where
  ex : ∃ r, OpR X f r ∧ ∀ (H F : Hp) (vx vy : V) (dx dy d : D) (Q : VK), Same F H → Same G.kp H → LenOk X.K H → RepA X.K G ka H F vx dx → RepA X.K G kb H F vy dy → g dx dy = some d →
    (∀ v H' F', Ext H F H' F' → RepK X.K G kr H H' F' v d → Q v H') → r vx vy H Q
def e2 (g : D → D → Option D) (fa fb : List C → Option D) : List C → Option D := fun env => (fa env).bind fun x => (fb env).bind fun y => g x y
variable {op : Operator} {a b : Expr} {fa fb : List C → Option D} {pos : Pos} {ka kb kr k1 k2 : RK} {g : D → D → Option D}
theorem RepK.back {K : PySem.W.Frag} {H H1 H' F' : Hp} {v : V} {d : D} (s : Same H H1) (r : RepK K G k H1 H' F' v d) : RepK K G k H H' F' v d := by
  cases k with
  | ow =>
    obtain ⟨a, vs, ds, e1, e2, h1, r⟩ := r
    exact ⟨a, vs, ds, e1, e2, s.free h1, r⟩
  | _ => exact r
theorem two_ok {r : R2} {ta tb : TE} (o2 : ∀ (H F : Hp) (vx vy : V) (dx dy d : D) (Q : VK), Same F H → Same G.kp H → LenOk X.K H → RepA X.K G ka H F vx dx → RepA X.K G kb H F vy dy → g dx dy = some d →
    (∀ v H' F', Ext H F H' F' → RepK X.K G kr H H' F' v d → Q v H') → r vx vy H Q) (haa : ka.arg = true) (hba : kb.arg = true)
    (oa : ∀ (σ : L2.St) (H F : Hp) (fp : Nat → List Addr) (env : List C) (d : D) (Q : VK), Rel X.K G env σ H F fp → fa env = some d → (∀ v H' F', Ext H F H' F' → RepK X.K G ka H H' F' v d → Q v H') → ta σ H Q)
    (ob : ∀ (σ : L2.St) (H F : Hp) (fp : Nat → List Addr) (env : List C) (d : D) (Q : VK), Rel X.K G env σ H F fp → fb env = some d → (∀ v H' F', Ext H F H' F' → RepK X.K G kb H H' F' v d → Q v H') → tb σ H Q)
    {σ : L2.St} {H F : Hp} {fp : Nat → List Addr} {env : List C} {d : D} {Q : VK} (R : Rel X.K G env σ H F fp) (hf : e2 g fa fb env = some d) (q : ∀ v H' F', Ext H F H' F' → RepK X.K G kr H H' F' v d → Q v H') :
    tOp (fun x y H Q => LenOk X.K H → r x y H Q) ta tb σ H Q := by
  unfold e2 at hf
  cases h1 : fa env with
  | none => rw [h1] at hf; cases hf
  | some x =>
    cases h2 : fb env with
    | none => rw [h1, h2] at hf; cases hf
    | some y =>
      rw [h1, h2] at hf
      refine oa σ H F fp env x _ R h1 fun vx H1 F1 E1 r1 => ?_
      refine ob σ H1 F1 fp env y _ (R.ext E1) h2 fun vy H2 F2 E2 r2 => ?_
      intro hl
      have kp2 := ((R.ext E1).ext E2).kpSame
      exact o2 H2 F2 vx vy x y d Q E2.sub kp2 hl ((repK_A haa r1).ext E2 kp2) (repK_A hba r2) hf fun v H' F' E3 r3 => q v H' F' ((E1.trans E2).trans E3) (r3.back (E1.h.trans E2.h))
theorem d_bin (o : DOp X G (binaryOp op) ka kb kr g) (ha : DE X G k1 a fa) (hb : DE X G k2 b fb) (h1 : k1.le ka = true := by rfl) (h2 : k2.le kb = true := by rfl) (haa : ka.arg = true := by rfl) (hba : kb.arg = true := by rfl) :
    DE X G kr (.BinOp a op b pos) (e2 g fa fb) := by
  obtain ⟨r, or, o2⟩ := o.ex
  obtain ⟨ta, pa, oa⟩ := (ha.conv h1).ex
  obtain ⟨tb, pb, ob⟩ := (hb.conv h2).ex
  exact ⟨_, pe_op (opr_len or) pa pb, fun σ H F fp env d Q R hf q => two_ok o2 haa hba oa ob R hf q⟩
theorem d_cmp {op : CmpOp} (o : DOp X G (compareOp op) ka kb kr g) (ha : DE X G k1 a fa) (hb : DE X G k2 b fb) (hm : behindInMarks op b = false) (h1 : k1.le ka = true := by rfl) (h2 : k2.le kb = true := by rfl) (haa : ka.arg = true := by rfl) (hba : kb.arg = true := by rfl) :
    DE X G kr (.Compare a [op] [b] pos) (e2 g fa fb) := by
  obtain ⟨r, or, o2⟩ := o.ex
  obtain ⟨ta, pa, oa⟩ := (ha.conv h1).ex
  obtain ⟨tb, pb, ob⟩ := (hb.conv h2).ex
  exact ⟨_, pe_cmpR (opr_len or) pa pb hm, fun σ H F fp env d Q R hf q => two_ok o2 haa hba oa ob R hf q⟩
def asB : Option D → Option Bool
  | some (.bool b) => some b
  | _ => none
def tB (f : List C → Option D) : List C → Option Bool := fun env => asB (f env)
theorem asB_some {o : Option D} {b : Bool} (h : asB o = some b) : o = some (.bool b) := by
  cases o with
  | none => cases h
  | some d => cases d <;> first | (cases h; rfl) | cases h
theorem repK_bl {K : PySem.W.Frag} {H H' F' : Hp} {v : V} {c : Bool} (ha : k.arg = true) (r : RepK K G k H H' F' v (.bool c)) : v = .bl c := by
  cases k with
  | ow => cases ha
  | vw => cases r; rfl
  | vl => exact vl_bl (G := G) (H := H') (F := F') r
  | sv => cases r; rfl
  | fz => cases r; rfl
theorem dt_cmp {op : CmpOp} (o : DOp X G (compareOp op) ka kb .fz g) (ha : DE X G k1 a fa) (hb : DE X G k2 b fb) (hm : behindInMarks op b = false) (h1 : k1.le ka = true := by rfl) (h2 : k2.le kb = true := by rfl) (haa : ka.arg = true := by rfl) (hba : kb.arg = true := by rfl) :
    DTs X G (.Compare a [op] [b] pos) (tB (e2 g fa fb)) := by
  obtain ⟨r, or, o2⟩ := o.ex
  obtain ⟨ta, pa, oa⟩ := (ha.conv h1).ex
  obtain ⟨tb, pb, ob⟩ := (hb.conv h2).ex
  refine ⟨_, pt_cmpR (opr_len or) pa pb hm, fun σ H F fp env d Q R hf q => ?_⟩
  exact two_ok (r := r) (Q := fun x H' => ∃ k, x = .bl k ∧ Q k H') o2 haa hba oa ob R (asB_some hf) fun v H' F' E r => ⟨d, repK_bl (k := .fz) (G := G) (H := H) rfl r, q H' F' E⟩
theorem dt_val (h : DE X G k e f) (h1 : k.le .vw = true := by rfl) (he : ∀ whole, isTrue e X.env whole = (do let v ← whole; standAt e.pos; holding [v] (truthy v)) := by intro _; rfl) : DTs X G e (tB f) := by
  obtain ⟨t, pt, ok⟩ := (h.conv h1).ex
  refine ⟨_, pt_val pt he, fun σ H F fp env d Q R hf q => ?_⟩
  exact ok σ H F fp env _ _ R (asB_some hf) fun v H' F' E r => ⟨d, repK_bl (k := .vw) (G := G) (H := H) rfl r, q H' F' E⟩
def tNotF (f : List C → Option Bool) : List C → Option Bool := fun env => (f env).map (!·)
theorem dt_not {f : List C → Option Bool} (h : DTs X G a f) : DTs X G (.UnaryOp .Not a pos) (tNotF f) := by
  obtain ⟨t, pt, ok⟩ := h.ex
  refine ⟨_, pt_not pt, fun σ H F fp env d Q R hf q => ?_⟩
  unfold tNotF at hf
  cases z : f env with
  | none => rw [z] at hf; cases hf
  | some c =>
    rw [z] at hf; cases hf
    exact ok σ H F fp env c _ R z fun H' F' E => q H' F' E
structure DW (X : Cx) (G : GC) (e : Expr) (f : List C → Option Bool) : Prop where
  ex : ∃ t, PW X e t ∧ ∀ (σ : L2.St) (H F : Hp) (fp : Nat → List Addr) (env : List C) (b : Bool) (Q : Bool → Hp → Prop), Rel X.K G env σ H F fp → f env = some b →
    (∀ H' F', Ext H F H' F' → Q b H') → t σ H Q
theorem DW.t {f : List C → Option Bool} (h : DW X G e f) : DTs X G e f := let ⟨t, p, o⟩ := h.ex; ⟨t, p.pt, o⟩
def tAndF (f g : List C → Option Bool) : List C → Option Bool := fun env => (f env).bind fun c => if c = true then g env else some false
def tOrF (f g : List C → Option Bool) : List C → Option Bool := fun env => (f env).bind fun c => if c = true then some true else g env
variable {f1 f2 : List C → Option Bool} {rest : List Expr}
theorem dw_and1 (h : DTs X G a f1) : DW X G (.BoolOp .And [a] pos) f1 := let ⟨t, p, o⟩ := h.ex; ⟨t, pw_and1 p, o⟩
theorem dw_or1 (h : DTs X G a f1) : DW X G (.BoolOp .Or [a] pos) f1 := let ⟨t, p, o⟩ := h.ex; ⟨t, pw_or1 p, o⟩
theorem dw_and (h : DTs X G a f1) (h2 : DW X G (.BoolOp .And (b :: rest) pos) f2) : DW X G (.BoolOp .And (a :: b :: rest) pos) (tAndF f1 f2) := by
  obtain ⟨t, p, o⟩ := h.ex
  obtain ⟨t2, p2, o2⟩ := h2.ex
  refine ⟨_, pw_and p p2, fun σ H F fp env d Q R hf q => ?_⟩
  unfold tAndF at hf
  cases z : f1 env with
  | none => rw [z] at hf; cases hf
  | some c =>
    rw [z] at hf
    refine o σ H F fp env c _ R z fun H1 F1 E1 => ?_
    cases c with
    | true =>
      refine iteT ?_
      exact o2 σ H1 F1 fp env d _ (R.ext E1) hf fun H' F' E => q H' F' (E1.trans E)
    | false =>
      cases hf
      exact iteF (q H1 F1 E1)
theorem dw_or (h : DTs X G a f1) (h2 : DW X G (.BoolOp .Or (b :: rest) pos) f2) : DW X G (.BoolOp .Or (a :: b :: rest) pos) (tOrF f1 f2) := by
  obtain ⟨t, p, o⟩ := h.ex
  obtain ⟨t2, p2, o2⟩ := h2.ex
  refine ⟨_, pw_or p p2, fun σ H F fp env d Q R hf q => ?_⟩
  unfold tOrF at hf
  cases z : f1 env with
  | none => rw [z] at hf; cases hf
  | some c =>
    rw [z] at hf
    refine o σ H F fp env c _ R z fun H1 F1 E1 => ?_
    cases c with
    | true =>
      cases hf
      exact iteT (q H1 F1 E1)
    | false =>
      refine iteF ?_
      exact o2 σ H1 F1 fp env d _ (R.ext E1) hf fun H' F' E => q H' F' (E1.trans E)
def eAnd (f g : List C → Option D) : List C → Option D := fun env => (asB (f env)).bind fun c => if c = true then g env else some (.bool false)
def eOr (f g : List C → Option D) : List C → Option D := fun env => (asB (f env)).bind fun c => if c = true then some (.bool true) else g env
def eNot (f : List C → Option D) : List C → Option D := fun env => (asB (f env)).map fun c => .bool (!c)
theorem d_one {op} (h : DE X G k a fa) : DE X G k (.BoolOp op [a] pos) fa := let ⟨t, p, o⟩ := h.ex; ⟨t, pe_one p, o⟩
theorem d_and (h : DE X G k1 a fa) (h2 : DE X G k2 (.BoolOp .And (b :: rest) pos) fb) (hk : k1.le .vw = true := by rfl) (hk2 : k2.le .fz = true := by rfl) : DE X G .fz (.BoolOp .And (a :: b :: rest) pos) (eAnd fa fb) := by
  obtain ⟨t, p, o⟩ := (h.conv hk).ex
  obtain ⟨t2, p2, o2⟩ := (h2.conv hk2).ex
  refine ⟨_, pe_and p p2, fun σ H F fp env d Q R hf q => ?_⟩
  unfold eAnd at hf
  cases z : asB (fa env) with
  | none => rw [z] at hf; cases hf
  | some c =>
    rw [z] at hf
    refine o σ H F fp env _ _ R (asB_some z) fun v H1 F1 E1 r => ⟨c, repK_bl (k := .vw) (G := G) (H := H) rfl r, ?_⟩
    cases c with
    | true =>
      refine iteT ?_
      exact o2 σ H1 F1 fp env d _ (R.ext E1) hf fun v H' F' E r => q v H' F' (E1.trans E) r
    | false =>
      cases hf
      exact iteF (q _ H1 F1 E1 (.bl false))
theorem d_not (h : DE X G k1 a fa) (hk : k1.le .vw = true := by rfl) : DE X G .fz (.UnaryOp .Not a pos) (eNot fa) := by
  obtain ⟨t, p, o⟩ := (h.conv hk).ex
  refine ⟨_, pe_not p, fun σ H F fp env d Q R hf q => ?_⟩
  unfold eNot at hf
  cases z : asB (fa env) with
  | none => rw [z] at hf; cases hf
  | some c =>
    rw [z] at hf; cases hf
    exact o σ H F fp env _ _ R (asB_some z) fun v H1 F1 E1 r => ⟨c, repK_bl (k := .vw) (G := G) (H := H) rfl r, q _ H1 F1 E1 (.bl _)⟩
end
end DL
namespace DL
open PySem PySem.Spec L2

section
variable {X : Cx} {G : GC}
def gAddI : D → D → Option D | .int i, .int j => some (.int (i + j)) | _, _ => none
def gSub : D → D → Option D | .int i, .int j => some (.int (i - j)) | _, _ => none
def gMulI : D → D → Option D | .int i, .int j => if i.natAbs.log2 + j.natAbs.log2 < 1000000 then some (.int (i * j)) else none | _, _ => none
def gDiv : D → D → Option D | .int i, .int j => if 0 < j ∧ j.natAbs.log2 < 9000 then some (.int (i / j)) else none | _, _ => none
def gMod : D → D → Option D | .int i, .int j => if 0 < j then some (.int (i % j)) else none | _, _ => none
def gPow : D → D → Option D | .int i, .int j => if 0 ≤ j ∧ j ≤ 1000000 ∧ i.natAbs < 2 ^ 64 then some (.int (i ^ j.toNat)) else none | _, _ => none
def gLt : D → D → Option D | .int i, .int j => some (.bool (decide (i < j))) | _, _ => none
def gLe : D → D → Option D | .int i, .int j => some (.bool (decide (i ≤ j))) | _, _ => none
def gGt : D → D → Option D | .int i, .int j => some (.bool (decide (j < i))) | _, _ => none
def gGe : D → D → Option D | .int i, .int j => some (.bool (decide (j ≤ i))) | _, _ => none

theorem dop_int {f : Value → Value → Sem Value} {C : Int → Int → Prop} [∀ i j, Decidable (C i j)] {r : Int → Int → V} {r' : Int → Int → D} (h : OpR X f (rI C r)) {g : D → D → Option D}
    (hg : ∀ x y d, g x y = some d → ∃ i j, x = .int i ∧ y = .int j ∧ C i j ∧ d = r' i j) (hr : ∀ K F i j, DF K F (r i j) (r' i j)) : DOp X G f .vl .vl .fz g :=
  ⟨_, h, fun H F vx vy dx dy d Q sub kp hl rx ry hd q => by
    obtain ⟨i, j, rfl, rfl, hC, rfl⟩ := hg _ _ _ hd
    have e1 := vl_int rx
    have e2 := vl_int ry
    subst e1 e2
    exact ⟨i, j, rfl, rfl, hC, q _ H F (Ext.refl sub) (hr _ _ _ _)⟩⟩
theorem rI_of0 {f : Value → Value → Sem Value} {r : Int → Int → V} (h : OpR X f (rI0 r)) : OpR X f (rI (fun _ _ => True) r) := fun pins s σ H x y v u Q I rx ry q => h pins s σ H x y v u Q I rx ry (by
  obtain ⟨i, j, e1, e2, _, q⟩ := q
  exact ⟨i, j, e1, e2, q⟩)
theorem o_addI : DOp X G (binaryOp .Add) .vl .vl .fz gAddI := dop_int (r' := fun i j => .int (i + j)) (rI_of0 op_add) (fun x y d h => by
  unfold gAddI at h; split at h <;> cases h; exact ⟨_, _, rfl, rfl, True.intro, rfl⟩) fun _ _ _ _ => .int _
theorem o_sub : DOp X G (binaryOp .Sub) .vl .vl .fz gSub := dop_int (r' := fun i j => .int (i - j)) (rI_of0 op_sub) (fun x y d h => by
  unfold gSub at h; split at h <;> cases h; exact ⟨_, _, rfl, rfl, True.intro, rfl⟩) fun _ _ _ _ => .int _
theorem o_mulI : DOp X G (binaryOp .Mult) .vl .vl .fz gMulI := dop_int (C := fun i j => i.natAbs.log2 + j.natAbs.log2 < 1000000) (r' := fun i j => .int (i * j)) op_mulW (fun x y d h => by
  unfold gMulI at h
  split at h
  · split at h <;> cases h
    exact ⟨_, _, rfl, rfl, by assumption, rfl⟩
  · cases h) fun _ _ _ _ => .int _
theorem o_pow : DOp X G (binaryOp .Pow) .vl .vl .fz gPow := dop_int (C := fun i j => 0 ≤ j ∧ j ≤ 1000000 ∧ i.natAbs < 2 ^ 64) (r' := fun i j => .int (i ^ j.toNat)) op_pow (fun x y d h => by
  unfold gPow at h
  split at h
  · split at h <;> cases h
    exact ⟨_, _, rfl, rfl, by assumption, rfl⟩
  · cases h) fun _ _ _ _ => .int _
theorem o_lt : DOp X G (compareOp .Lt) .vl .vl .fz gLt := dop_int (r' := fun i j => .bool (decide (i < j))) (rI_of0 op_lt) (fun x y d h => by
  unfold gLt at h; split at h <;> cases h; exact ⟨_, _, rfl, rfl, True.intro, rfl⟩) fun _ _ _ _ => .bl _
theorem o_gt : DOp X G (compareOp .Gt) .vl .vl .fz gGt := dop_int (r' := fun i j => .bool (decide (j < i))) (rI_of0 op_gt) (fun x y d h => by
  unfold gGt at h; split at h <;> cases h; exact ⟨_, _, rfl, rfl, True.intro, rfl⟩) fun _ _ _ _ => .bl _
theorem o_ge : DOp X G (compareOp .GtE) .vl .vl .fz gGe := dop_int (r' := fun i j => .bool (decide (j ≤ i))) (rI_of0 op_ge) (fun x y d h => by
  unfold gGe at h; split at h <;> cases h; exact ⟨_, _, rfl, rfl, True.intro, rfl⟩) fun _ _ _ _ => .bl _
def eNeg (f : List C → Option D) : List C → Option D := fun env => match f env with | some (.int i) => some (.int (-i)) | _ => none
theorem d_neg {a : Expr} {k1 : RK} {fa : List C → Option D} {pos : Pos} (h : DE X G k1 a fa) (hk : k1.le .vl = true := by rfl) : DE X G .fz (.UnaryOp .USub a pos) (eNeg fa) := by
  obtain ⟨t, p, o⟩ := (h.conv hk).ex
  refine ⟨_, pe_un un_neg p, fun σ H F fp env d Q R hf q => ?_⟩
  unfold eNeg at hf
  cases z : fa env with
  | none => rw [z] at hf; cases hf
  | some c =>
    rw [z] at hf
    cases c <;> cases hf
    refine o σ H F fp env _ _ R z fun v H1 F1 E1 r => ?_
    have e := vl_int (G := G) (H := H1) (F := F1) r
    subst e
    exact ⟨_, rfl, q _ H1 F1 E1 (.int _)⟩

def gAddS : D → D → Option D | .str x, .str y => if x.length + y.length ≤ sizeLine then some (.str (x ++ y)) else none | _, _ => none
theorem o_addS : DOp X G (binaryOp .Add) .vl .vl .fz gAddS := ⟨_, op_add_str, fun H F vx vy dx dy d Q sub kp hl rx ry hd q => by
  unfold gAddS at hd
  split at hd
  · split at hd <;> cases hd
    have e1 := vl_str rx
    have e2 := vl_str ry
    subst e1 e2
    exact ⟨_, _, rfl, rfl, by assumption, q _ H F (Ext.refl sub) (.str _)⟩
  · cases hd⟩
def gAddL : D → D → Option D | .list xs, .list ys => if xs.length + ys.length ≤ sizeLine then some (.list (xs ++ ys)) else none | _, _ => none
theorem new_ow {H F : Hp} {p : Addr} {vs : List V} {ds : List D} (sub : Same F H) (np : H p = none) (r : DFAll X.K F vs ds) : Ext H F (upd H p (.lst vs)) F ∧ RepK X.K G .ow H (upd H p (.lst vs)) F (.ref p) (.list ds) :=
  ⟨Ext.laid sub np, p, vs, ds, rfl, rfl, np, upd_same, sub.free np, r⟩
theorem new_tup {H F : Hp} {p : Addr} {vs : List V} {ds : List D} (sub : Same F H) (np : H p = none) (r : DFAll X.K F vs ds) : Ext H F (upd H p (.tup vs)) (upd F p (.tup vs)) ∧ DF X.K (upd F p (.tup vs)) (.ref p) (.tuple ds) :=
  ⟨Ext.frozen sub np, .tup (.inl (.inl upd_same)) (DFAll_mono (fun b x e => by rw [upd_ne (ne_of_none e (sub.free np))]; exact e) _ _ r)⟩
theorem o_addL : DOp X G (binaryOp .Add) .vl .vl .ow gAddL := ⟨_, op_cat, fun H F vx vy dx dy d Q sub kp hl rx ry hd q => by
  unfold gAddL at hd
  split at hd
  · split at hd <;> cases hd
    obtain ⟨a, vs, rfl, h1, h2⟩ := vl_list sub rx
    obtain ⟨b, ws, rfl, h3, h4⟩ := vl_list sub ry
    refine ⟨a, b, vs, ws, rfl, rfl, h1, h3, by rw [DFAll_len h2, DFAll_len h4]; assumption, fun p np => ?_⟩
    obtain ⟨E, r⟩ := new_ow (G := G) sub np (DFAll_app h2 h4)
    exact q _ _ _ E r
  · cases hd⟩
def gAddT : D → D → Option D | .tuple xs, .tuple ys => if xs.length + ys.length ≤ sizeLine then some (.tuple (xs ++ ys)) else none | _, _ => none
theorem o_addT : DOp X G (binaryOp .Add) .vl .vl .fz gAddT := ⟨_, op_catA, fun H F vx vy dx dy d Q sub kp hl rx ry hd q => by
  unfold gAddT at hd
  split at hd
  · split at hd <;> cases hd
    rename_i xs ys _
    have fx : ∃ a vs, vx = .ref a ∧ SqT X.K F a vs ∧ DFAll X.K F vs xs := by
      rcases rx with rx | ⟨_, _, _, _, z, _⟩
      · cases rx with | tup h1 h2 => exact ⟨_, _, rfl, h1, h2⟩
      · cases z
    have fy : ∃ a vs, vy = .ref a ∧ SqT X.K F a vs ∧ DFAll X.K F vs ys := by
      rcases ry with rx | ⟨_, _, _, _, z, _⟩
      · cases rx with | tup h1 h2 => exact ⟨_, _, rfl, h1, h2⟩
      · cases z
    obtain ⟨a, vs, rfl, h1, h2⟩ := fx
    obtain ⟨b, ws, rfl, h3, h4⟩ := fy
    refine ⟨a, b, vs, ws, rfl, rfl, Same.seqT sub h1, Same.seqT sub h3, by rw [DFAll_len h2, DFAll_len h4]; assumption, fun e => ?_, fun e0 e => ?_, fun e0 e1 p np => ?_⟩
    · subst e; cases h2; exact q _ H F (Ext.refl sub) (.tup h3 h4)
    · subst e; cases h4; rw [List.append_nil] at q; exact q _ H F (Ext.refl sub) (.tup h1 h2)
    · obtain ⟨E, r⟩ := new_tup sub np (DFAll_app h2 h4)
      exact q _ _ _ E r
  · cases hd⟩
def gMulL : D → D → Option D | .list xs, .int k => if k < 2 ^ 63 ∧ -(2 ^ 63) ≤ k ∧ xs.length * k.toNat ≤ sizeLine then some (.list (List.replicate k.toNat xs).flatten) else none | _, _ => none
theorem o_mulL : DOp X G (binaryOp .Mult) .vl .vl .ow gMulL := ⟨_, op_rep, fun H F vx vy dx dy d Q sub kp hl rx ry hd q => by
  unfold gMulL at hd
  split at hd
  · split at hd <;> cases hd
    rename_i hc
    obtain ⟨a, vs, rfl, h1, h2⟩ := vl_list sub rx
    have e2 := vl_int ry
    subst e2
    refine ⟨a, _, vs, rfl, rfl, h1, hc.2.1, hc.1, by rw [DFAll_len h2]; exact hc.2.2, fun p np => ?_⟩
    obtain ⟨E, r⟩ := new_ow (G := G) sub np (DFAll_rep h2 _)
    exact q _ _ _ E r
  · cases hd⟩
def gMulT : D → D → Option D | .tuple xs, .int k => if xs ≠ [] ∧ 2 ≤ k ∧ k ≤ 1000 ∧ xs.length ≤ 1000 then some (.tuple (List.replicate k.toNat xs).flatten) else none | _, _ => none
theorem o_mulT : DOp X G (binaryOp .Mult) .vl .vl .fz gMulT := ⟨_, op_repT, fun H F vx vy dx dy d Q sub kp hl rx ry hd q => by
  unfold gMulT at hd
  split at hd
  · split at hd <;> cases hd
    rename_i hc
    obtain ⟨a, vs, rfl, h1, h2⟩ := vl_tup sub rx
    have e2 := vl_int ry
    subst e2
    refine ⟨a, _, vs, rfl, rfl, h1, fun e => ?_, hc.2.1, hc.2.2.1, by rw [DFAll_len h2]; exact hc.2.2.2, fun p np => ?_⟩
    · subst e; cases h2; exact hc.1 rfl
    obtain ⟨E, r⟩ := new_tup sub np (DFAll_rep h2 _)
    exact q _ _ _ E r
  · cases hd⟩

def gEqS : D → D → Option D
  | .int i, .int j => some (.bool (decide (i = j)))
  | .str i, .str j => some (.bool (decide (i = j)))
  | .bool i, .bool j => some (.bool (decide (i = j)))
  | _, _ => none
def gNeS : D → D → Option D
  | .int i, .int j => some (.bool (!decide (i = j)))
  | .str i, .str j => some (.bool (!decide (i = j)))
  | .bool i, .bool j => some (.bool (!decide (i = j)))
  | _, _ => none
theorem o_eqS : DOp X G (compareOp .Eq) .vl .vl .fz gEqS := ⟨_, op_eq, fun H F vx vy dx dy d Q sub kp hl rx ry hd q => by
  unfold gEqS at hd
  split at hd <;> cases hd
  · have e1 := vl_int rx; have e2 := vl_int ry; subst e1 e2
    refine ⟨rfl, ?_⟩
    rw [dec_int, Bool.beq_eq_decide_eq]
    exact q _ H F (Ext.refl sub) (.bl _)
  · have e1 := vl_str rx; have e2 := vl_str ry; subst e1 e2
    refine ⟨rfl, ?_⟩
    rw [dec_str, Bool.beq_eq_decide_eq]
    exact q _ H F (Ext.refl sub) (.bl _)
  · have e1 := vl_bl rx; have e2 := vl_bl ry; subst e1 e2
    refine ⟨rfl, ?_⟩
    rw [dec_bl, Bool.beq_eq_decide_eq]
    exact q _ H F (Ext.refl sub) (.bl _)⟩
theorem o_neS : DOp X G (compareOp .NotEq) .vl .vl .fz gNeS := ⟨_, op_ne, fun H F vx vy dx dy d Q sub kp hl rx ry hd q => by
  unfold gNeS at hd
  split at hd <;> cases hd
  · have e1 := vl_int rx; have e2 := vl_int ry; subst e1 e2
    refine ⟨rfl, ?_⟩
    rw [dec_int, Bool.beq_eq_decide_eq]
    exact q _ H F (Ext.refl sub) (.bl _)
  · have e1 := vl_str rx; have e2 := vl_str ry; subst e1 e2
    refine ⟨rfl, ?_⟩
    rw [dec_str, Bool.beq_eq_decide_eq]
    exact q _ H F (Ext.refl sub) (.bl _)
  · have e1 := vl_bl rx; have e2 := vl_bl ry; subst e1 e2
    refine ⟨rfl, ?_⟩
    rw [dec_bl, Bool.beq_eq_decide_eq]
    exact q _ H F (Ext.refl sub) (.bl _)⟩
def gEqD : D → D → Option D := fun x y => if SeqAt.shaped x = true ∧ SeqAt.shaped y = true then some (.bool (PyData.eqv x y)) else none
def gNeD : D → D → Option D := fun x y => if SeqAt.shaped x = true ∧ SeqAt.shaped y = true then some (.bool (!PyData.eqv x y)) else none
theorem o_eqD (hu : X.A.units + 64 < cLine) : DOp X G (compareOp .Eq) .vw .vw .fz gEqD := ⟨_, op_eqD hu, fun H F vx vy dx dy d Q sub kp hl rx ry hd q => by
  unfold gEqD at hd
  split at hd <;> cases hd
  rename_i hc
  exact ⟨_, _, rx, ry, hc.1, hc.2, q _ H F (Ext.refl sub) (.bl _)⟩⟩
theorem o_neD (hu : X.A.units + 64 < cLine) : DOp X G (compareOp .NotEq) .vw .vw .fz gNeD := ⟨_, op_neD hu, fun H F vx vy dx dy d Q sub kp hl rx ry hd q => by
  unfold gNeD at hd
  split at hd <;> cases hd
  rename_i hc
  exact ⟨_, _, rx, ry, hc.1, hc.2, q _ H F (Ext.refl sub) (.bl _)⟩⟩
def gInL : D → D → Option D | x, .list ys => if SeqAt.shaped x = true ∧ SeqAt.shaped (.list ys) = true then some (.bool (ys.any fun z => PyData.eqv z x)) else none | _, _ => none
def gNotInL : D → D → Option D | x, .list ys => if SeqAt.shaped x = true ∧ SeqAt.shaped (.list ys) = true then some (.bool (!ys.any fun z => PyData.eqv z x)) else none | _, _ => none
theorem o_notInL (hu : X.A.units + 65 < cLine) : DOp X G (compareOp .NotIn) .vw .vw .fz gNotInL := ⟨_, op_notInD hu, fun H F vx vy dx dy d Q sub kp hl rx ry hd q => by
  unfold gNotInL at hd
  split at hd
  · split at hd <;> cases hd
    rename_i hc
    exact ⟨_, _, rx, ry, hc.1, hc.2, q _ H F (Ext.refl sub) (.bl _)⟩
  · cases hd⟩

def gIx : D → D → Option D
  | .list xs, .int i => atI xs i
  | .tuple xs, .int i => atI xs i
  | .str z, .int i => (atI z.cps.toList i).map fun c => .str ⟨#[c]⟩
  | _, _ => none
theorem atI_rep {K : PySem.W.Frag} {F : Hp} {vs : List V} {ds : List D} {i : Int} {d : D} (h : DFAll K F vs ds) (e : atI ds i = some d) : ∃ v, atI vs i = some v ∧ DF K F v d := by
  unfold atI at e ⊢
  rw [DFAll_len h]
  cases z : ixN ds.length i with
  | none => rw [z] at e; cases e
  | some j =>
    rw [z] at e
    exact DFAll_get h e
theorem atI_repD {K : PySem.W.Frag} {F : Hp} {vs : List V} {ds : List D} {i : Int} {d : D} (h : DpAll K F vs ds) (e : atI ds i = some d) : ∃ v, atI vs i = some v ∧ Dp K F v d := by
  unfold atI at e ⊢
  rw [DpAll_len h]
  cases z : ixN ds.length i with
  | none => rw [z] at e; cases e
  | some j =>
    rw [z] at e
    exact DpAll_get h e
theorem ixr_len {r : R2} (h : IxR X r) : IxR X (fun x y H Q => LenOk X.K H → r x y H Q) := fun a b pins s σ H x y v u Q I rx ry q hs => h a b pins s σ H x y v u Q I rx ry (q fun a xs hx => by
  rcases hx with hx | hx
  · obtain ⟨_, _, _, z⟩ := I.list hx
    exact z
  · obtain ⟨_, _, _, z⟩ := I.tuple hx
    exact z) hs
def gIxS : D → D → Option D
  | .str z, .int i => if z.length ≤ sizeLine then (atI z.cps.toList i).map fun c => .str ⟨#[c]⟩ else none
  | x, y => gIx x y
theorem ix_ok {H F : Hp} {vx vy : V} {dx dy d : D} {Q : VK} (sub : Same F H) (rx : RepA X.K G .vl H F vx dx) (ry : RepA X.K G .vl H F vy dy) (hd : gIxS dx dy = some d)
    (q : ∀ v H' F', Ext H F H' F' → RepK X.K G .fz H H' F' v d → Q v H') : rIx X.K vx vy H Q := by
  unfold gIxS at hd
  split at hd
  · split at hd
    · rename_i z i hz
      have e1 := vl_str rx; have e2 := vl_int ry; subst e1 e2
      cases e : atI z.cps.toList i with
      | none => rw [e] at hd; cases hd
      | some c =>
        rw [e] at hd; cases hd
        exact .inr (.inr ⟨z, i, c, rfl, rfl, hz, e, q _ H F (Ext.refl sub) (.str _)⟩)
    · cases hd
  · rename_i hne
    unfold gIx at hd
    split at hd
    · obtain ⟨a, vs, rfl, h1, h2⟩ := vl_list sub rx
      have e2 := vl_int ry; subst e2
      obtain ⟨v, e, r⟩ := atI_rep h2 hd
      exact .inl ⟨a, vs, _, v, rfl, rfl, .inl (.inl h1), e, q _ H F (Ext.refl sub) r⟩
    · obtain ⟨a, vs, rfl, h1, h2⟩ := vl_tup sub rx
      have e2 := vl_int ry; subst e2
      obtain ⟨v, e, r⟩ := atI_rep h2 hd
      exact .inr (.inl ⟨a, vs, _, v, rfl, rfl, h1, e, q _ H F (Ext.refl sub) r⟩)
    · exact (hne _ _ rfl rfl).elim
    · cases hd
theorem ixB_ok {H F : Hp} {vx vy : V} {dx dy d : D} {Q : VK} (sub : Same F H) (kp : Same G.kp H) (rx : Dp X.K (stb G F) vx dx) (ry : RepA X.K G .vl H F vy dy) (hd : gIx dx dy = some d) (hz : ∀ z, dx ≠ .str z)
    (q : ∀ v H' F', Ext H F H' F' → RepK X.K G .sv H H' F' v d → Q v H') : rIx X.K vx vy H Q := by
  unfold gIx at hd
  split at hd
  · cases rx with
    | lst h1 h2 =>
      have e2 := vl_int ry; subst e2
      obtain ⟨v, e, r⟩ := atI_repD h2 hd
      exact .inl ⟨_, _, _, v, rfl, rfl, (stb_sub sub kp).seq h1, e, q _ H F (Ext.refl sub) r⟩
  · cases rx with
    | tup h1 h2 =>
      have e2 := vl_int ry; subst e2
      obtain ⟨v, e, r⟩ := atI_repD h2 hd
      exact .inr (.inl ⟨_, _, _, v, rfl, rfl, Same.seqT (stb_sub sub kp) h1, e, q _ H F (Ext.refl sub) r⟩)
  · exact absurd rfl (hz _)
  · cases hd
variable {a b : Expr} {fa fb : List C → Option D} {pos : Pos} {k1 k2 : RK}
theorem d_ix (ha : DE X G k1 a fa) (hb : DE X G k2 b fb) (hs : PlainIx b) (h1 : k1.le .vl = true := by rfl) (h2 : k2.le .vl = true := by rfl) : DE X G .fz (.Subscript a b pos) (e2 gIxS fa fb) := by
  obtain ⟨ta, pa, oa⟩ := (ha.conv h1).ex
  obtain ⟨tb, pb, ob⟩ := (hb.conv h2).ex
  exact ⟨_, pe_ix (ixr_len ix_seq) pa pb hs, fun σ H F fp env d Q R hf q => two_ok (kr := .fz) (fun H F vx vy dx dy d Q sub kp hl rx ry hd q => ix_ok sub rx ry hd q) rfl rfl oa ob R hf q⟩
def gIxB : D → D → Option D | .str _, _ => none | x, y => gIx x y
theorem d_ixB (ha : DE X G k1 a fa) (hb : DE X G k2 b fb) (hs : PlainIx b) (h1 : k1.le .sv = true := by rfl) (h2 : k2.le .vl = true := by rfl) : DE X G .sv (.Subscript a b pos) (e2 gIxB fa fb) := by
  obtain ⟨ta, pa, oa⟩ := (ha.conv h1).ex
  obtain ⟨tb, pb, ob⟩ := (hb.conv h2).ex
  refine ⟨_, pe_ix (ixr_len ix_seq) pa pb hs, fun σ H F fp env d Q R hf q => two_ok (kr := .sv) (fun H F vx vy dx dy d Q sub kp hl rx ry hd q => ?_) rfl rfl oa ob R hf q⟩
  unfold gIxB at hd
  split at hd
  · cases hd
  · rename_i hn
    exact ixB_ok sub kp rx ry hd (fun z e => hn z e) q
def scalD : D → Bool | .int _ => true | .str _ => true | .bool _ => true | .none => true | _ => false
def eScal (f : List C → Option D) : List C → Option D := fun env => match f env with | some d => if scalD d then some d else none | none => none
theorem d_scal {e : Expr} {f : List C → Option D} (h : DE X G k1 e f) (h1 : k1.le .vw = true := by rfl) : DE X G .fz e (eScal f) := by
  obtain ⟨t, p, o⟩ := (h.conv h1).ex
  refine ⟨t, p, fun σ H F fp env d Q R hf q => ?_⟩
  unfold eScal at hf
  split at hf
  · rename_i d' e
    split at hf
    · cases hf
      rename_i hs
      refine o σ H F fp env _ _ R e fun v H' F' E r => q v H' F' E ?_
      have r' : Dp X.K H' v d := r
      cases r' with
      | non => exact .non
      | bl b => exact .bl b
      | int i => exact .int i
      | str x => exact .str x
      | lst _ _ => cases hs
      | tup _ _ => cases hs
    · cases hf
  · cases hf

structure DP (X : Cx) (G : GC) (e : Option Expr) (f : List C → Option (Option Int)) : Prop where
  ex : ∃ t, PO X e t ∧ ∀ (σ : L2.St) (H F : Hp) (fp : Nat → List Addr) (env : List C) (o : Option Int) (Q : Option Int → Hp → Prop), Rel X.K G env σ H F fp → f env = some o →
    (∀ H' F', Ext H F H' F' → Q o H') → t σ H Q
def pN : List C → Option (Option Int) := fun _ => some none
def pS (f : List C → Option D) : List C → Option (Option Int) := fun env => match f env with | some (.int i) => some (some i) | _ => none
theorem dp_some {e : Expr} {f : List C → Option D} (h : DE X G k1 e f) (h1 : k1.le .vl = true := by rfl) : DP X G (some e) (pS f) := by
  obtain ⟨t, p, o⟩ := (h.conv h1).ex
  refine ⟨_, po_some p, fun σ H F fp env d Q R hf q => ?_⟩
  unfold pS at hf
  split at hf
  · rename_i i e
    cases hf
    refine o σ H F fp env _ _ R e fun v H' F' E r => ?_
    have e1 := vl_int (G := G) (H := H') (F := F') r
    exact ⟨i, e1, q H' F' E⟩
  · cases hf
def cutD {α : Type} (xs : List α) (lo hi : Option Int) : List α := (xs.drop (HT.sIx xs.length 0 lo)).take (HT.sIx xs.length xs.length hi - HT.sIx xs.length 0 lo)
theorem cut_rep {K : PySem.W.Frag} {F : Hp} {vs : List V} {ds : List D} (h : DFAll K F vs ds) (lo hi : Option Int) : DFAll K F (cutV vs lo hi) (cutD ds lo hi) := by
  unfold cutV cutD
  rw [DFAll_len h]
  exact DFAll_take _ (DFAll_drop _ h)
theorem slr_len {r : V → Option Int → Option Int → Hp → VK → Prop} (h : SlR X r) : SlR X (fun x l u H Q => LenOk X.K H → r x l u H Q) := fun pins s σ H x v vl vu lo hi sl Q I rx hs pl pu q => h pins s σ H x v vl vu lo hi sl Q I rx hs pl pu (q fun a xs hx => by
  rcases hx with hx | hx
  · obtain ⟨_, _, _, z⟩ := I.list hx
    exact z
  · obtain ⟨_, _, _, z⟩ := I.tuple hx
    exact z)
def e3 (g : D → Option Int → Option Int → Option D) (fa : List C → Option D) (fl fu : List C → Option (Option Int)) : List C → Option D := fun env => (fa env).bind fun x => (fl env).bind fun l => (fu env).bind fun u => g x l u
theorem d_slice {r : V → Option Int → Option Int → Hp → VK → Prop} {ka kr : RK} {g : D → Option Int → Option Int → Option D} {lo hi : Option Expr} {fl fu : List C → Option (Option Int)} {p2 : Pos} (hr : SlR X r)
    (hg : ∀ (H F : Hp) (vx : V) (dx d : D) (l u : Option Int) (Q : VK), Same F H → Same G.kp H → LenOk X.K H → RepA X.K G ka H F vx dx → g dx l u = some d → (∀ v H' F', Ext H F H' F' → RepK X.K G kr H H' F' v d → Q v H') → r vx l u H Q)
    (ha : DE X G k1 a fa) (hl : DP X G lo fl) (hu : DP X G hi fu) (h1 : k1.le ka = true := by rfl) (haa : ka.arg = true := by rfl) : DE X G kr (.Subscript a (.Slice lo hi none p2) pos) (e3 g fa fl fu) := by
  obtain ⟨ta, pa, oa⟩ := (ha.conv h1).ex
  obtain ⟨tl, pl, ol⟩ := hl.ex
  obtain ⟨tu, pu, ou⟩ := hu.ex
  refine ⟨_, pe_slice (slr_len hr) pa pl pu, fun σ H F fp env d Q R hf q => ?_⟩
  unfold e3 at hf
  cases z1 : fa env with
  | none => rw [z1] at hf; cases hf
  | some x =>
    cases z2 : fl env with
    | none => rw [z1, z2] at hf; cases hf
    | some l =>
      cases z3 : fu env with
      | none => rw [z1, z2, z3] at hf; cases hf
      | some u =>
        rw [z1, z2, z3] at hf
        refine oa σ H F fp env x _ R z1 fun vx H1 F1 E1 r1 => ?_
        refine ol σ H1 F1 fp env l _ (R.ext E1) z2 fun H2 F2 E2 => ?_
        have R2 := (R.ext E1).ext E2
        refine ou σ H2 F2 fp env u _ R2 z3 fun H3 F3 E3 hlen => ?_
        have R3 := R2.ext E3
        have kp3 := R3.kpSame
        have kp2 := R2.kpSame
        exact hg H3 F3 vx x d l u Q E3.sub kp3 hlen (((repK_A haa r1).ext E2 kp2).ext E3 kp3) hf fun v H' F' E r => q v H' F' (((E1.trans E2).trans E3).trans E) (r.back ((E1.h.trans E2.h).trans E3.h))
def gSlL : D → Option Int → Option Int → Option D | .list xs, l, u => some (.list (cutD xs l u)) | _, _, _ => none
def allInt : List D → Option (List Int)
  | [] => some []
  | .int i :: r => (allInt r).map (i :: ·)
  | _ => none
theorem allInt_eq : ∀ {ds : List D} {ns : List Int}, allInt ds = some ns → ds = ns.map PyData.int
  | [], ns, h => by cases h; rfl
  | d :: ds, ns, h => by
    cases d <;> simp only [allInt] at h <;> try cases h
    rename_i i
    cases z : allInt ds with
    | none => rw [z] at h; cases h
    | some ms => rw [z] at h; cases h; rw [allInt_eq z]; rfl
theorem allInt_map : ∀ ns : List Int, allInt (ns.map PyData.int) = some ns
  | [] => rfl
  | n :: ns => by rw [List.map_cons, allInt, allInt_map ns]; rfl
def gSlB : D → Option Int → Option Int → Option D | .list xs, l, u => (allInt xs).map fun ns => .list ((cutD ns l u).map .int) | _, _, _ => none
theorem d_slB {lo hi : Option Expr} {fl fu : List C → Option (Option Int)} {p2 : Pos} (ha : DE X G k1 a fa) (hl : DP X G lo fl) (hu : DP X G hi fu) (h1 : k1.le .sv = true := by rfl) : DE X G .ow (.Subscript a (.Slice lo hi none p2) pos) (e3 gSlB fa fl fu) :=
  d_slice (ka := .sv) sl_list (fun H F vx dx d l u Q sub kp hlen rx hd q => by
    unfold gSlB at hd
    split at hd
    · rename_i xs
      cases z : allInt xs with
      | none => rw [z] at hd; cases hd
      | some ns =>
        rw [z] at hd; cases hd
        have e := allInt_eq z
        subst e
        have rx' : Dp X.K (stb G F) vx (.list (ns.map .int)) := rx
        cases rx' with
        | lst h1 h2 =>
          have e2 := DpAll_ints_of h2
          subst e2
          refine ⟨_, _, rfl, (stb_sub sub kp).seq h1, fun n nn => ?_⟩
          have e3 : cutV (ns.map V.int) l u = (cutD ns l u).map V.int := by
            unfold cutV cutD
            rw [List.length_map, List.map_take, List.map_drop]
          rw [e3]
          obtain ⟨E, r⟩ := new_ow (X := X) (G := G) sub nn (DFAll_ints (K := X.K) (H := F) (cutD ns l u))
          exact q _ _ _ E r
    · cases hd) ha hl hu h1
def gSlT : D → Option Int → Option Int → Option D | .tuple xs, l, u => some (.tuple (cutD xs l u)) | _, _, _ => none
end
end DL
namespace DL
open PySem PySem.Spec L2

section
variable {X : Cx} {G : GC} {e : Expr} {es : List Expr} {k k' kr : RK} {ks : List RK} {f : List C → Option D} {fs : List C → Option (List D)} {pos p : Pos}
theorem RepKs_len {K : PySem.W.Frag} {H F : Hp} : ∀ {ks : List RK} {vs : List V} {ds : List D}, RepKs K G H F ks vs ds → vs.length = ds.length ∧ ks.length = ds.length
  | [], [], [], _ => ⟨rfl, rfl⟩
  | k :: ks, v :: vs, d :: ds, h => by
    obtain ⟨h1, h2⟩ := RepKs_len h.2
    exact ⟨by rw [List.length_cons, List.length_cons, h1], by rw [List.length_cons, List.length_cons, h2]⟩
  | [], _ :: _, _, h => by cases h
  | [], [], _ :: _, h => by cases h
  | _ :: _, [], _, h => by cases h
  | _ :: _, _ :: _, [], h => by cases h
def aNil : List C → Option (List D) := fun _ => some []
def aCons (f : List C → Option D) (g : List C → Option (List D)) : List C → Option (List D) := fun env => (f env).bind fun d => (g env).bind fun ds => some (d :: ds)
theorem da_nil : DA X G [] [] aNil := ⟨_, pa_nil, fun σ H F fp env ds Q R hf q => by cases hf; exact q [] H F (Ext.refl R.sub) trivial⟩
theorem da_cons (h : DE X G k e f) (k' : RK) (ht : DA X G ks es fs) (hk : k.le k' = true := by rfl) (ha : k'.arg = true := by rfl) (hs : starEach (e :: es) X.env = (false, eval e X.env) :: starEach es X.env := by rfl) : DA X G (k' :: ks) (e :: es) (aCons f fs) := by
  obtain ⟨t, pt, o⟩ := (h.conv hk).ex
  obtain ⟨t2, pt2, o2⟩ := ht.ex
  refine ⟨_, pa_cons pt pt2 hs, fun σ H F fp env ds Q R hf q => ?_⟩
  unfold aCons at hf
  cases z : f env with
  | none => rw [z] at hf; cases hf
  | some d =>
    cases z2 : fs env with
    | none => rw [z, z2] at hf; cases hf
    | some es =>
      rw [z, z2] at hf; cases hf
      refine o σ H F fp env d _ R z fun v H1 F1 E1 r1 => ?_
      refine o2 σ H1 F1 fp env es _ (R.ext E1) z2 fun vs H2 F2 E2 r2 => ?_
      exact q (v :: vs) H2 F2 (E1.trans E2) ⟨(repK_A ha r1).ext E2 ((R.ext E1).ext E2).kpSame, r2⟩
def allFz : List RK → Bool
  | [] => true
  | .fz :: r => allFz r
  | _ => false
theorem RepKs_fz {K : PySem.W.Frag} {H F : Hp} : ∀ {ks : List RK} {vs : List V} {ds : List D}, allFz ks = true → RepKs K G H F ks vs ds → DFAll K F vs ds
  | [], [], [], _, _ => .nil
  | k :: ks, v :: vs, d :: ds, hk, h => by
    cases k with
    | fz => exact .cons h.1 (RepKs_fz (show allFz ks = true from hk) h.2)
    | _ => cases hk
  | [], _ :: _, _, _, h => by cases h
  | [], [], _ :: _, _, h => by cases h
  | _ :: _, [], _, _, h => by cases h
  | _ :: _, _ :: _, [], _, h => by cases h
def eTup (f : List C → Option (List D)) : List C → Option D := fun env => (f env).map .tuple
def eLst (f : List C → Option (List D)) : List C → Option D := fun env => (f env).map .list
theorem line1000 {n : Nat} (h : n ≤ 1000) : n ≤ sizeLine := by rw [sizeLine_eq]; omega
theorem d_tup {x1} (h : DA X G ks es fs) (hk : allFz ks = true := by rfl) (hn : ks.length ≤ 1000 := by decide) : DE X G .fz (.Tuple es x1 pos) (eTup fs) := by
  obtain ⟨t, pt, o⟩ := h.ex
  refine ⟨_, pe_tup pt, fun σ H F fp env d Q R hf q => ?_⟩
  unfold eTup at hf
  cases z : fs env with
  | none => rw [z] at hf; cases hf
  | some ds =>
    rw [z] at hf; cases hf
    refine o σ H F fp env ds _ R z fun vs H1 F1 E1 r => ?_
    obtain ⟨l1, l2⟩ := RepKs_len r
    refine ⟨line1000 (by omega), fun n nn => ?_⟩
    obtain ⟨E, r'⟩ := new_tup E1.sub nn (RepKs_fz hk r)
    exact q _ _ _ (E1.trans E) r'
theorem d_lst (h : DA X G ks es fs) (hk : allFz ks = true := by rfl) (hn : ks.length ≤ 1000 := by decide) : DE X G .ow (.List es pos) (eLst fs) := by
  obtain ⟨t, pt, o⟩ := h.ex
  refine ⟨_, pe_lst pt, fun σ H F fp env d Q R hf q => ?_⟩
  unfold eLst at hf
  cases z : fs env with
  | none => rw [z] at hf; cases hf
  | some ds =>
    rw [z] at hf; cases hf
    refine o σ H F fp env ds _ R z fun vs H1 F1 E1 r => ?_
    obtain ⟨l1, l2⟩ := RepKs_len r
    refine ⟨line1000 (by omega), fun n nn => ?_⟩
    obtain ⟨E, r'⟩ := new_ow (G := G) E1.sub nn (RepKs_fz hk r)
    exact q _ _ _ (E1.trans E) (r'.back E1.h)

theorem callr_len {f : Value} {r : List V → Hp → VK → Prop} (h : CallR X f r) : CallR X f (fun xs H Q => LenOk X.K H → r xs H Q) := fun pins s σ H xs us Q I rx q => h pins s σ H xs us Q I rx (q fun a xs hx => by
  rcases hx with hx | hx
  · obtain ⟨_, _, _, z⟩ := I.list hx
    exact z
  · obtain ⟨_, _, _, z⟩ := I.tuple hx
    exact z)
structure DCall (X : Cx) (G : GC) (f : Value) (ks : List RK) (kr : RK) (g : List D → Option D) : Prop where
  ex : ∃ r, CallR X f r ∧ ∀ (H F : Hp) (vs : List V) (ds : List D) (d : D) (Q : VK), Same F H → Same G.kp H → LenOk X.K H → RepKs X.K G H F ks vs ds → g ds = some d →
    (∀ v H' F', Ext H F H' F' → RepK X.K G kr H H' F' v d → Q v H') → r vs H Q
def e1 (g : List D → Option D) (f : List C → Option (List D)) : List C → Option D := fun env => (f env).bind g
theorem call_ok {r : List V → Hp → VK → Prop} {t : TA} {g : List D → Option D} (o : ∀ (H F : Hp) (vs : List V) (ds : List D) (d : D) (Q : VK), Same F H → Same G.kp H → LenOk X.K H → RepKs X.K G H F ks vs ds → g ds = some d →
    (∀ v H' F', Ext H F H' F' → RepK X.K G kr H H' F' v d → Q v H') → r vs H Q)
    (oa : ∀ (σ : L2.St) (H F : Hp) (fp : Nat → List Addr) (env : List C) (ds : List D) (Q : List V → Hp → Prop), Rel X.K G env σ H F fp → fs env = some ds → (∀ vs H' F', Ext H F H' F' → RepKs X.K G H' F' ks vs ds → Q vs H') → t σ H Q)
    {σ : L2.St} {H F : Hp} {fp : Nat → List Addr} {env : List C} {d : D} {Q : VK} (R : Rel X.K G env σ H F fp) (hf : e1 g fs env = some d) (q : ∀ v H' F', Ext H F H' F' → RepK X.K G kr H H' F' v d → Q v H') :
    tCB (fun xs H Q => LenOk X.K H → r xs H Q) t σ H Q := by
  unfold e1 at hf
  cases z : fs env with
  | none => rw [z] at hf; cases hf
  | some ds =>
    rw [z] at hf
    refine oa σ H F fp env ds _ R z fun vs H1 F1 E1 r1 hl => ?_
    exact o H1 F1 vs ds d Q E1.sub (R.ext E1).kpSame hl r1 hf fun v H' F' E r => q v H' F' (E1.trans E) (r.back E1.h)
variable {x : Str} {id T : String} {g : List D → Option D}
theorem d_callB (o : DCall X G (.builtin id) ks kr g) (hg : Gl X x) (hm : X.mg x = none) (hv : bootBuiltins x = some (.builtin id)) (ha : DA X G ks (e :: es) fs) (hn : x ≠ "__name__" := by decide) (hdb : (x == ("__debug__" : Str)) = false := by decide)
    (he : starEach (e :: es) X.env = (false, eval e X.env) :: starEach es X.env := by rfl) (hpl : (backTo pos (starEach es X.env)).any (·.1) = false := by rfl) : DE X G kr (.Call (.Name x p) (e :: es) [] pos) (e1 g fs) := by
  obtain ⟨r, hr, o⟩ := o.ex
  obtain ⟨t, pt, oa⟩ := ha.ex
  exact ⟨_, pe_callB (callr_len hr) hg hm hv pt hn hdb he hpl, fun σ H F fp env d Q R hf q => call_ok o oa R hf q⟩
theorem d_callT (o : DCall X G (.type T) ks kr g) (hg : Gl X x) (hm : X.mg x = none) (hv : bootBuiltins x = some (.type T)) (ha : DA X G ks (e :: es) fs) (hn : x ≠ "__name__" := by decide) (hdb : (x == ("__debug__" : Str)) = false := by decide)
    (he : starEach (e :: es) X.env = (false, eval e X.env) :: starEach es X.env := by rfl) (hpl : (backTo pos (starEach es X.env)).any (·.1) = false := by rfl) : DE X G kr (.Call (.Name x p) (e :: es) [] pos) (e1 g fs) := by
  obtain ⟨r, hr, o⟩ := o.ex
  obtain ⟨t, pt, oa⟩ := ha.ex
  exact ⟨_, pe_callTy (callr_len hr) hg hm hv pt hn hdb he hpl, fun σ H F fp env d Q R hf q => call_ok o oa R hf q⟩

theorem rep1 {K : PySem.W.Frag} {H F : Hp} {k : RK} {vs : List V} {ds : List D} (h : RepKs K G H F [k] vs ds) : ∃ v d, vs = [v] ∧ ds = [d] ∧ RepA K G k H F v d := by
  obtain ⟨l1, l2⟩ := RepKs_len h
  have l3 : ds.length = 1 := l2.symm
  obtain ⟨d, rfl⟩ := List.length_eq_one_iff.mp l3
  obtain ⟨v, rfl⟩ := List.length_eq_one_iff.mp (l1.trans l3)
  exact ⟨v, d, rfl, rfl, h.1⟩
theorem len2 {α : Type} {l : List α} (h : l.length = 2) : ∃ a b, l = [a, b] := by
  cases l with
  | nil => cases h
  | cons a l =>
    cases l with
    | nil => cases h
    | cons b l =>
      cases l with
      | nil => exact ⟨a, b, rfl⟩
      | cons c l => simp at h
theorem rep2 {K : PySem.W.Frag} {H F : Hp} {k k2 : RK} {vs : List V} {ds : List D} (h : RepKs K G H F [k, k2] vs ds) : ∃ v d v2 d2, vs = [v, v2] ∧ ds = [d, d2] ∧ RepA K G k H F v d ∧ RepA K G k2 H F v2 d2 := by
  obtain ⟨l1, l2⟩ := RepKs_len h
  have l3 : ds.length = 2 := l2.symm
  obtain ⟨d, d2, rfl⟩ := len2 l3
  obtain ⟨v, v2, rfl⟩ := len2 (l1.trans l3)
  exact ⟨v, d, v2, d2, rfl, rfl, h.1, h.2.1⟩
def gLen : List D → Option D
  | [.list xs] => some (.int xs.length)
  | [.tuple xs] => some (.int xs.length)
  | [.str z] => if z.length ≤ sizeLine then some (.int z.length) else none
  | _ => none
theorem o_len : DCall X G (.builtin "len") [.vw] .fz gLen := ⟨_, call_len_seq.or call_len_str, fun H F vs ds d Q sub kp hl rs hd q => by
  obtain ⟨v, d1, rfl, rfl, r⟩ := rep1 rs
  have r' : Dp X.K H v d1 := r
  unfold gLen at hd
  split at hd
  · rename_i e; cases e; cases hd
    cases r' with
    | lst h1 h2 =>
      left
      refine ⟨_, _, rfl, .inl h1, ?_⟩
      rw [DpAll_len h2]
      exact q _ H F (Ext.refl sub) (.int _)
  · rename_i e; cases e; cases hd
    cases r' with
    | tup h1 h2 =>
      left
      refine ⟨_, _, rfl, .inr h1, ?_⟩
      rw [DpAll_len h2]
      exact q _ H F (Ext.refl sub) (.int _)
  · rename_i e; cases e
    split at hd <;> cases hd
    cases r'
    right
    exact ⟨_, rfl, by assumption, q _ H F (Ext.refl sub) (.int _)⟩
  · cases hd⟩
def gAbs : List D → Option D | [.int i] => some (.int (if i < 0 then -i else i)) | _ => none
theorem o_abs : DCall X G (.builtin "abs") [.vw] .fz gAbs := ⟨_, call_abs, fun H F vs ds d Q sub kp hl rs hd q => by
  obtain ⟨v, d1, rfl, rfl, r⟩ := rep1 rs
  have r' : Dp X.K H v d1 := r
  unfold gAbs at hd
  split at hd
  · rename_i e; cases e; cases hd; cases r'
    exact ⟨_, rfl, q _ H F (Ext.refl sub) (.int _)⟩
  · cases hd⟩
def gMax2 : List D → Option D | [.int i, .int j] => some (.int (if j > i then j else i)) | _ => none
def gMin2 : List D → Option D | [.int i, .int j] => some (.int (if j < i then j else i)) | _ => none
def gSum : List D → Option D | [.list xs] => (allInt xs).map fun ns => .int ns.sum | _ => none
theorem o_sum (hc : X.calm = true) : DCall X G (.builtin "sum") [.vw] .fz gSum := ⟨_, cr_sum hc, fun H F vs ds d Q sub kp hl rs hd q => by
  obtain ⟨v, d1, rfl, rfl, r⟩ := rep1 rs
  have r' : Dp X.K H v d1 := r
  unfold gSum at hd
  split at hd
  · rename_i xs e; cases e
    cases z : allInt xs with
    | none => rw [z] at hd; cases hd
    | some ns =>
      rw [z] at hd; cases hd
      have e := allInt_eq z
      subst e
      cases r' with
      | lst h1 h2 =>
        have e2 := DpAll_ints_of h2
        subst e2
        exact ⟨_, ns, rfl, h1, q _ H F (Ext.refl sub) (.int _)⟩
  · cases hd⟩
def gInt : List D → Option D
  | [.int i] => some (.int i)
  | [.bool b] => some (.int (if b then 1 else 0))
  | [.str a] => if a.length ≤ 640 then (PySem.intText? a).map .int else none
  | _ => none
theorem o_int : DCall X G (.type "int") [.vw] .fz gInt := ⟨_, call_int1.or call_int_str, fun H F vs ds d Q sub kp hl rs hd q => by
  obtain ⟨v, d1, rfl, rfl, r⟩ := rep1 rs
  have r' : Dp X.K H v d1 := r
  unfold gInt at hd
  split at hd
  · rename_i e; cases e; cases hd; cases r'
    exact .inl (.inl ⟨_, rfl, q _ H F (Ext.refl sub) (.int _)⟩)
  · rename_i e; cases e; cases hd; cases r'
    exact .inl (.inr ⟨_, rfl, q _ H F (Ext.refl sub) (.int _)⟩)
  · rename_i a e; cases e; cases r'
    split at hd
    · cases z : PySem.intText? a with
      | none => rw [z] at hd; cases hd
      | some n =>
        rw [z] at hd; cases hd
        exact .inr ⟨a, n, rfl, z, by assumption, q _ H F (Ext.refl sub) (.int _)⟩
    · cases hd
  · cases hd⟩
def gStr : List D → Option D | [.int i] => if i.natAbs.log2 < 1920 then some (.str (toString i)) else none | _ => none
theorem o_str : DCall X G (.type "str") [.vw] .fz gStr := ⟨_, call_str_int, fun H F vs ds d Q sub kp hl rs hd q => by
  obtain ⟨v, d1, rfl, rfl, r⟩ := rep1 rs
  have r' : Dp X.K H v d1 := r
  unfold gStr at hd
  split at hd
  · rename_i e; cases e; cases r'
    split at hd <;> cases hd
    exact ⟨_, rfl, by assumption, q _ H F (Ext.refl sub) (.str _)⟩
  · cases hd⟩
def gList : List D → Option D | [.list xs] => some (.list xs) | [.tuple xs] => some (.list xs) | _ => none
def gTuple : List D → Option D | [.list xs] => some (.tuple xs) | [.tuple xs] => some (.tuple xs) | _ => none
theorem o_tuple : DCall X G (.type "tuple") [.vl] .fz gTuple := ⟨_, call_tuple_of, fun H F vs ds d Q sub kp hl rs hd q => by
  obtain ⟨v, d1, rfl, rfl, r⟩ := rep1 rs
  unfold gTuple at hd
  split at hd
  · rename_i e; cases e; cases hd
    obtain ⟨a, vs, rfl, h1, h2⟩ := vl_list sub r
    refine ⟨a, vs, rfl, .inl ⟨.inl (.inl h1), fun n nn => ?_⟩⟩
    obtain ⟨E, r'⟩ := new_tup sub nn h2
    exact q _ _ _ E r'
  · rename_i xs e; cases e; cases hd
    have fx : ∃ a vs, v = .ref a ∧ SqT X.K F a vs ∧ DFAll X.K F vs xs := by
      rcases r with rx | ⟨_, _, _, _, z, _⟩
      · cases rx with | tup h1 h2 => exact ⟨_, _, rfl, h1, h2⟩
      · cases z
    obtain ⟨a, vs, rfl, h1, h2⟩ := fx
    exact ⟨a, vs, rfl, .inr ⟨Same.seqT sub h1, q _ H F (Ext.refl sub) (.tup h1 h2)⟩⟩
  · cases hd⟩

def tyD : D → String
  | .none => "NoneType" | .bool _ => "bool" | .int _ => "int" | .str _ => "str" | .list _ => "list" | .tuple _ => "tuple" | .dict _ => "dict"
theorem dp_ty {K : PySem.W.Frag} {H : Hp} {v : V} {d : D} (h : Dp K H v d) : TyX K H v (.type (tyD d)) := by
  cases h with
  | non => exact .base .non
  | bl b => exact .base (.bl b)
  | int i => exact .base (.int i)
  | str x => exact .base (.str x)
  | lst h _ =>
    rcases h with (h | ⟨o, h⟩) | ⟨o, its, n, h1, h2, _⟩
    · exact .base (.lst h)
    · exact .base (.frz h)
    · exact .kList h1 h2
  | tup h _ =>
    rcases h with (h | ⟨o, h⟩) | ⟨o, its, n, h1, h2, _⟩
    · exact .base (.tup h)
    · exact .fTuple h
    · exact .kTuple h1 h2
def eIsi (T : String) (f : List C → Option D) : List C → Option D := fun env => (f env).bind fun d => (kitB (tyD d) T).map .bool
theorem d_isi {e : Expr} {y : Str} {p2 : Pos} {T : String} (h : DE X G k e f) (hg : Gl X "isinstance") (hm : X.mg "isinstance" = none) (hg2 : Gl X y) (hm2 : X.mg y = none) (hv2 : bootBuiltins y = some (.type T)) (hc : ClsV (.ty T) (.type T))
    (hk : k.le .vw = true := by rfl) (hv : bootBuiltins "isinstance" = some (.builtin "isinstance") := by decide +kernel) (hy : y ≠ "__name__" := by decide) (hdb : (y == ("__debug__" : Str)) = false := by decide)
    (he : starEach [e, .Name y p2] X.env = (false, eval e X.env) :: starEach [.Name y p2] X.env := by rfl) (he2 : starEach [.Name y p2] X.env = (false, eval (.Name y p2) X.env) :: starEach [] X.env := by rfl)
    (hpl : (backTo pos (starEach [.Name y p2] X.env)).any (·.1) = false := by rfl) : DE X G .fz (.Call (.Name "isinstance" p) [e, .Name y p2] [] pos) (eIsi T f) := by
  obtain ⟨t, pt, o⟩ := (h.conv hk).ex
  refine ⟨_, pe_callB call_isi hg hm hv (pa_cons pt (pa_cons (pe_bltn hg2 hm2 hv2 (v := .ty T) rfl hy hdb) pa_nil he2) he) (by decide) (by decide) he hpl, fun σ H F fp env d Q R hf q => ?_⟩
  unfold eIsi at hf
  cases z : f env with
  | none => rw [z] at hf; cases hf
  | some d1 =>
    rw [z] at hf
    cases z2 : kitB (tyD d1) T with
    | none => rw [show (some d1 : Option D).bind (fun d => (kitB (tyD d) T).map PyData.bool) = (kitB (tyD d1) T).map PyData.bool from rfl, z2] at hf; cases hf
    | some b =>
      rw [show (some d1 : Option D).bind (fun d => (kitB (tyD d) T).map PyData.bool) = (kitB (tyD d1) T).map PyData.bool from rfl, z2] at hf; cases hf
      refine o σ H F fp env d1 _ R z fun v H1 F1 E1 r => ?_
      exact ⟨_, _, _, _, _, rfl, hc, dp_ty r, kit_ty z2, q _ H1 F1 E1 (.bl _)⟩
end

def spP (K : PySem.W.Frag) (ks : List RK) (kr : RK) (g : List D → Option D) : Sp := fun vs H Q _ => ∃ (F0 : Hp) (ds : List D) (d : D), Same F0 H ∧ g ds = some d ∧ RepKs K ⟨H, F0, [], none⟩ H F0 ks vs ds ∧
  ∀ v H' F', Ext H F0 H' F' → RepK K ⟨H, F0, [], none⟩ kr H H' F' v d → Q v H'
structure Callee (P : Program) (w : World) (K : PySem.W.Frag) (mg : Str → Option Value) (base : Heap) (k : Nat) (x : Str) (ks : List RK) (kr : RK) (g : List D → Option D) : Prop where
  ex : ∃ (f : Addr) (fd : FuncData) (ps : List Str), FnOk P w K mg base CX0 k f fd ps (spP K ks kr g) ∧ mg x = some (.ref f) ∧ PySem.W.keepIn K (.ref f) = true ∧ Binds K fd ps []
def okPs : List RK → Bool
  | [] => true
  | .fz :: r => okPs r
  | .vw :: r => okPs r
  | _ => false
def okR : RK → Bool | .fz => true | .ow => true | _ => false
section
variable {X : Cx} {G G' : GC} {es : List Expr} {kr : RK} {ks : List RK} {fs : List C → Option (List D)} {pos p : Pos} {x : Str} {g : List D → Option D} {n : Nat}
theorem RepKs_any {K : PySem.W.Frag} {H F : Hp} : ∀ {ks : List RK} {vs : List V} {ds : List D}, okPs ks = true → RepKs K G H F ks vs ds → RepKs K G' H F ks vs ds
  | [], [], [], _, _ => trivial
  | k :: ks, v :: vs, d :: ds, hk, h => by
    cases k with
    | fz => exact ⟨h.1, RepKs_any hk h.2⟩
    | vw => exact ⟨h.1, RepKs_any hk h.2⟩
    | _ => cases hk
  | [], _ :: _, _, _, h => by cases h
  | [], [], _ :: _, _, h => by cases h
  | _ :: _, [], _, _, h => by cases h
  | _ :: _, _ :: _, [], _, h => by cases h
theorem RepK_any {K : PySem.W.Frag} {H H' F' : Hp} {v : V} {d : D} (hk : okR kr = true) (h : RepK K G kr H H' F' v d) : RepK K G' kr H H' F' v d := by
  cases kr with
  | fz => exact h
  | ow => exact h
  | _ => cases hk
theorem d_call {e : Expr} (c : Callee X.prog X.w X.K X.mg X.base n x ks kr g) (hr : Room n X.A) (hg : Gl X x) (ha : DA X G ks (e :: es) fs) (hp : okPs ks = true := by rfl) (hk : okR kr = true := by rfl) (hdb : (x == ("__debug__" : Str)) = false := by decide)
    (he : starEach (e :: es) X.env = (false, eval e X.env) :: starEach es X.env := by rfl) (hpl : (backTo pos (starEach es X.env)).any (·.1) = false := by rfl) : DE X G kr (.Call (.Name x p) (e :: es) [] pos) (e1 g fs) := by
  obtain ⟨f, fd, ps, F, hm, kp, b⟩ := c.ex
  obtain ⟨t, pt, oa⟩ := ha.ex
  refine ⟨_, pe_call F hr hg hm kp b .nil pass0 pt hdb he hpl, fun σ H F fp env d Q R hf q => ?_⟩
  unfold e1 at hf
  cases z : fs env with
  | none => rw [z] at hf; cases hf
  | some ds =>
    rw [z] at hf
    refine oa σ H F fp env ds _ R z fun vs H1 F1 E1 r1 => ?_
    rw [List.append_nil]
    exact ⟨F1, ds, d, E1.sub, hf, RepKs_any hp r1, fun v H' F' E r => q v H' F' (E1.trans E) ((RepK_any hk r).back E1.h)⟩
end
end DL
namespace DL
open PySem PySem.Spec L2

structure XD where
  c : Str
  fs : List Str
  ds : List D
def XT (x : XD) : T := match x.fs with | [] => .d .none | f :: r => .n (.e (f :: r)) (x.ds.map T.d)
def vX : Option Addr → V
  | none => .non
  | some a => .ref a
def XC (K : PySem.W.Frag) (c : Str) (cls : Value) : Prop := ∃ C, PySem.W.nsIn K mainGlobals c = some (some (.ref C)) ∧ cls = .ref C
inductive Out where
  | nx (env : List C) | rt (d : D) | bk (env : List C) | ct (env : List C) | err | rx (env : List C) (t : T) | xc (env : List C) (x : XD)
structure Fin (G : GC) (H' F' : Hp) : Prop where
  h : ∀ a o, G.H0 a = some o → a ∉ G.W → H' a = some o
  f : Same G.F0 F'
  sub : Same F' H'
  new : ∀ a o, F' a = some o → G.F0 a = some o ∨ G.H0 a = none
structure New (K : PySem.W.Frag) (G : GC) (H F : Hp) (fp : Nat → List Addr) (v : V) (t : T) (l : List Addr) : Prop where
  rep : OR K G.w H F v t l
  own : ∀ a, a ∈ l → F a = none ∧ H a ≠ none ∧ G.H0 a = none
  dj : ∀ a, a ∈ l → ∀ j, a ∉ fp j
def Post (X : Cx) (G : GC) (kr : RK) (F : Hp) (E : Ends) : Out → Prop
  | .nx env' => ∀ σ' H' F' fp', Rel X.K G env' σ' H' F' fp' → Same F F' → E.nx σ' H'
  | .rt d => ∀ v H' F', Fin G H' F' → RepK X.K G kr G.H0 H' F' v d → E.rt v H'
  | .bk env' => ∀ σ' H' F' fp', Rel X.K G env' σ' H' F' fp' → Same F F' → E.bk σ' H'
  | .ct env' => ∀ σ' H' F' fp', Rel X.K G env' σ' H' F' fp' → Same F F' → E.ct σ' H'
  | .err => False
  | .rx env' t => ∀ v σ' H' F' fp' l, Rel X.K G env' σ' H' F' fp' → New X.K G H' F' fp' v t l → E.rt v H'
  | .xc env' x => ∀ cls d σ' H' F' fp' l, Rel X.K G env' σ' H' F' fp' → Same F F' → XC X.K x.c cls → New X.K G H' F' fp' (vX d) (XT x) l → ∃ W : WX, Takes X W ∧ W cls d σ' H'
structure DS (X : Cx) (G : GC) (kr : RK) (st : Stmt) (f : List C → Out) : Prop where
  ex : ∃ t, PS X st t ∧ ∀ (σ : L2.St) (H F : Hp) (fp : Nat → List Addr) (env : List C) (E : Ends), Rel X.K G env σ H F fp → Post X G kr F E (f env) → t E σ H
structure DSs (X : Cx) (G : GC) (kr : RK) (st : List Stmt) (f : List C → Out) : Prop where
  ex : ∃ t, PSs X st t ∧ ∀ (σ : L2.St) (H F : Hp) (fp : Nat → List Addr) (env : List C) (E : Ends), Rel X.K G env σ H F fp → Post X G kr F E (f env) → t E σ H

section
variable {K : PySem.W.Frag} {G : GC} {env : List C} {σ : L2.St} {H F H' F' : Hp} {fp : Nat → List Addr} {kr : RK}
theorem Post.mono {X : Cx} {F F1 : Hp} {E : Ends} (s : Same F F1) : ∀ {o : Out}, Post X G kr F E o → Post X G kr F1 E o
  | .nx _, h => fun σ' H' F' fp' R z => h σ' H' F' fp' R (s.trans z)
  | .rt _, h => h
  | .bk _, h => fun σ' H' F' fp' R z => h σ' H' F' fp' R (s.trans z)
  | .ct _, h => fun σ' H' F' fp' R z => h σ' H' F' fp' R (s.trans z)
  | .err, h => h
  | .rx _ _, h => h
  | .xc _ _, h => fun cls d σ' H' F' fp' l R z => h cls d σ' H' F' fp' l R (s.trans z)
theorem Rel.fin (R : Rel K G env σ H F fp) : Fin G H F := ⟨R.keep, R.old, R.sub, R.new⟩
theorem Rel.h0 (R : Rel K G env σ H F fp) {a : Addr} (e : H a = none) : G.H0 a = none := by
  cases q : G.H0 a with
  | none => rfl
  | some o => exact absurd e (R.alive a (by rw [q]; intro z; cases z))
def fset (fp : Nat → List Addr) (i : Nat) (l : List Addr) : Nat → List Addr := fun j => if j = i then l else fp j
theorem fset_at {fp : Nat → List Addr} {i : Nat} {l : List Addr} : fset fp i l i = l := if_pos rfl
theorem fset_ne {fp : Nat → List Addr} {i j : Nat} {l : List Addr} (h : j ≠ i) : fset fp i l j = fp j := if_neg h
theorem join_set_at {σ : L2.St} {i : Nat} {v : V} (h : i < σ.length) : ((σ.set i (some v))[i]?).join = some v := by
  rw [List.getElem?_set_self h]; rfl
theorem Rel.put (R : Rel K G env σ H F fp) {i : Nat} {v : V} {c : C} {l : List Addr} (hs : SlotRep K G H F (some v) c l) (ho : ∀ a, a ∈ l → F a = none ∧ H a ≠ none ∧ G.H0 a = none) (hd : ∀ a, a ∈ l → ∀ j, j ≠ i → a ∉ fp j) :
    Rel K G (env.set i c) (σ.set i (some v)) H F (fset fp i l) where
  len := by rw [List.length_set, List.length_set, R.len]
  slot := fun j c' e => by
    by_cases hj : j = i
    · subst hj
      rw [fset_at]
      by_cases hl : j < env.length
      · rw [List.getElem?_set_self hl] at e; cases e
        rw [join_set_at (by rw [← R.len]; exact hl)]
        exact hs
      · rw [List.getElem?_eq_none (by rw [List.length_set]; omega)] at e; cases e
    · rw [List.getElem?_set_ne (Ne.symm hj)] at e
      rw [List.getElem?_set_ne (Ne.symm hj), fset_ne hj]
      exact R.slot j c' e
  dj := fun j k a h1 h2 => by
    by_cases hj : j = i
    · by_cases hk : k = i
      · exact hj.trans hk.symm
      · subst hj
        rw [fset_at] at h1; rw [fset_ne hk] at h2
        exact absurd h2 (hd a h1 k hk)
    · by_cases hk : k = i
      · subst hk
        rw [fset_at] at h2; rw [fset_ne hj] at h1
        exact absurd h1 (hd a h2 j hj)
      · rw [fset_ne hj] at h1; rw [fset_ne hk] at h2
        exact R.dj j k a h1 h2
  own := fun j a h1 => by
    by_cases hj : j = i
    · subst hj; rw [fset_at] at h1
      obtain ⟨g1, g2, g3⟩ := ho a h1
      exact ⟨g1, g2, .inl g3⟩
    · rw [fset_ne hj] at h1
      rw [List.getElem?_set_ne (Ne.symm hj)]
      exact R.own j a h1
  sub := R.sub
  new := R.new
  old := R.old
  keep := R.keep
  alive := R.alive
theorem Rel.drop (R : Rel K G env σ H F fp) (i : Nat) : Rel K G (env.set i .und) σ H F (fset fp i []) where
  len := by rw [List.length_set]; exact R.len
  slot := fun j c' e => by
    by_cases hj : j = i
    · subst hj
      rw [fset_at]
      by_cases hl : j < env.length
      · rw [List.getElem?_set_self hl] at e; cases e; rfl
      · rw [List.getElem?_eq_none (by rw [List.length_set]; omega)] at e; cases e
    · rw [List.getElem?_set_ne (Ne.symm hj)] at e
      rw [fset_ne hj]
      exact R.slot j c' e
  dj := fun j k a h1 h2 => by
    by_cases hj : j = i
    · subst hj; rw [fset_at] at h1; cases h1
    · by_cases hk : k = i
      · subst hk; rw [fset_at] at h2; cases h2
      · rw [fset_ne hj] at h1; rw [fset_ne hk] at h2
        exact R.dj j k a h1 h2
  own := fun j a h1 => by
    by_cases hj : j = i
    · subst hj; rw [fset_at] at h1; cases h1
    · rw [fset_ne hj] at h1
      rw [List.getElem?_set_ne (Ne.symm hj)]
      exact R.own j a h1
  sub := R.sub
  new := R.new
  old := R.old
  keep := R.keep
  alive := R.alive
theorem Rel.h00 (R : Rel K G env σ H F fp) {i : Nat} {c : C} (e : env[i]? = some c) (hc : c.mu = false) {a : Addr} (ha : a ∈ fp i) : G.H0 a = none := by
  rcases (R.own i a ha).2.2 with h | ⟨_, c', e', h⟩
  · exact h
  · rw [e] at e'; cases e'; rw [hc] at h; cases h
theorem Rel.write (R : Rel K G env σ H F fp) {i : Nat} {a : Addr} {o : HO} {c0 c : C} (hi : fp i = [a]) (e0 : env[i]? = some c0) (hs : SlotRep K G (upd H a o) F (σ[i]?.join) c [a]) (hc0 : c0.mu = false := by rfl) : Rel K G (env.set i c) σ (upd H a o) F fp := by
  obtain ⟨h1, h2, _⟩ := R.own i a (by rw [hi]; exact List.mem_singleton.mpr rfl)
  have h3 := R.h00 e0 hc0 (a := a) (by rw [hi]; exact List.mem_singleton.mpr rfl)
  have ne : ∀ b u, F b = some u → b ≠ a := fun b u e z => by rw [z, h1] at e; cases e
  exact {
    len := by rw [List.length_set]; exact R.len
    slot := fun j c' e => by
      by_cases hj : j = i
      · subst hj
        by_cases hl : j < env.length
        · rw [List.getElem?_set_self hl] at e; cases e; rw [hi]; exact hs
        · rw [List.getElem?_eq_none (by rw [List.length_set]; omega)] at e; cases e
      · rw [List.getElem?_set_ne (Ne.symm hj)] at e
        have q := R.slot j c' e
        have nm : a ∉ fp j := fun z => hj (R.dj j i a z (by rw [hi]; exact List.mem_singleton.mpr rfl))
        have na : ∀ b, fp j = [b] → b ≠ a := fun b z y => nm (by rw [z, y]; exact List.mem_singleton.mpr rfl)
        cases c' with
        | und => exact q
        | val d => exact q
        | brw d => exact q
        | lst ds => obtain ⟨b, vs, q1, q2, q3, q4⟩ := q; exact ⟨b, vs, q1, q2, by rw [upd_ne (na b q1)]; exact q3, q4⟩
        | dK ds => obtain ⟨b, vs, q1, q2, q3, q4⟩ := q; exact ⟨b, vs, q1, q2, by rw [upd_ne (na b q1)]; exact q3, q4⟩
        | dT ds => obtain ⟨b, vs, q1, q2, q3, q4⟩ := q; exact ⟨b, vs, q1, q2, by rw [upd_ne (na b q1)]; exact q3, q4⟩
        | dN ds => obtain ⟨b, w, xs, q1, q2, q5, q3, q4⟩ := q; exact ⟨b, w, xs, q1, q2, q5, by rw [upd_ne (na b q1)]; exact q3, q4⟩
        | ro b t => exact q
        | pin _ => exact q
        | al _ _ => exact q
        | own m t => obtain ⟨v, q1, q2, q3⟩ := q; exact ⟨v, q1, OR_mono (Same.refl _) _ _ _ (fun b o hb e => by rw [upd_ne (fun z => nm (by rw [← z]; exact hb))]; exact e) q2, q3⟩
    dj := R.dj
    own := fun j b hb => by
      obtain ⟨g1, g2, g3⟩ := R.own j b hb
      refine ⟨g1, ?_, ?_⟩
      · by_cases hb' : b = a
        · rw [hb', upd_same]; intro z; cases z
        · rw [upd_ne hb']; exact g2
      · by_cases hj : j = i
        · subst hj; exact .inl (R.h00 e0 hc0 hb)
        · rw [List.getElem?_set_ne (Ne.symm hj)]; exact g3
    sub := fun b u e => by rw [upd_ne (ne b u e)]; exact R.sub b u e
    new := R.new
    old := R.old
    keep := fun b u e hw => by
      have nb : b ≠ a := fun z => by rw [z, h3] at e; cases e
      rw [upd_ne nb]; exact R.keep b u e hw
    alive := fun b e => by
      by_cases hb' : b = a
      · rw [hb', upd_same]; intro z; cases z
      · rw [upd_ne hb']; exact R.alive b e }
theorem Rel.freeze (R : Rel K G env σ H F fp) {i : Nat} {ds : List D} (e : env[i]? = some (.lst ds)) : ∃ F', Rel K G (env.set i (.val (.list ds))) σ H F' (fset fp i []) ∧ Same F F' ∧ ∃ a, (σ[i]?).join = some (.ref a) ∧ DF K F' (.ref a) (.list ds) := by
  obtain ⟨a, vs, q1, q2, q3, q4⟩ := R.slot i _ e
  obtain ⟨h1, h2, h3⟩ := R.own i a (by rw [q1]; exact List.mem_singleton.mpr rfl)
  have sm : Same F (upd F a (.lst vs)) := fun b x z => by rw [upd_ne (ne_of_none z h1)]; exact z
  have z : DF K (upd F a (.lst vs)) (.ref a) (.list ds) := .lst upd_same (DFAll_mono sm _ _ q4)
  have h0 : G.H0 a = none := R.h00 e rfl (by rw [q1]; exact List.mem_singleton.mpr rfl)
  refine ⟨upd F a (.lst vs), ?_, sm, a, q2, z⟩
  exact {
    len := by rw [List.length_set]; exact R.len
    slot := fun j c' ej => by
      by_cases hj : j = i
      · subst hj
        rw [fset_at]
        have hl := (List.getElem?_eq_some_iff.mp e).1
        rw [List.getElem?_set_self hl] at ej; cases ej
        exact ⟨rfl, _, q2, z⟩
      · rw [List.getElem?_set_ne (Ne.symm hj)] at ej
        rw [fset_ne hj]
        have q := R.slot j c' ej
        cases c' with
        | und => exact q
        | val d => obtain ⟨y1, v, y2, y3⟩ := q; exact ⟨y1, v, y2, DF_mono sm _ _ y3⟩
        | brw d => exact q
        | lst ds => obtain ⟨b, vs, y1, y2, y3, y4⟩ := q; exact ⟨b, vs, y1, y2, y3, DFAll_mono sm _ _ y4⟩
        | dK ds => obtain ⟨b, vs, y1, y2, y3, y4⟩ := q; exact ⟨b, vs, y1, y2, y3, y4.mono sm⟩
        | dT ds => obtain ⟨b, vs, y1, y2, y3, y4⟩ := q; exact ⟨b, vs, y1, y2, y3, y4.mono sm⟩
        | dN ds => obtain ⟨b, w, xs, y1, y2, y5, y3, y4⟩ := q; exact ⟨b, w, xs, y1, y2, y5, y3, y4.mono sm⟩
        | pin _ => exact q
        | al j i => obtain ⟨q0, a, l, vs, v, q1, q2, q3⟩ := q; exact ⟨q0, a, l, vs, v, q1, sm _ _ q2, q3⟩
        | ro b t => obtain ⟨y0, v, l, y1, y2, y3⟩ := q; exact ⟨y0, v, l, y1, OR_mono sm _ _ _ (fun _ _ _ z => z) y2, fun hb a vs ha hk => sm _ _ (y3 hb a vs ha hk)⟩
        | own m t => obtain ⟨v, y1, y2, y3⟩ := q; exact ⟨v, y1, OR_mono sm _ _ _ (fun _ _ _ z => z) y2, y3⟩
    dj := fun j k b h1 h2 => by
      by_cases hj : j = i
      · subst hj; rw [fset_at] at h1; cases h1
      · by_cases hk : k = i
        · subst hk; rw [fset_at] at h2; cases h2
        · rw [fset_ne hj] at h1; rw [fset_ne hk] at h2
          exact R.dj j k b h1 h2
    own := fun j b hb => by
      by_cases hj : j = i
      · subst hj; rw [fset_at] at hb; cases hb
      · rw [fset_ne hj] at hb
        obtain ⟨g1, g2, g3⟩ := R.own j b hb
        have nb : b ≠ a := fun z => hj (R.dj j i b hb (by rw [q1, z]; exact List.mem_singleton.mpr rfl))
        exact ⟨by rw [upd_ne nb]; exact g1, g2, by rw [List.getElem?_set_ne (Ne.symm hj)]; exact g3⟩
    sub := fun b u eb => by
      by_cases hb : b = a
      · rw [hb] at eb ⊢; rw [upd_same] at eb; rw [← eb]; exact q3
      · rw [upd_ne hb] at eb; exact R.sub b u eb
    new := fun b u eb => by
      by_cases hb : b = a
      · rw [hb]; exact .inr h0
      · rw [upd_ne hb] at eb; exact R.new b u eb
    old := R.old.trans sm
    keep := R.keep
    alive := R.alive }
end

section
variable {X : Cx} {G : GC} {kr k k1 : RK} {st : Stmt} {rest sts sts2 : List Stmt} {e a : Expr} {f g : List C → Out} {fe fa : List C → Option D} {ft : List C → Option Bool} {pos pos' : Pos}
def sNil : List C → Out := fun env => .nx env
def sSeq (f g : List C → Out) : List C → Out := fun env => match f env with | .nx e => g e | o => o
theorem dss_nil : DSs X G kr [] sNil := ⟨_, pss_nil, fun σ H F fp env E R q => q σ H F fp R (Same.refl _)⟩
theorem dss_cons (h : DS X G kr st f) (h2 : DSs X G kr rest g) : DSs X G kr (st :: rest) (sSeq f g) := by
  obtain ⟨t, p, o⟩ := h.ex
  obtain ⟨t2, p2, o2⟩ := h2.ex
  refine ⟨_, pss_cons p p2, fun σ H F fp env E R q => o σ H F fp env _ R ?_⟩
  unfold sSeq at q
  cases z : f env with
  | nx e' =>
    rw [z] at q
    intro σ' H' F' fp' R' s
    exact o2 σ' H' F' fp' e' E R' (Post.mono s q)
  | rt d => rw [z] at q; exact q
  | bk e' => rw [z] at q; exact q
  | ct e' => rw [z] at q; exact q
  | err => rw [z] at q; exact q
  | rx _ _ => rw [z] at q; exact q
  | xc _ _ => rw [z] at q; exact q
theorem dss_one (h : DS X G kr st f) : DSs X G kr [st] f := let ⟨t, p, o⟩ := h.ex; ⟨t, pss_one p, o⟩
def sFz (i : Nat) (g : List C → Out) : List C → Out := fun env => match env[i]? with | some (.lst ds) => g (env.set i (.val (.list ds))) | some (.val _) => g env | _ => .err
theorem dss_fz (i : Nat) (h : DSs X G kr sts g) : DSs X G kr sts (sFz i g) := by
  obtain ⟨t, p, o⟩ := h.ex
  refine ⟨t, p, fun σ H F fp env E R q => ?_⟩
  unfold sFz at q
  split at q
  · rename_i ds e
    obtain ⟨F', R', s, _⟩ := R.freeze e
    exact o σ H F' _ _ E R' (Post.mono s q)
  · exact o σ H F fp env E R q
  · exact q.elim
def sBrk : List C → Out := fun env => .bk env
def sCnt : List C → Out := fun env => .ct env
def sDrop (fe : List C → Option D) : List C → Out := fun env => match fe env with | some _ => .nx env | none => .err
def sRet (fe : List C → Option D) : List C → Out := fun env => match fe env with | some d => .rt d | none => .err
theorem RepK_h0 {K : PySem.W.Frag} {env : List C} {σ : L2.St} {H F H' F' : Hp} {fp : Nat → List Addr} {v : V} {d : D} (R : Rel K G env σ H F fp) (r : RepK K G k H H' F' v d) : RepK K G k G.H0 H' F' v d := by
  cases k with
  | ow =>
    obtain ⟨a, vs, ds, e1, e2, h1, r⟩ := r
    exact ⟨a, vs, ds, e1, e2, R.h0 h1, r⟩
  | _ => exact r
theorem ds_ret (h : DE X G k e fe) (hk : k.le kr = true := by rfl) : DS X G kr (.Return (some e) pos) (sRet fe) := by
  obtain ⟨t, p, o⟩ := (h.conv hk).ex
  refine ⟨_, ps_ret p, fun σ H F fp env E R q => ?_⟩
  unfold sRet at q
  cases z : fe env with
  | none => rw [z] at q; exact q.elim
  | some d =>
    rw [z] at q
    exact o σ H F fp env d _ R z fun v H' F' E' r => q v H' F' (R.ext E').fin (RepK_h0 R r)
def sRetL (i : Nat) : List C → Out := fun env => match env[i]? with | some (.lst ds) => .rt (.list ds) | _ => .err
theorem ds_retL {x : Str} (i : Nat) (h : PE X (.Name x pos') (tVar i)) : DS X G .ow (.Return (some (.Name x pos')) pos) (sRetL i) := by
  refine ⟨_, ps_ret h, fun σ H F fp env E R q => ?_⟩
  unfold sRetL at q
  split at q
  · rename_i ds e
    obtain ⟨a, vs, q1, q2, q3, q4⟩ := R.slot i _ e
    obtain ⟨h1, h2, h3⟩ := R.own i a (by rw [q1]; exact List.mem_singleton.mpr rfl)
    cases z : σ[i]? with
    | none => rw [z] at q2; cases q2
    | some o =>
      rw [z] at q2
      have e2 : o = some (.ref a) := q2
      subst e2
      exact ⟨_, z, q (.ref a) H F R.fin ⟨a, vs, ds, rfl, rfl, R.h00 e rfl (by rw [q1]; exact List.mem_singleton.mpr rfl), q3, h1, q4⟩⟩
  · exact q.elim
def sRetN : List C → Out := fun _ => .rt .none
def sIf (ft : List C → Option Bool) (f g : List C → Out) : List C → Out := fun env => match ft env with | some true => f env | some false => g env | none => .err
theorem ds_if (hc : DTs X G e ft) (ha : DSs X G kr sts f) (hb : DSs X G kr sts2 g) : DS X G kr (.If e sts sts2 pos) (sIf ft f g) := by
  obtain ⟨tc, pc, oc⟩ := hc.ex
  obtain ⟨ta, pa, oa⟩ := ha.ex
  obtain ⟨tb, pb, ob⟩ := hb.ex
  refine ⟨_, ps_if pc pa pb, fun σ H F fp env E R q => ?_⟩
  unfold sIf at q
  cases z : ft env with
  | none => rw [z] at q; exact q.elim
  | some b =>
    rw [z] at q
    refine oc σ H F fp env b _ R z fun H' F' E' => ?_
    cases b with
    | true => exact iteT (oa σ H' F' fp env E (R.ext E') (Post.mono E'.f q))
    | false => exact iteF (ob σ H' F' fp env E (R.ext E') (Post.mono E'.f q))
def sSet (i : Nat) (fe : List C → Option D) : List C → Out := fun env => match fe env with | some d => .nx (env.set i (.val d)) | none => .err
theorem ds_set {x : Str} (i : Nat) (hN : X.N.Nodup) (hi : X.N[i]? = some x) (h : DE X G k e fe) (hx : Loc X.env.scope x := by first | exact .inl rfl | exact .inr rfl) (hk : k.le .fz = true := by rfl) (hs : swapsWith e (some (.Name x pos')) pos.line X.env = pure false := by rfl)
    (hf : X.fn x = true ∨ X.env.scope.names.lookup x = some .local := by first | exact .inl rfl | exact .inr rfl | assumption) : DS X G kr (.Assign [.Name x pos'] e pos) (sSet i fe) := by
  obtain ⟨t, p, o⟩ := (h.conv hk).ex
  refine ⟨_, ps_set hN hi hx p hs hf, fun σ H F fp env E R q => ?_⟩
  unfold sSet at q
  cases z : fe env with
  | none => rw [z] at q; exact q.elim
  | some d =>
    rw [z] at q
    refine o σ H F fp env d _ R z fun v H' F' E' r => ?_
    exact q _ H' F' _ ((R.ext E').put (i := i) (v := v) (c := .val d) (l := []) ⟨rfl, v, rfl, r⟩ (fun _ m => nomatch m) (fun _ m => nomatch m)) E'.f
def sSetL (i : Nat) (fe : List C → Option D) : List C → Out := fun env => match fe env with | some (.list ds) => .nx (env.set i (.lst ds)) | _ => .err
theorem Rel.putL {K : PySem.W.Frag} {env : List C} {σ : L2.St} {H F H' F' : Hp} {fp : Nat → List Addr} {v : V} {d : D} (R : Rel K G env σ H F fp) (E : Ext H F H' F') (i : Nat) (r : RepK K G .ow H H' F' v d) :
    ∃ ds a, d = .list ds ∧ Rel K G (env.set i (.lst ds)) (σ.set i (some v)) H' F' (fset fp i [a]) := by
  obtain ⟨a, vs, ds, rfl, rfl, h1, h2, h3, h4⟩ := r
  have R' := R.ext E
  refine ⟨ds, a, rfl, R'.put (c := .lst ds) ⟨a, vs, rfl, rfl, h2, h4⟩ (fun b hb => ?_) (fun b hb j hj hm => ?_)⟩
  · have e : b = a := List.mem_singleton.mp hb
    subst e
    exact ⟨h3, (by rw [h2]; intro z; cases z), R.h0 h1⟩
  · have e : b = a := List.mem_singleton.mp hb
    subst e
    exact (R.own j b hm).2.1 h1
theorem ds_setL {x : Str} (i : Nat) (hN : X.N.Nodup) (hi : X.N[i]? = some x) (h : DE X G .ow e fe) (hx : Loc X.env.scope x := by first | exact .inl rfl | exact .inr rfl) (hs : swapsWith e (some (.Name x pos')) pos.line X.env = pure false := by rfl)
    (hf : X.fn x = true ∨ X.env.scope.names.lookup x = some .local := by first | exact .inl rfl | exact .inr rfl | assumption) : DS X G kr (.Assign [.Name x pos'] e pos) (sSetL i fe) := by
  obtain ⟨t, p, o⟩ := h.ex
  refine ⟨_, ps_set hN hi hx p hs hf, fun σ H F fp env E R q => ?_⟩
  unfold sSetL at q
  cases z : fe env with
  | none => rw [z] at q; exact q.elim
  | some d =>
    rw [z] at q
    refine o σ H F fp env d _ R z fun v H' F' E' r => ?_
    obtain ⟨ds, a, rfl, R'⟩ := R.putL E' i r
    exact q _ H' F' _ R' E'.f
def sAug (i : Nat) (g : D → D → Option D) (fe : List C → Option D) : List C → Out := fun env => match env[i]? with
  | some (.val x) => (match fe env with | some y => (match g x y with | some z => .nx (env.set i (.val z)) | none => .err) | none => .err)
  | _ => .err
theorem ds_aug {x : Str} {op : Operator} {g : D → D → Option D} {kb : RK} (i : Nat) (hN : X.N.Nodup) (hi : X.N[i]? = some x) (og : DOp X G (inplaceOp op) .vl kb .fz g) (h : DE X G k e fe) (hx : Loc X.env.scope x := by first | exact .inl rfl | exact .inr rfl) (hk : k.le kb = true := by rfl) (hb : kb.arg = true := by rfl)
    (hf : X.fn x = true ∨ X.env.scope.names.lookup x = some .local := by first | exact .inl rfl | exact .inr rfl | assumption) : DS X G kr (.AugAssign (.Name x pos') op e pos) (sAug i g fe) := by
  obtain ⟨t, p, o⟩ := (h.conv hk).ex
  obtain ⟨r, or, o2⟩ := og.ex
  refine ⟨_, ps_aug (ti := fun x y H Q => LenOk X.K H → r x y H Q) hN hi hx p (opr_len or) hf, fun σ H F fp env E R q => ?_⟩
  unfold sAug at q
  split at q
  · rename_i dx ex
    cases z : fe env with
    | none => rw [z] at q; exact q.elim
    | some dy =>
      rw [z] at q
      cases z2 : g dx dy with
      | none => simp only [z2] at q; exact q.elim
      | some dz =>
        simp only [z2] at q
        obtain ⟨_, vx, e1, r1⟩ := R.slot i _ ex
        cases y : σ[i]? with
        | none => rw [y] at e1; cases e1
        | some w =>
          rw [y] at e1
          have e2 : w = some vx := e1
          subst e2
          refine ⟨vx, y, o σ H F fp env dy _ R z fun vy H1 F1 E1 ry hl => ?_⟩
          have kp1 := (R.ext E1).kpSame
          refine o2 H1 F1 vx vy dx dy dz _ E1.sub kp1 hl (.inl (DF_mono E1.f _ _ r1)) (repK_A hb ry) z2 fun v H' F' E2 rz => ?_
          exact q _ H' F' _ (((R.ext E1).ext E2).put (i := i) (v := v) (c := .val dz) (l := []) ⟨rfl, v, rfl, rz⟩ (fun _ m => nomatch m) (fun _ m => nomatch m)) (E1.f.trans E2.f)
  · exact q.elim
theorem a_addI : DOp X G (inplaceOp .Add) .vl .vl .fz gAddI := dop_int (r' := fun i j => .int (i + j)) (rI_of0 iop_add) (fun x y d h => by
  unfold gAddI at h; split at h <;> cases h; exact ⟨_, _, rfl, rfl, True.intro, rfl⟩) fun _ _ _ _ => .int _
theorem a_addS : DOp X G (inplaceOp .Add) .vl .vl .fz gAddS := ⟨_, iop_add_str, fun H F vx vy dx dy d Q sub kp hl rx ry hd q => by
  unfold gAddS at hd
  split at hd
  · split at hd <;> cases hd
    have e1 := vl_str rx
    have e2 := vl_str ry
    subst e1 e2
    exact ⟨_, _, rfl, rfl, by assumption, q _ H F (Ext.refl sub) (.str _)⟩
  · cases hd⟩
def sApp (i : Nat) (fe : List C → Option D) : List C → Out := fun env => match env[i]? with
  | some (.lst ds) => (match fe env with | some d => if ds.length < 16000000 then .nx (env.set i (.lst (ds ++ [d]))) else .err | none => .err)
  | _ => .err
theorem slot_at {K : PySem.W.Frag} {env : List C} {σ : L2.St} {H F : Hp} {fp : Nat → List Addr} {i : Nat} {ds : List D} (R : Rel K G env σ H F fp) (e : env[i]? = some (.lst ds)) : ∃ a vs, fp i = [a] ∧ σ[i]? = some (some (.ref a)) ∧ H a = some (.lst vs) ∧ DFAll K F vs ds := by
  obtain ⟨a, vs, q1, q2, q3, q4⟩ := R.slot i _ e
  cases z : σ[i]? with
  | none => rw [z] at q2; cases q2
  | some o =>
    rw [z] at q2
    have e2 : o = some (.ref a) := q2
    subst e2
    exact ⟨a, vs, q1, rfl, q3, q4⟩
theorem ds_app {x : Str} {p1 p2 p3 : Pos} (i : Nat) (hv : PE X (.Name x p1) (tVar i)) (h : DE X G k e fe) (hk : k.le .fz = true := by rfl) (hs : starEach [e] X.env = [(false, eval e X.env)] := by rfl)
    (hbm : ∀ (r : V → List V → Hp → VK → Prop) (t : TA), MtM X "list.append" r → PA X [e] t → PE X (.Call (.Attribute (.Name x p1) "append" p2) [e] [] p3) (tBM X.K "list" r (tVar i) t) := by exact fun r t hm ha => pe_bm PySem.F.plainAttrs_list PySem.F.slot_list_append PySem.F.type_list_append hm (pv _) ha)
    (hsw : swapsWith (.Call (.Attribute (.Name x p1) "append" p2) [e] [] p3) none pos.line X.env = pure false := by rfl) : DS X G kr (.Expr (.Call (.Attribute (.Name x p1) "append" p2) [e] [] p3) pos) (sApp i fe) := by
  obtain ⟨t, p, o⟩ := (h.conv hk).ex
  refine ⟨_, ps_expr (hbm _ _ mt_append (pa_cons p pa_nil hs)) hsw, fun σ H F fp env E R q => ?_⟩
  unfold sApp at q
  split at q
  · rename_i ds e1
    cases z : fe env with
    | none => simp only [z] at q; exact q.elim
    | some d =>
      simp only [z] at q
      split at q
      · rename_i hlen
        obtain ⟨a, vs, q1, q2, q3, q4⟩ := slot_at R e1
        refine ⟨.ref a, q2, .inl ⟨rfl, _, .inl (.inl q3)⟩, ?_⟩
        refine o σ H F fp env d _ R z fun v H1 F1 E1 r => ?_
        have R1 := R.ext E1
        have q3' := E1.h _ _ q3
        refine ⟨a, vs, v, rfl, rfl, q3', ?_, ?_⟩
        · rw [DFAll_len q4, sizeLine_eq]; omega
        · exact q σ _ F1 fp (R1.write q1 e1 (c := .lst (ds ++ [d])) ⟨a, vs ++ [v], rfl, by rw [q2]; rfl, upd_same, DFAll_app (DFAll_mono E1.f _ _ q4) (.cons r .nil)⟩) E1.f
      · exact q.elim
  · exact q.elim
def setAt (ds : List D) (i : Int) (d : D) : Option (List D) := (ixN ds.length i).map fun j => ds.set j d
def sSetIx (i : Nat) (fi fe : List C → Option D) : List C → Out := fun env => match env[i]? with
  | some (.lst ds) => (match fe env with
    | some d => (match fi env with
      | some (.int j) => (match setAt ds j d with | some ds' => .nx (env.set i (.lst ds')) | none => .err)
      | _ => .err)
    | none => .err)
  | _ => .err
end
end DL
namespace DL
open PySem PySem.Spec L2

def tD (K : PySem.W.Frag) (G : GC) (k : RK) (f : List C → Option D) : TE := fun σ H Q => ∃ (F : Hp) (fp : Nat → List Addr) (env : List C) (d : D), Rel K G env σ H F fp ∧ f env = some d ∧ ∀ v H' F', Ext H F H' F' → RepK K G k H H' F' v d → Q v H'
def tDT (K : PySem.W.Frag) (G : GC) (f : List C → Option Bool) : TT := fun σ H Q => ∃ (F : Hp) (fp : Nat → List Addr) (env : List C) (b : Bool), Rel K G env σ H F fp ∧ f env = some b ∧ ∀ H' F', Ext H F H' F' → Q b H'
section
variable {X : Cx} {G : GC} {k : RK} {e : Expr} {f : List C → Option D} {ft : List C → Option Bool}
theorem DE.canon (h : DE X G k e f) : PE X e (tD X.K G k f) := by
  obtain ⟨t, p, o⟩ := h.ex
  exact ⟨fun pins s σ H Q I ⟨F, fp, env, d, R, hf, q⟩ => p.run pins s σ H Q I (o σ H F fp env d Q R hf q)⟩
theorem DE.of (h : PE X e (tD X.K G k f)) : DE X G k e f := ⟨_, h, fun σ H F fp env d Q R hf q => ⟨F, fp, env, d, R, hf, q⟩⟩
theorem DTs.canon (h : DTs X G e ft) : PT X e (tDT X.K G ft) := by
  obtain ⟨t, p, o⟩ := h.ex
  exact ⟨fun pins s σ H Q I ⟨F, fp, env, d, R, hf, q⟩ => p.run pins s σ H Q I (o σ H F fp env d Q R hf q)⟩
end

structure DG (X : Cx) (G : GC) (is : List Nat) (tg : Expr) (f : D → List C → Option (List C)) : Prop where
  ex : ∃ t, PG X tg t ∧ ∀ (σ : L2.St) (H F : Hp) (fp : Nat → List Addr) (env env' : List C) (v : V) (d : D) (Q : L2.St → Hp → Prop), Rel X.K G env σ H F fp → DF X.K F v d → f d env = some env' →
    (∀ σ' fp', Rel X.K G env' σ' H F fp' → (∀ vs, (∀ i, i ∈ is → i ∈ vs) → wipe σ' vs = wipe σ vs) → (∀ j a, a ∈ fp' j → a ∈ fp j) → Q σ' H) → t v σ H Q
structure DGs (X : Cx) (G : GC) (is : List Nat) (tgs : List Expr) (f : List D → List C → Option (List C)) : Prop where
  ex : ∃ t, PGs X tgs t ∧ ∀ (σ : L2.St) (H F : Hp) (fp : Nat → List Addr) (env env' : List C) (vs : List V) (ds : List D) (Q : L2.St → Hp → Prop), Rel X.K G env σ H F fp → DFAll X.K F vs ds → f ds env = some env' →
    (∀ σ' fp', Rel X.K G env' σ' H F fp' → (∀ vs, (∀ i, i ∈ is → i ∈ vs) → wipe σ' vs = wipe σ vs) → (∀ j a, a ∈ fp' j → a ∈ fp j) → Q σ' H) → t vs σ H Q
theorem wipe_set0 (σ : L2.St) (i : Nat) (x : Option V) : ∀ vs : List Nat, (wipe (σ.set i x) vs).set i none = (wipe σ vs).set i none
  | [] => by unfold wipe; rw [List.set_set]
  | v :: vs => by
    unfold wipe
    by_cases h : v = i
    · subst h; rw [List.set_set, List.set_set]; exact wipe_set0 σ v x vs
    · rw [List.set_comm _ _ h, wipe_set0 σ i x vs, List.set_comm _ _ (Ne.symm h)]
theorem wipe_set (σ : L2.St) (i : Nat) (x : Option V) : ∀ vs : List Nat, i ∈ vs → wipe (σ.set i x) vs = wipe σ vs
  | v :: vs, h => by
    unfold wipe
    by_cases e : v = i
    · subst e; exact wipe_set0 σ v x vs
    · rw [wipe_set σ i x vs (by
        rcases List.mem_cons.mp h with z | z
        · exact absurd z.symm e
        · exact z)]
section
variable {X : Cx} {G : GC} {tg : Expr} {tgs : List Expr} {pos : Pos}
def tgN (i : Nat) : D → List C → Option (List C) := fun d env => some (env.set i (.val d))
theorem dg_name {x : Str} (i : Nat) (hN : X.N.Nodup) (hi : X.N[i]? = some x) (hx : Loc X.env.scope x := by first | exact .inl rfl | exact .inr rfl) (hf : X.fn x = true ∨ X.env.scope.names.lookup x = some .local := by first | exact .inl rfl | exact .inr rfl | assumption) :
    DG X G [i] (.Name x pos) (tgN i) := by
  refine ⟨_, pg_name hN hi hx hf, fun σ H F fp env env' v d Q R r hf q => ?_⟩
  cases hf
  refine q _ _ (R.put (i := i) (v := v) (c := .val d) (l := []) ⟨rfl, v, rfl, r⟩ (fun _ m => nomatch m) (fun _ m => nomatch m)) (fun vs h => wipe_set σ i _ vs (h i (List.mem_singleton.mpr rfl))) (fun j a h => ?_)
  by_cases hj : j = i
  · subst hj; rw [fset_at] at h; cases h
  · rw [fset_ne hj] at h; exact h
def tgNil : List D → List C → Option (List C) := fun ds env => match ds with | [] => some env | _ => none
def tgCons (f : D → List C → Option (List C)) (g : List D → List C → Option (List C)) : List D → List C → Option (List C) := fun ds env => match ds with | d :: r => (f d env).bind (g r) | [] => none
theorem dgs_nil : DGs X G [] [] tgNil := by
  refine ⟨_, pgs_nil, fun σ H F fp env env' vs ds Q R r hf q => ?_⟩
  unfold tgNil at hf
  split at hf
  · cases hf; cases r
    exact ⟨rfl, q σ fp R (fun _ _ => rfl) fun _ _ h => h⟩
  · cases hf
theorem dgs_cons {is js : List Nat} {f : D → List C → Option (List C)} {g : List D → List C → Option (List C)} (h : DG X G is tg f) (h2 : DGs X G js tgs g)
    (hs : (assignEach (tg :: tgs) X.env).map (·.2) = assign tg X.env :: (assignEach tgs X.env).map (·.2) := by rfl) : DGs X G (is ++ js) (tg :: tgs) (tgCons f g) := by
  obtain ⟨t, p, o⟩ := h.ex
  obtain ⟨t2, p2, o2⟩ := h2.ex
  refine ⟨_, pgs_cons p p2 hs, fun σ H F fp env env' vs ds Q R r hf q => ?_⟩
  unfold tgCons at hf
  split at hf
  · rename_i d ds
    cases r with
    | cons r1 r2 =>
      cases z : f d env with
      | none => rw [z] at hf; cases hf
      | some env1 =>
        rw [z] at hf
        refine ⟨_, _, rfl, o σ H F fp env env1 _ d _ R r1 z fun σ1 fp1 R1 w1 s1 => ?_⟩
        exact o2 σ1 H F fp1 env1 env' _ ds _ R1 r2 hf fun σ2 fp2 R2 w2 s2 => q σ2 fp2 R2 (fun vs h => (w2 vs fun i hi => h i (List.mem_append_right _ hi)).trans (w1 vs fun i hi => h i (List.mem_append_left _ hi))) fun j a h => s1 j a (s2 j a h)
  · cases hf
def tgT (g : List D → List C → Option (List C)) : D → List C → Option (List C) := fun d env => match d with | .tuple ds => g ds env | _ => none
theorem dg_tup {is : List Nat} {g : List D → List C → Option (List C)} {kk : Nat} (hc : X.calm = true) (h : DGs X G is tgs g) {n : Nat} (hn : (assignEach tgs X.env).length = n := by rfl) (hl : ∀ ds env env', g ds env = some env' → ds.length = n)
    (hst : (assignEach tgs X.env).findIdx? (·.1) = none := by rfl) : DG X G is (.Tuple tgs kk pos) (tgT g) := by
  obtain ⟨t, p, o⟩ := h.ex
  refine ⟨_, pg_tup hc p hn hst, fun σ H F fp env env' v d Q R r hf q => ?_⟩
  unfold tgT at hf
  split at hf
  · cases r with
    | tup h1 h2 =>
      exact ⟨_, _, rfl, Same.seqT R.sub h1, (DFAll_len h2).trans (hl _ _ _ hf), o σ H F fp env env' _ _ Q R h2 hf q⟩
  · cases hf
theorem tgNil_len {ds : List D} {env env' : List C} (h : tgNil ds env = some env') : ds.length = 0 := by
  unfold tgNil at h; split at h
  · rfl
  · cases h
theorem tgCons_len {f : D → List C → Option (List C)} {g : List D → List C → Option (List C)} {n : Nat} (hg : ∀ ds env env', g ds env = some env' → ds.length = n) {ds : List D} {env env' : List C} (h : tgCons f g ds env = some env') : ds.length = n + 1 := by
  unfold tgCons at h; split at h
  · rename_i d r
    cases z : f d env with
    | none => rw [z] at h; cases h
    | some e => rw [z] at h; rw [List.length_cons, hg _ _ _ h]
  · cases h
def sAsg (f : D → List C → Option (List C)) (fe : List C → Option D) : List C → Out := fun env => match fe env with | some d => (match f d env with | some e => .nx e | none => .err) | none => .err
theorem ds_asg {is : List Nat} {kr k : RK} {e : Expr} {f : D → List C → Option (List C)} {fe : List C → Option D} (h : DE X G k e fe) (hg : DG X G is tg f) (hk : k.le .fz = true := by rfl) (hs : swapsWithSole [tg] e pos.line X.env = pure false := by rfl) (hw : swappedStores [tg] e X.env = pure none := by rfl)
    (h1 : (assignEach [tg] X.env).map (·.2) = [assign tg X.env] := by rfl) : DS X G kr (.Assign [tg] e pos) (sAsg f fe) := by
  obtain ⟨t, p, o⟩ := (h.conv hk).ex
  obtain ⟨t2, p2, o2⟩ := hg.ex
  refine ⟨_, ps_asg p p2 hs hw h1, fun σ H F fp env E R q => ?_⟩
  unfold sAsg at q
  cases z : fe env with
  | none => simp only [z] at q; exact q.elim
  | some d =>
    simp only [z] at q
    cases z2 : f d env with
    | none => simp only [z2] at q; exact q.elim
    | some e' =>
      simp only [z2] at q
      refine o σ H F fp env d _ R z fun v H1 F1 E1 r => ?_
      exact o2 σ H1 F1 fp env e' v d _ (R.ext E1) r z2 fun σ' fp' R' _ _ => q σ' H1 F1 fp' R' E1.f
def sPar (i j : Nat) (fs : List C → Option (List D)) : List C → Out := fun env => match fs env with | some [x, y] => .nx ((env.set i (.val x)).set j (.val y)) | _ => .err
theorem ds_par {kr : RK} {x y : Str} {a b : Expr} {ks : List RK} {fs : List C → Option (List D)} {px py pt : Pos} {kt kk2 pt2} (i j : Nat) (hc : X.calm = true) (hN : X.N.Nodup) (hi : X.N[i]? = some x) (hj : X.N[j]? = some y) (ha : DA X G [.fz, .fz] [a, b] fs) (hij : i ≠ j := by decide)
    (hx : X.env.scope.names.lookup x = some .local := by rfl) (hy : X.env.scope.names.lookup y = some .local := by rfl)
    (hw : swappedStores [.Tuple [.Name x px, .Name y py] kt pt] (.Tuple [a, b] kk2 pt2) X.env = pure (some [x, y]) := by rfl)
    (hs : swapsWithSole [.Tuple [.Name x px, .Name y py] kt pt] (.Tuple [a, b] kk2 pt2) pos.line X.env = pure false := by rfl) :
    DS X G kr (.Assign [.Tuple [.Name x px, .Name y py] kt pt] (.Tuple [a, b] kk2 pt2) pos) (sPar i j fs) := by
  obtain ⟨t, p, o⟩ := ha.ex
  refine ⟨_, ps_par hc hN hi hj hij hx hy p hw hs, fun σ H F fp env E R q => ?_⟩
  unfold sPar at q
  split at q
  · rename_i dx dy z
    refine o σ H F fp env _ _ R z fun vs H1 F1 E1 r => ?_
    obtain ⟨v, d, v2, d2, rfl, e, r1, r2⟩ := rep2 r
    cases e
    refine ⟨v, v2, rfl, ?_⟩
    have R1 := (R.ext E1).put (i := i) (v := v) (c := .val dx) (l := []) ⟨rfl, v, rfl, r1⟩ (fun _ m => nomatch m) (fun _ m => nomatch m)
    exact q _ H1 F1 _ (R1.put (i := j) (v := v2) (c := .val dy) (l := []) ⟨rfl, v2, rfl, r2⟩ (fun _ m => nomatch m) (fun _ m => nomatch m)) E1.f
  · exact q.elim
end

theorem pi_len {X : Cx} {tg iter : Expr} {wi : TI} (h : PI X tg iter wi) : PI X tg iter (fun σ H R => wi σ H fun J H' => LenOk X.K H' → R J H') := ⟨fun pins s σ H R I q => thn (h.run pins s σ H _ I q) fun v s1 h1 => thn h1 fun itv s2 ⟨it, fp, tn, J, H', e, I', T, t0, f0, r⟩ => ⟨it, fp, tn, J, H', e, I', T, t0, f0, r fun a xs hx => by
  rcases hx with hx | hx
  · obtain ⟨_, _, _, z⟩ := I'.list hx
    exact z
  · obtain ⟨_, _, _, z⟩ := I'.tuple hx
    exact z⟩⟩
def Walk (K : PySem.W.Frag) (J : It) (items : List D) (F' : Hp) : Prop := ∀ (i : Nat) (H2 F2 : Hp), Same F' F2 → Same F2 H2 →
  (∀ d, items[i]? = some d → J.go i H2 ∧ ∀ x H3, J.yld i H2 x H3 → ∃ F3, Ext H2 F2 H3 F3 ∧ DF K F3 x d) ∧ (items.length ≤ i → J.stop i H2)
structure DI (X : Cx) (G : GC) (tg iter : Expr) (f : List C → Option (List D)) : Prop where
  ex : ∃ wi, PI X tg iter wi ∧ ∀ (σ : L2.St) (H F : Hp) (fp : Nat → List Addr) (env : List C) (items : List D) (R : It → Hp → Prop), Rel X.K G env σ H F fp → f env = some items →
    (∀ J H' F', Ext H F H' F' → Walk X.K J items F' → (LenOk X.K H' → items.length ≤ sizeLine) → R J H') → wi σ H R
section
variable {X : Cx} {G : GC} {tg iter e : Expr} {k : RK} {f : List C → Option D} {fs : List C → Option (List D)} {p pos : Pos} {ks : List RK}
theorem pi_or {wi wi' : TI} (h : PI X tg iter wi) (h' : PI X tg iter wi') : PI X tg iter (fun σ H R => wi σ H R ∨ wi' σ H R) := ⟨fun pins s σ H R I q => by
  rcases q with q | q
  · exact h.run pins s σ H R I q
  · exact h'.run pins s σ H R I q⟩
theorem list_inj {K : PySem.W.Frag} {H : Hp} {a : Addr} {vs ws : List V} (e : H a = some (.lst vs)) (h : Rd H a (.lst ws)) : ws = vs := by
  rcases h with h | ⟨o, h⟩
  · rw [e] at h; cases h; rfl
  · rw [e] at h; cases h
def iSeq (f : List C → Option D) : List C → Option (List D) := fun env => match f env with | some (.list ds) => some ds | some (.tuple ds) => some ds | _ => none
theorem di_seq (h : DE X G k e f) (hk : k.le .fz = true := by rfl) : DI X G tg e (iSeq f) := by
  obtain ⟨t, p, o⟩ := (h.conv hk).ex
  refine ⟨_, pi_or (pi_list p) (pi_tup p), fun σ H F fp env items R Rl hf q => ?_⟩
  unfold iSeq at hf
  split at hf
  · rename_i ds z
    cases hf
    left
    refine o σ H F fp env _ _ Rl z fun v H1 F1 E1 r => ?_
    cases r with
    | @lst a vs _ h1 h2 =>
      refine ⟨a, rfl, ⟨vs, .inl (.inl (E1.sub _ _ h1))⟩, q _ H1 F1 E1 (fun i H2 F2 s1 s2 => ⟨fun d hd => ?_, fun hl => ?_⟩) (fun ln => by rw [← DFAll_len h2]; exact ln a vs (.inl (.inl (.inl (E1.sub _ _ h1)))))⟩
      · have e2 : H2 a = some (.lst vs) := s2 _ _ (s1 _ _ h1)
        obtain ⟨v, hv, rv⟩ := DFAll_get h2 hd
        refine ⟨⟨vs, v, .inl (.inl e2), hv⟩, fun x H3 ⟨eH, y⟩ => ⟨F2, ?_, ?_⟩⟩
        · subst eH; exact Ext.refl s2
        · have e3 := y vs (.inl (.inl e2))
          rw [hv] at e3; cases e3
          exact DF_mono s1 _ _ rv
      · exact ⟨vs, .inl (.inl (s2 _ _ (s1 _ _ h1))), by rw [DFAll_len h2]; exact hl⟩
  · rename_i ds z
    cases hf
    right
    refine o σ H F fp env _ _ Rl z fun v H1 F1 E1 r => ?_
    cases r with
    | @tup a vs _ h1 h2 =>
      refine ⟨a, rfl, ⟨vs, Same.seqT E1.sub h1⟩, q _ H1 F1 E1 (fun i H2 F2 s1 s2 => ⟨fun d hd => ?_, fun hl => ?_⟩) (fun ln => by rw [← DFAll_len h2]; exact ln a vs (.inr (Same.seqT E1.sub h1)))⟩
      · have e2 : SqT X.K H2 a vs := Same.seqT (s1.trans s2) h1
        obtain ⟨v, hv, rv⟩ := DFAll_get h2 hd
        refine ⟨⟨vs, v, e2, hv⟩, fun x H3 ⟨eH, y⟩ => ⟨F2, ?_, ?_⟩⟩
        · subst eH; exact Ext.refl s2
        · have e3 := y vs e2
          rw [hv] at e3; cases e3
          exact DF_mono s1 _ _ rv
      · exact ⟨vs, Same.seqT (s1.trans s2) h1, by rw [DFAll_len h2]; exact hl⟩
  · cases hf
def rng (lo : Int) (n : Nat) : List D := (List.range n).map fun i => .int (lo + (i : Nat))
theorem rng_len (lo : Int) (n : Nat) : (rng lo n).length = n := by unfold rng; rw [List.length_map, List.length_range]
theorem walk_rng {K : PySem.W.Frag} {F' : Hp} (lo : Int) (n : Nat) : Walk K (Itr lo n) (rng lo n) F' := fun i H2 F2 s1 s2 => by
  refine ⟨fun d hd => ?_, fun hl => by rw [rng_len] at hl; exact hl⟩
  have hi : i < n := by
    have := (List.getElem?_eq_some_iff.mp hd).1
    rw [rng_len] at this; exact this
  refine ⟨hi, fun x H3 ⟨e, ex⟩ => ⟨F2, by subst e; exact Ext.refl s2, ?_⟩⟩
  unfold rng at hd
  rw [List.getElem?_map, List.getElem?_range hi] at hd
  cases hd
  subst ex
  exact .int _
def iRng1F (f : List C → Option D) : List C → Option (List D) := fun env => match f env with | some (.int j) => if -(2 ^ 62) ≤ j ∧ j ≤ 16777216 then some (rng 0 j.toNat) else none | _ => none
theorem di_range1 (hg : Gl X "range") (hm : X.mg "range" = none) (h : DE X G k e f) (hk : k.le .vl = true := by rfl) (hs : starEach [e] X.env = [(false, eval e X.env)] := by rfl) : DI X G tg (.Call (.Name "range" p) [e] [] pos) (iRng1F f) := by
  obtain ⟨t, pt, o⟩ := (h.conv hk).ex
  refine ⟨_, pi_range1 hg hm (pa_cons pt pa_nil hs) hs, fun σ H F fp env items R Rl hf q => ?_⟩
  unfold iRng1F at hf
  split at hf
  · rename_i j z
    split at hf
    · cases hf
      rename_i hb
      refine o σ H F fp env _ _ Rl z fun v H1 F1 E1 r => ?_
      have ev := vl_int (G := G) (H := H1) (F := F1) r
      subst ev
      exact ⟨j, rfl, hb.1, by omega, q _ H1 F1 E1 (walk_rng 0 _) fun _ => by rw [rng_len, sizeLine_eq]; omega⟩
    · cases hf
  · cases hf
def iRng2F (f g : List C → Option D) : List C → Option (List D) := fun env => match f env with
  | some (.int i) => (match g env with | some (.int j) => if (-(2 ^ 62) ≤ i ∧ i < 2 ^ 62 ∧ -(2 ^ 62) ≤ j ∧ j < 2 ^ 62 ∧ j - i ≤ 16777216) then some (rng i (j - i).toNat) else none | _ => none)
  | _ => none
def rngD (lo : Int) (n : Nat) : List D := (List.range n).map fun i => .int (lo - (i : Nat))
def iRngD (f g h : List C → Option D) : List C → Option (List D) := fun env => match f env with
  | some (.int i) => (match g env with | some (.int j) => (match h env with | some (.int (-1)) => if (-(2 ^ 62) ≤ i ∧ i < 2 ^ 62 ∧ -(2 ^ 62) ≤ j ∧ j < 2 ^ 62 ∧ i - j ≤ 16777216) then some (rngD i (i - j).toNat) else none | _ => none) | _ => none)
  | _ => none
def iStrF (f : List C → Option D) : List C → Option (List D) := fun env => match f env with | some (.str z) => if z.length ≤ sizeLine then some (z.cps.toList.map fun c => .str ⟨#[c]⟩) else none | _ => none
theorem di_str (h : DE X G k e f) (hk : k.le .vl = true := by rfl) : DI X G tg e (iStrF f) := by
  obtain ⟨t, p, o⟩ := (h.conv hk).ex
  refine ⟨_, pi_str p, fun σ H F fp env items R Rl hf q => ?_⟩
  unfold iStrF at hf
  split at hf
  · rename_i z ez
    split at hf
    rotate_left
    · cases hf
    rename_i hz
    cases hf
    refine o σ H F fp env _ _ Rl ez fun v H1 F1 E1 r => ?_
    have ev := vl_str (G := G) (H := H1) (F := F1) r
    refine ⟨z, ev, q _ H1 F1 E1 (fun i H2 F2 s1 s2 => ⟨fun d hd => ?_, fun hl => ?_⟩) (fun _ => by rw [List.length_map, Array.length_toList]; exact hz)⟩
    · rw [List.getElem?_map] at hd
      cases y : z.cps.toList[i]? with
      | none => rw [y] at hd; cases hd
      | some c =>
        rw [y] at hd; cases hd
        have hi : i < z.cps.size := by
          have := (List.getElem?_eq_some_iff.mp y).1
          rw [Array.length_toList] at this; exact this
        refine ⟨hi, fun x H3 ⟨e, c', ec, ex⟩ => ⟨F2, by subst e; exact Ext.refl s2, ?_⟩⟩
        subst ex
        rw [← Array.getElem?_toList, y] at ec
        cases ec
        exact .str _
    · rw [List.length_map, Array.length_toList] at hl; exact hl
  · cases hf
def enumD (ds : List D) : List D := (List.range ds.length).zipWith (fun i d => .tuple [.int (i : Nat), d]) ds
def iEnumF (f : List C → Option D) : List C → Option (List D) := fun env => match f env with | some (.list ds) => some (enumD ds) | _ => none
theorem pair_new {K : PySem.W.Frag} {H F : Hp} {T : Addr} {v w : V} {d1 d2 : D} (sub : Same F H) (nT : H T = none) (r1 : DF K F v d1) (r2 : DF K F w d2) : Ext H F (upd H T (.tup [v, w])) (upd F T (.tup [v, w])) ∧ DF K (upd F T (.tup [v, w])) (.ref T) (.tuple [d1, d2]) := by
  have m : Same F (upd F T (.tup [v, w])) := fun b x e => by rw [upd_ne (ne_of_none e (sub.free nT))]; exact e
  exact ⟨Ext.frozen sub nT, .tup (.inl (.inl upd_same)) (.cons (DF_mono m _ _ r1) (.cons (DF_mono m _ _ r2) .nil))⟩
def zipD : List D → List D → List D := List.zipWith fun x y => .tuple [x, y]
def iZipF (f g : List C → Option D) : List C → Option (List D) := fun env => match f env with
  | some (.list xs) => (match g env with | some (.list ys) => some (zipD xs ys) | _ => none)
  | some (.tuple xs) => (match g env with | some (.tuple ys) => some (zipD xs ys) | _ => none)
  | _ => none
theorem zipD_get {xs ys : List D} {i : Nat} {x : D} (h : (zipD xs ys)[i]? = some x) : ∃ a b, xs[i]? = some a ∧ ys[i]? = some b ∧ x = .tuple [a, b] := by
  unfold zipD at h
  rw [List.getElem?_zipWith] at h
  cases z : xs[i]? with
  | none => rw [z] at h; cases h
  | some a =>
    cases y : ys[i]? with
    | none => rw [z, y] at h; cases h
    | some b => rw [z, y] at h; cases h; exact ⟨a, b, rfl, rfl, rfl⟩
theorem zipD_len (xs ys : List D) : (zipD xs ys).length = min xs.length ys.length := List.length_zipWith
end
end DL
namespace DL
open PySem PySem.Spec L2

section
variable {X : Cx} {G : GC} {tg iter e e2 elt : Expr} {k k2 kr : RK} {f f2 fe : List C → Option D} {fs : List C → Option (List D)} {p pos : Pos} {body : List Stmt} {fb : List C → Out} {ft : List C → Option Bool}
def forF (g : D → List C → Option (List C)) (b : List C → Out) : List D → List C → Out
  | [], env => .nx env
  | d :: ds, env => match g d env with
    | none => .err
    | some e => match b e with
      | .nx e' => forF g b ds e'
      | .ct e' => forF g b ds e'
      | .bk e' => .nx e'
      | .rt d => .rt d
      | .err => .err
      | .rx e t => .rx e t
      | .xc e x => .xc e x
def sFor (fi : List C → Option (List D)) (g : D → List C → Option (List C)) (b : List C → Out) : List C → Out := fun env => match fi env with | some items => forF g b items env | none => .err
theorem ds_for {is : List Nat} {fi : List C → Option (List D)} {g : D → List C → Option (List C)} (hp : PassesOwn (model X.prog X.w) X.A X.env X.xe) (hc : X.calm = true) (hi : DI X G tg iter fi) (hg : DG X G is tg g) (hb : DSs X G kr body fb)
    (hs : ∀ x, foldedSetIterable iter X.env x = pure x := by intro _; rfl) : DS X G kr (.For tg iter body [] pos) (sFor fi g fb) := by
  obtain ⟨wi, pw, ow⟩ := hi.ex
  obtain ⟨tg', pg, og⟩ := hg.ex
  obtain ⟨tb, pb, ob⟩ := hb.ex
  refine ⟨_, ps_for hp hc pw pg pb hs, fun σ H F fp env E R q => ?_⟩
  unfold sFor at q
  cases z : fi env with
  | none => rw [z] at q; exact q.elim
  | some items =>
    rw [z] at q
    refine ow σ H F fp env items _ R z fun J H1 F1 E1 wk _ => ?_
    refine ⟨fun i m σ H => m = items.length - i ∧ i ≤ items.length ∧ ∃ env fp F, Rel X.K G env σ H F fp ∧ Same F1 F ∧ Post X G kr F E (forF g fb (items.drop i) env), ⟨items.length, by simp, Nat.zero_le _, env, fp, F1, R.ext E1, Same.refl _, Post.mono E1.f (by rw [List.drop_zero]; exact q)⟩, ?_⟩
    rintro i m σ2 H2 ⟨rfl, hi, env2, fp2, F2, R2, s2, q2⟩
    obtain ⟨w1, w2⟩ := wk i H2 F2 s2 R2.sub
    by_cases hlt : i < items.length
    · right
      obtain ⟨d, hd⟩ : ∃ d, items[i]? = some d := ⟨items[i], List.getElem?_eq_getElem hlt⟩
      obtain ⟨go, y⟩ := w1 d hd
      have ed : items.drop i = d :: items.drop (i + 1) := by
        rw [List.drop_eq_getElem_cons hlt]
        rw [List.getElem?_eq_getElem hlt] at hd; cases hd; rfl
      rw [ed] at q2
      unfold forF at q2
      refine ⟨go, fun σ' H' => ∃ env' fp' F', Rel X.K G env' σ' H' F' fp' ∧ Same F1 F' ∧ Post X G kr F' E (forF g fb (items.drop (i + 1)) env'), fun σ' H' n => ⟨items.length - (i + 1), by omega, rfl, hlt, n⟩, fun x H3 yl => ?_⟩
      obtain ⟨F3, E3, r3⟩ := y x H3 yl
      have R3 := R2.ext E3
      cases z2 : g d env2 with
      | none => simp only [z2] at q2; exact q2.elim
      | some e' =>
        simp only [z2] at q2
        refine og σ2 H3 F3 fp2 env2 e' x d _ R3 r3 z2 fun σ4 fp4 R4 _ _ => ?_
        refine ob σ4 H3 F3 fp4 e' _ R4 ?_
        cases z3 : fb e' with
        | nx e'' =>
          simp only [z3] at q2
          exact fun σ5 H5 F5 fp5 R5 s5 => ⟨e'', fp5, F5, R5, (s2.trans E3.f).trans s5, Post.mono (E3.f.trans s5) q2⟩
        | ct e'' =>
          simp only [z3] at q2
          exact fun σ5 H5 F5 fp5 R5 s5 => ⟨e'', fp5, F5, R5, (s2.trans E3.f).trans s5, Post.mono (E3.f.trans s5) q2⟩
        | bk e'' =>
          simp only [z3] at q2
          exact fun σ5 H5 F5 fp5 R5 s5 => q2 σ5 H5 F5 fp5 R5 (E3.f.trans s5)
        | rt d' => simp only [z3] at q2; exact q2
        | err => simp only [z3] at q2; exact q2
        | rx _ _ => simp only [z3] at q2; exact q2
        | xc _ _ => simp only [z3] at q2; exact fun cls d σ' H' F' fp' l R s => q2 cls d σ' H' F' fp' l R (E3.f.trans s)
    · left
      have ei : i = items.length := by omega
      subst ei
      rw [List.drop_length] at q2
      exact ⟨w2 (Nat.le_refl _), q2 σ2 H2 F2 fp2 R2 (Same.refl _)⟩
def whileF (c : List C → Option Bool) (b : List C → Out) : Nat → List C → Out
  | 0, _ => .err
  | n + 1, env => match c env with
    | none => .err
    | some false => .nx env
    | some true => match b env with
      | .nx e' => whileF c b n e'
      | .ct e' => whileF c b n e'
      | .bk e' => .nx e'
      | .rt d => .rt d
      | .err => .err
      | .rx e t => .rx e t
      | .xc e x => .xc e x
def sWhile (fuel : List C → Nat) (c : List C → Option Bool) (b : List C → Out) : List C → Out := fun env => whileF c b (fuel env) env
theorem ds_while (fuel : List C → Nat) (hp : PassesOwn (model X.prog X.w) X.A X.env X.xe) (hc : DTs X G e ft) (hb : DSs X G kr body fb) : DS X G kr (.While e body [] pos) (sWhile fuel ft fb) := by
  obtain ⟨tc, pc, oc⟩ := hc.ex
  obtain ⟨tb, pb, ob⟩ := hb.ex
  refine ⟨_, ps_while hp pc pb, fun σ H F fp env E R q => ?_⟩
  unfold sWhile at q
  refine ⟨fun m σ H => ∃ env fp F, Rel X.K G env σ H F fp ∧ Post X G kr F E (whileF ft fb m env), ⟨fuel env, env, fp, F, R, q⟩, ?_⟩
  rintro m σ2 H2 ⟨env2, fp2, F2, R2, q2⟩
  cases m with
  | zero => exact q2.elim
  | succ m =>
    unfold whileF at q2
    cases z : ft env2 with
    | none => simp only [z] at q2; exact q2.elim
    | some b =>
      refine oc σ2 H2 F2 fp2 env2 b _ R2 z fun H3 F3 E3 => ?_
      have R3 := R2.ext E3
      cases b with
      | false =>
        simp only [z] at q2
        exact iteF (q2 σ2 H3 F3 fp2 R3 E3.f)
      | true =>
        simp only [z] at q2
        refine iteT ⟨fun σ' H' => ∃ env' fp' F', Rel X.K G env' σ' H' F' fp' ∧ Post X G kr F' E (whileF ft fb m env'), fun σ' H' n => ⟨m, Nat.lt_succ_self m, n⟩, ?_⟩
        refine ob σ2 H3 F3 fp2 env2 _ R3 ?_
        cases z3 : fb env2 with
        | nx e'' =>
          simp only [z3] at q2
          exact fun σ5 H5 F5 fp5 R5 s5 => ⟨e'', fp5, F5, R5, Post.mono (E3.f.trans s5) q2⟩
        | ct e'' =>
          simp only [z3] at q2
          exact fun σ5 H5 F5 fp5 R5 s5 => ⟨e'', fp5, F5, R5, Post.mono (E3.f.trans s5) q2⟩
        | bk e'' =>
          simp only [z3] at q2
          exact fun σ5 H5 F5 fp5 R5 s5 => q2 σ5 H5 F5 fp5 R5 (E3.f.trans s5)
        | rt d' => simp only [z3] at q2; exact q2
        | err => simp only [z3] at q2; exact q2
        | rx _ _ => simp only [z3] at q2; exact q2
        | xc _ _ => simp only [z3] at q2; exact fun cls d σ' H' F' fp' l R s => q2 cls d σ' H' F' fp' l R (E3.f.trans s)

def wipeE (env : List C) : List Nat → List C
  | [] => env
  | v :: vs => (wipeE env vs).set v .und
theorem Rel.drop2 {K : PySem.W.Frag} {env : List C} {σ : L2.St} {H F : Hp} {fp : Nat → List Addr} (R : Rel K G env σ H F fp) (i : Nat) : Rel K G (env.set i .und) (σ.set i none) H F (fset fp i []) where
  len := by rw [List.length_set, List.length_set]; exact R.len
  slot := fun j c' e => by
    by_cases hj : j = i
    · subst hj
      rw [fset_at]
      by_cases hl : j < env.length
      · rw [List.getElem?_set_self hl] at e; cases e; rfl
      · rw [List.getElem?_eq_none (by rw [List.length_set]; omega)] at e; cases e
    · rw [List.getElem?_set_ne (Ne.symm hj)] at e
      rw [fset_ne hj, List.getElem?_set_ne (Ne.symm hj)]
      exact R.slot j c' e
  dj := (R.drop i).dj
  own := (R.drop i).own
  sub := R.sub
  new := R.new
  old := R.old
  keep := R.keep
  alive := R.alive
theorem Rel.wiped {K : PySem.W.Frag} {env : List C} {σ : L2.St} {H F : Hp} {fp : Nat → List Addr} (R : Rel K G env σ H F fp) : ∀ vs : List Nat, ∃ fp', Rel K G (wipeE env vs) (wipe σ vs) H F fp' ∧ ∀ j a, a ∈ fp' j → a ∈ fp j
  | [] => ⟨fp, R, fun _ _ h => h⟩
  | v :: vs => by
    obtain ⟨fp', R', s⟩ := R.wiped vs
    refine ⟨_, R'.drop2 v, fun j a h => ?_⟩
    by_cases hj : j = v
    · subst hj; rw [fset_at] at h; cases h
    · rw [fset_ne hj] at h; exact s j a h
theorem Rel.updD {K : PySem.W.Frag} {env : List C} {σ : L2.St} {H F : Hp} {fp : Nat → List Addr} {p : Addr} {o : HO} (R : Rel K G env σ H F fp) (hp : ∀ j, p ∉ fp j) (hF : F p = none) (h0 : G.H0 p = none) : Rel K G env σ (upd H p o) F fp where
  len := R.len
  slot := fun j c' e => by
    have q := R.slot j c' e
    have na : ∀ b, fp j = [b] → b ≠ p := fun b z y => hp j (by rw [z, y]; exact List.mem_singleton.mpr rfl)
    cases c' with
    | ro b t => exact q
    | pin _ => exact q
    | al _ _ => exact q
    | own m t => obtain ⟨v, q1, q2, q3⟩ := q; exact ⟨v, q1, OR_mono (Same.refl _) _ _ _ (fun b o hb e => by rw [upd_ne (fun z => hp j (by rw [← z]; exact hb))]; exact e) q2, q3⟩
    | und => exact q
    | val d => exact q
    | brw d => exact q
    | lst ds => obtain ⟨b, vs, q1, q2, q3, q4⟩ := q; exact ⟨b, vs, q1, q2, by rw [upd_ne (na b q1)]; exact q3, q4⟩
    | dK ds => obtain ⟨b, vs, q1, q2, q3, q4⟩ := q; exact ⟨b, vs, q1, q2, by rw [upd_ne (na b q1)]; exact q3, q4⟩
    | dT ds => obtain ⟨b, vs, q1, q2, q3, q4⟩ := q; exact ⟨b, vs, q1, q2, by rw [upd_ne (na b q1)]; exact q3, q4⟩
    | dN ds => obtain ⟨b, w, xs, q1, q2, q5, q3, q4⟩ := q; exact ⟨b, w, xs, q1, q2, q5, by rw [upd_ne (na b q1)]; exact q3, q4⟩
  dj := R.dj
  own := fun j b hb => by
    obtain ⟨g1, g2, g3⟩ := R.own j b hb
    refine ⟨g1, ?_, g3⟩
    by_cases hb' : b = p
    · rw [hb', upd_same]; intro z; cases z
    · rw [upd_ne hb']; exact g2
  sub := fun b u e => by rw [upd_ne (fun z => by rw [z, hF] at e; cases e)]; exact R.sub b u e
  new := R.new
  old := R.old
  keep := fun b u e hw => by
    rw [upd_ne (fun z => by rw [z, h0] at e; cases e)]; exact R.keep b u e hw
  alive := fun b e => by
    by_cases hb' : b = p
    · rw [hb', upd_same]; intro z; cases z
    · rw [upd_ne hb']; exact R.alive b e
theorem wipe_wipe (σ : L2.St) : ∀ vs : List Nat, wipe (wipe σ vs) vs = wipe σ vs
  | [] => rfl
  | v :: vs => by
    show (wipe ((wipe σ vs).set v none) vs).set v none = (wipe σ vs).set v none
    rw [wipe_set0, wipe_wipe σ vs]
def lcF (g : D → List C → Option (List C)) (tt : List C → Option Bool) (fe : List C → Option D) (env : List C) : List D → Option (List D)
  | [] => some []
  | d :: ds => (g d env).bind fun e => (tt e).bind fun b => if b = true then (fe e).bind fun y => (lcF g tt fe env ds).map (y :: ·) else lcF g tt fe env ds
def eLc (vs : List Nat) (fi : List C → Option (List D)) (g : D → List C → Option (List C)) (tt : List C → Option Bool) (fe : List C → Option D) : List C → Option D := fun env => (fi env).bind fun items => (lcF g tt fe (wipeE env vs) items).map .list
def tgD (K : PySem.W.Frag) (G : GC) (is : List Nat) (f : D → List C → Option (List C)) : TG := fun v σ H Q => ∃ (F : Hp) (fp : Nat → List Addr) (env env' : List C) (d : D), Rel K G env σ H F fp ∧ DF K F v d ∧ f d env = some env' ∧
  ∀ σ' fp', Rel K G env' σ' H F fp' → (∀ vs, (∀ i, i ∈ is → i ∈ vs) → wipe σ' vs = wipe σ vs) → (∀ j a, a ∈ fp' j → a ∈ fp j) → Q σ' H
theorem DG.canon {is : List Nat} {f : D → List C → Option (List C)} (h : DG X G is tg f) : PG X tg (tgD X.K G is f) := by
  obtain ⟨t, p, o⟩ := h.ex
  exact ⟨fun pins s σ H v u Q I r ⟨F, fp, env, env', d, R, rd, hf, q⟩ => p.run pins s σ H v u Q I r (o σ H F fp env env' v d Q R rd hf q)⟩
structure DIf (X : Cx) (G : GC) (ifs : List Expr) (f : List C → Option Bool) : Prop where
  run : PTs X ifs (tDT X.K G f)
theorem dif_nil : DIf X G [] (fun _ => some true) := ⟨⟨fun pins s σ H Q I ⟨F, fp, env, b, R, hf, q⟩ => pts_nil.run pins s σ H Q I (by cases hf; exact q H F (Ext.refl R.sub))⟩⟩
theorem dif_one {c : Expr} (h : DTs X G c ft) : DIf X G [c] ft := ⟨pts_one h.canon⟩
theorem lc_ok {wi : TI} {is vs : List Nat} {fi : List C → Option (List D)} {g : D → List C → Option (List C)} (ow : ∀ (σ : L2.St) (H F : Hp) (fp : Nat → List Addr) (env : List C) (items : List D) (R : It → Hp → Prop), Rel X.K G env σ H F fp → fi env = some items →
    (∀ J H' F', Ext H F H' F' → Walk X.K J items F' → (LenOk X.K H' → items.length ≤ sizeLine) → R J H') → wi σ H R) (hi : ∀ i, i ∈ is → i ∈ vs) {σ : L2.St} {H F : Hp} {fp : Nat → List Addr} {env : List C} {d : D} {Q : VK} (R : Rel X.K G env σ H F fp) (hf : eLc vs fi g ft fe env = some d)
    (q : ∀ v H' F', Ext H F H' F' → RepK X.K G .ow H H' F' v d → Q v H') : tLc (fun σ H R => wi σ H fun J H' => LenOk X.K H' → R J H') (tgD X.K G is g) (tDT X.K G ft) (tD X.K G .fz fe) vs σ H Q := by
  unfold eLc at hf
  cases z : fi env with
  | none => rw [z] at hf; cases hf
  | some items =>
    rw [z] at hf
    cases z2 : lcF g ft fe (wipeE env vs) items with
    | none =>
      rw [show (some items : Option (List D)).bind (fun items => (lcF g ft fe (wipeE env vs) items).map PyData.list) = (lcF g ft fe (wipeE env vs) items).map PyData.list from rfl, z2] at hf
      cases hf
    | some res =>
      rw [show (some items : Option (List D)).bind (fun items => (lcF g ft fe (wipeE env vs) items).map PyData.list) = (lcF g ft fe (wipeE env vs) items).map PyData.list from rfl, z2] at hf
      cases hf
      refine ow σ H F fp env items _ R z fun J H1 F1 E1 wk lnw ln p np => ?_
      have hline := lnw ln
      have R1 := R.ext E1
      obtain ⟨fpw, Rw, sw⟩ := R1.wiped vs
      have pfp : ∀ j, p ∉ fpw j := fun j hm => (Rw.own j p hm).2.1 np
      have h0p : G.H0 p = none := R1.h0 np
      have f1p : F1 p = none := R1.sub.free np
      refine ⟨fun i m Hc => m = items.length - i ∧ i ≤ items.length ∧ ∃ Fc acc vs' rest, Rel X.K G (wipeE env vs) (wipe σ vs) Hc Fc fpw ∧ Same H1 Hc ∧ Same F1 Fc ∧ (∀ a o, Fc a = some o → F1 a = some o ∨ H1 a = none) ∧ Hc p = some (.lst vs') ∧ Fc p = none ∧ DFAll X.K Fc vs' acc ∧ lcF g ft fe (wipeE env vs) (items.drop i) = some rest ∧ acc ++ rest = res ∧ acc.length + rest.length ≤ i + rest.length ∧ vs'.length ≤ i,
        ⟨items.length, by simp, Nat.zero_le _, F1, [], [], res, Rw.updD pfp f1p h0p, fun b x e => by rw [upd_ne (ne_of_none e np)]; exact e, Same.refl _, fun _ _ e => .inl e, upd_same, f1p, .nil, by rw [List.drop_zero]; exact z2, rfl, by simp, Nat.le_refl _⟩, ?_⟩
      rintro i m Hc ⟨rfl, hile, Fc, acc, vs', rest, Rc, sH, sF, nF, hp, fpn, dacc, hrest, hres, hle, hvl⟩
      obtain ⟨w1, w2⟩ := wk i Hc Fc sF Rc.sub
      by_cases hlt : i < items.length
      · right
        obtain ⟨dd, hd⟩ : ∃ d, items[i]? = some d := ⟨items[i], List.getElem?_eq_getElem hlt⟩
        obtain ⟨go, y⟩ := w1 dd hd
        have ed : items.drop i = dd :: items.drop (i + 1) := by
          rw [List.drop_eq_getElem_cons hlt]
          rw [List.getElem?_eq_getElem hlt] at hd; cases hd; rfl
        rw [ed] at hrest
        unfold lcF at hrest
        cases z3 : g dd (wipeE env vs) with
        | none => rw [z3] at hrest; cases hrest
        | some e' =>
          rw [z3] at hrest
          have hrest : ((ft e').bind fun b => if b = true then (fe e').bind fun y => (lcF g ft fe (wipeE env vs) (items.drop (i + 1))).map (y :: ·) else lcF g ft fe (wipeE env vs) (items.drop (i + 1))) = some rest := hrest
          cases z4 : ft e' with
          | none => rw [z4] at hrest; cases hrest
          | some b =>
            rw [z4] at hrest
            have hrest : (if b = true then (fe e').bind fun y => (lcF g ft fe (wipeE env vs) (items.drop (i + 1))).map (y :: ·) else lcF g ft fe (wipeE env vs) (items.drop (i + 1))) = some rest := hrest
            refine ⟨go, fun H' => i + 1 ≤ items.length ∧ ∃ Fc acc vs' rest, Rel X.K G (wipeE env vs) (wipe σ vs) H' Fc fpw ∧ Same H1 H' ∧ Same F1 Fc ∧ (∀ a o, Fc a = some o → F1 a = some o ∨ H1 a = none) ∧ H' p = some (.lst vs') ∧ Fc p = none ∧ DFAll X.K Fc vs' acc ∧ lcF g ft fe (wipeE env vs) (items.drop (i + 1)) = some rest ∧ acc ++ rest = res ∧ acc.length + rest.length ≤ i + 1 + rest.length ∧ vs'.length ≤ i + 1,
              fun H' n => ⟨items.length - (i + 1), by omega, rfl, n⟩, fun x H3 yl => ?_⟩
            obtain ⟨F3, E3, r3⟩ := y x H3 yl
            have R3 := Rc.ext E3
            refine ⟨F3, fpw, _, e', dd, R3, r3, z3, fun σ4 fp4 R4 w4 s4 => ⟨w4 vs hi |>.trans ?_, ?_⟩⟩
            · exact wipe_wipe σ vs
            refine ⟨F3, fp4, e', b, R4, z4, fun H5 F5 E5 => ?_⟩
            have back : ∀ {H F}, Ext H3 F3 H F → Rel X.K G (wipeE env vs) (wipe σ vs) H F fpw := fun E => R3.ext E
            have fz : ∀ {H F}, Ext Hc Fc H F → F p = none := fun {H F} E => by
              cases q9 : F p with
              | none => rfl
              | some o =>
                rcases E.new p o q9 with z9 | z9
                · rw [fpn] at z9; cases z9
                · rw [hp] at z9; cases z9
            have nf : ∀ {H F}, Ext Hc Fc H F → ∀ a o, F a = some o → F1 a = some o ∨ H1 a = none := fun {H F} E a o e => by
              rcases E.new a o e with z9 | z9
              · exact nF a o z9
              · exact .inr (sH.free z9)
            cases b with
            | false =>
              simp only [Bool.false_eq_true, if_false] at hrest
              refine iteF ⟨hlt, F5, acc, vs', rest, back E5, sH.trans (E3.h.trans E5.h), sF.trans (E3.f.trans E5.f), nf (E3.trans E5), E5.h _ _ (E3.h _ _ hp), fz (E3.trans E5), DFAll_mono (E3.f.trans E5.f) _ _ dacc, hrest, hres, by omega, by omega⟩
            | true =>
              simp only [if_true] at hrest
              refine iteT ?_
              cases z5 : fe e' with
              | none => rw [z5] at hrest; cases hrest
              | some yv =>
                rw [z5] at hrest
                have hrest : ((lcF g ft fe (wipeE env vs) (items.drop (i + 1))).map (yv :: ·)) = some rest := hrest
                cases z6 : lcF g ft fe (wipeE env vs) (items.drop (i + 1)) with
                | none => rw [z6] at hrest; cases hrest
                | some rest' =>
                  rw [z6] at hrest; cases hrest
                  refine ⟨F5, fp4, e', yv, R4.ext E5, z5, fun v H6 F6 E6 r6 => ?_⟩
                  have E36 := E5.trans E6
                  refine ⟨vs', E6.h _ _ (E5.h _ _ (E3.h _ _ hp)), ?_, hlt, F6, acc ++ [yv], vs' ++ [v], rest', (back E36).updD pfp (fz (E3.trans E36)) h0p, ?_, sF.trans (E3.f.trans E36.f), nf (E3.trans E36), upd_same, fz (E3.trans E36), DFAll_app (DFAll_mono (E3.f.trans E36.f) _ _ dacc) (.cons r6 .nil), rfl, by rw [← hres]; simp, by simp only [List.length_append, List.length_cons, List.length_nil] at hle ⊢; omega, by rw [List.length_append]; simp; omega⟩
                  · omega
                  · intro b x e
                    rw [upd_ne (ne_of_none e np)]
                    exact E36.h _ _ (E3.h _ _ (sH _ _ e))
      · left
        have ei : i = items.length := by omega
        subst ei
        rw [List.drop_length] at hrest
        cases hrest
        rw [List.append_nil] at hres
        subst hres
        refine ⟨w2 (Nat.le_refl _), q _ Hc Fc ⟨E1.h.trans sH, E1.f.trans sF, Rc.sub, fun a o e => ?_⟩ ⟨p, vs', acc, rfl, rfl, E1.h.free np, hp, fpn, dacc⟩⟩
        rcases nF a o e with z9 | z9
        · exact E1.new a o z9
        · exact .inr (E1.h.free z9)
theorem d_lc {is : List Nat} {fi : List C → Option (List D)} {g : D → List C → Option (List C)} {ifs : List Expr} {scope : Scope} (own : List (Str × Nat)) (hc : X.calm = true) (hN : X.N.Nodup) (hi : DI X G tg iter fi) (N : List Str) (sc : Scope) (ok : blkC N sc scope own = true)
    (hg : ∀ (s : Shared) (H : Hp) (C : Addr) (cl : List (Str × Addr)) (fp : List Addr), DG (X.blk s H scope (compEnvC scope cl C X.env) fp) G is tg g) (ht : ∀ (s : Shared) (H : Hp) (C : Addr) (cl : List (Str × Addr)) (fp : List Addr), DIf (X.blk s H scope (compEnvC scope cl C X.env) fp) G ifs ft)
    (he : ∀ (s : Shared) (H : Hp) (C : Addr) (cl : List (Str × Addr)) (fp : List Addr), DE (X.blk s H scope (compEnvC scope cl C X.env) fp) G k elt fe) (hk : k.le .fz = true := by rfl) (his : ∀ i, i ∈ is → i ∈ own.map (·.2) := by decide) (hs : ∀ x, foldedSetIterable iter X.env x = pure x := by intro _; rfl) (hN2 : X.N = N := by rfl) (hs2 : X.env.scope = sc := by rfl) :
    DE X G .ow (.ListComp elt [⟨tg, iter, ifs, 0⟩] scope pos) (eLc (own.map (·.2)) fi g ft fe) := by
  obtain ⟨wi, pw, ow⟩ := hi.ex
  exact ⟨_, pe_lc hc hN (pi_len pw) (blkOk_by (by rw [hN2, hs2]; exact ok)) (fun s H C cl fp => (hg s H C cl fp).canon) (fun s H C cl fp => (ht s H C cl fp).run) (fun s H C cl fp => ((he s H C cl fp).conv hk).canon) hs,
    fun σ H F fp env d Q R hf q => lc_ok ow his R hf q⟩
end

def cells : List RK → List D → List C
  | .vw :: ks, d :: ds => .brw d :: cells ks ds
  | _ :: ks, d :: ds => .val d :: cells ks ds
  | _, _ => []
def runP (ks : List RK) (n : Nat) (body : List C → Out) : List D → Option D := fun ds => match body (cells ks ds ++ List.replicate (n - ds.length) .und) with
  | .rt d => some d
  | _ => none
def runN (ks : List RK) (n : Nat) (body : List C → Out) : List D → Option D := fun ds => match body (cells ks ds ++ List.replicate (n - ds.length) .und) with
  | .rt d => some d
  | .nx _ => some .none
  | _ => none
theorem cells_ok {K : PySem.W.Frag} {G : GC} {H F : Hp} (hk : ∀ v d, Dp K H v d → Dp K G.kp v d) : ∀ {ks : List RK} {vs : List V} {ds : List D}, okPs ks = true → RepKs K G H F ks vs ds → (cells ks ds).length = vs.length ∧ ∀ (i : Nat) (c : C), (cells ks ds)[i]? = some c → SlotRep K G H F ((vs.map some)[i]?.join) c []
  | [], [], [], _, _ => ⟨rfl, fun i c e => by simp [cells] at e⟩
  | k :: ks, v :: vs, d :: ds, hp, h => by
    cases k with
    | fz =>
      obtain ⟨h1, h2⟩ := cells_ok hk (show okPs ks = true from hp) h.2
      refine ⟨by simp [cells, h1], fun i c e => ?_⟩
      cases i with
      | zero => simp [cells] at e; subst e; exact ⟨rfl, v, rfl, h.1⟩
      | succ i => simp only [cells, List.getElem?_cons_succ] at e; simpa using h2 i c e
    | vw =>
      obtain ⟨h1, h2⟩ := cells_ok hk (show okPs ks = true from hp) h.2
      refine ⟨by simp [cells, h1], fun i c e => ?_⟩
      cases i with
      | zero => simp [cells] at e; subst e; exact ⟨rfl, v, rfl, hk _ _ h.1⟩
      | succ i => simp only [cells, List.getElem?_cons_succ] at e; simpa using h2 i c e
    | _ => cases hp
  | [], _ :: _, _, _, h => by cases h
  | [], [], _ :: _, _, h => by cases h
  | _ :: _, [], _, _, h => by cases h
  | _ :: _, _ :: _, [], _, h => by cases h
section
variable {P : Program} {w : World} {K : PySem.W.Frag} {mg : Str → Option Value} {base : Heap}
theorem rel_start {ks : List RK} {N : List Str} {vs : List V} {ds : List D} {H F0 : Hp} (hp : okPs ks = true) (sub : Same F0 H) (r : RepKs K ⟨H, F0, [], none⟩ H F0 ks vs ds) (ow : Option World) :
    Rel K ⟨H, F0, [], ow⟩ (cells ks ds ++ List.replicate (N.length - ds.length) .und) (L2.start N vs) H F0 (fun _ => []) := by
  have hk : ∀ v d, Dp K H v d → Dp K (GC.kp ⟨H, F0, [], ow⟩) v d := fun v d h => by
    have e : GC.kp ⟨H, F0, [], ow⟩ = H := by
      funext a
      unfold GC.kp
      exact if_neg List.not_mem_nil
    rw [e]; exact h
  obtain ⟨l1, l2⟩ := cells_ok (G := ⟨H, F0, [], ow⟩) hk hp (RepKs_any hp r)
  obtain ⟨m1, m2⟩ := RepKs_len r
  exact {
    len := by
      unfold L2.start
      rw [List.length_append, List.length_append, List.length_replicate, List.length_replicate, List.length_map, l1, m1]
    slot := fun i c e => by
      by_cases hi : i < (cells ks ds).length
      · rw [List.getElem?_append_left hi] at e
        have q := l2 i c e
        unfold L2.start
        rw [List.getElem?_append_left (by rw [List.length_map, ← l1]; exact hi)]
        exact q
      · rw [List.getElem?_append_right (by omega), List.getElem?_replicate] at e
        split at e
        · cases e; rfl
        · cases e
    dj := fun _ _ _ h => nomatch h
    own := fun _ _ h => nomatch h
    sub := sub
    new := fun _ _ e => .inl e
    old := Same.refl _
    keep := fun _ _ e _ => e
    alive := fun _ e => e }
theorem fn_gen {x qual : Str} {st : Stmt} {f : Addr} {fd : FuncData} {N ps : List Str} {k : Nat} {ks : List RK} {kr : RK} {body : List C → Out} {g : List D → Option D} (F : Fun K x qual st f fd) (S : FnScope N ps (defScope st)) (hl : ks.length = ps.length) (hp : okPs ks = true)
    (hgo : ∀ ds d, g ds = some d → body (cells ks ds ++ List.replicate (N.length - ds.length) .und) = .rt d ∨ (kr = .fz ∧ d = .none ∧ ∃ e, body (cells ks ds ++ List.replicate (N.length - ds.length) .und) = .nx e))
    (hbody : ∀ (cdv : Value) (A : Around) (outer : List Env) (s : Shared) (H : Hp) (E : XK) (G : GC), Room k (A.deeper (PyProof.Rows.envOfC qual (defScope st) s.heap.objs.size f cdv)) → G.W = [] → G.w = some w →
      DSs (cxOf CX0 P w K mg base N qual (defScope st) f cdv A outer s H E).nox G kr (defBody st) body) : FnOk P w K mg base CX0 (k + 1) f fd ps (spP K ks kr g) := by
  refine F.ok S (fun vs H Q E h => ?_) (fun cdv A outer s H vs Q E hr h => ?_)
  · obtain ⟨F0, ds, d, sub, hg, r, q⟩ := h
    obtain ⟨m1, m2⟩ := RepKs_len r
    omega
  · obtain ⟨F0, ds, d, sub, hg, r, q⟩ := h
    obtain ⟨t, pt, o⟩ := (hbody cdv A outer s H E ⟨H, F0, [], some w⟩ hr rfl rfl).ex
    refine ⟨t, pt, o _ H F0 _ _ _ (rel_start (N := N) hp sub r (some w)) ?_⟩
    rcases hgo ds d hg with e | ⟨rfl, rfl, e', e⟩
    · rw [e]
      exact fun v H' F' fin rk => q v H' F' ⟨fun a o e => fin.h a o e List.not_mem_nil, fin.f, fin.sub, fin.new⟩ rk
    · rw [e]
      exact fun σ' H' F' fp' R' s' => q .non H' F' ⟨fun a o e => R'.keep a o e List.not_mem_nil, R'.old, R'.sub, R'.new⟩ .non
theorem fn_pure {x qual : Str} {st : Stmt} {f : Addr} {fd : FuncData} {N ps : List Str} {k : Nat} {ks : List RK} {kr : RK} {body : List C → Out} (F : Fun K x qual st f fd) (S : FnScope N ps (defScope st)) (hl : ks.length = ps.length) (hp : okPs ks = true)
    (hbody : ∀ (cdv : Value) (A : Around) (outer : List Env) (s : Shared) (H : Hp) (E : XK) (G : GC), Room k (A.deeper (PyProof.Rows.envOfC qual (defScope st) s.heap.objs.size f cdv)) → G.W = [] → G.w = some w →
      DSs (cxOf CX0 P w K mg base N qual (defScope st) f cdv A outer s H E).nox G kr (defBody st) body) : FnOk P w K mg base CX0 (k + 1) f fd ps (spP K ks kr (runP ks N.length body)) :=
  fn_gen F S hl hp (fun ds d h => by
    unfold runP at h
    split at h
    · cases h; exact .inl (by assumption)
    · cases h) hbody
end
end DL
namespace DL
open PySem PySem.Spec L2

section
variable {X : Cx} {G : GC} {k k2 kr : RK} {e ei a : Expr} {f fe fi fa : List C → Option D} {pos p1 p2 : Pos} {x : Str}
def alikeB (ds : List D) : Bool := ds.all fun d => ds.all fun d' => W.alike d d'
def isTup1 : D → Bool | .tuple (_ :: _) => true | _ => false
def notNT : D → Bool | .none => false | .tuple _ => false | _ => true
def sortableB (ds : List D) : Bool := ds.all isTup1 || ds.all notNT
def gSorted : List D → Option D | [.list ds] => if alikeB ds = true ∧ sortableB ds = true ∧ (ds.all fun d => decide (d.depth ≤ 60)) = true then some (.list (ds.mergeSort (W.dataLe false fun d => d))) else none | _ => none
def rSortD (K : PySem.W.Frag) : List V → Hp → VK → Prop := fun xs H Q => ∃ (F : Hp) (a : Addr) (vs : List V) (ds : List D), xs = [.ref a] ∧ Same F H ∧ H a = some (.lst vs) ∧ DFAll K F vs ds ∧ alikeB ds = true ∧ sortableB ds = true ∧ (ds.all fun d => decide (d.depth ≤ 60)) = true ∧
  ∀ p ws, H p = none → DFAll K F ws (ds.mergeSort (W.dataLe false fun d => d)) → Q (.ref p) (upd H p (.lst ws))
def flatD : D → Bool | .none => true | .bool _ => true | .int _ => true | .str _ => true | _ => false
def flV : D → V | .none => .non | .bool b => .bl b | .int i => .int i | .str x => .str x | _ => .non
theorem fl_dp {K : PySem.W.Frag} {H : Hp} {v : V} {d : D} (hf : flatD d = true) (h : Dp K H v d) : v = flV d ∧ flatV v = true := by
  cases h with
  | lst _ _ => cases hf
  | tup _ _ => cases hf
  | _ => exact ⟨rfl, rfl⟩
theorem fl_all {K : PySem.W.Frag} {H : Hp} : ∀ {vs : List V} {ds : List D}, ds.all flatD = true → DpAll K H vs ds → vs = ds.map flV ∧ vs.all flatV = true
  | [], _, _, h => by cases h; exact ⟨rfl, rfl⟩
  | v :: vs, _, hf, h => by
    cases h with
    | cons h1 h2 =>
      rw [List.all_cons, Bool.and_eq_true] at hf
      obtain ⟨a1, a2⟩ := fl_dp hf.1 h1
      obtain ⟨b1, b2⟩ := fl_all hf.2 h2
      exact ⟨by rw [List.map_cons, ← a1, ← b1], by rw [List.all_cons, a2, b2]; rfl⟩
def inF (x : D) (ys : List D) : Bool := inV (flV x) (ys.map flV)
def gInF : D → D → Option D
  | x, .tuple ys => if flatD x = true ∧ ys.all flatD = true then some (.bool (inF x ys)) else none
  | x, .list ys => if flatD x = true ∧ ys.all flatD = true then some (.bool (inF x ys)) else none
  | _, _ => none
def gNotInF : D → D → Option D
  | x, .tuple ys => if flatD x = true ∧ ys.all flatD = true then some (.bool (!inF x ys)) else none
  | x, .list ys => if flatD x = true ∧ ys.all flatD = true then some (.bool (!inF x ys)) else none
  | _, _ => none
theorem inF_ok {H F : Hp} {vx vy : V} {dx dy d : D} {Q : VK} {neg : Bool} (sub : Same F H) (rx : Dp X.K H vx dx) (ry : Dp X.K H vy dy) (hd : (if neg then gNotInF dx dy else gInF dx dy) = some d)
    (q : ∀ v H' F', Ext H F H' F' → RepK X.K G .fz H H' F' v d → Q v H') : rIn X.K neg vx vy H Q := by
  have go : ∀ ys vs p, (SqL X.K H p vs ∨ SqT X.K H p vs) → DpAll X.K H vs ys → flatD dx = true → ys.all flatD = true → d = .bool (if neg then !inF dx ys else inF dx ys) → rIn X.K neg vx (.ref p) H Q := fun ys vs p hs ha h1 h2 e => by
    obtain ⟨a1, a2⟩ := fl_dp h1 rx
    obtain ⟨b1, b2⟩ := fl_all h2 ha
    subst e
    refine ⟨p, vs, rfl, hs, a2, b2, ?_⟩
    have z : inV vx vs = inF dx ys := by unfold inF; rw [a1, b1]
    rw [z]
    exact q _ H F (Ext.refl sub) (.bl _)
  cases neg with
  | true =>
    simp only [if_true] at hd
    unfold gNotInF at hd
    split at hd
    · split at hd <;> cases hd
      rename_i hc
      cases ry with
      | tup h1 h2 => exact go _ _ _ (.inr h1) h2 hc.1 hc.2 rfl
    · split at hd <;> cases hd
      rename_i hc
      cases ry with
      | lst h1 h2 => exact go _ _ _ (.inl h1) h2 hc.1 hc.2 rfl
    · cases hd
  | false =>
    simp only [Bool.false_eq_true, if_false] at hd
    unfold gInF at hd
    split at hd
    · split at hd <;> cases hd
      rename_i hc
      cases ry with
      | tup h1 h2 => exact go _ _ _ (.inr h1) h2 hc.1 hc.2 rfl
    · split at hd <;> cases hd
      rename_i hc
      cases ry with
      | lst h1 h2 => exact go _ _ _ (.inl h1) h2 hc.1 hc.2 rfl
    · cases hd
theorem o_notInF : DOp X G (compareOp .NotIn) .vw .vw .fz gNotInF := ⟨_, op_notIn_seq, fun H F vx vy dx dy d Q sub kp hl rx ry hd q => inF_ok (neg := true) sub rx ry hd q⟩
def gRev : D → Option D | .list xs => some (.list xs.reverse) | _ => none
def eRev (f : List C → Option D) : List C → Option D := fun env => (f env).bind gRev
def sAugIx (i : Nat) (g : D → D → Option D) (fi fe : List C → Option D) : List C → Out := fun env => match env[i]? with
  | some (.lst ds) => (match fi env with
    | some (.int j) => (match atI ds j with
      | some x => (match fe env with
        | some y => (match g x y with
          | some z => (match setAt ds j z with | some ds' => .nx (env.set i (.lst ds')) | none => .err)
          | none => .err)
        | none => .err)
      | none => .err)
    | _ => .err)
  | _ => .err
def sClear (i : Nat) : List C → Out := fun env => match env[i]? with | some (.lst _) => .nx (env.set i (.lst [])) | _ => .err
end
end DL
namespace DL
open PySem PySem.Spec L2
section
variable {X : Cx} {G : GC} {ka kb kr k1 : RK} {g1 g2 : D → D → Option D} {f : Value → Value → Sem Value} {tg iter e a : Expr} {pos : Pos}
def gOr (g1 g2 : D → D → Option D) : D → D → Option D := fun x y => match g1 x y with | some d => some d | none => g2 x y
theorem DOp.or (o1 : DOp X G f ka kb kr g1) (o2 : DOp X G f ka kb kr g2) : DOp X G f ka kb kr (gOr g1 g2) := by
  obtain ⟨r1, p1, q1⟩ := o1.ex
  obtain ⟨r2, p2, q2⟩ := o2.ex
  refine ⟨_, p1.or p2, fun H F vx vy dx dy d Q sub kp hl rx ry hd q => ?_⟩
  unfold gOr at hd
  split at hd
  · rename_i d' e
    cases hd
    exact .inl (q1 H F vx vy dx dy _ Q sub kp hl rx ry e q)
  · exact .inr (q2 H F vx vy dx dy d Q sub kp hl rx ry hd q)
theorem DOp.fz (o : DOp X G f ka kb .ow g1) : DOp X G f ka kb .fz g1 := by
  obtain ⟨r, p, q⟩ := o.ex
  refine ⟨r, p, fun H F vx vy dx dy d Q sub kp hl rx ry hd k => q H F vx vy dx dy d Q sub kp hl rx ry hd fun v H' F' E r => ?_⟩
  obtain ⟨a, vs, ds, rfl, rfl, h1, h2, h3, h4⟩ := r
  have m : Same F' (upd F' a (.lst vs)) := fun b x e => by rw [upd_ne (ne_of_none e h3)]; exact e
  refine k _ H' (upd F' a (.lst vs)) ⟨E.h, E.f.trans m, fun b x e => ?_, fun b x e => ?_⟩ (.lst upd_same (DFAll_mono m _ _ h4))
  · by_cases hb : b = a
    · subst hb; rw [upd_same] at e; rw [← e]; exact h2
    · rw [upd_ne hb] at e; exact E.sub _ _ e
  · by_cases hb : b = a
    · subst hb; exact .inr h1
    · rw [upd_ne hb] at e; exact E.new _ _ e
theorem repA_vw {K : PySem.W.Frag} {H F : Hp} {v : V} {d : D} (sub : Same F H) (r : RepA K G .vl H F v d) : RepA K G .vw H F v d := by
  rcases r with r | ⟨a, vs, ds, rfl, rfl, e3, e4⟩
  · exact Dp_mono sub _ _ (DF.dp _ _ r)
  · exact .lst (.inl (.inl e3)) (DpAll_mono sub _ _ (DFAll.dp _ _ e4))
theorem DOp.vl (o : DOp X G f .vw .vw kr g1) : DOp X G f .vl .vl kr g1 := by
  obtain ⟨r, p, q⟩ := o.ex
  exact ⟨r, p, fun H F vx vy dx dy d Q sub kp hl rx ry hd k => q H F vx vy dx dy d Q sub kp hl (repA_vw sub rx) (repA_vw sub ry) hd k⟩
def gAdd : D → D → Option D := gOr gAddI (gOr gAddS (gOr gAddL gAddT))
theorem o_add : DOp X G (binaryOp .Add) .vl .vl .fz gAdd := o_addI.or (o_addS.or (o_addL.fz.or o_addT))
def strRep (x : Str) (k : Nat) : Str := ⟨(List.replicate k x.cps.toList).flatten.toArray⟩
theorem foldl_arr (c : Array Nat) : ∀ (k : Nat) (acc : List Nat), (List.replicate k c).foldl (· ++ ·) acc.toArray = (acc ++ (List.replicate k c.toList).flatten).toArray
  | 0, acc => by simp
  | k + 1, acc => by
    rw [List.replicate_succ, List.foldl_cons, List.replicate_succ, List.flatten_cons, ← List.append_assoc]
    have e : acc.toArray ++ c = (acc ++ c.toList).toArray := by
      apply Array.ext'
      simp
    rw [e]
    exact foldl_arr c k _
theorem op_mulS : OpR X (binaryOp .Mult) (fun x y H Q => ∃ z k, x = .str z ∧ y = .int k ∧ 0 ≤ k ∧ k ≤ 1000 ∧ z.length ≤ 1000 ∧ Q (.str (strRep z k.toNat)) H) := by
  intro pins s σ H x y v u Q I rx ry h
  obtain ⟨z, k, rfl, rfl, h0, h1, h2, q⟩ := h
  obtain ⟨t, rfl⟩ := rx
  obtain ⟨t', rfl⟩ := ry
  have hn : z.length * k.toNat ≤ 1000000 := Nat.le_trans (Nat.mul_le_mul h2 (by omega : k.toNat ≤ 1000)) (by decide)
  have fin : ∀ tk, EP X pins σ Q (.str (strRep z k.toNat) tk) { s with toks := s.toks + 1 } := fun tk => ⟨.str (strRep z k.toNat), H, I.tok _, ⟨tk, rfl⟩, q⟩
  refine P.mul_str ?_ (fun hk _ => ?_) (fun hk _ => ?_) ?_
  · rw [decide_eq_false (by omega), decide_eq_false (by omega)]; rfl
  · intro hc
    have hk' : 0 < k := by omega
    have a1 : (2 ^ 63 - 1) / k ≥ (2 ^ 63 - 1) / 1000 := by
      refine Int.le_ediv_of_mul_le hk' ?_
      have : (2 ^ 63 - 1) / 1000 * k ≤ (2 ^ 63 - 1) / 1000 * 1000 := Int.mul_le_mul_of_nonneg_left h1 (by decide)
      omega
    have a2 : ((2 : Int) ^ 63 - 1) / 1000 ≥ 1000 := by decide
    omega
  · show decide (z.length * k.toNat > sizeLine) = false
    exact decide_eq_false (by rw [sizeLine_eq]; omega)
  · split
    · rename_i hk
      have e : strRep z k.toNat = Str.empty := by
        have : k.toNat = 0 := by omega
        unfold strRep
        rw [this]; rfl
      refine ⟨by decide, ?_⟩
      have := fin s.toks
      rw [e] at this
      exact this
    · split
      · rename_i hk hc
        have e : strRep z k.toNat = z := by
          rcases Bool.or_eq_true_iff.mp hc with y | y
          · have : k.toNat = 1 := by
              have := beq_iff_eq.mp y
              omega
            unfold strRep
            rw [this]
            simp
          · have y' := beq_iff_eq.mp y
            unfold strRep
            have : z.cps.toList = [] := List.eq_nil_of_length_eq_zero (by rw [Array.length_toList]; exact y')
            rw [this]
            apply Str.ext'
            apply Array.ext'
            simp [this]
        show EP X pins σ Q (.str z t) s
        exact ⟨.str z, H, I, ⟨t, rfl⟩, by rw [e] at q; exact q⟩
      · have e : (⟨(List.replicate k.toNat z.cps).foldl (· ++ ·) #[]⟩ : Str) = strRep z k.toNat := by
          unfold strRep
          have := foldl_arr z.cps k.toNat []
          rw [List.nil_append] at this
          rw [← this]
        rw [e]
        refine ⟨?_, fin s.toks⟩
        unfold strRep Str.length
        rw [List.size_toArray, PyProof.Rows.lm_len_rep_flat, Array.length_toList, sizeLine_eq]
        have : k.toNat * z.cps.size ≤ 1000000 := by rw [Nat.mul_comm]; exact hn
        omega
def gMulS : D → D → Option D | .str x, .int k => if 0 ≤ k ∧ k ≤ 1000 ∧ x.length ≤ 1000 then some (.str (strRep x k.toNat)) else none | _, _ => none
theorem o_mulS : DOp X G (binaryOp .Mult) .vl .vl .fz gMulS := ⟨_, op_mulS, fun H F vx vy dx dy d Q sub kp hl rx ry hd q => by
  unfold gMulS at hd
  split at hd
  · split at hd <;> cases hd
    rename_i hc
    have e1 := vl_str rx
    have e2 := vl_int ry
    subst e1 e2
    exact ⟨_, _, rfl, rfl, hc.1, hc.2.1, hc.2.2, q _ H F (Ext.refl sub) (.str _)⟩
  · cases hd⟩
def gEq : D → D → Option D := gOr gEqS gEqD
def gNe : D → D → Option D := gOr gNeS gNeD
theorem scal_vl {K : PySem.W.Frag} {H F : Hp} {v : V} {d : D} (hs : scalD d = true) (r : Dp K H v d) : RepA K G .vl H F v d := by
  cases r with
  | lst _ _ => cases hs
  | tup _ _ => cases hs
  | non => exact .inl .non
  | bl b => exact .inl (.bl b)
  | int i => exact .inl (.int i)
  | str x => exact .inl (.str x)
theorem o_eqSw : DOp X G (compareOp .Eq) .vw .vw .fz gEqS := by
  obtain ⟨r, p, q⟩ := (o_eqS (X := X) (G := G)).ex
  refine ⟨r, p, fun H F vx vy dx dy d Q sub kp hl rx ry hd k => q H F vx vy dx dy d Q sub kp hl (scal_vl ?_ rx) (scal_vl ?_ ry) hd k⟩
  · unfold gEqS at hd; split at hd <;> first | rfl | cases hd
  · unfold gEqS at hd; split at hd <;> first | rfl | cases hd
theorem o_neSw : DOp X G (compareOp .NotEq) .vw .vw .fz gNeS := by
  obtain ⟨r, p, q⟩ := (o_neS (X := X) (G := G)).ex
  refine ⟨r, p, fun H F vx vy dx dy d Q sub kp hl rx ry hd k => q H F vx vy dx dy d Q sub kp hl (scal_vl ?_ rx) (scal_vl ?_ ry) hd k⟩
  · unfold gNeS at hd; split at hd <;> first | rfl | cases hd
  · unfold gNeS at hd; split at hd <;> first | rfl | cases hd
theorem o_eq (hu : X.A.units + 64 < cLine) : DOp X G (compareOp .Eq) .vw .vw .fz gEq := o_eqSw.or (o_eqD hu)
theorem o_ne (hu : X.A.units + 64 < cLine) : DOp X G (compareOp .NotEq) .vw .vw .fz gNe := o_neSw.or (o_neD hu)
def gIn : D → D → Option D := gOr gInF gInL
def gNotIn : D → D → Option D := gOr gNotInF gNotInL
theorem o_notIn (hu : X.A.units + 65 < cLine) : DOp X G (compareOp .NotIn) .vw .vw .fz gNotIn := o_notInF.or (o_notInL hu)
def gMul : D → D → Option D := gOr gMulI (gOr gMulS (gOr gMulL gMulT))
theorem o_mul : DOp X G (binaryOp .Mult) .vl .vl .fz gMul := o_mulI.or (o_mulS.or (o_mulL.fz.or o_mulT))
def gSlS : D → Option Int → Option Int → Option D | .str z, l, u => if z.length ≤ sizeLine then some (.str (cutS z l u)) else none | _, _, _ => none
def gSl : D → Option Int → Option Int → Option D
  | .list xs, l, u => some (.list (cutD xs l u))
  | .tuple xs, l, u => some (.tuple (cutD xs l u))
  | .str z, l, u => if z.length ≤ sizeLine then some (.str (cutS z l u)) else none
  | _, _, _ => none
theorem d_sl {lo hi : Option Expr} {fa : List C → Option D} {fl fu : List C → Option (Option Int)} {p2 : Pos} (ha : DE X G k1 a fa) (hl : DP X G lo fl) (hu : DP X G hi fu) (h1 : k1.le .vl = true := by rfl) : DE X G .fz (.Subscript a (.Slice lo hi none p2) pos) (e3 gSl fa fl fu) :=
  d_slice (ka := .vl) (sl_list.or (sl_tupA.or sl_str)) (fun H F vx dx d l u Q sub kp hlen rx hd q => by
    unfold gSl at hd
    split at hd
    · cases hd
      obtain ⟨p, vs, rfl, h1, h2⟩ := vl_list sub rx
      refine .inl ⟨p, vs, rfl, .inl (.inl h1), fun n nn => ?_⟩
      have m : Same F (upd F n (.lst (cutV vs l u))) := fun b x e => by rw [upd_ne (ne_of_none e (sub.free nn))]; exact e
      exact q _ _ _ (Ext.frozen sub nn) (.lst upd_same (DFAll_mono m _ _ (cut_rep h2 l u)))
    · rename_i xs
      cases hd
      have fx : ∃ a vs, vx = .ref a ∧ SqT X.K F a vs ∧ DFAll X.K F vs xs := by
        rcases rx with rx | ⟨_, _, _, _, z, _⟩
        · cases rx with | tup h1 h2 => exact ⟨_, _, rfl, h1, h2⟩
        · cases z
      obtain ⟨p, vs, rfl, h1, h2⟩ := fx
      refine .inr (.inl ⟨p, vs, rfl, Same.seqT sub h1, fun hw => ?_, fun hw n nn => ?_⟩)
      · have e : cutV vs l u = vs := by
          unfold cutV
          rw [hw.1, hw.2]
          exact List.take_length
        have r := cut_rep h2 l u
        rw [e] at r
        exact q _ H F (Ext.refl sub) (.tup h1 r)
      · obtain ⟨E, r⟩ := new_tup sub nn (cut_rep h2 l u)
        exact q _ _ _ E r
    · split at hd <;> cases hd
      have e1 := vl_str rx
      subst e1
      exact .inr (.inr ⟨_, rfl, by assumption, q _ H F (Ext.refl sub) (.str _)⟩)
    · cases hd) ha hl hu h1
def iAny (f : List C → Option D) : List C → Option (List D) := fun env => match f env with
  | some (.list ds) => some ds
  | some (.tuple ds) => some ds
  | some (.str z) => if z.length ≤ sizeLine then some (z.cps.toList.map fun c => .str ⟨#[c]⟩) else none
  | _ => none
theorem di_any {k : RK} {f : List C → Option D} (h : DE X G k e f) (hk : k.le .fz = true := by rfl) : DI X G tg e (iAny f) := by
  obtain ⟨w1, p1, o1⟩ := (di_seq (tg := tg) h hk).ex
  obtain ⟨w2, p2, o2⟩ := (di_str (tg := tg) (h.conv hk)).ex
  refine ⟨_, pi_or p1 p2, fun σ H F fp env items R Rl hf q => ?_⟩
  unfold iAny at hf
  split at hf
  · rename_i ds z
    cases hf
    exact .inl (o1 σ H F fp env _ R Rl (by unfold iSeq; rw [z]) q)
  · rename_i ds z
    cases hf
    exact .inl (o1 σ H F fp env _ R Rl (by unfold iSeq; rw [z]) q)
  · rename_i s z
    exact .inr (o2 σ H F fp env _ R Rl (by unfold iStrF; rw [z]; exact hf) q)
  · cases hf
end
def Free (mg : Str → Option Value) (x : Str) : Prop := mg x = none
end DL
namespace DL
open PySem PySem.Spec L2
theorem hu64 {A : Around} {k : Nat} (hr : Room k A) : A.units + 64 < cLine := hr.units
theorem hu65 {A : Around} {k : Nat} (hr : Room k A) : A.units + 65 < cLine := by have := hr.un; omega
section
variable {X : Cx} {G : GC} {k kr : RK} {e a : Expr} {f fa : List C → Option D} {pos p pos' : Pos} {tg : Expr}
def gAddIS : D → D → Option D := gOr gAddI gAddS
theorem a_add : DOp X G (inplaceOp .Add) .vl .vl .fz gAddIS := a_addI.or a_addS
def isNoD : D → Bool | .none => true | _ => false
def eIsN (f : List C → Option D) : List C → Option D := fun env => (f env).map fun d => .bool (isNoD d)
def eNotN (f : List C → Option D) : List C → Option D := fun env => (f env).map fun d => .bool (!isNoD d)
def iSeqB (f : List C → Option D) : List C → Option (List D) := fun env => match f env with | some (.list ds) => if ds.all scalD = true then some ds else none | _ => none
end
end DL
namespace DL
open PySem PySem.Spec L2
def SqB (kd : Bool) (K : PySem.W.Frag) (H : Hp) (a : Addr) (xs : List V) : Prop := if kd = true then SqT K H a xs else SqL K H a xs
def IsB (kd : Bool) (h : Heap) (a : Addr) (its : Array Value) : Prop := if kd = true then h.IsTuple a its else h.IsList a its
def ItB (kd : Bool) (h : Heap) (i a : Addr) (n : Nat) : Prop := if kd = true then h.IsTupleIter i a n else h.IsListIter i a n
def itO (kd : Bool) (a : Addr) : Obj := if kd = true then ⟨.type "tuple_iterator", none, .fields #[.ref a, .int 0 0], #[]⟩ else ⟨.type "list_iterator", none, .fields #[.ref a, .int 0 0], #[]⟩
theorem begins_B (kd : Bool) (a : Addr) (its : Array Value) : Begins (.ref a) (itO kd a) fun h => IsB kd h a its := by
  cases kd
  · exact begins_list a its
  · exact begins_tuple a its
theorem itO_at {kd : Bool} {h : Heap} {i a : Addr} (e : h.get? i = some (itO kd a)) : ItB kd h i a 0 := by
  cases kd
  · exact ⟨_, e, rfl, rfl⟩
  · exact ⟨_, e, rfl, rfl⟩
theorem draws_B (kd : Bool) {P : Program} {w : World} {A : Around} (hh : A.handled = none) (i a : Addr) (hne : a ≠ i) (its : Array Value) :
    Draws P w A i [i, a] its.size (fun n v => its[n]? = some v) (fun n h => ItB kd h i a n ∧ IsB kd h a its) := by
  cases kd
  · exact Draws.list hh i a hne its
  · exact Draws.tuple hh i a hne its
theorem itB_keep {kd : Bool} {h h' : Heap} {i a : Addr} {n : Nat} (x : ItB kd h i a n) (k : ∀ o, h.get? i = some o → h'.get? i = some o) : ItB kd h' i a n := by
  cases kd
  · obtain ⟨o, e, p⟩ := (show h.IsListIter i a n from x); exact ⟨o, k o e, p⟩
  · obtain ⟨o, e, p⟩ := (show h.IsTupleIter i a n from x); exact ⟨o, k o e, p⟩
theorem itB_obj {kd : Bool} {h : Heap} {i a : Addr} {n : Nat} (x : ItB kd h i a n) : ∃ o, h.get? i = some o ∧ ∀ v, o.data ≠ .cell v := by
  cases kd
  · obtain ⟨o, e, _, d⟩ := (show h.IsListIter i a n from x); exact ⟨o, e, fun v q => by rw [d] at q; cases q⟩
  · obtain ⟨o, e, _, d⟩ := (show h.IsTupleIter i a n from x); exact ⟨o, e, fun v q => by rw [d] at q; cases q⟩
section
variable {X : Cx} {pins : List (Addr × Obj)} {σ : L2.St} {H : Hp} {s : Shared} {a : Addr} {xs ys : List V} {kd : Bool}
theorem seq_B (I : Inv X pins σ H s) (h : SqB kd X.K H a xs) : ∃ its : List Value, Vals xs its ∧ IsB kd s.heap a its.toArray := by
  cases kd
  · obtain ⟨its, r, p, _⟩ := I.list h
    exact ⟨its, r, p.isList⟩
  · obtain ⟨its, r, p, _⟩ := I.tuple h
    exact ⟨its, r, p⟩
theorem inj_B (I : Inv X pins σ H s) (h : SqB kd X.K H a xs) (h' : SqB kd X.K H a ys) : xs = ys := by
  cases kd
  · exact I.list_inj h h'
  · exact I.tuple_inj h h'
theorem isB_lt {h : Heap} {its : Array Value} (x : IsB kd h a its) : a < h.objs.size := by
  cases kd
  · obtain ⟨o, e, _⟩ := (show h.IsList a its from x); exact Heap.lt_size e
  · obtain ⟨o, e, _⟩ := (show h.IsTuple a its from x); exact Heap.lt_size e
end
def ItzM (K : PySem.W.Frag) (k1 k2 : Bool) (a b : Addr) (n1 n2 : Nat) : It where
  go := fun i H => ∃ (xs ys : List V) (x y : V), SqB k1 K H a xs ∧ SqB k2 K H b ys ∧ xs.length = n1 ∧ ys.length = n2 ∧ xs[i]? = some x ∧ ys[i]? = some y
  yld := fun i H v H' => ∃ T x y, v = .ref T ∧ H T = none ∧ H' = upd H T (.tup [x, y]) ∧ (∀ xs, SqB k1 K H a xs → xs[i]? = some x) ∧ ∀ ys, SqB k2 K H b ys → ys[i]? = some y
  stop := fun i H => ∃ xs ys : List V, SqB k1 K H a xs ∧ SqB k2 K H b ys ∧ xs.length = n1 ∧ ys.length = n2 ∧ (n1 ≤ i ∨ n2 ≤ i)
def tnM (k1 k2 : Bool) (a b z TI TO i1 i2 : Addr) (n1 n2 : Nat) (i : Nat) (h : Heap) : Prop :=
  IsZip h z TI TO .none ∧ IsTupOf2 h TI (.ref i1) (.ref i2) ∧ (∃ x y, IsTupOf2 h TO x y) ∧ ItB k1 h i1 a i ∧ ItB k2 h i2 b i ∧ i ≤ n1 ∧ i ≤ n2
theorem five {z TI TO i1 i2 c : Addr} (h : c ∈ [z, TI, TO, i1, i2]) : c = z ∨ c = TI ∨ c = TO ∨ c = i1 ∨ c = i2 := by simpa using h
theorem turn_M {P : Program} {w : World} {K : PySem.W.Frag} {elts : List Expr} {kk : Nat} {tpos : Pos} {k1 k2 : Bool} {a b z TI TO i1 i2 : Addr} {n1 n2 : Nat} (S : ZipSep2 z TI TO i1 i2 [i1, a] [i2, b]) (ha : a ≠ i1) (hb : b ≠ i2) :
    Turn P w K (.Tuple elts kk tpos) (ItzM K k1 k2 a b n1 n2) [z, TI, TO, i1, i2] z (tnM k1 k2 a b z TI TO i1 i2 n1 n2) where
  mem := List.mem_cons_self
  obj := fun i h st c hc => by
    obtain ⟨hz, hTI, ⟨x, y, hTO⟩, h1, h2, _, _⟩ := st
    rcases five hc with rfl | rfl | rfl | rfl | rfl
    · exact ⟨_, hz, fun v q => nomatch q⟩
    · exact ⟨_, hTI, fun v q => nomatch q⟩
    · exact ⟨_, hTO, fun v q => nomatch q⟩
    · exact itB_obj h1
    · exact itB_obj h2
  keep := fun i h h' st k => by
    obtain ⟨hz, hTI, ⟨x, y, hTO⟩, h1, h2, l1, l2⟩ := st
    exact ⟨k _ (by simp) _ hz, k _ (by simp) _ hTI, ⟨x, y, k _ (by simp) _ hTO⟩, itB_keep h1 (k _ (by simp)), itB_keep h2 (k _ (by simp)), l1, l2⟩
  item := by
    intro X eP ew eK hc i pins s σ H E I hf st hg
    subst eP ew eK
    obtain ⟨hz, hTI, ⟨x0, y0, hTO⟩, h1, h2, l1, l2⟩ := st
    obtain ⟨xs, ys, x, y, qx, qy, ex, ey, gx, gy⟩ := hg
    obtain ⟨us, r1, p1⟩ := seq_B I qx
    obtain ⟨ws, r2, p2⟩ := seq_B I qy
    obtain ⟨u, gu, ru⟩ := r1.get gx
    obtain ⟨v, gv, rv⟩ := r2.get gy
    have m1 : i < us.toArray.size := by
      rw [List.size_toArray]; exact (List.getElem?_eq_some_iff.mp gu).1
    have m2 : i < ws.toArray.size := by
      rw [List.size_toArray]; exact (List.getElem?_eq_some_iff.mp gv).1
    have hh : X.A.in1.handled = none := I.ok.hd hc
    have zl : z < s.heap.objs.size := Heap.lt_size hz
    refine wpAny_pyNext_zipD2_item S (draws_B k1 hh i1 a ha us.toArray) (draws_B k2 hh i2 b hb ws.toArray) hz hTI hTO ⟨h1, p1⟩ ⟨h2, p2⟩ m1 m2 fun x1 x2 h' tk y1 y2 z' o' t1 t2 hT _ hk => ?_
    have e1 : x1 = u := by
      have y1 : us.toArray[i]? = some x1 := y1
      rw [List.getElem?_toArray, gu] at y1; exact (Option.some.inj y1).symm
    have e2 : x2 = v := by
      have y2 : ws.toArray[i]? = some x2 := y2
      rw [List.getElem?_toArray, gv] at y2; exact (Option.some.inj y2).symm
    subst e1 e2
    refine ⟨_, rfl, wpAny_letOwnedTupleGo_zip (s := ⟨h', s.gens, s.drawn, tk, s.os⟩) z' fun h2' z2 sb => ?_⟩
    have hT2 : h2'.get? s.heap.objs.size = some ⟨.type "tuple", none, .seq #[x1, x2], #[]⟩ := (sb.2 _ (Nat.ne_of_gt zl)).trans hT
    have new : ObjOk X.prog X.w (upd H s.heap.objs.size (.tup [x, y])) h2' s.heap.objs.size (.tup [x, y]) :=
      ⟨by show 2 ≤ sizeLine; rw [sizeLine_eq]; decide, [x1, x2], .cons ru (.cons rv .nil), ⟨_, hT2, rfl, _, rfl⟩⟩
    have away : ∀ c o, c ∉ [z, TI, TO, i1, i2] → s.heap.get? c = some o → h2'.get? c = some o := fun c o hn q => by
      refine (sb.2 c fun e => hn (by simp [e])).trans (hk c o (fun e => hn (by simp [e])) (fun e => hn (by simp [e])) (fun e => hn (by simp [e])) (fun e => hn (by simp [e])) q)
    have J : Inv X pins σ (upd H s.heap.objs.size (.tup [x, y])) ⟨h2', s.gens, s.drawn, tk, s.os⟩ := I.turnedNew (t' := tk) away hf (Nat.le_refl _) new
    refine ⟨.ref s.heap.objs.size, _, J, rfl, ⟨_, x, y, rfl, I.hok.fresh (Nat.le_refl _), rfl, fun l hl => by rw [inj_B I hl qx]; exact gx, fun l hl => by rw [inj_B I hl qy]; exact gy⟩, ⟨z2, ?_, ⟨_, _, (sb.2 _ S.TOz).trans o'⟩, ?_, ?_, ?_, ?_⟩, fun c hcm => ?_⟩
    · exact (sb.2 _ S.TIz).trans (hk _ _ S.TIz S.TITO S.TIi1 S.TIi2 hTI)
    · exact itB_keep t1.1 fun o q => (sb.2 _ (Ne.symm S.zi1)).trans q
    · exact itB_keep t2.1 fun o q => (sb.2 _ (Ne.symm S.zi2)).trans q
    · rw [← ex]; exact (List.getElem?_eq_some_iff.mp gx).1
    · rw [← ey]; exact (List.getElem?_eq_some_iff.mp gy).1
    · have hlt : c < s.heap.objs.size := by
        rcases five hcm with rfl | rfl | rfl | rfl | rfl
        · exact zl
        · exact Heap.lt_size hTI
        · exact Heap.lt_size hTO
        · obtain ⟨o, e, _⟩ := itB_obj h1; exact Heap.lt_size e
        · obtain ⟨o, e, _⟩ := itB_obj h2; exact Heap.lt_size e
      rw [upd_ne (Nat.ne_of_lt hlt)]
      exact (hf c hcm).1
  done := by
    intro X eP ew eK hc i pins s σ H E I hf st hg
    subst eP ew eK
    obtain ⟨hz, hTI, ⟨x0, y0, hTO⟩, h1, h2, l1, l2⟩ := st
    obtain ⟨xs, ys, qx, qy, ex, ey, hend⟩ := hg
    obtain ⟨us, r1, p1⟩ := seq_B I qx
    obtain ⟨ws, r2, p2⟩ := seq_B I qy
    have m1 : us.toArray.size = n1 := by rw [List.size_toArray, ← r1.length, ex]
    have m2 : ws.toArray.size = n2 := by rw [List.size_toArray, ← r2.length, ey]
    have hh : X.A.in1.handled = none := I.ok.hd hc
    refine wpAny_pyNext_zipD2_end S (draws_B k1 hh i1 a ha us.toArray) (draws_B k2 hh i2 b hb ws.toArray) hz hTI hTO ⟨h1, p1⟩ ⟨h2, p2⟩ (by omega) (by omega) (by omega) fun h' tk hk => ⟨rfl, ?_⟩
    exact I.turnedL (t' := tk) (ch := [z, TI, TO, i1, i2]) (fun c o hn q => hk c o (fun e => hn (by simp [e])) (fun e => hn (by simp [e])) (fun e => hn (by simp [e])) (fun e => hn (by simp [e])) q) hf
  self := fun A i s Q E st h => wpAny_pyIter_zip st.1 h
def iZipX (K : PySem.W.Frag) (ta : TA) : TI := fun σ H R => ta σ H fun vs H1 => ∃ k1 k2 a b xs ys, vs = [.ref a, .ref b] ∧ SqB k1 K H1 a xs ∧ SqB k2 K H1 b ys ∧ R (ItzM K k1 k2 a b xs.length ys.length) H1
theorem pi_zipX {X : Cx} {e e2 : Expr} {ta : TA} {p pos tpos : Pos} {elts : List Expr} {kk : Nat} (hg : Gl X "zip") (hm : X.mg "zip" = none) (ha : PA X [e, e2] ta)
    (hs : starEach [e, e2] X.env = (false, eval e X.env) :: starEach [e2] X.env) (hpl : (backTo pos (starEach [e2] X.env)).any (·.1) = false) : PI X (.Tuple elts kk tpos) (.Call (.Name "zip" p) [e, e2] [] pos) (iZipX X.K ta) := by
  refine ⟨fun pins s σ H R I h => ?_⟩
  refine PyProof.Rows.Call_ (ld_blt I hg hm PyProof.Rows.boot_zip (PyProof.Rows.callWith_type1 (thn (ha.run pos pins s σ H _ I h) fun us s1 ⟨vs, H1, I1, r1, q1⟩ => ?_) hs hpl))
  obtain ⟨k1, k2, a, b, xs, ys, rfl, qx, qy, q⟩ := q1
  obtain ⟨us1, m1, p1⟩ := seq_B I1 qx
  obtain ⟨us2, m2, p2⟩ := seq_B I1 qy
  rcases r1 with _ | ⟨⟨⟩, _ | ⟨⟨⟩, _ | _⟩⟩
  have la := isB_lt p1
  have lb := isB_lt p2
  have new : ∀ c, c ∈ [s1.heap.objs.size + 4, s1.heap.objs.size + 2, s1.heap.objs.size + 3, s1.heap.objs.size, s1.heap.objs.size + 1] → FpOk X pins H1 c := fun c hcm => by
    have le : s1.heap.objs.size ≤ c := by
      rcases five hcm with rfl | rfl | rfl | rfl | rfl
      · exact Nat.le_add_right _ _
      · exact Nat.le_add_right _ _
      · exact Nat.le_add_right _ _
      · exact Nat.le_refl _
      · exact Nat.le_add_right _ _
    exact I1.fpOk le (I1.hok.fresh le)
  refine zip_begins2 (begins_B k1 a us1.toArray) (begins_B k2 b us2.toArray) p1 p2 fun h' hz hTI hTO g1 g2 _ hk => wpAny_pyIter_zip hz ?_
  have I2 : Inv X pins σ H1 { s1 with heap := h' } := I1.kept (t' := s1.toks) hk
  have S := zip_sep2 (N := s1.heap.objs.size) (fp1 := [a]) (fp2 := [b]) (fun c hc => by rw [List.mem_singleton.mp hc]; exact la) (fun c hc => by rw [List.mem_singleton.mp hc]; exact lb)
  exact ⟨_, _, _, _, H1, rfl, I2, turn_M S (Nat.ne_of_lt la) (Nat.ne_of_lt (Nat.lt_succ_of_lt lb)), ⟨hz, hTI, ⟨_, _, hTO⟩, itO_at g1, itO_at g2, Nat.zero_le _, Nat.zero_le _⟩, new, q⟩
def sqD : D → Option (Bool × List D) | .list xs => some (false, xs) | .tuple xs => some (true, xs) | _ => none
def iZipG (f g : List C → Option D) : List C → Option (List D) := fun env => ((f env).bind sqD).bind fun x => ((g env).bind sqD).bind fun y => some (zipD x.2 y.2)
theorem sqD_df {K : PySem.W.Frag} {F : Hp} {v : V} {d : D} {k : Bool} {ds : List D} (e : sqD d = some (k, ds)) (r : DF K F v d) : ∃ a vs, v = .ref a ∧ SqB k K F a vs ∧ DFAll K F vs ds := by
  unfold sqD at e
  split at e <;> cases e
  · cases r with | lst h1 h2 => exact ⟨_, _, rfl, .inl (.inl h1), h2⟩
  · cases r with | tup h1 h2 => exact ⟨_, _, rfl, h1, h2⟩
theorem sqB_mono {K : PySem.W.Frag} {H H' : Hp} {k : Bool} {a : Addr} {vs : List V} (s : Same H H') (h : SqB k K H a vs) : SqB k K H' a vs := by
  cases k
  · exact s.seq h
  · exact Same.seqT s h
theorem lenB {K : PySem.W.Frag} {H : Hp} {k : Bool} {a : Addr} {vs : List V} (l : LenOk K H) (h : SqB k K H a vs) : vs.length ≤ sizeLine := by
  cases k
  · exact l a vs (.inl h)
  · exact l a vs (.inr h)
theorem di_zipG {X : Cx} {G : GC} {e e2 : Expr} {k k2 : RK} {f f2 : List C → Option D} {p pos : Pos} {elts : List Expr} {kk : Nat} {tpos : Pos} (hg : Gl X "zip") (hm : X.mg "zip" = none) (h : DE X G k e f) (h2 : DE X G k2 e2 f2) (hk : k.le .fz = true := by rfl) (hk2 : k2.le .fz = true := by rfl)
    (hs : starEach [e, e2] X.env = (false, eval e X.env) :: starEach [e2] X.env := by rfl) (hs2 : starEach [e2] X.env = [(false, eval e2 X.env)] := by rfl) (hpl : (backTo pos (starEach [e2] X.env)).any (·.1) = false := by rfl) :
    DI X G (.Tuple elts kk tpos) (.Call (.Name "zip" p) [e, e2] [] pos) (iZipG f f2) := by
  obtain ⟨t, pt, o⟩ := (h.conv hk).ex
  obtain ⟨t2, pt2, o2⟩ := (h2.conv hk2).ex
  refine ⟨_, pi_zipX hg hm (pa_cons pt (pa_cons pt2 pa_nil hs2) hs) hs hpl, fun σ H F fp env items R Rl hf q => ?_⟩
  unfold iZipG at hf
  cases z1 : f env with
  | none => rw [z1] at hf; cases hf
  | some d1 =>
    rw [z1, Option.bind_some] at hf
    cases y1 : sqD d1 with
    | none => rw [y1] at hf; cases hf
    | some x1 =>
      rw [y1, Option.bind_some] at hf
      cases z2 : f2 env with
      | none => rw [z2] at hf; cases hf
      | some d2 =>
        rw [z2, Option.bind_some] at hf
        cases y2 : sqD d2 with
        | none => rw [y2] at hf; cases hf
        | some x2 =>
          rw [y2, Option.bind_some] at hf
          cases hf
          obtain ⟨ka, xs⟩ := x1
          obtain ⟨kb, ys⟩ := x2
          refine o σ H F fp env _ _ Rl z1 fun v H1 F1 E1 r => ?_
          refine o2 σ H1 F1 fp env _ _ (Rl.ext E1) z2 fun v2 H2 F2 E2 r2 => ?_
          obtain ⟨a, vs, rfl, s1, m1⟩ := sqD_df y1 (DF_mono E2.f _ _ r)
          obtain ⟨b, ws, rfl, s2, m2⟩ := sqD_df y2 r2
          have n1 := DFAll_len m1
          have n2 := DFAll_len m2
          refine ⟨ka, kb, a, b, vs, ws, rfl, sqB_mono E2.sub s1, sqB_mono E2.sub s2, q _ H2 F2 (E1.trans E2) (fun i H3 F3 t1 t2 => ⟨fun d hd => ?_, fun hl => ?_⟩) fun ln => ?_⟩
          · obtain ⟨c1, c2, g1, g2, rfl⟩ := zipD_get hd
            obtain ⟨v, hv, rv⟩ := DFAll_get m1 g1
            obtain ⟨w, hw, rw'⟩ := DFAll_get m2 g2
            have ea := sqB_mono (t1.trans t2) s1
            have eb := sqB_mono (t1.trans t2) s2
            refine ⟨⟨vs, ws, v, w, ea, eb, rfl, rfl, hv, hw⟩, fun x H4 ⟨T, x1, x2, ex, nT, eH, j1, j2⟩ => ?_⟩
            have i1 := j1 vs ea; rw [hv] at i1; cases i1
            have i2 := j2 ws eb; rw [hw] at i2; cases i2
            subst ex eH
            obtain ⟨E, r'⟩ := pair_new t2 nT (DF_mono t1 _ _ rv) (DF_mono t1 _ _ rw')
            exact ⟨_, E, r'⟩
          · rw [zipD_len] at hl
            dsimp only at hl
            exact ⟨vs, ws, sqB_mono (t1.trans t2) s1, sqB_mono (t1.trans t2) s2, rfl, rfl, by omega⟩
          · have z9 := lenB ln (sqB_mono E2.sub s1)
            rw [zipD_len]; dsimp only; omega
end DL
namespace DL
open PySem PySem.Spec L2
section
variable {X : Cx} {tg : Expr}
def iRngA (ta : TA) : TI := fun σ H R => ta σ H fun vs H1 => ∃ i j : Int, vs = [.int i, .int j] ∧ R (Itr i (j - i).toNat) H1
end
def iRng2A (f g : List C → Option D) : List C → Option (List D) := fun env => match f env with
  | some (.int i) => (match g env with | some (.int j) => if j - i ≤ 16777216 then some (rng i (j - i).toNat) else none | _ => none)
  | _ => none
end DL
namespace DL
open PySem PySem.Spec L2
section
variable {X : Cx} {pins : List (Addr × Obj)} {σ : L2.St} {H : Hp} {s : Shared}
mutual
theorem nested_is (I : Inv X pins σ H s) : ∀ (d : D) (v : V) (u : Value) (k : NestedKey), Dp X.K H v d → RelV v u → keyN d = some k → NestedIs s.heap k u
  | .none, _, u, k, h, r, e => by
    cases h; cases e; cases r; exact .none
  | .bool b, _, u, k, h, r, e => by
    cases h; cases e; cases r; exact .bool rfl
  | .int i, _, u, k, h, r, e => by
    cases h; cases e
    obtain ⟨t, rfl⟩ := r
    exact .int i t
  | .str x, _, u, k, h, r, e => by
    cases h; cases e
    obtain ⟨t, rfl⟩ := r
    exact .text x t
  | .tuple ds, _, u, k, h, r, e => by
    cases h with
    | tup hs ha =>
      unfold keyN at e
      cases z : keyNs ds with
      | none => rw [z] at e; cases e
      | some ks =>
        rw [z] at e; cases e
        cases r
        obtain ⟨its, rv, p, _⟩ := I.tuple hs
        obtain ⟨o, eo, ec, n, ed⟩ := p
        exact .tup eo ec ed (by
          rw [List.toList_toArray]
          exact nested_all I ds _ _ _ ha rv z)
  | .list _, _, _, _, _, _, e => by unfold keyN at e; cases e
  | .dict _, _, _, _, _, _, e => by unfold keyN at e; cases e
theorem nested_all (I : Inv X pins σ H s) : ∀ (ds : List D) (vs : List V) (us : List Value) (ks : List NestedKey), DpAll X.K H vs ds → Vals vs us → keyNs ds = some ks → NestedAll s.heap ks us
  | [], _, us, ks, h, r, e => by
    cases h; cases e; cases r; exact .nil
  | d :: ds, _, us, ks, h, r, e => by
    cases h with
    | cons h1 h2 =>
      unfold keyNs at e
      cases z1 : keyN d with
      | none => rw [z1] at e; cases e
      | some k =>
        cases z2 : keyNs ds with
        | none => rw [z1, z2] at e; cases e
        | some ks2 =>
          rw [z1, z2] at e; cases e
          cases r with
          | cons r1 r2 => exact .cons (nested_is I d _ _ _ h1 r1 z1) (nested_all I ds _ _ _ h2 r2 z2)
end
end
section
variable {X : Cx} {G : GC} {kr k k1 : RK} {e : Expr} {fe : List C → Option D} {pos p1 p2 pos' : Pos} {x y : Str}
def sDictN (i : Nat) : List C → Out := fun env => .nx (env.set i (.dN []))
def okK (d : D) : Bool := match d, keyN d with | .tuple _, some k => decide (k.depth ≤ 8) | _, _ => false
def hasK (ks : List D) (d : D) : Bool := ks.any fun k => decide (keyN k = keyN d)
def tNotInN (f : List C → Option D) (i : Nat) : List C → Option Bool := fun env => match env[i]? with
  | some (.dN ks) => (match f env with | some d => if okK d = true then some (!hasK ks d) else none | none => none)
  | _ => none
def sPutN (i : Nat) (f : List C → Option D) : List C → Out := fun env => match env[i]? with
  | some (.dN ks) => (match f env with | some d => if okK d = true ∧ hasK ks d = false ∧ ks.length < 16000000 then .nx (env.set i (.dN (ks ++ [d]))) else .err | none => .err)
  | _ => .err
end
theorem hu9 {A : Around} {k : Nat} (hr : Room k A) : A.units + 9 < cLine := by have := hr.un; omega
section
variable {X : Cx} {G : GC}
def gDivA : D → D → Option D | .int i, .int j => if j ≠ 0 ∧ j.natAbs.log2 < 9000 then some (.int (i.fdiv j)) else none | _, _ => none
def gModA : D → D → Option D | .int i, .int j => if j ≠ 0 then some (.int (i.fmod j)) else none | _, _ => none
theorem op_fdivA : OpR X (binaryOp .FloorDiv) (rI (fun _ j => j ≠ 0 ∧ j.natAbs.log2 < 9000) fun i j => .int (i.fdiv j)) := opI fun _ _ _ _ _ _ _ hc q => PyProof.Rows.floordiv_int hc.1 q (.inl (PyProof.noPylong_of_log2 hc.2))
theorem o_divA : DOp X G (binaryOp .FloorDiv) .vl .vl .fz gDivA := dop_int (C := fun _ j => j ≠ 0 ∧ j.natAbs.log2 < 9000) (r' := fun i j => .int (i.fdiv j)) op_fdivA (fun x y d h => by
  unfold gDivA at h
  split at h
  · split at h <;> cases h
    exact ⟨_, _, rfl, rfl, by assumption, rfl⟩
  · cases h) fun _ _ _ _ => .int _
theorem o_modA : DOp X G (binaryOp .Mod) .vl .vl .fz gModA := dop_int (C := fun _ j => j ≠ 0) (r' := fun i j => .int (i.fmod j)) op_modN (fun x y d h => by
  unfold gModA at h
  split at h
  · split at h <;> cases h
    exact ⟨_, _, rfl, rfl, by assumption, rfl⟩
  · cases h) fun _ _ _ _ => .int _
end
end DL
namespace DL
open PySem PySem.Spec L2
section
variable {X : Cx} {G : GC} {k : RK} {e : Expr} {f : List C → Option D} {p p2 pos pos2 : Pos}
def eListRg (f : List C → Option D) : List C → Option D := fun env => match f env with
  | some (.int j) => if -(2 ^ 62) ≤ j ∧ j ≤ 16777216 then some (.list (rng 0 j.toNat)) else none
  | _ => none
end
end DL
namespace DL
open PySem PySem.Spec L2
section
variable {X : Cx} {G : GC} {kr k : RK} {e iter tg elt : Expr} {fe : List C → Option D} {ft : List C → Option Bool} {pos : Pos}
def flatO : Option D → Option D
  | some (.list es) => if es.all flatD = true then some (.list es) else none
  | _ => none
def eThaw (t : Nat) (fl : List C → Option D) : List C → Option D := fun env => match env[t]? with
  | some (.lst ds) => flatO (fl (env.set t (.val (.list ds))))
  | _ => none
def tThaw (t : Nat) (ft : List C → Option Bool) : List C → Option Bool := fun env => match env[t]? with
  | some (.lst ds) => ft (env.set t (.val (.list ds)))
  | _ => none
def sMove (i j : Nat) : List C → Out := fun env => match env[j]? with
  | some (.lst ds) => .nx ((env.set j .und).set i (.lst ds))
  | _ => .err
end
end DL
namespace DL
open PySem PySem.Spec L2
open Sem (wp)
def IteB (K : PySem.W.Frag) (kd : Bool) (a : Addr) (m : Nat) : It where
  go := fun i H => ∃ (xs : List V) (x : V), SqB kd K H a xs ∧ xs.length = m ∧ xs[i]? = some x
  yld := fun i H v H' => ∃ T x, v = .ref T ∧ H T = none ∧ H' = upd H T (.tup [.int (i : Nat), x]) ∧ ∀ xs, SqB kd K H a xs → xs[i]? = some x
  stop := fun i H => ∃ xs : List V, SqB kd K H a xs ∧ xs.length = m ∧ m ≤ i
def iEnumX (K : PySem.W.Frag) (ta : TA) : TI := fun σ H R => ta σ H fun vs H1 => ∃ kd a xs, vs = [.ref a] ∧ SqB kd K H1 a xs ∧ R (IteB K kd a xs.length) H1
def iEnumG (f : List C → Option D) : List C → Option (List D) := fun env => ((f env).bind sqD).bind fun x => some (enumD x.2)
end DL
set_option exponentiation.threshold 500
namespace DL
open PySem PySem.Spec L2

section
variable {env : List C} {f g : List C → Out} {fe fa fb : List C → Option D} {ft f1 f2 : List C → Option Bool} {fs : List C → Option (List D)} {fi : List C → Option (List D)} {i j n : Nat} {d x y : D} {ds xs ys : List D} {e : List C}
theorem ev_bs {α β : Type} {x : α} {f : α → Option β} : (some x).bind f = f x := (rfl)
theorem ev_bn {α β : Type} {f : α → Option β} : (none : Option α).bind f = none := (rfl)
theorem ev_ms {α β : Type} {x : α} {f : α → β} : (some x).map f = some (f x) := (rfl)
theorem ev_mn {α β : Type} {f : α → β} : (none : Option α).map f = none := (rfl)
theorem ev_g0 {α : Type} {a : α} {l : List α} : (a :: l)[0]? = some a := (rfl)
theorem ev_gs {α : Type} {a : α} {l : List α} {n : Nat} : (a :: l)[n + 1]? = l[n]? := (rfl)
theorem ev_s0 {α : Type} {a b : α} {l : List α} : (a :: l).set 0 b = b :: l := (rfl)
theorem ev_ss {α : Type} {a b : α} {l : List α} {n : Nat} : (a :: l).set (n + 1) b = a :: l.set n b := (rfl)
theorem ev_bn1 : (!true) = false := (rfl)
theorem ev_bn2 : (!false) = true := (rfl)
def oSeq (o : Out) (g : List C → Out) : Out := match o with | .nx e => g e | o => o
theorem ev_seq : sSeq f g env = oSeq (f env) g := by unfold sSeq oSeq; cases f env <;> rfl
theorem ev_seq_nx : oSeq (.nx e) g = g e := (rfl)
theorem ev_seq_rt : oSeq (.rt d) g = .rt d := (rfl)
theorem ev_seq_bk : oSeq (.bk e) g = .bk e := (rfl)
theorem ev_seq_ct : oSeq (.ct e) g = .ct e := (rfl)
theorem ev_nil : sNil env = .nx env := (rfl)
theorem ev_brk : sBrk env = .bk env := (rfl)
theorem ev_cnt : sCnt env = .ct env := (rfl)
def oIf (c : Option Bool) (f g : List C → Out) (env : List C) : Out := match c with | some true => f env | some false => g env | none => .err
theorem ev_if : sIf ft f g env = oIf (ft env) f g env := (rfl)
theorem ev_if_t : oIf (some true) f g env = f env := (rfl)
theorem ev_if_f : oIf (some false) f g env = g env := (rfl)
def oSet (o : Option D) (i : Nat) (env : List C) : Out := match o with | some d => .nx (env.set i (.val d)) | none => .err
theorem ev_set : sSet i fe env = oSet (fe env) i env := (rfl)
theorem ev_oset : oSet (some d) i env = .nx (env.set i (.val d)) := (rfl)
def oSetL (o : Option D) (i : Nat) (env : List C) : Out := match o with | some (.list ds) => .nx (env.set i (.lst ds)) | _ => .err
theorem ev_setL : sSetL i fe env = oSetL (fe env) i env := (rfl)
theorem ev_osetL : oSetL (some (.list ds)) i env = .nx (env.set i (.lst ds)) := (rfl)
def oDrop (o : Option D) (env : List C) : Out := match o with | some _ => .nx env | none => .err
theorem ev_drop : sDrop fe env = oDrop (fe env) env := (rfl)
theorem ev_odrop : oDrop (some d) env = .nx env := (rfl)
def oRet (o : Option D) : Out := match o with | some d => .rt d | none => .err
theorem ev_ret : sRet fe env = oRet (fe env) := (rfl)
theorem ev_oret : oRet (some d) = .rt d := (rfl)
theorem ev_retN : sRetN env = .rt .none := (rfl)
def oRetL (o : Option C) : Out := match o with | some (.lst ds) => .rt (.list ds) | _ => .err
theorem ev_retL : sRetL i env = oRetL env[i]? := (rfl)
theorem ev_oretL : oRetL (some (.lst ds)) = .rt (.list ds) := (rfl)
def oRun (o : Out) : Option D := match o with | .rt d => some d | _ => none
def oRunN (o : Out) : Option D := match o with | .rt d => some d | .nx _ => some .none | _ => none
theorem ev_run {ks : List RK} {b : List C → Out} : runP ks n b ds = oRun (b (cells ks ds ++ List.replicate (n - ds.length) .und)) := (rfl)
theorem ev_orun : oRun (.rt d) = some d := (rfl)
theorem ev_orunN : oRunN (.rt d) = some d := (rfl)
theorem ev_orunN_nx : oRunN (.nx e) = some .none := (rfl)
def oFz (c : Option C) (i : Nat) (g : List C → Out) (env : List C) : Out := match c with | some (.lst ds) => g (env.set i (.val (.list ds))) | some (.val _) => g env | _ => .err
theorem ev_fz : sFz i g env = oFz env[i]? i g env := (rfl)
theorem ev_fz_l : oFz (some (.lst ds)) i g env = g (env.set i (.val (.list ds))) := (rfl)
theorem ev_fz_v : oFz (some (.val d)) i g env = g env := (rfl)
def oApp (c : Option C) (o : Option D) (i : Nat) (env : List C) : Out := match c with
  | some (.lst ds) => (match o with | some d => if ds.length < 16000000 then .nx (env.set i (.lst (ds ++ [d]))) else .err | none => .err)
  | _ => .err
theorem ev_app : sApp i fe env = oApp env[i]? (fe env) i env := (rfl)
theorem ev_app_s (h : (ds.length : Int) < 16000000) : oApp (some (.lst ds)) (some d) i env = .nx (env.set i (.lst (ds ++ [d]))) := if_pos (by omega)
def oClear (c : Option C) (i : Nat) (env : List C) : Out := match c with | some (.lst _) => .nx (env.set i (.lst [])) | _ => .err
theorem ev_clear : sClear i env = oClear env[i]? i env := (rfl)
theorem ev_clear_s : oClear (some (.lst ds)) i env = .nx (env.set i (.lst [])) := (rfl)
def oNx (o : Option (List C)) : Out := match o with | some e => .nx e | none => .err
theorem ev_oNx : oNx (some e) = .nx e := (rfl)
def oAsg (o : Option D) (h : D → List C → Option (List C)) (env : List C) : Out := match o with | some d => oNx (h d env) | none => .err
theorem ev_asg {h : D → List C → Option (List C)} : sAsg h fe env = oAsg (fe env) h env := by unfold sAsg oAsg oNx; cases fe env <;> rfl
theorem ev_asg_s {h : D → List C → Option (List C)} : oAsg (some d) h env = oNx (h d env) := (rfl)
def oPar (o : Option (List D)) (i j : Nat) (env : List C) : Out := match o with | some [x, y] => .nx ((env.set i (.val x)).set j (.val y)) | _ => .err
theorem ev_par : sPar i j fs env = oPar (fs env) i j env := (rfl)
theorem ev_par_s : oPar (some [x, y]) i j env = .nx ((env.set i (.val x)).set j (.val y)) := (rfl)
def oAug (c : Option C) (o : Option D) (h : D → D → Option D) (i : Nat) (env : List C) : Out := match c with
  | some (.val x) => oSet (o.bind fun y => h x y) i env
  | _ => .err
theorem ev_aug {h : D → D → Option D} : sAug i h fe env = oAug env[i]? (fe env) h i env := by
  unfold sAug oAug
  cases env[i]? with
  | none => rfl
  | some c =>
    cases c <;> try rfl
    rename_i x
    cases fe env with
    | none => rfl
    | some y =>
      show (match h x y with | some z => Out.nx _ | none => Out.err) = oSet (h x y) i env
      cases h x y <;> rfl
theorem ev_aug_s {h : D → D → Option D} : oAug (some (.val x)) (some y) h i env = oSet (h x y) i env := (rfl)
def oSetIx (c : Option C) (oi o : Option D) (i : Nat) (env : List C) : Out := match c with
  | some (.lst ds) => (match o with
    | some d => (match oi with
      | some (.int j) => oSetL ((setAt ds j d).map .list) i env
      | _ => .err)
    | none => .err)
  | _ => .err
theorem ev_setIx {fj : List C → Option D} : sSetIx i fj fe env = oSetIx env[i]? (fj env) (fe env) i env := by
  unfold sSetIx oSetIx
  cases env[i]? with
  | none => rfl
  | some c =>
    cases c <;> try rfl
    rename_i ds
    cases fe env with
    | none => rfl
    | some d =>
      cases fj env with
      | none => rfl
      | some k =>
        cases k <;> try rfl
        rename_i k
        dsimp only
        cases setAt ds k d <;> rfl
theorem ev_setIx_s {k : Int} : oSetIx (some (.lst ds)) (some (.int k)) (some d) i env = oSetL ((setAt ds k d).map .list) i env := (rfl)
def oAugIx (c : Option C) (oi o : Option D) (h : D → D → Option D) (i : Nat) (env : List C) : Out := match c with
  | some (.lst ds) => (match oi with
    | some (.int j) => (match atI ds j with
      | some x => (match o with
        | some y => (match h x y with
          | some z => (match setAt ds j z with | some ds' => .nx (env.set i (.lst ds')) | none => .err)
          | none => .err)
        | none => .err)
      | none => .err)
    | _ => .err)
  | _ => .err
theorem ev_augIx {h : D → D → Option D} {fj : List C → Option D} : sAugIx i h fj fe env = oAugIx env[i]? (fj env) (fe env) h i env := by
  unfold sAugIx oAugIx
  rfl
theorem ev_dictN : sDictN i env = .nx (env.set i (.dN [])) := (rfl)
def oNotInN (c : Option C) (o : Option D) : Option Bool := match c with
  | some (.dN ks) => (match o with | some d => if okK d = true then some (!hasK ks d) else none | none => none)
  | _ => none
theorem ev_notInN : tNotInN fe i env = oNotInN env[i]? (fe env) := (rfl)
theorem ev_oNotInN (h : okK d = true) : oNotInN (some (.dN ds)) (some d) = some (!hasK ds d) := if_pos h
def oPutN (c : Option C) (o : Option D) (i : Nat) (env : List C) : Out := match c with
  | some (.dN ks) => (match o with | some d => if okK d = true ∧ hasK ks d = false ∧ ks.length < 16000000 then .nx (env.set i (.dN (ks ++ [d]))) else .err | none => .err)
  | _ => .err
theorem ev_putN : sPutN i fe env = oPutN env[i]? (fe env) i env := (rfl)
theorem ev_oPutN (h1 : okK d = true) (h2 : hasK ds d = false) (h3 : (ds.length : Int) < 16000000) : oPutN (some (.dN ds)) (some d) i env = .nx (env.set i (.dN (ds ++ [d]))) := if_pos ⟨h1, h2, by omega⟩
def oFor (o : Option (List D)) (h : D → List C → Option (List C)) (b : List C → Out) (env : List C) : Out := match o with | some items => forF h b items env | none => .err
theorem ev_for {h : D → List C → Option (List C)} {b : List C → Out} : sFor fi h b env = oFor (fi env) h b env := (rfl)
theorem ev_ofor {h : D → List C → Option (List C)} {b : List C → Out} : oFor (some ds) h b env = forF h b ds env := (rfl)
def rdV (c : Option C) : Option D := match c with | some (.val d) => some d | _ => none
def rdL (c : Option C) : Option D := match c with | some (.val d) => some d | some (.lst ds) => some (.list ds) | _ => none
def rdB (c : Option C) : Option D := match c with | some (.val d) => some d | some (.brw d) => some d | _ => none
theorem ev_V : eV i env = rdV env[i]? := (rfl)
theorem ev_L : eL i env = rdL env[i]? := (rfl)
theorem ev_B : eB i env = rdB env[i]? := (rfl)
theorem ev_rdV : rdV (some (.val d)) = some d := (rfl)
theorem ev_rdLv : rdL (some (.val d)) = some d := (rfl)
theorem ev_rdLl : rdL (some (.lst ds)) = some (.list ds) := (rfl)
theorem ev_rdBv : rdB (some (.val d)) = some d := (rfl)
theorem ev_rdBb : rdB (some (.brw d)) = some d := (rfl)
theorem ev_C : eC d env = some d := (rfl)
def o2 (g : D → D → Option D) (a b : Option D) : Option D := match a, b with | some x, some y => g x y | _, _ => none
theorem ev_e2 {g : D → D → Option D} : e2 g fa fb env = o2 g (fa env) (fb env) := by unfold e2 o2; cases fa env <;> cases fb env <;> rfl
theorem ev_o2 {g : D → D → Option D} : o2 g (some x) (some y) = g x y := (rfl)
theorem ev_e1 {g : List D → Option D} : e1 g fs env = (fs env).bind g := (rfl)
def o3 (g : D → Option Int → Option Int → Option D) (a : Option D) (l u : Option (Option Int)) : Option D := match a, l, u with | some x, some l, some u => g x l u | _, _, _ => none
theorem ev_e3 {g : D → Option Int → Option Int → Option D} {fl fu : List C → Option (Option Int)} : e3 g fa fl fu env = o3 g (fa env) (fl env) (fu env) := by
  unfold e3 o3; cases fa env <;> cases fl env <;> cases fu env <;> rfl
theorem ev_o3 {g : D → Option Int → Option Int → Option D} {l u : Option Int} : o3 g (some x) (some l) (some u) = g x l u := (rfl)
theorem ev_pN : pN env = some none := (rfl)
def oPS (o : Option D) : Option (Option Int) := match o with | some (.int i) => some (some i) | _ => none
theorem ev_pS : pS fe env = oPS (fe env) := (rfl)
theorem ev_oPS {k : Int} : oPS (some (.int k)) = some (some k) := (rfl)
def oCons (o : Option D) (os : Option (List D)) : Option (List D) := match o, os with | some d, some ds => some (d :: ds) | _, _ => none
theorem ev_aNil : aNil env = some [] := (rfl)
theorem ev_aCons : aCons fe fs env = oCons (fe env) (fs env) := by unfold aCons oCons; cases fe env <;> cases fs env <;> rfl
theorem ev_oCons : oCons (some d) (some ds) = some (d :: ds) := (rfl)
theorem ev_tup : eTup fs env = (fs env).map .tuple := (rfl)
def oLst (o : Option (List D)) : Option D := o.map .list
theorem ev_lst : eLst fs env = oLst (fs env) := (rfl)
theorem ev_oLst : oLst (some ds) = some (.list ds) := (rfl)
def oScal (o : Option D) : Option D := match o with | some d => if scalD d then some d else none | none => none
theorem ev_scal : eScal fe env = oScal (fe env) := (rfl)
theorem ev_scal_i {k : Int} : oScal (some (.int k)) = some (.int k) := (rfl)
theorem ev_scal_s {k : Str} : oScal (some (.str k)) = some (.str k) := (rfl)
theorem ev_scal_b {k : Bool} : oScal (some (.bool k)) = some (.bool k) := (rfl)
def oNeg (o : Option D) : Option D := match o with | some (.int i) => some (.int (-i)) | _ => none
theorem ev_neg : eNeg fe env = oNeg (fe env) := (rfl)
theorem ev_oNeg {k : Int} : oNeg (some (.int k)) = some (.int (-k)) := (rfl)
theorem ev_tB : tB fe env = asB (fe env) := (rfl)
theorem ev_asB {b : Bool} : asB (some (.bool b)) = some b := (rfl)
theorem ev_tNot : tNotF ft env = (ft env).map (!·) := (rfl)
def oAnd (c : Option Bool) (g : List C → Option Bool) (env : List C) : Option Bool := match c with | some true => g env | some false => some false | none => none
def oOr (c : Option Bool) (g : List C → Option Bool) (env : List C) : Option Bool := match c with | some true => some true | some false => g env | none => none
theorem ev_tAnd : tAndF f1 f2 env = oAnd (f1 env) f2 env := by
  unfold tAndF oAnd
  cases f1 env with
  | none => rfl
  | some b => cases b <;> rfl
theorem ev_tOr : tOrF f1 f2 env = oOr (f1 env) f2 env := by
  unfold tOrF oOr
  cases f1 env with
  | none => rfl
  | some b => cases b <;> rfl
theorem ev_oAnd_t : oAnd (some true) f1 env = f1 env := (rfl)
theorem ev_oAnd_f : oAnd (some false) f1 env = some false := (rfl)
theorem ev_oOr_t : oOr (some true) f1 env = some true := (rfl)
theorem ev_oOr_f : oOr (some false) f1 env = f1 env := (rfl)
def oAndD (c : Option Bool) (g : List C → Option D) (env : List C) : Option D := match c with | some true => g env | some false => some (.bool false) | none => none
def oOrD (c : Option Bool) (g : List C → Option D) (env : List C) : Option D := match c with | some true => some (.bool true) | some false => g env | none => none
theorem ev_eAnd : eAnd fa fb env = oAndD (asB (fa env)) fb env := by
  unfold eAnd oAndD
  cases asB (fa env) with
  | none => rfl
  | some b => cases b <;> rfl
theorem ev_eOr : eOr fa fb env = oOrD (asB (fa env)) fb env := by
  unfold eOr oOrD
  cases asB (fa env) with
  | none => rfl
  | some b => cases b <;> rfl
theorem ev_oAndD_t : oAndD (some true) fb env = fb env := (rfl)
theorem ev_oAndD_f : oAndD (some false) fb env = some (.bool false) := (rfl)
theorem ev_oOrD_t : oOrD (some true) fb env = some (.bool true) := (rfl)
theorem ev_oOrD_f : oOrD (some false) fb env = fb env := (rfl)
def oNot (o : Option Bool) : Option D := o.map fun c => .bool (!c)
theorem ev_eNot : eNot fe env = oNot (asB (fe env)) := (rfl)
theorem ev_oNot {b : Bool} : oNot (some b) = some (.bool (!b)) := (rfl)
def oIsi (T : String) (o : Option D) : Option D := o.bind fun d => (kitB (tyD d) T).map .bool
theorem ev_isi {T : String} : eIsi T fe env = oIsi T (fe env) := (rfl)
theorem ev_isi_ii {k : Int} : oIsi "int" (some (.int k)) = some (.bool true) := by
  show (kitB "int" "int").map PyData.bool = _
  rw [show kitB "int" "int" = some true by decide +kernel]; rfl
theorem ev_isi_ib {k : Int} : oIsi "bool" (some (.int k)) = some (.bool false) := by
  show (kitB "int" "bool").map PyData.bool = _
  rw [show kitB "int" "bool" = some false by decide +kernel]; rfl
theorem ev_isi_il {k : Int} : oIsi "list" (some (.int k)) = some (.bool false) := by
  show (kitB "int" "list").map PyData.bool = _
  rw [show kitB "int" "list" = some false by decide +kernel]; rfl
theorem ev_isi_it {k : Int} : oIsi "tuple" (some (.int k)) = some (.bool false) := by
  show (kitB "int" "tuple").map PyData.bool = _
  rw [show kitB "int" "tuple" = some false by decide +kernel]; rfl
theorem ev_isi_is {k : Int} : oIsi "str" (some (.int k)) = some (.bool false) := by
  show (kitB "int" "str").map PyData.bool = _
  rw [show kitB "int" "str" = some false by decide +kernel]; rfl
theorem ev_isi_ll : oIsi "list" (some (.list ds)) = some (.bool true) := by
  show (kitB "list" "list").map PyData.bool = _
  rw [show kitB "list" "list" = some true by decide +kernel]; rfl
theorem ev_isi_lt : oIsi "tuple" (some (.list ds)) = some (.bool false) := by
  show (kitB "list" "tuple").map PyData.bool = _
  rw [show kitB "list" "tuple" = some false by decide +kernel]; rfl
theorem ev_isi_li : oIsi "int" (some (.list ds)) = some (.bool false) := by
  show (kitB "list" "int").map PyData.bool = _
  rw [show kitB "list" "int" = some false by decide +kernel]; rfl
theorem ev_isi_lb : oIsi "bool" (some (.list ds)) = some (.bool false) := by
  show (kitB "list" "bool").map PyData.bool = _
  rw [show kitB "list" "bool" = some false by decide +kernel]; rfl
theorem ev_isi_tt : oIsi "tuple" (some (.tuple ds)) = some (.bool true) := by
  show (kitB "tuple" "tuple").map PyData.bool = _
  rw [show kitB "tuple" "tuple" = some true by decide +kernel]; rfl
theorem ev_isi_tl : oIsi "list" (some (.tuple ds)) = some (.bool false) := by
  show (kitB "tuple" "list").map PyData.bool = _
  rw [show kitB "tuple" "list" = some false by decide +kernel]; rfl
theorem ev_isi_ss {k : Str} : oIsi "str" (some (.str k)) = some (.bool true) := by
  show (kitB "str" "str").map PyData.bool = _
  rw [show kitB "str" "str" = some true by decide +kernel]; rfl
theorem ev_isi_bb {k : Bool} : oIsi "bool" (some (.bool k)) = some (.bool true) := by
  show (kitB "bool" "bool").map PyData.bool = _
  rw [show kitB "bool" "bool" = some true by decide +kernel]; rfl
theorem ev_isi_bi {k : Bool} : oIsi "int" (some (.bool k)) = some (.bool true) := by
  show (kitB "bool" "int").map PyData.bool = _
  rw [show kitB "bool" "int" = some true by decide +kernel]; rfl
def oIsN (o : Option D) : Option D := o.map fun d => .bool (isNoD d)
def oNotN (o : Option D) : Option D := o.map fun d => .bool (!isNoD d)
theorem ev_isN : eIsN fe env = oIsN (fe env) := (rfl)
theorem ev_notN : eNotN fe env = oNotN (fe env) := (rfl)
theorem ev_oIsN_n : oIsN (some .none) = some (.bool true) := (rfl)
theorem ev_oIsN_i {k : Int} : oIsN (some (.int k)) = some (.bool false) := (rfl)
theorem ev_oIsN_l : oIsN (some (.list ds)) = some (.bool false) := (rfl)
theorem ev_oIsN_t : oIsN (some (.tuple ds)) = some (.bool false) := (rfl)
theorem ev_oNotN_n : oNotN (some .none) = some (.bool false) := (rfl)
theorem ev_oNotN_i {k : Int} : oNotN (some (.int k)) = some (.bool true) := (rfl)
theorem ev_oNotN_l : oNotN (some (.list ds)) = some (.bool true) := (rfl)
theorem ev_oNotN_t : oNotN (some (.tuple ds)) = some (.bool true) := (rfl)
theorem ev_rev : eRev fe env = (fe env).bind gRev := (rfl)
theorem ev_gRev : gRev (.list xs) = some (.list xs.reverse) := (rfl)
def oAny (o : Option D) : Option (List D) := match o with
  | some (.list ds) => some ds
  | some (.tuple ds) => some ds
  | some (.str z) => if z.length ≤ sizeLine then some (z.cps.toList.map fun c => .str ⟨#[c]⟩) else none
  | _ => none
theorem ev_iAny : iAny fe env = oAny (fe env) := (rfl)
theorem ev_oAny_l : oAny (some (.list ds)) = some ds := (rfl)
theorem ev_oAny_t : oAny (some (.tuple ds)) = some ds := (rfl)
def oSeqB (o : Option D) : Option (List D) := match o with | some (.list ds) => if ds.all scalD = true then some ds else none | _ => none
theorem ev_iSeqB : iSeqB fe env = oSeqB (fe env) := (rfl)
theorem scal_ints : ∀ ns : List Int, (ns.map PyData.int).all scalD = true
  | [] => rfl
  | _ :: ns => scal_ints ns
theorem ev_oSeqB {ns : List Int} : oSeqB (some (.list (ns.map .int))) = some (ns.map .int) := if_pos (scal_ints ns)
def oEnum (o : Option D) : Option (List D) := match o with | some (.list ds) => some (enumD ds) | _ => none
theorem ev_iEnum : iEnumF fe env = oEnum (fe env) := (rfl)
theorem ev_oEnum : oEnum (some (.list ds)) = some (enumD ds) := (rfl)
def oZip (a b : Option D) : Option (List D) := (a.bind sqD).bind fun x => (b.bind sqD).bind fun y => some (zipD x.2 y.2)
theorem ev_iZip : iZipG fa fb env = oZip (fa env) (fb env) := (rfl)
theorem ev_oZip_ll : oZip (some (.list xs)) (some (.list ys)) = some (zipD xs ys) := (rfl)
theorem ev_oZip_tt : oZip (some (.tuple xs)) (some (.tuple ys)) = some (zipD xs ys) := (rfl)
theorem ev_oZip_lt : oZip (some (.list xs)) (some (.tuple ys)) = some (zipD xs ys) := (rfl)
theorem ev_oZip_tl : oZip (some (.tuple xs)) (some (.list ys)) = some (zipD xs ys) := (rfl)
def oRng1 (o : Option D) : Option (List D) := match o with | some (.int j) => if -(2 ^ 62) ≤ j ∧ j ≤ 16777216 then some (rng 0 j.toNat) else none | _ => none
theorem ev_iRng1 : iRng1F fe env = oRng1 (fe env) := (rfl)
theorem ev_rng1_s {k : Int} (h1 : -(2 ^ 62) ≤ k) (h2 : k ≤ 16777216) : oRng1 (some (.int k)) = some (rng 0 k.toNat) := if_pos ⟨h1, h2⟩
def oRng2 (a b : Option D) : Option (List D) := match a, b with
  | some (.int i), some (.int j) => if j - i ≤ 16777216 then some (rng i (j - i).toNat) else none
  | _, _ => none
theorem ev_iRng2 : iRng2A fa fb env = oRng2 (fa env) (fb env) := by
  unfold iRng2A oRng2
  cases fa env with
  | none => rfl
  | some a => cases a <;> (cases fb env with
    | none => rfl
    | some b => cases b <;> rfl)
theorem ev_rng2_s {k l : Int} (h5 : l - k ≤ 16777216) : oRng2 (some (.int k)) (some (.int l)) = some (rng k (l - k).toNat) := if_pos h5
theorem ev_tgN : tgN i d env = some (env.set i (.val d)) := (rfl)
theorem ev_tgNil : tgNil [] env = some env := (rfl)
theorem ev_tgCons {h : D → List C → Option (List C)} {k : List D → List C → Option (List C)} : tgCons h k (d :: ds) env = (h d env).bind (k ds) := (rfl)
theorem ev_tgT {k : List D → List C → Option (List C)} : tgT k (.tuple ds) env = k ds env := (rfl)
theorem ev_wipe_nil : wipeE env [] = env := (rfl)
theorem ev_wipe_cons {vs : List Nat} : wipeE env (i :: vs) = (wipeE env vs).set i .und := (rfl)
def oLc (o : Option (List D)) (h : D → List C → Option (List C)) (tt : List C → Option Bool) (fe : List C → Option D) (env : List C) : Option D := match o with | some items => (lcF h tt fe env items).map .list | none => none
theorem ev_lc {vs : List Nat} {h : D → List C → Option (List C)} : eLc vs fi h ft fe env = oLc (fi env) h ft fe (wipeE env vs) := by
  unfold eLc oLc; cases fi env <;> rfl
theorem ev_oLc {h : D → List C → Option (List C)} : oLc (some ds) h ft fe env = (lcF h ft fe env ds).map .list := (rfl)
end

section
variable {i j k : Int} {s t : Str} {xs ys : List D} {b c : Bool}
def Md (i : Int) : Prop := i.natAbs < 2 ^ 400000
theorem Md.of_lt (h1 : -(2 ^ 200) < i) (h2 : i < 2 ^ 200) : Md i := by
  have h3 : i.natAbs < 2 ^ 200 := by omega
  exact Nat.lt_of_lt_of_le h3 (Nat.pow_le_pow_right (by decide) (by decide))
theorem log2_lt {n k : Nat} (hk : 0 < k) (h : n < 2 ^ k) : n.log2 < k := by
  by_cases h0 : n = 0
  · subst h0; exact hk
  · exact (Nat.log2_lt h0).mpr h
theorem ev_add : gAdd (.int i) (.int j) = some (.int (i + j)) := (rfl)
theorem ev_addIS : gAddIS (.int i) (.int j) = some (.int (i + j)) := (rfl)
theorem ev_add_ll (h : (xs.length : Int) + ys.length ≤ 16777216) : gAdd (.list xs) (.list ys) = some (.list (xs ++ ys)) := by
  have : gAddL (.list xs) (.list ys) = some (.list (xs ++ ys)) := if_pos (by rw [sizeLine_eq]; omega)
  unfold gAdd gOr
  rw [this]; rfl
theorem ev_add_tt (h : (xs.length : Int) + ys.length ≤ 16777216) : gAdd (.tuple xs) (.tuple ys) = some (.tuple (xs ++ ys)) := by
  have : gAddT (.tuple xs) (.tuple ys) = some (.tuple (xs ++ ys)) := if_pos (by rw [sizeLine_eq]; omega)
  unfold gAdd gOr
  rw [this]; rfl
theorem ev_addL (h : (xs.length : Int) + ys.length ≤ 16777216) : gAddL (.list xs) (.list ys) = some (.list (xs ++ ys)) := if_pos (by rw [sizeLine_eq]; omega)
theorem flat_rep {α : Type} (x : α) : ∀ n : Nat, (List.replicate n [x]).flatten = List.replicate n x
  | 0 => rfl
  | n + 1 => by rw [List.replicate_succ, List.replicate_succ, List.flatten_cons, flat_rep x n]; rfl
theorem mulL_if {k : Int} : gMulL (.list xs) (.int k) = if k < 2 ^ 63 ∧ -(2 ^ 63) ≤ k ∧ xs.length * k.toNat ≤ sizeLine then some (.list (List.replicate k.toNat xs).flatten) else none := rfl
theorem gOr_s {g1 g2 : D → D → Option D} {x y d : D} (h : g1 x y = some d) : gOr g1 g2 x y = some d := by unfold gOr; rw [h]
theorem gOr_n {g1 g2 : D → D → Option D} {x y d : D} (h : g1 x y = none) (h2 : g2 x y = some d) : gOr g1 g2 x y = some d := by unfold gOr; rw [h]; exact h2
theorem mulI_l {y : D} : gMulI (.list xs) y = none := by cases y <;> rfl
theorem mulS_l {y : D} : gMulS (.list xs) y = none := by cases y <;> rfl
theorem ev_repL {x : D} {n : Nat} (h : ((n : Nat) : Int) ≤ 1000000) : gMulL (.list [x]) (.int (n : Nat)) = some (.list (List.replicate n x)) := by
  have c : ((n : Nat) : Int) < 2 ^ 63 ∧ -(2 ^ 63) ≤ ((n : Nat) : Int) ∧ [x].length * ((n : Nat) : Int).toNat ≤ sizeLine := ⟨by omega, by omega, by rw [sizeLine_eq, Int.toNat_natCast]; show 1 * n ≤ _; omega⟩
  rw [mulL_if, if_pos c, Int.toNat_natCast, flat_rep]
theorem ev_rep {x : D} {n : Nat} (h : ((n : Nat) : Int) ≤ 1000000) : gMul (.list [x]) (.int (n : Nat)) = some (.list (List.replicate n x)) := by
  have e := ev_repL (x := x) h
  show gOr gMulI (gOr gMulS (gOr gMulL gMulT)) (.list [x]) (.int (n : Nat)) = _
  exact gOr_n mulI_l (gOr_n mulS_l (gOr_s e))
theorem ev_sub : gSub (.int i) (.int j) = some (.int (i - j)) := (rfl)
theorem ev_mul (h1 : Md i) (h2 : Md j) : gMul (.int i) (.int j) = some (.int (i * j)) := by
  have a1 := log2_lt (by decide) h1
  have a2 := log2_lt (by decide) h2
  have : gMulI (.int i) (.int j) = some (.int (i * j)) := if_pos (by omega)
  unfold gMul gOr
  rw [this]
theorem ev_mod (h : 0 < j) : gMod (.int i) (.int j) = some (.int (i % j)) := if_pos h
theorem ev_div (h : 0 < j) (h2 : j < 2 ^ 250) : gDiv (.int i) (.int j) = some (.int (i / j)) := if_pos ⟨h, by
  have : j.natAbs < 2 ^ 250 := by omega
  have := log2_lt (by decide) this
  omega⟩
theorem ev_modA (h : 0 < j) : gModA (.int i) (.int j) = some (.int (i % j)) := by
  show (if j ≠ 0 then some (PyData.int (i.fmod j)) else none) = _
  rw [if_pos (by omega), Int.fmod_eq_emod_of_nonneg _ (by omega)]
theorem ev_divA (h : 0 < j) (h2 : j < 2 ^ 250) : gDivA (.int i) (.int j) = some (.int (i / j)) := by
  have a : j.natAbs < 2 ^ 250 := by omega
  have b := log2_lt (by decide) a
  show (if j ≠ 0 ∧ j.natAbs.log2 < 9000 then some (PyData.int (i.fdiv j)) else none) = _
  rw [if_pos ⟨by omega, by omega⟩, Int.fdiv_eq_ediv_of_nonneg _ (by omega)]
theorem ev_pow (h0 : 0 ≤ j) (h1 : j ≤ 1000000) (h2 : i.natAbs < 2 ^ 64) : gPow (.int i) (.int j) = some (.int (i ^ j.toNat)) := if_pos ⟨h0, h1, h2⟩
theorem ev_lt : gLt (.int i) (.int j) = some (.bool (decide (i < j))) := (rfl)
theorem ev_le : gLe (.int i) (.int j) = some (.bool (decide (i ≤ j))) := (rfl)
theorem ev_gt : gGt (.int i) (.int j) = some (.bool (decide (j < i))) := (rfl)
theorem ev_ge : gGe (.int i) (.int j) = some (.bool (decide (j ≤ i))) := (rfl)
theorem ev_eq : gEq (.int i) (.int j) = some (.bool (decide (i = j))) := (rfl)
theorem ev_ne : gNe (.int i) (.int j) = some (.bool (!decide (i = j))) := (rfl)
theorem ev_eqs : gEq (.str s) (.str t) = some (.bool (decide (s = t))) := (rfl)
theorem ev_nes : gNe (.str s) (.str t) = some (.bool (!decide (s = t))) := (rfl)
theorem ev_eqb : gEq (.bool b) (.bool c) = some (.bool (decide (b = c))) := (rfl)
theorem ev_neb : gNe (.bool b) (.bool c) = some (.bool (!decide (b = c))) := (rfl)
theorem ev_len : gLen [.list xs] = some (.int xs.length) := (rfl)
theorem ev_lenT : gLen [.tuple xs] = some (.int xs.length) := (rfl)
theorem ev_list : gList [.list xs] = some (.list xs) := (rfl)
theorem ev_listT : gList [.tuple xs] = some (.list xs) := (rfl)
theorem ev_tuple : gTuple [.list xs] = some (.tuple xs) := (rfl)
theorem ev_tupleT : gTuple [.tuple xs] = some (.tuple xs) := (rfl)
theorem ev_abs : gAbs [.int i] = some (.int (if i < 0 then -i else i)) := (rfl)
theorem ev_int : gInt [.int i] = some (.int i) := (rfl)
theorem ev_intb : gInt [.bool b] = some (.int (if b then 1 else 0)) := (rfl)
theorem ev_sum {ns : List Int} : gSum [.list (ns.map .int)] = some (.int ns.sum) := by
  unfold gSum; simp only [allInt_map, Option.map_some]
theorem ev_sum0 : gSum [.list []] = some (.int 0) := (rfl)
theorem ev_max2 : gMax2 [.int i, .int j] = some (.int (if j > i then j else i)) := (rfl)
theorem ev_min2 : gMin2 [.int i, .int j] = some (.int (if j < i then j else i)) := (rfl)
theorem ev_sl {l u : Option Int} : gSl (.list xs) l u = some (.list (cutD xs l u)) := (rfl)
theorem ev_slT {l u : Option Int} : gSl (.tuple xs) l u = some (.tuple (cutD xs l u)) := (rfl)
theorem ev_slL {l u : Option Int} : gSlL (.list xs) l u = some (.list (cutD xs l u)) := (rfl)
theorem ev_slB {ns : List Int} {l u : Option Int} : gSlB (.list (ns.map .int)) l u = some (.list ((cutD ns l u).map .int)) := by
  unfold gSlB; simp only [allInt_map, Option.map_some]
theorem ev_ix : gIxS (.list xs) (.int i) = atI xs i := (rfl)
theorem ev_ixT : gIxS (.tuple xs) (.int i) = atI xs i := (rfl)
theorem ev_ixB : gIxB (.list xs) (.int i) = atI xs i := (rfl)
theorem ev_ixBT : gIxB (.tuple xs) (.int i) = atI xs i := (rfl)
theorem ixN_pos {n : Nat} (h0 : 0 ≤ i) (h1 : i < n) : ixN n i = some i.toNat := by
  unfold ixN
  rw [if_pos h0, if_pos (by omega)]
theorem ev_at (h0 : 0 ≤ i) (h1 : i < xs.length) : atI xs i = xs[i.toNat]? := by
  unfold atI
  rw [ixN_pos h0 h1]; rfl
theorem ev_atm {α : Type} {f : α → D} {l : List α} (h0 : 0 ≤ i) (h1 : i < l.length) : atI (l.map f) i = (l[i.toNat]?).map f := by
  rw [ev_at h0 (by rw [List.length_map]; exact h1), List.getElem?_map]
end

def Sz (k : Nat) (i : Int) : Prop := i.natAbs < 2 ^ k
section
variable {a b k : Nat} {i j : Int}
theorem Sz.mono (h : Sz a i) (hab : a ≤ b) : Sz b i := Nat.lt_of_lt_of_le h (Nat.pow_le_pow_right (by decide) hab)
theorem Sz.mul (h1 : Sz a i) (h2 : Sz b j) : Sz (a + b) (i * j) := by
  unfold Sz at *
  rw [Int.natAbs_mul, Nat.pow_add]
  exact Nat.mul_lt_mul_of_lt_of_le h1 (Nat.le_of_lt h2) (Nat.pow_pos (by decide))
theorem Sz.add (h1 : Sz a i) (h2 : Sz a j) : Sz (a + 1) (i + j) := by
  unfold Sz at *
  rw [Nat.pow_succ]
  omega
theorem Sz.sub (h1 : Sz a i) (h2 : Sz a j) : Sz (a + 1) (i - j) := by
  unfold Sz at *
  rw [Nat.pow_succ]
  omega
theorem Sz.md (h : Sz k i) (hk : k ≤ 400000 := by decide) : Md i := Nat.lt_of_lt_of_le h (Nat.pow_le_pow_right (by decide) hk)
theorem Sz.le (h : Sz k i) (hj : j.natAbs ≤ i.natAbs) : Sz k j := Nat.lt_of_le_of_lt hj h
theorem Sz.of (h1 : -(2 ^ k) < i) (h2 : i < 2 ^ k) : Sz k i := by
  unfold Sz
  have e : ((2 ^ k : Nat) : Int) = (2 : Int) ^ k := by norm_cast
  omega
theorem divF (h : j ≠ 0) (h2 : Sz 8000 j) : gDivA (.int i) (.int j) = some (.int (i.fdiv j)) := by
  have b := log2_lt (by decide) h2
  show (if j ≠ 0 ∧ j.natAbs.log2 < 9000 then some (PyData.int (i.fdiv j)) else none) = _
  rw [if_pos ⟨h, by omega⟩]
theorem ev_divAZ (h : 0 < j) (h2 : Sz 8000 j) : gDivA (.int i) (.int j) = some (.int (i / j)) := by
  rw [divF (by omega) h2, Int.fdiv_eq_ediv_of_nonneg _ (by omega)]
theorem ev_divZ (h : 0 < j) (h2 : Sz 8000 j) : gDiv (.int i) (.int j) = some (.int (i / j)) := if_pos ⟨h, by
  have := log2_lt (by decide) h2
  omega⟩
end
theorem forF_run {g : D → List C → Option (List C)} {b : List C → Out} (J : Out → Prop) : ∀ (items : List D) (env : List C) (I : Nat → List C → Prop), I 0 env →
    (∀ i d env, items[i]? = some d → I i env → ∃ e, g d env = some e ∧ (match b e with | .nx e' => I (i + 1) e' | .ct e' => I (i + 1) e' | .bk e' => J (.nx e') | .rt d => J (.rt d) | .err => False | .rx e t => J (.rx e t) | .xc e x => J (.xc e x))) →
    (∀ e, I items.length e → J (.nx e)) → J (forF g b items env)
  | [], env, I, h0, hs, he => he env h0
  | d :: ds, env, I, h0, hs, he => by
    obtain ⟨e, h1, h2⟩ := hs 0 d env rfl h0
    unfold forF
    rw [h1]
    dsimp only
    have next : ∀ e', I 1 e' → J (forF g b ds e') := fun e' h => forF_run J ds e' (fun i => I (i + 1)) h (fun i d env hd hI => hs (i + 1) d env (by simpa using hd) hI) (fun e h => he e (by simpa using h))
    cases z : b e with
    | nx e' => rw [z] at h2; exact next e' h2
    | ct e' => rw [z] at h2; exact next e' h2
    | bk e' => rw [z] at h2; exact h2
    | rt d => rw [z] at h2; exact h2
    | err => rw [z] at h2; exact h2.elim
    | rx _ _ => rw [z] at h2; exact h2
    | xc _ _ => rw [z] at h2; exact h2
def onNx (o : Out) (P : List C → Prop) : Prop := match o with | .nx e => P e | _ => False
theorem ev_onNx {e : List C} {P : List C → Prop} : onNx (.nx e) P = P e := (rfl)
theorem onNx_ok {o : Out} {P : List C → Prop} (h : onNx o P) : ∃ e, o = .nx e ∧ P e := by
  cases o <;> first | exact ⟨_, rfl, h⟩ | exact h.elim
theorem forF_inv {g : D → List C → Option (List C)} {b : List C → Out} {items : List D} {env : List C} (I : Nat → List C → Prop) (h0 : I 0 env)
    (hs : ∀ i d env, items[i]? = some d → I i env → ∃ e, g d env = some e ∧ onNx (b e) (I (i + 1))) : ∃ e, forF g b items env = .nx e ∧ I items.length e :=
  forF_run (fun o => ∃ e, o = .nx e ∧ I items.length e) items env I h0 (fun i d env hd hI => by
    obtain ⟨e, h1, h2⟩ := hs i d env hd hI
    obtain ⟨e', h3, h4⟩ := onNx_ok h2
    exact ⟨e, h1, by rw [h3]; exact h4⟩) fun e h => ⟨e, rfl, h⟩
def natAt (i : Nat) (env : List C) : Nat := match env[i]? with | some (.val (.int k)) => k.toNat | _ => 0
def absAt (i : Nat) (env : List C) : Nat := match env[i]? with | some (.val (.int k)) => k.natAbs | _ => 0
theorem ev_while {env : List C} {fu : List C → Nat} {c : List C → Option Bool} {b : List C → Out} : sWhile fu c b env = whileF c b (fu env) env := (rfl)
theorem rng_get {lo : Int} {n i : Nat} {d : D} (h : (rng lo n)[i]? = some d) : i < n ∧ d = .int (lo + i) := by
  have hi : i < n := by
    have := (List.getElem?_eq_some_iff.mp h).1
    rw [rng_len] at this; exact this
  unfold rng at h
  rw [List.getElem?_map, List.getElem?_range hi] at h
  cases h
  exact ⟨hi, rfl⟩
theorem forF_rng {lo : Int} {n : Nat} {v : Nat} {b : List C → Out} {env : List C} (I : Nat → List C → Prop) (h0 : I 0 env)
    (hs : ∀ i env, i < n → I i env → onNx (b (env.set v (.val (.int (lo + i))))) (I (i + 1))) : ∃ e, forF (tgN v) b (rng lo n) env = .nx e ∧ I n e := by
  have := forF_inv (g := tgN v) (b := b) (items := rng lo n) (env := env) I h0 fun i d env hd hI => by
    obtain ⟨hi, rfl⟩ := rng_get hd
    exact ⟨_, rfl, hs i env hi hI⟩
  rwa [rng_len] at this
theorem lcF_map {α : Type} {g : D → List C → Option (List C)} {tt : List C → Option Bool} {fe : List C → Option D} {env : List C} (t : α → D) (h : α → D) : ∀ (l : List α), (∀ a ∈ l, ∃ e, g (t a) env = some e ∧ tt e = some true ∧ fe e = some (h a)) → lcF g tt fe env (l.map t) = some (l.map h)
  | [], _ => rfl
  | a :: l, hl => by
    obtain ⟨e, h1, h2, h3⟩ := hl a List.mem_cons_self
    rw [List.map_cons]
    unfold lcF
    rw [h1, Option.bind_some, h2, Option.bind_some, if_pos rfl, h3, Option.bind_some, lcF_map t h l fun b hb => hl b (List.mem_cons_of_mem _ hb)]
    rfl
theorem lcF_filt {α : Type} {g : D → List C → Option (List C)} {tt : List C → Option Bool} {fe : List C → Option D} {env : List C} (t : α → D) (p : α → Bool) (h : α → D) : ∀ (l : List α), (∀ a ∈ l, ∃ e, g (t a) env = some e ∧ tt e = some (p a) ∧ (p a = true → fe e = some (h a))) → lcF g tt fe env (l.map t) = some ((l.filter p).map h)
  | [], _ => rfl
  | a :: l, hl => by
    obtain ⟨e, h1, h2, h3⟩ := hl a List.mem_cons_self
    rw [List.map_cons]
    unfold lcF
    rw [h1, Option.bind_some, h2, Option.bind_some, lcF_filt t p h l fun b hb => hl b (List.mem_cons_of_mem _ hb), List.filter_cons]
    cases z : p a with
    | true => rw [if_pos rfl, h3 z]; rfl
    | false => rfl
theorem rng_map (lo : Int) (n : Nat) : rng lo n = (List.range n).map fun i => .int (lo + (i : Nat)) := rfl
theorem zip_map {α β : Type} (t : α → D) (u : β → D) (l : List α) (m : List β) : zipD (l.map t) (m.map u) = (l.zip m).map fun p => .tuple [t p.1, u p.2] := by
  unfold zipD
  rw [List.zipWith_map]
  rw [List.zip, List.map_zipWith]
section
variable {α : Type}
theorem layAll_map (t : α → D) (h : ∀ a, (t a).canLay0 = true) : ∀ l : List α, PyData.canLayAll0 (l.map t) = true
  | [] => by simp only [List.map_nil, PyData.canLayAll0]
  | a :: l => by simp only [List.map_cons, PyData.canLayAll0, h a, layAll_map t h l, Bool.and_self]
theorem depthAll_mapD (t : α → D) {k : Nat} (h : ∀ a, (t a).depth ≤ k) : ∀ l : List α, PyData.depthAll (l.map t) ≤ k
  | [] => Nat.zero_le _
  | a :: l => by
    rw [List.map_cons, PyData.depthAll]
    exact Nat.max_le.mpr ⟨h a, depthAll_mapD t h l⟩
theorem shaped_list (t : α → D) (h : ∀ a, (t a).canLay0 = true) {k : Nat} (hk : k < 64) (hd : ∀ a, (t a).depth ≤ k) (l : List α) : SeqAt.shaped (.list (l.map t)) = true := by
  unfold SeqAt.shaped
  have := depthAll_mapD t hd l
  simp only [PyData.canLay0, PyData.depth, layAll_map t h l, Bool.true_and, decide_eq_true_eq]
  exact decide_eq_true (Nat.succ_le_of_lt (Nat.lt_of_le_of_lt this hk))
theorem shaped_ints (ns : List Int) : SeqAt.shaped (.list (ns.map .int)) = true := shaped_list (k := 0) PyData.int (fun _ => rfl) (by decide) (fun _ => Nat.le_refl _) ns
theorem ev_eq_li {ns ms : List Int} : gEq (.list (ns.map .int)) (.list (ms.map .int)) = some (.bool (decide (ns = ms))) := by
  have e : gEqD (.list (ns.map .int)) (.list (ms.map .int)) = some (.bool (decide (ns = ms))) := by
    unfold gEqD
    rw [if_pos ⟨shaped_ints ns, shaped_ints ms⟩]
    have := PySem.W.Datum.eqv ns ms
    rw [show PyData.eqv (.list (ns.map .int)) (.list (ms.map .int)) = decide (ns = ms) from this]
  show (match gEqS (.list (ns.map .int)) (.list (ms.map .int)) with | some d => some d | none => gEqD (.list (ns.map .int)) (.list (ms.map .int))) = _
  exact e
theorem ev_ne_li {ns ms : List Int} : gNe (.list (ns.map .int)) (.list (ms.map .int)) = some (.bool (!decide (ns = ms))) := by
  have e : gNeD (.list (ns.map .int)) (.list (ms.map .int)) = some (.bool (!decide (ns = ms))) := by
    unfold gNeD
    rw [if_pos ⟨shaped_ints ns, shaped_ints ms⟩]
    have := PySem.W.Datum.eqv ns ms
    rw [show PyData.eqv (.list (ns.map .int)) (.list (ms.map .int)) = decide (ns = ms) from this]
  show (match gNeS (.list (ns.map .int)) (.list (ms.map .int)) with | some d => some d | none => gNeD (.list (ns.map .int)) (.list (ms.map .int))) = _
  exact e
theorem eqD_self {x : D} (h : SeqAt.shaped x = true) : gEqD x x = some (.bool true) := by
  unfold gEqD
  rw [if_pos ⟨h, h⟩]
  unfold SeqAt.shaped at h
  rw [Bool.and_eq_true] at h
  rw [PySem.SeqAt.eqv_refl_plain x (PySem.PyData.plain_of_canLay0 x h.1)]
theorem neD_self {x : D} (h : SeqAt.shaped x = true) : gNeD x x = some (.bool false) := by
  unfold gNeD
  rw [if_pos ⟨h, h⟩]
  unfold SeqAt.shaped at h
  rw [Bool.and_eq_true] at h
  rw [PySem.SeqAt.eqv_refl_plain x (PySem.PyData.plain_of_canLay0 x h.1)]; rfl
theorem eqS_l {xs : List D} {y : D} : gEqS (.list xs) y = none := by cases y <;> rfl
theorem neS_l {xs : List D} {y : D} : gNeS (.list xs) y = none := by cases y <;> rfl
theorem eqS_t {xs : List D} {y : D} : gEqS (.tuple xs) y = none := by cases y <;> rfl
theorem neS_t {xs : List D} {y : D} : gNeS (.tuple xs) y = none := by cases y <;> rfl
theorem ev_eq_self {xs : List D} (h : SeqAt.shaped (.list xs) = true) : gEq (.list xs) (.list xs) = some (.bool true) := gOr_n eqS_l (eqD_self h)
theorem ev_ne_self {xs : List D} (h : SeqAt.shaped (.list xs) = true) : gNe (.list xs) (.list xs) = some (.bool false) := gOr_n neS_l (neD_self h)
theorem ev_eq_selfT {xs : List D} (h : SeqAt.shaped (.tuple xs) = true) : gEq (.tuple xs) (.tuple xs) = some (.bool true) := gOr_n eqS_t (eqD_self h)
theorem ev_ne_selfT {xs : List D} (h : SeqAt.shaped (.tuple xs) = true) : gNe (.tuple xs) (.tuple xs) = some (.bool false) := gOr_n neS_t (neD_self h)
theorem ev_ne_nil {ns : List Int} : gNe (.list (ns.map .int)) (.list []) = some (.bool (!decide (ns = []))) := ev_ne_li (ms := [])
theorem ev_eq_nil {ns : List Int} : gEq (.list (ns.map .int)) (.list []) = some (.bool (decide (ns = []))) := ev_eq_li (ms := [])
theorem sorted_gen {t : α → D} {le : α → α → Bool} {l : List α} (h1 : ∀ a b, W.alike (t a) (t b) = true) (h2 : (∀ a, isTup1 (t a) = true) ∨ (∀ a, notNT (t a) = true)) (h3 : ∀ a, (t a).depth ≤ 60) (hle : ∀ a b, W.dataLe false (fun d : D => d) (t a) (t b) = le a b) :
    gSorted [.list (l.map t)] = some (.list ((l.mergeSort le).map t)) := by
  have a1 : alikeB (l.map t) = true := by
    unfold alikeB
    simp only [List.all_map, List.all_eq_true, Function.comp]
    exact fun a _ b _ => h1 a b
  have a2 : sortableB (l.map t) = true := by
    unfold sortableB
    rw [Bool.or_eq_true]
    rcases h2 with h2 | h2
    · left; simp only [List.all_map, List.all_eq_true, Function.comp]; exact fun a _ => h2 a
    · right; simp only [List.all_map, List.all_eq_true, Function.comp]; exact fun a _ => h2 a
  have a3 : ((l.map t).all fun d => decide (d.depth ≤ 60)) = true := by
    simp only [List.all_map, List.all_eq_true, Function.comp, decide_eq_true_eq]; exact fun a _ => h3 a
  have e : gSorted [.list (l.map t)] = some (.list ((l.map t).mergeSort (W.dataLe false fun d => d))) := if_pos ⟨a1, a2, a3⟩
  rw [e, ← W.sort_maps t (fun a _ b _ => (hle a b).symm)]
theorem ev_sorted_i {ns : List Int} : gSorted [.list (ns.map .int)] = some (.list ((ns.mergeSort fun a b => decide (a ≤ b)).map .int)) :=
  sorted_gen (fun _ _ => by simp [W.alike]) (.inr fun _ => rfl) (fun _ => Nat.zero_le _) fun a b => congrFun (congrFun (W.dataLe_int (fun x : Int => x)) a) b
end
def oListRg (o : Option D) : Option D := match o with
  | some (.int j) => if -(2 ^ 62) ≤ j ∧ j ≤ 16777216 then some (.list (rng 0 j.toNat)) else none
  | _ => none
theorem ev_listRg {f : List C → Option D} {env : List C} : eListRg f env = oListRg (f env) := (rfl)
theorem ev_oListRg {k : Int} (h1 : -(2 ^ 62) ≤ k) (h2 : k ≤ 16777216) : oListRg (some (.int k)) = some (.list (rng 0 k.toNat)) := if_pos ⟨h1, h2⟩
theorem flat_ints (ns : List Int) : (ns.map PyData.int).all flatD = true := by
  rw [List.all_eq_true]
  intro d hd
  obtain ⟨n, _, rfl⟩ := List.mem_map.mp hd
  rfl
theorem ev_in_ii {i : Int} {ns : List Int} : gIn (.int i) (.list (ns.map .int)) = some (.bool (decide (i ∈ ns))) := by
  refine gOr_s ?_
  refine (show gInF (.int i) (.list (ns.map .int)) = if flatD (.int i) = true ∧ (ns.map PyData.int).all flatD = true then some (.bool (inF (.int i) (ns.map .int))) else none from rfl).trans ?_
  rw [if_pos ⟨rfl, flat_ints ns⟩]
  unfold inF inV
  rw [List.map_map, List.any_map]
  congr 2
  rw [Bool.eq_iff_iff, List.any_eq_true, decide_eq_true_eq]
  constructor
  · rintro ⟨y, hy, e⟩
    have : y = i := by simpa [flV, eqV] using e
    rw [← this]; exact hy
  · intro h
    exact ⟨i, h, by simp [flV, eqV]⟩
def oThaw (c : Option C) (fl : List C → Option D) (t : Nat) (env : List C) : Option D := match c with | some (.lst ds) => flatO (fl (env.set t (.val (.list ds)))) | _ => none
theorem ev_thaw {t : Nat} {fl : List C → Option D} {env : List C} : eThaw t fl env = oThaw env[t]? fl t env := (rfl)
theorem ev_oThaw {t : Nat} {fl : List C → Option D} {env : List C} {ds : List D} : oThaw (some (.lst ds)) fl t env = flatO (fl (env.set t (.val (.list ds)))) := (rfl)
theorem ev_flatO {ns : List Int} : flatO (some (.list (ns.map .int))) = some (.list (ns.map .int)) := if_pos (flat_ints ns)
def otThaw (c : Option C) (fl : List C → Option Bool) (t : Nat) (env : List C) : Option Bool := match c with | some (.lst ds) => fl (env.set t (.val (.list ds))) | _ => none
theorem ev_tThaw {t : Nat} {fl : List C → Option Bool} {env : List C} : tThaw t fl env = otThaw env[t]? fl t env := (rfl)
theorem ev_otThaw {t : Nat} {fl : List C → Option Bool} {env : List C} {ds : List D} : otThaw (some (.lst ds)) fl t env = fl (env.set t (.val (.list ds))) := (rfl)
def oMove (c : Option C) (i j : Nat) (env : List C) : Out := match c with | some (.lst ds) => .nx ((env.set j .und).set i (.lst ds)) | _ => .err
theorem ev_move {i j : Nat} {env : List C} : sMove i j env = oMove env[j]? i j env := (rfl)
theorem ev_oMove {i j : Nat} {env : List C} {ds : List D} : oMove (some (.lst ds)) i j env = .nx ((env.set j .und).set i (.lst ds)) := (rfl)
def oEnumG (o : Option D) : Option (List D) := (o.bind sqD).bind fun x => some (enumD x.2)
theorem ev_iEnumG {fe : List C → Option D} {env : List C} : iEnumG fe env = oEnumG (fe env) := (rfl)
theorem ev_oEnumG_l {ds : List D} : oEnumG (some (.list ds)) = some (enumD ds) := (rfl)
theorem ev_oEnumG_t {ds : List D} : oEnumG (some (.tuple ds)) = some (enumD ds) := (rfl)
end DL
namespace DL
open PySem PySem.Spec L2

def T.sub : List Nat → T → Option T
  | [], t => some t
  | j :: p, .n _ ts => (ts[j]?).bind (T.sub p)
  | _ :: _, .d _ => none
def T.put : List Nat → T → T → T
  | [], _, u => u
  | j :: p, .n s ts, u => .n s (match ts[j]? with | some t => ts.set j (T.put p t u) | none => ts)
  | _ :: _, .d x, _ => .d x
section
variable {K : PySem.W.Frag} {ow : Option World} {H F : Hp} {G : GC} {env : List C} {σ : L2.St} {fp : Nat → List Addr}
theorem ORs_len : ∀ {ts : List T} {vs : List V} {l : List Addr}, ORs K ow H F vs ts l → vs.length = ts.length
  | [], _, _, h => by cases h; rfl
  | t :: ts, _, _, h => by
    cases h with
    | cons h1 h2 => rw [List.length_cons, List.length_cons, ORs_len h2]
theorem ORs_at : ∀ {ts : List T} {vs : List V} {l : List Addr} {j : Nat} {t : T}, ORs K ow H F vs ts l → ts[j]? = some t → ∃ v lt l1 l2, l = l1 ++ (lt ++ l2) ∧ vs[j]? = some v ∧ OR K ow H F v t lt ∧
    ∀ (H' F' : Hp) (v' : V) (t' : T) (lt' : List Addr), Same F F' → (∀ b o, b ∈ l1 ++ l2 → H b = some o → H' b = some o) → OR K ow H' F' v' t' lt' → ORs K ow H' F' (vs.set j v') (ts.set j t') (l1 ++ (lt' ++ l2))
  | [], _, _, j, t, h, e => by simp at e
  | t0 :: ts, _, _, 0, t, h, e => by
    cases h with
    | @cons v _ lt m vs _ h1 h2 =>
      simp at e; subst e
      refine ⟨v, lt, [], m, rfl, rfl, h1, fun H' F' v' t' lt' f k r => ?_⟩
      show ORs K ow H' F' (v' :: vs) (t' :: ts) (lt' ++ m)
      exact .cons r (ORs_mono f _ _ _ k h2)
  | t0 :: ts, _, _, j + 1, t, h, e => by
    cases h with
    | @cons v _ l0 m vs _ h1 h2 =>
      obtain ⟨v', lt, l1, l2, rfl, g1, g2, g3⟩ := ORs_at h2 (by simpa using e)
      refine ⟨v', lt, l0 ++ l1, l2, by simp, by simpa using g1, g2, fun H' F' v' t' lt' f k r => ?_⟩
      have := ORs.cons (OR_mono f _ _ _ (fun b o hb => k b o (by simp [hb])) h1) (g3 H' F' v' t' lt' f (fun b o hb => k b o (by simp at hb ⊢; rcases hb with hb | hb <;> simp [hb])) r)
      simpa using this
theorem set_same {α : Type} {l : List α} {j : Nat} {x : α} (h : l[j]? = some x) : l.set j x = l := by
  obtain ⟨hj, rfl⟩ := List.getElem?_eq_some_iff.mp h
  exact List.set_getElem_self hj
theorem slot_own (R : Rel K G env σ H F fp) {i : Nat} {m : Option Nat} {t : T} (e : env[i]? = some (.own m t)) : ∃ v, σ[i]? = some (some v) ∧ OR K G.w H F v t (fp i) ∧ ∀ j, m = some j → ∃ a l, G.Ws[j]? = some (a, l) ∧ v = .ref a ∧ ∀ b, b ∈ fp i → b ∈ l ∨ G.H0 b = none := by
  obtain ⟨v, q1, q2, q3⟩ := R.slot i _ e
  cases z : σ[i]? with
  | none => rw [z] at q1; cases q1
  | some o =>
    rw [z] at q1
    have e2 : o = some v := q1
    subst e2
    exact ⟨v, rfl, q2, q3⟩
end
end DL
namespace DL
open PySem PySem.Spec L2

abbrev IP := Nat × List Nat
def nodeAt (env : List C) (ip : IP) : Option T := match env[ip.1]? with
  | some (.own _ t) => T.sub ip.2 t
  | _ => none
def putAt (env : List C) (ip : IP) (u : T) : List C := match env[ip.1]? with
  | some (.own m t) => env.set ip.1 (.own m (T.put ip.2 t u))
  | _ => env
theorem T.sub_snoc : ∀ {p : List Nat} {t : T} {s : Shp} {ts : List T} {j : Nat} {u : T}, T.sub p t = some (.n s ts) → ts[j]? = some u → T.sub (p ++ [j]) t = some u
  | [], t, s, ts, j, u, h, e => by cases h; show (ts[j]?).bind (T.sub []) = some u; rw [e]; rfl
  | k :: p, .d _, s, ts, j, u, h, e => by cases h
  | k :: p, .n s' ts', s, ts, j, u, h, e => by
    unfold T.sub at h
    show (ts'[k]?).bind (T.sub (p ++ [j])) = some u
    cases z : ts'[k]? with
    | none => rw [z] at h; cases h
    | some t' =>
      rw [z] at h
      exact T.sub_snoc (p := p) h e
theorem T.put_snoc : ∀ {p : List Nat} {t : T} {s : Shp} {ts : List T} {j : Nat} {u u' : T}, T.sub p t = some (.n s ts) → ts[j]? = some u → T.put (p ++ [j]) t u' = T.put p t (.n s (ts.set j u'))
  | [], t, s, ts, j, u, u', h, e => by
    cases h
    show T.n s (match ts[j]? with | some t => ts.set j (T.put [] t u') | none => ts) = .n s (ts.set j u')
    rw [e]; rfl
  | k :: p, .d _, s, ts, j, u, u', h, e => by cases h
  | k :: p, .n s' ts', s, ts, j, u, u', h, e => by
    unfold T.sub at h
    cases z : ts'[k]? with
    | none => rw [z] at h; cases h
    | some t' =>
      rw [z] at h
      show T.n s' (match ts'[k]? with | some t => ts'.set k (T.put (p ++ [j]) t u') | none => ts') = T.n s' (match ts'[k]? with | some t => ts'.set k (T.put p t (.n s (ts.set j u'))) | none => ts')
      rw [z]
      dsimp only
      rw [T.put_snoc (p := p) h e]
theorem nodeAt_of {env : List C} {ip : IP} {u : T} (h : nodeAt env ip = some u) : ∃ m t, env[ip.1]? = some (.own m t) ∧ T.sub ip.2 t = some u := by
  unfold nodeAt at h
  split at h
  · rename_i m t e; exact ⟨m, t, e, h⟩
  · cases h
structure Lens (K : PySem.W.Frag) (ow : Option World) (H F : Hp) (v0 : V) (t : T) (l : List Addr) (p : List Nat) (u : T) (v : V) (lu : List Addr) : Prop where
  rep : OR K ow H F v u lu
  mem : ∀ b, b ∈ lu → b ∈ l
  upd : ∀ (H' F' : Hp) (u' : T) (lu' : List Addr), Same F F' → (∀ b o, b ∈ l → b ∉ lu → H b = some o → H' b = some o) → OR K ow H' F' v u' lu' → (∀ b, b ∈ lu' → b ∈ lu ∨ b ∉ l) →
    ∃ l', OR K ow H' F' v0 (T.put p t u') l' ∧ ∀ b, b ∈ l' → (b ∈ l ∧ b ∉ lu) ∨ b ∈ lu'
section
variable {K : PySem.W.Frag} {ow : Option World} {H F H1 F1 : Hp} {v0 v : V} {t u : T} {l lu : List Addr} {p : List Nat}
theorem Lens.root (h : OR K ow H F v0 t l) : Lens K ow H F v0 t l [] t v0 l := ⟨h, fun _ h => h, fun H' F' u' lu' f k r n => ⟨lu', r, fun b hb => .inr hb⟩⟩
theorem Lens.mono (L : Lens K ow H F v0 t l p u v lu) (f : Same F F1) (k : ∀ b o, b ∈ l → H b = some o → H1 b = some o) : Lens K ow H1 F1 v0 t l p u v lu :=
  ⟨OR_mono f _ _ _ (fun b o hb => k b o (L.mem b hb)) L.rep, L.mem, fun H' F' u' lu' f' k' r n => L.upd H' F' u' lu' (f.trans f') (fun b o hl hn e => k' b o hl hn (k b o hl e)) r n⟩
theorem Lens.child {s : Shp} {ts : List T} {j : Nat} {tj : T} (L : Lens K ow H F v0 t l p (.n s ts) v lu) (hs : T.sub p t = some (.n s ts)) (e : ts[j]? = some tj) :
    ∃ a vs own w lt, v = .ref a ∧ NR K ow H F s a vs own ∧ ORs K ow H F vs ts (lu.drop own.length) ∧ vs[j]? = some w ∧ Lens K ow H F v0 t l (p ++ [j]) tj w lt := by
  obtain ⟨rep, mem, upd⟩ := L
  cases rep with
  | @n _ a vs _ own l0 h1 h2 h3 =>
    have hd : (own ++ l0).drop own.length = l0 := by simp
    obtain ⟨w, lt, l1, l2, rfl, g1, g2, g3⟩ := ORs_at h2 e
    refine ⟨a, vs, own, w, lt, rfl, h1, by rw [hd]; exact h2, g1, g2, fun b hb => mem b (by simp [hb]), fun H' F' u' lu' f k r n => ?_⟩
    have nd : ∀ b, b ∈ lt → b ∉ own ∧ b ∉ l1 ∧ b ∉ l2 := fun b hb => by
      simp only [List.nodup_append, List.mem_append] at h3
      grind
    have o1 := g3 H' F' w u' lu' f (fun b o hb => k b o (mem b (by simp at hb ⊢; grind)) (fun hl => by have := nd b hl; simp at hb; grind)) r
    rw [set_same g1] at o1
    have nl : ∀ b, b ∈ lu' → b ∉ own ∧ b ∉ l1 ∧ b ∉ l2 := fun b hb => by
      rcases n b hb with y | y
      · exact nd b y
      · have h := fun (z : b ∈ own ++ (l1 ++ (lt ++ l2))) => y (mem b z)
        simp at h; grind
    have nd2 : (own ++ (l1 ++ (lu' ++ l2))).Nodup := by
      have nl' := r.nodup
      simp only [List.nodup_append, List.mem_append] at h3 ⊢
      grind
    obtain ⟨l', r', q⟩ := upd H' F' (.n s (ts.set j u')) (own ++ (l1 ++ (lu' ++ l2))) f (fun b o hl hn => k b o hl (fun hl => hn (by simp [hl])))
      (.n (h1.mono (fun b o hb => k b o (mem b (by simp [hb])) (fun hl => (nd b hl).1 hb)) f) o1 nd2) (fun b hb => by
        by_cases hb' : b ∈ lu'
        · exact (n b hb').imp_left fun z => by simp [z]
        · exact .inl (by simp at hb ⊢; grind))
    refine ⟨l', ?_, fun b hb => ?_⟩
    · rw [T.put_snoc hs e]; exact r'
    · rcases q b hb with z | z
      · exact .inl ⟨z.1, fun y => z.2 (by simp [y])⟩
      · by_cases hb' : b ∈ lu'
        · exact .inr hb'
        · refine .inl ⟨mem b (by simp at z ⊢; grind), fun y => ?_⟩
          have := nd b y
          simp at z; grind
end
structure Place (K : PySem.W.Frag) (G : GC) (env : List C) (σ : L2.St) (H F : Hp) (fp : Nat → List Addr) (ip : IP) (u : T) (v : V) (lu : List Addr) : Prop where
  ex : ∃ m t v0, env[ip.1]? = some (.own m t) ∧ T.sub ip.2 t = some u ∧ σ[ip.1]? = some (some v0) ∧ Lens K G.w H F v0 t (fp ip.1) ip.2 u v lu
section
variable {K : PySem.W.Frag} {G : GC} {env : List C} {σ : L2.St} {H F H1 F1 : Hp} {fp : Nat → List Addr} {ip : IP} {u : T} {v : V} {lu : List Addr}
theorem Place.rep (P : Place K G env σ H F fp ip u v lu) : OR K G.w H F v u lu := let ⟨_, _, _, _, _, _, L⟩ := P.ex; L.rep
theorem Place.mem (P : Place K G env σ H F fp ip u v lu) {b : Addr} (hb : b ∈ lu) : b ∈ fp ip.1 := let ⟨_, _, _, _, _, _, L⟩ := P.ex; L.mem b hb
theorem Place.node (P : Place K G env σ H F fp ip u v lu) : nodeAt env ip = some u := by
  obtain ⟨m, t, v0, e, hs, _⟩ := P.ex
  unfold nodeAt; rw [e]; exact hs
theorem Rel.place (R : Rel K G env σ H F fp) {i : Nat} {m : Option Nat} {t : T} (e : env[i]? = some (.own m t)) : ∃ v, σ[i]? = some (some v) ∧ Place K G env σ H F fp (i, []) t v (fp i) := by
  obtain ⟨v0, s1, s2, s3⟩ := slot_own R e
  exact ⟨v0, s1, ⟨m, t, v0, e, rfl, s1, Lens.root s2⟩⟩
theorem Place.ext (P : Place K G env σ H F fp ip u v lu) (E : Ext H F H1 F1) : Place K G env σ H1 F1 fp ip u v lu := by
  obtain ⟨m, t, v0, e, hs, s, L⟩ := P.ex
  exact ⟨m, t, v0, e, hs, s, L.mono E.f fun b o _ => E.h b o⟩
theorem Place.child {s : Shp} {ts : List T} {j : Nat} {t : T} (P : Place K G env σ H F fp ip (.n s ts) v lu) (e : ts[j]? = some t) :
    ∃ a vs own w lt, v = .ref a ∧ NR K G.w H F s a vs own ∧ ORs K G.w H F vs ts (lu.drop own.length) ∧ vs[j]? = some w ∧ Place K G env σ H F fp (ip.1, ip.2 ++ [j]) t w lt := by
  obtain ⟨m, t0, v0, e0, hs, s, L⟩ := P.ex
  obtain ⟨a, vs, own, w, lt, h1, h2, h3, h4, L'⟩ := L.child hs e
  exact ⟨a, vs, own, w, lt, h1, h2, h3, h4, ⟨m, t0, v0, e0, T.sub_snoc hs e, s, L'⟩⟩
theorem Rel.write3 (R : Rel K G env σ H F fp) (P : Place K G env σ H F fp ip u v lu) {H' F' : Hp} {u' : T} {lu' : List Addr} (f : Same F F') (sub : Same F' H') (nw : ∀ a o, F' a = some o → F a = some o ∨ H a = none ∨ (a ∈ lu ∧ G.H0 a = none)) (k : ∀ b o, b ∉ lu → H b = some o → H' b = some o) (al : ∀ b, b ∈ lu → H' b ≠ none)
    (r : OR K G.w H' F' v u' lu') (n : ∀ b, b ∈ lu' → (b ∈ lu ∨ ((∀ j, b ∉ fp j) ∧ G.H0 b = none)) ∧ F' b = none ∧ H' b ≠ none) : ∃ fp', Rel K G (putAt env ip u') σ H' F' fp' ∧ (∀ j, j ≠ ip.1 → fp' j = fp j) ∧ ∀ b, b ∈ fp' ip.1 → b ∈ fp ip.1 ∨ b ∈ lu' := by
  obtain ⟨i, p⟩ := ip
  obtain ⟨m, t, v0, e, hs, s1, L⟩ := P.ex
  dsimp only at *
  have a3 := L.mem
  obtain ⟨v0', s1', _, s3⟩ := slot_own R e
  rw [s1] at s1'; cases s1'
  obtain ⟨l', r', hl2⟩ := L.upd H' F' u' lu' f (fun b o _ => k b o) r (fun b hb => (n b hb).1.imp_right fun z => z.1 i)
  have hl' : ∀ b, b ∈ l' → b ∈ fp i ∨ b ∈ lu' := fun b hb => (hl2 b hb).imp_left And.left
  unfold putAt
  rw [e]
  dsimp only
  have al2 : ∀ b, H b ≠ none → H' b ≠ none := fun b hb => by
    by_cases hl : b ∈ lu
    · exact al b hl
    · cases q : H b with
      | none => exact absurd q hb
      | some o => rw [k b o hl q]; intro z; cases z
  have fn : ∀ j b, b ∈ fp j → b ∉ lu → F' b = none := fun j b hb hl => by
    cases q : F' b with
    | none => rfl
    | some o =>
      rcases nw b o q with z | z | z
      · rw [(R.own j b hb).1] at z; cases z
      · exact absurd z (R.own j b hb).2.1
      · exact absurd z.1 hl
  have hi := (List.getElem?_eq_some_iff.mp e).1
  refine ⟨fset fp i l', ?_, fun j hj => fset_ne hj, fun b hb => by rw [fset_at] at hb; exact hl' b hb⟩
  exact {
    len := by rw [List.length_set]; exact R.len
    slot := fun j c ej => by
      by_cases hj : j = i
      · subst hj
        rw [fset_at]
        rw [List.getElem?_set_self hi] at ej; cases ej
        refine ⟨v0, by rw [s1]; rfl, r', fun jj hj => ?_⟩
        obtain ⟨ra, rl, h1, h2, h3⟩ := s3 jj hj
        refine ⟨ra, rl, h1, h2, fun b hb => ?_⟩
        rcases hl' b hb with z | z
        · exact h3 b z
        · rcases (n b z).1 with y | y
          · exact h3 b (a3 b y)
          · exact .inr y.2
      · rw [List.getElem?_set_ne (Ne.symm hj)] at ej
        rw [fset_ne hj]
        have q := R.slot j c ej
        have kk : ∀ b o, b ∈ fp j → H b = some o → H' b = some o := fun b o hb => k b o fun hl => hj (R.dj j i b hb (a3 b hl))
        cases c with
        | und => exact q
        | val d => obtain ⟨y1, w, y2, y3⟩ := q; exact ⟨y1, w, y2, DF_mono f _ _ y3⟩
        | brw d => exact q
        | lst ds => obtain ⟨b, vs, y1, y2, y3, y4⟩ := q; exact ⟨b, vs, y1, y2, kk _ _ (by rw [y1]; exact List.mem_singleton.mpr rfl) y3, DFAll_mono f _ _ y4⟩
        | dK ds => obtain ⟨b, vs, y1, y2, y3, y4⟩ := q; exact ⟨b, vs, y1, y2, kk _ _ (by rw [y1]; exact List.mem_singleton.mpr rfl) y3, y4.mono f⟩
        | dT ds => obtain ⟨b, vs, y1, y2, y3, y4⟩ := q; exact ⟨b, vs, y1, y2, kk _ _ (by rw [y1]; exact List.mem_singleton.mpr rfl) y3, y4.mono f⟩
        | dN ds => obtain ⟨b, w, xs, y1, y2, y5, y3, y4⟩ := q; exact ⟨b, w, xs, y1, y2, y5, kk _ _ (by rw [y1]; exact List.mem_singleton.mpr rfl) y3, y4.mono f⟩
        | pin _ => exact q
        | al j i => obtain ⟨q0, a, l, vs, v, q1, q2, q3⟩ := q; exact ⟨q0, a, l, vs, v, q1, f _ _ q2, q3⟩
        | ro b t2 => obtain ⟨y0, w, l, y1, y2, y3⟩ := q; exact ⟨y0, w, l, y1, OR_mono f _ _ _ (fun _ _ _ z => z) y2, fun hb a vs ha hk => f _ _ (y3 hb a vs ha hk)⟩
        | own m2 t2 => obtain ⟨w, y1, y2, y3⟩ := q; exact ⟨w, y1, OR_mono f _ _ _ kk y2, y3⟩
    dj := fun j k2 b h1 h2 => by
      have hh : ∀ j, j ≠ i → b ∈ l' → b ∈ fp j → False := fun j hj h1 h2 => by
        rcases hl' b h1 with z | z
        · exact hj (R.dj j i b h2 z)
        · rcases (n b z).1 with y | y
          · exact hj (R.dj j i b h2 (a3 b y))
          · exact y.1 j h2
      by_cases hj : j = i
      · by_cases hk : k2 = i
        · exact hj.trans hk.symm
        · subst hj; rw [fset_at] at h1; rw [fset_ne hk] at h2
          exact (hh k2 hk h1 h2).elim
      · by_cases hk : k2 = i
        · subst hk; rw [fset_at] at h2; rw [fset_ne hj] at h1
          exact (hh j hj h2 h1).elim
        · rw [fset_ne hj] at h1; rw [fset_ne hk] at h2
          exact R.dj j k2 b h1 h2
    own := fun j b hb => by
      by_cases hj : j = i
      · subst hj
        rw [fset_at] at hb
        have old : b ∈ fp j → F' b = none → F' b = none ∧ H' b ≠ none ∧ (G.H0 b = none ∨ (b ∈ G.W ∧ ∃ c, (env.set j (.own m (T.put p t u')))[j]? = some c ∧ c.mu = true)) := fun z nf => by
          obtain ⟨g1, g2, g3⟩ := R.own j b z
          refine ⟨nf, al2 b g2, g3.imp_right fun ⟨w1, c, w2, w3⟩ => ⟨w1, _, List.getElem?_set_self hi, ?_⟩⟩
          rw [e] at w2; cases w2
          cases m with
          | none => cases w3
          | some _ => rfl
        rcases hl2 b hb with z | z
        · exact old z.1 (fn j b z.1 z.2)
        · obtain ⟨n1, n2, n3⟩ := n b z
          rcases n1 with y | y
          · exact old (a3 b y) n2
          · exact ⟨n2, n3, .inl y.2⟩
      · rw [fset_ne hj] at hb
        obtain ⟨g1, g2, g3⟩ := R.own j b hb
        exact ⟨fn j b hb (fun hl => hj (R.dj j i b hb (a3 b hl))), al2 b g2, by rw [List.getElem?_set_ne (Ne.symm hj)]; exact g3⟩
    sub := sub
    new := fun a o q => by
      rcases nw a o q with z | z | z
      · exact R.new a o z
      · exact .inr (R.h0 z)
      · exact .inr z.2
    old := R.old.trans f
    keep := fun a o q hw => by
      refine k a o (fun hl => ?_) (R.keep a o q hw)
      rcases (R.own i a (a3 a hl)).2.2 with z | z
      · rw [z] at q; cases q
      · exact hw z.1
    alive := fun a q => al2 a (R.alive a q) }
theorem Rel.write2 (R : Rel K G env σ H F fp) (P : Place K G env σ H F fp ip u v lu) {H' F' : Hp} {u' : T} {lu' : List Addr} (f : Same F F') (sub : Same F' H') (nw : ∀ a o, F' a = some o → F a = some o ∨ H a = none) (k : ∀ b o, b ∉ lu → H b = some o → H' b = some o) (al : ∀ b, b ∈ lu → H' b ≠ none)
    (r : OR K G.w H' F' v u' lu') (n : ∀ b, b ∈ lu' → (b ∈ lu ∨ ((∀ j, b ∉ fp j) ∧ G.H0 b = none)) ∧ F' b = none ∧ H' b ≠ none) : ∃ fp', Rel K G (putAt env ip u') σ H' F' fp' ∧ (∀ j, j ≠ ip.1 → fp' j = fp j) ∧ ∀ b, b ∈ fp' ip.1 → b ∈ fp ip.1 ∨ b ∈ lu' :=
  R.write3 P f sub (fun a o h => (nw a o h).imp_right .inl) k al r n
theorem nodeAt_child {s : Shp} {ts : List T} {j : Nat} {t : T} (hn : nodeAt env ip = some (.n s ts)) (e : ts[j]? = some t) : nodeAt env (ip.1, ip.2 ++ [j]) = some t := by
  obtain ⟨m, t0, e0, hs⟩ := nodeAt_of hn
  unfold nodeAt
  rw [e0]
  exact T.sub_snoc hs e
end
structure DPl (X : Cx) (G : GC) (e : Expr) (g : List C → Option IP) : Prop where
  ex : ∃ t, PE X e t ∧ ∀ (σ : L2.St) (H F : Hp) (fp : Nat → List Addr) (env : List C) (ip : IP) (u : T) (Q : VK), Rel X.K G env σ H F fp → g env = some ip → nodeAt env ip = some u →
    (∀ v lu H' F', Ext H F H' F' → Place X.K G env σ H' F' fp ip u v lu → Q v H') → t σ H Q
section
variable {X : Cx} {G : GC} {e : Expr} {g : List C → Option IP} {pos : Pos} {k : RK} {f fi : List C → Option D}
def pNm (i : Nat) : List C → Option IP := fun _ => some (i, [])
theorem dp_name {x : Str} (i : Nat) (h : PE X (.Name x pos) (tVar i)) : DPl X G (.Name x pos) (pNm i) := by
  refine ⟨_, h, fun σ H F fp env ip u Q R hg hn q => ?_⟩
  cases hg
  obtain ⟨m, t, e, hs⟩ := nodeAt_of hn
  cases hs
  obtain ⟨v, s1, P⟩ := R.place e
  exact ⟨v, s1, q v _ H F (Ext.refl R.sub) P⟩
def pChild (g : List C → Option IP) (sel : List C → Shp → Nat → Option Nat) : List C → Option IP := fun env => match g env with
  | some ip => (match nodeAt env ip with | some (.n s ts) => (match sel env s ts.length with | some j => if j < ts.length then some (ip.1, ip.2 ++ [j]) else none | none => none) | _ => none)
  | none => none
theorem pChild_of {sel : List C → Shp → Nat → Option Nat} {env : List C} {ip : IP} {u : T} (hg : pChild g sel env = some ip) (hn : nodeAt env ip = some u) : ∃ ip0 s ts j, g env = some ip0 ∧ nodeAt env ip0 = some (.n s ts) ∧ sel env s ts.length = some j ∧ ts[j]? = some u ∧ ip = (ip0.1, ip0.2 ++ [j]) := by
  unfold pChild at hg
  split at hg
  · rename_i ip0 h0
    split at hg
    · rename_i s ts h1
      split at hg
      · rename_i j h2
        split at hg <;> cases hg
        rename_i hj
        have := nodeAt_child h1 (List.getElem?_eq_getElem hj)
        rw [this] at hn; cases hn
        exact ⟨ip0, s, ts, j, h0, h1, h2, List.getElem?_eq_getElem hj, rfl⟩
      · cases hg
    · cases hg
  · cases hg
structure ClOk (K : PySem.W.Frag) (c : Str) : Prop where
  ex : ∃ C, PySem.W.nsIn K mainGlobals c = some (some (.ref C)) ∧ Cls K C
def NoAt (K : PySem.W.Frag) (c f : Str) : Prop := ∀ C, PySem.W.nsIn K mainGlobals c = some (some (.ref C)) → NoAttr K C f
def fIx (f : Str) : List Str → Option Nat
  | [] => none
  | g :: r => if g = f then some 0 else (fIx f r).map (· + 1)
theorem fIx_zip {f : Str} : ∀ {fs : List Str} {vs : List V} {j : Nat} {w : V}, fIx f fs = some j → vs[j]? = some w → (fs.zip vs).lookup f = some w
  | [], _, _, _, h, _ => by cases h
  | g :: r, [], _, _, _, e => by simp at e
  | g :: r, v :: vs, j, w, h, e => by
    unfold fIx at h
    rw [List.zip_cons_cons, List.lookup_cons]
    by_cases hg : g = f
    · rw [if_pos hg] at h; cases h
      simp at e
      subst hg
      simp [e]
    · rw [if_neg hg] at h
      have hb : (f == g) = false := beq_eq_false_iff_ne.mpr (Ne.symm hg)
      rw [hb]
      cases z : fIx f r with
      | none => rw [z] at h; cases h
      | some k =>
        rw [z] at h; cases h
        exact fIx_zip z (by simpa using e)
def selF (c f : Str) : List C → Shp → Nat → Option Nat := fun _ s _ => match s with | .o c' fs => if c' = c then fIx f fs else none | _ => none
def pF (c f : Str) (g : List C → Option IP) : List C → Option IP := pChild g (selF c f)
theorem dp_attr {f : Str} (c : Str) (h : DPl X G e g) (hc : ClOk X.K c) (hf : NoAt X.K c f) (hb : attributeBase e f X.env (eval e X.env) = eval e X.env := by rfl) : DPl X G (.Attribute e f pos) (pF c f g) := by
  obtain ⟨t, pt, o⟩ := h.ex
  refine ⟨_, pe_fld pt hb, fun σ H F fp env ip u Q R hg hn q => ?_⟩
  obtain ⟨ip0, s, ts, j, h0, h1, h2, h3, rfl⟩ := pChild_of hg hn
  unfold selF at h2
  split at h2
  · rename_i c' fs
    split at h2
    · rename_i hcc
      subst hcc
      refine o σ H F fp env ip0 _ _ R h0 h1 fun v lu H1 F1 E1 P => ?_
      obtain ⟨a, vs, own, w, lt, rfl, nr, _, hw, P'⟩ := P.child h3
      obtain ⟨l, C, dx, rfl, n1, n2, n3⟩ := nr
      obtain ⟨C', hC, cls⟩ := hc.ex
      rw [n1] at hC; cases hC
      exact ⟨a, C, dx, _, w, rfl, n2, cls, hf C n1, fIx_zip h2 hw, q w lt H1 F1 E1 P'⟩
    · cases h2
  · cases h2
def selI (fi : List C → Option D) : List C → Shp → Nat → Option Nat := fun env s n => match s with
  | .l => (match fi env with | some (.int i) => ixN n i | _ => none)
  | .lf => (match fi env with | some (.int i) => ixN n i | _ => none)
  | .t => (match fi env with | some (.int i) => ixN n i | _ => none)
  | _ => none
def pI (fi : List C → Option D) (g : List C → Option IP) : List C → Option IP := pChild g (selI fi)
def eLeaf (g : List C → Option IP) : List C → Option D := fun env => match g env with
  | some ip => (match nodeAt env ip with | some (.d x) => some x | _ => none)
  | none => none
def flatT : List T → Option (List D)
  | [] => some []
  | .d x :: r => (flatT r).map (x :: ·)
  | .n _ _ :: _ => none
theorem flatT_rep {K : PySem.W.Frag} {ow : Option World} {H F : Hp} : ∀ {ts : List T} {ds : List D} {vs : List V} {l : List Addr}, flatT ts = some ds → ORs K ow H F vs ts l → DFAll K F vs ds ∧ l = []
  | [], ds, vs, l, h, r => by cases h; cases r; exact ⟨.nil, rfl⟩
  | .d x :: ts, ds, vs, l, h, r => by
    unfold flatT at h
    cases z : flatT ts with
    | none => rw [z] at h; cases h
    | some ds' =>
      rw [z] at h; cases h
      cases r with
      | cons r1 r2 =>
        cases r1 with
        | d r1 =>
          obtain ⟨a, b⟩ := flatT_rep z r2
          exact ⟨.cons r1 a, by rw [b]; rfl⟩
  | .n _ _ :: ts, ds, vs, l, h, r => by cases h
theorem rep_flatT {K : PySem.W.Frag} {ow : Option World} {H F : Hp} : ∀ {ds : List D} {vs : List V}, DFAll K F vs ds → ORs K ow H F vs (ds.map T.d) []
  | [], _, h => by cases h; exact .nil
  | d :: ds, _, h => by
    cases h with
    | cons h1 h2 =>
      have := ORs.cons (.d h1) (rep_flatT (ow := ow) (H := H) h2)
      simpa using this
def eFlat (g : List C → Option IP) : List C → Option D := fun env => match g env with
  | some ip => (match nodeAt env ip with | some (.n .l ts) => (flatT ts).map .list | some (.d x) => some x | _ => none)
  | none => none
mutual
def viewT : T → Option D
  | .d x => some x
  | .n .l ts => (viewTs ts).map .list
  | .n .t ts => (viewTs ts).map .tuple
  | .n _ _ => none
def viewTs : List T → Option (List D)
  | [] => some []
  | t :: r => (viewT t).bind fun x => (viewTs r).map (x :: ·)
end
mutual
theorem view_rep {K : PySem.W.Frag} {ow : Option World} {H F : Hp} (sub : Same F H) : ∀ (t : T) (v : V) (d : D) (l : List Addr), viewT t = some d → OR K ow H F v t l → Dp K H v d
  | .d x, v, d, l, h, r => by
    unfold viewT at h; cases h
    cases r with
    | d r => exact Dp_mono sub _ _ (DF.dp _ _ r)
  | .n s ts, v, d, l, h, r => by
    cases r with
    | n r1 r2 r3 =>
      cases s with
      | l =>
        unfold viewT at h
        cases z : viewTs ts with
        | none => rw [z] at h; cases h
        | some ds => rw [z] at h; cases h; exact .lst (.inl (.inl r1.2)) (view_reps sub ts _ _ _ z r2)
      | t =>
        unfold viewT at h
        cases z : viewTs ts with
        | none => rw [z] at h; cases h
        | some ds => rw [z] at h; cases h; exact .tup (by
          rcases r1 with ⟨_, h⟩ | ⟨_, h⟩
          · exact .inl (.inl h)
          · exact Same.seqT sub h) (view_reps sub ts _ _ _ z r2)
      | k ks => unfold viewT at h; cases h
      | q ks => unfold viewT at h; cases h
      | o c fs => unfold viewT at h; cases h
      | x c fs => unfold viewT at h; cases h
      | e fs => unfold viewT at h; cases h
      | lf => unfold viewT at h; cases h
      | kf ks => unfold viewT at h; cases h
      | v => unfold viewT at h; cases h
theorem view_reps {K : PySem.W.Frag} {ow : Option World} {H F : Hp} (sub : Same F H) : ∀ (ts : List T) (vs : List V) (ds : List D) (l : List Addr), viewTs ts = some ds → ORs K ow H F vs ts l → DpAll K H vs ds
  | [], vs, ds, l, h, r => by unfold viewTs at h; cases h; cases r; exact .nil
  | t :: ts, vs, ds, l, h, r => by
    cases r with
    | cons r1 r2 =>
      unfold viewTs at h
      cases z : viewT t with
      | none => rw [z] at h; cases h
      | some x =>
        cases z2 : viewTs ts with
        | none => rw [z, z2] at h; cases h
        | some xs =>
          rw [z, z2] at h; cases h
          exact .cons (view_rep sub t _ _ _ z r1) (view_reps sub ts _ _ _ z2 r2)
end
def eView (g : List C → Option IP) : List C → Option D := fun env => match g env with
  | some ip => (match nodeAt env ip with | some t => viewT t | _ => none)
  | none => none
end
end DL
namespace DL
open PySem PySem.Spec L2

def Fresh (H H' F' : Hp) (l : List Addr) : Prop := ∀ b, b ∈ l → H b = none ∧ F' b = none ∧ H' b ≠ none
structure DN (X : Cx) (G : GC) (e : Expr) (f : List C → Option T) : Prop where
  ex : ∃ t, PE X e t ∧ ∀ (σ : L2.St) (H F : Hp) (fp : Nat → List Addr) (env : List C) (u : T) (Q : VK), Rel X.K G env σ H F fp → f env = some u →
    (∀ v H' F' l, Ext H F H' F' → OR X.K G.w H' F' v u l → Fresh H H' F' l → Q v H') → t σ H Q
structure DNs (X : Cx) (G : GC) (es : List Expr) (f : List C → Option (List T)) : Prop where
  ex : ∃ t, PA X es t ∧ ∀ (σ : L2.St) (H F : Hp) (fp : Nat → List Addr) (env : List C) (us : List T) (Q : List V → Hp → Prop), Rel X.K G env σ H F fp → f env = some us →
    (∀ vs H' F' l, Ext H F H' F' → ORs X.K G.w H' F' vs us l → Fresh H H' F' l → l.Nodup → Q vs H') → t σ H Q
section
variable {X : Cx} {G : GC} {e : Expr} {es : List Expr} {k : RK} {f : List C → Option D} {fn : List C → Option T} {fs : List C → Option (List T)} {pos : Pos}
theorem Fresh.ext {H H1 F1 H' F' : Hp} {l : List Addr} (h : Fresh H H1 F1 l) (E : Ext H1 F1 H' F') : Fresh H H' F' l := fun b hb => by
  obtain ⟨h1, h2, h3⟩ := h b hb
  refine ⟨h1, ?_, ?_⟩
  · cases q : F' b with
    | none => rfl
    | some o =>
      rcases E.new b o q with z | z
      · rw [h2] at z; cases z
      · exact absurd z h3
  · cases q : H1 b with
    | none => exact absurd q h3
    | some o => rw [E.h _ _ q]; intro z; cases z
theorem Fresh.back {H H1 H' F' : Hp} {l : List Addr} (h : Fresh H1 H' F' l) (s : Same H H1) : Fresh H H' F' l := fun b hb => ⟨s.free (h b hb).1, (h b hb).2⟩
def nD (f : List C → Option D) : List C → Option T := fun env => (f env).map T.d
def nL (f : List C → Option D) : List C → Option T := fun env => match f env with | some (.list ds) => some (.n .l (ds.map T.d)) | _ => none
theorem dn_fz (h : DE X G k e f) (hk : k.le .fz = true := by rfl) : DN X G e (nD f) := by
  obtain ⟨t, pt, o⟩ := (h.conv hk).ex
  refine ⟨t, pt, fun σ H F fp env u Q R hf q => ?_⟩
  unfold nD at hf
  cases z : f env with
  | none => rw [z] at hf; cases hf
  | some d =>
    rw [z] at hf; cases hf
    exact o σ H F fp env d Q R z fun v H' F' E r => q v H' F' [] E (.d r) (fun _ m => nomatch m)
theorem dn_ow (h : DE X G .ow e f) : DN X G e (nL f) := by
  obtain ⟨t, pt, o⟩ := h.ex
  refine ⟨t, pt, fun σ H F fp env u Q R hf q => ?_⟩
  unfold nL at hf
  split at hf
  · rename_i ds z
    cases hf
    refine o σ H F fp env _ Q R z fun v H' F' E r => ?_
    obtain ⟨a, vs, ds', rfl, ed, h1, h2, h3, h4⟩ := r
    cases ed
    refine q _ H' F' ([a] ++ []) E (.n ⟨rfl, h2⟩ (rep_flatT h4) (by simp)) fun b hb => ?_
    have e : b = a := by simpa using hb
    subst e
    exact ⟨h1, h3, by rw [h2]; intro z; cases z⟩
  · cases hf
def nsNil : List C → Option (List T) := fun _ => some []
def nsCons (f : List C → Option T) (g : List C → Option (List T)) : List C → Option (List T) := fun env => match f env with
  | some u => (match g env with | some us => some (u :: us) | none => none)
  | none => none
def nLst (fs : List C → Option (List T)) : List C → Option T := fun env => (fs env).map (.n .l)
def nTup (fs : List C → Option (List T)) : List C → Option T := fun env => (fs env).map (.n .t)
theorem nsNil_len {env : List C} {us : List T} (h : nsNil env = some us) : us.length = 0 := by cases h; rfl
theorem nsCons_len {n : Nat} (hl : ∀ env us, fs env = some us → us.length = n) (env : List C) (us : List T) (h : nsCons fn fs env = some us) : us.length = n + 1 := by
  unfold nsCons at h
  split at h
  · split at h
    · rename_i us' z
      cases h
      rw [List.length_cons, hl _ _ z]
    · cases h
  · cases h
def nDictK : List C → Option T := fun _ => some (.n (.k []) [])
def nDictQ : List C → Option T := fun _ => some (.n (.q []) [])
end

structure DX (X : Cx) (G : GC) (e : Expr) (g : List C → Option (List C × T)) : Prop where
  ex : ∃ t, PE X e t ∧ ∀ (σ : L2.St) (H F : Hp) (fp : Nat → List Addr) (env env' : List C) (u : T) (Q : VK), Rel X.K G env σ H F fp → g env = some (env', u) →
    (∀ v H' F' fp' l, Rel X.K G env' σ H' F' fp' → Same F F' → New X.K G H' F' fp' v u l → Q v H') → t σ H Q
structure DTX (X : Cx) (G : GC) (e : Expr) (g : List C → Option (List C × Bool)) : Prop where
  ex : ∃ t, PT X e t ∧ ∀ (σ : L2.St) (H F : Hp) (fp : Nat → List Addr) (env env' : List C) (b : Bool) (Q : Bool → Hp → Prop), Rel X.K G env σ H F fp → g env = some (env', b) →
    (∀ H' F' fp', Rel X.K G env' σ H' F' fp' → Same F F' → Q b H') → t σ H Q
section
variable {X : Cx} {G : GC} {kr k : RK} {e a b : Expr} {sts sts2 : List Stmt} {f : List C → Option D} {fn : List C → Option T} {g : List C → Option (List C × T)} {gt : List C → Option (List C × Bool)} {pos pos' : Pos} {x : Str}
theorem Rel.fresh {K : PySem.W.Frag} {env : List C} {σ : L2.St} {H F H' F' : Hp} {fp : Nat → List Addr} {l : List Addr} {v : V} {u : T} (R : Rel K G env σ H F fp) (E : Ext H F H' F') (r : OR K G.w H' F' v u l) (fr : Fresh H H' F' l) : New K G H' F' fp v u l where
  rep := r
  own := fun a ha => ⟨(fr a ha).2.1, (fr a ha).2.2, R.h0 (fr a ha).1⟩
  dj := fun a ha j hj => (R.own j a hj).2.1 (fr a ha).1
def xN (f : List C → Option T) : List C → Option (List C × T) := fun env => (f env).map fun u => (env, u)
theorem dx_of (h : DN X G e fn) : DX X G e (xN fn) := by
  obtain ⟨t, pt, o⟩ := h.ex
  refine ⟨t, pt, fun σ H F fp env env' u Q R hf q => ?_⟩
  unfold xN at hf
  cases z : fn env with
  | none => rw [z] at hf; cases hf
  | some u' =>
    rw [z] at hf; cases hf
    exact o σ H F fp env _ Q R z fun v H' F' l E r fr => q v H' F' fp l (R.ext E) E.f (R.fresh E r fr)
def toC : T → C
  | .d x => .val x
  | u => .own none u
theorem Rel.putX {K : PySem.W.Frag} {env : List C} {σ : L2.St} {H F : Hp} {fp : Nat → List Addr} {l : List Addr} {v : V} {u : T} (R : Rel K G env σ H F fp) (n : New K G H F fp v u l) (i : Nat) : ∃ fp', Rel K G (env.set i (toC u)) (σ.set i (some v)) H F fp' := by
  cases u with
  | d x =>
    cases n.rep with
    | d r => exact ⟨_, R.put (i := i) (v := v) (c := .val x) (l := []) ⟨rfl, v, rfl, r⟩ (fun _ m => nomatch m) (fun _ m => nomatch m)⟩
  | n s ts =>
    exact ⟨_, R.put (i := i) (v := v) (c := .own none (.n s ts)) (l := l) ⟨v, rfl, n.rep, fun _ h => nomatch h⟩ (fun a ha => n.own a ha) (fun a ha j _ => n.dj a ha j)⟩
def sSetX (i : Nat) (g : List C → Option (List C × T)) : List C → Out := fun env => match g env with | some (env', u) => .nx (env'.set i (toC u)) | none => .err
theorem ds_setX {x : Str} (i : Nat) (hN : X.N.Nodup) (hi : X.N[i]? = some x) (h : DX X G e g) (hx : Loc X.env.scope x := by first | exact .inl rfl | exact .inr rfl) (hs : swapsWith e (some (.Name x pos')) pos.line X.env = pure false := by rfl)
    (hf : X.fn x = true ∨ X.env.scope.names.lookup x = some .local := by first | exact .inl rfl | exact .inr rfl | assumption) : DS X G kr (.Assign [.Name x pos'] e pos) (sSetX i g) := by
  obtain ⟨t, p, o⟩ := h.ex
  refine ⟨_, ps_set hN hi hx p hs hf, fun σ H F fp env E R q => ?_⟩
  unfold sSetX at q
  cases z : g env with
  | none => rw [z] at q; exact q.elim
  | some eu =>
    obtain ⟨env', u⟩ := eu
    rw [z] at q
    refine o σ H F fp env env' u _ R z fun v H' F' fp' l R' s n => ?_
    obtain ⟨fp2, R2⟩ := R'.putX n i
    exact q _ H' F' _ R2 s
def toL : T → Option C
  | .n .l ts => (flatT ts).map .lst
  | _ => none
def sSetXL (i : Nat) (g : List C → Option (List C × T)) : List C → Out := fun env => match g env with | some (env', u) => (match toL u with | some c => .nx (env'.set i c) | none => .err) | none => .err
def sDropX (g : List C → Option (List C × T)) : List C → Out := fun env => match g env with | some (env', _) => .nx env' | none => .err
theorem ds_exprX (h : DX X G e g) (hs : swapsWith e none pos.line X.env = pure false := by rfl) : DS X G kr (.Expr e pos) (sDropX g) := by
  obtain ⟨t, p, o⟩ := h.ex
  refine ⟨_, ps_expr p hs, fun σ H F fp env E R q => ?_⟩
  unfold sDropX at q
  cases z : g env with
  | none => rw [z] at q; exact q.elim
  | some eu =>
    obtain ⟨env', u⟩ := eu
    rw [z] at q
    exact o σ H F fp env env' u _ R z fun v H' F' fp' l R' s n => q σ H' F' fp' R' s
def sRetX (g : List C → Option (List C × T)) : List C → Out := fun env => match g env with | some (env', u) => .rx env' u | none => .err
theorem ds_retX (h : DX X G e g) : DS X G kr (.Return (some e) pos) (sRetX g) := by
  obtain ⟨t, p, o⟩ := h.ex
  refine ⟨_, ps_ret p, fun σ H F fp env E R q => ?_⟩
  unfold sRetX at q
  cases z : g env with
  | none => rw [z] at q; exact q.elim
  | some eu =>
    obtain ⟨env', u⟩ := eu
    rw [z] at q
    exact o σ H F fp env env' u _ R z fun v H' F' fp' l R' s n => q v σ H' F' fp' l R' n
def sRetXN : List C → Out := fun env => .rx env (.d .none)
def sRetO (i : Nat) : List C → Out := fun env => match env[i]? with
  | some (.own none u) => .rx (env.set i .und) u
  | some (.lst ds) => .rx (env.set i .und) (.n .l (ds.map T.d))
  | some (.val d) => .rx env (.d d)
  | _ => .err
def txP (ft : List C → Option Bool) : List C → Option (List C × Bool) := fun env => (ft env).map fun b => (env, b)
def txB (g : List C → Option (List C × T)) : List C → Option (List C × Bool) := fun env => match g env with | some (env', .d (.bool b)) => some (env', b) | _ => none
def txNot (gt : List C → Option (List C × Bool)) : List C → Option (List C × Bool) := fun env => match gt env with | some (env', b) => some (env', !b) | none => none
def txCmp (g2 : D → D → Option D) (g : List C → Option (List C × T)) (f : List C → Option D) : List C → Option (List C × Bool) := fun env => match g env with
  | some (env', .d x) => (match f env' with | some y => (match g2 x y with | some (.bool b) => some (env', b) | _ => none) | none => none)
  | _ => none
theorem fz_A {K : PySem.W.Frag} {G : GC} {H F : Hp} {ka : RK} {v : V} {d : D} (sub : Same F H) (h : RK.fz.le ka = true) (r : DF K F v d) : RepA K G ka H F v d := by
  cases ka with
  | vw => exact Dp_mono sub _ _ (DF.dp _ _ r)
  | vl => exact .inl r
  | sv => exact Dp_mono stb_f _ _ (DF.dp _ _ r)
  | fz => exact r
  | ow => cases h
theorem dtx_cmp {op : CmpOp} {ka kb : RK} {g2 : D → D → Option D} (o : DOp X G (compareOp op) ka kb .fz g2) (ha : DX X G a g) (hb : DE X G k b f) (hm : behindInMarks op b = false) (hk : k.le kb = true := by rfl) (hba : kb.arg = true := by rfl) (hka : RK.fz.le ka = true := by rfl) (hkar : ka.arg = true := by rfl) : DTX X G (.Compare a [op] [b] pos) (txCmp g2 g f) := by
  obtain ⟨r, or, o2⟩ := o.ex
  obtain ⟨ta, pa, oa⟩ := ha.ex
  obtain ⟨tb, pb, ob⟩ := (hb.conv hk).ex
  refine ⟨_, pt_cmpR (opr_len or) pa pb hm, fun σ H F fp env env' b Q R hf q => ?_⟩
  unfold txCmp at hf
  split at hf
  · rename_i e' x z
    split at hf
    · rename_i y z2
      split at hf
      · rename_i c z3
        cases hf
        refine oa σ H F fp env _ _ _ R z fun v H1 F1 fp1 l R1 s1 n => ?_
        refine ob σ H1 F1 fp1 _ _ _ R1 z2 fun vy H2 F2 E2 ry hl => ?_
        have rx : DF X.K F1 v x := by
          cases n.rep with
          | d r => exact r
        refine o2 H2 F2 v vy x y _ _ E2.sub ((R1.ext E2).kpSame) hl (fz_A E2.sub hka (DF_mono E2.f _ _ rx)) (repK_A hba ry) z3 fun v3 H3 F3 E3 r3 => ⟨_, ?_, q H3 F3 fp1 ((R1.ext E2).ext E3) (s1.trans (E2.f.trans E3.f))⟩
        cases r3; rfl
      · cases hf
    · cases hf
  · cases hf
structure DWX (X : Cx) (G : GC) (e : Expr) (g : List C → Option (List C × Bool)) : Prop where
  ex : ∃ t, PW X e t ∧ ∀ (σ : L2.St) (H F : Hp) (fp : Nat → List Addr) (env env' : List C) (b : Bool) (Q : Bool → Hp → Prop), Rel X.K G env σ H F fp → g env = some (env', b) →
    (∀ H' F' fp', Rel X.K G env' σ H' F' fp' → Same F F' → Q b H') → t σ H Q
theorem DWX.t (h : DWX X G e gt) : DTX X G e gt := let ⟨t, p, o⟩ := h.ex; ⟨t, p.pt, o⟩
def txAnd (f g : List C → Option (List C × Bool)) : List C → Option (List C × Bool) := fun env => match f env with | some (env', true) => g env' | some (env', false) => some (env', false) | none => none
def txOr (f g : List C → Option (List C × Bool)) : List C → Option (List C × Bool) := fun env => match f env with | some (env', true) => some (env', true) | some (env', false) => g env' | none => none
variable {g1 g2 : List C → Option (List C × Bool)} {rest : List Expr}
def sIfX (gt : List C → Option (List C × Bool)) (f g : List C → Out) : List C → Out := fun env => match gt env with | some (env', true) => f env' | some (env', false) => g env' | none => .err
theorem ds_ifX {f g : List C → Out} (hc : DTX X G e gt) (ha : DSs X G kr sts f) (hb : DSs X G kr sts2 g) : DS X G kr (.If e sts sts2 pos) (sIfX gt f g) := by
  obtain ⟨tc, pc, oc⟩ := hc.ex
  obtain ⟨ta, pa, oa⟩ := ha.ex
  obtain ⟨tb, pb, ob⟩ := hb.ex
  refine ⟨_, ps_if pc pa pb, fun σ H F fp env E R q => ?_⟩
  unfold sIfX at q
  split at q
  · rename_i e' z
    exact oc σ H F fp env _ _ _ R z fun H' F' fp' R' s => iteT (oa σ H' F' fp' _ E R' (Post.mono s q))
  · rename_i e' z
    exact oc σ H F fp env _ _ _ R z fun H' F' fp' R' s => iteF (ob σ H' F' fp' _ E R' (Post.mono s q))
  · exact q.elim
end
end DL
namespace DL
open PySem PySem.Spec L2
section
variable {K : PySem.W.Frag} {ow : Option World} {G : GC} {env : List C} {σ : L2.St} {H F H1 F1 : Hp} {fp : Nat → List Addr} {ip : IP} {v : V} {lu : List Addr} {s : Shp} {ts : List T}
theorem NR.root {H F : Hp} {a : Addr} {vs : List V} {own : List Addr} (h : NR K ow H F s a vs own) : a ∈ own ∧ own.Nodup → a ∈ own := fun h => h.1
theorem NR.mem {H F : Hp} {a : Addr} {vs : List V} {own : List Addr} (h : NR K ow H F s a vs own) (hs : s.cell = true) : a ∈ own := by
  cases s with
  | l => obtain ⟨rfl, _⟩ := h; simp
  | t => cases hs
  | lf => cases hs
  | kf _ => cases hs
  | v => cases hs
  | k ks => obtain ⟨rfl, _⟩ := h; simp
  | q ks => obtain ⟨rfl, _⟩ := h; simp
  | o c fs => obtain ⟨_, _, _, rfl, _⟩ := h; simp
  | e fs => obtain ⟨rfl, _⟩ := h; simp
  | x c fs =>
    obtain ⟨_, _, _, h⟩ := h
    rcases h with ⟨rfl, _⟩ | ⟨_, rfl, _⟩ <;> simp
theorem Rel.store (R : Rel K G env σ H F fp) (P : Place K G env σ H F fp ip (.n s ts) v lu) (hs : s.cell = true := by rfl) : ∃ a vs own l0, v = .ref a ∧ NR K G.w H F s a vs own ∧ ORs K G.w H F vs ts l0 ∧ (own ++ l0).Nodup ∧ (∀ b, b ∈ own ++ l0 → b ∈ fp ip.1) ∧
    ∀ (o' : HO) (s' : Shp) (vs' : List V) (ts' : List T) (l0' : List Addr), NR K G.w (upd H a o') F s' a vs' own → ORs K G.w H F vs' ts' l0' → (own ++ l0').Nodup → (∀ b, b ∈ l0' → b ∈ l0 ∨ ((∀ j, b ∉ fp j) ∧ G.H0 b = none ∧ F b = none ∧ H b ≠ none)) →
      ∃ fp', Rel K G (putAt env ip (.n s' ts')) σ (upd H a o') F fp' := by
  have hrep := P.rep
  have hmem := fun b => @Place.mem _ _ _ _ _ _ _ _ _ _ _ P b
  cases hrep with
  | @n _ a vs _ own l0 h1 h2 h3 =>
    refine ⟨a, vs, own, l0, rfl, h1, h2, h3, fun b hb => hmem b hb, fun o' s' vs' ts' l0' n1 n2 n3 n4 => ?_⟩
    have ao := h1.mem hs
    have na : a ∉ l0' := fun h => by
      rw [List.nodup_append] at n3
      exact n3.2.2 a ao a h rfl
    have fa : F a = none := (R.own ip.1 a (hmem a (by simp [ao]))).1
    obtain ⟨fp', R', _⟩ := R.write2 P (F' := F) (H' := upd H a o') (u' := .n s' ts') (lu' := own ++ l0') (Same.refl _) (fun b x e => by rw [upd_ne (fun z => by rw [z, fa] at e; cases e)]; exact R.sub b x e) (fun _ _ e => .inl e)
      (fun b o hb e => by rw [upd_ne (fun z => hb (by rw [z]; simp [ao]))]; exact e) (fun b hb => by
        by_cases z : b = a
        · rw [z, upd_same]; intro y; cases y
        · rw [upd_ne z]; exact (R.own ip.1 b (hmem b hb)).2.1)
      (.n n1 (ORs_mono (Same.refl _) _ _ _ (fun b o hb e => by rw [upd_ne (fun z => na (by rw [← z]; exact hb))]; exact e) n2) n3) (fun b hb => by
        have al : H b ≠ none → upd H a o' b ≠ none := fun h => by
          by_cases z : b = a
          · rw [z, upd_same]; intro y; cases y
          · rw [upd_ne z]; exact h
        have old : b ∈ own ++ l0 → (b ∈ own ++ l0 ∨ ((∀ j, b ∉ fp j) ∧ G.H0 b = none)) ∧ F b = none ∧ upd H a o' b ≠ none := fun z => by
          obtain ⟨g1, g2, _⟩ := R.own ip.1 b (hmem b z)
          exact ⟨.inl z, g1, al g2⟩
        rcases List.mem_append.mp hb with z | z
        · exact old (by simp [z])
        · rcases n4 b z with y | ⟨y1, y2, y3, y4⟩
          · exact old (by simp [y])
          · exact ⟨.inr ⟨y1, y2⟩, y3, al y4⟩)
    exact ⟨fp', R'⟩
theorem New.ext {v : V} {t : T} {l : List Addr} (n : New K G H F fp v t l) (E : Ext H F H1 F1) : New K G H1 F1 fp v t l where
  rep := OR_mono E.f _ _ _ (fun b o _ => E.h b o) n.rep
  own := fun b hb => by
    obtain ⟨h1, h2, h3⟩ := n.own b hb
    refine ⟨?_, ?_, h3⟩
    · cases q : F1 b with
      | none => rfl
      | some o =>
        rcases E.new b o q with z | z
        · rw [h1] at z; cases z
        · exact absurd z h2
    · cases q : H b with
      | none => exact absurd q h2
      | some o => rw [E.h _ _ q]; intro z; cases z
  dj := n.dj
theorem ORs_snoc {v : V} {u : T} {ln : List Addr} : ∀ {ts : List T} {vs : List V} {l : List Addr}, ORs K ow H F vs ts l → OR K ow H F v u ln → ORs K ow H F (vs ++ [v]) (ts ++ [u]) (l ++ ln)
  | [], _, _, h, r => by cases h; have := ORs.cons r (.nil (K := K) (ow := ow) (H := H) (F := F)); simpa using this
  | t :: ts, _, _, h, r => by
    cases h with
    | cons h1 h2 => have := ORs.cons h1 (ORs_snoc h2 r); simpa using this
theorem set_child {vs : List V} {own l0 ln : List Addr} {j : Nat} {t u : T} {v' : V} (os : ORs K ow H F vs ts l0) (e : ts[j]? = some t) (nd : (own ++ l0).Nodup) (r : OR K ow H F v' u ln) (ap : ∀ b, b ∈ ln → b ∉ own ++ l0) :
    ∃ l0', ORs K ow H F (vs.set j v') (ts.set j u) l0' ∧ (own ++ l0').Nodup ∧ ∀ b, b ∈ l0' → b ∈ l0 ∨ b ∈ ln := by
  obtain ⟨w, lt, l1, l2, rfl, g1, g2, g3⟩ := ORs_at os e
  refine ⟨_, g3 H F v' u ln (Same.refl _) (fun _ _ _ h => h) r, ?_, fun b hb => by simp at hb ⊢; grind⟩
  have := r.nodup
  simp only [List.nodup_append, List.mem_append] at nd ap ⊢
  grind
theorem snoc_nodup {own l0 ln : List Addr} (nd : (own ++ l0).Nodup) (n2 : ln.Nodup) (ap : ∀ b, b ∈ ln → b ∉ own ++ l0) : (own ++ (l0 ++ ln)).Nodup := by
  simp only [List.nodup_append, List.mem_append] at nd ap ⊢
  grind
end
def putO (f : Str) (u : T) (c : Str) (fs : List Str) (ts : List T) : T := match fIx f fs with
  | some j => .n (.o c fs) (ts.set j u)
  | none => .n (.o c (fs ++ [f])) (ts ++ [u])
theorem putF_some {f : Str} {y : V} : ∀ {fs : List Str} {vs : List V} {j : Nat}, fs.length = vs.length → fIx f fs = some j → putF f y (fs.zip vs) = fs.zip (vs.set j y)
  | [], _, _, _, h => by cases h
  | g :: r, [], _, hl, _ => by cases hl
  | g :: r, v :: vs, j, hl, h => by
    unfold fIx at h
    rw [List.zip_cons_cons]
    unfold putF
    by_cases hg : g = f
    · rw [if_pos hg] at h ⊢; cases h
      rfl
    · rw [if_neg hg] at h ⊢
      cases z : fIx f r with
      | none => rw [z] at h; cases h
      | some k =>
        rw [z] at h; cases h
        rw [putF_some (by simpa using hl) z]
        rfl
theorem putF_none {f : Str} {y : V} : ∀ {fs : List Str} {vs : List V}, fs.length = vs.length → fIx f fs = none → putF f y (fs.zip vs) = (fs ++ [f]).zip (vs ++ [y])
  | [], [], _, _ => rfl
  | [], _ :: _, hl, _ => by cases hl
  | g :: r, [], hl, _ => by cases hl
  | g :: r, v :: vs, hl, h => by
    unfold fIx at h
    rw [List.zip_cons_cons]
    unfold putF
    by_cases hg : g = f
    · rw [if_pos hg] at h; cases h
    · rw [if_neg hg] at h ⊢
      cases z : fIx f r with
      | some k => rw [z] at h; cases h
      | none =>
        rw [putF_none (by simpa using hl) z]
        rfl
theorem fIx_lt {f : Str} : ∀ {fs : List Str} {j : Nat}, fIx f fs = some j → j < fs.length
  | [], _, h => by cases h
  | g :: r, j, h => by
    unfold fIx at h
    by_cases hg : g = f
    · rw [if_pos hg] at h; cases h; simp
    · rw [if_neg hg] at h
      cases z : fIx f r with
      | none => rw [z] at h; cases h
      | some k => rw [z] at h; cases h; have := fIx_lt z; simpa using this
section
variable {X : Cx} {G : GC} {kr k k2 : RK} {e ei o : Expr} {f fi fe : List C → Option D} {g : List C → Option (List C × T)} {gp : List C → Option IP} {pos p1 p2 p3 pos' : Pos}
theorem attr_store {K : PySem.W.Frag} {env : List C} {σ : L2.St} {H F : Hp} {fp : Nat → List Addr} {ip : IP} {c : Str} {fs : List Str} {ts : List T} {v y : V} {lu ln : List Addr} {u : T} {fn : Str} (R : Rel K G env σ H F fp) (P : Place K G env σ H F fp ip (.n (.o c fs) ts) v lu) (n : New K G H F fp y u ln) :
    ∃ a C dx vs, v = .ref a ∧ fs.length = vs.length ∧ PySem.W.nsIn K mainGlobals c = some (some (.ref C)) ∧ H a = some (.ins C dx (fs.zip vs)) ∧ ∃ fp', Rel K G (putAt env ip (putO fn u c fs ts)) σ (upd H a (.ins C dx (putF fn y (fs.zip vs)))) F fp' := by
  obtain ⟨a, vs, own, l0, rfl, nr, os, nd, mem, st⟩ := R.store P
  obtain ⟨hl, C, dx, rfl, n1, n2, n3⟩ := nr
  have hda : dx ≠ a := fun z => by rw [z] at nd; simp at nd
  have ap : ∀ b, b ∈ ln → b ∉ [a, dx] ++ l0 := fun b hb hm => n.dj b hb ip.1 (mem b hm)
  have nw : ∀ b, b ∈ ln → ((∀ j, b ∉ fp j) ∧ G.H0 b = none ∧ F b = none ∧ H b ≠ none) := fun b hb => ⟨fun j => n.dj b hb j, (n.own b hb).2.2, (n.own b hb).1, (n.own b hb).2.1⟩
  refine ⟨a, C, dx, vs, rfl, hl, n1, n2, ?_⟩
  unfold putO
  cases z : fIx fn fs with
  | some j =>
    have hj : j < ts.length := by rw [← ORs_len os, ← hl]; exact fIx_lt z
    obtain ⟨l0', o1, o2, o3⟩ := set_child os (List.getElem?_eq_getElem hj) nd n.rep ap
    rw [putF_some hl z]
    exact st _ (.o c fs) (vs.set j y) _ l0' ⟨by rw [List.length_set]; exact hl, C, dx, rfl, n1, upd_same, by rw [upd_ne hda]; exact n3⟩ o1 o2 fun b hb => (o3 b hb).imp_right (nw b)
  | none =>
    rw [putF_none hl z]
    exact st _ (.o c (fs ++ [fn])) (vs ++ [y]) _ (l0 ++ ln) ⟨by simp [hl], C, dx, rfl, n1, upd_same, by rw [upd_ne hda]; exact n3⟩ (ORs_snoc os n.rep) (snoc_nodup nd n.rep.nodup ap) fun b hb => (List.mem_append.mp hb).imp_right (nw b)
def sFldP (c fn : Str) (gp : List C → Option IP) (g : List C → Option (List C × T)) : List C → Out := fun env => match g env with
  | some (env1, u) => (match gp env1 with
    | some ip => (match nodeAt env1 ip with
      | some (.n (.o c' fs) ts) => if c' = c ∧ fs.length < 1000 then .nx (putAt env1 ip (putO fn u c fs ts)) else .err
      | _ => .err)
    | none => .err)
  | none => .err
theorem ds_fldP {fn : Str} (c : Str) (ho : DPl X G o gp) (h : DX X G e g) (hc : ClOk X.K c) (hf : NoAt X.K c fn) (hs : swapsWith e (some (.Attribute o fn pos')) pos.line X.env = pure false := by rfl) : DS X G kr (.Assign [.Attribute o fn pos'] e pos) (sFldP c fn gp g) := by
  obtain ⟨tv, pv, ov⟩ := h.ex
  obtain ⟨ta, pa, oa⟩ := ho.ex
  refine ⟨_, ps_fld pa pv hs, fun σ H F fp env E R q => ?_⟩
  unfold sFldP at q
  split at q
  · rename_i env1 u z
    split at q
    · rename_i ip z1
      split at q
      · rename_i c' fs ts z2
        split at q
        · rename_i hcc
          obtain ⟨rfl, hl⟩ := hcc
          refine ov σ H F fp env env1 u _ R z fun y H1 F1 fp1 ln R1 s1 n1 => ?_
          refine oa σ H1 F1 fp1 env1 ip _ _ R1 z1 z2 fun v lu H2 F2 E2 P => ?_
          obtain ⟨a, C, dx, vs, rfl, hlv, nC, ha, fp', R'⟩ := attr_store (fn := fn) (R1.ext E2) P (n1.ext E2)
          obtain ⟨C', hC, cls⟩ := hc.ex
          rw [nC] at hC; cases hC
          refine ⟨a, C, dx, _, rfl, ha, cls, hf C nC, ?_, q σ _ F2 fp' R' (s1.trans E2.f)⟩
          rw [List.length_zip]; omega
        · exact q.elim
      · exact q.elim
    · exact q.elim
  · exact q.elim
def sFldAugP (c fn : Str) (g2 : D → D → Option D) (gp : List C → Option IP) (fe : List C → Option D) : List C → Out := fun env => match gp env with
  | some ip => (match nodeAt env ip with
    | some (.n (.o c' fs) ts) => (match fIx fn fs with
      | some j => (match ts[j]? with
        | some (.d x) => (match fe env with
          | some y => (match g2 x y with | some z => if c' = c ∧ fs.length < 1000 then .nx (putAt env ip (putO fn (.d z) c fs ts)) else .err | none => .err)
          | none => .err)
        | _ => .err)
      | none => .err)
    | _ => .err)
  | none => .err
theorem ds_fldAugP {fn : Str} {op : Operator} {g2 : D → D → Option D} {kb : RK} (c : Str) (ho : DPl X G o gp) (og : DOp X G (inplaceOp op) .vl kb .fz g2) (h : DE X G k e fe) (hc : ClOk X.K c) (hf : NoAt X.K c fn) (hk : k.le kb = true := by rfl) (hb : kb.arg = true := by rfl) : DS X G kr (.AugAssign (.Attribute o fn pos') op e pos) (sFldAugP c fn g2 gp fe) := by
  obtain ⟨tv, pv, ov⟩ := (h.conv hk).ex
  obtain ⟨ta, pa, oa⟩ := ho.ex
  obtain ⟨r, or, o2⟩ := og.ex
  refine ⟨_, ps_fldaug (rd := fun x y H Q => LenOk X.K H → r x y H Q) pa pv (opr_len or), fun σ H F fp env E R q => ?_⟩
  unfold sFldAugP at q
  split at q
  · rename_i ip z1
    split at q
    · rename_i c' fs ts z2
      split at q
      · rename_i j zj
        split at q
        · rename_i x0 zx
          split at q
          · rename_i dy zy
            split at q
            · rename_i dz zz
              split at q
              · rename_i hcc
                obtain ⟨rfl, hl⟩ := hcc
                refine oa σ H F fp env ip _ _ R z1 z2 fun v lu H1 F1 E1 P => ?_
                obtain ⟨C', hC, cls⟩ := hc.ex
                have R1 := R.ext E1
                obtain ⟨a, vs, own, w, lt, rfl, nr, os, hw, P'⟩ := P.child zx
                obtain ⟨hlv, C, dx, rfl, n1, n2, n3⟩ := nr
                rw [n1] at hC; cases hC
                have rx : DF X.K F1 w x0 := by
                  cases P'.rep with
                  | d r => exact r
                refine ⟨a, C', dx, _, w, rfl, n2, cls, hf C' n1, fIx_zip zj hw, ?_⟩
                refine ov σ H1 F1 fp env dy _ R1 zy fun vy H2 F2 E2 ry hln => ?_
                have R2 := R1.ext E2
                refine o2 H2 F2 w vy x0 dy dz _ E2.sub R2.kpSame hln (.inl (DF_mono E2.f _ _ rx)) (repK_A hb ry) zz fun vz H3 F3 E3 rz => ?_
                have nz : New X.K G H3 F3 fp vz (.d dz) [] := ⟨.d rz, (fun _ m => nomatch m), (fun _ m => nomatch m)⟩
                obtain ⟨a', C2, dx2, vs2, ea, hlv2, nC, ha, fp', R'⟩ := attr_store (fn := fn) (R2.ext E3) ((P.ext E2).ext E3) nz
                cases ea
                have nC2 := n1
                rw [nC] at n1; cases n1
                refine ⟨dx2, _, ha, ?_, q σ _ F3 fp' R' ((E1.f.trans E2.f).trans E3.f)⟩
                rw [List.length_zip]; omega
              · exact q.elim
            · exact q.elim
          · exact q.elim
        · exact q.elim
      · exact q.elim
    · exact q.elim
  · exact q.elim
theorem or_l {K : PySem.W.Frag} {ow : Option World} {H F : Hp} {v : V} {ts : List T} {l : List Addr} (h : OR K ow H F v (.n .l ts) l) : ∃ a vs, v = .ref a ∧ H a = some (.lst vs) := by
  cases h with
  | n r1 r2 r3 => exact ⟨_, _, rfl, r1.2⟩
theorem item_store {K : PySem.W.Frag} {env : List C} {σ : L2.St} {H F : Hp} {fp : Nat → List Addr} {ip : IP} {ts : List T} {v y : V} {lu ln : List Addr} {u : T} (R : Rel K G env σ H F fp) (P : Place K G env σ H F fp ip (.n .l ts) v lu) (n : New K G H F fp y u ln) :
    ∃ a vs, v = .ref a ∧ vs.length = ts.length ∧ H a = some (.lst vs) ∧ (∀ m, m < ts.length → ∃ fp', Rel K G (putAt env ip (.n .l (ts.set m u))) σ (upd H a (.lst (vs.set m y))) F fp') ∧ ∃ fp', Rel K G (putAt env ip (.n .l (ts ++ [u]))) σ (upd H a (.lst (vs ++ [y]))) F fp' := by
  obtain ⟨a, vs, own, l0, rfl, nr, os, nd, mem, st⟩ := R.store P
  obtain ⟨rfl, hH⟩ := nr
  have ap : ∀ b, b ∈ ln → b ∉ [a] ++ l0 := fun b hb hm => n.dj b hb ip.1 (mem b hm)
  have nw : ∀ b, b ∈ ln → ((∀ j, b ∉ fp j) ∧ G.H0 b = none ∧ F b = none ∧ H b ≠ none) := fun b hb => ⟨fun j => n.dj b hb j, (n.own b hb).2.2, (n.own b hb).1, (n.own b hb).2.1⟩
  refine ⟨a, vs, rfl, ORs_len os, hH, fun m hm => ?_, ?_⟩
  · obtain ⟨l0', o1, o2, o3⟩ := set_child os (List.getElem?_eq_getElem hm) nd n.rep ap
    exact st _ .l _ _ l0' ⟨rfl, upd_same⟩ o1 o2 fun b hb => (o3 b hb).imp_right (nw b)
  · exact st _ .l _ _ (l0 ++ ln) ⟨rfl, upd_same⟩ (ORs_snoc os n.rep) (snoc_nodup nd n.rep.nodup ap) fun b hb => (List.mem_append.mp hb).imp_right (nw b)
def sIxP (gp : List C → Option IP) (fi : List C → Option D) (g : List C → Option (List C × T)) : List C → Out := fun env => match g env with
  | some (env1, u) => (match gp env1 with
    | some ip => (match nodeAt env1 ip with
      | some (.n .l ts) => (match fi env1 with
        | some (.int j) => (match ixN ts.length j with | some m => .nx (putAt env1 ip (.n .l (ts.set m u))) | none => .err)
        | _ => .err)
      | _ => .err)
    | none => .err)
  | none => .err
def sAugP (g2 : D → D → Option D) (gp : List C → Option IP) (fi fe : List C → Option D) : List C → Out := fun env => match gp env with
  | some ip => (match nodeAt env ip with
    | some (.n .l ts) => (match fi env with
      | some (.int j) => (match ixN ts.length j with
        | some m => (match ts[m]? with
          | some (.d x) => (match fe env with
            | some y => (match g2 x y with | some z => .nx (putAt env ip (.n .l (ts.set m (.d z)))) | none => .err)
            | none => .err)
          | _ => .err)
        | none => .err)
      | _ => .err)
    | _ => .err)
  | none => .err
def xAppP (gp : List C → Option IP) (fn : List C → Option T) : List C → Option (List C × T) := fun env => match gp env with
  | some ip => (match nodeAt env ip with
    | some (.n .l ts) => (match fn env with | some u => if ts.length < 16000000 then some (putAt env ip (.n .l (ts ++ [u])), .d .none) else none | none => none)
    | _ => none)
  | none => none
theorem dx_appP {fn : List C → Option T} (ho : DPl X G o gp) (h : DN X G e fn) (hs : starEach [e] X.env = [(false, eval e X.env)] := by rfl)
    (hbm : ∀ (r : V → List V → Hp → VK → Prop) (to : TE) (t : TA), MtM X "list.append" r → PE X o to → PA X [e] t → PE X (.Call (.Attribute o "append" p2) [e] [] p3) (tBM X.K "list" r to t) := by exact fun r to t hm ho ha => pe_bm PySem.F.plainAttrs_list PySem.F.slot_list_append PySem.F.type_list_append hm ho ha) : DX X G (.Call (.Attribute o "append" p2) [e] [] p3) (xAppP gp fn) := by
  obtain ⟨tv, pv, ov⟩ := h.ex
  obtain ⟨ta, pa, oa⟩ := ho.ex
  refine ⟨_, hbm _ _ _ mt_append pa (pa_cons pv pa_nil hs), fun σ H F fp env env' u Q R hg q => ?_⟩
  unfold xAppP at hg
  split at hg
  · rename_i ip z1
    split at hg
    · rename_i ts z2
      split at hg
      · rename_i u' zu
        split at hg <;> cases hg
        rename_i hlen
        refine oa σ H F fp env ip _ _ R z1 z2 fun v lu H1 F1 E1 P => ?_
        have R1 := R.ext E1
        have hrep := P.rep
        refine ⟨?_, ?_⟩
        · cases hrep with
          | n r1 r2 r3 => exact .inl ⟨rfl, _, .inl (.inl r1.2)⟩
        refine ov σ H1 F1 fp env u' _ R1 zu fun y H2 F2 ln E2 ry fr => ?_
        have R2 := R1.ext E2
        obtain ⟨a, vs, rfl, hl, hH, _, fp', R'⟩ := item_store R2 (P.ext E2) (R1.fresh E2 ry fr)
        refine ⟨a, vs, y, rfl, rfl, hH, by rw [hl, sizeLine_eq]; omega, ?_⟩
        exact q .non _ F2 fp' [] R' (E1.f.trans E2.f) ⟨.d .non, (fun _ m => nomatch m), (fun _ m => nomatch m)⟩
      · cases hg
    · cases hg
  · cases hg
def xAppX (i : Nat) (g : List C → Option (List C × T)) : List C → Option (List C × T) := fun env => match nodeAt env (i, []), g env with
  | some (.n .l _), some (env1, u) => (match nodeAt env1 (i, []) with
    | some (.n .l ts) => if ts.length < 16000000 then some (putAt env1 (i, []) (.n .l (ts ++ [u])), .d .none) else none
    | _ => none)
  | _, _ => none
def xClearP (gp : List C → Option IP) : List C → Option (List C × T) := fun env => match gp env with
  | some ip => (match nodeAt env ip with
    | some (.n .l ts) => some (putAt env ip (.n .l []), .d .none)
    | some (.d (.list [])) => some (env, .d .none)
    | _ => none)
  | none => none
end
end DL
namespace DL
open PySem PySem.Spec L2
def kIx : List D → D → Option Nat
  | [], _ => none
  | x :: r, y => if keyN x = keyN y then some 0 else (kIx r y).map (· + 1)
section
variable {K : PySem.W.Frag} {F H : Hp}
end
structure IsKeyD (K : PySem.W.Frag) (H : Hp) (p : Addr) (d : D) (k : NestedKey) : Prop where
  dp : Dp K H (.ref p) d
  key : keyN d = some k
  deep : k.depth ≤ 8
def KeysOk (K : PySem.W.Frag) (H : Hp) (xs : List (NestedKey × Addr × Value)) : Prop := ∀ e, e ∈ xs → e.1.depth ≤ 8 ∧ ∃ d, keyN d = some e.1 ∧ Dp K H (.ref e.2.1) d
section
variable {X : Cx} {o e ek : Expr} {td ty : TE} {pos apos cpos : Pos} {pins : List (Addr × Obj)} {σ : L2.St} {H : Hp} {s : Shared}
def rGetQ (X : Cx) : R2 := fun x y H Q => ∃ a p d k xs q v, x = .ref a ∧ y = .ref p ∧ IsKeyD X.K H p d k ∧ H a = some (dnO X.w a xs) ∧ KeysOk X.K H xs ∧ atKey xs k = some q ∧ RelV v q.2 ∧ Q v H
def tBMQ (X : Cx) (r : V → List V → Hp → VK → Prop) (to : TE) (t : TA) : TE := fun σ H Q => to σ H fun x H1 => (∃ a xs, x = .ref a ∧ H1 a = some (dnO X.w a xs)) ∧ t σ H1 fun vs H2 => r x vs H2 Q
def rPopQ (X : Cx) : V → List V → Hp → VK → Prop := fun x vs H Q => ∃ a p d k xs q v, x = .ref a ∧ vs = [.ref p] ∧ IsKeyD X.K H p d k ∧ H a = some (dnO X.w a xs) ∧ KeysOk X.K H xs ∧ atKey xs k = some q ∧ RelV v q.2 ∧ ((xs.map (·.1)).Nodup → Q v (upd H a (dnO X.w a (withoutH xs k))))
def rPopQ2 (X : Cx) : V → List V → Hp → VK → Prop := fun x vs H Q => ∃ a p d k xs w, x = .ref a ∧ vs = [.ref p, w] ∧ IsKeyD X.K H p d k ∧ H a = some (dnO X.w a xs) ∧ KeysOk X.K H xs ∧
  ((∃ q v, atKey xs k = some q ∧ RelV v q.2 ∧ ((xs.map (·.1)).Nodup → Q v (upd H a (dnO X.w a (withoutH xs k))))) ∨ (atKey xs k = none ∧ Q w H))
def rSetdQ (X : Cx) : V → List V → Hp → VK → Prop := fun x vs H Q => ∃ a p d k xs w, x = .ref a ∧ vs = [.ref p, w] ∧ IsKeyD X.K H p d k ∧ H a = some (dnO X.w a xs) ∧ KeysOk X.K H xs ∧
  ((∃ q v, atKey xs k = some q ∧ RelV v q.2 ∧ Q v H) ∨ (atKey xs k = none ∧ xs.length < 16000000 ∧ ∀ u, RelV w u → Q w (upd H a (dnO X.w a (xs ++ [(k, p, u)])))))
def rSortQ (X : Cx) : List V → Hp → VK → Prop := fun vs H Q => ∃ (F : Hp) (a : Addr) (xs : List (NestedKey × Addr × Value)) (ds : List D), vs = [.ref a] ∧ Same F H ∧ H a = some (dnO X.w a xs) ∧ KeysOk X.K H xs ∧ DFAll X.K F (xs.map fun e => V.ref e.2.1) ds ∧ alikeB ds = true ∧ sortableB ds = true ∧ (ds.all fun d => decide (d.depth ≤ 60)) = true ∧
  ∀ p ws, H p = none → DFAll X.K F ws (ds.mergeSort (W.dataLe false fun d => d)) → Q (.ref p) (upd H p (.lst ws))
end
end DL
namespace DL
open PySem PySem.Spec L2
section
variable {X : Cx} {G : GC} {kr k k2 : RK} {e ei ek o : Expr} {es : List Expr} {f fi fk fe : List C → Option D} {fs : List C → Option (List D)} {g : List C → Option (List C × T)} {gp : List C → Option IP} {pos p1 p2 p3 pos' : Pos}
def selK (fk : List C → Option D) : List C → Shp → Nat → Option Nat := fun env s _ => match s with
  | .q ks => (match fk env with | some d => if okK d = true then kIx ks d else none | none => none)
  | _ => none
def pK (fk : List C → Option D) (g : List C → Option IP) : List C → Option IP := pChild g (selK fk)
def tInQ (fk : List C → Option D) (gp : List C → Option IP) : List C → Option Bool := fun env => match gp env with
  | some ip => (match nodeAt env ip with
    | some (.n (.q ks) _) => (match fk env with | some d => if okK d = true then some (kIx ks d).isSome else none | none => none)
    | _ => none)
  | none => none
def tNotInQ (fk : List C → Option D) (gp : List C → Option IP) : List C → Option Bool := fun env => (tInQ fk gp env).map (!·)
def xPopQ (gp : List C → Option IP) (fs : List C → Option (List D)) : List C → Option (List C × T) := fun env => match gp env with
  | some ip => (match nodeAt env ip with
    | some (.n (.q ks) ts) => (match fs env with
      | some [d] => if okK d = true then (match kIx ks d with
        | some j => (match ts[j]? with | some (.d x) => some (putAt env ip (.n (.q (ks.eraseIdx j)) (ts.eraseIdx j)), .d x) | _ => none)
        | none => none) else none
      | _ => none)
    | _ => none)
  | none => none
theorem new_d {K : PySem.W.Frag} {H F : Hp} {fp : Nat → List Addr} {v : V} {x : D} (r : DF K F v x) : New K G H F fp v (.d x) [] := ⟨.d r, (fun _ m => nomatch m), (fun _ m => nomatch m)⟩
def xPopQ2 (gp : List C → Option IP) (fs : List C → Option (List D)) : List C → Option (List C × T) := fun env => match gp env with
  | some ip => (match nodeAt env ip with
    | some (.n (.q ks) ts) => (match fs env with
      | some [d, y] => if okK d = true then (match kIx ks d with
        | some j => (match ts[j]? with | some (.d x) => some (putAt env ip (.n (.q (ks.eraseIdx j)) (ts.eraseIdx j)), .d x) | _ => none)
        | none => some (env, .d y)) else none
      | _ => none)
    | _ => none)
  | none => none
def xSetdQ (gp : List C → Option IP) (fs : List C → Option (List D)) : List C → Option (List C × T) := fun env => match gp env with
  | some ip => (match nodeAt env ip with
    | some (.n (.q ks) ts) => (match fs env with
      | some [d, y] => if okK d = true then (match kIx ks d with
        | some j => (match ts[j]? with | some (.d x) => some (env, .d x) | _ => none)
        | none => if ts.length < 16000000 then some (putAt env ip (.n (.q (ks ++ [d])) (ts ++ [.d y])), .d y) else none) else none
      | _ => none)
    | _ => none)
  | none => none
def sPutQ (gp : List C → Option IP) (fk : List C → Option D) (g : List C → Option (List C × T)) : List C → Out := fun env => match g env with
  | some (env1, u) => (match gp env1 with
    | some ip => (match nodeAt env1 ip with
      | some (.n (.q ks) ts) => (match fk env1 with
        | some d => if okK d = true ∧ ts.length < 16000000 then (match kIx ks d with | none => .nx (putAt env1 ip (.n (.q (ks ++ [d])) (ts ++ [u]))) | some _ => .err) else .err
        | none => .err)
      | _ => .err)
    | none => .err)
  | none => .err
def eSortQ (gp : List C → Option IP) : List C → Option D := fun env => match gp env with
  | some ip => (match nodeAt env ip with
    | some (.n (.q ks) _) => gSorted [.list ks]
    | _ => none)
  | none => none
end
end DL
namespace DL
open PySem PySem.Spec L2
structure DRd (X : Cx) (G : GC) (e : Expr) (r : List C → Option T) : Prop where
  ex : ∃ t, PE X e t ∧ ∀ (σ : L2.St) (H F : Hp) (fp : Nat → List Addr) (env : List C) (u : T) (Q : VK), Rel X.K G env σ H F fp → r env = some u →
    (∀ v l H' F', Ext H F H' F' → OR X.K G.w H' F' v u l → Q v H') → t σ H Q
section
variable {X : Cx} {G : GC} {kr k k2 : RK} {e ei ek o : Expr} {es : List Expr} {f fi fk fe : List C → Option D} {r : List C → Option T} {rs : List C → Option (List T)} {gp : List C → Option IP} {pos p1 p2 p3 pos' : Pos}
def cellT : C → Option T
  | .val d => some (.d d)
  | .lst ds => some (.n .l (ds.map T.d))
  | .own _ t => some t
  | .ro _ t => some t
  | _ => none
def rN (i : Nat) : List C → Option T := fun env => (env[i]?).bind cellT
theorem cell_or {K : PySem.W.Frag} {env : List C} {σ : L2.St} {H F : Hp} {fp : Nat → List Addr} {i : Nat} {u : T} (R : Rel K G env σ H F fp) (h : rN i env = some u) : ∃ v l, σ[i]? = some (some v) ∧ OR K G.w H F v u l := by
  unfold rN at h
  cases e : env[i]? with
  | none => rw [e] at h; cases h
  | some c =>
    rw [e] at h
    have h : cellT c = some u := h
    have q := R.slot i c e
    have join : ∀ v, (σ[i]?).join = some v → σ[i]? = some (some v) := fun v z => by
      cases y : σ[i]? with
      | none => rw [y] at z; cases z
      | some o => rw [y] at z; exact congrArg some z
    cases c with
    | val d => cases h; obtain ⟨_, v, e1, r⟩ := q; exact ⟨v, [], join v e1, .d r⟩
    | lst ds => cases h; obtain ⟨a, vs, q1, q2, q3, q4⟩ := q; exact ⟨.ref a, [a] ++ [], join _ q2, .n ⟨rfl, q3⟩ (rep_flatT q4) (by simp)⟩
    | own m t => cases h; obtain ⟨v, q1, q2, _⟩ := q; exact ⟨v, _, join v q1, q2⟩
    | ro b t => cases h; obtain ⟨_, v, l, q1, q2, _⟩ := q; exact ⟨v, l, join v q1, OR_mono (Same.refl _) _ _ _ (fun b o _ z => R.kpSame b o z) q2⟩
    | und => cases h
    | pin _ => cases h
    | al _ _ => cases h
    | brw d => cases h
    | dK d => cases h
    | dT d => cases h
    | dN d => cases h
theorem dr_name {x : Str} (i : Nat) (h : PE X (.Name x pos) (tVar i)) : DRd X G (.Name x pos) (rN i) := by
  refine ⟨_, h, fun σ H F fp env u Q R hg q => ?_⟩
  obtain ⟨v, l, s1, r⟩ := cell_or R hg
  exact ⟨v, s1, q v l H F (Ext.refl R.sub) r⟩
theorem dr_fz (h : DE X G k e f) (hk : k.le .fz = true := by rfl) : DRd X G e (nD f) := by
  obtain ⟨t, pt, o⟩ := (h.conv hk).ex
  refine ⟨t, pt, fun σ H F fp env u Q R hf q => ?_⟩
  unfold nD at hf
  cases z : f env with
  | none => rw [z] at hf; cases hf
  | some d =>
    rw [z] at hf; cases hf
    exact o σ H F fp env d Q R z fun v H' F' E r => q v [] H' F' E (.d r)
def rChild (r : List C → Option T) (sel : List C → Shp → Nat → Option Nat) : List C → Option T := fun env => match r env with
  | some (.n s ts) => (match sel env s ts.length with | some j => ts[j]? | none => none)
  | _ => none
theorem rChild_of {sel : List C → Shp → Nat → Option Nat} {env : List C} {u : T} (h : rChild r sel env = some u) : ∃ s ts j, r env = some (.n s ts) ∧ sel env s ts.length = some j ∧ ts[j]? = some u := by
  unfold rChild at h
  split at h
  · rename_i s ts z
    split at h
    · rename_i j z2; exact ⟨s, ts, j, z, z2, h⟩
    · cases h
  · cases h
theorem or_child {K : PySem.W.Frag} {ow : Option World} {H F : Hp} {v : V} {s : Shp} {ts : List T} {l : List Addr} {j : Nat} {u : T} (h : OR K ow H F v (.n s ts) l) (e : ts[j]? = some u) :
    ∃ a vs own l0 w lt, v = .ref a ∧ NR K ow H F s a vs own ∧ ORs K ow H F vs ts l0 ∧ vs[j]? = some w ∧ OR K ow H F w u lt := by
  cases h with
  | n r1 r2 r3 =>
    obtain ⟨w, lt, l1, l2, rfl, g1, g2, _⟩ := ORs_at r2 e
    exact ⟨_, _, _, _, w, lt, rfl, r1, r2, g1, g2⟩
def rF (c f : Str) (r : List C → Option T) : List C → Option T := rChild r (selF c f)
def rI (fi : List C → Option D) (r : List C → Option T) : List C → Option T := rChild r (selI fi)
def rK (fk : List C → Option D) (r : List C → Option T) : List C → Option T := rChild r (selK fk)
theorem dr_attr {fn : Str} (c : Str) (h : DRd X G e r) (hc : ClOk X.K c) (hf : NoAt X.K c fn) (hb : attributeBase e fn X.env (eval e X.env) = eval e X.env := by rfl) : DRd X G (.Attribute e fn pos) (rF c fn r) := by
  obtain ⟨t, pt, o⟩ := h.ex
  refine ⟨_, pe_fld pt hb, fun σ H F fp env u Q R hg q => ?_⟩
  obtain ⟨s, ts, j, h1, h2, h3⟩ := rChild_of hg
  unfold selF at h2
  split at h2
  · rename_i c' fs
    split at h2
    · rename_i hcc
      subst hcc
      refine o σ H F fp env _ _ R h1 fun v l H1 F1 E1 rep => ?_
      obtain ⟨a, vs, own, l0, w, lt, rfl, nr, os, hw, r'⟩ := or_child rep h3
      obtain ⟨hl, C', dx, rfl, n1, n2, n3⟩ := nr
      obtain ⟨C2, hC, cls⟩ := hc.ex
      rw [n1] at hC; cases hC
      exact ⟨a, C', dx, _, w, rfl, n2, cls, hf C' n1, fIx_zip h2 hw, q w lt H1 F1 E1 r'⟩
    · cases h2
  · cases h2
def rLeaf (r : List C → Option T) : List C → Option D := fun env => match r env with | some (.d x) => some x | _ => none
theorem d_rleaf (h : DRd X G e r) : DE X G .fz e (rLeaf r) := by
  obtain ⟨t, pt, o⟩ := h.ex
  refine ⟨t, pt, fun σ H F fp env d Q R hf q => ?_⟩
  unfold rLeaf at hf
  split at hf
  · rename_i x z
    cases hf
    refine o σ H F fp env _ _ R z fun v l H1 F1 E1 rep => ?_
    cases rep with
    | d r => exact q v H1 F1 E1 r
  · cases hf
def flatV1 : T → Option D
  | .d x => some x
  | .n .l ts => (flatT ts).map .list
  | _ => none
def rFlat (r : List C → Option T) : List C → Option D := fun env => (r env).bind flatV1
def rView (r : List C → Option T) : List C → Option D := fun env => (r env).bind viewT
def trIn (fk : List C → Option D) (r : List C → Option T) : List C → Option Bool := fun env => match r env with
  | some (.n (.q ks) _) => (match fk env with | some d => if okK d = true then some (kIx ks d).isSome else none | none => none)
  | _ => none
def trNin (fk : List C → Option D) (r : List C → Option T) : List C → Option Bool := fun env => (trIn fk r env).map (!·)
def rSort (r : List C → Option T) : List C → Option D := fun env => match r env with
  | some (.n (.q ks) _) => gSorted [.list ks]
  | _ => none
structure DRs (X : Cx) (G : GC) (es : List Expr) (rs : List C → Option (List T)) : Prop where
  ex : ∃ t, PA X es t ∧ ∀ (σ : L2.St) (H F : Hp) (fp : Nat → List Addr) (env : List C) (us : List T) (Q : List V → Hp → Prop), Rel X.K G env σ H F fp → rs env = some us →
    (∀ vs H' F', Ext H F H' F' → W.EachIs (fun v u => ∃ l, OR X.K G.w H' F' v u l) vs us → Q vs H') → t σ H Q
theorem drs_nil : DRs X G [] nsNil := ⟨_, pa_nil, fun σ H F fp env us Q R hf q => by cases hf; exact q [] H F (Ext.refl R.sub) .nil⟩
theorem drs_cons (h : DRd X G e r) (ht : DRs X G es rs) (hs : starEach (e :: es) X.env = (false, eval e X.env) :: starEach es X.env := by rfl) : DRs X G (e :: es) (nsCons r rs) := by
  obtain ⟨t, pt, o⟩ := h.ex
  obtain ⟨t2, pt2, o2⟩ := ht.ex
  refine ⟨_, pa_cons pt pt2 hs, fun σ H F fp env ds Q R hf q => ?_⟩
  unfold nsCons at hf
  split at hf
  · rename_i u z
    split at hf
    · rename_i us z2
      cases hf
      refine o σ H F fp env u _ R z fun v l H1 F1 E1 r1 => ?_
      refine o2 σ H1 F1 fp env us _ (R.ext E1) z2 fun vs H2 F2 E2 r2 => ?_
      exact q (v :: vs) H2 F2 (E1.trans E2) (.cons ⟨l, OR_mono E2.f _ _ _ (fun b o _ => E2.h b o) r1⟩ r2)
    · cases hf
  · cases hf
end
end DL
namespace DL
open PySem PySem.Spec L2
inductive MA (K : PySem.W.Frag) (ow : Option World) (Kp H F : Hp) : List Bool → List V → List T → List (Addr × List Addr) → Prop
  | nil : MA K ow Kp H F [] [] [] []
  | ro {v : V} {u : T} {l : List Addr} {ks : List Bool} {vs : List V} {us : List T} {ws : List (Addr × List Addr)} : OR K ow Kp F v u l → MA K ow Kp H F ks vs us ws → MA K ow Kp H F (false :: ks) (v :: vs) (u :: us) ws
  | mu {a : Addr} {u : T} {l : List Addr} {ks : List Bool} {vs : List V} {us : List T} {ws : List (Addr × List Addr)} : OR K ow H F (.ref a) u l → MA K ow Kp H F ks vs us ws → MA K ow Kp H F (true :: ks) (.ref a :: vs) (u :: us) ((a, l) :: ws)
inductive MU (K : PySem.W.Frag) (ow : Option World) (H F : Hp) : List Bool → List V → List T → List (List Addr) → Prop
  | nil : MU K ow H F [] [] [] []
  | ro {v : V} {ks : List Bool} {vs : List V} {us : List T} {ls : List (List Addr)} : MU K ow H F ks vs us ls → MU K ow H F (false :: ks) (v :: vs) us ls
  | mu {a : Addr} {u : T} {l : List Addr} {ks : List Bool} {vs : List V} {us : List T} {ls : List (List Addr)} : OR K ow H F (.ref a) u l → MU K ow H F ks vs us ls → MU K ow H F (true :: ks) (.ref a :: vs) (u :: us) (l :: ls)
def wAll (ws : List (Addr × List Addr)) : List Addr := ws.flatMap (·.2)
def cut (H : Hp) (W : List Addr) : Hp := fun a => if a ∈ W then none else H a
structure PostM (K : PySem.W.Frag) (w : World) (ks : List Bool) (vs : List V) (H F0 : Hp) (ws : List (Addr × List Addr)) (H' F' : Hp) (us' : List T) (ls' : List (List Addr)) (v : V) (r : T) (lr : List Addr) : Prop where
  f : Same F0 F'
  sub : Same F' H'
  nw : ∀ a o, F' a = some o → F0 a = some o ∨ H a = none
  keep : ∀ b o, b ∉ wAll ws → H b = some o → H' b = some o
  al : ∀ b, b ∈ wAll ws → H' b ≠ none
  mu : MU K (some w) H' F' ks vs us' ls'
  sep : W.EachIs (fun (x : Addr × List Addr) (l : List Addr) => ∀ b, b ∈ l → b ∈ x.2 ∨ H b = none) ws ls'
  own : ∀ b, b ∈ ls'.flatten → F' b = none ∧ H' b ≠ none
  nd : (ls'.flatten ++ lr).Nodup
  res : OR K (some w) H' F' v r lr
  new : ∀ b, b ∈ lr → H b = none ∧ F' b = none ∧ H' b ≠ none
def spM (K : PySem.W.Frag) (w : World) (ks : List Bool) (g : List T → Option (List T × T)) : Sp := fun vs H Q _ => ∃ (F0 : Hp) (us : List T) (ws : List (Addr × List Addr)) (us' : List T) (r : T), Same F0 H ∧ MA K (some w) (cut H (wAll ws)) H F0 ks vs us ws ∧ (wAll ws).Nodup ∧ (∀ b, b ∈ wAll ws → F0 b = none ∧ H b ≠ none) ∧
  g us = some (us', r) ∧ ∀ v H' F' ls' lr, PostM K w ks vs H F0 ws H' F' us' ls' v r lr → Q v H'
def spT (K : PySem.W.Frag) (w : World) (n : Nat) (g : List T → Option T) : Sp := fun vs H Q _ => ∃ (F0 : Hp) (us : List T) (r : T), Same F0 H ∧ vs.length = n ∧ W.EachIs (fun v u => ∃ l, OR K (some w) H F0 v u l) vs us ∧ g us = some r ∧
  ∀ v H' F' l, Ext H F0 H' F' → OR K (some w) H' F' v r l → Fresh H H' F' l → Q v H'
def roC (b : Bool) : T → C
  | .d d => .val d
  | u => .ro b u
def cellsM : List Bool → Nat → List T → List C
  | false :: ks, j, u :: us => roC false u :: cellsM ks j us
  | true :: ks, j, u :: us => .own (some j) u :: cellsM ks (j + 1) us
  | _, _, _ => []
def fpM : List Bool → List (Addr × List Addr) → Nat → List Addr
  | true :: _, w :: _, 0 => w.2
  | true :: ks, _ :: ws, i + 1 => fpM ks ws i
  | false :: ks, ws, i + 1 => fpM ks ws i
  | _, _, _ => []
def muSlots : List Bool → Nat → List Nat
  | [], _ => []
  | true :: ks, i => i :: muSlots ks (i + 1)
  | false :: ks, i => muSlots ks (i + 1)
def collectM : List Bool → Nat → Nat → List C → Option (List T)
  | [], _, _, _ => some []
  | false :: ks, i, j, env => collectM ks (i + 1) j env
  | true :: ks, i, j, env => match env[i]? with
    | some (.own (some j') t) => if j' = j then (collectM ks (i + 1) (j + 1) env).map (t :: ·) else none
    | _ => none
def outM (ks : List Bool) : Out → Option (List T × T)
  | .rx env r => (collectM ks 0 0 env).map fun us => (us, r)
  | .nx env => (collectM ks 0 0 env).map fun us => (us, .d .none)
  | _ => none
def runM (ks : List Bool) (N : Nat) (body : List C → Out) : List T → Option (List T × T) := fun us => outM ks (body (cellsM ks 0 us ++ List.replicate (N - us.length) .und))
mutual
def noL : D → Bool
  | .list _ => false
  | .tuple ds => noLs ds
  | _ => true
def noLs : List D → Bool
  | [] => true
  | d :: ds => noL d && noLs ds
end
mutual
def noT : T → Bool
  | .d x => noL x
  | .n (.q _) _ => false
  | .n .lf _ => false
  | .n .v _ => false
  | .n _ ts => noTs ts
def noTs : List T → Bool
  | [] => true
  | t :: ts => noT t && noTs ts
end
def outT : Out → Option T
  | .rx _ r => if noT r = true then some r else none
  | .nx _ => some (.d .none)
  | _ => none
def runT (N : Nat) (body : List C → Out) : List T → Option T := fun us => outT (body (us.map (roC true) ++ List.replicate (N - us.length) .und))
section
variable {K : PySem.W.Frag} {ow : Option World} {Kp H F H' F' : Hp} {ks : List Bool} {vs : List V} {us us' : List T} {ws : List (Addr × List Addr)}
theorem MA.len (h : MA K ow Kp H F ks vs us ws) : vs.length = ks.length ∧ us.length = ks.length := by
  induction h with
  | nil => exact ⟨rfl, rfl⟩
  | ro _ _ ih => simp [ih.1, ih.2]
  | mu _ _ ih => simp [ih.1, ih.2]
theorem cellsM_len (h : MA K ow Kp H F ks vs us ws) : ∀ j, (cellsM ks j us).length = vs.length := by
  induction h with
  | nil => intro j; rfl
  | ro _ _ ih => intro j; simp [cellsM, ih]
  | mu _ _ ih => intro j; simp [cellsM, ih]
theorem MA.slots {G : GC} (h : MA K G.w G.kp H F ks vs us ws) (sub : Same F H) (kp : Same G.kp H) : ∀ j, (∀ (k : Nat) (x : Addr × List Addr), ws[k]? = some x → G.Ws[j + k]? = some x) → ∀ (i : Nat) (c : C), (cellsM ks j us)[i]? = some c → SlotRep K G H F ((vs.map some)[i]?.join) c (fpM ks ws i) := by
  induction h with
  | nil => intro j _ i c e; simp [cellsM] at e
  | @ro v u l ks vs us ws r _ ih =>
    intro j hw i c e
    cases i with
    | zero =>
      simp [cellsM] at e; subst e
      cases u with
      | d x =>
        cases r with
        | d r => exact ⟨rfl, v, rfl, r⟩
      | n s ts => exact ⟨rfl, v, l, rfl, r, fun h => nomatch h⟩
    | succ i => simpa [fpM] using ih j hw i c (by simpa [cellsM] using e)
  | @mu a u l ks vs us ws r _ ih =>
    intro j hw i c e
    cases i with
    | zero =>
      simp [cellsM] at e; subst e
      exact ⟨.ref a, rfl, r, fun j' hj => by cases hj; exact ⟨a, l, hw 0 _ rfl, rfl, fun b hb => .inl hb⟩⟩
    | succ i => simpa [fpM] using ih (j + 1) (fun k x e => by have := hw (k + 1) x (by simpa using e); rwa [Nat.add_assoc, Nat.add_comm 1 k]) i c (by simpa [cellsM] using e)
theorem MA.fp_own (h : MA K ow Kp H F ks vs us ws) : ∀ (j i : Nat) (b : Addr), b ∈ fpM ks ws i → b ∈ wAll ws ∧ ∃ c, (cellsM ks j us)[i]? = some c ∧ c.mu = true := by
  induction h with
  | nil => intro j i b hb; simp [fpM] at hb
  | ro _ _ ih =>
    intro j i b hb
    cases i with
    | zero => simp [fpM] at hb
    | succ i => obtain ⟨h1, c, h2, h3⟩ := ih j i b (by simpa [fpM] using hb); exact ⟨h1, c, by simpa [cellsM] using h2, h3⟩
  | @mu a u l ks vs us ws r _ ih =>
    intro j i b hb
    cases i with
    | zero => exact ⟨by simp [wAll]; exact .inl (by simpa [fpM] using hb), _, by simp [cellsM]; rfl, rfl⟩
    | succ i => obtain ⟨h1, c, h2, h3⟩ := ih (j + 1) i b (by simpa [fpM] using hb); exact ⟨by simp [wAll] at h1 ⊢; exact .inr h1, c, by simpa [cellsM] using h2, h3⟩
theorem MA.fp_dj (h : MA K ow Kp H F ks vs us ws) : (wAll ws).Nodup → ∀ (i j : Nat) (b : Addr), b ∈ fpM ks ws i → b ∈ fpM ks ws j → i = j := by
  induction h with
  | nil => intro _ i j b hb; simp [fpM] at hb
  | ro _ _ ih =>
    intro nd i j b h1 h2
    cases i with
    | zero => simp [fpM] at h1
    | succ i =>
      cases j with
      | zero => simp [fpM] at h2
      | succ j => rw [ih nd i j b (by simpa [fpM] using h1) (by simpa [fpM] using h2)]
  | @mu a u l ks vs us ws r m ih =>
    intro nd i j b h1 h2
    have nd' : (l ++ wAll ws).Nodup := by simpa [wAll] using nd
    rw [List.nodup_append] at nd'
    cases i with
    | zero =>
      cases j with
      | zero => rfl
      | succ j => exact absurd rfl (nd'.2.2 b (by simpa [fpM] using h1) b (m.fp_own 0 j b (by simpa [fpM] using h2)).1)
    | succ i =>
      cases j with
      | zero => exact absurd rfl (nd'.2.2 b (by simpa [fpM] using h2) b (m.fp_own 0 i b (by simpa [fpM] using h1)).1)
      | succ j => rw [ih nd'.2.1 i j b (by simpa [fpM] using h1) (by simpa [fpM] using h2)]
theorem muSlots_ge : ∀ (ks : List Bool) (i j : Nat), j ∈ muSlots ks i → i ≤ j
  | [], i, j, h => by simp [muSlots] at h
  | true :: ks, i, j, h => by
    rcases List.mem_cons.mp h with rfl | h
    · exact Nat.le_refl _
    · have := muSlots_ge ks (i + 1) j h; omega
  | false :: ks, i, j, h => by have := muSlots_ge ks (i + 1) j h; omega
theorem muSlots_nd : ∀ (ks : List Bool) (i : Nat), (muSlots ks i).Nodup
  | [], i => List.nodup_nil
  | true :: ks, i => by
    unfold muSlots
    rw [List.nodup_cons]
    exact ⟨fun h => by have := muSlots_ge ks (i + 1) i h; omega, muSlots_nd ks (i + 1)⟩
  | false :: ks, i => muSlots_nd ks (i + 1)
theorem MA.exit {G : GC} {env : List C} {σ : L2.St} {H2 F2 : Hp} {fp : Nat → List Addr} (h : MA K ow Kp H F ks vs us ws) (R : Rel K G env σ H2 F2 fp) : ∀ (i j : Nat) (us' : List T), (∀ (k : Nat) (x : Addr × List Addr), ws[k]? = some x → G.Ws[j + k]? = some x) → collectM ks i j env = some us' →
    MU K G.w H2 F2 ks vs us' ((muSlots ks i).map fp) ∧ W.EachIs (fun (x : Addr × List Addr) (l : List Addr) => ∀ b, b ∈ l → b ∈ x.2 ∨ G.H0 b = none) ws ((muSlots ks i).map fp) := by
  induction h with
  | nil => intro i j us' _ e; cases e; exact ⟨.nil, .nil⟩
  | ro _ _ ih =>
    intro i j us' hw e
    obtain ⟨h1, h2⟩ := ih (i + 1) j us' hw (by simpa [collectM] using e)
    exact ⟨.ro h1, h2⟩
  | @mu a u l ks vs us ws r m ih =>
    intro i j us' hw e
    unfold collectM at e
    split at e
    · rename_i j' t e1
      split at e
      · rename_i hj
        subst hj
        cases z : collectM ks (i + 1) (j' + 1) env with
        | none => rw [z] at e; cases e
        | some us2 =>
          rw [z] at e; cases e
          obtain ⟨h1, h2⟩ := ih (i + 1) (j' + 1) us2 (fun k x e => by have := hw (k + 1) x (by simpa using e); rwa [Nat.add_assoc, Nat.add_comm 1 k]) z
          obtain ⟨v, s1, s2, s3⟩ := slot_own R e1
          obtain ⟨ra, rl, w1, w2, w3⟩ := s3 j' rfl
          have := hw 0 _ rfl
          rw [Nat.add_zero, w1] at this
          cases this
          subst w2
          exact ⟨.mu s2 h1, .cons w3 h2⟩
      · cases e
    · cases e
theorem rel_startM {w : World} {N : List Str} {F0 : Hp} (sub : Same F0 H) (m : MA K (some w) (cut H (wAll ws)) H F0 ks vs us ws) (nd : (wAll ws).Nodup) (al : ∀ b, b ∈ wAll ws → F0 b = none ∧ H b ≠ none) :
    Rel K ⟨H, F0, ws, some w⟩ (cellsM ks 0 us ++ List.replicate (N.length - us.length) .und) (L2.start N vs) H F0 (fpM ks ws) := by
  have l1 := cellsM_len m 0
  obtain ⟨m1, m2⟩ := m.len
  have kp : Same (GC.kp ⟨H, F0, ws, some w⟩) H := fun a o e => by
    unfold GC.kp at e
    split at e
    · cases e
    · exact e
  have hk : cut H (wAll ws) = GC.kp ⟨H, F0, ws, some w⟩ := rfl
  have sl := MA.slots (G := ⟨H, F0, ws, some w⟩) m sub kp 0 (fun k x e => by rw [Nat.zero_add]; exact e)
  exact {
    len := by
      unfold L2.start
      rw [List.length_append, List.length_append, List.length_replicate, List.length_replicate, List.length_map, l1, m1, m2]
    slot := fun i c e => by
      by_cases hi : i < (cellsM ks 0 us).length
      · rw [List.getElem?_append_left hi] at e
        unfold L2.start
        rw [List.getElem?_append_left (by rw [List.length_map, ← l1]; exact hi)]
        exact sl i c e
      · rw [List.getElem?_append_right (by omega), List.getElem?_replicate] at e
        split at e
        · cases e
          show fpM ks ws i = []
          cases q : fpM ks ws i with
          | nil => rfl
          | cons b l =>
            obtain ⟨_, c, h2, _⟩ := m.fp_own 0 i b (by rw [q]; simp)
            exact absurd (List.getElem?_eq_some_iff.mp h2).1 hi
        · cases e
    dj := fun i j b h1 h2 => m.fp_dj nd i j b h1 h2
    own := fun i b hb => by
      obtain ⟨h1, c, h2, h3⟩ := m.fp_own 0 i b hb
      obtain ⟨g1, g2⟩ := al b h1
      refine ⟨g1, g2, .inr ⟨h1, c, ?_, h3⟩⟩
      rw [List.getElem?_append_left (List.getElem?_eq_some_iff.mp h2).1]
      exact h2
    sub := sub
    new := fun _ _ e => .inl e
    old := Same.refl _
    keep := fun _ _ e _ => e
    alive := fun _ e => e }
theorem slots_nd {G : GC} {env : List C} {σ : L2.St} {fp : Nat → List Addr} (R : Rel K G env σ H F fp) {ls : List (List Addr)} (hm : MU K ow H' F' ks vs us' ls) : ∀ (L : List Nat), L.Nodup → (∀ i, i ∈ L → (fp i).Nodup) → (L.map fp).flatten.Nodup
  | [], _, _ => List.nodup_nil
  | i :: L, nd, h => by
    rw [List.nodup_cons] at nd
    rw [List.map_cons, List.flatten_cons, List.nodup_append]
    refine ⟨h i (List.mem_cons_self ..), slots_nd R hm L nd.2 (fun j hj => h j (List.mem_cons_of_mem _ hj)), fun a ha b hb e => ?_⟩
    subst e
    obtain ⟨l, hl, hal⟩ := List.mem_flatten.mp hb
    obtain ⟨j, hj, rfl⟩ := List.mem_map.mp hl
    have := R.dj i j a ha hal
    subst this
    exact nd.1 hj
theorem MU.nodup : ∀ {ks : List Bool} {vs : List V} {us : List T} {ls : List (List Addr)}, MU K ow H F ks vs us ls → ∀ l, l ∈ ls → l.Nodup
  | _, _, _, _, .nil, _, h => nomatch h
  | _, _, _, _, .ro m, l, h => MU.nodup m l h
  | _, _, _, _, .mu r m, l, h => by
    rcases List.mem_cons.mp h with rfl | h
    · exact r.nodup
    · exact MU.nodup m l h
end
section
variable {P : Program} {w : World} {K : PySem.W.Frag} {mg : Str → Option Value} {base : Heap}
theorem fn_mu {x qual : Str} {st : Stmt} {f : Addr} {fd : FuncData} {N ps : List Str} {k : Nat} {ks : List Bool} {body : List C → Out} (F : Fun K x qual st f fd) (S : FnScope N ps (defScope st)) (hl : ks.length = ps.length)
    (hbody : ∀ (cdv : Value) (A : Around) (outer : List Env) (s : Shared) (H : Hp) (E : XK) (G : GC), Room k (A.deeper (PyProof.Rows.envOfC qual (defScope st) s.heap.objs.size f cdv)) → G.w = some w →
      DSs (cxOf CX0 P w K mg base N qual (defScope st) f cdv A outer s H E).nox G .fz (defBody st) body) : FnOk P w K mg base CX0 (k + 1) f fd ps (spM K w ks (runM ks N.length body)) := by
  refine F.ok S (fun vs H Q E h => ?_) (fun cdv A outer s H vs Q E hr h => ?_)
  · obtain ⟨F0, us, ws, us', r, sub, m, _⟩ := h
    rw [m.len.1, hl]
  · obtain ⟨F0, us, ws, us', r, sub, m, nd, al, hg, q⟩ := h
    obtain ⟨t, pt, o⟩ := (hbody cdv A outer s H E ⟨H, F0, ws, some w⟩ hr rfl).ex
    refine ⟨t, pt, o _ H F0 _ _ _ (rel_startM (N := N) sub m nd al) ?_⟩
    unfold runM at hg
    have fin : ∀ (env' : List C) (σ' : L2.St) (H' F' : Hp) (fp' : Nat → List Addr) (v : V) (lr : List Addr), Rel K ⟨H, F0, ws, some w⟩ env' σ' H' F' fp' → New K ⟨H, F0, ws, some w⟩ H' F' fp' v r lr → collectM ks 0 0 env' = some us' → Q v H' := fun env' σ' H' F' fp' v lr R n hc => by
      obtain ⟨e1, e2⟩ := m.exit R 0 0 us' (fun k x e => by rw [Nat.zero_add]; exact e) hc
      have inF : ∀ b, b ∈ ((muSlots ks 0).map fp').flatten → ∃ i, b ∈ fp' i := fun b hb => by
        obtain ⟨l, hl, hb⟩ := List.mem_flatten.mp hb
        obtain ⟨i, _, rfl⟩ := List.mem_map.mp hl
        exact ⟨i, hb⟩
      refine q v H' F' _ lr { f := R.old, sub := R.sub, nw := R.new, keep := fun b o hb e => R.keep b o e hb, al := fun b hb => R.alive b (al b hb).2, mu := e1, sep := e2, own := fun b hb => ?_, nd := ?_, res := n.rep, new := fun b hb => ⟨(n.own b hb).2.2, (n.own b hb).1, (n.own b hb).2.1⟩ }
      · obtain ⟨i, hi⟩ := inF b hb
        exact ⟨(R.own i b hi).1, (R.own i b hi).2.1⟩
      · rw [List.nodup_append]
        refine ⟨slots_nd R e1 _ (muSlots_nd ks 0) (fun i hi => e1.nodup _ (List.mem_map.mpr ⟨i, hi, rfl⟩)), n.rep.nodup, fun a ha b hb e => ?_⟩
        subst e
        obtain ⟨i, hi⟩ := inF a ha
        exact n.dj a hb i hi
    unfold outM at hg
    split at hg
    · rename_i env' r' e
      rw [e]
      cases z : collectM ks 0 0 env' with
      | none => rw [z] at hg; cases hg
      | some us2 =>
        rw [z] at hg; cases hg
        exact fun v σ' H' F' fp' l R n => fin env' σ' H' F' fp' v l R n z
    · rename_i env' e
      rw [e]
      cases z : collectM ks 0 0 env' with
      | none => rw [z] at hg; cases hg
      | some us2 =>
        rw [z] at hg; cases hg
        exact fun σ' H' F' fp' R s => fin env' σ' H' F' fp' .non [] R (new_d .non) z
    · cases hg
theorem mu_ro {H F : Hp} : ∀ {n : Nat} {vs : List V} {us : List T} {ls : List (List Addr)}, MU K (some w) H F (List.replicate n false) vs us ls → us = [] ∧ ls = []
  | 0, _, _, _, h => by
    have h : MU K (some w) H F [] _ _ _ := h
    cases h; exact ⟨rfl, rfl⟩
  | n + 1, _, _, _, h => by
    rw [List.replicate_succ] at h
    cases h with
    | ro h => exact mu_ro h
mutual
theorem DF_off {F F' : Hp} (h : ∀ a o, F a = some o → F' a = some o ∨ ∃ vs, o = .lst vs) : ∀ (d : D) (v : V), noL d = true → DF K F v d → DF K F' v d
  | .none, _, _, r => by cases r; exact .non
  | .bool b, _, _, r => by cases r; exact .bl b
  | .int i, _, _, r => by cases r; exact .int i
  | .str x, _, _, r => by cases r; exact .str x
  | .list ds, _, n, _ => by cases n
  | .tuple ds, _, n, r => by
    cases r with
    | @tup a xs _ hs ha =>
      refine .tup ?_ (DFAll_off h ds _ n ha)
      rcases hs with (hs | ⟨o, hs⟩) | hs
      · rcases h _ _ hs with z | ⟨vs, z⟩
        · exact .inl (.inl z)
        · cases z
      · rcases h _ _ hs with z | ⟨vs, z⟩
        · exact .inl (.inr ⟨o, z⟩)
        · cases z
      · exact .inr hs
  | .dict _, _, _, r => by cases r
theorem DFAll_off {F F' : Hp} (h : ∀ a o, F a = some o → F' a = some o ∨ ∃ vs, o = .lst vs) : ∀ (ds : List D) (vs : List V), noLs ds = true → DFAll K F vs ds → DFAll K F' vs ds
  | [], _, _, r => by cases r; exact .nil
  | d :: ds, _, n, r => by
    unfold noLs at n
    rw [Bool.and_eq_true] at n
    cases r with
    | cons r1 r2 => exact .cons (DF_off h d _ n.1 r1) (DFAll_off h ds _ n.2 r2)
end
mutual
theorem OR_off {ow : Option World} {H F F' : Hp} (h : ∀ a o, F a = some o → F' a = some o ∨ ∃ vs, o = .lst vs) : ∀ (t : T) (v : V) (l : List Addr), noT t = true → OR K ow H F v t l → OR K ow H F' v t l
  | .d d, _, _, n, r => by
    cases r with
    | d r => exact .d (DF_off h _ _ n r)
  | .n s ts, _, _, n, r => by
    cases r with
    | n r1 r2 r3 =>
      cases s with
      | l => exact .n r1 (ORs_off h ts _ _ (by simpa [noT] using n) r2) r3
      | t =>
        refine .n ?_ (ORs_off h ts _ _ (by simpa [noT] using n) r2) r3
        rcases r1 with r1 | ⟨r0, r1⟩
        · exact .inl r1
        · refine .inr ⟨r0, ?_⟩
          rcases r1 with (hs | ⟨o, hs⟩) | hs
          · rcases h _ _ hs with z | ⟨vs, z⟩
            · exact .inl (.inl z)
            · cases z
          · rcases h _ _ hs with z | ⟨vs, z⟩
            · exact .inl (.inr ⟨o, z⟩)
            · cases z
          · exact .inr hs
      | k ks => exact .n r1 (ORs_off h ts _ _ (by simpa [noT] using n) r2) r3
      | q ks => simp [noT] at n
      | o c fs => exact .n r1 (ORs_off h ts _ _ (by simpa [noT] using n) r2) r3
      | x c fs => exact .n r1 (ORs_off h ts _ _ (by simpa [noT] using n) r2) r3
      | e fs => exact .n r1 (ORs_off h ts _ _ (by simpa [noT] using n) r2) r3
      | lf => simp [noT] at n
      | v => simp [noT] at n
      | kf ks =>
        refine .n ?_ (ORs_off h ts _ _ (by simpa [noT] using n) r2) r3
        obtain ⟨r0, rl, o, r1⟩ := r1
        refine ⟨r0, rl, o, ?_⟩
        rcases h _ _ r1 with z | ⟨vs, z⟩
        · exact z
        · cases z
theorem ORs_off {ow : Option World} {H F F' : Hp} (h : ∀ a o, F a = some o → F' a = some o ∨ ∃ vs, o = .lst vs) : ∀ (ts : List T) (vs : List V) (l : List Addr), noTs ts = true → ORs K ow H F vs ts l → ORs K ow H F' vs ts l
  | [], _, _, _, r => by cases r; exact .nil
  | t :: ts, _, _, n, r => by
    unfold noTs at n
    rw [Bool.and_eq_true] at n
    cases r with
    | cons r1 r2 => exact .cons (OR_off h t _ _ n.1 r1) (ORs_off h ts _ _ n.2 r2)
end
def frzL (H F : Hp) : Hp := fun a => match F a with
  | some o => some o
  | none => match H a with | some (.lst vs) => some (.lst vs) | _ => none
def unF (H F0 F' : Hp) : Hp := fun a => match F0 a with
  | some o => some o
  | none => match H a with | some (.lst _) => none | _ => F' a
end
end DL
namespace DL
open PySem PySem.Spec L2
structure CalT (P : Program) (w : World) (K : PySem.W.Frag) (mg : Str → Option Value) (base : Heap) (k : Nat) (x : Str) (n : Nat) (g : List T → Option T) : Prop where
  ex : ∃ (f : Addr) (fd : FuncData) (ps : List Str), FnOk P w K mg base CX0 k f fd ps (spT K w n g) ∧ mg x = some (.ref f) ∧ PySem.W.keepIn K (.ref f) = true ∧ Binds K fd ps []
structure MetT (P : Program) (w : World) (K : PySem.W.Frag) (mg : Str → Option Value) (base : Heap) (k : Nat) (c m : Str) (n : Nat) (g : List T → Option T) : Prop where
  ex : ∃ (C f : Addr) (fd : FuncData) (ps : List Str), PySem.W.nsIn K mainGlobals c = some (some (.ref C)) ∧ Cls K C ∧ Meth K C m f ∧ FnOk P w K mg base CX0 k f fd ps (spT K w n g) ∧ Binds K fd ps []
structure MetM (P : Program) (w : World) (K : PySem.W.Frag) (mg : Str → Option Value) (base : Heap) (k : Nat) (c m : Str) (n : Nat) (g : List T → Option (List T × T)) : Prop where
  ex : ∃ (C f : Addr) (fd : FuncData) (ps : List Str), PySem.W.nsIn K mainGlobals c = some (some (.ref C)) ∧ Cls K C ∧ Meth K C m f ∧ FnOk P w K mg base CX0 k f fd ps (spM K w (true :: List.replicate n false) g) ∧ Binds K fd ps []
structure MakM (P : Program) (w : World) (K : PySem.W.Frag) (mg : Str → Option Value) (base : Heap) (k : Nat) (c : Str) (n : Nat) (g : List T → Option (List T × T)) : Prop where
  ex : ∃ (C f : Addr) (fd : FuncData) (ps : List Str), PySem.W.nsIn K mainGlobals c = some (some (.ref C)) ∧ mg c = some (.ref C) ∧ Mk K C f ∧ FnOk P w K mg base CX0 k f fd ps (spM K w (true :: List.replicate n false) g) ∧ Binds K fd ps []
section
variable {K : PySem.W.Frag} {w : World} {G : GC} {env : List C} {σ : L2.St} {H F H' F' : Hp} {fp : Nat → List Addr}
theorem fIx_none {f : Str} : ∀ {fs : List Str} {vs : List V}, fIx f fs = none → (fs.zip vs).lookup f = none
  | [], _, _ => rfl
  | g :: r, [], _ => rfl
  | g :: r, v :: vs, h => by
    unfold fIx at h
    rw [List.zip_cons_cons, List.lookup_cons]
    by_cases hg : g = f
    · rw [if_pos hg] at h; cases h
    · rw [if_neg hg] at h
      have hb : (f == g) = false := beq_eq_false_iff_ne.mpr (Ne.symm hg)
      rw [hb]
      cases z : fIx f r with
      | some k => rw [z] at h; cases h
      | none => exact fIx_none z
theorem ma_flat {ow : Option World} {Kp : Hp} : ∀ {vs : List V} {us : List T} {ds : List D}, W.EachIs (fun v u => ∃ l, OR K ow H F v u l) vs us → flatT us = some ds → MA K ow Kp H F (List.replicate us.length false) vs us []
  | _, _, _, .nil, _ => .nil
  | _, .d x :: us, ds, .cons ⟨l, r⟩ t, h => by
    unfold flatT at h
    cases z : flatT us with
    | none => rw [z] at h; cases h
    | some ds' =>
      cases r with
      | d r => exact .ro (.d r) (ma_flat t z)
  | _, .n _ _ :: us, _, .cons _ _, h => by cases h
theorem mu_one {n : Nat} {a : Addr} {vs : List V} {us : List T} {ls : List (List Addr)} (h : MU K (some w) H F (true :: List.replicate n false) (.ref a :: vs) us ls) : ∃ u l, us = [u] ∧ ls = [l] ∧ OR K (some w) H F (.ref a) u l := by
  cases h with
  | mu r h =>
    obtain ⟨rfl, rfl⟩ := mu_ro h
    exact ⟨_, _, rfl, rfl, r⟩
theorem Rel.called {ip : IP} {u r : T} {a : Addr} {lu lr : List Addr} {n : Nat} {vs : List V} {us' : List T} {ls' : List (List Addr)} {v : V} (hw : G.w = some w) (R : Rel K G env σ H F fp) (P : Place K G env σ H F fp ip u (.ref a) lu)
    (p : PostM K w (true :: List.replicate n false) (.ref a :: vs) H F [(a, lu)] H' F' us' ls' v r lr) : ∃ u' fp', us' = [u'] ∧ Rel K G (putAt env ip u') σ H' F' fp' ∧ New K G H' F' fp' v r lr := by
  obtain ⟨u', l', rfl, rfl, rep⟩ := mu_one p.mu
  have hwa : wAll [(a, lu)] = lu := by simp [wAll]
  have sep : ∀ b, b ∈ l' → b ∈ lu ∨ H b = none := by
    cases p.sep with
    | cons h _ => exact h
  have own : ∀ b, b ∈ l' → F' b = none ∧ H' b ≠ none := fun b hb => p.own b (by simpa using hb)
  have nd : (l' ++ lr).Nodup := by simpa using p.nd
  have fr : ∀ b, H b = none → (∀ j, b ∉ fp j) := fun b hb j hj => (R.own j b hj).2.1 hb
  obtain ⟨fp', R', q1, q2⟩ := R.write2 P (H' := H') (F' := F') (u' := u') (lu' := l') p.f p.sub p.nw (fun b o hb e => p.keep b o (by rw [hwa]; exact hb) e) (fun b hb => p.al b (by rw [hwa]; exact hb)) (by rw [hw]; exact rep)
    (fun b hb => ⟨(sep b hb).imp_right fun z => ⟨fr b z, R.h0 z⟩, own b hb⟩)
  refine ⟨u', fp', rfl, R', ⟨by rw [hw]; exact p.res, fun b hb => ⟨(p.new b hb).2.1, (p.new b hb).2.2, R.h0 (p.new b hb).1⟩, fun b hb j hj => ?_⟩⟩
  have hbn := (p.new b hb).1
  by_cases hji : j = ip.1
  · subst hji
    rcases q2 b hj with z | z
    · exact fr b hbn _ z
    · rw [List.nodup_append] at nd
      exact nd.2.2 b z b hb rfl
  · rw [q1 j hji] at hj
    exact fr b hbn j hj
end
section
variable {X : Cx} {G : GC} {kr k k2 : RK} {e ei ek o : Expr} {es : List Expr} {f fi fk fe : List C → Option D} {r : List C → Option T} {rs : List C → Option (List T)} {gp : List C → Option IP} {pos p1 p2 p3 pos' p apos : Pos} {n lv : Nat} {c m x : Str}
def nCall (g : List T → Option T) (rs : List C → Option (List T)) : List C → Option T := fun env => (rs env).bind g
def nMeth (c m : Str) (g : List T → Option T) (r : List C → Option T) (rs : List C → Option (List T)) : List C → Option T := fun env => match r env with
  | some (.n (.o c' fs) ts) => if c' = c ∧ fIx m fs = none then (match rs env with | some us => g (.n (.o c fs) ts :: us) | none => none) else none
  | _ => none
def xMeth (c m : Str) (g : List T → Option (List T × T)) (gp : List C → Option IP) (rs : List C → Option (List T)) : List C → Option (List C × T) := fun env => match gp env with
  | some ip => (match nodeAt env ip with
    | some (.n (.o c' fs) ts) => if c' = c ∧ fIx m fs = none then (match rs env with
      | some us => (match flatT us, g (.n (.o c fs) ts :: us) with
        | some _, some ([u'], y) => some (putAt env ip u', y)
        | _, _ => none)
      | none => none) else none
    | _ => none)
  | none => none
theorem spM_one {K : PySem.W.Frag} {w : World} {G : GC} {env : List C} {σ : L2.St} {H F : Hp} {fp : Nat → List Addr} {ip : IP} {u y : T} {u' : T} {a : Addr} {lu : List Addr} {vs : List V} {us : List T} {g : List T → Option (List T × T)} {Q : VK} {E : XK} {ds : List D} (hw : G.w = some w) (R : Rel K G env σ H F fp) (P : Place K G env σ H F fp ip u (.ref a) lu)
    (ra : W.EachIs (fun v u => ∃ l, OR K (some w) H F v u l) vs us) (hfl : flatT us = some ds) (hg : g (u :: us) = some ([u'], y)) (q : ∀ v H' F' fp' l, Rel K G (putAt env ip u') σ H' F' fp' → Same F F' → New K G H' F' fp' v y l → Q v H') :
    spM K w (true :: List.replicate us.length false) g (.ref a :: vs) H Q E := by
  have hrep := P.rep
  rw [hw] at hrep
  have hwa : wAll [(a, lu)] = lu := by simp [wAll]
  refine ⟨F, u :: us, [(a, lu)], [u'], y, R.sub, .mu hrep (ma_flat ra hfl), by rw [hwa]; exact hrep.nodup, fun b hb => ?_, hg, fun v H' F' ls' lr p => ?_⟩
  · rw [hwa] at hb
    exact ⟨(R.own ip.1 b (P.mem hb)).1, (R.own ip.1 b (P.mem hb)).2.1⟩
  · obtain ⟨u2, fp', eu, R', n⟩ := R.called hw P p
    cases eu
    exact q v H' F' fp' lr R' p.f n
theorem dx_meth {g : List T → Option (List T × T)} {pl : Sem Bool} (met : MetM X.prog X.w X.K X.mg X.base lv c m n g) (hw : G.w = some X.w) (hr : Room lv X.A) (ho : DPl X G o gp) (h : DRs X G (e :: es) rs) (hl : ∀ env us, rs env = some us → us.length = n) (hst : starEach (e :: es) X.env = (false, eval e X.env) :: starEach es X.env := by rfl) (hpl : (backTo pos (starEach es X.env)).any (·.1) = false := by rfl)
    (ht : eval (.Call (.Attribute o m apos) (e :: es) [] pos) X.env = (do
      let ov ← eval o X.env
      standAt apos.atName
      let (f, first) ← holding [ov] (getMethod ov m pl)
      callWith pos f first (backTo pos (starEach (e :: es) X.env)) (backToKw pos (keywordEach [] X.env))) := by rfl) : DX X G (.Call (.Attribute o m apos) (e :: es) [] pos) (xMeth c m g gp rs) := by
  obtain ⟨C', fa, fd, ps, nC, cls, me, F, b⟩ := met.ex
  obtain ⟨t, pt, oo⟩ := ho.ex
  obtain ⟨ta, pa, oa⟩ := h.ex
  refine ⟨_, pe_meth (E := fun _ _ _ => True) pt cls me F hr b .nil pass0 pa hst hpl ht, fun σ H F fp env env' u Q R hf q => ?_⟩
  unfold xMeth at hf
  split at hf
  · rename_i ip z1
    split at hf
    · rename_i c' fs ts z2
      split at hf
      · rename_i hc
        obtain ⟨rfl, hnone⟩ := hc
        split at hf
        · rename_i us z3
          split at hf
          · rename_i ds u' y zf zg
            cases hf
            refine oo σ H F fp env ip _ _ R z1 z2 fun v lu H1 F1 E1 P => ?_
            have rep := P.rep
            cases rep with
            | @n _ a vs _ own l0 r1 r2 r3 =>
              obtain ⟨hlv, C2, dx, rfl, n1, n2, n3⟩ := r1
              rw [nC] at n1; cases n1
              refine ⟨a, dx, _, rfl, n2, fIx_none hnone, oa σ H1 F1 fp env us _ (R.ext E1) z3 fun vs2 H2 F2 E2 ra => ?_⟩
              rw [List.append_nil]
              rw [hw] at ra
              have hln := hl _ _ z3
              rw [← hln]
              exact spM_one hw ((R.ext E1).ext E2) (P.ext E2) ra zf zg fun v H' F' fp' l R' s nn => q v H' F' fp' l R' ((E1.f.trans E2.f).trans s) nn
          · cases hf
        · cases hf
      · cases hf
    · cases hf
  · cases hf
theorem dx_meth0 {g : List T → Option (List T × T)} {pl : Sem Bool} (met : MetM X.prog X.w X.K X.mg X.base lv c m 0 g) (hw : G.w = some X.w) (hr : Room lv X.A) (ho : DPl X G o gp)
    (ht : eval (.Call (.Attribute o m apos) [] [] pos) X.env = (do
      let ov ← eval o X.env
      standAt apos.atName
      let (f, first) ← holding [ov] (getMethod ov m pl)
      callWith pos f first (backTo pos (starEach [] X.env)) (backToKw pos (keywordEach [] X.env))) := by rfl) : DX X G (.Call (.Attribute o m apos) [] [] pos) (xMeth c m g gp nsNil) := by
  obtain ⟨C', fa, fd, ps, nC, cls, me, F, b⟩ := met.ex
  obtain ⟨t, pt, oo⟩ := ho.ex
  refine ⟨_, pe_meth0 (E := fun _ _ _ => True) pt cls me F hr b .nil pass0 ht, fun σ H F fp env env' u Q R hf q => ?_⟩
  unfold xMeth at hf
  split at hf
  · rename_i ip z1
    split at hf
    · rename_i c' fs ts z2
      split at hf
      · rename_i hc
        obtain ⟨rfl, hnone⟩ := hc
        split at hf
        · rename_i us z3
          cases z3
          split at hf
          · rename_i ds u' y zf zg
            cases hf
            refine oo σ H F fp env ip _ _ R z1 z2 fun v lu H1 F1 E1 P => ?_
            have rep := P.rep
            cases rep with
            | @n _ a vs _ own l0 r1 r2 r3 =>
              obtain ⟨hlv, C2, dx, rfl, n1, n2, n3⟩ := r1
              rw [nC] at n1; cases n1
              refine ⟨a, dx, _, rfl, n2, fIx_none hnone, ?_⟩
              exact spM_one (E := fun _ _ _ => True) (us := []) (vs := []) hw (R.ext E1) P .nil zf zg fun v H' F' fp' l R' s nn => q v H' F' fp' l R' (E1.f.trans s) nn
          · cases hf
        · cases hf
      · cases hf
    · cases hf
  · cases hf
def xMethX (c m : Str) (g : List T → Option (List T × T)) (i : Nat) (gx : List C → Option (List C × T)) : List C → Option (List C × T) := fun env => match nodeAt env (i, []), gx env with
  | some (.n (.o c0 fs0) _), some (env1, .d y) => if c0 = c ∧ fIx m fs0 = none then (match nodeAt env1 (i, []) with
    | some (.n (.o c' fs) ts) => (match g (.n (.o c' fs) ts :: [.d y]) with
        | some ([u'], z) => some (putAt env1 (i, []) u', z)
        | _ => none)
    | _ => none) else none
  | _, _ => none
def nMake (c : Str) (g : List T → Option (List T × T)) (rs : List C → Option (List T)) : List C → Option T := fun env => match rs env with
  | some us => (match g (.n (.o c []) [] :: us) with | some ([u'], .d .none) => some u' | _ => none)
  | none => none
theorem or_cut {K : PySem.W.Frag} {ow : Option World} {H H' F : Hp} {W : List Addr} : ∀ {vs : List V} {us : List T}, (∀ b o, H b = some o → cut H' W b = some o) → PySem.W.EachIs (fun v u => ∃ l, OR K ow H F v u l) vs us → MA K ow (cut H' W) H' F (List.replicate us.length false) vs us []
  | _, _, _, .nil => .nil
  | _, _, h, .cons ⟨l, r⟩ t => .ro (OR_mono (Same.refl _) _ _ _ (fun b o _ e => h b o e) r) (or_cut h t)
theorem dn_make {g : List T → Option (List T × T)} (mk : MakM X.prog X.w X.K X.mg X.base lv c n g) (hw : G.w = some X.w) (hr : Room (lv + 1) X.A) (hg : Gl X c) (h : DRs X G (e :: es) rs) (hl : ∀ env us, rs env = some us → us.length = n) (hdb : (c == ("__debug__" : Str)) = false := by decide) (he : starEach (e :: es) X.env = (false, eval e X.env) :: starEach es X.env := by rfl)
    (hpl : (backTo pos (starEach es X.env)).any (·.1) = false := by rfl) : DN X G (.Call (.Name c p) (e :: es) [] pos) (nMake c g rs) := by
  obtain ⟨C', fa, fd, ps, nC, mC, M, F, b⟩ := mk.ex
  obtain ⟨ta, pa, oa⟩ := h.ex
  refine ⟨_, pe_make (E := fun _ _ _ => True) M F hr hg mC b .nil pass0 pa hdb he hpl, fun σ H F fp env u Q R hf q => ?_⟩
  unfold nMake at hf
  split at hf
  · rename_i us z
    split at hf
    · rename_i u' zg
      have hu : u' = u := Option.some.inj hf
      subst hu
      refine oa σ H F fp env us _ R z fun vs H1 F1 E1 ra => ?_
      intro x dx nx ndx ne
      rw [List.append_nil, ← hl _ _ z]
      rw [hw] at ra
      generalize hH2 : upd (upd H1 dx (.own x)) x (.ins C' dx []) = H2
      have hx2 : H2 x = some (.ins C' dx []) := by rw [← hH2]; exact upd_same
      have hd2 : H2 dx = some (.own x) := by rw [← hH2, upd_ne ne]; exact upd_same
      have old : ∀ b o, H1 b = some o → H2 b = some o := fun b o e => by
        rw [← hH2, upd_ne (ne_of_none e nx), upd_ne (ne_of_none e ndx)]; exact e
      have hwa : wAll [(x, [x, dx])] = [x, dx] := by simp [wAll]
      have f1 : ∀ b, b ∈ [x, dx] → H1 b = none := fun b hb => by
        rcases List.mem_cons.mp hb with rfl | hb
        · exact nx
        · rw [List.mem_singleton.mp hb]; exact ndx
      have new2 : ∀ b, H1 b = none → b ∉ [x, dx] → H2 b = none := fun b hb hn => by
        rw [← hH2, upd_ne (fun z => hn (by simp [z])), upd_ne (fun z => hn (by simp [z]))]; exact hb
      refine ⟨F1, .n (.o c []) [] :: us, [(x, [x, dx])], [u'], .d .none, fun b o e => old b o (E1.sub b o e), .mu (.n (own := [x, dx]) (l := []) (vs := []) ⟨rfl, C', dx, rfl, nC, hx2, hd2⟩ .nil (by simp [Ne.symm ne])) (or_cut (fun b o e => ?_) ra), by rw [hwa]; simp [Ne.symm ne], fun b hb => ?_, zg, fun v H' F' ls' lr p => ?_⟩
      · unfold cut
        rw [hwa, if_neg (fun hm => by rw [f1 b hm] at e; cases e)]
        exact old b o e
      · rw [hwa] at hb
        refine ⟨E1.sub.free (f1 b hb), ?_⟩
        rcases List.mem_cons.mp hb with rfl | hb
        · rw [hx2]; intro z; cases z
        · rw [List.mem_singleton.mp hb, hd2]; intro z; cases z
      · obtain ⟨u2, l', eu, rfl, rep⟩ := mu_one p.mu
        cases eu
        refine ⟨by cases p.res with | d r => cases r; rfl, ?_⟩
        have sep : ∀ b, b ∈ l' → H1 b = none := fun b hb => by
          cases p.sep with
          | cons h _ =>
            rcases h b hb with z | z
            · exact f1 b z
            · cases q9 : H1 b with
              | none => rfl
              | some o => rw [old b o q9] at z; cases z
        have E2 : Ext H1 F1 H' F' := ⟨fun b o e => p.keep b o (by rw [hwa]; intro hm; rw [f1 b hm] at e; cases e) (old b o e), p.f, p.sub, fun a o e => (p.nw a o e).imp_right fun z => by
          cases q9 : H1 a with
          | none => rfl
          | some o => rw [old a o q9] at z; cases z⟩
        have fr : Fresh H1 H' F' l' := fun b hb => ⟨sep b hb, p.own b (by simpa using hb)⟩
        exact q (.ref x) H' F' l' (E1.trans E2) (by rw [hw]; exact rep) (fr.back E1.h)
    · cases hf
  · cases hf
end
end DL
namespace DL
open PySem PySem.Spec L2
section
variable {X : Cx} {G : GC} {tg iter e e2 elt : Expr} {k k2 kr : RK} {f f2 : List C → Option D} {fn : List C → Option T} {p pos : Pos} {ft : List C → Option Bool}
def tNn (K : PySem.W.Frag) (G : GC) (f : List C → Option T) : TE := fun σ H Q => ∃ (F : Hp) (fp : Nat → List Addr) (env : List C) (u : T), Rel K G env σ H F fp ∧ f env = some u ∧ ∀ v H' F' l, Ext H F H' F' → OR K G.w H' F' v u l → Fresh H H' F' l → Q v H'
theorem DN.canon (h : DN X G e fn) : PE X e (tNn X.K G fn) := by
  obtain ⟨t, p, o⟩ := h.ex
  exact ⟨fun pins s σ H Q I ⟨F, fp, env, d, R, hf, q⟩ => p.run pins s σ H Q I (o σ H F fp env d Q R hf q)⟩
def lcT (g : D → List C → Option (List C)) (tt : List C → Option Bool) (fe : List C → Option T) (env : List C) : List D → Option (List T)
  | [] => some []
  | d :: ds => (g d env).bind fun e => (tt e).bind fun b => if b = true then (fe e).bind fun y => (lcT g tt fe env ds).map (y :: ·) else lcT g tt fe env ds
def nLc (vs : List Nat) (fi : List C → Option (List D)) (g : D → List C → Option (List C)) (tt : List C → Option Bool) (fe : List C → Option T) : List C → Option T := fun env => (fi env).bind fun items => (lcT g tt fe (wipeE env vs) items).map (.n .l)
def sSetN (i : Nat) (f : List C → Option T) : List C → Out := fun env => match f env with | some u => .nx (env.set i (toC u)) | none => .err
theorem OR.alive {K : PySem.W.Frag} {ow : Option World} {H F : Hp} : ∀ (t : T) {v : V} {l : List Addr}, OR K ow H F v t l → ∀ b, b ∈ l → H b ≠ none := by
  intro t
  exact OR.rec (motive_1 := fun v t l _ => ∀ b, b ∈ l → H b ≠ none) (motive_2 := fun vs ts l _ => ∀ b, b ∈ l → H b ≠ none) (fun _ b hb => nomatch hb) (fun {s a vs ts own l} nr _ _ ih b hb => by
    rcases List.mem_append.mp hb with z | z
    · cases s with
      | l => obtain ⟨rfl, h⟩ := nr; rw [List.mem_singleton.mp z, h]; intro y; cases y
      | t =>
        rcases nr with ⟨rfl, h⟩ | ⟨rfl, _⟩
        · rw [List.mem_singleton.mp z, h]; intro y; cases y
        · cases z
      | k ks => obtain ⟨rfl, _, h⟩ := nr; rw [List.mem_singleton.mp z, h]; intro y; cases y
      | q ks => obtain ⟨rfl, _, _, _, h, _⟩ := nr; rw [List.mem_singleton.mp z, h]; intro y; cases y
      | o c fs =>
        obtain ⟨_, C, dx, rfl, _, h, h2⟩ := nr
        rcases List.mem_cons.mp z with rfl | z
        · rw [h]; intro y; cases y
        · rw [List.mem_singleton.mp z, h2]; intro y; cases y
      | e fs => obtain ⟨rfl, _, h⟩ := nr; rw [List.mem_singleton.mp z, h]; intro y; cases y
      | lf => obtain ⟨rfl, _⟩ := nr; cases z
      | v => obtain ⟨rfl, _⟩ := nr; cases z
      | kf _ => obtain ⟨rfl, _⟩ := nr; cases z
      | x c fs =>
        obtain ⟨_, C, _, h⟩ := nr
        rcases h with ⟨rfl, _, h⟩ | ⟨dx, rfl, h, h2⟩
        · rw [List.mem_singleton.mp z, h]; intro y; cases y
        · rcases List.mem_cons.mp z with rfl | z
          · rw [h]; intro y; cases y
          · rw [List.mem_singleton.mp z, h2]; intro y; cases y
    · exact ih b z) (fun b hb => nomatch hb) (fun _ _ ih1 ih2 b hb => by
    rcases List.mem_append.mp hb with z | z
    · exact ih1 b z
    · exact ih2 b z)
mutual
theorem view_fz {K : PySem.W.Frag} {ow : Option World} {H F F1 : Hp} (f : Same F F1) : ∀ (t : T) (v : V) (d : D) (l : List Addr), (∀ b o, b ∈ l → H b = some o → F1 b = some o) → viewT t = some d → OR K ow H F v t l → DF K F1 v d
  | .d x, v, d, l, _, h, r => by
    unfold viewT at h; cases h
    cases r with
    | d r => exact DF_mono f _ _ r
  | .n s ts, v, d, l, k, h, r => by
    cases r with
    | n r1 r2 r3 =>
      cases s with
      | l =>
        unfold viewT at h
        cases z : viewTs ts with
        | none => rw [z] at h; cases h
        | some ds =>
          rw [z] at h; cases h
          obtain ⟨rfl, r1⟩ := r1
          exact .lst (k _ _ (by simp) r1) (view_fzs f ts _ _ _ (fun b o hb => k b o (by simp [hb])) z r2)
      | t =>
        unfold viewT at h
        cases z : viewTs ts with
        | none => rw [z] at h; cases h
        | some ds =>
          rw [z] at h; cases h
          refine .tup ?_ (view_fzs f ts _ _ _ (fun b o hb => k b o (by simp [hb])) z r2)
          rcases r1 with ⟨rfl, r1⟩ | ⟨rfl, r1⟩
          · exact .inl (.inl (k _ _ (by simp) r1))
          · exact Same.seqT f r1
      | k ks => unfold viewT at h; cases h
      | q ks => unfold viewT at h; cases h
      | o c fs => unfold viewT at h; cases h
      | x c fs => unfold viewT at h; cases h
      | e fs => unfold viewT at h; cases h
      | lf => unfold viewT at h; cases h
      | kf ks => unfold viewT at h; cases h
      | v => unfold viewT at h; cases h
theorem view_fzs {K : PySem.W.Frag} {ow : Option World} {H F F1 : Hp} (f : Same F F1) : ∀ (ts : List T) (vs : List V) (ds : List D) (l : List Addr), (∀ b o, b ∈ l → H b = some o → F1 b = some o) → viewTs ts = some ds → ORs K ow H F vs ts l → DFAll K F1 vs ds
  | [], vs, ds, l, _, h, r => by unfold viewTs at h; cases h; cases r; exact .nil
  | t :: ts, vs, ds, l, k, h, r => by
    cases r with
    | cons r1 r2 =>
      unfold viewTs at h
      cases z : viewT t with
      | none => rw [z] at h; cases h
      | some x =>
        cases z2 : viewTs ts with
        | none => rw [z, z2] at h; cases h
        | some xs =>
          rw [z, z2] at h; cases h
          exact .cons (view_fz f t _ _ _ (fun b o hb => k b o (by simp [hb])) z r1) (view_fzs f ts _ _ _ (fun b o hb => k b o (by simp [hb])) z2 r2)
end
def GC.frz (G : GC) (F1 : Hp) : GC := ⟨G.H0, F1, G.Ws, G.w⟩
def putFz (i : Nat) (env : List C) : Option (List C) := match env[i]? with
  | some (.own _ t) => (viewT t).map fun d => env.set i (.val d)
  | some (.lst ds) => some (env.set i (.val (.list ds)))
  | some (.val _) => some env
  | _ => none
def eFv (i : Nat) (f : List C → Option D) : List C → Option D := fun env => match putFz i env with | some env' => flatO (f env') | none => none
def tFv (i : Nat) (ft : List C → Option Bool) : List C → Option Bool := fun env => (putFz i env).bind ft
structure DRo (X : Cx) (G : GC) (e : Expr) (r : List C → Option T) : Prop where
  ex : ∃ t, PE X e t ∧ ∀ (σ : L2.St) (H F : Hp) (fp : Nat → List Addr) (env : List C) (u : T) (Q : VK), Rel X.K G env σ H F fp → r env = some u →
    (∀ v l H' F', Ext H F H' F' → OR X.K G.w G.kp F' v u l → (∀ a vs, a ∈ l → G.kp a = some (.lst vs) → F' a = some (.lst vs)) → Q v H') → t σ H Q
def roN (i : Nat) : List C → Option T := fun env => match env[i]? with | some (.ro true t) => some t | _ => none
def eOw (fn : List C → Option T) : List C → Option D := fun env => match fn env with | some (.n .l ts) => (flatT ts).map .list | _ => none
end
end DL
namespace DL
open PySem PySem.Spec L2
section
variable {K : PySem.W.Frag} {w : World} {G : GC} {env : List C} {σ : L2.St} {H F H' F' : Hp} {fp : Nat → List Addr} {X : Cx}
def OneOk (K : PySem.W.Frag) (H : Hp) : Prop := (∀ a xs ys, SqT K H a xs → SqT K H a ys → xs = ys) ∧ ∀ a xs ys, H a = some (.lst xs) → SqT K H a ys → False
theorem pe_one {e : Expr} {t : TE} (h : PE X e t) : PE X e (fun σ H Q => t σ H (fun v H' => OneOk X.K H' → Q v H')) := ⟨fun pins s σ H Q I hq => thn (h.run pins s σ H _ I hq) fun u s' ⟨v, H', I', rv, q⟩ => ⟨v, H', I', rv, q ⟨fun a xs ys h1 h2 => I'.tuple_inj h1 h2, fun a xs ys h1 h2 => by
  obtain ⟨its, r, ⟨o, n, e, hc, _, d⟩, _⟩ := I'.list (SqL.of h1)
  obtain ⟨its', r', ⟨o', e', hc', n', d'⟩, _⟩ := I'.tuple h2
  rw [e] at e'; cases e'
  rw [hc] at hc'
  injection hc' with z
  exact absurd z (by decide)⟩⟩⟩
theorem lst_tup {a : Addr} {xs ys : List V} (ok : OneOk K H) (sub : Same F H) (h1 : F a = some (.lst xs)) (h2 : SqT K F a ys) : False := ok.2 a xs ys (sub _ _ h1) (Same.seqT sub h2)
mutual
theorem DF_one (ok : OneOk K H) (sub : Same F H) : ∀ (d e : D) (v : V), DF K F v d → DF K F v e → d = e
  | .none, e, v, h, h' => by cases h; cases h'; rfl
  | .bool b, e, v, h, h' => by cases h; cases h'; rfl
  | .int i, e, v, h, h' => by cases h; cases h'; rfl
  | .str x, e, v, h, h' => by cases h; cases h'; rfl
  | .list ds, e, v, h, h' => by
    cases h with
    | @lst a xs _ h1 h2 =>
      cases h' with
      | @lst _ ys es g1 g2 =>
        rw [h1] at g1; cases g1
        rw [DFAll_one ok sub ds es xs h2 g2]
      | @tup _ ys es g1 g2 => exact (lst_tup ok sub h1 g1).elim
  | .tuple ds, e, v, h, h' => by
    cases h with
    | @tup a xs _ h1 h2 =>
      cases h' with
      | @lst _ ys es g1 g2 => exact (lst_tup ok sub g1 h1).elim
      | @tup _ ys es g1 g2 =>
        have := ok.1 a xs ys (Same.seqT sub h1) (Same.seqT sub g1)
        subst this
        rw [DFAll_one ok sub ds es xs h2 g2]
  | .dict _, _, _, h, _ => by cases h
theorem DFAll_one (ok : OneOk K H) (sub : Same F H) : ∀ (ds es : List D) (vs : List V), DFAll K F vs ds → DFAll K F vs es → ds = es
  | [], es, vs, h, h' => by cases h; cases h'; rfl
  | d :: ds, es, vs, h, h' => by
    cases h with
    | cons h1 h2 =>
      cases h' with
      | cons g1 g2 => rw [DF_one ok sub d _ _ h1 g1, DFAll_one ok sub ds _ _ h2 g2]
end
open Classical in
noncomputable def oneL (F : Hp) (b : Addr) : Hp := fun a => match F a with
  | some (HO.lst vs) => if a = b then some (HO.lst vs) else none
  | o => o
open Classical in
noncomputable def nCallF (g : List D → Option D) (fs : List C → Option (List D)) : List C → Option T := fun env => match fs env with
  | some [.list as, .int n] => (match g [.list as, .int n] with
    | some (.tuple [.str s, .list es]) => if noLs as = true ∧ noLs es = true then (if as = es then (if es = [] then some (.n .t [.d (.str s), .d (.list [])]) else none) else some (.n .t [.d (.str s), .n .l (es.map .d)])) else none
    | _ => none)
  | _ => none
def gNotB : D → D → Option D | .bool a, .bool b => some (.bool (!decide (a = b))) | _, _ => none
end
end DL
namespace DL
open PySem PySem.Spec L2
inductive MAs (K : PySem.W.Frag) (env : List C) (σ : L2.St) (F : Hp) : List Bool → List Nat → List V → List T → Prop
  | nil : MAs K env σ F [] [] [] []
  | ro {v : V} {d : D} {ks : List Bool} {sl : List Nat} {vs : List V} {us : List T} : DF K F v d → MAs K env σ F ks sl vs us → MAs K env σ F (false :: ks) sl (v :: vs) (.d d :: us)
  | mu {i : Nat} {m : Option Nat} {s : Shp} {ts : List T} {v : V} {ks : List Bool} {sl : List Nat} {vs : List V} {us : List T} : env[i]? = some (.own m (.n s ts)) → σ[i]? = some (some v) → MAs K env σ F ks sl vs us → MAs K env σ F (true :: ks) (i :: sl) (v :: vs) (.n s ts :: us)
def putsN : List Nat → List T → List C → List C
  | i :: sl, u :: us, env => putsN sl us (putAt env (i, []) u)
  | _, _, env => env
def fpN : List Nat → List (List Addr) → (Nat → List Addr) → Nat → List Addr
  | i :: sl, l :: ls, fp => fpN sl ls (fset fp i l)
  | _, _, fp => fp
section
variable {K : PySem.W.Frag} {w : World} {G : GC} {env : List C} {σ : L2.St} {H F H' F' : Hp} {fp : Nat → List Addr} {ks : List Bool} {sl : List Nat} {vs : List V} {us us' : List T} {ls' : List (List Addr)} {ws : List (Addr × List Addr)}
theorem MAs.mono (f : Same F F') (h : MAs K env σ F ks sl vs us) : MAs K env σ F' ks sl vs us := by
  induction h with
  | nil => exact .nil
  | ro h _ ih => exact .ro (DF_mono f _ _ h) ih
  | mu h1 h2 _ ih => exact .mu h1 h2 ih
theorem MAs.ma (hw : G.w = some w) (R : Rel K G env σ H F fp) (Kp : Hp) (h : MAs K env σ F ks sl vs us) : ∃ ws, MA K (some w) Kp H F ks vs us ws ∧ ws.map (·.2) = sl.map fp := by
  induction h with
  | nil => exact ⟨[], .nil, rfl⟩
  | ro h _ ih =>
    obtain ⟨ws, h1, h2⟩ := ih
    exact ⟨ws, .ro (.d h) h1, h2⟩
  | @mu i m s ts v ks sl vs us e1 e2 _ ih =>
    obtain ⟨ws, h1, h2⟩ := ih
    obtain ⟨v', s1, r, _⟩ := slot_own R e1
    rw [e2] at s1; cases s1
    rw [hw] at r
    generalize hl : fp i = l at r
    cases r with
    | @n _ a vs' _ own l0 r1 r2 r3 =>
      refine ⟨(a, own ++ l0) :: ws, .mu (.n r1 r2 r3) h1, ?_⟩
      rw [List.map_cons, List.map_cons, h2, hl]
theorem MAs.slots (R : Rel K G env σ H F fp) (h : MAs K env σ F ks sl vs us) (nd : sl.Nodup) : ((sl.map fp).flatten).Nodup := by
  induction h with
  | nil => exact List.nodup_nil
  | ro _ _ ih => exact ih nd
  | @mu i m s ts v ks sl vs us e1 e2 _ ih =>
    rw [List.nodup_cons] at nd
    obtain ⟨v', s1, r, _⟩ := slot_own R e1
    rw [List.map_cons, List.flatten_cons, List.nodup_append]
    refine ⟨r.nodup, ih nd.2, fun b hb c hc z => ?_⟩
    subst z
    obtain ⟨l, hl, hc⟩ := List.mem_flatten.mp hc
    obtain ⟨j, hj, rfl⟩ := List.mem_map.mp hl
    exact nd.1 (R.dj i j b hb hc ▸ hj)
theorem wAll_map (ws : List (Addr × List Addr)) : wAll ws = (ws.map (·.2)).flatten := by unfold wAll; rw [List.flatMap_def]
theorem putAt_ne {i j : Nat} {u : T} (h : j ≠ i) : (putAt env (i, []) u)[j]? = env[j]? := by
  unfold putAt
  split
  · rw [List.getElem?_set_ne (Ne.symm h)]
  · rfl
theorem putAt_len {ip : IP} {u : T} : (putAt env ip u).length = env.length := by
  unfold putAt
  split
  · rw [List.length_set]
  · rfl
theorem putsN_ne : ∀ {sl : List Nat} {us : List T} {env : List C} {j : Nat}, j ∉ sl → (putsN sl us env)[j]? = env[j]?
  | [], us, env, j, _ => by unfold putsN; rfl
  | i :: sl, [], env, j, _ => by unfold putsN; rfl
  | i :: sl, u :: us, env, j, h => by
    unfold putsN
    exact (putsN_ne fun z => h (List.mem_cons_of_mem _ z)).trans (putAt_ne fun z : j = i => h (z ▸ List.mem_cons_self))
theorem putsN_len : ∀ {sl : List Nat} {us : List T} {env : List C}, (putsN sl us env).length = env.length
  | [], us, env => by unfold putsN; rfl
  | i :: sl, [], env => by unfold putsN; rfl
  | i :: sl, u :: us, env => by
    unfold putsN
    rw [putsN_len, putAt_len]
theorem fpN_ne : ∀ {sl : List Nat} {ls : List (List Addr)} {fp : Nat → List Addr} {j : Nat}, j ∉ sl → fpN sl ls fp j = fp j
  | [], ls, fp, j, _ => by unfold fpN; rfl
  | i :: sl, [], fp, j, _ => by unfold fpN; rfl
  | i :: sl, l :: ls, fp, j, h => by
    unfold fpN
    exact (fpN_ne fun z => h (List.mem_cons_of_mem _ z)).trans (fset_ne fun z : j = i => h (z ▸ List.mem_cons_self))
theorem fpN_mem : ∀ {sl : List Nat} {ls : List (List Addr)} {fp : Nat → List Addr} {j : Nat}, sl.Nodup → sl.length = ls.length → j ∈ sl → fpN sl ls fp j ∈ ls
  | [], ls, fp, j, _, _, h => nomatch h
  | i :: sl, [], fp, j, _, e, _ => nomatch e
  | i :: sl, l :: ls, fp, j, nd, e, h => by
    unfold fpN
    rw [List.nodup_cons] at nd
    by_cases hj : j ∈ sl
    · exact List.mem_cons_of_mem _ (fpN_mem nd.2 (by simpa using e) hj)
    · have : j = i := (List.mem_cons.mp h).resolve_right hj
      subst this
      rw [fpN_ne hj, fset_at]; exact List.mem_cons_self
theorem fpN_dj : ∀ {sl : List Nat} {ls : List (List Addr)} {fp : Nat → List Addr} {j k : Nat} {b : Addr}, sl.Nodup → sl.length = ls.length → ls.flatten.Nodup → j ∈ sl → k ∈ sl → b ∈ fpN sl ls fp j → b ∈ fpN sl ls fp k → j = k
  | [], ls, fp, j, k, b, _, _, _, h, _, _, _ => nomatch h
  | i :: sl, [], fp, j, k, b, _, e, _, _, _, _, _ => nomatch e
  | i :: sl, l :: ls, fp, j, k, b, nd, e, nf, hj, hk, h1, h2 => by
    unfold fpN at h1 h2
    have nd' := nd
    rw [List.nodup_cons] at nd
    rw [List.flatten_cons, List.nodup_append] at nf
    have e' : sl.length = ls.length := by simpa using e
    by_cases gj : j ∈ sl
    · by_cases gk : k ∈ sl
      · exact fpN_dj nd.2 e' nf.2.1 gj gk h1 h2
      · have : k = i := (List.mem_cons.mp hk).resolve_right gk
        subst this
        rw [fpN_ne gk, fset_at] at h2
        exact (nf.2.2 b h2 b (List.mem_flatten.mpr ⟨_, fpN_mem nd.2 e' gj, h1⟩) rfl).elim
    · have : j = i := (List.mem_cons.mp hj).resolve_right gj
      subst this
      rw [fpN_ne gj, fset_at] at h1
      by_cases gk : k ∈ sl
      · exact (nf.2.2 b h1 b (List.mem_flatten.mpr ⟨_, fpN_mem nd.2 e' gk, h2⟩) rfl).elim
      · exact ((List.mem_cons.mp hk).resolve_right gk).symm
theorem MAs.post {ow : Option World} (h : MAs K env σ F ks sl vs us) : ∀ {us' : List T} {ls' : List (List Addr)} {ws : List (Addr × List Addr)} {fp0 : Nat → List Addr}, MU K ow H' F' ks vs us' ls' → W.EachIs (fun (x : Addr × List Addr) (l : List Addr) => ∀ b, b ∈ l → b ∈ x.2 ∨ H b = none) ws ls' → ws.map (·.2) = sl.map fp0 → sl.Nodup →
    sl.length = ls'.length ∧ ∀ (env1 : List C) (fp1 : Nat → List Addr), (∀ j, j ∈ sl → env1[j]? = env[j]?) → ∀ j, j ∈ sl → ∃ m s ts v u' l', env[j]? = some (.own m (.n s ts)) ∧ σ[j]? = some (some v) ∧ (putsN sl us' env1)[j]? = some (.own m u') ∧ fpN sl ls' fp1 j = l' ∧ OR K ow H' F' v u' l' ∧ ∀ b, b ∈ l' → b ∈ fp0 j ∨ H b = none := by
  induction h with
  | nil =>
    intro us' ls' ws fp0 mu sep e nd
    cases mu
    exact ⟨rfl, fun _ _ _ j hj => nomatch hj⟩
  | ro _ _ ih =>
    intro us' ls' ws fp0 mu sep e nd
    cases mu with
    | ro mu => exact ih mu sep e nd
  | @mu i m s ts v ks sl vs us e1 e2 _ ih =>
    intro us' ls' ws fp0 mu sep e nd
    rw [List.nodup_cons] at nd
    cases mu with
    | @mu a u l _ _ us2 ls2 r mu =>
      cases sep with
      | @cons x _ ws2 _ sp sep =>
        rw [List.map_cons, List.map_cons] at e
        injection e with ea eb
        obtain ⟨hl, go⟩ := ih mu sep eb nd.2
        refine ⟨by rw [List.length_cons, List.length_cons, hl], fun env1 fp1 he j hj => ?_⟩
        unfold putsN fpN
        have hi : env1[i]? = some (.own m (.n s ts)) := (he i List.mem_cons_self).trans e1
        by_cases gj : j ∈ sl
        · exact go _ _ (fun k hk => by
            have hne : k ≠ i := fun z => nd.1 (z ▸ hk)
            exact (putAt_ne hne).trans (he k (List.mem_cons_of_mem _ hk))) j gj
        · have : j = i := (List.mem_cons.mp hj).resolve_right gj
          subst this
          refine ⟨m, s, ts, _, u, l, e1, e2, ?_, ?_, r, fun b hb => ?_⟩
          · rw [putsN_ne gj]
            unfold putAt
            dsimp only
            rw [hi]
            exact List.getElem?_set_self (List.getElem?_eq_some_iff.mp hi).1
          · rw [fpN_ne gj, fset_at]
          · rw [← ea]; exact sp b hb
theorem Rel.calledN {r : T} {lr : List Addr} {v : V} (hw : G.w = some w) (R : Rel K G env σ H F fp) (ma : MAs K env σ F ks sl vs us) (nd : sl.Nodup) (hws : ws.map (·.2) = sl.map fp) (p : PostM K w ks vs H F ws H' F' us' ls' v r lr) :
    Rel K G (putsN sl us' env) σ H' F' (fpN sl ls' fp) ∧ New K G H' F' (fpN sl ls' fp) v r lr := by
  obtain ⟨hl, at1⟩ := ma.post p.mu p.sep hws nd
  have at1 := at1 env fp (fun _ _ => rfl)
  have hwa : ∀ b, b ∈ wAll ws ↔ ∃ i, i ∈ sl ∧ b ∈ fp i := fun b => by
    rw [wAll_map, hws, List.mem_flatten]
    constructor
    · intro ⟨l, h1, h2⟩
      obtain ⟨i, hi, rfl⟩ := List.mem_map.mp h1
      exact ⟨i, hi, h2⟩
    · intro ⟨i, h1, h2⟩
      exact ⟨_, List.mem_map.mpr ⟨i, h1, rfl⟩, h2⟩
  have ndl := p.nd
  rw [List.nodup_append] at ndl
  have al2 : ∀ b, H b ≠ none → H' b ≠ none := fun b hb => by
    by_cases hl : b ∈ wAll ws
    · exact p.al b hl
    · cases q : H b with
      | none => exact absurd q hb
      | some o => rw [p.keep b o hl q]; intro z; cases z
  have fn : ∀ j b, b ∈ fp j → F' b = none := fun j b hb => by
    cases q : F' b with
    | none => rfl
    | some o =>
      rcases p.nw b o q with z | z
      · rw [(R.own j b hb).1] at z; cases z
      · exact absurd z (R.own j b hb).2.1
  have fr : ∀ b, H b = none → (∀ j, b ∉ fp j) := fun b hb j hj => (R.own j b hj).2.1 hb
  have inl : ∀ j, j ∈ sl → ∀ b, b ∈ fpN sl ls' fp j → b ∈ ls'.flatten := fun j hj b hb => List.mem_flatten.mpr ⟨_, fpN_mem nd hl hj, hb⟩
  have sep : ∀ j, j ∈ sl → ∀ b, b ∈ fpN sl ls' fp j → b ∈ fp j ∨ H b = none := fun j hj b hb => by
    obtain ⟨m, s, ts, v', u', l', _, _, _, e4, _, e6⟩ := at1 j hj
    exact e6 b (e4 ▸ hb)
  refine ⟨?_, ⟨by rw [hw]; exact p.res, fun b hb => ⟨(p.new b hb).2.1, (p.new b hb).2.2, R.h0 (p.new b hb).1⟩, fun b hb j hj => ?_⟩⟩
  · exact {
      len := by rw [putsN_len]; exact R.len
      slot := fun j c ej => by
        by_cases hj : j ∈ sl
        · obtain ⟨m, s, ts, v', u', l', e1, e2, e3, e4, e5, e6⟩ := at1 j hj
          rw [e3] at ej; cases ej
          obtain ⟨v0, s1, _, s3⟩ := slot_own R e1
          rw [e2] at s1; cases s1
          refine ⟨v', by rw [e2]; rfl, by rw [hw, e4]; exact e5, fun jj hjj => ?_⟩
          obtain ⟨ra, rl, h1, h2, h3⟩ := s3 jj hjj
          refine ⟨ra, rl, h1, h2, fun b hb => ?_⟩
          rcases sep j hj b hb with z | z
          · exact h3 b z
          · exact .inr (R.h0 z)
        · rw [putsN_ne hj] at ej
          rw [fpN_ne hj]
          have q := R.slot j c ej
          have kk : ∀ b o, b ∈ fp j → H b = some o → H' b = some o := fun b o hb => p.keep b o fun hl => by
            obtain ⟨i, hi, hb'⟩ := (hwa b).mp hl
            exact hj (R.dj j i b hb hb' ▸ hi)
          have f := p.f
          cases c with
          | und => exact q
          | val d => obtain ⟨y1, w, y2, y3⟩ := q; exact ⟨y1, w, y2, DF_mono f _ _ y3⟩
          | brw d => exact q
          | lst ds => obtain ⟨b, vs, y1, y2, y3, y4⟩ := q; exact ⟨b, vs, y1, y2, kk _ _ (by rw [y1]; exact List.mem_singleton.mpr rfl) y3, DFAll_mono f _ _ y4⟩
          | dK ds => obtain ⟨b, vs, y1, y2, y3, y4⟩ := q; exact ⟨b, vs, y1, y2, kk _ _ (by rw [y1]; exact List.mem_singleton.mpr rfl) y3, y4.mono f⟩
          | dT ds => obtain ⟨b, vs, y1, y2, y3, y4⟩ := q; exact ⟨b, vs, y1, y2, kk _ _ (by rw [y1]; exact List.mem_singleton.mpr rfl) y3, y4.mono f⟩
          | dN ds => obtain ⟨b, w, xs, y1, y2, y5, y3, y4⟩ := q; exact ⟨b, w, xs, y1, y2, y5, kk _ _ (by rw [y1]; exact List.mem_singleton.mpr rfl) y3, y4.mono f⟩
          | pin _ => exact q
          | al j i => obtain ⟨q0, a, l, vs, v, q1, q2, q3⟩ := q; exact ⟨q0, a, l, vs, v, q1, f _ _ q2, q3⟩
          | ro b t2 => obtain ⟨y0, w, l, y1, y2, y3⟩ := q; exact ⟨y0, w, l, y1, OR_mono f _ _ _ (fun _ _ _ z => z) y2, fun hb a vs ha hk => f _ _ (y3 hb a vs ha hk)⟩
          | own m2 t2 => obtain ⟨w, y1, y2, y3⟩ := q; exact ⟨w, y1, OR_mono f _ _ _ kk y2, y3⟩
      dj := fun j k b h1 h2 => by
        by_cases hj : j ∈ sl
        · by_cases hk : k ∈ sl
          · exact fpN_dj nd hl ndl.1 hj hk h1 h2
          · rw [fpN_ne hk] at h2
            rcases sep j hj b h1 with z | z
            · exact R.dj j k b z h2
            · exact (fr b z k h2).elim
        · rw [fpN_ne hj] at h1
          by_cases hk : k ∈ sl
          · rcases sep k hk b h2 with z | z
            · exact R.dj j k b h1 z
            · exact (fr b z j h1).elim
          · rw [fpN_ne hk] at h2
            exact R.dj j k b h1 h2
      own := fun j b hb => by
        by_cases hj : j ∈ sl
        · obtain ⟨m, s, ts, v', u', l', e1, e2, e3, e4, e5, e6⟩ := at1 j hj
          obtain ⟨o1, o2⟩ := p.own b (inl j hj b hb)
          refine ⟨o1, o2, ?_⟩
          rcases sep j hj b hb with z | z
          · refine (R.own j b z).2.2.imp_right fun ⟨w1, c, w2, w3⟩ => ⟨w1, _, e3, ?_⟩
            rw [e1] at w2; cases w2
            cases m with
            | none => cases w3
            | some _ => rfl
          · exact .inl (R.h0 z)
        · rw [fpN_ne hj] at hb
          obtain ⟨g1, g2, g3⟩ := R.own j b hb
          exact ⟨fn j b hb, al2 b g2, by rw [putsN_ne hj]; exact g3⟩
      sub := p.sub
      new := fun a o q => by
        rcases p.nw a o q with z | z
        · exact R.new a o z
        · exact .inr (R.h0 z)
      old := R.old.trans p.f
      keep := fun a o q hW => p.keep a o (fun hl => by
        obtain ⟨i, hi, hb⟩ := (hwa a).mp hl
        rcases (R.own i a hb).2.2 with z | ⟨z, _⟩
        · rw [q] at z; cases z
        · exact hW z) (R.keep a o q hW)
      alive := fun a q => al2 a (R.alive a q) }
  · by_cases hjl : j ∈ sl
    · exact ndl.2.2 b (inl j hjl b hj) b hb rfl
    · rw [fpN_ne hjl] at hj
      exact fr b (p.new b hb).1 j hj
end
section
variable {X : Cx} {G : GC} {kr k k2 : RK} {e a b : Expr} {es : List Expr} {f : List C → Option D} {rs : List C → Option (List T)} {pos p : Pos} {n lv : Nat} {x : Str} {ks : List Bool} {sl : List Nat}
structure DMs (X : Cx) (G : GC) (es : List Expr) (ks : List Bool) (sl : List Nat) (rs : List C → Option (List T)) : Prop where
  ex : ∃ t, PA X es t ∧ ∀ (σ : L2.St) (H F : Hp) (fp : Nat → List Addr) (env : List C) (us : List T) (Q : List V → Hp → Prop), Rel X.K G env σ H F fp → rs env = some us →
    (∀ vs H' F', Ext H F H' F' → MAs X.K env σ F' ks sl vs us → Q vs H') → t σ H Q
def msMu (i : Nat) (rs : List C → Option (List T)) : List C → Option (List T) := fun env => match env[i]? with
  | some (.own _ (.n s ts)) => (rs env).map (.n s ts :: ·)
  | _ => none
def msRo (f : List C → Option D) (rs : List C → Option (List T)) : List C → Option (List T) := fun env => match f env with
  | some d => (rs env).map (.d d :: ·)
  | none => none
structure CalM (P : Program) (w : World) (K : PySem.W.Frag) (mg : Str → Option Value) (base : Heap) (k : Nat) (x : Str) (ks : List Bool) (g : List T → Option (List T × T)) : Prop where
  ex : ∃ (f : Addr) (fd : FuncData) (ps : List Str), FnOk P w K mg base CX0 k f fd ps (spM K w ks g) ∧ mg x = some (.ref f) ∧ PySem.W.keepIn K (.ref f) = true ∧ Binds K fd ps []
def xCallM (g : List T → Option (List T × T)) (sl : List Nat) (rs : List C → Option (List T)) : List C → Option (List C × T) := fun env => match rs env with
  | some us => (match g us with
    | some (us', y) => some (putsN sl us' env, y)
    | none => none)
  | none => none
def txCmp2 (g2 : D → D → Option D) (g gb : List C → Option (List C × T)) : List C → Option (List C × Bool) := fun env => match g env with
  | some (env1, .d x) => (match gb env1 with
    | some (env2, .d y) => (match g2 x y with | some (.bool b) => some (env2, b) | _ => none)
    | _ => none)
  | _ => none
end
end DL
namespace DL
open PySem PySem.Spec L2
def kOfD : D → Option Key
  | .int i => some (.inl i)
  | .str x => some (.inr x)
  | _ => none
def keyT : Key → D
  | .inl i => .int i
  | .inr x => .str x
def kkIx (k : Key) : List Key → Option Nat
  | [] => none
  | x :: r => if x = k then some 0 else (kkIx k r).map (· + 1)
def ksOf : Shp → Option (List Key)
  | .k ks => some ks
  | .kf ks => some ks
  | _ => none
def selKK (fk : List C → Option D) : List C → Shp → Nat → Option Nat := fun env s _ => match ksOf s, (fk env).bind kOfD with
  | some ks, some k => kkIx k ks
  | _, _ => none
def pKK (fk : List C → Option D) (g : List C → Option IP) : List C → Option IP := pChild g (selKK fk)
def rKK (fk : List C → Option D) (r : List C → Option T) : List C → Option T := rChild r (selKK fk)
section
variable {X : Cx} {G : GC} {kr k k2 : RK} {e ei ek o : Expr} {es : List Expr} {f fi fk fe : List C → Option D} {r : List C → Option T} {rs : List C → Option (List T)} {gp : List C → Option IP} {g : List C → Option (List C × T)} {fn : List C → Option T} {pos p1 p2 p3 pos' : Pos}
def trInK (fk : List C → Option D) (r : List C → Option T) : List C → Option Bool := fun env => match r env with
  | some (.n s _) => (match ksOf s, (fk env).bind kOfD with | some ks, some k => some (kkIx k ks).isSome | _, _ => none)
  | _ => none
def trNinK (fk : List C → Option D) (r : List C → Option T) : List C → Option Bool := fun env => (trInK fk r env).map (!·)
def DkOk (H : Hp) : Prop := ∀ a kvs, Rd H a (.dK kvs) → kvs.length ≤ sizeLine
def iKK (r : List C → Option T) : List C → Option (List D) := fun env => match r env with
  | some (.n (.kf ks) _) => some (ks.map keyT)
  | _ => none
def eListK (r : List C → Option T) : List C → Option D := fun env => match r env with
  | some (.n s _) => (ksOf s).map fun ks => .list (ks.map keyT)
  | _ => none
def eLenO (r : List C → Option T) : List C → Option D := fun env => match r env with
  | some (.n .l ts) => some (.int ts.length)
  | some (.n .lf ts) => some (.int ts.length)
  | _ => none
def sPutK (gp : List C → Option IP) (fk : List C → Option D) (g : List C → Option (List C × T)) : List C → Out := fun env => match g env with
  | some (env1, u) => (match gp env1 with
    | some ip => (match nodeAt env1 ip with
      | some (.n (.k ks) ts) => (match (fk env1).bind kOfD with
        | some k => if ts.length < 16000000 then (match kkIx k ks with | none => .nx (putAt env1 ip (.n (.k (ks ++ [k])) (ts ++ [u]))) | some _ => .err) else .err
        | none => .err)
      | _ => .err)
    | none => .err)
  | none => .err
end
end DL
namespace DL
open PySem PySem.Spec L2
def frzAt (p : List Nat) (u : T) : Option T := match T.sub p u with
  | some (.n .l ts) => some (T.put p u (.n .lf ts))
  | some (.n (.k ks) ts) => some (T.put p u (.n (.kf ks) ts))
  | _ => none
section
variable {K : PySem.W.Frag} {ow : Option World} {H F : Hp} {v0 : V} {t : T} {l : List Addr}
theorem lens_go : ∀ {p q : List Nat} {t' u : T} {v' : V} {l' : List Addr}, Lens K ow H F v0 t l q t' v' l' → T.sub q t = some t' → T.sub p t' = some u → ∃ v lu, Lens K ow H F v0 t l (q ++ p) u v lu
  | [], q, t', u, v', l', L, _, h => by cases h; rw [List.append_nil]; exact ⟨_, _, L⟩
  | j :: p, q, .d _, u, v', l', L, hq, h => by cases h
  | j :: p, q, .n s ts, u, v', l', L, hq, h => by
    unfold T.sub at h
    cases z : ts[j]? with
    | none => rw [z] at h; cases h
    | some t2 =>
      rw [z] at h
      obtain ⟨a, vs, own, w, lt, _, _, _, _, L2⟩ := L.child hq z
      have := lens_go (p := p) L2 (T.sub_snoc hq z) h
      rwa [List.append_assoc] at this
theorem lens_at {p : List Nat} {u : T} (h : OR K ow H F v0 t l) (e : T.sub p t = some u) : ∃ v lu, Lens K ow H F v0 t l p u v lu := by
  have := lens_go (p := p) (Lens.root h) rfl e
  rwa [List.nil_append] at this
end
def Lk (H : Hp) (Q : Hp → Prop) : Prop := Q H ∨ ∃ a kvs, H a = some (.dK kvs) ∧ ∀ od, Q (upd H a (.frz od (.dK kvs)))
theorem inv_lk {X : Cx} {pins : List (Addr × Obj)} {σ : L2.St} {H : Hp} {s : Shared} {Q : Hp → Prop} (I : Inv X pins σ H s) (h : Lk H Q) : ∃ H', Inv X pins σ H' s ∧ Q H' := by
  rcases h with h | ⟨a, kvs, e, h⟩
  · exact ⟨H, I, h⟩
  · obtain ⟨od, I1⟩ := I.lock e (by trivial)
    exact ⟨_, I1, h od⟩
theorem pss_lk {X : Cx} {sts : List Stmt} {t : TS} (h : PSs X sts t) : PSs X sts (fun D σ H => Lk H fun H1 => t D σ H1) := ⟨fun pins s σ H D I hq => by
  obtain ⟨H2, I2, q2⟩ := inv_lk I hq
  exact h.run pins s σ H2 D I2 q2⟩
theorem frz_lens {K : PySem.W.Frag} {ow : Option World} {H F : Hp} {v0 v : V} {t u' u : T} {l lu : List Addr} {p : List Nat} {s s' : Shp} {ts : List T} (L : Lens K ow H F v0 t l p (.n s ts) v lu) (sub : Same F H) (hf : ∀ b, b ∈ l → F b = none)
    (hs : (s = .l ∧ s' = .lf) ∨ ∃ ks, s = .k ks ∧ s' = .kf ks) {Q : Hp → Prop}
    (q : ∀ (H' F' : Hp) (a : Addr) (l' : List Addr), a ∈ lu → H a ≠ none → Same F F' → Same F' H' → (∀ b, b ≠ a → H' b = H b ∧ F' b = F b) → H' a ≠ none → OR K ow H' F' v (.n s' ts) l' → (∀ b, b ∈ l' → b ∈ lu ∧ b ≠ a) → Q H') : Lk H Q := by
  obtain ⟨rep, mem, _⟩ := L
  cases rep with
  | @n _ a vs _ own l0 n1 n2 n3 =>
    have go : ∀ (o o' : HO), H a = some o → own = [a] → NR K ow (upd H a o') (upd F a o') s' a vs [] → Q (upd H a o') := fun o o' ha ho nr => by
      subst ho
      have fa : F a = none := hf a (mem a (by simp))
      have na : ∀ b, b ∈ l0 → b ≠ a := fun b hb z => by
        rw [List.nodup_append] at n3
        exact n3.2.2 a (by simp) b hb z.symm
      have sF : Same F (upd F a o') := fun b x e => by
        rw [upd_ne (ne_of_none e fa)]; exact e
      refine q (upd H a o') (upd F a o') a ([] ++ l0) (by simp) (by rw [ha]; intro z; cases z) sF (fun b x e => ?_) (fun b hb => ⟨upd_ne hb, upd_ne hb⟩) (by rw [upd_same]; intro z; cases z) (.n nr (ORs_mono sF _ _ _ (fun b x hb e => by rw [upd_ne (na b hb)]; exact e) n2) (by rw [List.nodup_append] at n3; simpa using n3.2.1)) (fun b hb => ⟨by simp at hb; simp [hb], na b (by simpa using hb)⟩)
      by_cases hb : b = a
      · subst hb; rw [upd_same] at e ⊢; exact e
      · rw [upd_ne hb] at e ⊢; exact sub _ _ e
    rcases hs with ⟨rfl, rfl⟩ | ⟨ks, rfl, rfl⟩
    · left
      have := go (.lst vs) (.lst vs) n1.2 n1.1 ⟨rfl, upd_same⟩
      have e : upd H a (.lst vs) = H := by
        funext b
        by_cases hb : b = a
        · subst hb; rw [upd_same, n1.2]
        · rw [upd_ne hb]
      rwa [e] at this
    · obtain ⟨ho, hl, hH⟩ := n1
      exact .inr ⟨a, _, hH, fun od => go _ (.frz od (.dK (ks.zip vs))) hH ho ⟨rfl, hl, od, upd_same⟩⟩
theorem frzAt_of {p : List Nat} {u u' : T} (h : frzAt p u = some u') : ∃ s s' ts, T.sub p u = some (.n s ts) ∧ u' = T.put p u (.n s' ts) ∧ ((s = .l ∧ s' = .lf) ∨ ∃ ks, s = .k ks ∧ s' = .kf ks) := by
  unfold frzAt at h
  split at h
  · rename_i ts e; cases h; exact ⟨_, _, ts, e, rfl, .inl ⟨rfl, rfl⟩⟩
  · rename_i ks ts e; cases h; exact ⟨_, _, ts, e, rfl, .inr ⟨ks, rfl, rfl⟩⟩
  · cases h
section
variable {X : Cx} {G : GC} {kr : RK} {e : Expr} {fn : List C → Option T} {sts : List Stmt} {g : List C → Out} {gx : List C → Option (List C × T)}
def nFrz (p : List Nat) (f : List C → Option T) : List C → Option T := fun env => (f env).bind (frzAt p)
def sFrz (i : Nat) (p : List Nat) (g : List C → Out) : List C → Out := fun env => match env[i]? with
  | some (.own none t) => (match frzAt p t with | some t' => g (env.set i (.own none t')) | none => .err)
  | _ => .err
theorem dss_frz (i : Nat) (p : List Nat) (h : DSs X G kr sts g) : DSs X G kr sts (sFrz i p g) := by
  obtain ⟨t, pt, o⟩ := h.ex
  refine ⟨_, pss_lk pt, fun σ H F fp env E R q => ?_⟩
  unfold sFrz at q
  split at q
  rotate_left
  · exact q.elim
  rename_i t0 ei
  split at q
  rotate_left
  · exact q.elim
  rename_i t' et
  obtain ⟨s, s', ts, e1, rfl, hs⟩ := frzAt_of et
  obtain ⟨v0, s1, s2, _⟩ := slot_own R ei
  obtain ⟨v1, lu, L⟩ := lens_at s2 e1
  refine frz_lens (u := t0) (u' := t0) L R.sub (fun b hb => (R.own i b hb).1) hs fun H' F' a l1 al ha sF sub od hn r' hl => ?_
  have ma := L.mem a al
  have h0 : G.H0 a = none := by
    rcases (R.own i a ma).2.2 with z | ⟨_, c, e2, e3⟩
    · exact z
    · rw [ei] at e2; cases e2; cases e3
  have P : Place X.K G env σ H F fp (i, p) (.n s ts) v1 lu := ⟨none, t0, v0, ei, e1, s1, L⟩
  have al2 : ∀ b, H b ≠ none → H' b ≠ none := fun b hb => by
    by_cases z : b = a
    · subst z; exact hn
    · rw [(od b z).1]; exact hb
  obtain ⟨fp', R', _⟩ := R.write3 P sF sub (fun b o e => by
      by_cases z : b = a
      · subst z; exact .inr (.inr ⟨al, h0⟩)
      · rw [(od b z).2] at e; exact .inl e) (fun b o hb e => by rw [(od b (fun z => hb (z ▸ al))).1]; exact e) (fun b hb => al2 b (R.own i b (L.mem b hb)).2.1) r' (fun b hb => by
      obtain ⟨g1, g2⟩ := hl b hb
      obtain ⟨f1, f2, _⟩ := R.own i b (L.mem b g1)
      exact ⟨.inl g1, by rw [(od b g2).2]; exact f1, al2 b f2⟩)
  unfold putAt at R'
  dsimp only at R'
  rw [ei] at R'
  exact o σ H' F' fp' _ E R' (Post.mono sF q)
end
end DL
namespace DL
open PySem PySem.Spec L2
inductive MAp (K : PySem.W.Frag) (G : GC) (env : List C) (σ : L2.St) (H F : Hp) (fp : Nat → List Addr) (rd : List Nat) : List Bool → List IP → List V → List T → List (List Addr) → Prop
  | nil : MAp K G env σ H F fp rd [] [] [] [] []
  | ro {v : V} {u : T} {l : List Addr} {ks : List Bool} {ips : List IP} {vs : List V} {us : List T} {lus : List (List Addr)} : OR K G.w H F v u l → (∀ b, b ∈ l → ∃ j, j ∈ rd ∧ b ∈ fp j) → MAp K G env σ H F fp rd ks ips vs us lus → MAp K G env σ H F fp rd (false :: ks) ips (v :: vs) (u :: us) lus
  | mu {ip : IP} {s : Shp} {ts : List T} {a : Addr} {lu : List Addr} {ks : List Bool} {ips : List IP} {vs : List V} {us : List T} {lus : List (List Addr)} : Place K G env σ H F fp ip (.n s ts) (.ref a) lu → MAp K G env σ H F fp rd ks ips vs us lus → MAp K G env σ H F fp rd (true :: ks) (ip :: ips) (.ref a :: vs) (.n s ts :: us) (lu :: lus)
def putsP : List IP → List T → List C → List C
  | ip :: ips, u :: us, env => putsP ips us (putAt env ip u)
  | _, _, env => env
section
variable {K : PySem.W.Frag} {w : World} {G : GC} {env : List C} {σ : L2.St} {H F H' F' : Hp} {fp : Nat → List Addr} {rd : List Nat} {ks : List Bool} {ips : List IP} {vs : List V} {us us' : List T} {lus ls' : List (List Addr)}
theorem MAp.ext (E : Ext H F H' F') (h : MAp K G env σ H F fp rd ks ips vs us lus) : MAp K G env σ H' F' fp rd ks ips vs us lus := by
  induction h with
  | nil => exact .nil
  | ro h1 h2 _ ih => exact .ro (OR_mono E.f _ _ _ (fun b o _ => E.h b o) h1) h2 ih
  | mu P _ ih => exact .mu (P.ext E) ih
theorem MAp.mem (h : MAp K G env σ H F fp rd ks ips vs us lus) : ∀ b, b ∈ lus.flatten → ∃ ip, ip ∈ ips ∧ b ∈ fp ip.1 := by
  induction h with
  | nil => intro b hb; cases hb
  | ro _ _ _ ih => exact ih
  | mu P _ ih =>
    intro b hb
    rw [List.flatten_cons] at hb
    rcases List.mem_append.mp hb with z | z
    · exact ⟨_, List.mem_cons_self, P.mem z⟩
    · obtain ⟨ip, h1, h2⟩ := ih b z
      exact ⟨ip, List.mem_cons_of_mem _ h1, h2⟩
theorem MAp.ma (Kp : Hp) (h : MAp K G env σ H F fp rd ks ips vs us lus) (hk : ∀ b o, (∃ j, j ∈ rd ∧ b ∈ fp j) → H b = some o → Kp b = some o) : ∃ ws, MA K G.w Kp H F ks vs us ws ∧ ws.map (·.2) = lus := by
  induction h with
  | nil => exact ⟨[], .nil, rfl⟩
  | ro h1 h2 _ ih =>
    obtain ⟨ws, m, e⟩ := ih
    exact ⟨ws, .ro (OR_mono (Same.refl _) _ _ _ (fun b o hb => hk b o (h2 b hb)) h1) m, e⟩
  | @mu ip su tu a lu ks ips vs us lus P _ ih =>
    obtain ⟨ws, m, e⟩ := ih
    exact ⟨(a, lu) :: ws, .mu P.rep m, by rw [List.map_cons, e]⟩
theorem MAp.nd (R : Rel K G env σ H F fp) (h : MAp K G env σ H F fp rd ks ips vs us lus) (nd : (ips.map (·.1)).Nodup) : lus.flatten.Nodup := by
  induction h with
  | nil => exact List.nodup_nil
  | ro _ _ _ ih => exact ih nd
  | @mu ip su tu a lu ks ips vs us lus P h ih =>
    rw [List.map_cons, List.nodup_cons] at nd
    rw [List.flatten_cons, List.nodup_append]
    refine ⟨P.rep.nodup, ih nd.2, fun b hb c hc z => ?_⟩
    subst z
    obtain ⟨ip', h1, h2⟩ := h.mem b hc
    exact nd.1 (R.dj _ _ b (P.mem hb) h2 ▸ List.mem_map.mpr ⟨ip', h1, rfl⟩)
theorem MAp.mem2 (h : MAp K G env σ H F fp rd ks ips vs us lus) : ∀ b, b ∈ lus.flatten → ∃ ip lu, (ip, lu) ∈ ips.zip lus ∧ b ∈ lu ∧ b ∈ fp ip.1 := by
  induction h with
  | nil => intro b hb; cases hb
  | ro _ _ _ ih => exact ih
  | @mu ip su tu a lu ks ips vs us lus P _ ih =>
    intro b hb
    rw [List.flatten_cons] at hb
    rcases List.mem_append.mp hb with z | z
    · exact ⟨ip, lu, by simp, z, P.mem z⟩
    · obtain ⟨ip', lu', h1, h2⟩ := ih b z
      exact ⟨ip', lu', by simp [h1], h2⟩
theorem zip_one : ∀ {ips : List IP} {lus : List (List Addr)} {ip ip' : IP} {lu lu' : List Addr}, (ips.map (·.1)).Nodup → (ip, lu) ∈ ips.zip lus → (ip', lu') ∈ ips.zip lus → ip.1 = ip'.1 → lu = lu'
  | [], _, _, _, _, _, _, h, _, _ => by simp at h
  | _ :: _, [], _, _, _, _, _, h, _, _ => by simp at h
  | i0 :: ips, l0 :: lus, ip, ip', lu, lu', nd, h1, h2, e => by
    rw [List.map_cons, List.nodup_cons] at nd
    have mem : ∀ {ip : IP} {lu : List Addr}, (ip, lu) ∈ ips.zip lus → ip.1 ∈ ips.map (·.1) := fun h => List.mem_map.mpr ⟨_, (List.of_mem_zip h).1, rfl⟩
    rw [List.zip_cons_cons, List.mem_cons] at h1 h2
    rcases h1 with h1 | h1
    · cases h1
      rcases h2 with h2 | h2
      · cases h2; rfl
      · exact absurd (e ▸ mem h2) nd.1
    · rcases h2 with h2 | h2
      · cases h2; exact absurd (e ▸ mem h1) nd.1
      · exact zip_one nd.2 h1 h2 e
theorem putAt_other {ip : IP} {u : T} {j : Nat} (h : j ≠ ip.1) : (putAt env ip u)[j]? = env[j]? := by
  unfold putAt
  split
  · rw [List.getElem?_set_ne (Ne.symm h)]
  · rfl
inductive RootsP (K : PySem.W.Frag) (ow : Option World) (env : List C) (σ : L2.St) (H H' F F' : Hp) (fp : Nat → List Addr) : List IP → List (List Addr) → List T → List (List Addr) → List Bool → List V → List T → List T → List (List Addr) → List (Addr × List Addr) → Prop
  | nil : RootsP K ow env σ H H' F F' fp [] [] [] [] [] [] [] [] [] []
  | cons {ip : IP} {m : Option Nat} {s : Shp} {ts : List T} {a : Addr} {u' : T} {lu l' l2 : List Addr} {ips : List IP} {lus ls' ls2 : List (List Addr)} {us' us0 us2 : List T} {ks0 : List Bool} {vs0 : List V} {ws : List (Addr × List Addr)} :
    env[ip.1]? = some (.own m (.n s ts)) → σ[ip.1]? = some (some (.ref a)) → OR K ow H' F' (.ref a) (T.put ip.2 (.n s ts) u') l2 → (∀ b, b ∈ l2 → (b ∈ fp ip.1 ∧ b ∉ lu) ∨ b ∈ l') → (∀ b, b ∈ l' → b ∈ lu ∨ H b = none) → (∀ b, b ∈ lu → b ∈ fp ip.1) →
    RootsP K ow env σ H H' F F' fp ips lus us' ls' ks0 vs0 us0 us2 ls2 ws → RootsP K ow env σ H H' F F' fp (ip :: ips) (lu :: lus) (u' :: us') (l' :: ls') (true :: ks0) (.ref a :: vs0) (.n s ts :: us0) (T.put ip.2 (.n s ts) u' :: us2) (l2 :: ls2) ((a, fp ip.1) :: ws)
variable {us0 us2 : List T} {ls2 : List (List Addr)} {ks0 : List Bool} {vs0 : List V} {ws ws0 : List (Addr × List Addr)} {ow : Option World}
theorem MAp.roots (R : Rel K G env σ H F fp) (sF : Same F F') (Wl : List Addr) (hk : ∀ b o, b ∉ Wl → H b = some o → H' b = some o) (hW : ∀ b, b ∈ Wl → b ∈ lus.flatten) (h : MAp K G env σ H F fp rd ks ips vs us lus) (nd : (ips.map (·.1)).Nodup) :
    ∀ {us' : List T} {ls' : List (List Addr)} {ws : List (Addr × List Addr)}, MU K G.w H' F' ks vs us' ls' → W.EachIs (fun (x : Addr × List Addr) (l : List Addr) => ∀ b, b ∈ l → b ∈ x.2 ∨ H b = none) ws ls' → ws.map (·.2) = lus →
      ∃ ks0 vs0 us0 us2 ls2 ws0, RootsP K G.w env σ H H' F F' fp ips lus us' ls' ks0 vs0 us0 us2 ls2 ws0 := by
  have go : ∀ {ks : List Bool} {ips : List IP} {vs : List V} {us : List T} {lus' : List (List Addr)}, MAp K G env σ H F fp rd ks ips vs us lus' → (∀ ip lu, (ip, lu) ∈ ips.zip lus' → ∀ b, b ∈ fp ip.1 → b ∉ lu → b ∉ Wl) → ∀ {us' : List T} {ls' : List (List Addr)} {ws : List (Addr × List Addr)}, MU K G.w H' F' ks vs us' ls' → W.EachIs (fun (x : Addr × List Addr) (l : List Addr) => ∀ b, b ∈ l → b ∈ x.2 ∨ H b = none) ws ls' → ws.map (·.2) = lus' →
      ∃ ks0 vs0 us0 us2 ls2 ws0, RootsP K G.w env σ H H' F F' fp ips lus' us' ls' ks0 vs0 us0 us2 ls2 ws0 := by
    intro ks ips vs us lus' h
    induction h with
    | nil =>
      intro _ us' ls' ws mu _ _
      cases mu
      exact ⟨[], [], [], [], [], [], .nil⟩
    | ro _ _ _ ih =>
      intro hd us' ls' ws mu sp e
      cases mu with
      | ro mu => exact ih hd mu sp e
    | @mu ip su tu a lu ks ips vs us lus P _ ih =>
      intro hd us' ls' ws mu sp e
      cases mu with
      | @mu _ u' l' _ _ us1 ls1 r' mu =>
        cases sp with
        | @cons x _ ws1 _ s1 sp =>
          rw [List.map_cons] at e
          injection e with e1 e2
          obtain ⟨ks0, vs0, us0, us2, ls2, ws0, ih⟩ := ih (fun ip lu hm => hd ip lu (by simp [hm])) mu sp e2
          obtain ⟨m, t, v0, h1, h2, h3, L⟩ := P.ex
          have s1' : ∀ b, b ∈ l' → b ∈ lu ∨ H b = none := fun b hb => by rw [← e1]; exact s1 b hb
          obtain ⟨l2, r2, m2⟩ := L.upd H' F' u' l' sF (fun b o hb hn => hk b o (hd ip lu (by simp) b hb hn)) r' (fun b hb => (s1' b hb).imp_right fun z hm => (R.own ip.1 b hm).2.1 z)
          have tn : ∃ s ts b, t = .n s ts ∧ v0 = .ref b := by
            obtain ⟨vr, q1, q2, _⟩ := slot_own R h1
            rw [h3] at q1; cases q1
            cases t with
            | d x =>
              cases hp : ip.2 with
              | nil => rw [hp] at h2; cases h2
              | cons j p => rw [hp] at h2; cases h2
            | n s ts =>
              generalize fp ip.1 = l0 at q2
              cases q2 with
              | n _ _ _ => exact ⟨_, _, _, rfl, rfl⟩
          obtain ⟨s, ts, b0, rfl, rfl⟩ := tn
          exact ⟨_, _, _, _, _, _, .cons h1 h3 r2 m2 s1' L.mem ih⟩
  intro us' ls' ws mu sp e
  refine go h (fun ip lu hm b hb hn hW' => ?_) mu sp e
  obtain ⟨ip', lu', h1, h2, h3⟩ := h.mem2 b (hW b hW')
  exact hn (zip_one nd h1 hm (R.dj _ _ b h3 hb) ▸ h2)
theorem RootsP.mas (h : RootsP K ow env σ H H' F F' fp ips lus us' ls' ks0 vs0 us0 us2 ls2 ws0) : MAs K env σ F ks0 (ips.map (·.1)) vs0 us0 ∧ ws0.map (·.2) = (ips.map (·.1)).map fp ∧ MU K ow H' F' ks0 vs0 us2 ls2 := by
  induction h with
  | nil => exact ⟨.nil, rfl, .nil⟩
  | cons e1 e2 r _ _ _ _ ih =>
    obtain ⟨h1, h2, h3⟩ := ih
    exact ⟨.mu e1 e2 h1, by rw [List.map_cons, List.map_cons, List.map_cons, h2], .mu r h3⟩
theorem RootsP.sep (h : RootsP K ow env σ H H' F F' fp ips lus us' ls' ks0 vs0 us0 us2 ls2 ws0) : W.EachIs (fun (x : Addr × List Addr) (l : List Addr) => ∀ b, b ∈ l → b ∈ x.2 ∨ H b = none) ws0 ls2 := by
  induction h with
  | nil => exact .nil
  | cons _ _ _ m s k _ ih =>
    refine .cons (fun b hb => ?_) ih
    rcases m b hb with z | z
    · exact .inl z.1
    · exact (s b z).imp_left (k b)
theorem RootsP.puts (h : RootsP K ow env σ H H' F F' fp ips lus us' ls' ks0 vs0 us0 us2 ls2 ws0) (nd : (ips.map (·.1)).Nodup) : ∀ env2 : List C, (∀ j, j ∈ ips.map (·.1) → env2[j]? = env[j]?) → putsN (ips.map (·.1)) us2 env2 = putsP ips us' env2 := by
  induction h with
  | nil => intro _ _; rfl
  | @cons ip m s ts a u' lu l' l2 ips lus ls' ls2 us' us0 us2 ks0 vs0 ws e1 e2 r m2 s2 k _ ih =>
    intro env2 h2
    rw [List.map_cons, List.nodup_cons] at nd
    have e3 := (h2 ip.1 (by simp)).trans e1
    have e4 : putAt env2 (ip.1, []) (T.put ip.2 (.n s ts) u') = putAt env2 ip u' := by
      unfold putAt
      dsimp only
      rw [e3]
      rfl
    show putsN _ us2 (putAt env2 (ip.1, []) (T.put ip.2 (.n s ts) u')) = putsP ips us' (putAt env2 ip u')
    rw [e4]
    refine ih nd.2 _ fun j hj => ?_
    rw [putAt_other (fun z => nd.1 (z ▸ hj))]
    exact h2 j (by simp [hj])
theorem RootsP.from (h : RootsP K ow env σ H H' F F' fp ips lus us' ls' ks0 vs0 us0 us2 ls2 ws0) : ∀ b, b ∈ ls2.flatten → (∃ ip lu, (ip, lu) ∈ ips.zip lus ∧ b ∈ fp ip.1 ∧ b ∉ lu) ∨ b ∈ ls'.flatten := by
  induction h with
  | nil => intro b hb; cases hb
  | @cons ip m s ts a u' lu l' l2 ips lus ls' ls2 us' us0 us2 ks0 vs0 ws e1 e2 r m2 s2 k _ ih =>
    intro b hb
    rw [List.flatten_cons] at hb
    rcases List.mem_append.mp hb with z | z
    · rcases m2 b z with y | y
      · exact .inl ⟨ip, lu, by simp, y⟩
      · exact .inr (by simp [y])
    · rcases ih b z with ⟨ip', lu', y1, y2⟩ | y
      · exact .inl ⟨ip', lu', by simp [y1], y2⟩
      · exact .inr (by simp only [List.flatten_cons, List.mem_append]; exact .inr y)
theorem RootsP.nd (R : Rel K G env σ H F fp) (h : RootsP K ow env σ H H' F F' fp ips lus us' ls' ks0 vs0 us0 us2 ls2 ws0) (hn : (ips.map (·.1)).Nodup) (hl : ls'.flatten.Nodup) : ls2.flatten.Nodup := by
  induction h with
  | nil => exact List.nodup_nil
  | @cons ip m s ts a u' lu l' l2 ips lus ls' ls2 us' us0 us2 ks0 vs0 ws e1 e2 r m2 s2 k hr ih =>
    rw [List.map_cons, List.nodup_cons] at hn
    rw [List.flatten_cons, List.nodup_append] at hl
    rw [List.flatten_cons, List.nodup_append]
    refine ⟨r.nodup, ih hn.2 hl.2.1, fun b hb c hc z => ?_⟩
    subst z
    have i1 : b ∈ l' → b ∈ fp ip.1 ∨ H b = none := fun y => (s2 b y).imp_left (k b)
    have rest : (∃ ip', ip' ∈ ips ∧ b ∈ fp ip'.1) ∨ (H b = none ∧ b ∈ ls'.flatten) ∨ (b ∈ ls'.flatten) := by
      rcases hr.from b hc with ⟨ip', lu', y1, y2, _⟩ | y
      · exact .inl ⟨ip', (List.of_mem_zip y1).1, y2⟩
      · exact .inr (.inr y)
    have far : ∀ ip', ip' ∈ ips → b ∈ fp ip'.1 → b ∈ fp ip.1 → False := fun ip' h1 h2 h3 => hn.1 (List.mem_map.mpr ⟨ip', h1, R.dj _ _ b h2 h3⟩)
    have inls : ∀ {ips : List IP} {lus ls' : List (List Addr)} {us' us0 us2 : List T} {ls2 : List (List Addr)} {ks0 : List Bool} {vs0 : List V} {ws : List (Addr × List Addr)}, RootsP K ow env σ H H' F F' fp ips lus us' ls' ks0 vs0 us0 us2 ls2 ws → b ∈ ls'.flatten → (∃ ip', ip' ∈ ips ∧ b ∈ fp ip'.1) ∨ H b = none := by
      intro ips lus ls' us' us0 us2 ls2 ks0 vs0 ws h
      induction h with
      | nil => intro hb; cases hb
      | @cons ip1 _ _ _ _ _ lu1 l1 _ _ _ _ _ _ _ _ _ _ _ _ _ _ _ s3 k3 _ ih2 =>
        intro hb
        rw [List.flatten_cons] at hb
        rcases List.mem_append.mp hb with z | z
        · rcases s3 b z with y | y
          · exact .inl ⟨ip1, by simp, k3 b y⟩
          · exact .inr y
        · rcases ih2 z with ⟨ip', y1, y2⟩ | y
          · exact .inl ⟨ip', by simp [y1], y2⟩
          · exact .inr y
    rcases m2 b hb with y | y
    · have hne := (R.own ip.1 b y.1).2.1
      rcases hr.from b hc with ⟨ip', lu', y1, y2, _⟩ | y3
      · exact far ip' (List.of_mem_zip y1).1 y2 y.1
      · rcases inls hr y3 with ⟨ip', z1, z2⟩ | z
        · exact far ip' z1 z2 y.1
        · exact hne z
    · rcases hr.from b hc with ⟨ip', lu', y1, y2, _⟩ | y3
      · rcases i1 y with z | z
        · exact far ip' (List.of_mem_zip y1).1 y2 z
        · exact (R.own ip'.1 b y2).2.1 z
      · exact hl.2.2 b y b y3 rfl
theorem Rel.calledP {r : T} {lr : List Addr} {v : V} (hw : G.w = some w) (R : Rel K G env σ H F fp) (ma : MAp K G env σ H F fp rd ks ips vs us lus) (nd : (ips.map (·.1)).Nodup) (hws : ws.map (·.2) = lus) (p : PostM K w ks vs H F ws H' F' us' ls' v r lr) :
    ∃ fp', Rel K G (putsP ips us' env) σ H' F' fp' ∧ New K G H' F' fp' v r lr := by
  have hW : ∀ b, b ∈ wAll ws → b ∈ lus.flatten := fun b hb => by rw [wAll_map, hws] at hb; exact hb
  have pmu := p.mu
  rw [← hw] at pmu
  obtain ⟨ks0, vs0, us0, us2, ls2, ws0, rt⟩ := ma.roots R p.f (wAll ws) p.keep hW nd pmu p.sep hws
  obtain ⟨m1, m2, m3⟩ := rt.mas
  rw [hw] at m3
  have w0 : ∀ b, b ∈ wAll ws → b ∈ wAll ws0 := fun b hb => by
    obtain ⟨ip, h1, h2⟩ := ma.mem b (hW b hb)
    rw [wAll_map, m2]
    exact List.mem_flatten.mpr ⟨_, List.mem_map.mpr ⟨_, List.mem_map.mpr ⟨ip, h1, rfl⟩, rfl⟩, h2⟩
  have w1 : ∀ b, b ∈ wAll ws0 → ∃ i, b ∈ fp i := fun b hb => by
    rw [wAll_map, m2] at hb
    obtain ⟨l, h1, h2⟩ := List.mem_flatten.mp hb
    obtain ⟨i, _, rfl⟩ := List.mem_map.mp h1
    exact ⟨i, h2⟩
  have al : ∀ b, H b ≠ none → H' b ≠ none := fun b hb => by
    by_cases z : b ∈ wAll ws
    · exact p.al b z
    · cases q : H b with
      | none => exact absurd q hb
      | some o => rw [p.keep b o z q]; intro y; cases y
  have fpF : ∀ i b, b ∈ fp i → F' b = none := fun i b hb => by
    cases q : F' b with
    | none => rfl
    | some o =>
      rcases p.nw b o q with z | z
      · rw [(R.own i b hb).1] at z; cases z
      · exact absurd z (R.own i b hb).2.1
  have ndl := p.nd
  rw [List.nodup_append] at ndl
  have p0 : PostM K w ks0 vs0 H F ws0 H' F' us2 ls2 v r lr := {
    f := p.f
    sub := p.sub
    nw := p.nw
    keep := fun b o hb => p.keep b o fun z => hb (w0 b z)
    al := fun b hb => let ⟨i, hi⟩ := w1 b hb; al b (R.own i b hi).2.1
    mu := m3
    sep := rt.sep
    own := fun b hb => by
      rcases rt.from b hb with ⟨ip, lu, _, h2, _⟩ | z
      · exact ⟨fpF _ b h2, al b (R.own _ b h2).2.1⟩
      · exact p.own b z
    nd := by
      rw [List.nodup_append]
      refine ⟨rt.nd R nd ndl.1, ndl.2.1, fun b hb c hc z => ?_⟩
      subst z
      rcases rt.from b hb with ⟨ip, lu, _, h2, _⟩ | z
      · exact (R.own _ b h2).2.1 (p.new b hc).1
      · exact ndl.2.2 b z b hc rfl
    res := p.res
    new := p.new }
  obtain ⟨R', n'⟩ := R.calledN hw m1 nd m2 p0
  rw [rt.puts nd env fun _ _ => rfl] at R'
  exact ⟨_, R', n'⟩
end
end DL
namespace DL
open PySem PySem.Spec L2
section
variable {X : Cx} {G : GC} {kr k : RK} {e : Expr} {es : List Expr} {fe : List C → Option D} {gp : List C → Option IP} {pos p p1 p2 : Pos} {x y : Str} {sts body : List Stmt} {fb g : List C → Out}
def pAl (s v : Nat) : List C → Option IP := fun env => match env[v]?, env[s]? with
  | some (.al j i), some (.own (some j') (.n .lf ts)) => if j = j' ∧ i < ts.length then some (s, [i]) else none
  | _, _ => none
def rPl (gp : List C → Option IP) : List C → Option T := fun env => (gp env).bind (nodeAt env)
def sAl (s v : Nat) (fi : List C → Option D) : List C → Out := fun env => match env[s]? with
  | some (.own (some j) (.n .lf ts)) => (match fi env with | some (.int i) => (match ixN ts.length i with | some n => .nx (env.set v (.al j n)) | none => .err) | _ => .err)
  | _ => .err
def forL (v j : Nat) (b : List C → Out) : List Nat → List C → Out
  | [], env => .nx env
  | i :: r, env => match b (env.set v (.al j i)) with
    | .nx e => forL v j b r e
    | .ct e => forL v j b r e
    | .bk e => .nx e
    | .rt d => .rt d
    | .err => .err
    | .rx e t => .rx e t
    | .xc e x => .xc e x
def sForL (s v : Nat) (fb : List C → Out) : List C → Out := fun env => match env[s]? with
  | some (.own (some j) (.n .lf ts)) => forL v j fb (List.range ts.length) env
  | _ => .err
def noPinC : C → Bool
  | .own (some _) _ => false
  | .pin _ => false
  | .al _ _ => false
  | _ => true
def onlyRt : Out → Out
  | .rt d => .rt d
  | _ => .err
def sPin (s : Nat) (g : List C → Out) : List C → Out := fun env => match env[s]? with
  | some (.own none (.n .lf ts)) => if env.all noPinC = true then onlyRt (g (env.set s (.own (some 0) (.n .lf ts)))) else .err
  | _ => .err
structure DMp (X : Cx) (G : GC) (es : List Expr) (ks : List Bool) (rd : List Nat) (rs : List C → Option (List IP × List T)) : Prop where
  ex : ∃ t, PA X es t ∧ ∀ (σ : L2.St) (H F : Hp) (fp : Nat → List Addr) (env : List C) (ips : List IP) (us : List T) (Q : List V → Hp → Prop), Rel X.K G env σ H F fp → rs env = some (ips, us) →
    (∀ vs lus H' F', Ext H F H' F' → MAp X.K G env σ H' F' fp rd ks ips vs us lus → Q vs H') → t σ H Q
def mpNil : List C → Option (List IP × List T) := fun _ => some ([], [])
def mpRo (f : List C → Option D) (rs : List C → Option (List IP × List T)) : List C → Option (List IP × List T) := fun env => match f env with
  | some d => (rs env).map fun r => (r.1, .d d :: r.2)
  | none => none
def mpRd (i : Nat) (rs : List C → Option (List IP × List T)) : List C → Option (List IP × List T) := fun env => match env[i]? with
  | some (.own _ t) => (rs env).map fun r => (r.1, t :: r.2)
  | _ => none
def mpMu (gp : List C → Option IP) (rs : List C → Option (List IP × List T)) : List C → Option (List IP × List T) := fun env => match gp env with
  | some ip => (match nodeAt env ip with | some (.n s ts) => (rs env).map fun r => (ip :: r.1, .n s ts :: r.2) | _ => none)
  | none => none
variable {ks : List Bool} {rd : List Nat} {rs : List C → Option (List IP × List T)} {f : List C → Option D}
theorem dmp_nil : DMp X G [] [] [] mpNil := ⟨_, pa_nil, fun σ H F fp env ips us Q R hf q => by cases hf; exact q [] [] H F (Ext.refl R.sub) .nil⟩
theorem dmp_ro (h : DE X G k e f) (ht : DMp X G es ks rd rs) (hk : k.le .fz = true := by rfl) (hs : starEach (e :: es) X.env = (false, eval e X.env) :: starEach es X.env := by rfl) : DMp X G (e :: es) (false :: ks) rd (mpRo f rs) := by
  obtain ⟨t, pt, o⟩ := (h.conv hk).ex
  obtain ⟨t2, pt2, o2⟩ := ht.ex
  refine ⟨_, pa_cons pt pt2 hs, fun σ H F fp env ips us Q R hf q => ?_⟩
  unfold mpRo at hf
  split at hf
  · rename_i d z
    cases z2 : rs env with
    | none => rw [z2] at hf; cases hf
    | some r2 =>
      rw [z2] at hf; cases hf
      refine o σ H F fp env d _ R z fun v H1 F1 E1 r => ?_
      refine o2 σ H1 F1 fp env r2.1 r2.2 _ (R.ext E1) z2 fun vs lus H2 F2 E2 m => ?_
      exact q (v :: vs) lus H2 F2 (E1.trans E2) (.ro (l := []) (.d (DF_mono E2.f _ _ r)) (fun _ m => nomatch m) m)
  · cases hf
def okP (ips : List IP) (rd : List Nat) : Bool := decide ((ips.map (·.1)).Nodup ∧ ∀ r, r ∈ rd → r ∉ ips.map (·.1))
def xCallP (g : List T → Option (List T × T)) (rd : List Nat) (rs : List C → Option (List IP × List T)) : List C → Option (List C × T) := fun env => match rs env with
  | some (ips, us) => if okP ips rd = true then (match g us with | some (us', y) => some (putsP ips us' env, y) | none => none) else none
  | none => none
theorem MAp.spM {K : PySem.W.Frag} {w : World} {env : List C} {σ : L2.St} {H F : Hp} {fp : Nat → List Addr} {ips : List IP} {vs : List V} {us : List T} {lus : List (List Addr)} (hw : G.w = some w) (R : Rel K G env σ H F fp) (ma : MAp K G env σ H F fp rd ks ips vs us lus) (ok : okP ips rd = true) :
    ∃ ws, MA K (some w) (cut H (wAll ws)) H F ks vs us ws ∧ (wAll ws).Nodup ∧ (∀ b, b ∈ wAll ws → F b = none ∧ H b ≠ none) ∧ ws.map (·.2) = lus := by
  have ok := of_decide_eq_true ok
  obtain ⟨nd, hr⟩ := ok
  have eW : ∀ ws : List (Addr × List Addr), ws.map (·.2) = lus → wAll ws = lus.flatten := fun ws e => by rw [wAll_map, e]
  obtain ⟨ws, m, e⟩ := ma.ma (cut H lus.flatten) (fun b o ⟨j, hj, hb⟩ h => by
    unfold cut
    rw [if_neg (fun z => ?_)]
    · exact h
    · obtain ⟨ip, h1, h2⟩ := ma.mem b z
      exact hr j hj (R.dj _ _ b h2 hb ▸ List.mem_map.mpr ⟨ip, h1, rfl⟩))
  rw [hw] at m
  refine ⟨ws, by rw [eW ws e]; exact m, by rw [eW ws e]; exact ma.nd R nd, fun b hb => ?_, e⟩
  rw [eW ws e] at hb
  obtain ⟨ip, h1, h2⟩ := ma.mem b hb
  exact ⟨(R.own _ b h2).1, (R.own _ b h2).2.1⟩
end
end DL
namespace DL
open PySem PySem.Spec L2
inductive Rz where
  | ok (us : List T) (r : T) | ex (us : List T) (x : XD)
def spMX (K : PySem.W.Frag) (w : World) (ks : List Bool) (g : List T → Option Rz) : Sp := fun vs H Q E => ∃ (F0 : Hp) (us : List T) (ws : List (Addr × List Addr)), Same F0 H ∧ MA K (some w) (cut H (wAll ws)) H F0 ks vs us ws ∧ (wAll ws).Nodup ∧ (∀ b, b ∈ wAll ws → F0 b = none ∧ H b ≠ none) ∧
  match g us with
  | some (.ok us' r) => ∀ v H' F' ls' lr, PostM K w ks vs H F0 ws H' F' us' ls' v r lr → Q v H'
  | some (.ex us' x) => ∀ cls d H' F' ls' lr, XC K x.c cls → PostM K w ks vs H F0 ws H' F' us' ls' (vX d) (XT x) lr → E cls d H'
  | none => False
def outMX (ks : List Bool) : Out → Option Rz
  | .rx env r => (collectM ks 0 0 env).map fun us => .ok us r
  | .nx env => (collectM ks 0 0 env).map fun us => .ok us (.d .none)
  | .xc env x => (collectM ks 0 0 env).map fun us => .ex us x
  | _ => none
def runMX (ks : List Bool) (N : Nat) (body : List C → Out) : List T → Option Rz := fun us => outMX ks (body (cellsM ks 0 us ++ List.replicate (N - us.length) .und))
def WS (X : Cx) : WX := fun cls d σ H => ∃ W : WX, Takes X W ∧ W cls d σ H
theorem takes_all {X : Cx} : Takes X (WS X) := fun u s' ⟨a, B, sI, pins, σ, H, cls, d, e, I, nb, up, sky, na, os, ag, W, tk, w⟩ => tk u s' ⟨a, B, sI, pins, σ, H, cls, d, e, I, nb, up, sky, na, os, ag, w⟩
section
variable {P : Program} {w : World} {K : PySem.W.Frag} {mg : Str → Option Value} {base : Heap}
theorem fn_muX {x qual : Str} {st : Stmt} {f : Addr} {fd : FuncData} {N ps : List Str} {k : Nat} {ks : List Bool} {body : List C → Out} (F : Fun K x qual st f fd) (S : FnScope N ps (defScope st)) (hl : ks.length = ps.length)
    (hbody : ∀ (cdv : Value) (A : Around) (outer : List Env) (s : Shared) (H : Hp) (E : XK) (G : GC), Room k (A.deeper (PyProof.Rows.envOfC qual (defScope st) s.heap.objs.size f cdv)) → G.w = some w →
      DSs (cxOf (L2.CX P w) P w K mg base N qual (defScope st) f cdv A outer s H E) G .fz (defBody st) body) : FnOk P w K mg base (L2.CX P w) (k + 1) f fd ps (spMX K w ks (runMX ks N.length body)) := by
  refine F.okX S (fun vs H Q E h => ?_) (fun cdv A outer s H vs Q E hr h => ?_)
  · obtain ⟨F0, us, ws, sub, m, _⟩ := h
    rw [m.len.1, hl]
  · obtain ⟨F0, us, ws, sub, m, nd, al, hg⟩ := h
    obtain ⟨t, pt, o⟩ := (hbody cdv A outer s H E ⟨H, F0, ws, some w⟩ hr rfl).ex
    refine ⟨t, pt, o _ H F0 _ _ _ (rel_startM (N := N) sub m nd al) ?_⟩
    have fin : ∀ (env' : List C) (σ' : L2.St) (H' F' : Hp) (fp' : Nat → List Addr) (v : V) (r : T) (lr : List Addr) (us' : List T), Rel K ⟨H, F0, ws, some w⟩ env' σ' H' F' fp' → New K ⟨H, F0, ws, some w⟩ H' F' fp' v r lr → collectM ks 0 0 env' = some us' →
        ∃ ls', PostM K w ks vs H F0 ws H' F' us' ls' v r lr := fun env' σ' H' F' fp' v r lr us' R n hc => by
      obtain ⟨e1, e2⟩ := m.exit R 0 0 us' (fun k x e => by rw [Nat.zero_add]; exact e) hc
      have inF : ∀ b, b ∈ ((muSlots ks 0).map fp').flatten → ∃ i, b ∈ fp' i := fun b hb => by
        obtain ⟨l, hl, hb⟩ := List.mem_flatten.mp hb
        obtain ⟨i, _, rfl⟩ := List.mem_map.mp hl
        exact ⟨i, hb⟩
      refine ⟨_, { f := R.old, sub := R.sub, nw := R.new, keep := fun b o hb e => R.keep b o e hb, al := fun b hb => R.alive b (al b hb).2, mu := e1, sep := e2, own := fun b hb => ?_, nd := ?_, res := n.rep, new := fun b hb => ⟨(n.own b hb).2.2, (n.own b hb).1, (n.own b hb).2.1⟩ }⟩
      · obtain ⟨i, hi⟩ := inF b hb
        exact ⟨(R.own i b hi).1, (R.own i b hi).2.1⟩
      · rw [List.nodup_append]
        refine ⟨slots_nd R e1 _ (muSlots_nd ks 0) (fun i hi => e1.nodup _ (List.mem_map.mpr ⟨i, hi, rfl⟩)), n.rep.nodup, fun a ha b hb e => ?_⟩
        subst e
        obtain ⟨i, hi⟩ := inF a ha
        exact n.dj a hb i hi
    unfold runMX outMX at hg
    revert hg
    cases body (cellsM ks 0 us ++ List.replicate (N.length - us.length) .und) with
    | rx env' r =>
      intro hg
      dsimp only at hg
      cases z : collectM ks 0 0 env' with
      | none => rw [z] at hg; exact hg.elim
      | some us2 =>
        rw [z] at hg
        exact fun v σ' H' F' fp' l R n => let ⟨ls', p⟩ := fin env' σ' H' F' fp' v r l us2 R n z; hg v H' F' ls' l p
    | nx env' =>
      intro hg
      dsimp only at hg
      cases z : collectM ks 0 0 env' with
      | none => rw [z] at hg; exact hg.elim
      | some us2 =>
        rw [z] at hg
        exact fun σ' H' F' fp' R s => let ⟨ls', p⟩ := fin env' σ' H' F' fp' .non (.d .none) [] us2 R (new_d .non) z; hg .non H' F' ls' [] p
    | xc env' x =>
      intro hg
      dsimp only at hg
      cases z : collectM ks 0 0 env' with
      | none => rw [z] at hg; exact hg.elim
      | some us2 =>
        rw [z] at hg
        exact fun cls d σ' H' F' fp' l R _ hc n => let ⟨ls', p⟩ := fin env' σ' H' F' fp' (vX d) (XT x) l us2 R n z; ⟨fun cls d _ H => E cls d H, takes_of rfl rfl rfl rfl, hg cls d H' F' ls' l hc p⟩
    | rt d => intro hg; exact hg.elim
    | bk e => intro hg; exact hg.elim
    | ct e => intro hg; exact hg.elim
    | err => intro hg; exact hg.elim
end
structure MetMX (P : Program) (w : World) (K : PySem.W.Frag) (mg : Str → Option Value) (base : Heap) (k : Nat) (c m : Str) (n : Nat) (g : List T → Option Rz) : Prop where
  ex : ∃ (C f : Addr) (fd : FuncData) (ps : List Str), PySem.W.nsIn K mainGlobals c = some (some (.ref C)) ∧ Cls K C ∧ Meth K C m f ∧ FnOk P w K mg base (L2.CX P w) k f fd ps (spMX K w (true :: List.replicate n false) g) ∧ Binds K fd ps []
section
variable {X : Cx} {CX : CXT} {k : Nat} {f C : Addr} {fd : FuncData} {ps : List Str} {sp : Sp} {E : St → XK} {m : Str} {p pos apos : Pos} {e o : Expr} {es : List Expr} {ta : TE} {t : TA}
def tMethS (C : Addr) (m : Str) (sp : Sp) (E : St → XK) (ta : TE) (t : TA) : TE := fun σ H Q => ta σ H fun x H1 => ∃ a dx fs, x = .ref a ∧ H1 a = some (.ins C dx fs) ∧ fs.lookup m = none ∧ t σ H1 fun vs H2 => sp (x :: vs) H2 Q (E σ)
theorem pe_methR0 {pl : Sem Bool} (he : PE X o ta) (c : Cls X.K C) (hm : Meth X.K C m f) (F : FnOk X.prog X.w X.K X.mg X.base CX k f fd ps sp) (hr : Room k X.A) (hb : Binds X.K fd ps []) (hx : ∀ σ, PassesAt CX X σ (E σ))
    (ht : eval (.Call (.Attribute o m apos) [] [] pos) X.env = (do
      let ov ← eval o X.env
      standAt apos.atName
      let (f, first) ← holding [ov] (getMethod ov m pl)
      callWith pos f first (backTo pos (starEach [] X.env)) (backToKw pos (keywordEach [] X.env))) := by rfl) :
    PE X (.Call (.Attribute o m apos) [] [] pos) (tMethS C m sp E ta tNil) := by
  refine ⟨fun pins s σ H Q I h => ?_⟩
  refine PySem.W.methodCall_KW (pl := pl) (thn (he.run pins s σ H _ I h) fun u s1 hh => ?_) ht
  obtain ⟨x, H1, I1, rx, a, dx, fs, ex, ea, l, q⟩ := hh
  subst ex
  have eu : u = Value.ref a := rx
  subst eu
  exact getmeth_ok I1 ea c hm l (PySem.W.callWith_K0 (first := [.ref a]) I1.kIn hm.kp (run_fnS (us := [.ref a]) (vs := [.ref a]) F hr hb (hx σ) I1 (.cons rfl .nil) q))
end
inductive OY where
  | ok (env : List C) (u : T) | xc (env : List C) (x : XD)
structure DY (X : Cx) (G : GC) (e : Expr) (g : List C → Option OY) : Prop where
  ex : ∃ t, PE X e t ∧ ∀ (σ : L2.St) (H F : Hp) (fp : Nat → List Addr) (env : List C) (o : OY) (Q : VK), Rel X.K G env σ H F fp → g env = some o →
    (match o with
      | .ok env' u => ∀ v H' F' fp' l, Rel X.K G env' σ H' F' fp' → Same F F' → New X.K G H' F' fp' v u l → Q v H'
      | .xc env' x => ∀ cls d H' F' fp' l, Rel X.K G env' σ H' F' fp' → Same F F' → XC X.K x.c cls → New X.K G H' F' fp' (vX d) (XT x) l → WS X cls d σ H') → t σ H Q
section
variable {X : Cx} {G : GC} {kr k : RK} {e o : Expr} {es : List Expr} {gp : List C → Option IP} {rs : List C → Option (List T)} {lv n : Nat} {c m : Str} {pos apos p p1 p2 : Pos} {gy : List C → Option OY} {x : Str}
def yMeth (c m : Str) (g : List T → Option Rz) (gp : List C → Option IP) (rs : List C → Option (List T)) : List C → Option OY := fun env => match gp env with
  | some ip => (match nodeAt env ip with
    | some (.n (.o c' fs) ts) => if c' = c ∧ fIx m fs = none then (match rs env with
      | some us => (match flatT us, g (.n (.o c fs) ts :: us) with
        | some _, some (.ok [u'] y) => some (.ok (putAt env ip u') y)
        | some _, some (.ex [u'] x) => some (.xc (putAt env ip u') x)
        | _, _ => none)
      | none => none) else none
    | _ => none)
  | none => none
end
end DL
namespace DL
open PySem PySem.Spec L2
section
variable {X : Cx} {G : GC} {kr : RK} {e : Expr} {gy : List C → Option OY} {pos pos' : Pos} {x : Str}
def sSetY (i : Nat) (g : List C → Option OY) : List C → Out := fun env => match g env with
  | some (.ok e u) => .nx (e.set i (toC u))
  | some (.xc e x) => .xc e x
  | none => .err
theorem ds_setY (i : Nat) (hN : X.N.Nodup) (hi : X.N[i]? = some x) (h : DY X G e gy) (hx : Loc X.env.scope x := by first | exact .inl rfl | exact .inr rfl) (hs : swapsWith e (some (.Name x pos')) pos.line X.env = pure false := by rfl)
    (hf : X.fn x = true ∨ X.env.scope.names.lookup x = some .local := by first | exact .inl rfl | exact .inr rfl | assumption) : DS X G kr (.Assign [.Name x pos'] e pos) (sSetY i gy) := by
  obtain ⟨t, p, o⟩ := h.ex
  refine ⟨_, ps_set hN hi hx p hs hf, fun σ H F fp env E R q => ?_⟩
  unfold sSetY at q
  cases z : gy env with
  | none => rw [z] at q; exact q.elim
  | some oy =>
    rw [z] at q
    cases oy with
    | ok env' u =>
      refine o σ H F fp env _ _ R z fun v H' F' fp' l R' s n => ?_
      obtain ⟨fp2, R2⟩ := R'.putX n i
      exact q _ H' F' _ R2 s
    | xc env' x => exact o σ H F fp env _ _ R z fun cls d H' F' fp' l R' s hc n => q cls d σ H' F' fp' l R' s hc n
def sDropY (g : List C → Option OY) : List C → Out := fun env => match g env with
  | some (.ok e _) => .nx e
  | some (.xc e x) => .xc e x
  | none => .err
theorem ds_exprY (h : DY X G e gy) (hs : swapsWith e none pos.line X.env = pure false := by rfl) : DS X G kr (.Expr e pos) (sDropY gy) := by
  obtain ⟨t, p, o⟩ := h.ex
  refine ⟨_, ps_expr p hs, fun σ H F fp env E R q => ?_⟩
  unfold sDropY at q
  cases z : gy env with
  | none => rw [z] at q; exact q.elim
  | some oy =>
    rw [z] at q
    cases oy with
    | ok env' u => exact o σ H F fp env _ _ R z fun v H' F' fp' l R' s n => q σ H' F' fp' R' s
    | xc env' x => exact o σ H F fp env _ _ R z fun cls d H' F' fp' l R' s hc n => q cls d σ H' F' fp' l R' s hc n
def sRetY (g : List C → Option OY) : List C → Out := fun env => match g env with
  | some (.ok e u) => .rx e u
  | some (.xc e x) => .xc e x
  | none => .err
theorem ds_retY (h : DY X G e gy) : DS X G kr (.Return (some e) pos) (sRetY gy) := by
  obtain ⟨t, p, o⟩ := h.ex
  refine ⟨_, ps_ret p, fun σ H F fp env E R q => ?_⟩
  unfold sRetY at q
  cases z : gy env with
  | none => rw [z] at q; exact q.elim
  | some oy =>
    rw [z] at q
    cases oy with
    | ok env' u => exact o σ H F fp env _ _ R z fun v H' F' fp' l R' s n => q v σ H' F' fp' l R' n
    | xc env' x => exact o σ H F fp env _ _ R z fun cls d H' F' fp' l R' s hc n => q cls d σ H' F' fp' l R' s hc n
end
structure DMk (X : Cx) (G : GC) (e : Expr) (g : List C → Option XD) : Prop where
  ex : ∃ t, PMk X e t ∧ ∀ (σ : L2.St) (H F : Hp) (fp : Nat → List Addr) (env : List C) (x : XD) (Q : XK), Rel X.K G env σ H F fp → g env = some x →
    (∀ cls d H' F' l, Ext H F H' F' → XC X.K x.c cls → OR X.K G.w H' F' (vX d) (XT x) l → Fresh H H' F' l → Q cls d H') → t σ H Q
structure MkE (P : Program) (w : World) (K : PySem.W.Frag) (mg : Str → Option Value) (base : Heap) (k : Nat) (c : Str) (fs : List Str) (sp : Sp) : Prop where
  ex : ∃ (C fI : Addr) (fd : FuncData) (ps : List Str), PySem.W.nsIn K mainGlobals c = some (some (.ref C)) ∧ mg c = some (.ref C) ∧ OexC K C ∧ PySem.W.findIn K (.ref C) "__init__" = some (some (.ref fI)) ∧ PySem.W.typeIn K (.ref fI) = some (.type "function") ∧ (∀ f, f ∈ fs → PySem.W.findIn K (.ref C) f = some none) ∧
    FnOk P w K mg base CX0 k fI fd ps sp ∧ Binds K fd ps []
section
variable {X : Cx} {G : GC} {kr k k2 : RK} {e a b : Expr} {g : List C → Option XD} {fe fa fb : List C → Option D} {p pos : Pos} {c f f2 : Str} {lv : Nat}
def sRaise (g : List C → Option XD) : List C → Out := fun env => match g env with | some x => .xc env x | none => .err
theorem ds_raise (hc : X.calm = true) (h : DMk X G e g) : DS X G kr (.Raise (some e) none pos) (sRaise g) := by
  obtain ⟨t, p, o⟩ := h.ex
  refine ⟨_, ps_raise hc takes_all p, fun σ H F fp env E R q => ?_⟩
  unfold sRaise at q
  cases z : g env with
  | none => rw [z] at q; exact q.elim
  | some x =>
    rw [z] at q
    exact o σ H F fp env x _ R z fun cls d H' F' l E' hc r fr => q cls d σ H' F' fp l (R.ext E') E'.f hc (R.fresh E' r fr)
def mkE1 (c f : Str) (fa : List C → Option D) : List C → Option XD := fun env => (fa env).map fun d => ⟨c, [f], [d]⟩
theorem heap_mk {H1 : Hp} {a dx : Addr} {o1 o2 o3 o : HO} (ha : H1 a = none) (hne : dx ≠ a) : upd (L2.del (upd (upd (upd H1 a o1) dx o2) a o3) a) dx o = upd H1 dx o := by
  funext b
  by_cases h1 : b = dx
  · subst h1; rw [upd_same, upd_same]
  · rw [upd_ne h1, upd_ne h1]
    by_cases h2 : b = a
    · subst h2; rw [L2.del_same, ha]
    · rw [L2.del_ne h2, upd_ne h2, upd_ne h1, upd_ne h2]
theorem heap_mk2 {H1 : Hp} {a dx : Addr} {o1 o2 o3 o4 o : HO} (ha : H1 a = none) (hne : dx ≠ a) : upd (L2.del (upd (upd (upd (upd H1 a o1) dx o2) a o3) dx o4) a) dx o = upd H1 dx o := by
  funext b
  by_cases h1 : b = dx
  · subst h1; rw [upd_same, upd_same]
  · rw [upd_ne h1, upd_ne h1]
    by_cases h2 : b = a
    · subst h2; rw [L2.del_same, ha]
    · rw [L2.del_ne h2, upd_ne h1, upd_ne h2, upd_ne h1, upd_ne h2]
theorem dmk_1 (mk : MkE X.prog X.w X.K X.mg X.base lv c [f] (spI1 X.K f)) (hr : Room (lv + 1) X.A) (hg : Gl X c) (h : DE X G k a fa) (hk : k.le .fz = true := by rfl) (hdb : (c == ("__debug__" : Str)) = false := by decide)
    (hs : starEach [a] X.env = [(false, eval a X.env)] := by rfl) (hpl : (backTo pos (starEach [] X.env)).any (·.1) = false := by rfl) : DMk X G (.Call (.Name c p) [a] [] pos) (mkE1 c f fa) := by
  obtain ⟨C, fI, fd, ps, nC, gC, T, iC, tI, no, F1, b⟩ := mk.ex
  obtain ⟨t, pt, o⟩ := (h.conv hk).ex
  refine ⟨_, pmk_oex T iC tI F1 hr b .nil pass0 hg gC (pa_cons pt pa_nil hs) hdb hs hpl, fun σ H F fp env x Q R hf q => ?_⟩
  unfold mkE1 at hf
  cases z : fa env with
  | none => rw [z] at hf; cases hf
  | some d0 =>
    rw [z] at hf; cases hf
    refine o σ H F fp env d0 _ R z fun v H1 F1 E1 r => ⟨(by simp : [v].length ≤ 1000), fun x hx => ?_⟩
    refine ⟨x, C, v, rfl, T, no f (List.mem_singleton.mpr rfl), upd_same, fun dx hdx hne => ⟨rfl, dx, [(f, v)], upd_same, ?_, ?_, ?_⟩⟩
    · rw [upd_ne hne, upd_same]
    · rw [upd_ne hne] at hdx; exact hdx
    · rw [upd_ne hne] at hdx
      rw [heap_mk hx hne]
      refine q (.ref C) (some dx) _ F1 [dx] (E1.trans (Ext.laid E1.sub hdx)) ⟨C, nC, rfl⟩ (.n (own := [dx]) (l := []) ⟨rfl, rfl, upd_same⟩ (.cons (.d r) .nil) (by simp)) fun b hb => ?_
      rw [List.mem_singleton.mp hb]
      refine ⟨E1.h.free hdx, E1.sub.free hdx, ?_⟩
      rw [upd_same]; intro y; cases y
def mkE2 (c f f2 : Str) (fa fb : List C → Option D) : List C → Option XD := fun env => match fa env with
  | some d => (fb env).map fun d2 => ⟨c, [f2, f], [d2, d]⟩
  | none => none
theorem dmk_2 (mk : MkE X.prog X.w X.K X.mg X.base lv c [f, f2] (spI2 X.K f f2)) (hr : Room (lv + 1) X.A) (hg : Gl X c) (h : DE X G k a fa) (h2 : DE X G k2 b fb) (hk : k.le .fz = true := by rfl) (hk2 : k2.le .fz = true := by rfl) (hdb : (c == ("__debug__" : Str)) = false := by decide)
    (hs : starEach [a, b] X.env = (false, eval a X.env) :: starEach [b] X.env := by rfl) (hs2 : starEach [b] X.env = [(false, eval b X.env)] := by rfl) (hpl : (backTo pos (starEach [b] X.env)).any (·.1) = false := by rfl) : DMk X G (.Call (.Name c p) [a, b] [] pos) (mkE2 c f f2 fa fb) := by
  obtain ⟨C, fI, fd, ps, nC, gC, T, iC, tI, no, F1, bd⟩ := mk.ex
  obtain ⟨t, pt, o⟩ := (h.conv hk).ex
  obtain ⟨t2, pt2, o2⟩ := (h2.conv hk2).ex
  refine ⟨_, pmk_oex T iC tI F1 hr bd .nil pass0 hg gC (pa_cons pt (pa_cons pt2 pa_nil hs2) hs) hdb hs hpl, fun σ H F fp env x Q R hf q => ?_⟩
  unfold mkE2 at hf
  cases z : fa env with
  | none => rw [z] at hf; cases hf
  | some d0 =>
    cases z2 : fb env with
    | none => rw [z, z2] at hf; cases hf
    | some d1 =>
      rw [z, z2] at hf; cases hf
      refine o σ H F fp env d0 _ R z fun v H1 F1 E1 r => ?_
      refine o2 σ H1 F1 fp env d1 _ (R.ext E1) z2 fun v2 H2 F2 E2 r2 => ⟨(by simp : [v, v2].length ≤ 1000), fun x hx => ?_⟩
      refine ⟨x, C, v, v2, rfl, T, no f (by simp), no f2 (by simp), upd_same, fun dx hdx hne => ⟨rfl, dx, [(f2, v2), (f, v)], ?_, upd_same, ?_, ?_⟩⟩
      · rw [upd_ne (Ne.symm hne), upd_same]
      · rw [upd_ne hne] at hdx; exact hdx
      · rw [upd_ne hne] at hdx
        rw [heap_mk2 hx hne]
        refine q (.ref C) (some dx) _ F2 [dx] ((E1.trans E2).trans (Ext.laid E2.sub hdx)) ⟨C, nC, rfl⟩ (.n (own := [dx]) (l := []) ⟨rfl, rfl, upd_same⟩ (.cons (.d r2) (.cons (.d (DF_mono E2.f _ _ r)) .nil)) (by simp)) fun b hb => ?_
        rw [List.mem_singleton.mp hb]
        refine ⟨(E1.trans E2).h.free hdx, E2.sub.free hdx, ?_⟩
        rw [upd_same]; intro y; cases y
end
end DL
namespace DL
open PySem PySem.Spec L2
def XK (x : XD) : T := .n (.x x.c x.fs) (match x.fs with | [] => [] | _ => x.ds.map T.d)
def sTry (xs : List Str) (i j : Nat) (fb : List C → Out) : List C → Out := fun env => match fb env with
  | .xc e x => if xs.contains x.c = true ∧ i < e.length then .nx ((e.set i .und).set j (.own none (XK x))) else .err
  | o => o
def PostW (X : Cx) (G : GC) (kr : RK) (F : Hp) (E : Ends) (W : WX) : Out → Prop
  | .xc env' x => ∀ cls d σ' H' F' fp' l, Rel X.K G env' σ' H' F' fp' → Same F F' → XC X.K x.c cls → New X.K G H' F' fp' (vX d) (XT x) l → W cls d σ' H'
  | o => Post X G kr F E o
def Under (K : PySem.W.Frag) (B : Value) (c : Str) : Prop := ∀ C, PySem.W.nsIn K mainGlobals c = some (some (.ref C)) → PySem.W.exmOne K (.ref C) B = some true
section
variable {X : Cx} {G : GC} {kr : RK} {body : List Stmt} {fb : List C → Out} {n m b : Str} {B : Value} {p1 p2 p3 np hpos pos : Pos}
end
end DL
namespace L2
open PySem PySem.Spec PyProof.Rows
section
variable {X : Cx} {C : Addr} {bmB : List Value} {B newId initId : String}
end
end L2
namespace DL
open PySem PySem.Spec L2
structure ExOk (K : PySem.W.Frag) (c : Str) : Prop where
  ex : ∃ C, PySem.W.nsIn K mainGlobals c = some (some (.ref C)) ∧ ExcC K C ∧ XfC K C
def NoAtX (K : PySem.W.Frag) (c f : Str) : Prop := ∀ C, PySem.W.nsIn K mainGlobals c = some (some (.ref C)) → PySem.W.findIn K (.ref C) f = some none
def IsOk (K : PySem.W.Frag) (c : Str) (cv : Value) (b : Bool) : Prop := ∀ C, PySem.W.nsIn K mainGlobals c = some (some (.ref C)) → PySem.W.kitOne K (.ref C) cv = some b
section
variable {X : Cx} {G : GC} {kr k : RK} {e : Expr} {r : List C → Option T} {pos p p1 p2 pos' : Pos} {f x : Str}
def selX (cs : List Str) (f : Str) : List C → Shp → Nat → Option Nat := fun _ s _ => match s with
  | .x c fs => if cs.contains c = true then fIx f fs else none
  | _ => none
def rX (cs : List Str) (f : Str) (r : List C → Option T) : List C → Option T := rChild r (selX cs f)
def eIsX (ys ns : List Str) (r : List C → Option T) : List C → Option D := fun env => match r env with
  | some (.n (.x c _) _) => if ys.contains c = true then some (.bool true) else if ns.contains c = true then some (.bool false) else none
  | _ => none
def isNT : T → Bool
  | .d d => isNoD d
  | .n _ _ => false
def rIsN (r : List C → Option T) : List C → Option Bool := fun env => (r env).map isNT
def rNotN (r : List C → Option T) : List C → Option Bool := fun env => (r env).map fun u => !isNT u
def eIsNR (r : List C → Option T) : List C → Option D := fun env => (rIsN r env).map .bool
def giveC : C → Option T
  | .val d => some (.d d)
  | .own none u => some u
  | _ => none
def sRetPair (i j : Nat) : List C → Out := fun env => match env[i]?.bind giveC, env[j]?.bind giveC with
  | some u, some w => .rx ((env.set i .und).set j .und) (.n .t [u, w])
  | _, _ => .err
def sSetPair (i j : Nat) (g : List C → Option (List C × T)) : List C → Out := fun env => match g env with
  | some (env', .n .t [u, w]) => .nx ((env'.set i (toC u)).set j (toC w))
  | _ => .err
def xIx2 (n : Nat) (g : List C → Option (List C × T)) : List C → Option (List C × T) := fun env => match g env with
  | some (env', .n .t us) => (match us[n]? with | some (.d d) => some (env', .d d) | _ => none)
  | _ => none
structure MkE0 (K : PySem.W.Frag) (mg : Str → Option Value) (c : Str) : Prop where
  ex : ∃ C bm newId initId, PySem.W.nsIn K mainGlobals c = some (some (.ref C)) ∧ mg c = some (.ref C) ∧ ExcBaseFacts "ValueError" newId initId bm ∧ PySem.W.excIn K C bm newId = true ∧ PySem.W.keepIn K (.ref C) = true ∧ PySem.W.subIn K (.ref C) (.type "BaseException") = some true ∧ PySem.W.typeIn K (.ref C) = some (.type "type")
end
end DL
namespace DL
open PySem PySem.Spec L2
section
variable {X : Cx} {G : GC} {kr k k2 : RK} {e o a : Expr} {fn : List C → Option T} {f fo fa : List C → Option D} {pos p p1 p2 p3 : Pos}
def eDn (fn : List C → Option T) : List C → Option D := fun env => match fn env with
  | some (.n .l ts) => (flatT ts).map .list
  | some (.d x) => some x
  | _ => none
def idxD (d : D) : List D → Option Nat
  | [] => none
  | z :: r => if PyData.eqv z d = true then some 0 else (idxD d r).map (· + 1)
def gIndex : D → D → Option D
  | .list ds, d => if SeqAt.shaped (.list ds) = true ∧ SeqAt.shaped d = true then (idxD d ds).map fun j => .int j else none
  | _, _ => none
end
def tI0 (K : PySem.W.Frag) (m : Str) : TS := tDrop (tVeI K (tCons (tVar 0) (tCons (tC (.str m)) tNil)))
theorem init1_ok {P : Program} {w : World} {K : PySem.W.Frag} {mg : Str → Option Value} {base : Heap} {q : Str} {st : Stmt} {f : Addr} {fd : FuncData} {n m : Str} (F : Fun K "__init__" q st f fd) (S : FnScope ["self", n] ["self", n] (defScope st))
    (hbody : ∀ (cdv : Value) (A : Around) (outer : List Env) (s : Shared) (H : Hp) (E : L2.XK), PSs (cxOf CX0 P w K mg base ["self", n] q (defScope st) f cdv A outer s H E).nox (defBody st) (tSeq (tI0 K m) (tOst K n (tVar 0) (tVar 1)))) :
    FnOk P w K mg base CX0 1 f fd ["self", n] (spI1 K n) := by
  refine F.ok S (fun vs H Q E h => ?_) fun cdv A outer s H vs Q E hr h => ?_
  · obtain ⟨a, C, y, rfl, _⟩ := h; rfl
  · obtain ⟨a, C, y, rfl, T, no, ea, q⟩ := h
    refine ⟨_, hbody cdv A outer s H E, ?_⟩
    exact ⟨.ref a, rfl, a, C, [.str m], rfl, by simp, T, ea, y, rfl, .ref a, rfl, a, C, rfl, T, no, .inl ⟨ea, fun dx h1 h2 => q dx h1 h2⟩⟩
theorem init2_ok {P : Program} {w : World} {K : PySem.W.Frag} {mg : Str → Option Value} {base : Heap} {q : Str} {st : Stmt} {f : Addr} {fd : FuncData} {n n2 m : Str} (F : Fun K "__init__" q st f fd) (S : FnScope ["self", n, n2] ["self", n, n2] (defScope st))
    (hbody : ∀ (cdv : Value) (A : Around) (outer : List Env) (s : Shared) (H : Hp) (E : L2.XK), PSs (cxOf CX0 P w K mg base ["self", n, n2] q (defScope st) f cdv A outer s H E).nox (defBody st) (tSeq (tI0 K m) (tSeq (tOst K n (tVar 0) (tVar 1)) (tOst K n2 (tVar 0) (tVar 2))))) :
    FnOk P w K mg base CX0 1 f fd ["self", n, n2] (spI2 K n n2) := by
  refine F.ok S (fun vs H Q E h => ?_) fun cdv A outer s H vs Q E hr h => ?_
  · obtain ⟨a, C, y, z, rfl, _⟩ := h; rfl
  · obtain ⟨a, C, y, z, rfl, T, no, no2, ea, q⟩ := h
    refine ⟨_, hbody cdv A outer s H E, ?_⟩
    exact ⟨.ref a, rfl, a, C, [.str m], rfl, by simp, T, ea, y, rfl, .ref a, rfl, a, C, rfl, T, no, .inl ⟨ea, fun dx h1 h2 => ⟨z, rfl, .ref a, rfl, a, C, rfl, T, no2, .inr ⟨dx, [(n, y)], upd_same, by rw [upd_ne h2, upd_same], by simp, q dx h1 h2⟩⟩⟩⟩
theorem mkE_of {P : Program} {w : World} {K : PySem.W.Frag} {mg : Str → Option Value} {base : Heap} {c : Str} {fs : List Str} {sp : Sp} {C fI : Addr} {fd : FuncData} {ps : List Str} {lv : Nat} (nC : PySem.W.nsIn K mainGlobals c = some (some (.ref C))) (gC : mg c = some (.ref C)) (T : OexC K C) (iC : PySem.W.findIn K (.ref C) "__init__" = some (some (.ref fI)))
    (tI : PySem.W.typeIn K (.ref fI) = some (.type "function")) (no : ∀ f, f ∈ fs → PySem.W.findIn K (.ref C) f = some none) (F : FnOk P w K mg base CX0 lv fI fd ps sp) (b : Binds K fd ps []) : MkE P w K mg base lv c fs sp := ⟨⟨C, fI, fd, ps, nC, gC, T, iC, tI, no, F, b⟩⟩
end DL
namespace DL
open PySem PySem.Spec L2
abbrev veT : List Value := [.type "ValueError", .type "Exception", .type "BaseException", .type "object"]
section
variable {K : PySem.W.Frag} {mg : Str → Option Value} {c : Str} {C D B N NB : Addr} {nm q nmB qB : Str} {bs bsB : List Value} {sn snB : List Str} {sub subB : List Value} {ab abB : Bool} {col colB : Option Bool} {dd ddB : Option Addr} {k0 k1 k2 k3 k5 j0 j1 j2 j3 j5 : Option Value}
theorem exok_mk (n : PySem.W.nsIn K mainGlobals c = some (some (.ref C))) (ga : PySem.W.findIn K (.ref C) "__getattribute__" = some (some (.builtin "BaseException.__getattribute__"))) (gg : PySem.W.findIn K (.ref C) "__getattr__" = some none) (ex : PySem.W.subIn K (.ref C) (.type "BaseException") = some true)
    (hd : PySem.W.hasDictIn K C = true) (cl : PySem.W.findIn K (.ref C) "__class__" = some (some (.builtin "object.__class__"))) (hn : PySem.W.specialIn K (.builtin "object.__class__") "__get__" = some (some (.builtin "getset_descriptor.__get__"))) (ht : PySem.W.takesIn K (.builtin "object.__class__") = some true)
    (hm : PySem.W.mroIn K C (.type "object") = some true) : ExOk K c := ⟨⟨C, n, ⟨ga, gg, ex, hd, cl, hn, ht, hm⟩, ⟨ga, gg, ex, hd⟩⟩⟩
end
end DL
namespace L2
open PySem PySem.Spec PyProof.Rows
section
variable {X : Cx}
def rCountD (K : PySem.W.Frag) : V → List V → Hp → VK → Prop := fun x xs H Q => ∃ (a : Addr) (y : V) (d : PyData) (ds : List PyData), x = V.ref a ∧ xs = [y] ∧ Dp K H (V.ref a) (.list ds) ∧ Dp K H y d ∧
  SeqAt.shaped (.list ds) = true ∧ SeqAt.shaped d = true ∧ Q (.int (ds.countP fun z => PyData.eqv z d : Nat)) H
end
end L2
namespace DL
open PySem PySem.Spec L2
section
variable {X : Cx} {G : GC} {k k2 : RK} {o a : Expr} {fo fa : List C → Option D} {p2 p3 : Pos}
def gCount : D → D → Option D
  | .list ds, d => if SeqAt.shaped (.list ds) = true ∧ SeqAt.shaped d = true then some (.int (ds.countP fun z => PyData.eqv z d : Nat)) else none
  | _, _ => none
end
end DL
namespace DL
open PySem PySem.Spec L2
section
variable {X : Cx} {G : GC} {e : Expr} {es : List Expr} {ks : List Bool} {rd : List Nat} {rs : List C → Option (List IP × List T)} {y : Str} {p : Pos}
def eVw (i : Nat) : List C → Option D := fun env => match env[i]? with | some (.ro _ (.n .v ts)) => (flatT ts).map .list | _ => none
def mpVw (i : Nat) (rs : List C → Option (List IP × List T)) : List C → Option (List IP × List T) := fun env => match env[i]? with
  | some (.ro _ (.n .v ts)) => (match flatT ts with | some _ => (rs env).map fun r => (r.1, .n .v ts :: r.2) | none => none)
  | _ => none
end
def runV (N : Nat) (body : List C → Out) : List Int → Option D := fun ns => match body (.ro true (.n .v ((ns.map PyData.int).map .d)) :: List.replicate (N - 1) .und) with
  | .rt d => some d
  | _ => none
def spV (K : PySem.W.Frag) (g : List Int → Option D) : Sp := fun vs H Q _ => ∃ (a : Addr) (ns : List Int), vs = [.ref a] ∧ SqL K H a (ns.map V.int) ∧ g ns = some (.bool true) ∧ ∀ H', Q (.bl true) H'
section
variable {P : Program} {w : World} {K : PySem.W.Frag} {mg : Str → Option Value} {base : Heap}
end
end DL
namespace DL
open PySem PySem.Spec L2
abbrev AI := List (Nat × C)
def asgA : AI → List C → List C
  | [], e => e
  | p :: r, e => asgA r (e.set p.1 p.2)
structure DIA (X : Cx) (G : GC) (tg iter : Expr) (f : List C → Option (List AI)) : Prop where
  ex : ∃ wi tt, PI X tg iter wi ∧ PG X tg tt ∧ ∀ (σ : L2.St) (H F : Hp) (fp : Nat → List Addr) (env : List C) (items : List AI) (R : It → Hp → Prop), Rel X.K G env σ H F fp → f env = some items →
    (∀ J H' F', Ext H F H' F' → (∀ (i : Nat) (H2 F2 : Hp), Same F' F2 → Same F2 H2 →
      (∀ u, items[i]? = some u → J.go i H2 ∧ ∀ x H3, J.yld i H2 x H3 → ∃ F3, Ext H2 F2 H3 F3 ∧ ∀ (σ2 : L2.St) (fp2 : Nat → List Addr) (env2 : List C) (Q : L2.St → Hp → Prop), Rel X.K G env2 σ2 H3 F3 fp2 → (∀ σ' fp', Rel X.K G (asgA u env2) σ' H3 F3 fp' → Q σ' H3) → tt x σ2 H3 Q) ∧
      (items.length ≤ i → J.stop i H2)) → R J H') → wi σ H R
def forA (b : List C → Out) : List AI → List C → Out
  | [], env => .nx env
  | u :: r, env => match b (asgA u env) with
    | .nx e => forA b r e
    | .ct e => forA b r e
    | .bk e => .nx e
    | .rt d => .rt d
    | .err => .err
    | .rx e t => .rx e t
    | .xc e x => .xc e x
def sForA (f : List C → Option (List AI)) (fb : List C → Out) : List C → Out := fun env => match f env with
  | some items => forA fb items env
  | none => .err
section
variable {X : Cx} {G : GC} {kr k : RK} {e tg iter : Expr} {pos p p1 p2 p3 : Pos} {x y z : Str} {body : List Stmt} {fb : List C → Out}
def fSl (s v : Nat) (fl fu : List C → Option (Option Int)) : List C → Option (List AI) := fun env => match env[s]? with
  | some (.own (some j) (.n .lf ts)) => (match fl env, fu env with | some l, some u => some ((cutD (List.range ts.length) l u).map fun i => [(v, .al j i)]) | _, _ => none)
  | _ => none
def fRev (s v : Nat) : List C → Option (List AI) := fun env => match env[s]? with
  | some (.own (some j) (.n .lf ts)) => some ((List.range ts.length).reverse.map fun i => [(v, .al j i)])
  | _ => none
def fEnum (s w v : Nat) : List C → Option (List AI) := fun env => match env[s]? with
  | some (.own (some j) (.n .lf ts)) => some ((List.range ts.length).map fun i => [(w, .val (.int (i : Nat))), (v, .al j i)])
  | _ => none
end
end DL
namespace DL
open PySem PySem.Spec L2
section
variable {X : Cx} {G : GC} {k1 k2 k3 : RK} {a b c : Expr} {pos : Pos} {fa fb fc : List C → Option D} {g g' : D → D → Option D}
def eChain (g g' : D → D → Option D) (fa fb fc : List C → Option D) : List C → Option D := fun env => (fa env).bind fun x => (fb env).bind fun y => match g x y with
  | some (.bool true) => (fc env).bind fun z => g' y z
  | some (.bool false) => some (.bool false)
  | _ => none
def eFvS (i : Nat) (f : List C → Option D) : List C → Option D := fun env => match putFz i env with | some env' => (match f env' with | some d => if scalD d = true then some d else none | none => none) | none => none
def rSumT (K : PySem.W.Frag) : List V → Hp → VK → Prop := fun vs H Q => ∃ (a : Addr) (ns : List Int), vs = [V.ref a] ∧ SqT K H a (ns.map V.int) ∧ Q (.int ns.sum) H
def gSumA : List D → Option D
  | [.list xs] => (allInt xs).map fun ns => .int ns.sum
  | [.tuple xs] => (allInt xs).map fun ns => .int ns.sum
  | _ => none
end
end DL
namespace DL
open PySem PySem.Spec L2
section
variable {X : Cx} {G : GC} {kr : RK} {e : Expr} {st : Stmt} {r : List C → Option T}
def sErr : List C → Out := fun _ => .err
def eErr : List C → Option D := fun _ => none
def eRlf (r : List C → Option T) : List C → Option D := fun env => match r env with | some (.n .lf ts) => (flatT ts).map .list | _ => none
theorem d_rlf (h : DRd X G e r) : DE X G .fz e (eRlf r) := by
  obtain ⟨t, pt, o⟩ := h.ex
  refine ⟨t, pt, fun σ H F fp env d Q R hf q => ?_⟩
  unfold eRlf at hf
  split at hf
  · rename_i ts z
    cases z2 : flatT ts with
    | none => rw [z2] at hf; cases hf
    | some ds =>
      rw [z2] at hf; cases hf
      refine o σ H F fp env _ _ R z fun v l H1 F1 E1 rep => ?_
      cases rep with
      | @n _ a vs _ own l0 n1 n2 n3 =>
        exact q _ H1 F1 E1 (.lst n1.2 (flatT_rep z2 n2).1)
  · cases hf
end
end DL
namespace DL
open PySem PySem.Spec L2
def forM (s v j : Nat) (b : List C → Out) : Nat → Nat → List C → Out
  | 0, _, _ => .err
  | f + 1, i, env => match env[s]? with
    | some (.own (some j') (.n .l ts)) => if j' = j then (match ts[i]? with
      | none => .nx env
      | some (.d d) => (match b (env.set v (.val d)) with
        | .nx e => forM s v j b f (i + 1) e
        | .ct e => forM s v j b f (i + 1) e
        | .bk e => .nx e
        | .rt d => .rt d
        | .err => .err
        | .rx e t => .rx e t
        | .xc e x => .xc e x)
      | some _ => .err) else .err
    | _ => .err
def sForM (s v : Nat) (b : List C → Out) : List C → Out := fun env => match env[s]? with
  | some (.own (some j) (.n .l ts)) => forM s v j b (ts.length + 1) 0 env
  | _ => .err
section
variable {X : Cx} {G : GC} {kr k : RK} {pos p p1 p2 : Pos} {x y : Str} {body : List Stmt} {fb : List C → Out}
end
end DL
namespace DL
open PySem PySem.Spec L2
def fzAt (i : Nat) (p : List Nat) (env : List C) : Option (List C) := match env[i]? with
  | some (.own m t) => (match T.sub p t with
    | some (.n .l ts) => (flatT ts).map fun ds => env.set i (.own m (T.put p t (.d (.list ds))))
    | _ => none)
  | _ => none
section
variable {X : Cx} {G : GC} {e a b : Expr} {f : List C → Option D} {g : List C → Option (List C × T)} {k : RK} {pos : Pos}
def flatN : Option D → Option D
  | some (.list es) => if noLs es = true then some (.list es) else none
  | _ => none
mutual
theorem DF_back {K : PySem.W.Frag} {F F' : Hp} (h : ∀ b o, F' b = some o → (∀ vs, o ≠ .lst vs) → F b = some o) : ∀ (d : D) (v : V), noL d = true → DF K F' v d → DF K F v d
  | .none, _, _, r => by cases r; exact .non
  | .bool b, _, _, r => by cases r; exact .bl b
  | .int i, _, _, r => by cases r; exact .int i
  | .str x, _, _, r => by cases r; exact .str x
  | .list ds, _, n, _ => by cases n
  | .tuple ds, _, n, r => by
    cases r with
    | tup r1 r2 =>
      refine .tup ?_ (DF_backs h ds _ n r2)
      rcases r1 with (r1 | ⟨o, r1⟩) | r1
      · exact .inl (.inl (h _ _ r1 fun vs e => nomatch e))
      · exact .inl (.inr ⟨o, h _ _ r1 fun vs e => nomatch e⟩)
      · exact .inr r1
theorem DF_backs {K : PySem.W.Frag} {F F' : Hp} (h : ∀ b o, F' b = some o → (∀ vs, o ≠ .lst vs) → F b = some o) : ∀ (ds : List D) (vs : List V), noLs ds = true → DFAll K F' vs ds → DFAll K F vs ds
  | [], _, _, r => by cases r; exact .nil
  | d :: ds, _, n, r => by
    cases r with
    | cons r1 r2 =>
      unfold noLs at n
      rw [Bool.and_eq_true] at n
      exact .cons (DF_back h d _ n.1 r1) (DF_backs h ds _ n.2 r2)
end
def eFzA (i : Nat) (p : List Nat) (f : List C → Option D) : List C → Option D := fun env => match fzAt i p env with | some env' => flatN (f env') | none => none
def xCmp (g2 : D → D → Option D) (g : List C → Option (List C × T)) (f : List C → Option D) : List C → Option (List C × T) := fun env => (txCmp g2 g f env).map fun p => (p.1, .d (.bool p.2))
end
end DL
namespace L2
open PySem PySem.Spec PyProof.Rows
section
variable {X : Cx}
def rRemD (K : PySem.W.Frag) : V → List V → Hp → VK → Prop := fun x xs H Q => ∃ (a : Addr) (y : V) (d : PyData) (ds : List PyData) (vs : List V) (j : Nat) (z : PyData), x = V.ref a ∧ xs = [y] ∧ H a = some (.lst vs) ∧ DpAll K H vs ds ∧ Dp K H y d ∧
  SeqAt.shaped (.list ds) = true ∧ SeqAt.shaped d = true ∧ ds[j]? = some z ∧ PyData.eqv z d = true ∧ (∀ (m : Nat) (z' : PyData), m < j → ds[m]? = some z' → PyData.eqv z' d = false) ∧ Q .non (upd H a (.lst (vs.eraseIdx j)))
end
end L2
namespace DL
open PySem PySem.Spec L2
section
variable {X : Cx} {G : GC} {kr k : RK} {e : Expr} {fe : List C → Option D} {pos : Pos}
def sRem (i : Nat) (fe : List C → Option D) : List C → Out := fun env => match env[i]? with
  | some (.lst ds) => (match fe env with
    | some d => if SeqAt.shaped (.list ds) = true ∧ SeqAt.shaped d = true then (match idxD d ds with | some j => .nx (env.set i (.lst (ds.eraseIdx j))) | none => .err) else .err
    | none => .err)
  | _ => .err
def tLst (i : Nat) : List C → Option Bool := fun env => match env[i]? with | some (.lst ds) => some (!ds.isEmpty) | _ => none
end
end DL
namespace DL
open PySem PySem.Spec L2
section
variable {X : Cx} {G : GC} {e : Expr} {f : List C → Option D}
def eFvN (i : Nat) (f : List C → Option D) : List C → Option D := fun env => match env[i]? with | some (.lst ds) => flatN (f (env.set i (.val (.list ds)))) | _ => none
end
end DL
namespace DL
open PySem PySem.Spec L2
section
variable {X : Cx} {G : GC} {kr : RK} {sts : List Stmt} {f g : List C → Out}
def sAlt (f g : List C → Out) : List C → Out := fun env => match f env with | .err => g env | o => o
end
def fzRo (i : Nat) (p : List Nat) (env : List C) : Option (List C) := match env[i]? with
  | some (.ro b t) => (match T.sub p t with
    | some (.n .l ts) => (flatT ts).map fun ds => env.set i (.ro b (T.put p t (.d (.list ds))))
    | _ => none)
  | _ => none
section
variable {X : Cx} {G : GC} {e : Expr} {f : List C → Option D}
def eFzR (i : Nat) (p : List Nat) (f : List C → Option D) : List C → Option D := fun env => match fzRo i p env with | some env' => flatN (f env') | none => none
end
end DL
namespace DL
open PySem PySem.Spec L2
structure CalX (P : Program) (w : World) (K : PySem.W.Frag) (mg : Str → Option Value) (base : Heap) (k : Nat) (x : Str) (ks : List Bool) (g : List T → Option Rz) : Prop where
  ex : ∃ (f : Addr) (fd : FuncData) (ps : List Str), FnOk P w K mg base (L2.CX P w) k f fd ps (spMX K w ks g) ∧ mg x = some (.ref f) ∧ PySem.W.keepIn K (.ref f) = true ∧ Binds K fd ps []
section
variable {X : Cx} {G : GC} {e : Expr} {es : List Expr} {rs : List C → Option (List IP × List T)} {lv : Nat} {ks : List Bool} {rd : List Nat} {x : Str} {p pos : Pos}
def yCallP (g : List T → Option Rz) (rd : List Nat) (rs : List C → Option (List IP × List T)) : List C → Option OY := fun env => match rs env with
  | some (ips, us) => if okP ips rd = true then (match g us with
    | some (.ok us' y) => some (.ok (putsP ips us' env) y)
    | some (.ex us' xd) => some (.xc (putsP ips us' env) xd)
    | none => none) else none
  | none => none
theorem dy_callP {g : List T → Option Rz} (cal : CalX X.prog X.w X.K X.mg X.base lv x ks g) (hw : G.w = some X.w) (hr : Room lv X.A) (hg : Gl X x) (h : DMp X G (e :: es) ks rd rs) (hdb : (x == ("__debug__" : Str)) = false := by decide)
    (he : starEach (e :: es) X.env = (false, eval e X.env) :: starEach es X.env := by rfl) (hpl : (backTo pos (starEach es X.env)).any (·.1) = false := by rfl) : DY X G (.Call (.Name x p) (e :: es) [] pos) (yCallP g rd rs) := by
  obtain ⟨fa, fd, ps, F, hm, kp, b⟩ := cal.ex
  obtain ⟨t, pt, oa⟩ := h.ex
  refine ⟨_, pe_callS F hr hg hm kp b (fun σ => passAt takes_all σ) pt hdb he hpl, fun σ H F fp env oy Q R hf q => ?_⟩
  unfold yCallP at hf
  split at hf
  · rename_i ips us z
    split at hf
    · rename_i ok
      refine oa σ H F fp env ips us _ R z fun vs lus H1 F1 E1 ma => ?_
      have R1 := R.ext E1
      obtain ⟨ws, m1, m2, m3, e⟩ := ma.spM hw R1 ok
      refine ⟨F1, us, ws, E1.sub, m1, m2, m3, ?_⟩
      split at hf
      · rename_i us' y z2
        cases hf
        try rw [z2]
        intro v H' F' ls' lr pm
        obtain ⟨fp', R', n'⟩ := R1.calledP hw ma (of_decide_eq_true ok).1 e pm
        exact q v H' F' fp' lr R' (E1.f.trans pm.f) n'
      · rename_i us' xd z2
        cases hf
        try rw [z2]
        intro cls d H' F' ls' lr hc pm
        obtain ⟨fp', R', n'⟩ := R1.calledP hw ma (of_decide_eq_true ok).1 e pm
        exact q cls d H' F' fp' lr R' (E1.f.trans pm.f) hc n'
      · cases hf
    · cases hf
  · cases hf
end
end DL
namespace L2
open PySem PySem.Spec PyProof.Rows
section
variable {X : Cx}
def rIsXT (K : PySem.W.Frag) : List V → Hp → VK → Prop := fun xs H Q => ∃ (a C tp : Addr) (d : Option Addr) (cs : List V) (us : List Value) (b : Bool), xs = [.ref a, .ref tp] ∧ ExcC K C ∧ H a = some (exV a (.ref C) d) ∧ (d = none ∨ ∃ dx fs, d = some dx ∧ H dx = some (.xd fs)) ∧ H tp = some (.tup cs) ∧ Paired ClsV cs us ∧ PySem.W.kitAny K (.ref C) us = some b ∧ Q (.bl b) H
end
end L2
namespace DL
open PySem PySem.Spec L2
def IsOkT (K : PySem.W.Frag) (c : Str) (us : List Value) (b : Bool) : Prop := ∀ C, PySem.W.nsIn K mainGlobals c = some (some (.ref C)) → PySem.W.kitAny K (.ref C) us = some b
section
variable {X : Cx} {G : GC} {e : Expr} {es : List Expr} {r : List C → Option T} {p p2 pos : Pos} {k : Nat}
structure PCs (X : Cx) (es : List Expr) (cs : List V) (us : List Value) : Prop where
  ex : ∃ t, PA X es t ∧ ∀ σ H Q, Q cs H → t σ H Q
  ok : Paired ClsV cs us
end
end DL
namespace DL
open PySem PySem.Spec L2
def gInT : D → D → Option D | .str i, .str j => some (.bool (!(Builtin.Str.occurrences j i 0 j.length 1).isEmpty)) | _, _ => none
def gNotInT : D → D → Option D | .str i, .str j => some (.bool (!(!(Builtin.Str.occurrences j i 0 j.length 1).isEmpty))) | _, _ => none
section
variable {X : Cx} {G : GC}
theorem o_inT : DOp X G (compareOp .In) .vl .vl .fz gInT := ⟨_, op_in_str, fun H F vx vy dx dy d Q sub kp hl rx ry hd q => by
  unfold gInT at hd
  split at hd
  · cases hd
    have e1 := vl_str rx
    have e2 := vl_str ry
    subst e1 e2
    exact ⟨_, _, rfl, rfl, q _ H F (Ext.refl sub) (.bl _)⟩
  · cases hd⟩
theorem inT_one (c : Nat) (z : Str) : gInT (.str ⟨#[c]⟩) (.str z) = some (.bool (decide (c ∈ z.cps.toList))) := by
  unfold gInT; dsimp only; rw [PySem.StrLaws.found_one]
theorem PCs.nil : PCs X [] [] [] := ⟨⟨_, pa_nil, fun _ _ _ q => q⟩, .nil⟩
theorem PCs.cons {y : Str} {p : Pos} {tc : TE} {C : Addr} {es : List Expr} {cs : List V} {us : List Value} (hy : PE X (.Name y p) tc) (htc : ∀ σ H Q, Q (.ref C) H → tc σ H Q) (t : PCs X es cs us) (he : starEach (.Name y p :: es) X.env = (false, eval (.Name y p) X.env) :: starEach es X.env := by rfl) : PCs X (.Name y p :: es) (.ref C :: cs) (.ref C :: us) := by
  obtain ⟨t0, p0, o0⟩ := t.ex
  exact ⟨⟨_, pa_cons hy p0 he, fun σ H Q q => htc _ _ _ (o0 _ _ _ q)⟩, .cons (.own C) t.ok⟩
end
end DL
namespace DL
open PySem PySem.Spec L2
theorem rel_fzT {K : PySem.W.Frag} {G : GC} {env : List C} {σ : L2.St} {H F : Hp} {fp : Nat → List Addr} {i : Nat} {t : T} {d : D} (R : Rel K G env σ H F fp) (e : env[i]? = some (.own none t)) (hv : viewT t = some d) : ∃ F1 fp', Rel K G (env.set i (.val d)) σ H F1 fp' ∧ Same F F1 := by
  classical
  obtain ⟨v, s1', r, _⟩ := slot_own R e
  have s1 : (σ[i]?).join = some v := by rw [s1']; rfl
  let F1 : Hp := fun a => if a ∈ fp i then H a else F a
  have f : Same F F1 := fun a o e => by
    by_cases hm : a ∈ fp i
    · exact (if_pos hm).trans (R.sub a o e)
    · exact (if_neg hm).trans e
  have sub : Same F1 H := fun a o e => by
    by_cases hm : a ∈ fp i
    · rwa [show F1 a = H a from if_pos hm] at e
    · exact R.sub a o (by rwa [show F1 a = F a from if_neg hm] at e)
  have z : DF K F1 v d := view_fz f t v d _ (fun b o hb e => (if_pos hb).trans e) hv r
  have hi := (List.getElem?_eq_some_iff.mp e).1
  refine ⟨F1, fset fp i [], ?_, f⟩
  exact {
    len := by rw [List.length_set]; exact R.len
    slot := fun j c' ej => by
      by_cases hj : j = i
      · subst hj
        rw [fset_at]
        rw [List.getElem?_set_self hi] at ej; cases ej
        exact ⟨rfl, v, s1, z⟩
      · rw [List.getElem?_set_ne (Ne.symm hj)] at ej
        rw [fset_ne hj]
        have q := R.slot j c' ej
        cases c' with
        | und => exact q
        | val d => obtain ⟨y1, v, y2, y3⟩ := q; exact ⟨y1, v, y2, DF_mono f _ _ y3⟩
        | brw d => exact q
        | lst ds => obtain ⟨b, vs, y1, y2, y3, y4⟩ := q; exact ⟨b, vs, y1, y2, y3, DFAll_mono f _ _ y4⟩
        | dK ds => obtain ⟨b, vs, y1, y2, y3, y4⟩ := q; exact ⟨b, vs, y1, y2, y3, y4.mono f⟩
        | dT ds => obtain ⟨b, vs, y1, y2, y3, y4⟩ := q; exact ⟨b, vs, y1, y2, y3, y4.mono f⟩
        | dN ds => obtain ⟨b, w, xs, y1, y2, y5, y3, y4⟩ := q; exact ⟨b, w, xs, y1, y2, y5, y3, y4.mono f⟩
        | pin _ => exact q
        | al j i => obtain ⟨q0, a, l, vs, v, q1, q2, q3⟩ := q; exact ⟨q0, a, l, vs, v, q1, f _ _ q2, q3⟩
        | ro b t => obtain ⟨y0, v, l, y1, y2, y3⟩ := q; exact ⟨y0, v, l, y1, OR_mono f _ _ _ (fun _ _ _ z => z) y2, fun hb a vs ha hk => f _ _ (y3 hb a vs ha hk)⟩
        | own m t => obtain ⟨v, y1, y2, y3⟩ := q; exact ⟨v, y1, OR_mono f _ _ _ (fun _ _ _ z => z) y2, y3⟩
    dj := fun j k b h1 h2 => by
      by_cases hj : j = i
      · subst hj; rw [fset_at] at h1; cases h1
      · by_cases hk : k = i
        · subst hk; rw [fset_at] at h2; cases h2
        · rw [fset_ne hj] at h1; rw [fset_ne hk] at h2
          exact R.dj j k b h1 h2
    own := fun j b hb => by
      by_cases hj : j = i
      · subst hj; rw [fset_at] at hb; cases hb
      · rw [fset_ne hj] at hb
        obtain ⟨g1, g2, g3⟩ := R.own j b hb
        exact ⟨(if_neg fun hm => hj (R.dj j i b hb hm)).trans g1, g2, by rw [List.getElem?_set_ne (Ne.symm hj)]; exact g3⟩
    sub := sub
    new := fun a o ea => by
      by_cases hm : a ∈ fp i
      · right
        obtain ⟨_, _, g3⟩ := R.own i a hm
        rcases g3 with g | ⟨_, c, ec, em⟩
        · exact g
        · rw [e] at ec; cases ec; cases em
      · rw [show F1 a = F a from if_neg hm] at ea
        exact R.new a o ea
    old := R.old.trans f
    keep := R.keep
    alive := R.alive }
def sFzT (i : Nat) (g : List C → Out) : List C → Out := fun env => match env[i]? with
  | some (.own none t) => (match viewT t with | some d => g (env.set i (.val d)) | none => .err)
  | _ => .err
theorem dss_fzT {X : Cx} {G : GC} {kr : RK} {sts : List Stmt} {g : List C → Out} (i : Nat) (h : DSs X G kr sts g) : DSs X G kr sts (sFzT i g) := by
  obtain ⟨t, p, o⟩ := h.ex
  refine ⟨t, p, fun σ H F fp env E R q => ?_⟩
  unfold sFzT at q
  split at q
  · rename_i t0 e
    split at q
    · rename_i d ed
      obtain ⟨F', fp', R', s⟩ := rel_fzT R e ed
      exact o σ H F' fp' _ E R' (Post.mono s q)
    · exact q.elim
  · exact q.elim
mutual
def allL : T → Bool
  | .d _ => true
  | .n .l ts => allLs ts
  | .n _ _ => false
def allLs : List T → Bool
  | [] => true
  | t :: ts => allL t && allLs ts
end
mutual
theorem allL_lst {K : PySem.W.Frag} {ow : Option World} {H F : Hp} : ∀ (t : T) (v : V) (l : List Addr), allL t = true → OR K ow H F v t l → ∀ b, b ∈ l → ∃ vs, H b = some (.lst vs)
  | .d x, v, l, _, r, b, hb => by cases r; cases hb
  | .n s ts, v, l, h, r, b, hb => by
    cases r with
    | n r1 r2 r3 =>
      cases s with
      | l =>
        unfold allL at h
        obtain ⟨rfl, r1⟩ := r1
        rcases List.mem_append.mp hb with z | z
        · rw [List.mem_singleton.mp z]; exact ⟨_, r1⟩
        · exact allLs_lst ts _ _ h r2 b z
      | _ => unfold allL at h; cases h
theorem allLs_lst {K : PySem.W.Frag} {ow : Option World} {H F : Hp} : ∀ (ts : List T) (vs : List V) (l : List Addr), allLs ts = true → ORs K ow H F vs ts l → ∀ b, b ∈ l → ∃ vs, H b = some (.lst vs)
  | [], vs, l, _, r, b, hb => by cases r; cases hb
  | t :: ts, vs, l, h, r, b, hb => by
    cases r with
    | cons r1 r2 =>
      unfold allLs at h
      rw [Bool.and_eq_true] at h
      rcases List.mem_append.mp hb with z | z
      · exact allL_lst t _ _ h.1 r1 b z
      · exact allLs_lst ts _ _ h.2 r2 b z
end
def eFvT (i : Nat) (f : List C → Option D) : List C → Option D := fun env => match env[i]? with
  | some (.own m t) => if allL t = true then (match viewT t with | some d => flatN (f (env.set i (.val d))) | none => none) else none
  | _ => none
section
variable {X : Cx} {G : GC} {e a : Expr} {gy : List C → Option OY} {g : List C → Option (List C × T)} {pos pos' : Pos}
def xOfY (gy : List C → Option OY) : List C → Option (List C × T) := fun env => match gy env with | some (.ok e u) => some (e, u) | _ => none
def txNotN (g : List C → Option (List C × T)) : List C → Option (List C × Bool) := fun env => match g env with | some (e, .d c) => some (e, !isNT (.d c)) | _ => none
end
section
variable {X : Cx} {G : GC} {e : Expr} {es : List Expr} {rs : List C → Option (List IP × List T)} {lv : Nat} {ks : List Bool} {x : Str} {p pos : Pos}
def nCallM (g : List T → Option (List T × T)) (rs : List C → Option (List IP × List T)) : List C → Option T := fun env => match rs env with
  | some ([], us) => (match g us with | some (_, u) => some u | none => none)
  | _ => none
end
end DL
namespace DL
open PySem PySem.Spec L2
section
variable {X : Cx} {G : GC} {k k2 : RK} {o a : Expr} {fo fa : List C → Option D} {p2 p3 : Pos}
def strsD : List D → Option (List Str)
  | [] => some []
  | .str s :: r => (strsD r).map (s :: ·)
  | _ => none
theorem strsD_map : ∀ ys : List Str, strsD (ys.map PyData.str) = some ys
  | [] => rfl
  | y :: ys => by rw [List.map_cons, strsD, strsD_map ys]; rfl
def gJoin : D → D → Option D
  | .str a, .list ds => (strsD ds).bind fun ys => if (ys.map (·.length)).sum + ys.length * a.length ≤ 16777216 then some (.str (Txt.join a ys)) else none
  | _, _ => none
abbrev rJoin (K : PySem.W.Frag) : V → List V → Hp → VK → Prop := fun x xs H Q => ∃ a p, ∃ ys : List Str, x = .str a ∧ xs = [.ref p] ∧ (SqL K H p (ys.map V.str) ∨ SqT K H p (ys.map V.str)) ∧ (ys.map (·.length)).sum + ys.length * a.length ≤ 16777216 ∧ Q (.str (Txt.join a ys)) H
def gSplit : D → D → Option D
  | .str a, .str b => if 0 < b.length ∧ a.length + 2 ≤ sizeLine then some (.list ((Txt.split a b).map .str)) else none
  | _, _ => none
abbrev rNewS (ys : List Str) : Hp → VK → Prop := fun H Q => ∀ p, H p = none → Q (.ref p) (upd H p (.lst (ys.map V.str)))
abbrev rSplit : V → List V → Hp → VK → Prop := fun x xs H Q => ∃ a b, x = .str a ∧ xs = [.str b] ∧ (b.length == 0) = false ∧ a.length + 2 ≤ sizeLine ∧ rNewS (Txt.split a b) H Q
def gPart : D → D → Option D
  | .str a, .str b => if 0 < b.length ∧ a.length ≤ sizeLine then some (.tuple [.str (Txt.partition a b).1, .str (Txt.partition a b).2.1, .str (Txt.partition a b).2.2]) else none
  | _, _ => none
abbrev rPart : V → List V → Hp → VK → Prop := fun x xs H Q => ∃ a b, x = .str a ∧ xs = [.str b] ∧ (b.length == 0) = false ∧ a.length ≤ sizeLine ∧ ∀ p, H p = none → Q (.ref p) (upd H p (.tup [.str (Txt.partition a b).1, .str (Txt.partition a b).2.1, .str (Txt.partition a b).2.2]))
def gIntT : List D → Option D | [.str s] => if s.length ≤ 640 then (PySem.intText? s).map .int else none | _ => none
theorem o_intT : DCall X G (.type "int") [.vw] .fz gIntT := ⟨_, call_int_str, fun H F vs ds d Q sub kp hl rs hd q => by
  obtain ⟨v, d1, rfl, rfl, r⟩ := rep1 rs
  have r' : Dp X.K H v d1 := r
  unfold gIntT at hd
  split at hd
  · rename_i s e; cases e; cases r'
    split at hd
    · rename_i hl2
      cases z : PySem.intText? s with
      | none => rw [z] at hd; cases hd
      | some n =>
        rw [z] at hd; cases hd
        exact ⟨s, n, rfl, z, hl2, q _ H F (Ext.refl sub) (.int _)⟩
    · cases hd
  · cases hd⟩
def tgL (g : List D → List C → Option (List C)) : D → List C → Option (List C) := fun d env => match d with | .list ds => g ds env | _ => none
end
end DL
namespace DL
open PySem PySem.Spec L2
def NoK (K : PySem.W.Frag) (b : Addr) : Prop := ∀ o n, K.lookup b = some o → o.cls ≠ .type n
def offA (F : Hp) (a : Addr) : Hp := fun x => if x = a then none else F x
theorem offA_ne {F : Hp} {a x : Addr} (h : x ≠ a) : offA F a x = F x := by unfold offA; rw [if_neg h]
section
variable {K : PySem.W.Frag} {ow : Option World} {H F : Hp} {a b : Addr} {vr : List V} (fa : F a = some (.lst (.ref b :: vr))) (fb : F b = none) (kb : NoK K b)
include fb kb
theorem SqT_no {xs : List V} (h : SqT K F b xs) : False := by
  rcases h with (h | ⟨o, h⟩) | ⟨o, its, n, hk, hc, _⟩
  · rw [fb] at h; cases h
  · rw [fb] at h; cases h
  · exact kb o _ hk hc
theorem SqL_no {xs : List V} (h : SqL K F b xs) : False := by
  rcases h with (h | ⟨o, h⟩) | ⟨o, its, n, hk, hc, _⟩
  · rw [fb] at h; cases h
  · rw [fb] at h; cases h
  · exact kb o _ hk hc
theorem DF_no {d : D} (h : DF K F (.ref b) d) : False := by
  cases h with
  | lst h _ => rw [fb] at h; cases h
  | tup h _ => exact SqT_no fb kb h
include fa
theorem SqT_hof {x : Addr} {xs : List V} (h : SqT K F x xs) : SqT K (offA F a) x xs := by
  rcases h with (h | ⟨o, h⟩) | h
  · exact .inl (.inl (by rw [offA_ne]; exact h; intro z; rw [z, fa] at h; cases h))
  · exact .inl (.inr ⟨o, by rw [offA_ne]; exact h; intro z; rw [z, fa] at h; cases h⟩)
  · exact .inr h
mutual
theorem DF_hof : ∀ (d : D) (v : V), DF K F v d → DF K (offA F a) v d
  | .none, _, h => by cases h; exact .non
  | .bool b, _, h => by cases h; exact .bl b
  | .int i, _, h => by cases h; exact .int i
  | .str x, _, h => by cases h; exact .str x
  | .list ds, _, h => by
    cases h with
    | @lst x xs _ hs ha =>
      by_cases hx : x = a
      · subst hx
        rw [fa] at hs; cases hs
        cases ha with
        | cons h1 _ => exact (DF_no fb kb h1).elim
      · exact .lst (by rw [offA_ne hx]; exact hs) (DFAll_hof ds _ ha)
  | .tuple ds, _, h => by
    cases h with
    | tup hs ha => exact .tup (SqT_hof fa fb kb hs) (DFAll_hof ds _ ha)
  | .dict _, _, h => by cases h
theorem DFAll_hof : ∀ (ds : List D) (vs : List V), DFAll K F vs ds → DFAll K (offA F a) vs ds
  | [], _, h => by cases h; exact .nil
  | d :: ds, _, h => by
    cases h with
    | cons h1 h2 => exact .cons (DF_hof d _ h1) (DFAll_hof ds _ h2)
end
theorem KeysQ_hof : ∀ {xs : List (NestedKey × Addr × Value)} {ds : List D} {vs : List V}, KeysQ K F xs ds vs → KeysQ K (offA F a) xs ds vs
  | _, _, _, .nil => .nil
  | _, _, _, .cons x y c r t => .cons x y (DF_hof fa fb kb _ _ c) r (KeysQ_hof t)
theorem NR_hof {s : Shp} {x : Addr} {vs : List V} {own : List Addr} (hv : ∀ r, vs ≠ .ref b :: r) (h : NR K ow H F s x vs own) : NR K ow H (offA F a) s x vs own := by
  cases s with
  | l => exact h
  | t =>
    rcases h with h | ⟨h1, h2⟩
    · exact .inl h
    · exact .inr ⟨h1, SqT_hof fa fb kb h2⟩
  | k ks => exact h
  | q ks => obtain ⟨h1, w, xs, h2, h3, h4⟩ := h; exact ⟨h1, w, xs, h2, h3, KeysQ_hof fa fb kb h4⟩
  | o c fs => exact h
  | e fs => exact h
  | x c fs => exact h
  | lf =>
    obtain ⟨h1, h2⟩ := h
    refine ⟨h1, ?_⟩
    rw [offA_ne]; exact h2
    intro z; rw [z, fa] at h2; cases h2; exact hv _ rfl
  | v =>
    obtain ⟨h1, h2⟩ := h
    refine ⟨h1, ?_⟩
    rcases h2 with (h2 | ⟨o, h2⟩) | h2
    · refine .inl (.inl ?_)
      rw [offA_ne]; exact h2
      intro z; rw [z, fa] at h2; cases h2; exact hv _ rfl
    · refine .inl (.inr ⟨o, ?_⟩)
      rw [offA_ne]; exact h2
      intro z; rw [z, fa] at h2; cases h2
    · exact .inr h2
  | kf ks =>
    obtain ⟨h1, h2, o, h3⟩ := h
    refine ⟨h1, h2, o, ?_⟩
    rw [offA_ne]; exact h3
    intro z; rw [z, fa] at h3; cases h3
omit fa
theorem OR_mem {t : T} {l : List Addr} (h : OR K ow H F (.ref b) t l) : b ∈ l ∧ H b ≠ none := by
  cases h with
  | d h => exact (DF_no fb kb h).elim
  | @n s _ vs ts own l0 n1 n2 n3 =>
    cases s with
    | l => obtain ⟨rfl, r⟩ := n1; exact ⟨by simp, by rw [r]; intro z; cases z⟩
    | t =>
      rcases n1 with ⟨rfl, r⟩ | ⟨rfl, r⟩
      · exact ⟨by simp, by rw [r]; intro z; cases z⟩
      · exact (SqT_no fb kb r).elim
    | k ks => obtain ⟨rfl, _, r⟩ := n1; exact ⟨by simp, by rw [r]; intro z; cases z⟩
    | q ks => obtain ⟨rfl, w, xs, _, r, _⟩ := n1; exact ⟨by simp, by rw [r]; intro z; cases z⟩
    | o c fs => obtain ⟨_, C, dx, rfl, _, r, _⟩ := n1; exact ⟨by simp, by rw [r]; intro z; cases z⟩
    | e fs => obtain ⟨rfl, _, r⟩ := n1; exact ⟨by simp, by rw [r]; intro z; cases z⟩
    | lf => obtain ⟨_, r⟩ := n1; rw [fb] at r; cases r
    | v => obtain ⟨_, r⟩ := n1; exact (SqL_no fb kb r).elim
    | kf ks => obtain ⟨_, _, o, r⟩ := n1; rw [fb] at r; cases r
    | x c fs =>
      obtain ⟨_, C, _, r⟩ := n1
      rcases r with ⟨rfl, _, r⟩ | ⟨dx, rfl, r, _⟩
      · exact ⟨by simp, by rw [r]; intro z; cases z⟩
      · exact ⟨by simp, by rw [r]; intro z; cases z⟩
include fa
mutual
theorem OR_hof : ∀ (t : T) (v : V) (l : List Addr), OR K ow H F v t l → (b ∉ l ∨ H b = none) → OR K ow H (offA F a) v t l
  | .d d, _, _, h, _ => by
    cases h with
    | d h => exact .d (DF_hof fa fb kb _ _ h)
  | .n s ts, _, _, h, hb => by
    cases h with
    | @n _ x vs _ own l0 n1 n2 n3 =>
      have hb' : b ∉ l0 ∨ H b = none := hb.imp_left fun z m => z (List.mem_append_right _ m)
      refine .n (NR_hof fa fb kb (fun r e => ?_) n1) (ORs_hof ts vs l0 n2 hb') n3
      subst e
      cases n2 with
      | cons m1 _ =>
        obtain ⟨q1, q2⟩ := OR_mem fb kb m1
        rcases hb' with z | z
        · exact z (List.mem_append_left _ q1)
        · exact q2 z
theorem ORs_hof : ∀ (ts : List T) (vs : List V) (l : List Addr), ORs K ow H F vs ts l → (b ∉ l ∨ H b = none) → ORs K ow H (offA F a) vs ts l
  | [], _, _, h, _ => by cases h; exact .nil
  | t :: ts, _, _, h, hb => by
    cases h with
    | cons h1 h2 => exact .cons (OR_hof t _ _ h1 (hb.imp_left fun z m => z (List.mem_append_left _ m))) (ORs_hof ts _ _ h2 (hb.imp_left fun z m => z (List.mem_append_right _ m)))
end
end
def unC : C → C
  | .al _ _ => .und
  | .pin _ => .und
  | .own (some _) _ => .und
  | c => c
def insHead : List T → Bool
  | .n (.o _ _) _ :: _ => true
  | _ => false
def unHold (s : Nat) : Out → Out
  | .nx env => (match env[s]? with
    | some (.own (some 0) (.n .lf ts)) => if insHead ts = true then .nx ((env.map unC).set s (.own none (.n .l ts))) else .err
    | _ => .err)
  | .rt d => .rt d
  | _ => .err
def sHold (s : Nat) (g : List C → Out) : List C → Out := fun env => match env[s]? with
  | some (.own none (.n .l ts)) => if insHead ts = true then unHold s (g ((env.map unC).set s (.own (some 0) (.n .lf ts)))) else .err
  | _ => .err
def fpU (env : List C) (fp : Nat → List Addr) (s : Nat) (l : List Addr) : Nat → List Addr := fun i => if i = s then l else match env[i]? with
  | some c => if noPinC c = true then fp i else []
  | none => []
section
variable {K : PySem.W.Frag} {G : GC} {env : List C} {σ : L2.St} {H F : Hp} {fp : Nat → List Addr} {s : Nat}
end
section
variable {X : Cx} {G : GC} {st : Stmt} {g : List C → Out}
def gMinL : List D → Option D | [.list xs] => (match allInt xs with | some (n :: ns) => some (.int (ns.foldl min n)) | _ => none) | _ => none
end
end DL
namespace DL
open PySem PySem.Spec L2
section
variable {X : Cx} {G : GC} {kr k : RK} {ks : List RK} {e o : Expr} {es : List Expr} {fs : List C → Option (List D)} {gx : List C → Option (List C × T)} {gp : List C → Option IP} {rs : List C → Option (List T)} {lv n : Nat} {c m x y : Str} {pos apos p p1 p2 : Pos}
structure DAX (X : Cx) (G : GC) (ks : List RK) (es : List Expr) (f : List C → Option (List C × List D)) : Prop where
  ex : ∃ t, PA X es t ∧ ∀ (σ : L2.St) (H F : Hp) (fp : Nat → List Addr) (env env' : List C) (ds : List D) (Q : List V → Hp → Prop), Rel X.K G env σ H F fp → f env = some (env', ds) →
    (∀ vs H' F' fp', Rel X.K G env' σ H' F' fp' → Same F F' → RepKs X.K G H' F' ks vs ds → Q vs H') → t σ H Q
def axHd (gx : List C → Option (List C × T)) (fs : List C → Option (List D)) : List C → Option (List C × List D) := fun env => match gx env with
  | some (env1, .d y) => (fs env1).map fun ds => (env1, y :: ds)
  | _ => none
def xCallD (g : List D → Option D) (f : List C → Option (List C × List D)) : List C → Option (List C × T) := fun env => match f env with
  | some (env1, ds) => (g ds).map fun d => (env1, .d d)
  | none => none
def xTup (gx : List C → Option (List C × T)) : List C → Option (List C × T) := fun env => match gx env with
  | some (env1, .d (.list ds)) => some (env1, .d (.tuple ds))
  | _ => none
structure DRX (X : Cx) (G : GC) (es : List Expr) (f : List C → Option (List C × List T)) : Prop where
  ex : ∃ t, PA X es t ∧ ∀ (σ : L2.St) (H F : Hp) (fp : Nat → List Addr) (env env' : List C) (us : List T) (Q : List V → Hp → Prop), Rel X.K G env σ H F fp → f env = some (env', us) →
    (∀ vs H' F' fp', Rel X.K G env' σ H' F' fp' → Same F F' → W.EachIs (fun v u => ∃ l, OR X.K G.w H' F' v u l) vs us → Q vs H') → t σ H Q
def rxEnd (gx : List C → Option (List C × T)) : List C → Option (List C × List T) := fun env => match gx env with
  | some (env1, .d y) => some (env1, [.d y])
  | _ => none
def nmT : C → Option T
  | .own _ t => some t
  | .val d => some (.d d)
  | _ => none
def rxNm (i : Nat) (rs : List C → Option (List C × List T)) : List C → Option (List C × List T) := fun env => match (env[i]?).bind nmT, rs env with
  | some _, some (env1, us) => ((env1[i]?).bind nmT).map fun u => (env1, u :: us)
  | _, _ => none
def xCallTX (g : List T → Option T) (rs : List C → Option (List C × List T)) : List C → Option (List C × T) := fun env => match rs env with
  | some (env1, us) => (g us).map fun u => (env1, u)
  | none => none
def yMethX (c m : Str) (g : List T → Option Rz) (i : Nat) (gx : List C → Option (List C × T)) : List C → Option OY := fun env => match nodeAt env (i, []), gx env with
  | some (.n (.o c0 fs0) _), some (env1, .d y) => if c0 = c ∧ fIx m fs0 = none then (match nodeAt env1 (i, []) with
    | some (.n (.o c' fs) ts) => (match g (.n (.o c' fs) ts :: [.d y]) with
        | some (.ok [u'] z) => some (.ok (putAt env1 (i, []) u') z)
        | some (.ex [u'] x) => some (.xc (putAt env1 (i, []) u') x)
        | _ => none)
    | _ => none) else none
  | _, _ => none
def xMethP (c m : Str) (g : List T → Option (List T × T)) (gp : List C → Option IP) (rd : List Nat) (rs : List C → Option (List IP × List T)) : List C → Option (List C × T) := fun env => match gp env with
  | some ip => (match nodeAt env ip with
    | some (.n (.o c' fs) ts) => if c' = c ∧ fIx m fs = none then (match rs env with
      | some ([], us) => if okP [ip] rd = true then (match g (.n (.o c fs) ts :: us) with
        | some ([u'], y) => some (putAt env ip u', y)
        | _ => none) else none
      | _ => none) else none
    | _ => none)
  | none => none
end
end DL
namespace DL
open PySem PySem.Spec L2
def WalkR (IR : Hp → V → D → Prop) (J : It) (items : List D) (F' : Hp) : Prop := ∀ (i : Nat) (H2 F2 : Hp), Same F' F2 → Same F2 H2 →
  (∀ d, items[i]? = some d → J.go i H2 ∧ ∀ x H3, J.yld i H2 x H3 → ∃ F3, Ext H2 F2 H3 F3 ∧ IR F3 x d) ∧ (items.length ≤ i → J.stop i H2)
def tgR (IR : Hp → V → D → Prop) (K : PySem.W.Frag) (G : GC) (is : List Nat) (f : D → List C → Option (List C)) : TG := fun v σ H Q => ∃ (F : Hp) (fp : Nat → List Addr) (env env' : List C) (d : D), Rel K G env σ H F fp ∧ IR F v d ∧ f d env = some env' ∧
  ∀ σ' fp', Rel K G env' σ' H F fp' → (∀ vs, (∀ i, i ∈ is → i ∈ vs) → wipe σ' vs = wipe σ vs) → (∀ j a, a ∈ fp' j → a ∈ fp j) → Q σ' H
def IRal (G : GC) (F : Hp) (v : V) (d : D) : Prop := ∃ i : Nat, d = .int i ∧ ∃ a l vs, G.Ws[0]? = some (a, l) ∧ F a = some (.lst vs) ∧ vs[i]? = some v
def tgAl (s : Nat) : D → List C → Option (List C) := fun d env => match d with | .int i => some (env.set s (.al 0 i.toNat)) | _ => none
def iAl (s : Nat) : List C → Option (List D) := fun env => match env[s]? with | some (.own (some 0) (.n .lf ts)) => some ((List.range ts.length).map fun (i : Nat) => .int i) | _ => none
section
variable {X : Cx} {G : GC} {kr k : RK} {elt : Expr} {fe : List C → Option D} {ft : List C → Option Bool} {p p1 pos : Pos} {x y : Str}
end
end DL
namespace DL
open PySem PySem.Spec L2 PyProof.Rows
def evs {α : Type} : List α → List α
  | [] => []
  | [x] => [x]
  | x :: _ :: r => x :: evs r
section
variable {X : Cx} {G : GC} {k : RK} {e : Expr} {f : List C → Option D} {pos p1 p3 : Pos}
def tEvL (K : PySem.W.Frag) (te : TE) : TE := fun σ H Q => te σ H fun x H1 => ∃ a xs, x = .ref a ∧ SqL K H1 a xs ∧ ∀ n, H1 n = none → Q (.ref n) (upd H1 n (.lst (evs xs)))
def gEvs : D → Option D | .list xs => some (.list (evs xs)) | _ => none
def eEvs (f : List C → Option D) : List C → Option D := fun env => (f env).bind gEvs
end
end DL
namespace DL
open PySem PySem.Spec L2
section
variable {env e : List C} {f g : List C → Out} {fe fa fb fk : List C → Option D} {ft f1 f2 : List C → Option Bool} {fs : List C → Option (List D)} {fi : List C → Option (List D)} {i j n : Nat} {d x y : D} {ds xs ys : List D}
variable {fn : List C → Option T} {rs : List C → Option (List T)} {gx : List C → Option (List C × T)} {gt : List C → Option (List C × Bool)} {gp : List C → Option IP} {r : List C → Option T} {u v : T} {us ts : List T} {ip : IP} {s : Shp} {c m q : Str} {fl : List Str} {b : Bool} {mm : Option Nat} {p : List Nat}
theorem ev_gNotB {a b : Bool} : gNotB (.bool a) (.bool b) = some (.bool (!decide (a = b))) := (rfl)
theorem ev_nD : nD fe env = (fe env).map T.d := (rfl)
def oNL (o : Option D) : Option T := match o with | some (.list ds) => some (.n .l (ds.map T.d)) | _ => none
theorem ev_nL : nL fe env = oNL (fe env) := (rfl)
theorem ev_oNL : oNL (some (.list ds)) = some (.n .l (ds.map T.d)) := (rfl)
theorem ev_xN : xN fn env = (fn env).map fun u => (env, u) := (rfl)
theorem ev_nsNil : nsNil env = some [] := (rfl)
def oNs (o : Option T) (os : Option (List T)) : Option (List T) := match o with | some u => (match os with | some us => some (u :: us) | none => none) | none => none
theorem ev_nsCons : nsCons fn rs env = oNs (fn env) (rs env) := (rfl)
theorem ev_oNs : oNs (some u) (some us) = some (u :: us) := (rfl)
theorem ev_nDictQ : nDictQ env = some (.n (.q []) []) := (rfl)
theorem ev_nDictK : nDictK env = some (.n (.k []) []) := (rfl)
theorem ev_nLst : nLst rs env = (rs env).map (.n .l) := (rfl)
theorem ev_nTup : nTup rs env = (rs env).map (.n .t) := (rfl)
theorem ev_toC_d : toC (.d x) = .val x := (rfl)
theorem ev_toC_n : toC (.n s ts) = .own none (.n s ts) := (rfl)
def oSetX (o : Option (List C × T)) (i : Nat) : Out := match o with | some (env', u) => .nx (env'.set i (toC u)) | none => .err
theorem ev_setX : sSetX i gx env = oSetX (gx env) i := (rfl)
theorem ev_oSetX : oSetX (some (e, u)) i = .nx (e.set i (toC u)) := (rfl)
def oSetN (o : Option T) (i : Nat) (env : List C) : Out := match o with | some u => .nx (env.set i (toC u)) | none => .err
theorem ev_setN : sSetN i fn env = oSetN (fn env) i env := (rfl)
theorem ev_oSetN : oSetN (some u) i env = .nx (env.set i (toC u)) := (rfl)
def oDropX (o : Option (List C × T)) : Out := match o with | some (env', _) => .nx env' | none => .err
theorem ev_dropX : sDropX gx env = oDropX (gx env) := (rfl)
theorem ev_oDropX : oDropX (some (e, u)) = .nx e := (rfl)
def oRetX (o : Option (List C × T)) : Out := match o with | some (env', u) => .rx env' u | none => .err
theorem ev_retX : sRetX gx env = oRetX (gx env) := (rfl)
theorem ev_oRetX : oRetX (some (e, u)) = .rx e u := (rfl)
theorem ev_retXN : sRetXN env = .rx env (.d .none) := (rfl)
theorem ev_seq_rx : oSeq (.rx e u) g = .rx e u := (rfl)
def oIfX (o : Option (List C × Bool)) (f g : List C → Out) : Out := match o with | some (env', true) => f env' | some (env', false) => g env' | none => .err
theorem ev_ifX : sIfX gt f g env = oIfX (gt env) f g := (rfl)
theorem ev_oIfX_t : oIfX (some (e, true)) f g = f e := (rfl)
theorem ev_oIfX_f : oIfX (some (e, false)) f g = g e := (rfl)
def oTxB (o : Option D) (e : List C) : Option (List C × Bool) := match o with | some (.bool b) => some (e, b) | _ => none
theorem ev_oTxB : oTxB (some (.bool b)) e = some (e, b) := (rfl)
def oTxC (o : Option (List C × T)) (h : D → D → Option D) (f : List C → Option D) : Option (List C × Bool) := match o with
  | some (e, .d x) => oTxB (o2 h (some x) (f e)) e
  | _ => none
theorem ev_txCmp {h : D → D → Option D} : txCmp h gx fe env = oTxC (gx env) h fe := by
  unfold txCmp oTxC
  cases gx env with
  | none => rfl
  | some eu =>
    obtain ⟨e, u⟩ := eu
    cases u with
    | n _ _ => rfl
    | d x =>
      dsimp only
      unfold o2
      cases fe e with
      | none => rfl
      | some y =>
        dsimp only
        cases h x y with
        | none => rfl
        | some z => cases z <;> rfl
theorem ev_oTxC {h : D → D → Option D} : oTxC (some (e, .d x)) h fe = oTxB (o2 h (some x) (fe e)) e := (rfl)
theorem ev_txP : txP ft env = (ft env).map fun b => (env, b) := (rfl)
def oTxN (o : Option (List C × Bool)) : Option (List C × Bool) := match o with | some (e, b) => some (e, !b) | none => none
theorem ev_txNot : txNot gt env = oTxN (gt env) := (rfl)
theorem ev_oTxN : oTxN (some (e, b)) = some (e, !b) := (rfl)
theorem ev_pNm : pNm i env = some (i, []) := (rfl)
def oNode (o : Option C) (p : List Nat) : Option T := match o with | some (.own _ t) => T.sub p t | _ => none
theorem ev_nodeAt : nodeAt env (i, p) = oNode env[i]? p := (rfl)
theorem ev_oNode : oNode (some (.own mm u)) p = T.sub p u := (rfl)
theorem ev_sub0 : T.sub [] u = some u := (rfl)
theorem ev_subS : T.sub (j :: p) (.n s ts) = (ts[j]?).bind (T.sub p) := (rfl)
def oPutA (o : Option C) (env : List C) (i : Nat) (p : List Nat) (v : T) : List C := match o with | some (.own m t) => env.set i (.own m (T.put p t v)) | _ => env
theorem ev_putAt : putAt env (i, p) v = oPutA env[i]? env i p v := (rfl)
theorem ev_oPutA : oPutA (some (.own mm u)) env i p v = env.set i (.own mm (T.put p u v)) := (rfl)
theorem ev_put0 : T.put [] u v = v := (rfl)
def oTp (o : Option T) (p : List Nat) (s : Shp) (ts : List T) (j : Nat) (v : T) : T := .n s (match o with | some t => ts.set j (T.put p t v) | none => ts)
theorem ev_putS : T.put (j :: p) (.n s ts) v = oTp ts[j]? p s ts j v := (rfl)
theorem ev_oTp : oTp (some u) p s ts j v = .n s (ts.set j (T.put p u v)) := (rfl)
def oPC (o : Option IP) (sel : List C → Shp → Nat → Option Nat) (env : List C) : Option IP := match o with
  | some ip => (match nodeAt env ip with | some (.n s ts) => (match sel env s ts.length with | some j => if j < ts.length then some (ip.1, ip.2 ++ [j]) else none | none => none) | _ => none)
  | none => none
theorem pC_at {sel : List C → Shp → Nat → Option Nat} (h1 : gp env = some (i, p)) (h2 : nodeAt env (i, p) = some (.n s ts)) (h3 : sel env s ts.length = some j) (h4 : j < ts.length) : pChild gp sel env = some (i, p ++ [j]) := by
  unfold pChild
  rw [h1]; dsimp only; rw [h2]; dsimp only; rw [h3]; dsimp only; rw [if_pos h4]
theorem pF_at (h1 : gp env = some (i, p)) (h2 : nodeAt env (i, p) = some (.n (.o c fl) ts)) (h3 : fIx q fl = some j) (h4 : j < ts.length) : pF c q gp env = some (i, p ++ [j]) := pC_at h1 h2 (by unfold selF; dsimp only; rw [if_pos rfl]; exact h3) h4
def oCell (o : Option C) : Option T := o.bind cellT
theorem ev_rN : rN i env = oCell env[i]? := (rfl)
theorem ev_cell_own : oCell (some (.own mm u)) = some u := (rfl)
theorem ev_cell_ro : oCell (some (.ro b u)) = some u := (rfl)
theorem ev_cell_val : oCell (some (.val x)) = some (.d x) := (rfl)
theorem ev_cell_lst : oCell (some (.lst ds)) = some (.n .l (ds.map T.d)) := (rfl)
def oRo (o : Option C) : Option T := match o with | some (.ro true t) => some t | _ => none
theorem ev_roN : roN i env = oRo env[i]? := (rfl)
theorem ev_oRo : oRo (some (.ro true u)) = some u := (rfl)
def oRC (o : Option T) (sel : List C → Shp → Nat → Option Nat) (env : List C) : Option T := match o with
  | some (.n s ts) => (match sel env s ts.length with | some j => ts[j]? | none => none)
  | _ => none
def oRF (o : Option T) (c q : Str) : Option T := match o with
  | some (.n (.o c' fl) ts) => if c' = c then (fIx q fl).bind fun j => ts[j]? else none
  | _ => none
theorem ev_rF : rF c q r env = oRF (r env) c q := by
  unfold rF rChild oRF
  cases r env with
  | none => rfl
  | some u =>
    cases u with
    | d _ => rfl
    | n s ts =>
      cases s <;> try rfl
      rename_i c' fl
      dsimp only [selF]
      by_cases h : c' = c
      · rw [if_pos h, if_pos h]; cases fIx q fl <;> rfl
      · rw [if_neg h, if_neg h]
theorem ev_oRF : oRF (some (.n (.o c fl) ts)) c q = (fIx q fl).bind fun j => ts[j]? := if_pos rfl
def oRI (o : Option T) (k : Option D) : Option T := match o with
  | some (.n .l ts) => (match k with | some (.int i) => (ixN ts.length i).bind fun j => ts[j]? | _ => none)
  | some (.n .t ts) => (match k with | some (.int i) => (ixN ts.length i).bind fun j => ts[j]? | _ => none)
  | some (.n .lf ts) => (match k with | some (.int i) => (ixN ts.length i).bind fun j => ts[j]? | _ => none)
  | _ => none
theorem ev_rI : rI fe r env = oRI (r env) (fe env) := by
  unfold rI rChild oRI
  cases r env with
  | none => rfl
  | some u =>
    cases u with
    | d _ => rfl
    | n s ts =>
      cases s <;> try rfl
      all_goals
        dsimp only [selI]
        cases fe env with
        | none => rfl
        | some k =>
          cases k <;> try rfl
          rename_i k
          dsimp only
          cases ixN ts.length k <;> rfl
theorem ev_oRI {k : Int} : oRI (some (.n .l ts)) (some (.int k)) = (ixN ts.length k).bind fun j => ts[j]? := (rfl)
def oLeaf (o : Option T) : Option D := match o with | some (.d x) => some x | _ => none
theorem ev_rLeaf : rLeaf r env = oLeaf (r env) := (rfl)
theorem ev_oLeaf : oLeaf (some (.d x)) = some x := (rfl)
theorem ev_rFlat : rFlat r env = (r env).bind flatV1 := (rfl)
theorem ev_rView : rView r env = (r env).bind viewT := (rfl)
theorem flatT_d : ∀ ds : List D, flatT (ds.map T.d) = some ds
  | [] => rfl
  | d :: ds => by rw [List.map_cons]; unfold flatT; rw [flatT_d ds]; rfl
theorem ev_flatV1 : flatV1 (.n .l (ds.map T.d)) = some (.list ds) := by
  show (flatT (ds.map T.d)).map PyData.list = _
  rw [flatT_d]; rfl
theorem ev_flatV1d : flatV1 (.d x) = some x := (rfl)
def oEow (o : Option T) : Option D := match o with | some (.n .l ts) => (flatT ts).map .list | _ => none
theorem ev_eOw : eOw fn env = oEow (fn env) := (rfl)
theorem ev_oEow : oEow (some (.n .l (ds.map T.d))) = some (.list ds) := by
  show (flatT (ds.map T.d)).map PyData.list = _
  rw [flatT_d]; rfl
def oFldP (o : Option (List C × T)) (c q : Str) (gp : List C → Option IP) : Out := match o with
  | some (env1, u) => (match gp env1 with
    | some ip => (match nodeAt env1 ip with
      | some (.n (.o c' fs) ts) => if c' = c ∧ fs.length < 1000 then .nx (putAt env1 ip (putO q u c fs ts)) else .err
      | _ => .err)
    | none => .err)
  | none => .err
theorem ev_fldP : sFldP c q gp gx env = oFldP (gx env) c q gp := (rfl)
theorem fldP_at (h1 : gp e = some (i, p)) (h2 : nodeAt e (i, p) = some (.n (.o c fl) ts)) (h3 : fl.length < 1000) : oFldP (some (e, u)) c q gp = .nx (putAt e (i, p) (putO q u c fl ts)) := by
  unfold oFldP
  dsimp only
  rw [h1]; dsimp only; rw [h2]; dsimp only
  rw [if_pos ⟨rfl, h3⟩]
def oIxP (o : Option (List C × T)) (gp : List C → Option IP) (fi : List C → Option D) : Out := match o with
  | some (env1, u) => (match gp env1 with
    | some ip => (match nodeAt env1 ip with
      | some (.n .l ts) => (match fi env1 with
        | some (.int j) => (match ixN ts.length j with | some m => .nx (putAt env1 ip (.n .l (ts.set m u))) | none => .err)
        | _ => .err)
      | _ => .err)
    | none => .err)
  | none => .err
theorem ev_ixP : sIxP gp fe gx env = oIxP (gx env) gp fe := (rfl)
theorem appP_at (h1 : gp env = some (i, p)) (h2 : nodeAt env (i, p) = some (.n .l ts)) (h3 : fn env = some u) (h4 : ts.length < 16000000) : xAppP gp fn env = some (putAt env (i, p) (.n .l (ts ++ [u])), .d .none) := by
  unfold xAppP
  rw [h1]; dsimp only; rw [h2]; dsimp only; rw [h3]; dsimp only; rw [if_pos h4]
theorem meth_at {g2 : List T → Option (List T × T)} (h1 : gp env = some (i, p)) (h2 : nodeAt env (i, p) = some (.n (.o c fl) ts)) (h3 : fIx m fl = none) (h4 : rs env = some us) (h5 : flatT us = some ds) (h6 : g2 (.n (.o c fl) ts :: us) = some ([u], v)) : xMeth c m g2 gp rs env = some (putAt env (i, p) u, v) := by
  unfold xMeth
  rw [h1]; dsimp only; rw [h2]; dsimp only; rw [if_pos ⟨rfl, h3⟩, h4]; dsimp only; rw [h5, h6]
theorem nMake_at {g2 : List T → Option (List T × T)} (h4 : rs env = some us) (h6 : g2 (.n (.o c []) [] :: us) = some ([u], .d .none)) : nMake c g2 rs env = some u := by
  unfold nMake
  rw [h4]; dsimp only; rw [h6]
end
def onND (o : Out) (P : List C → Prop) : Prop := match o with | .nx e => P e | .ct e => P e | _ => False
theorem ev_nd1 {e : List C} {P : List C → Prop} : onND (.nx e) P = P e := (rfl)
theorem ev_nd2 {e : List C} {P : List C → Prop} : onND (.ct e) P = P e := (rfl)
end DL
namespace DL
open PySem PySem.Spec L2
section
variable {fe fk fi f1 f2 : List C → Option D} {r : List C → Option T} {fn : List C → Option T} {gp : List C → Option IP} {gx : List C → Option (List C × T)} {gy : List C → Option OY} {rs : List C → Option (List IP × List T)} {env e : List C} {i j s v n m : Nat} {p : List Nat} {u w : T} {d x : D} {ds : List D} {ts : List T} {c q : Str} {b g : List C → Out} {ks : List Key} {xd : XD} {ip : IP}
theorem ev_seq_xc : oSeq (.xc e xd) g = .xc e xd := (rfl)
def oRKK (o : Option T) (k : Option D) : Option T := match o with
  | some (.n s ts) => (match ksOf s, k.bind kOfD with | some ks, some kk => (match kkIx kk ks with | some j => ts[j]? | none => none) | _, _ => none)
  | _ => none
theorem ev_rKK : rKK fe r env = oRKK (r env) (fe env) := by
  unfold rKK rChild oRKK selKK
  cases r env with
  | none => rfl
  | some u =>
    cases u with
    | d _ => rfl
    | n s ts =>
      cases h1 : ksOf s <;> cases h2 : (fe env).bind kOfD <;> simp only [h1, h2]
      all_goals first | rfl | (rename_i a c; cases kkIx c a <;> rfl)
def oKK (o : Option T) : Option (List D) := match o with | some (.n (.kf ks) _) => some (ks.map keyT) | _ => none
theorem ev_iKK : iKK r env = oKK (r env) := (rfl)
theorem ev_oKK : oKK (some (.n (.kf ks) ts)) = some (ks.map keyT) := (rfl)
def oLenO (o : Option T) : Option D := match o with | some (.n .l ts) => some (.int ts.length) | some (.n .lf ts) => some (.int ts.length) | _ => none
theorem ev_eLenO : eLenO r env = oLenO (r env) := (rfl)
theorem ev_oLenO_l : oLenO (some (.n .l ts)) = some (.int ts.length) := (rfl)
theorem ev_oLenO : oLenO (some (.n .lf ts)) = some (.int ts.length) := (rfl)
def oListK (o : Option T) : Option D := match o with | some (.n s _) => (ksOf s).map fun ks => .list (ks.map keyT) | _ => none
theorem ev_eListK : eListK r env = oListK (r env) := (rfl)
theorem ev_oListK : oListK (some (.n (.kf ks) ts)) = some (.list (ks.map keyT)) := (rfl)
def oInK (o : Option T) (k : Option D) : Option Bool := match o with
  | some (.n s _) => (match ksOf s, k.bind kOfD with | some ks, some k => some (kkIx k ks).isSome | _, _ => none)
  | _ => none
theorem ev_trInK : trInK fe r env = oInK (r env) (fe env) := (rfl)
theorem ev_trNinK : trNinK fe r env = (oInK (r env) (fe env)).map (!·) := (rfl)
def oE1 (o : Option D) (c q : Str) (env : List C) : Out := match o with | some d => .xc env ⟨c, [q], [d]⟩ | none => .err
theorem ev_raise1 {q : Str} : sRaise (mkE1 c q fe) env = oE1 (fe env) c q env := by
  unfold sRaise mkE1 oE1
  cases fe env <;> rfl
theorem ev_oE1 {q : Str} : oE1 (some d) c q env = .xc env ⟨c, [q], [d]⟩ := (rfl)
def oE2 (o o2 : Option D) (c q q2 : Str) (env : List C) : Out := match o with | some d => (match o2 with | some d2 => .xc env ⟨c, [q2, q], [d2, d]⟩ | none => .err) | none => .err
theorem ev_raise2 {q q2 : Str} : sRaise (mkE2 c q q2 f1 f2) env = oE2 (f1 env) (f2 env) c q q2 env := by
  unfold sRaise mkE2 oE2
  cases f1 env with
  | none => rfl
  | some d => dsimp only; cases f2 env <;> rfl
theorem ev_oE2 {q q2 : Str} {d2 : D} : oE2 (some d) (some d2) c q q2 env = .xc env ⟨c, [q2, q], [d2, d]⟩ := (rfl)
theorem ev_raise0 : sRaise (fun _ => some xd) env = .xc env xd := (rfl)
def oSetY (o : Option OY) (i : Nat) : Out := match o with | some (.ok e u) => .nx (e.set i (toC u)) | some (.xc e x) => .xc e x | none => .err
theorem ev_setY : sSetY i gy env = oSetY (gy env) i := (rfl)
theorem ev_oSetY_ok : oSetY (some (.ok e u)) i = .nx (e.set i (toC u)) := (rfl)
theorem ev_oSetY_xc : oSetY (some (.xc e xd)) i = .xc e xd := (rfl)
def oTry (o : Out) (xs : List Str) (i j : Nat) : Out := match o with
  | .xc e x => if xs.contains x.c = true ∧ i < e.length then .nx ((e.set i .und).set j (.own none (XK x))) else .err
  | o => o
theorem ev_try {xs : List Str} : sTry xs i j b env = oTry (b env) xs i j := (rfl)
theorem ev_oTry_nx {xs : List Str} : oTry (.nx e) xs i j = .nx e := (rfl)
def oPair (o o2 : Option C) (i j : Nat) (env : List C) : Out := match o.bind giveC, o2.bind giveC with
  | some u, some w => .rx ((env.set i .und).set j .und) (.n .t [u, w])
  | _, _ => .err
theorem ev_retPair : sRetPair i j env = oPair env[i]? env[j]? i j env := (rfl)
theorem ev_oPair_vv : oPair (some (.val d)) (some (.val x)) i j env = .rx ((env.set i .und).set j .und) (.n .t [.d d, .d x]) := (rfl)
theorem ev_oPair_vo : oPair (some (.val d)) (some (.own none u)) i j env = .rx ((env.set i .und).set j .und) (.n .t [.d d, u]) := (rfl)
def oIx2 (o : Option (List C × T)) (n : Nat) : Option (List C × T) := match o with
  | some (env', .n .t us) => (match us[n]? with | some (.d d) => some (env', .d d) | _ => none)
  | _ => none
theorem ev_xIx2 : xIx2 n gx env = oIx2 (gx env) n := (rfl)
theorem ev_oIx2 : oIx2 (some (e, .n .t [.d d, u])) 0 = some (e, .d d) := (rfl)
def oRPl (o : Option IP) (env : List C) : Option T := o.bind (nodeAt env)
theorem ev_rPl : rPl gp env = oRPl (gp env) env := (rfl)
theorem ev_oRPl : oRPl (some ip) env = nodeAt env ip := (rfl)
def oForL (o : Option C) (v : Nat) (b : List C → Out) (env : List C) : Out := match o with
  | some (.own (some j) (.n .lf ts)) => forL v j b (List.range ts.length) env
  | _ => .err
theorem ev_forL : sForL s v b env = oForL env[s]? v b env := (rfl)
theorem ev_oForL : oForL (some (.own (some j) (.n .lf ts))) v b env = forL v j b (List.range ts.length) env := (rfl)
theorem ev_onlyRt : onlyRt (.rt d) = .rt d := (rfl)
theorem frz_at {i : Nat} {t t' : T} (h1 : env[i]? = some (.own none t)) (h2 : frzAt p t = some t') : sFrz i p g env = g (env.set i (.own none t')) := by
  unfold sFrz
  rw [h1]; dsimp only; rw [h2]
def oDn (o : Option T) : Option D := match o with | some (.n .l ts) => (flatT ts).map .list | some (.d x) => some x | _ => none
theorem ev_eDn : eDn fn env = oDn (fn env) := (rfl)
theorem ev_oDn_l : oDn (some (.n .l (ds.map T.d))) = some (.list ds) := by
  show (flatT (ds.map T.d)).map PyData.list = _
  rw [flatT_d]; rfl
theorem ev_oDn_d : oDn (some (.d x)) = some x := (rfl)
def oMpRo (o : Option D) (k : Option (List IP × List T)) : Option (List IP × List T) := match o with | some d => (match k with | some r => some (r.1, .d d :: r.2) | none => none) | none => none
theorem ev_mpRo : mpRo fe rs env = oMpRo (fe env) (rs env) := by
  unfold mpRo oMpRo
  cases fe env with
  | none => rfl
  | some d => cases rs env <;> rfl
theorem ev_oMpRo {ips : List IP} {us : List T} : oMpRo (some d) (some (ips, us)) = some (ips, .d d :: us) := (rfl)
theorem ev_mpNil : mpNil env = some ([], []) := (rfl)
theorem yMeth_ok {g2 : List T → Option Rz} {m : Str} {fl : List Str} {us : List T} {ds : List D} {y : T} {rt : List C → Option (List T)} (h1 : gp env = some ip) (h2 : nodeAt env ip = some (.n (.o c fl) ts)) (h3 : fIx m fl = none) (h4 : rt env = some us) (h5 : flatT us = some ds) (h6 : g2 (.n (.o c fl) ts :: us) = some (.ok [u] y)) : yMeth c m g2 gp rt env = some (.ok (putAt env ip u) y) := by
  unfold yMeth
  rw [h1]; dsimp only; rw [h2]; dsimp only; rw [if_pos ⟨rfl, h3⟩, h4]; dsimp only; rw [h5, h6]
theorem yMeth_ex {g2 : List T → Option Rz} {m : Str} {fl : List Str} {us : List T} {ds : List D} {rt : List C → Option (List T)} (h1 : gp env = some ip) (h2 : nodeAt env ip = some (.n (.o c fl) ts)) (h3 : fIx m fl = none) (h4 : rt env = some us) (h5 : flatT us = some ds) (h6 : g2 (.n (.o c fl) ts :: us) = some (.ex [u] xd)) : yMeth c m g2 gp rt env = some (.xc (putAt env ip u) xd) := by
  unfold yMeth
  rw [h1]; dsimp only; rw [h2]; dsimp only; rw [if_pos ⟨rfl, h3⟩, h4]; dsimp only; rw [h5, h6]
theorem ev_runV {N : Nat} {ns : List Int} : runV N b ns = oRun (b (.ro true (.n .v ((ns.map PyData.int).map .d)) :: List.replicate (N - 1) .und)) := by
  unfold runV oRun
  cases b (.ro true (.n .v ((ns.map PyData.int).map .d)) :: List.replicate (N - 1) .und) <;> rfl
def oVw (c : Option C) : Option D := match c with | some (.ro _ (.n .v ts)) => (flatT ts).map .list | _ => none
theorem ev_eVw : eVw i env = oVw env[i]? := (rfl)
theorem ev_oVw {ro : Bool} : oVw (some (.ro ro (.n .v (ds.map T.d)))) = some (.list ds) := by
  show (flatT (ds.map T.d)).map PyData.list = _
  rw [flatT_d]; rfl
end
end DL
namespace DL
open PySem PySem.Spec L2
section
variable {fe fa fb fc : List C → Option D} {r : List C → Option T} {gx : List C → Option (List C × T)} {gt gt2 : List C → Option (List C × Bool)} {rs : List C → Option (List IP × List T)} {env e : List C} {i j s v w n : Nat} {u u2 : T} {d x y : D} {ds : List D} {ts : List T} {b : List C → Out} {g g' : D → D → Option D} {bb : Bool}
theorem ev_sumA {ns : List Int} : gSumA [.list (ns.map .int)] = some (.int ns.sum) := by
  unfold gSumA; simp only [allInt_map, Option.map_some]
theorem ev_sumT {ns : List Int} : gSumA [.tuple (ns.map .int)] = some (.int ns.sum) := by
  unfold gSumA; simp only [allInt_map, Option.map_some]
def oRlf (o : Option T) : Option D := match o with | some (.n .lf ts) => (flatT ts).map .list | _ => none
theorem ev_eRlf : eRlf r env = oRlf (r env) := (rfl)
theorem ev_oRlf : oRlf (some (.n .lf (ds.map T.d))) = some (.list ds) := by
  show (flatT (ds.map T.d)).map PyData.list = _
  rw [flatT_d]; rfl
def oFvS (o : Option (List C)) (f : List C → Option D) : Option D := match o with | some env' => oScal (f env') | none => none
theorem ev_fvS {f : List C → Option D} : eFvS i f env = oFvS (putFz i env) f := by
  unfold eFvS oFvS oScal
  cases putFz i env <;> rfl
theorem ev_oFvS {f : List C → Option D} : oFvS (some e) f = oScal (f e) := (rfl)
def oNotNT (o : Option T) : Option Bool := o.map fun u => !isNT u
theorem ev_rNotN : rNotN r env = oNotNT (r env) := (rfl)
theorem ev_oNotNT_n : oNotNT (some (.d .none)) = some false := (rfl)
theorem ev_oNotNT_x {xd : XD} : oNotNT (some (XK xd)) = some true := (rfl)
theorem ev_oNotNT_s {sh : Shp} : oNotNT (some (.n sh ts)) = some true := (rfl)
def oIsNT (o : Option T) : Option Bool := o.map isNT
theorem ev_rIsN : rIsN r env = oIsNT (r env) := (rfl)
theorem ev_oIsNT_n : oIsNT (some (.d .none)) = some true := (rfl)
theorem ev_oIsNT_x {xd : XD} : oIsNT (some (XK xd)) = some false := (rfl)
theorem ev_oIsNT_s {sh : Shp} : oIsNT (some (.n sh ts)) = some false := (rfl)
def oTxV (o : Option (List C × T)) : Option (List C × Bool) := match o with | some (e, .d (.bool b)) => some (e, b) | _ => none
theorem ev_txB : txB gx env = oTxV (gx env) := (rfl)
theorem ev_oTxV : oTxV (some (e, .d (.bool bb))) = some (e, bb) := (rfl)
def oTxAnd (o : Option (List C × Bool)) (k : List C → Option (List C × Bool)) : Option (List C × Bool) := match o with | some (e, true) => k e | some (e, false) => some (e, false) | none => none
theorem ev_txAnd : txAnd gt gt2 env = oTxAnd (gt env) gt2 := (rfl)
theorem ev_oTxAnd_t : oTxAnd (some (e, true)) gt = gt e := (rfl)
theorem ev_oTxAnd_f : oTxAnd (some (e, false)) gt = some (e, false) := (rfl)
def oTxOr (o : Option (List C × Bool)) (k : List C → Option (List C × Bool)) : Option (List C × Bool) := match o with | some (e, true) => some (e, true) | some (e, false) => k e | none => none
theorem ev_txOr : txOr gt gt2 env = oTxOr (gt env) gt2 := (rfl)
theorem ev_oTxOr_t : oTxOr (some (e, true)) gt = some (e, true) := (rfl)
theorem ev_oTxOr_f : oTxOr (some (e, false)) gt = gt e := (rfl)
def oSetP (o : Option (List C × T)) (i j : Nat) : Out := match o with | some (e, .n .t [u, w]) => .nx ((e.set i (toC u)).set j (toC w)) | _ => .err
theorem ev_setPair : sSetPair i j gx env = oSetP (gx env) i j := (rfl)
theorem ev_oSetP : oSetP (some (e, .n .t [u, u2])) i j = .nx ((e.set i (toC u)).set j (toC u2)) := (rfl)
def oXC (o : Option (List C × Bool)) : Option (List C × T) := o.map fun p => (p.1, .d (.bool p.2))
theorem ev_xCmp : xCmp g gx fb env = oXC (txCmp g gx fb env) := (rfl)
theorem ev_oXC : oXC (some (e, bb)) = some (e, .d (.bool bb)) := (rfl)
def oFzA (o : Option (List C)) (f : List C → Option D) : Option D := match o with | some e => flatN (f e) | none => none
theorem ev_fzA {p : List Nat} {f : List C → Option D} : eFzA i p f env = oFzA (fzAt i p env) f := (rfl)
theorem ev_oFzA {f : List C → Option D} : oFzA (some e) f = flatN (f e) := (rfl)
def oTLst (c : Option C) : Option Bool := match c with | some (.lst ds) => some (!ds.isEmpty) | _ => none
theorem ev_tLst : tLst i env = oTLst env[i]? := (rfl)
theorem ev_oTLst : oTLst (some (.lst ds)) = some (!ds.isEmpty) := (rfl)
theorem ev_fzR {p : List Nat} {f : List C → Option D} : eFzR i p f env = oFzA (fzRo i p env) f := (rfl)
def oForA (o : Option (List AI)) (b : List C → Out) (env : List C) : Out := match o with | some l => forA b l env | none => .err
theorem ev_forA {f : List C → Option (List AI)} : sForA f b env = oForA (f env) b env := (rfl)
theorem ev_oForA {l : List AI} : oForA (some l) b env = forA b l env := (rfl)
def oDropY (o : Option OY) : Out := match o with | some (.ok e _) => .nx e | some (.xc e x) => .xc e x | none => .err
theorem ev_dropY {gy : List C → Option OY} : sDropY gy env = oDropY (gy env) := (rfl)
theorem ev_oDropY_ok {y : T} : oDropY (some (.ok e y)) = .nx e := (rfl)
theorem ev_oDropY_xc {xd : XD} : oDropY (some (.xc e xd)) = .xc e xd := (rfl)
def oCallP (o : Option (List IP × List T)) (g : List T → Option Rz) (rd : List Nat) (env : List C) : Option OY := match o with
  | some (ips, us) => if okP ips rd = true then (match g us with
    | some (.ok us' y) => some (.ok (putsP ips us' env) y)
    | some (.ex us' xd) => some (.xc (putsP ips us' env) xd)
    | none => none) else none
  | none => none
theorem ev_callP {g : List T → Option Rz} {rd : List Nat} : yCallP g rd rs env = oCallP (rs env) g rd env := (rfl)
theorem callP_ok {g : List T → Option Rz} {rd : List Nat} {ips : List IP} {us us' : List T} {y : T} (h : okP ips rd = true) (hg : g us = some (.ok us' y)) : oCallP (some (ips, us)) g rd env = some (.ok (putsP ips us' env) y) := by
  unfold oCallP; dsimp only; rw [if_pos h, hg]
theorem callP_ex {g : List T → Option Rz} {rd : List Nat} {ips : List IP} {us us' : List T} {xd : XD} (h : okP ips rd = true) (hg : g us = some (.ex us' xd)) : oCallP (some (ips, us)) g rd env = some (.xc (putsP ips us' env) xd) := by
  unfold oCallP; dsimp only; rw [if_pos h, hg]
theorem fzT_at {g : List C → Out} {d : D} {t : T} (h : env[i]? = some (.own none t)) (h2 : viewT t = some d) : sFzT i g env = g (env.set i (.val d)) := by
  unfold sFzT; rw [h]; dsimp only; rw [h2]
def oTxNN : Option (List C × T) → Option (List C × Bool) | some (e, .d c) => some (e, !isNT (.d c)) | _ => none
theorem ev_txNotN : txNotN gx env = oTxNN (gx env) := (rfl)
theorem ev_oTxNN_n : oTxNN (some (e, .d .none)) = some (e, false) := (rfl)
def oXOY : Option OY → Option (List C × T) | some (.ok e u) => some (e, u) | _ => none
theorem ev_xOfY {gy : List C → Option OY} : xOfY gy env = oXOY (gy env) := (rfl)
theorem ev_oXOY {y : T} : oXOY (some (.ok e y)) = some (e, y) := (rfl)
theorem ev_join {ys : List Str} {s : Str} (h : (((ys.map (·.length)).sum : Nat) : Int) + (ys.length : Int) * (s.length : Int) ≤ 16777216) : gJoin (.str s) (.list (ys.map .str)) = some (.str (Txt.join s ys)) := by
  show (strsD (ys.map .str)).bind _ = _
  rw [strsD_map, Option.bind_some, if_pos (by omega)]
theorem ev_split {s t : Str} (h : 0 < (t.length : Int)) (h2 : (s.length : Int) ≤ 16000000) : gSplit (.str s) (.str t) = some (.list ((Txt.split s t).map .str)) := if_pos ⟨by omega, by rw [sizeLine_eq]; omega⟩
theorem ev_part {s t : Str} (h : 0 < (t.length : Int)) (h2 : (s.length : Int) ≤ 16000000) : gPart (.str s) (.str t) = some (.tuple [.str (Txt.partition s t).1, .str (Txt.partition s t).2.1, .str (Txt.partition s t).2.2]) := if_pos ⟨by omega, by rw [sizeLine_eq]; omega⟩
theorem str_ok {n : Int} (h : n.natAbs < 2 ^ 1900) : gStr [.int n] = some (.str (toString n)) := by
  refine if_pos ?_
  by_cases z : n.natAbs = 0
  · rw [z]; decide
  · exact Nat.lt_trans ((Nat.log2_lt z).mpr h) (by decide)
theorem ev_tgL {k : List D → List C → Option (List C)} : tgL k (.list ds) env = k ds env := (rfl)
end
end DL
namespace DL
open PySem PySem.Spec L2
def EV0 := And.intro @ev_bs <| And.intro @ev_bn <| And.intro @ev_ms <| And.intro @ev_mn <| And.intro @ev_g0 <| And.intro @ev_gs <| And.intro @ev_s0 <| And.intro @ev_ss <| And.intro @ev_bn1 <| And.intro @ev_bn2 <| And.intro @ev_seq <| And.intro @ev_seq_nx <| And.intro @ev_seq_rt <| And.intro @ev_seq_bk <| And.intro @ev_seq_ct <| And.intro @ev_nil <| And.intro @ev_brk <| And.intro @ev_cnt <| And.intro @ev_if <| And.intro @ev_if_t <| And.intro @ev_if_f <| And.intro @ev_set <| And.intro @ev_oset <| And.intro @ev_setL <| And.intro @ev_osetL <| And.intro @ev_drop <| And.intro @ev_odrop <| And.intro @ev_ret <| And.intro @ev_oret <| And.intro @ev_retN <| And.intro @ev_retL <| And.intro @ev_oretL <| And.intro @ev_orun <| And.intro @ev_orunN <| And.intro @ev_orunN_nx <| And.intro @ev_fz <| And.intro @ev_fz_l <| And.intro @ev_fz_v <| And.intro @ev_app <| And.intro @ev_app_s <| And.intro @ev_clear <| And.intro @ev_clear_s <| And.intro @ev_oNx <| And.intro @ev_asg <| And.intro @ev_asg_s <| And.intro @ev_par <| And.intro @ev_par_s <| And.intro @ev_aug <| And.intro @ev_aug_s <| And.intro @ev_setIx <| And.intro @ev_setIx_s <| And.intro @ev_augIx <| And.intro @ev_dictN <| And.intro @ev_notInN <| And.intro @ev_oNotInN <| And.intro @ev_putN <| And.intro @ev_oPutN <| And.intro @ev_for <| And.intro @ev_ofor <| And.intro @ev_V <| And.intro @ev_L <| And.intro @ev_B <| @ev_rdV
def EV1 := And.intro @ev_rdLv <| And.intro @ev_rdLl <| And.intro @ev_rdBv <| And.intro @ev_rdBb <| And.intro @ev_C <| And.intro @ev_e2 <| And.intro @ev_o2 <| And.intro @ev_e1 <| And.intro @ev_e3 <| And.intro @ev_o3 <| And.intro @ev_pN <| And.intro @ev_pS <| And.intro @ev_oPS <| And.intro @ev_aNil <| And.intro @ev_aCons <| And.intro @ev_oCons <| And.intro @ev_tup <| And.intro @ev_lst <| And.intro @ev_oLst <| And.intro @ev_scal <| And.intro @ev_scal_i <| And.intro @ev_scal_s <| And.intro @ev_scal_b <| And.intro @ev_neg <| And.intro @ev_oNeg <| And.intro @ev_tB <| And.intro @ev_asB <| And.intro @ev_tNot <| And.intro @ev_tAnd <| And.intro @ev_tOr <| And.intro @ev_oAnd_t <| And.intro @ev_oAnd_f <| And.intro @ev_oOr_t <| And.intro @ev_oOr_f <| And.intro @ev_eAnd <| And.intro @ev_eOr <| And.intro @ev_oAndD_t <| And.intro @ev_oAndD_f <| And.intro @ev_oOrD_t <| And.intro @ev_oOrD_f <| And.intro @ev_eNot <| And.intro @ev_oNot <| And.intro @ev_isi <| And.intro @ev_isi_ii <| And.intro @ev_isi_ib <| And.intro @ev_isi_il <| And.intro @ev_isi_it <| And.intro @ev_isi_is <| And.intro @ev_isi_ll <| And.intro @ev_isi_lt <| And.intro @ev_isi_li <| And.intro @ev_isi_lb <| And.intro @ev_isi_tt <| And.intro @ev_isi_tl <| And.intro @ev_isi_ss <| And.intro @ev_isi_bb <| And.intro @ev_isi_bi <| And.intro @ev_isN <| And.intro @ev_notN <| And.intro @ev_oIsN_n <| And.intro @ev_oIsN_i <| And.intro @ev_oIsN_l <| @ev_oIsN_t
def EV2 := And.intro @ev_oNotN_n <| And.intro @ev_oNotN_i <| And.intro @ev_oNotN_l <| And.intro @ev_oNotN_t <| And.intro @ev_rev <| And.intro @ev_gRev <| And.intro @ev_iAny <| And.intro @ev_oAny_l <| And.intro @ev_oAny_t <| And.intro @ev_iSeqB <| And.intro @ev_oSeqB <| And.intro @ev_iEnum <| And.intro @ev_oEnum <| And.intro @ev_iZip <| And.intro @ev_oZip_ll <| And.intro @ev_oZip_tt <| And.intro @ev_oZip_lt <| And.intro @ev_oZip_tl <| And.intro @ev_iRng1 <| And.intro @ev_rng1_s <| And.intro @ev_iRng2 <| And.intro @ev_rng2_s <| And.intro @ev_tgN <| And.intro @ev_tgNil <| And.intro @ev_tgCons <| And.intro @ev_tgT <| And.intro @ev_wipe_nil <| And.intro @ev_wipe_cons <| And.intro @ev_lc <| And.intro @ev_oLc <| And.intro @ev_add <| And.intro @ev_addIS <| And.intro @ev_add_ll <| And.intro @ev_add_tt <| And.intro @ev_addL <| And.intro @ev_repL <| And.intro @ev_rep <| And.intro @ev_sub <| And.intro @ev_mul <| And.intro @ev_mod <| And.intro @ev_div <| And.intro @ev_modA <| And.intro @ev_divA <| And.intro @ev_pow <| And.intro @ev_lt <| And.intro @ev_le <| And.intro @ev_gt <| And.intro @ev_ge <| And.intro @ev_eq <| And.intro @ev_ne <| And.intro @ev_eqs <| And.intro @ev_nes <| And.intro @ev_eqb <| And.intro @ev_neb <| And.intro @ev_len <| And.intro @ev_lenT <| And.intro @ev_list <| And.intro @ev_listT <| And.intro @ev_tuple <| And.intro @ev_tupleT <| And.intro @ev_int <| And.intro @ev_intb <| @ev_sum
def EV3 := And.intro @ev_sum0 <| And.intro @ev_max2 <| And.intro @ev_min2 <| And.intro @ev_sl <| And.intro @ev_slT <| And.intro @ev_slL <| And.intro @ev_slB <| And.intro @ev_divAZ <| And.intro @ev_divZ <| And.intro @ev_onNx <| And.intro @ev_while <| And.intro @ev_eq_li <| And.intro @ev_ne_li <| And.intro @ev_eq_self <| And.intro @ev_ne_self <| And.intro @ev_eq_selfT <| And.intro @ev_ne_selfT <| And.intro @ev_ne_nil <| And.intro @ev_eq_nil <| And.intro @ev_sorted_i <| And.intro @ev_listRg <| And.intro @ev_oListRg <| And.intro @ev_in_ii <| And.intro @ev_thaw <| And.intro @ev_oThaw <| And.intro @ev_flatO <| And.intro @ev_tThaw <| And.intro @ev_otThaw <| And.intro @ev_move <| And.intro @ev_oMove <| And.intro @ev_iEnumG <| And.intro @ev_oEnumG_l <| And.intro @ev_oEnumG_t <| And.intro @ev_gNotB <| And.intro @ev_nD <| And.intro @ev_nL <| And.intro @ev_oNL <| And.intro @ev_xN <| And.intro @ev_nsNil <| And.intro @ev_nsCons <| And.intro @ev_oNs <| And.intro @ev_nDictQ <| And.intro @ev_nDictK <| And.intro @ev_nLst <| And.intro @ev_nTup <| And.intro @ev_toC_d <| And.intro @ev_toC_n <| And.intro @ev_setX <| And.intro @ev_oSetX <| And.intro @ev_setN <| And.intro @ev_oSetN <| And.intro @ev_dropX <| And.intro @ev_oDropX <| And.intro @ev_retX <| And.intro @ev_oRetX <| And.intro @ev_retXN <| And.intro @ev_seq_rx <| And.intro @ev_ifX <| And.intro @ev_oIfX_t <| And.intro @ev_oIfX_f <| And.intro @ev_oTxB <| And.intro @ev_txCmp <| @ev_oTxC
def EV4 := And.intro @ev_txP <| And.intro @ev_txNot <| And.intro @ev_oTxN <| And.intro @ev_pNm <| And.intro @ev_nodeAt <| And.intro @ev_oNode <| And.intro @ev_sub0 <| And.intro @ev_subS <| And.intro @ev_putAt <| And.intro @ev_oPutA <| And.intro @ev_put0 <| And.intro @ev_putS <| And.intro @ev_oTp <| And.intro @ev_rN <| And.intro @ev_cell_own <| And.intro @ev_cell_ro <| And.intro @ev_cell_val <| And.intro @ev_cell_lst <| And.intro @ev_roN <| And.intro @ev_oRo <| And.intro @ev_rF <| And.intro @ev_oRF <| And.intro @ev_rI <| And.intro @ev_oRI <| And.intro @ev_rLeaf <| And.intro @ev_oLeaf <| And.intro @ev_rFlat <| And.intro @ev_rView <| And.intro @ev_flatV1 <| And.intro @ev_flatV1d <| And.intro @ev_eOw <| And.intro @ev_oEow <| And.intro @ev_fldP <| And.intro @ev_ixP <| And.intro @ev_nd1 <| And.intro @ev_nd2 <| And.intro @ev_seq_xc <| And.intro @ev_rKK <| And.intro @ev_iKK <| And.intro @ev_oKK <| And.intro @ev_eLenO <| And.intro @ev_oLenO_l <| And.intro @ev_oLenO <| And.intro @ev_eListK <| And.intro @ev_oListK <| And.intro @ev_trInK <| And.intro @ev_trNinK <| And.intro @ev_raise1 <| And.intro @ev_oE1 <| And.intro @ev_raise2 <| And.intro @ev_oE2 <| And.intro @ev_raise0 <| And.intro @ev_setY <| And.intro @ev_oSetY_ok <| And.intro @ev_oSetY_xc <| And.intro @ev_try <| And.intro @ev_oTry_nx <| And.intro @ev_retPair <| And.intro @ev_oPair_vv <| And.intro @ev_oPair_vo <| And.intro @ev_xIx2 <| And.intro @ev_oIx2 <| @ev_rPl
def EV5 := And.intro @ev_oRPl <| And.intro @ev_forL <| And.intro @ev_oForL <| And.intro @ev_onlyRt <| And.intro @ev_eDn <| And.intro @ev_oDn_l <| And.intro @ev_oDn_d <| And.intro @ev_mpRo <| And.intro @ev_oMpRo <| And.intro @ev_mpNil <| And.intro @ev_runV <| And.intro @ev_eVw <| And.intro @ev_oVw <| And.intro @ev_sumA <| And.intro @ev_sumT <| And.intro @ev_eRlf <| And.intro @ev_oRlf <| And.intro @ev_fvS <| And.intro @ev_oFvS <| And.intro @ev_rNotN <| And.intro @ev_oNotNT_n <| And.intro @ev_oNotNT_x <| And.intro @ev_oNotNT_s <| And.intro @ev_rIsN <| And.intro @ev_oIsNT_n <| And.intro @ev_oIsNT_x <| And.intro @ev_oIsNT_s <| And.intro @ev_txB <| And.intro @ev_oTxV <| And.intro @ev_txAnd <| And.intro @ev_oTxAnd_t <| And.intro @ev_oTxAnd_f <| And.intro @ev_txOr <| And.intro @ev_oTxOr_t <| And.intro @ev_oTxOr_f <| And.intro @ev_setPair <| And.intro @ev_oSetP <| And.intro @ev_xCmp <| And.intro @ev_oXC <| And.intro @ev_fzA <| And.intro @ev_oFzA <| And.intro @ev_tLst <| And.intro @ev_oTLst <| And.intro @ev_fzR <| And.intro @ev_forA <| And.intro @ev_oForA <| And.intro @ev_dropY <| And.intro @ev_oDropY_ok <| And.intro @ev_oDropY_xc <| And.intro @ev_callP <| And.intro @ev_txNotN <| And.intro @ev_oTxNN_n <| And.intro @ev_xOfY <| And.intro @ev_oXOY <| And.intro @ev_join <| And.intro @ev_split <| And.intro @ev_part <| And.intro @ev_tgL <| And.intro @ev_ix <| And.intro @ev_ixT <| And.intro @ev_ixB <| @ev_ixBT
end DL
namespace DL
open PySem PySem.Spec L2 PyProof.Rows
def bigN : Nat := 1000000
theorem bigN_eq : bigN = 1000000 := (rfl)
section
variable {P : Program} {w : World} {K : PySem.W.Frag} {mg : Str → Option Value} {base : Heap} {k n : Nat} {c m : Str} {g : List T → Option Rz}
theorem metMX_of {C f : Addr} {fd : FuncData} {ps : List Str} (a1 : PySem.W.nsIn K mainGlobals c = some (some (.ref C))) (a2 : Cls K C) (a3 : Meth K C m f) (b : Binds K fd ps []) : MetMX P w K mg base 0 c m n (fun _ => none) := by
  refine ⟨⟨C, f, fd, ps, a1, a2, a3, ⟨fun vs H Q E h => ?_, fun A outer s H args us vs Q E _ _ _ _ h => ?_⟩, b⟩⟩
  · obtain ⟨_, _, _, _, _, _, _, z⟩ := h
    exact z.elim
  · obtain ⟨_, _, _, _, _, _, _, z⟩ := h
    exact z.elim
end
section
variable {X : Cx} {G : GC} {k : Nat} {lv : Nat} {m c : Str} {p pos apos : Pos} {o : Expr} {gp : List C → Option IP}
theorem dy_meth0 {g : List T → Option Rz} {pl : Sem Bool} (met : MetMX X.prog X.w X.K X.mg X.base lv c m 0 g) (hw : G.w = some X.w) (hr : Room lv X.A) (ho : DPl X G o gp)
    (ht : eval (.Call (.Attribute o m apos) [] [] pos) X.env = (do
      let ov ← eval o X.env
      standAt apos.atName
      let (f, first) ← holding [ov] (getMethod ov m pl)
      callWith pos f first (backTo pos (starEach [] X.env)) (backToKw pos (keywordEach [] X.env))) := by rfl) : DY X G (.Call (.Attribute o m apos) [] [] pos) (yMeth c m g gp nsNil) := by
  obtain ⟨C', fa, fd, ps, nC, cls, me, F, b⟩ := met.ex
  obtain ⟨t, pt, oo⟩ := ho.ex
  refine ⟨_, pe_methR0 pt cls me F hr b (fun σ => passAt takes_all σ) ht, fun σ H F fp env oy Q R hf q => ?_⟩
  unfold yMeth at hf
  split at hf
  · rename_i ip z1
    split at hf
    · rename_i c' fs ts z2
      split at hf
      · rename_i hc
        obtain ⟨rfl, hnone⟩ := hc
        split at hf
        · rename_i us z3
          cases z3
          have go : (match g [.n (.o c' fs) ts] with
              | some (.ok [u'] y) => oy = .ok (putAt env ip u') y
              | some (.ex [u'] x) => oy = .xc (putAt env ip u') x
              | _ => False) → tMethS C' m (spMX X.K X.w (true :: List.replicate 0 false) g) (WE (WS X)) t tNil σ H Q := fun hz => by
            refine oo σ H F fp env ip _ _ R z1 z2 fun v lu H1 F1 E1 P => ?_
            have rep := P.rep
            cases rep with
            | @n _ a vs _ own l0 r1 r2 r3 =>
              obtain ⟨hlv, C2, dx, rfl, n1, n2, n3⟩ := r1
              rw [nC] at n1; cases n1
              refine ⟨a, dx, _, rfl, n2, fIx_none hnone, ?_⟩
              have R2 := R.ext E1
              have hrep := P.rep
              rw [hw] at hrep
              have hwa : wAll [(a, [a, dx] ++ l0)] = [a, dx] ++ l0 := by simp [wAll]
              refine ⟨F1, [_], [(a, [a, dx] ++ l0)], R2.sub, .mu hrep .nil, by rw [hwa]; exact hrep.nodup, fun b hb => ?_, ?_⟩
              · rw [hwa] at hb
                exact ⟨(R2.own ip.1 b (P.mem hb)).1, (R2.own ip.1 b (P.mem hb)).2.1⟩
              · split at hz
                · rename_i u' y zg
                  subst hz
                  rw [zg]
                  intro v H' F' ls' lr pm
                  obtain ⟨u2, fp', eu, R', nn⟩ := R2.called (n := 0) hw P pm
                  cases eu
                  exact q v H' F' fp' lr R' (E1.f.trans pm.f) nn
                · rename_i u' x zg
                  subst hz
                  rw [zg]
                  intro cls d H' F' ls' lr hc pm
                  obtain ⟨u2, fp', eu, R', nn⟩ := R2.called (n := 0) hw P pm
                  cases eu
                  exact q cls d H' F' fp' lr R' (E1.f.trans pm.f) hc nn
                · exact hz.elim
          split at hf
          · rename_i ds u' y zf zg
            cases hf
            exact go (by rw [zg])
          · rename_i ds u' x zf zg
            cases hf
            exact go (by rw [zg])
          · cases hf
        · cases hf
      · cases hf
    · cases hf
  · cases hf
end
inductive OYs where
  | ok (env : List C) (ds : List D) | xc (env : List C) (x : XD)
structure DYs (X : Cx) (G : GC) (es : List Expr) (g : List C → Option OYs) : Prop where
  ex : ∃ t, PA X es t ∧ ∀ (σ : L2.St) (H F : Hp) (fp : Nat → List Addr) (env : List C) (o : OYs) (Q : List V → Hp → Prop), Rel X.K G env σ H F fp → g env = some o →
    (match o with
      | .ok env' ds => ∀ vs H' F' fp', Rel X.K G env' σ H' F' fp' → Same F F' → DFAll X.K F' vs ds → Q vs H'
      | .xc env' x => ∀ cls d H' F' fp' l, Rel X.K G env' σ H' F' fp' → Same F F' → XC X.K x.c cls → New X.K G H' F' fp' (vX d) (XT x) l → WS X cls d σ H') → t σ H Q
section
variable {X : Cx} {G : GC} {k : RK} {ks : List RK} {e : Expr} {es : List Expr} {f : List C → Option D} {fs : List C → Option (List D)} {gy : List C → Option OY} {g : List C → Option OYs} {pos : Pos}
def ysCons (f : List C → Option D) (g : List C → Option OYs) : List C → Option OYs := fun env => match f env with
  | some d => (match g env with
    | some (.ok e ds) => some (.ok e (d :: ds))
    | some (.xc e x) => some (.xc e x)
    | none => none)
  | none => none
def ysHere (gy : List C → Option OY) (fs : List C → Option (List D)) : List C → Option OYs := fun env => match gy env with
  | some (.ok e (.d d)) => (match fs e with
    | some ds => some (.ok e (d :: ds))
    | none => none)
  | some (.xc e x) => some (.xc e x)
  | _ => none
theorem dys_cons (h : DE X G k e f) (ht : DYs X G es g) (hk : k.le .fz = true := by rfl) (hs : starEach (e :: es) X.env = (false, eval e X.env) :: starEach es X.env := by rfl) : DYs X G (e :: es) (ysCons f g) := by
  obtain ⟨t, pt, o⟩ := (h.conv hk).ex
  obtain ⟨t2, pt2, o2⟩ := ht.ex
  refine ⟨_, pa_cons pt pt2 hs, fun σ H F fp env oo Q R hf q => ?_⟩
  unfold ysCons at hf
  split at hf
  · rename_i d z
    refine o σ H F fp env d _ R z fun v H1 F1 E1 r1 => ?_
    split at hf
    · rename_i e' ds z2
      cases hf
      refine o2 σ H1 F1 fp env _ _ (R.ext E1) z2 fun vs H2 F2 fp2 R2 s2 r2 => ?_
      exact q (v :: vs) H2 F2 fp2 R2 (E1.f.trans s2) (.cons (DF_mono s2 d _ r1) r2)
    · rename_i e' x z2
      cases hf
      refine o2 σ H1 F1 fp env _ _ (R.ext E1) z2 fun cls d H2 F2 fp2 l R2 s2 hc n => ?_
      exact q cls d H2 F2 fp2 l R2 (E1.f.trans s2) hc n
    · cases hf
  · cases hf
theorem dys_here (h : DY X G e gy) (ht : DA X G ks es fs) (hk : allFz ks = true := by rfl) (hs : starEach (e :: es) X.env = (false, eval e X.env) :: starEach es X.env := by rfl) : DYs X G (e :: es) (ysHere gy fs) := by
  obtain ⟨t, pt, o⟩ := h.ex
  obtain ⟨t2, pt2, o2⟩ := ht.ex
  refine ⟨_, pa_cons pt pt2 hs, fun σ H F fp env oo Q R hf q => ?_⟩
  unfold ysHere at hf
  split at hf
  · rename_i e' d z
    split at hf
    · rename_i ds z2
      cases hf
      refine o σ H F fp env _ _ R z fun v H1 F1 fp1 l R1 s1 n1 => ?_
      have dv : DF X.K F1 v d := by
        have := n1.rep
        cases this with
        | d r => exact r
      refine o2 σ H1 F1 fp1 e' ds _ R1 z2 fun vs H2 F2 E2 r2 => ?_
      exact q (v :: vs) H2 F2 fp1 (R1.ext E2) (s1.trans E2.f) (.cons (DF_mono E2.f d _ dv) (RepKs_fz hk r2))
    · cases hf
  · rename_i e' x z
    cases hf
    exact o σ H F fp env _ _ R z fun cls d H1 F1 fp1 l R1 s1 hc n1 => q cls d H1 F1 fp1 l R1 s1 hc n1
  · cases hf
theorem aNil_len : ∀ (env : List C) (ds : List D), aNil env = some ds → ds.length ≤ 0 := fun env ds h => by cases h; exact Nat.le_refl _
theorem aCons_len {n : Nat} (h : ∀ env ds, fs env = some ds → ds.length ≤ n) : ∀ env ds, aCons f fs env = some ds → ds.length ≤ n + 1 := fun env ds z => by
  unfold aCons at z
  cases z1 : f env with
  | none => rw [z1] at z; cases z
  | some d =>
    cases z2 : fs env with
    | none => rw [z1, z2] at z; cases z
    | some es =>
      rw [z1, z2] at z
      cases z
      have := h env _ z2
      rw [List.length_cons]; omega
theorem ysHere_len {n : Nat} (h : ∀ env ds, fs env = some ds → ds.length ≤ n) : ∀ env e ds, ysHere gy fs env = some (.ok e ds) → ds.length ≤ n + 1 := fun env e ds z => by
  unfold ysHere at z
  split at z
  · split at z
    · rename_i es z2
      cases z
      have := h _ _ z2
      rw [List.length_cons]; omega
    · cases z
  · cases z
  · cases z
theorem ysCons_len {n : Nat} (h : ∀ env e ds, g env = some (.ok e ds) → ds.length ≤ n) : ∀ env e ds, ysCons f g env = some (.ok e ds) → ds.length ≤ n + 1 := fun env e ds z => by
  unfold ysCons at z
  split at z
  · split at z
    · rename_i e2 es z2
      cases z
      have := h _ _ _ z2
      rw [List.length_cons]; omega
    · cases z
    · cases z
  · cases z
def yTup (g : List C → Option OYs) : List C → Option OY := fun env => match g env with
  | some (.ok e ds) => some (.ok e (.d (.tuple ds)))
  | some (.xc e x) => some (.xc e x)
  | none => none
theorem dy_tup {x1} {n : Nat} (h : DYs X G es g) (hl : ∀ env e ds, g env = some (.ok e ds) → ds.length ≤ n) (hn : n ≤ 1000 := by decide) : DY X G (.Tuple es x1 pos) (yTup g) := by
  obtain ⟨t, pt, o⟩ := h.ex
  refine ⟨_, pe_tup pt, fun σ H F fp env oo Q R hf q => ?_⟩
  unfold yTup at hf
  split at hf
  · rename_i e' ds z
    cases hf
    refine o σ H F fp env _ _ R z fun vs H1 F1 fp1 R1 s1 r1 => ?_
    have ll := DFAll_len r1
    have l2 := hl _ _ _ z
    refine ⟨line1000 (by omega), fun m nn => ?_⟩
    obtain ⟨E, r'⟩ := new_tup R1.sub nn r1
    exact q _ _ _ fp1 [] (R1.ext E) (s1.trans E.f) ⟨.d r', (fun _ m => nomatch m), (fun _ m => nomatch m)⟩
  · rename_i e' x z
    cases hf
    exact o σ H F fp env _ _ R z fun cls d H1 F1 fp1 l R1 s1 hc n1 => q cls d H1 F1 fp1 l R1 s1 hc n1
  · cases hf
def yLst (g : List C → Option OYs) : List C → Option OY := fun env => match g env with
  | some (.ok e ds) => some (.ok e (.n .l (ds.map T.d)))
  | some (.xc e x) => some (.xc e x)
  | none => none
theorem dy_lst {n : Nat} (h : DYs X G es g) (hl : ∀ env e ds, g env = some (.ok e ds) → ds.length ≤ n) (hn : n ≤ 1000 := by decide) : DY X G (.List es pos) (yLst g) := by
  obtain ⟨t, pt, o⟩ := h.ex
  refine ⟨_, pe_lst pt, fun σ H F fp env oo Q R hf q => ?_⟩
  unfold yLst at hf
  split at hf
  · rename_i e' ds z
    cases hf
    refine o σ H F fp env _ _ R z fun vs H1 F1 fp1 R1 s1 r1 => ?_
    have ll := DFAll_len r1
    have l2 := hl _ _ _ z
    refine ⟨line1000 (by omega), fun m nn => ?_⟩
    obtain ⟨E, r'⟩ := new_ow (G := G) R1.sub nn r1
    obtain ⟨a, vs', ds', ea, ed, h1, h2, h3, h4⟩ := r'
    cases ea
    cases ed
    refine q _ _ _ fp1 ([m] ++ []) (R1.ext E) (s1.trans E.f) (R1.fresh E (.n ⟨rfl, h2⟩ (rep_flatT h4) (by simp)) fun b hb => ?_)
    have e : b = m := by simpa using hb
    subst e
    exact ⟨h1, h3, by rw [h2]; intro z; cases z⟩
  · rename_i e' x z
    cases hf
    exact o σ H F fp env _ _ R z fun cls d H1 F1 fp1 l R1 s1 hc n1 => q cls d H1 F1 fp1 l R1 s1 hc n1
  · cases hf
def yAppX (i : Nat) (g : List C → Option OY) : List C → Option OY := fun env => match nodeAt env (i, []), g env with
  | some (.n .l _), some (.ok env1 u) => (match nodeAt env1 (i, []) with
    | some (.n .l ts) => if ts.length < 16000000 then some (.ok (putAt env1 (i, []) (.n .l (ts ++ [u]))) (.d .none)) else none
    | _ => none)
  | some (.n .l _), some (.xc env1 x) => some (.xc env1 x)
  | _, _ => none
theorem dy_appX {x : Str} {p1 p2 p3 : Pos} (i : Nat) (hv : PE X (.Name x p1) (tVar i)) (h : DY X G e gy) (hs : starEach [e] X.env = [(false, eval e X.env)] := by rfl)
    (hbm : ∀ (r : V → List V → Hp → VK → Prop) (t : TA), MtM X "list.append" r → PA X [e] t → PE X (.Call (.Attribute (.Name x p1) "append" p2) [e] [] p3) (tBM X.K "list" r (tVar i) t) := by exact fun r t hm ha => pe_bm PySem.F.plainAttrs_list PySem.F.slot_list_append PySem.F.type_list_append hm (pv _) ha) : DY X G (.Call (.Attribute (.Name x p1) "append" p2) [e] [] p3) (yAppX i gy) := by
  obtain ⟨tv, pv, ov⟩ := h.ex
  refine ⟨_, hbm _ _ mt_append (pa_cons pv pa_nil hs), fun σ H F fp env oo Q R hg q => ?_⟩
  unfold yAppX at hg
  split at hg
  · rename_i z0 zg ts0 env1 u' z1 z2
    obtain ⟨m0, t0, e0, hs0⟩ := nodeAt_of z1
    obtain ⟨v0, s0, P0⟩ := R.place e0
    cases hs0
    split at hg
    · rename_i ts z3
      split at hg <;> cases hg
      rename_i hlen
      have hr0 := P0.rep
      refine ⟨v0, s0, ?_, ?_⟩
      · obtain ⟨a, vs, rfl, hH⟩ := or_l hr0
        exact .inl ⟨rfl, _, .inl (.inl hH)⟩
      refine ov σ H F fp env _ _ R z2 fun y H1 F1 fp1 ln R1 s1 n1 => ?_
      obtain ⟨m1, t1, e1, hs1⟩ := nodeAt_of z3
      obtain ⟨v1, s1', P1⟩ := R1.place e1
      rw [s0] at s1'
      cases s1'
      cases hs1
      obtain ⟨a, vs, rfl, hl, hH, _, fp', R'⟩ := item_store R1 P1 n1
      refine ⟨a, vs, y, rfl, rfl, hH, by rw [hl, sizeLine_eq]; omega, ?_⟩
      exact q .non _ F1 fp' [] R' s1 ⟨.d .non, (fun _ m => nomatch m), (fun _ m => nomatch m)⟩
    · cases hg
  · rename_i z0 zg ts0 env1 x z1 z2
    cases hg
    obtain ⟨m0, t0, e0, hs0⟩ := nodeAt_of z1
    obtain ⟨v0, s0, P0⟩ := R.place e0
    cases hs0
    have hr0 := P0.rep
    refine ⟨v0, s0, ?_, ?_⟩
    · obtain ⟨a, vs, rfl, hH⟩ := or_l hr0
      exact .inl ⟨rfl, _, .inl (.inl hH)⟩
    exact ov σ H F fp env _ _ R z2 fun cls d H1 F1 fp1 l R1 s1 hc n1 => q cls d H1 F1 fp1 l R1 s1 hc n1
  · cases hg
def whileX (c : List C → Option (List C × Bool)) (b : List C → Out) : Nat → List C → Out
  | 0, _ => .err
  | n + 1, env => match c env with
    | none => .err
    | some (e0, false) => .nx e0
    | some (e0, true) => match b e0 with
      | .nx e' => whileX c b n e'
      | .ct e' => whileX c b n e'
      | .bk e' => .nx e'
      | .rt d => .rt d
      | .err => .err
      | .rx e t => .rx e t
      | .xc e x => .xc e x
def sWhileX (fuel : List C → Nat) (c : List C → Option (List C × Bool)) (b : List C → Out) : List C → Out := fun env => whileX c b (fuel env) env
theorem ds_whileX {kr : RK} {body : List Stmt} {fb : List C → Out} {ft : List C → Option (List C × Bool)} (fuel : List C → Nat) (hp : PassesOwn (model X.prog X.w) X.A X.env X.xe) (hc : DTX X G e ft) (hb : DSs X G kr body fb) : DS X G kr (.While e body [] pos) (sWhileX fuel ft fb) := by
  obtain ⟨tc, pc, oc⟩ := hc.ex
  obtain ⟨tb, pb, ob⟩ := hb.ex
  refine ⟨_, ps_while hp pc pb, fun σ H F fp env E R q => ?_⟩
  unfold sWhileX at q
  refine ⟨fun m σ H => ∃ env fp F, Rel X.K G env σ H F fp ∧ Post X G kr F E (whileX ft fb m env), ⟨fuel env, env, fp, F, R, q⟩, ?_⟩
  rintro m σ2 H2 ⟨env2, fp2, F2, R2, q2⟩
  cases m with
  | zero => exact q2.elim
  | succ m =>
    unfold whileX at q2
    cases z : ft env2 with
    | none => simp only [z] at q2; exact q2.elim
    | some p =>
      obtain ⟨env3, b⟩ := p
      refine oc σ2 H2 F2 fp2 env2 env3 b _ R2 z fun H3 F3 fp3 R3 s3 => ?_
      cases b with
      | false =>
        simp only [z] at q2
        exact iteF (q2 σ2 H3 F3 fp3 R3 s3)
      | true =>
        simp only [z] at q2
        refine iteT ⟨fun σ' H' => ∃ env' fp' F', Rel X.K G env' σ' H' F' fp' ∧ Post X G kr F' E (whileX ft fb m env'), fun σ' H' n => ⟨m, Nat.lt_succ_self m, n⟩, ?_⟩
        refine ob σ2 H3 F3 fp3 env3 _ R3 ?_
        cases z3 : fb env3 with
        | nx e'' =>
          simp only [z3] at q2
          exact fun σ5 H5 F5 fp5 R5 s5 => ⟨e'', fp5, F5, R5, Post.mono (s3.trans s5) q2⟩
        | ct e'' =>
          simp only [z3] at q2
          exact fun σ5 H5 F5 fp5 R5 s5 => ⟨e'', fp5, F5, R5, Post.mono (s3.trans s5) q2⟩
        | bk e'' =>
          simp only [z3] at q2
          exact fun σ5 H5 F5 fp5 R5 s5 => q2 σ5 H5 F5 fp5 R5 (s3.trans s5)
        | rt d' => simp only [z3] at q2; exact q2
        | err => simp only [z3] at q2; exact q2
        | rx _ _ => simp only [z3] at q2; exact q2
        | xc _ _ => simp only [z3] at q2; exact fun cls d σ' H' F' fp' l R s => q2 cls d σ' H' F' fp' l R (s3.trans s)
def yX (g : List C → Option (List C × T)) : List C → Option OY := fun env => (g env).map fun p => .ok p.1 p.2
theorem dy_x {gx : List C → Option (List C × T)} (h : DX X G e gx) : DY X G e (yX gx) := by
  obtain ⟨t, p, o⟩ := h.ex
  refine ⟨t, p, fun σ H F fp env oo Q R hf q => ?_⟩
  unfold yX at hf
  cases z : gx env with
  | none => rw [z] at hf; cases hf
  | some r =>
    rw [z] at hf
    cases hf
    exact o σ H F fp env r.1 r.2 Q R z q
def x1T (g : List D → Option D) (gx : List C → Option (List C × T)) : List C → Option (List C × T) := fun env => match gx env with
  | some (e, .d d) => (match g [d] with | some y => some (e, .d y) | none => none)
  | _ => none
theorem dx_callT1 {x : Str} {Ty : String} {p : Pos} {g : List D → Option D} {gx : List C → Option (List C × T)} (o : DCall X G (.type Ty) [.vw] .fz g) (hg : Gl X x) (hm : X.mg x = none) (hv : bootBuiltins x = some (.type Ty)) (h : DX X G e gx) (hn : x ≠ "__name__" := by decide) (hdb : (x == ("__debug__" : Str)) = false := by decide)
    (he : starEach [e] X.env = (false, eval e X.env) :: starEach [] X.env := by rfl) (hpl : (backTo pos (starEach [] X.env)).any (·.1) = false := by rfl) : DX X G (.Call (.Name x p) [e] [] pos) (x1T g gx) := by
  obtain ⟨r, hr, o⟩ := o.ex
  obtain ⟨t, pt, ox⟩ := h.ex
  refine ⟨_, pe_callTy (callr_len hr) hg hm hv (pa_cons pt pa_nil he) hn hdb he hpl, fun σ H F fp env env' u Q R hf q => ?_⟩
  unfold x1T at hf
  split at hf
  · rename_i e0 d z
    split at hf
    · rename_i y z2
      cases hf
      refine ox σ H F fp env _ _ _ R z fun v H1 F1 fp1 l R1 s1 n1 => ?_
      have dv : DF X.K F1 v d := by
        have := n1.rep
        cases this with
        | d r => exact r
      intro lk
      exact o H1 F1 [v] [d] y Q R1.sub R1.kpSame lk ⟨fz_A R1.sub rfl dv, trivial⟩ z2 fun v2 H2 F2 E2 r2 => q v2 H2 F2 fp1 [] (R1.ext E2) (s1.trans E2.f) ⟨.d r2, (fun _ m => nomatch m), (fun _ m => nomatch m)⟩
    · cases hf
  · cases hf
theorem aNil_eq : ∀ (env : List C) (ds : List D), aNil env = some ds → ds.length = 0 := fun env ds h => by cases h; rfl
theorem aCons_eq {n : Nat} (h : ∀ env ds, fs env = some ds → ds.length = n) : ∀ env ds, aCons f fs env = some ds → ds.length = n + 1 := fun env ds z => by
  unfold aCons at z
  cases z1 : f env with
  | none => rw [z1] at z; cases z
  | some d =>
    cases z2 : fs env with
    | none => rw [z1, z2] at z; cases z
    | some es =>
      rw [z1, z2] at z
      cases z
      have := h env _ z2
      rw [List.length_cons]; omega
theorem ysHere_eq {n : Nat} (h : ∀ env ds, fs env = some ds → ds.length = n) : ∀ env e ds, ysHere gy fs env = some (.ok e ds) → ds.length = n + 1 := fun env e ds z => by
  unfold ysHere at z
  split at z
  · split at z
    · rename_i es z2
      cases z
      have := h _ _ z2
      rw [List.length_cons]; omega
    · cases z
  · cases z
  · cases z
theorem ysCons_eq {n : Nat} (h : ∀ env e ds, g env = some (.ok e ds) → ds.length = n) : ∀ env e ds, ysCons f g env = some (.ok e ds) → ds.length = n + 1 := fun env e ds z => by
  unfold ysCons at z
  split at z
  · split at z
    · rename_i e2 es z2
      cases z
      have := h _ _ _ z2
      rw [List.length_cons]; omega
    · cases z
    · cases z
  · cases z
theorem repKs_of {K : PySem.W.Frag} {H F : Hp} : ∀ (ks : List RK) {vs : List V} {ds : List D}, allFz ks = true → ds.length = ks.length → DFAll K F vs ds → RepKs K G H F ks vs ds
  | [], _, _, _, hl, h => by
    cases h with
    | nil => trivial
    | cons _ _ => cases hl
  | k :: ks, _, _, hk, hl, h => by
    cases h with
    | nil => cases hl
    | cons a b =>
      have e : (match k with | .fz => true | _ => false) = true ∧ allFz ks = true := by
        cases k <;> first | (cases hk; done) | exact ⟨rfl, hk⟩
      have q := repKs_of (H := H) ks e.2 (by simpa using hl) b
      cases k with
      | fz => exact ⟨a, q⟩
      | _ => cases hk
def yCallD (g : List D → Option D) (f : List C → Option OYs) : List C → Option OY := fun env => match f env with
  | some (.ok e ds) => (g ds).map fun d => .ok e (.d d)
  | some (.xc e x) => some (.xc e x)
  | none => none
theorem dy_callD {f : List C → Option OYs} {g : List D → Option D} {n : Nat} {x : Str} {p : Pos} (cal : Callee X.prog X.w X.K X.mg X.base n x ks .fz g) (hr : Room n X.A) (hg : Gl X x) (ha : DYs X G (e :: es) f) (hl : ∀ env e ds, f env = some (.ok e ds) → ds.length = ks.length) (hk : allFz ks = true := by rfl) (hp : okPs ks = true := by rfl) (hdb : (x == ("__debug__" : Str)) = false := by decide)
    (he : starEach (e :: es) X.env = (false, eval e X.env) :: starEach es X.env := by rfl) (hpl : (backTo pos (starEach es X.env)).any (·.1) = false := by rfl) : DY X G (.Call (.Name x p) (e :: es) [] pos) (yCallD g f) := by
  obtain ⟨fa, fd, ps, F, hm, kp, b⟩ := cal.ex
  obtain ⟨t, pt, oa⟩ := ha.ex
  refine ⟨_, pe_call F hr hg hm kp b .nil pass0 pt hdb he hpl, fun σ H F fp env oo Q R hf q => ?_⟩
  unfold yCallD at hf
  split at hf
  · rename_i env1 ds z
    cases z2 : g ds with
    | none => rw [z2] at hf; cases hf
    | some d =>
      rw [z2] at hf; cases hf
      refine oa σ H F fp env _ _ R z fun vs H1 F1 fp1 R1 s1 r1 => ?_
      rw [List.append_nil]
      exact ⟨F1, ds, d, R1.sub, z2, repKs_of ks hk (hl _ _ _ z) r1, fun v H' F' E r => q v H' F' fp1 [] (R1.ext E) (s1.trans E.f) ⟨.d r, (fun _ m => nomatch m), (fun _ m => nomatch m)⟩⟩
  · rename_i env1 x z
    cases hf
    exact oa σ H F fp env _ _ R z fun cls d H1 F1 fp1 l R1 s1 hc n1 => q cls d H1 F1 fp1 l R1 s1 hc n1
  · cases hf
def allF : List Bool → Bool
  | [] => true
  | b :: bs => !b && allF bs
theorem mapRo {K : PySem.W.Frag} {env : List C} {σ : L2.St} {H F : Hp} {fp : Nat → List Addr} : ∀ (ks : List Bool) {vs : List V} {ds : List D}, allF ks = true → ds.length = ks.length → DFAll K F vs ds → MAp K G env σ H F fp [] ks [] vs (ds.map T.d) []
  | [], _, _, _, hl, h => by
    cases h with
    | nil => exact .nil
    | cons _ _ => cases hl
  | k :: ks, _, _, hk, hl, h => by
    cases h with
    | nil => cases hl
    | cons a b =>
      cases k with
      | true => cases hk
      | false => exact .ro (.d a) (fun _ m => nomatch m) (mapRo ks hk (by simpa using hl) b)
def yCallY (g : List T → Option Rz) (f : List C → Option OYs) : List C → Option OY := fun env => match f env with
  | some (.ok e ds) => (match g (ds.map T.d) with
    | some (.ok _ y) => some (.ok e y)
    | some (.ex _ xd) => some (.xc e xd)
    | none => none)
  | some (.xc e x) => some (.xc e x)
  | none => none
theorem putsP_nil (us : List T) (env : List C) : putsP [] us env = env := by cases us <;> rfl
theorem dy_callY {f : List C → Option OYs} {g : List T → Option Rz} {lv : Nat} {bs : List Bool} {x : Str} {p : Pos} (cal : CalX X.prog X.w X.K X.mg X.base lv x bs g) (hw : G.w = some X.w) (hr : Room lv X.A) (hg : Gl X x) (ha : DYs X G (e :: es) f) (hl : ∀ env e ds, f env = some (.ok e ds) → ds.length = bs.length) (hk : allF bs = true := by rfl) (hdb : (x == ("__debug__" : Str)) = false := by decide)
    (he : starEach (e :: es) X.env = (false, eval e X.env) :: starEach es X.env := by rfl) (hpl : (backTo pos (starEach es X.env)).any (·.1) = false := by rfl) : DY X G (.Call (.Name x p) (e :: es) [] pos) (yCallY g f) := by
  obtain ⟨fa, fd, ps, F, hm, kp, b⟩ := cal.ex
  obtain ⟨t, pt, oa⟩ := ha.ex
  refine ⟨_, pe_callS F hr hg hm kp b (fun σ => passAt takes_all σ) pt hdb he hpl, fun σ H F fp env oy Q R hf q => ?_⟩
  unfold yCallY at hf
  split at hf
  · rename_i env1 ds z
    refine oa σ H F fp env _ _ R z fun vs H1 F1 fp1 R1 s1 r1 => ?_
    have ma := mapRo (G := G) (env := env1) (σ := σ) (H := H1) (fp := fp1) bs hk (hl _ _ _ z) r1
    obtain ⟨ws, m1, m2, m3, e⟩ := ma.spM hw R1 (by decide)
    refine ⟨F1, ds.map T.d, ws, R1.sub, m1, m2, m3, ?_⟩
    split at hf
    · rename_i us' y z2
      cases hf
      try rw [z2]
      intro v H' F' ls' lr pm
      obtain ⟨fp', R', n'⟩ := R1.calledP hw ma (by decide) e pm
      rw [putsP_nil] at R'
      exact q v H' F' fp' lr R' (s1.trans pm.f) n'
    · rename_i us' xd z2
      cases hf
      try rw [z2]
      intro cls d H' F' ls' lr hc pm
      obtain ⟨fp', R', n'⟩ := R1.calledP hw ma (by decide) e pm
      rw [putsP_nil] at R'
      exact q cls d H' F' fp' lr R' (s1.trans pm.f) hc n'
    · cases hf
  · rename_i env1 x z
    cases hf
    exact oa σ H F fp env _ _ R z fun cls d H1 F1 fp1 l R1 s1 hc n1 => q cls d H1 F1 fp1 l R1 s1 hc n1
  · cases hf
end
theorem calX_of {P : Program} {w : World} {K : PySem.W.Frag} {mg : Str → Option Value} {base : Heap} {x : Str} {ks : List Bool} {f : Addr} {fd : FuncData} {ps : List Str} (hm : mg x = some (.ref f)) (kp : PySem.W.keepIn K (.ref f) = true) (b : Binds K fd ps []) : CalX P w K mg base 0 x ks (fun _ => none) := by
  refine ⟨⟨f, fd, ps, ⟨fun vs H Q E h => ?_, fun A outer s H args us vs Q E _ _ _ _ h => ?_⟩, hm, kp, b⟩⟩
  · obtain ⟨_, _, _, _, _, _, _, z⟩ := h
    exact z.elim
  · obtain ⟨_, _, _, _, _, _, _, z⟩ := h
    exact z.elim
end DL
namespace DL
open PySem PySem.Spec L2 PyProof.Rows
abbrev FrK := PySem.W.Frag
def stepH (g : Addr → Option Obj) (l : List Addr) : List Addr := l.flatMap fun a => match g a with
  | some o => He.refsO o
  | none => []
def upH (g : Addr → Option Obj) : Nat → List Addr → List Addr
  | 0, l => l
  | n + 1, l => l ++ upH g n (stepH g l)
def KH (g : Addr → Option Obj) : FrK := He.frG g (upH g 4 [mainGlobals] ++ [cStatics])
structure PartK where
  ck : List (FrK → Bool)
  fn : List He.FnD
def PartK.see (p : PartK) (K : FrK) : Bool × List He.FnV := ((p.ck.all fun f => f K) && p.fn.all fun d => (He.Fa.code d.at_ d.qual).ok K, p.fn.map fun d => He.fnObs K d.at_)
def PartK.due (p : PartK) : Bool × List He.FnV := (true, p.fn.map He.FnD.val)
def SaysK (ps : List PartK) (K : FrK) : Prop := ∀ p ∈ ps, p.see K = p.due
def obK (ps : List PartK) (g : Addr → Option Obj) : List (Bool × List He.FnV) := ps.map fun p => p.see (KH g)
theorem says_of {ps : List PartK} {K : FrK} (h : ps.map (fun p => p.see K) = ps.map PartK.due) : SaysK ps K := by
  induction ps with
  | nil => exact fun _ m => nomatch m
  | cons p ps ih =>
    simp only [List.map_cons, List.cons.injEq] at h
    intro q hq
    rcases List.mem_cons.mp hq with e | m
    · rw [e]; exact h.1
    · exact ih h.2 q m
def hookK (ps : List PartK) : PySem.W.Hook where
  α := List (Bool × List He.FnV)
  obs := fun s => obK ps s.heap.get?
  val := fun _ => ps.map PartK.due
  says := fun _ h => ∃ K : FrK, K.In h ∧ SaysK ps K
  of := fun _ _ e => ⟨_, He.frG_in, says_of e⟩
  keeps := fun _ _ _ ⟨K, hK, c⟩ k => ⟨K, PySem.W.Frag.In.keeps hK k, c⟩
def obT (ps : List PartK) (s : PySem.W.SharedT) : List (Bool × List He.FnV) := obK ps (HandSHeadRun.getT s)
theorem obT_eq (ps : List PartK) (s : PySem.W.SharedT) : obT ps s = (hookK ps).obs s.abs := by
  have e : HandSHeadRun.getT s = s.abs.heap.get? := funext fun a => HandSHeadRun.getT_eq s a
  show obK ps (HandSHeadRun.getT s) = obK ps s.abs.heap.get?
  rw [e]
section
variable {r : PySem.W.OpenRow} {q : Program} {M : Nat} {loose : List Str} {w : World} {p : PartK} {ps : List PartK}
theorem run_add (h1 : HandSHeadRun.RunEq r q (hookK [p]) (obT [p]) M loose w) (h2 : HandSHeadRun.RunEq r q (hookK ps) (obT ps) M loose w) : HandSHeadRun.RunEq r q (hookK (p :: ps)) (obT (p :: ps)) M loose w := fun os => by
  have a := h1 os
  have b := h2 os
  generalize HandSHeadRun.endF (HandSHeadRun.stepQ (HandSHeadRun.denQ HandSHeadRun.tabQ) r.prog w) M r.prog w os = z at a b ⊢
  cases z with
  | none => exact absurd a (by rw [Option.map_none]; exact fun z => nomatch z)
  | some s =>
    have a1 := Option.some.inj a
    have b1 := Option.some.inj b
    have a3 := congrArg (fun x => x.2.2) a1
    have b3 := congrArg (fun x => x.2.2) b1
    have a3' : [p.see (KH (HandSHeadRun.getT s))] = [p.due] := a3
    have b3' : ps.map (fun p => p.see (KH (HandSHeadRun.getT s))) = ps.map PartK.due := b3
    have e : obT (p :: ps) s = (p :: ps).map PartK.due := by
      show p.see (KH (HandSHeadRun.getT s)) :: ps.map (fun p => p.see (KH (HandSHeadRun.getT s))) = p.due :: ps.map PartK.due
      rw [b3']
      simp only [List.cons.injEq, and_true] at a3'
      rw [a3']
    have f1 := congrArg (fun x => x.1) a1
    have f2 := congrArg (fun x => x.2.1) a1
    dsimp only at f1 f2
    show some (_, _, obT (p :: ps) s) = some (true, PySem.W.openGood q loose, (p :: ps).map PartK.due)
    rw [f1, f2, e]
end
section
variable {ps : List PartK} {p : PartK} {K : FrK}
theorem SaysK.ck (c : SaysK ps K) (i : Nat) (h : ps[i]? = some p) (j : Nat) {f : FrK → Bool} (hf : p.ck[j]? = some f) : f K = true := by
  have e := congrArg Prod.fst (c p (List.mem_of_getElem? h))
  have e1 : ((p.ck.all fun f => f K) && p.fn.all fun d => (He.Fa.code d.at_ d.qual).ok K) = true := e
  exact List.all_eq_true.mp (Bool.and_eq_true_iff.mp e1).1 f (List.mem_of_getElem? hf)
theorem SaysK.fn (c : SaysK ps K) (i : Nat) (h : ps[i]? = some p) (j : Nat) {d : He.FnD} (hd : p.fn[j]? = some d) :
    ∃ oc od osl kV doc pm an cdv ct, K.lookup (He.fAd K d.at_) = some ⟨oc, od, .func (PySem.W.fnOf d.name d.qual d.params d.body d.scope .none kV doc pm an cdv ct), osl⟩ ∧ PySem.W.codeIn K cdv d.qual = true := by
  have e := c p (List.mem_of_getElem? h)
  have e1 : ((p.ck.all fun f => f K) && p.fn.all fun d => (He.Fa.code d.at_ d.qual).ok K) = true := congrArg Prod.fst e
  have e2 : p.fn.map (fun d => He.fnObs K d.at_) = p.fn.map He.FnD.val := congrArg Prod.snd e
  have e3 : (p.fn.map fun d => He.fnObs K d.at_)[j]? = (p.fn.map He.FnD.val)[j]? := by rw [e2]
  rw [List.getElem?_map, List.getElem?_map, hd] at e3
  exact He.fn_ok (Option.some.inj e3) (List.all_eq_true.mp (Bool.and_eq_true_iff.mp e1).2 d (List.mem_of_getElem? hd))
end
def cGlo (x : Str) : FrK → Bool := fun K => (He.Fa.glo x).ok K
def cKeep (x : Str) : FrK → Bool := fun K => (He.Fa.keep x).ok K
def cFree (x : Str) : FrK → Bool := fun K => (He.Fa.free x).ok K
def cInt (x : Str) (i : Int) : FrK → Bool := fun K => (He.Fa.int x i).ok K
def cStr (x y : Str) : FrK → Bool := fun K => (He.Fa.str x y).ok K
def cCls (x : Str) : FrK → Bool := fun K => (He.Fa.cls x).ok K
def cNo (x f : Str) : FrK → Bool := fun K => (He.Fa.noat x f).ok K
def cMeth (x m : Str) : FrK → Bool := fun K => (He.Fa.meth x m).ok K
def cMkr (x : Str) : FrK → Bool := fun K => (He.Fa.mkr x).ok K
def cTup (x : Str) (l : List Int) : FrK → Bool := fun K => (He.Fa.glo x).ok K && He.tupB K x (l.map He.Dv.int)
section
variable {K : FrK} {h : Heap} {mg : Str → Option Value} {x f m : Str}
theorem cGlo_a (c : cGlo x K = true) : PySem.W.nsIn K mainGlobals x = some (some (.ref (He.ga K x))) := He.eqO_ok c
theorem cls_cl (c : cCls x K = true) : Cls K (He.ga K x) := He.cls_ok c
theorem cls_hc (g : cGlo x K = true) (c : cCls x K = true) : ClOk K x := ⟨⟨_, cGlo_a g, He.cls_ok c⟩⟩
theorem no_at (g : cGlo x K = true) (c : cNo x f K = true) : NoAt K x f := fun D h => by
  rw [cGlo_a g] at h
  cases h
  exact He.noat_ok c
def exB (K : FrK) (C : Addr) (p : Addr → List Value → Bool) : Bool := match K.lookup C with
  | some ⟨.type "type", _, .cls c, l⟩ => (match c.mro, l.toList with
    | .ref D :: bm, [_, _, _, _, some (.builtin n), _] => D == C && (n == "ValueError.__new__" && (!c.hasDel && (c.hasDict && p c.ns bm)))
    | _, _ => false)
  | _ => false
theorem exB_ok {C : Addr} {p : Addr → List Value → Bool} (q : exB K C p = true) : ∃ nm qn N bs bm sn sub ab col dd k0 k1 k2 k3 k5, K.lookup C = some (excClassObj nm qn C N bs bm true sn sub ab col dd k0 k1 k2 k3 k5 "ValueError.__new__") ∧ p N bm = true := by
  unfold exB at q
  split at q
  · rename_i dd cd sl ho
    split at q
    · rename_i D bm k0 k1 k2 k3 n k5 hm hs
      simp only [Bool.and_eq_true, beq_iff_eq, Bool.not_eq_true'] at q
      obtain ⟨rfl, rfl, hdel, hdt, ht⟩ := q
      obtain ⟨nm, bs, mro, ns, qn, hd, sn, sub, ab, col, del⟩ := cd
      dsimp only at hm hdel hdt ht
      subst hm hdel hdt
      have hsl : sl = #[k0, k1, k2, k3, some (.builtin "ValueError.__new__"), k5] := by
        obtain ⟨l⟩ := sl
        simp only at hs
        rw [hs]
      subst hsl
      exact ⟨nm, qn, ns, bs, bm, sn, sub, ab, col, dd, k0, k1, k2, k3, k5, ho, ht⟩
    · cases q
  · cases q
def cX (x : Str) : FrK → Bool := fun K => cGlo x K && (exB K (He.ga K x) (fun _ bm => PySem.HandSPX.refsVE bm) && (He.eqO (PySem.W.findIn K (.ref (He.ga K x)) "__setattr__") (some (some (.builtin "object.__setattr__"))) && (decide (PySem.W.subIn K (.ref (He.ga K x)) (.type "BaseException") = some true) && (decide (PySem.W.typeIn K (.ref (He.ga K x)) = some (.type "type")) && PySem.W.keepIn K (.ref (He.ga K x))))))
theorem cX_ok (c : cX x K = true) : PySem.W.nsIn K mainGlobals x = some (some (.ref (He.ga K x))) ∧ OexC K (He.ga K x) := by
  obtain ⟨c0, c⟩ := Bool.and_eq_true_iff.mp c
  obtain ⟨c1, c⟩ := Bool.and_eq_true_iff.mp c
  obtain ⟨c2, c⟩ := Bool.and_eq_true_iff.mp c
  obtain ⟨c3, c⟩ := Bool.and_eq_true_iff.mp c
  obtain ⟨c4, c5⟩ := Bool.and_eq_true_iff.mp c
  exact ⟨cGlo_a c0, exB_ok c1, He.eqO_ok c2, of_decide_eq_true c3, of_decide_eq_true c4, c5⟩
def cBase (x : Str) : FrK → Bool := fun K => PySem.W.readsIn K (He.ga K x) (.type "type") && (He.eqO (PySem.W.specialIn K (.ref (He.ga K x)) "__getattribute__") (some (some (.builtin "type.__getattribute__"))) && (match PySem.W.findCls K (.ref (He.ga K x)) (.type "type") "__init__" with
  | some (.val (.builtin n)) => n == "ValueError.__init__"
  | _ => false))
theorem cBase_ok (X : K.In h) (G : h.Ns mainGlobals mg) (g : cX x K = true) (c : cBase x K = true) : BaseC K mg x (He.ga K x) := by
  obtain ⟨c1, c⟩ := Bool.and_eq_true_iff.mp c
  obtain ⟨c2, c3⟩ := Bool.and_eq_true_iff.mp c
  refine ⟨PySem.W.mg_of X G (cX_ok g).1, c1, He.eqO_ok c2, ?_⟩
  revert c3
  split
  · rename_i n e
    intro c3
    rw [e, beq_iff_eq.mp c3]
  · intro c3; cases c3
def cHn : FrK → Bool := fun K => He.eqO (PySem.W.specialIn K (.builtin "object.__class__") "__get__") (some (some (.builtin "getset_descriptor.__get__"))) && decide (PySem.W.takesIn K (.builtin "object.__class__") = some true)
def cXo (x : Str) : FrK → Bool := fun K => He.eqO (PySem.W.findIn K (.ref (He.ga K x)) "__getattribute__") (some (some (.builtin "BaseException.__getattribute__"))) && (He.eqO (PySem.W.findIn K (.ref (He.ga K x)) "__getattr__") (some none) && (PySem.W.hasDictIn K (He.ga K x) && (He.eqO (PySem.W.findIn K (.ref (He.ga K x)) "__class__") (some (some (.builtin "object.__class__"))) && (decide (PySem.W.mroIn K (He.ga K x) (.type "object") = some true) && decide (PySem.W.subIn K (.ref (He.ga K x)) (.ref (He.ga K x)) = some true)))))
theorem cXo_ok (g : cX x K = true) (c : cXo x K = true) (n : cHn K = true) : ExOk K x ∧ PySem.W.subIn K (.ref (He.ga K x)) (.ref (He.ga K x)) = some true := by
  obtain ⟨c1, c⟩ := Bool.and_eq_true_iff.mp c
  obtain ⟨c2, c⟩ := Bool.and_eq_true_iff.mp c
  obtain ⟨c3, c⟩ := Bool.and_eq_true_iff.mp c
  obtain ⟨c4, c⟩ := Bool.and_eq_true_iff.mp c
  obtain ⟨c5, c6⟩ := Bool.and_eq_true_iff.mp c
  obtain ⟨n1, n2⟩ := Bool.and_eq_true_iff.mp n
  obtain ⟨g1, T⟩ := cX_ok g
  exact ⟨exok_mk g1 (He.eqO_ok c1) (He.eqO_ok c2) T.exC c3 (He.eqO_ok c4) (He.eqO_ok n1) (of_decide_eq_true n2) (of_decide_eq_true c5), of_decide_eq_true c6⟩
def cXi (x : Str) : FrK → Bool := fun K => cMeth x "__init__" K && decide (PySem.W.typeIn K (.ref (He.ma K (He.ga K x) "__init__")) = some (.type "function"))
theorem cXi_ok (c : cXi x K = true) : PySem.W.findIn K (.ref (He.ga K x)) "__init__" = some (some (.ref (He.ma K (He.ga K x) "__init__"))) ∧ PySem.W.typeIn K (.ref (He.ma K (He.ga K x) "__init__")) = some (.type "function") ∧ PySem.W.keepIn K (.ref (He.ma K (He.ga K x) "__init__")) = true := by
  obtain ⟨c1, c2⟩ := Bool.and_eq_true_iff.mp c
  have m := He.meth_ok c1
  have c3 : (He.Fa.meth x "__init__").ok K = true := c1
  obtain ⟨d1, d⟩ := Bool.and_eq_true_iff.mp c3
  obtain ⟨d2, d3⟩ := Bool.and_eq_true_iff.mp d
  exact ⟨He.eqO_ok d1, of_decide_eq_true c2, d3⟩
def cX0 (b x : Str) : FrK → Bool := fun K => exB K (He.ga K x) (fun N bm => decide (bm = .ref (He.ga K b) :: veT) && (PySem.W.nsOkIn K N && He.eqO (PySem.W.nsIn K N "__init__") (some none)))
def cXb (b : Str) : FrK → Bool := fun K => exB K (He.ga K b) (fun N bm => decide (bm = veT) && (PySem.W.nsOkIn K N && He.eqO (PySem.W.nsIn K N "__init__") (some none)))
def cSub (x y : Str) (b : Bool) : FrK → Bool := fun K => decide (PySem.W.subIn K (.ref (He.ga K x)) (.ref (He.ga K y)) = some b)
def cSubT (x : Str) (t : String) : FrK → Bool := fun K => decide (PySem.W.subIn K (.ref (He.ga K x)) (.type t) = some true)
theorem fun_at {x q : Str} {p : Str × Option Str} {st : Stmt} (k : PySem.W.keepIn K (.ref (He.fAd K p)) = true) (e : ∃ oc od osl kV doc pm an cdv ct, K.lookup (He.fAd K p) = some ⟨oc, od, .func (PySem.W.fnOf x q (defArgs st) (defBody st) (defScope st) .none kV doc pm an cdv ct), osl⟩ ∧ PySem.W.codeIn K cdv q = true) : ∃ fd, Fun K x q st (He.fAd K p) fd := by
  obtain ⟨_, _, _, _, _, _, _, _, _, l, c⟩ := e
  exact ⟨_, fun_mk (st := st) l c k⟩
theorem cMeth_k (c : cMeth x m K = true) : PySem.W.keepIn K (.ref (He.ma K (He.ga K x) m)) = true := by
  have c3 : (He.Fa.meth x m).ok K = true := c
  obtain ⟨_, d⟩ := Bool.and_eq_true_iff.mp c3
  exact (Bool.and_eq_true_iff.mp d).2
end
end DL
namespace DL
open PySem PySem.Spec L2 TL
def tS (n : Int) : Str := Str.ofString (toString n)
def intL (n : Int) : List Nat := if n < 0 then 45 :: numL n.natAbs else numL n.natAbs
theorem tl_tS (n : Int) : tl (tS n) = intL n := by
  unfold tS intL
  rw [tl_ofString, Int.toString_eq_repr, Int.repr_eq_if]
  by_cases h : n < 0
  · rw [if_neg (by omega), if_pos h, String.toList_append, List.map_append, Nat.toList_repr]
    show 45 :: _ = _
    unfold numL
    rw [show (-n).toNat = n.natAbs by omega]; rfl
  · rw [if_pos (by omega), if_neg h, Nat.toList_repr]
    unfold numL
    rw [show n.toNat = n.natAbs by omega]
theorem tS_len {n : Int} {k : Nat} (hk : 0 < k) (h : n.natAbs < 10 ^ k) : (tS n).length ≤ k + 1 := by
  rw [len_tl, tl_tS]
  have := numL_len hk h
  unfold intL
  split
  · rw [List.length_cons]; omega
  · omega
theorem str_tS {n : Int} (h : n.natAbs < 2 ^ 200) : gStr [.int n] = some (.str (tS n)) := str_ok (Nat.lt_of_lt_of_le h (Nat.pow_le_pow_right (by decide) (by decide)))
theorem tS_62 {n : Int} (h : n.natAbs < 2 ^ 200) : (tS n).length ≤ 62 := tS_len (k := 61) (by decide) (Nat.lt_trans h (by decide))
theorem len_app (a b : Str) : (a ++ b).length = a.length + b.length := by rw [len_tl, tl_append, List.length_append, ← len_tl, ← len_tl]
def spS (l : List Int) : Str := Txt.join ("" : Str) (l.map fun n => (" " : Str) ++ tS n)
theorem add_s {x y : Str} (h : (x.length : Int) + y.length ≤ 1000000) : gAdd (.str x) (.str y) = some (.str (x ++ y)) := by
  refine gOr_n (show gAddI (.str x) (.str y) = none from rfl) (gOr_s ?_)
  unfold gAddS
  exact if_pos (by rw [sizeLine_eq]; omega)
end DL
namespace DL
open PySem PySem.Spec L2 TL
theorem numL_head {m : Nat} (h : 0 < m) : ∃ c r, numL m = c :: r ∧ 49 ≤ c ∧ c ≤ 57 := by
  induction m using Nat.strongRecOn with
  | _ m ih =>
    by_cases q : m < 10
    · exact ⟨48 + m, [], numL_lt q, by omega, by omega⟩
    · obtain ⟨c, r, e, h1, h2⟩ := ih (m / 10) (by omega) (by omega)
      exact ⟨c, r ++ [48 + m % 10], by rw [numL_step (by omega), e]; rfl, h1, h2⟩
theorem fig_cs : ("0123456789" : Str).cps.toList = List.range' 48 10 := by kernel_rfl
theorem one_eq {c d : Nat} : (⟨#[c]⟩ : Str) = ⟨#[d]⟩ ↔ c = d := by
  constructor
  · intro h
    have := congrArg tl h
    simpa [tl] using this
  · rintro rfl; rfl
theorem minus_s : ("-" : Str) = ⟨#[45]⟩ := by kernel_rfl
theorem nought_s : ("0" : Str) = ⟨#[48]⟩ := by kernel_rfl
def wordsL (ws : List Str) : List Nat := joinL [32] (ws.map tl)
end DL
namespace DL
open PySem PySem.Spec L2
section
variable {env env1 : List C} {i : Nat} {c m : Str} {fl fl1 : List Str} {ts ts1 us : List T} {gx : List C → Option (List C × T)} {y : D} {u' z : T} {rs : List C → Option (List T)} {gp : List C → Option IP} {p : List Nat} {ds : List D}
theorem augFld_at {q : Str} {g2 : D → D → Option D} {fe : List C → Option D} {j : Nat} {x yv zv : D} (h1 : gp env = some (i, p)) (h2 : nodeAt env (i, p) = some (.n (.o c fl) ts)) (h3 : fIx q fl = some j) (h4 : ts[j]? = some (.d x)) (h5 : fe env = some yv) (h6 : g2 x yv = some zv) (h7 : fl.length < 1000) : sFldAugP c q g2 gp fe env = .nx (putAt env (i, p) (putO q (.d zv) c fl ts)) := by
  unfold sFldAugP
  rw [h1]; dsimp only; rw [h2]; dsimp only; rw [h3]; dsimp only; rw [h4]; dsimp only; rw [h5]; dsimp only; rw [h6]; dsimp only; rw [if_pos ⟨rfl, h7⟩]
end
end DL
namespace DL
open PySem PySem.Spec L2 PyProof.Rows
theorem tuple_mul1 (l : Addr) (items : Array Value) (n : Nat) (dd : Option Addr) (sl : Array (Option Value)) (u : Tok) :
    Meets (Builtin.«tuple.__mul__» ⟨[.ref l, .int 1 u], []⟩) (fun _ R s => s.heap.get? l = some { cls := .type "tuple", dict := dd, data := .seq items n, slots := sl } ∧ R (.ok (.ret (Value.ref l))) s) :=
  .of_wp fun prog w A R s h => by
    obtain ⟨hp, g, d, tk, os⟩ := s
    obtain ⟨hl, h⟩ := h
    have f1 := AutoSeq1.idx_int
    wp_walk using wpAny_loadPart' hl
    exact ⟨_, rfl, h⟩
theorem tuple_mul0 (l : Addr) (items : Array Value) (n : Nat) (dd : Option Addr) (sl : Array (Option Value)) (u : Tok) (c1 : (items.isEmpty || (0 : Int) == 1) = false) :
    Meets (Builtin.«tuple.__mul__» ⟨[.ref l, .int 0 u], []⟩) (fun _ R s => s.heap.get? l = some { cls := .type "tuple", dict := dd, data := .seq items n, slots := sl } ∧
      R (.ok (.ret (Value.ref s.heap.objs.size))) { s with heap := s.heap.push { cls := Value.type "tuple", data := Data.seq #[] }, toks := s.toks }) :=
  .of_wp fun prog w A R s h => by
    obtain ⟨hp, g, d, tk, os⟩ := s
    obtain ⟨hl, h⟩ := h
    have f1 := AutoSeq1.idx_int
    wp_walk using wpAny_loadPart' hl
    repeat (refine wpAny_ite_false (decide_eq_false (by rw [c1]; exact Bool.false_ne_true)) ?_; wp_walk using wpAny_loadPart' hl)
    exact ⟨_, rfl, h⟩
def rRep1 (K : PySem.W.Frag) : R2 := fun x y H Q => ∃ l xs, x = .ref l ∧ y = .int 1 ∧ SqT K H l xs ∧ Q (.ref l) H
def rRep0 (K : PySem.W.Frag) : R2 := fun x y H Q => ∃ l xs, x = .ref l ∧ y = .int 0 ∧ SqT K H l xs ∧ xs ≠ [] ∧ ∀ p, H p = none → Q (.ref p) (upd H p (.tup []))
section
variable {X : Cx} {G : GC}
theorem op_rep1 : OpR X (binaryOp .Mult) (rRep1 X.K) := by
  intro pins s σ H x y v u Q I rx ry h
  obtain ⟨l, xs, rfl, rfl, hT, q⟩ := h
  cases rx
  obtain ⟨t, rfl⟩ := ry
  obtain ⟨its, r, ⟨⟨cls, dd, data, sl⟩, ho, hc, n, hd⟩, hs⟩ := I.tuple hT
  simp only at hc hd
  subst hc hd
  exact wpAny_binaryOp_repeat_ref (T := "tuple") (U := "int") (by decide) ⟨_, ho, rfl⟩ (fun s' => typeIs_int s' 1 t) noFill_tuple_mul F.fills_int_mul F.slot_int_rmul repeat_tuple F.slot_int_index.lookup
    (call_meets F.slot_int_rmul (typeIs_int s 1 t) F.entry_int_rmul (F.args_int_rmul_2 _ _) (int_rmul_tuple 1 t l its.toArray n dd sl)
      ⟨ho, rfl, ⟨_, ho, rfl⟩, call_meets F.slot_tuple_mul ⟨_, ho, rfl⟩ F.entry_tuple_mul (F.args_tuple_mul_2 _ _) (tuple_mul1 l its.toArray n dd sl t) ⟨ho, .ref l, _, I, rfl, q⟩⟩)
theorem op_rep0 : OpR X (binaryOp .Mult) (rRep0 X.K) := by
  intro pins s σ H x y v u Q I rx ry h
  obtain ⟨l, xs, rfl, rfl, hT, hne, q⟩ := h
  cases rx
  obtain ⟨t, rfl⟩ := ry
  obtain ⟨its, r, ⟨⟨cls, dd, data, sl⟩, ho, hc, n, hd⟩, hs⟩ := I.tuple hT
  simp only at hc hd
  subst hc hd
  have hle : its.length = xs.length := r.length.symm
  have c1 : (its.toArray.isEmpty || (0 : Int) == 1) = false := by
    cases its with
    | nil => exact absurd (List.eq_nil_of_length_eq_zero hle.symm) hne
    | cons a b => rfl
  refine wpAny_binaryOp_repeat_ref (T := "tuple") (U := "int") (by decide) ⟨_, ho, rfl⟩ (fun s' => typeIs_int s' 0 t) noFill_tuple_mul F.fills_int_mul F.slot_int_rmul repeat_tuple F.slot_int_index.lookup
    (call_meets F.slot_int_rmul (typeIs_int s 0 t) F.entry_int_rmul (F.args_int_rmul_2 _ _) (int_rmul_tuple 0 t l its.toArray n dd sl)
      ⟨ho, rfl, ⟨_, ho, rfl⟩, call_meets F.slot_tuple_mul ⟨_, ho, rfl⟩ F.entry_tuple_mul (F.args_tuple_mul_2 _ _) (tuple_mul0 l its.toArray n dd sl t c1) ⟨ho, ?_⟩⟩)
  exact ⟨.ref s.heap.objs.size, _, I.laid (t' := s.toks) (o := .tup []) (fun b ob q => Heap.get?_push_of_some _ q) (Nat.le_refl _) ⟨Nat.zero_le _, [], .nil, IsTup.new _ _⟩, rfl, q _ (I.hok.fresh (Nat.le_refl _))⟩
def gMulT1 : D → D → Option D | .tuple xs, .int 1 => some (.tuple xs) | _, _ => none
def gMulT0 : D → D → Option D | .tuple xs, .int 0 => if xs ≠ [] then some (.tuple []) else none | _, _ => none
def gMulTA : D → D → Option D := gOr gMulT1 (gOr gMulT0 gMulT)
theorem o_mulT1 : DOp X G (binaryOp .Mult) .vl .vl .fz gMulT1 := ⟨_, op_rep1, fun H F vx vy dx dy d Q sub kp hl rx ry hd q => by
  unfold gMulT1 at hd
  split at hd
  · rename_i xs
    cases hd
    have e2 := vl_int ry
    subst e2
    rcases rx with rx | ⟨_, _, _, _, z, _⟩
    · cases rx with | tup h1 h2 => exact ⟨_, _, rfl, rfl, Same.seqT sub h1, q _ H F (Ext.refl sub) (.tup h1 h2)⟩
    · cases z
  · cases hd⟩
theorem o_mulT0 : DOp X G (binaryOp .Mult) .vl .vl .fz gMulT0 := ⟨_, op_rep0, fun H F vx vy dx dy d Q sub kp hl rx ry hd q => by
  unfold gMulT0 at hd
  split at hd
  · rename_i xs
    split at hd <;> cases hd
    rename_i hne
    have e2 := vl_int ry
    subst e2
    rcases rx with rx | ⟨_, _, _, _, z, _⟩
    · cases rx with
      | tup h1 h2 =>
        refine ⟨_, _, rfl, rfl, Same.seqT sub h1, fun e => hne ?_, fun n nn => ?_⟩
        · have := DFAll_len h2
          rw [e] at this
          exact List.eq_nil_of_length_eq_zero this.symm
        · obtain ⟨E, r⟩ := new_tup sub nn DFAll.nil
          exact q _ _ _ E r
    · cases z
  · cases hd⟩
theorem o_mulTA : DOp X G (binaryOp .Mult) .vl .vl .fz gMulTA := o_mulT1.or (o_mulT0.or o_mulT)
theorem mulTA_zeros {n : Nat} (h : n ≤ 1000) : gMulTA (.tuple [.int 0]) (.int n) = some (.tuple (List.replicate n (.int 0))) := by
  match n, h with
  | 0, _ => rfl
  | 1, _ => rfl
  | n + 2, h =>
    have e : gMulT (.tuple [.int 0]) (.int ((n + 2 : Nat) : Int)) = some (.tuple (List.replicate (n + 2) (.int 0))) := by
      refine (if_pos ⟨by simp, by omega, by omega, by simp⟩).trans ?_
      rw [Int.toNat_natCast]
      have : ∀ m : Nat, (List.replicate m [PyData.int 0]).flatten = List.replicate m (.int 0) := fun m => by
        induction m with
        | zero => rfl
        | succ m ih => rw [List.replicate_succ, List.flatten_cons, ih, List.replicate_succ]; rfl
      rw [this]
    have n1 : gMulT1 (.tuple [.int 0]) (.int ((n + 2 : Nat) : Int)) = none := by
      unfold gMulT1
      split
      · rename_i h2
        have := congrArg (fun d => match d with | PyData.int i => i | _ => 0) h2
        simp at this
        omega
      · rfl
    have n0 : gMulT0 (.tuple [.int 0]) (.int ((n + 2 : Nat) : Int)) = none := by
      unfold gMulT0
      split
      · rename_i h2
        have := congrArg (fun d => match d with | PyData.int i => i | _ => 0) h2
        simp at this
        omega
      · rfl
    show gOr gMulT1 (gOr gMulT0 gMulT) _ _ = _
    unfold gOr
    rw [n1]; dsimp only; rw [n0]; exact e
def gX (g : List T → Option Rz) : List D → Option D := fun ds => match g (ds.map T.d) with
  | some (.ok _ (.d d)) => some d
  | _ => none
theorem repKs_len {K : PySem.W.Frag} {H F : Hp} : ∀ {ks : List RK} {vs : List V} {ds : List D}, RepKs K G H F ks vs ds → ds.length = ks.length
  | [], [], [], _ => rfl
  | _ :: _, _ :: _, _ :: _, h => by rw [List.length_cons, List.length_cons, repKs_len h.2]
  | [], _ :: _, _, h => by cases h
  | [], [], _ :: _, h => by cases h
  | _ :: _, [], _, h => by cases h
  | _ :: _, _ :: _, [], h => by cases h
theorem d_callX {e : Expr} {es : List Expr} {ks : List RK} {fs : List C → Option (List D)} {g : List T → Option Rz} {lv : Nat} {bs : List Bool} {x : Str} {p pos : Pos} (cal : CalX X.prog X.w X.K X.mg X.base lv x bs g) (hw : G.w = some X.w) (hr : Room lv X.A) (hg : Gl X x) (ha : DA X G ks (e :: es) fs) (hk : allFz ks = true := by rfl) (hb : allF bs = true := by rfl) (hl : ks.length = bs.length := by rfl) (hdb : (x == ("__debug__" : Str)) = false := by decide)
    (he : starEach (e :: es) X.env = (false, eval e X.env) :: starEach es X.env := by rfl) (hpl : (backTo pos (starEach es X.env)).any (·.1) = false := by rfl) : DE X G .fz (.Call (.Name x p) (e :: es) [] pos) (e1 (gX g) fs) := by
  obtain ⟨fa, fd, ps, F, hm, kp, b⟩ := cal.ex
  obtain ⟨t, pt, oa⟩ := ha.ex
  refine ⟨_, pe_callS F hr hg hm kp b (fun σ => passAt takes_all σ) pt hdb he hpl, fun σ H F fp env d Q R hf q => ?_⟩
  unfold e1 at hf
  cases z : fs env with
  | none => rw [z] at hf; cases hf
  | some ds =>
    rw [z] at hf
    have hf : gX g ds = some d := hf
    unfold gX at hf
    refine oa σ H F fp env ds _ R z fun vs H1 F1 E1 r1 => ?_
    have R1 := R.ext E1
    have ma := mapRo (G := G) (env := env) (σ := σ) (H := H1) (fp := fp) bs hb (by rw [← hl]; exact repKs_len r1) (RepKs_fz hk r1)
    obtain ⟨ws, m1, m2, m3, e⟩ := ma.spM hw R1 (by decide)
    have ew : ws = [] := List.map_eq_nil_iff.mp e
    subst ew
    refine ⟨F1, ds.map T.d, [], E1.sub, m1, m2, m3, ?_⟩
    split at hf
    · rename_i us' y z2
      cases hf
      try rw [z2]
      intro v H' F' ls' lr pm
      refine q v H' F' (E1.trans ⟨fun a o h => pm.keep a o (fun m => by cases m) h, pm.f, pm.sub, pm.nw⟩) ?_
      have := pm.res
      cases this with
      | d r => exact r
    · cases hf
theorem gX_ok {g : List T → Option Rz} {ds : List D} {us : List T} {d : D} (h : g (ds.map T.d) = some (.ok us (.d d))) : gX g ds = some d := by
  unfold gX; rw [h]
end
end DL
namespace DL
open PySem PySem.Spec L2
section
variable {env e e1 e0 : List C} {i j n : Nat} {fe : List C → Option D} {fs : List C → Option (List D)} {gx : List C → Option (List C × T)} {gy : List C → Option OY} {gz : List C → Option OYs} {u : T} {d y : D} {ds : List D} {ts : List T} {xd : XD} {b : List C → Out}
def oYX (o : Option (List C × T)) : Option OY := o.map fun p => .ok p.1 p.2
theorem ev_yX : yX gx env = oYX (gx env) := (rfl)
theorem ev_oYX : oYX (some (e, u)) = some (.ok e u) := (rfl)
def oX1T (o : Option (List C × T)) (g : List D → Option D) : Option (List C × T) := match o with
  | some (e, .d d) => (match g [d] with | some y => some (e, .d y) | none => none)
  | _ => none
theorem ev_x1T {g : List D → Option D} : x1T g gx env = oX1T (gx env) g := (rfl)
theorem x1T_s {g : List D → Option D} (h : g [d] = some y) : oX1T (some (e, .d d)) g = some (e, .d y) := by
  show (match g [d] with | some y => some (e, T.d y) | none => none) = _
  rw [h]
def oYsC (o : Option D) (p : Option OYs) : Option OYs := match o with
  | some d => (match p with
    | some (.ok e ds) => some (.ok e (d :: ds))
    | some (.xc e x) => some (.xc e x)
    | none => none)
  | none => none
theorem ev_ysC : ysCons fe gz env = oYsC (fe env) (gz env) := by
  unfold ysCons oYsC; cases fe env <;> rfl
theorem ev_oYsC_ok : oYsC (some d) (some (.ok e ds)) = some (.ok e (d :: ds)) := (rfl)
theorem ev_oYsC_xc : oYsC (some d) (some (.xc e xd)) = some (.xc e xd) := (rfl)
def oYsH2 (e : List C) (d : D) (o : Option (List D)) : Option OYs := match o with | some ds => some (.ok e (d :: ds)) | none => none
theorem ev_oYsH2 : oYsH2 e d (some ds) = some (.ok e (d :: ds)) := (rfl)
def oYsH (o : Option OY) (fs : List C → Option (List D)) : Option OYs := match o with
  | some (.ok e (.d d)) => oYsH2 e d (fs e)
  | some (.xc e x) => some (.xc e x)
  | _ => none
theorem ev_ysH : ysHere gy fs env = oYsH (gy env) fs := by
  unfold ysHere oYsH oYsH2
  cases gy env with
  | none => rfl
  | some o =>
    cases o with
    | xc _ _ => rfl
    | ok e u => cases u <;> rfl
theorem ev_oYsH_ok : oYsH (some (.ok e (.d d))) fs = oYsH2 e d (fs e) := (rfl)
theorem ev_oYsH_xc : oYsH (some (.xc e xd)) fs = some (.xc e xd) := (rfl)
def oYT (o : Option OYs) : Option OY := match o with
  | some (.ok e ds) => some (.ok e (.d (.tuple ds)))
  | some (.xc e x) => some (.xc e x)
  | none => none
theorem ev_yTup : yTup gz env = oYT (gz env) := (rfl)
theorem ev_oYT_ok : oYT (some (.ok e ds)) = some (.ok e (.d (.tuple ds))) := (rfl)
theorem ev_oYT_xc : oYT (some (.xc e xd)) = some (.xc e xd) := (rfl)
def oYL (o : Option OYs) : Option OY := match o with
  | some (.ok e ds) => some (.ok e (.n .l (ds.map T.d)))
  | some (.xc e x) => some (.xc e x)
  | none => none
theorem ev_yLst : yLst gz env = oYL (gz env) := (rfl)
theorem ev_oYL_ok : oYL (some (.ok e ds)) = some (.ok e (.n .l (ds.map T.d))) := (rfl)
theorem ev_oYL_xc : oYL (some (.xc e xd)) = some (.xc e xd) := (rfl)
def oRetY (o : Option OY) : Out := match o with | some (.ok e u) => .rx e u | some (.xc e x) => .xc e x | none => .err
theorem ev_retY : sRetY gy env = oRetY (gy env) := (rfl)
theorem ev_oRetY_ok : oRetY (some (.ok e u)) = .rx e u := (rfl)
theorem ev_oRetY_xc : oRetY (some (.xc e xd)) = .xc e xd := (rfl)
def EVY := And.intro @ev_yX <| And.intro @ev_oYX <| And.intro @ev_x1T <| And.intro @ev_ysC <| And.intro @ev_oYsC_ok <| And.intro @ev_oYsC_xc <| And.intro @ev_oYsH2 <| And.intro @ev_ysH <| And.intro @ev_oYsH_ok <| And.intro @ev_oYsH_xc <| And.intro @ev_yTup <| And.intro @ev_oYT_ok <| And.intro @ev_oYT_xc <| And.intro @ev_yLst <| And.intro @ev_oYL_ok <| And.intro @ev_oYL_xc <| And.intro @ev_retY <| And.intro @ev_oRetY_ok @ev_oRetY_xc
theorem appX_ok (h1 : env[i]? = some (.own none (.n .l ts))) (h2 : gy env = some (.ok e u)) (h3 : e[i]? = some (.own none (.n .l ts))) (h4 : ts.length < 16000000) : yAppX i gy env = some (.ok (e.set i (.own none (.n .l (ts ++ [u])))) (.d .none)) := by
  unfold yAppX
  have n1 : nodeAt env (i, []) = some (.n .l ts) := by rw [ev_nodeAt, h1]; rfl
  have n2 : nodeAt e (i, []) = some (.n .l ts) := by rw [ev_nodeAt, h3]; rfl
  have n3 : putAt e (i, []) (.n .l (ts ++ [u])) = e.set i (.own none (.n .l (ts ++ [u]))) := by rw [ev_putAt, h3]; rfl
  rw [n1, h2]; dsimp only; rw [n2]; dsimp only; rw [if_pos h4, n3]
theorem appX_xc (h1 : env[i]? = some (.own none (.n .l ts))) (h2 : gy env = some (.xc e xd)) : yAppX i gy env = some (.xc e xd) := by
  unfold yAppX
  have n1 : nodeAt env (i, []) = some (.n .l ts) := by rw [ev_nodeAt, h1]; rfl
  rw [n1, h2]
theorem ev_whileX {fu : List C → Nat} {c : List C → Option (List C × Bool)} : sWhileX fu c b env = whileX c b (fu env) env := (rfl)
theorem whileX_f {c : List C → Option (List C × Bool)} (h : c env = some (e0, false)) : whileX c b (n + 1) env = .nx e0 := by unfold whileX; rw [h]
theorem whileX_nx {c : List C → Option (List C × Bool)} (h : c env = some (e0, true)) (h2 : b e0 = .nx e1) : whileX c b (n + 1) env = whileX c b n e1 := by
  conv => lhs; unfold whileX
  rw [h]; dsimp only; rw [h2]
theorem whileX_xc {c : List C → Option (List C × Bool)} (h : c env = some (e0, true)) (h2 : b e0 = .xc e1 xd) : whileX c b (n + 1) env = .xc e1 xd := by unfold whileX; rw [h]; dsimp only; rw [h2]
theorem whileF_f {c : List C → Option Bool} (h : c env = some false) : whileF c b (n + 1) env = .nx env := by unfold whileF; rw [h]
theorem whileF_nx {c : List C → Option Bool} (h : c env = some true) (h2 : b env = .nx e1) : whileF c b (n + 1) env = whileF c b n e1 := by
  conv => lhs; unfold whileF
  rw [h]; dsimp only; rw [h2]
theorem whileF_xc {c : List C → Option Bool} (h : c env = some true) (h2 : b env = .xc e1 xd) : whileF c b (n + 1) env = .xc e1 xd := by unfold whileF; rw [h]; dsimp only; rw [h2]
theorem forF_nx {g : D → List C → Option (List C)} (h : g d env = some e0) (h2 : b e0 = .nx e1) : forF g b (d :: ds) env = forF g b ds e1 := by
  conv => lhs; unfold forF
  rw [h]; dsimp only; rw [h2]
theorem forF_xc {g : D → List C → Option (List C)} (h : g d env = some e0) (h2 : b e0 = .xc e1 xd) : forF g b (d :: ds) env = .xc e1 xd := by
  conv => lhs; unfold forF
  rw [h]; dsimp only; rw [h2]
theorem callDY_ok {g : List D → Option D} (h1 : gz env = some (.ok e ds)) (h2 : g ds = some d) : yCallD g gz env = some (.ok e (.d d)) := by
  unfold yCallD; rw [h1]; dsimp only; rw [h2]; rfl
theorem callDY_xc {g : List D → Option D} (h1 : gz env = some (.xc e xd)) : yCallD g gz env = some (.xc e xd) := by
  unfold yCallD; rw [h1]
theorem callYY_ok {g : List T → Option Rz} {us : List T} (h1 : gz env = some (.ok e ds)) (h2 : g (ds.map T.d) = some (.ok us u)) : yCallY g gz env = some (.ok e u) := by
  unfold yCallY; rw [h1]; dsimp only; rw [h2]
theorem callYY_ex {g : List T → Option Rz} {us : List T} (h1 : gz env = some (.ok e ds)) (h2 : g (ds.map T.d) = some (.ex us xd)) : yCallY g gz env = some (.xc e xd) := by
  unfold yCallY; rw [h1]; dsimp only; rw [h2]
theorem callYY_xc {g : List T → Option Rz} (h1 : gz env = some (.xc e xd)) : yCallY g gz env = some (.xc e xd) := by
  unfold yCallY; rw [h1]
end
end DL
namespace DL
open PySem PySem.Spec L2 TL
mutual
inductive STr where
  | num (n : Nat) | nm (s : Str) | times (a b : STr) (p : Nat) | sum (l : STs)
inductive STs where
  | nil | cons (m : Int) (t : STr) (l : STs)
end
mutual
def STr.dd : STr → D
  | .num n => .tuple [.str "number", .int n]
  | .nm s => .tuple [.str "name", .str s]
  | .times a b p => .tuple [.str "times", a.dd, b.dd, .int p]
  | .sum l => .tuple [.str "sum", .list l.ds]
def STs.ds : STs → List D
  | .nil => []
  | .cons m t l => .tuple [.int m, t.dd] :: l.ds
end
def STs.of : List (Int × STr) → STs
  | [] => .nil
  | p :: l => .cons p.1 p.2 (STs.of l)
def pD (p : Int × STr) : D := .tuple [.int p.1, p.2.dd]
theorem STs.of_ds : ∀ l : List (Int × STr), (STs.of l).ds = l.map pD
  | [] => rfl
  | p :: l => by show pD p :: _ = _; rw [STs.of_ds l]; rfl
abbrev NL := List (Str × Nat)
def nD2 (p : Str × Nat) : D := .tuple [.str p.1, .int p.2]
def RFl : List Str := ["text", "at", "names"]
theorem fr_text : fIx "text" RFl = some 0 := by decide +kernel
theorem fr_at : fIx "at" RFl = some 1 := by decide +kernel
theorem fr_names : fIx "names" RFl = some 2 := by decide +kernel
theorem fr_ahead : fIx "ahead" RFl = none := by decide +kernel
theorem fr_run : fIx "run_of" RFl = none := by decide +kernel
theorem fr_factor : fIx "factor" RFl = none := by decide +kernel
theorem fr_term : fIx "term" RFl = none := by decide +kernel
theorem fr_whole : fIx "whole" RFl = none := by decide +kernel
theorem fr_len : RFl.length < 1000 := by decide
def rdr (s : Str) (k : Nat) (ns : NL) : T := .n (.o "Reader" RFl) [.d (.str s), .d (.int k), .n .l ((ns.map nD2).map T.d)]
inductive Oc where
  | ok (t : STr) (cs : List Nat) (ns : NL) | bad (cs : List Nat)
def isFig (c : Nat) : Bool := decide (48 ≤ c ∧ c ≤ 57)
def isLet (c : Nat) : Bool := decide (97 ≤ c ∧ c ≤ 122)
def sk : List Nat → List Nat := List.dropWhile (· == 32)
def hd : List Nat → Str
  | [] => ⟨#[]⟩
  | c :: _ => ⟨#[c]⟩
def st (l : List Nat) : Str := ⟨l.toArray⟩
def figV (l : List Nat) : Nat := NumText.digitsVal l
def run (p : Nat → Bool) (n : Nat) (cs : List Nat) : List Nat := (cs.takeWhile p).take n
theorem run_0 (p : Nat → Bool) (cs : List Nat) : run p 0 cs = [] := List.take_zero
theorem run_nil (p : Nat → Bool) (n : Nat) : run p n [] = [] := by unfold run; rw [List.takeWhile_nil, List.take_nil]
theorem run_yes {p : Nat → Bool} {n c : Nat} {r : List Nat} (h : p c = true) : run p (n + 1) (c :: r) = c :: run p n r := by unfold run; rw [List.takeWhile_cons_of_pos h, List.take_succ_cons]
theorem run_no {p : Nat → Bool} {n c : Nat} {r : List Nat} (h : ¬ p c = true) : run p n (c :: r) = [] := by unfold run; rw [List.takeWhile_cons_of_neg h, List.take_nil]
theorem run_pre (p : Nat → Bool) (n : Nat) (cs : List Nat) : ∃ r, cs = run p n cs ++ r := by
  refine ⟨(cs.takeWhile p).drop n ++ cs.dropWhile p, ?_⟩
  unfold run
  rw [← List.append_assoc, List.take_append_drop, List.takeWhile_append_dropWhile]
def facS (N : Nat) (w : List Nat → Option Oc) (cs : List Nat) : Option Oc := match sk cs with
  | [] => some (.bad [])
  | c :: r =>
    if c = 48 then some (.ok (.num 0) r [])
    else if isFig c = true then (if (run isFig N (c :: r)).length ≤ 640 then some (.ok (.num (figV (run isFig N (c :: r)))) ((c :: r).drop (run isFig N (c :: r)).length) []) else none)
    else if isLet c = true then some (.ok (.nm (st (run isLet 10 (c :: r)))) ((c :: r).drop (run isLet 10 (c :: r)).length) [(st (run isLet 10 (c :: r)), N - (c :: r).length)])
    else if c = 40 then (match w r with
      | some (.ok t r2 ns) => (match sk r2 with
        | [] => some (.bad [])
        | d :: r3 => if d = 41 then some (.ok t r3 ns) else some (.bad (d :: r3)))
      | o => o)
    else some (.bad (c :: r))
def terL (N : Nat) (f : List Nat → Option Oc) : Nat → STr → NL → List Nat → Option Oc
  | 0, _, _, _ => none
  | k + 1, t, ns, cs => match sk cs with
    | [] => some (.ok t [] ns)
    | c :: r => if c = 42 then (match f r with
        | some (.ok u r2 ns2) => terL N f k (.times t u (N - (c :: r).length)) (ns ++ ns2) r2
        | o => o)
      else some (.ok t (c :: r) ns)
def termS (N : Nat) (f : List Nat → Option Oc) (cs : List Nat) : Option Oc := match f cs with
  | some (.ok t r ns) => terL N f bigN t ns r
  | o => o
def whoL (t : List Nat → Option Oc) : Nat → List (Int × STr) → NL → List Nat → Option Oc
  | 0, _, _, _ => none
  | k + 1, l, ns, cs => match sk cs with
    | [] => some (.ok (.sum (STs.of l)) [] ns)
    | c :: r => if c = 43 ∨ c = 45 then (match t r with
        | some (.ok u r2 ns2) => whoL t k (l ++ [(if c = 45 then -1 else 1, u)]) (ns ++ ns2) r2
        | o => o)
      else some (.ok (.sum (STs.of l)) (c :: r) ns)
def minus? (cs : List Nat) : Int × List Nat := match sk cs with
  | [] => (1, [])
  | c :: r => if c = 45 then (-1, r) else (1, c :: r)
def wholeS (t : List Nat → Option Oc) (cs : List Nat) : Option Oc := match t (minus? cs).2 with
  | some (.ok u r ns) => whoL t bigN [((minus? cs).1, u)] ns r
  | o => o
def pW (N : Nat) : Nat → List Nat → Option Oc
  | 0 => fun _ => none
  | n + 1 => wholeS (termS N (facS N (pW N n)))
theorem orf_at {s : Str} {k : Nat} {ns : NL} : oRF (some (rdr s k ns)) "Reader" "at" = some (.d (.int k)) := by
  unfold rdr
  rw [ev_oRF, fr_at]; rfl
theorem yM_ok {m : Option Nat} {nm s : Str} {k k' : Nat} {ns ns' : NL} {r : List C} {f : List T → Option Rz} {y : T} (hn : fIx nm RFl = none) (h : f [rdr s k ns] = some (.ok [rdr s k' ns'] y)) : yMeth "Reader" nm f (pNm 0) nsNil (.own m (rdr s k ns) :: r) = some (.ok (.own m (rdr s k' ns') :: r) y) :=
  yMeth_ok (g2 := f) (m := nm) (gp := pNm 0) (rt := nsNil) (us := []) (ds := []) rfl rfl hn rfl rfl h
theorem yM_ex {m : Option Nat} {nm s : Str} {k k' : Nat} {ns ns' : NL} {r : List C} {f : List T → Option Rz} {x : XD} (hn : fIx nm RFl = none) (h : f [rdr s k ns] = some (.ex [rdr s k' ns'] x)) : yMeth "Reader" nm f (pNm 0) nsNil (.own m (rdr s k ns) :: r) = some (.xc (.own m (rdr s k' ns') :: r) x) :=
  yMeth_ex (g2 := f) (m := nm) (gp := pNm 0) (rt := nsNil) (us := []) (ds := []) rfl rfl hn rfl rfl h
theorem at_step {m : Option Nat} {s : Str} {k : Nat} {ns : NL} {r : List C} : sFldAugP "Reader" "at" gAddIS (pNm 0) (eC (.int 1)) (.own m (rdr s k ns) :: r) = .nx (.own m (rdr s (k + 1) ns) :: r) :=
  (augFld_at (g2 := gAddIS) (gp := pNm 0) (fe := eC (.int 1)) (env := .own m (rdr s k ns) :: r) (c := "Reader") (fl := RFl) (q := "at") (j := 1) (i := 0) (p := []) (ts := [.d (.str s), .d (.int k), .n .l ((ns.map nD2).map T.d)]) (x := .int k) (yv := .int 1) (zv := .int ((k + 1 : Nat) : Int)) rfl rfl fr_at rfl rfl rfl fr_len).trans (by unfold putO; rw [fr_at]; rfl)
theorem names_app {m : Option Nat} {s : Str} {k : Nat} {ns : NL} {r : List C} {fn : List C → Option T} {p : Str × Nat} (h : fn (.own m (rdr s k ns) :: r) = some (.d (nD2 p))) (hl : ns.length < 16000000) : xAppP (pF "Reader" "names" (pNm 0)) fn (.own m (rdr s k ns) :: r) = some (.own m (rdr s k (ns ++ [p])) :: r, .d .none) := by
  have a := appP_at (gp := pF "Reader" "names" (pNm 0)) (i := 0) (p := [2]) (pF_at (c := "Reader") (fl := RFl) (p := []) (j := 2) (gp := pNm 0) (env := .own m (rdr s k ns) :: r) (ts := [.d (.str s), .d (.int k), .n .l ((ns.map nD2).map T.d)]) rfl rfl fr_names (Nat.lt_succ_self 2)) (ts := (ns.map nD2).map T.d) rfl h (by rw [List.length_map, List.length_map]; exact hl)
  rw [a]
  unfold rdr
  rw [List.map_append, List.map_append]; rfl
structure AtS (s : Str) (k : Nat) (cs : List Nat) : Prop where
  e : (tl s).drop k = cs
  l : k + cs.length = s.length
theorem AtS.k_eq {s : Str} {k : Nat} {cs : List Nat} (A : AtS s k cs) : k = s.length - cs.length := by have := A.l; omega
theorem AtS.app {s : Str} {k : Nat} {a b : List Nat} (A : AtS s k (a ++ b)) : AtS s (k + a.length) b := by
  refine ⟨?_, ?_⟩
  · have := congrArg (List.drop a.length) A.e
    rw [List.drop_drop, List.drop_left] at this
    exact this
  · have := A.l
    rw [List.length_append] at this; omega
theorem AtS.one {s : Str} {k c : Nat} {b : List Nat} (A : AtS s k (c :: b)) : AtS s (k + 1) b := AtS.app (a := [c]) A
theorem AtS.suf {s : Str} {k : Nat} {a b : List Nat} (A : AtS s k a) (h : b <:+ a) : AtS s (s.length - b.length) b := by
  obtain ⟨p, rfl⟩ := h
  have := A.app
  rwa [this.k_eq] at this
theorem AtS.run {s : Str} {k n : Nat} {cs : List Nat} {p : Nat → Bool} (A : AtS s k cs) : AtS s (k + (run p n cs).length) (cs.drop (run p n cs).length) := by
  obtain ⟨t, e⟩ := run_pre p n cs
  generalize DL.run p n cs = l at e
  subst e
  rw [List.drop_left]
  exact A.app
theorem AtS.zero (s : Str) : AtS s 0 (tl s) := ⟨rfl, by rw [Nat.zero_add, len_tl]⟩
theorem sk_suf (cs : List Nat) : sk cs <:+ cs := List.dropWhile_suffix _
theorem sk_cons {c : Nat} {r : List Nat} (h : c ≠ 32) : sk (c :: r) = c :: r := by
  unfold sk
  rw [List.dropWhile_cons_of_neg (by simpa using h)]
theorem sk_blank (r : List Nat) : sk (32 :: r) = sk r := by
  unfold sk
  rw [List.dropWhile_cons_of_pos (by rfl)]
theorem sk_nil : sk [] = [] := rfl
theorem sk_blanks (k : Nat) (r : List Nat) : sk (List.replicate k 32 ++ r) = sk r := by
  induction k with
  | zero => rfl
  | succ k ih => rw [List.replicate_succ, List.cons_append, sk_blank, ih]
theorem sk_sk (cs : List Nat) : sk (sk cs) = sk cs := by
  induction cs with
  | nil => rfl
  | cons c r ih =>
    by_cases h : c = 32
    · subst h; rw [sk_blank, ih]
    · rw [sk_cons h, sk_cons h]
end DL
namespace DL
open PySem PySem.Spec L2 TL
abbrev Fm := List Int × Int
def fmD (f : Fm) : D := .tuple [.tuple (f.1.map .int), .int f.2]
def scF (f : Fm) (m : Int) : Fm := (f.1.map (m * ·), m * f.2)
def adF (f g : Fm) : Fm := ((f.1.zip g.1).map fun p => p.1 + p.2, f.2 + g.2)
def isN (f : Fm) : Bool := decide (f.1.filter (· != 0) = [])
def zeF (n : Nat) : Fm := (List.replicate n 0, 0)
mutual
def frm (names : List Str) : STr → Except Nat Fm
  | .num n => .ok (List.replicate names.length 0, n)
  | .nm s => .ok (names.map fun x => if x = s then 1 else 0, 0)
  | .times a b p => match frm names a with
    | .error q => .error q
    | .ok x => match frm names b with
      | .error q => .error q
      | .ok y => if isN x = true then .ok (scF y x.2) else if isN y = true then .ok (scF x y.2) else .error p
  | .sum l => frms names l (zeF names.length)
def frms (names : List Str) : STs → Fm → Except Nat Fm
  | .nil, acc => .ok acc
  | .cons m t l, acc => match frm names t with
    | .error q => .error q
    | .ok x => frms names l (adF acc (scF x m))
end
mutual
def STr.bt : STr → Nat
  | .num n => n.log2 + 1
  | .nm _ => 1
  | .times a b _ => a.bt + b.bt
  | .sum l => l.bt
def STs.bt : STs → Nat
  | .nil => 0
  | .cons m t l => t.bt + l.bt + m.natAbs
end
mutual
def STr.dep : STr → Nat
  | .num _ => 1
  | .nm _ => 1
  | .times a b _ => max a.dep b.dep + 1
  | .sum l => l.dep + 1
def STs.dep : STs → Nat
  | .nil => 0
  | .cons _ t l => max t.dep l.dep
end
def Bt (k : Nat) (i : Int) : Prop := i.natAbs + 1 ≤ 2 ^ k
theorem Bt.sz {k : Nat} {i : Int} (h : Bt k i) : Sz k i := by unfold Bt at h; unfold Sz; omega
theorem Bt.mono {a b : Nat} {i : Int} (h : Bt a i) (hab : a ≤ b) : Bt b i := Nat.le_trans h (Nat.pow_le_pow_right (by decide) hab)
theorem Bt.zero {k : Nat} : Bt k 0 := Nat.two_pow_pos k
theorem Bt.mul {a b : Nat} {i j : Int} (h : Bt a i) (g : Bt b j) : Bt (a + b) (i * j) := by
  unfold Bt at *
  rw [Int.natAbs_mul, Nat.pow_add]
  have := Nat.mul_le_mul h g
  rw [Nat.succ_mul, Nat.mul_succ] at this
  omega
theorem Bt.add {a b : Nat} {i j : Int} (h : Bt a i) (g : Bt b j) : Bt (a + b) (i + j) := by
  unfold Bt at *
  have e := Int.natAbs_add_le i j
  rw [Nat.pow_add]
  have := Nat.mul_le_mul h g
  rw [Nat.succ_mul, Nat.mul_succ] at this
  have k : i.natAbs * j.natAbs + (i.natAbs + j.natAbs + 1) ≤ 2 ^ a * 2 ^ b := by omega
  have : 0 ≤ i.natAbs * j.natAbs := Nat.zero_le _
  omega
def BtF (k n : Nat) (f : Fm) : Prop := f.1.length = n ∧ (∀ x ∈ f.1, Bt k x) ∧ Bt k f.2
theorem BtF.mono {a b n : Nat} {f : Fm} (h : BtF a n f) (hab : a ≤ b) : BtF b n f := ⟨h.1, fun x hx => (h.2.1 x hx).mono hab, h.2.2.mono hab⟩
theorem BtF.zero {k n : Nat} : BtF k n (zeF n) := ⟨List.length_replicate, fun x hx => by rw [List.eq_of_mem_replicate hx]; exact .zero, .zero⟩
theorem BtF.sc {a b n : Nat} {f : Fm} {m : Int} (h : BtF a n f) (hm : Bt b m) : BtF (a + b) n (scF f m) := by
  refine ⟨by show (f.1.map _).length = n; rw [List.length_map]; exact h.1, fun x hx => ?_, ?_⟩
  · obtain ⟨y, hy, rfl⟩ := List.mem_map.mp hx
    have := hm.mul (h.2.1 y hy)
    rwa [Nat.add_comm] at this
  · have := hm.mul h.2.2
    rwa [Nat.add_comm] at this
theorem BtF.ad {a b n : Nat} {f g : Fm} (h : BtF a n f) (k : BtF b n g) : BtF (a + b) n (adF f g) := by
  refine ⟨?_, fun x hx => ?_, h.2.2.add k.2.2⟩
  · show ((f.1.zip g.1).map _).length = n
    rw [List.length_map, List.length_zip, h.1, k.1, Nat.min_self]
  · obtain ⟨⟨u, v⟩, hp, rfl⟩ := List.mem_map.mp hx
    exact (h.2.1 u (List.of_mem_zip hp).1).add (k.2.1 v (List.of_mem_zip hp).2)
theorem bt_one {k : Nat} (h : 1 ≤ k) : Bt k 1 := Nat.le_trans (by decide : (1 : Int).natAbs + 1 ≤ 2 ^ 1) (Nat.pow_le_pow_right (by decide) h)
mutual
theorem frm_bt (names : List Str) : ∀ (t : STr) (f : Fm), frm names t = .ok f → BtF t.bt names.length f
  | .num n, f, h => by
    unfold frm at h
    cases h
    refine ⟨List.length_replicate, fun x hx => by rw [List.eq_of_mem_replicate hx]; exact .zero, ?_⟩
    show ((n : Nat) : Int).natAbs + 1 ≤ 2 ^ (n.log2 + 1)
    rw [Int.natAbs_natCast]
    exact Nat.lt_log2_self
  | .nm s, f, h => by
    unfold frm at h
    cases h
    refine ⟨List.length_map _, fun x hx => ?_, .zero⟩
    obtain ⟨y, _, rfl⟩ := List.mem_map.mp hx
    show Bt 1 _
    split
    · exact bt_one (by decide)
    · exact .zero
  | .times a b p, f, h => by
    unfold frm at h
    cases ha : frm names a with
    | error q => rw [ha] at h; cases h
    | ok x =>
      cases hb : frm names b with
      | error q => rw [ha] at h; dsimp only at h; rw [hb] at h; cases h
      | ok y =>
        rw [ha] at h; dsimp only at h; rw [hb] at h; dsimp only at h
        have ia := frm_bt names a x ha
        have ib := frm_bt names b y hb
        show BtF (a.bt + b.bt) _ _
        split at h
        · cases h
          have := ib.sc ia.2.2
          rwa [Nat.add_comm] at this
        · split at h
          · cases h
            exact ia.sc ib.2.2
          · cases h
  | .sum l, f, h => by
    unfold frm at h
    have := frms_bt names l (zeF names.length) f 0 .zero h
    rwa [Nat.zero_add] at this
theorem frms_bt (names : List Str) : ∀ (l : STs) (acc f : Fm) (k : Nat), BtF k names.length acc → frms names l acc = .ok f → BtF (k + l.bt) names.length f
  | .nil, acc, f, k, ha, h => by
    unfold frms at h
    cases h
    exact ha
  | .cons m t l, acc, f, k, ha, h => by
    unfold frms at h
    cases ht : frm names t with
    | error q => rw [ht] at h; cases h
    | ok x =>
      rw [ht] at h; dsimp only at h
      have hm : Bt m.natAbs m := by
        unfold Bt
        have := Nat.lt_two_pow_self (n := m.natAbs)
        omega
      have := frms_bt names l _ f _ (ha.ad ((frm_bt names t x ht).sc hm)) h
      exact this.mono (by show _ ≤ k + (t.bt + l.bt + m.natAbs); omega)
end
end DL
namespace DL
open PySem PySem.Spec L2 TL
inductive RS where
  | ok (f : Fm) | noText (p : Nat) | noName (x : Str) (p : Nat) | notPlain (p : Nat)
def nlook (names : List Str) : NL → Option (Str × Nat)
  | [] => none
  | p :: l => if p.1 ∈ names then nlook names l else some p
def readR (names : List Str) (N : Nat) : Oc → RS
  | .bad r => .noText (N - r.length)
  | .ok t r ns => match sk r with
    | _ :: _ => .noText (N - (sk r).length)
    | [] => match nlook names ns with
      | some p => .noName p.1 p.2
      | none => match frm names t with
        | .ok f => .ok f
        | .error p => .notPlain p
def ntX (p : Nat) : XD := ⟨"NoText", ["place"], [.int p]⟩
def nnX (x : Str) (p : Nat) : XD := ⟨"NoName", ["place", "name"], [.int p, .str x]⟩
end DL
namespace DL
open PySem PySem.Spec L2 TL
mutual
inductive Fa where
  | num (b n : Nat) | nm (b : Nat) (x : List Nat) | par (b : Nat) (w : Wh) (b2 : Nat)
inductive Te where
  | one (f : Fa) | mul (t : Te) (b : Nat) (f : Fa)
inductive Wh where
  | pos (t : Te) | neg (b : Nat) (t : Te) | add (w : Wh) (b : Nat) (m : Bool) (t : Te)
end
def bl (b : Nat) : List Nat := List.replicate b 32
def sg (m : Bool) : Nat := if m then 45 else 43
def sgI (m : Bool) : Int := if m then -1 else 1
mutual
def Fa.txt : Fa → List Nat
  | .num b n => bl b ++ numL n
  | .nm b x => bl b ++ x
  | .par b w b2 => bl b ++ 40 :: (w.txt ++ (bl b2 ++ [41]))
def Te.txt : Te → List Nat
  | .one f => f.txt
  | .mul t b f => t.txt ++ (bl b ++ 42 :: f.txt)
def Wh.txt : Wh → List Nat
  | .pos t => t.txt
  | .neg b t => bl b ++ 45 :: t.txt
  | .add w b m t => w.txt ++ (bl b ++ sg m :: t.txt)
end
mutual
def Fa.tr (N : Nat) : Fa → Nat → STr
  | .num _ n, _ => .num n
  | .nm _ x, _ => .nm (st x)
  | .par _ w b2, k => .sum (STs.of (w.its N (b2 + 1 + k)))
def Te.tr (N : Nat) : Te → Nat → STr
  | .one f, k => f.tr N k
  | .mul t b f, k => .times (t.tr N (b + 1 + f.txt.length + k)) (f.tr N k) (N - (1 + f.txt.length + k))
def Wh.its (N : Nat) : Wh → Nat → List (Int × STr)
  | .pos t, k => [(1, t.tr N k)]
  | .neg _ t, k => [(-1, t.tr N k)]
  | .add w b m t, k => w.its N (b + 1 + t.txt.length + k) ++ [(sgI m, t.tr N k)]
end
mutual
def Fa.ns (N : Nat) : Fa → Nat → NL
  | .num _ _, _ => []
  | .nm _ x, k => [(st x, N - (x.length + k))]
  | .par _ w b2, k => w.ns N (b2 + 1 + k)
def Te.ns (N : Nat) : Te → Nat → NL
  | .one f, k => f.ns N k
  | .mul t b f, k => t.ns N (b + 1 + f.txt.length + k) ++ f.ns N k
def Wh.ns (N : Nat) : Wh → Nat → NL
  | .pos t, k => t.ns N k
  | .neg _ t, k => t.ns N k
  | .add w b _ t, k => w.ns N (b + 1 + t.txt.length + k) ++ t.ns N k
end
mutual
def Fa.dep : Fa → Nat
  | .num _ _ => 0
  | .nm _ _ => 0
  | .par _ w _ => w.dep + 1
def Te.dep : Te → Nat
  | .one f => f.dep
  | .mul t _ f => max t.dep f.dep
def Wh.dep : Wh → Nat
  | .pos t => t.dep
  | .neg _ t => t.dep
  | .add w _ _ t => max w.dep t.dep
end
mutual
def Fa.wf : Fa → Prop
  | .num _ n => (numL n).length ≤ 640
  | .nm _ x => x ≠ [] ∧ x.length ≤ 10 ∧ ∀ c ∈ x, isLet c = true
  | .par _ w _ => w.wf
def Te.wf : Te → Prop
  | .one f => f.wf
  | .mul t _ f => t.wf ∧ f.wf
def Wh.wf : Wh → Prop
  | .pos t => t.wf
  | .neg _ t => t.wf
  | .add w _ _ t => w.wf ∧ t.wf
end
def Te.cnt : Te → Nat
  | .one _ => 0
  | .mul t _ _ => t.cnt + 1
def Wh.cnt : Wh → Nat
  | .pos _ => 0
  | .neg _ _ => 0
  | .add w _ _ _ => w.cnt + 1
theorem Te.cnt_le : ∀ t : Te, t.cnt ≤ t.txt.length
  | .one f => Nat.zero_le _
  | .mul t b f => by
    have := Te.cnt_le t
    show t.cnt + 1 ≤ (t.txt ++ (bl b ++ 42 :: f.txt)).length
    rw [List.length_append, List.length_append, List.length_cons]; omega
theorem Wh.cnt_le : ∀ w : Wh, w.cnt ≤ w.txt.length
  | .pos t => Nat.zero_le _
  | .neg b t => Nat.zero_le _
  | .add w b m t => by
    have := Wh.cnt_le w
    show w.cnt + 1 ≤ (w.txt ++ (bl b ++ sg m :: t.txt)).length
    rw [List.length_append, List.length_append, List.length_cons]; omega
def brk : List Nat → Prop
  | [] => True
  | c :: _ => isFig c = false ∧ isLet c = false
theorem brk_bl {b : Nat} {c : Nat} {r : List Nat} (h : isFig c = false ∧ isLet c = false) : brk (bl b ++ c :: r) := by
  cases b with
  | zero => exact h
  | succ b => exact ⟨by decide, by decide⟩
theorem sk_bl (b : Nat) (r : List Nat) : sk (bl b ++ r) = sk r := sk_blanks b r
theorem sk_bl1 {b c : Nat} {r : List Nat} (h : c ≠ 32) : sk (bl b ++ c :: r) = c :: r := by rw [sk_bl, sk_cons h]
theorem facS_sk (N : Nat) (w : List Nat → Option Oc) (cs : List Nat) : facS N w (sk cs) = facS N w cs := by unfold facS; rw [sk_sk]
theorem termS_sk (N : Nat) (w : List Nat → Option Oc) (cs : List Nat) : termS N (facS N w) (sk cs) = termS N (facS N w) cs := by unfold termS; rw [facS_sk]
theorem whoL_sk (t : List Nat → Option Oc) (k : Nat) (l : List (Int × STr)) (ns : NL) (cs : List Nat) : whoL t k l ns (sk cs) = whoL t k l ns cs := by
  cases k with
  | zero => rfl
  | succ k => unfold whoL; rw [sk_sk]
theorem run_full {p : Nat → Bool} {R : List Nat} (hR : ∀ c r, R = c :: r → p c = false) : ∀ (l : List Nat) (n : Nat), (∀ c ∈ l, p c = true) → l.length ≤ n → run p n (l ++ R) = l
  | [], n, _, _ => by
    cases R with
    | nil => exact run_nil p n
    | cons c r =>
      cases n with
      | zero => exact run_0 p _
      | succ n => exact run_no (by rw [hR c r rfl]; exact Bool.false_ne_true)
  | c :: l, n, h, hn => by
    obtain ⟨n, rfl⟩ : ∃ m, n = m + 1 := ⟨n - 1, by rw [List.length_cons] at hn; omega⟩
    rw [List.cons_append, run_yes (h c List.mem_cons_self), run_full hR l n (fun d hd => h d (List.mem_cons_of_mem _ hd)) (by rw [List.length_cons] at hn; omega)]
theorem brk_fig {R : List Nat} (h : brk R) : ∀ c r, R = c :: r → isFig c = false := fun c r e => by subst e; exact h.1
theorem brk_let {R : List Nat} (h : brk R) : ∀ c r, R = c :: r → isLet c = false := fun c r e => by subst e; exact h.2
theorem let_not {c : Nat} (h : isLet c = true) : c ≠ 48 ∧ isFig c = false ∧ c ≠ 32 ∧ c ≠ 45 := by
  unfold isLet at h
  have := of_decide_eq_true h
  refine ⟨by omega, ?_, by omega, by omega⟩
  unfold isFig
  exact decide_eq_false (by omega)
theorem bl_len (b : Nat) : (bl b).length = b := List.length_replicate
theorem fa_head : ∀ f : Fa, f.wf → ∀ R, ∃ c r, sk (f.txt ++ R) = c :: r ∧ c ≠ 45
  | .num b n, h, R => by
    cases e : numL n with
    | nil => exact absurd e (numL_ne n)
    | cons c r =>
      have hc := numL_digits n c (by rw [e]; exact List.mem_cons_self)
      refine ⟨c, r ++ R, ?_, by omega⟩
      show sk (bl b ++ numL n ++ R) = _
      rw [e, List.append_assoc, List.cons_append, sk_bl1 (by omega)]
  | .nm b x, h, R => by
    cases x with
    | nil => exact absurd rfl h.1
    | cons c r =>
      have hc := let_not (h.2.2 c List.mem_cons_self)
      refine ⟨c, r ++ R, ?_, hc.2.2.2⟩
      show sk (bl b ++ c :: r ++ R) = _
      rw [List.append_assoc, List.cons_append, sk_bl1 hc.2.2.1]
  | .par b w b2, h, R => by
    refine ⟨40, w.txt ++ (bl b2 ++ [41]) ++ R, ?_, by decide⟩
    show sk (bl b ++ 40 :: (w.txt ++ (bl b2 ++ [41])) ++ R) = _
    rw [List.append_assoc, List.cons_append, sk_bl1 (by decide)]
theorem te_head : ∀ t : Te, t.wf → ∀ R, ∃ c r, sk (t.txt ++ R) = c :: r ∧ c ≠ 45
  | .one f, h, R => fa_head f h R
  | .mul t b f, h, R => by
    obtain ⟨c, r, e, hc⟩ := te_head t h.1 (bl b ++ 42 :: f.txt ++ R)
    refine ⟨c, r, ?_, hc⟩
    show sk (t.txt ++ (bl b ++ 42 :: f.txt) ++ R) = _
    rw [List.append_assoc]; exact e
theorem ter_end (N : Nat) (f : List Nat → Option Oc) (t : STr) (ns : NL) {R : List Nat} {k : Nat} (h : ∀ c r, sk R = c :: r → c ≠ 42) (hk : 0 < k) : terL N f k t ns R = some (.ok t (sk R) ns) := by
  obtain ⟨k, rfl⟩ : ∃ m, k = m + 1 := ⟨k - 1, by omega⟩
  unfold terL
  cases z : sk R with
  | nil => rfl
  | cons c r =>
    dsimp only
    rw [if_neg (h c r z)]
mutual
theorem fa_ok (N : Nat) : ∀ (f : Fa) (d : Nat) (R : List Nat), f.wf → f.dep ≤ d → brk R → f.txt.length ≤ N → N ≤ 900000 → facS N (pW N d) (f.txt ++ R) = some (.ok (f.tr N R.length) R (f.ns N R.length))
  | .num b n, d, R, hw, hd, hR, hN, hM => by
    have hN' : (bl b ++ numL n).length ≤ N := hN
    rw [List.length_append] at hN'
    show facS N (pW N d) (bl b ++ numL n ++ R) = some (.ok (.num n) R [])
    cases e : numL n with
    | nil => exact absurd e (numL_ne n)
    | cons c r =>
      have hc := numL_digits n c (by rw [e]; exact List.mem_cons_self)
      have hs : sk (bl b ++ (c :: r) ++ R) = c :: (r ++ R) := by rw [List.append_assoc, List.cons_append, sk_bl1 (by omega)]
      unfold facS
      rw [hs]
      dsimp only
      by_cases h0 : c = 48
      · rw [if_pos h0]
        by_cases hn0 : n = 0
        · subst hn0
          rw [numL_lt (by decide)] at e
          cases e
          rfl
        · obtain ⟨c', r', e', h1, _⟩ := numL_head (m := n) (by omega)
          rw [e] at e'
          cases e'
          omega
      · have hf : isFig c = true := decide_eq_true hc
        have ru : run isFig N (c :: (r ++ R)) = numL n := by
          have := run_full (brk_fig hR) (numL n) N (fun c hc => decide_eq_true (numL_digits n c hc)) (by omega)
          rw [e] at this ⊢
          exact this
        rw [if_neg h0, if_pos hf, ru, if_pos (show (numL n).length ≤ 640 from hw), show figV (numL n) = n from numL_val n]
        have : (c :: (r ++ R)).drop (numL n).length = R := by rw [e, ← List.cons_append, List.drop_left]
        rw [this]
  | .nm b x, d, R, hw, hd, hR, hN, hM => by
    show facS N (pW N d) (bl b ++ x ++ R) = some (.ok (.nm (st x)) R [(st x, N - (x.length + R.length))])
    obtain ⟨hne, h10, hl⟩ := hw
    cases x with
    | nil => exact absurd rfl hne
    | cons c r =>
      have hc := let_not (hl c List.mem_cons_self)
      have hs : sk (bl b ++ (c :: r) ++ R) = c :: (r ++ R) := by rw [List.append_assoc, List.cons_append, sk_bl1 hc.2.2.1]
      unfold facS
      rw [hs]
      dsimp only
      have ru : run isLet 10 (c :: (r ++ R)) = c :: r := run_full (brk_let hR) (c :: r) 10 hl h10
      rw [if_neg hc.1, if_neg (by rw [hc.2.1]; exact Bool.false_ne_true), if_pos (hl c List.mem_cons_self), ru]
      have : (c :: (r ++ R)).drop (c :: r).length = R := by rw [← List.cons_append, List.drop_left]
      rw [this]
      have e2 : (c :: (r ++ R)).length = (c :: r).length + R.length := by rw [← List.cons_append, List.length_append]
      rw [e2]
  | .par b w b2, d, R, hw, hd, hR, hN, hM => by
    obtain ⟨n, rfl⟩ : ∃ n, d = n + 1 := ⟨d - 1, by have : w.dep + 1 ≤ d := hd; omega⟩
    have hd' : w.dep + 1 ≤ n + 1 := hd
    have hN' : (bl b ++ 40 :: (w.txt ++ (bl b2 ++ [41]))).length ≤ N := hN
    rw [List.length_append, List.length_cons, List.length_append] at hN'
    show facS N (pW N (n + 1)) (bl b ++ 40 :: (w.txt ++ (bl b2 ++ [41])) ++ R) = some (.ok (.sum (STs.of (w.its N (b2 + 1 + R.length)))) R (w.ns N (b2 + 1 + R.length)))
    have hs : sk (bl b ++ 40 :: (w.txt ++ (bl b2 ++ [41])) ++ R) = 40 :: (w.txt ++ (bl b2 ++ 41 :: R)) := by
      rw [List.append_assoc, List.cons_append, sk_bl1 (by decide), List.append_assoc, List.append_assoc]; rfl
    have len2 : (bl b2 ++ 41 :: R).length = b2 + 1 + R.length := by rw [List.length_append, List.length_cons, bl_len]; omega
    have ih := wh_ok N w n (bl b2 ++ 41 :: R) hw (by omega) (brk_bl ⟨by decide, by decide⟩) (by rw [sk_bl1 (by decide)]; exact fun c r z => by cases z; decide) (by omega) hM
    have kk : bigN - w.cnt = (bigN - w.cnt - 1) + 1 := by have := w.cnt_le; rw [bigN_eq]; omega
    have st1 : whoL (termS N (facS N (pW N n))) (bigN - w.cnt) (w.its N (bl b2 ++ 41 :: R).length) (w.ns N (bl b2 ++ 41 :: R).length) (bl b2 ++ 41 :: R) = some (.ok (.sum (STs.of (w.its N (b2 + 1 + R.length)))) (41 :: R) (w.ns N (b2 + 1 + R.length))) := by
      rw [kk, len2]
      unfold whoL
      rw [sk_bl1 (by decide)]
      dsimp only
      rw [if_neg (by decide)]
    have pw : pW N (n + 1) (w.txt ++ (bl b2 ++ 41 :: R)) = some (.ok (.sum (STs.of (w.its N (b2 + 1 + R.length)))) (41 :: R) (w.ns N (b2 + 1 + R.length))) := ih.trans st1
    unfold facS
    rw [hs]
    dsimp only
    rw [if_neg (by decide), if_neg (by decide), if_neg (by decide), if_pos rfl, pw]
    dsimp only
    rw [sk_cons (by decide)]
    dsimp only
    rw [if_pos rfl]
theorem te_ok (N : Nat) : ∀ (t : Te) (d : Nat) (R : List Nat), t.wf → t.dep ≤ d → brk R → t.txt.length ≤ N → N ≤ 900000 → termS N (facS N (pW N d)) (t.txt ++ R) = terL N (facS N (pW N d)) (bigN - t.cnt) (t.tr N R.length) (t.ns N R.length) R
  | .one f, d, R, hw, hd, hR, hN, hM => by
    have ih := fa_ok N f d R hw hd hR hN hM
    show termS N (facS N (pW N d)) (f.txt ++ R) = _
    unfold termS
    rw [ih]
    rfl
  | .mul t b f, d, R, hw, hd, hR, hN, hM => by
    have hN' : (t.txt ++ (bl b ++ 42 :: f.txt)).length ≤ N := hN
    rw [List.length_append, List.length_append, List.length_cons] at hN'
    have hd' : max t.dep f.dep ≤ d := hd
    have ih := te_ok N t d (bl b ++ 42 :: (f.txt ++ R)) hw.1 (by omega) (brk_bl ⟨by decide, by decide⟩) (by omega) hM
    have i2 := fa_ok N f d R hw.2 (by omega) hR (by omega) hM
    show termS N (facS N (pW N d)) (t.txt ++ (bl b ++ 42 :: f.txt) ++ R) = _
    have e : t.txt ++ (bl b ++ 42 :: f.txt) ++ R = t.txt ++ (bl b ++ 42 :: (f.txt ++ R)) := by simp only [List.append_assoc, List.cons_append]
    rw [e, ih]
    have c1 := t.cnt_le
    have kk : bigN - t.cnt = (bigN - (Te.mul t b f).cnt) + 1 := by show _ = bigN - (t.cnt + 1) + 1; rw [bigN_eq]; omega
    have len2 : (bl b ++ 42 :: (f.txt ++ R)).length = b + 1 + f.txt.length + R.length := by simp only [List.length_append, List.length_cons, bl_len]; omega
    rw [kk, len2]
    conv => lhs; unfold terL
    rw [sk_bl1 (by decide)]
    dsimp only
    rw [if_pos rfl, i2]
    dsimp only
    have e3 : (42 :: (f.txt ++ R)).length = 1 + f.txt.length + R.length := by simp only [List.length_append, List.length_cons]; omega
    rw [e3]
    rfl
theorem wh_ok (N : Nat) : ∀ (w : Wh) (d : Nat) (R : List Nat), w.wf → w.dep ≤ d → brk R → (∀ c r, sk R = c :: r → c ≠ 42) → w.txt.length ≤ N → N ≤ 900000 → wholeS (termS N (facS N (pW N d))) (w.txt ++ R) = whoL (termS N (facS N (pW N d))) (bigN - w.cnt) (w.its N R.length) (w.ns N R.length) R
  | .pos t, d, R, hw, hd, hR, hS, hN, hM => by
    have ih := te_ok N t d R hw hd hR hN hM
    have te := ter_end N (facS N (pW N d)) (t.tr N R.length) (t.ns N R.length) hS (show 0 < bigN - t.cnt by have := t.cnt_le; have : t.txt.length ≤ N := hN; rw [bigN_eq]; omega)
    obtain ⟨c, r, e, hc⟩ := te_head t hw R
    show wholeS _ (t.txt ++ R) = _
    unfold wholeS minus?
    rw [e]
    dsimp only
    rw [if_neg hc]
    dsimp only
    rw [← e, termS_sk, ih, te]
    dsimp only
    rw [whoL_sk]
    rfl
  | .neg b t, d, R, hw, hd, hR, hS, hN, hM => by
    have hN' : (bl b ++ 45 :: t.txt).length ≤ N := hN
    rw [List.length_append, List.length_cons] at hN'
    have ih := te_ok N t d R hw hd hR (by omega) hM
    have te := ter_end N (facS N (pW N d)) (t.tr N R.length) (t.ns N R.length) hS (show 0 < bigN - t.cnt by have := t.cnt_le; rw [bigN_eq]; omega)
    show wholeS _ (bl b ++ 45 :: t.txt ++ R) = _
    unfold wholeS minus?
    rw [List.append_assoc, List.cons_append, sk_bl1 (by decide)]
    dsimp only
    rw [if_pos rfl]
    dsimp only
    rw [ih, te]
    dsimp only
    rw [whoL_sk]
    rfl
  | .add w b m t, d, R, hw, hd, hR, hS, hN, hM => by
    have hN' : (w.txt ++ (bl b ++ sg m :: t.txt)).length ≤ N := hN
    rw [List.length_append, List.length_append, List.length_cons] at hN'
    have hd' : max w.dep t.dep ≤ d := hd
    have s32 : sg m ≠ 32 := by cases m <;> decide
    have ih := wh_ok N w d (bl b ++ sg m :: (t.txt ++ R)) hw.1 (by omega) (brk_bl (by cases m <;> exact ⟨by decide, by decide⟩)) (by rw [sk_bl1 s32]; exact fun c r z => by cases z; cases m <;> decide) (by omega) hM
    have i2 := te_ok N t d R hw.2 (by omega) hR (by omega) hM
    have te := ter_end N (facS N (pW N d)) (t.tr N R.length) (t.ns N R.length) hS (show 0 < bigN - t.cnt by have := t.cnt_le; rw [bigN_eq]; omega)
    show wholeS _ (w.txt ++ (bl b ++ sg m :: t.txt) ++ R) = _
    have e : w.txt ++ (bl b ++ sg m :: t.txt) ++ R = w.txt ++ (bl b ++ sg m :: (t.txt ++ R)) := by simp only [List.append_assoc, List.cons_append]
    rw [e, ih]
    have c1 := w.cnt_le
    have kk : bigN - w.cnt = (bigN - (Wh.add w b m t).cnt) + 1 := by show _ = bigN - (w.cnt + 1) + 1; rw [bigN_eq]; omega
    have len2 : (bl b ++ sg m :: (t.txt ++ R)).length = b + 1 + t.txt.length + R.length := by simp only [List.length_append, List.length_cons, bl_len]; omega
    rw [kk, len2]
    conv => lhs; unfold whoL
    rw [sk_bl1 s32]
    dsimp only
    rw [if_pos (by cases m <;> simp [sg]), i2, te]
    dsimp only
    rw [whoL_sk]
    have em : (if sg m = 45 then (-1 : Int) else 1) = sgI m := by cases m <;> rfl
    rw [em]
    rfl
end
end DL
namespace DL
open PySem PySem.Spec L2 TL
mutual
def Fa.val (nm : List Str) : Fa → Option Fm
  | .num _ n => some (List.replicate nm.length 0, n)
  | .nm _ x => some (nm.map fun y => if y = st x then 1 else 0, 0)
  | .par _ w _ => w.val nm
def Te.val (nm : List Str) : Te → Option Fm
  | .one f => f.val nm
  | .mul t _ f => match t.val nm, f.val nm with
    | some x, some y => if isN x = true then some (scF y x.2) else if isN y = true then some (scF x y.2) else none
    | _, _ => none
def Wh.val (nm : List Str) : Wh → Option Fm
  | .pos t => t.val nm
  | .neg _ t => (t.val nm).map fun x => scF x (-1)
  | .add w _ m t => match w.val nm, t.val nm with
    | some x, some y => some (adF x (scF y (sgI m)))
    | _, _ => none
end
mutual
def Fa.nms : Fa → List (List Nat)
  | .num _ _ => []
  | .nm _ x => [x]
  | .par _ w _ => w.nms
def Te.nms : Te → List (List Nat)
  | .one f => f.nms
  | .mul t _ f => t.nms ++ f.nms
def Wh.nms : Wh → List (List Nat)
  | .pos t => t.nms
  | .neg _ t => t.nms
  | .add w _ _ t => w.nms ++ t.nms
end
mutual
def Fa.td : Fa → Nat
  | .num _ _ => 1
  | .nm _ _ => 1
  | .par _ w _ => w.td + 1
def Te.td : Te → Nat
  | .one f => f.td
  | .mul t _ f => max t.td f.td + 1
def Wh.td : Wh → Nat
  | .pos t => t.td
  | .neg _ t => t.td
  | .add w _ _ t => max w.td t.td
end
theorem scF_len (f : Fm) (m : Int) : (scF f m).1.length = f.1.length := List.length_map _
theorem adF_len {f g : Fm} (h : f.1.length = g.1.length) : (adF f g).1.length = f.1.length := by
  show ((f.1.zip g.1).map _).length = _
  rw [List.length_map, List.length_zip, h, Nat.min_self]
mutual
theorem fa_len {nm : List Str} : ∀ {f : Fa} {v : Fm}, f.val nm = some v → v.1.length = nm.length
  | .num _ n, v, h => by cases h; exact List.length_replicate
  | .nm _ x, v, h => by cases h; exact List.length_map _
  | .par _ w _, v, h => wh_len (w := w) h
theorem te_len {nm : List Str} : ∀ {t : Te} {v : Fm}, t.val nm = some v → v.1.length = nm.length
  | .one f, v, h => fa_len (f := f) h
  | .mul t _ f, v, h => by
    unfold Te.val at h
    cases ht : t.val nm with
    | none => rw [ht] at h; cases h
    | some x =>
      cases hf : f.val nm with
      | none => rw [ht, hf] at h; cases h
      | some y =>
        rw [ht, hf] at h
        dsimp only at h
        split at h
        · cases h; rw [scF_len]; exact fa_len hf
        · split at h
          · cases h; rw [scF_len]; exact te_len ht
          · cases h
theorem wh_len {nm : List Str} : ∀ {w : Wh} {v : Fm}, w.val nm = some v → v.1.length = nm.length
  | .pos t, v, h => te_len (t := t) h
  | .neg _ t, v, h => by
    unfold Wh.val at h
    cases ht : t.val nm with
    | none => rw [ht] at h; cases h
    | some x => rw [ht] at h; cases h; rw [scF_len]; exact te_len ht
  | .add w _ m t, v, h => by
    unfold Wh.val at h
    cases hw : w.val nm with
    | none => rw [hw] at h; cases h
    | some x =>
      cases ht : t.val nm with
      | none => rw [hw, ht] at h; cases h
      | some y =>
        rw [hw, ht] at h
        cases h
        rw [adF_len (by rw [scF_len, wh_len hw, te_len ht]), wh_len hw]
end
theorem ad_zero {n : Nat} {f : Fm} (h : f.1.length = n) : adF (zeF n) f = f := by
  subst h
  obtain ⟨l, r⟩ := f
  unfold adF zeF
  dsimp only
  rw [Int.zero_add]
  congr 1
  induction l with
  | nil => rfl
  | cons a l ih => rw [List.length_cons, List.replicate_succ, List.zip_cons_cons, List.map_cons, ih, Int.zero_add]
theorem sc_one (f : Fm) : scF f 1 = f := by
  obtain ⟨l, r⟩ := f
  unfold scF
  simp
theorem frms_snoc {nm : List Str} {m : Int} {t : STr} : ∀ (l : List (Int × STr)) (acc : Fm), frms nm (STs.of (l ++ [(m, t)])) acc = match frms nm (STs.of l) acc with
    | .error q => .error q
    | .ok x => match frm nm t with
      | .error q => .error q
      | .ok y => .ok (adF x (scF y m))
  | [], acc => by
    show frms nm (.cons m t .nil) acc = _
    unfold frms STs.of
    cases frm nm t with
    | error q => rfl
    | ok y => rfl
  | p :: l, acc => by
    show frms nm (.cons p.1 p.2 (STs.of (l ++ [(m, t)]))) acc = match frms nm (.cons p.1 p.2 (STs.of l)) acc with
      | .error q => .error q
      | .ok x => match frm nm t with
        | .error q => .error q
        | .ok y => .ok (adF x (scF y m))
    conv => lhs; unfold frms
    conv => rhs; unfold frms
    cases frm nm p.2 with
    | error q => rfl
    | ok y => dsimp only; exact frms_snoc l _
mutual
theorem fa_frm {nm : List Str} (N : Nat) : ∀ {f : Fa} {v : Fm} (k : Nat), f.val nm = some v → frm nm (f.tr N k) = .ok v
  | .num _ n, v, k, h => by cases h; rfl
  | .nm _ x, v, k, h => by cases h; rfl
  | .par _ w b2, v, k, h => wh_frm (w := w) N (b2 + 1 + k) h
theorem te_frm {nm : List Str} (N : Nat) : ∀ {t : Te} {v : Fm} (k : Nat), t.val nm = some v → frm nm (t.tr N k) = .ok v
  | .one f, v, k, h => fa_frm (f := f) N k h
  | .mul t b f, v, k, h => by
    unfold Te.val at h
    show frm nm (.times (t.tr N (b + 1 + f.txt.length + k)) (f.tr N k) (N - (1 + f.txt.length + k))) = _
    unfold frm
    cases ht : t.val nm with
    | none => rw [ht] at h; cases h
    | some x =>
      cases hf : f.val nm with
      | none => rw [ht, hf] at h; cases h
      | some y =>
        rw [ht, hf] at h
        rw [te_frm N _ ht]
        dsimp only
        rw [fa_frm N _ hf]
        dsimp only at h ⊢
        split at h
        · rename_i h1
          cases h
          rw [if_pos h1]
        · rename_i h1
          rw [if_neg h1]
          split at h
          · rename_i h2
            cases h
            rw [if_pos h2]
          · cases h
theorem wh_frm {nm : List Str} (N : Nat) : ∀ {w : Wh} {v : Fm} (k : Nat), w.val nm = some v → frms nm (STs.of (w.its N k)) (zeF nm.length) = .ok v
  | .pos t, v, k, h => by
    show frms nm (.cons 1 (t.tr N k) .nil) _ = _
    unfold frms
    rw [te_frm (t := t) N k h]
    dsimp only
    unfold frms
    rw [sc_one, ad_zero (te_len (t := t) h)]
  | .neg _ t, v, k, h => by
    unfold Wh.val at h
    cases ht : t.val nm with
    | none => rw [ht] at h; cases h
    | some x =>
      rw [ht] at h
      cases h
      show frms nm (.cons (-1) (t.tr N k) .nil) _ = _
      unfold frms
      rw [te_frm (t := t) N k ht]
      dsimp only
      unfold frms
      rw [ad_zero (by rw [scF_len]; exact te_len ht)]
  | .add w b m t, v, k, h => by
    unfold Wh.val at h
    cases hw : w.val nm with
    | none => rw [hw] at h; cases h
    | some x =>
      cases ht : t.val nm with
      | none => rw [hw, ht] at h; cases h
      | some y =>
        rw [hw, ht] at h
        cases h
        show frms nm (STs.of (w.its N (b + 1 + t.txt.length + k) ++ [(sgI m, t.tr N k)])) _ = _
        rw [frms_snoc, wh_frm N _ hw]
        dsimp only
        rw [te_frm N _ ht]
end
theorem dep_snoc {m : Int} {t : STr} : ∀ l : List (Int × STr), (STs.of (l ++ [(m, t)])).dep = max (STs.of l).dep t.dep
  | [] => by show max t.dep 0 = max 0 t.dep; omega
  | p :: l => by
    show max p.2.dep (STs.of (l ++ [(m, t)])).dep = max (max p.2.dep (STs.of l).dep) t.dep
    rw [dep_snoc l]; omega
theorem bt_snoc {m : Int} {t : STr} : ∀ l : List (Int × STr), (STs.of (l ++ [(m, t)])).bt = (STs.of l).bt + t.bt + m.natAbs
  | [] => by show t.bt + 0 + m.natAbs = 0 + t.bt + m.natAbs; omega
  | p :: l => by
    show p.2.bt + (STs.of (l ++ [(m, t)])).bt + p.1.natAbs = p.2.bt + (STs.of l).bt + p.1.natAbs + t.bt + m.natAbs
    rw [bt_snoc l]; omega
mutual
theorem fa_dep (N : Nat) : ∀ (f : Fa) (k : Nat), (f.tr N k).dep = f.td
  | .num _ n, k => rfl
  | .nm _ x, k => rfl
  | .par _ w b2, k => by show (STs.of (w.its N (b2 + 1 + k))).dep + 1 = _; rw [wh_dep N w]; rfl
theorem te_dep (N : Nat) : ∀ (t : Te) (k : Nat), (t.tr N k).dep = t.td
  | .one f, k => fa_dep N f k
  | .mul t b f, k => by show max (t.tr N _).dep (f.tr N k).dep + 1 = _; rw [te_dep N t, fa_dep N f]; rfl
theorem wh_dep (N : Nat) : ∀ (w : Wh) (k : Nat), (STs.of (w.its N k)).dep = w.td
  | .pos t, k => by show max (t.tr N k).dep 0 = _; rw [te_dep N t]; show max t.td 0 = t.td; omega
  | .neg _ t, k => by show max (t.tr N k).dep 0 = _; rw [te_dep N t]; show max t.td 0 = t.td; omega
  | .add w b m t, k => by
    show (STs.of (w.its N _ ++ [(sgI m, t.tr N k)])).dep = _
    rw [dep_snoc, wh_dep N w, te_dep N t]; rfl
end
theorem num_bt (n : Nat) : n.log2 + 1 ≤ 4 * (numL n).length := by
  have h1 : n < 10 ^ (numL n).length := by
    have : ∀ (l : List Nat), NumText.AllDigits l → ∀ a, l.foldl (fun acc c => acc * 10 + (c - 48)) a < (a + 1) * 10 ^ l.length := fun l => by
      induction l with
      | nil => intro _ a; simp
      | cons c r ih =>
        intro h a
        have hc := h c List.mem_cons_self
        have := ih (fun d hd => h d (List.mem_cons_of_mem _ hd)) (a * 10 + (c - 48))
        rw [List.foldl_cons, List.length_cons, Nat.pow_succ]
        refine Nat.lt_of_lt_of_le this ?_
        rw [Nat.mul_comm (10 ^ r.length) 10, ← Nat.mul_assoc]
        exact Nat.mul_le_mul_right _ (by omega)
    have := this (numL n) (numL_digits n) 0
    rw [Nat.zero_add, Nat.one_mul] at this
    have e : (numL n).foldl (fun acc c => acc * 10 + (c - 48)) 0 = n := numL_val n
    rwa [e] at this
  by_cases h0 : n = 0
  · subst h0
    rw [numL_lt (by decide)]
    decide
  · have h2 : (10 : Nat) ^ (numL n).length ≤ 2 ^ (4 * (numL n).length) := by
      rw [Nat.pow_mul]
      exact Nat.pow_le_pow_left (by decide) _
    have := (Nat.log2_lt h0).mpr (Nat.lt_of_lt_of_le h1 h2)
    omega
theorem numL_pos (n : Nat) : 1 ≤ (numL n).length := by
  cases e : numL n with
  | nil => exact absurd e (numL_ne n)
  | cons c r => rw [List.length_cons]; omega
mutual
theorem fa_bt (N : Nat) : ∀ (f : Fa) (k : Nat), f.wf → (f.tr N k).bt + 1 ≤ 5 * f.txt.length
  | .num b n, k, h => by
    have := num_bt n
    have := numL_pos n
    show n.log2 + 1 + 1 ≤ 5 * (bl b ++ numL n).length
    rw [List.length_append]; omega
  | .nm b x, k, h => by
    have : 1 ≤ x.length := by
      cases x with
      | nil => exact absurd rfl h.1
      | cons _ _ => rw [List.length_cons]; omega
    show 1 + 1 ≤ 5 * (bl b ++ x).length
    rw [List.length_append]; omega
  | .par b w b2, k, h => by
    have := wh_bt N w (b2 + 1 + k) h
    show (STs.of (w.its N (b2 + 1 + k))).bt + 1 ≤ 5 * (bl b ++ 40 :: (w.txt ++ (bl b2 ++ [41]))).length
    rw [List.length_append, List.length_cons, List.length_append, List.length_append, List.length_cons]; omega
theorem te_bt (N : Nat) : ∀ (t : Te) (k : Nat), t.wf → (t.tr N k).bt + 1 ≤ 5 * t.txt.length
  | .one f, k, h => fa_bt N f k h
  | .mul t b f, k, h => by
    have := te_bt N t (b + 1 + f.txt.length + k) h.1
    have := fa_bt N f k h.2
    show (t.tr N (b + 1 + f.txt.length + k)).bt + (f.tr N k).bt + 1 ≤ 5 * (t.txt ++ (bl b ++ 42 :: f.txt)).length
    rw [List.length_append, List.length_append, List.length_cons]; omega
theorem wh_bt (N : Nat) : ∀ (w : Wh) (k : Nat), w.wf → (STs.of (w.its N k)).bt ≤ 5 * w.txt.length
  | .pos t, k, h => by
    have := te_bt N t k h
    show (t.tr N k).bt + 0 + 1 ≤ 5 * t.txt.length
    omega
  | .neg b t, k, h => by
    have := te_bt N t k h
    show (t.tr N k).bt + 0 + 1 ≤ 5 * (bl b ++ 45 :: t.txt).length
    rw [List.length_append, List.length_cons]; omega
  | .add w b m t, k, h => by
    have := wh_bt N w (b + 1 + t.txt.length + k) h.1
    have := te_bt N t k h.2
    have : (sgI m).natAbs = 1 := by cases m <;> rfl
    show (STs.of (w.its N (b + 1 + t.txt.length + k) ++ [(sgI m, t.tr N k)])).bt ≤ 5 * (w.txt ++ (bl b ++ sg m :: t.txt)).length
    rw [bt_snoc, List.length_append, List.length_append, List.length_cons]; omega
end
mutual
theorem fa_ns (N : Nat) : ∀ (f : Fa) (k : Nat), (f.ns N k).map (·.1) = f.nms.map st
  | .num _ n, k => rfl
  | .nm _ x, k => rfl
  | .par _ w b2, k => wh_ns N w (b2 + 1 + k)
theorem te_ns (N : Nat) : ∀ (t : Te) (k : Nat), (t.ns N k).map (·.1) = t.nms.map st
  | .one f, k => fa_ns N f k
  | .mul t b f, k => by
    show (t.ns N _ ++ f.ns N k).map _ = (t.nms ++ f.nms).map st
    rw [List.map_append, List.map_append, te_ns N t, fa_ns N f]
theorem wh_ns (N : Nat) : ∀ (w : Wh) (k : Nat), (w.ns N k).map (·.1) = w.nms.map st
  | .pos t, k => te_ns N t k
  | .neg _ t, k => te_ns N t k
  | .add w b m t, k => by
    show (w.ns N _ ++ t.ns N k).map _ = (w.nms ++ t.nms).map st
    rw [List.map_append, List.map_append, wh_ns N w, te_ns N t]
end
theorem nlook_none {nm : List Str} : ∀ {ns : NL}, (∀ x ∈ ns.map (·.1), x ∈ nm) → nlook nm ns = none
  | [], _ => rfl
  | p :: l, h => by
    unfold nlook
    rw [if_pos (h p.1 List.mem_cons_self), nlook_none fun x hx => h x (List.mem_cons_of_mem _ hx)]
theorem pw_ok {N d : Nat} {w : Wh} {R : List Nat} (hw : w.wf) (hd : w.dep ≤ d) (hR : brk R) (hS : ∀ c r, sk R = c :: r → c ≠ 42 ∧ c ≠ 43 ∧ c ≠ 45) (hN : w.txt.length ≤ N) (hM : N ≤ 900000) :
    pW N (d + 1) (w.txt ++ R) = some (.ok (.sum (STs.of (w.its N R.length))) (sk R) (w.ns N R.length)) := by
  have h := wh_ok N w d R hw hd hR (fun c r e => (hS c r e).1) hN hM
  refine h.trans ?_
  obtain ⟨k, hk⟩ : ∃ m, bigN - w.cnt = m + 1 := ⟨bigN - w.cnt - 1, by have := w.cnt_le; rw [bigN_eq]; omega⟩
  rw [hk]
  unfold whoL
  cases z : sk R with
  | nil => rfl
  | cons c r =>
    have := hS c r z
    dsimp only
    rw [if_neg (by rintro (e | e); exact this.2.1 e; exact this.2.2 e)]
theorem read_cst {nm : List Str} {s : Str} {w : Wh} {e : Nat} {v : Fm} (hs : tl s = w.txt ++ bl e) (hl : s.length ≤ 70000) (hw : w.wf) (hd : w.dep ≤ 17) (ht : w.td ≤ 53) (hv : w.val nm = some v) (hn : ∀ x ∈ w.nms, st x ∈ nm) :
    ∃ o, pW s.length 18 (tl s) = some o ∧ readR nm s.length o = .ok v ∧ ∀ t r ns, o = .ok t r ns → t.dep ≤ 54 ∧ t.bt ≤ 390000 := by
  have lt := len_tl s
  rw [hs, List.length_append] at lt
  have hb : brk (bl e) := by
    cases e with
    | zero => trivial
    | succ e => exact ⟨by decide, by decide⟩
  have sb : sk (bl e) = [] := by
    have := sk_bl e []
    rwa [List.append_nil] at this
  have p := pw_ok (N := s.length) (d := 17) hw hd hb (fun c r z => by rw [sb] at z; cases z) (by omega) (by omega)
  refine ⟨_, by rw [hs]; exact p, ?_, ?_⟩
  · unfold readR
    dsimp only
    rw [sb, sk_nil]
    dsimp only
    rw [nlook_none (by rw [wh_ns]; intro x hx; obtain ⟨y, hy, rfl⟩ := List.mem_map.mp hx; exact hn y hy)]
    dsimp only
    have : frm nm (.sum (STs.of (w.its s.length (bl e).length))) = .ok v := wh_frm s.length _ hv
    rw [this]
  · intro t r ns z
    cases z
    refine ⟨?_, ?_⟩
    · show (STs.of _).dep + 1 ≤ 54
      rw [wh_dep]; omega
    · have := wh_bt s.length w (bl e).length hw
      show (STs.of _).bt ≤ 390000
      omega
def nmOk (x : Str) : Prop := tl x ≠ [] ∧ (tl x).length ≤ 10 ∧ ∀ c ∈ tl x, isLet c = true
end DL
namespace DL
open PySem PySem.Spec L2 TL
abbrev Pc := Int × Option Str
def pcT (p : Pc) : List Nat := match p.2 with
  | none => numL p.1.natAbs
  | some x => if p.1.natAbs = 1 then tl x else numL p.1.natAbs ++ 42 :: tl x
def pcs (nm : List Str) (f : Fm) : List Pc :=
  let l := ((nm.zip f.1).filter fun p => decide (p.2 ≠ 0)).map fun p => ((p.2, some p.1) : Pc)
  if f.2 ≠ 0 ∨ l = [] then l ++ [(f.2, none)] else l
def shR (l : List Pc) : List Nat := (l.map fun q => 32 :: sg (decide (q.1 < 0)) :: 32 :: pcT q).flatten
def shL : List Pc → List Nat
  | [] => []
  | p :: l => (if p.1 < 0 then 45 :: pcT p else pcT p) ++ shR l
def pcTe (b : Nat) (p : Pc) : Te := match p.2 with
  | none => .one (.num b p.1.natAbs)
  | some x => if p.1.natAbs = 1 then .one (.nm b (tl x)) else .mul (.one (.num b p.1.natAbs)) 0 (.nm 0 (tl x))
theorem pcTe_txt (b : Nat) (p : Pc) : (pcTe b p).txt = bl b ++ pcT p := by
  obtain ⟨c, o⟩ := p
  cases o with
  | none => rfl
  | some x =>
    unfold pcTe pcT
    dsimp only
    split
    · rfl
    · show (bl b ++ numL c.natAbs) ++ (bl 0 ++ 42 :: (bl 0 ++ tl x)) = bl b ++ (numL c.natAbs ++ 42 :: tl x)
      rw [List.append_assoc]; rfl
def wh0 (p : Pc) : Wh := if p.1 < 0 then .neg 0 (pcTe 0 p) else .pos (pcTe 0 p)
def whA (w : Wh) (l : List Pc) : Wh := l.foldl (fun w q => .add w 1 (decide (q.1 < 0)) (pcTe 1 q)) w
theorem whA_txt : ∀ (l : List Pc) (w : Wh), (whA w l).txt = w.txt ++ shR l
  | [], w => (List.append_nil _).symm
  | q :: l, w => by
    show (whA (.add w 1 (decide (q.1 < 0)) (pcTe 1 q)) l).txt = _
    rw [whA_txt l]
    show w.txt ++ (bl 1 ++ sg (decide (q.1 < 0)) :: (pcTe 1 q).txt) ++ shR l = w.txt ++ (32 :: sg (decide (q.1 < 0)) :: 32 :: pcT q ++ shR l)
    rw [pcTe_txt, List.append_assoc]; rfl
theorem wh_txt (p : Pc) (l : List Pc) : (whA (wh0 p) l).txt = shL (p :: l) := by
  rw [whA_txt]
  show _ = (if p.1 < 0 then 45 :: pcT p else pcT p) ++ shR l
  unfold wh0
  by_cases h : p.1 < 0
  · rw [if_pos h, if_pos h]
    show (bl 0 ++ 45 :: (pcTe 0 p).txt) ++ shR l = _
    rw [pcTe_txt]; rfl
  · rw [if_neg h, if_neg h]
    show (pcTe 0 p).txt ++ shR l = _
    rw [pcTe_txt]; rfl
def pcF (nm : List Str) (p : Pc) : Fm := match p.2 with
  | none => (List.replicate nm.length 0, p.1)
  | some x => (nm.map fun y => if y = x then p.1 else 0, 0)
theorem rep_map (nm : List Str) : List.replicate nm.length (0 : Int) = nm.map fun _ => 0 := by
  induction nm with
  | nil => rfl
  | cons a l ih => rw [List.length_cons, List.replicate_succ, ih]; rfl
theorem isN_zero (n : Nat) (r : Int) : isN (List.replicate n 0, r) = true := by
  refine decide_eq_true ?_
  rw [List.filter_eq_nil_iff]
  intro a ha
  rw [List.eq_of_mem_replicate ha]; decide
theorem sgn_abs (c : Int) : sgI (decide (c < 0)) * (c.natAbs : Int) = c := by
  by_cases h : c < 0
  · rw [decide_eq_true h]; show -1 * _ = _; omega
  · rw [decide_eq_false h]; show 1 * _ = _; omega
theorem pcTe_val (nm : List Str) (b : Nat) (p : Pc) : ∃ v, (pcTe b p).val nm = some v ∧ scF v (sgI (decide (p.1 < 0))) = pcF nm p := by
  obtain ⟨c, o⟩ := p
  cases o with
  | none =>
    refine ⟨_, rfl, ?_⟩
    show (List.map _ (List.replicate nm.length 0), sgI (decide (c < 0)) * (c.natAbs : Int)) = _
    rw [sgn_abs, List.map_replicate, Int.mul_zero]; rfl
  | some x =>
    unfold pcTe
    dsimp only
    split
    · rename_i h
      refine ⟨_, rfl, ?_⟩
      show (List.map _ (List.map _ nm), sgI (decide (c < 0)) * 0) = (nm.map fun y => if y = x then c else 0, 0)
      rw [Int.mul_zero, List.map_map]
      congr 1
      refine List.map_congr_left fun y _ => ?_
      show sgI (decide (c < 0)) * (if y = st (tl x) then 1 else 0) = _
      have sx : st (tl x) = x := mk_tl x
      rw [sx]
      have := sgn_abs c
      rw [h] at this
      by_cases hy : y = x
      · rw [if_pos hy, if_pos hy]; exact this
      · rw [if_neg hy, if_neg hy, Int.mul_zero]
    · refine ⟨scF (nm.map fun y => if y = st (tl x) then 1 else 0, 0) (c.natAbs : Int), ?_, ?_⟩
      · show (match some ((List.replicate nm.length 0, (c.natAbs : Int)) : Fm), some ((nm.map fun y => if y = st (tl x) then 1 else 0, 0) : Fm) with
          | some x, some y => if isN x = true then some (scF y x.2) else if isN y = true then some (scF x y.2) else none
          | _, _ => none) = _
        dsimp only
        rw [if_pos (isN_zero _ _)]
      · show (List.map _ (List.map _ (List.map _ nm)), sgI (decide (c < 0)) * ((c.natAbs : Int) * 0)) = (nm.map fun y => if y = x then c else 0, 0)
        rw [Int.mul_zero, Int.mul_zero, List.map_map, List.map_map]
        congr 1
        refine List.map_congr_left fun y _ => ?_
        show sgI (decide (c < 0)) * ((c.natAbs : Int) * (if y = st (tl x) then 1 else 0)) = _
        have sx : st (tl x) = x := mk_tl x
        rw [sx]
        by_cases hy : y = x
        · rw [if_pos hy, if_pos hy, Int.mul_one]; exact sgn_abs c
        · rw [if_neg hy, if_neg hy, Int.mul_zero, Int.mul_zero]
def smF (nm : List Str) : List Pc → Fm
  | [] => zeF nm.length
  | p :: l => adF (pcF nm p) (smF nm l)
theorem ad_assoc : ∀ {a b c : Fm}, adF (adF a b) c = adF a (adF b c) := fun {a b c} => by
  obtain ⟨a, x⟩ := a
  obtain ⟨b, y⟩ := b
  obtain ⟨c, z⟩ := c
  unfold adF
  dsimp only
  rw [Int.add_assoc]
  congr 1
  induction a generalizing b c with
  | nil => rfl
  | cons u a ih =>
    cases b with
    | nil => rfl
    | cons v b =>
      cases c with
      | nil => rfl
      | cons w c =>
        simp only [List.zip_cons_cons, List.map_cons, Int.add_assoc, List.cons.injEq, true_and]
        exact ih b c
theorem ad_zeroR {n : Nat} {f : Fm} (h : f.1.length = n) : adF f (zeF n) = f := by
  subst h
  obtain ⟨l, r⟩ := f
  unfold adF zeF
  dsimp only
  rw [Int.add_zero]
  congr 1
  induction l with
  | nil => rfl
  | cons a l ih => rw [List.length_cons, List.replicate_succ, List.zip_cons_cons, List.map_cons, ih, Int.add_zero]
theorem whA_val (nm : List Str) : ∀ (l : List Pc) (w : Wh) (v : Fm), w.val nm = some v → (whA w l).val nm = some (adF v (smF nm l))
  | [], w, v, h => by
    show w.val nm = _
    rw [h]
    show some v = some (adF v (zeF nm.length))
    rw [ad_zeroR (wh_len h)]
  | q :: l, w, v, h => by
    obtain ⟨u, hu, eu⟩ := pcTe_val nm 1 q
    have : (Wh.add w 1 (decide (q.1 < 0)) (pcTe 1 q)).val nm = some (adF v (pcF nm q)) := by
      show (match w.val nm, (pcTe 1 q).val nm with
        | some x, some y => some (adF x (scF y (sgI (decide (q.1 < 0)))))
        | _, _ => none) = _
      rw [h, hu]
      dsimp only
      rw [eu]
    have r := whA_val nm l _ _ this
    show (whA (.add w 1 (decide (q.1 < 0)) (pcTe 1 q)) l).val nm = some (adF v (adF (pcF nm q) (smF nm l)))
    rw [r, ad_assoc]
theorem wh_val (nm : List Str) (p : Pc) (l : List Pc) : (whA (wh0 p) l).val nm = some (smF nm (p :: l)) := by
  refine whA_val nm l _ _ ?_
  obtain ⟨u, hu, eu⟩ := pcTe_val nm 0 p
  unfold wh0
  by_cases h : p.1 < 0
  · rw [if_pos h]
    rw [decide_eq_true h] at eu
    show ((pcTe 0 p).val nm).map _ = _
    rw [hu]
    show some (scF u (-1)) = _
    rw [← eu]; rfl
  · rw [if_neg h]
    rw [decide_eq_false h] at eu
    show (pcTe 0 p).val nm = _
    rw [hu, ← eu]
    show some u = some (scF u 1)
    rw [sc_one]
theorem smF_map (nm : List Str) : ∀ l : List Pc, smF nm l = (nm.map fun y => ((l.filter fun p => decide (p.2 = some y)).map (·.1)).sum, ((l.filter fun p => decide (p.2 = none)).map (·.1)).sum)
  | [] => by
    show (List.replicate nm.length (0 : Int), (0 : Int)) = _
    rw [rep_map]; rfl
  | p :: l => by
    show adF (pcF nm p) (smF nm l) = _
    rw [smF_map nm l]
    obtain ⟨c, o⟩ := p
    cases o with
    | none =>
      show ((List.zip (List.replicate nm.length 0) (List.map _ nm)).map _, c + _) = _
      rw [rep_map, List.zip_map', List.map_map]
      congr 1
      · refine List.map_congr_left fun y _ => ?_
        show 0 + _ = _
        rw [Int.zero_add, List.filter_cons_of_neg (by simp)]
    | some x =>
      show ((List.zip (List.map _ nm) (List.map _ nm)).map _, 0 + _) = _
      rw [List.zip_map', List.map_map]
      congr 1
      · refine List.map_congr_left fun y _ => ?_
        show (if y = x then c else 0) + _ = _
        by_cases hy : y = x
        · rw [if_pos hy, List.filter_cons_of_pos (by simp [hy]), List.map_cons, List.sum_cons]
        · rw [if_neg hy, List.filter_cons_of_neg (by simp; exact fun e => hy e.symm), Int.zero_add]
      · rw [Int.zero_add, List.filter_cons_of_neg (by simp)]
theorem sm_names {nm : List Str} : ∀ {cs : List Int}, nm.Nodup → cs.length = nm.length →
    (nm.map fun y => (((((nm.zip cs).filter fun p => decide (p.2 ≠ 0)).map fun p => ((p.2, some p.1) : Pc)).filter fun p => decide (p.2 = some y)).map (·.1)).sum) = cs := by
  induction nm with
  | nil => intro cs _ h; cases cs with | nil => rfl | cons _ _ => cases h
  | cons a nm ih =>
    intro cs hn hl
    cases cs with
    | nil => cases hl
    | cons c cs =>
      obtain ⟨ha, hn⟩ := List.nodup_cons.mp hn
      have ih := ih (cs := cs) hn (by simpa using hl)
      rw [List.map_cons]
      have tail : ∀ y, y ≠ a → (((((List.zip (a :: nm) (c :: cs)).filter fun p => decide (p.2 ≠ 0)).map fun p => ((p.2, some p.1) : Pc)).filter fun p => decide (p.2 = some y)).map (·.1)).sum = (((((nm.zip cs).filter fun p => decide (p.2 ≠ 0)).map fun p => ((p.2, some p.1) : Pc)).filter fun p => decide (p.2 = some y)).map (·.1)).sum := fun y hy => by
        rw [List.zip_cons_cons]
        by_cases h : c = 0
        · rw [List.filter_cons_of_neg (by simp [h])]
        · rw [List.filter_cons_of_pos (by simp [h]), List.map_cons, List.filter_cons_of_neg (by simp; exact fun e => hy e.symm)]
      have none_a : ((((nm.zip cs).filter fun p => decide (p.2 ≠ 0)).map fun p => ((p.2, some p.1) : Pc)).filter fun p => decide (p.2 = some a)) = [] := by
        rw [List.filter_eq_nil_iff]
        intro q hq
        obtain ⟨p, hp, rfl⟩ := List.mem_map.mp hq
        have := (List.of_mem_zip (List.mem_filter.mp hp).1).1
        simp only [decide_eq_true_eq, Option.some.injEq]
        intro e
        exact ha (e ▸ this)
      congr 1
      · rw [List.zip_cons_cons]
        by_cases h : c = 0
        · rw [List.filter_cons_of_neg (by simp [h]), none_a, h]; rfl
        · rw [List.filter_cons_of_pos (by simp [h]), List.map_cons, List.filter_cons_of_pos (by simp), none_a]
          show c + 0 = c
          omega
      · conv => rhs; rw [← ih]
        refine List.map_congr_left fun y hy => tail y fun e => ha (e ▸ hy)
theorem sm_pcs {nm : List Str} {f : Fm} (hn : nm.Nodup) (hl : f.1.length = nm.length) : smF nm (pcs nm f) = f := by
  obtain ⟨cs, r⟩ := f
  have h1 := sm_names (cs := cs) hn hl
  have hz : (((((nm.zip cs).filter fun p => decide (p.2 ≠ 0)).map fun p => ((p.2, some p.1) : Pc)).filter fun p => decide (p.2 = none)).map (·.1)).sum = 0 := by
    rw [List.filter_eq_nil_iff.mpr fun q hq => by obtain ⟨p, _, rfl⟩ := List.mem_map.mp hq; simp]; rfl
  rw [smF_map]
  unfold pcs
  dsimp only
  split
  · congr 1
    · conv => rhs; rw [← h1]
      refine List.map_congr_left fun y _ => ?_
      rw [List.filter_append, List.map_append, List.sum_append, List.filter_cons_of_neg (by simp)]
      show _ + 0 = _
      rw [Int.add_zero]
    · rw [List.filter_append, List.map_append, List.sum_append, hz, List.filter_cons_of_pos (by simp)]
      show 0 + (r + 0) = r
      omega
  · rename_i h
    have hr : r = 0 := Decidable.byContradiction fun e => h (.inl e)
    rw [h1, hz, hr]
theorem pcs_ne (nm : List Str) (f : Fm) : ∃ p l, pcs nm f = p :: l := by
  unfold pcs
  dsimp only
  split
  · cases ((nm.zip f.1).filter fun p => decide (p.2 ≠ 0)).map fun p => ((p.2, some p.1) : Pc) with
    | nil => exact ⟨_, _, rfl⟩
    | cons a l => exact ⟨_, _, rfl⟩
  · rename_i h
    cases e : ((nm.zip f.1).filter fun p => decide (p.2 ≠ 0)).map fun p => ((p.2, some p.1) : Pc) with
    | nil => exact absurd (.inr e) h
    | cons a l => exact ⟨_, _, rfl⟩
def pcOk (p : Pc) : Prop := (numL p.1.natAbs).length ≤ 640 ∧ ∀ x, p.2 = some x → nmOk x
theorem pcTe_wf {b : Nat} {p : Pc} (h : pcOk p) : (pcTe b p).wf := by
  obtain ⟨c, o⟩ := p
  cases o with
  | none => exact h.1
  | some x =>
    unfold pcTe
    dsimp only
    split
    · exact h.2 x rfl
    · exact ⟨h.1, h.2 x rfl⟩
theorem whA_wf : ∀ (l : List Pc) (w : Wh), w.wf → (∀ p ∈ l, pcOk p) → (whA w l).wf
  | [], w, h, _ => h
  | q :: l, w, h, hl => whA_wf l _ ⟨h, pcTe_wf (hl q List.mem_cons_self)⟩ fun p hp => hl p (List.mem_cons_of_mem _ hp)
theorem wh_wf {p : Pc} {l : List Pc} (h : ∀ q ∈ p :: l, pcOk q) : (whA (wh0 p) l).wf := by
  refine whA_wf l _ ?_ fun q hq => h q (List.mem_cons_of_mem _ hq)
  unfold wh0
  have := pcTe_wf (b := 0) (h p List.mem_cons_self)
  split <;> exact this
theorem pcTe_dep (b : Nat) (p : Pc) : (pcTe b p).dep = 0 ∧ (pcTe b p).td ≤ 2 := by
  obtain ⟨c, o⟩ := p
  cases o with
  | none => exact ⟨rfl, by show 1 ≤ 2; decide⟩
  | some x =>
    unfold pcTe
    dsimp only
    split
    · exact ⟨rfl, by show 1 ≤ 2; decide⟩
    · exact ⟨rfl, by show max 1 1 + 1 ≤ 2; decide⟩
theorem whA_dep : ∀ (l : List Pc) (w : Wh), w.dep = 0 → w.td ≤ 2 → (whA w l).dep = 0 ∧ (whA w l).td ≤ 2
  | [], w, h, h2 => ⟨h, h2⟩
  | q :: l, w, h, h2 => by
    have t := pcTe_dep 1 q
    refine whA_dep l _ ?_ ?_
    · show max w.dep (pcTe 1 q).dep = 0
      rw [h, t.1]; rfl
    · show max w.td (pcTe 1 q).td ≤ 2
      omega
theorem wh_dep0 (p : Pc) (l : List Pc) : (whA (wh0 p) l).dep = 0 ∧ (whA (wh0 p) l).td ≤ 2 := by
  have t := pcTe_dep 0 p
  unfold wh0
  split
  · exact whA_dep l _ t.1 t.2
  · exact whA_dep l _ t.1 t.2
theorem pcTe_nms (b : Nat) (p : Pc) : ∀ x ∈ (pcTe b p).nms, p.2 = some (st x) := fun x hx => by
  obtain ⟨c, o⟩ := p
  cases o with
  | none => cases hx
  | some y =>
    unfold pcTe at hx
    dsimp only at hx
    split at hx
    · rw [List.mem_singleton.mp hx]
      show some y = some (st (tl y))
      rw [show st (tl y) = y from mk_tl y]
    · have : x ∈ ([] : List (List Nat)) ++ [tl y] := hx
      rw [List.nil_append, List.mem_singleton] at this
      rw [this]
      show some y = some (st (tl y))
      rw [show st (tl y) = y from mk_tl y]
theorem whA_nms : ∀ (l : List Pc) (w : Wh), ∀ x ∈ (whA w l).nms, x ∈ w.nms ∨ ∃ p ∈ l, p.2 = some (st x)
  | [], w, x, h => .inl h
  | q :: l, w, x, h => by
    rcases whA_nms l _ x h with h | ⟨p, hp, e⟩
    · have h : x ∈ w.nms ++ (pcTe 1 q).nms := h
      rcases List.mem_append.mp h with h | h
      · exact .inl h
      · exact .inr ⟨q, List.mem_cons_self, pcTe_nms 1 q x h⟩
    · exact .inr ⟨p, List.mem_cons_of_mem _ hp, e⟩
theorem wh_nms (p : Pc) (l : List Pc) : ∀ x ∈ (whA (wh0 p) l).nms, ∃ q ∈ p :: l, q.2 = some (st x) := fun x hx => by
  rcases whA_nms l _ x hx with h | ⟨q, hq, e⟩
  · refine ⟨p, List.mem_cons_self, ?_⟩
    unfold wh0 at h
    split at h
    · exact pcTe_nms 0 p x h
    · exact pcTe_nms 0 p x h
  · exact ⟨q, List.mem_cons_of_mem _ hq, e⟩
theorem pcs_mem {nm : List Str} {f : Fm} {x : Str} {q : Pc} (hq : q ∈ pcs nm f) (e : q.2 = some x) : x ∈ nm := by
  have key : q ∈ ((nm.zip f.1).filter fun p => decide (p.2 ≠ 0)).map (fun p => ((p.2, some p.1) : Pc)) → x ∈ nm := fun h => by
    obtain ⟨p, hp, rfl⟩ := List.mem_map.mp h
    cases e
    exact (List.of_mem_zip (List.mem_filter.mp hp).1).1
  unfold pcs at hq
  dsimp only at hq
  split at hq
  · rcases List.mem_append.mp hq with h | h
    · exact key h
    · rw [List.mem_singleton.mp h] at e; cases e
  · exact key hq
theorem pcs_ok {nm : List Str} {f : Fm} (hn : ∀ x ∈ nm, nmOk x) (hc : ∀ c ∈ f.1, (numL c.natAbs).length ≤ 640) (hr : (numL f.2.natAbs).length ≤ 640) : ∀ q ∈ pcs nm f, pcOk q := fun q hq => by
  refine ⟨?_, fun x e => hn x (pcs_mem hq e)⟩
  have key : q ∈ ((nm.zip f.1).filter fun p => decide (p.2 ≠ 0)).map (fun p => ((p.2, some p.1) : Pc)) → (numL q.1.natAbs).length ≤ 640 := fun h => by
    obtain ⟨p, hp, rfl⟩ := List.mem_map.mp h
    exact hc _ (List.of_mem_zip (List.mem_filter.mp hp).1).2
  unfold pcs at hq
  dsimp only at hq
  split at hq
  · rcases List.mem_append.mp hq with h | h
    · exact key h
    · rw [List.mem_singleton.mp h]; exact hr
  · exact key hq
theorem read_shown {nm : List Str} {f : Fm} {s : Str} (hs : tl s = shL (pcs nm f)) (hl : s.length ≤ 70000) (hd : nm.Nodup) (hn : ∀ x ∈ nm, nmOk x) (hf : f.1.length = nm.length) (hc : ∀ c ∈ f.1, (numL c.natAbs).length ≤ 640) (hr : (numL f.2.natAbs).length ≤ 640) :
    ∃ o, pW s.length 18 (tl s) = some o ∧ readR nm s.length o = .ok f ∧ ∀ t r ns, o = .ok t r ns → t.dep ≤ 54 ∧ t.bt ≤ 390000 := by
  obtain ⟨p, l, e⟩ := pcs_ne nm f
  have d0 := wh_dep0 p l
  have wv := wh_val nm p l
  rw [← e, sm_pcs hd hf] at wv
  refine read_cst (w := whA (wh0 p) l) (e := 0) (by rw [hs, e, wh_txt]; exact (List.append_nil _).symm) hl (wh_wf (by rw [← e]; exact pcs_ok hn hc hr)) (by omega) (by omega) wv fun x hx => ?_
  obtain ⟨q, hq, eq⟩ := wh_nms p l x hx
  rw [← e] at hq
  exact pcs_mem hq eq
end DL
namespace DL
open PySem PySem.Spec L2 TL
mutual
def Fa.tk : Fa → List (List Nat)
  | .num _ n => [numL n]
  | .nm _ x => [x]
  | .par _ w _ => [40] :: (w.tk ++ [[41]])
def Te.tk : Te → List (List Nat)
  | .one f => f.tk
  | .mul t _ f => t.tk ++ [42] :: f.tk
def Wh.tk : Wh → List (List Nat)
  | .pos t => t.tk
  | .neg _ t => [45] :: t.tk
  | .add w _ m t => w.tk ++ [sg m] :: t.tk
end
def lay (l : List (Nat × List Nat)) : List Nat := (l.map fun p => bl p.1 ++ p.2).flatten
theorem lay_app (a b : List (Nat × List Nat)) : lay (a ++ b) = lay a ++ lay b := by unfold lay; rw [List.map_append, List.flatten_append]
theorem lay_one (p : Nat × List Nat) (l : List (Nat × List Nat)) : lay (p :: l) = bl p.1 ++ (p.2 ++ lay l) := by
  unfold lay
  rw [List.map_cons, List.flatten_cons, List.append_assoc]
theorem split_map {α β : Type} {f : α → β} : ∀ {l : List α} {a b : List β}, l.map f = a ++ b → ∃ x y, l = x ++ y ∧ x.map f = a ∧ y.map f = b := fun {l a b} h => by
  refine ⟨l.take a.length, l.drop a.length, (List.take_append_drop _ _).symm, ?_, ?_⟩
  · rw [List.map_take, h, List.take_left]
  · rw [List.map_drop, h, List.drop_left]
theorem split_cons {α β : Type} {f : α → β} {l : List α} {a : β} {b : List β} (h : l.map f = a :: b) : ∃ x y, l = x :: y ∧ f x = a ∧ y.map f = b := by
  cases l with
  | nil => cases h
  | cons x y =>
    rw [List.map_cons, List.cons.injEq] at h
    exact ⟨x, y, rfl, h.1, h.2⟩
structure FaS (a b : Fa) : Prop where
  val : ∀ nm, a.val nm = b.val nm
  nms : a.nms = b.nms
  dep : a.dep = b.dep
  td : a.td = b.td
  wf : b.wf → a.wf
structure TeS (a b : Te) : Prop where
  val : ∀ nm, a.val nm = b.val nm
  nms : a.nms = b.nms
  dep : a.dep = b.dep
  td : a.td = b.td
  wf : b.wf → a.wf
structure WhS (a b : Wh) : Prop where
  val : ∀ nm, a.val nm = b.val nm
  nms : a.nms = b.nms
  dep : a.dep = b.dep
  td : a.td = b.td
  wf : b.wf → a.wf
mutual
theorem fa_lay : ∀ (f : Fa) (l : List (Nat × List Nat)), l.map (·.2) = f.tk → ∃ g : Fa, g.txt = lay l ∧ FaS g f
  | .num b n, l, h => by
    obtain ⟨p, y, rfl, h1, h2⟩ := split_cons h
    rw [List.map_eq_nil_iff] at h2
    subst h2
    refine ⟨.num p.1 n, ?_, fun _ => rfl, rfl, rfl, rfl, id⟩
    rw [lay_one]
    show bl p.1 ++ numL n = bl p.1 ++ (p.2 ++ [])
    rw [List.append_nil, h1]
  | .nm b x, l, h => by
    obtain ⟨p, y, rfl, h1, h2⟩ := split_cons h
    rw [List.map_eq_nil_iff] at h2
    subst h2
    refine ⟨.nm p.1 x, ?_, fun _ => rfl, rfl, rfl, rfl, id⟩
    rw [lay_one]
    show bl p.1 ++ x = bl p.1 ++ (p.2 ++ [])
    rw [List.append_nil, h1]
  | .par b w b2, l, h => by
    obtain ⟨p, y, rfl, h1, h2⟩ := split_cons h
    obtain ⟨u, v, rfl, h3, h4⟩ := split_map h2
    obtain ⟨q, z, rfl, h5, h6⟩ := split_cons h4
    rw [List.map_eq_nil_iff] at h6
    subst h6
    obtain ⟨w', e, s⟩ := wh_lay w u h3
    refine ⟨.par p.1 w' q.1, ?_, fun nm => s.val nm, s.nms, congrArg (· + 1) s.dep, congrArg (· + 1) s.td, s.wf⟩
    rw [lay_one, lay_app, lay_one, h1, h5]
    show bl p.1 ++ 40 :: (w'.txt ++ (bl q.1 ++ [41])) = _
    rw [e]; rfl
theorem te_lay : ∀ (t : Te) (l : List (Nat × List Nat)), l.map (·.2) = t.tk → ∃ g : Te, g.txt = lay l ∧ TeS g t
  | .one f, l, h => by
    obtain ⟨g, e, s⟩ := fa_lay f l h
    exact ⟨.one g, e, fun nm => s.val nm, s.nms, s.dep, s.td, s.wf⟩
  | .mul t b f, l, h => by
    obtain ⟨u, v, rfl, h1, h2⟩ := split_map h
    obtain ⟨p, y, rfl, h3, h4⟩ := split_cons h2
    obtain ⟨t', e1, s1⟩ := te_lay t u h1
    obtain ⟨f', e2, s2⟩ := fa_lay f y h4
    refine ⟨.mul t' p.1 f', ?_, fun nm => ?_, ?_, ?_, ?_, fun h => ⟨s1.wf h.1, s2.wf h.2⟩⟩
    · rw [lay_app, lay_one, h3, ← e1, ← e2]; rfl
    · unfold Te.val; rw [s1.val, s2.val]
    · show t'.nms ++ f'.nms = _; rw [s1.nms, s2.nms]; rfl
    · show max t'.dep f'.dep = _; rw [s1.dep, s2.dep]; rfl
    · show max t'.td f'.td + 1 = _; rw [s1.td, s2.td]; rfl
theorem wh_lay : ∀ (w : Wh) (l : List (Nat × List Nat)), l.map (·.2) = w.tk → ∃ g : Wh, g.txt = lay l ∧ WhS g w
  | .pos t, l, h => by
    obtain ⟨g, e, s⟩ := te_lay t l h
    exact ⟨.pos g, e, fun nm => s.val nm, s.nms, s.dep, s.td, s.wf⟩
  | .neg b t, l, h => by
    obtain ⟨p, y, rfl, h1, h2⟩ := split_cons h
    obtain ⟨g, e, s⟩ := te_lay t y h2
    refine ⟨.neg p.1 g, ?_, fun nm => by unfold Wh.val; rw [s.val], s.nms, s.dep, s.td, s.wf⟩
    rw [lay_one, h1, ← e]; rfl
  | .add w b m t, l, h => by
    obtain ⟨u, v, rfl, h1, h2⟩ := split_map h
    obtain ⟨p, y, rfl, h3, h4⟩ := split_cons h2
    obtain ⟨w', e1, s1⟩ := wh_lay w u h1
    obtain ⟨t', e2, s2⟩ := te_lay t y h4
    refine ⟨.add w' p.1 m t', ?_, fun nm => ?_, ?_, ?_, ?_, fun h => ⟨s1.wf h.1, s2.wf h.2⟩⟩
    · rw [lay_app, lay_one, h3, ← e1, ← e2]; rfl
    · unfold Wh.val; rw [s1.val, s2.val]
    · show w'.nms ++ t'.nms = _; rw [s1.nms, s2.nms]; rfl
    · show max w'.dep t'.dep = _; rw [s1.dep, s2.dep]; rfl
    · show max w'.td t'.td = _; rw [s1.td, s2.td]; rfl
end
theorem isN_rep (l : Nat) (n : Int) : isN (List.replicate l 0, n) = true := by
  refine decide_eq_true ?_
  rw [List.filter_eq_nil_iff]
  intro a ha
  rw [List.eq_of_mem_replicate ha]; decide
theorem isN_eq {x : Fm} (h : isN x = true) : x = (List.replicate x.1.length 0, x.2) := by
  obtain ⟨l, r⟩ := x
  have h := of_decide_eq_true h
  dsimp only at h ⊢
  congr 1
  rw [List.filter_eq_nil_iff] at h
  exact List.eq_replicate_iff.mpr ⟨rfl, fun a ha => by have := h a ha; simpa using this⟩
theorem mulR {x : Fm} {n : Int} : (if isN x = true then scF (List.replicate x.1.length 0, n) x.2 else scF x n) = scF x n := by
  split
  · rename_i h
    have e := isN_eq h
    rw [e]
    unfold scF
    dsimp only
    rw [List.length_replicate, List.map_replicate, List.map_replicate, Int.mul_zero, Int.mul_zero, Int.mul_comm]
  · rfl
theorem te_mulR {nm : List Str} {t : Te} {x : Fm} {n : Nat} {b c : Nat} (h : t.val nm = some x) : (Te.mul t b (.num c n)).val nm = some (scF x n) := by
  have l := te_len h
  show (match t.val nm, some ((List.replicate nm.length 0, (n : Int)) : Fm) with
    | some x, some y => if isN x = true then some (scF y x.2) else if isN y = true then some (scF x y.2) else none
    | _, _ => none) = _
  rw [h]
  dsimp only
  rw [← l]
  by_cases hx : isN x = true
  · have := mulR (x := x) (n := n)
    rw [if_pos hx] at this
    rw [if_pos hx, this]
  · rw [if_neg hx, if_pos (isN_rep _ _)]
theorem te_mulL {nm : List Str} {f : Fa} {y : Fm} {n : Nat} {b c : Nat} (h : f.val nm = some y) : (Te.mul (.one (.num c n)) b f).val nm = some (scF y n) := by
  show (match some ((List.replicate nm.length 0, (n : Int)) : Fm), f.val nm with
    | some x, some y => if isN x = true then some (scF y x.2) else if isN y = true then some (scF x y.2) else none
    | _, _ => none) = _
  rw [h]
  dsimp only
  rw [if_pos (isN_rep _ _)]
structure TOk (nm : List Str) (t : Te) (v : Fm) : Prop where
  val : t.val nm = some v
  nms : ∀ x ∈ t.nms, st x ∈ nm
  dep : t.dep ≤ 1
  td : t.td ≤ 4
  wf : t.wf
  ct : t.tk.length ≤ 12
  ch : (t.tk.map (·.length)).sum ≤ 200
  bd : BtF 220 nm.length v
structure WOk (nm : List Str) (w : Wh) (v : Fm) (d k : Nat) : Prop where
  val : w.val nm = some v
  nms : ∀ x ∈ w.nms, st x ∈ nm
  dep : w.dep ≤ d
  td : w.td ≤ 2 + 2 * d
  wf : w.wf
  ct : w.tk.length ≤ 20 * k
  ch : (w.tk.map (·.length)).sum ≤ 300 * k
  bd : BtF (230 * k) nm.length v
theorem bt_sg (m : Bool) : Bt 1 (sgI m) := by cases m <;> exact Nat.le_refl _
theorem bt_m1 : Bt 1 (-1) := Nat.le_refl _
theorem bt_10 {n : Nat} (h : n < 10) : Bt 4 n := by show ((n : Nat) : Int).natAbs + 1 ≤ 2 ^ 4; rw [Int.natAbs_natCast]; omega
section
variable {nm : List Str} {t : Te} {w : Wh} {u v : Fm} {d k : Nat}
theorem WOk.first (h : TOk nm t v) : WOk nm (.pos t) v 1 1 := ⟨h.val, h.nms, h.dep, h.td, h.wf, Nat.le_trans h.ct (by decide), Nat.le_trans h.ch (by decide), h.bd.mono (by decide)⟩
theorem WOk.par (h : WOk nm w v d k) : (Te.one (.par 0 w 0)).val nm = some v ∧ (∀ x ∈ (Te.one (.par 0 w 0)).nms, st x ∈ nm) ∧ (Te.one (.par 0 w 0)).dep ≤ d + 1 ∧ (Te.one (.par 0 w 0)).td ≤ 2 + 2 * d + 1 ∧ (Te.one (.par 0 w 0)).wf ∧ (Te.one (.par 0 w 0)).tk.length ≤ 20 * k + 2 ∧ ((Te.one (.par 0 w 0)).tk.map (·.length)).sum ≤ 300 * k + 2 := by
  refine ⟨h.val, h.nms, Nat.succ_le_succ h.dep, Nat.succ_le_succ h.td, h.wf, ?_, ?_⟩
  · show ([40] :: (w.tk ++ [[41]])).length ≤ _
    have := h.ct
    rw [List.length_cons, List.length_append, List.length_cons, List.length_nil]; omega
  · show (([40] :: (w.tk ++ [[41]])).map (·.length)).sum ≤ _
    have := h.ch
    rw [List.map_cons, List.sum_cons, List.map_append, List.sum_append]
    show 1 + (_ + (1 + 0)) ≤ _
    omega
theorem WOk.add (h : WOk nm w v d k) (g : TOk nm t u) (hd : 1 ≤ d) (m : Bool) : WOk nm (.add w 0 m t) (adF v (scF u (sgI m))) d (k + 1) := by
  refine ⟨?_, fun x hx => ?_, ?_, ?_, ⟨h.wf, g.wf⟩, ?_, ?_, (h.bd.ad (g.bd.sc (bt_sg m))).mono (by omega)⟩
  · unfold Wh.val; rw [h.val, g.val]
  · rcases List.mem_append.mp hx with hx | hx
    · exact h.nms x hx
    · exact g.nms x hx
  · show max w.dep t.dep ≤ d
    have := h.dep; have := g.dep; omega
  · show max w.td t.td ≤ _
    have := h.td; have := g.td; omega
  · show (w.tk ++ [sg m] :: t.tk).length ≤ _
    have := h.ct; have := g.ct
    rw [List.length_append, List.length_cons]; omega
  · show ((w.tk ++ [sg m] :: t.tk).map (·.length)).sum ≤ _
    have := h.ch; have := g.ch
    rw [List.map_append, List.sum_append, List.map_cons, List.sum_cons]
    show _ + (1 + _) ≤ _
    omega
theorem WOk.timesR (h : WOk nm w v d k) {n : Nat} (hn : n < 10) : WOk nm (.pos (.mul (.one (.par 0 w 0)) 0 (.num 0 n))) (scF v n) (d + 1) (k + 1) := by
  obtain ⟨p1, p2, p3, p4, p5, p6, p7⟩ := h.par
  have l1 : (numL n).length = 1 := by rw [numL_lt hn]; rfl
  refine ⟨te_mulR p1, fun x hx => ?_, ?_, ?_, ⟨p5, by show (numL n).length ≤ 640; omega⟩, ?_, ?_, (h.bd.sc (bt_10 hn)).mono (by omega)⟩
  · rcases List.mem_append.mp (show x ∈ (Te.one (.par 0 w 0)).nms ++ [] from hx) with hx | hx
    · exact p2 x hx
    · cases hx
  · show max (Te.one (.par 0 w 0)).dep 0 ≤ d + 1; omega
  · show max (Te.one (.par 0 w 0)).td 1 + 1 ≤ 2 + 2 * (d + 1); omega
  · show ((Te.one (.par 0 w 0)).tk ++ [42] :: [numL n]).length ≤ _
    rw [List.length_append, List.length_cons, List.length_cons, List.length_nil]; omega
  · show (((Te.one (.par 0 w 0)).tk ++ [42] :: [numL n]).map (·.length)).sum ≤ _
    rw [List.map_append, List.sum_append]
    show _ + (1 + ((numL n).length + 0)) ≤ _
    omega
theorem WOk.timesL (h : WOk nm w v d k) {n : Nat} (hn : n < 10) : WOk nm (.pos (.mul (.one (.num 0 n)) 0 (.par 0 w 0))) (scF v n) (d + 1) (k + 1) := by
  obtain ⟨p1, p2, p3, p4, p5, p6, p7⟩ := h.par
  have l1 : (numL n).length = 1 := by rw [numL_lt hn]; rfl
  refine ⟨te_mulL (f := .par 0 w 0) p1, fun x hx => ?_, ?_, ?_, ⟨by show (numL n).length ≤ 640; omega, p5⟩, ?_, ?_, (h.bd.sc (bt_10 hn)).mono (by omega)⟩
  · rcases List.mem_append.mp (show x ∈ [] ++ (Te.one (.par 0 w 0)).nms from hx) with hx | hx
    · cases hx
    · exact p2 x hx
  · show max 0 (Te.one (.par 0 w 0)).dep ≤ d + 1; omega
  · show max 1 (Te.one (.par 0 w 0)).td + 1 ≤ 2 + 2 * (d + 1); omega
  · show ([numL n] ++ [42] :: (Te.one (.par 0 w 0)).tk).length ≤ _
    rw [List.length_append, List.length_cons, List.length_cons, List.length_nil]; omega
  · show (([numL n] ++ [42] :: (Te.one (.par 0 w 0)).tk).map (·.length)).sum ≤ _
    rw [List.map_append, List.sum_append, List.map_cons, List.sum_cons, List.map_nil, List.sum_nil, List.map_cons, List.sum_cons, List.length_cons, List.length_nil]
    omega
theorem WOk.minus (h : WOk nm w v d k) : WOk nm (.neg 0 (.one (.par 0 w 0))) (scF v (-1)) (d + 1) (k + 1) := by
  obtain ⟨p1, p2, p3, p4, p5, p6, p7⟩ := h.par
  refine ⟨by unfold Wh.val; rw [p1]; rfl, p2, p3, ?_, p5, ?_, ?_, (h.bd.sc bt_m1).mono (by omega)⟩
  · show (Te.one (.par 0 w 0)).td ≤ _; omega
  · show ([45] :: (Te.one (.par 0 w 0)).tk).length ≤ _
    rw [List.length_cons]; omega
  · show (([45] :: (Te.one (.par 0 w 0)).tk).map (·.length)).sum ≤ _
    rw [List.map_cons, List.sum_cons]
    show 1 + _ ≤ _
    omega
theorem WOk.inner (h : WOk nm w v d k) : WOk nm (.pos (.one (.par 0 w 0))) v (d + 1) (k + 1) := by
  obtain ⟨p1, p2, p3, p4, p5, p6, p7⟩ := h.par
  refine ⟨p1, p2, p3, ?_, p5, ?_, ?_, h.bd.mono (by omega)⟩
  · show (Te.one (.par 0 w 0)).td ≤ _; omega
  · show (Te.one (.par 0 w 0)).tk.length ≤ _; omega
  · show ((Te.one (.par 0 w 0)).tk.map (·.length)).sum ≤ _; omega
theorem WOk.ahead (h : WOk nm w v d k) (g : TOk nm t u) (m : Bool) : WOk nm (.add (.pos t) 0 m (.one (.par 0 w 0))) (adF u (scF v (sgI m))) (d + 1) (k + 1) := by
  obtain ⟨p1, p2, p3, p4, p5, p6, p7⟩ := h.par
  have := g.dep; have := g.td; have := g.ct; have := g.ch
  refine ⟨?_, fun x hx => ?_, ?_, ?_, ⟨g.wf, p5⟩, ?_, ?_, (g.bd.ad (h.bd.sc (bt_sg m))).mono (by omega)⟩
  · show (match t.val nm, (Te.one (.par 0 w 0)).val nm with
      | some x, some y => some (adF x (scF y (sgI m)))
      | _, _ => none) = _
    rw [g.val, p1]
  · rcases List.mem_append.mp (show x ∈ t.nms ++ (Te.one (.par 0 w 0)).nms from hx) with hx | hx
    · exact g.nms x hx
    · exact p2 x hx
  · show max t.dep (Te.one (.par 0 w 0)).dep ≤ _; omega
  · show max t.td (Te.one (.par 0 w 0)).td ≤ _; omega
  · show (t.tk ++ [sg m] :: (Te.one (.par 0 w 0)).tk).length ≤ _
    rw [List.length_append, List.length_cons]; omega
  · show ((t.tk ++ [sg m] :: (Te.one (.par 0 w 0)).tk).map (·.length)).sum ≤ _
    rw [List.map_append, List.sum_append, List.map_cons, List.sum_cons]
    show _ + (1 + _) ≤ _
    omega
theorem WOk.aheadN (h : WOk nm w v d k) (g : TOk nm t u) : WOk nm (.add (.neg 0 t) 0 false (.one (.par 0 w 0))) (adF (scF u (-1)) v) (d + 1) (k + 1) := by
  obtain ⟨p1, p2, p3, p4, p5, p6, p7⟩ := h.par
  have := g.dep; have := g.td; have := g.ct; have := g.ch
  refine ⟨?_, fun x hx => ?_, ?_, ?_, ⟨g.wf, p5⟩, ?_, ?_, ((g.bd.sc bt_m1).ad h.bd).mono (by omega)⟩
  · show (match (t.val nm).map (fun x => scF x (-1)), (Te.one (.par 0 w 0)).val nm with
      | some x, some y => some (adF x (scF y (sgI false)))
      | _, _ => none) = _
    rw [g.val, p1]
    show some (adF (scF u (-1)) (scF v 1)) = _
    rw [sc_one]
  · rcases List.mem_append.mp (show x ∈ t.nms ++ (Te.one (.par 0 w 0)).nms from hx) with hx | hx
    · exact g.nms x hx
    · exact p2 x hx
  · show max t.dep (Te.one (.par 0 w 0)).dep ≤ _; omega
  · show max t.td (Te.one (.par 0 w 0)).td ≤ _; omega
  · show ([45] :: t.tk ++ [sg false] :: (Te.one (.par 0 w 0)).tk).length ≤ _
    rw [List.length_append, List.length_cons, List.length_cons]; omega
  · show (([45] :: t.tk ++ [sg false] :: (Te.one (.par 0 w 0)).tk).map (·.length)).sum ≤ _
    rw [List.map_append, List.sum_append, List.map_cons, List.sum_cons, List.map_cons, List.sum_cons]
    show 1 + _ + (1 + _) ≤ _
    omega
end
end DL
namespace DL
open PySem PySem.Spec L2 TL
theorem sc_sc (f : Fm) (a b : Int) : scF (scF f a) b = scF f (b * a) := by
  obtain ⟨l, r⟩ := f
  unfold scF
  dsimp only
  rw [List.map_map, Int.mul_assoc]
  congr 1
  exact List.map_congr_left fun x _ => by show b * (a * x) = b * a * x; rw [Int.mul_assoc]
theorem ad_neg (l : List Int) : adF ((l, 0) : Fm) (scF (l, 0) (-1)) = zeF l.length := by
  have e : (l.zip (l.map ((-1) * ·))).map (fun p => p.1 + p.2) = List.replicate l.length (0 : Int) := by
    induction l with
    | nil => rfl
    | cons a l ih =>
      rw [List.map_cons, List.zip_cons_cons, List.map_cons, ih, List.length_cons, List.replicate_succ]
      congr 1
      show a + -1 * a = 0
      omega
  show (((l.zip (l.map ((-1) * ·))).map (fun p => p.1 + p.2), 0 + -1 * 0) : Fm) = _
  rw [e]; rfl
def eF (nm : List Str) (x : Str) : Fm := (nm.map fun y => if y = x then 1 else 0, 0)
def nF (nm : List Str) (u : Nat) : Fm := (List.replicate nm.length 0, (u : Int))
section
variable {nm : List Str} {x : Str} {u : Nat}
theorem bt_nF (hu : u < 10 ^ 30) : BtF 100 nm.length (nF nm u) := ⟨List.length_replicate, fun c hc => by rw [List.eq_of_mem_replicate hc]; exact .zero, by
  show ((u : Nat) : Int).natAbs + 1 ≤ 2 ^ 100
  rw [Int.natAbs_natCast]
  omega⟩
theorem bt_eF : BtF 1 nm.length (eF nm x) := ⟨List.length_map _, fun c hc => by
  obtain ⟨y, _, rfl⟩ := List.mem_map.mp hc
  show Bt 1 (if y = x then 1 else 0)
  split
  · exact bt_one (by decide)
  · exact .zero, .zero⟩
theorem val_nm (b : Nat) : (Fa.nm b (tl x)).val nm = some (eF nm x) := by
  show some _ = some _
  unfold eF
  rw [show st (tl x) = x from mk_tl x]
theorem val_num (b : Nat) : (Fa.num b u).val nm = some (nF nm u) := rfl
theorem len_num (hu : u < 10 ^ 30) : (numL u).length ≤ 30 := numL_len (by decide) hu
theorem t_num (hu : u < 10 ^ 30) : TOk nm (.one (.num 0 u)) (nF nm u) := by
  have := len_num hu
  refine ⟨rfl, fun x hx => (nomatch hx), Nat.zero_le _, by show 1 ≤ 4; decide, ?_, by show 1 ≤ 12; decide, ?_, (bt_nF hu).mono (by decide)⟩
  · show (numL u).length ≤ 640; omega
  · show (numL u).length + 0 ≤ 200; omega
theorem t_nm (hx : nmOk x) (hm : x ∈ nm) : TOk nm (.one (.nm 0 (tl x))) (eF nm x) := by
  have := hx.2.1
  refine ⟨val_nm 0, fun y hy => ?_, Nat.zero_le _, by show 1 ≤ 4; decide, hx, by show 1 ≤ 12; decide, ?_, bt_eF.mono (by decide)⟩
  · rw [List.mem_singleton.mp (show y ∈ [tl x] from hy), show st (tl x) = x from mk_tl x]; exact hm
  · show (tl x).length + 0 ≤ 200; omega
theorem nms_x (hm : x ∈ nm) : ∀ y, y = tl x → st y ∈ nm := fun y e => by rw [e, show st (tl x) = x from mk_tl x]; exact hm
theorem t_mulL (hu : u < 10 ^ 30) (hx : nmOk x) (hm : x ∈ nm) : TOk nm (.mul (.one (.num 0 u)) 0 (.nm 0 (tl x))) (scF (eF nm x) u) := by
  have := hx.2.1
  have := len_num hu
  refine ⟨te_mulL (val_nm 0), fun y hy => ?_, Nat.zero_le _, by show max 1 1 + 1 ≤ 4; decide, ⟨by show (numL u).length ≤ 640; omega, hx⟩, by show 3 ≤ 12; decide, ?_, (bt_eF.sc (bt_nF (nm := nm) hu).2.2).mono (by decide)⟩
  · exact nms_x hm y (List.mem_singleton.mp (show y ∈ [tl x] from hy))
  · show (numL u).length + (1 + ((tl x).length + 0)) ≤ 200; omega
theorem t_mulR (hu : u < 10 ^ 30) (hx : nmOk x) (hm : x ∈ nm) : TOk nm (.mul (.one (.nm 0 (tl x))) 0 (.num 0 u)) (scF (eF nm x) u) := by
  have := hx.2.1
  have := len_num hu
  refine ⟨te_mulR (val_nm 0), fun y hy => ?_, Nat.zero_le _, by show max 1 1 + 1 ≤ 4; decide, ⟨hx, by show (numL u).length ≤ 640; omega⟩, by show 3 ≤ 12; decide, ?_, (bt_eF.sc (bt_nF (nm := nm) hu).2.2).mono (by decide)⟩
  · exact nms_x hm y (List.mem_singleton.mp (show y ∈ [tl x] from hy))
  · show (tl x).length + (1 + ((numL u).length + 0)) ≤ 200; omega
def wB (x : Str) (u : Nat) : Wh := .add (.pos (.one (.nm 0 (tl x)))) 0 false (.one (.num 0 u))
theorem val_wB : (wB x u).val nm = some (adF (eF nm x) (nF nm u)) := by
  show (match (Fa.nm 0 (tl x)).val nm, (Fa.num 0 u).val nm with
    | some x, some y => some (adF x (scF y (sgI false)))
    | _, _ => none) = _
  rw [val_nm, val_num]
  show some (adF (eF nm x) (scF (nF nm u) 1)) = _
  rw [sc_one]
def wC (x : Str) (u : Nat) : Wh := .add (.add (.pos (.one (.nm 0 (tl x)))) 0 true (.one (.nm 0 (tl x)))) 0 false (.one (.num 0 u))
theorem val_wC : (wC x u).val nm = some (nF nm u) := by
  have e1 : (Wh.add (.pos (.one (.nm 0 (tl x)))) 0 true (.one (.nm 0 (tl x)))).val nm = some (zeF nm.length) := by
    show (match (Fa.nm 0 (tl x)).val nm, (Fa.nm 0 (tl x)).val nm with
      | some x, some y => some (adF x (scF y (sgI true)))
      | _, _ => none) = _
    rw [val_nm]
    show some (adF (eF nm x) (scF (eF nm x) (-1))) = _
    unfold eF
    rw [ad_neg, List.length_map]
  show (match (Wh.add (.pos (.one (.nm 0 (tl x)))) 0 true (.one (.nm 0 (tl x)))).val nm, (Fa.num 0 u).val nm with
    | some x, some y => some (adF x (scF y (sgI false)))
    | _, _ => none) = _
  rw [e1, val_num]
  show some (adF (zeF nm.length) (scF (nF nm u) 1)) = _
  rw [sc_one, ad_zero List.length_replicate]
theorem t_five (hu : u < 10 ^ 30) (hx : nmOk x) (hm : x ∈ nm) : TOk nm (.mul (.one (.par 0 (wC x u) 0)) 0 (.nm 0 (tl x))) (scF (eF nm x) u) := by
  have := hx.2.1
  have := len_num hu
  refine ⟨?_, fun y hy => ?_, by show max (0 + 1) 0 ≤ 1; decide, by show max (max (max 1 1) 1 + 1) 1 + 1 ≤ 4; decide, ⟨⟨⟨hx, hx⟩, by show (numL u).length ≤ 640; omega⟩, hx⟩, by show 9 ≤ 12; decide, ?_, (bt_eF.sc (bt_nF (nm := nm) hu).2.2).mono (by decide)⟩
  · show (match (wC x u).val nm, (Fa.nm 0 (tl x)).val nm with
      | some x, some y => if isN x = true then some (scF y x.2) else if isN y = true then some (scF x y.2) else none
      | _, _ => none) = _
    rw [val_wC, val_nm]
    dsimp only
    rw [if_pos (show isN (nF nm u) = true from isN_rep _ _)]; rfl
  · refine nms_x hm y ?_
    have hy : y ∈ [tl x, tl x, tl x] := hy
    simpa using hy
  · show 1 + ((tl x).length + (1 + ((tl x).length + (1 + ((numL u).length + (1 + (1 + ((tl x).length + 0)))))))) ≤ 200
    omega
theorem t_six (hu : u < 10 ^ 30) (hx : nmOk x) (hm : x ∈ nm) : TOk nm (.one (.par 0 (wB x u) 0)) (adF (eF nm x) (nF nm u)) := by
  have := hx.2.1
  have := len_num hu
  refine ⟨val_wB, fun y hy => ?_, by show 0 + 1 ≤ 1; decide, by show max 1 1 + 1 ≤ 4; decide, ⟨hx, by show (numL u).length ≤ 640; omega⟩, by show 5 ≤ 12; decide, ?_, (bt_eF.ad (bt_nF hu)).mono (by decide)⟩
  · refine nms_x hm y ?_
    have hy : y ∈ [tl x] ++ [] := hy
    simpa using hy
  · show 1 + ((tl x).length + (1 + ((numL u).length + (1 + 0)))) ≤ 200
    omega
theorem t_seven (hu : u < 10 ^ 30) (hx : nmOk x) (hm : x ∈ nm) : TOk nm (.mul (.mul (.one (.par 0 (wB x u) 0)) 0 (.num 0 2)) 0 (.num 0 u)) (scF (adF (eF nm x) (nF nm u)) (2 * u)) := by
  have := hx.2.1
  have := len_num hu
  have l2 : (numL 2).length = 1 := by rw [numL_lt (by decide)]; rfl
  have v1 : (Te.mul (.one (.par 0 (wB x u) 0)) 0 (.num 0 2)).val nm = some (scF (adF (eF nm x) (nF nm u)) (2 : Nat)) := te_mulR val_wB
  refine ⟨?_, fun y hy => ?_, by show max (max (0 + 1) 0) 0 ≤ 1; decide, by show max (max (max 1 1 + 1) 1 + 1) 1 + 1 ≤ 4; decide, ⟨⟨⟨hx, by show (numL u).length ≤ 640; omega⟩, by show (numL 2).length ≤ 640; omega⟩, by show (numL u).length ≤ 640; omega⟩, by show 9 ≤ 12; decide, ?_, ?_⟩
  · rw [te_mulR v1, sc_sc]
    show some (scF _ ((u : Int) * 2)) = _
    rw [Int.mul_comm]
  · refine nms_x hm y ?_
    have hy : y ∈ (([tl x] ++ []) ++ []) ++ [] := hy
    simpa using hy
  · show 1 + ((tl x).length + (1 + ((numL u).length + (1 + (1 + ((numL 2).length + (1 + ((numL u).length + 0)))))))) ≤ 200
    omega
  · have b2 : Bt 101 (2 * (u : Int)) := by
      show (2 * (u : Int)).natAbs + 1 ≤ 2 ^ 101
      omega
    exact ((bt_eF.ad (bt_nF hu)).sc b2).mono (by decide)
end
end DL
namespace DL
open PySem PySem.Spec L2 TL
def TX (tk : List (List Nat)) (s : List Nat) : Prop := ∃ l e, s = lay l ++ bl e ∧ l.map (·.2) = tk
theorem bl_add (a b : Nat) : bl a ++ bl b = bl (a + b) := List.replicate_append_replicate
theorem TX.app {a b : List (List Nat)} {s t : List Nat} (h : TX a s) (g : TX b t) : TX (a ++ b) (s ++ t) := by
  obtain ⟨l, e, rfl, rfl⟩ := h
  obtain ⟨l2, e2, rfl, rfl⟩ := g
  cases l2 with
  | nil =>
    refine ⟨l, e + e2, ?_, (List.append_nil _).symm⟩
    rw [List.append_assoc]
    congr 1
    exact bl_add e e2
  | cons p r =>
    refine ⟨l ++ (e + p.1, p.2) :: r, e2, ?_, by rw [List.map_append]; rfl⟩
    rw [lay_app, lay_one, lay_one, ← bl_add]
    simp only [List.append_assoc]
theorem TX.tok (t : List Nat) : TX [t] t := ⟨[(0, t)], 0, by
  rw [lay_one]
  show t = t ++ [] ++ []
  rw [List.append_nil, List.append_nil], rfl⟩
structure S (x : Str) (tk : List (List Nat)) (n : Nat) : Prop where
  tx : TX tk (tl x)
  ln : x.length ≤ n
theorem S.mono {x : Str} {tk : List (List Nat)} {n m : Nat} (h : S x tk n) (hm : n ≤ m) : S x tk m := ⟨h.tx, Nat.le_trans h.ln hm⟩
def dot (a b : List Int) : Int := ((a.zip b).map fun p => p.1 * p.2).sum
def evF (ps : List Int) (f : Fm) : Int := dot f.1 ps + f.2
theorem dot_cons (x y : Int) (a b : List Int) : dot (x :: a) (y :: b) = x * y + dot a b := by
  unfold dot
  rw [List.zip_cons_cons, List.map_cons, List.sum_cons]
theorem dot_nil (b : List Int) : dot [] b = 0 := rfl
theorem dot_nil2 (a : List Int) : dot a [] = 0 := by cases a <;> rfl
theorem dot_rep : ∀ (n : Nat) (b : List Int), dot (List.replicate n 0) b = 0
  | 0, b => rfl
  | n + 1, [] => dot_nil2 _
  | n + 1, y :: b => by rw [List.replicate_succ, dot_cons, dot_rep n b]; omega
theorem dot_repR : ∀ (n : Nat) (a : List Int), dot a (List.replicate n 0) = 0
  | 0, a => dot_nil2 a
  | n + 1, [] => rfl
  | n + 1, y :: b => by rw [List.replicate_succ, dot_cons, dot_repR n b]; omega
theorem dot_add : ∀ {a b : List Int} (c : List Int), a.length = b.length → dot ((a.zip b).map fun p => p.1 + p.2) c = dot a c + dot b c
  | [], [], c, _ => rfl
  | x :: a, y :: b, [], _ => by rw [dot_nil2, dot_nil2, dot_nil2]; rfl
  | x :: a, y :: b, z :: c, h => by
    rw [List.zip_cons_cons, List.map_cons, dot_cons, dot_cons, dot_cons, dot_add c (Nat.succ.inj h)]
    show (x + y) * z + (dot a c + dot b c) = x * z + dot a c + (y * z + dot b c)
    rw [Int.add_mul]
    omega
  | [], y :: b, c, h => by cases h
  | x :: a, [], c, h => by cases h
theorem dot_sc (m : Int) : ∀ (a c : List Int), dot (a.map (m * ·)) c = m * dot a c
  | [], c => by rw [List.map_nil, dot_nil]; omega
  | x :: a, [] => by rw [dot_nil2, dot_nil2]; omega
  | x :: a, y :: c => by
    rw [List.map_cons, dot_cons, dot_cons, dot_sc m a c, Int.mul_add, Int.mul_assoc]
theorem dot_unit {x : Str} : ∀ {nm : List Str} {ps : List Int}, x ∉ nm → dot (nm.map fun y => if y = x then 1 else 0) ps = 0
  | [], ps, _ => rfl
  | y :: r, [], _ => dot_nil2 _
  | y :: r, p :: q, h => by
    rw [List.map_cons, dot_cons, dot_unit (fun z => h (List.mem_cons_of_mem _ z)), if_neg (fun z => h (by rw [z]; exact List.mem_cons_self))]
    omega
theorem dot_at : ∀ {nm : List Str} {ps : List Int} {i : Nat} {x : Str}, nm.Nodup → nm[i]? = some x → dot (nm.map fun y => if y = x then 1 else 0) ps = ps.getD i 0
  | [], ps, i, x, _, h => by cases h
  | y :: r, [], i, x, _, _ => dot_nil2 _
  | y :: r, p :: q, 0, x, hd, h => by
    cases h
    rw [List.map_cons, dot_cons, dot_unit (List.nodup_cons.mp hd).1, if_pos rfl]
    show 1 * p + 0 = p
    omega
  | y :: r, p :: q, i + 1, x, hd, h => by
    have h : r[i]? = some x := h
    have hm : x ∈ r := List.mem_of_getElem? h
    rw [List.map_cons, dot_cons, dot_at (List.nodup_cons.mp hd).2 h, if_neg (fun z => (List.nodup_cons.mp hd).1 (by rw [z]; exact hm))]
    show 0 * p + q.getD i 0 = q.getD i 0
    omega
theorem dot_bt {k j : Nat} : ∀ {a b : List Int}, (∀ x ∈ a, Bt k x) → (∀ x ∈ b, Bt j x) → Bt ((k + j) * a.length) (dot a b)
  | [], b, _, _ => Bt.zero
  | x :: a, [], _, _ => by rw [dot_nil2]; exact Bt.zero
  | x :: a, y :: b, h, g => by
    rw [dot_cons, List.length_cons, Nat.mul_succ]
    exact (Bt.add (Bt.mul (h x List.mem_cons_self) (g y List.mem_cons_self)) (dot_bt (fun z hz => h z (List.mem_cons_of_mem _ hz)) fun z hz => g z (List.mem_cons_of_mem _ hz))).mono (by omega)
section
variable {ps : List Int} {f g : Fm}
theorem evF_ad (h : f.1.length = g.1.length) : evF ps (adF f g) = evF ps f + evF ps g := by
  show dot ((f.1.zip g.1).map fun p => p.1 + p.2) ps + (f.2 + g.2) = _
  rw [dot_add ps h]
  unfold evF
  omega
theorem evF_sc (m : Int) : evF ps (scF f m) = m * evF ps f := by
  show dot (f.1.map (m * ·)) ps + m * f.2 = _
  rw [dot_sc]
  unfold evF
  rw [Int.mul_add]
theorem evF_n (nm : List Str) (u : Nat) : evF ps (nF nm u) = u := by
  show dot (List.replicate nm.length 0) ps + (u : Int) = _
  rw [dot_rep]; omega
theorem evF_e {nm : List Str} {i : Nat} {x : Str} (hd : nm.Nodup) (h : nm[i]? = some x) : evF ps (eF nm x) = ps.getD i 0 := by
  show dot (nm.map fun y => if y = x then 1 else 0) ps + 0 = _
  rw [dot_at hd h]; omega
theorem evF_bt {k j n : Nat} (h : BtF k n f) (hp : ∀ x ∈ ps, Bt j x) : Bt ((k + j) * n + k) (evF ps f) := by
  have := dot_bt h.2.1 hp
  rw [h.1] at this
  exact this.add h.2.2
def SmF (b : Nat) (f : Fm) : Prop := (∀ c ∈ f.1, c.natAbs ≤ b) ∧ f.2.natAbs ≤ b
theorem SmF.mono {a b : Nat} (h : SmF a f) (hb : a ≤ b) : SmF b f := ⟨fun c hc => Nat.le_trans (h.1 c hc) hb, Nat.le_trans h.2 hb⟩
theorem SmF.ad {a b : Nat} (h : SmF a f) (k : SmF b g) : SmF (a + b) (adF f g) := by
  refine ⟨fun c hc => ?_, ?_⟩
  · obtain ⟨p, hp, rfl⟩ := List.mem_map.mp (show c ∈ (f.1.zip g.1).map (fun p => p.1 + p.2) from hc)
    have := h.1 _ (List.of_mem_zip hp).1
    have := k.1 _ (List.of_mem_zip hp).2
    show (p.1 + p.2).natAbs ≤ _
    omega
  · have := h.2; have := k.2
    show (f.2 + g.2).natAbs ≤ _
    omega
theorem SmF.sc {a : Nat} (h : SmF a f) (m : Int) : SmF (m.natAbs * a) (scF f m) := by
  refine ⟨fun c hc => ?_, ?_⟩
  · obtain ⟨p, hp, rfl⟩ := List.mem_map.mp (show c ∈ f.1.map (m * ·) from hc)
    rw [Int.natAbs_mul]
    exact Nat.mul_le_mul_left _ (h.1 _ hp)
  · show (m * f.2).natAbs ≤ _
    rw [Int.natAbs_mul]
    exact Nat.mul_le_mul_left _ h.2
theorem SmF.n {nm : List Str} {u b : Nat} (h : u ≤ b) : SmF b (nF nm u) := ⟨fun c hc => by rw [List.eq_of_mem_replicate hc]; exact Nat.zero_le _, by show ((u : Nat) : Int).natAbs ≤ b; rw [Int.natAbs_natCast]; exact h⟩
theorem SmF.e {nm : List Str} {x : Str} : SmF 1 (eF nm x) := ⟨fun c hc => by
  obtain ⟨y, _, rfl⟩ := List.mem_map.mp hc
  show (if y = x then (1 : Int) else 0).natAbs ≤ 1
  split <;> decide, by show (0 : Int).natAbs ≤ 1; decide⟩
end
end DL
namespace DL
open PySem PySem.Spec L2
def topS (i : Nat) : Stmt := PySem.Challenge.pw_apartbook_k06_whole_sums_at_numbers.main.body.getD i (.Pass ⟨0, 0, 0, 0⟩)
abbrev s_NoText_init : Stmt := inClass (topS 2) 0
theorem sc_NoText_init : FnScope ["self", "place"] ["self", "place"] (defScope s_NoText_init) := ⟨rfl, rfl, rfl, by decide +kernel, rfl, by decide +kernel, by decide +kernel⟩
abbrev s_NoName_init : Stmt := inClass (topS 3) 0
theorem sc_NoName_init : FnScope ["self", "name", "place"] ["self", "name", "place"] (defScope s_NoName_init) := ⟨rfl, rfl, rfl, by decide +kernel, rfl, by decide +kernel, by decide +kernel⟩
abbrev s_NotPlain_init : Stmt := inClass (topS 4) 0
theorem sc_NotPlain_init : FnScope ["self", "place"] ["self", "place"] (defScope s_NotPlain_init) := ⟨rfl, rfl, rfl, by decide +kernel, rfl, by decide +kernel, by decide +kernel⟩
abbrev s_scaled : Stmt := topS 10
abbrev N_scaled : List Str := ["form", "many", "number"]
theorem sc_scaled : FnScope N_scaled ["form", "many"] (defScope s_scaled) := ⟨rfl, rfl, rfl, by decide +kernel, rfl, by decide +kernel, by decide +kernel⟩
def b_scaled : List C → Out := (sRet (eTup (aCons (e1 gTuple (aCons (eLc [2] (iAny (e2 gIxS (eV 0) (eC (.int 0)))) (tgN 2) (fun _ => some true) (e2 gMul (eV 1) (eV 2))) aNil)) (aCons (e2 gMul (eV 1) (e2 gIxS (eV 0) (eC (.int 1)))) aNil))))
def f_scaled : List D → Option D := runP [.fz, .fz] 3 b_scaled
theorem fe_scaled (x0 x1 : D) : f_scaled [x0, x1] = oRun (b_scaled [.val x0, .val x1, .und]) := (ev_run (ks := [.fz, .fz]) (n := 3) (b := b_scaled) (ds := [x0, x1])).trans (congrArg (fun l => oRun (b_scaled l)) rfl)

abbrev s_added : Stmt := topS 11
abbrev N_added : List Str := ["one", "other", "x", "y"]
theorem sc_added : FnScope N_added ["one", "other"] (defScope s_added) := ⟨rfl, rfl, rfl, by decide +kernel, rfl, by decide +kernel, by decide +kernel⟩
def b_added : List C → Out := (sRet (eTup (aCons (e1 gTuple (aCons (eLc [2, 3] (iZipG (e2 gIxS (eV 0) (eC (.int 0))) (e2 gIxS (eV 1) (eC (.int 0)))) (tgT (tgCons (tgN 2) (tgCons (tgN 3) tgNil))) (fun _ => some true) (e2 gAdd (eV 2) (eV 3))) aNil)) (aCons (e2 gAdd (e2 gIxS (eV 0) (eC (.int 1))) (e2 gIxS (eV 1) (eC (.int 1)))) aNil))))
def f_added : List D → Option D := runP [.fz, .fz] 4 b_added
theorem fe_added (x0 x1 : D) : f_added [x0, x1] = oRun (b_added [.val x0, .val x1, .und, .und]) := (ev_run (ks := [.fz, .fz]) (n := 4) (b := b_added) (ds := [x0, x1])).trans (congrArg (fun l => oRun (b_added l)) rfl)

abbrev s_is_number : Stmt := topS 12
abbrev N_is_number : List Str := ["form", "number"]
theorem sc_is_number : FnScope N_is_number ["form"] (defScope s_is_number) := ⟨rfl, rfl, rfl, by decide +kernel, rfl, by decide +kernel, by decide +kernel⟩
def b_is_number : List C → Out := (sRet (e2 gEq (eLc [1] (iAny (e2 gIxS (eV 0) (eC (.int 0)))) (tgN 1) (tB (e2 gNe (eV 1) (eC (.int 0)))) (eV 1)) (eLst aNil)))
def f_is_number : List D → Option D := runP [.fz] 2 b_is_number
theorem fe_is_number (x0 : D) : f_is_number [x0] = oRun (b_is_number [.val x0, .und]) := (ev_run (ks := [.fz]) (n := 2) (b := b_is_number) (ds := [x0])).trans (congrArg (fun l => oRun (b_is_number l)) rfl)

abbrev s_multiplied : Stmt := topS 13
abbrev N_multiplied : List Str := ["one", "other", "place"]
theorem sc_multiplied : FnScope N_multiplied ["one", "other", "place"] (defScope s_multiplied) := ⟨rfl, rfl, rfl, by decide +kernel, rfl, by decide +kernel, by decide +kernel⟩
def b_multiplied : List C → Out := (sSeq (sIf (tB (e1 f_is_number (aCons (eV 0) aNil))) (sRetX (xN (nD (e1 f_scaled (aCons (eV 1) (aCons (e2 gIxS (eV 0) (eC (.int 1))) aNil)))))) sNil)
  (sSeq (sIf (tB (e1 f_is_number (aCons (eV 1) aNil))) (sRetX (xN (nD (e1 f_scaled (aCons (eV 0) (aCons (e2 gIxS (eV 1) (eC (.int 1))) aNil)))))) sNil)
  (sRaise (mkE1 "NotPlain" "place" (eV 2)))))
def f_multiplied : List T → Option Rz := runMX [false, false, false] 3 b_multiplied
theorem fe_multiplied  (x0 : D) (x1 : D) (x2 : D) : f_multiplied [.d x0, .d x1, .d x2] = outMX [false, false, false] (b_multiplied [.val x0, .val x1, .val x2]) := (rfl)

abbrev s_form_of : Stmt := topS 14
abbrev N_form_of : List Str := ["names", "tree", "one", "found", "many", "term", "name"]
theorem sc_form_of : FnScope N_form_of ["names", "tree"] (defScope s_form_of) := ⟨rfl, rfl, rfl, by decide +kernel, rfl, by decide +kernel, by decide +kernel⟩
def L_form_of_0 (f_form_of : List T → Option Rz) : List C → Out := (sSetY 3 (yCallD f_added (ysCons (eV 3) (ysHere (yCallD f_scaled (ysHere (yCallP f_form_of [] (mpRo (eV 0) (mpRo (eV 5) mpNil))) (aCons (eV 4) aNil))) aNil))))
def b_form_of (f_form_of : List T → Option Rz) : List C → Out := (sSeq (sIf (tB (e2 gEq (e2 gIxS (eV 1) (eC (.int 0))) (eC (.str "number")))) (sRetX (xN (nD (eTup (aCons (e2 gMulTA (eTup (aCons (eC (.int 0)) aNil)) (e1 gLen (aCons (eV 0) aNil))) (aCons (e2 gIxS (eV 1) (eC (.int 1))) aNil)))))) sNil)
  (sSeq (sIf (tB (e2 gEq (e2 gIxS (eV 1) (eC (.int 0))) (eC (.str "name")))) (sRetX (xN (nD (eTup (aCons (e1 gTuple (aCons (eLc [6] (iAny (eV 0)) (tgN 6) (fun _ => some true) (e1 gInt (aCons (e2 gEq (eV 6) (e2 gIxS (eV 1) (eC (.int 1)))) aNil))) aNil)) (aCons (eC (.int 0)) aNil)))))) sNil)
  (sSeq (sIf (tB (e2 gEq (e2 gIxS (eV 1) (eC (.int 0))) (eC (.str "times")))) (sSeq (sSetY 2 (yCallP f_form_of [] (mpRo (eV 0) (mpRo (e2 gIxS (eV 1) (eC (.int 1))) mpNil))))
  (sRetY (yCallY f_multiplied (ysCons (eV 2) (ysHere (yCallP f_form_of [] (mpRo (eV 0) (mpRo (e2 gIxS (eV 1) (eC (.int 2))) mpNil))) (aCons (e2 gIxS (eV 1) (eC (.int 3))) aNil)))))) sNil)
  (sSeq (sSet 3 (eTup (aCons (e2 gMulTA (eTup (aCons (eC (.int 0)) aNil)) (e1 gLen (aCons (eV 0) aNil))) (aCons (eC (.int 0)) aNil))))
  (sSeq (sFor (iAny (e2 gIxS (eV 1) (eC (.int 1)))) (tgT (tgCons (tgN 4) (tgCons (tgN 5) tgNil))) (L_form_of_0 f_form_of))
  (sRetX (xN (nD (eV 3)))))))))
def f_form_of_s (f_form_of : List T → Option Rz) : List T → Option Rz := runMX [false, false] 7 (b_form_of f_form_of)
theorem fe_form_of {f_form_of : List T → Option Rz}  (x0 : D) (x1 : D) : f_form_of_s f_form_of [.d x0, .d x1] = outMX [false, false] ((b_form_of f_form_of) [.val x0, .val x1, .und, .und, .und, .und, .und]) := (rfl)

def r_form_of : Nat → List T → Option Rz
  | 0 => fun _ => none
  | n + 1 => f_form_of_s (r_form_of n)
def f_form_of : List T → Option Rz := r_form_of 54
theorem fr_form_of {n : Nat} : r_form_of (n + 1) = f_form_of_s (r_form_of n) := (rfl)

abbrev s_Reader_init : Stmt := inClass (topS 9) 0
abbrev N_Reader_init : List Str := ["self", "text"]
theorem sc_Reader_init : FnScope N_Reader_init ["self", "text"] (defScope s_Reader_init) := ⟨rfl, rfl, rfl, by decide +kernel, rfl, by decide +kernel, by decide +kernel⟩
def b_Reader_init : List C → Out := (sSeq (sFldP "Reader" "text" (pNm 0) (xN (nD (eV 1))))
  (sSeq (sFldP "Reader" "at" (pNm 0) (xN (nD (eC (.int 0)))))
  (sFldP "Reader" "names" (pNm 0) (xN (nL (eLst aNil))))))
def f_Reader_init : List T → Option (List T × T) := runM [true, false] 2 b_Reader_init
theorem fe_Reader_init  (fs : List Str) (ts : List T) (x1 : D) : f_Reader_init [.n (.o "Reader" fs) ts, .d x1] = outM [true, false] (b_Reader_init [.own (some 0) (.n (.o "Reader" fs) ts), .val x1]) := (rfl)

abbrev s_Reader_ahead : Stmt := inClass (topS 9) 1
abbrev N_Reader_ahead : List Str := ["self"]
theorem sc_Reader_ahead : FnScope N_Reader_ahead ["self"] (defScope s_Reader_ahead) := ⟨rfl, rfl, rfl, by decide +kernel, rfl, by decide +kernel, by decide +kernel⟩
def L_Reader_ahead_0 : List C → Option Bool := (tB (e2 gEq (e3 gSl (rLeaf (rF "Reader" "text" (rN 0))) (pS (rLeaf (rF "Reader" "at" (rN 0)))) (pS (e2 gAdd (rLeaf (rF "Reader" "at" (rN 0))) (eC (.int 1))))) (eC (.str " "))))
def L_Reader_ahead_1 : List C → Out := (sFldAugP "Reader" "at" gAddIS (pNm 0) (eC (.int 1)))
def b_Reader_ahead : List C → Out := (sSeq (sWhile (fun _ => bigN) L_Reader_ahead_0 L_Reader_ahead_1)
  (sRetX (xN (nD (e3 gSl (rLeaf (rF "Reader" "text" (rN 0))) (pS (rLeaf (rF "Reader" "at" (rN 0)))) (pS (e2 gAdd (rLeaf (rF "Reader" "at" (rN 0))) (eC (.int 1)))))))))
def f_Reader_ahead : List T → Option (List T × T) := runM [true] 1 b_Reader_ahead
theorem fe_Reader_ahead  (fs : List Str) (ts : List T) : f_Reader_ahead [.n (.o "Reader" fs) ts] = outM [true] (b_Reader_ahead [.own (some 0) (.n (.o "Reader" fs) ts)]) := (rfl)

abbrev s_Reader_run_of : Stmt := inClass (topS 9) 2
abbrev N_Reader_run_of : List Str := ["self", "signs", "most", "first"]
theorem sc_Reader_run_of : FnScope N_Reader_run_of ["self", "signs", "most"] (defScope s_Reader_run_of) := ⟨rfl, rfl, rfl, by decide +kernel, rfl, by decide +kernel, by decide +kernel⟩
def L_Reader_run_of_0 : List C → Option Bool := (tAndF (tB (e2 gLt (rLeaf (rF "Reader" "at" (rN 0))) (e1 gLen (aCons (rLeaf (rF "Reader" "text" (rN 0))) aNil)))) (tAndF (tB (e2 gLt (e2 gSub (rLeaf (rF "Reader" "at" (rN 0))) (eV 3)) (eV 2))) (tB (e2 gInT (e2 gIxS (rLeaf (rF "Reader" "text" (rN 0))) (rLeaf (rF "Reader" "at" (rN 0)))) (eV 1)))))
def L_Reader_run_of_1 : List C → Out := (sFldAugP "Reader" "at" gAddIS (pNm 0) (eC (.int 1)))
def b_Reader_run_of : List C → Out := (sSeq (sSet 3 (rLeaf (rF "Reader" "at" (rN 0))))
  (sSeq (sWhile (fun _ => bigN) L_Reader_run_of_0 L_Reader_run_of_1)
  (sRetX (xN (nD (e3 gSl (rLeaf (rF "Reader" "text" (rN 0))) (pS (eV 3)) (pS (rLeaf (rF "Reader" "at" (rN 0))))))))))
def f_Reader_run_of : List T → Option (List T × T) := runM [true, false, false] 4 b_Reader_run_of
theorem fe_Reader_run_of  (fs : List Str) (ts : List T) (x1 : D) (x2 : D) : f_Reader_run_of [.n (.o "Reader" fs) ts, .d x1, .d x2] = outM [true, false, false] (b_Reader_run_of [.own (some 0) (.n (.o "Reader" fs) ts), .val x1, .val x2, .und]) := (rfl)

abbrev s_Reader_factor : Stmt := inClass (topS 9) 3
abbrev N_Reader_factor : List Str := ["self", "sign", "place", "name", "found"]
theorem sc_Reader_factor : FnScope N_Reader_factor ["self"] (defScope s_Reader_factor) := ⟨rfl, rfl, rfl, by decide +kernel, rfl, by decide +kernel, by decide +kernel⟩
def b_Reader_factor (f_Reader_whole : List T → Option Rz) : List C → Out := (sSeq (sSetX 1 (xMeth "Reader" "ahead" f_Reader_ahead (pNm 0) nsNil))
  (sSeq (sIf (tB (e2 gEq (eV 1) (eC (.str "0")))) (sSeq (sFldAugP "Reader" "at" gAddIS (pNm 0) (eC (.int 1)))
  (sRetX (xN (nD (eTup (aCons (eC (.str "number")) (aCons (eC (.int 0)) aNil))))))) sNil)
  (sSeq (sIf (tAndF (tB (e2 gNe (eV 1) (eC (.str "")))) (tB (e2 gInT (eV 1) (eC (.str "0123456789"))))) (sRetY (yTup (ysCons (eC (.str "number")) (ysHere (yX (x1T gIntT (xMeth "Reader" "run_of" f_Reader_run_of (pNm 0) (nsCons (nD (eC (.str "0123456789"))) (nsCons (nD (e1 gLen (aCons (rLeaf (rF "Reader" "text" (rN 0))) aNil))) nsNil))))) aNil)))) sNil)
  (sSeq (sIf (tAndF (tB (e2 gNe (eV 1) (eC (.str "")))) (tB (e2 gInT (eV 1) (eC (.str "abcdefghijklmnopqrstuvwxyz"))))) (sSeq (sSet 2 (rLeaf (rF "Reader" "at" (rN 0))))
  (sSeq (sSetX 3 (xMeth "Reader" "run_of" f_Reader_run_of (pNm 0) (nsCons (nD (eC (.str "abcdefghijklmnopqrstuvwxyz"))) (nsCons (nD (eC (.int 10))) nsNil))))
  (sSeq (sDropX (xAppP (pF "Reader" "names" (pNm 0)) (nD (eTup (aCons (eV 3) (aCons (eV 2) aNil))))))
  (sRetX (xN (nD (eTup (aCons (eC (.str "name")) (aCons (eV 3) aNil))))))))) sNil)
  (sSeq (sIf (tB (e2 gNe (eV 1) (eC (.str "(")))) (sRaise (mkE1 "NoText" "place" (rLeaf (rF "Reader" "at" (rN 0))))) sNil)
  (sSeq (sFldAugP "Reader" "at" gAddIS (pNm 0) (eC (.int 1)))
  (sSeq (sSetY 4 (yMeth "Reader" "whole" f_Reader_whole (pNm 0) nsNil))
  (sSeq (sIfX (txCmp gNe (xMeth "Reader" "ahead" f_Reader_ahead (pNm 0) nsNil) (eC (.str ")"))) (sRaise (mkE1 "NoText" "place" (rLeaf (rF "Reader" "at" (rN 0))))) sNil)
  (sSeq (sFldAugP "Reader" "at" gAddIS (pNm 0) (eC (.int 1)))
  (sRetX (xN (nD (eV 4)))))))))))))
def f_Reader_factor_s (f_Reader_whole : List T → Option Rz) : List T → Option Rz := runMX [true] 5 (b_Reader_factor f_Reader_whole)
theorem fe_Reader_factor {f_Reader_whole : List T → Option Rz}  (fs : List Str) (ts : List T) : f_Reader_factor_s f_Reader_whole [.n (.o "Reader" fs) ts] = outMX [true] ((b_Reader_factor f_Reader_whole) [.own (some 0) (.n (.o "Reader" fs) ts), .und, .und, .und, .und]) := (rfl)

abbrev s_Reader_term : Stmt := inClass (topS 9) 4
abbrev N_Reader_term : List Str := ["self", "found", "place"]
theorem sc_Reader_term : FnScope N_Reader_term ["self"] (defScope s_Reader_term) := ⟨rfl, rfl, rfl, by decide +kernel, rfl, by decide +kernel, by decide +kernel⟩
def L_Reader_term_0 (f_Reader_factor : List T → Option Rz) : List C → Option (List C × Bool) := (txCmp gEq (xMeth "Reader" "ahead" f_Reader_ahead (pNm 0) nsNil) (eC (.str "*")))
def L_Reader_term_1 (f_Reader_factor : List T → Option Rz) : List C → Out := (sSeq (sSet 2 (rLeaf (rF "Reader" "at" (rN 0))))
  (sSeq (sFldAugP "Reader" "at" gAddIS (pNm 0) (eC (.int 1)))
  (sSetY 1 (yTup (ysCons (eC (.str "times")) (ysCons (eV 1) (ysHere (yMeth "Reader" "factor" f_Reader_factor (pNm 0) nsNil) (aCons (eV 2) aNil))))))))
def b_Reader_term (f_Reader_factor : List T → Option Rz) : List C → Out := (sSeq (sSetY 1 (yMeth "Reader" "factor" f_Reader_factor (pNm 0) nsNil))
  (sSeq (sWhileX (fun _ => bigN) (L_Reader_term_0 f_Reader_factor) (L_Reader_term_1 f_Reader_factor))
  (sRetX (xN (nD (eV 1))))))
def f_Reader_term_s (f_Reader_factor : List T → Option Rz) : List T → Option Rz := runMX [true] 3 (b_Reader_term f_Reader_factor)
theorem fe_Reader_term {f_Reader_factor : List T → Option Rz}  (fs : List Str) (ts : List T) : f_Reader_term_s f_Reader_factor [.n (.o "Reader" fs) ts] = outMX [true] ((b_Reader_term f_Reader_factor) [.own (some 0) (.n (.o "Reader" fs) ts), .und, .und]) := (rfl)

abbrev s_Reader_whole : Stmt := inClass (topS 9) 5
abbrev N_Reader_whole : List Str := ["self", "many", "terms", "sign"]
theorem sc_Reader_whole : FnScope N_Reader_whole ["self"] (defScope s_Reader_whole) := ⟨rfl, rfl, rfl, by decide +kernel, rfl, by decide +kernel, by decide +kernel⟩
def L_Reader_whole_0 (f_Reader_term : List T → Option Rz) : List C → Option Bool := (tOrF (tB (e2 gEq (eV 3) (eC (.str "+")))) (tB (e2 gEq (eV 3) (eC (.str "-")))))
def L_Reader_whole_1 (f_Reader_term : List T → Option Rz) : List C → Out := (sSeq (sFldAugP "Reader" "at" gAddIS (pNm 0) (eC (.int 1)))
  (sSeq (sSet 1 (eC (.int 1)))
  (sSeq (sIf (tB (e2 gEq (eV 3) (eC (.str "-")))) (sSet 1 (eNeg (eC (.int 1)))) sNil)
  (sSeq (sDropY (yAppX 2 (yTup (ysCons (eV 1) (ysHere (yMeth "Reader" "term" f_Reader_term (pNm 0) nsNil) aNil)))))
  (sSetX 3 (xMeth "Reader" "ahead" f_Reader_ahead (pNm 0) nsNil))))))
def b_Reader_whole (f_Reader_term : List T → Option Rz) : List C → Out := (sSeq (sSet 1 (eC (.int 1)))
  (sSeq (sIfX (txCmp gEq (xMeth "Reader" "ahead" f_Reader_ahead (pNm 0) nsNil) (eC (.str "-"))) (sSeq (sFldAugP "Reader" "at" gAddIS (pNm 0) (eC (.int 1)))
  (sSet 1 (eNeg (eC (.int 1))))) sNil)
  (sSeq (sSetY 2 (yLst (ysHere (yTup (ysCons (eV 1) (ysHere (yMeth "Reader" "term" f_Reader_term (pNm 0) nsNil) aNil))) aNil)))
  (sSeq (sSetX 3 (xMeth "Reader" "ahead" f_Reader_ahead (pNm 0) nsNil))
  (sSeq (sWhile (fun _ => bigN) (L_Reader_whole_0 f_Reader_term) (L_Reader_whole_1 f_Reader_term))
  (sFzT 2 (sRetX (xN (nD (eTup (aCons (eC (.str "sum")) (aCons (eV 2) aNil))))))))))))
def f_Reader_whole_s (f_Reader_term : List T → Option Rz) : List T → Option Rz := runMX [true] 4 (b_Reader_whole f_Reader_term)
theorem fe_Reader_whole {f_Reader_term : List T → Option Rz}  (fs : List Str) (ts : List T) : f_Reader_whole_s f_Reader_term [.n (.o "Reader" fs) ts] = outMX [true] ((b_Reader_whole f_Reader_term) [.own (some 0) (.n (.o "Reader" fs) ts), .und, .und, .und]) := (rfl)

def r_Reader_whole : Nat → List T → Option Rz
  | 0 => fun _ => none
  | n + 1 => f_Reader_whole_s (f_Reader_term_s (f_Reader_factor_s (r_Reader_whole n)))
def f_Reader_whole : List T → Option Rz := r_Reader_whole 18
abbrev s_read_sum : Stmt := topS 15
abbrev N_read_sum : List Str := ["names", "text", "reader", "tree", "name", "place"]
theorem sc_read_sum : FnScope N_read_sum ["names", "text"] (defScope s_read_sum) := ⟨rfl, rfl, rfl, by decide +kernel, rfl, by decide +kernel, by decide +kernel⟩
def L_read_sum_0 : List C → Out := (sIf (tB (e2 gNotIn (eV 4) (eV 0))) (sRaise (mkE2 "NoName" "name" "place" (eV 4) (eV 5))) sNil)
def b_read_sum : List C → Out := (sSeq (sSetX 2 (xN (nMake "Reader" f_Reader_init (nsCons (nD (eV 1)) nsNil))))
  (sSeq (sSetY 3 (yMeth "Reader" "whole" f_Reader_whole (pNm 2) nsNil))
  (sSeq (sIfX (txCmp gNe (xMeth "Reader" "ahead" f_Reader_ahead (pNm 2) nsNil) (eC (.str ""))) (sRaise (mkE1 "NoText" "place" (rLeaf (rF "Reader" "at" (rN 2))))) sNil)
  (sFrz 2 [2] (sSeq (sFor (iAny (eRlf (rF "Reader" "names" (rN 2)))) (tgT (tgCons (tgN 4) (tgCons (tgN 5) tgNil))) L_read_sum_0)
  (sRetY (yCallP f_form_of [] (mpRo (eV 0) (mpRo (eV 3) mpNil)))))))))
def f_read_sum : List T → Option Rz := runMX [false, false] 6 b_read_sum
theorem fe_read_sum  (x0 : D) (x1 : D) : f_read_sum [.d x0, .d x1] = outMX [false, false] (b_read_sum [.val x0, .val x1, .und, .und, .und, .und]) := (rfl)

abbrev s_shown_sum : Stmt := topS 16
abbrev N_shown_sum : List Str := ["names", "form", "parts", "name", "many", "text", "part"]
theorem sc_shown_sum : FnScope N_shown_sum ["names", "form"] (defScope s_shown_sum) := ⟨rfl, rfl, rfl, by decide +kernel, rfl, by decide +kernel, by decide +kernel⟩
def L_shown_sum_0 : List C → Out := (sIf (tAndF (tB (e2 gNe (eV 5) (eC (.str "")))) (tB (e2 gLt (eV 4) (eC (.int 0))))) (sAug 5 gAddIS (e2 gAdd (eC (.str " - ")) (eV 6))) (sIf (tB (e2 gNe (eV 5) (eC (.str "")))) (sAug 5 gAddIS (e2 gAdd (eC (.str " + ")) (eV 6))) (sIf (tB (e2 gLt (eV 4) (eC (.int 0)))) (sSet 5 (e2 gAdd (eC (.str "-")) (eV 6))) (sSet 5 (eV 6)))))
def L_shown_sum_1 : List C → Out := (sIf (tB (e2 gEq (e1 gAbs (aCons (eV 4) aNil)) (eC (.int 1)))) (sApp 2 (eTup (aCons (eV 4) (aCons (eV 3) aNil)))) (sIf (tB (e2 gNe (eV 4) (eC (.int 0)))) (sApp 2 (eTup (aCons (eV 4) (aCons (e2 gAdd (e2 gAdd (e1 gStr (aCons (e1 gAbs (aCons (eV 4) aNil)) aNil)) (eC (.str "*"))) (eV 3)) aNil)))) sNil))
def b_shown_sum : List C → Out := (sSeq (sSetL 2 (eLst aNil))
  (sSeq (sFor (iZipG (eV 0) (e2 gIxS (eV 1) (eC (.int 0)))) (tgT (tgCons (tgN 3) (tgCons (tgN 4) tgNil))) L_shown_sum_1)
  (sSeq (sIf (tOrF (tB (e2 gNe (e2 gIxS (eV 1) (eC (.int 1))) (eC (.int 0)))) (tB (e2 gEq (eL 2) (eLst aNil)))) (sApp 2 (eTup (aCons (e2 gIxS (eV 1) (eC (.int 1))) (aCons (e1 gStr (aCons (e1 gAbs (aCons (e2 gIxS (eV 1) (eC (.int 1))) aNil)) aNil)) aNil)))) sNil)
  (sSeq (sSet 5 (eC (.str "")))
  (sFz 2 (sSeq (sFor (iAny (eV 2)) (tgT (tgCons (tgN 4) (tgCons (tgN 6) tgNil))) L_shown_sum_0)
  (sRet (eV 5))))))))
def f_shown_sum : List D → Option D := runP [.fz, .fz] 7 b_shown_sum
theorem fe_shown_sum (x0 x1 : D) : f_shown_sum [x0, x1] = oRun (b_shown_sum [.val x0, .val x1, .und, .und, .und, .und, .und]) := (ev_run (ks := [.fz, .fz]) (n := 7) (b := b_shown_sum) (ds := [x0, x1])).trans (congrArg (fun l => oRun (b_shown_sum l)) rfl)

abbrev s_value_of : Stmt := topS 17
abbrev N_value_of : List Str := ["form", "values", "many", "value"]
theorem sc_value_of : FnScope N_value_of ["form", "values"] (defScope s_value_of) := ⟨rfl, rfl, rfl, by decide +kernel, rfl, by decide +kernel, by decide +kernel⟩
def b_value_of : List C → Out := (sRet (e2 gAdd (e1 gSum (aCons (eLc [2, 3] (iZipG (e2 gIxS (eV 0) (eC (.int 0))) (eV 1)) (tgT (tgCons (tgN 2) (tgCons (tgN 3) tgNil))) (fun _ => some true) (e2 gMul (eV 2) (eV 3))) aNil)) (e2 gIxS (eV 0) (eC (.int 1)))))
def f_value_of : List D → Option D := runP [.fz, .fz] 4 b_value_of
theorem fe_value_of (x0 x1 : D) : f_value_of [x0, x1] = oRun (b_value_of [.val x0, .val x1, .und, .und]) := (ev_run (ks := [.fz, .fz]) (n := 4) (b := b_value_of) (ds := [x0, x1])).trans (congrArg (fun l => oRun (b_value_of l)) rfl)

abbrev s_l_at : Stmt := topS 19
abbrev N_l_at : List Str := ["_law_script", "_law_k"]
theorem sc_l_at : FnScope N_l_at ["_law_script", "_law_k"] (defScope s_l_at) := ⟨rfl, rfl, rfl, by decide +kernel, rfl, by decide +kernel, by decide +kernel⟩
def b_l_at : List C → Out := (sSeq (sIf (tB (e2 gLt (eV 1) (e1 gLen (aCons (eB 0) aNil)))) (sRet (eScal (e2 gIxB (eB 0) (eV 1)))) sNil)
  (sRet (e2 gAdd (e2 gMul (eC (.int 19)) (eV 1)) (eC (.int 8)))))
def f_l_at : List D → Option D := runP [.vw, .fz] 2 b_l_at
theorem fe_l_at (x0 x1 : D) : f_l_at [x0, x1] = oRun (b_l_at [.brw x0, .val x1]) := (ev_run (ks := [.vw, .fz]) (n := 2) (b := b_l_at) (ds := [x0, x1])).trans (congrArg (fun l => oRun (b_l_at l)) rfl)

abbrev s_l_mix : Stmt := topS 20
abbrev N_l_mix : List Str := ["_law_number", "_law_place", "_law_turn", "_law_part"]
theorem sc_l_mix : FnScope N_l_mix ["_law_number", "_law_place"] (defScope s_l_mix) := ⟨rfl, rfl, rfl, by decide +kernel, rfl, by decide +kernel, by decide +kernel⟩
def L_l_mix_0 : List C → Out := (sSet 0 (e2 gDivA (eV 0) (eC (.int 2147483648))))
def b_l_mix : List C → Out := (sSeq (sIf (tB (e2 gGe (eV 0) (e2 gPow (eC (.int 10)) (eC (.int 12))))) (sSeq (sSet 0 (e2 gSub (e2 gDivA (eV 0) (e2 gPow (eC (.int 10)) (eC (.int 12)))) (eC (.int 1))))
  (sSeq (sFor (iRng1F (e2 gModA (eV 1) (eC (.int 61)))) (tgN 2) L_l_mix_0)
  (sRet (e2 gModA (eV 0) (eC (.int 2147483648)))))) sNil)
  (sSeq (sSet 3 (e2 gModA (e2 gMul (e2 gAdd (e2 gAdd (e2 gModA (eV 0) (eC (.int 2147483629))) (eV 1)) (eC (.int 1))) (e2 gAdd (e2 gMul (e2 gMul (eC (.int 8)) (eV 1)) (eV 1)) (eC (.int 48271)))) (eC (.int 2147483647))))
  (sSeq (sSet 3 (e2 gModA (e2 gMul (eV 3) (eV 3)) (eC (.int 2147483587))))
  (sRet (e2 gModA (e2 gMul (eV 3) (e2 gAdd (eV 3) (eC (.int 2)))) (eC (.int 2147483579)))))))
def f_l_mix : List D → Option D := runP [.fz, .fz] 4 b_l_mix
theorem fe_l_mix (x0 x1 : D) : f_l_mix [x0, x1] = oRun (b_l_mix [.val x0, .val x1, .und, .und]) := (ev_run (ks := [.fz, .fz]) (n := 4) (b := b_l_mix) (ds := [x0, x1])).trans (congrArg (fun l => oRun (b_l_mix l)) rfl)

abbrev s_l_whole : Stmt := topS 21
abbrev N_l_whole : List Str := ["_law_found"]
theorem sc_l_whole : FnScope N_l_whole ["_law_found"] (defScope s_l_whole) := ⟨rfl, rfl, rfl, by decide +kernel, rfl, by decide +kernel, by decide +kernel⟩
def b_l_whole : List C → Out := (sRet (eAnd (eIsi "int" (eV 0)) (eNot (eIsi "bool" (eV 0)))))
def f_l_whole : List D → Option D := runP [.fz] 1 b_l_whole
theorem fe_l_whole (x0 : D) : f_l_whole [x0] = oRun (b_l_whole [.val x0]) := (ev_run (ks := [.fz]) (n := 1) (b := b_l_whole) (ds := [x0])).trans (congrArg (fun l => oRun (b_l_whole l)) rfl)

abbrev s_l_name : Stmt := topS 22
abbrev N_l_name : List Str := ["_law_number", "_law_name_here", "_law_k"]
theorem sc_l_name : FnScope N_l_name ["_law_number"] (defScope s_l_name) := ⟨rfl, rfl, rfl, by decide +kernel, rfl, by decide +kernel, by decide +kernel⟩
def L_l_name_0 : List C → Out := (sSet 1 (e2 gAdd (eV 1) (e2 gIxS (eC (.str "abcdefghijklmnopqrstuvwxyz")) (e2 gModA (e1 f_l_mix (aCons (eV 0) (aCons (eV 2) aNil))) (e2 gIxS (eLst (aCons (eC (.int 26)) (aCons (eC (.int 2)) aNil))) (e2 gModA (e2 gDivA (eV 0) (eC (.int 10))) (eC (.int 2))))))))
def b_l_name : List C → Out := (sSeq (sSet 1 (eC (.str "")))
  (sSeq (sFor (iRng1F (e2 gAdd (eC (.int 1)) (e2 gModA (eV 0) (eC (.int 10))))) (tgN 2) L_l_name_0)
  (sRet (eV 1))))
def f_l_name : List D → Option D := runP [.fz] 3 b_l_name
theorem fe_l_name (x0 : D) : f_l_name [x0] = oRun (b_l_name [.val x0, .und, .und]) := (ev_run (ks := [.fz]) (n := 3) (b := b_l_name) (ds := [x0])).trans (congrArg (fun l => oRun (b_l_name l)) rfl)

abbrev s_l_names : Stmt := topS 23
abbrev N_l_names : List Str := ["_law_number", "_law_most", "_law_names_here", "_law_k", "_law_name_here"]
theorem sc_l_names : FnScope N_l_names ["_law_number", "_law_most"] (defScope s_l_names) := ⟨rfl, rfl, rfl, by decide +kernel, rfl, by decide +kernel, by decide +kernel⟩
def L_l_names_0 : List C → Out := (sSeq (sSet 4 (e1 f_l_name (aCons (e1 f_l_mix (aCons (eV 0) (aCons (e2 gAdd (eC (.int 20)) (eV 3)) aNil))) aNil)))
  (sIf (tB (e2 gNotIn (eV 4) (eL 2))) (sApp 2 (eV 4)) sNil))
def b_l_names : List C → Out := (sSeq (sSetL 2 (eLst aNil))
  (sSeq (sFor (iRng1F (e2 gAdd (eC (.int 1)) (e2 gModA (eV 0) (eV 1)))) (tgN 3) L_l_names_0)
  (sRetL 2)))
def f_l_names : List D → Option D := runP [.fz, .fz] 5 b_l_names
theorem fe_l_names (x0 x1 : D) : f_l_names [x0, x1] = oRun (b_l_names [.val x0, .val x1, .und, .und, .und]) := (ev_run (ks := [.fz, .fz]) (n := 5) (b := b_l_names) (ds := [x0, x1])).trans (congrArg (fun l => oRun (b_l_names l)) rfl)

abbrev s_l_term : Stmt := topS 24
abbrev N_l_term : List Str := ["_law_names_here", "_law_values", "_law_number", "_law_cell", "_law_value", "_law_at_here", "_law_name_here", "_law_other", "_law_way"]
theorem sc_l_term : FnScope N_l_term ["_law_names_here", "_law_values", "_law_number", "_law_cell"] (defScope s_l_term) := ⟨rfl, rfl, rfl, by decide +kernel, rfl, by decide +kernel, by decide +kernel⟩
def b_l_term : List C → Out := (sSeq (sSet 4 (e2 gModA (e2 gDivA (eV 2) (eC (.int 64))) (eC (.int 4))))
  (sSeq (sIf (tB (e2 gEq (e2 gModA (e2 gDivA (eV 2) (eC (.int 8))) (eC (.int 4))) (eC (.int 0)))) (sSet 4 (e2 gModA (eV 3) (e2 gIxS (eLst (aCons (eC (.int 100)) (aCons (e2 gPow (eC (.int 10)) (eC (.int 9))) aNil))) (e2 gDivA (e2 gModA (e2 gDivA (eV 2) (eC (.int 256))) (eC (.int 4))) (eC (.int 3)))))) sNil)
  (sSeq (sSet 5 (e2 gModA (e2 gDivA (eV 2) (eC (.int 512))) (e1 gLen (aCons (eV 0) aNil))))
  (sSeq (sPar 6 7 (aCons (e2 gIxS (eV 0) (eV 5)) (aCons (e2 gIxS (eV 1) (eV 5)) aNil)))
  (sSeq (sSet 8 (e2 gModA (eV 2) (eC (.int 8))))
  (sSeq (sIf (tB (e2 gEq (eV 8) (eC (.int 0)))) (sRet (eTup (aCons (e1 gStr (aCons (eV 4) aNil)) (aCons (eV 4) aNil)))) sNil)
  (sSeq (sIf (tB (e2 gLt (eV 8) (eC (.int 3)))) (sRet (eTup (aCons (eV 6) (aCons (eV 7) aNil)))) sNil)
  (sSeq (sIf (tB (e2 gEq (eV 8) (eC (.int 3)))) (sRet (eTup (aCons (e2 gAdd (e2 gAdd (e1 gStr (aCons (eV 4) aNil)) (eC (.str " * "))) (eV 6)) (aCons (e2 gMul (eV 4) (eV 7)) aNil)))) sNil)
  (sSeq (sIf (tB (e2 gEq (eV 8) (eC (.int 4)))) (sRet (eTup (aCons (e2 gAdd (e2 gAdd (eV 6) (eC (.str "*"))) (e1 gStr (aCons (eV 4) aNil))) (aCons (e2 gMul (eV 4) (eV 7)) aNil)))) sNil)
  (sSeq (sIf (tB (e2 gEq (eV 8) (eC (.int 5)))) (sRet (eTup (aCons (e2 gAdd (e2 gAdd (e2 gAdd (e2 gAdd (e2 gAdd (e2 gAdd (e2 gAdd (eC (.str "(")) (eV 6)) (eC (.str " - "))) (eV 6)) (eC (.str "+"))) (e1 gStr (aCons (eV 4) aNil))) (eC (.str ")*"))) (eV 6)) (aCons (e2 gMul (eV 4) (eV 7)) aNil)))) sNil)
  (sSeq (sIf (tB (e2 gEq (eV 8) (eC (.int 6)))) (sRet (eTup (aCons (e2 gAdd (e2 gAdd (e2 gAdd (e2 gAdd (eC (.str "( ")) (eV 6)) (eC (.str "+"))) (e1 gStr (aCons (eV 4) aNil))) (eC (.str " )"))) (aCons (e2 gAdd (eV 7) (eV 4)) aNil)))) sNil)
  (sRet (eTup (aCons (e2 gAdd (e2 gAdd (e2 gAdd (e2 gAdd (e2 gAdd (eC (.str "(")) (eV 6)) (eC (.str "+"))) (e1 gStr (aCons (eV 4) aNil))) (eC (.str ")* 2 *"))) (e1 gStr (aCons (eV 4) aNil))) (aCons (e2 gMul (e2 gMul (e2 gAdd (eV 7) (eV 4)) (eC (.int 2))) (eV 4)) aNil)))))))))))))))
def f_l_term : List D → Option D := runP [.fz, .fz, .fz, .fz] 9 b_l_term
theorem fe_l_term (x0 x1 x2 x3 : D) : f_l_term [x0, x1, x2, x3] = oRun (b_l_term [.val x0, .val x1, .val x2, .val x3, .und, .und, .und, .und, .und]) := (ev_run (ks := [.fz, .fz, .fz, .fz]) (n := 9) (b := b_l_term) (ds := [x0, x1, x2, x3])).trans (congrArg (fun l => oRun (b_l_term l)) rfl)

abbrev s_l_grown : Stmt := topS 25
abbrev N_l_grown : List Str := ["_law_tree", "_law_names_here", "_law_values", "_law_number", "_law_cell", "_law_written", "_law_value", "_law_depth", "_law_more", "_law_extra", "_law_way", "_law_many", "_law_inner"]
theorem sc_l_grown : FnScope N_l_grown ["_law_tree", "_law_names_here", "_law_values", "_law_number", "_law_cell"] (defScope s_l_grown) := ⟨rfl, rfl, rfl, by decide +kernel, rfl, by decide +kernel, by decide +kernel⟩
def b_l_grown : List C → Out := (sSeq (sAsg (tgT (tgCons (tgN 5) (tgCons (tgN 6) (tgCons (tgN 7) tgNil)))) (eV 0))
  (sSeq (sAsg (tgT (tgCons (tgN 8) (tgCons (tgN 9) tgNil))) (e1 f_l_term (aCons (eV 1) (aCons (eV 2) (aCons (e2 gDivA (eV 3) (eC (.int 16))) (aCons (eV 4) aNil))))))
  (sSeq (sSet 10 (e2 gModA (eV 3) (eC (.int 16))))
  (sSeq (sSet 11 (e2 gModA (e2 gDivA (eV 3) (eC (.int 16))) (eC (.int 4))))
  (sSeq (sIf (tOrF (tB (e2 gLt (eV 10) (eC (.int 6)))) (tB (e2 gGt (eV 7) (eC (.int 8))))) (sRet (eTup (aCons (e2 gAdd (e2 gAdd (eV 5) (e2 gIxS (eLst (aCons (eC (.str " + ")) (aCons (eC (.str "+")) aNil))) (e2 gModA (eV 10) (eC (.int 2))))) (eV 8)) (aCons (e2 gAdd (eV 6) (eV 9)) (aCons (eV 7) aNil))))) sNil)
  (sSeq (sIf (tB (e2 gLt (eV 10) (eC (.int 9)))) (sRet (eTup (aCons (e2 gAdd (e2 gAdd (eV 5) (e2 gIxS (eLst (aCons (eC (.str " - ")) (aCons (eC (.str "-")) aNil))) (e2 gModA (eV 10) (eC (.int 2))))) (eV 8)) (aCons (e2 gSub (eV 6) (eV 9)) (aCons (eV 7) aNil))))) sNil)
  (sSeq (sSet 12 (e2 gAdd (e2 gAdd (eC (.str "(")) (eV 5)) (eC (.str ")"))))
  (sSeq (sIf (tB (e2 gEq (eV 10) (eC (.int 9)))) (sRet (eTup (aCons (e2 gAdd (e2 gAdd (eV 12) (eC (.str "*"))) (e1 gStr (aCons (eV 11) aNil))) (aCons (e2 gMul (eV 6) (eV 11)) (aCons (e2 gAdd (eV 7) (eC (.int 1))) aNil))))) sNil)
  (sSeq (sIf (tB (e2 gEq (eV 10) (eC (.int 10)))) (sRet (eTup (aCons (e2 gAdd (e2 gAdd (e1 gStr (aCons (eV 11) aNil)) (eC (.str " *"))) (eV 12)) (aCons (e2 gMul (eV 6) (eV 11)) (aCons (e2 gAdd (eV 7) (eC (.int 1))) aNil))))) sNil)
  (sSeq (sIf (tB (e2 gEq (eV 10) (eC (.int 11)))) (sRet (eTup (aCons (e2 gAdd (eC (.str "-")) (eV 12)) (aCons (e2 gSub (eC (.int 0)) (eV 6)) (aCons (e2 gAdd (eV 7) (eC (.int 1))) aNil))))) sNil)
  (sSeq (sIf (tB (e2 gEq (eV 10) (eC (.int 12)))) (sRet (eTup (aCons (e2 gAdd (e2 gAdd (e2 gAdd (eC (.str " - ")) (eV 8)) (eC (.str " + "))) (eV 12)) (aCons (e2 gSub (eV 6) (eV 9)) (aCons (e2 gAdd (eV 7) (eC (.int 1))) aNil))))) sNil)
  (sSeq (sIf (tB (e2 gEq (eV 10) (eC (.int 13)))) (sRet (eTup (aCons (e2 gAdd (e2 gAdd (eV 8) (eC (.str "-"))) (eV 12)) (aCons (e2 gSub (eV 9) (eV 6)) (aCons (e2 gAdd (eV 7) (eC (.int 1))) aNil))))) sNil)
  (sSeq (sIf (tB (e2 gEq (eV 10) (eC (.int 14)))) (sRet (eTup (aCons (e2 gAdd (e2 gAdd (eC (.str " ")) (eV 12)) (eC (.str " "))) (aCons (eV 6) (aCons (e2 gAdd (eV 7) (eC (.int 1))) aNil))))) sNil)
  (sRet (eTup (aCons (e2 gAdd (e2 gAdd (eV 8) (eC (.str " +"))) (eV 12)) (aCons (e2 gAdd (eV 6) (eV 9)) (aCons (e2 gAdd (eV 7) (eC (.int 1))) aNil))))))))))))))))))
def f_l_grown : List D → Option D := runP [.fz, .fz, .fz, .fz, .fz] 13 b_l_grown
theorem fe_l_grown (x0 x1 x2 x3 x4 : D) : f_l_grown [x0, x1, x2, x3, x4] = oRun (b_l_grown [.val x0, .val x1, .val x2, .val x3, .val x4, .und, .und, .und, .und, .und, .und, .und, .und]) := (ev_run (ks := [.fz, .fz, .fz, .fz, .fz]) (n := 13) (b := b_l_grown) (ds := [x0, x1, x2, x3, x4])).trans (congrArg (fun l => oRun (b_l_grown l)) rfl)

abbrev s_law : Stmt := topS 26
abbrev N_law : List Str := ["_law_script", "_law_number", "_law_names_here", "_law_values", "_law_k", "_law_first", "_law_tree", "_law_cell", "_law_form", "_law_found", "_law_again", "_law_ones", "_law_j"]
theorem sc_law : FnScope N_law ["_law_script"] (defScope s_law) := ⟨rfl, rfl, rfl, by decide +kernel, rfl, by decide +kernel, by decide +kernel⟩
def L_law_0 : List C → Out := (sSeq (sSet 11 (e1 gTuple (aCons (eLc [12] (iRng1F (e1 gLen (aCons (eV 2) aNil))) (tgN 12) (fun _ => some true) (e1 gInt (aCons (e2 gEq (eV 12) (eV 4)) aNil))) aNil)))
  (sIf (tB (e2 gNe (e1 f_value_of (aCons (eV 8) (aCons (eV 11) aNil))) (e2 gAdd (e2 gIxS (eV 8) (eC (.int 1))) (e2 gIxS (e2 gIxS (eV 8) (eC (.int 0))) (eV 4))))) (sRet (eC (.bool false))) sNil))
def L_law_1 : List C → Out := (sFz 3 (sSet 6 (e1 f_l_grown (aCons (eV 6) (aCons (eV 2) (aCons (eV 3) (aCons (e1 f_l_mix (aCons (eV 7) (aCons (eC (.int 4)) aNil))) (aCons (eV 7) aNil))))))))
def L_law_2 : List C → Out := (sApp 3 (e2 gAdd (e2 gSub (e2 gModA (e1 f_l_at (aCons (eB 0) (aCons (e2 gAdd (eC (.int 1)) (eV 4)) aNil))) (e2 gSub (e2 gMul (eC (.int 2)) (e2 gPow (eC (.int 10)) (eC (.int 30)))) (eC (.int 1)))) (e2 gPow (eC (.int 10)) (eC (.int 30)))) (eC (.int 1))))
def b_law : List C → Out := (sSeq (sSet 1 (e1 f_l_mix (aCons (e1 f_l_at (aCons (eB 0) (aCons (eC (.int 0)) aNil))) (aCons (eC (.int 1)) aNil))))
  (sSeq (sSet 2 (e1 f_l_names (aCons (eV 1) (aCons (eC (.int 4)) aNil))))
  (sSeq (sSetL 3 (eLst aNil))
  (sSeq (sFor (iRng1F (e1 gLen (aCons (eV 2) aNil))) (tgN 4) L_law_2)
  (sSeq (sSet 5 (e1 f_l_at (aCons (eB 0) (aCons (eC (.int 1)) aNil))))
  (sFz 3 (sSeq (sSet 6 (e2 gAdd (e1 f_l_term (aCons (eV 2) (aCons (eV 3) (aCons (e1 f_l_mix (aCons (eV 5) (aCons (eC (.int 3)) aNil))) (aCons (eV 5) aNil))))) (eTup (aCons (eC (.int 1)) aNil))))
  (sSeq (sFor (iAny (e3 gSlB (eB 0) (pS (eC (.int 2))) (pS (eC (.int 38))))) (tgN 7) L_law_1)
  (sSeq (sSet 8 (e1 (gX f_read_sum) (aCons (eV 2) (aCons (e2 gIxS (eV 6) (eC (.int 0))) aNil))))
  (sSeq (sSet 9 (e1 f_value_of (aCons (eV 8) (aCons (e1 gTuple (aCons (eL 3) aNil)) aNil))))
  (sSeq (sIf (tOrF (tNotF (tB (e1 f_l_whole (aCons (eV 9) aNil)))) (tB (e2 gNe (eV 9) (e2 gIxS (eV 6) (eC (.int 1)))))) (sRet (eC (.bool false))) sNil)
  (sSeq (sSet 10 (e1 (gX f_read_sum) (aCons (eV 2) (aCons (e1 f_shown_sum (aCons (eV 2) (aCons (eV 8) aNil))) aNil))))
  (sSeq (sIf (tOrF (tB (e2 gNe (eV 10) (eV 8))) (tB (e2 gNe (e1 f_value_of (aCons (eV 10) (aCons (e1 gTuple (aCons (eL 3) aNil)) aNil))) (e2 gIxS (eV 6) (eC (.int 1)))))) (sRet (eC (.bool false))) sNil)
  (sSeq (sIf (tB (e2 gNe (e1 f_value_of (aCons (eV 8) (aCons (e2 gMulTA (eTup (aCons (eC (.int 0)) aNil)) (e1 gLen (aCons (eV 2) aNil))) aNil))) (e2 gIxS (eV 8) (eC (.int 1))))) (sRet (eC (.bool false))) sNil)
  (sSeq (sFor (iRng1F (e1 gLen (aCons (eV 2) aNil))) (tgN 4) L_law_0)
  (sRet (eC (.bool true))))))))))))))))))
def f_law : List D → Option D := runP [.vw] 13 b_law
theorem fe_law (x0 : D) : f_law [x0] = oRun (b_law [.brw x0, .und, .und, .und, .und, .und, .und, .und, .und, .und, .und, .und, .und]) := (ev_run (ks := [.vw]) (n := 13) (b := b_law) (ds := [x0])).trans (congrArg (fun l => oRun (b_law l)) rfl)
end DL
namespace DL
open PySem PySem.Spec L2 TL
theorem sl_one {s : Str} {k : Nat} {cs : List Nat} (A : AtS s k cs) (hs : s.length ≤ 1000000) : gSl (.str s) (some (k : Int)) (some ((k : Int) + 1)) = some (.str (hd cs)) := by
  refine (if_pos (by rw [sizeLine_eq]; omega)).trans ?_
  congr 2
  refine ext_tl ?_
  show ((((tl s).drop (HT.sIx s.length 0 (some (k : Int)))).take (HT.sIx s.length s.length (some ((k : Int) + 1)) - HT.sIx s.length 0 (some (k : Int)))).toArray).toList = tl (hd cs)
  rw [show ((k : Int) + 1) = ((k + 1 : Nat) : Int) by omega, HT.sIx_nat, HT.sIx_nat]
  have l := A.l
  rw [show min k s.length = k by omega, A.e]
  cases cs with
  | nil =>
    rw [List.length_nil] at l
    rw [show min (k + 1) s.length - k = 0 by omega]; rfl
  | cons c r =>
    rw [List.length_cons] at l
    rw [show min (k + 1) s.length - k = 1 by omega]; rfl
theorem sl_to {s : Str} {k : Nat} {a b : List Nat} (A : AtS s k (a ++ b)) (hs : s.length ≤ 1000000) : gSl (.str s) (some (k : Int)) (some ((k + a.length : Nat) : Int)) = some (.str (st a)) := by
  refine (if_pos (by rw [sizeLine_eq]; omega)).trans ?_
  congr 2
  refine ext_tl ?_
  show ((((tl s).drop (HT.sIx s.length 0 (some (k : Int)))).take (HT.sIx s.length s.length (some ((k + a.length : Nat) : Int)) - HT.sIx s.length 0 (some (k : Int)))).toArray).toList = a
  rw [HT.sIx_nat, HT.sIx_nat]
  have l := A.l
  rw [List.length_append] at l
  rw [show min k s.length = k by omega, A.e, show min (k + a.length) s.length - k = a.length by omega, List.take_left]
theorem none_s : ("" : Str) = hd [] := by kernel_rfl
theorem blank_s : (" " : Str) = ⟨#[32]⟩ := by kernel_rfl
theorem hd_ne {c : Nat} {r : List Nat} : ¬ hd (c :: r) = ("" : Str) := fun z => by
  have := congrArg tl z
  rw [show tl ("" : Str) = [] by kernel_rfl] at this
  exact absurd this (by show [c] ≠ []; simp)
theorem hd_nil : hd [] = ("" : Str) := none_s.symm
theorem hd_eq {c d : Nat} {r : List Nat} {x : Str} (h : x = ⟨#[d]⟩) : decide (hd (c :: r) = x) = decide (c = d) := by
  subst h
  exact decide_eq_decide.mpr one_eq
theorem nil_eq {d : Nat} {x : Str} (h : x = ⟨#[d]⟩) : decide (hd [] = x) = false := by
  subst h
  rw [decide_eq_false]
  intro z
  have := congrArg tl z
  exact absurd this (by show ([] : List Nat) ≠ [d]; simp)
theorem ix_at {s : Str} {k c : Nat} {r : List Nat} (A : AtS s k (c :: r)) (hs : s.length ≤ 1000000) : gIxS (.str s) (.int k) = some (.str ⟨#[c]⟩) := by
  refine (if_pos (by rw [sizeLine_eq]; omega)).trans ?_
  have l := A.l
  rw [List.length_cons] at l
  have g : s.cps.toList[k]? = some c := by
    have := congrArg (fun x => x[0]?) A.e
    simpa [tl] using this
  have e : atI s.cps.toList (k : Int) = some c := by
    unfold atI
    rw [ixN_pos (by omega) (by have := len_tl s; unfold tl at this; omega)]
    simpa using g
  rw [e]; rfl
section
variable {s : Str} {k : Nat} {cs : List Nat} {ns : NL}
theorem ahead_loop (hs : s.length ≤ 900000) : ∀ (cs : List Nat) (k m : Nat), AtS s k cs → cs.length < m → whileF L_Reader_ahead_0 L_Reader_ahead_1 m [.own (some 0) (rdr s k ns)] = .nx [.own (some 0) (rdr s (s.length - (sk cs).length) ns)]
  | [], k, m, A, hm => by
    obtain ⟨m, rfl⟩ : ∃ m', m = m' + 1 := ⟨m - 1, by omega⟩
    have e := sl_one A (by omega)
    have q := nil_eq blank_s
    have ek := A.k_eq
    rw [whileF_f, sk_nil, ← ek]
    unfold L_Reader_ahead_0 rdr
    simp only [EVY, EV0, EV1, EV2, EV3, EV4, EV5, decide_true, decide_false, List.nil_append, List.cons_append, fr_text, fr_at, e, q]
  | c :: r, k, m, A, hm => by
    obtain ⟨m, rfl⟩ : ∃ m', m = m' + 1 := ⟨m - 1, by omega⟩
    have e := sl_one A (by omega)
    have q := hd_eq (c := c) (r := r) blank_s
    by_cases h : c = 32
    · subst h
      have := ahead_loop hs r (k + 1) m A.one (by rw [List.length_cons] at hm; omega)
      rw [sk_blank, ← this]
      refine whileF_nx ?_ ?_
      · unfold L_Reader_ahead_0 rdr
        simp only [EVY, EV0, EV1, EV2, EV3, EV4, EV5, decide_true, decide_false, List.nil_append, List.cons_append, fr_text, fr_at, e, q]
      · unfold L_Reader_ahead_1
        exact at_step
    · have ek := A.k_eq
      rw [whileF_f, sk_cons h, ← ek]
      unfold L_Reader_ahead_0 rdr
      simp only [EVY, EV0, EV1, EV2, EV3, EV4, EV5, decide_true, decide_false, List.nil_append, List.cons_append, fr_text, fr_at, e, q, h]
theorem ahead_ok (hs : s.length ≤ 900000) (A : AtS s k cs) : f_Reader_ahead [rdr s k ns] = some ([rdr s (s.length - (sk cs).length) ns], .d (.str (hd (sk cs)))) := by
  have lp := ahead_loop (ns := ns) hs cs k bigN A (by rw [bigN_eq]; have := A.l; omega)
  have e := sl_one (A.suf (sk_suf cs)) (by omega)
  unfold rdr at lp ⊢
  rw [fe_Reader_ahead]
  unfold b_Reader_ahead
  simp only [EVY, EV0, EV1, EV2, EV3, EV4, EV5, decide_true, decide_false, List.nil_append, List.cons_append, lp, fr_text, fr_at, e]
  rfl
end
theorem len_s {s : Str} (hs : s.length ≤ 1000000) : gLen [.str s] = some (.int s.length) := if_pos (by rw [sizeLine_eq]; omega)
section
variable {s : Str} {k : Nat} {cs : List Nat} {ns : NL}
theorem run_loop (hs : s.length ≤ 900000) {Z : Str} {p : Nat → Bool} (hz : ∀ c, decide (c ∈ Z.cps.toList) = p c) (n k0 : Nat) : ∀ (cs : List Nat) (k j m : Nat), AtS s k cs → k = k0 + j → j ≤ n → cs.length < m →
    whileF L_Reader_run_of_0 L_Reader_run_of_1 m [.own (some 0) (rdr s k ns), .val (.str Z), .val (.int n), .val (.int k0)] = .nx [.own (some 0) (rdr s (k + (run p (n - j) cs).length) ns), .val (.str Z), .val (.int n), .val (.int k0)]
  | [], k, j, m, A, hk, hj, hm => by
    have ls := len_s (s := s) (by omega)
    obtain ⟨m, rfl⟩ : ∃ m', m = m' + 1 := ⟨m - 1, by omega⟩
    have l := A.l
    rw [List.length_nil] at l
    have q : ¬ ((k : Nat) : Int) < ((s.length : Nat) : Int) := by omega
    rw [run_nil, List.length_nil, whileF_f]
    · rfl
    · unfold L_Reader_run_of_0 rdr
      simp only [EVY, EV0, EV1, EV2, EV3, EV4, EV5, decide_true, decide_false, List.nil_append, List.cons_append, fr_text, fr_at, ls, q]
  | c :: r, k, j, m, A, hk, hj, hm => by
    have ls := len_s (s := s) (by omega)
    obtain ⟨m, rfl⟩ : ∃ m', m = m' + 1 := ⟨m - 1, by omega⟩
    have l := A.l
    rw [List.length_cons] at l
    have q : ((k : Nat) : Int) < ((s.length : Nat) : Int) := by omega
    have ix := ix_at A (by omega)
    by_cases hn : j = n
    · have q2 : ¬ ((k : Nat) : Int) - ((k0 : Nat) : Int) < ((n : Nat) : Int) := by omega
      rw [hn, Nat.sub_self, run_0, List.length_nil, whileF_f]
      · rfl
      · unfold L_Reader_run_of_0 rdr
        simp only [EVY, EV0, EV1, EV2, EV3, EV4, EV5, decide_true, decide_false, List.nil_append, List.cons_append, fr_text, fr_at, ls, q, q2]
    · have q2 : ((k : Nat) : Int) - ((k0 : Nat) : Int) < ((n : Nat) : Int) := by omega
      have iz := inT_one c Z
      rw [hz c] at iz
      by_cases hp : p c = true
      · have ih := run_loop hs hz n k0 r (k + 1) (j + 1) m A.one (by omega) (by omega) (by rw [List.length_cons] at hm; omega)
        rw [show n - j = (n - (j + 1)) + 1 by omega, run_yes hp, List.length_cons, show k + ((run p (n - (j + 1)) r).length + 1) = k + 1 + (run p (n - (j + 1)) r).length by omega, ← ih]
        refine whileF_nx ?_ ?_
        · unfold L_Reader_run_of_0 rdr
          rw [hp] at iz
          simp only [EVY, EV0, EV1, EV2, EV3, EV4, EV5, decide_true, decide_false, List.nil_append, List.cons_append, fr_text, fr_at, ls, q, q2, ix, iz]
        · unfold L_Reader_run_of_1
          exact at_step
      · rw [run_no hp, List.length_nil, whileF_f]
        · rfl
        · unfold L_Reader_run_of_0 rdr
          rw [Bool.not_eq_true] at hp
          rw [hp] at iz
          simp only [EVY, EV0, EV1, EV2, EV3, EV4, EV5, decide_true, decide_false, List.nil_append, List.cons_append, fr_text, fr_at, ls, q, q2, ix, iz]
theorem run_ok (hs : s.length ≤ 900000) {Z : Str} {p : Nat → Bool} (hz : ∀ c, decide (c ∈ Z.cps.toList) = p c) (n : Nat) (A : AtS s k cs) : f_Reader_run_of [rdr s k ns, .d (.str Z), .d (.int n)] = some ([rdr s (k + (run p n cs).length) ns], .d (.str (st (run p n cs)))) := by
  have lp := run_loop (ns := ns) hs hz n k cs k 0 bigN A (by omega) (by omega) (by rw [bigN_eq]; have := A.l; omega)
  rw [Nat.sub_zero] at lp
  obtain ⟨r, e⟩ := run_pre p n cs
  have sl := sl_to (a := run p n cs) (b := r) (e ▸ A) (by omega)
  unfold rdr at lp ⊢
  rw [fe_Reader_run_of]
  unfold b_Reader_run_of
  simp only [EVY, EV0, EV1, EV2, EV3, EV4, EV5, decide_true, decide_false, List.nil_append, List.cons_append, lp, fr_text, fr_at, sl]
  rfl
end
theorem fig_s : ∀ c, decide (c ∈ ("0123456789" : Str).cps.toList) = isFig c := fun c => by
  unfold isFig
  rw [fig_cs]
  exact decide_eq_decide.mpr (by rw [List.mem_range'_1]; omega)
theorem let_cs : ("abcdefghijklmnopqrstuvwxyz" : Str).cps.toList = List.range' 97 26 := by kernel_rfl
theorem let_s : ∀ c, decide (c ∈ ("abcdefghijklmnopqrstuvwxyz" : Str).cps.toList) = isLet c := fun c => by
  unfold isLet
  rw [let_cs]
  exact decide_eq_decide.mpr (by rw [List.mem_range'_1]; omega)
def RzIs (s : Str) (ns0 : NL) : Oc → Rz → Prop
  | .ok t cs ns, z => AtS s (s.length - cs.length) cs ∧ (ns0 ++ ns).length ≤ s.length - cs.length ∧ z = .ok [rdr s (s.length - cs.length) (ns0 ++ ns)] (.d t.dd)
  | .bad cs, z => ∃ k ns', z = .ex [rdr s k ns'] ⟨"NoText", ["place"], [.int ((s.length - cs.length : Nat) : Int)]⟩
structure Rd (s : Str) (f : List T → Option Rz) (w : List Nat → Option Oc) : Prop where
  ok : ∀ cs k ns0 o, AtS s k cs → ns0.length ≤ k → w cs = some o → ∃ z, f [rdr s k ns0] = some z ∧ RzIs s ns0 o z
theorem ahead_x {s : Str} {k : Nat} {cs : List Nat} {ns : NL} {m : Option Nat} {r : List C} (hs : s.length ≤ 900000) (A : AtS s k cs) : xMeth "Reader" "ahead" f_Reader_ahead (pNm 0) nsNil (.own m (rdr s k ns) :: r) = some (.own m (rdr s (s.length - (sk cs).length) ns) :: r, .d (.str (hd (sk cs)))) :=
  meth_at (us := []) (ds := []) (i := 0) (p := []) rfl rfl fr_ahead rfl rfl (ahead_ok hs A)
theorem run_x {s : Str} {k n : Nat} {cs : List Nat} {ns : NL} {m : Option Nat} {r : List C} {Z : Str} {p : Nat → Bool} {rs : List C → Option (List T)} (hs : s.length ≤ 900000) (A : AtS s k cs) (hz : ∀ c, decide (c ∈ Z.cps.toList) = p c) (h : rs (.own m (rdr s k ns) :: r) = some [.d (.str Z), .d (.int n)]) : xMeth "Reader" "run_of" f_Reader_run_of (pNm 0) rs (.own m (rdr s k ns) :: r) = some (.own m (rdr s (k + (run p n cs).length) ns) :: r, .d (.str (st (run p n cs)))) :=
  meth_at (us := [.d (.str Z), .d (.int n)]) (ds := [.str Z, .int n]) (i := 0) (p := []) rfl rfl fr_run h rfl (run_ok hs hz n A)
theorem run_all {p : Nat → Bool} : ∀ {n : Nat} {cs : List Nat}, ∀ c ∈ run p n cs, p c = true
  | 0, cs, c, h => by rw [run_0] at h; cases h
  | n + 1, [], c, h => by rw [run_nil] at h; cases h
  | n + 1, d :: r, c, h => by
    by_cases hd : p d = true
    · rw [run_yes hd] at h
      rcases List.mem_cons.mp h with e | h
      · rw [e]; exact hd
      · exact run_all c h
    · rw [run_no hd] at h; cases h
theorem int_run {n : Nat} {cs : List Nat} (h : run isFig n cs ≠ []) (hl : (run isFig n cs).length ≤ 640) : gIntT [.str (st (run isFig n cs))] = some (.int (figV (run isFig n cs))) := by
  have l : (st (run isFig n cs)).length = (run isFig n cs).length := by rw [len_tl]; rfl
  have a : NumText.AllDigits (st (run isFig n cs)).cps.toList := fun c hc => by
    have := run_all c (show c ∈ run isFig n cs from hc)
    unfold isFig at this
    exact of_decide_eq_true this
  have i := intText_digits (x := st (run isFig n cs)) a h (by omega)
  refine (if_pos (by omega)).trans ?_
  rw [i]; rfl
theorem oneS {c d : Nat} {x : Str} (h : x = ⟨#[d]⟩) : decide ((⟨#[c]⟩ : Str) = x) = decide (c = d) := by
  subst h
  exact decide_eq_decide.mpr one_eq
theorem one_ne {c : Nat} : decide ((⟨#[c]⟩ : Str) = "") = false := decide_eq_false (hd_ne (r := []))
theorem nil_s : decide ((⟨#[]⟩ : Str) = "") = true := decide_eq_true hd_nil
theorem open_s : ("(" : Str) = ⟨#[40]⟩ := by kernel_rfl
theorem close_s : (")" : Str) = ⟨#[41]⟩ := by kernel_rfl
theorem star_s : ("*" : Str) = ⟨#[42]⟩ := by kernel_rfl
theorem plus_s : ("+" : Str) = ⟨#[43]⟩ := by kernel_rfl
theorem raise_at {s : Str} {k : Nat} {ns : NL} {m : Option Nat} {r : List C} : sRaise (mkE1 "NoText" "place" (rLeaf (rF "Reader" "at" (rN 0)))) (.own m (rdr s k ns) :: r) = .xc (.own m (rdr s k ns) :: r) ⟨"NoText", ["place"], [.int k]⟩ := by
  unfold rdr
  simp only [EVY, EV0, EV1, EV2, EV3, EV4, EV5, decide_true, decide_false, List.nil_append, List.cons_append, fr_at]
theorem factor_ok {s : Str} {fw : List T → Option Rz} {w : List Nat → Option Oc} (hs : s.length ≤ 900000) (hw : Rd s fw w) : Rd s (f_Reader_factor_s fw) (facS s.length w) := ⟨fun cs k ns0 o A nk ho => by
  have ah := fun (r : List C) => ahead_x (ns := ns0) (m := some 0) (r := r) hs A
  have A1 := A.suf (sk_suf cs)
  have k1 : k ≤ s.length - (sk cs).length := by have := A.k_eq; have := (sk_suf cs).length_le; omega
  have fe : f_Reader_factor_s fw [rdr s k ns0] = outMX [true] ((b_Reader_factor fw) [.own (some 0) (rdr s k ns0), .und, .und, .und, .und]) := fe_Reader_factor RFl _
  rw [fe]
  unfold b_Reader_factor
  unfold facS at ho
  cases z : sk cs with
  | nil =>
    rw [z] at ho ah A1 k1
    cases ho
    have e0 : hd ([] : List Nat) = ⟨#[]⟩ := rfl
    have q1 := nil_eq nought_s
    have q2 := nil_eq open_s
    rw [e0] at q1 q2
    simp only [EVY, EV0, EV1, EV2, EV3, EV4, EV5, decide_true, decide_false, List.nil_append, List.cons_append, ah, e0, q1, nil_s, q2, raise_at]
    exact ⟨_, rfl, _, _, rfl⟩
  | cons c r =>
    rw [z] at ho ah A1 k1
    have e0 : hd (c :: r) = ⟨#[c]⟩ := rfl
    have q0 := oneS (c := c) nought_s
    have i1 := inT_one c "0123456789"
    rw [fig_s] at i1
    have i2 := inT_one c "abcdefghijklmnopqrstuvwxyz"
    rw [let_s] at i2
    have q4 := oneS (c := c) open_s
    dsimp only at ho
    split at ho
    · rename_i hc
      cases ho
      subst hc
      have A2 := A1.one
      have ek := A2.k_eq
      simp only [EVY, EV0, EV1, EV2, EV3, EV4, EV5, decide_true, decide_false, List.nil_append, List.cons_append, ah, e0, q0, at_step]
      refine ⟨_, rfl, A2.suf (List.suffix_refl _), ?_, ?_⟩
      · rw [List.append_nil, ← ek]; omega
      · rw [List.append_nil, ← ek]; rfl
    · rename_i hc
      have d0 := decide_eq_false hc
      split at ho
      · rename_i hf
        split at ho
        · rename_i hl
          cases ho
          have ne : run isFig s.length (c :: r) ≠ [] := by
            have l := A1.l
            rw [List.length_cons] at l
            obtain ⟨m, hm⟩ : ∃ m, s.length = m + 1 := ⟨s.length - 1, by omega⟩
            rw [hm, run_yes hf]
            simp
          have iv := int_run ne hl
          have rx := fun (x : List C) (h : _) => run_x (ns := ns0) (m := some 0) (r := x) (n := s.length) (rs := nsCons (nD (eC (.str "0123456789"))) (nsCons (nD (e1 gLen (aCons (rLeaf (rF "Reader" "text" (rN 0))) aNil))) nsNil)) hs A1 fig_s h
          have ls := len_s (s := s) (by omega)
          have rs : ∀ (k : Nat) (x : List C), nsCons (nD (eC (.str "0123456789"))) (nsCons (nD (e1 gLen (aCons (rLeaf (rF "Reader" "text" (rN 0))) aNil))) nsNil) (.own (some 0) (rdr s k ns0) :: x) = some [.d (.str "0123456789"), .d (.int s.length)] := fun k x => by
            unfold rdr
            simp only [EVY, EV0, EV1, EV2, EV3, EV4, EV5, decide_true, decide_false, List.nil_append, List.cons_append, fr_text, ls]
          have x1 := x1T_s (g := gIntT) (e := .own (some 0) (rdr s (s.length - (c :: r).length + (run isFig s.length (c :: r)).length) ns0) :: [.val (.str ⟨#[c]⟩), .und, .und, .und]) iv
          have rx1 := rx [.val (.str ⟨#[c]⟩), .und, .und, .und] (rs _ _)
          have A2 : AtS s (s.length - (c :: r).length + (run isFig s.length (c :: r)).length) ((c :: r).drop (run isFig s.length (c :: r)).length) := A1.run
          have ek := A2.k_eq
          simp only [EVY, EV0, EV1, EV2, EV3, EV4, EV5, decide_true, decide_false, List.nil_append, List.cons_append, ah, e0, q0, d0, one_ne, i1, hf, rx1, x1]
          refine ⟨_, rfl, A2.suf (List.suffix_refl _), ?_, ?_⟩
          · rw [List.append_nil, ← ek]; omega
          · rw [List.append_nil, ← ek]; rfl
        · cases ho
      · rename_i hf
        rw [Bool.not_eq_true] at hf
        split at ho
        · rename_i hlt
          cases ho
          have rs : ∀ (k : Nat) (x : List C), nsCons (nD (eC (.str "abcdefghijklmnopqrstuvwxyz"))) (nsCons (nD (eC (.int 10))) nsNil) (.own (some 0) (rdr s k ns0) :: x) = some [.d (.str "abcdefghijklmnopqrstuvwxyz"), .d (.int ((10 : Nat) : Int))] := fun k x => rfl
          have rx := run_x (ns := ns0) (m := some 0) (r := [.val (.str ⟨#[c]⟩), .val (.int ((s.length - (c :: r).length : Nat) : Int)), .und, .und]) (n := 10) hs A1 let_s (rs _ _)
          have A2 : AtS s (s.length - (c :: r).length + (run isLet 10 (c :: r)).length) ((c :: r).drop (run isLet 10 (c :: r)).length) := A1.run
          have ek := A2.k_eq
          have ap := fun (x : List C) => names_app (m := some 0) (s := s) (k := s.length - (c :: r).length + (run isLet 10 (c :: r)).length) (ns := ns0) (r := .val (.str ⟨#[c]⟩) :: .val (.int ((s.length - (c :: r).length : Nat) : Int)) :: .val (.str (st (run isLet 10 (c :: r)))) :: x) (fn := nD (eTup (aCons (eV 3) (aCons (eV 2) aNil)))) (p := (st (run isLet 10 (c :: r)), s.length - (c :: r).length)) rfl (by omega)
          have ne : 1 ≤ (run isLet 10 (c :: r)).length := by rw [run_yes hlt, List.length_cons]; omega
          simp only [EVY, EV0, EV1, EV2, EV3, EV4, EV5, decide_true, decide_false, List.nil_append, List.cons_append, ah, e0, q0, d0, one_ne, i1, hf, i2, hlt, orf_at, rx, ap]
          refine ⟨_, rfl, A2.suf (List.suffix_refl _), ?_, ?_⟩
          · rw [← ek, List.length_append]; show _ + 1 ≤ _; omega
          · rw [← ek]; rfl
        · rename_i hlt
          rw [Bool.not_eq_true] at hlt
          split at ho
          · rename_i h40
            subst h40
            have A2 := A1.one
            have y1 := hw.ok r (s.length - (40 :: r).length + 1) ns0
            cases z1 : w r with
            | none => rw [z1] at ho; cases ho
            | some o1 =>
              rw [z1] at ho
              obtain ⟨z, f1, r1⟩ := y1 o1 A2 (by omega) z1
              cases o1 with
              | bad cs1 =>
                cases ho
                obtain ⟨k', ns', rfl⟩ := r1
                have yx := fun (x : List C) => yM_ex (m := some 0) (r := x) fr_whole f1
                simp only [EVY, EV0, EV1, EV2, EV3, EV4, EV5, decide_true, decide_false, List.nil_append, List.cons_append, ah, e0, q0, d0, one_ne, i1, hf, i2, hlt, q4, at_step, yx]
                exact ⟨_, rfl, _, _, rfl⟩
              | ok t r2 ns2 =>
                obtain ⟨A3, nl, rfl⟩ := r1
                have yx := fun (x : List C) => yM_ok (m := some 0) (r := x) fr_whole f1
                have ah2 := fun (x : List C) => ahead_x (ns := ns0 ++ ns2) (m := some 0) (r := x) hs A3
                have A4 := A3.suf (sk_suf r2)
                dsimp only at ho
                cases z3 : sk r2 with
                | nil =>
                  rw [z3] at ho ah2 A4
                  cases ho
                  have e1 : hd ([] : List Nat) = ⟨#[]⟩ := rfl
                  have q5 := nil_eq close_s
                  rw [e1] at q5
                  simp only [EVY, EV0, EV1, EV2, EV3, EV4, EV5, decide_true, decide_false, List.nil_append, List.cons_append, ah, e0, q0, d0, one_ne, i1, hf, i2, hlt, q4, at_step, yx, ah2, e1, q5, raise_at]
                  exact ⟨_, rfl, _, _, rfl⟩
                | cons d r3 =>
                  rw [z3] at ho ah2 A4
                  have e1 : hd (d :: r3) = ⟨#[d]⟩ := rfl
                  have q5 := oneS (c := d) close_s
                  dsimp only at ho
                  split at ho
                  · rename_i h41
                    cases ho
                    subst h41
                    have A5 := A4.one
                    have ek := A5.k_eq
                    simp only [EVY, EV0, EV1, EV2, EV3, EV4, EV5, decide_true, decide_false, List.nil_append, List.cons_append, ah, e0, q0, d0, one_ne, i1, hf, i2, hlt, q4, at_step, yx, ah2, e1, q5]
                    refine ⟨_, rfl, A5.suf (List.suffix_refl _), ?_, ?_⟩
                    · have := (sk_suf r2).length_le
                      rw [z3] at this
                      have := A3.k_eq
                      omega
                    · rw [← ek]
                  · rename_i h41
                    cases ho
                    have d5 := decide_eq_false h41
                    simp only [EVY, EV0, EV1, EV2, EV3, EV4, EV5, decide_true, decide_false, List.nil_append, List.cons_append, ah, e0, q0, d0, one_ne, i1, hf, i2, hlt, q4, at_step, yx, ah2, e1, q5, d5, raise_at]
                    exact ⟨_, rfl, _, _, rfl⟩
          · rename_i h40
            cases ho
            have d4 := decide_eq_false h40
            simp only [EVY, EV0, EV1, EV2, EV3, EV4, EV5, decide_true, decide_false, List.nil_append, List.cons_append, ah, e0, q0, d0, one_ne, i1, hf, i2, hlt, q4, d4, raise_at]
            exact ⟨_, rfl, _, _, rfl⟩⟩
theorem term_loop {s : Str} {ff : List T → Option Rz} {f : List Nat → Option Oc} (hs : s.length ≤ 900000) (hf : Rd s ff f) : ∀ (n : Nat) (t : STr) (cs : List Nat) (k : Nat) (ns ns2 : NL) (o : Oc) (x : C), AtS s k cs → (ns ++ ns2).length ≤ k → terL s.length f n t ns2 cs = some o →
    (∃ t' cs' ns' x', o = .ok t' cs' ns' ∧ AtS s (s.length - cs'.length) cs' ∧ (ns ++ ns').length ≤ s.length - cs'.length ∧ whileX (L_Reader_term_0 ff) (L_Reader_term_1 ff) n [.own (some 0) (rdr s k (ns ++ ns2)), .val t.dd, x] = .nx [.own (some 0) (rdr s (s.length - cs'.length) (ns ++ ns')), .val t'.dd, x']) ∨
    (∃ cs' k' ns' r, o = .bad cs' ∧ whileX (L_Reader_term_0 ff) (L_Reader_term_1 ff) n [.own (some 0) (rdr s k (ns ++ ns2)), .val t.dd, x] = .xc (.own (some 0) (rdr s k' ns') :: r) ⟨"NoText", ["place"], [.int ((s.length - cs'.length : Nat) : Int)]⟩)
  | 0, t, cs, k, ns, ns2, o, x, A, nk, ho => by cases ho
  | n + 1, t, cs, k, ns, ns2, o, x, A, nk, ho => by
    have ah := ahead_x (ns := ns ++ ns2) (m := some 0) (r := [.val t.dd, x]) hs A
    have A1 := A.suf (sk_suf cs)
    have k1 : k ≤ s.length - (sk cs).length := by have := A.k_eq; have := (sk_suf cs).length_le; omega
    unfold terL at ho
    cases z : sk cs with
    | nil =>
      rw [z] at ho ah A1 k1
      cases ho
      have e1 : hd ([] : List Nat) = ⟨#[]⟩ := rfl
      have q5 := nil_eq star_s
      rw [e1] at q5
      refine .inl ⟨t, [], ns2, x, rfl, A1, by omega, whileX_f ?_⟩
      unfold L_Reader_term_0
      simp only [EVY, EV0, EV1, EV2, EV3, EV4, EV5, decide_true, decide_false, List.nil_append, List.cons_append, ah, e1, q5]
    | cons c r =>
      rw [z] at ho ah A1 k1
      have e1 : hd (c :: r) = ⟨#[c]⟩ := rfl
      have q5 := oneS (c := c) star_s
      dsimp only at ho
      split at ho
      · rename_i h42
        subst h42
        have A2 := A1.one
        have y1 := hf.ok r (s.length - (42 :: r).length + 1) (ns ++ ns2)
        have cd : L_Reader_term_0 ff [.own (some 0) (rdr s k (ns ++ ns2)), .val t.dd, x] = some ([.own (some 0) (rdr s (s.length - (42 :: r).length) (ns ++ ns2)), .val t.dd, x], true) := by
          unfold L_Reader_term_0
          simp only [EVY, EV0, EV1, EV2, EV3, EV4, EV5, decide_true, decide_false, List.nil_append, List.cons_append, ah, e1, q5]
        cases z1 : f r with
        | none => rw [z1] at ho; cases ho
        | some o1 =>
          rw [z1] at ho
          obtain ⟨z, f1, r1⟩ := y1 o1 A2 (by omega) z1
          cases o1 with
          | bad cs1 =>
            cases ho
            obtain ⟨k', ns', rfl⟩ := r1
            have yx := fun (x : List C) => yM_ex (m := some 0) (r := x) fr_factor f1
            have bd : L_Reader_term_1 ff [.own (some 0) (rdr s (s.length - (42 :: r).length) (ns ++ ns2)), .val t.dd, x] = .xc [.own (some 0) (rdr s k' ns'), .val t.dd, .val (.int ((s.length - (42 :: r).length : Nat) : Int))] ⟨"NoText", ["place"], [.int ((s.length - cs1.length : Nat) : Int)]⟩ := by
              unfold L_Reader_term_1
              simp only [EVY, EV0, EV1, EV2, EV3, EV4, EV5, decide_true, decide_false, List.nil_append, List.cons_append, orf_at, at_step, yx]
            exact .inr ⟨cs1, k', ns', _, rfl, whileX_xc cd bd⟩
          | ok u r2 ns3 =>
            obtain ⟨A3, nl, rfl⟩ := r1
            rw [List.append_assoc] at nl f1
            have yx := fun (x : List C) => yM_ok (m := some 0) (r := x) fr_factor f1
            have ih := term_loop hs hf n (.times t u (s.length - (42 :: r).length)) r2 _ ns (ns2 ++ ns3) o (.val (.int ((s.length - (42 :: r).length : Nat) : Int))) A3 nl ho
            have bd : L_Reader_term_1 ff [.own (some 0) (rdr s (s.length - (42 :: r).length) (ns ++ ns2)), .val t.dd, x] = .nx [.own (some 0) (rdr s (s.length - r2.length) (ns ++ (ns2 ++ ns3))), .val (STr.times t u (s.length - (42 :: r).length)).dd, .val (.int ((s.length - (42 :: r).length : Nat) : Int))] := by
              unfold L_Reader_term_1
              simp only [EVY, EV0, EV1, EV2, EV3, EV4, EV5, decide_true, decide_false, List.nil_append, List.cons_append, orf_at, at_step, yx]
              rfl
            rw [whileX_nx cd bd]
            exact ih
      · rename_i h42
        cases ho
        have d5 := decide_eq_false h42
        refine .inl ⟨t, c :: r, ns2, x, rfl, A1, by omega, whileX_f ?_⟩
        unfold L_Reader_term_0
        simp only [EVY, EV0, EV1, EV2, EV3, EV4, EV5, decide_true, decide_false, List.nil_append, List.cons_append, ah, e1, q5, d5]
theorem term_ok {s : Str} {ff : List T → Option Rz} {f : List Nat → Option Oc} (hs : s.length ≤ 900000) (hf : Rd s ff f) : Rd s (f_Reader_term_s ff) (termS s.length f) := ⟨fun cs k ns0 o A nk ho => by
  have fe : f_Reader_term_s ff [rdr s k ns0] = outMX [true] ((b_Reader_term ff) [.own (some 0) (rdr s k ns0), .und, .und]) := fe_Reader_term RFl _
  rw [fe]
  unfold b_Reader_term
  unfold termS at ho
  cases z1 : f cs with
  | none => rw [z1] at ho; cases ho
  | some o1 =>
    rw [z1] at ho
    obtain ⟨z, f1, r1⟩ := hf.ok cs k ns0 o1 A nk z1
    cases o1 with
    | bad cs1 =>
      cases ho
      obtain ⟨k', ns', rfl⟩ := r1
      have yx := fun (x : List C) => yM_ex (m := some 0) (r := x) fr_factor f1
      simp only [EVY, EV0, EV1, EV2, EV3, EV4, EV5, decide_true, decide_false, List.nil_append, List.cons_append, yx]
      exact ⟨_, rfl, _, _, rfl⟩
    | ok u r2 ns3 =>
      obtain ⟨A3, nl, rfl⟩ := r1
      have yx := fun (x : List C) => yM_ok (m := some 0) (r := x) fr_factor f1
      rcases term_loop hs hf bigN u r2 _ ns0 ns3 o .und A3 nl ho with ⟨t', cs', ns', x', rfl, A4, nl4, lp⟩ | ⟨cs', k', ns', r, rfl, lp⟩
      · simp only [EVY, EV0, EV1, EV2, EV3, EV4, EV5, decide_true, decide_false, List.nil_append, List.cons_append, yx, ev_whileX, lp]
        exact ⟨_, rfl, A4, nl4, rfl⟩
      · simp only [EVY, EV0, EV1, EV2, EV3, EV4, EV5, decide_true, decide_false, List.nil_append, List.cons_append, yx, ev_whileX, lp]
        exact ⟨_, rfl, _, _, rfl⟩⟩
theorem whole_loop {s : Str} {ft : List T → Option Rz} {t : List Nat → Option Oc} (hs : s.length ≤ 900000) (hf : Rd s ft t) : ∀ (n : Nat) (l : List (Int × STr)) (cs : List Nat) (k : Nat) (ns ns2 : NL) (o : Oc) (x : C), AtS s k cs → (ns ++ ns2).length ≤ k → l.length + n ≤ 2000000 → whoL t n l ns2 cs = some o →
    (∃ l' cs' ns' x', o = .ok (.sum (STs.of l')) cs' ns' ∧ AtS s (s.length - cs'.length) cs' ∧ (ns ++ ns').length ≤ s.length - cs'.length ∧ whileF (L_Reader_whole_0 ft) (L_Reader_whole_1 ft) n [.own (some 0) (rdr s (s.length - (sk cs).length) (ns ++ ns2)), x, .own none (.n .l ((l.map pD).map T.d)), .val (.str (hd (sk cs)))] = .nx [.own (some 0) (rdr s (s.length - cs'.length) (ns ++ ns')), x', .own none (.n .l ((l'.map pD).map T.d)), .val (.str (hd cs'))]) ∨
    (∃ cs' k' ns' r, o = .bad cs' ∧ whileF (L_Reader_whole_0 ft) (L_Reader_whole_1 ft) n [.own (some 0) (rdr s (s.length - (sk cs).length) (ns ++ ns2)), x, .own none (.n .l ((l.map pD).map T.d)), .val (.str (hd (sk cs)))] = .xc (.own (some 0) (rdr s k' ns') :: r) ⟨"NoText", ["place"], [.int ((s.length - cs'.length : Nat) : Int)]⟩)
  | 0, l, cs, k, ns, ns2, o, x, A, nk, lk, ho => by cases ho
  | n + 1, l, cs, k, ns, ns2, o, x, A, nk, lk, ho => by
    have A1 := A.suf (sk_suf cs)
    have k1 : k ≤ s.length - (sk cs).length := by have := A.k_eq; have := (sk_suf cs).length_le; omega
    unfold whoL at ho
    cases z : sk cs with
    | nil =>
      rw [z] at ho A1 k1
      cases ho
      have e1 : hd ([] : List Nat) = ⟨#[]⟩ := rfl
      have q5 := nil_eq plus_s
      have q6 := nil_eq minus_s
      rw [e1] at q5 q6
      refine .inl ⟨l, [], ns2, x, rfl, A1, by omega, whileF_f ?_⟩
      unfold L_Reader_whole_0
      simp only [EVY, EV0, EV1, EV2, EV3, EV4, EV5, decide_true, decide_false, List.nil_append, List.cons_append, e1, q5, q6]
    | cons c r =>
      rw [z] at ho A1 k1
      have e1 : hd (c :: r) = ⟨#[c]⟩ := rfl
      have q5 := oneS (c := c) plus_s
      have q6 := oneS (c := c) minus_s
      dsimp only at ho
      split at ho
      · rename_i hpm
        have A2 := A1.one
        have y1 := hf.ok r (s.length - (c :: r).length + 1) (ns ++ ns2)
        have cd : ∀ (u w : C), L_Reader_whole_0 ft [.own (some 0) (rdr s (s.length - (c :: r).length) (ns ++ ns2)), u, w, .val (.str ⟨#[c]⟩)] = some true := fun u w => by
          unfold L_Reader_whole_0
          rcases hpm with h | h <;> subst h <;> simp only [EVY, EV0, EV1, EV2, EV3, EV4, EV5, decide_true, decide_false, List.nil_append, List.cons_append, q5, q6] <;> rfl
        rw [e1]
        generalize em : (if c = 45 then (-1 : Int) else 1) = m at ho
        cases z1 : t r with
        | none => rw [z1] at ho; cases ho
        | some o1 =>
          rw [z1] at ho
          obtain ⟨z, f1, r1⟩ := y1 o1 A2 (by omega) z1
          cases o1 with
          | bad cs1 =>
            cases ho
            obtain ⟨k', ns', rfl⟩ := r1
            have yx := fun (x : List C) => yM_ex (m := some 0) (r := x) fr_term f1
            have bd : L_Reader_whole_1 ft [.own (some 0) (rdr s (s.length - (c :: r).length) (ns ++ ns2)), x, .own none (.n .l ((l.map pD).map T.d)), .val (.str ⟨#[c]⟩)] = .xc [.own (some 0) (rdr s k' ns'), .val (.int m), .own none (.n .l ((l.map pD).map T.d)), .val (.str ⟨#[c]⟩)] ⟨"NoText", ["place"], [.int ((s.length - cs1.length : Nat) : Int)]⟩ := by
              unfold L_Reader_whole_1
              have ax := appX_xc (i := 2) (ts := (l.map pD).map T.d) (gy := yTup (ysCons (eV 1) (ysHere (yMeth "Reader" "term" ft (pNm 0) nsNil) aNil))) (env := [.own (some 0) (rdr s (s.length - (c :: r).length + 1) (ns ++ ns2)), .val (.int m), .own none (.n .l ((l.map pD).map T.d)), .val (.str ⟨#[c]⟩)]) rfl (by simp only [EVY, EV0, EV1, EV2, EV3, EV4, EV5, decide_true, decide_false, List.nil_append, List.cons_append, yx]; rfl)
              by_cases h45 : c = 45
              · subst h45
                rw [if_pos rfl] at em
                subst em
                simp only [EVY, EV0, EV1, EV2, EV3, EV4, EV5, decide_true, decide_false, List.nil_append, List.cons_append, at_step, q6, ax]
              · have d6 := decide_eq_false h45
                rw [if_neg h45] at em
                subst em
                simp only [EVY, EV0, EV1, EV2, EV3, EV4, EV5, decide_true, decide_false, List.nil_append, List.cons_append, at_step, q6, d6, ax]
            exact .inr ⟨cs1, k', ns', _, rfl, whileF_xc (cd _ _) bd⟩
          | ok u r2 ns3 =>
            obtain ⟨A3, nl, rfl⟩ := r1
            rw [List.append_assoc] at nl f1
            have yx := fun (x : List C) => yM_ok (m := some 0) (r := x) fr_term f1
            have ah := fun (x : List C) => ahead_x (ns := ns ++ (ns2 ++ ns3)) (m := some 0) (r := x) hs A3
            have lk2 : (l ++ [(m, u)]).length + n ≤ 2000000 := by rw [List.length_append, List.length_cons, List.length_nil]; omega
            have ih := whole_loop hs hf n (l ++ [(m, u)]) r2 _ ns (ns2 ++ ns3) o (.val (.int m)) A3 nl lk2 ho
            have bd : L_Reader_whole_1 ft [.own (some 0) (rdr s (s.length - (c :: r).length) (ns ++ ns2)), x, .own none (.n .l ((l.map pD).map T.d)), .val (.str ⟨#[c]⟩)] = .nx [.own (some 0) (rdr s (s.length - (sk r2).length) (ns ++ (ns2 ++ ns3))), .val (.int m), .own none (.n .l (((l ++ [(m, u)]).map pD).map T.d)), .val (.str (hd (sk r2)))] := by
              unfold L_Reader_whole_1
              have ax := appX_ok (i := 2) (ts := (l.map pD).map T.d) (u := .d (pD (m, u))) (gy := yTup (ysCons (eV 1) (ysHere (yMeth "Reader" "term" ft (pNm 0) nsNil) aNil))) (env := [.own (some 0) (rdr s (s.length - (c :: r).length + 1) (ns ++ ns2)), .val (.int m), .own none (.n .l ((l.map pD).map T.d)), .val (.str ⟨#[c]⟩)])
                (e := [.own (some 0) (rdr s (s.length - r2.length) (ns ++ (ns2 ++ ns3))), .val (.int m), .own none (.n .l ((l.map pD).map T.d)), .val (.str ⟨#[c]⟩)]) rfl (by simp only [EVY, EV0, EV1, EV2, EV3, EV4, EV5, decide_true, decide_false, List.nil_append, List.cons_append, yx]; rfl) rfl (by rw [List.length_map, List.length_map]; omega)
              have el : (l.map pD).map T.d ++ [T.d (pD (m, u))] = ((l ++ [(m, u)]).map pD).map T.d := by simp only [List.map_append, List.map_cons, List.map_nil]
              rw [el] at ax
              by_cases h45 : c = 45
              · subst h45
                rw [if_pos rfl] at em
                subst em
                simp only [EVY, EV0, EV1, EV2, EV3, EV4, EV5, decide_true, decide_false, List.nil_append, List.cons_append, at_step, q6, ax, ah]
              · have d6 := decide_eq_false h45
                rw [if_neg h45] at em
                subst em
                simp only [EVY, EV0, EV1, EV2, EV3, EV4, EV5, decide_true, decide_false, List.nil_append, List.cons_append, at_step, q6, d6, ax, ah]
            rw [whileF_nx (cd _ _) bd]
            exact ih
      · rename_i hpm
        cases ho
        have d5 := decide_eq_false (p := c = 43) (fun h => hpm (.inl h))
        have d6 := decide_eq_false (p := c = 45) (fun h => hpm (.inr h))
        refine .inl ⟨l, c :: r, ns2, x, rfl, A1, by omega, whileF_f ?_⟩
        unfold L_Reader_whole_0
        simp only [EVY, EV0, EV1, EV2, EV3, EV4, EV5, decide_true, decide_false, List.nil_append, List.cons_append, e1, q5, q6, d5, d6]
theorem viewTs_d : ∀ ds : List D, viewTs (ds.map T.d) = some ds
  | [] => rfl
  | d :: ds => by
    show (viewT (.d d)).bind (fun x => (viewTs (ds.map T.d)).map (x :: ·)) = _
    rw [viewTs_d ds]; rfl
theorem view_l (ds : List D) : viewT (.n .l (ds.map T.d)) = some (.list ds) := by
  show (viewTs (ds.map T.d)).map PyData.list = some (.list ds)
  rw [viewTs_d]; rfl
theorem whole_ok {s : Str} {ft : List T → Option Rz} {t : List Nat → Option Oc} (hs : s.length ≤ 900000) (ht : Rd s ft t) : Rd s (f_Reader_whole_s ft) (wholeS t) := ⟨fun cs k ns0 o A nk ho => by
  have fe : f_Reader_whole_s ft [rdr s k ns0] = outMX [true] ((b_Reader_whole ft) [.own (some 0) (rdr s k ns0), .und, .und, .und]) := fe_Reader_whole RFl _
  rw [fe]
  unfold b_Reader_whole
  have ah := fun (r : List C) => ahead_x (ns := ns0) (m := some 0) (r := r) hs A
  have A1 := A.suf (sk_suf cs)
  have k1 : k ≤ s.length - (sk cs).length := by have := A.k_eq; have := (sk_suf cs).length_le; omega
  have key : ∀ (m : Int) (r : List Nat) (k2 : Nat), AtS s k2 r → k ≤ k2 → (match t r with | some (.ok u r ns) => whoL t bigN [(m, u)] ns r | o => o) = some o →
      ∃ z, outMX [true] (oSeq (.nx [.own (some 0) (rdr s k2 ns0), .val (.int m), .und, .und]) (sSeq (sSetY 2 (yLst (ysHere (yTup (ysCons (eV 1) (ysHere (yMeth "Reader" "term" ft (pNm 0) nsNil) aNil))) aNil)))
  (sSeq (sSetX 3 (xMeth "Reader" "ahead" f_Reader_ahead (pNm 0) nsNil))
  (sSeq (sWhile (fun _ => bigN) (L_Reader_whole_0 ft) (L_Reader_whole_1 ft))
  (sFzT 2 (sRetX (xN (nD (eTup (aCons (eC (.str "sum")) (aCons (eV 2) aNil)))))))))))  = some z ∧ RzIs s ns0 o z := fun m r k2 A2 hk ho => by
    cases z1 : t r with
    | none => rw [z1] at ho; cases ho
    | some o1 =>
      rw [z1] at ho
      obtain ⟨z, f1, r1⟩ := ht.ok r k2 ns0 o1 A2 (by omega) z1
      cases o1 with
      | bad cs1 =>
        cases ho
        obtain ⟨k', ns', rfl⟩ := r1
        have yx := fun (x : List C) => yM_ex (m := some 0) (r := x) fr_term f1
        simp only [EVY, EV0, EV1, EV2, EV3, EV4, EV5, decide_true, decide_false, List.nil_append, List.cons_append, yx]
        exact ⟨_, rfl, _, _, rfl⟩
      | ok u r2 ns3 =>
        obtain ⟨A3, nl, rfl⟩ := r1
        have yx := fun (x : List C) => yM_ok (m := some 0) (r := x) fr_term f1
        have ah := fun (x : List C) => ahead_x (ns := ns0 ++ ns3) (m := some 0) (r := x) hs A3
        have el : [PyData.tuple [.int m, u.dd]] = ([(m, u)] : List (Int × STr)).map pD := rfl
        rcases whole_loop hs ht bigN [(m, u)] r2 _ ns0 ns3 o (.val (.int m)) A3 nl (by rw [bigN_eq, List.length_cons, List.length_nil]; omega) ho with ⟨l', cs', ns', x', rfl, A4, nl4, lp⟩ | ⟨cs', k', ns', r, rfl, lp⟩
        · have fz := fzT_at (i := 2) (g := sRetX (xN (nD (eTup (aCons (eC (.str "sum")) (aCons (eV 2) aNil)))))) (env := [.own (some 0) (rdr s (s.length - cs'.length) (ns0 ++ ns')), x', .own none (.n .l ((l'.map pD).map T.d)), .val (.str (hd cs'))]) rfl (view_l _)
          simp only [EVY, EV0, EV1, EV2, EV3, EV4, EV5, decide_true, decide_false, List.nil_append, List.cons_append, yx, ah]
          rw [el]
          simp only [EVY, EV0, EV1, EV2, EV3, EV4, EV5, decide_true, decide_false, List.nil_append, List.cons_append, ev_while, lp, fz]
          refine ⟨_, rfl, A4, nl4, ?_⟩
          show _ = Rz.ok _ (.d (.tuple [.str "sum", .list (STs.of l').ds]))
          rw [STs.of_ds]
        · simp only [EVY, EV0, EV1, EV2, EV3, EV4, EV5, decide_true, decide_false, List.nil_append, List.cons_append, yx, ah]
          rw [el]
          simp only [EVY, EV0, EV1, EV2, EV3, EV4, EV5, decide_true, decide_false, List.nil_append, List.cons_append, ev_while, lp]
          exact ⟨_, rfl, _, _, rfl⟩
  unfold wholeS minus? at ho
  cases z : sk cs with
  | nil =>
    rw [z] at ho ah A1 k1
    have e1 : hd ([] : List Nat) = ⟨#[]⟩ := rfl
    have q6 := nil_eq minus_s
    rw [e1] at q6
    simp only [EVY, EV0, EV1, EV2, EV3, EV4, EV5, decide_true, decide_false, List.nil_append, List.cons_append, ah, e1, q6]
    exact key 1 [] _ A1 k1 ho
  | cons c r =>
    rw [z] at ho ah A1 k1
    have e1 : hd (c :: r) = ⟨#[c]⟩ := rfl
    have q6 := oneS (c := c) minus_s
    dsimp only at ho
    by_cases h45 : c = 45
    · rw [if_pos h45] at ho
      have A2 := A1.one
      subst h45
      simp only [EVY, EV0, EV1, EV2, EV3, EV4, EV5, decide_true, decide_false, List.nil_append, List.cons_append, ah, e1, q6, at_step]
      exact key (-1) r _ A2 (by omega) ho
    · rw [if_neg h45] at ho
      have d6 := decide_eq_false h45
      simp only [EVY, EV0, EV1, EV2, EV3, EV4, EV5, decide_true, decide_false, List.nil_append, List.cons_append, ah, e1, q6, d6]
      exact key 1 (c :: r) _ A1 k1 ho⟩
theorem reads_ok {s : Str} (hs : s.length ≤ 900000) : ∀ n, Rd s (r_Reader_whole n) (pW s.length n)
  | 0 => ⟨fun _ _ _ _ _ _ h => by cases h⟩
  | n + 1 => whole_ok hs (term_ok hs (factor_ok hs (reads_ok hs n)))
theorem at0 {x : D} {l : List D} : atI (x :: l) 0 = some x := by
  unfold atI; rw [ixN_pos (by decide) (by rw [List.length_cons]; omega)]; rfl
theorem at1 {x y : D} {l : List D} : atI (x :: y :: l) 1 = some y := by
  unfold atI; rw [ixN_pos (by decide) (by rw [List.length_cons, List.length_cons]; omega)]; rfl
theorem at2 {x y z : D} {l : List D} : atI (x :: y :: z :: l) 2 = some z := by
  unfold atI; rw [ixN_pos (by decide) (by rw [List.length_cons, List.length_cons, List.length_cons]; omega)]; rfl
theorem at3 {x y z w : D} {l : List D} : atI (x :: y :: z :: w :: l) 3 = some w := by
  unfold atI; rw [ixN_pos (by decide) (by rw [List.length_cons, List.length_cons, List.length_cons, List.length_cons]; omega)]; rfl
theorem scaled_ok {k n : Nat} {f : Fm} {m : Int} (h : BtF k n f) (hk : k ≤ 390000) (hm : Bt 390000 m) : f_scaled [fmD f, .int m] = some (fmD (scF f m)) := by
  have m2 := hm.sz.md
  have lc : lcF (tgN 2) (fun _ => some true) (e2 gMul (eV 1) (eV 2)) [.val (fmD f), .val (.int m), .und] (f.1.map .int) = some ((f.1.map (m * ·)).map .int) := by
    rw [List.map_map]
    refine lcF_map PyData.int (fun n => .int (m * n)) f.1 fun x hx => ⟨_, rfl, rfl, ?_⟩
    have e := ev_mul m2 ((h.2.1 x hx).sz.md (by omega))
    simp only [EVY, EV0, EV1, EV2, EV3, EV4, EV5, decide_true, decide_false, List.nil_append, List.cons_append, e]
  have e := ev_mul m2 (h.2.2.sz.md (by omega))
  unfold fmD at lc ⊢
  rw [fe_scaled]
  unfold b_scaled
  simp only [EVY, EV0, EV1, EV2, EV3, EV4, EV5, decide_true, decide_false, List.nil_append, List.cons_append, at0, at1, wipeE, lc, e]
  rfl
theorem added_ok {f g : Fm} : f_added [fmD f, fmD g] = some (fmD (adF f g)) := by
  have lc : lcF (tgT (tgCons (tgN 2) (tgCons (tgN 3) tgNil))) (fun _ => some true) (e2 gAdd (eV 2) (eV 3)) [.val (fmD f), .val (fmD g), .und, .und] (zipD (f.1.map .int) (g.1.map .int)) = some (((f.1.zip g.1).map fun p => p.1 + p.2).map .int) := by
    rw [zip_map, List.map_map]
    refine lcF_map (fun p : Int × Int => PyData.tuple [.int p.1, .int p.2]) (fun p => .int (p.1 + p.2)) _ fun x hx => ⟨_, rfl, rfl, ?_⟩
    simp only [EVY, EV0, EV1, EV2, EV3, EV4, EV5, decide_true, decide_false, List.nil_append, List.cons_append]
  unfold fmD at lc ⊢
  rw [fe_added]
  unfold b_added
  simp only [EVY, EV0, EV1, EV2, EV3, EV4, EV5, decide_true, decide_false, List.nil_append, List.cons_append, at0, at1, wipeE, lc]
  rfl
theorem isnum_ok {f : Fm} : f_is_number [fmD f] = some (.bool (isN f)) := by
  have lc : lcF (tgN 1) (tB (e2 gNe (eV 1) (eC (.int 0)))) (eV 1) [.val (fmD f), .und] (f.1.map .int) = some ((f.1.filter (· != 0)).map .int) := by
    refine lcF_filt PyData.int (· != 0) (fun n => .int n) f.1 fun x hx => ⟨_, rfl, ?_, fun _ => rfl⟩
    simp only [EVY, EV0, EV1, EV2, EV3, EV4, EV5, decide_true, decide_false, List.nil_append, List.cons_append]
    by_cases h : x = 0 <;> simp [h]
  have e := ev_eq_nil (ns := f.1.filter (· != 0))
  unfold fmD at lc ⊢
  rw [fe_is_number]
  unfold b_is_number
  simp only [EVY, EV0, EV1, EV2, EV3, EV4, EV5, decide_true, decide_false, List.nil_append, List.cons_append, at0, wipeE, lc, e]
  rfl
theorem mult_ok {k j n : Nat} {f g : Fm} {p : Nat} (hf : BtF k n f) (hg : BtF j n g) (hk : k + j ≤ 390000) : f_multiplied [.d (fmD f), .d (fmD g), .d (.int p)] = some (if isN f = true then .ok [] (.d (fmD (scF g f.2))) else if isN g = true then .ok [] (.d (fmD (scF f g.2))) else .ex [] ⟨"NotPlain", ["place"], [.int p]⟩) := by
  have s1 := scaled_ok hg (by omega) (hf.2.2.mono (b := 390000) (by omega))
  have s2 := scaled_ok hf (by omega) (hg.2.2.mono (b := 390000) (by omega))
  have n1 := isnum_ok (f := f)
  have n2 := isnum_ok (f := g)
  have ea : ∀ h : Fm, gIxS (fmD h) (.int 1) = some (.int h.2) := fun h => ev_ixT.trans at1
  rw [fe_multiplied]
  unfold b_multiplied
  by_cases h1 : isN f = true
  · rw [h1] at n1
    simp only [EVY, EV0, EV1, EV2, EV3, EV4, EV5, decide_true, decide_false, List.nil_append, List.cons_append, n1, ea, s1, h1]
    rfl
  · rw [Bool.not_eq_true] at h1
    rw [h1] at n1
    by_cases h2 : isN g = true
    · rw [h2] at n2
      simp only [EVY, EV0, EV1, EV2, EV3, EV4, EV5, decide_true, decide_false, List.nil_append, List.cons_append, n1, n2, ea, s2, h1, h2]
      rfl
    · rw [Bool.not_eq_true] at h2
      rw [h2] at n2
      simp only [EVY, EV0, EV1, EV2, EV3, EV4, EV5, decide_true, decide_false, List.nil_append, List.cons_append, n1, n2, h1, h2]
      rfl
def npX (p : Nat) : XD := ⟨"NotPlain", ["place"], [.int p]⟩
def FzOf (names : List Str) (t : STr) : Rz := match frm names t with
  | .ok f => .ok [] (.d (fmD f))
  | .error p => .ex [] (npX p)
def nmD (names : List Str) : D := .list (names.map .str)
theorem q_nm : decide (("name" : Str) = "number") = false := by decide +kernel
theorem q_tn : decide (("times" : Str) = "number") = false := by decide +kernel
theorem q_tm : decide (("times" : Str) = "name") = false := by decide +kernel
theorem q_sn : decide (("sum" : Str) = "number") = false := by decide +kernel
theorem q_sm : decide (("sum" : Str) = "name") = false := by decide +kernel
theorem q_st : decide (("sum" : Str) = "times") = false := by decide +kernel
theorem cf_ok {g : List T → Option Rz} {env : List C} {us : List T} {y : T} (h : g us = some (.ok [] y)) : oCallP (some ([], us)) g [] env = some (.ok env y) := callP_ok (ips := []) rfl h
theorem cf_ex {g : List T → Option Rz} {env : List C} {us : List T} {x : XD} (h : g us = some (.ex [] x)) : oCallP (some ([], us)) g [] env = some (.xc env x) := callP_ex (ips := []) rfl h
section
variable {names : List Str}
theorem name_row {s : Str} (c2 c3 c4 c5 : C) : lcF (tgN 6) (fun _ => some true) (e1 gInt (aCons (e2 gEq (eV 6) (e2 gIxS (eV 1) (eC (.int 1)))) aNil)) [.val (nmD names), .val (.tuple [.str "name", .str s]), c2, c3, c4, c5, .und] (names.map .str) = some ((names.map fun x => if x = s then (1 : Int) else 0).map .int) := by
  rw [List.map_map]
  refine lcF_map PyData.str (fun x => .int (if x = s then (1 : Int) else 0)) names fun x hx => ⟨_, rfl, rfl, ?_⟩
  simp only [EVY, EV0, EV1, EV2, EV3, EV4, EV5, decide_true, decide_false, List.nil_append, List.cons_append, at1]
  by_cases h : x = s
  · rw [decide_eq_true h, if_pos h]; rfl
  · rw [decide_eq_false h, if_neg h]; rfl
end
mutual
theorem form_ok {names : List Str} (hn : names.length ≤ 1000) : ∀ (t : STr) (n : Nat), t.dep ≤ n → t.bt ≤ 390000 → r_form_of n [.d (nmD names), .d t.dd] = some (FzOf names t)
  | .num k, n, hd, hb => by
    obtain ⟨n, rfl⟩ : ∃ m, n = m + 1 := ⟨n - 1, by have : 1 ≤ n := hd; omega⟩
    rw [fr_form_of, fe_form_of]
    unfold b_form_of STr.dd nmD
    have e := mulTA_zeros hn
    have el : gLen [.list (names.map .str)] = some (.int names.length) := by show some (PyData.int ((names.map PyData.str).length : Nat)) = _; rw [List.length_map]
    simp only [EVY, EV0, EV1, EV2, EV3, EV4, EV5, decide_true, decide_false, List.nil_append, List.cons_append, at0, at1, el, e]
    show some (Rz.ok [] (.d (.tuple [.tuple _, .int k]))) = some (Rz.ok [] (.d (.tuple [.tuple ((List.replicate names.length (0 : Int)).map .int), .int k])))
    rw [List.map_replicate]
  | .nm s, n, hd, hb => by
    obtain ⟨n, rfl⟩ : ∃ m, n = m + 1 := ⟨n - 1, by have : 1 ≤ n := hd; omega⟩
    rw [fr_form_of, fe_form_of]
    unfold b_form_of STr.dd
    have lc := name_row (names := names) (s := s) .und .und .und .und
    unfold nmD at lc ⊢
    simp only [EVY, EV0, EV1, EV2, EV3, EV4, EV5, decide_true, decide_false, List.nil_append, List.cons_append, at0, q_nm, wipeE, lc]
    rfl
  | .times a b p, n, hd, hb => by
    obtain ⟨n, rfl⟩ : ∃ m, n = m + 1 := ⟨n - 1, by have : max a.dep b.dep + 1 ≤ n := hd; omega⟩
    have d1 : a.dep ≤ n := by have : max a.dep b.dep + 1 ≤ n + 1 := hd; omega
    have d2 : b.dep ≤ n := by have : max a.dep b.dep + 1 ≤ n + 1 := hd; omega
    have hb' : a.bt + b.bt ≤ 390000 := hb
    have ia := form_ok hn a n d1 (by omega)
    have ib := form_ok hn b n d2 (by omega)
    rw [fr_form_of, fe_form_of]
    unfold b_form_of STr.dd
    unfold FzOf at ia ib ⊢
    unfold frm
    cases ha : frm names a with
    | error q =>
      rw [ha] at ia
      have c1 := fun env => cf_ex (env := env) ia
      simp only [EVY, EV0, EV1, EV2, EV3, EV4, EV5, decide_true, decide_false, List.nil_append, List.cons_append, at0, at1, q_tn, q_tm, c1]
      rfl
    | ok x =>
      rw [ha] at ia
      have c1 := fun env => cf_ok (env := env) ia
      cases hbb : frm names b with
      | error q =>
        rw [hbb] at ib
        have c2 := fun env => cf_ex (env := env) ib
        have cy := fun env h => callYY_xc (g := f_multiplied) (gz := ysCons (eV 2) (ysHere (yCallP (r_form_of n) [] (mpRo (eV 0) (mpRo (e2 gIxS (eV 1) (eC (.int 2))) mpNil))) (aCons (e2 gIxS (eV 1) (eC (.int 3))) aNil))) (env := env) (e := env) (xd := npX q) h
        simp only [EVY, EV0, EV1, EV2, EV3, EV4, EV5, decide_true, decide_false, List.nil_append, List.cons_append, at0, at1, q_tn, q_tm, c1]
        rw [cy _ (by simp only [EVY, EV0, EV1, EV2, EV3, EV4, EV5, decide_true, decide_false, List.nil_append, List.cons_append, at2, c2])]
        rfl
      | ok y =>
        rw [hbb] at ib
        have c2 := fun env => cf_ok (env := env) ib
        have mu := mult_ok (p := p) (frm_bt names a x ha) (frm_bt names b y hbb) hb'
        have cy := fun env us u h h2 => callYY_ok (g := f_multiplied) (gz := ysCons (eV 2) (ysHere (yCallP (r_form_of n) [] (mpRo (eV 0) (mpRo (e2 gIxS (eV 1) (eC (.int 2))) mpNil))) (aCons (e2 gIxS (eV 1) (eC (.int 3))) aNil))) (env := env) (e := env) (ds := [fmD x, fmD y, .int p]) (us := us) (u := u) h h2
        have cx := fun env us xd h h2 => callYY_ex (g := f_multiplied) (gz := ysCons (eV 2) (ysHere (yCallP (r_form_of n) [] (mpRo (eV 0) (mpRo (e2 gIxS (eV 1) (eC (.int 2))) mpNil))) (aCons (e2 gIxS (eV 1) (eC (.int 3))) aNil))) (env := env) (e := env) (ds := [fmD x, fmD y, .int p]) (us := us) (xd := xd) h h2
        simp only [EVY, EV0, EV1, EV2, EV3, EV4, EV5, decide_true, decide_false, List.nil_append, List.cons_append, at0, at1, q_tn, q_tm, c1]
        by_cases h1 : isN x = true
        · rw [if_pos h1] at mu
          rw [if_pos h1, cy _ _ _ (by simp only [EVY, EV0, EV1, EV2, EV3, EV4, EV5, decide_true, decide_false, List.nil_append, List.cons_append, at2, at3, c2]) mu]
          rfl
        · rw [if_neg h1] at mu
          rw [if_neg h1]
          by_cases h2 : isN y = true
          · rw [if_pos h2] at mu
            rw [if_pos h2, cy _ _ _ (by simp only [EVY, EV0, EV1, EV2, EV3, EV4, EV5, decide_true, decide_false, List.nil_append, List.cons_append, at2, at3, c2]) mu]
            rfl
          · rw [if_neg h2] at mu
            rw [if_neg h2, cx _ _ _ (by simp only [EVY, EV0, EV1, EV2, EV3, EV4, EV5, decide_true, decide_false, List.nil_append, List.cons_append, at2, at3, c2]) mu]
            rfl
  | .sum l, n, hd, hb => by
    obtain ⟨n, rfl⟩ : ∃ m, n = m + 1 := ⟨n - 1, by have : l.dep + 1 ≤ n := hd; omega⟩
    have hd' : l.dep + 1 ≤ n + 1 := hd
    have lp := form_loop hn l n (zeF names.length) 0 (by omega) .zero (by have : l.bt ≤ 390000 := hb; omega)
    rw [fr_form_of, fe_form_of]
    unfold b_form_of STr.dd
    unfold FzOf frm
    have e := mulTA_zeros hn
    have el : gLen [nmD names] = some (.int names.length) := by show some (PyData.int ((names.map PyData.str).length : Nat)) = _; rw [List.length_map]
    have ez : PyData.tuple [.tuple (List.replicate names.length (.int 0)), .int 0] = fmD (zeF names.length) := by
      show _ = PyData.tuple [.tuple ((List.replicate names.length (0 : Int)).map .int), .int 0]
      rw [List.map_replicate]
    cases hf : frms names l (zeF names.length) with
    | ok f =>
      obtain ⟨c4', c5', lq⟩ := (lp (.tuple [.str "sum", .list l.ds]) .und .und .und .und).1 f hf
      simp only [EVY, EV0, EV1, EV2, EV3, EV4, EV5, decide_true, decide_false, List.nil_append, List.cons_append, at0, at1, q_sn, q_sm, q_st, el, e, ez, lq]
      rfl
    | error q =>
      obtain ⟨e', lq⟩ := (lp (.tuple [.str "sum", .list l.ds]) .und .und .und .und).2 q hf
      simp only [EVY, EV0, EV1, EV2, EV3, EV4, EV5, decide_true, decide_false, List.nil_append, List.cons_append, at0, at1, q_sn, q_sm, q_st, el, e, ez, lq]
      rfl
theorem form_loop {names : List Str} (hn : names.length ≤ 1000) : ∀ (l : STs) (n : Nat) (acc : Fm) (k : Nat), l.dep ≤ n → BtF k names.length acc → k + l.bt ≤ 390000 → ∀ (tr : D) (c2 c4 c5 c6 : C),
    (∀ f, frms names l acc = .ok f → ∃ c4' c5', forF (tgT (tgCons (tgN 4) (tgCons (tgN 5) tgNil))) (L_form_of_0 (r_form_of n)) l.ds [.val (nmD names), .val tr, c2, .val (fmD acc), c4, c5, c6] = .nx [.val (nmD names), .val tr, c2, .val (fmD f), c4', c5', c6]) ∧
    (∀ p, frms names l acc = .error p → ∃ e, forF (tgT (tgCons (tgN 4) (tgCons (tgN 5) tgNil))) (L_form_of_0 (r_form_of n)) l.ds [.val (nmD names), .val tr, c2, .val (fmD acc), c4, c5, c6] = .xc e (npX p))
  | .nil, n, acc, k, hd, ha, hb, tr, c2, c4, c5, c6 => by
    refine ⟨fun f h => ?_, fun p h => ?_⟩
    · unfold frms at h
      cases h
      exact ⟨c4, c5, rfl⟩
    · unfold frms at h
      cases h
  | .cons m t l, n, acc, k, hd, ha, hb, tr, c2, c4, c5, c6 => by
    have hd' : max t.dep l.dep ≤ n := hd
    have hb' : k + (t.bt + l.bt + m.natAbs) ≤ 390000 := hb
    have it := form_ok hn t n (by omega) (by omega)
    unfold FzOf at it
    have bd : ∀ (x : Fm), r_form_of n [.d (nmD names), .d t.dd] = some (.ok [] (.d (fmD x))) → BtF t.bt names.length x → L_form_of_0 (r_form_of n) [.val (nmD names), .val tr, c2, .val (fmD acc), .val (.int m), .val t.dd, c6] = .nx [.val (nmD names), .val tr, c2, .val (fmD (adF acc (scF x m))), .val (.int m), .val t.dd, c6] := fun x hx bx => by
      have c1 := fun env => cf_ok (env := env) hx
      have s1 := scaled_ok (m := m) bx (by omega) (by unfold Bt; have := Nat.lt_two_pow_self (n := m.natAbs); have := Nat.pow_le_pow_right (show 0 < 2 by decide) (show m.natAbs ≤ 390000 by omega); omega)
      have a1 := added_ok (f := acc) (g := scF x m)
      have cs := callDY_ok (g := f_scaled) (gz := ysHere (yCallP (r_form_of n) [] (mpRo (eV 0) (mpRo (eV 5) mpNil))) (aCons (eV 4) aNil)) (env := [.val (nmD names), .val tr, c2, .val (fmD acc), .val (.int m), .val t.dd, c6]) (e := [.val (nmD names), .val tr, c2, .val (fmD acc), .val (.int m), .val t.dd, c6]) (ds := [fmD x, .int m]) (by simp only [EVY, EV0, EV1, EV2, EV3, EV4, EV5, decide_true, decide_false, List.nil_append, List.cons_append, c1]) s1
      have ca := callDY_ok (g := f_added) (gz := ysCons (eV 3) (ysHere (yCallD f_scaled (ysHere (yCallP (r_form_of n) [] (mpRo (eV 0) (mpRo (eV 5) mpNil))) (aCons (eV 4) aNil))) aNil)) (env := [.val (nmD names), .val tr, c2, .val (fmD acc), .val (.int m), .val t.dd, c6]) (e := [.val (nmD names), .val tr, c2, .val (fmD acc), .val (.int m), .val t.dd, c6]) (ds := [fmD acc, fmD (scF x m)]) (by simp only [EVY, EV0, EV1, EV2, EV3, EV4, EV5, decide_true, decide_false, List.nil_append, List.cons_append, cs]) a1
      unfold L_form_of_0
      simp only [EVY, EV0, EV1, EV2, EV3, EV4, EV5, decide_true, decide_false, List.nil_append, List.cons_append, ca]
    have bx : ∀ q, r_form_of n [.d (nmD names), .d t.dd] = some (.ex [] (npX q)) → L_form_of_0 (r_form_of n) [.val (nmD names), .val tr, c2, .val (fmD acc), .val (.int m), .val t.dd, c6] = .xc [.val (nmD names), .val tr, c2, .val (fmD acc), .val (.int m), .val t.dd, c6] (npX q) := fun q hx => by
      have c1 := fun env => cf_ex (env := env) hx
      have cs := callDY_xc (g := f_scaled) (gz := ysHere (yCallP (r_form_of n) [] (mpRo (eV 0) (mpRo (eV 5) mpNil))) (aCons (eV 4) aNil)) (env := [.val (nmD names), .val tr, c2, .val (fmD acc), .val (.int m), .val t.dd, c6]) (e := [.val (nmD names), .val tr, c2, .val (fmD acc), .val (.int m), .val t.dd, c6]) (xd := npX q) (by simp only [EVY, EV0, EV1, EV2, EV3, EV4, EV5, decide_true, decide_false, List.nil_append, List.cons_append, c1])
      have ca := callDY_xc (g := f_added) (gz := ysCons (eV 3) (ysHere (yCallD f_scaled (ysHere (yCallP (r_form_of n) [] (mpRo (eV 0) (mpRo (eV 5) mpNil))) (aCons (eV 4) aNil))) aNil)) (env := [.val (nmD names), .val tr, c2, .val (fmD acc), .val (.int m), .val t.dd, c6]) (e := [.val (nmD names), .val tr, c2, .val (fmD acc), .val (.int m), .val t.dd, c6]) (xd := npX q) (by simp only [EVY, EV0, EV1, EV2, EV3, EV4, EV5, decide_true, decide_false, List.nil_append, List.cons_append, cs])
      unfold L_form_of_0
      simp only [EVY, EV0, EV1, EV2, EV3, EV4, EV5, decide_true, decide_false, List.nil_append, List.cons_append, ca]
    have st : ∀ e, (tgT (tgCons (tgN 4) (tgCons (tgN 5) tgNil))) (.tuple [.int m, t.dd]) [.val (nmD names), .val tr, c2, .val (fmD acc), c4, c5, c6] = some e ↔ e = [.val (nmD names), .val tr, c2, .val (fmD acc), .val (.int m), .val t.dd, c6] := fun e => ⟨fun h => by cases h; rfl, fun h => by subst h; rfl⟩
    refine ⟨fun f h => ?_, fun p h => ?_⟩
    · unfold frms at h
      cases ht : frm names t with
      | error q => rw [ht] at h; cases h
      | ok x =>
        rw [ht] at h it; dsimp only at h it
        have b2 := frm_bt names t x ht
        have ih := (form_loop hn l n _ _ (by omega) (ha.ad (b2.sc (b := m.natAbs) (by unfold Bt; have := Nat.lt_two_pow_self (n := m.natAbs); omega))) (by omega) tr c2 (.val (.int m)) (.val t.dd) c6).1 f h
        obtain ⟨c4', c5', lq⟩ := ih
        refine ⟨c4', c5', ?_⟩
        show forF _ _ (.tuple [.int m, t.dd] :: l.ds) _ = _
        rw [forF_nx ((st _).2 rfl) (bd x it b2)]
        exact lq
    · unfold frms at h
      cases ht : frm names t with
      | error q =>
        rw [ht] at h it; dsimp only at h it
        cases h
        refine ⟨[.val (nmD names), .val tr, c2, .val (fmD acc), .val (.int m), .val t.dd, c6], ?_⟩
        show forF _ _ (.tuple [.int m, t.dd] :: l.ds) _ = _
        exact forF_xc ((st _).2 rfl) (bx _ it)
      | ok x =>
        rw [ht] at h it; dsimp only at h it
        have b2 := frm_bt names t x ht
        have ih := (form_loop hn l n _ _ (by omega) (ha.ad (b2.sc (b := m.natAbs) (by unfold Bt; have := Nat.lt_two_pow_self (n := m.natAbs); omega))) (by omega) tr c2 (.val (.int m)) (.val t.dd) c6).2 p h
        obtain ⟨e, lq⟩ := ih
        refine ⟨e, ?_⟩
        show forF _ _ (.tuple [.int m, t.dd] :: l.ds) _ = _
        rw [forF_nx ((st _).2 rfl) (bd x it b2)]
        exact lq
end
def RS.z : RS → Rz
  | .ok f => .ok [] (.d (fmD f))
  | .noText p => .ex [] (ntX p)
  | .noName x p => .ex [] (nnX x p)
  | .notPlain p => .ex [] (npX p)
theorem rd_init {s : Str} : f_Reader_init [.n (.o "Reader" []) [], .d (.str s)] = some ([rdr s 0 []], .d .none) := by
  refine (fe_Reader_init _ _ _).trans ?_
  unfold b_Reader_init
  have r1 : oFldP (some ([.own (some 0) (.n (.o "Reader" []) []), .val (.str s)], .d (.str s))) "Reader" "text" (pNm 0) = .nx [.own (some 0) (.n (.o "Reader" ["text"]) [.d (.str s)]), .val (.str s)] :=
    (fldP_at (i := 0) (p := []) (fl := []) rfl rfl (by decide)).trans (by unfold putO; rw [show fIx "text" [] = none from rfl]; rfl)
  have r2 : oFldP (some ([.own (some 0) (.n (.o "Reader" ["text"]) [.d (.str s)]), .val (.str s)], .d (.int 0))) "Reader" "at" (pNm 0) = .nx [.own (some 0) (.n (.o "Reader" ["text", "at"]) [.d (.str s), .d (.int 0)]), .val (.str s)] :=
    (fldP_at (i := 0) (p := []) (fl := ["text"]) rfl rfl (by decide)).trans (by unfold putO; rw [show fIx "at" ["text"] = none by decide +kernel]; rfl)
  have r3 : oFldP (some ([.own (some 0) (.n (.o "Reader" ["text", "at"]) [.d (.str s), .d (.int 0)]), .val (.str s)], .n .l (([] : List D).map T.d))) "Reader" "names" (pNm 0) = .nx [.own (some 0) (rdr s 0 []), .val (.str s)] :=
    (fldP_at (i := 0) (p := []) (fl := ["text", "at"]) rfl rfl (by decide)).trans (by unfold putO; rw [show fIx "names" ["text", "at"] = none by decide +kernel]; rfl)
  simp only [EVY, EV0, EV1, EV2, EV3, EV4, EV5, decide_true, decide_false, List.nil_append, List.cons_append, ev_fldP, r1, r2, r3]
  rfl
theorem flat_strs (ns : List Str) : (ns.map PyData.str).all flatD = true := by
  rw [List.all_eq_true]
  intro d hd
  obtain ⟨n, _, rfl⟩ := List.mem_map.mp hd
  rfl
theorem notIn_str {nm : Str} {l : List Str} : gNotIn (.str nm) (.list (l.map .str)) = some (.bool (!decide (nm ∈ l))) := by
  refine gOr_s ?_
  refine (show gNotInF (.str nm) (.list (l.map .str)) = if flatD (.str nm) = true ∧ (l.map PyData.str).all flatD = true then some (.bool (!inF (.str nm) (l.map .str))) else none from rfl).trans ?_
  rw [if_pos ⟨rfl, flat_strs l⟩]
  unfold inF inV
  rw [List.map_map, List.any_map]
  congr 3
  rw [Bool.eq_iff_iff, List.any_eq_true, decide_eq_true_eq]
  constructor
  · rintro ⟨y, hy, e⟩
    have : y = nm := by simpa [flV, eqV] using e
    rw [← this]; exact hy
  · intro h
    exact ⟨nm, h, by simp [flV, eqV]⟩
def rdf (s : Str) (k : Nat) (ns : NL) : T := .n (.o "Reader" RFl) [.d (.str s), .d (.int k), .n .lf ((ns.map nD2).map T.d)]
theorem names_loop {names : List Str} (tx tr : D) (rd : C) : ∀ (ns : NL) (c4 c5 : C),
    (nlook names ns = none → ∃ c4' c5', forF (tgT (tgCons (tgN 4) (tgCons (tgN 5) tgNil))) L_read_sum_0 (ns.map nD2) [.val (nmD names), .val tx, rd, .val tr, c4, c5] = .nx [.val (nmD names), .val tx, rd, .val tr, c4', c5']) ∧
    (∀ p, nlook names ns = some p → ∃ e, forF (tgT (tgCons (tgN 4) (tgCons (tgN 5) tgNil))) L_read_sum_0 (ns.map nD2) [.val (nmD names), .val tx, rd, .val tr, c4, c5] = .xc e (nnX p.1 p.2))
  | [], c4, c5 => ⟨fun _ => ⟨c4, c5, rfl⟩, fun p h => by cases h⟩
  | q :: ns, c4, c5 => by
    have ni := notIn_str (nm := q.1) (l := names)
    have ih := names_loop (names := names) tx tr rd ns (.val (.str q.1)) (.val (.int q.2))
    have st : (tgT (tgCons (tgN 4) (tgCons (tgN 5) tgNil))) (nD2 q) [.val (nmD names), .val tx, rd, .val tr, c4, c5] = some [.val (nmD names), .val tx, rd, .val tr, .val (.str q.1), .val (.int q.2)] := rfl
    unfold nlook
    by_cases h : q.1 ∈ names
    · rw [if_pos h]
      have bd : L_read_sum_0 [.val (nmD names), .val tx, rd, .val tr, .val (.str q.1), .val (.int q.2)] = .nx [.val (nmD names), .val tx, rd, .val tr, .val (.str q.1), .val (.int q.2)] := by
        unfold L_read_sum_0 nmD
        rw [decide_eq_true h] at ni
        simp only [EVY, EV0, EV1, EV2, EV3, EV4, EV5, decide_true, decide_false, List.nil_append, List.cons_append, ni]
      rw [List.map_cons, forF_nx st bd]
      exact ih
    · rw [if_neg h]
      refine ⟨(fun z => nomatch z), fun p z => ?_⟩
      cases z
      have bd : L_read_sum_0 [.val (nmD names), .val tx, rd, .val tr, .val (.str q.1), .val (.int q.2)] = .xc [.val (nmD names), .val tx, rd, .val tr, .val (.str q.1), .val (.int q.2)] (nnX q.1 q.2) := by
        unfold L_read_sum_0 nmD
        rw [decide_eq_false h] at ni
        simp only [EVY, EV0, EV1, EV2, EV3, EV4, EV5, decide_true, decide_false, List.nil_append, List.cons_append, ni]
        rfl
      exact ⟨[.val (nmD names), .val tx, rd, .val tr, .val (.str q.1), .val (.int q.2)], by rw [List.map_cons, forF_xc st bd]⟩
theorem read_ok {names : List Str} {s : Str} {o : Oc} (hs : s.length ≤ 900000) (hn : names.length ≤ 1000) (ho : pW s.length 18 (tl s) = some o) (hdp : ∀ t r ns, o = .ok t r ns → t.dep ≤ 54 ∧ t.bt ≤ 390000) : f_read_sum [.d (nmD names), .d (.str s)] = some (readR names s.length o).z := by
  obtain ⟨z, f1, r1⟩ := (reads_ok hs 18).ok (tl s) 0 [] o (AtS.zero s) (Nat.le_refl _) ho
  rw [fe_read_sum]
  unfold b_read_sum
  have s1 : sSetX 2 (xN (nMake "Reader" f_Reader_init (nsCons (nD (eV 1)) nsNil))) [.val (nmD names), .val (.str s), .und, .und, .und, .und] = .nx [.val (nmD names), .val (.str s), .own none (rdr s 0 []), .und, .und, .und] := by
    rw [ev_setX, ev_xN, nMake_at (us := [.d (.str s)]) rfl rd_init]; rfl
  rw [ev_seq, s1, ev_seq_nx, ev_seq]
  cases o with
  | bad cs =>
    obtain ⟨k, ns', rfl⟩ := r1
    have y := yMeth_ex (g2 := f_Reader_whole) (m := "whole") (gp := pNm 2) (rt := nsNil) (us := []) (ds := []) (env := [.val (nmD names), .val (.str s), .own none (rdr s 0 []), .und, .und, .und]) rfl rfl fr_whole rfl rfl f1
    rw [ev_setY, y, ev_oSetY_xc, ev_seq_xc]
    rfl
  | ok t cs ns =>
    obtain ⟨A, nl, rfl⟩ := r1
    rw [List.nil_append] at f1 nl
    obtain ⟨hdep, hbt⟩ := hdp t cs ns rfl
    have y := yMeth_ok (g2 := f_Reader_whole) (m := "whole") (gp := pNm 2) (rt := nsNil) (us := []) (ds := []) (env := [.val (nmD names), .val (.str s), .own none (rdr s 0 []), .und, .und, .und]) rfl rfl fr_whole rfl rfl f1
    have e1 : putAt [.val (nmD names), .val (.str s), .own none (rdr s 0 []), .und, .und, .und] (2, []) (rdr s (s.length - cs.length) ns) = [.val (nmD names), .val (.str s), .own none (rdr s (s.length - cs.length) ns), .und, .und, .und] := rfl
    rw [ev_setY, y, e1, ev_oSetY_ok, ev_seq_nx]
    have ah : xMeth "Reader" "ahead" f_Reader_ahead (pNm 2) nsNil [.val (nmD names), .val (.str s), .own none (rdr s (s.length - cs.length) ns), .val t.dd, .und, .und] = some ([.val (nmD names), .val (.str s), .own none (rdr s (s.length - (sk cs).length) ns), .val t.dd, .und, .und], .d (.str (hd (sk cs)))) :=
      meth_at (us := []) (ds := []) (i := 2) (p := []) rfl rfl fr_ahead rfl rfl (ahead_ok hs A)
    cases z : sk cs with
    | cons c r =>
      rw [z] at ah
      have q := decide_eq_false (hd_ne (c := c) (r := r))
      have er : readR names s.length (.ok t cs ns) = .noText (s.length - (c :: r).length) := by unfold readR; dsimp only; rw [z]
      rw [er]
      show outMX [false, false] (oSeq (sIfX _ _ _ [.val (nmD names), .val (.str s), .own none (rdr s (s.length - cs.length) ns), .val t.dd, .und, .und]) _) = _
      simp only [EVY, EV0, EV1, EV2, EV3, EV4, EV5, decide_true, decide_false, List.nil_append, List.cons_append, ah, q, orf_at]
      rfl
    | nil =>
      rw [z] at ah
      have q := decide_eq_true hd_nil
      have fz := frz_at (i := 2) (p := [2]) (g := sSeq (sFor (iAny (eRlf (rF "Reader" "names" (rN 2)))) (tgT (tgCons (tgN 4) (tgCons (tgN 5) tgNil))) L_read_sum_0) (sRetY (yCallP f_form_of [] (mpRo (eV 0) (mpRo (eV 3) mpNil))))) (env := [.val (nmD names), .val (.str s), .own none (rdr s (s.length - ([] : List Nat).length) ns), .val t.dd, .und, .und]) (t := rdr s (s.length - ([] : List Nat).length) ns) (t' := rdf s (s.length - ([] : List Nat).length) ns) rfl rfl
      have rn : oRF (some (rdf s (s.length - ([] : List Nat).length) ns)) "Reader" "names" = some (.n .lf ((ns.map nD2).map T.d)) := by
        unfold rdf
        rw [ev_oRF, fr_names]; rfl
      have rl := ev_oRlf (ds := ns.map nD2)
      have lp := names_loop (names := names) (.str s) t.dd (.own none (rdf s (s.length - ([] : List Nat).length) ns)) ns .und .und
      show outMX [false, false] (oSeq (sIfX _ _ _ [.val (nmD names), .val (.str s), .own none (rdr s (s.length - cs.length) ns), .val t.dd, .und, .und]) _) = _
      cases hl : nlook names ns with
      | some p =>
        obtain ⟨e, lq⟩ := lp.2 p hl
        have er : readR names s.length (.ok t cs ns) = .noName p.1 p.2 := by unfold readR; dsimp only; rw [z]; dsimp only; rw [hl]
        rw [er]
        simp only [EVY, EV0, EV1, EV2, EV3, EV4, EV5, decide_true, decide_false, List.nil_append, List.cons_append, ah, q, fz, rn, rl, lq]
        rfl
      | none =>
        obtain ⟨c4, c5, lq⟩ := lp.1 hl
        have ff := form_ok hn t 54 hdep hbt
        unfold FzOf at ff
        cases hf : frm names t with
        | ok f =>
          rw [hf] at ff
          have c1 := fun env => cf_ok (g := f_form_of) (env := env) ff
          have er : readR names s.length (.ok t cs ns) = .ok f := by unfold readR; dsimp only; rw [z]; dsimp only; rw [hl]; dsimp only; rw [hf]
          rw [er]
          simp only [EVY, EV0, EV1, EV2, EV3, EV4, EV5, decide_true, decide_false, List.nil_append, List.cons_append, ah, q, fz, rn, rl, lq, c1]
          rfl
        | error p =>
          rw [hf] at ff
          have c1 := fun env => cf_ex (g := f_form_of) (env := env) ff
          have er : readR names s.length (.ok t cs ns) = .notPlain p := by unfold readR; dsimp only; rw [z]; dsimp only; rw [hl]; dsimp only; rw [hf]
          rw [er]
          simp only [EVY, EV0, EV1, EV2, EV3, EV4, EV5, decide_true, decide_false, List.nil_append, List.cons_append, ah, q, fz, rn, rl, lq, c1]
          rfl
end DL
--SUMS
namespace DL
open PySem PySem.Spec L2 TL
noncomputable section
def atZ (ns : List Int) (k : Int) : Int := if k < ns.length then ns.getD k.toNat 0 else 19 * k + 8
theorem md_small {i : Int} (h0 : -(2 ^ 200) < i) (h1 : i < 2 ^ 200) : Md i := Md.of_lt h0 h1
theorem at_ok {ns : List Int} {k : Int} (h0 : 0 ≤ k) (h1 : k < 1000) : f_l_at [.list (ns.map .int), .int k] = some (.int (atZ ns k)) := by
  rw [fe_l_at]
  unfold b_l_at
  have m1 : Md 19 := md_small (by decide) (by decide)
  have m2 : Md k := md_small (by omega) (by omega)
  simp only [EVY, EV0, EV1, EV2, EV3, EV4, EV5, decide_true, decide_false, List.nil_append, List.cons_append, m1, m2, List.length_map]
  unfold atZ
  by_cases h : k < ns.length
  · have e : atI (ns.map PyData.int) k = some (.int (ns.getD k.toNat 0)) := by
      rw [ev_atm h0 h, List.getD_eq_getElem?_getD, List.getElem?_eq_getElem (by omega)]; rfl
    simp only [EVY, EV0, EV1, EV2, EV3, EV4, EV5, decide_true, decide_false, List.nil_append, List.cons_append, h, e, if_true]
  · simp only [EVY, EV0, EV1, EV2, EV3, EV4, EV5, decide_true, decide_false, List.nil_append, List.cons_append, h, if_false, m1, m2]
theorem mix_ok {n p : Int} (h0 : 0 ≤ p) (h1 : p < 1000) : ∃ m, f_l_mix [.int n, .int p] = some (.int m) ∧ 0 ≤ m ∧ m < 2147483648 := by
  rw [fe_l_mix]
  unfold b_l_mix
  have z1 : (0 : Int) < 61 := by decide
  have z2 : (0 : Int) < 2147483648 := by decide
  have z3 : (0 : Int) < 2147483629 := by decide
  have z4 : (0 : Int) < 2147483647 := by decide
  have z5 : (0 : Int) < 2147483587 := by decide
  have z6 : (0 : Int) < 2147483579 := by decide
  have z7 : (2147483648 : Int) < 2 ^ 250 := by decide
  have p1 : (0 : Int) ≤ 12 := by decide
  have p2 : (12 : Int) ≤ 1000000 := by decide
  have p3 : (10 : Int).natAbs < 2 ^ 64 := by decide
  have p4 : (10 : Int) ^ (12 : Int).toNat = 1000000000000 := by decide
  have p5 : (0 : Int) < 1000000000000 := by decide
  have p6 : (1000000000000 : Int) < 2 ^ 250 := by decide
  simp only [EVY, EV0, EV1, EV2, EV3, EV4, EV5, decide_true, decide_false, List.nil_append, List.cons_append, p1, p2, p3, p4, p5, p6]
  by_cases h : 1000000000000 ≤ n
  · have r1 : -(2 ^ 62) ≤ p % 61 := by omega
    have r2 : p % 61 ≤ 16777216 := by omega
    simp only [EVY, EV0, EV1, EV2, EV3, EV4, EV5, decide_true, decide_false, List.nil_append, List.cons_append, h, z1, p1, p2, p3, p4, p5, p6, r1, r2]
    obtain ⟨e, he, v, t, rfl⟩ := forF_rng (lo := 0) (n := (p % 61).toNat) (v := 2) (b := L_l_mix_0) (env := [.val (.int (n / 1000000000000 - 1)), .val (.int p), .und, .und])
      (fun i env => ∃ v t, env = [.val (.int v), .val (.int p), t, .und]) ⟨_, _, rfl⟩ (fun i env hi hI => by
        obtain ⟨v, t, rfl⟩ := hI
        unfold L_l_mix_0
        simp only [EVY, EV0, EV1, EV2, EV3, EV4, EV5, decide_true, decide_false, List.nil_append, List.cons_append, z2, z7]
        exact ⟨_, _, rfl⟩)
    rw [he]
    simp only [EVY, EV0, EV1, EV2, EV3, EV4, EV5, decide_true, decide_false, List.nil_append, List.cons_append, z2, Option.some.injEq, PyData.int.injEq]
    exact ⟨_, rfl, Int.emod_nonneg _ (by decide), Int.emod_lt_of_pos _ (by decide)⟩
  · have e1 := Int.emod_nonneg n (b := 2147483629) (by decide)
    have e2 := Int.emod_lt_of_pos n (b := 2147483629) (by decide)
    have m1 : Md 8 := md_small (by decide) (by decide)
    have m2 : Md p := md_small (by omega) (by omega)
    have m3 : Md (8 * p) := md_small (by omega) (by omega)
    have s1 : 8 * p * p ≤ 8000 * 1000 := by
      have a1 : 8 * p * p ≤ 8000 * p := Int.mul_le_mul_of_nonneg_right (by omega) h0
      omega
    have s0 : 0 ≤ 8 * p * p := Int.mul_nonneg (by omega) h0
    have m4 : Md (n % 2147483629 + p + 1) := md_small (by omega) (by omega)
    have m5 : Md (8 * p * p + 48271) := md_small (by omega) (by omega)
    simp only [EVY, EV0, EV1, EV2, EV3, EV4, EV5, decide_true, decide_false, List.nil_append, List.cons_append, h, m1, m2, m3, m4, m5, z3, z4]
    have g1 : ∀ x : Int, 0 ≤ x % 2147483647 ∧ x % 2147483647 < 2147483647 := fun x => ⟨Int.emod_nonneg _ (by decide), Int.emod_lt_of_pos _ (by decide)⟩
    generalize hx : (n % 2147483629 + p + 1) * (8 * p * p + 48271) % 2147483647 = x
    have b1 := g1 ((n % 2147483629 + p + 1) * (8 * p * p + 48271))
    rw [hx] at b1
    have m6 : Md x := md_small (by omega) (by omega)
    simp only [EVY, EV0, EV1, EV2, EV3, EV4, EV5, decide_true, decide_false, List.nil_append, List.cons_append, m6, z5]
    have g2 : ∀ x : Int, 0 ≤ x % 2147483587 ∧ x % 2147483587 < 2147483587 := fun x => ⟨Int.emod_nonneg _ (by decide), Int.emod_lt_of_pos _ (by decide)⟩
    generalize hy : x * x % 2147483587 = y
    have b2 := g2 (x * x)
    rw [hy] at b2
    have m7 : Md y := md_small (by omega) (by omega)
    have m8 : Md (y + 2) := md_small (by omega) (by omega)
    simp only [EVY, EV0, EV1, EV2, EV3, EV4, EV5, decide_true, decide_false, List.nil_append, List.cons_append, m7, m8, z6, Option.some.injEq, PyData.int.injEq]
    have := Int.emod_lt_of_pos (y * (y + 2)) (b := 2147483579) (by decide)
    have := Int.emod_nonneg (y * (y + 2)) (b := 2147483579) (by decide)
    exact ⟨_, rfl, by omega, by omega⟩
noncomputable def mixZ (n p : Int) : Int := if h : 0 ≤ p ∧ p < 1000 then (mix_ok (n := n) h.1 h.2).choose else 0
theorem mixZ_ok {n p : Int} (h0 : 0 ≤ p) (h1 : p < 1000) : f_l_mix [.int n, .int p] = some (.int (mixZ n p)) ∧ 0 ≤ mixZ n p ∧ mixZ n p < 2147483648 := by
  unfold mixZ
  rw [dif_pos ⟨h0, h1⟩]
  exact (mix_ok (n := n) h0 h1).choose_spec
theorem abc_tl : tl ("abcdefghijklmnopqrstuvwxyz" : Str) = List.range' 97 26 := let_cs
theorem ix_abc {i : Int} (h0 : 0 ≤ i) (h1 : i < 26) : gIxS (.str "abcdefghijklmnopqrstuvwxyz") (.int i) = some (.str ⟨#[97 + i.toNat]⟩) := by
  have ht := abc_tl
  generalize ("abcdefghijklmnopqrstuvwxyz" : Str) = z at ht
  have hl : z.length = 26 := by rw [len_tl, ht]; rfl
  have e : z.cps.toList = List.range' 97 26 := ht
  refine (if_pos (by rw [sizeLine_eq]; omega)).trans ?_
  have a : atI z.cps.toList i = some (97 + i.toNat) := by
    unfold atI
    rw [e, ixN_pos h0 (by rw [List.length_range']; omega)]
    show (List.range' 97 26)[i.toNat]? = _
    rw [List.getElem?_range' (by omega)]
    congr 1
    omega
  rw [a]; rfl
theorem isLet_abc {i : Int} (h0 : 0 ≤ i) (h1 : i < 26) : isLet (97 + i.toNat) = true := decide_eq_true (by omega)
theorem two_at {x y : D} {r : Int} (h : r = 0 ∨ r = 1) : atI [x, y] r = some (if r = 0 then x else y) := by
  rcases h with h | h <;> subst h <;> rfl
theorem name_ok {n : Int} (h0 : 0 ≤ n) : ∃ s : Str, f_l_name [.int n] = some (.str s) ∧ nmOk s := by
  rw [fe_l_name]
  unfold b_l_name
  have z10 : (0 : Int) < 10 := by decide
  have z10' : (10 : Int) < 2 ^ 250 := by decide
  have z2 : (0 : Int) < 2 := by decide
  have q1 : -(2 ^ 62) ≤ 1 + n % 10 := by omega
  have q2 : 1 + n % 10 ≤ 16777216 := by omega
  obtain ⟨e, he, hI⟩ := forF_rng (lo := 0) (n := (1 + n % 10).toNat) (v := 2) (b := L_l_name_0) (env := [.val (.int n), .val (.str ""), .und])
    (fun i env => ∃ (s : Str) (c : C), env = [.val (.int n), .val (.str s), c] ∧ (tl s).length = i ∧ ∀ c ∈ tl s, isLet c = true) ⟨"", .und, rfl, by kernel_rfl, fun c hc => by rw [show tl ("" : Str) = [] by kernel_rfl] at hc; cases hc⟩ (fun i env hi hI => by
      obtain ⟨s, c, rfl, hl, hs⟩ := hI
      obtain ⟨x, x0, x1⟩ := mixZ_ok (n := n) (p := 0 + (i : Int)) (by omega) (by omega)
      generalize mixZ n (0 + (i : Int)) = m at x x0 x1
      have tw := two_at (x := .int 26) (y := .int 2) (r := n / 10 % 2) (by omega)
      obtain ⟨k, hk, k0, k1⟩ : ∃ k : Int, (if n / 10 % 2 = 0 then PyData.int 26 else .int 2) = .int k ∧ 0 < k ∧ k ≤ 26 := by
        split
        · exact ⟨26, rfl, by decide, by decide⟩
        · exact ⟨2, rfl, by decide, by decide⟩
      rw [hk] at tw
      have r0 := Int.emod_nonneg m (b := k) (by omega)
      have r1 := Int.emod_lt_of_pos m k0
      have ia := ix_abc (i := m % k) r0 (by omega)
      have ls := len_tl s
      have ad := add_s (x := s) (y := ⟨#[97 + (m % k).toNat]⟩) (by rw [ls, hl, show (⟨#[97 + (m % k).toNat]⟩ : Str).length = 1 from rfl]; omega)
      unfold L_l_name_0
      simp only [EVY, EV0, EV1, EV2, EV3, EV4, EV5, decide_true, decide_false, List.nil_append, List.cons_append, z10, z10', z2, x, tw, k0, ia, ad]
      refine ⟨_, _, rfl, ?_, ?_⟩
      · rw [tl_append, List.length_append, hl]; rfl
      · intro c hc
        rw [tl_append] at hc
        rcases List.mem_append.mp hc with h | h
        · exact hs c h
        · have h : c ∈ [97 + (m % k).toNat] := h
          rw [List.mem_singleton.mp h]
          exact isLet_abc r0 (by omega))
  obtain ⟨s, c, rfl, hl, hs⟩ := hI
  simp only [EVY, EV0, EV1, EV2, EV3, EV4, EV5, decide_true, decide_false, List.nil_append, List.cons_append, z10, q1, q2, he]
  exact ⟨s, rfl, fun z => by rw [z] at hl; simp at hl; omega, by rw [hl]; omega, hs⟩
theorem names_ok {n most : Int} (h0 : 0 ≤ n) (hm : 0 < most) (hm2 : most ≤ 100) : ∃ nm : List Str, f_l_names [.int n, .int most] = some (.list (nm.map .str)) ∧ nm ≠ [] ∧ nm.length ≤ most.toNat ∧ nm.Nodup ∧ ∀ x ∈ nm, nmOk x := by
  rw [fe_l_names]
  unfold b_l_names
  have r0 := Int.emod_nonneg n (b := most) (by omega)
  have r1 := Int.emod_lt_of_pos n hm
  have q1 : -(2 ^ 62) ≤ 1 + n % most := by omega
  have q2 : 1 + n % most ≤ 16777216 := by omega
  obtain ⟨e, he, hI⟩ := forF_rng (lo := 0) (n := (1 + n % most).toNat) (v := 3) (b := L_l_names_0) (env := [.val (.int n), .val (.int most), .lst [], .und, .und])
    (fun i env => ∃ (nm : List Str) (c d : C), env = [.val (.int n), .val (.int most), .lst (nm.map .str), c, d] ∧ nm.length ≤ i ∧ (0 < i → nm ≠ []) ∧ nm.Nodup ∧ ∀ x ∈ nm, nmOk x) ⟨[], .und, .und, rfl, Nat.le_refl _, fun z => absurd z (Nat.lt_irrefl _), List.nodup_nil, fun x hx => by cases hx⟩ (fun i env hi hI => by
      obtain ⟨nm, c, d, rfl, hl, hne, hd, ho⟩ := hI
      obtain ⟨x, x0, x1⟩ := mixZ_ok (n := n) (p := 20 + (0 + (i : Int))) (by omega) (by omega)
      generalize mixZ n (20 + (0 + (i : Int))) = m at x x0 x1
      obtain ⟨s, fs, so⟩ := name_ok (n := m) x0
      have ni := notIn_str (nm := s) (l := nm)
      have ll : (((nm.map PyData.str).length : Nat) : Int) < 16000000 := by rw [List.length_map]; omega
      unfold L_l_names_0
      by_cases h : s ∈ nm
      · rw [decide_eq_true h] at ni
        simp only [EVY, EV0, EV1, EV2, EV3, EV4, EV5, decide_true, decide_false, List.nil_append, List.cons_append, x, fs, ni]
        exact ⟨nm, _, _, rfl, by omega, (fun _ z => by rw [z] at h; cases h), hd, ho⟩
      · rw [decide_eq_false h] at ni
        simp only [EVY, EV0, EV1, EV2, EV3, EV4, EV5, decide_true, decide_false, List.nil_append, List.cons_append, x, fs, ni, ll]
        refine ⟨nm ++ [s], _, _, by rw [List.map_append]; rfl, by rw [List.length_append, List.length_cons, List.length_nil]; omega, fun _ => by simp, ?_, ?_⟩
        · rw [List.nodup_append]
          refine ⟨hd, by simp, fun a ha b hb e => ?_⟩
          rw [List.mem_singleton.mp hb] at e
          exact h (e ▸ ha)
        · intro y hy
          rcases List.mem_append.mp hy with hy | hy
          · exact ho y hy
          · rw [List.mem_singleton.mp hy]; exact so)
  obtain ⟨nm, c, d, rfl, hl, hne, hd, ho⟩ := hI
  simp only [EVY, EV0, EV1, EV2, EV3, EV4, EV5, decide_true, decide_false, List.nil_append, List.cons_append, hm, q1, q2, he]
  exact ⟨nm, rfl, hne (by omega), by omega, hd, ho⟩
theorem lay_intsF : ∀ l : List Int, PyData.canLayAll0 (l.map PyData.int) = true
  | [] => by simp only [List.map_nil, PyData.canLayAll0]
  | a :: l => by
    have e : (PyData.int a).canLay0 = true := by simp only [PyData.canLay0]
    simp only [List.map_cons, PyData.canLayAll0, e, lay_intsF l, Bool.and_self]
theorem shaped_fm (f : Fm) : SeqAt.shaped (fmD f) = true := by
  unfold SeqAt.shaped fmD
  rw [Bool.and_eq_true, decide_eq_true_eq]
  have d1 := depthAll_mapD PyData.int (k := 0) (fun _ => Nat.le_refl _) f.1
  refine ⟨by simp only [PyData.canLay0, PyData.canLayAll0, lay_intsF, Bool.and_self], ?_⟩
  simp only [PyData.depth, PyData.depthAll]
  omega
theorem whole_i {x : Int} : f_l_whole [.int x] = some (.bool true) := by
  rw [fe_l_whole]
  unfold b_l_whole
  simp only [EVY, EV0, EV1, EV2, EV3, EV4, EV5, decide_true, decide_false, List.nil_append, List.cons_append]
def prtS (p : Str × Int) : Option (Int × Str) := if p.2.natAbs = 1 then some (p.2, p.1) else if p.2 ≠ 0 then some (p.2, tS (p.2.natAbs : Int) ++ "*" ++ p.1) else none
def prD (p : Int × Str) : D := .tuple [.int p.1, .str p.2]
theorem ev_absI {c : Int} : gAbs [.int c] = some (.int (c.natAbs : Int)) := by
  rw [ev_abs]
  congr 2
  split <;> omega
theorem n1900 {c : Int} (h : c.natAbs < 2 ^ 200) : ((c.natAbs : Nat) : Int).natAbs < 2 ^ 200 := by rw [Int.natAbs_natCast]; exact h
theorem parts_loop {nm fm : D} : ∀ (zs : List (Str × Int)) (acc : List (Int × Str)) (c3 c4 c5 c6 : C), (∀ p ∈ zs, p.2.natAbs < 2 ^ 200 ∧ p.1.length ≤ 10) → acc.length + zs.length ≤ 10000 →
    ∃ c3' c4', forF (tgT (tgCons (tgN 3) (tgCons (tgN 4) tgNil))) L_shown_sum_1 (zs.map fun p => .tuple [.str p.1, .int p.2]) [.val nm, .val fm, .lst (acc.map prD), c3, c4, c5, c6] = .nx [.val nm, .val fm, .lst ((acc ++ zs.filterMap prtS).map prD), c3', c4', c5, c6]
  | [], acc, c3, c4, c5, c6, _, _ => ⟨c3, c4, by rw [List.filterMap_nil, List.append_nil]; rfl⟩
  | p :: zs, acc, c3, c4, c5, c6, h, hl => by
    obtain ⟨hp, hn⟩ := h p List.mem_cons_self
    rw [List.length_cons] at hl
    have ht := fun q hq => h q (List.mem_cons_of_mem _ hq)
    have stp : (tgT (tgCons (tgN 3) (tgCons (tgN 4) tgNil))) (.tuple [.str p.1, .int p.2]) [.val nm, .val fm, .lst (acc.map prD), c3, c4, c5, c6] = some [.val nm, .val fm, .lst (acc.map prD), .val (.str p.1), .val (.int p.2), c5, c6] := rfl
    have ea := ev_absI (c := p.2)
    have la : (((acc.map prD).length : Nat) : Int) < 16000000 := by rw [List.length_map]; omega
    rw [List.map_cons]
    by_cases h1 : p.2.natAbs = 1
    · have d1 : decide ((p.2.natAbs : Int) = 1) = true := decide_eq_true (by omega)
      have bd : L_shown_sum_1 [.val nm, .val fm, .lst (acc.map prD), .val (.str p.1), .val (.int p.2), c5, c6] = .nx [.val nm, .val fm, .lst ((acc ++ [(p.2, p.1)]).map prD), .val (.str p.1), .val (.int p.2), c5, c6] := by
        unfold L_shown_sum_1
        simp only [EVY, EV0, EV1, EV2, EV3, EV4, EV5, decide_true, decide_false, List.nil_append, List.cons_append, ea, d1, la]
        rw [List.map_append]; rfl
      rw [forF_nx stp bd]
      obtain ⟨x, y, e⟩ := parts_loop zs (acc ++ [(p.2, p.1)]) (.val (.str p.1)) (.val (.int p.2)) c5 c6 ht (by rw [List.length_append, List.length_cons, List.length_nil]; omega)
      refine ⟨x, y, ?_⟩
      rw [e, List.filterMap_cons_some (show prtS p = some (p.2, p.1) from if_pos h1), List.append_assoc]; rfl
    · have d1 : decide ((p.2.natAbs : Int) = 1) = false := decide_eq_false (by omega)
      by_cases h0 : p.2 = 0
      · have d0 : decide (p.2 = 0) = true := decide_eq_true h0
        have bd : L_shown_sum_1 [.val nm, .val fm, .lst (acc.map prD), .val (.str p.1), .val (.int p.2), c5, c6] = .nx [.val nm, .val fm, .lst (acc.map prD), .val (.str p.1), .val (.int p.2), c5, c6] := by
          unfold L_shown_sum_1
          simp only [EVY, EV0, EV1, EV2, EV3, EV4, EV5, decide_true, decide_false, List.nil_append, List.cons_append, ea, d1, d0]
        rw [forF_nx stp bd]
        obtain ⟨x, y, e⟩ := parts_loop zs acc (.val (.str p.1)) (.val (.int p.2)) c5 c6 ht (by omega)
        refine ⟨x, y, ?_⟩
        rw [e, List.filterMap_cons_none (show prtS p = none by unfold prtS; rw [if_neg h1, if_neg (fun z => z h0)])]
      · have d0 : decide (p.2 = 0) = false := decide_eq_false h0
        have es := str_tS (n1900 hp)
        have l1 := tS_62 (n1900 hp)
        have ls : ("*" : Str).length = 1 := by kernel_rfl
        have a1 := add_s (x := tS (p.2.natAbs : Int)) (y := "*") (by rw [ls]; omega)
        have a2 := add_s (x := tS (p.2.natAbs : Int) ++ "*") (y := p.1) (by rw [len_app, ls]; omega)
        have bd : L_shown_sum_1 [.val nm, .val fm, .lst (acc.map prD), .val (.str p.1), .val (.int p.2), c5, c6] = .nx [.val nm, .val fm, .lst ((acc ++ [(p.2, tS (p.2.natAbs : Int) ++ "*" ++ p.1)]).map prD), .val (.str p.1), .val (.int p.2), c5, c6] := by
          unfold L_shown_sum_1
          simp only [EVY, EV0, EV1, EV2, EV3, EV4, EV5, decide_true, decide_false, List.nil_append, List.cons_append, ea, d1, d0, es, a1, a2, la]
          rw [List.map_append]; rfl
        rw [forF_nx stp bd]
        obtain ⟨x, y, e⟩ := parts_loop zs (acc ++ [(p.2, tS (p.2.natAbs : Int) ++ "*" ++ p.1)]) (.val (.str p.1)) (.val (.int p.2)) c5 c6 ht (by rw [List.length_append, List.length_cons, List.length_nil]; omega)
        refine ⟨x, y, ?_⟩
        rw [e, List.filterMap_cons_some (show prtS p = some (p.2, tS (p.2.natAbs : Int) ++ "*" ++ p.1) by unfold prtS; rw [if_neg h1, if_pos h0]), List.append_assoc]; rfl
theorem eq_nil_l {ds : List D} (h : SeqAt.shaped (.list ds) = true) : gEq (.list ds) (.list []) = some (.bool (decide (ds = []))) := by
  cases ds with
  | nil => exact ev_eq_nil (ns := [])
  | cons d ds =>
    refine gOr_n eqS_l ?_
    unfold gEqD
    rw [if_pos ⟨h, by decide⟩, decide_eq_false (by simp)]
    rfl
theorem lay_prs : ∀ l : List (Int × Str), (∀ p ∈ l, PyData.strOk p.2 = true) → PyData.canLayAll0 (l.map prD) = true
  | [], _ => by simp only [List.map_nil, PyData.canLayAll0]
  | p :: l, h => by
    have e : (prD p).canLay0 = true := by
      unfold prD
      simp only [PyData.canLay0, PyData.canLayAll0, h p List.mem_cons_self, Bool.and_self]
    simp only [List.map_cons, PyData.canLayAll0, e, lay_prs l fun q hq => h q (List.mem_cons_of_mem _ hq), Bool.and_self]
theorem shaped_prs {l : List (Int × Str)} (h : ∀ p ∈ l, PyData.strOk p.2 = true) : SeqAt.shaped (.list (l.map prD)) = true := by
  unfold SeqAt.shaped
  rw [Bool.and_eq_true, decide_eq_true_eq]
  refine ⟨by simp only [PyData.canLay0, lay_prs l h], ?_⟩
  have := depthAll_mapD prD (k := 1) (fun p => by unfold prD; simp only [PyData.depth, PyData.depthAll]; omega) l
  simp only [PyData.depth]; omega
theorem strOk_of {s : Str} (h : ∀ c ∈ tl s, c < 1000) : PyData.strOk s = true := by
  unfold PyData.strOk
  rw [← Array.all_toList, List.all_eq_true]
  intro c hc
  have := h c hc
  exact decide_eq_true (by omega)
theorem pcT_sm {q : Pc} (h : ∀ x, q.2 = some x → nmOk x) : ∀ c ∈ pcT q, c < 1000 := by
  have dig : ∀ n, ∀ c ∈ numL n, c < 1000 := fun n c hc => by have := numL_digits n c hc; omega
  have let_ : ∀ x, nmOk x → ∀ c ∈ tl x, c < 1000 := fun x hx c hc => by
    have := hx.2.2 c hc
    unfold isLet at this
    have := of_decide_eq_true this
    omega
  unfold pcT
  cases e : q.2 with
  | none => exact dig _
  | some x =>
    dsimp only
    split
    · exact let_ x (h x e)
    · intro c hc
      rcases List.mem_append.mp hc with hc | hc
      · exact dig _ c hc
      · rcases List.mem_cons.mp hc with hc | hc
        · omega
        · exact let_ x (h x e) c hc
def grow (t : Str) (p : Int × Str) : Str := if t ≠ "" then (if p.1 < 0 then t ++ ((" - " : Str) ++ p.2) else t ++ ((" + " : Str) ++ p.2)) else (if p.1 < 0 then ("-" : Str) ++ p.2 else p.2)
theorem len_op : (" - " : Str).length = 3 ∧ (" + " : Str).length = 3 ∧ ("-" : Str).length = 1 := ⟨by kernel_rfl, by kernel_rfl, by kernel_rfl⟩
theorem grow_len (t : Str) (p : Int × Str) : (grow t p).length ≤ t.length + p.2.length + 3 := by
  obtain ⟨h1, h2, h3⟩ := len_op
  unfold grow
  split
  · split
    · rw [len_app, len_app, h1]; omega
    · rw [len_app, len_app, h2]; omega
  · split
    · rw [len_app, h3]; omega
    · omega
theorem text_loop {nm fm ps : D} {c3 : C} : ∀ (l : List (Int × Str)) (t : Str) (c4 c6 : C), (∀ p ∈ l, p.2.length ≤ 80) → t.length + 100 * l.length ≤ 60000 →
    ∃ c4' c6', forF (tgT (tgCons (tgN 4) (tgCons (tgN 6) tgNil))) L_shown_sum_0 (l.map prD) [.val nm, .val fm, .val ps, c3, c4, .val (.str t), c6] = .nx [.val nm, .val fm, .val ps, c3, c4', .val (.str (l.foldl grow t)), c6']
  | [], t, c4, c6, _, _ => ⟨c4, c6, rfl⟩
  | p :: l, t, c4, c6, h, hl => by
    rw [List.length_cons] at hl
    have hp := h p List.mem_cons_self
    obtain ⟨o1, o2, o3⟩ := len_op
    have stp : (tgT (tgCons (tgN 4) (tgCons (tgN 6) tgNil))) (prD p) [.val nm, .val fm, .val ps, c3, c4, .val (.str t), c6] = some [.val nm, .val fm, .val ps, c3, .val (.int p.1), .val (.str t), .val (.str p.2)] := rfl
    have b1 := add_s (x := " - ") (y := p.2) (by rw [o1]; omega)
    have b2 := add_s (x := " + ") (y := p.2) (by rw [o2]; omega)
    have b3 := add_s (x := "-") (y := p.2) (by rw [o3]; omega)
    have g1 : gAddIS (.str t) (.str ((" - " : Str) ++ p.2)) = some (.str (t ++ ((" - " : Str) ++ p.2))) := by
      refine gOr_n rfl ?_
      unfold gAddS
      exact if_pos (by rw [sizeLine_eq, len_app, o1]; omega)
    have g2 : gAddIS (.str t) (.str ((" + " : Str) ++ p.2)) = some (.str (t ++ ((" + " : Str) ++ p.2))) := by
      refine gOr_n rfl ?_
      unfold gAddS
      exact if_pos (by rw [sizeLine_eq, len_app, o2]; omega)
    have bd : L_shown_sum_0 [.val nm, .val fm, .val ps, c3, .val (.int p.1), .val (.str t), .val (.str p.2)] = .nx [.val nm, .val fm, .val ps, c3, .val (.int p.1), .val (.str (grow t p)), .val (.str p.2)] := by
      unfold L_shown_sum_0 grow
      by_cases ht : t = ""
      · have dt := decide_eq_true ht
        rw [if_neg (fun z => z ht)]
        by_cases hm : p.1 < 0
        · have dm := decide_eq_true hm
          rw [if_pos hm]
          simp only [EVY, EV0, EV1, EV2, EV3, EV4, EV5, decide_true, decide_false, List.nil_append, List.cons_append, dt, dm, b3]
        · have dm := decide_eq_false hm
          rw [if_neg hm]
          simp only [EVY, EV0, EV1, EV2, EV3, EV4, EV5, decide_true, decide_false, List.nil_append, List.cons_append, dt, dm]
      · have dt := decide_eq_false ht
        rw [if_pos ht]
        by_cases hm : p.1 < 0
        · have dm := decide_eq_true hm
          rw [if_pos hm]
          simp only [EVY, EV0, EV1, EV2, EV3, EV4, EV5, decide_true, decide_false, List.nil_append, List.cons_append, dt, dm, b1, g1]
        · have dm := decide_eq_false hm
          rw [if_neg hm]
          simp only [EVY, EV0, EV1, EV2, EV3, EV4, EV5, decide_true, decide_false, List.nil_append, List.cons_append, dt, dm, b2, g2]
    rw [List.map_cons, forF_nx stp bd]
    have gl := grow_len t p
    exact text_loop l (grow t p) (.val (.int p.1)) (.val (.str p.2)) (fun q hq => h q (List.mem_cons_of_mem _ hq)) (by omega)
def pcS (q : Pc) : Int × Str := (q.1, st (pcT q))
theorem tS_abs (c : Int) : tl (tS (c.natAbs : Int)) = numL c.natAbs := by
  rw [tl_tS]
  unfold intL
  rw [if_neg (by omega), Int.natAbs_natCast]
theorem star_tl : tl ("*" : Str) = [42] := by kernel_rfl
theorem prt_pc : ∀ zs : List (Str × Int), zs.filterMap prtS = ((zs.filter fun p => decide (p.2 ≠ 0)).map fun p => ((p.2, some p.1) : Pc)).map pcS
  | [] => rfl
  | p :: zs => by
    by_cases h0 : p.2 = 0
    · rw [List.filterMap_cons_none (show prtS p = none by unfold prtS; rw [if_neg (by rw [h0]; decide), if_neg (fun z => z h0)]), List.filter_cons_of_neg (by simp [h0]), prt_pc zs]
    · rw [List.filter_cons_of_pos (by simp [h0]), List.map_cons, List.map_cons, ← prt_pc zs]
      have e : prtS p = some (pcS (p.2, some p.1)) := by
        unfold prtS pcS pcT
        dsimp only
        by_cases h1 : p.2.natAbs = 1
        · rw [if_pos h1, if_pos h1]
          congr 2
        · rw [if_neg h1, if_pos h0, if_neg h1]
          congr 2
          refine ext_tl ?_
          rw [tl_append, tl_append, tS_abs, star_tl]
          show _ = numL p.2.natAbs ++ 42 :: tl p.1
          rw [List.append_assoc]; rfl
      rw [List.filterMap_cons_some e]
def shP (nm : List Str) (f : Fm) : List (Int × Str) := (pcs nm f).map pcS
def shS (nm : List Str) (f : Fm) : Str := (shP nm f).foldl grow ""
theorem zip_strs (nm : List Str) (cs : List Int) : zipD (nm.map .str) (cs.map .int) = (nm.zip cs).map fun p => .tuple [.str p.1, .int p.2] := zip_map _ _ _ _
theorem shown_ok {nm : List Str} {f : Fm} (hn : ∀ x ∈ nm, nmOk x) (hl : f.1.length ≤ 100) (hc : ∀ c ∈ f.1, c.natAbs < 2 ^ 200) (hr : f.2.natAbs < 2 ^ 200) : f_shown_sum [nmD nm, fmD f] = some (.str (shS nm f)) ∧ (shS nm f).length ≤ 60000 := by
  have zl : (nm.zip f.1).length ≤ 100 := by rw [List.length_zip]; omega
  have hz : ∀ p ∈ nm.zip f.1, p.2.natAbs < 2 ^ 200 ∧ p.1.length ≤ 10 := fun p hp => ⟨hc _ (List.of_mem_zip hp).2, by rw [len_tl]; exact (hn _ (List.of_mem_zip hp).1).2.1⟩
  obtain ⟨x3, x4, lp⟩ := parts_loop (nm := nmD nm) (fm := fmD f) (nm.zip f.1) [] .und .und .und .und hz (by rw [List.length_nil]; omega)
  rw [List.nil_append, prt_pc] at lp
  have es := str_tS (n1900 hr)
  have l1 := tS_62 (n1900 hr)
  have ea := ev_absI (c := f.2)
  have bound : ∀ q ∈ shP nm f, q.2.length ≤ 80 := fun q hq => by
    obtain ⟨p, hp, rfl⟩ := List.mem_map.mp hq
    have key : ∀ c : Int, c.natAbs < 2 ^ 200 → (numL c.natAbs).length ≤ 62 := fun c h => by
      have := tS_62 (n1900 h)
      rw [len_tl, tS_abs] at this
      exact this
    have k1 : p.1.natAbs < 2 ^ 200 := by
      have km : p ∈ ((nm.zip f.1).filter fun p => decide (p.2 ≠ 0)).map (fun p => ((p.2, some p.1) : Pc)) → p.1.natAbs < 2 ^ 200 := fun h => by
        obtain ⟨u, hu, rfl⟩ := List.mem_map.mp h
        exact (hz u (List.mem_filter.mp hu).1).1
      unfold pcs at hp
      dsimp only at hp
      split at hp
      · rcases List.mem_append.mp hp with h | h
        · exact km h
        · rw [List.mem_singleton.mp h]; exact hr
      · exact km hp
    show (st (pcT p)).length ≤ 80
    rw [len_tl]
    show (pcT p).length ≤ 80
    have := key _ k1
    unfold pcT
    cases e : p.2 with
    | none => dsimp only; omega
    | some x =>
      have hx := (hn x (pcs_mem hp e)).2.1
      dsimp only
      split
      · omega
      · rw [List.length_append, List.length_cons]; omega
  have plen : (shP nm f).length ≤ 101 := by
    unfold shP pcs
    dsimp only
    have a : (((nm.zip f.1).filter fun p => decide (p.2 ≠ 0)).map fun p => ((p.2, some p.1) : Pc)).length ≤ 100 := by
      rw [List.length_map]; exact Nat.le_trans (List.length_filter_le _ _) zl
    split
    · rw [List.length_map, List.length_append, List.length_cons, List.length_nil]; omega
    · rw [List.length_map]; omega
  have zs := zip_strs nm f.1
  have e0 : gIxS (fmD f) (.int 0) = some (.tuple (f.1.map .int)) := ev_ixT.trans at0
  have e1' : gIxS (fmD f) (.int 1) = some (.int f.2) := ev_ixT.trans at1
  have tl0 : ("" : Str).length = 0 := by kernel_rfl
  obtain ⟨y4, y6, tp⟩ := text_loop (nm := nmD nm) (fm := fmD f) (ps := .list ((shP nm f).map prD)) (c3 := x3) (shP nm f) "" x4 .und bound (by rw [tl0]; omega)
  have tlen : ∀ (l : List (Int × Str)) (t : Str), (∀ p ∈ l, p.2.length ≤ 80) → (l.foldl grow t).length ≤ t.length + 83 * l.length := fun l => by
    induction l with
    | nil => intro t _; exact Nat.le_refl _
    | cons p l ih =>
      intro t h
      have g := grow_len t p
      have := h p List.mem_cons_self
      have := ih (grow t p) fun q hq => h q (List.mem_cons_of_mem _ hq)
      rw [List.foldl_cons, List.length_cons]; omega
  refine ⟨?_, by have := tlen (shP nm f) "" bound; rw [tl0] at this; show ((shP nm f).foldl grow "").length ≤ _; omega⟩
  rw [fe_shown_sum]
  unfold b_shown_sum
  generalize eL : (((nm.zip f.1).filter fun p => decide (p.2 ≠ 0)).map fun p => ((p.2, some p.1) : Pc)) = L at lp
  have sp : shP nm f = if f.2 ≠ 0 ∨ L = [] then L.map pcS ++ [(f.2, tS (f.2.natAbs : Int))] else L.map pcS := by
    unfold shP pcs
    dsimp only
    rw [eL]
    split
    · rw [List.map_append]
      have e : st (numL f.2.natAbs) = tS (f.2.natAbs : Int) := ext_tl (by rw [tS_abs]; rfl)
      show L.map pcS ++ [(f.2, st (numL f.2.natAbs))] = _
      rw [e]
    · rfl
  have lL : (((L.map pcS).map prD).length : Int) < 16000000 := by
    have : L.length ≤ 100 := by rw [← eL, List.length_map]; exact Nat.le_trans (List.length_filter_le _ _) zl
    rw [List.length_map, List.length_map]; omega
  have sh : SeqAt.shaped (.list ((L.map pcS).map prD)) = true := shaped_prs fun p hp => by
    obtain ⟨q, hq, rfl⟩ := List.mem_map.mp hp
    refine strOk_of (pcT_sm fun x e => hn x ?_)
    rw [← eL] at hq
    obtain ⟨u, hu, rfl⟩ := List.mem_map.mp hq
    cases e
    exact (List.of_mem_zip (List.mem_filter.mp hu).1).1
  have en := eq_nil_l sh
  have dn : decide ((L.map pcS).map prD = []) = decide (L = []) := decide_eq_decide.mpr (by rw [List.map_eq_nil_iff, List.map_eq_nil_iff])
  rw [dn] at en
  unfold shS
  rw [List.map_nil] at lp
  have fin : ∀ (ps : List D), ps = (shP nm f).map prD → ∃ v, oRun (sSeq (sSet 5 (eC (.str ""))) (sFz 2 (sSeq (sFor (iAny (eV 2)) (tgT (tgCons (tgN 4) (tgCons (tgN 6) tgNil))) L_shown_sum_0) (sRet (eV 5)))) [.val (nmD nm), .val (fmD f), .lst ps, x3, x4, .und, .und]) = some v ∧ v = .str ((shP nm f).foldl grow "") := fun ps e => by
    subst e
    simp only [EVY, EV0, EV1, EV2, EV3, EV4, EV5, decide_true, decide_false, List.nil_append, List.cons_append, tp]
    exact ⟨_, rfl, rfl⟩
  have ap : (L.map pcS).map prD ++ [.tuple [.int f.2, .str (tS (f.2.natAbs : Int))]] = (L.map pcS ++ [(f.2, tS (f.2.natAbs : Int))]).map prD := by rw [List.map_append]; rfl
  by_cases hL : f.2 ≠ 0 ∨ L = []
  · rw [if_pos hL] at sp
    obtain ⟨v, f1, f2⟩ := fin _ (by rw [sp])
    rw [← ap] at f1
    rw [← f2, ← f1]
    have co : oOr (some (!decide (f.2 = 0))) (tB (e2 gEq (DL.eL 2) (eLst aNil))) [.val (nmD nm), .val (fmD f), .lst ((L.map pcS).map prD), x3, x4, .und, .und] = some true := by
      by_cases h : f.2 = 0
      · have : L = [] := hL.resolve_left (fun z => z h)
        rw [decide_eq_true h]
        have dL := decide_eq_true this
        simp only [EVY, EV0, EV1, EV2, EV3, EV4, EV5, decide_true, decide_false, List.nil_append, List.cons_append, en, dL]
      · rw [decide_eq_false h]; rfl
    unfold nmD at lp co ⊢
    simp only [EVY, EV0, EV1, EV2, EV3, EV4, EV5, decide_true, decide_false, List.nil_append, List.cons_append, e0, e1', zs, lp, co, ea, es, lL]
  · rw [if_neg hL] at sp
    obtain ⟨v, f1, f2⟩ := fin _ (by rw [sp])
    rw [← f2, ← f1]
    have h0 : f.2 = 0 := Decidable.byContradiction fun z => hL (.inl z)
    have hL0 : ¬ L = [] := fun z => hL (.inr z)
    have d0 := decide_eq_true h0
    have dL := decide_eq_false hL0
    unfold nmD at lp ⊢
    simp only [EVY, EV0, EV1, EV2, EV3, EV4, EV5, decide_true, decide_false, List.nil_append, List.cons_append, e0, e1', zs, lp, d0, en, dL]
theorem foldl_tl : ∀ (l : List Pc) (t : Str), tl t ≠ [] → (∀ q ∈ l, pcT q ≠ []) → tl ((l.map pcS).foldl grow t) = tl t ++ shR l
  | [], t, _, _ => (List.append_nil _).symm
  | q :: l, t, ht, h => by
    have t0 : t ≠ "" := fun z => ht (by rw [z]; kernel_rfl)
    have g : tl (grow t (pcS q)) = tl t ++ (32 :: sg (decide (q.1 < 0)) :: 32 :: pcT q) := by
      unfold grow
      rw [if_pos t0]
      by_cases hm : q.1 < 0
      · rw [if_pos (show (pcS q).1 < 0 from hm), tl_append, tl_append, show tl (" - " : Str) = [32, 45, 32] by kernel_rfl, decide_eq_true hm]
        rfl
      · rw [if_neg (show ¬ (pcS q).1 < 0 from hm), tl_append, tl_append, show tl (" + " : Str) = [32, 43, 32] by kernel_rfl, decide_eq_false hm]
        rfl
    rw [List.map_cons, List.foldl_cons, foldl_tl l _ (by rw [g]; simp) fun q hq => h q (List.mem_cons_of_mem _ hq), g, List.append_assoc]
    rfl
theorem pcT_ne {q : Pc} (h : ∀ x, q.2 = some x → nmOk x) : pcT q ≠ [] := by
  unfold pcT
  cases e : q.2 with
  | none => exact numL_ne _
  | some x =>
    dsimp only
    split
    · exact (h x e).1
    · intro z
      have := congrArg List.length z
      rw [List.length_append, List.length_cons] at this
      simp at this
theorem shS_tl {nm : List Str} {f : Fm} (hn : ∀ x ∈ nm, nmOk x) : tl (shS nm f) = shL (pcs nm f) := by
  obtain ⟨p, l, e⟩ := pcs_ne nm f
  have hq : ∀ q ∈ p :: l, pcT q ≠ [] := fun q hq => pcT_ne fun x ex => hn x (pcs_mem (by rw [e]; exact hq) ex)
  unfold shS shP
  rw [e]
  show tl ((l.map pcS).foldl grow (grow "" (pcS p))) = (if p.1 < 0 then 45 :: pcT p else pcT p) ++ shR l
  have g : tl (grow "" (pcS p)) = if p.1 < 0 then 45 :: pcT p else pcT p := by
    unfold grow
    rw [if_neg (fun z => z rfl)]
    by_cases hm : p.1 < 0
    · rw [if_pos (show (pcS p).1 < 0 from hm), if_pos hm, tl_append, show tl ("-" : Str) = [45] by kernel_rfl]; rfl
    · rw [if_neg (show ¬ (pcS p).1 < 0 from hm), if_neg hm]; rfl
  rw [foldl_tl l _ (by rw [g]; split; · simp
                       · exact hq p List.mem_cons_self) (fun q h => hq q (List.mem_cons_of_mem _ h)), g]
theorem numL_640 {c : Int} (h : c.natAbs < 2 ^ 200) : (numL c.natAbs).length ≤ 640 := by
  have := tS_62 (n1900 h)
  rw [len_tl, tS_abs] at this
  omega
theorem round_ok {nm : List Str} {f : Fm} (hd : nm.Nodup) (hn : ∀ x ∈ nm, nmOk x) (hf : f.1.length = nm.length) (hl : nm.length ≤ 100) (hc : ∀ c ∈ f.1, c.natAbs < 2 ^ 200) (hr : f.2.natAbs < 2 ^ 200) : f_read_sum [.d (nmD nm), .d (.str (shS nm f))] = some (.ok [] (.d (fmD f))) := by
  obtain ⟨_, sl⟩ := shown_ok hn (by omega) hc hr
  obtain ⟨o, h1, h2, h3⟩ := read_shown (shS_tl (f := f) hn) (by omega) hd hn hf (fun c h => numL_640 (hc c h)) (numL_640 hr)
  have := read_ok (names := nm) (s := shS nm f) (by omega) (by omega) h1 h3
  rw [h2] at this
  exact this
end
end DL
--SUMS
namespace DL
open PySem PySem.Spec L2 TL
noncomputable section
theorem p9 : gPow (.int 10) (.int 9) = some (.int (10 ^ 9)) := (ev_pow (i := 10) (j := 9) (by decide) (by decide) (by decide)).trans (by rfl)
theorem p30 : gPow (.int 10) (.int 30) = some (.int (10 ^ 30)) := (ev_pow (i := 10) (j := 30) (by decide) (by decide) (by decide)).trans (by rfl)
theorem S.add {x y : Str} {a b : List (List Nat)} {n m : Nat} (h : S x a n) (g : S y b m) (hl : n + m ≤ 900000) : gAdd (.str x) (.str y) = some (.str (x ++ y)) ∧ S (x ++ y) (a ++ b) (n + m) := by
  have := h.ln; have := g.ln
  refine ⟨add_s (by omega), ⟨by rw [tl_append]; exact h.tx.app g.tx, by rw [len_app]; omega⟩⟩
theorem S.of {x : Str} {l : List (Nat × List Nat)} {e n : Nat} (h : tl x = lay l ++ bl e) (hn : x.length = n) : S x (l.map (·.2)) n := ⟨⟨l, e, h, rfl⟩, Nat.le_of_eq hn⟩
theorem c_open : S "(" [[40]] 1 := S.of (l := [(0, [40])]) (e := 0) (by kernel_rfl) (by kernel_rfl)
theorem c_open1 : S "( " [[40]] 2 := S.of (l := [(0, [40])]) (e := 1) (by kernel_rfl) (by kernel_rfl)
theorem c_close : S ")" [[41]] 1 := S.of (l := [(0, [41])]) (e := 0) (by kernel_rfl) (by kernel_rfl)
theorem c_close1 : S " )" [[41]] 2 := S.of (l := [(1, [41])]) (e := 0) (by kernel_rfl) (by kernel_rfl)
theorem c_plus : S "+" [[43]] 1 := S.of (l := [(0, [43])]) (e := 0) (by kernel_rfl) (by kernel_rfl)
theorem c_plus1 : S " +" [[43]] 2 := S.of (l := [(1, [43])]) (e := 0) (by kernel_rfl) (by kernel_rfl)
theorem c_plus2 : S " + " [[43]] 3 := S.of (l := [(1, [43])]) (e := 1) (by kernel_rfl) (by kernel_rfl)
theorem c_minus : S "-" [[45]] 1 := S.of (l := [(0, [45])]) (e := 0) (by kernel_rfl) (by kernel_rfl)
theorem c_minus2 : S " - " [[45]] 3 := S.of (l := [(1, [45])]) (e := 1) (by kernel_rfl) (by kernel_rfl)
theorem c_star : S "*" [[42]] 1 := S.of (l := [(0, [42])]) (e := 0) (by kernel_rfl) (by kernel_rfl)
theorem c_star1 : S " *" [[42]] 2 := S.of (l := [(1, [42])]) (e := 0) (by kernel_rfl) (by kernel_rfl)
theorem c_star2 : S " * " [[42]] 3 := S.of (l := [(1, [42])]) (e := 1) (by kernel_rfl) (by kernel_rfl)
theorem c_cs : S ")*" [[41], [42]] 2 := S.of (l := [(0, [41]), (0, [42])]) (e := 0) (by kernel_rfl) (by kernel_rfl)
theorem c_t2 : S ")* 2 *" [[41], [42], [50], [42]] 6 := S.of (l := [(0, [41]), (0, [42]), (1, [50]), (1, [42])]) (e := 0) (by kernel_rfl) (by kernel_rfl)
theorem c_bl : S " " [] 1 := S.of (l := []) (e := 1) (by kernel_rfl) (by kernel_rfl)
theorem n_two : numL 2 = [50] := numL_lt (by decide)
theorem S.num {u : Nat} (hu : u < 10 ^ 30) : gStr [.int (u : Int)] = some (.str (st (numL u))) ∧ S (st (numL u)) [numL u] 30 := by
  refine ⟨?_, ⟨TX.tok _, by rw [len_tl]; exact len_num hu⟩⟩
  rw [str_tS (by omega)]
  have : tl (tS (u : Int)) = numL u := by
    rw [tl_tS]
    unfold intL
    rw [if_neg (by omega)]; rfl
  exact congrArg (fun z => some (PyData.str z)) (ext_tl this)
theorem S.nm {x : Str} (h : nmOk x) : S x [tl x] 10 := ⟨TX.tok _, by rw [len_tl]; exact h.2.1⟩
section
variable {nm : List Str} {ps : List Int}
structure T6 (nm : List Str) (ps : List Int) (x : Str) (z : Int) (t : Te) (v : Fm) : Prop where
  tok : TOk nm t v
  s : S x t.tk 250
  zz : z = evF ps v
  sm : SmF (2 ^ 62) v
theorem tterm_ok (hd : nm.Nodup) (hne : nm ≠ []) (hn : nm.length ≤ 100) (ho : ∀ x ∈ nm, nmOk x) (hl : ps.length = nm.length) (hp : ∀ p ∈ ps, Bt 101 p) {n cell : Int} (h0 : 0 ≤ n) :
    ∃ x z t v, f_l_term [nmD nm, .list (ps.map .int), .int n, .int cell] = some (.tuple [.str x, .int z]) ∧ T6 nm ps x z t v := by
  rw [fe_l_term]
  unfold b_l_term
  have z8 : (0 : Int) < 8 := by decide
  have z4 : (0 : Int) < 4 := by decide
  have z3 : (0 : Int) < 3 := by decide
  have z64 : (0 : Int) < 64 := by decide
  have z256 : (0 : Int) < 256 := by decide
  have z512 : (0 : Int) < 512 := by decide
  have z3' : (3 : Int) < 2 ^ 250 := by decide
  have z8' : (8 : Int) < 2 ^ 250 := by decide
  have z64' : (64 : Int) < 2 ^ 250 := by decide
  have z256' : (256 : Int) < 2 ^ 250 := by decide
  have z512' : (512 : Int) < 2 ^ 250 := by decide
  have gl : gLen [nmD nm] = some (.int (nm.length : Nat)) := by
    show some (PyData.int ((nm.map PyData.str).length : Nat)) = _
    rw [List.length_map]
  have hl0 : 0 < nm.length := List.length_pos_iff.mpr hne
  have pz : (0 : Int) < (nm.length : Nat) := by omega
  obtain ⟨i, hi, hi2⟩ : ∃ i : Nat, n / 512 % (nm.length : Nat) = (i : Int) ∧ i < nm.length := by
    have r0 := Int.emod_nonneg (n / 512) (b := (nm.length : Nat)) (by omega)
    have r1 := Int.emod_lt_of_pos (n / 512) pz
    exact ⟨(n / 512 % (nm.length : Nat)).toNat, by omega, by omega⟩
  have a1 : atI (nm.map PyData.str) (i : Int) = some (.str nm[i]) := by
    unfold atI
    rw [List.length_map, ixN_pos (by omega) (by omega), Int.toNat_natCast]
    show (nm.map PyData.str)[i]? = _
    rw [List.getElem?_map, List.getElem?_eq_getElem hi2]; rfl
  have a2 : atI (ps.map PyData.int) (i : Int) = some (.int (ps.getD i 0)) := by
    unfold atI
    rw [List.length_map, ixN_pos (by omega) (by omega), Int.toNat_natCast]
    show (ps.map PyData.int)[i]? = _
    rw [List.getElem?_map, List.getD_eq_getElem?_getD, List.getElem?_eq_getElem (by omega)]; rfl
  have ee := evF_e (ps := ps) hd (List.getElem?_eq_getElem hi2)
  have hm : nm[i] ∈ nm := List.getElem_mem hi2
  generalize hx : nm[i] = x at a1 ee hm
  have hox := ho x hm
  have bp : Bt 101 (ps.getD i 0) := by
    rw [List.getD_eq_getElem?_getD, List.getElem?_eq_getElem (show i < ps.length by omega)]
    exact hp _ (List.getElem_mem _)
  generalize hq : ps.getD i 0 = p at a2 ee bp
  have tw := two_at (x := .int 100) (y := .int (10 ^ 9)) (r := n / 256 % 4 / 3) (by omega)
  obtain ⟨k, hk, k0, k1⟩ : ∃ k : Int, (if n / 256 % 4 / 3 = 0 then PyData.int 100 else .int (10 ^ 9)) = .int k ∧ 0 < k ∧ k ≤ 10 ^ 9 := by
    split
    · exact ⟨100, rfl, by decide, by decide⟩
    · exact ⟨10 ^ 9, rfl, by decide, by decide⟩
  rw [hk] at tw
  have body : ∀ (u : Nat), u < 10 ^ 9 → ∃ x' z t v, oRun ((sSeq (sSet 5 (e2 gModA (e2 gDivA (eV 2) (eC (.int 512))) (e1 gLen (aCons (eV 0) aNil))))
  (sSeq (sPar 6 7 (aCons (e2 gIxS (eV 0) (eV 5)) (aCons (e2 gIxS (eV 1) (eV 5)) aNil)))
  (sSeq (sSet 8 (e2 gModA (eV 2) (eC (.int 8))))
  (sSeq (sIf (tB (e2 gEq (eV 8) (eC (.int 0)))) (sRet (eTup (aCons (e1 gStr (aCons (eV 4) aNil)) (aCons (eV 4) aNil)))) sNil)
  (sSeq (sIf (tB (e2 gLt (eV 8) (eC (.int 3)))) (sRet (eTup (aCons (eV 6) (aCons (eV 7) aNil)))) sNil)
  (sSeq (sIf (tB (e2 gEq (eV 8) (eC (.int 3)))) (sRet (eTup (aCons (e2 gAdd (e2 gAdd (e1 gStr (aCons (eV 4) aNil)) (eC (.str " * "))) (eV 6)) (aCons (e2 gMul (eV 4) (eV 7)) aNil)))) sNil)
  (sSeq (sIf (tB (e2 gEq (eV 8) (eC (.int 4)))) (sRet (eTup (aCons (e2 gAdd (e2 gAdd (eV 6) (eC (.str "*"))) (e1 gStr (aCons (eV 4) aNil))) (aCons (e2 gMul (eV 4) (eV 7)) aNil)))) sNil)
  (sSeq (sIf (tB (e2 gEq (eV 8) (eC (.int 5)))) (sRet (eTup (aCons (e2 gAdd (e2 gAdd (e2 gAdd (e2 gAdd (e2 gAdd (e2 gAdd (e2 gAdd (eC (.str "(")) (eV 6)) (eC (.str " - "))) (eV 6)) (eC (.str "+"))) (e1 gStr (aCons (eV 4) aNil))) (eC (.str ")*"))) (eV 6)) (aCons (e2 gMul (eV 4) (eV 7)) aNil)))) sNil)
  (sSeq (sIf (tB (e2 gEq (eV 8) (eC (.int 6)))) (sRet (eTup (aCons (e2 gAdd (e2 gAdd (e2 gAdd (e2 gAdd (eC (.str "( ")) (eV 6)) (eC (.str "+"))) (e1 gStr (aCons (eV 4) aNil))) (eC (.str " )"))) (aCons (e2 gAdd (eV 7) (eV 4)) aNil)))) sNil)
  (sRet (eTup (aCons (e2 gAdd (e2 gAdd (e2 gAdd (e2 gAdd (e2 gAdd (eC (.str "(")) (eV 6)) (eC (.str "+"))) (e1 gStr (aCons (eV 4) aNil))) (eC (.str ")* 2 *"))) (e1 gStr (aCons (eV 4) aNil))) (aCons (e2 gMul (e2 gMul (e2 gAdd (eV 7) (eV 4)) (eC (.int 2))) (eV 4)) aNil))))))))))))) [.val (nmD nm), .val (.list (ps.map .int)), .val (.int n), .val (.int cell), .val (.int (u : Int)), .und, .und, .und, .und]) = some (.tuple [.str x', .int z]) ∧ T6 nm ps x' z t v := fun u hu9 => by
    have hu : u < 10 ^ 30 := by omega
    obtain ⟨su, sU⟩ := S.num hu
    have sX := S.nm hox
    have m1 : Md (u : Int) := md_small (by omega) (by omega)
    have m2 : Md p := bp.sz.md (by decide)
    have m3 : Md (2 : Int) := md_small (by decide) (by decide)
    have m4 : Md (p + (u : Int)) := (bp.add (bt_nF (nm := nm) hu).2.2).sz.md (by decide)
    have m5 : Md ((p + (u : Int)) * 2) := ((bp.add (bt_nF (nm := nm) hu).2.2).mul (bt_10 (n := 2) (by decide))).sz.md (by decide)
    have le : (eF nm x).1.length = (nF nm u).1.length := by
      show (nm.map _).length = (List.replicate nm.length (0 : Int)).length
      rw [List.length_map, List.length_replicate]
    have vn := evF_n (ps := ps) nm u
    have va := (evF_ad (ps := ps) le).trans (by rw [ee, vn])
    have vs := (evF_sc (ps := ps) (f := eF nm x) (u : Int)).trans (by rw [ee])
    have sn : SmF u (nF nm u) := SmF.n (Nat.le_refl _)
    have se : SmF 1 (eF nm x) := SmF.e
    have su1 : SmF (2 ^ 62) (scF (eF nm x) u) := (se.sc (u : Int)).mono (by rw [Int.natAbs_natCast]; omega)
    have cs : n % 8 = 0 ∨ n % 8 = 1 ∨ n % 8 = 2 ∨ n % 8 = 3 ∨ n % 8 = 4 ∨ n % 8 = 5 ∨ n % 8 = 6 ∨ n % 8 = 7 := by omega
    unfold nmD at gl ⊢
    rcases cs with h | h | h | h | h | h | h | h
    · refine ⟨_, _, _, _, ?_, t_num hu, sU.mono (by decide), vn.symm, sn.mono (by omega)⟩
      simp only [EVY, EV0, EV1, EV2, EV3, EV4, EV5, decide_true, decide_false, List.nil_append, List.cons_append, z512, z512', gl, pz, hi, a1, a2, z8, h, show ((0 : Int) = 0) = True from eq_true rfl, su]
    · refine ⟨_, _, _, _, ?_, t_nm hox hm, sX.mono (by decide), ee.symm, se.mono (by decide)⟩
      simp only [EVY, EV0, EV1, EV2, EV3, EV4, EV5, decide_true, decide_false, List.nil_append, List.cons_append, z512, z512', gl, pz, hi, a1, a2, z8, h, show decide ((1 : Int) = 0) = false from rfl, show decide ((1 : Int) < 3) = true from rfl]
    · refine ⟨_, _, _, _, ?_, t_nm hox hm, sX.mono (by decide), ee.symm, se.mono (by decide)⟩
      simp only [EVY, EV0, EV1, EV2, EV3, EV4, EV5, decide_true, decide_false, List.nil_append, List.cons_append, z512, z512', gl, pz, hi, a1, a2, z8, h, show decide ((2 : Int) = 0) = false from rfl, show decide ((2 : Int) < 3) = true from rfl]
    · obtain ⟨e1, s1⟩ := sU.add c_star2 (by decide)
      obtain ⟨e2, s2⟩ := s1.add sX (by decide)
      refine ⟨_, _, _, _, ?_, t_mulL hu hox hm, s2.mono (by decide), vs.symm, su1⟩
      simp only [EVY, EV0, EV1, EV2, EV3, EV4, EV5, decide_true, decide_false, List.nil_append, List.cons_append, z512, z512', gl, pz, hi, a1, a2, z8, h, show decide ((3 : Int) = 0) = false from rfl, show decide ((3 : Int) < 3) = false from rfl, show decide ((3 : Int) = 3) = true from rfl, su, e1, e2, m1, m2]
    · obtain ⟨e1, s1⟩ := sX.add c_star (by decide)
      obtain ⟨e2, s2⟩ := s1.add sU (by decide)
      refine ⟨_, _, _, _, ?_, t_mulR hu hox hm, s2.mono (by decide), vs.symm, su1⟩
      simp only [EVY, EV0, EV1, EV2, EV3, EV4, EV5, decide_true, decide_false, List.nil_append, List.cons_append, z512, z512', gl, pz, hi, a1, a2, z8, h, show decide ((4 : Int) = 0) = false from rfl, show decide ((4 : Int) < 3) = false from rfl, show decide ((4 : Int) = 3) = false from rfl, show decide ((4 : Int) = 4) = true from rfl, su, e1, e2, m1, m2]
    · obtain ⟨e1, s1⟩ := c_open.add sX (by decide)
      obtain ⟨e2, s2⟩ := s1.add c_minus2 (by decide)
      obtain ⟨e3, s3⟩ := s2.add sX (by decide)
      obtain ⟨e4, s4⟩ := s3.add c_plus (by decide)
      obtain ⟨e5, s5⟩ := s4.add sU (by decide)
      obtain ⟨e6, s6⟩ := s5.add c_cs (by decide)
      obtain ⟨e7, s7⟩ := s6.add sX (by decide)
      refine ⟨_, _, _, _, ?_, t_five hu hox hm, s7.mono (by decide), vs.symm, su1⟩
      simp only [EVY, EV0, EV1, EV2, EV3, EV4, EV5, decide_true, decide_false, List.nil_append, List.cons_append, z512, z512', gl, pz, hi, a1, a2, z8, h, show decide ((5 : Int) = 0) = false from rfl, show decide ((5 : Int) < 3) = false from rfl, show decide ((5 : Int) = 3) = false from rfl, show decide ((5 : Int) = 4) = false from rfl, show decide ((5 : Int) = 5) = true from rfl, su, e1, e2, e3, e4, e5, e6, e7, m1, m2]
    · obtain ⟨e1, s1⟩ := c_open1.add sX (by decide)
      obtain ⟨e2, s2⟩ := s1.add c_plus (by decide)
      obtain ⟨e3, s3⟩ := s2.add sU (by decide)
      obtain ⟨e4, s4⟩ := s3.add c_close1 (by decide)
      refine ⟨_, _, _, _, ?_, t_six hu hox hm, s4.mono (by decide), va.symm, (se.ad sn).mono (by omega)⟩
      simp only [EVY, EV0, EV1, EV2, EV3, EV4, EV5, decide_true, decide_false, List.nil_append, List.cons_append, z512, z512', gl, pz, hi, a1, a2, z8, h, show decide ((6 : Int) = 0) = false from rfl, show decide ((6 : Int) < 3) = false from rfl, show decide ((6 : Int) = 3) = false from rfl, show decide ((6 : Int) = 4) = false from rfl, show decide ((6 : Int) = 5) = false from rfl, show decide ((6 : Int) = 6) = true from rfl, su, e1, e2, e3, e4]
    · obtain ⟨e1, s1⟩ := c_open.add sX (by decide)
      obtain ⟨e2, s2⟩ := s1.add c_plus (by decide)
      obtain ⟨e3, s3⟩ := s2.add sU (by decide)
      obtain ⟨e4, s4⟩ := s3.add c_t2 (by decide)
      obtain ⟨e5, s5⟩ := s4.add sU (by decide)
      rw [← n_two] at s5
      have va2 : (p + (u : Int)) * 2 * (u : Int) = evF ps (scF (adF (eF nm x) (nF nm u)) (2 * u)) := by
        rw [evF_sc, va, Int.mul_assoc, Int.mul_comm]
      have us : (2 * (u : Int)).natAbs * (1 + u) ≤ 2 ^ 62 := by
        have : (2 * (u : Int)).natAbs = 2 * u := by omega
        rw [this]
        exact Nat.le_trans (Nat.mul_le_mul (show 2 * u ≤ 2 * 10 ^ 9 by omega) (show 1 + u ≤ 10 ^ 9 by omega)) (by decide)
      refine ⟨_, _, _, _, ?_, t_seven hu hox hm, s5.mono (by decide), va2, ((se.ad sn).sc _).mono us⟩
      simp only [EVY, EV0, EV1, EV2, EV3, EV4, EV5, decide_true, decide_false, List.nil_append, List.cons_append, z512, z512', gl, pz, hi, a1, a2, z8, h, show decide ((7 : Int) = 0) = false from rfl, show decide ((7 : Int) < 3) = false from rfl, show decide ((7 : Int) = 3) = false from rfl, show decide ((7 : Int) = 4) = false from rfl, show decide ((7 : Int) = 5) = false from rfl, show decide ((7 : Int) = 6) = false from rfl, su, e1, e2, e3, e4, e5, m1, m3, m4, m5]
  by_cases h : n / 8 % 4 = 0
  · have d := decide_eq_true h
    have c0 := Int.emod_nonneg cell (b := k) (by omega)
    have c1 := Int.emod_lt_of_pos cell k0
    obtain ⟨x', z, t, v, b1, b2⟩ := body (cell % k).toNat (by omega)
    rw [show (((cell % k).toNat : Nat) : Int) = cell % k by omega] at b1
    refine ⟨x', z, t, v, ?_, b2⟩
    rw [← b1]
    simp only [EVY, EV0, EV1, EV2, EV3, EV4, EV5, decide_true, decide_false, List.nil_append, List.cons_append, z64, z64', z4, z8, z8', d, z256, z256', z3, z3', p9, tw, k0]
  · have d := decide_eq_false h
    obtain ⟨x', z, t, v, b1, b2⟩ := body (n / 64 % 4).toNat (by omega)
    rw [show (((n / 64 % 4).toNat : Nat) : Int) = n / 64 % 4 by omega] at b1
    refine ⟨x', z, t, v, ?_, b2⟩
    rw [← b1]
    simp only [EVY, EV0, EV1, EV2, EV3, EV4, EV5, decide_true, decide_false, List.nil_append, List.cons_append, z64, z64', z4, z8, z8', d]
end
end
end DL
--SUMS
namespace DL
open PySem PySem.Spec L2 TL
noncomputable section
def B6 : Nat → Nat
  | 0 => 2 ^ 62
  | k + 1 => 4 * B6 k
theorem B6_ge : ∀ k, 2 ^ 62 ≤ B6 k
  | 0 => Nat.le_refl _
  | k + 1 => by have := B6_ge k; show _ ≤ 4 * B6 k; omega
theorem B6_le : ∀ k, k ≤ 60 → B6 k ≤ B6 60 := fun k hk => by
  have st : ∀ a b, B6 a ≤ B6 (a + b) := fun a b => by
    induction b with
    | zero => exact Nat.le_refl _
    | succ b ih => have : B6 (a + (b + 1)) = 4 * B6 (a + b) := rfl; omega
  have := st k (60 - k)
  rwa [show k + (60 - k) = 60 by omega] at this
structure G6 (nm : List Str) (ps : List Int) (x : Str) (z : Int) (d k : Nat) (w : Wh) (v : Fm) : Prop where
  wok : WOk nm w v d k
  s : S x w.tk (400 * k)
  zz : z = evF ps v
  sm : SmF (B6 k) v
theorem two_s2 {a b : Str} {t : List (List Nat)} {n r : Int} {m : Nat} (h1 : S a t m) (h2 : S b t m) (hr : r = 0 ∨ r = 1) : ∃ c, atI [PyData.str a, .str b] r = some (.str c) ∧ S c t m := by
  rcases hr with h | h <;> subst h
  · exact ⟨a, rfl, h1⟩
  · exact ⟨b, rfl, h2⟩
section
variable {nm : List Str} {ps : List Int}
theorem tgrown_ok (hd : nm.Nodup) (hne : nm ≠ []) (hn : nm.length ≤ 10) (ho : ∀ x ∈ nm, nmOk x) (hl : ps.length = nm.length) (hp : ∀ p ∈ ps, Bt 101 p) {n cell : Int} (h0 : 0 ≤ n) {x : Str} {z : Int} {d k : Nat} {w : Wh} {v : Fm} (g : G6 nm ps x z d k w v) (d1 : 1 ≤ d) (d9 : d ≤ 9) (k1 : k ≤ 100) :
    ∃ (x' : Str) (z' : Int) (d' : Nat) (w' : Wh) (v' : Fm), f_l_grown [.tuple [.str x, .int z, .int (d : Int)], nmD nm, .list (ps.map .int), .int n, .int cell] = some (.tuple [.str x', .int z', .int (d' : Int)]) ∧ G6 nm ps x' z' d' (k + 1) w' v' ∧ 1 ≤ d' ∧ d' ≤ 9 := by
  rw [fe_l_grown]
  unfold b_l_grown
  have z16 : (0 : Int) < 16 := by decide
  have z4 : (0 : Int) < 4 := by decide
  have z2 : (0 : Int) < 2 := by decide
  have z16' : (16 : Int) < 2 ^ 250 := by decide
  obtain ⟨y, zy, t, u, ft, ht⟩ := tterm_ok hd hne (by omega) ho hl hp (n := n / 16) (cell := cell) (by omega)
  obtain ⟨m, hm, m4⟩ : ∃ m : Nat, n / 16 % 4 = (m : Int) ∧ m < 4 := ⟨(n / 16 % 4).toNat, by omega, by omega⟩
  obtain ⟨su, sU⟩ := S.num (u := m) (by omega)
  have bz : Bt 390000 z := by
    rw [g.zz]
    have nl : nm.length ≤ 10 := hn
    refine (evF_bt g.wok.bd hp).mono ?_
    have : (230 * k + 101) * nm.length ≤ (230 * 100 + 101) * 10 := Nat.mul_le_mul (by omega) nl
    omega
  have mz : Md z := bz.sz.md (by decide)
  have mm : Md (m : Int) := md_small (by omega) (by omega)
  obtain ⟨pl, ap, sp⟩ := two_s2 (n := 0) (r := n % 16 % 2) (c_plus2) (c_plus.mono (by decide)) (by omega)
  obtain ⟨mi, am, smi⟩ := two_s2 (n := 0) (r := n % 16 % 2) (c_minus2) (c_minus.mono (by decide)) (by omega)
  have lu : v.1.length = u.1.length := by rw [g.wok.bd.1, ht.tok.bd.1]
  have sc1 : sgI false = 1 := rfl
  have ev1 : evF ps (adF v (scF u (sgI false))) = z + zy := by
    rw [sc1, sc_one, evF_ad lu, ← g.zz, ← ht.zz]
  have ev2 : evF ps (adF v (scF u (sgI true))) = z - zy := by
    rw [evF_ad (by rw [scF_len]; exact lu), evF_sc, ← g.zz, ← ht.zz]
    show z + -1 * zy = _
    omega
  have ev3 : evF ps (scF v (m : Int)) = z * m := by rw [evF_sc, ← g.zz, Int.mul_comm]
  have ev4 : evF ps (scF v (-1)) = 0 - z := by rw [evF_sc, ← g.zz]; omega
  have ev5 : evF ps (adF (scF u (-1)) v) = z - zy := by
    rw [evF_ad (by rw [scF_len]; exact lu.symm), evF_sc, ← g.zz, ← ht.zz]; omega
  have ev6 : evF ps (adF u (scF v (sgI true))) = zy - z := by
    rw [evF_ad (by rw [scF_len]; exact lu.symm), evF_sc, ← g.zz, ← ht.zz]
    show zy + -1 * z = _
    omega
  have ev7 : evF ps (adF u (scF v (sgI false))) = z + zy := by
    rw [sc1, sc_one, evF_ad lu.symm, ← g.zz, ← ht.zz]; omega
  have pk := B6_ge k
  have pk2 : B6 (k + 1) = 4 * B6 k := rfl
  have hv : SmF (B6 k) v := g.sm
  have hu : SmF (B6 k) u := ht.sm.mono pk
  have sg1 : ∀ b : Bool, (sgI b).natAbs = 1 := fun b => by cases b <;> rfl
  have q1 : ∀ b : Bool, SmF (B6 (k + 1)) (adF v (scF u (sgI b))) := fun b => (hv.ad (hu.sc _)).mono (by rw [sg1, pk2]; omega)
  have q2 : SmF (B6 (k + 1)) (scF v (m : Int)) := (hv.sc _).mono (by rw [pk2, Int.natAbs_natCast]; exact Nat.mul_le_mul_right _ (by omega))
  have q3 : SmF (B6 (k + 1)) (scF v (-1)) := (hv.sc _).mono (by rw [pk2, show (-1 : Int).natAbs = 1 from rfl]; omega)
  have q4 : SmF (B6 (k + 1)) (adF (scF u (-1)) v) := ((hu.sc _).ad hv).mono (by rw [pk2, show (-1 : Int).natAbs = 1 from rfl]; omega)
  have q5 : ∀ b : Bool, SmF (B6 (k + 1)) (adF u (scF v (sgI b))) := fun b => (hu.ad (hv.sc _)).mono (by rw [sg1, pk2]; omega)
  have q6 : SmF (B6 (k + 1)) v := hv.mono (by rw [pk2]; omega)
  have gs := g.s
  have ts := ht.s
  have gw := g.wok
  have tw := ht.tok
  have eP : (Te.one (.par 0 w 0)).tk = [[40]] ++ w.tk ++ [[41]] := rfl
  have dd : ((d : Int) + 1) = ((d + 1 : Nat) : Int) := rfl
  have fin : ∀ {x' : Str} {z' : Int} {d' : Nat} {w' : Wh} {v' : Fm} {tt : List (List Nat)} {n' : Nat}, WOk nm w' v' d' (k + 1) → S x' tt n' → tt = w'.tk → n' ≤ 400 * (k + 1) → evF ps v' = z' → SmF (B6 (k + 1)) v' → 1 ≤ d' → d' ≤ 9 → ∃ (x'' : Str) (z'' : Int) (d'' : Nat) (w'' : Wh) (v'' : Fm), some (PyData.tuple [.str x', .int z', .int (d' : Int)]) = some (.tuple [.str x'', .int z'', .int (d'' : Int)]) ∧ G6 nm ps x'' z'' d'' (k + 1) w'' v'' ∧ 1 ≤ d'' ∧ d'' ≤ 9 := fun {x' z' d' w' v' tt n'} h1 h2 h3 h4 h5 h6 h7 h8 => by
    subst h3
    exact ⟨x', z', d', w', v', rfl, ⟨h1, h2.mono h4, h5.symm, h6⟩, h7, h8⟩
  have inner := c_open.add gs (by omega)
  obtain ⟨i1, si⟩ := inner
  obtain ⟨i2, sI⟩ := si.add c_close (by omega)
  by_cases c6 : n % 16 < 6
  · have e6 := decide_eq_true c6
    obtain ⟨e1, s1⟩ := gs.add sp (by omega)
    obtain ⟨e2, s2⟩ := s1.add ts (by omega)
    simp only [EVY, EV0, EV1, EV2, EV3, EV4, EV5, decide_true, decide_false, List.nil_append, List.cons_append, z16, z16', z4, z2, ft, e6, hm, ap, e1, e2]
    exact fin (gw.add tw d1 false) s2 (by rw [List.append_assoc]; rfl) (by omega) ev1 (q1 false) d1 d9
  by_cases c8 : (8 : Int) < (d : Int)
  · have e6 := decide_eq_false c6
    have e8 := decide_eq_true c8
    obtain ⟨e1, s1⟩ := gs.add sp (by omega)
    obtain ⟨e2, s2⟩ := s1.add ts (by omega)
    simp only [EVY, EV0, EV1, EV2, EV3, EV4, EV5, decide_true, decide_false, List.nil_append, List.cons_append, z16, z16', z4, z2, ft, e6, e8, hm, ap, e1, e2, gt_iff_lt]
    exact fin (gw.add tw d1 false) s2 (by rw [List.append_assoc]; rfl) (by omega) ev1 (q1 false) d1 d9
  have e6 := decide_eq_false c6
  have e8 := decide_eq_false c8
  by_cases c9 : n % 16 < 9
  · have e9 := decide_eq_true c9
    obtain ⟨e1, s1⟩ := gs.add smi (by omega)
    obtain ⟨e2, s2⟩ := s1.add ts (by omega)
    simp only [EVY, EV0, EV1, EV2, EV3, EV4, EV5, decide_true, decide_false, List.nil_append, List.cons_append, z16, z16', z4, z2, ft, e6, e8, e9, hm, am, e1, e2, gt_iff_lt]
    exact fin (gw.add tw d1 true) s2 (by rw [List.append_assoc]; rfl) (by omega) ev2 (q1 true) d1 d9
  have e9 := decide_eq_false c9
  have cs : n % 16 = 9 ∨ n % 16 = 10 ∨ n % 16 = 11 ∨ n % 16 = 12 ∨ n % 16 = 13 ∨ n % 16 = 14 ∨ n % 16 = 15 := by omega
  rcases cs with h | h | h | h | h | h | h
  · obtain ⟨e1, s1⟩ := sI.add c_star (by omega)
    obtain ⟨e2, s2⟩ := s1.add sU (by omega)
    simp only [EVY, EV0, EV1, EV2, EV3, EV4, EV5, decide_true, decide_false, List.nil_append, List.cons_append, z16, z16', z4, z2, ft, e8, h, show decide ((9 : Int) < 6) = false from rfl, show decide ((9 : Int) < 9) = false from rfl, hm, i1, i2, su, e1, e2, mz, mm, gt_iff_lt, dd]
    exact fin (gw.timesR (n := m) (by omega)) s2 (by rw [List.append_assoc]; rfl) (by omega) ev3 q2 (by omega) (by omega)
  · obtain ⟨e1, s1⟩ := sU.add c_star1 (by omega)
    obtain ⟨e2, s2⟩ := s1.add sI (by omega)
    simp only [EVY, EV0, EV1, EV2, EV3, EV4, EV5, decide_true, decide_false, List.nil_append, List.cons_append, z16, z16', z4, z2, ft, e8, h, show decide ((10 : Int) < 6) = false from rfl, show decide ((10 : Int) < 9) = false from rfl, show decide ((10 : Int) = 9) = false from rfl, hm, i1, i2, su, e1, e2, mz, mm, gt_iff_lt, dd]
    exact fin (gw.timesL (n := m) (by omega)) s2 rfl (by omega) ev3 q2 (by omega) (by omega)
  · obtain ⟨e1, s1⟩ := c_minus.add sI (by omega)
    simp only [EVY, EV0, EV1, EV2, EV3, EV4, EV5, decide_true, decide_false, List.nil_append, List.cons_append, z16, z16', z4, z2, ft, e8, h, show decide ((11 : Int) < 6) = false from rfl, show decide ((11 : Int) < 9) = false from rfl, show decide ((11 : Int) = 9) = false from rfl, show decide ((11 : Int) = 10) = false from rfl, hm, i1, i2, e1, gt_iff_lt, dd]
    exact fin gw.minus s1 rfl (by omega) ev4 q3 (by omega) (by omega)
  · obtain ⟨e1, s1⟩ := c_minus2.add ts (by omega)
    obtain ⟨e2, s2⟩ := s1.add c_plus2 (by omega)
    obtain ⟨e3, s3⟩ := s2.add sI (by omega)
    simp only [EVY, EV0, EV1, EV2, EV3, EV4, EV5, decide_true, decide_false, List.nil_append, List.cons_append, z16, z16', z4, z2, ft, e8, h, show decide ((12 : Int) < 6) = false from rfl, show decide ((12 : Int) < 9) = false from rfl, show decide ((12 : Int) = 9) = false from rfl, show decide ((12 : Int) = 10) = false from rfl, show decide ((12 : Int) = 11) = false from rfl, hm, i1, i2, e1, e2, e3, gt_iff_lt, dd]
    exact fin (gw.aheadN tw) s3 (by rw [List.append_assoc]; rfl) (by omega) ev5 q4 (by omega) (by omega)
  · obtain ⟨e1, s1⟩ := ts.add c_minus (by omega)
    obtain ⟨e2, s2⟩ := s1.add sI (by omega)
    simp only [EVY, EV0, EV1, EV2, EV3, EV4, EV5, decide_true, decide_false, List.nil_append, List.cons_append, z16, z16', z4, z2, ft, e8, h, show decide ((13 : Int) < 6) = false from rfl, show decide ((13 : Int) < 9) = false from rfl, show decide ((13 : Int) = 9) = false from rfl, show decide ((13 : Int) = 10) = false from rfl, show decide ((13 : Int) = 11) = false from rfl, show decide ((13 : Int) = 12) = false from rfl, hm, i1, i2, e1, e2, gt_iff_lt, dd]
    exact fin (gw.ahead tw true) s2 (by rw [List.append_assoc]; rfl) (by omega) ev6 (q5 true) (by omega) (by omega)
  · obtain ⟨e1, s1⟩ := c_bl.add sI (by omega)
    obtain ⟨e2, s2⟩ := s1.add c_bl (by omega)
    simp only [EVY, EV0, EV1, EV2, EV3, EV4, EV5, decide_true, decide_false, List.nil_append, List.cons_append, z16, z16', z4, z2, ft, e8, h, show decide ((14 : Int) < 6) = false from rfl, show decide ((14 : Int) < 9) = false from rfl, show decide ((14 : Int) = 9) = false from rfl, show decide ((14 : Int) = 10) = false from rfl, show decide ((14 : Int) = 11) = false from rfl, show decide ((14 : Int) = 12) = false from rfl, show decide ((14 : Int) = 13) = false from rfl, hm, i1, i2, e1, e2, gt_iff_lt, dd]
    exact fin gw.inner s2 (by rw [List.append_nil]; rfl) (by omega) g.zz.symm q6 (by omega) (by omega)
  · obtain ⟨e1, s1⟩ := ts.add c_plus1 (by omega)
    obtain ⟨e2, s2⟩ := s1.add sI (by omega)
    simp only [EVY, EV0, EV1, EV2, EV3, EV4, EV5, decide_true, decide_false, List.nil_append, List.cons_append, z16, z16', z4, z2, ft, e8, h, show decide ((15 : Int) < 6) = false from rfl, show decide ((15 : Int) < 9) = false from rfl, show decide ((15 : Int) = 9) = false from rfl, show decide ((15 : Int) = 10) = false from rfl, show decide ((15 : Int) = 11) = false from rfl, show decide ((15 : Int) = 12) = false from rfl, show decide ((15 : Int) = 13) = false from rfl, show decide ((15 : Int) = 14) = false from rfl, hm, i1, i2, e1, e2, gt_iff_lt, dd]
    exact fin (gw.ahead tw false) s2 (by rw [List.append_assoc]; rfl) (by omega) ev7 (q5 false) (by omega) (by omega)
end
end
end DL
--SUMS
namespace DL
open PySem PySem.Spec L2 TL
noncomputable section
theorem cut_le {α : Type} {l : List α} {a b : Nat} : (cutD l (some (a : Int)) (some (b : Int))).length ≤ b - a := by
  unfold cutD
  rw [List.length_take, List.length_drop]
  have e : ∀ n d k : Nat, HT.sIx n d (some (k : Int)) = min k n := fun n d k => by
    show (if (k : Int) < 0 then ((k : Int) + (n : Int)).toNat else min (k : Int).toNat n) = min k n
    rw [if_neg (by omega), Int.toNat_natCast]
  rw [e, e]
  omega
theorem value_ok {k j : Nat} {f : Fm} {ps : List Int} (h : BtF k n f) (hk : k ≤ 390000) (hj : j ≤ 390000) (hp : ∀ p ∈ ps, Bt j p) : f_value_of [fmD f, .tuple (ps.map .int)] = some (.int (evF ps f)) := by
  have lc : lcF (tgT (tgCons (tgN 2) (tgCons (tgN 3) tgNil))) (fun _ => some true) (e2 gMul (eV 2) (eV 3)) [.val (fmD f), .val (.tuple (ps.map .int)), .und, .und] (zipD (f.1.map .int) (ps.map .int)) = some (((f.1.zip ps).map fun p => p.1 * p.2).map .int) := by
    rw [zip_map, List.map_map]
    refine lcF_map (fun p : Int × Int => PyData.tuple [.int p.1, .int p.2]) (fun p => .int (p.1 * p.2)) _ fun x hx => ⟨_, rfl, rfl, ?_⟩
    have m1 := (h.2.1 _ (List.of_mem_zip hx).1).sz.md (by omega)
    have m2 := (hp _ (List.of_mem_zip hx).2).sz.md (by omega)
    simp only [EVY, EV0, EV1, EV2, EV3, EV4, EV5, decide_true, decide_false, List.nil_append, List.cons_append, m1, m2]
  unfold fmD at lc ⊢
  rw [fe_value_of]
  unfold b_value_of
  simp only [EVY, EV0, EV1, EV2, EV3, EV4, EV5, decide_true, decide_false, List.nil_append, List.cons_append, at0, at1, wipeE, lc]
  rfl
theorem dot_rng : ∀ (a : List Int) (s i : Nat), dot a ((List.range' s a.length).map fun k => if k = i then (1 : Int) else 0) = if s ≤ i then a.getD (i - s) 0 else 0
  | [], s, i => by
    show (0 : Int) = _
    split
    · rfl
    · rfl
  | x :: a, s, i => by
    rw [List.length_cons, List.range'_succ, List.map_cons, dot_cons, dot_rng a (s + 1) i]
    by_cases h : s = i
    · subst h
      rw [if_pos rfl, if_neg (by omega), if_pos (Nat.le_refl _), Nat.sub_self]
      show x * 1 + 0 = x
      omega
    · rw [if_neg h]
      by_cases h2 : s ≤ i
      · rw [if_pos h2, if_pos (by omega), show i - s = (i - (s + 1)) + 1 by omega]
        show x * 0 + a.getD (i - (s + 1)) 0 = a.getD (i - (s + 1)) 0
        omega
      · rw [if_neg h2, if_neg (by omega)]
        omega
theorem evF_unit (f : Fm) (i : Nat) : evF ((List.range f.1.length).map fun k => if k = i then (1 : Int) else 0) f = f.2 + f.1.getD i 0 := by
  unfold evF
  rw [List.range_eq_range', dot_rng, if_pos (Nat.zero_le _), Nat.sub_zero]
  omega
theorem evF_zero (f : Fm) (n : Nat) : evF (List.replicate n 0) f = f.2 := by
  unfold evF
  rw [dot_repR]; omega
theorem ne_i (a : Int) : gNe (.int a) (.int a) = some (.bool false) := by rw [ev_ne, decide_eq_true rfl]; rfl
theorem law_true (ns : List Int) (h : ns.length ≤ 63) : f_law [.list (ns.map PyData.int)] = some (.bool true) := by
  rw [fe_law]
  unfold b_law
  have c0 : f_l_at [.list (ns.map .int), .int 0] = some (.int (atZ ns 0)) := at_ok (by decide) (by decide)
  have c1 : f_l_at [.list (ns.map .int), .int 1] = some (.int (atZ ns 1)) := at_ok (by decide) (by decide)
  obtain ⟨x0, a0, a1⟩ := mixZ_ok (n := atZ ns 0) (p := 1) (by decide) (by decide)
  generalize mixZ (atZ ns 0) 1 = m at x0 a0 a1
  obtain ⟨x3, b0, b1⟩ := mixZ_ok (n := atZ ns 1) (p := 3) (by decide) (by decide)
  generalize mixZ (atZ ns 1) 3 = m3 at x3 b0 b1
  generalize atZ ns 1 = cell at c1 x3
  obtain ⟨nm, f1, hne, hlen, hd, hn⟩ := names_ok (n := m) (most := 4) a0 (by decide) (by decide)
  have hl4 : nm.length ≤ 4 := hlen
  have gl : gLen [.list (nm.map PyData.str)] = some (.int (nm.length : Nat)) := by
    show some (PyData.int ((nm.map PyData.str).length : Nat)) = _
    rw [List.length_map]
  have q1 : -(2 ^ 62) ≤ ((nm.length : Nat) : Int) := by omega
  have q2 : ((nm.length : Nat) : Int) ≤ 16777216 := by omega
  have mA : Md 2 := md_small (by decide) (by decide)
  have mB : Md (10 ^ 30) := md_small (by decide) (by decide)
  have zb : (0 : Int) < 2 * 10 ^ 30 - 1 := by decide
  simp only [EVY, EV0, EV1, EV2, EV3, EV4, EV5, decide_true, decide_false, List.nil_append, List.cons_append, c0, x0, f1, gl, q1, q2, Int.toNat_natCast]
  obtain ⟨e, he, hI⟩ := forF_rng (lo := 0) (n := nm.length) (v := 4) (b := L_law_2) (env := [.brw (.list (ns.map .int)), .val (.int m), .val (.list (nm.map .str)), .lst [], .und, .und, .und, .und, .und, .und, .und, .und, .und])
    (fun i env => ∃ (ps : List Int) (c : C), env = [.brw (.list (ns.map .int)), .val (.int m), .val (.list (nm.map .str)), .lst (ps.map .int), c, .und, .und, .und, .und, .und, .und, .und, .und] ∧ ps.length = i ∧ ∀ p ∈ ps, Bt 101 p) ⟨[], _, rfl, rfl, fun p hp => by cases hp⟩ (fun i env hi hI => by
      obtain ⟨ps, c, rfl, h1, h2⟩ := hI
      have ca : f_l_at [.list (ns.map .int), .int (1 + (0 + (i : Int)))] = some (.int (atZ ns (1 + (0 + (i : Int))))) := at_ok (by omega) (by omega)
      generalize atZ ns (1 + (0 + (i : Int))) = z at ca
      have g0 := Int.emod_nonneg z (b := 2 * 10 ^ 30 - 1) (by decide)
      have g1 := Int.emod_lt_of_pos z zb
      have ll : (((ps.map PyData.int).length : Nat) : Int) < 16000000 := by rw [List.length_map]; omega
      unfold L_law_2
      simp only [EVY, EV0, EV1, EV2, EV3, EV4, EV5, decide_true, decide_false, List.nil_append, List.cons_append, ca, p30, mA, mB, zb, ll]
      refine ⟨ps ++ [z % (2 * 10 ^ 30 - 1) - 10 ^ 30 + 1], _, by rw [List.map_append]; rfl, by rw [List.length_append, h1]; rfl, fun p hp => ?_⟩
      rcases List.mem_append.mp hp with hp | hp
      · exact h2 p hp
      · rw [List.mem_singleton.mp hp]
        show (z % (2 * 10 ^ 30 - 1) - 10 ^ 30 + 1).natAbs + 1 ≤ 2 ^ 101
        omega)
  obtain ⟨ps, c4, rfl, pl, pb⟩ := hI
  rw [he]
  obtain ⟨x, z, t, v, ft, ht⟩ := tterm_ok (nm := nm) (ps := ps) hd hne (by omega) hn pl pb (n := m3) (cell := cell) b0
  have ft : f_l_term [.list (nm.map .str), .list (ps.map .int), .int m3, .int cell] = some (.tuple [.str x, .int z]) := ft
  have a3 : gAdd (.tuple [.str x, .int z]) (.tuple [.int 1]) = some (.tuple [.str x, .int z, .int 1]) := ev_add_tt (by show ((2 : Nat) : Int) + ((1 : Nat) : Int) ≤ _; decide)
  have cl : (cutD ns (some (2 : Int)) (some (38 : Int))).length ≤ 36 := cut_le (a := 2) (b := 38)
  generalize hcs : cutD ns (some (2 : Int)) (some (38 : Int)) = cs at cl
  simp only [EVY, EV0, EV1, EV2, EV3, EV4, EV5, decide_true, decide_false, List.nil_append, List.cons_append, c1, x3, ft, a3, hcs]
  obtain ⟨e, he2, hI⟩ := forF_inv (g := tgN 7) (b := L_law_1) (items := cs.map .int) (env := [.brw (.list (ns.map .int)), .val (.int m), .val (.list (nm.map .str)), .val (.list (ps.map .int)), c4, .val (.int cell), .val (.tuple [.str x, .int z, .int 1]), .und, .und, .und, .und, .und, .und])
    (fun i env => ∃ (x : Str) (z : Int) (d : Nat) (w : Wh) (v : Fm) (c7 : C), env = [.brw (.list (ns.map .int)), .val (.int m), .val (.list (nm.map .str)), .val (.list (ps.map .int)), c4, .val (.int cell), .val (.tuple [.str x, .int z, .int (d : Int)]), c7, .und, .und, .und, .und, .und] ∧ G6 nm ps x z d (i + 1) w v ∧ 1 ≤ d ∧ d ≤ 9)
    ⟨_, _, 1, .pos t, v, _, rfl, ⟨WOk.first ht.tok, ht.s.mono (by decide), ht.zz, ht.sm.mono (B6_ge 1)⟩, Nat.le_refl _, by decide⟩ (fun i d env hi hI => by
      obtain ⟨x, z, d', w, v', c7, rfl, g, g1, g2⟩ := hI
      have hi2 : i < (cs.map PyData.int).length := (List.getElem?_eq_some_iff.mp hi).1
      rw [List.length_map] at hi2
      rw [List.getElem?_map, List.getElem?_eq_getElem hi2] at hi
      cases hi
      obtain ⟨y0, n0, n1⟩ := mixZ_ok (n := cs[i]) (p := 4) (by decide) (by decide)
      generalize mixZ cs[i] 4 = n at y0 n0 n1
      obtain ⟨x2, z2, d2, w2, v2, fg, g3, g4, g5⟩ := tgrown_ok hd hne (by omega) hn pl pb (n := n) (cell := cs[i]) n0 g g1 g2 (by omega)
      have fg : f_l_grown [.tuple [.str x, .int z, .int (d' : Int)], .list (nm.map .str), .list (ps.map .int), .int n, .int cs[i]] = some (.tuple [.str x2, .int z2, .int (d2 : Int)]) := fg
      refine ⟨_, rfl, ?_⟩
      unfold L_law_1
      simp only [EVY, EV0, EV1, EV2, EV3, EV4, EV5, decide_true, decide_false, List.nil_append, List.cons_append, y0, fg]
      exact ⟨_, _, _, _, _, _, rfl, g3, g4, g5⟩)
  obtain ⟨x, z, d, w, v, c7, rfl, g, g1, g2⟩ := hI
  rw [he2]
  rw [List.length_map] at g
  obtain ⟨l, e, ex, hl⟩ := g.s.tx
  obtain ⟨w2, ew, s2⟩ := wh_lay w l hl
  have sl := g.s.ln
  have gw := g.wok
  obtain ⟨o, o1, o2, o3⟩ := read_cst (nm := nm) (s := x) (w := w2) (e := e) (v := v) (by rw [ex, ew]) (by omega) (s2.wf gw.wf) (by rw [s2.dep]; have := gw.dep; omega) (by rw [s2.td]; have := gw.td; omega) ((s2.val nm).trans gw.val) (by rw [s2.nms]; exact gw.nms)
  have rd0 := read_ok (names := nm) (s := x) (by omega) (by omega) o1 o3
  rw [o2] at rd0
  have rd := gX_ok (g := f_read_sum) (ds := [.list (nm.map .str), .str x]) (d := fmD v) rd0
  have vl := gw.bd.1
  have vb := gw.bd.mono (b := 390000) (by omega)
  have sm := g.sm.mono (B6_le (cs.length + 1) (by omega))
  have b6 : B6 60 < 2 ^ 200 := by decide
  have hc : ∀ c ∈ v.1, c.natAbs < 2 ^ 200 := fun c hc => Nat.lt_of_le_of_lt (sm.1 c hc) b6
  have hr : v.2.natAbs < 2 ^ 200 := Nat.lt_of_le_of_lt sm.2 b6
  have sh := (shown_ok (f := v) hn (by omega) hc hr).1
  have rd2 := gX_ok (g := f_read_sum) (ds := [nmD nm, .str (shS nm v)]) (round_ok hd hn vl (by omega) hc hr)
  unfold nmD at sh rd2
  have v1 := value_ok (ps := ps) vb (by decide) (j := 101) (by decide) pb
  rw [← g.zz] at v1
  have nz := ne_i z
  have nf : gNe (fmD v) (fmD v) = some (.bool false) := ev_ne_selfT (shaped_fm v)
  have mz := mulTA_zeros (n := nm.length) (by omega)
  have v0 := value_ok (ps := List.replicate nm.length 0) vb (by decide) (j := 101) (by decide) fun p hp => by rw [List.eq_of_mem_replicate hp]; exact Bt.zero
  rw [evF_zero, List.map_replicate] at v0
  have nr := ne_i v.2
  have gt : ∀ ds : List D, gTuple [.list ds] = some (.tuple ds) := fun _ => rfl
  have at_1 : gIxS (fmD v) (.int 1) = some (.int v.2) := ev_ixT.trans at1
  have at_0 : gIxS (fmD v) (.int 0) = some (.tuple (v.1.map .int)) := ev_ixT.trans at0
  have wi := whole_i (x := z)
  have i2 : ∀ a b c : D, atI [a, b, c] 1 = some b := fun _ _ _ => rfl
  have i1 : ∀ a b c : D, atI [a, b, c] 0 = some a := fun _ _ _ => rfl
  simp only [EVY, EV0, EV1, EV2, EV3, EV4, EV5, decide_true, decide_false, List.nil_append, List.cons_append, i1, i2, rd, gt, v1, wi, nz, sh, rd2, nf, gl, mz, v0, at_1, nr, q1, q2, Int.toNat_natCast]
  obtain ⟨e, he3, c, c11, rfl⟩ := forF_rng (lo := 0) (n := nm.length) (v := 4) (b := L_law_0) (env := [.brw (.list (ns.map .int)), .val (.int m), .val (.list (nm.map .str)), .val (.list (ps.map .int)), c4, .val (.int cell), .val (.tuple [.str x, .int z, .int (d : Int)]), c7, .val (fmD v), .val (.int z), .val (fmD v), .und, .und])
    (fun i env => ∃ c c11, env = [.brw (.list (ns.map .int)), .val (.int m), .val (.list (nm.map .str)), .val (.list (ps.map .int)), c, .val (.int cell), .val (.tuple [.str x, .int z, .int (d : Int)]), c7, .val (fmD v), .val (.int z), .val (fmD v), c11, .und]) ⟨_, _, rfl⟩ (fun i env hi hI => by
      obtain ⟨c, c11, rfl⟩ := hI
      have lc : ∀ c11, lcF (tgN 12) (fun _ => some true) (e1 gInt (aCons (e2 gEq (eV 12) (eV 4)) aNil)) [.brw (.list (ns.map .int)), .val (.int m), .val (.list (nm.map .str)), .val (.list (ps.map .int)), .val (.int (0 + (i : Int))), .val (.int cell), .val (.tuple [.str x, .int z, .int (d : Int)]), c7, .val (fmD v), .val (.int z), .val (fmD v), c11, .und] (rng 0 nm.length) = some (((List.range nm.length).map fun k => if k = i then (1 : Int) else 0).map .int) := fun c11 => by
        rw [rng_map, List.map_map]
        refine lcF_map (fun i : Nat => PyData.int (0 + (i : Int))) (fun k => .int (if k = i then (1 : Int) else 0)) _ fun k hk => ⟨_, rfl, rfl, ?_⟩
        simp only [EVY, EV0, EV1, EV2, EV3, EV4, EV5, decide_true, decide_false, List.nil_append, List.cons_append]
        by_cases h : k = i
        · rw [decide_eq_true (by omega), if_pos h]; rfl
        · rw [decide_eq_false (by omega), if_neg h]; rfl
      have vi := value_ok (ps := (List.range nm.length).map fun k => if k = i then (1 : Int) else 0) vb (by decide) (j := 101) (by decide) fun p hp => by
        obtain ⟨k, _, rfl⟩ := List.mem_map.mp hp
        show Bt 101 (if k = i then 1 else 0)
        split
        · exact bt_one (by decide)
        · exact Bt.zero
      rw [← vl, evF_unit, vl] at vi
      have ai : atI (v.1.map PyData.int) (0 + (i : Int)) = some (.int (v.1.getD i 0)) := by
        unfold atI
        rw [List.length_map, ixN_pos (by omega) (by omega), show (0 + (i : Int)).toNat = i by omega]
        show (v.1.map PyData.int)[i]? = _
        rw [List.getElem?_map, List.getD_eq_getElem?_getD, List.getElem?_eq_getElem (by omega)]; rfl
      have ni := ne_i (v.2 + v.1.getD i 0)
      unfold L_law_0
      simp only [EVY, EV0, EV1, EV2, EV3, EV4, EV5, decide_true, decide_false, List.nil_append, List.cons_append, gl, q1, q2, Int.toNat_natCast, wipeE, lc, gt, vi, at_0, at_1, ai, ni]
      exact ⟨_, _, rfl⟩)
  rw [he3]
  simp only [EVY, EV0, EV1, EV2, EV3, EV4, EV5, decide_true, decide_false, List.nil_append, List.cons_append]
end
end DL
namespace DL
open PySem PySem.Spec L2
section
variable {P : Program} {w : World} {K : PySem.W.Frag} {mg : Str → Option Value} {base : Heap}
theorem ok_NoText_init {f CB : Addr} {fd : FuncData} (F : Fun K "__init__" "NoText.__init__" s_NoText_init f fd) (bc : BaseC K mg "BookError" CB) : FnOk P w K mg base CX0 1 f fd ["self", "place"] (spI1 K "place") :=
  init1_ok F sc_NoText_init fun cdv A outer s H E => pss_cons (ps_expr (pe_binit (by rfl) bc.at_ bc.rd bc.sp bc.fc (pa_cons (pv 0) (pa_cons pe_str pa_nil)))) (pss_one (ps_ost (pv 0) (pv 1)))

theorem ok_NoName_init {f CB : Addr} {fd : FuncData} (F : Fun K "__init__" "NoName.__init__" s_NoName_init f fd) (bc : BaseC K mg "BookError" CB) : FnOk P w K mg base CX0 1 f fd ["self", "name", "place"] (spI2 K "name" "place") :=
  init2_ok F sc_NoName_init fun cdv A outer s H E => pss_cons (ps_expr (pe_binit (by rfl) bc.at_ bc.rd bc.sp bc.fc (pa_cons (pv 0) (pa_cons pe_str pa_nil)))) (pss_cons (ps_ost (pv 0) (pv 1)) (pss_one (ps_ost (pv 0) (pv 2))))

theorem ok_NotPlain_init {f CB : Addr} {fd : FuncData} (F : Fun K "__init__" "NotPlain.__init__" s_NotPlain_init f fd) (bc : BaseC K mg "BookError" CB) : FnOk P w K mg base CX0 1 f fd ["self", "place"] (spI1 K "place") :=
  init1_ok F sc_NotPlain_init fun cdv A outer s H E => pss_cons (ps_expr (pe_binit (by rfl) bc.at_ bc.rd bc.sp bc.fc (pa_cons (pv 0) (pa_cons pe_str pa_nil)))) (pss_one (ps_ost (pv 0) (pv 1)))

theorem ok_scaled {f : Addr} {fd : FuncData} (F : Fun K "scaled" "scaled" s_scaled f fd) (hm : mg "scaled" = some (.ref f)) (b : Binds K fd ["form", "many"] []) (B_tuple : mg "tuple" = none) : Callee P w K mg base 1 "scaled" [.fz, .fz] .fz f_scaled :=
  ⟨⟨f, fd, ["form", "many"], fn_pure F sc_scaled rfl rfl fun cdv A outer s H E G hr hW hw =>
  (dss_one (ds_ret (d_tup (da_cons (d_callT o_tuple (by rfl) B_tuple (by decide +kernel) (da_cons (d_lc [("number", 2)] rfl sc_scaled.nd (di_any (d_ix (d_var 0 (pv 0)) d_int (fun _ _ => rfl))) N_scaled (defScope s_scaled) (by decide +kernel) (fun _ _ _ _ _ => (dg_name 2 sc_scaled.nd rfl)) (fun _ _ _ _ _ => dif_nil) (fun _ _ _ _ _ => (d_bin o_mul (d_var 1 (pv 1)) (d_var 2 (pv 2))))) .vl da_nil)) .fz (da_cons (d_bin o_mul (d_var 1 (pv 1)) (d_ix (d_var 0 (pv 0)) d_int (fun _ _ => rfl))) .fz da_nil))))), hm, F.kp, b⟩⟩

theorem ok_added {f : Addr} {fd : FuncData} (F : Fun K "added" "added" s_added f fd) (hm : mg "added" = some (.ref f)) (b : Binds K fd ["one", "other"] []) (B_tuple : mg "tuple" = none) (B_zip : mg "zip" = none) : Callee P w K mg base 1 "added" [.fz, .fz] .fz f_added :=
  ⟨⟨f, fd, ["one", "other"], fn_pure F sc_added rfl rfl fun cdv A outer s H E G hr hW hw =>
  (dss_one (ds_ret (d_tup (da_cons (d_callT o_tuple (by rfl) B_tuple (by decide +kernel) (da_cons (d_lc [("x", 2), ("y", 3)] rfl sc_added.nd (di_zipG (by rfl) B_zip (d_ix (d_var 0 (pv 0)) d_int (fun _ _ => rfl)) (d_ix (d_var 1 (pv 1)) d_int (fun _ _ => rfl))) N_added (defScope s_added) (by decide +kernel) (fun _ _ _ _ _ => (dg_tup rfl (dgs_cons (dg_name 2 sc_added.nd rfl) (dgs_cons (dg_name 3 sc_added.nd rfl) dgs_nil)) rfl (fun _ _ _ h => tgCons_len (fun _ _ _ h => tgCons_len (fun _ _ _ h => tgNil_len h) h) h))) (fun _ _ _ _ _ => dif_nil) (fun _ _ _ _ _ => (d_bin o_add (d_var 2 (pv 2)) (d_var 3 (pv 3))))) .vl da_nil)) .fz (da_cons (d_bin o_add (d_ix (d_var 0 (pv 0)) d_int (fun _ _ => rfl)) (d_ix (d_var 1 (pv 1)) d_int (fun _ _ => rfl))) .fz da_nil))))), hm, F.kp, b⟩⟩

theorem ok_is_number {f : Addr} {fd : FuncData} (F : Fun K "is_number" "is_number" s_is_number f fd) (hm : mg "is_number" = some (.ref f)) (b : Binds K fd ["form"] []) : Callee P w K mg base 1 "is_number" [.fz] .fz f_is_number :=
  ⟨⟨f, fd, ["form"], fn_pure F sc_is_number rfl rfl fun cdv A outer s H E G hr hW hw =>
  (dss_one (ds_ret (d_cmp (o_eq (hu64 hr)) (d_lc [("number", 1)] rfl sc_is_number.nd (di_any (d_ix (d_var 0 (pv 0)) d_int (fun _ _ => rfl))) N_is_number (defScope s_is_number) (by decide +kernel) (fun _ _ _ _ _ => (dg_name 1 sc_is_number.nd rfl)) (fun _ _ _ _ _ => (dif_one (dt_cmp (o_ne (hu64 hr)) (d_var 1 (pv 1)) d_int (by first | exact nomark _ | rfl)))) (fun _ _ _ _ _ => (d_var 1 (pv 1)))) (d_lst da_nil) (by first | exact nomark _ | rfl)))), hm, F.kp, b⟩⟩

theorem ok_multiplied {f : Addr} {fd : FuncData} (F : Fun K "multiplied" "multiplied" s_multiplied f fd) (hm : mg "multiplied" = some (.ref f)) (b : Binds K fd ["one", "other", "place"] []) (c_is_number : Callee P w K mg base 1 "is_number" [.fz] .fz f_is_number) (c_scaled : Callee P w K mg base 1 "scaled" [.fz, .fz] .fz f_scaled) (xm_NotPlain : MkE P w K mg base 1 "NotPlain" ["place"] (spI1 K "place")) : CalX P w K mg base 3 "multiplied" [false, false, false] f_multiplied :=
  ⟨⟨f, fd, ["one", "other", "place"], fn_muX (ks := [false, false, false]) F sc_multiplied rfl fun cdv A outer s H E G hr hw =>
  (dss_cons (ds_if (dt_val (d_call c_is_number (hr.mono (by decide)) (by rfl) (da_cons (d_var 0 (pv 0)) .fz da_nil))) (dss_one (ds_retX (dx_of (dn_fz (d_call c_scaled (hr.mono (by decide)) (by rfl) (da_cons (d_var 1 (pv 1)) .fz (da_cons (d_ix (d_var 0 (pv 0)) d_int (fun _ _ => rfl)) .fz da_nil))))))) dss_nil)
  (dss_cons (ds_if (dt_val (d_call c_is_number (hr.mono (by decide)) (by rfl) (da_cons (d_var 1 (pv 1)) .fz da_nil))) (dss_one (ds_retX (dx_of (dn_fz (d_call c_scaled (hr.mono (by decide)) (by rfl) (da_cons (d_var 0 (pv 0)) .fz (da_cons (d_ix (d_var 1 (pv 1)) d_int (fun _ _ => rfl)) .fz da_nil))))))) dss_nil)
  (dss_one (ds_raise rfl (dmk_1 xm_NotPlain (hr.mono (by decide)) (by rfl) (d_var 2 (pv 2))))))), hm, F.kp, b⟩⟩

theorem ok_form_of {f : Addr} {fd : FuncData} (F : Fun K "form_of" "form_of" s_form_of f fd) (hm : mg "form_of" = some (.ref f)) (b : Binds K fd ["names", "tree"] []) {lv : Nat} {f_form_of : List T → Option Rz} (c_added : Callee P w K mg base 1 "added" [.fz, .fz] .fz f_added) (c_scaled : Callee P w K mg base 1 "scaled" [.fz, .fz] .fz f_scaled) (c_form_of : CalX P w K mg base lv "form_of" [false, false] f_form_of) (c_multiplied : CalX P w K mg base 3 "multiplied" [false, false, false] f_multiplied) (B_int : mg "int" = none) (B_len : mg "len" = none) (B_tuple : mg "tuple" = none) : CalX P w K mg base (lv + 4) "form_of" [false, false] (f_form_of_s f_form_of) :=
  ⟨⟨f, fd, ["names", "tree"], fn_muX (ks := [false, false]) F sc_form_of rfl fun cdv A outer s H E G hr hw =>
  (dss_cons (ds_if (dt_cmp (o_eq (hu64 hr)) (d_ix (d_var 1 (pv 1)) d_int (fun _ _ => rfl)) d_str (by first | exact nomark _ | rfl)) (dss_one (ds_retX (dx_of (dn_fz (d_tup (da_cons (d_bin o_mulTA (d_tup (da_cons d_int .fz da_nil)) (d_callB o_len (by rfl) B_len PySem.boot_len (da_cons (d_var 0 (pv 0)) .vw da_nil))) .fz (da_cons (d_ix (d_var 1 (pv 1)) d_int (fun _ _ => rfl)) .fz da_nil))))))) dss_nil)
  (dss_cons (ds_if (dt_cmp (o_eq (hu64 hr)) (d_ix (d_var 1 (pv 1)) d_int (fun _ _ => rfl)) d_str (by first | exact nomark _ | rfl)) (dss_one (ds_retX (dx_of (dn_fz (d_tup (da_cons (d_callT o_tuple (by rfl) B_tuple (by decide +kernel) (da_cons (d_lc [("name", 6)] rfl sc_form_of.nd (di_any (d_var 0 (pv 0))) N_form_of (defScope s_form_of) (by decide +kernel) (fun _ _ _ _ _ => (dg_name 6 sc_form_of.nd rfl)) (fun _ _ _ _ _ => dif_nil) (fun _ _ _ _ _ => (d_callT o_int (by rfl) B_int (by decide +kernel) (da_cons (d_cmp (o_eq (hu64 hr)) (d_var 6 (pv 6)) (d_ix (d_var 1 (pv 1)) d_int (fun _ _ => rfl)) (by first | exact nomark _ | rfl)) .vw da_nil)))) .vl da_nil)) .fz (da_cons d_int .fz da_nil))))))) dss_nil)
  (dss_cons (ds_if (dt_cmp (o_eq (hu64 hr)) (d_ix (d_var 1 (pv 1)) d_int (fun _ _ => rfl)) d_str (by first | exact nomark _ | rfl)) (dss_cons (ds_setY 2 sc_form_of.nd rfl (dy_callP c_form_of hw (hr.mono (by omega)) (by rfl) (dmp_ro (d_var 0 (pv 0)) (dmp_ro (d_ix (d_var 1 (pv 1)) d_int (fun _ _ => rfl)) dmp_nil))))
  (dss_one (ds_retY (dy_callY c_multiplied hw (hr.mono (by omega)) (by rfl) (dys_cons (d_var 2 (pv 2)) (dys_here (dy_callP c_form_of hw (hr.mono (by omega)) (by rfl) (dmp_ro (d_var 0 (pv 0)) (dmp_ro (d_ix (d_var 1 (pv 1)) d_int (fun _ _ => rfl)) dmp_nil))) (da_cons (d_ix (d_var 1 (pv 1)) d_int (fun _ _ => rfl)) .fz da_nil))) (ysCons_eq (ysHere_eq (aCons_eq aNil_eq))))))) dss_nil)
  (dss_cons (ds_set 3 sc_form_of.nd rfl (d_tup (da_cons (d_bin o_mulTA (d_tup (da_cons d_int .fz da_nil)) (d_callB o_len (by rfl) B_len PySem.boot_len (da_cons (d_var 0 (pv 0)) .vw da_nil))) .fz (da_cons d_int .fz da_nil))))
  (dss_cons (ds_for (passes_of rfl) rfl (di_any (d_ix (d_var 1 (pv 1)) d_int (fun _ _ => rfl))) (dg_tup rfl (dgs_cons (dg_name 4 sc_form_of.nd rfl) (dgs_cons (dg_name 5 sc_form_of.nd rfl) dgs_nil)) rfl (fun _ _ _ h => tgCons_len (fun _ _ _ h => tgCons_len (fun _ _ _ h => tgNil_len h) h) h))
  (dss_one (ds_setY 3 sc_form_of.nd rfl (dy_callD c_added (hr.mono (by omega)) (by rfl) (dys_cons (d_var 3 (pv 3)) (dys_here (dy_callD c_scaled (hr.mono (by omega)) (by rfl) (dys_here (dy_callP c_form_of hw (hr.mono (by omega)) (by rfl) (dmp_ro (d_var 0 (pv 0)) (dmp_ro (d_var 5 (pv 5)) dmp_nil))) (da_cons (d_var 4 (pv 4)) .fz da_nil)) (ysHere_eq (aCons_eq aNil_eq))) da_nil)) (ysCons_eq (ysHere_eq aNil_eq))))))
  (dss_one (ds_retX (dx_of (dn_fz (d_var 3 (pv 3))))))))))), hm, F.kp, b⟩⟩

theorem ok_Reader_init {C_ f : Addr} {fd : FuncData} (F : Fun K "__init__" "Reader.__init__" s_Reader_init f fd) (b : Binds K fd ["self", "text"] []) (nC : PySem.W.nsIn K mainGlobals "Reader" = some (some (.ref C_))) (mC : mg "Reader" = some (.ref C_)) (mk : Mk K C_ f) (hc_Reader : ClOk K "Reader") (nA_Reader_at : NoAt K "Reader" "at") (nA_Reader_names : NoAt K "Reader" "names") (nA_Reader_text : NoAt K "Reader" "text") : MakM P w K mg base 1 "Reader" 1 f_Reader_init :=
  ⟨⟨C_, f, fd, ["self", "text"], nC, mC, mk, fn_mu (ks := [true, false]) F sc_Reader_init rfl fun cdv A outer s H E G hr hw =>
  (dss_cons (ds_fldP "Reader" (dp_name 0 (pv 0)) (dx_of (dn_fz (d_var 1 (pv 1)))) hc_Reader nA_Reader_text)
  (dss_cons (ds_fldP "Reader" (dp_name 0 (pv 0)) (dx_of (dn_fz d_int)) hc_Reader nA_Reader_at)
  (dss_one (ds_fldP "Reader" (dp_name 0 (pv 0)) (dx_of (dn_ow (d_lst da_nil))) hc_Reader nA_Reader_names)))), b⟩⟩

theorem ok_Reader_ahead {C_ f : Addr} {fd : FuncData} (F : Fun K "ahead" "Reader.ahead" s_Reader_ahead f fd) (b : Binds K fd ["self"] []) (nC : PySem.W.nsIn K mainGlobals "Reader" = some (some (.ref C_))) (cl : Cls K C_) (me : Meth K C_ "ahead" f) (hc_Reader : ClOk K "Reader") (nA_Reader_at : NoAt K "Reader" "at") (nA_Reader_text : NoAt K "Reader" "text") : MetM P w K mg base 1 "Reader" "ahead" 0 f_Reader_ahead :=
  ⟨⟨C_, f, fd, ["self"], nC, cl, me, fn_mu (ks := [true]) F sc_Reader_ahead rfl fun cdv A outer s H E G hr hw =>
  (dss_cons (ds_while (fun _ => bigN) PassesOwn.never (dt_cmp (o_eq (hu64 hr)) (d_sl (d_rleaf (dr_attr "Reader" (dr_name 0 (pv 0)) hc_Reader nA_Reader_text)) (dp_some (d_rleaf (dr_attr "Reader" (dr_name 0 (pv 0)) hc_Reader nA_Reader_at))) (dp_some (d_bin o_add (d_rleaf (dr_attr "Reader" (dr_name 0 (pv 0)) hc_Reader nA_Reader_at)) d_int))) d_str (by first | exact nomark _ | rfl)) (dss_one (ds_fldAugP "Reader" (dp_name 0 (pv 0)) a_add d_int hc_Reader nA_Reader_at)))
  (dss_one (ds_retX (dx_of (dn_fz (d_sl (d_rleaf (dr_attr "Reader" (dr_name 0 (pv 0)) hc_Reader nA_Reader_text)) (dp_some (d_rleaf (dr_attr "Reader" (dr_name 0 (pv 0)) hc_Reader nA_Reader_at))) (dp_some (d_bin o_add (d_rleaf (dr_attr "Reader" (dr_name 0 (pv 0)) hc_Reader nA_Reader_at)) d_int)))))))), b⟩⟩

theorem ok_Reader_run_of {C_ f : Addr} {fd : FuncData} (F : Fun K "run_of" "Reader.run_of" s_Reader_run_of f fd) (b : Binds K fd ["self", "signs", "most"] []) (nC : PySem.W.nsIn K mainGlobals "Reader" = some (some (.ref C_))) (cl : Cls K C_) (me : Meth K C_ "run_of" f) (hc_Reader : ClOk K "Reader") (nA_Reader_at : NoAt K "Reader" "at") (nA_Reader_text : NoAt K "Reader" "text") (B_len : mg "len" = none) : MetM P w K mg base 1 "Reader" "run_of" 2 f_Reader_run_of :=
  ⟨⟨C_, f, fd, ["self", "signs", "most"], nC, cl, me, fn_mu (ks := [true, false, false]) F sc_Reader_run_of rfl fun cdv A outer s H E G hr hw =>
  (dss_cons (ds_set 3 sc_Reader_run_of.nd rfl (d_rleaf (dr_attr "Reader" (dr_name 0 (pv 0)) hc_Reader nA_Reader_at)))
  (dss_cons (ds_while (fun _ => bigN) PassesOwn.never (DW.t (dw_and (dt_cmp o_lt (d_rleaf (dr_attr "Reader" (dr_name 0 (pv 0)) hc_Reader nA_Reader_at)) (d_callB o_len (by rfl) B_len PySem.boot_len (da_cons (d_rleaf (dr_attr "Reader" (dr_name 0 (pv 0)) hc_Reader nA_Reader_text)) .vw da_nil)) (by first | exact nomark _ | rfl)) (dw_and (dt_cmp o_lt (d_bin o_sub (d_rleaf (dr_attr "Reader" (dr_name 0 (pv 0)) hc_Reader nA_Reader_at)) (d_var 3 (pv 3))) (d_var 2 (pv 2)) (by first | exact nomark _ | rfl)) (dw_and1 (dt_cmp o_inT (d_ix (d_rleaf (dr_attr "Reader" (dr_name 0 (pv 0)) hc_Reader nA_Reader_text)) (d_rleaf (dr_attr "Reader" (dr_name 0 (pv 0)) hc_Reader nA_Reader_at)) (fun _ _ => rfl)) (d_var 1 (pv 1)) (by first | exact nomark _ | rfl)))))) (dss_one (ds_fldAugP "Reader" (dp_name 0 (pv 0)) a_add d_int hc_Reader nA_Reader_at)))
  (dss_one (ds_retX (dx_of (dn_fz (d_sl (d_rleaf (dr_attr "Reader" (dr_name 0 (pv 0)) hc_Reader nA_Reader_text)) (dp_some (d_var 3 (pv 3))) (dp_some (d_rleaf (dr_attr "Reader" (dr_name 0 (pv 0)) hc_Reader nA_Reader_at)))))))))), b⟩⟩

theorem ok_Reader_factor {C_ f : Addr} {fd : FuncData} (F : Fun K "factor" "Reader.factor" s_Reader_factor f fd) (b : Binds K fd ["self"] []) (nC : PySem.W.nsIn K mainGlobals "Reader" = some (some (.ref C_))) (cl : Cls K C_) (me : Meth K C_ "factor" f) {lv : Nat} {f_Reader_whole : List T → Option Rz} (c_Reader_ahead : MetM P w K mg base 1 "Reader" "ahead" 0 f_Reader_ahead) (c_Reader_whole : MetMX P w K mg base lv "Reader" "whole" 0 f_Reader_whole) (c_Reader_run_of : MetM P w K mg base 1 "Reader" "run_of" 2 f_Reader_run_of) (hc_Reader : ClOk K "Reader") (nA_Reader_at : NoAt K "Reader" "at") (nA_Reader_names : NoAt K "Reader" "names") (nA_Reader_text : NoAt K "Reader" "text") (xm_NoText : MkE P w K mg base 1 "NoText" ["place"] (spI1 K "place")) (B_int : mg "int" = none) (B_len : mg "len" = none) (G_FIGURES : ∃ t, mg "FIGURES" = some (.str "0123456789" t)) (G_LETTERS : ∃ t, mg "LETTERS" = some (.str "abcdefghijklmnopqrstuvwxyz" t)) (G_LONGEST : ∃ t, mg "LONGEST" = some (.int 10 t)) : MetMX P w K mg base (lv + 4) "Reader" "factor" 0 (f_Reader_factor_s f_Reader_whole) :=
  ⟨⟨C_, f, fd, ["self"], nC, cl, me, fn_muX (ks := [true]) F sc_Reader_factor rfl fun cdv A outer s H E G hr hw =>
  (dss_cons (ds_setX 1 sc_Reader_factor.nd rfl (dx_meth0 c_Reader_ahead hw (hr.mono (by omega)) (dp_name 0 (pv 0))))
  (dss_cons (ds_if (dt_cmp (o_eq (hu64 hr)) (d_var 1 (pv 1)) d_str (by first | exact nomark _ | rfl)) (dss_cons (ds_fldAugP "Reader" (dp_name 0 (pv 0)) a_add d_int hc_Reader nA_Reader_at)
  (dss_one (ds_retX (dx_of (dn_fz (d_tup (da_cons d_str .fz (da_cons d_int .fz da_nil)))))))) dss_nil)
  (dss_cons (ds_if (DW.t (dw_and (dt_cmp (o_ne (hu64 hr)) (d_var 1 (pv 1)) d_str (by first | exact nomark _ | rfl)) (dw_and1 (dt_cmp o_inT (d_var 1 (pv 1)) (d_glob (v := .str "0123456789") (by rfl) G_FIGURES.choose_spec ⟨_, rfl⟩ (.str _)) (by first | exact nomark _ | rfl))))) (dss_one (ds_retY (dy_tup (dys_cons d_str (dys_here (dy_x (dx_callT1 o_intT (by rfl) B_int (by decide +kernel) (dx_meth c_Reader_run_of hw (hr.mono (by omega)) (dp_name 0 (pv 0)) (drs_cons (dr_fz (d_glob (v := .str "0123456789") (by rfl) G_FIGURES.choose_spec ⟨_, rfl⟩ (.str _))) (drs_cons (dr_fz (d_callB o_len (by rfl) B_len PySem.boot_len (da_cons (d_rleaf (dr_attr "Reader" (dr_name 0 (pv 0)) hc_Reader nA_Reader_text)) .vw da_nil))) drs_nil)) (nsCons_len (nsCons_len (fun _ _ h => nsNil_len h)))))) da_nil)) (ysCons_len (ysHere_len aNil_len))))) dss_nil)
  (dss_cons (ds_if (DW.t (dw_and (dt_cmp (o_ne (hu64 hr)) (d_var 1 (pv 1)) d_str (by first | exact nomark _ | rfl)) (dw_and1 (dt_cmp o_inT (d_var 1 (pv 1)) (d_glob (v := .str "abcdefghijklmnopqrstuvwxyz") (by rfl) G_LETTERS.choose_spec ⟨_, rfl⟩ (.str _)) (by first | exact nomark _ | rfl))))) (dss_cons (ds_set 2 sc_Reader_factor.nd rfl (d_rleaf (dr_attr "Reader" (dr_name 0 (pv 0)) hc_Reader nA_Reader_at)))
  (dss_cons (ds_setX 3 sc_Reader_factor.nd rfl (dx_meth c_Reader_run_of hw (hr.mono (by omega)) (dp_name 0 (pv 0)) (drs_cons (dr_fz (d_glob (v := .str "abcdefghijklmnopqrstuvwxyz") (by rfl) G_LETTERS.choose_spec ⟨_, rfl⟩ (.str _))) (drs_cons (dr_fz (d_glob (v := .int 10) (by rfl) G_LONGEST.choose_spec ⟨_, rfl⟩ (.int _))) drs_nil)) (nsCons_len (nsCons_len (fun _ _ h => nsNil_len h)))))
  (dss_cons (ds_exprX (dx_appP (dp_attr "Reader" (dp_name 0 (pv 0)) hc_Reader nA_Reader_names) (dn_fz (d_tup (da_cons (d_var 3 (pv 3)) .fz (da_cons (d_var 2 (pv 2)) .fz da_nil))))))
  (dss_one (ds_retX (dx_of (dn_fz (d_tup (da_cons d_str .fz (da_cons (d_var 3 (pv 3)) .fz da_nil)))))))))) dss_nil)
  (dss_cons (ds_if (dt_cmp (o_ne (hu64 hr)) (d_var 1 (pv 1)) d_str (by first | exact nomark _ | rfl)) (dss_one (ds_raise rfl (dmk_1 xm_NoText (hr.mono (by omega)) (by rfl) (d_rleaf (dr_attr "Reader" (dr_name 0 (pv 0)) hc_Reader nA_Reader_at))))) dss_nil)
  (dss_cons (ds_fldAugP "Reader" (dp_name 0 (pv 0)) a_add d_int hc_Reader nA_Reader_at)
  (dss_cons (ds_setY 4 sc_Reader_factor.nd rfl (dy_meth0 c_Reader_whole hw (hr.mono (by omega)) (dp_name 0 (pv 0))))
  (dss_cons (ds_ifX (dtx_cmp (o_ne (hu64 hr)) (dx_meth0 c_Reader_ahead hw (hr.mono (by omega)) (dp_name 0 (pv 0))) d_str (by first | exact nomark _ | rfl)) (dss_one (ds_raise rfl (dmk_1 xm_NoText (hr.mono (by omega)) (by rfl) (d_rleaf (dr_attr "Reader" (dr_name 0 (pv 0)) hc_Reader nA_Reader_at))))) dss_nil)
  (dss_cons (ds_fldAugP "Reader" (dp_name 0 (pv 0)) a_add d_int hc_Reader nA_Reader_at)
  (dss_one (ds_retX (dx_of (dn_fz (d_var 4 (pv 4))))))))))))))), b⟩⟩

theorem ok_Reader_term {C_ f : Addr} {fd : FuncData} (F : Fun K "term" "Reader.term" s_Reader_term f fd) (b : Binds K fd ["self"] []) (nC : PySem.W.nsIn K mainGlobals "Reader" = some (some (.ref C_))) (cl : Cls K C_) (me : Meth K C_ "term" f) {lv : Nat} {f_Reader_factor : List T → Option Rz} (c_Reader_ahead : MetM P w K mg base 1 "Reader" "ahead" 0 f_Reader_ahead) (c_Reader_factor : MetMX P w K mg base lv "Reader" "factor" 0 f_Reader_factor) (hc_Reader : ClOk K "Reader") (nA_Reader_at : NoAt K "Reader" "at") : MetMX P w K mg base (lv + 4) "Reader" "term" 0 (f_Reader_term_s f_Reader_factor) :=
  ⟨⟨C_, f, fd, ["self"], nC, cl, me, fn_muX (ks := [true]) F sc_Reader_term rfl fun cdv A outer s H E G hr hw =>
  (dss_cons (ds_setY 1 sc_Reader_term.nd rfl (dy_meth0 c_Reader_factor hw (hr.mono (by omega)) (dp_name 0 (pv 0))))
  (dss_cons (ds_whileX (fun _ => bigN) (passes_of rfl) (dtx_cmp (o_eq (hu64 hr)) (dx_meth0 c_Reader_ahead hw (hr.mono (by omega)) (dp_name 0 (pv 0))) d_str (by first | exact nomark _ | rfl)) (dss_cons (ds_set 2 sc_Reader_term.nd rfl (d_rleaf (dr_attr "Reader" (dr_name 0 (pv 0)) hc_Reader nA_Reader_at)))
  (dss_cons (ds_fldAugP "Reader" (dp_name 0 (pv 0)) a_add d_int hc_Reader nA_Reader_at)
  (dss_one (ds_setY 1 sc_Reader_term.nd rfl (dy_tup (dys_cons d_str (dys_cons (d_var 1 (pv 1)) (dys_here (dy_meth0 c_Reader_factor hw (hr.mono (by omega)) (dp_name 0 (pv 0))) (da_cons (d_var 2 (pv 2)) .fz da_nil)))) (ysCons_len (ysCons_len (ysHere_len (aCons_len aNil_len))))))))))
  (dss_one (ds_retX (dx_of (dn_fz (d_var 1 (pv 1)))))))), b⟩⟩

theorem ok_Reader_whole {C_ f : Addr} {fd : FuncData} (F : Fun K "whole" "Reader.whole" s_Reader_whole f fd) (b : Binds K fd ["self"] []) (nC : PySem.W.nsIn K mainGlobals "Reader" = some (some (.ref C_))) (cl : Cls K C_) (me : Meth K C_ "whole" f) {lv : Nat} {f_Reader_term : List T → Option Rz} (c_Reader_ahead : MetM P w K mg base 1 "Reader" "ahead" 0 f_Reader_ahead) (c_Reader_term : MetMX P w K mg base lv "Reader" "term" 0 f_Reader_term) (hc_Reader : ClOk K "Reader") (nA_Reader_at : NoAt K "Reader" "at") : MetMX P w K mg base (lv + 4) "Reader" "whole" 0 (f_Reader_whole_s f_Reader_term) :=
  ⟨⟨C_, f, fd, ["self"], nC, cl, me, fn_muX (ks := [true]) F sc_Reader_whole rfl fun cdv A outer s H E G hr hw =>
  (dss_cons (ds_set 1 sc_Reader_whole.nd rfl d_int)
  (dss_cons (ds_ifX (dtx_cmp (o_eq (hu64 hr)) (dx_meth0 c_Reader_ahead hw (hr.mono (by omega)) (dp_name 0 (pv 0))) d_str (by first | exact nomark _ | rfl)) (dss_cons (ds_fldAugP "Reader" (dp_name 0 (pv 0)) a_add d_int hc_Reader nA_Reader_at)
  (dss_one (ds_set 1 sc_Reader_whole.nd rfl (d_neg d_int)))) dss_nil)
  (dss_cons (ds_setY 2 sc_Reader_whole.nd rfl (dy_lst (dys_here (dy_tup (dys_cons (d_var 1 (pv 1)) (dys_here (dy_meth0 c_Reader_term hw (hr.mono (by omega)) (dp_name 0 (pv 0))) da_nil)) (ysCons_len (ysHere_len aNil_len))) da_nil) (ysHere_len aNil_len)))
  (dss_cons (ds_setX 3 sc_Reader_whole.nd rfl (dx_meth0 c_Reader_ahead hw (hr.mono (by omega)) (dp_name 0 (pv 0))))
  (dss_cons (ds_while (fun _ => bigN) (passes_of rfl) (DW.t (dw_or (dt_cmp (o_eq (hu64 hr)) (d_var 3 (pv 3)) d_str (by first | exact nomark _ | rfl)) (dw_or1 (dt_cmp (o_eq (hu64 hr)) (d_var 3 (pv 3)) d_str (by first | exact nomark _ | rfl))))) (dss_cons (ds_fldAugP "Reader" (dp_name 0 (pv 0)) a_add d_int hc_Reader nA_Reader_at)
  (dss_cons (ds_set 1 sc_Reader_whole.nd rfl d_int)
  (dss_cons (ds_if (dt_cmp (o_eq (hu64 hr)) (d_var 3 (pv 3)) d_str (by first | exact nomark _ | rfl)) (dss_one (ds_set 1 sc_Reader_whole.nd rfl (d_neg d_int))) dss_nil)
  (dss_cons (ds_exprY (dy_appX 2 (pv 2) (dy_tup (dys_cons (d_var 1 (pv 1)) (dys_here (dy_meth0 c_Reader_term hw (hr.mono (by omega)) (dp_name 0 (pv 0))) da_nil)) (ysCons_len (ysHere_len aNil_len)))))
  (dss_one (ds_setX 3 sc_Reader_whole.nd rfl (dx_meth0 c_Reader_ahead hw (hr.mono (by omega)) (dp_name 0 (pv 0))))))))))
  (dss_fzT 2 (dss_one (ds_retX (dx_of (dn_fz (d_tup (da_cons d_str .fz (da_cons (d_var 2 (pv 2)) .fz da_nil))))))))))))), b⟩⟩

theorem ok_read_sum {f : Addr} {fd : FuncData} (F : Fun K "read_sum" "read_sum" s_read_sum f fd) (hm : mg "read_sum" = some (.ref f)) (b : Binds K fd ["names", "text"] []) (c_form_of : CalX P w K mg base 216 "form_of" [false, false] f_form_of) (c_Reader_ahead : MetM P w K mg base 1 "Reader" "ahead" 0 f_Reader_ahead) (c_Reader_whole : MetMX P w K mg base 216 "Reader" "whole" 0 f_Reader_whole) (c_Reader_init : MakM P w K mg base 1 "Reader" 1 f_Reader_init) (hc_Reader : ClOk K "Reader") (nA_Reader_at : NoAt K "Reader" "at") (nA_Reader_names : NoAt K "Reader" "names") (xm_NoName : MkE P w K mg base 1 "NoName" ["name", "place"] (spI2 K "name" "place")) (xm_NoText : MkE P w K mg base 1 "NoText" ["place"] (spI1 K "place")) : CalX P w K mg base 217 "read_sum" [false, false] f_read_sum :=
  ⟨⟨f, fd, ["names", "text"], fn_muX (ks := [false, false]) F sc_read_sum rfl fun cdv A outer s H E G hr hw =>
  (dss_cons (ds_setX 2 sc_read_sum.nd rfl (dx_of (dn_make c_Reader_init hw (hr.mono (by decide)) (by rfl) (drs_cons (dr_fz (d_var 1 (pv 1))) drs_nil) (nsCons_len (fun _ _ h => nsNil_len h)))))
  (dss_cons (ds_setY 3 sc_read_sum.nd rfl (dy_meth0 c_Reader_whole hw (hr.mono (by decide)) (dp_name 2 (pv 2))))
  (dss_cons (ds_ifX (dtx_cmp (o_ne (hu64 hr)) (dx_meth0 c_Reader_ahead hw (hr.mono (by decide)) (dp_name 2 (pv 2))) d_str (by first | exact nomark _ | rfl)) (dss_one (ds_raise rfl (dmk_1 xm_NoText (hr.mono (by decide)) (by rfl) (d_rleaf (dr_attr "Reader" (dr_name 2 (pv 2)) hc_Reader nA_Reader_at))))) dss_nil)
  (dss_frz 2 [2] (dss_cons (ds_for (passes_of rfl) rfl (di_any (d_rlf (dr_attr "Reader" (dr_name 2 (pv 2)) hc_Reader nA_Reader_names))) (dg_tup rfl (dgs_cons (dg_name 4 sc_read_sum.nd rfl) (dgs_cons (dg_name 5 sc_read_sum.nd rfl) dgs_nil)) rfl (fun _ _ _ h => tgCons_len (fun _ _ _ h => tgCons_len (fun _ _ _ h => tgNil_len h) h) h))
  (dss_one (ds_if (dt_cmp (o_notIn (hu65 hr)) (d_var 4 (pv 4)) (d_var 0 (pv 0)) (by first | exact nomark _ | rfl)) (dss_one (ds_raise rfl (dmk_2 xm_NoName (hr.mono (by decide)) (by rfl) (d_var 4 (pv 4)) (d_var 5 (pv 5))))) dss_nil)))
  (dss_one (ds_retY (dy_callP c_form_of hw (hr.mono (by decide)) (by rfl) (dmp_ro (d_var 0 (pv 0)) (dmp_ro (d_var 3 (pv 3)) dmp_nil)))))))))), hm, F.kp, b⟩⟩

theorem ok_shown_sum {f : Addr} {fd : FuncData} (F : Fun K "shown_sum" "shown_sum" s_shown_sum f fd) (hm : mg "shown_sum" = some (.ref f)) (b : Binds K fd ["names", "form"] []) (B_abs : mg "abs" = none) (B_str : mg "str" = none) (B_zip : mg "zip" = none) : Callee P w K mg base 1 "shown_sum" [.fz, .fz] .fz f_shown_sum :=
  ⟨⟨f, fd, ["names", "form"], fn_pure F sc_shown_sum rfl rfl fun cdv A outer s H E G hr hW hw =>
  (dss_cons (ds_setL 2 sc_shown_sum.nd rfl (d_lst da_nil))
  (dss_cons (ds_for PassesOwn.never rfl (di_zipG (by rfl) B_zip (d_var 0 (pv 0)) (d_ix (d_var 1 (pv 1)) d_int (fun _ _ => rfl))) (dg_tup rfl (dgs_cons (dg_name 3 sc_shown_sum.nd rfl) (dgs_cons (dg_name 4 sc_shown_sum.nd rfl) dgs_nil)) rfl (fun _ _ _ h => tgCons_len (fun _ _ _ h => tgCons_len (fun _ _ _ h => tgNil_len h) h) h))
  (dss_one (ds_if (dt_cmp (o_eq (hu64 hr)) (d_callB o_abs (by rfl) B_abs (by decide +kernel) (da_cons (d_var 4 (pv 4)) .vw da_nil)) d_int (by first | exact nomark _ | rfl)) (dss_one (ds_app 2 (pv 2) (d_tup (da_cons (d_var 4 (pv 4)) .fz (da_cons (d_var 3 (pv 3)) .fz da_nil))))) (dss_one (ds_if (dt_cmp (o_ne (hu64 hr)) (d_var 4 (pv 4)) d_int (by first | exact nomark _ | rfl)) (dss_one (ds_app 2 (pv 2) (d_tup (da_cons (d_var 4 (pv 4)) .fz (da_cons (d_bin o_add (d_bin o_add (d_callT o_str (by rfl) B_str (by decide +kernel) (da_cons (d_callB o_abs (by rfl) B_abs (by decide +kernel) (da_cons (d_var 4 (pv 4)) .vw da_nil)) .vw da_nil)) d_str) (d_var 3 (pv 3))) .fz da_nil))))) dss_nil)))))
  (dss_cons (ds_if (DW.t (dw_or (dt_cmp (o_ne (hu64 hr)) (d_ix (d_var 1 (pv 1)) d_int (fun _ _ => rfl)) d_int (by first | exact nomark _ | rfl)) (dw_or1 (dt_cmp (o_eq (hu64 hr)) (d_varL 2 (pv 2)) (d_lst da_nil) (by first | exact nomark _ | rfl))))) (dss_one (ds_app 2 (pv 2) (d_tup (da_cons (d_ix (d_var 1 (pv 1)) d_int (fun _ _ => rfl)) .fz (da_cons (d_callT o_str (by rfl) B_str (by decide +kernel) (da_cons (d_callB o_abs (by rfl) B_abs (by decide +kernel) (da_cons (d_ix (d_var 1 (pv 1)) d_int (fun _ _ => rfl)) .vw da_nil)) .vw da_nil)) .fz da_nil))))) dss_nil)
  (dss_cons (ds_set 5 sc_shown_sum.nd rfl d_str)
  (dss_fz 2 (dss_cons (ds_for PassesOwn.never rfl (di_any (d_var 2 (pv 2))) (dg_tup rfl (dgs_cons (dg_name 4 sc_shown_sum.nd rfl) (dgs_cons (dg_name 6 sc_shown_sum.nd rfl) dgs_nil)) rfl (fun _ _ _ h => tgCons_len (fun _ _ _ h => tgCons_len (fun _ _ _ h => tgNil_len h) h) h))
  (dss_one (ds_if (DW.t (dw_and (dt_cmp (o_ne (hu64 hr)) (d_var 5 (pv 5)) d_str (by first | exact nomark _ | rfl)) (dw_and1 (dt_cmp o_lt (d_var 4 (pv 4)) d_int (by first | exact nomark _ | rfl))))) (dss_one (ds_aug 5 sc_shown_sum.nd rfl a_add (d_bin o_add d_str (d_var 6 (pv 6))))) (dss_one (ds_if (dt_cmp (o_ne (hu64 hr)) (d_var 5 (pv 5)) d_str (by first | exact nomark _ | rfl)) (dss_one (ds_aug 5 sc_shown_sum.nd rfl a_add (d_bin o_add d_str (d_var 6 (pv 6))))) (dss_one (ds_if (dt_cmp o_lt (d_var 4 (pv 4)) d_int (by first | exact nomark _ | rfl)) (dss_one (ds_set 5 sc_shown_sum.nd rfl (d_bin o_add d_str (d_var 6 (pv 6))))) (dss_one (ds_set 5 sc_shown_sum.nd rfl (d_var 6 (pv 6)))))))))))
  (dss_one (ds_ret (d_var 5 (pv 5)))))))))), hm, F.kp, b⟩⟩

theorem ok_value_of {f : Addr} {fd : FuncData} (F : Fun K "value_of" "value_of" s_value_of f fd) (hm : mg "value_of" = some (.ref f)) (b : Binds K fd ["form", "values"] []) (B_sum : mg "sum" = none) (B_zip : mg "zip" = none) : Callee P w K mg base 1 "value_of" [.fz, .fz] .fz f_value_of :=
  ⟨⟨f, fd, ["form", "values"], fn_pure F sc_value_of rfl rfl fun cdv A outer s H E G hr hW hw =>
  (dss_one (ds_ret (d_bin o_add (d_callB (o_sum rfl) (by rfl) B_sum (by decide +kernel) (da_cons (d_lc [("many", 2), ("value", 3)] rfl sc_value_of.nd (di_zipG (by rfl) B_zip (d_ix (d_var 0 (pv 0)) d_int (fun _ _ => rfl)) (d_var 1 (pv 1))) N_value_of (defScope s_value_of) (by decide +kernel) (fun _ _ _ _ _ => (dg_tup rfl (dgs_cons (dg_name 2 sc_value_of.nd rfl) (dgs_cons (dg_name 3 sc_value_of.nd rfl) dgs_nil)) rfl (fun _ _ _ h => tgCons_len (fun _ _ _ h => tgCons_len (fun _ _ _ h => tgNil_len h) h) h))) (fun _ _ _ _ _ => dif_nil) (fun _ _ _ _ _ => (d_bin o_mul (d_var 2 (pv 2)) (d_var 3 (pv 3))))) .vw da_nil)) (d_ix (d_var 0 (pv 0)) d_int (fun _ _ => rfl))))), hm, F.kp, b⟩⟩

theorem ok_l_at {f : Addr} {fd : FuncData} (F : Fun K "_law_at" "_law_at" s_l_at f fd) (hm : mg "_law_at" = some (.ref f)) (b : Binds K fd ["_law_script", "_law_k"] []) (B_len : mg "len" = none) : Callee P w K mg base 1 "_law_at" [.vw, .fz] .fz f_l_at :=
  ⟨⟨f, fd, ["_law_script", "_law_k"], fn_pure F sc_l_at rfl rfl fun cdv A outer s H E G hr hW hw =>
  (dss_cons (ds_if (dt_cmp o_lt (d_var 1 (pv 1)) (d_callB o_len (by rfl) B_len PySem.boot_len (da_cons (d_varB 0 (pv 0)) .vw da_nil)) (by first | exact nomark _ | rfl)) (dss_one (ds_ret (d_scal (d_ixB (d_varB 0 (pv 0)) (d_var 1 (pv 1)) (fun _ _ => rfl))))) dss_nil)
  (dss_one (ds_ret (d_bin o_add (d_bin o_mul d_int (d_var 1 (pv 1))) d_int)))), hm, F.kp, b⟩⟩

theorem ok_l_mix {f : Addr} {fd : FuncData} (F : Fun K "_law_mix" "_law_mix" s_l_mix f fd) (hm : mg "_law_mix" = some (.ref f)) (b : Binds K fd ["_law_number", "_law_place"] []) (B_range : mg "range" = none) : Callee P w K mg base 1 "_law_mix" [.fz, .fz] .fz f_l_mix :=
  ⟨⟨f, fd, ["_law_number", "_law_place"], fn_pure F sc_l_mix rfl rfl fun cdv A outer s H E G hr hW hw =>
  (dss_cons (ds_if (dt_cmp o_ge (d_var 0 (pv 0)) (d_bin o_pow d_int d_int) (by first | exact nomark _ | rfl)) (dss_cons (ds_set 0 sc_l_mix.nd rfl (d_bin o_sub (d_bin o_divA (d_var 0 (pv 0)) (d_bin o_pow d_int d_int)) d_int))
  (dss_cons (ds_for PassesOwn.never rfl (di_range1 (by rfl) B_range (d_bin o_modA (d_var 1 (pv 1)) d_int)) (dg_name 2 sc_l_mix.nd rfl)
  (dss_one (ds_set 0 sc_l_mix.nd rfl (d_bin o_divA (d_var 0 (pv 0)) d_int))))
  (dss_one (ds_ret (d_bin o_modA (d_var 0 (pv 0)) d_int))))) dss_nil)
  (dss_cons (ds_set 3 sc_l_mix.nd rfl (d_bin o_modA (d_bin o_mul (d_bin o_add (d_bin o_add (d_bin o_modA (d_var 0 (pv 0)) d_int) (d_var 1 (pv 1))) d_int) (d_bin o_add (d_bin o_mul (d_bin o_mul d_int (d_var 1 (pv 1))) (d_var 1 (pv 1))) d_int)) d_int))
  (dss_cons (ds_set 3 sc_l_mix.nd rfl (d_bin o_modA (d_bin o_mul (d_var 3 (pv 3)) (d_var 3 (pv 3))) d_int))
  (dss_one (ds_ret (d_bin o_modA (d_bin o_mul (d_var 3 (pv 3)) (d_bin o_add (d_var 3 (pv 3)) d_int)) d_int)))))), hm, F.kp, b⟩⟩

theorem ok_l_whole {f : Addr} {fd : FuncData} (F : Fun K "_law_whole" "_law_whole" s_l_whole f fd) (hm : mg "_law_whole" = some (.ref f)) (b : Binds K fd ["_law_found"] []) (B_bool : mg "bool" = none) (B_int : mg "int" = none) (B_isinstance : mg "isinstance" = none) : Callee P w K mg base 1 "_law_whole" [.fz] .fz f_l_whole :=
  ⟨⟨f, fd, ["_law_found"], fn_pure F sc_l_whole rfl rfl fun cdv A outer s H E G hr hW hw =>
  (dss_one (ds_ret (d_and (d_isi (T := "int") (d_var 0 (pv 0)) (by rfl) B_isinstance (by rfl) B_int (by decide +kernel) (.ty _)) (d_one (d_not (d_isi (T := "bool") (d_var 0 (pv 0)) (by rfl) B_isinstance (by rfl) B_bool (by decide +kernel) (.ty _))))))), hm, F.kp, b⟩⟩

theorem ok_l_name {f : Addr} {fd : FuncData} (F : Fun K "_law_name" "_law_name" s_l_name f fd) (hm : mg "_law_name" = some (.ref f)) (b : Binds K fd ["_law_number"] []) (c_l_mix : Callee P w K mg base 1 "_law_mix" [.fz, .fz] .fz f_l_mix) (B_range : mg "range" = none) : Callee P w K mg base 2 "_law_name" [.fz] .fz f_l_name :=
  ⟨⟨f, fd, ["_law_number"], fn_pure F sc_l_name rfl rfl fun cdv A outer s H E G hr hW hw =>
  (dss_cons (ds_set 1 sc_l_name.nd rfl d_str)
  (dss_cons (ds_for PassesOwn.never rfl (di_range1 (by rfl) B_range (d_bin o_add d_int (d_bin o_modA (d_var 0 (pv 0)) d_int))) (dg_name 2 sc_l_name.nd rfl)
  (dss_one (ds_set 1 sc_l_name.nd rfl (d_bin o_add (d_var 1 (pv 1)) (d_ix d_str (d_bin o_modA (d_call c_l_mix (hr.mono (by decide)) (by rfl) (da_cons (d_var 0 (pv 0)) .fz (da_cons (d_var 2 (pv 2)) .fz da_nil))) (d_ix (d_lst (da_cons d_int .fz (da_cons d_int .fz da_nil))) (d_bin o_modA (d_bin o_divA (d_var 0 (pv 0)) d_int) d_int) (fun _ _ => rfl))) (fun _ _ => rfl))))))
  (dss_one (ds_ret (d_var 1 (pv 1)))))), hm, F.kp, b⟩⟩

theorem ok_l_names {f : Addr} {fd : FuncData} (F : Fun K "_law_names" "_law_names" s_l_names f fd) (hm : mg "_law_names" = some (.ref f)) (b : Binds K fd ["_law_number", "_law_most"] []) (c_l_name : Callee P w K mg base 2 "_law_name" [.fz] .fz f_l_name) (c_l_mix : Callee P w K mg base 1 "_law_mix" [.fz, .fz] .fz f_l_mix) (B_range : mg "range" = none) : Callee P w K mg base 3 "_law_names" [.fz, .fz] .ow f_l_names :=
  ⟨⟨f, fd, ["_law_number", "_law_most"], fn_pure F sc_l_names rfl rfl fun cdv A outer s H E G hr hW hw =>
  (dss_cons (ds_setL 2 sc_l_names.nd rfl (d_lst da_nil))
  (dss_cons (ds_for PassesOwn.never rfl (di_range1 (by rfl) B_range (d_bin o_add d_int (d_bin o_modA (d_var 0 (pv 0)) (d_var 1 (pv 1))))) (dg_name 3 sc_l_names.nd rfl)
  (dss_cons (ds_set 4 sc_l_names.nd rfl (d_call c_l_name (hr.mono (by decide)) (by rfl) (da_cons (d_call c_l_mix (hr.mono (by decide)) (by rfl) (da_cons (d_var 0 (pv 0)) .fz (da_cons (d_bin o_add d_int (d_var 3 (pv 3))) .fz da_nil))) .fz da_nil)))
  (dss_one (ds_if (dt_cmp (o_notIn (hu65 hr)) (d_var 4 (pv 4)) (d_varL 2 (pv 2)) (by first | exact nomark _ | rfl)) (dss_one (ds_app 2 (pv 2) (d_var 4 (pv 4)))) dss_nil))))
  (dss_one (ds_retL 2 (pv 2))))), hm, F.kp, b⟩⟩

theorem ok_l_term {f : Addr} {fd : FuncData} (F : Fun K "_law_term" "_law_term" s_l_term f fd) (hm : mg "_law_term" = some (.ref f)) (b : Binds K fd ["_law_names_here", "_law_values", "_law_number", "_law_cell"] []) (B_len : mg "len" = none) (B_str : mg "str" = none) : Callee P w K mg base 1 "_law_term" [.fz, .fz, .fz, .fz] .fz f_l_term :=
  ⟨⟨f, fd, ["_law_names_here", "_law_values", "_law_number", "_law_cell"], fn_pure F sc_l_term rfl rfl fun cdv A outer s H E G hr hW hw =>
  (dss_cons (ds_set 4 sc_l_term.nd rfl (d_bin o_modA (d_bin o_divA (d_var 2 (pv 2)) d_int) d_int))
  (dss_cons (ds_if (dt_cmp (o_eq (hu64 hr)) (d_bin o_modA (d_bin o_divA (d_var 2 (pv 2)) d_int) d_int) d_int (by first | exact nomark _ | rfl)) (dss_one (ds_set 4 sc_l_term.nd rfl (d_bin o_modA (d_var 3 (pv 3)) (d_ix (d_lst (da_cons d_int .fz (da_cons (d_bin o_pow d_int d_int) .fz da_nil))) (d_bin o_divA (d_bin o_modA (d_bin o_divA (d_var 2 (pv 2)) d_int) d_int) d_int) (fun _ _ => rfl))))) dss_nil)
  (dss_cons (ds_set 5 sc_l_term.nd rfl (d_bin o_modA (d_bin o_divA (d_var 2 (pv 2)) d_int) (d_callB o_len (by rfl) B_len PySem.boot_len (da_cons (d_var 0 (pv 0)) .vw da_nil))))
  (dss_cons (ds_par (ks := [.fz, .fz]) 6 7 rfl sc_l_term.nd rfl rfl (da_cons (d_ix (d_var 0 (pv 0)) (d_var 5 (pv 5)) (fun _ _ => rfl)) .fz (da_cons (d_ix (d_var 1 (pv 1)) (d_var 5 (pv 5)) (fun _ _ => rfl)) .fz da_nil)))
  (dss_cons (ds_set 8 sc_l_term.nd rfl (d_bin o_modA (d_var 2 (pv 2)) d_int))
  (dss_cons (ds_if (dt_cmp (o_eq (hu64 hr)) (d_var 8 (pv 8)) d_int (by first | exact nomark _ | rfl)) (dss_one (ds_ret (d_tup (da_cons (d_callT o_str (by rfl) B_str (by decide +kernel) (da_cons (d_var 4 (pv 4)) .vw da_nil)) .fz (da_cons (d_var 4 (pv 4)) .fz da_nil))))) dss_nil)
  (dss_cons (ds_if (dt_cmp o_lt (d_var 8 (pv 8)) d_int (by first | exact nomark _ | rfl)) (dss_one (ds_ret (d_tup (da_cons (d_var 6 (pv 6)) .fz (da_cons (d_var 7 (pv 7)) .fz da_nil))))) dss_nil)
  (dss_cons (ds_if (dt_cmp (o_eq (hu64 hr)) (d_var 8 (pv 8)) d_int (by first | exact nomark _ | rfl)) (dss_one (ds_ret (d_tup (da_cons (d_bin o_add (d_bin o_add (d_callT o_str (by rfl) B_str (by decide +kernel) (da_cons (d_var 4 (pv 4)) .vw da_nil)) d_str) (d_var 6 (pv 6))) .fz (da_cons (d_bin o_mul (d_var 4 (pv 4)) (d_var 7 (pv 7))) .fz da_nil))))) dss_nil)
  (dss_cons (ds_if (dt_cmp (o_eq (hu64 hr)) (d_var 8 (pv 8)) d_int (by first | exact nomark _ | rfl)) (dss_one (ds_ret (d_tup (da_cons (d_bin o_add (d_bin o_add (d_var 6 (pv 6)) d_str) (d_callT o_str (by rfl) B_str (by decide +kernel) (da_cons (d_var 4 (pv 4)) .vw da_nil))) .fz (da_cons (d_bin o_mul (d_var 4 (pv 4)) (d_var 7 (pv 7))) .fz da_nil))))) dss_nil)
  (dss_cons (ds_if (dt_cmp (o_eq (hu64 hr)) (d_var 8 (pv 8)) d_int (by first | exact nomark _ | rfl)) (dss_one (ds_ret (d_tup (da_cons (d_bin o_add (d_bin o_add (d_bin o_add (d_bin o_add (d_bin o_add (d_bin o_add (d_bin o_add d_str (d_var 6 (pv 6))) d_str) (d_var 6 (pv 6))) d_str) (d_callT o_str (by rfl) B_str (by decide +kernel) (da_cons (d_var 4 (pv 4)) .vw da_nil))) d_str) (d_var 6 (pv 6))) .fz (da_cons (d_bin o_mul (d_var 4 (pv 4)) (d_var 7 (pv 7))) .fz da_nil))))) dss_nil)
  (dss_cons (ds_if (dt_cmp (o_eq (hu64 hr)) (d_var 8 (pv 8)) d_int (by first | exact nomark _ | rfl)) (dss_one (ds_ret (d_tup (da_cons (d_bin o_add (d_bin o_add (d_bin o_add (d_bin o_add d_str (d_var 6 (pv 6))) d_str) (d_callT o_str (by rfl) B_str (by decide +kernel) (da_cons (d_var 4 (pv 4)) .vw da_nil))) d_str) .fz (da_cons (d_bin o_add (d_var 7 (pv 7)) (d_var 4 (pv 4))) .fz da_nil))))) dss_nil)
  (dss_one (ds_ret (d_tup (da_cons (d_bin o_add (d_bin o_add (d_bin o_add (d_bin o_add (d_bin o_add d_str (d_var 6 (pv 6))) d_str) (d_callT o_str (by rfl) B_str (by decide +kernel) (da_cons (d_var 4 (pv 4)) .vw da_nil))) d_str) (d_callT o_str (by rfl) B_str (by decide +kernel) (da_cons (d_var 4 (pv 4)) .vw da_nil))) .fz (da_cons (d_bin o_mul (d_bin o_mul (d_bin o_add (d_var 7 (pv 7)) (d_var 4 (pv 4))) d_int) (d_var 4 (pv 4))) .fz da_nil)))))))))))))))), hm, F.kp, b⟩⟩

theorem ok_l_grown {f : Addr} {fd : FuncData} (F : Fun K "_law_grown" "_law_grown" s_l_grown f fd) (hm : mg "_law_grown" = some (.ref f)) (b : Binds K fd ["_law_tree", "_law_names_here", "_law_values", "_law_number", "_law_cell"] []) (c_l_term : Callee P w K mg base 1 "_law_term" [.fz, .fz, .fz, .fz] .fz f_l_term) (B_str : mg "str" = none) : Callee P w K mg base 2 "_law_grown" [.fz, .fz, .fz, .fz, .fz] .fz f_l_grown :=
  ⟨⟨f, fd, ["_law_tree", "_law_names_here", "_law_values", "_law_number", "_law_cell"], fn_pure F sc_l_grown rfl rfl fun cdv A outer s H E G hr hW hw =>
  (dss_cons (ds_asg (d_var 0 (pv 0)) (dg_tup rfl (dgs_cons (dg_name 5 sc_l_grown.nd rfl) (dgs_cons (dg_name 6 sc_l_grown.nd rfl) (dgs_cons (dg_name 7 sc_l_grown.nd rfl) dgs_nil))) rfl (fun _ _ _ h => tgCons_len (fun _ _ _ h => tgCons_len (fun _ _ _ h => tgCons_len (fun _ _ _ h => tgNil_len h) h) h) h)))
  (dss_cons (ds_asg (d_call c_l_term (hr.mono (by decide)) (by rfl) (da_cons (d_var 1 (pv 1)) .fz (da_cons (d_var 2 (pv 2)) .fz (da_cons (d_bin o_divA (d_var 3 (pv 3)) d_int) .fz (da_cons (d_var 4 (pv 4)) .fz da_nil))))) (dg_tup rfl (dgs_cons (dg_name 8 sc_l_grown.nd rfl) (dgs_cons (dg_name 9 sc_l_grown.nd rfl) dgs_nil)) rfl (fun _ _ _ h => tgCons_len (fun _ _ _ h => tgCons_len (fun _ _ _ h => tgNil_len h) h) h)))
  (dss_cons (ds_set 10 sc_l_grown.nd rfl (d_bin o_modA (d_var 3 (pv 3)) d_int))
  (dss_cons (ds_set 11 sc_l_grown.nd rfl (d_bin o_modA (d_bin o_divA (d_var 3 (pv 3)) d_int) d_int))
  (dss_cons (ds_if (DW.t (dw_or (dt_cmp o_lt (d_var 10 (pv 10)) d_int (by first | exact nomark _ | rfl)) (dw_or1 (dt_cmp o_gt (d_var 7 (pv 7)) d_int (by first | exact nomark _ | rfl))))) (dss_one (ds_ret (d_tup (da_cons (d_bin o_add (d_bin o_add (d_var 5 (pv 5)) (d_ix (d_lst (da_cons d_str .fz (da_cons d_str .fz da_nil))) (d_bin o_modA (d_var 10 (pv 10)) d_int) (fun _ _ => rfl))) (d_var 8 (pv 8))) .fz (da_cons (d_bin o_add (d_var 6 (pv 6)) (d_var 9 (pv 9))) .fz (da_cons (d_var 7 (pv 7)) .fz da_nil)))))) dss_nil)
  (dss_cons (ds_if (dt_cmp o_lt (d_var 10 (pv 10)) d_int (by first | exact nomark _ | rfl)) (dss_one (ds_ret (d_tup (da_cons (d_bin o_add (d_bin o_add (d_var 5 (pv 5)) (d_ix (d_lst (da_cons d_str .fz (da_cons d_str .fz da_nil))) (d_bin o_modA (d_var 10 (pv 10)) d_int) (fun _ _ => rfl))) (d_var 8 (pv 8))) .fz (da_cons (d_bin o_sub (d_var 6 (pv 6)) (d_var 9 (pv 9))) .fz (da_cons (d_var 7 (pv 7)) .fz da_nil)))))) dss_nil)
  (dss_cons (ds_set 12 sc_l_grown.nd rfl (d_bin o_add (d_bin o_add d_str (d_var 5 (pv 5))) d_str))
  (dss_cons (ds_if (dt_cmp (o_eq (hu64 hr)) (d_var 10 (pv 10)) d_int (by first | exact nomark _ | rfl)) (dss_one (ds_ret (d_tup (da_cons (d_bin o_add (d_bin o_add (d_var 12 (pv 12)) d_str) (d_callT o_str (by rfl) B_str (by decide +kernel) (da_cons (d_var 11 (pv 11)) .vw da_nil))) .fz (da_cons (d_bin o_mul (d_var 6 (pv 6)) (d_var 11 (pv 11))) .fz (da_cons (d_bin o_add (d_var 7 (pv 7)) d_int) .fz da_nil)))))) dss_nil)
  (dss_cons (ds_if (dt_cmp (o_eq (hu64 hr)) (d_var 10 (pv 10)) d_int (by first | exact nomark _ | rfl)) (dss_one (ds_ret (d_tup (da_cons (d_bin o_add (d_bin o_add (d_callT o_str (by rfl) B_str (by decide +kernel) (da_cons (d_var 11 (pv 11)) .vw da_nil)) d_str) (d_var 12 (pv 12))) .fz (da_cons (d_bin o_mul (d_var 6 (pv 6)) (d_var 11 (pv 11))) .fz (da_cons (d_bin o_add (d_var 7 (pv 7)) d_int) .fz da_nil)))))) dss_nil)
  (dss_cons (ds_if (dt_cmp (o_eq (hu64 hr)) (d_var 10 (pv 10)) d_int (by first | exact nomark _ | rfl)) (dss_one (ds_ret (d_tup (da_cons (d_bin o_add d_str (d_var 12 (pv 12))) .fz (da_cons (d_bin o_sub d_int (d_var 6 (pv 6))) .fz (da_cons (d_bin o_add (d_var 7 (pv 7)) d_int) .fz da_nil)))))) dss_nil)
  (dss_cons (ds_if (dt_cmp (o_eq (hu64 hr)) (d_var 10 (pv 10)) d_int (by first | exact nomark _ | rfl)) (dss_one (ds_ret (d_tup (da_cons (d_bin o_add (d_bin o_add (d_bin o_add d_str (d_var 8 (pv 8))) d_str) (d_var 12 (pv 12))) .fz (da_cons (d_bin o_sub (d_var 6 (pv 6)) (d_var 9 (pv 9))) .fz (da_cons (d_bin o_add (d_var 7 (pv 7)) d_int) .fz da_nil)))))) dss_nil)
  (dss_cons (ds_if (dt_cmp (o_eq (hu64 hr)) (d_var 10 (pv 10)) d_int (by first | exact nomark _ | rfl)) (dss_one (ds_ret (d_tup (da_cons (d_bin o_add (d_bin o_add (d_var 8 (pv 8)) d_str) (d_var 12 (pv 12))) .fz (da_cons (d_bin o_sub (d_var 9 (pv 9)) (d_var 6 (pv 6))) .fz (da_cons (d_bin o_add (d_var 7 (pv 7)) d_int) .fz da_nil)))))) dss_nil)
  (dss_cons (ds_if (dt_cmp (o_eq (hu64 hr)) (d_var 10 (pv 10)) d_int (by first | exact nomark _ | rfl)) (dss_one (ds_ret (d_tup (da_cons (d_bin o_add (d_bin o_add d_str (d_var 12 (pv 12))) d_str) .fz (da_cons (d_var 6 (pv 6)) .fz (da_cons (d_bin o_add (d_var 7 (pv 7)) d_int) .fz da_nil)))))) dss_nil)
  (dss_one (ds_ret (d_tup (da_cons (d_bin o_add (d_bin o_add (d_var 8 (pv 8)) d_str) (d_var 12 (pv 12))) .fz (da_cons (d_bin o_add (d_var 6 (pv 6)) (d_var 9 (pv 9))) .fz (da_cons (d_bin o_add (d_var 7 (pv 7)) d_int) .fz da_nil))))))))))))))))))), hm, F.kp, b⟩⟩

theorem ok_law {f : Addr} {fd : FuncData} (F : Fun K "law" "law" s_law f fd) (c_value_of : Callee P w K mg base 1 "value_of" [.fz, .fz] .fz f_value_of) (c_read_sum : CalX P w K mg base 217 "read_sum" [false, false] f_read_sum) (c_shown_sum : Callee P w K mg base 1 "shown_sum" [.fz, .fz] .fz f_shown_sum) (c_l_whole : Callee P w K mg base 1 "_law_whole" [.fz] .fz f_l_whole) (c_l_grown : Callee P w K mg base 2 "_law_grown" [.fz, .fz, .fz, .fz, .fz] .fz f_l_grown) (c_l_mix : Callee P w K mg base 1 "_law_mix" [.fz, .fz] .fz f_l_mix) (c_l_term : Callee P w K mg base 1 "_law_term" [.fz, .fz, .fz, .fz] .fz f_l_term) (c_l_at : Callee P w K mg base 1 "_law_at" [.vw, .fz] .fz f_l_at) (c_l_names : Callee P w K mg base 3 "_law_names" [.fz, .fz] .ow f_l_names) (B_int : mg "int" = none) (B_len : mg "len" = none) (B_range : mg "range" = none) (B_tuple : mg "tuple" = none) : FnOk P w K mg base CX0 218 f fd ["_law_script"] (spP K [.vw] .fz f_law) :=
  fn_pure F sc_law rfl rfl fun cdv A outer s H E G hr hW hw =>
  (dss_cons (ds_set 1 sc_law.nd rfl (d_call c_l_mix (hr.mono (by decide)) (by rfl) (da_cons (d_call c_l_at (hr.mono (by decide)) (by rfl) (da_cons (d_varB 0 (pv 0)) .vw (da_cons d_int .fz da_nil))) .fz (da_cons d_int .fz da_nil))))
  (dss_cons (ds_set 2 sc_law.nd rfl (d_call c_l_names (hr.mono (by decide)) (by rfl) (da_cons (d_var 1 (pv 1)) .fz (da_cons d_int .fz da_nil))))
  (dss_cons (ds_setL 3 sc_law.nd rfl (d_lst da_nil))
  (dss_cons (ds_for PassesOwn.never rfl (di_range1 (by rfl) B_range (d_callB o_len (by rfl) B_len PySem.boot_len (da_cons (d_var 2 (pv 2)) .vw da_nil))) (dg_name 4 sc_law.nd rfl)
  (dss_one (ds_app 3 (pv 3) (d_bin o_add (d_bin o_sub (d_bin o_modA (d_call c_l_at (hr.mono (by decide)) (by rfl) (da_cons (d_varB 0 (pv 0)) .vw (da_cons (d_bin o_add d_int (d_var 4 (pv 4))) .fz da_nil))) (d_bin o_sub (d_bin o_mul d_int (d_bin o_pow d_int d_int)) d_int)) (d_bin o_pow d_int d_int)) d_int))))
  (dss_cons (ds_set 5 sc_law.nd rfl (d_call c_l_at (hr.mono (by decide)) (by rfl) (da_cons (d_varB 0 (pv 0)) .vw (da_cons d_int .fz da_nil))))
  (dss_fz 3 (dss_cons (ds_set 6 sc_law.nd rfl (d_bin o_add (d_call c_l_term (hr.mono (by decide)) (by rfl) (da_cons (d_var 2 (pv 2)) .fz (da_cons (d_var 3 (pv 3)) .fz (da_cons (d_call c_l_mix (hr.mono (by decide)) (by rfl) (da_cons (d_var 5 (pv 5)) .fz (da_cons d_int .fz da_nil))) .fz (da_cons (d_var 5 (pv 5)) .fz da_nil))))) (d_tup (da_cons d_int .fz da_nil))))
  (dss_cons (ds_for PassesOwn.never rfl (di_any (d_slB (d_varB 0 (pv 0)) (dp_some d_int) (dp_some d_int))) (dg_name 7 sc_law.nd rfl)
  (dss_fz 3 (dss_one (ds_set 6 sc_law.nd rfl (d_call c_l_grown (hr.mono (by decide)) (by rfl) (da_cons (d_var 6 (pv 6)) .fz (da_cons (d_var 2 (pv 2)) .fz (da_cons (d_var 3 (pv 3)) .fz (da_cons (d_call c_l_mix (hr.mono (by decide)) (by rfl) (da_cons (d_var 7 (pv 7)) .fz (da_cons d_int .fz da_nil))) .fz (da_cons (d_var 7 (pv 7)) .fz da_nil))))))))))
  (dss_cons (ds_set 8 sc_law.nd rfl (d_callX c_read_sum hw (hr.mono (by decide)) (by rfl) (da_cons (d_var 2 (pv 2)) .fz (da_cons (d_ix (d_var 6 (pv 6)) d_int (fun _ _ => rfl)) .fz da_nil))))
  (dss_cons (ds_set 9 sc_law.nd rfl (d_call c_value_of (hr.mono (by decide)) (by rfl) (da_cons (d_var 8 (pv 8)) .fz (da_cons (d_callT o_tuple (by rfl) B_tuple (by decide +kernel) (da_cons (d_varL 3 (pv 3)) .vl da_nil)) .fz da_nil))))
  (dss_cons (ds_if (DW.t (dw_or (dt_not (dt_val (d_call c_l_whole (hr.mono (by decide)) (by rfl) (da_cons (d_var 9 (pv 9)) .fz da_nil)))) (dw_or1 (dt_cmp (o_ne (hu64 hr)) (d_var 9 (pv 9)) (d_ix (d_var 6 (pv 6)) d_int (fun _ _ => rfl)) (by first | exact nomark _ | rfl))))) (dss_one (ds_ret d_bl)) dss_nil)
  (dss_cons (ds_set 10 sc_law.nd rfl (d_callX c_read_sum hw (hr.mono (by decide)) (by rfl) (da_cons (d_var 2 (pv 2)) .fz (da_cons (d_call c_shown_sum (hr.mono (by decide)) (by rfl) (da_cons (d_var 2 (pv 2)) .fz (da_cons (d_var 8 (pv 8)) .fz da_nil))) .fz da_nil))))
  (dss_cons (ds_if (DW.t (dw_or (dt_cmp (o_ne (hu64 hr)) (d_var 10 (pv 10)) (d_var 8 (pv 8)) (by first | exact nomark _ | rfl)) (dw_or1 (dt_cmp (o_ne (hu64 hr)) (d_call c_value_of (hr.mono (by decide)) (by rfl) (da_cons (d_var 10 (pv 10)) .fz (da_cons (d_callT o_tuple (by rfl) B_tuple (by decide +kernel) (da_cons (d_varL 3 (pv 3)) .vl da_nil)) .fz da_nil))) (d_ix (d_var 6 (pv 6)) d_int (fun _ _ => rfl)) (by first | exact nomark _ | rfl))))) (dss_one (ds_ret d_bl)) dss_nil)
  (dss_cons (ds_if (dt_cmp (o_ne (hu64 hr)) (d_call c_value_of (hr.mono (by decide)) (by rfl) (da_cons (d_var 8 (pv 8)) .fz (da_cons (d_bin o_mulTA (d_tup (da_cons d_int .fz da_nil)) (d_callB o_len (by rfl) B_len PySem.boot_len (da_cons (d_var 2 (pv 2)) .vw da_nil))) .fz da_nil))) (d_ix (d_var 8 (pv 8)) d_int (fun _ _ => rfl)) (by first | exact nomark _ | rfl)) (dss_one (ds_ret d_bl)) dss_nil)
  (dss_cons (ds_for PassesOwn.never rfl (di_range1 (by rfl) B_range (d_callB o_len (by rfl) B_len PySem.boot_len (da_cons (d_var 2 (pv 2)) .vw da_nil))) (dg_name 4 sc_law.nd rfl)
  (dss_cons (ds_set 11 sc_law.nd rfl (d_callT o_tuple (by rfl) B_tuple (by decide +kernel) (da_cons (d_lc [("_law_j", 12)] rfl sc_law.nd (di_range1 (by rfl) B_range (d_callB o_len (by rfl) B_len PySem.boot_len (da_cons (d_var 2 (pv 2)) .vw da_nil))) N_law (defScope s_law) (by decide +kernel) (fun _ _ _ _ _ => (dg_name 12 sc_law.nd rfl)) (fun _ _ _ _ _ => dif_nil) (fun _ _ _ _ _ => (d_callT o_int (by rfl) B_int (by decide +kernel) (da_cons (d_cmp (o_eq (hu64 hr)) (d_var 12 (pv 12)) (d_var 4 (pv 4)) (by first | exact nomark _ | rfl)) .vw da_nil)))) .vl da_nil)))
  (dss_one (ds_if (dt_cmp (o_ne (hu64 hr)) (d_call c_value_of (hr.mono (by decide)) (by rfl) (da_cons (d_var 8 (pv 8)) .fz (da_cons (d_var 11 (pv 11)) .fz da_nil))) (d_bin o_add (d_ix (d_var 8 (pv 8)) d_int (fun _ _ => rfl)) (d_ix (d_ix (d_var 8 (pv 8)) d_int (fun _ _ => rfl)) (d_var 4 (pv 4)) (fun _ _ => rfl))) (by first | exact nomark _ | rfl)) (dss_one (ds_ret d_bl)) dss_nil))))
  (dss_one (ds_ret d_bl)))))))))))))))))
end
end DL
namespace DL
open PySem PySem.Spec L2
def spLaw (K : PySem.W.Frag) : Sp := fun vs H Q _ => ∃ (a : Addr) (ns : List Int), vs = [.ref a] ∧ SqL K H a (ns.map V.int) ∧ ns.length ≤ 63 ∧ ∀ H', Q (.bl true) H'
theorem sp_law {K : PySem.W.Frag} (ht : ∀ ns : List Int, ns.length ≤ 63 → f_law [.list (ns.map PyData.int)] = some (.bool true)) (vs : List V) (H : Hp) (Q : VK) (E : L2.XK) (h : spLaw K vs H Q E) : spP K [.vw] .fz f_law vs H Q E := by
  obtain ⟨a, ns, rfl, hS, hl, q⟩ := h
  exact ⟨fun _ => none, _, _, (fun _ _ z => nomatch z), ht ns hl, ⟨.lst hS (DpAll_ints ns), trivial⟩, fun v H' F' E r => by
    cases r with | bl b => exact q H'⟩
theorem bd_scaled {K : PySem.W.Frag} {f : Addr} {fd : FuncData} (F : Fun K "scaled" "scaled" s_scaled f fd) : Binds K fd ["form", "many"] [] := F.binds (ps := ["form", "many"]) fun _ _ _ _ _ _ us hl => match us, hl with | [_, _], _ => rfl
theorem bd_added {K : PySem.W.Frag} {f : Addr} {fd : FuncData} (F : Fun K "added" "added" s_added f fd) : Binds K fd ["one", "other"] [] := F.binds (ps := ["one", "other"]) fun _ _ _ _ _ _ us hl => match us, hl with | [_, _], _ => rfl
theorem bd_is_number {K : PySem.W.Frag} {f : Addr} {fd : FuncData} (F : Fun K "is_number" "is_number" s_is_number f fd) : Binds K fd ["form"] [] := F.binds (ps := ["form"]) fun _ _ _ _ _ _ us hl => match us, hl with | [_], _ => rfl
theorem bd_multiplied {K : PySem.W.Frag} {f : Addr} {fd : FuncData} (F : Fun K "multiplied" "multiplied" s_multiplied f fd) : Binds K fd ["one", "other", "place"] [] := F.binds (ps := ["one", "other", "place"]) fun _ _ _ _ _ _ us hl => match us, hl with | [_, _, _], _ => rfl
theorem bd_form_of {K : PySem.W.Frag} {f : Addr} {fd : FuncData} (F : Fun K "form_of" "form_of" s_form_of f fd) : Binds K fd ["names", "tree"] [] := F.binds (ps := ["names", "tree"]) fun _ _ _ _ _ _ us hl => match us, hl with | [_, _], _ => rfl
theorem bd_Reader_init {K : PySem.W.Frag} {f : Addr} {fd : FuncData} (F : Fun K "__init__" "Reader.__init__" s_Reader_init f fd) : Binds K fd ["self", "text"] [] := F.binds (ps := ["self", "text"]) fun _ _ _ _ _ _ us hl => match us, hl with | [_, _], _ => rfl
theorem bd_Reader_ahead {K : PySem.W.Frag} {f : Addr} {fd : FuncData} (F : Fun K "ahead" "Reader.ahead" s_Reader_ahead f fd) : Binds K fd ["self"] [] := F.binds (ps := ["self"]) fun _ _ _ _ _ _ us hl => match us, hl with | [_], _ => rfl
theorem bd_Reader_run_of {K : PySem.W.Frag} {f : Addr} {fd : FuncData} (F : Fun K "run_of" "Reader.run_of" s_Reader_run_of f fd) : Binds K fd ["self", "signs", "most"] [] := F.binds (ps := ["self", "signs", "most"]) fun _ _ _ _ _ _ us hl => match us, hl with | [_, _, _], _ => rfl
theorem bd_Reader_factor {K : PySem.W.Frag} {f : Addr} {fd : FuncData} (F : Fun K "factor" "Reader.factor" s_Reader_factor f fd) : Binds K fd ["self"] [] := F.binds (ps := ["self"]) fun _ _ _ _ _ _ us hl => match us, hl with | [_], _ => rfl
theorem bd_Reader_term {K : PySem.W.Frag} {f : Addr} {fd : FuncData} (F : Fun K "term" "Reader.term" s_Reader_term f fd) : Binds K fd ["self"] [] := F.binds (ps := ["self"]) fun _ _ _ _ _ _ us hl => match us, hl with | [_], _ => rfl
theorem bd_Reader_whole {K : PySem.W.Frag} {f : Addr} {fd : FuncData} (F : Fun K "whole" "Reader.whole" s_Reader_whole f fd) : Binds K fd ["self"] [] := F.binds (ps := ["self"]) fun _ _ _ _ _ _ us hl => match us, hl with | [_], _ => rfl
theorem bd_read_sum {K : PySem.W.Frag} {f : Addr} {fd : FuncData} (F : Fun K "read_sum" "read_sum" s_read_sum f fd) : Binds K fd ["names", "text"] [] := F.binds (ps := ["names", "text"]) fun _ _ _ _ _ _ us hl => match us, hl with | [_, _], _ => rfl
theorem bd_shown_sum {K : PySem.W.Frag} {f : Addr} {fd : FuncData} (F : Fun K "shown_sum" "shown_sum" s_shown_sum f fd) : Binds K fd ["names", "form"] [] := F.binds (ps := ["names", "form"]) fun _ _ _ _ _ _ us hl => match us, hl with | [_, _], _ => rfl
theorem bd_value_of {K : PySem.W.Frag} {f : Addr} {fd : FuncData} (F : Fun K "value_of" "value_of" s_value_of f fd) : Binds K fd ["form", "values"] [] := F.binds (ps := ["form", "values"]) fun _ _ _ _ _ _ us hl => match us, hl with | [_, _], _ => rfl
theorem bd_l_at {K : PySem.W.Frag} {f : Addr} {fd : FuncData} (F : Fun K "_law_at" "_law_at" s_l_at f fd) : Binds K fd ["_law_script", "_law_k"] [] := F.binds (ps := ["_law_script", "_law_k"]) fun _ _ _ _ _ _ us hl => match us, hl with | [_, _], _ => rfl
theorem bd_l_mix {K : PySem.W.Frag} {f : Addr} {fd : FuncData} (F : Fun K "_law_mix" "_law_mix" s_l_mix f fd) : Binds K fd ["_law_number", "_law_place"] [] := F.binds (ps := ["_law_number", "_law_place"]) fun _ _ _ _ _ _ us hl => match us, hl with | [_, _], _ => rfl
theorem bd_l_whole {K : PySem.W.Frag} {f : Addr} {fd : FuncData} (F : Fun K "_law_whole" "_law_whole" s_l_whole f fd) : Binds K fd ["_law_found"] [] := F.binds (ps := ["_law_found"]) fun _ _ _ _ _ _ us hl => match us, hl with | [_], _ => rfl
theorem bd_l_name {K : PySem.W.Frag} {f : Addr} {fd : FuncData} (F : Fun K "_law_name" "_law_name" s_l_name f fd) : Binds K fd ["_law_number"] [] := F.binds (ps := ["_law_number"]) fun _ _ _ _ _ _ us hl => match us, hl with | [_], _ => rfl
theorem bd_l_names {K : PySem.W.Frag} {f : Addr} {fd : FuncData} (F : Fun K "_law_names" "_law_names" s_l_names f fd) : Binds K fd ["_law_number", "_law_most"] [] := F.binds (ps := ["_law_number", "_law_most"]) fun _ _ _ _ _ _ us hl => match us, hl with | [_, _], _ => rfl
theorem bd_l_term {K : PySem.W.Frag} {f : Addr} {fd : FuncData} (F : Fun K "_law_term" "_law_term" s_l_term f fd) : Binds K fd ["_law_names_here", "_law_values", "_law_number", "_law_cell"] [] := F.binds (ps := ["_law_names_here", "_law_values", "_law_number", "_law_cell"]) fun _ _ _ _ _ _ us hl => match us, hl with | [_, _, _, _], _ => rfl
theorem bd_l_grown {K : PySem.W.Frag} {f : Addr} {fd : FuncData} (F : Fun K "_law_grown" "_law_grown" s_l_grown f fd) : Binds K fd ["_law_tree", "_law_names_here", "_law_values", "_law_number", "_law_cell"] [] := F.binds (ps := ["_law_tree", "_law_names_here", "_law_values", "_law_number", "_law_cell"]) fun _ _ _ _ _ _ us hl => match us, hl with | [_, _, _, _, _], _ => rfl
theorem bd_law {K : PySem.W.Frag} {f : Addr} {fd : FuncData} (F : Fun K "law" "law" s_law f fd) : Binds K fd ["_law_script"] [] := F.binds (ps := ["_law_script"]) fun _ _ _ _ _ _ us hl => match us, hl with | [_], _ => rfl
theorem bd_NoText_init {K : PySem.W.Frag} {f : Addr} {fd : FuncData} (F : Fun K "__init__" "NoText.__init__" s_NoText_init f fd) : Binds K fd ["self", "place"] [] := F.binds (ps := ["self", "place"]) fun _ _ _ _ _ _ us hl => match us, hl with | [_, _], _ => rfl
theorem bd_NoName_init {K : PySem.W.Frag} {f : Addr} {fd : FuncData} (F : Fun K "__init__" "NoName.__init__" s_NoName_init f fd) : Binds K fd ["self", "name", "place"] [] := F.binds (ps := ["self", "name", "place"]) fun _ _ _ _ _ _ us hl => match us, hl with | [_, _, _], _ => rfl
theorem bd_NotPlain_init {K : PySem.W.Frag} {f : Addr} {fd : FuncData} (F : Fun K "__init__" "NotPlain.__init__" s_NotPlain_init f fd) : Binds K fd ["self", "place"] [] := F.binds (ps := ["self", "place"]) fun _ _ _ _ _ _ us hl => match us, hl with | [_, _], _ => rfl
def nms0 : List Str := ["__name__", "BookError", "NoText", "NoName", "NotPlain", "FIGURES", "LETTERS", "LONGEST", "Reader", "scaled", "added", "is_number", "multiplied", "form_of", "read_sum", "shown_sum", "value_of", "_law_at", "_law_mix", "_law_whole", "_law_name", "_law_names", "_law_term", "_law_grown"]
def nms : List Str := nms0
def pt0 : PartK := ⟨[cGlo "Reader", cCls "Reader", cNo "Reader" "at", cNo "Reader" "names", cNo "Reader" "text", cGlo "scaled", cKeep "scaled", cGlo "added", cKeep "added", cGlo "is_number", cKeep "is_number", cGlo "multiplied", cKeep "multiplied", cGlo "form_of", cKeep "form_of", cMeth "Reader" "__init__", cMeth "Reader" "ahead", cMeth "Reader" "run_of", cMeth "Reader" "factor", cMeth "Reader" "term", cMeth "Reader" "whole", cGlo "read_sum", cKeep "read_sum", cGlo "shown_sum", cKeep "shown_sum", cGlo "value_of", cKeep "value_of", cGlo "_law_at", cKeep "_law_at", cGlo "_law_mix", cKeep "_law_mix", cGlo "_law_whole", cKeep "_law_whole", cGlo "_law_name", cKeep "_law_name", cGlo "_law_names", cKeep "_law_names", cGlo "_law_term", cKeep "_law_term", cGlo "_law_grown", cKeep "_law_grown", cGlo "law", cKeep "law", cHn, cBase "BookError", cX "BookError", cX "NoText", cXo "NoText", cXi "NoText", cNo "NoText" "place", cX "NoName", cXo "NoName", cXi "NoName", cNo "NoName" "place", cNo "NoName" "name", cX "NotPlain", cXo "NotPlain", cXi "NotPlain", cNo "NotPlain" "place", cFree "abs"], [⟨("scaled", none), "scaled", "scaled", defArgs s_scaled, defBody s_scaled, defScope s_scaled⟩, ⟨("added", none), "added", "added", defArgs s_added, defBody s_added, defScope s_added⟩, ⟨("is_number", none), "is_number", "is_number", defArgs s_is_number, defBody s_is_number, defScope s_is_number⟩, ⟨("multiplied", none), "multiplied", "multiplied", defArgs s_multiplied, defBody s_multiplied, defScope s_multiplied⟩, ⟨("form_of", none), "form_of", "form_of", defArgs s_form_of, defBody s_form_of, defScope s_form_of⟩, ⟨("Reader", some "__init__"), "__init__", "Reader.__init__", defArgs s_Reader_init, defBody s_Reader_init, defScope s_Reader_init⟩, ⟨("Reader", some "ahead"), "ahead", "Reader.ahead", defArgs s_Reader_ahead, defBody s_Reader_ahead, defScope s_Reader_ahead⟩, ⟨("Reader", some "run_of"), "run_of", "Reader.run_of", defArgs s_Reader_run_of, defBody s_Reader_run_of, defScope s_Reader_run_of⟩, ⟨("Reader", some "factor"), "factor", "Reader.factor", defArgs s_Reader_factor, defBody s_Reader_factor, defScope s_Reader_factor⟩, ⟨("Reader", some "term"), "term", "Reader.term", defArgs s_Reader_term, defBody s_Reader_term, defScope s_Reader_term⟩, ⟨("Reader", some "whole"), "whole", "Reader.whole", defArgs s_Reader_whole, defBody s_Reader_whole, defScope s_Reader_whole⟩, ⟨("read_sum", none), "read_sum", "read_sum", defArgs s_read_sum, defBody s_read_sum, defScope s_read_sum⟩, ⟨("shown_sum", none), "shown_sum", "shown_sum", defArgs s_shown_sum, defBody s_shown_sum, defScope s_shown_sum⟩]⟩
def pt1 : PartK := ⟨[cFree "bool", cFree "int", cFree "isinstance", cFree "len", cFree "range", cFree "str", cFree "sum", cFree "tuple", cFree "zip", cStr "FIGURES" "0123456789", cStr "LETTERS" "abcdefghijklmnopqrstuvwxyz", cInt "LONGEST" 10, cMkr "Reader"], [⟨("value_of", none), "value_of", "value_of", defArgs s_value_of, defBody s_value_of, defScope s_value_of⟩, ⟨("_law_at", none), "_law_at", "_law_at", defArgs s_l_at, defBody s_l_at, defScope s_l_at⟩, ⟨("_law_mix", none), "_law_mix", "_law_mix", defArgs s_l_mix, defBody s_l_mix, defScope s_l_mix⟩, ⟨("_law_whole", none), "_law_whole", "_law_whole", defArgs s_l_whole, defBody s_l_whole, defScope s_l_whole⟩, ⟨("_law_name", none), "_law_name", "_law_name", defArgs s_l_name, defBody s_l_name, defScope s_l_name⟩, ⟨("_law_names", none), "_law_names", "_law_names", defArgs s_l_names, defBody s_l_names, defScope s_l_names⟩, ⟨("_law_term", none), "_law_term", "_law_term", defArgs s_l_term, defBody s_l_term, defScope s_l_term⟩, ⟨("_law_grown", none), "_law_grown", "_law_grown", defArgs s_l_grown, defBody s_l_grown, defScope s_l_grown⟩, ⟨("law", none), "law", "law", defArgs s_law, defBody s_law, defScope s_law⟩, ⟨("NoText", some "__init__"), "__init__", "NoText.__init__", defArgs s_NoText_init, defBody s_NoText_init, defScope s_NoText_init⟩, ⟨("NoName", some "__init__"), "__init__", "NoName.__init__", defArgs s_NoName_init, defBody s_NoName_init, defScope s_NoName_init⟩, ⟨("NotPlain", some "__init__"), "__init__", "NotPlain.__init__", defArgs s_NotPlain_init, defBody s_NotPlain_init, defScope s_NotPlain_init⟩]⟩
def parts : List PartK := [pt0, pt1]
theorem all_mk {l : PySem.W.OpenLaw} {w : World} {K : PySem.W.Frag} {h : Heap} {mg : Str → Option Value} {fa : Addr} (X : K.In h) (G : h.Ns mainGlobals mg) (hfa : mg "law" = some (.ref fa)) (c : SaysK parts K) :
    ∃ fd : FuncData, (∀ (s : Shared) (v : Value), BindsTo s fd ⟨[v], []⟩ [("_law_script", v)]) ∧ ∀ base : Heap, K.In base → base.Ns mainGlobals mg → FnOk l.prog w K mg base CX0 218 fa fd ["_law_script"] (spLaw K) := by
  have g_Reader : cGlo "Reader" K = true := (c.ck 0 rfl 0 rfl)
  have j_Reader : cCls "Reader" K = true := (c.ck 0 rfl 1 rfl)
  have hc_Reader := cls_hc g_Reader j_Reader
  have nB_Reader_at : NoAt K "Reader" "at" := no_at g_Reader (c.ck 0 rfl 2 rfl)
  have nB_Reader_names : NoAt K "Reader" "names" := no_at g_Reader (c.ck 0 rfl 3 rfl)
  have nB_Reader_text : NoAt K "Reader" "text" := no_at g_Reader (c.ck 0 rfl 4 rfl)
  have g_scaled : cGlo "scaled" K = true := (c.ck 0 rfl 5 rfl)
  have m_scaled := PySem.W.mg_of X G (cGlo_a g_scaled)
  obtain ⟨fd_scaled, F_scaled⟩ := fun_at (x := "scaled") (q := "scaled") (p := ("scaled", none)) (st := s_scaled) (c.ck 0 rfl 6 rfl) (c.fn 0 rfl 0 rfl)
  have b_scaled := bd_scaled F_scaled
  have g_added : cGlo "added" K = true := (c.ck 0 rfl 7 rfl)
  have m_added := PySem.W.mg_of X G (cGlo_a g_added)
  obtain ⟨fd_added, F_added⟩ := fun_at (x := "added") (q := "added") (p := ("added", none)) (st := s_added) (c.ck 0 rfl 8 rfl) (c.fn 0 rfl 1 rfl)
  have b_added := bd_added F_added
  have g_is_number : cGlo "is_number" K = true := (c.ck 0 rfl 9 rfl)
  have m_is_number := PySem.W.mg_of X G (cGlo_a g_is_number)
  obtain ⟨fd_is_number, F_is_number⟩ := fun_at (x := "is_number") (q := "is_number") (p := ("is_number", none)) (st := s_is_number) (c.ck 0 rfl 10 rfl) (c.fn 0 rfl 2 rfl)
  have b_is_number := bd_is_number F_is_number
  have g_multiplied : cGlo "multiplied" K = true := (c.ck 0 rfl 11 rfl)
  have m_multiplied := PySem.W.mg_of X G (cGlo_a g_multiplied)
  obtain ⟨fd_multiplied, F_multiplied⟩ := fun_at (x := "multiplied") (q := "multiplied") (p := ("multiplied", none)) (st := s_multiplied) (c.ck 0 rfl 12 rfl) (c.fn 0 rfl 3 rfl)
  have b_multiplied := bd_multiplied F_multiplied
  have g_form_of : cGlo "form_of" K = true := (c.ck 0 rfl 13 rfl)
  have m_form_of := PySem.W.mg_of X G (cGlo_a g_form_of)
  obtain ⟨fd_form_of, F_form_of⟩ := fun_at (x := "form_of") (q := "form_of") (p := ("form_of", none)) (st := s_form_of) (c.ck 0 rfl 14 rfl) (c.fn 0 rfl 4 rfl)
  have b_form_of := bd_form_of F_form_of
  have g_Reader_init : cMeth "Reader" "__init__" K = true := (c.ck 0 rfl 15 rfl)
  obtain ⟨fd_Reader_init, F_Reader_init⟩ := fun_at (x := "__init__") (q := "Reader.__init__") (p := ("Reader", some "__init__")) (st := s_Reader_init) (cMeth_k g_Reader_init) (c.fn 0 rfl 5 rfl)
  have b_Reader_init := bd_Reader_init F_Reader_init
  have g_Reader_ahead : cMeth "Reader" "ahead" K = true := (c.ck 0 rfl 16 rfl)
  obtain ⟨fd_Reader_ahead, F_Reader_ahead⟩ := fun_at (x := "ahead") (q := "Reader.ahead") (p := ("Reader", some "ahead")) (st := s_Reader_ahead) (cMeth_k g_Reader_ahead) (c.fn 0 rfl 6 rfl)
  have b_Reader_ahead := bd_Reader_ahead F_Reader_ahead
  have g_Reader_run_of : cMeth "Reader" "run_of" K = true := (c.ck 0 rfl 17 rfl)
  obtain ⟨fd_Reader_run_of, F_Reader_run_of⟩ := fun_at (x := "run_of") (q := "Reader.run_of") (p := ("Reader", some "run_of")) (st := s_Reader_run_of) (cMeth_k g_Reader_run_of) (c.fn 0 rfl 7 rfl)
  have b_Reader_run_of := bd_Reader_run_of F_Reader_run_of
  have g_Reader_factor : cMeth "Reader" "factor" K = true := (c.ck 0 rfl 18 rfl)
  obtain ⟨fd_Reader_factor, F_Reader_factor⟩ := fun_at (x := "factor") (q := "Reader.factor") (p := ("Reader", some "factor")) (st := s_Reader_factor) (cMeth_k g_Reader_factor) (c.fn 0 rfl 8 rfl)
  have b_Reader_factor := bd_Reader_factor F_Reader_factor
  have g_Reader_term : cMeth "Reader" "term" K = true := (c.ck 0 rfl 19 rfl)
  obtain ⟨fd_Reader_term, F_Reader_term⟩ := fun_at (x := "term") (q := "Reader.term") (p := ("Reader", some "term")) (st := s_Reader_term) (cMeth_k g_Reader_term) (c.fn 0 rfl 9 rfl)
  have b_Reader_term := bd_Reader_term F_Reader_term
  have g_Reader_whole : cMeth "Reader" "whole" K = true := (c.ck 0 rfl 20 rfl)
  obtain ⟨fd_Reader_whole, F_Reader_whole⟩ := fun_at (x := "whole") (q := "Reader.whole") (p := ("Reader", some "whole")) (st := s_Reader_whole) (cMeth_k g_Reader_whole) (c.fn 0 rfl 10 rfl)
  have b_Reader_whole := bd_Reader_whole F_Reader_whole
  have g_read_sum : cGlo "read_sum" K = true := (c.ck 0 rfl 21 rfl)
  have m_read_sum := PySem.W.mg_of X G (cGlo_a g_read_sum)
  obtain ⟨fd_read_sum, F_read_sum⟩ := fun_at (x := "read_sum") (q := "read_sum") (p := ("read_sum", none)) (st := s_read_sum) (c.ck 0 rfl 22 rfl) (c.fn 0 rfl 11 rfl)
  have b_read_sum := bd_read_sum F_read_sum
  have g_shown_sum : cGlo "shown_sum" K = true := (c.ck 0 rfl 23 rfl)
  have m_shown_sum := PySem.W.mg_of X G (cGlo_a g_shown_sum)
  obtain ⟨fd_shown_sum, F_shown_sum⟩ := fun_at (x := "shown_sum") (q := "shown_sum") (p := ("shown_sum", none)) (st := s_shown_sum) (c.ck 0 rfl 24 rfl) (c.fn 0 rfl 12 rfl)
  have b_shown_sum := bd_shown_sum F_shown_sum
  have g_value_of : cGlo "value_of" K = true := (c.ck 0 rfl 25 rfl)
  have m_value_of := PySem.W.mg_of X G (cGlo_a g_value_of)
  obtain ⟨fd_value_of, F_value_of⟩ := fun_at (x := "value_of") (q := "value_of") (p := ("value_of", none)) (st := s_value_of) (c.ck 0 rfl 26 rfl) (c.fn 1 rfl 0 rfl)
  have b_value_of := bd_value_of F_value_of
  have g_l_at : cGlo "_law_at" K = true := (c.ck 0 rfl 27 rfl)
  have m_l_at := PySem.W.mg_of X G (cGlo_a g_l_at)
  obtain ⟨fd_l_at, F_l_at⟩ := fun_at (x := "_law_at") (q := "_law_at") (p := ("_law_at", none)) (st := s_l_at) (c.ck 0 rfl 28 rfl) (c.fn 1 rfl 1 rfl)
  have b_l_at := bd_l_at F_l_at
  have g_l_mix : cGlo "_law_mix" K = true := (c.ck 0 rfl 29 rfl)
  have m_l_mix := PySem.W.mg_of X G (cGlo_a g_l_mix)
  obtain ⟨fd_l_mix, F_l_mix⟩ := fun_at (x := "_law_mix") (q := "_law_mix") (p := ("_law_mix", none)) (st := s_l_mix) (c.ck 0 rfl 30 rfl) (c.fn 1 rfl 2 rfl)
  have b_l_mix := bd_l_mix F_l_mix
  have g_l_whole : cGlo "_law_whole" K = true := (c.ck 0 rfl 31 rfl)
  have m_l_whole := PySem.W.mg_of X G (cGlo_a g_l_whole)
  obtain ⟨fd_l_whole, F_l_whole⟩ := fun_at (x := "_law_whole") (q := "_law_whole") (p := ("_law_whole", none)) (st := s_l_whole) (c.ck 0 rfl 32 rfl) (c.fn 1 rfl 3 rfl)
  have b_l_whole := bd_l_whole F_l_whole
  have g_l_name : cGlo "_law_name" K = true := (c.ck 0 rfl 33 rfl)
  have m_l_name := PySem.W.mg_of X G (cGlo_a g_l_name)
  obtain ⟨fd_l_name, F_l_name⟩ := fun_at (x := "_law_name") (q := "_law_name") (p := ("_law_name", none)) (st := s_l_name) (c.ck 0 rfl 34 rfl) (c.fn 1 rfl 4 rfl)
  have b_l_name := bd_l_name F_l_name
  have g_l_names : cGlo "_law_names" K = true := (c.ck 0 rfl 35 rfl)
  have m_l_names := PySem.W.mg_of X G (cGlo_a g_l_names)
  obtain ⟨fd_l_names, F_l_names⟩ := fun_at (x := "_law_names") (q := "_law_names") (p := ("_law_names", none)) (st := s_l_names) (c.ck 0 rfl 36 rfl) (c.fn 1 rfl 5 rfl)
  have b_l_names := bd_l_names F_l_names
  have g_l_term : cGlo "_law_term" K = true := (c.ck 0 rfl 37 rfl)
  have m_l_term := PySem.W.mg_of X G (cGlo_a g_l_term)
  obtain ⟨fd_l_term, F_l_term⟩ := fun_at (x := "_law_term") (q := "_law_term") (p := ("_law_term", none)) (st := s_l_term) (c.ck 0 rfl 38 rfl) (c.fn 1 rfl 6 rfl)
  have b_l_term := bd_l_term F_l_term
  have g_l_grown : cGlo "_law_grown" K = true := (c.ck 0 rfl 39 rfl)
  have m_l_grown := PySem.W.mg_of X G (cGlo_a g_l_grown)
  obtain ⟨fd_l_grown, F_l_grown⟩ := fun_at (x := "_law_grown") (q := "_law_grown") (p := ("_law_grown", none)) (st := s_l_grown) (c.ck 0 rfl 40 rfl) (c.fn 1 rfl 7 rfl)
  have b_l_grown := bd_l_grown F_l_grown
  have g_law : cGlo "law" K = true := (c.ck 0 rfl 41 rfl)
  have m_law := PySem.W.mg_of X G (cGlo_a g_law)
  obtain ⟨oc_law, od_law, sl_law, kV_law, dc_law, pm_law, an_law, cd_law, ct_law, l_law, x_law⟩ := (c.fn 1 rfl 8 rfl)
  have F_law := fun_mk (st := s_law) l_law x_law (c.ck 0 rfl 42 rfl)
  have b_law := bd_law F_law
  have hn_x : cHn K = true := (c.ck 0 rfl 43 rfl)
  have g_BookError : cX "BookError" K = true := (c.ck 0 rfl 45 rfl)
  have g_NoText : cX "NoText" K = true := (c.ck 0 rfl 46 rfl)
  have ⟨eo_NoText, ss_NoText⟩ := cXo_ok g_NoText (c.ck 0 rfl 47 rfl) hn_x
  obtain ⟨a_NoText_init, ti_NoText_init, k_NoText_init⟩ := cXi_ok (x := "NoText") (c.ck 0 rfl 48 rfl)
  obtain ⟨fd_NoText_init, F_NoText_init⟩ := fun_at (x := "__init__") (q := "NoText.__init__") (p := ("NoText", some "__init__")) (st := s_NoText_init) k_NoText_init (c.fn 1 rfl 9 rfl)
  have b_NoText_init := bd_NoText_init F_NoText_init
  have g_NoName : cX "NoName" K = true := (c.ck 0 rfl 50 rfl)
  have ⟨eo_NoName, ss_NoName⟩ := cXo_ok g_NoName (c.ck 0 rfl 51 rfl) hn_x
  obtain ⟨a_NoName_init, ti_NoName_init, k_NoName_init⟩ := cXi_ok (x := "NoName") (c.ck 0 rfl 52 rfl)
  obtain ⟨fd_NoName_init, F_NoName_init⟩ := fun_at (x := "__init__") (q := "NoName.__init__") (p := ("NoName", some "__init__")) (st := s_NoName_init) k_NoName_init (c.fn 1 rfl 10 rfl)
  have b_NoName_init := bd_NoName_init F_NoName_init
  have g_NotPlain : cX "NotPlain" K = true := (c.ck 0 rfl 55 rfl)
  have ⟨eo_NotPlain, ss_NotPlain⟩ := cXo_ok g_NotPlain (c.ck 0 rfl 56 rfl) hn_x
  obtain ⟨a_NotPlain_init, ti_NotPlain_init, k_NotPlain_init⟩ := cXi_ok (x := "NotPlain") (c.ck 0 rfl 57 rfl)
  obtain ⟨fd_NotPlain_init, F_NotPlain_init⟩ := fun_at (x := "__init__") (q := "NotPlain.__init__") (p := ("NotPlain", some "__init__")) (st := s_NotPlain_init) k_NotPlain_init (c.fn 1 rfl 11 rfl)
  have b_NotPlain_init := bd_NotPlain_init F_NotPlain_init
  have bc_x := cBase_ok X G g_BookError (c.ck 0 rfl 44 rfl)
  have B_abs := He.free_ok X G (x := "abs") (c.ck 0 rfl 59 rfl)
  have B_bool := He.free_ok X G (x := "bool") (c.ck 1 rfl 0 rfl)
  have B_int := He.free_ok X G (x := "int") (c.ck 1 rfl 1 rfl)
  have B_isinstance := He.free_ok X G (x := "isinstance") (c.ck 1 rfl 2 rfl)
  have B_len := He.free_ok X G (x := "len") (c.ck 1 rfl 3 rfl)
  have B_range := He.free_ok X G (x := "range") (c.ck 1 rfl 4 rfl)
  have B_str := He.free_ok X G (x := "str") (c.ck 1 rfl 5 rfl)
  have B_sum := He.free_ok X G (x := "sum") (c.ck 1 rfl 6 rfl)
  have B_tuple := He.free_ok X G (x := "tuple") (c.ck 1 rfl 7 rfl)
  have B_zip := He.free_ok X G (x := "zip") (c.ck 1 rfl 8 rfl)
  have G_FIGURES := He.str_ok X G (x := "FIGURES") (z := "0123456789") (c.ck 1 rfl 9 rfl)
  have G_LETTERS := He.str_ok X G (x := "LETTERS") (z := "abcdefghijklmnopqrstuvwxyz") (c.ck 1 rfl 10 rfl)
  have G_LONGEST := He.int_ok X G (x := "LONGEST") (i := 10) (c.ck 1 rfl 11 rfl)
  have e := hfa.symm.trans m_law
  cases e
  refine ⟨PySem.W.fnOf "law" "law" (defArgs s_law) (defBody s_law) (defScope s_law) .none kV_law dc_law pm_law an_law cd_law ct_law, fun s v => .of_eq rfl, fun base _ _ => ?_⟩
  have xm_NoText : MkE l.prog w K mg base 1 "NoText" ["place"] (spI1 K "place") := mkE_of (cX_ok g_NoText).1 (PySem.W.mg_of X G (cX_ok g_NoText).1) (cX_ok g_NoText).2 a_NoText_init ti_NoText_init (List.forall_mem_cons.2 ⟨He.noat_ok (c.ck 0 rfl 49 rfl), (fun _ h => nomatch h)⟩) (ok_NoText_init F_NoText_init bc_x) b_NoText_init
  have xm_NoName : MkE l.prog w K mg base 1 "NoName" ["name", "place"] (spI2 K "name" "place") := mkE_of (cX_ok g_NoName).1 (PySem.W.mg_of X G (cX_ok g_NoName).1) (cX_ok g_NoName).2 a_NoName_init ti_NoName_init (List.forall_mem_cons.2 ⟨He.noat_ok (c.ck 0 rfl 54 rfl), (List.forall_mem_cons.2 ⟨He.noat_ok (c.ck 0 rfl 53 rfl), (fun _ h => nomatch h)⟩)⟩) (ok_NoName_init F_NoName_init bc_x) b_NoName_init
  have xm_NotPlain : MkE l.prog w K mg base 1 "NotPlain" ["place"] (spI1 K "place") := mkE_of (cX_ok g_NotPlain).1 (PySem.W.mg_of X G (cX_ok g_NotPlain).1) (cX_ok g_NotPlain).2 a_NotPlain_init ti_NotPlain_init (List.forall_mem_cons.2 ⟨He.noat_ok (c.ck 0 rfl 58 rfl), (fun _ h => nomatch h)⟩) (ok_NotPlain_init F_NotPlain_init bc_x) b_NotPlain_init
  have c_scaled : Callee l.prog w K mg base 1 "scaled" [.fz, .fz] .fz f_scaled := ok_scaled F_scaled m_scaled b_scaled B_tuple
  have c_added : Callee l.prog w K mg base 1 "added" [.fz, .fz] .fz f_added := ok_added F_added m_added b_added B_tuple B_zip
  have c_is_number : Callee l.prog w K mg base 1 "is_number" [.fz] .fz f_is_number := ok_is_number F_is_number m_is_number b_is_number 
  have c_multiplied : CalX l.prog w K mg base 3 "multiplied" [false, false, false] f_multiplied := ok_multiplied F_multiplied m_multiplied b_multiplied c_is_number c_scaled xm_NotPlain
  have r_c_form_of : ∀ n, CalX l.prog w K mg base (4 * n) "form_of" [false, false] (r_form_of n) := fun n => by
    induction n with
    | zero => exact calX_of m_form_of F_form_of.kp b_form_of
    | succ n c_form_of =>
      exact ok_form_of F_form_of m_form_of b_form_of c_added c_scaled c_form_of c_multiplied B_int B_len B_tuple
  have c_form_of : CalX l.prog w K mg base 216 "form_of" [false, false] f_form_of := r_c_form_of 54
  have c_Reader_init : MakM l.prog w K mg base 1 "Reader" 1 f_Reader_init := ok_Reader_init F_Reader_init b_Reader_init (cGlo_a g_Reader) (PySem.W.mg_of X G (cGlo_a g_Reader)) (He.mkr_ok (x := "Reader") (c.ck 1 rfl 12 rfl)) hc_Reader nB_Reader_at nB_Reader_names nB_Reader_text
  have c_Reader_ahead : MetM l.prog w K mg base 1 "Reader" "ahead" 0 f_Reader_ahead := ok_Reader_ahead F_Reader_ahead b_Reader_ahead (cGlo_a g_Reader) (cls_cl j_Reader) (He.meth_ok g_Reader_ahead) hc_Reader nB_Reader_at nB_Reader_text
  have c_Reader_run_of : MetM l.prog w K mg base 1 "Reader" "run_of" 2 f_Reader_run_of := ok_Reader_run_of F_Reader_run_of b_Reader_run_of (cGlo_a g_Reader) (cls_cl j_Reader) (He.meth_ok g_Reader_run_of) hc_Reader nB_Reader_at nB_Reader_text B_len
  have r_c_Reader_whole : ∀ n, MetMX l.prog w K mg base (12 * n) "Reader" "whole" 0 (r_Reader_whole n) := fun n => by
    induction n with
    | zero => exact metMX_of (cGlo_a g_Reader) (cls_cl j_Reader) (He.meth_ok g_Reader_whole) b_Reader_whole
    | succ n c_Reader_whole =>
      have c_Reader_factor := ok_Reader_factor F_Reader_factor b_Reader_factor (cGlo_a g_Reader) (cls_cl j_Reader) (He.meth_ok g_Reader_factor) c_Reader_ahead c_Reader_whole c_Reader_run_of hc_Reader nB_Reader_at nB_Reader_names nB_Reader_text xm_NoText B_int B_len G_FIGURES G_LETTERS G_LONGEST
      have c_Reader_term := ok_Reader_term F_Reader_term b_Reader_term (cGlo_a g_Reader) (cls_cl j_Reader) (He.meth_ok g_Reader_term) c_Reader_ahead c_Reader_factor hc_Reader nB_Reader_at
      exact ok_Reader_whole F_Reader_whole b_Reader_whole (cGlo_a g_Reader) (cls_cl j_Reader) (He.meth_ok g_Reader_whole) c_Reader_ahead c_Reader_term hc_Reader nB_Reader_at
  have c_Reader_whole : MetMX l.prog w K mg base 216 "Reader" "whole" 0 f_Reader_whole := r_c_Reader_whole 18
  have c_read_sum : CalX l.prog w K mg base 217 "read_sum" [false, false] f_read_sum := ok_read_sum F_read_sum m_read_sum b_read_sum c_form_of c_Reader_ahead c_Reader_whole c_Reader_init hc_Reader nB_Reader_at nB_Reader_names xm_NoName xm_NoText
  have c_shown_sum : Callee l.prog w K mg base 1 "shown_sum" [.fz, .fz] .fz f_shown_sum := ok_shown_sum F_shown_sum m_shown_sum b_shown_sum B_abs B_str B_zip
  have c_value_of : Callee l.prog w K mg base 1 "value_of" [.fz, .fz] .fz f_value_of := ok_value_of F_value_of m_value_of b_value_of B_sum B_zip
  have c_l_at : Callee l.prog w K mg base 1 "_law_at" [.vw, .fz] .fz f_l_at := ok_l_at F_l_at m_l_at b_l_at B_len
  have c_l_mix : Callee l.prog w K mg base 1 "_law_mix" [.fz, .fz] .fz f_l_mix := ok_l_mix F_l_mix m_l_mix b_l_mix B_range
  have c_l_whole : Callee l.prog w K mg base 1 "_law_whole" [.fz] .fz f_l_whole := ok_l_whole F_l_whole m_l_whole b_l_whole B_bool B_int B_isinstance
  have c_l_name : Callee l.prog w K mg base 2 "_law_name" [.fz] .fz f_l_name := ok_l_name F_l_name m_l_name b_l_name c_l_mix B_range
  have c_l_names : Callee l.prog w K mg base 3 "_law_names" [.fz, .fz] .ow f_l_names := ok_l_names F_l_names m_l_names b_l_names c_l_name c_l_mix B_range
  have c_l_term : Callee l.prog w K mg base 1 "_law_term" [.fz, .fz, .fz, .fz] .fz f_l_term := ok_l_term F_l_term m_l_term b_l_term B_len B_str
  have c_l_grown : Callee l.prog w K mg base 2 "_law_grown" [.fz, .fz, .fz, .fz, .fz] .fz f_l_grown := ok_l_grown F_l_grown m_l_grown b_l_grown c_l_term B_str
  have c_law : FnOk l.prog w K mg base CX0 218 _ _ ["_law_script"] (spP K [.vw] .fz f_law) := ok_law F_law c_value_of c_read_sum c_shown_sum c_l_whole c_l_grown c_l_mix c_l_term c_l_at c_l_names B_int B_len B_range B_tuple
  exact c_law.imp (sp_law law_true)
set_option maxHeartbeats 0
abbrev rowK : PySem.W.OpenRow := PySem.W.OpenLaw.row PySem.Challenge.rw_apartbook_k06_whole_sums_at_numbers
theorem run0 (w : World) : HandSHeadRun.RunEq rowK (PySem.W.view rowK.prog [26]) (hookK [pt0]) (obT [pt0]) 20000 nms w := by
  intro os
  kernel_rfl
theorem run1 (w : World) : HandSHeadRun.RunEq rowK (PySem.W.view rowK.prog [26]) (hookK [pt1]) (obT [pt1]) 20000 nms w := by
  intro os
  kernel_rfl
theorem runK (w : World) : HandSHeadRun.RunEq rowK (PySem.W.view rowK.prog [26]) (hookK parts) (obT parts) 20000 nms w := run_add (run0 w) (run1 w)
end DL
open PySem PySem.W PySem.Calls PyProof.Rows
set_option maxRecDepth 100000 in
set_option maxHeartbeats 0 in
theorem PySem.Challenge.cw_apartbook_k06_whole_sums_at_numbers_holds : PySem.Challenge.rw_apartbook_k06_whole_sums_at_numbers.Holds := by
  w_on; o_law
  refine HandSHeadRun.head_any (r := DL.rowK) (q := view DL.rowK.prog [26]) (H := DL.hookK DL.parts) (ob := DL.obT DL.parts) (M := 20000) (loose := DL.nms) (d := HandSHeadRun.topDef DL.rowK.prog 26) (kwd := []) (DL.obT_eq _)
    (by kernel_rfl) (fun s => by kernel_rfl) DL.runK (by kernel_rfl) (by kernel_rfl) (by kernel_rfl) (by rfl) (by first | assumption | decide +kernel) (by decide +kernel) ⟨rfl, rfl, rfl, rfl, rfl, by decide +kernel⟩ ?hw ?hc
  case hw => w_witness2
  case hc =>
    refine L2.walk_ofE (l := PySem.Challenge.rw_apartbook_k06_whole_sums_at_numbers) (n := 63) (k := 218) (x := "_law_script") (CX := L2.CX0) rfl (by decide) (by kernel_rfl) ⟨rfl, by decide, by decide⟩ ?F (fun _ _ _ _ z => z)
    intro w mg fa h Y G hmg0
    obtain ⟨K, KX, c⟩ := Y
    have hmg : mg ("law" : PySem.Str) = some (.ref fa) := by
      have e : (HandSHeadRun.topDef DL.rowK.prog 26).name = ("law" : PySem.Str) := by kernel_rfl
      rw [← e]
      exact hmg0
    obtain ⟨fd, hb, hF⟩ := DL.all_mk (l := PySem.Challenge.rw_apartbook_k06_whole_sums_at_numbers) (w := w) KX G hmg c
    exact ⟨K, fd, DL.spLaw K, KX, hb, fun H a ns hl _ hS => ⟨a, ns, rfl, hS, hl, fun _ => rfl⟩, hF⟩
#print axioms PySem.Challenge.cw_apartbook_k06_whole_sums_at_numbers_holds
